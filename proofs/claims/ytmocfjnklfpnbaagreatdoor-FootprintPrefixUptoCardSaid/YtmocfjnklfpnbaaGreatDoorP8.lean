/- The abstract evaluator, part 8: regions, in whatever order. -/
import Derived.Test.YtmocfjnklfpnbaaGreatDoorP7
set_option linter.all false
namespace Go.Ae
open Go
theorem eqV_sound (v u:Value)(h:eqV v u=true):v=u:=by
 unfold eqV at h;split at h
 ·rw[eq_of_beq h]
 ·simp only[Zh,Zz]at h;rw[h.1,h.2]
 ·rw[(MapKept.bytes_beq _ _).1 h]
 ·rfl
 ·rfl
 ·rfl
 ·rfl
 ·rfl
 ·cases h
mutual
theorem eqvB_sound :∀{x y:AV},eqvB x y=true→x=y
 |
  .sc v,y,h=>by
  cases y<;>simp[eqvB]at h;rw[eqV_sound _ _ h]
 |
  .sl a b c d k,y,h=>by
  cases y<;>simp[eqvB]at h;obtain⟨⟨⟨⟨rfl,rfl⟩,rfl⟩,rfl⟩,rfl⟩:=h;rfl
 |
  .pt a b,y,h=>by
  cases y<;>simp[eqvB]at h;obtain⟨rfl,rfl⟩:=h;rfl
 |
  .mp a,y,h=>by
  cases y<;>simp[eqvB]at h;subst h;rfl
 |
  .ls sz rows z,y,h=>by
  cases y<;>simp[eqvB]at h;obtain⟨⟨rfl,rfl⟩,h3⟩:=h;rw[eqvR_sound h3]
 |
  .rp row j,y,h=>by
  cases y<;>simp[eqvB]at h;obtain⟨rfl,h3⟩:=h;rw[eqvC_sound h3]
 |
  .fn f xs,y,h=>by
  cases y<;>simp[eqvB]at h;obtain⟨rfl,h3⟩:=h;rw[eqvC_sound h3]
 |
  .ag xs,y,h=>by
  cases y<;>simp[eqvB]at h;rw[eqvC_sound h]
 |
  .tp xs,y,h=>by
  cases y<;>simp[eqvB]at h;rw[eqvC_sound h]
 | .ud,y,h=>by cases y<;>simp[eqvB]at h
 | .un,y,h=>by cases y<;>simp[eqvB]at h
 | .pn v,y,h=>by cases y<;>simp[eqvB]at h
theorem eqvC_sound :∀{x y:List AV},eqvC x y=true→x=y
 | [],y,h=>by cases y<;>simp[eqvC]at h;rfl
 |
  x::xs,y,h=>by
  cases y<;>simp[eqvC]at h;rw[eqvB_sound h.1,eqvC_sound h.2]
theorem eqvR_sound :∀{x y:List (List AV)},eqvR x y=true→x=y
 | [],y,h=>by cases y<;>simp[eqvR]at h;rfl
 |
  x::xs,y,h=>by
  cases y<;>simp[eqvR]at h;rw[eqvC_sound h.1,eqvR_sound h.2]
end
theorem eqvR_refl {rows:List (List AV)}(h:∀r∈rows,eqvC r r=true):eqvR rows rows=true:=by
 induction rows with
 |nil=>simp[eqvR]
 |cons r rows ih=>simp[eqvR,h r (by simp),ih fun x hx=>h x (by simp[hx])]
def rok (C:Cx)(ops:Array Oper):Bool:=
 let ms:=masks ops.toList []
 (List.range ops.size).all fun j=>match ops[j]? with
  |none=>true
  |
   some oj=>
   (oj.after.toList.all fun e=> !Region.binds .any e||decide (e.on<j)) &&
   (List.range ops.size).all fun i=>i==j||match ops[i]? with
    |none=>true
    |
     some oi=>
     (match oi.dst with
      |none=>true
      |some d=>oj.dst !=some d && (!(oj.looksAt ops).contains d||ordered ms i j)) &&
     (!(changer C oi && changer C oj)||ordered ms i j)
inductive MB (ops:Array Oper):Nat→Nat→Prop where
 |edge {j:Nat} {o:Oper} {e:Edge}:ops[j]?=some o→e∈o.after→Region.binds .any e=true→MB ops j e.on
 |trans {j i:Nat} {o:Oper} {e:Edge}:ops[j]?=some o→e∈o.after→Region.binds .any e=true→MB ops e.on i→MB ops j i
theorem maskOf_bit (acc:List Nat):∀(es:List Edge) (s i:Nat),(es.foldl (fun s e=>if Region.binds .any e then s|||2^e.on|||acc.getD e.on 0 else s) s).testBit i=true→
 s.testBit i=true∨∃e∈es,Region.binds .any e=true∧(e.on=i∨(acc.getD e.on 0).testBit i=true)
 | [],s,i,h=> .inl h
 |
  e::es,s,i,h=>by
  simp only[List.foldl_cons]at h;rcases maskOf_bit acc es _ i h with h1|⟨e',he,hb,hh⟩
  ·by_cases hbd:Region.binds .any e=true
   ·rw[if_pos hbd]at h1;simp only[Nat.testBit_or,Bool.or_eq_true,Nat.testBit_two_pow,Zz]at h1;rcases h1 with(h1|h1)|h1
    ·exact .inl h1
    ·exact .inr ⟨e,by simp,hbd,.inl h1⟩
    ·exact .inr ⟨e,by simp,hbd,.inr h1⟩
   ·rw[if_neg hbd]at h1;exact .inl h1
  ·exact .inr ⟨e',by simp[he],hb,hh⟩
theorem masks_spec {ops:Array Oper}:∀(rest:List Oper) (acc:List Nat),ops.toList.drop acc.length=rest→(∀j i,(acc.getD j 0).testBit i=true→MB ops j i)→∀j i,((masks rest acc).getD j 0).testBit i=true→MB ops j i
 | [],acc,_,hacc,j,i,h=>hacc j i h
 |
  o::rest,acc,hd,hacc,j,i,h=>by
  refine masks_spec rest (acc++[maskOf acc o]) ?_ ?_ j i h
  ·rw[Zu,List.length_singleton,←List.drop_drop,hd];rfl
  ·intro j i h;have ho:ops[acc.length]?=some o:=by
    have:(ops.toList.drop acc.length)[0]?=some o:=by rw[hd];rfl
    rw[List.getElem?_drop]at this;simpa using this
   by_cases hj:j<acc.length
   ·rw[List.getD,Zd hj]at h;exact hacc j i h
   ·by_cases hj':j=acc.length
    ·subst hj';rw[List.getD,Zf (Nat.le_refl _)]at h;simp only[Nat.sub_self,List.getElem?_cons_zero,Option.getD_some]at h;rcases maskOf_bit acc _ 0 i h with h1|⟨e,he,hb,hh⟩
     ·simp at h1
     ·rcases hh with rfl|hh
      ·exact .edge ho (by simpa using he) hb
      ·exact .trans ho (by simpa using he) hb (hacc _ i hh)
    ·rw[List.getD,List.getElem?_eq_none (by simp;omega)]at h;simp at h
theorem ordered_MB {ops:Array Oper}{i j:Nat}(hne:i≠j)(h:ordered (masks ops.toList []) i j=true):(i<j∧MB ops j i)∨(j<i∧MB ops i j):=by
 have hs:=masks_spec (ops:=ops) ops.toList [] (by simp) (fun j i h=>by simp at h);unfold ordered at h;split at h
 ·rename_i hlt;exact .inl ⟨hlt,hs j i h⟩
 ·exact .inr ⟨by omega,hs i j h⟩
structure Rok (C:Cx)(ops:Array Oper):Prop where
 back:∀(j:Nat) (o:Oper),ops[j]?=some o→∀e∈o.after,Region.binds .any e=true→e.on<j
 dst:∀(i j:Nat) (oi oj:Oper) (d:Tmp),i≠j→ops[i]?=some oi→ops[j]?=some oj→oi.dst=some d→oj.dst≠some d
 look:∀(i j:Nat) (oi oj:Oper) (d:Tmp),i≠j→ops[i]?=some oi→ops[j]?=some oj→oi.dst=some d→d∈oj.looksAt ops→(i<j∧MB ops j i)∨(j<i∧MB ops i j)
 heap:∀(i j:Nat) (oi oj:Oper),i≠j→ops[i]?=some oi→ops[j]?=some oj→changer C oi=true→changer C oj=true→(i<j∧MB ops j i)∨(j<i∧MB ops i j)
theorem rok_spec {C:Cx}{ops:Array Oper}(h:rok C ops=true):Rok C ops:=by
 simp only[rok,List.all_eq_true,List.mem_range]at h;have key:∀j oj,ops[j]?=some oj→(∀e∈oj.after,Region.binds .any e=true→e.on<j)∧∀i oi,i≠j→ops[i]?=some oi→
  (∀d,oi.dst=some d→oj.dst≠some d∧(d∈oj.looksAt ops→ordered (masks ops.toList []) i j=true))∧(changer C oi=true→changer C oj=true→ordered (masks ops.toList []) i j=true):=by
  intro j oj hj;have hjl:j<ops.size:=(Array.getElem?_eq_some_iff.1 hj).1;have h1:=h j hjl;simp only[hj,Zh,List.all_eq_true,List.mem_range]at h1;refine⟨fun e he hb=>?_,fun i oi hne hi=>?_⟩
  ·have:=h1.1 e (by simpa using he);simpa[hb]using this
  ·have hil:i<ops.size:=(Array.getElem?_eq_some_iff.1 hi).1;have h2:=h1.2 i hil;simp only[hi,Bool.or_eq_true,beq_iff_eq,hne,false_or,Zh]at h2;refine⟨fun d hd=>?_,fun hc ht=>?_⟩
   ·have h3:=h2.1;simp only[hd,Zh,bne_iff_ne,ne_eq,Bool.or_eq_true,Bool.not_eq_true',List.contains_eq_mem,decide_eq_false_iff_not]at h3;exact⟨h3.1,fun hm=>h3.2.resolve_left (fun hn=>hn hm)⟩
   ·have h3:=h2.2;simpa[hc,ht]using h3
 exact⟨fun j o hj=>(key j o hj).1,fun i j oi oj d hne hi hj hd=>(((key j oj hj).2 i oi hne hi).1 d hd).1,
  fun i j oi oj d hne hi hj hd hm=>ordered_MB hne ((((key j oj hj).2 i oi hne hi).1 d hd).2 hm),fun i j oi oj hne hi hj hc ht=>ordered_MB hne (((key j oj hj).2 i oi hne hi).2 hc ht)⟩
theorem mvA_congr {C:Cx}{e e':Operand→AV}{h:Hp}{t:TypeId}{m:Nat}:∀{ps:List (Nat × Operand)},(∀p∈ps,e p.2=e' p.2)→mvA C e h t m ps=mvA C e' h t m ps
 | [],_=>rfl
 |
  [(0,.tmp q)],he=>by
  have h0:e (.tmp q)=e' (.tmp q):=he (0,.tmp q) (by simp);unfold mvA;simp only[h0]
 | [(0,.const q)],_=>rfl
 | [(0,.global q)],_=>rfl
 | [(0,.func q)],_=>rfl
 | [(_+1,x)],_=>rfl
 |(0,.tmp _)::_::_,_=>rfl
 |(0,.const _)::_::_,_=>rfl
 |(0,.global _)::_::_,_=>rfl
 |(0,.func _)::_::_,_=>rfl
 |(_+1,_)::_::_,_=>rfl
theorem mvB_congr {C:Cx}{e e':Operand→AV}{h:Hp}{t:TypeId}{n:Nat}{ps:List (Nat × Operand)}(he:∀p∈ps,e p.2=e' p.2):mvB C e h t n ps=mvB C e' h t n ps:=by
 unfold mvB;simp only[mvA_congr he]
theorem aopW_congr {C:Cx}{call:Cal}{fr fr':List AV}{h:Hp}{o:Oper}(he:∀x∈o.op.operands,ev C fr x=ev C fr' x):aopW C call (ev C fr) h o=aopW C call (ev C fr') h o:=by
 have hfast:fastOp C (ev C fr) o=fastOp C (ev C fr') o:=by
  unfold fastOp;cases hop:o.op<;>simp only[hop,Op.operands]at he⊢
  case binOp op t x y t'=>rw[he x (by simp),he y (by simp)]
  case unOp op t x=>cases op<;>simp only<;>rw[he x (by simp)]
  case convert src dst x=>rw[he x (by simp)]
  case index t x i=>rw[he x (by simp),he i (by simp)]
  case call c=>
   obtain⟨callee,args,tys⟩:=c;have hargs:∀x∈args.toList,ev C fr x=ev C fr' x:=fun x hx=>he x (by simp[Call.operands];exact .inr (by simpa using hx))
   cases callee with
   |value f=>rfl
   |invoke r m=>rfl
   |
    builtin b=>
    cases b<;>simp only
    all_goals
     split
     ·first
       |(rename_i hl ht;rw[hargs _ (by rw[hl];simp)])
       |(rename_i hl;rw[hargs _ (by rw[hl];simp),hargs _ (by rw[hl];simp)])
     ·rfl
 have hslow:slowOp C (ev C fr) o=slowOp C (ev C fr') o:=by
  unfold slowOp;have h1:(o.op.operands.toList.all fun x=>isDet (ev C fr x))=(o.op.operands.toList.all fun x=>isDet (ev C fr' x)):=by
   rw[Bool.eq_iff_iff,List.all_eq_true,List.all_eq_true];exact⟨fun hh x hx=>by rw[←he x (by simpa using hx)];exact hh x hx,fun hh x hx=>by rw[he x (by simpa using hx)];exact hh x hx⟩
  rw[h1];split
  ·rename_i hc;have hns:∀cs b,o.op≠ .select cs b:=fun cs b hsel=>by simp[hsel,isSelect]at hc
   rw[execOp_congr (ρ:=fun x=>detOf (ev C fr x)) (ρ':=fun x=>detOf (ev C fr' x)) o hns (fun x hx=>by simp only[he x hx])]
  ·rfl
 have hscal:scalarOp C (ev C fr) o=scalarOp C (ev C fr') o:=by
  unfold scalarOp;rw[hfast,hslow]
 have hmap:∀xs:List Operand,(∀x∈xs,x∈o.op.operands)→xs.map (ev C fr)=xs.map (ev C fr'):=fun xs hx=>List.map_congr_left fun x hm=>he x (hx x hm)
 have hpair:∀ps:List (Nat × Operand),(∀p∈ps,p.2∈o.op.operands)→(ps.map fun p=>(p.1,ev C fr p.2))=ps.map fun p=>(p.1,ev C fr' p.2):=fun ps hp=>List.map_congr_left fun p hm=>by rw[he p.2 (hp p hm)]
 unfold aopW;cases hop:o.op<;>simp only[hop,Op.operands]at he hmap hpair<;>simp only[hscal]
 case move x=>rw[he x (by simp)]
 case assign x=>rw[he x (by simp)]
 case pick c x y=>rw[he c (by simp),he x (by simp),he y (by simp)]
 case box t x=>rw[he x (by simp)]
 case build t ps=>rw[hpair ps.toList (fun p hp=>by simp;exact⟨p.1,by simpa using hp⟩)]
 case buildSlice t n ps=>rw[hpair ps.toList (fun p hp=>by simp;exact⟨p.1,by simpa using hp⟩),mvB_congr fun p hp=>he p.2 (by simp;exact⟨p.1,by simpa using hp⟩)]
 case load t x=>rw[he x (by simp)]
 case store t x y=>rw[he x (by simp),he y (by simp)]
 case nilCheck x=>rw[he x (by simp)]
 case fieldAddr t x f=>rw[he x (by simp)]
 case indexAddr t x i=>rw[he x (by simp),he i (by simp)]
 case field t x f=>rw[he x (by simp)]
 case index t x i=>rw[he x (by simp),he i (by simp)]
 case extract x i=>rw[he x (by simp)]
 case makeFunc f first caps=>
  cases f<;>simp only[hscal];rw[hmap caps.toList (fun x hx=>by simp;exact .inr (by simpa using hx))]
 case makeSlice t l c=>rw[he l (by simp),he c (by simp)]
 case binOp op t x y t'=>rw[he x (by simp)]
 case convert src dst x=>rw[he x (by simp)]
 case makeMap t r=>cases r<;>rfl
 case mapUpdate t m k x=>rw[he m (by simp),he k (by simp),he x (by simp)]
 case lookup t m k ok=>rw[he m (by simp),he k (by simp)]
 case panic x=>rw[he x (by simp)]
 case range t x=>rw[he x (by simp)]
 case next x b=>cases b<;>simp only[hscal]<;>rw[he x (by simp)]
 case slice t x lo hi mx=>
  rw[he x (by simp)];have h1:lo.map (ev C fr)=lo.map (ev C fr'):=by cases lo<;>simp_all
  have h2:hi.map (ev C fr)=hi.map (ev C fr'):=by cases hi<;>simp_all
  have h3:mx.map (ev C fr)=mx.map (ev C fr'):=by cases mx<;>simp_all
  rw[h1,h2,h3]
 case call c=>
  obtain⟨callee,args,tys⟩:=c;have hargs:∀x∈args.toList,ev C fr x=ev C fr' x:=fun x hx=>he x (by simp[Call.operands];exact .inr (by simpa using hx))
  cases callee with
  |
   value f=>
   simp only;rw[he f (by simp[Call.operands]),List.map_congr_left hargs]
  |invoke r m=>rfl
  |
   builtin b=>
   cases b<;>simp only[hscal]
   all_goals
    split
    ·rename_i hl ht
     first
      |(rw[hargs _ (by rw[hl];simp),hargs _ (by rw[hl];simp)])
      |(rw[hargs _ (by rw[hl];simp)])
    ·rfl
theorem aopW_same {C:Cx}{call:Cal}(hk:∀g xs h r h',C.inl g=false→call g xs h=some (r,h')→h'=h){fr:List AV}{h h':Hp}{o:Oper}{r:AV}
 (hc:changerW C o=false) (ho:aopW C call (ev C fr) h o=some (r,h')):h'=h:=by
 unfold aopW at ho;unfold changerW at hc;cases hop:o.op<;>simp only[hop]at ho hc
 all_goals try contradiction
 all_goals try(simp only[Ze,Zc,Zg]at ho)
 all_goals try(obtain⟨_,_,_,rfl⟩:=ho;rfl)
 all_goals try(exact ho.2.symm)
 case pick=>split at ho<;>(first|(cases ho;done)|(simp only[Ze,Zc,Zg]at ho;first|(obtain⟨_,_,_,hh⟩:=ho;exact hh.symm)|exact ho.2.symm))
 case build=>split at ho<;>(first|(cases ho;done)|(simp only[Ze,Zc,Zg]at ho;first|(obtain⟨_,_,_,hh⟩:=ho;exact hh.symm)|exact ho.2.symm))
 case load=>(repeat' split at ho)<;>(first|(cases ho;done)|(simp only[Ze,Zc,Zg]at ho;first|(obtain⟨_,_,_,hh⟩:=ho;exact hh.symm)|exact ho.2.symm))
 case nilCheck=>split at ho<;>(first|(cases ho;done)|(simp only[Ze,Zc,Zg]at ho;first|(obtain⟨_,_,_,hh⟩:=ho;exact hh.symm)|exact ho.2.symm))
 case fieldAddr=>(repeat' split at ho)<;>(first|(cases ho;done)|(simp only[Ze,Zc,Zg]at ho;first|(obtain⟨_,_,_,hh⟩:=ho;exact hh.symm)|exact ho.2.symm))
 case indexAddr=>(repeat' split at ho)<;>(first|(cases ho;done)|(simp only[Ze,Zc,Zg]at ho;first|(obtain⟨_,_,_,hh⟩:=ho;exact hh.symm)|exact ho.2.symm))
 case field=>(repeat' split at ho)<;>(first|(cases ho;done)|(simp only[Ze,Zc,Zg]at ho;first|(obtain⟨_,_,_,hh⟩:=ho;exact hh.symm)|exact ho.2.symm))
 case index=>(repeat' split at ho)<;>(first|(cases ho;done)|(simp only[Ze,Zc,Zg]at ho;first|(obtain⟨_,_,_,hh⟩:=ho;exact hh.symm)|exact ho.2.symm))
 case lookup=>(repeat' split at ho)<;>(first|(cases ho;done)|(simp only[Ze,Zc,Zg]at ho;first|(obtain⟨_,_,_,hh⟩:=ho;exact hh.symm)|exact ho.2.symm))
 case extract=>split at ho<;>(first|(cases ho;done)|(simp only[Ze,Zc,Zg]at ho;first|(obtain⟨_,_,_,hh⟩:=ho;exact hh.symm)|exact ho.2.symm))
 case slice=>(repeat' split at ho)<;>(first|(cases ho;done)|(simp only[Ze,Zc,Zg]at ho;first|(obtain⟨_,_,_,hh⟩:=ho;exact hh.symm)|exact ho.2.symm))
 case binOp=>(repeat' split at ho)<;>(first|(cases ho;done)|(simp only[Ze,Zc,Zg]at ho;first|(obtain⟨_,_,_,hh⟩:=ho;exact hh.symm)|exact ho.2.symm))
 case convert=>
  simp only[hc,Yl,if_false]at ho
  (repeat' split at ho)<;>(first|(cases ho;done)|(simp only[Ze,Zc,Zg]at ho;first|(obtain⟨_,_,_,hh⟩:=ho;exact hh.symm)|exact ho.2.symm))
 case makeFunc f first caps=>cases f<;>simp only at ho hc<;>first|contradiction|(split at ho<;>(first|(cases ho;done)|(simp only[Ze,Zc,Zg]at ho;first|(obtain⟨_,_,_,hh⟩:=ho;exact hh.symm)|exact ho.2.symm)))
 case call c=>
  obtain⟨callee,args,tys⟩:=c;cases callee with
  |
   value f=>
   cases f<;>simp only at hc ho<;>first|contradiction|skip
   rename_i g;simp only[ev]at ho;split at ho
   ·simp only[Ze,Zg]at ho;obtain⟨_,_,_,hh⟩:=ho;exact hh.symm
   ·exact hk _ _ _ _ _ hc ho
  |invoke r m=>contradiction
  |
   builtin b=>
   cases b<;>simp only at hc ho<;>first|contradiction|skip
   all_goals first
    |(simp only[Ze,Zg]at ho;obtain⟨_,_,_,rfl⟩:=ho;rfl)
    |((repeat' split at ho)<;>(first|(cases ho;done)|(simp only[Ze,Zc,Zg]at ho;first|(obtain⟨_,_,_,hh⟩:=ho;exact hh.symm)|exact ho.2.symm)))
theorem aopW_free {C:Cx}{call:Cal}{fr:List AV}{h h':Hp}{o:Oper}{r:AV}(hc:toucherW C o=false)(ho:aopW C call (ev C fr) h o=some (r,h'))(h2:Hp):aopW C call (ev C fr) h2 o=some (r,h2):=by
 unfold aopW at ho⊢;unfold toucherW at hc;cases hop:o.op<;>simp only[hop]at ho hc⊢
 all_goals try contradiction
 all_goals try(simp only[Ze,Zc,Zg]at ho⊢)
 all_goals try(obtain⟨y,hy,hr,_⟩:=ho;exact⟨y,hy,hr,trivial⟩)
 all_goals try(exact⟨ho.1,trivial⟩)
 case pick=>split at ho<;>simp_all<;>(first|(obtain⟨y,hy,hr,_⟩:=ho;exact⟨y,hy,hr⟩)|(obtain⟨y,hy,hr,_⟩:=ho;subst hr;exact hy))
 case build=>split at ho<;>simp_all<;>(first|(obtain⟨y,hy,hr,_⟩:=ho;exact⟨y,hy,hr⟩)|(obtain⟨y,hy,hr,_⟩:=ho;subst hr;exact hy))
 case nilCheck=>split at ho<;>simp_all<;>(first|(obtain⟨y,hy,hr,_⟩:=ho;exact⟨y,hy,hr⟩)|(obtain⟨y,hy,hr,_⟩:=ho;subst hr;exact hy))
 case fieldAddr=>(repeat' split at ho)<;>simp_all<;>(first|(obtain⟨y,hy,hr,_⟩:=ho;exact⟨y,hy,hr⟩)|(obtain⟨y,hy,hr,_⟩:=ho;subst hr;exact hy))
 case indexAddr=>(repeat' split at ho)<;>simp_all<;>(first|(obtain⟨y,hy,hr,_⟩:=ho;exact⟨y,hy,hr⟩)|(obtain⟨y,hy,hr,_⟩:=ho;subst hr;exact hy))
 case field=>(repeat' split at ho)<;>simp_all<;>(first|(obtain⟨y,hy,hr,_⟩:=ho;exact⟨y,hy,hr⟩)|(obtain⟨y,hy,hr,_⟩:=ho;subst hr;exact hy))
 case index=>(repeat' split at ho)<;>simp_all<;>(first|(obtain⟨y,hy,hr,_⟩:=ho;exact⟨y,hy,hr⟩)|(obtain⟨y,hy,hr,_⟩:=ho;subst hr;exact hy))
 case extract=>split at ho<;>simp_all<;>(first|(obtain⟨y,hy,hr,_⟩:=ho;exact⟨y,hy,hr⟩)|(obtain⟨y,hy,hr,_⟩:=ho;subst hr;exact hy))
 case slice=>(repeat' split at ho)<;>simp_all<;>(first|(obtain⟨y,hy,hr,_⟩:=ho;exact⟨y,hy,hr⟩)|(obtain⟨y,hy,hr,_⟩:=ho;subst hr;exact hy))
 case binOp op t x y t'=>
  split at ho
  ·rename_i hb;rw[if_pos hb];split at ho<;>simp_all
  ·rename_i hb;rw[if_neg hb];simp only[Ze,Zg]at ho⊢;obtain⟨y,hy,hr,_⟩:=ho;exact⟨y,hy,hr,trivial⟩
 case convert=>
  simp only[Bool.or_eq_false_iff]at hc;simp only[hc.1,hc.2,Yl,if_false]at ho⊢
  (repeat' split at ho)<;>(first|(cases ho;done)|(simp only[Ze,Zg]at ho⊢;obtain⟨y,hy,hr,_⟩:=ho;exact⟨y,hy,hr,trivial⟩))
 case makeFunc f first caps=>cases f<;>simp only at ho hc⊢ <;>first|contradiction|(split at ho<;>simp_all<;>(first|(obtain⟨y,hy,hr,_⟩:=ho;exact⟨y,hy,hr⟩)|(obtain⟨y,hy,hr,_⟩:=ho;subst hr;exact hy)))
 case call c=>
  obtain⟨callee,args,tys⟩:=c;cases callee with
  |value f=>contradiction
  |invoke r m=>contradiction
  |
   builtin b=>
   cases b<;>simp only at hc ho⊢ <;>first|contradiction|skip
   all_goals first
    |(simp only[Ze,Zg]at ho⊢;obtain⟨y,hy,hr,_⟩:=ho;exact⟨y,hy,hr,trivial⟩)
    |((repeat' split at ho)<;>simp_all<;>(first|(obtain⟨y,hy,hr,_⟩:=ho;exact⟨y,hy,hr⟩)|(obtain⟨y,hy,hr,_⟩:=ho;subst hr;exact hy)))
theorem coldA_congr {C:Cx}{fr fr':List AV}{h:Hp}{o:Oper}(he:∀x∈o.op.operands,ev C fr x=ev C fr' x):coldA C (ev C fr) h o=coldA C (ev C fr') h o:=by
 have hpair:∀ps:List (Nat × Operand),(∀p∈ps,p.2∈o.op.operands)→(ps.map fun p=>(p.1,ev C fr p.2))=ps.map fun p=>(p.1,ev C fr' p.2):=fun ps hp=>List.map_congr_left fun p hm=>by rw[he p.2 (hp p hm)]
 unfold coldA;cases hop:o.op<;>simp only[hop,Op.operands]at he hpair⊢
 case buildSlice t n ps=>rw[hpair ps.toList (fun p hp=>by simp;exact⟨p.1,by simpa using hp⟩)]
 case makeSlice t l c=>rw[he l (by simp),he c (by simp)]
 case slice t x lo hi mx=>
  have h0:ev C fr x=ev C fr' x:=he x (by simp);have h1:lo.map (ev C fr)=lo.map (ev C fr'):=by cases lo<;>simp_all
  have h2:hi.map (ev C fr)=hi.map (ev C fr'):=by cases hi<;>simp_all
  cases mx with
  |some m=>rfl
  |
   none=>
   simp only;rw[h0,h1,h2]
 case call c=>
  obtain⟨callee,args,tys⟩:=c;have hargs:∀x∈args.toList,ev C fr x=ev C fr' x:=fun x hx=>he x (by simp[Call.operands];exact .inr (by simpa using hx))
  cases callee with
  |value f=>rfl
  |invoke r m=>rfl
  |
   builtin b=>
   cases b<;>simp only;split
   ·rename_i hl ht;rw[hargs _ (by rw[hl];simp),hargs _ (by rw[hl];simp)]
   ·rfl
theorem coldA_same {C:Cx}{fr:List AV}{h h':Hp}{o:Oper}{r:AV}(ho:coldA C (ev C fr) h o=some (r,h')):h'=h:=by
 unfold coldA at ho
 (repeat' split at ho)<;>(first|(cases ho;done)|(simp only[Zc,Zg]at ho;exact ho.2.symm))
theorem aop_congr {C:Cx}{call:Cal}{fr fr':List AV}{h:Hp}{o:Oper}(he:∀x∈o.op.operands,ev C fr x=ev C fr' x):aop C call (ev C fr) h o=aop C call (ev C fr') h o:=by
 unfold aop;rw[coldA_congr he,aopW_congr he]
theorem aop_same {C:Cx}{call:Cal}(hk:∀g xs h r h',C.inl g=false→call g xs h=some (r,h')→h'=h){fr:List AV}{h h':Hp}{o:Oper}{r:AV}
 (hc:changer C o=false) (ho:aop C call (ev C fr) h o=some (r,h')):h'=h:=by
 unfold aop at ho;unfold changer at hc;split at ho
 ·exact coldA_same ho
 ·rename_i hcold;have hcold':C.cold o=false:=by simpa using hcold
  rw[hcold']at hc;exact aopW_same hk hc ho
theorem aop_free {C:Cx}{call:Cal}{fr:List AV}{h h':Hp}{o:Oper}{r:AV}(hc:toucher C o=false)(ho:aop C call (ev C fr) h o=some (r,h'))(h2:Hp):aop C call (ev C fr) h2 o=some (r,h2):=by
 unfold toucher at hc;rw[Bool.or_eq_false_iff]at hc;unfold aop at ho⊢;simp only[hc.1,Yl,if_false]at ho⊢;exact aopW_free hc.2 ho h2
end Go.Ae
