/- Part of the proof. -/
import Derived.Test.YtmocfjnklfpnbaaGreatDoorP4
set_option linter.all false
namespace Go.Ae
open Go
def OM(v u:Value)(h:eqV v u=true):v=u:=by
 unfold eqV at h;split at h
 .rw[eq_of_beq h]
 .simp only[Zh,Zy]at h;rw[h.1,h.2]
 .rw[(MapKept.bytes_beq _ _).1 h]
 .rfl
 .rfl
 .rfl
 .rfl
 .rfl
 .cases h
mutual
def BA :∀{x y:AV},tE x y=true->x=y
 |
  .sc v,y,h=>by
  cases y<;>simp[tE]at h;rw[OM _ _ h]
 |
  .sl a b c d k,y,h=>by
  cases y<;>simp[tE]at h;obtain⟨⟨⟨⟨rfl,rfl⟩,rfl⟩,rfl⟩,rfl⟩:=h;rfl
 |
  .pt a b,y,h=>by
  cases y<;>simp[tE]at h;obtain⟨rfl,rfl⟩:=h;rfl
 |
  .mp a,y,h=>by
  cases y<;>simp[tE]at h;subst h;rfl
 |
  .ls sz cq z,y,h=>by
  cases y<;>simp[tE]at h;obtain⟨⟨rfl,rfl⟩,h3⟩:=h;rw[BB h3]
 |
  .rp row j,y,h=>by
  cases y<;>simp[tE]at h;obtain⟨rfl,h3⟩:=h;rw[lk h3]
 |
  .fn f xs,y,h=>by
  cases y<;>simp[tE]at h;obtain⟨rfl,h3⟩:=h;rw[lk h3]
 |
  .ag xs,y,h=>by
  cases y<;>simp[tE]at h;rw[lk h]
 |
  .tp xs,y,h=>by
  cases y<;>simp[tE]at h;rw[lk h]
 | .ud,y,h=>by cases y<;>simp[tE]at h
 | .un,y,h=>by cases y<;>simp[tE]at h
 | .pn v,y,h=>by cases y<;>simp[tE]at h
def lk :∀{x y:List AV},B5 x y=true->x=y
 | [],y,h=>by cases y<;>simp[B5]at h;rfl
 |
  x::xs,y,h=>by
  cases y<;>simp[B5]at h;rw[BA h.1,lk h.2]
def BB :∀{x y:List (List AV)},Qa x y=true->x=y
 | [],y,h=>by cases y<;>simp[Qa]at h;rfl
 |
  x::xs,y,h=>by
  cases y<;>simp[Qa]at h;rw[lk h.1,BB h.2]
end
def J1(C:Cx)(ops:Array Oper):Bool:=
 let ms:=kN ops.toList []
 (List.range ops.size).all λj=>match ops[j]? with
  |none=>true
  |some oj=>
   (oj.after.toList.all λe=> !Region.binds .any e||decide (e.on<j)) &&
   (List.range ops.size).all λi=>i==j||match ops[i]? with
    |none=>true
    |some oi=>
     (match oi.dst with
      |none=>true
      |some d=>oj.dst !=some d && (!(oj.looksAt ops).contains d||ordered ms i j)) &&
     (!(dz C oi && dz C oj)||ordered ms i j)
inductive MB (ops:Array Oper):Nat->Nat->Prop where
 |edge {j:Nat} {o:Oper} {e:Edge}:ops[j]?=some o->e∈o.after->Region.binds .any e=true->MB ops j e.on
 |trans {j i:Nat} {o:Oper} {e:Edge}:ops[j]?=some o->e∈o.after->Region.binds .any e=true->MB ops e.on i->MB ops j i
def BC(acc:List Nat):∀(es:List Edge)(s i:Nat),(es.foldl (λs e=>if Region.binds .any e then s|||2^e.on|||acc.getD e.on 0 else s) s).testBit i=true->
 s.testBit i=true\/∃e∈es,Region.binds .any e=true/\(e.on=i\/(acc.getD e.on 0).testBit i=true)
 | [],s,i,h=> .inl h
 |
  e::es,s,i,h=>by
  simp only[Yi]at h;rcases BC acc es _ i h with h1|⟨e',he,hb,hh⟩
  .by_cases Tr:Region.binds .any e=true
   .rw[cw Tr]at h1;simp only[Nat.testBit_or,Yx,Nat.testBit_two_pow,Zy]at h1;rcases h1 with(h1|h1)|h1
    .exact .inl h1
    .exact .inr ⟨e,by simp,Tr,.inl h1⟩
    .exact .inr ⟨e,by simp,Tr,.inr h1⟩
   .rw[cv Tr]at h1;exact .inl h1
  .exact .inr ⟨e',by simp[he],hb,hh⟩
def qS{ops:Array Oper}:∀(rest:List Oper)(acc:List Nat),ops.toList.drop acc.length=rest->(∀j i,(acc.getD j 0).testBit i=true->MB ops j i)->∀j i,((kN rest acc).getD j 0).testBit i=true->MB ops j i
 | [],acc,_,YL,j,i,h=>YL j i h
 |
  o::rest,acc,hd,YL,j,i,h=>by
  refine qS rest (acc++[P_ acc o]) ?_ ?_ j i h
  .rw[Zu,List.length_singleton,<-List.drop_drop,hd];rfl
  .intro j i h;have ho:ops[acc.length]?=some o:=by
    have:(ops.toList.drop acc.length)[0]?=some o:=by rw[hd];rfl
    rw[Xj]at this;simpa using this
   by_cases hj:j<acc.length
   .rw[List.getD,Zd hj]at h;exact YL j i h
   .by_cases T_:j=acc.length
    .subst T_;rw[List.getD,Zf (Yq _)]at h;simp only[Nat.sub_self,List.getElem?_cons_zero,Xg]at h;rcases BC acc _ 0 i h with h1|⟨e,he,hb,hh⟩
     .simp at h1
     .rcases hh with rfl|hh
      .exact .edge ho (by simpa using he) hb
      .exact .trans ho (by simpa using he) hb (YL _ i hh)
    .rw[List.getD,Xc (by simp;omega)]at h;simp at h
def BD{ops:Array Oper}{i j:Nat}(gE:i≠j)(h:ordered (kN ops.toList []) i j=true):(i<j/\MB ops j i)\/(j<i/\MB ops i j):=by
 have hs:=qS (ops:=ops) ops.toList [] (by simp) (λj i h=>by simp at h);unfold ordered at h;split at h
 .rename_i du;exact .inl ⟨du,hs j i h⟩
 .exact .inr ⟨by omega,hs i j h⟩
structure Rok (C:Cx)(ops:Array Oper):Prop where
 back:∀(j:Nat)(o:Oper),ops[j]?=some o->∀e∈o.after,Region.binds .any e=true->e.on<j
 dst:∀(i j:Nat)(oi oj:Oper)(d:Tmp),i≠j->ops[i]?=some oi->ops[j]?=some oj->oi.dst=some d->oj.dst≠some d
 look:∀(i j:Nat)(oi oj:Oper)(d:Tmp),i≠j->ops[i]?=some oi->ops[j]?=some oj->oi.dst=some d->d∈oj.looksAt ops->(i<j/\MB ops j i)\/(j<i/\MB ops i j)
 heap:∀(i j:Nat)(oi oj:Oper),i≠j->ops[i]?=some oi->ops[j]?=some oj->dz C oi=true->dz C oj=true->(i<j/\MB ops j i)\/(j<i/\MB ops i j)
def Bb{C:Cx}{ops:Array Oper}(h:J1 C ops=true):Rok C ops:=by
 simp only[J1,Yp,List.mem_range]at h;have key:∀j oj,ops[j]?=some oj->(∀e∈oj.after,Region.binds .any e=true->e.on<j)/\∀i oi,i≠j->ops[i]?=some oi->
  (∀d,oi.dst=some d->oj.dst≠some d/\(d∈oj.looksAt ops->ordered (kN ops.toList []) i j=true))/\(dz C oi=true->dz C oj=true->ordered (kN ops.toList []) i j=true):=by
  intro j oj hj;have lD:j<ops.size:=(Xl.1 hj).1;have h1:=h j lD;simp only[hj,Zh,Yp,List.mem_range]at h1;refine⟨λe he hb=>?_,λi oi gE hi=>?_⟩
  .have:=h1.1 e (by simpa using he);simpa[hb]using this
  .have iJ:i<ops.size:=(Xl.1 hi).1;have h2:=h1.2 i iJ;simp only[hi,Yx,beq_iff_eq,gE,false_or,Zh]at h2;refine⟨λd hd=>?_,λhc ht=>?_⟩
   .have h3:=h2.1;simp only[hd,Zh,bne_iff_ne,ne_eq,Yx,Xd,List.contains_eq_mem,decide_eq_false_iff_not]at h3;exact⟨h3.1,λhm=>h3.2.resolve_left (λhn=>hn hm)⟩
   .have h3:=h2.2;simpa[hc,ht]using h3
 exact⟨λj o hj=>(key j o hj).1,λi j oi oj d gE hi hj hd=>(((key j oj hj).2 i oi gE hi).1 d hd).1,
  λi j oi oj d gE hi hj hd hm=>BD gE ((((key j oj hj).2 i oi gE hi).1 d hd).2 hm),λi j oi oj gE hi hj hc ht=>BD gE (((key j oj hj).2 i oi gE hi).2 hc ht)⟩
def OO{C:Cx}{e e':Operand->AV}{h:Hp}{t:TypeId}{m:Nat}:∀{ps:List (Nat × Operand)},(∀p∈ps,e p.2=e' p.2)->mvA C e h t m ps=mvA C e' h t m ps
 | [],_=>rfl
 |
  [(0,.tmp q)],he=>by
  have h0:e (.tmp q)=e' (.tmp q):=he (0,.tmp q) (by simp);unfold mvA;simp only[h0]
 | [(0,.const q)],_=>rfl
 | [(0,.global q)],_=>rfl
 | [(0,.func q)],_=>rfl
 | [(_+1,x)],_=>rfl
 |(0,.tmp _)::_::_,_=>rfl
 |(0,.const _)::_::_,_=>rfl
 |(0,.global _)::_::_,_=>rfl
 |(0,.func _)::_::_,_=>rfl
 |(_+1,_)::_::_,_=>rfl
def OP{C:Cx}{e e':Operand->AV}{h:Hp}{t:TypeId}{n:Nat}{ps:List (Nat × Operand)}(he:∀p∈ps,e p.2=e' p.2):mvB C e h t n ps=mvB C e' h t n ps:=by
 unfold mvB;simp only[OO he]
def KB{C:Cx}{call:lu}{fr cG:List AV}{h:Hp}{o:Oper}(he:∀x∈o.op.operands,ev C fr x=ev C cG x):yB C call (ev C fr) h o=yB C call (ev C cG) h o:=by
 have aez:uk C (ev C fr) o=uk C (ev C cG) o:=by
  unfold uk;cases dq:o.op<;>simp only[dq,Op.operands]at he|-
  case binOp op t x y t'=>rw[he x (by simp),he y (by simp)]
  case unOp op t x=>cases op<;>simp only<;>rw[he x (by simp)]
  case convert src dst x=>rw[he x (by simp)]
  case index t x i=>rw[he x (by simp),he i (by simp)]
  case call c=>
   obtain⟨callee,args,wO⟩:=c;have jK:∀x∈args.toList,ev C fr x=ev C cG x:=λx hx=>he x (by simp[Call.operands];exact .inr (by simpa using hx))
   cases callee with
   |value f=>rfl
   |invoke r m=>rfl
   |builtin b=>
    cases b<;>simp only
    all_goals
     split
     .first
       |(rename_i hl ht;rw[jK _ (by rw[hl];simp)])
       |(rename_i hl;rw[jK _ (by rw[hl];simp),jK _ (by rw[hl];simp)])
     .rfl
 have aeA:mO C (ev C fr) o=mO C (ev C cG) o:=by
  unfold mO;have h1:(o.op.operands.toList.all λx=>tR (ev C fr x))=(o.op.operands.toList.all λx=>tR (ev C cG x)):=by
   rw[Bool.eq_iff_iff,Yp,Yp];exact⟨λhh x hx=>by rw[<-he x (by simpa using hx)];exact hh x hx,λhh x hx=>by rw[he x (by simpa using hx)];exact hh x hx⟩
  rw[h1];split
  .rename_i hc;have hns:∀cs b,o.op≠ .select cs b:=λcs b abl=>by simp[abl,pD]at hc
   rw[execOp_congr (ρ:=λx=>tS (ev C fr x)) (ρ':=λx=>tS (ev C cG x)) o hns (λx hx=>by simp only[he x hx])]
  .rfl
 have aeB:iu C (ev C fr) o=iu C (ev C cG) o:=by
  unfold iu;rw[aez,aeA]
 have Cr:∀xs:List Operand,(∀x∈xs,x∈o.op.operands)->xs.map (ev C fr)=xs.map (ev C cG):=λxs hx=>List.map_congr_left λx hm=>he x (hx x hm)
 have DQ:∀ps:List (Nat × Operand),(∀p∈ps,p.2∈o.op.operands)->(ps.map λp=>(p.1,ev C fr p.2))=ps.map λp=>(p.1,ev C cG p.2):=λps hp=>List.map_congr_left λp hm=>by rw[he p.2 (hp p hm)]
 unfold yB;cases dq:o.op<;>simp only[dq,Op.operands]at he Cr DQ<;>simp only[aeB]
 case move x=>rw[he x (by simp)]
 case assign x=>rw[he x (by simp)]
 case pick c x y=>rw[he c (by simp),he x (by simp),he y (by simp)]
 case box t x=>rw[he x (by simp)]
 case build t ps=>rw[DQ ps.toList (λp hp=>by simp;exact⟨p.1,by simpa using hp⟩)]
 case buildSlice t n ps=>rw[DQ ps.toList (λp hp=>by simp;exact⟨p.1,by simpa using hp⟩),OP λp hp=>he p.2 (by simp;exact⟨p.1,by simpa using hp⟩)]
 case load t x=>rw[he x (by simp)]
 case store t x y=>rw[he x (by simp),he y (by simp)]
 case nilCheck x=>rw[he x (by simp)]
 case fieldAddr t x f=>rw[he x (by simp)]
 case indexAddr t x i=>rw[he x (by simp),he i (by simp)]
 case field t x f=>rw[he x (by simp)]
 case index t x i=>rw[he x (by simp),he i (by simp)]
 case extract x i=>rw[he x (by simp)]
 case makeFunc f first nM=>
  cases f<;>simp only[];rw[Cr nM.toList (λx hx=>by simp;exact .inr (by simpa using hx))]
 case makeSlice t l c=>rw[he l (by simp),he c (by simp)]
 case binOp op t x y t'=>rw[he x (by simp)]
 case convert src dst x=>rw[he x (by simp)]
 case makeMap t r=>cases r<;>rfl
 case mapUpdate t m k x=>rw[he m (by simp),he k (by simp),he x (by simp)]
 case lookup t m k ok=>rw[he m (by simp),he k (by simp)]
 case panic x=>rw[he x (by simp)]
 case range t x=>rw[he x (by simp)]
 case next x b=>cases b<;>simp only[]<;>rw[he x (by simp)]
 case slice t x lo hi mx=>
  rw[he x (by simp)];have h1:lo.map (ev C fr)=lo.map (ev C cG):=by cases lo<;>simp_all
  have h2:hi.map (ev C fr)=hi.map (ev C cG):=by cases hi<;>simp_all
  have h3:mx.map (ev C fr)=mx.map (ev C cG):=by cases mx<;>simp_all
  rw[h1,h2,h3]
 case call c=>
  obtain⟨callee,args,wO⟩:=c;have jK:∀x∈args.toList,ev C fr x=ev C cG x:=λx hx=>he x (by simp[Call.operands];exact .inr (by simpa using hx))
  cases callee with
  |value f=>
   simp only;rw[he f (by simp[Call.operands]),List.map_congr_left jK]
  |invoke r m=>rfl
  |builtin b=>
   cases b<;>simp only[]
   all_goals
    split
    .rename_i hl ht
     first
      |(rw[jK _ (by rw[hl];simp),jK _ (by rw[hl];simp)])
      |(rw[jK _ (by rw[hl];simp)])
    .rfl
def OQ{C:Cx}{call:lu}(hk:∀g xs h r h',C.inl g=false->call g xs h=some (r,h')->h'=h){fr:List AV}{h h':Hp}{o:Oper}{r:AV}(hc:zN C o=false)(ho:yB C call (ev C fr) h o=some (r,h')):h'=h:=by
 unfold yB at ho;unfold zN at hc;cases dq:o.op<;>simp only[dq]at ho hc
 all_goals try contradiction
 all_goals try(simp only[Ze,Zc,Zg]at ho)
 all_goals try(obtain⟨_,_,_,rfl⟩:=ho;rfl)
 all_goals try(exact ho.2.symm)
 case pick=>split at ho<;>(first|(cases ho;done)|(simp only[Zc,Zg]at ho;first|(obtain⟨_,_,_,hh⟩:=ho;exact hh.symm)|exact ho.2.symm))
 case build=>split at ho<;>(first|(cases ho;done)|(simp only[Ze,Zg]at ho;first|(obtain⟨_,_,_,hh⟩:=ho;exact hh.symm)|exact ho.2.symm))
 case load=>(repeat' split at ho)<;>(first|(cases ho;done)|(simp only[Ze,Zg]at ho;first|(obtain⟨_,_,_,hh⟩:=ho;exact hh.symm)|exact ho.2.symm))
 case nilCheck=>split at ho<;>(first|(cases ho;done)|(simp only[Zc,Zg]at ho;first|(obtain⟨_,_,_,hh⟩:=ho;exact hh.symm)|exact ho.2.symm))
 case fieldAddr=>(repeat' split at ho)<;>(first|(cases ho;done)|(simp only[Zc,Zg]at ho;first|(obtain⟨_,_,_,hh⟩:=ho;exact hh.symm)|exact ho.2.symm))
 case indexAddr=>(repeat' split at ho)<;>(first|(cases ho;done)|(simp only[Ze,Zc,Zg]at ho;first|(obtain⟨_,_,_,hh⟩:=ho;exact hh.symm)|exact ho.2.symm))
 case field=>(repeat' split at ho)<;>(first|(cases ho;done)|(simp only[Ze,Zg]at ho;first|(obtain⟨_,_,_,hh⟩:=ho;exact hh.symm)|exact ho.2.symm))
 case index=>(repeat' split at ho)<;>(first|(cases ho;done)|(simp only[Ze,Zg]at ho;first|(obtain⟨_,_,_,hh⟩:=ho;exact hh.symm)|exact ho.2.symm))
 case lookup=>(repeat' split at ho)<;>(first|(cases ho;done)|(simp only[Ze,Zg]at ho;first|(obtain⟨_,_,_,hh⟩:=ho;exact hh.symm)|exact ho.2.symm))
 case extract=>split at ho<;>(first|(cases ho;done)|(simp only[Ze,Zg]at ho;first|(obtain⟨_,_,_,hh⟩:=ho;exact hh.symm)|exact ho.2.symm))
 case slice=>(repeat' split at ho)<;>(first|(cases ho;done)|(simp only[Ze,Zg]at ho;first|(obtain⟨_,_,_,hh⟩:=ho;exact hh.symm)|exact ho.2.symm))
 case binOp=>(repeat' split at ho)<;>(first|(cases ho;done)|(simp only[Ze,Zc,Zg]at ho;first|(obtain⟨_,_,_,hh⟩:=ho;exact hh.symm)|exact ho.2.symm))
 case convert=>
  simp only[hc,Yl,if_false]at ho
  (repeat' split at ho)<;>(first|(cases ho;done)|(simp only[Ze,Zg]at ho;first|(obtain⟨_,_,_,hh⟩:=ho;exact hh.symm)|exact ho.2.symm))
 case makeFunc f first nM=>cases f<;>simp only at ho hc<;>first|contradiction|(split at ho<;>(first|(cases ho;done)|(simp only[Zc,Zg]at ho;first|(obtain⟨_,_,_,hh⟩:=ho;exact hh.symm)|exact ho.2.symm)))
 case call c=>
  obtain⟨callee,args,wO⟩:=c;cases callee with
  |value f=>
   cases f<;>simp only at hc ho<;>first|contradiction|skip
   rename_i g;simp only[ev]at ho;split at ho
   .simp only[Ze,Zg]at ho;obtain⟨_,_,_,hh⟩:=ho;exact hh.symm
   .exact hk _ _ _ _ _ hc ho
  |invoke r m=>contradiction
  |builtin b=>
   cases b<;>simp only at hc ho<;>first|contradiction|skip
   all_goals first
    |(simp only[Ze,Zg]at ho;obtain⟨_,_,_,rfl⟩:=ho;rfl)
    |((repeat' split at ho)<;>(first|(cases ho;done)|(simp only[Ze,Zc,Zg]at ho;first|(obtain⟨_,_,_,hh⟩:=ho;exact hh.symm)|exact ho.2.symm)))
def OT{C:Cx}{call:lu}{fr:List AV}{h h':Hp}{o:Oper}{r:AV}(hc:zO C o=false)(ho:yB C call (ev C fr) h o=some (r,h'))(h2:Hp):yB C call (ev C fr) h2 o=some (r,h2):=by
 unfold yB at ho|-;unfold zO at hc;cases dq:o.op<;>simp only[dq]at ho hc|-
 all_goals try contradiction
 all_goals try(simp only[Ze,Zc,Zg]at ho|-)
 all_goals try(obtain⟨y,hy,hr,_⟩:=ho;exact⟨y,hy,hr,trivial⟩)
 all_goals try(exact⟨ho.1,trivial⟩)
 case pick=>split at ho<;>simp_all<;>(first|(obtain⟨y,hy,hr,_⟩:=ho;exact⟨y,hy,hr⟩)|(obtain⟨y,hy,hr,_⟩:=ho;subst hr;exact hy))
 case build=>split at ho<;>simp_all<;>(first|(obtain⟨y,hy,hr,_⟩:=ho;exact⟨y,hy,hr⟩)|(obtain⟨y,hy,hr,_⟩:=ho;subst hr;exact hy))
 case nilCheck=>split at ho<;>simp_all<;>(first|(obtain⟨y,hy,hr,_⟩:=ho;exact⟨y,hy,hr⟩)|(obtain⟨y,hy,hr,_⟩:=ho;subst hr;exact hy))
 case fieldAddr=>(repeat' split at ho)<;>simp_all<;>(first|(obtain⟨y,hy,hr,_⟩:=ho;exact⟨y,hy,hr⟩)|(obtain⟨y,hy,hr,_⟩:=ho;subst hr;exact hy))
 case indexAddr=>(repeat' split at ho)<;>simp_all<;>(first|(obtain⟨y,hy,hr,_⟩:=ho;exact⟨y,hy,hr⟩)|(obtain⟨y,hy,hr,_⟩:=ho;subst hr;exact hy))
 case field=>(repeat' split at ho)<;>simp_all<;>(first|(obtain⟨y,hy,hr,_⟩:=ho;exact⟨y,hy,hr⟩)|(obtain⟨y,hy,hr,_⟩:=ho;subst hr;exact hy))
 case index=>(repeat' split at ho)<;>simp_all<;>(first|(obtain⟨y,hy,hr,_⟩:=ho;exact⟨y,hy,hr⟩)|(obtain⟨y,hy,hr,_⟩:=ho;subst hr;exact hy))
 case extract=>split at ho<;>simp_all<;>(first|(obtain⟨y,hy,hr,_⟩:=ho;exact⟨y,hy,hr⟩)|(obtain⟨y,hy,hr,_⟩:=ho;subst hr;exact hy))
 case slice=>(repeat' split at ho)<;>simp_all<;>(first|(obtain⟨y,hy,hr,_⟩:=ho;exact⟨y,hy,hr⟩)|(obtain⟨y,hy,hr,_⟩:=ho;subst hr;exact hy))
 case binOp op t x y t'=>
  split at ho
  .rename_i hb;rw[cw hb];split at ho<;>simp_all
  .rename_i hb;rw[cv hb];simp only[Ze,Zg]at ho|-;obtain⟨y,hy,hr,_⟩:=ho;exact⟨y,hy,hr,trivial⟩
 case convert=>
  simp only[Bool.or_eq_false_iff]at hc;simp only[hc.1,hc.2,Yl,if_false]at ho|-
  (repeat' split at ho)<;>(first|(cases ho;done)|(simp only[Ze,Zg]at ho|-;obtain⟨y,hy,hr,_⟩:=ho;exact⟨y,hy,hr,trivial⟩))
 case makeFunc f first nM=>cases f<;>simp only at ho hc|- <;>first|contradiction|(split at ho<;>simp_all<;>(first|(obtain⟨y,hy,hr,_⟩:=ho;exact⟨y,hy,hr⟩)|(obtain⟨y,hy,hr,_⟩:=ho;subst hr;exact hy)))
 case call c=>
  obtain⟨callee,args,wO⟩:=c;cases callee with
  |value f=>contradiction
  |invoke r m=>contradiction
  |builtin b=>
   cases b<;>simp only at hc ho|- <;>first|contradiction|skip
   all_goals first
    |(simp only[Ze,Zg]at ho|-;obtain⟨y,hy,hr,_⟩:=ho;exact⟨y,hy,hr,trivial⟩)
    |((repeat' split at ho)<;>simp_all<;>(first|(obtain⟨y,hy,hr,_⟩:=ho;exact⟨y,hy,hr⟩)|(obtain⟨y,hy,hr,_⟩:=ho;subst hr;exact hy)))
def Im{C:Cx}{fr cG:List AV}{h:Hp}{o:Oper}(he:∀x∈o.op.operands,ev C fr x=ev C cG x):lY C (ev C fr) h o=lY C (ev C cG) h o:=by
 have DQ:∀ps:List (Nat × Operand),(∀p∈ps,p.2∈o.op.operands)->(ps.map λp=>(p.1,ev C fr p.2))=ps.map λp=>(p.1,ev C cG p.2):=λps hp=>List.map_congr_left λp hm=>by rw[he p.2 (hp p hm)]
 unfold lY;cases dq:o.op<;>simp only[dq,Op.operands]at he DQ|-
 case buildSlice t n ps=>rw[DQ ps.toList (λp hp=>by simp;exact⟨p.1,by simpa using hp⟩)]
 case makeSlice t l c=>rw[he l (by simp),he c (by simp)]
 case slice t x lo hi mx=>
  have h0:ev C fr x=ev C cG x:=he x (by simp);have h1:lo.map (ev C fr)=lo.map (ev C cG):=by cases lo<;>simp_all
  have h2:hi.map (ev C fr)=hi.map (ev C cG):=by cases hi<;>simp_all
  cases mx with
  |some m=>rfl
  |
   none=>
   simp only;rw[h0,h1,h2]
 case call c=>
  obtain⟨callee,args,wO⟩:=c;have jK:∀x∈args.toList,ev C fr x=ev C cG x:=λx hx=>he x (by simp[Call.operands];exact .inr (by simpa using hx))
  cases callee with
  |value f=>rfl
  |invoke r m=>rfl
  |builtin b=>
   cases b<;>simp only;split
   .rename_i hl ht;rw[jK _ (by rw[hl];simp),jK _ (by rw[hl];simp)]
   .rfl
def KC{C:Cx}{fr:List AV}{h h':Hp}{o:Oper}{r:AV}(ho:lY C (ev C fr) h o=some (r,h')):h'=h:=by
 unfold lY at ho
 (repeat' split at ho)<;>(first|(cases ho;done)|(simp only[Zc,Zg]at ho;exact ho.2.symm))
def xN{C:Cx}{call:lu}{fr cG:List AV}{h:Hp}{o:Oper}(he:∀x∈o.op.operands,ev C fr x=ev C cG x):qj C call (ev C fr) h o=qj C call (ev C cG) h o:=by
 unfold qj;rw[Im he,KB he]
def lT{C:Cx}{call:lu}(hk:∀g xs h r h',C.inl g=false->call g xs h=some (r,h')->h'=h){fr:List AV}{h h':Hp}{o:Oper}{r:AV}(hc:dz C o=false)(ho:qj C call (ev C fr) h o=some (r,h')):h'=h:=by
 unfold qj at ho;unfold dz at hc;split at ho
 .exact KC ho
 .rename_i aeC;have acx:C.pb o=false:=by simpa using aeC
  rw[acx]at hc;exact OQ hk hc ho
def Ue{C:Cx}{call:lu}{fr:List AV}{h h':Hp}{o:Oper}{r:AV}(hc:oF C o=false)(ho:qj C call (ev C fr) h o=some (r,h'))(h2:Hp):qj C call (ev C fr) h2 o=some (r,h2):=by
 unfold oF at hc;rw[Bool.or_eq_false_iff]at hc;unfold qj at ho|-;simp only[hc.1,Yl,if_false]at ho|-;exact OT hc.2 ho h2
section want
variable {w : World} {X : Nat -> Prop} {ρ : Nat -> Nat} {n : Nat}
def va{ops:Array Oper}{tmps:Array Value}{fr:List AV}(hf:RF w X ρ n tmps fr){o:Oper}{b:Bool}(h:jd ops fr o=some b):Region.wanted o (yielded ops tmps)=b:=by
 unfold jd at h;unfold Region.wanted;cases hg:o.guard with
 |none=>simp only[hg,Zc]at h|-;exact h
 |some q=>
  obtain⟨j,want⟩:=q;simp only[hg]at h|-;unfold yielded;cases hd:(ops[j]?).bind (·.dst)with
  |none=>simp only[hd,Zc]at h;simp[<-h]
  |some d=>
   simp only[hd]at h;split at h
   .rename_i b' hb;simp only[Zc]at h;have hr:=(hf.2 d _ hb).dQ.1;have du:d<tmps.size:=by rw[hf.1];exact(Za.1 hb).1
    have hv:tmps[d]?=some (.bool b'):=by
     rw[Xf du];simpa[du]using hr
    simp[hv,<-h]
   .rename_i hb;simp only[Zc]at h;have hr:=(hf.2 d _ hb).abk;have du:d<tmps.size:=by rw[hf.1];exact(Za.1 hb).1
    have hv:tmps[d]?=some undef:=by
     rw[Xf du];simpa[du]using hr
    simp[hv,undef,<-h]
   .cases h
end want
def wa(C:Cx)(call:lu)(ops:Array Oper)(o:Oper)(s:St):AV:=
 match jd ops s.1 o with
 |some true=>match qj C call (ev C s.1) s.2 o with
  |some (v,_)=>v
  |none=> .ud
 |_=> .un
def jn{C:Cx}{call:lu}{ops:Array Oper}{o:Oper}{s s':St}(h:step1 C call ops o s=some s'):
 s'.1=ql o s.1 (wa C call ops o s)/\((jd ops s.1 o=some true/\qj C call (ev C s.1) s.2 o=some (wa C call ops o s,s'.2))\/(jd ops s.1 o=some false/\wa C call ops o s= .un/\s'.2=s.2))/\∀u,wa C call ops o s≠ .pn u:=by
 unfold step1 at h;unfold wa;split at h
 .rename_i hw;split at h
  .cases h
  .rename_i v h1 xw ha;simp only[Zc]at h;subst h;simp only[hw,ha];exact⟨trivial,.inl ⟨trivial,trivial⟩,λu e=>xw u e⟩
  .cases h
 .rename_i hw;simp only[Zc]at h;subst h;simp[hw]
 .cases h
def tj{C:Cx}{call:lu}{ops:Array Oper}:∀(l:List Oper)(s:St)(tT:List St),j_ C call ops l s=some tT->
 ∃S:Nat->St,S 0=s/\tT.length=l.length+1/\(∀k,k<=l.length->tT[k]?=some (S k))/\∀(k:Nat)(o:Oper),l[k]?=some o->step1 C call ops o (S k)=some (S (k+1))
 |
  [],s,tT,h=>by
  simp only[j_,Zc]at h;subst h;refine⟨λ_=>s,rfl,rfl,λk hk=>?_,by simp⟩;have vM:k=0:=by simpa using hk
  subst vM;rfl
 |
  o::l,s,tT,h=>by
  simp only[j_]at h;split at h
  .rename_i s1 h1;simp only[Ze]at h;obtain⟨ai3,h2,rfl⟩:=h;obtain⟨S,e0,el,e1,e2⟩:=tj l s1 ai3 h2;refine⟨λk=>match k with|0=>s|k+1=>S k,rfl,by simp[el],λk hk=>?_,λk o' hk=>?_⟩
   .cases k with
    |zero=>rfl
    |succ k=>simpa using e1 k (by simpa using hk)
   .cases k with
    |zero=>simp at hk;subst hk;simp[e0,h1]
    |succ k=>simp at hk;exact e2 k o' hk
  .cases h
def BF{C:Cx}{call:lu}{ops:Array Oper}:∀(l:List Oper)(s s':St),dG C call ops l s=some s'->
 ∃S:Nat->St,S 0=s/\S l.length=s'/\∀(k:Nat)(o:Oper),l[k]?=some o->step1 C call ops o (S k)=some (S (k+1))
 |
  [],s,s',h=>by
  simp only[dG,Zc]at h;subst h;exact⟨λ_=>s,rfl,rfl,by simp⟩
 |
  o::l,s,s',h=>by
  simp only[dG]at h;split at h
  .rename_i s1 h1;obtain⟨S,e0,el,e2⟩:=BF l s1 s' h;refine⟨λk=>match k with|0=>s|k+1=>S k,rfl,by simp[el],λk o' hk=>?_⟩;cases k with
   |zero=>simp at hk;subst hk;simp[e0,h1]
   |succ k=>simp at hk;exact e2 k o' hk
  .cases h
def BG{C:Cx}{call:lu}{ops:Array Oper}:∀(l:List (Oper × Bool))(s s':St),dG C call ops (KX l) s=some s'->
 ∃S:Nat->St,S 0=s/\∀(k:Nat)(o:Oper)(b:Bool),l[k]?=some (o,b)->if b=true then S (k+1)=S k else step1 C call ops o (S k)=some (S (k+1))
 | [],s,s',h=>⟨λ_=>s,rfl,by simp⟩
 |
  (o,true)::l,s,s',h=>by
  obtain⟨S,e0,e2⟩:=BG l s s' h;refine⟨λk=>match k with|0=>s|k+1=>S k,rfl,λk o' b hk=>?_⟩;cases k with
  |zero=>simp at hk;obtain⟨rfl,rfl⟩:=hk;simp[e0]
  |succ k=>simp at hk;exact e2 k o' b hk
 |
  (o,false)::l,s,s',h=>by
  have h:dG C call ops (o::KX l) s=some s':=h;simp only[dG]at h;split at h
  .rename_i s1 h1;obtain⟨S,e0,e2⟩:=BG l s1 s' h;refine⟨λk=>match k with|0=>s|k+1=>S k,rfl,λk o' b hk=>?_⟩;cases k with
   |zero=>simp at hk;obtain⟨rfl,rfl⟩:=hk;simp[e0,h1]
   |succ k=>simp at hk;exact e2 k o' b hk
  .cases h
def aeD(C:Cx)(call:lu)(ops:Array Oper)(s:St)(v:Value)(hP:Hp):Prop:=
 ∃J o sj s2,ops[J]?=some o/\dG C call ops (ops.toList.take J) s=some sj/\dz C o=true/\(∀q∈needs C ops,J<q.2)/\jd ops sj.1 o=some true/\qj C call (ev C sj.1) sj.2 o=some (.pn v,hP)/\dG C call ops (KX (KW ops J)) sj=some s2
def OU{C:Cx}{call:lu}{ops:Array Oper}{J:Nat}{s s':St}{out:Out}(h:aaN C call ops J s=some (out,s')):∃v h',out= .wU v/\s'=(ZK ops.toList s.1,h')/\aeD C call ops s v h':=by
 unfold aaN at h;split at h
 .rename_i o sj h1 h2;split at h
  .rename_i h3;rw[Zh,Yp]at h3;split at h
   .rename_i h4;split at h
    .rename_i v h' h5;split at h
     .rename_i s2 h6;simp only[Zc,Zg]at h;exact⟨v,h',h.1.symm,h.2.symm,J,o,sj,s2,h1,h2,h3.1,λq hq=>of_decide_eq_true (h3.2 q hq),h4,h5,h6⟩
     .cases h
    .cases h
   .cases h
  .cases h
 .cases h
def put(a:Act)(o:Oper)(v:Value):Act:=a.put o.dst v
def Uf{w:World}{X:Nat->Prop}{ρ:Nat->Nat}{n:Nat}{a:Act}{fr:List AV}(hf:RF w X ρ n a.tmps fr)(o:Oper){v:Value}{x:AV}(hv:Rp w X ρ n v x):RF w X ρ n (a.put o.dst v).tmps (ql o fr x):=by
 unfold ql Act.put;cases o.dst with
 |none=>exact hf
 |some d=>exact hf.put d hv
def put_defers(a:Act)(o:Oper)(v:Value):(a.put o.dst v).defers=a.defers:=by
 unfold Act.put;cases o.dst<;>rfl
def Io{C:Cx}{call:lu}(hT:∀t i,C.T t=some i->ir C.P t=some i)(cW:jm C call){ops:Array Oper}{i:Nat}{o:Oper}(hi:ops[i]?=some o){w:World}{X:Nat->Prop}{ρ:Nat->Nat}{h h':Hp}{a:Act}{fr:List AV}(hs:ia C.G w X ρ h)(hf:RF w (dZ X ρ h) ρ h.length a.tmps fr){r:AV}(xw:∀u,r≠ .pn u)(hr:(jd ops fr o=some true/\qj C call (ev C fr) h o=some (r,h'))\/(jd ops fr o=some false/\r= .un/\h'=h)){K:Act->World->Prop}{Q:Exit->Act->World->Prop}(hK:∀v w' ρ',Ext C.G w X ρ h w' ρ' h'->RF w' (dZ X ρ' h') ρ' h'.length (a.put o.dst v).tmps (ql o fr r)->(a.put o.dst v).defers=a.defers->K (a.put o.dst v) w'):
 wpOp C.P ops Q i K a w:=by
 unfold wpOp;simp only[hi];rcases hr with⟨hw,ha⟩|⟨hw,rfl,rfl⟩
 .rw[va hf hw,cw rfl];exact .inl (DP hs hf hT cW ha K Q (λv w' ρ' he hv=>hK v w' ρ' he (Uf (he.rf hf) o hv) (put_defers a o v)) λu _ _ e _=>absurd e (xw u))
 .rw[va hf hw];simp only[Yl,if_false];exact hK undef w ρ (Ext.refl hs) (Uf hf o (.im .un)) (put_defers a o undef)
def uT :Out->Exit
 | .normal=> .normal
 | .exit id=> .exit id
 | .ret=> .ret
 | .wU v=> .panic [{v,recovered:=false}]
def DR{C:Cx}{call:lu}(hT:∀t i,C.T t=some i->ir C.P t=some i)(cW:jm C call){ops:Array Oper}{i:Nat}{o:Oper}(hi:ops[i]?=some o){w:World}{X:Nat->Prop}{ρ:Nat->Nat}{h h':Hp}{a:Act}{fr:List AV}(hs:ia C.G w X ρ h)(hf:RF w (dZ X ρ h) ρ h.length a.tmps fr){u:Value}(hw:jd ops fr o=some true)(ha:qj C call (ev C fr) h o=some (.pn u,h')){K:Act->World->Prop}{Q:Exit->Act->World->Prop}(hQ:∀w' ρ',Ext C.G w X ρ h w' ρ' h'->RF w' (dZ X ρ' h') ρ' h'.length a.tmps fr->Q (.panic [{v:=u,recovered:=false}]) a w'):
 wpOp C.P ops Q i K a w:=by
 unfold wpOp;simp only[hi];rw[va hf hw,cw rfl];refine .inl (DP hs hf hT cW ha K Q (λv w' ρ' he hv=>absurd hv.abj (λh=>h)) λu' w' ρ' e he=>?_);simp only[AV.pn.injEq]at e;subst e;exact hQ w' ρ' he (he.rf hf)
def DS{C:Cx}{call:lu}(hT:∀t i,C.T t=some i->ir C.P t=some i)(cW:jm C call){ops:Array Oper}{X:Nat->Prop}{Q:Exit->Act->World->Prop}:
 ∀(rest:List Oper)(k:Nat)(s s':St)(out:Out),ops.toList.drop k=rest->dV C call ops rest s=some (out,s')->∀(a:Act)(w:World)(ρ:Nat->Nat),ia C.G w X ρ s.2->RF w (dZ X ρ s.2) ρ s.2.length a.tmps s.1->
  (∀a' w' ρ',Ext C.G w X ρ s.2 w' ρ' s'.2->RF w' (dZ X ρ' s'.2) ρ' s'.2.length a'.tmps s'.1->a'.defers=a.defers->Q (uT out) a' w')->wpOps C.P ops Q ((List.range ops.size).drop k) a w
 |
  [],k,s,s',out,hd,hr,a,w,ρ,hs,hf,hQ=>by
  have hk:ops.size<=k:=by
   have:=congrArg List.length hd;simp at this;omega
  rw[Zt (by simpa using hk)];simp only[dV,Zc,Zg]at hr;obtain⟨rfl,rfl⟩:=hr;exact hQ a w ρ (Ext.refl hs) hf rfl
 |
  o::rest,k,s,s',out,hd,hr,a,w,ρ,hs,hf,hQ=>by
  have hk:k<ops.size:=by
   have:=congrArg List.length hd;simp at this;omega
  have ho:ops[k]?=some o:=by
   have:(ops.toList.drop k)[0]?=some o:=by rw[hd];rfl
   rw[Xj]at this;simpa using this
  rw[Zm (by simpa using hk),List.getElem_range,wpOps_cons];simp only[dV]at hr;split at hr
  .rename_i s1 h1;obtain⟨e1,e2,e3⟩:=jn h1;refine Io hT cW ho hs hf e3 e2 λv w' ρ' he Dp hdf=>?_
   have hd':ops.toList.drop (k+1)=rest:=by rw[<-List.drop_drop,hd];rfl
   exact DS hT cW rest (k+1) s1 s' out hd' hr (a.put o.dst v) w' ρ' he.uj (by rw[e1];exact Dp) λa' w'' ai4 he' ai5 ai6=>hQ a' w'' ai4 (he.trans he') ai5 (ai6.trans hdf)
  .split at hr
   .rename_i hw;split at hr
    .rename_i u h1 ha;simp only[Zc,Zg]at hr;obtain⟨rfl,rfl⟩:=hr;exact DR hT cW ho hs hf hw ha λw' ρ' he Dp=>hQ a w' ρ' he Dp rfl
    .cases hr
   .cases hr
structure KD (ops:Array Oper)(base:List AV)(R:Nat->AV)(L:Nat->Bool)(fr:List AV):Prop where
 len:fr.length=base.length
 hit:∀(i:Nat)(o:Oper)(t:Tmp),ops[i]?=some o->o.dst=some t->t<base.length->fr[t]?=some (if L i then R i else base.getD t .ud)
 miss:∀t:Tmp,(∀(i:Nat)(o:Oper),ops[i]?=some o->o.dst≠some t)->fr[t]?=base[t]?
def KD.put{ops:Array Oper}{C:Cx}(hr:Rok C ops){base:List AV}{R:Nat->AV}{L L':Nat->Bool}{fr:List AV}(h:KD ops base R L fr){j:Nat}{o:Oper}(hj:ops[j]?=some o)(hL:∀i,L' i=if i=j then true else L i):KD ops base R L' (ql o fr (R j)):=by
 unfold ql;cases hd:o.dst with
 |
  none=>
  refine⟨h.len,λi oi t hi ht du=>?_,h.miss⟩;have gE:i≠j:=λe=>by subst e;rw[hj]at hi;cases hi;rw[hd]at ht;cases ht
  rw[h.hit i oi t hi ht du,hL,cv gE]
 |some d=>
  refine⟨by simp[h.len],λi oi t hi ht du=>?_,λt ht=>?_⟩
  .by_cases tC:i=j
   .subst tC;rw[hj]at hi;cases hi;rw[hd]at ht;cases ht;simp only[hL,if_true];rw[Zj (by rw[h.len];exact du)]
   .have gE:d≠t:=λe=>hr.dst j i o oi d (Ne.symm tC) hj hi hd (by rw[ht,e])
    rw[Zq gE,h.hit i oi t hi ht du,hL,cv tC]
  .have gE:d≠t:=λe=>ht j o hj (by rw[hd,e])
   rw[Zq gE];exact h.miss t ht
def KD.skip{ops:Array Oper}{base:List AV}{R:Nat->AV}{L L':Nat->Bool}{fr:List AV}(h:KD ops base R L fr){j:Nat}{o:Oper}(hj:ops[j]?=some o)(hR:∀d,o.dst=some d->R j=base.getD d .ud)(hL:∀i,L' i=if i=j then true else L i):KD ops base R L' fr:=by
 refine⟨h.len,λi oi t hi ht du=>?_,h.miss⟩;rw[h.hit i oi t hi ht du,hL];by_cases tC:i=j
 .subst tC;rw[hj]at hi;cases hi;rw[hR t ht];simp
 .rw[cv tC]
def YM{l:List Oper}{fr:List AV}{t:Nat}{x:AV}(h:(ZK l fr)[t]?=some x):x= .ud\/(fr[t]?=some x/\∀o∈l,o.dst≠some t):=by
 induction l generalizing fr with
 |nil=>exact .inr ⟨h,by simp⟩
 |cons o l ih=>
  rcases ih (fr:=ql o fr .ud) h with q|⟨q,hq⟩
  .exact .inl q
  .unfold ql at q;cases hd:o.dst with
   |
    none=>
    rw[hd]at q;exact .inr ⟨q,λo' lV=>by
     rcases Yv.1 lV with rfl|lV; · rw[hd];simp
     .exact hq o' lV⟩
   |some d=>
    rw[hd]at q;by_cases hdt:d=t
    .subst hdt;have du:d<fr.length:=by have:=(Za.1 q).1;simpa using this
     simp only[Zj du,Zc]at q;exact .inl q.symm
    .simp only[Zq hdt]at q;exact .inr ⟨q,λo' lV=>by
      rcases Yv.1 lV with rfl|lV; · rw[hd];simpa using hdt
      .exact hq o' lV⟩
def KE(l:List Oper)(fr:List AV):(ZK l fr).length=fr.length:=by
 induction l generalizing fr with
 |nil=>rfl
 |cons o l ih=>
  show(ZK l (ql o fr .ud)).length=_;rw[ih];unfold ql;cases o.dst<;>simp
def KD.ud{ops:Array Oper}{base:List AV}{R:Nat->AV}{L:Nat->Bool}{fr:List AV}(h:KD ops base R L fr){w:World}{X:Nat->Prop}{ρ:Nat->Nat}{n:Nat}{tmps:Array Value}(hf:RF w X ρ n tmps fr):RF w X ρ n tmps (ZK ops.toList base):=by
 refine⟨by rw[hf.1,h.len,KE],λt x hx=>?_⟩;rcases YM hx with rfl|⟨q,hq⟩
 .exact .im (.ud _)
 .refine hf.2 t x ?_;rw[h.miss t λi o hi=>hq o (by
   have:ops.toList[i]?=some o:=by simpa using hi
   exact Zi this)]
  exact q
def KD.unique{ops:Array Oper}{base:List AV}{R:Nat->AV}{L L':Nat->Bool}{fr cG:List AV}(h:KD ops base R L fr)(h':KD ops base R L' cG){t:Tmp}(hL:∀(i:Nat)(o:Oper),ops[i]?=some o->o.dst=some t->L i=L' i):fr[t]?=cG[t]?:=by
 by_cases ht:∃(i:Nat)(o:Oper),ops[i]?=some o/\o.dst=some t
 .obtain⟨i,o,hi,hd⟩:=ht;by_cases du:t<base.length
  .rw[h.hit i o t hi hd du,h'.hit i o t hi hd du,hL i o hi hd]
  .have h1:fr.length<=t:=by rw[h.len];exact Ya du
   have h2:cG.length<=t:=by rw[h'.len];exact Ya du
   rw[Xc h1,Xc h2]
 .have hm:∀(i:Nat)(o:Oper),ops[i]?=some o->o.dst≠some t:=λi o hi hd=>ht ⟨i,o,hi,hd⟩
  rw[h.miss t hm,h'.miss t hm]
def N_(l:List Bool):Nat:=(l.filter λb=> !b).length
def Mr :∀(l:List Bool)(i:Nat),l[i]?=some false->N_ (l.set i true)+1=N_ l
 | [],i,h=>by simp at h
 |b::l,0,h=>by simp at h;subst h;simp[N_]
 |
  b::l,i+1,h=>by
  simp at h;have:=Mr l i h;cases b<;>simp[N_]at this|- <;>omega
def Iq :∀(l:List Bool),N_ l=0->∀(i:Nat)(b:Bool),l[i]?=some b->b=true
 | [],_,i,b,h=>by simp at h
 |
  c::l,hc,i,b,h=>by
  cases c with
  |false=>simp[N_]at hc
  |
   true=>
   have z_:N_ l=0:=by simpa[N_]using hc
   cases i with
   |zero=>simp at h;exact h
   |succ i=>simp at h;exact Iq l z_ i b h
def MB.lt{C:Cx}{ops:Array Oper}(hr:Rok C ops){j i:Nat}(h:MB ops j i):i<j:=by
 induction h with
 |edge ho he hb=>exact hr.back _ _ ho _ he hb
 |trans ho he hb _ ih=>exact Nat.lt_trans ih (hr.back _ _ ho _ he hb)
section draw
variable {C : Cx} {call : FuncId -> List AV -> Hp -> Option (AV × Hp)} {ops : Array Oper}
def jo{listed:Array Bool}{j:Nat}(hj:j<listed.size)(i:Nat):(listed.setIfInBounds j true).getD i false=if i=j then true else listed.getD i false:=by
 by_cases h:i=j
 .subst h;simp[hj]
 .rw[cv h,getD_set_ne false (Ne.symm h)]
set_option maxHeartbeats 1000000 in
def Ba(hT:∀t i,C.T t=some i->ir C.P t=some i)(cW:jm C call)(gh:∀g xs h r h',C.inl g=false->call g xs h=some (r,h')->h'=h)(hr:Rok C ops){J:Nat}{bad:Nat->Prop}(hbJ:∀k,bad k->k=J\/MB ops k J)(hJb:J<ops.size->bad J)(hJc:∀o,ops[J]?=some o->dz C o=true){S:Nat->St}(hS:∀(k:Nat)(o:Oper),ops[k]?=some o->¬bad k->step1 C call ops o (S k)=some (S (k+1)))(hB:∀(k:Nat)(o:Oper),ops[k]?=some o->bad k->S (k+1)=S k){R:Nat->AV}(hR:∀(k:Nat)(o:Oper),ops[k]?=some o->¬bad k->R k=wa C call ops o (S k))(hRB:∀(k:Nat)(o:Oper),ops[k]?=some o->bad k->∀d,o.dst=some d->R k=(S 0).1.getD d .ud)(SF:∀(j:Nat)(o:Oper),ops[j]?=some o->¬bad j->dz C o=false->oF C o=true->jd ops (S j).1 o=some true->∀m,m<=ops.size->m<=J->
  (∀(i:Nat)(oi:Oper),ops[i]?=some oi->dz C oi=true->(((kN ops.toList []).getD j 0).testBit i=true->i<m)/\(((kN ops.toList []).getD i 0).testBit j=true->m<=i))->qj C call (ev C (S j).1) (S m).2 o=some (R j,(S m).2)){X:Nat->Prop}{w0:World}{ρ0:Nat->Nat}{d0:List Deferred}{Q:Exit->Act->World->Prop}(hQ:ops.size<=J->∀a' w' ρ',Ext C.G w0 X ρ0 (S 0).2 w' ρ' (S ops.size).2->RF w' (dZ X ρ' (S ops.size).2) ρ' (S ops.size).2.length a'.tmps (S ops.size).1->a'.defers=d0->Q .normal a' w')(hpn:∀o,ops[J]?=some o->jd ops (S J).1 o=some true/\∃u hP,qj C call (ev C (S J).1) (S J).2 o=some (.pn u,hP)/\∀a' w' ρ',Ext C.G w0 X ρ0 (S 0).2 w' ρ' hP->RF w' (dZ X ρ' hP) ρ' hP.length a'.tmps (ZK ops.toList (S 0).1)->a'.defers=d0->Q (.panic [{v:=u,recovered:=false}]) a' w'):
 ∀(fuel:Nat)(listed:Array Bool)(a:Act)(w:World)(ρ:Nat->Nat)(fr:List AV)(m:Nat),listed.size=ops.size->N_ listed.toList<=fuel->
  (∀(j:Nat)(o:Oper),ops[j]?=some o->listed.getD j false=true->∀e∈o.after,Region.binds .any e=true->listed.getD e.on false=true)->
  KD ops (S 0).1 R (λi=>listed.getD i false) fr->m<=ops.size->(J<ops.size->listed.getD J false=false)->
  (∀(k:Nat)(o:Oper),ops[k]?=some o->dz C o=true->(k<m↔listed.getD k false=true))->
  Ext C.G w0 X ρ0 (S 0).2 w ρ (S m).2->RF w (dZ X ρ (S m).2) ρ (S m).2.length a.tmps fr->a.defers=d0->wpAny C.P .any ops Q fuel listed a w:=by
 have aeE:∀k,k<=ops.size->KD ops (S 0).1 R (λi=>decide (i<k)) (S k).1:=by
  intro k
  induction k with
  |
   zero=>
   intro _;refine⟨rfl,λi o t hi ht du=>?_,λt _=>rfl⟩;simp[List.getD,Zb du]
  |succ k ih=>
   intro hk;have ho:ops[k]?=some ops[k]:=Xf (by omega);have hL:∀i,decide (i<k+1)=if i=k then true else decide (i<k):=λi=>by
    by_cases hik:i=k
    .subst hik;simp
    .rw[cv hik];have:(i<k+1)↔(i<k):=by omega
     simp[this]
   by_cases hb:bad k
   .rw[hB k _ ho hb];exact(ih (by omega)).skip ho (hRB k _ ho hb) hL
   .have h1:=(jn (hS k _ ho hb)).1;rw[h1,<-hR k _ ho hb];exact(ih (by omega)).put hr ho hL
 have j8:∀i d,i+d<=ops.size->(∀(k:Nat)(o:Oper),i<=k->k<i+d->ops[k]?=some o->dz C o=false)->(S (i+d)).2=(S i).2:=by
  intro i d
  induction d with
  |zero=>intro _ _;rfl
  |succ d ih=>
   intro cP v_;have ho:ops[i+d]?=some ops[i+d]:=Xf (by omega);have h2:=ih (by omega) (λk o h1 h2 h3=>v_ k o h1 (by omega) h3);by_cases hb:bad (i+d)
   .rw[show i+(d+1)=i+d+1 by omega,hB (i+d) _ ho hb,h2]
   have h1:=(jn (hS (i+d) _ ho hb)).2.1;rcases h1 with⟨_,ha⟩|⟨_,_,ha⟩
   .have:=lT gh (v_ (i+d) _ (by omega) (by omega) ho) ha;rw[show i+(d+1)=i+d+1 by omega,this,h2]
   .rw[show i+(d+1)=i+d+1 by omega,ha,h2]
 have hmb:∀{listed:Array Bool},(∀(j:Nat)(o:Oper),ops[j]?=some o->listed.getD j false=true->∀e∈o.after,Region.binds .any e=true->listed.getD e.on false=true)->
  ∀{j i:Nat},MB ops j i->listed.getD j false=true->listed.getD i false=true:=by
  intro listed gI j i h
  induction h with
  |edge ho he hb=>exact λhj=>gI _ _ ho hj _ he hb
  |trans ho he hb _ ih=>exact λhj=>ih (gI _ _ ho hj _ he hb)
 have Ug:∀{listed:Array Bool},(∀(j:Nat)(o:Oper),ops[j]?=some o->listed.getD j false=true->∀e∈o.after,Region.binds .any e=true->listed.getD e.on false=true)->
  ∀{j i:Nat},MB ops j i->(∀o,ops[j]?=some o->∀e∈o.after,Region.binds .any e=true->listed.getD e.on false=true)->listed.getD i false=true:=by
  intro listed gI j i h hrd;cases h with
  |edge ho he hb=>exact hrd _ ho _ he hb
  |trans ho he hb h2=>exact hmb gI h2 (hrd _ ho _ he hb)
 have aao:∀{listed:Array Bool}{a:Act}{w:World}{ρ:Nat->Nat}{fr:List AV}{m:Nat},(∀i,i<ops.size->listed.getD i false=true)->KD ops (S 0).1 R (λi=>listed.getD i false) fr->m<=ops.size->(J<ops.size->listed.getD J false=false)->
  (∀(k:Nat)(o:Oper),ops[k]?=some o->dz C o=true->(k<m↔listed.getD k false=true))->
  Ext C.G w0 X ρ0 (S 0).2 w ρ (S m).2->RF w (dZ X ρ (S m).2) ρ (S m).2.length a.tmps fr->a.defers=d0->Q .normal a w:=by
  intro listed a w ρ fr m fZ PT hm vH OV he hf hd;have hJs:ops.size<=J:=by
   apply Classical.byContradiction;intro du;have h1:=vH (by omega);rw[fZ J (by omega)]at h1;cases h1
  have h1:(S ops.size).2=(S m).2:=by
   have:=j8 m (ops.size-m) (by omega) (λk o h1 h2 h3=>by
    cases hq:dz C o with
    |false=>rfl
    |
     true=>
     have iB:k<ops.size:=(Xl.1 h3).1;have:=(OV k o h3 hq).2 (fZ k iB);omega)
   rwa [show m+(ops.size-m)=ops.size by omega]at this
  have h2:fr=(S ops.size).1:=by
   apply List.ext_getElem?;intro t;refine PT.unique (aeE ops.size (Yq _)) λi o hi _=>?_
   have iJ:i<ops.size:=(Xl.1 hi).1;simp[iJ];have:=fZ i iJ;simpa using this
  rw[<-h1]at he hf;rw[h2]at hf;exact hQ hJs a w ρ he hf hd
 intro fuel
 induction fuel with
 |
  zero=>
  intro listed a w ρ fr m ik ai7 gI PT hm vH OV he hf hd;have fZ:∀i,i<ops.size->listed.getD i false=true:=λi hi=>by
   have iJ:i<listed.size:=by omega
   have:=Iq listed.toList (by omega) i listed[i] (by simp[iJ]);simpa[iJ]using this
  refine⟨?_,aao fZ PT hm vH OV he hf hd⟩;apply List.eq_nil_iff_forall_not_mem.2;intro j hj;obtain⟨h0,o,ho,_⟩:=mem_ready.1 hj;have lD:j<ops.size:=(Xl.1 ho).1;have h1:=fZ j lD;have ai8:j<listed.size:=by omega
  simp[ai8]at h0 h1;rw[h0]at h1;cases h1
 |succ fuel ih=>
  intro listed a w ρ fr m ik ai7 gI PT hm vH OV he hf hd;refine⟨λKu=>?_,λj hj=>?_⟩
  .by_cases fZ:∀i,i<ops.size->listed.getD i false=true
   .exact aao fZ PT hm vH OV he hf hd
   .exfalso;have hex:∃i,i<ops.size/\listed.getD i false=false:=by
     apply Classical.byContradiction;intro gE;apply fZ;intro i hi;cases hq:listed.getD i false with
     |true=>rfl
     |false=>exact absurd ⟨i,hi,hq⟩ gE
    have acy:∀b i,i<=b->i<ops.size->listed.getD i false=false->∃j,j<ops.size/\listed.getD j false=false/\∀k,k<j->listed.getD k false=true:=by
     intro b
     induction b with
     |
      zero=>
      intro i hib hi hif;have:i=0:=by omega
      subst this;exact⟨0,hi,hif,λk hk=>by omega⟩
     |succ b ihb=>
      intro i hib hi hif;by_cases hsm:∃k,k<i/\listed.getD k false=false
      .obtain⟨k,hk,hkf⟩:=hsm;exact ihb k (by omega) (by omega) hkf
      .refine⟨i,hi,hif,λk hk=>?_⟩;cases hq:listed.getD k false with
       |true=>rfl
       |false=>exact absurd ⟨k,hk,hq⟩ hsm
    obtain⟨i,hi,hif⟩:=hex;obtain⟨j,hj,Va,ai9⟩:=acy i i (Yq _) hi hif;have ho:ops[j]?=some ops[j]:=Xf hj;have:j∈Region.ready .any ops listed:=mem_ready.2 ⟨by
     have lD:j<listed.size:=by omega
     simp[lD]at Va|-;exact Va,ops[j],ho,λe hee hb=>ai9 e.on (hr.back j _ ho e hee hb)⟩
    rw[Ku]at this;cases this
  .obtain⟨AR,o,ho,acz⟩:=mem_ready.1 hj;have lD:j<ops.size:=(Xl.1 ho).1;have Ir:j<listed.size:=by omega
   have Va:listed.getD j false=false:=by simp[Ir]at AR|-;exact AR
   have hpr:∀o',ops[j]?=some o'->∀e∈o'.after,Region.binds .any e=true->listed.getD e.on false=true:=λo' lV e hee hb=>by
    rw[ho]at lV;cases lV;exact acz e hee hb
   have aap:∀t∈o.looksAt ops,fr[t]?=(S j).1[t]?:=λt ht=>by
    refine PT.unique (aeE j (by omega)) λi oi hi acA=>?_
    by_cases tC:i=j
    .subst tC;simp;simpa using Va
    .rcases hr.look i j oi o t tC hi ho acA ht with⟨du,aeF⟩|⟨du,aeG⟩
     .have:=Ug gI aeF hpr;simp[du];simpa using this
     .have BT:listed.getD i false=false:=by
       cases hq:listed.getD i false with
       |false=>rfl
       |true=>have:=hmb gI aeG hq;rw[Va]at this;cases this
      have:¬i<j:=by omega
      simp[this];simpa using BT
   have dH:∀x∈o.op.operands,ev C fr x=ev C (S j).1 x:=λx hx=>by
    cases x with
    |tmp t=>
     have ht:t∈o.looksAt ops:=Zx _ (List.mem_filterMap.2 ⟨.tmp t,by simpa using hx,rfl⟩);simp only[ev,List.getD,aap t ht]
    |_=>rfl
   have Uh:jd ops fr o=jd ops (S j).1 o:=by
    unfold jd;cases hg:o.guard with
    |none=>rfl
    |some q=>
     obtain⟨g,wt⟩:=q;simp only;cases acA:(ops[g]?).bind (·.dst)with
     |none=>rfl
     |some d=>
      have ht:d∈o.looksAt ops:=Zk _ (by simp[hg,acA]);simp only[aap d ht]
   have mX:dz C o=true->(S m).2=(S j).2:=λIu=>by
    by_cases hmj:m<=j
    .have:=j8 m (j-m) (by omega) (λk ok h1 h2 h3=>by
      cases hq:dz C ok with
      |false=>rfl
      |
       true=>
       have Vb:k≠j:=by omega
       rcases hr.heap k j ok o Vb h3 ho hq Iu with⟨_,Ui⟩|⟨du,_⟩
       .have h4:=Ug gI Ui hpr;have:=(OV k ok h3 hq).2 h4;omega
       .omega)
     rw[<-this,show m+(j-m)=j by omega]
    .have:=j8 j (m-j) (by omega) (λk ok h1 h2 h3=>by
      cases hq:dz C ok with
      |false=>rfl
      |
       true=>
       have h4:=(OV k ok h3 hq).1 (by omega);by_cases Vb:k=j
       .subst Vb;rw[Va]at h4;cases h4
       .rcases hr.heap k j ok o Vb h3 ho hq Iu with⟨du,_⟩|⟨_,Uj⟩
        .omega
        .have:=hmb gI Uj h4;rw[Va]at this;cases this)
     rw[show j+(m-j)=m by omega]at this;exact this
   have hmJ:m<=J:=by
    by_cases hJs:J<ops.size
    .have hoJ:ops[J]?=some ops[J]:=Xf hJs;apply Classical.byContradiction;intro du;have h1:=(OV J _ hoJ (hJc _ hoJ)).1 (by omega);rw[vH hJs]at h1;cases h1
    .omega
   by_cases hjJ:j=J
   .subst hjJ;obtain⟨hwJ,u,hP,haJ,hQJ⟩:=hpn o ho;have hhp:=mX (hJc o ho);rw[<-hhp,<-xN dH]at haJ;rw[<-Uh]at hwJ;exact DR hT cW ho he.uj hf hwJ haJ λw' ρ' he' Dp=>hQJ a w' ρ' (he.trans he') (PT.ud Dp) hd
   have U5:¬bad j:=λhb=>by
    rcases hbJ j hb with q|q
    .exact hjJ q
    .by_cases hJs:J<ops.size
     .have h1:=Ug gI q hpr;rw[vH hJs]at h1;cases h1
     .have:=q.lt hr;omega
   obtain⟨hput,ft,xw⟩:=jn (hS j o ho U5);have hRj:=hR j o ho U5;have aja:(listed.setIfInBounds j true).size=ops.size:=by simpa using ik
   have aeH:N_ (listed.setIfInBounds j true).toList<=fuel:=by
    have h1:=Mr listed.toList j (by
     have:listed[j]=false:=by simpa[Ir]using Va
     simp[Ir,this])
    rw[Array.toList_setIfInBounds];omega
   have aaU:∀(j':Nat)(o':Oper),ops[j']?=some o'->(listed.setIfInBounds j true).getD j' false=true->∀e∈o'.after,Region.binds .any e=true->(listed.setIfInBounds j true).getD e.on false=true:=by
    intro j' o' lV hl e hee hb;rw[jo Ir]at hl;by_cases hjj:j'=j
    .subst hjj;exact getD_set_true (hpr o' lV e hee hb)
    .rw[cv hjj]at hl;exact getD_set_true (gI j' o' lV hl e hee hb)
   have ajb:KD ops (S 0).1 R (λi=>(listed.setIfInBounds j true).getD i false) (ql o fr (R j)):=PT.put hr ho λi=>jo Ir i
   have next:∀(m':Nat)(h':Hp),m'<=ops.size->h'=(S m').2->(∀(k:Nat)(ok:Oper),ops[k]?=some ok->dz C ok=true->(k<m'↔(listed.setIfInBounds j true).getD k false=true))->
    ((jd ops fr o=some true/\qj C call (ev C fr) (S m).2 o=some (R j,h'))\/(jd ops fr o=some false/\R j= .un/\h'=(S m).2))->wpOp C.P ops Q j (wpAny C.P .any ops Q fuel (listed.setIfInBounds j true)) a w:=by
    intro m' h' vV hh' ajc tO;subst hh';refine Io hT cW ho he.uj hf (by rw[hR j o ho U5];exact xw) tO λv w' ρ' he' Dp hdf=>?_
    exact ih _ _ w' ρ' _ m' aja aeH aaU ajb vV (λhJs=>by rw[jo Ir,cv (Ne.symm hjJ)];exact vH hJs) ajc (he.trans he') Dp (hdf.trans hd)
   have stay:dz C o=false->∀(k:Nat)(ok:Oper),ops[k]?=some ok->dz C ok=true->(k<m↔(listed.setIfInBounds j true).getD k false=true):=by
    intro hnc k ok hk hq;have Vb:k≠j:=λe=>by subst e;rw[ho]at hk;cases hk;rw[hnc]at hq;cases hq
    rw[jo Ir,cv Vb];exact OV k ok hk hq
   by_cases aeI:dz C o=true
   .have Iu:=aeI;have hhp:=mX Iu;refine next (j+1) _ (by omega) rfl ?_ ?_
    .intro k ok hk hq;rw[jo Ir];by_cases Vb:k=j
     .subst Vb;simp
     .rw[cv Vb];rcases hr.heap k j ok o Vb hk ho hq Iu with⟨du,Ui⟩|⟨du,Uj⟩
      .have:=Ug gI Ui hpr;exact⟨λ_=>this,λ_=>by omega⟩
      .refine⟨λh1=>by omega,λh1=>?_⟩;have:=hmb gI Uj h1;rw[Va]at this;cases this
    .rw[hhp,Uh,xN dH,hRj];exact ft
   .have hnc:dz C o=false:=by simpa using aeI
    refine next m _ hm rfl (stay hnc) ?_
    rw[Uh,xN dH,hRj];rcases ft with⟨h1,h2⟩|⟨h1,h2,h3⟩
    .left;refine⟨h1,?_⟩;by_cases Iu:oF C o=true
     .have hms:=qS (ops:=ops) ops.toList [] (by simp) (λj i h=>by simp at h);rw[<-hRj];refine SF j o ho U5 hnc Iu h1 m hm hmJ λi oi hi L8=>⟨λhb=>?_,λhb=>?_⟩
      .exact(OV i oi hi L8).2 (Ug gI (hms j i hb) hpr)
      .have BT:listed.getD i false=false:=by
        cases hq:listed.getD i false with
        |false=>rfl
        |true=>have:=hmb gI (hms i j hb) hq;rw[Va]at this;cases this
       have:¬i<m:=λdu=>by rw[(OV i oi hi L8).1 du]at BT;cases BT
       omega
     .exact Ue (by simpa using Iu) h2 _
    .exact .inr ⟨h1,h2,rfl⟩
def Fl{C:Cx}{ops:Array Oper}{m:Nat}(hm:m<ops.size):cc C ops (m+1)=cc C ops m+if dz C ops[m]=true then 1 else 0:=by
 unfold cc;rw[List.take_succ_eq_append_getElem (by simpa using hm),List.filter_append,Zu]
 congr 1
 simp only[Array.getElem_toList,List.filter_cons,List.filter_nil];split<;>rfl
def zr{C:Cx}{ops:Array Oper}:∀(d m:Nat),m+d<=ops.size->cc C ops (m+d)=cc C ops m->∀(k:Nat)(o:Oper),m<=k->k<m+d->ops[k]?=some o->dz C o=false
 |0,m,_,_,k,o,h1,h2,_=>by omega
 |
  d+1,m,cP,he,k,o,h1,h2,ho=>by
  have ft:=Fl (C:=C) (ops:=ops) (m:=m+d) (by omega);have vK:∀d',m+d'<=ops.size->cc C ops m<=cc C ops (m+d'):=by
   intro d'
   induction d' with
   |zero=>intro _;exact Yq _
   |succ d' ih=>
    intro h;have:=Fl (C:=C) (ops:=ops) (m:=m+d') (by omega);rw[<-Nat.add_assoc,this];exact Yj (ih (by omega)) (Nat.le_add_right _ _)
  have h3:=vK d (by omega);rw[<-Nat.add_assoc]at he;rw[he]at ft;by_cases hc:dz C ops[m+d]=true
  .rw[cw hc]at ft;omega
  .rw[cv hc]at ft;by_cases hk:k=m+d
   .subst hk;rw[Xf (by omega)]at ho;cases ho;simpa using hc
   .exact zr d m (by omega) (by omega) k o h1 (by omega) ho
def canon{C:Cx}{ops:Array Oper}:∀m,m<=ops.size->∃m0,m0<=m/\cc C ops m0=cc C ops m/\(m0=0\/∃o',ops[m0-1]?=some o'/\dz C o'=true)/\∀(k:Nat)(o:Oper),m0<=k->k<m->ops[k]?=some o->dz C o=false
 |0,_=>⟨0,Yq _,rfl,.inl rfl,λk o h1 h2=>by omega⟩
 |
  m+1,hm=>by
  have hmm:m<ops.size:=by omega
  have ft:=Fl (C:=C) (ops:=ops) (m:=m) (by omega);by_cases hc:dz C ops[m]=true
  .exact⟨m+1,Yq _,rfl,.inr ⟨ops[m]'hmm,by simp,hc⟩,λk o h1 h2=>by omega⟩
  .obtain⟨m0,h1,h2,h3,h4⟩:=canon (C:=C) (ops:=ops) m (by omega);rw[cv hc]at ft;refine⟨m0,by omega,by omega,h3,λk o k1 k2 ho=>?_⟩;by_cases hk:k=m
   .rw[hk,Xf (show m<ops.size by omega)]at ho;simp only[Zc]at ho;rw[<-ho];simpa using hc
   .exact h4 k o k1 (by omega) ho
def KF{C:Cx}{ops:Array Oper}{i:Nat}(h:(zP C ops).testBit i=true):D8 C ops i=true:=by
 have key:∀(l:List Nat)(s:Nat),(l.foldl (λs i=>cond (D8 C ops i) (s|||2^i) s) s).testBit i=true->s.testBit i=true\/D8 C ops i=true:=by
  intro l
  induction l with
  |nil=>exact λs h=> .inl h
  |cons k l ih=>
   intro s h;rcases ih _ h with h1|h1
   .simp only at h1;cases hk:D8 C ops k with
    |false=>rw[hk]at h1;exact .inl h1
    |
     true=>
     rw[hk]at h1;simp only[cond_true,Nat.testBit_or,Yx,Nat.testBit_two_pow,Zy]at h1;rcases h1 with h1|h1
     .exact .inl h1
     .subst h1;exact .inr hk
   .exact .inr h1
 rcases key _ 0 h with h1|h1
 .simp at h1
 .exact h1
def DT{C:Cx}{ops:Array Oper}{i:Nat}(h:D8 C ops i=true):∃o,ops[i]?=some o/\dz C o=true:=by
 unfold D8 at h;split at h
 .rename_i o ho;exact⟨o,ho,h⟩
 .cases h
def xt{C:Cx}{ops:Array Oper}{ms:List Nat}{j m:Nat}(hm:m<=ops.size)(h:∀(i:Nat)(oi:Oper),ops[i]?=some oi->dz C oi=true->((ms.getD j 0).testBit i=true->i<m)/\((ms.getD i 0).testBit j=true->m<=i)):wT C ops ms j m=true:=by
 unfold wT;rw[Zh];constructor
 .refine Nat.ble_eq_true_of_le ?_;unfold adr;cases hq:Nat.beq (ms.getD j 0 &&& zP C ops) 0 with
  |true=>exact Yt _
  |
   false=>
   have gE:ms.getD j 0 &&& zP C ops≠0:=λe=>by rw[e]at hq;cases hq
   have hb:=Nat.testBit_log2 gE;rw[Nat.testBit_and,Zh]at hb;obtain⟨o,ho,hc⟩:=DT (KF hb.2);exact(h _ o ho hc).1 hb.1
 .refine Nat.ble_eq_true_of_le ?_;unfold ads;cases hf:(List.range ops.size).find? λi=>D8 C ops i && (ms.getD i 0).testBit j with
  |none=>exact hm
  |some i=>
   have hp:=List.find?_some hf;rw[Zh]at hp;obtain⟨o,ho,hc⟩:=DT hp.1;exact(h i o ho hc).2 hp.2
def KG(hm:C.P.follows .mixedOrders=true)(hT:∀t i,C.T t=some i->ir C.P t=some i)(cW:jm C call)(gh:∀g xs h r h',C.inl g=false->call g xs h=some (r,h')->h'=h)(hr:J1 C ops=true){s s':St}{tT:List St}(jV:j_ C call ops ops.toList s=some tT)(j8:(needs C ops).all (sameAt C call ops tT)=true)(SE:tT[ops.size]?=some s'){X:Nat->Prop}{w:World}{ρ:Nat->Nat}{a:Act}(hs:ia C.G w X ρ s.2)(hf:RF w (dZ X ρ s.2) ρ s.2.length a.tmps s.1){id:Nat}{Q:Exit->Act->World->Prop}(hQ:∀a' w' ρ',Ext C.G w X ρ s.2 w' ρ' s'.2->RF w' (dZ X ρ' s'.2) ρ' s'.2.length a'.tmps s'.1->a'.defers=a.defers->Q .normal a' w'):(Code.region id ops true).wp C.P Q a w:=by
 obtain⟨S,e0,el,e1,e2⟩:=tj _ s tT jV;rw[Yu]at e1;have eL:S ops.size=s':=by
  have:=e1 ops.size (Yq _);rw[SE]at this;exact(Option.some.inj this).symm
 have hS:∀(k:Nat)(o:Oper),ops[k]?=some o->step1 C call ops o (S k)=some (S (k+1)):=λk o hk=>e2 k o (by simpa using hk)
 have A9:∀i d,i+d<=ops.size->(∀(k:Nat)(o:Oper),i<=k->k<i+d->ops[k]?=some o->dz C o=false)->(S (i+d)).2=(S i).2:=by
  intro i d
  induction d with
  |zero=>intro _ _;rfl
  |succ d ih=>
   intro cP v_;have ho:ops[i+d]?=some ops[i+d]:=Xf (by omega);have h1:=(jn (hS (i+d) _ ho)).2.1;have h2:=ih (by omega) (λk o h1 h2 h3=>v_ k o h1 (by omega) h3);rcases h1 with⟨_,ha⟩|⟨_,_,ha⟩
   .have:=lT gh (v_ (i+d) _ (by omega) (by omega) ho) ha;rw[show i+(d+1)=i+d+1 by omega,this,h2]
   .rw[show i+(d+1)=i+d+1 by omega,ha,h2]
 have sF:∀i k,i<=k->k<=ops.size->cc C ops i=cc C ops k->(S k).2=(S i).2:=by
  intro i k h1 h2 h3;have:=A9 i (k-i) (by omega) (λq o q1 q2 q3=>zr (k-i) i (by omega) (by rw[show i+(k-i)=k by omega];exact h3.symm) q o q1 q2 q3)
  rwa [show i+(k-i)=k by omega]at this
 have SF:∀(j:Nat)(o:Oper),ops[j]?=some o->dz C o=false->oF C o=true->jd ops (S j).1 o=some true->∀m,m<=ops.size->
  (∀(i:Nat)(oi:Oper),ops[i]?=some oi->dz C oi=true->(((kN ops.toList []).getD j 0).testBit i=true->i<m)/\(((kN ops.toList []).getD i 0).testBit j=true->m<=i))->qj C call (ev C (S j).1) (S m).2 o=some (wa C call ops o (S j),(S m).2):=by
  intro j o ho hc ht hw m vV wb;have hj:j<ops.size:=(Xl.1 ho).1;have ft:=jn (hS j o ho);have haj:qj C call (ev C (S j).1) (S j).2 o=some (wa C call ops o (S j),(S j).2):=by
   rcases ft.2.1 with⟨_,h2⟩|⟨h1,_⟩
   .have:=lT gh hc h2;rw[this]at h2;exact h2
   .rw[hw]at h1;cases h1
  obtain⟨m0,c1,c2,c3,c4⟩:=canon (C:=C) (ops:=ops) m vV;have F2:=sF m0 m c1 vV c2;rw[F2];by_cases A_:cc C ops m0=cc C ops j
  .have:(S m0).2=(S j).2:=by
    by_cases cP:m0<=j
    .exact(sF m0 j cP (by omega) A_).symm
    .exact sF j m0 (by omega) (by omega) A_.symm
   rw[this];exact haj
  .rw[Yp]at j8;have hmr:wT C ops (kN ops.toList []) j m0=true:=by
    refine xt (by omega) λi oi hi L8=>⟨λhb=>?_,λhb=>?_⟩
    .have h5:=(wb i oi hi L8).1 hb;apply Classical.byContradiction;intro du;have:=c4 i oi (by omega) h5 hi;rw[L8]at this;cases this
    .have:=(wb i oi hi L8).2 hb;omega
   have hmz:nP C ops m0=true:=by
    unfold nP;rcases c3 with rfl|⟨o',h3,h4⟩
    .rfl
    .rw[h3];simp[h4]
   have dB:(j,m0)∈needs C ops:=by
    unfold needs;refine List.mem_flatMap.2 ⟨j,by simpa using hj,?_⟩;rw[ho];simp only[hc,ht,Bool.false_or,Bool.not_true,Yl,if_false];refine List.mem_filterMap.2 ⟨m0,by simp;omega,?_⟩;have U5:Nat.beq (cc C ops m0) (cc C ops j)=false:=by
     cases hq:Nat.beq (cc C ops m0) (cc C ops j)with
     |false=>rfl
     |true=>exact absurd (Nat.eq_of_beq_eq_true hq) A_
    simp only[U5,hmz,hmr,Bool.not_true,Bool.or_self,Yl,if_false]
   have h2:=j8 _ dB;simp only[sameAt,ho,e1 j (by omega),hw,e1 m0 (by omega),haj]at h2;split at h2
   .rename_i v' h' hav;have:=BA h2;have hh:=lT gh hc hav;rw[hav,this,hh]
   .cases h2
 have he:=pC hs (w.drawn+1);refine wp_region_any hm ?_;have gI:∀i,(Array.replicate ops.size false).getD i false=false:=λi=>by
  by_cases h:i<ops.size<;>simp[h]
 have v_:∀o,ops[ops.size]?≠some o:=λo=>by simp
 refine Ba (S:=S) (R:=λk=>match ops[k]? with|some o=>wa C call ops o (S k)|none=> .ud) (w0:=w) (ρ0:=ρ) (d0:=a.defers) hT cW gh (Bb hr) (J:=ops.size) (bad:=λ_=>False) (λk h=>h.elim) (λh=>by omega) (λo ho=>absurd ho (v_ o)) (λk o hk _=>hS k o hk) (λk o _ h=>h.elim) (λk o hk _=>by simp only[hk]) (λk o _ h=>h.elim)
  (λj o ho _ hc ht hw m vV _ wb=>by simp only[ho];exact SF j o ho hc ht hw m vV wb)
  (λ_ a' w' ρ' h1 h2 h3=>hQ a' w' ρ' (by rw[e0,eL]at h1;exact h1) (by rw[eL]at h2;exact h2) h3) (λo ho=>absurd ho (v_ o)) ops.size _ a _ ρ s.1 0 (by simp) ?_ ?_ ?_ (Yt _) (λh=>by omega) ?_ (by rw[e0];exact he) (by rw[e0];exact he.rf hf) rfl
 .simp only[N_,Array.toList_replicate];exact Yj (List.length_filter_le _ _) (by simp)
 .intro j o _ hl;rw[gI]at hl;cases hl
 .rw[e0];refine⟨rfl,λi o t hi ht du=>?_,λt _=>rfl⟩;rw[gI];simp[List.getD,Zb du]
 .intro k o _ _;rw[gI];simp
def YN{j m:Nat}{o:Oper}(ho:ops[j]?=some o)(hc:dz C o=false)(ht:oF C o=true)(vV:m<=ops.size)(wb:∀(i:Nat)(oi:Oper),ops[i]?=some oi->dz C oi=true->(((kN ops.toList []).getD j 0).testBit i=true->i<m)/\(((kN ops.toList []).getD i 0).testBit j=true->m<=i)):
 ∃m0,m0<=m/\cc C ops m0=cc C ops m/\(cc C ops m0=cc C ops j\/(j,m0)∈needs C ops):=by
 have hj:j<ops.size:=(Xl.1 ho).1;obtain⟨m0,c1,c2,c3,c4⟩:=canon (C:=C) (ops:=ops) m vV;refine⟨m0,c1,c2,?_⟩;by_cases A_:cc C ops m0=cc C ops j
 .exact .inl A_
 .refine .inr ?_;have hmr:wT C ops (kN ops.toList []) j m0=true:=by
   refine xt (by omega) λi oi hi L8=>⟨λhb=>?_,λhb=>?_⟩
   .have h5:=(wb i oi hi L8).1 hb;apply Classical.byContradiction;intro du;have:=c4 i oi (by omega) h5 hi;rw[L8]at this;cases this
   .have:=(wb i oi hi L8).2 hb;omega
  have hmz:nP C ops m0=true:=by
   unfold nP;rcases c3 with rfl|⟨o',h3,h4⟩
   .rfl
   .rw[h3];simp[h4]
  unfold needs;refine List.mem_flatMap.2 ⟨j,by simpa using hj,?_⟩;rw[ho];simp only[hc,ht,Bool.false_or,Bool.not_true,Yl,if_false];refine List.mem_filterMap.2 ⟨m0,by simp;omega,?_⟩;have U5:Nat.beq (cc C ops m0) (cc C ops j)=false:=by
   cases hq:Nat.beq (cc C ops m0) (cc C ops j)with
   |false=>rfl
   |true=>exact absurd (Nat.eq_of_beq_eq_true hq) A_
  simp only[U5,hmz,hmr,Bool.not_true,Bool.or_self,Yl,if_false]
def Uk(hm:C.P.follows .mixedOrders=true)(hT:∀t i,C.T t=some i->ir C.P t=some i)(cW:jm C call)(gh:∀g xs h r h',C.inl g=false->call g xs h=some (r,h')->h'=h)(hr:J1 C ops=true){s:St}{v:Value}{hP:Hp}(hd:aeD C call ops s v hP){X:Nat->Prop}{w:World}{ρ:Nat->Nat}{a:Act}(hs:ia C.G w X ρ s.2)(hf:RF w (dZ X ρ s.2) ρ s.2.length a.tmps s.1){id:Nat}{Q:Exit->Act->World->Prop}(hQ:∀a' w' ρ',Ext C.G w X ρ s.2 w' ρ' hP->RF w' (dZ X ρ' hP) ρ' hP.length a'.tmps (ZK ops.toList s.1)->a'.defers=a.defers->Q (.panic [{v,recovered:=false}]) a' w'):(Code.region id ops true).wp C.P Q a w:=by
 obtain⟨J,oJ,sj,s2,h1,h2,h3,h4,h5,h6,h7⟩:=hd;have hJ:J<ops.size:=(Xl.1 h1).1;obtain⟨S1,a0,aJ,aS⟩:=BF _ _ _ h2;obtain⟨S2,b0,bS⟩:=BG _ _ _ h7;have ajd:(ops.toList.take J).length=J:=by rw[Xa,Yu];omega
 rw[ajd]at aJ;have kq:∀k o,J<k->ops[k]?=some o->(KW ops J)[k-(J+1)]?=some (o,((kN ops.toList []).getD k 0).testBit J):=λk o hk ho=>by
  have lV:ops.toList[k]?=some o:=by simpa using ho
  unfold KW;rw[Zs,Xj,List.getElem?_zipIdx,show J+1+(k-(J+1))=k by omega,lV];simp
 obtain⟨S,eS⟩:∃S:Nat->St,∀k,S k=if k<=J then S1 k else S2 (k-(J+1)):=⟨_,λ_=>rfl⟩
 obtain⟨bad,eb⟩:∃bad:Nat->Prop,∀k,bad k↔(k=J\/(J<k/\((kN ops.toList []).getD k 0).testBit J=true)):=⟨_,λ_=>Iff.rfl⟩;have e0:S 0=s:=by rw[eS,cw (Yt _),a0]
 have eJ:S J=sj:=by rw[eS,cw (Yq _),aJ]
 have hS:∀(k:Nat)(o:Oper),ops[k]?=some o->¬bad k->step1 C call ops o (S k)=some (S (k+1)):=λk o ho hb=>by
  rw[eb]at hb;by_cases hk:k<J
  .rw[eS,eS,cw (by omega),cw (by omega)];refine aS k o ?_;rw[List.getElem?_take_of_lt hk];simpa using ho
  .have kD:J<k:=by omega
   have:=bS _ _ _ (kq k o kD ho);rw[cv (λq=>hb (.inr ⟨kD,q⟩))]at this;rw[eS,eS,cv (by omega),cv (by omega),show k+1-(J+1)=k-(J+1)+1 by omega];exact this
 have hB:∀(k:Nat)(o:Oper),ops[k]?=some o->bad k->S (k+1)=S k:=λk o ho hb=>by
  rw[eb]at hb;rcases hb with rfl|⟨hk,hb⟩
  .rw[eS,eS,cv (by omega),cw (Yq _),Nat.sub_self,b0,aJ]
  .have:=bS _ _ _ (kq k o hk ho);rw[cw hb]at this;rw[eS,eS,cv (by omega),cv (by omega),show k+1-(J+1)=k-(J+1)+1 by omega];exact this
 have A9:∀i d,i+d<=ops.size->(∀(k:Nat)(o:Oper),i<=k->k<i+d->ops[k]?=some o->dz C o=false)->(S (i+d)).2=(S i).2:=by
  intro i d
  induction d with
  |zero=>intro _ _;rfl
  |succ d ih=>
   intro cP v_;have ho:ops[i+d]?=some ops[i+d]:=Xf (by omega);have h2:=ih (by omega) (λk o h1 h2 h3=>v_ k o h1 (by omega) h3);by_cases hb:bad (i+d)
   .rw[show i+(d+1)=i+d+1 by omega,hB (i+d) _ ho hb,h2]
   have h1:=(jn (hS (i+d) _ ho hb)).2.1;rcases h1 with⟨_,ha⟩|⟨_,_,ha⟩
   .have:=lT gh (v_ (i+d) _ (by omega) (by omega) ho) ha;rw[show i+(d+1)=i+d+1 by omega,this,h2]
   .rw[show i+(d+1)=i+d+1 by omega,ha,h2]
 have sF:∀i k,i<=k->k<=ops.size->cc C ops i=cc C ops k->(S k).2=(S i).2:=by
  intro i k h1 h2 h3;have:=A9 i (k-i) (by omega) (λq o q1 q2 q3=>zr (k-i) i (by omega) (by rw[show i+(k-i)=k by omega];exact h3.symm) q o q1 q2 q3)
  rwa [show i+(k-i)=k by omega]at this
 have hms:=qS (ops:=ops) ops.toList [] (by simp) (λj i h=>by simp at h);have he:=pC hs (w.drawn+1);refine wp_region_any hm ?_;have gI:∀i,(Array.replicate ops.size false).getD i false=false:=λi=>by
  by_cases h:i<ops.size<;>simp[h]
 refine Ba (S:=S) (R:=λk=>match ops[k]? with|some o=>(open Classical in if bad k then(match o.dst with|some d=>(S 0).1.getD d .ud|none=> .ud)else wa C call ops o (S k))|none=> .ud) (w0:=w) (ρ0:=ρ) (d0:=a.defers) hT cW gh (Bb hr) (J:=J) (bad:=bad) ?_ (λ_=>(eb J).2 (.inl rfl)) (λo ho=>?_) hS hB (λk o hk hb=>by simp only[hk,cv hb]) (λk o hk hb d hd=>by simp only[hk,cw hb,hd])
  (λj o ho hb hc ht hw m vV hmJ wb=>?_)
  (λh=>by omega) (λo ho=>?_) ops.size _ a _ ρ s.1 0 (by simp) ?_ ?_ ?_ (Yt _) (λ_=>gI J) ?_ (by rw[e0];exact he) (by rw[e0];exact he.rf hf) rfl
 .intro k hb;rcases(eb k).1 hb with q|⟨_,q⟩
  .exact .inl q
  .exact .inr (hms k J q)
 .rw[h1]at ho;cases ho;exact h3
 .simp only[ho,cv hb];have hj:j<ops.size:=(Xl.1 ho).1;have haj:qj C call (ev C (S j).1) (S j).2 o=some (wa C call ops o (S j),(S j).2):=by
   rcases(jn (hS j o ho hb)).2.1 with⟨_,h2⟩|⟨h1,_⟩
   .have:=lT gh hc h2;rw[this]at h2;exact h2
   .rw[hw]at h1;cases h1
  obtain⟨m0,c1,c2,c3⟩:=YN ho hc ht vV wb;rw[sF m0 m c1 vV c2];rcases c3 with A_|dB
  .have:(S m0).2=(S j).2:=by
    by_cases cP:m0<=j
    .exact(sF m0 j cP (by omega) A_).symm
    .exact sF j m0 (by omega) (by omega) A_.symm
   rw[this];exact haj
  .have:=h4 _ dB;exact absurd this (by simp only;omega)
 .rw[h1]at ho;cases ho;rw[eJ];refine⟨h5,v,hP,h6,λa' w' ρ' k1 k2 k3=>hQ a' w' ρ' ?_ ?_ k3⟩
  .rw[e0]at k1;exact k1
  .rw[e0]at k2;exact k2
 .simp only[N_,Array.toList_replicate];exact Yj (List.length_filter_le _ _) (by simp)
 .intro j o _ hl;rw[gI]at hl;cases hl
 .rw[e0];refine⟨rfl,λi o t hi ht du=>?_,λt _=>rfl⟩;rw[gI];simp[List.getD,Zb du]
 .intro k o _ _;rw[gI];simp
end draw
end Go.Ae
