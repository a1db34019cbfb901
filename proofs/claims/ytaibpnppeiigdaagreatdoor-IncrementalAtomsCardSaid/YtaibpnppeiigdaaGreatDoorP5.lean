/- Part of the proof. -/
import Derived.Test.YtaibpnppeiigdaaGreatDoorP4
set_option linter.all false
namespace Go.Ae
open Go
def Sd (v u:Value)(h:rZ v u=true):v=u:=by
 unfold rZ at h;split at h
 .rw[eq_of_beq h]
 .simp only[Zh,Zz]at h;rw[h.1,h.2]
 .rw[(MapKept.bytes_beq _ _).1 h]
 .rfl
 .rfl
 .rfl
 .rfl
 .rfl
 .cases h
mutual
def CT :∀{x y:AV},jI x y=true->x=y
 |
  .sc v,y,h=>by
  cases y<;>simp[jI]at h;rw[Sd _ _ h]
 |
  .sl a b c d k,y,h=>by
  cases y<;>simp[jI]at h;obtain⟨⟨⟨⟨rfl,rfl⟩,rfl⟩,rfl⟩,rfl⟩:=h;rfl
 |
  .pt a b,y,h=>by
  cases y<;>simp[jI]at h;obtain⟨rfl,rfl⟩:=h;rfl
 |
  .mp a,y,h=>by
  cases y<;>simp[jI]at h;subst h;rfl
 |
  .ls sz cY z,y,h=>by
  cases y<;>simp[jI]at h;obtain⟨⟨rfl,rfl⟩,h3⟩:=h;rw[CU h3]
 |
  .rp row j,y,h=>by
  cases y<;>simp[jI]at h;obtain⟨rfl,h3⟩:=h;rw[nK h3]
 |
  .fn f xs,y,h=>by
  cases y<;>simp[jI]at h;obtain⟨rfl,h3⟩:=h;rw[nK h3]
 |
  .ag xs,y,h=>by
  cases y<;>simp[jI]at h;rw[nK h]
 |
  .tp xs,y,h=>by
  cases y<;>simp[jI]at h;rw[nK h]
 | .ud,y,h=>by cases y<;>simp[jI]at h
 | .un,y,h=>by cases y<;>simp[jI]at h
 | .pn v,y,h=>by cases y<;>simp[jI]at h
def nK :∀{x y:List AV},mZ x y=true->x=y
 | [],y,h=>by cases y<;>simp[mZ]at h;rfl
 |
  x::xs,y,h=>by
  cases y<;>simp[mZ]at h;rw[CT h.1,nK h.2]
def CU :∀{x y:List (List AV)},tH x y=true->x=y
 | [],y,h=>by cases y<;>simp[tH]at h;rfl
 |
  x::xs,y,h=>by
  cases y<;>simp[tH]at h;rw[nK h.1,CU h.2]
end
def rM {cY:List (List AV)}(h:∀r∈cY,mZ r r=true):tH cY cY=true:=by
 induction cY with
 |nil=>simp[tH]
 |cons r cY ih=>simp[tH,h r (by simp),ih λx hx=>h x (by simp[hx])]
def rok (C:Cx)(ops:Array Oper):Bool:=
 let ms:=nj ops.toList []
 (List.range ops.size).all λj=>match ops[j]? with
  |none=>true
  |
   some oj=>
   (oj.after.toList.all λe=> !Region.binds .any e||decide (e.on<j)) &&
   (List.range ops.size).all λi=>i==j||match ops[i]? with
    |none=>true
    |
     some oi=>
     (match oi.dst with
      |none=>true
      |some d=>oj.dst !=some d && (!(oj.looksAt ops).contains d||ordered ms i j)) &&
     (!(ew C oi && ew C oj)||ordered ms i j)
inductive MB (ops:Array Oper):Nat->Nat->Prop where
 |edge {j:Nat} {o:Oper} {e:Edge}:ops[j]?=some o->e∈o.after->Region.binds .any e=true->MB ops j e.on
 |trans {j i:Nat} {o:Oper} {e:Edge}:ops[j]?=some o->e∈o.after->Region.binds .any e=true->MB ops e.on i->MB ops j i
def CV (acc:List Nat):∀(es:List Edge) (s i:Nat),(es.foldl (λs e=>if Region.binds .any e then s|||2^e.on|||acc.getD e.on 0 else s) s).testBit i=true->
 s.testBit i=true\/∃e∈es,Region.binds .any e=true/\(e.on=i\/(acc.getD e.on 0).testBit i=true)
 | [],s,i,h=> .inl h
 |
  e::es,s,i,h=>by
  simp only[Yl]at h;rcases CV acc es _ i h with h1|⟨e',he,hb,hh⟩
  .by_cases hbd:Region.binds .any e=true
   .rw[dd hbd]at h1;simp only[Nat.testBit_or,Bool.or_eq_true,Nat.testBit_two_pow,Zz]at h1;rcases h1 with(h1|h1)|h1
    .exact .inl h1
    .exact .inr ⟨e,by simp,hbd,.inl h1⟩
    .exact .inr ⟨e,by simp,hbd,.inr h1⟩
   .rw[db hbd]at h1;exact .inl h1
  .exact .inr ⟨e',by simp[he],hb,hh⟩
def s4 {ops:Array Oper}:∀(rest:List Oper) (acc:List Nat),ops.toList.drop acc.length=rest->(∀j i,(acc.getD j 0).testBit i=true->MB ops j i)->∀j i,((nj rest acc).getD j 0).testBit i=true->MB ops j i
 | [],acc,_,abH,j,i,h=>abH j i h
 |
  o::rest,acc,hd,abH,j,i,h=>by
  refine s4 rest (acc++[Tb acc o]) ?_ ?_ j i h
  .rw[Zu,Xf,<-List.drop_drop,hd];rfl
  .intro j i h;have ho:ops[acc.length]?=some o:=by
    have:(ops.toList.drop acc.length)[0]?=some o:=by rw[hd];rfl
    rw[Xg]at this;simpa using this
   by_cases hj:j<acc.length
   .rw[List.getD,Zd hj]at h;exact abH j i h
   .by_cases WZ:j=acc.length
    .subst WZ;rw[List.getD,Zf (Yt _)]at h;simp only[Nat.sub_self,Yg,Yv]at h;rcases CV acc _ 0 i h with h1|⟨e,he,hb,hh⟩
     .simp at h1
     .rcases hh with rfl|hh
      .exact .edge ho (by simpa using he) hb
      .exact .trans ho (by simpa using he) hb (abH _ i hh)
    .rw[List.getD,Xt (by simp;omega)]at h;simp at h
def CW {ops:Array Oper}{i j:Nat}(eW:i≠j)(h:ordered (nj ops.toList []) i j=true):(i<j/\MB ops j i)\/(j<i/\MB ops i j):=by
 have hs:=s4 (ops:=ops) ops.toList [] (by simp) (λj i h=>by simp at h);unfold ordered at h;split at h
 .rename_i dY;exact .inl ⟨dY,hs j i h⟩
 .exact .inr ⟨by omega,hs i j h⟩
structure Rok (C:Cx)(ops:Array Oper):Prop where
 back:∀(j:Nat) (o:Oper),ops[j]?=some o->∀e∈o.after,Region.binds .any e=true->e.on<j
 dst:∀(i j:Nat) (oi oj:Oper) (d:Tmp),i≠j->ops[i]?=some oi->ops[j]?=some oj->oi.dst=some d->oj.dst≠some d
 look:∀(i j:Nat) (oi oj:Oper) (d:Tmp),i≠j->ops[i]?=some oi->ops[j]?=some oj->oi.dst=some d->d∈oj.looksAt ops->(i<j/\MB ops j i)\/(j<i/\MB ops i j)
 heap:∀(i j:Nat) (oi oj:Oper),i≠j->ops[i]?=some oi->ops[j]?=some oj->ew C oi=true->ew C oj=true->(i<j/\MB ops j i)\/(j<i/\MB ops i j)
def Ko {C:Cx}{ops:Array Oper}(h:rok C ops=true):Rok C ops:=by
 simp only[rok,Yr,List.mem_range]at h;have key:∀j oj,ops[j]?=some oj->(∀e∈oj.after,Region.binds .any e=true->e.on<j)/\∀i oi,i≠j->ops[i]?=some oi->
  (∀d,oi.dst=some d->oj.dst≠some d/\(d∈oj.looksAt ops->ordered (nj ops.toList []) i j=true))/\(ew C oi=true->ew C oj=true->ordered (nj ops.toList []) i j=true):=by
  intro j oj hj;have jU:j<ops.size:=(Xy.1 hj).1;have h1:=h j jU;simp only[hj,Zh,Yr,List.mem_range]at h1;refine⟨λe he hb=>?_,λi oi eW hi=>?_⟩
  .have:=h1.1 e (by simpa using he);simpa[hb]using this
  .have gG:i<ops.size:=(Xy.1 hi).1;have h2:=h1.2 i gG;simp only[hi,Bool.or_eq_true,beq_iff_eq,eW,false_or,Zh]at h2;refine⟨λd hd=>?_,λhc ht=>?_⟩
   .have h3:=h2.1;simp only[hd,Zh,bne_iff_ne,ne_eq,Bool.or_eq_true,Xc,List.contains_eq_mem,decide_eq_false_iff_not]at h3;exact⟨h3.1,λhm=>h3.2.resolve_left (λhn=>hn hm)⟩
   .have h3:=h2.2;simpa[hc,ht]using h3
 exact⟨λj o hj=>(key j o hj).1,λi j oi oj d eW hi hj hd=>(((key j oj hj).2 i oi eW hi).1 d hd).1,
  λi j oi oj d eW hi hj hd hm=>CW eW ((((key j oj hj).2 i oi eW hi).1 d hd).2 hm),λi j oi oj eW hi hj hc ht=>CW eW (((key j oj hj).2 i oi eW hi).2 hc ht)⟩
def Se {C:Cx}{e e':Operand->AV}{h:Hp}{t:TypeId}{m:Nat}:∀{ps:List (Nat × Operand)},(∀p∈ps,e p.2=e' p.2)->mvA C e h t m ps=mvA C e' h t m ps
 | [],_=>rfl
 |
  [(0,.tmp q)],he=>by
  have h0:e (.tmp q)=e' (.tmp q):=he (0,.tmp q) (by simp);unfold mvA;simp only[h0]
 | [(0,.const q)],_=>rfl
 | [(0,.global q)],_=>rfl
 | [(0,.func q)],_=>rfl
 | [(_+1,x)],_=>rfl
 |(0,.tmp _)::_::_,_=>rfl
 |(0,.const _)::_::_,_=>rfl
 |(0,.global _)::_::_,_=>rfl
 |(0,.func _)::_::_,_=>rfl
 |(_+1,_)::_::_,_=>rfl
def Sf {C:Cx}{e e':Operand->AV}{h:Hp}{t:TypeId}{n:Nat}{ps:List (Nat × Operand)}(he:∀p∈ps,e p.2=e' p.2):mvB C e h t n ps=mvB C e' h t n ps:=by
 unfold mvB;simp only[Se he]
def Nn {C:Cx}{call:jH}{fr oC:List AV}{h:Hp}{o:Oper}(he:∀x∈o.op.operands,ev C fr x=ev C oC x):z7 C call (ev C fr) h o=z7 C call (ev C oC) h o:=by
 have ahb:vU C (ev C fr) o=vU C (ev C oC) o:=by
  unfold vU;cases eD:o.op<;>simp only[eD,Op.operands]at he|-
  case binOp op t x y t'=>rw[he x (by simp),he y (by simp)]
  case unOp op t x=>cases op<;>simp only<;>rw[he x (by simp)]
  case convert src dst x=>rw[he x (by simp)]
  case index t x i=>rw[he x (by simp),he i (by simp)]
  case call c=>
   obtain⟨callee,args,yD⟩:=c;have lk:∀x∈args.toList,ev C fr x=ev C oC x:=λx hx=>he x (by simp[Call.operands];exact .inr (by simpa using hx))
   cases callee with
   |value f=>rfl
   |invoke r m=>rfl
   |
    builtin b=>
    cases b<;>simp only
    all_goals
     split
     .first
       |(rename_i hl ht;rw[lk _ (by rw[hl];simp)])
       |(rename_i hl;rw[lk _ (by rw[hl];simp),lk _ (by rw[hl];simp)])
     .rfl
 have ahc:j4 C (ev C fr) o=j4 C (ev C oC) o:=by
  unfold j4;have h1:(o.op.operands.toList.all λx=>zg (ev C fr x))=(o.op.operands.toList.all λx=>zg (ev C oC x)):=by
   rw[Bool.eq_iff_iff,Yr,Yr];exact⟨λhh x hx=>by rw[<-he x (by simpa using hx)];exact hh x hx,λhh x hx=>by rw[he x (by simpa using hx)];exact hh x hx⟩
  rw[h1];split
  .rename_i hc;have ou:∀cs b,o.op≠ .select cs b:=λcs b adD=>by simp[adD,wQ]at hc
   rw[execOp_congr (ρ:=λx=>vD (ev C fr x)) (ρ':=λx=>vD (ev C oC x)) o ou (λx hx=>by simp only[he x hx])]
  .rfl
 have ahd:iI C (ev C fr) o=iI C (ev C oC) o:=by
  unfold iI;rw[ahb,ahc]
 have JG:∀xs:List Operand,(∀x∈xs,x∈o.op.operands)->xs.map (ev C fr)=xs.map (ev C oC):=λxs hx=>List.map_congr_left λx hm=>he x (hx x hm)
 have E1:∀ps:List (Nat × Operand),(∀p∈ps,p.2∈o.op.operands)->(ps.map λp=>(p.1,ev C fr p.2))=ps.map λp=>(p.1,ev C oC p.2):=λps hp=>List.map_congr_left λp hm=>by rw[he p.2 (hp p hm)]
 unfold z7;cases eD:o.op<;>simp only[eD,Op.operands]at he JG E1<;>simp only[ahd]
 case move x=>rw[he x (by simp)]
 case assign x=>rw[he x (by simp)]
 case pick c x y=>rw[he c (by simp),he x (by simp),he y (by simp)]
 case box t x=>rw[he x (by simp)]
 case build t ps=>rw[E1 ps.toList (λp hp=>by simp;exact⟨p.1,by simpa using hp⟩)]
 case buildSlice t n ps=>rw[E1 ps.toList (λp hp=>by simp;exact⟨p.1,by simpa using hp⟩),Sf λp hp=>he p.2 (by simp;exact⟨p.1,by simpa using hp⟩)]
 case load t x=>rw[he x (by simp)]
 case store t x y=>rw[he x (by simp),he y (by simp)]
 case nilCheck x=>rw[he x (by simp)]
 case fieldAddr t x f=>rw[he x (by simp)]
 case indexAddr t x i=>rw[he x (by simp),he i (by simp)]
 case field t x f=>rw[he x (by simp)]
 case index t x i=>rw[he x (by simp),he i (by simp)]
 case extract x i=>rw[he x (by simp)]
 case makeFunc f first pU=>
  cases f<;>simp only[];rw[JG pU.toList (λx hx=>by simp;exact .inr (by simpa using hx))]
 case makeSlice t l c=>rw[he l (by simp),he c (by simp)]
 case binOp op t x y t'=>rw[he x (by simp)]
 case convert src dst x=>rw[he x (by simp)]
 case makeMap t r=>cases r<;>rfl
 case mapUpdate t m k x=>rw[he m (by simp),he k (by simp),he x (by simp)]
 case lookup t m k ok=>rw[he m (by simp),he k (by simp)]
 case panic x=>rw[he x (by simp)]
 case range t x=>rw[he x (by simp)]
 case next x b=>cases b<;>simp only[]<;>rw[he x (by simp)]
 case slice t x lo hi mx=>
  rw[he x (by simp)];have h1:lo.map (ev C fr)=lo.map (ev C oC):=by cases lo<;>simp_all
  have h2:hi.map (ev C fr)=hi.map (ev C oC):=by cases hi<;>simp_all
  have h3:mx.map (ev C fr)=mx.map (ev C oC):=by cases mx<;>simp_all
  rw[h1,h2,h3]
 case call c=>
  obtain⟨callee,args,yD⟩:=c;have lk:∀x∈args.toList,ev C fr x=ev C oC x:=λx hx=>he x (by simp[Call.operands];exact .inr (by simpa using hx))
  cases callee with
  |
   value f=>
   simp only;rw[he f (by simp[Call.operands]),List.map_congr_left lk]
  |invoke r m=>rfl
  |
   builtin b=>
   cases b<;>simp only[]
   all_goals
    split
    .rename_i hl ht
     first
      |(rw[lk _ (by rw[hl];simp),lk _ (by rw[hl];simp)])
      |(rw[lk _ (by rw[hl];simp)])
    .rfl
def Sg {C:Cx}{call:jH}(hk:∀g xs h r h',C.inl g=false->call g xs h=some (r,h')->h'=h){fr:List AV}{h h':Hp}{o:Oper}{r:AV}
 (hc:A4 C o=false) (ho:z7 C call (ev C fr) h o=some (r,h')):h'=h:=by
 unfold z7 at ho;unfold A4 at hc;cases eD:o.op<;>simp only[eD]at ho hc
 all_goals try contradiction
 all_goals try(simp only[Ze,Zc,Zg]at ho)
 all_goals try(obtain⟨_,_,_,rfl⟩:=ho;rfl)
 all_goals try(exact ho.2.symm)
 case pick=>split at ho<;>(first|(cases ho;done)|(simp only[Zc,Zg]at ho;first|(obtain⟨_,_,_,hh⟩:=ho;exact hh.symm)|exact ho.2.symm))
 case build=>split at ho<;>(first|(cases ho;done)|(simp only[Ze,Zg]at ho;first|(obtain⟨_,_,_,hh⟩:=ho;exact hh.symm)|exact ho.2.symm))
 case load=>(repeat' split at ho)<;>(first|(cases ho;done)|(simp only[Ze,Zg]at ho;first|(obtain⟨_,_,_,hh⟩:=ho;exact hh.symm)|exact ho.2.symm))
 case nilCheck=>split at ho<;>(first|(cases ho;done)|(simp only[Zc,Zg]at ho;first|(obtain⟨_,_,_,hh⟩:=ho;exact hh.symm)|exact ho.2.symm))
 case fieldAddr=>(repeat' split at ho)<;>(first|(cases ho;done)|(simp only[Zc,Zg]at ho;first|(obtain⟨_,_,_,hh⟩:=ho;exact hh.symm)|exact ho.2.symm))
 case indexAddr=>(repeat' split at ho)<;>(first|(cases ho;done)|(simp only[Ze,Zc,Zg]at ho;first|(obtain⟨_,_,_,hh⟩:=ho;exact hh.symm)|exact ho.2.symm))
 case field=>(repeat' split at ho)<;>(first|(cases ho;done)|(simp only[Ze,Zg]at ho;first|(obtain⟨_,_,_,hh⟩:=ho;exact hh.symm)|exact ho.2.symm))
 case index=>(repeat' split at ho)<;>(first|(cases ho;done)|(simp only[Ze,Zg]at ho;first|(obtain⟨_,_,_,hh⟩:=ho;exact hh.symm)|exact ho.2.symm))
 case extract=>split at ho<;>(first|(cases ho;done)|(simp only[Ze,Zg]at ho;first|(obtain⟨_,_,_,hh⟩:=ho;exact hh.symm)|exact ho.2.symm))
 case slice=>(repeat' split at ho)<;>(first|(cases ho;done)|(simp only[Ze,Zg]at ho;first|(obtain⟨_,_,_,hh⟩:=ho;exact hh.symm)|exact ho.2.symm))
 case binOp=>(repeat' split at ho)<;>(first|(cases ho;done)|(simp only[Ze,Zc,Zg]at ho;first|(obtain⟨_,_,_,hh⟩:=ho;exact hh.symm)|exact ho.2.symm))
 case convert=>
  simp only[hc,Yq,if_false]at ho
  (repeat' split at ho)<;>(first|(cases ho;done)|(simp only[Ze,Zg]at ho;first|(obtain⟨_,_,_,hh⟩:=ho;exact hh.symm)|exact ho.2.symm))
 case makeFunc f first pU=>cases f<;>simp only at ho hc<;>first|contradiction|(split at ho<;>(first|(cases ho;done)|(simp only[Zc,Zg]at ho;first|(obtain⟨_,_,_,hh⟩:=ho;exact hh.symm)|exact ho.2.symm)))
 case call c=>
  obtain⟨callee,args,yD⟩:=c;cases callee with
  |
   value f=>
   cases f<;>simp only at hc ho<;>first|contradiction|skip
   rename_i g;simp only[ev]at ho;split at ho
   .simp only[Ze,Zg]at ho;obtain⟨_,_,_,hh⟩:=ho;exact hh.symm
   .exact hk _ _ _ _ _ hc ho
  |invoke r m=>contradiction
  |
   builtin b=>
   cases b<;>simp only at hc ho<;>first|contradiction|skip
   all_goals first
    |(simp only[Ze,Zg]at ho;obtain⟨_,_,_,rfl⟩:=ho;rfl)
    |((repeat' split at ho)<;>(first|(cases ho;done)|(simp only[Ze,Zc,Zg]at ho;first|(obtain⟨_,_,_,hh⟩:=ho;exact hh.symm)|exact ho.2.symm)))
def Sh {C:Cx}{call:jH}{fr:List AV}{h h':Hp}{o:Oper}{r:AV}(hc:A5 C o=false)(ho:z7 C call (ev C fr) h o=some (r,h'))(h2:Hp):z7 C call (ev C fr) h2 o=some (r,h2):=by
 unfold z7 at ho|-;unfold A5 at hc;cases eD:o.op<;>simp only[eD]at ho hc|-
 all_goals try contradiction
 all_goals try(simp only[Ze,Zc,Zg]at ho|-)
 all_goals try(obtain⟨y,hy,hr,_⟩:=ho;exact⟨y,hy,hr,trivial⟩)
 all_goals try(exact⟨ho.1,trivial⟩)
 case pick=>split at ho<;>simp_all<;>(first|(obtain⟨y,hy,hr,_⟩:=ho;exact⟨y,hy,hr⟩)|(obtain⟨y,hy,hr,_⟩:=ho;subst hr;exact hy))
 case build=>split at ho<;>simp_all<;>(first|(obtain⟨y,hy,hr,_⟩:=ho;exact⟨y,hy,hr⟩)|(obtain⟨y,hy,hr,_⟩:=ho;subst hr;exact hy))
 case nilCheck=>split at ho<;>simp_all<;>(first|(obtain⟨y,hy,hr,_⟩:=ho;exact⟨y,hy,hr⟩)|(obtain⟨y,hy,hr,_⟩:=ho;subst hr;exact hy))
 case fieldAddr=>(repeat' split at ho)<;>simp_all<;>(first|(obtain⟨y,hy,hr,_⟩:=ho;exact⟨y,hy,hr⟩)|(obtain⟨y,hy,hr,_⟩:=ho;subst hr;exact hy))
 case indexAddr=>(repeat' split at ho)<;>simp_all<;>(first|(obtain⟨y,hy,hr,_⟩:=ho;exact⟨y,hy,hr⟩)|(obtain⟨y,hy,hr,_⟩:=ho;subst hr;exact hy))
 case field=>(repeat' split at ho)<;>simp_all<;>(first|(obtain⟨y,hy,hr,_⟩:=ho;exact⟨y,hy,hr⟩)|(obtain⟨y,hy,hr,_⟩:=ho;subst hr;exact hy))
 case index=>(repeat' split at ho)<;>simp_all<;>(first|(obtain⟨y,hy,hr,_⟩:=ho;exact⟨y,hy,hr⟩)|(obtain⟨y,hy,hr,_⟩:=ho;subst hr;exact hy))
 case extract=>split at ho<;>simp_all<;>(first|(obtain⟨y,hy,hr,_⟩:=ho;exact⟨y,hy,hr⟩)|(obtain⟨y,hy,hr,_⟩:=ho;subst hr;exact hy))
 case slice=>(repeat' split at ho)<;>simp_all<;>(first|(obtain⟨y,hy,hr,_⟩:=ho;exact⟨y,hy,hr⟩)|(obtain⟨y,hy,hr,_⟩:=ho;subst hr;exact hy))
 case binOp op t x y t'=>
  split at ho
  .rename_i hb;rw[dd hb];split at ho<;>simp_all
  .rename_i hb;rw[db hb];simp only[Ze,Zg]at ho|-;obtain⟨y,hy,hr,_⟩:=ho;exact⟨y,hy,hr,trivial⟩
 case convert=>
  simp only[Bool.or_eq_false_iff]at hc;simp only[hc.1,hc.2,Yq,if_false]at ho|-
  (repeat' split at ho)<;>(first|(cases ho;done)|(simp only[Ze,Zg]at ho|-;obtain⟨y,hy,hr,_⟩:=ho;exact⟨y,hy,hr,trivial⟩))
 case makeFunc f first pU=>cases f<;>simp only at ho hc|- <;>first|contradiction|(split at ho<;>simp_all<;>(first|(obtain⟨y,hy,hr,_⟩:=ho;exact⟨y,hy,hr⟩)|(obtain⟨y,hy,hr,_⟩:=ho;subst hr;exact hy)))
 case call c=>
  obtain⟨callee,args,yD⟩:=c;cases callee with
  |value f=>contradiction
  |invoke r m=>contradiction
  |
   builtin b=>
   cases b<;>simp only at hc ho|- <;>first|contradiction|skip
   all_goals first
    |(simp only[Ze,Zg]at ho|-;obtain⟨y,hy,hr,_⟩:=ho;exact⟨y,hy,hr,trivial⟩)
    |((repeat' split at ho)<;>simp_all<;>(first|(obtain⟨y,hy,hr,_⟩:=ho;exact⟨y,hy,hr⟩)|(obtain⟨y,hy,hr,_⟩:=ho;subst hr;exact hy)))
def Kp {C:Cx}{fr oC:List AV}{h:Hp}{o:Oper}(he:∀x∈o.op.operands,ev C fr x=ev C oC x):oy C (ev C fr) h o=oy C (ev C oC) h o:=by
 have E1:∀ps:List (Nat × Operand),(∀p∈ps,p.2∈o.op.operands)->(ps.map λp=>(p.1,ev C fr p.2))=ps.map λp=>(p.1,ev C oC p.2):=λps hp=>List.map_congr_left λp hm=>by rw[he p.2 (hp p hm)]
 unfold oy;cases eD:o.op<;>simp only[eD,Op.operands]at he E1|-
 case buildSlice t n ps=>rw[E1 ps.toList (λp hp=>by simp;exact⟨p.1,by simpa using hp⟩)]
 case makeSlice t l c=>rw[he l (by simp),he c (by simp)]
 case slice t x lo hi mx=>
  have h0:ev C fr x=ev C oC x:=he x (by simp);have h1:lo.map (ev C fr)=lo.map (ev C oC):=by cases lo<;>simp_all
  have h2:hi.map (ev C fr)=hi.map (ev C oC):=by cases hi<;>simp_all
  cases mx with
  |some m=>rfl
  |
   none=>
   simp only;rw[h0,h1,h2]
 case call c=>
  obtain⟨callee,args,yD⟩:=c;have lk:∀x∈args.toList,ev C fr x=ev C oC x:=λx hx=>he x (by simp[Call.operands];exact .inr (by simpa using hx))
  cases callee with
  |value f=>rfl
  |invoke r m=>rfl
  |
   builtin b=>
   cases b<;>simp only;split
   .rename_i hl ht;rw[lk _ (by rw[hl];simp),lk _ (by rw[hl];simp)]
   .rfl
def Np {C:Cx}{fr:List AV}{h h':Hp}{o:Oper}{r:AV}(ho:oy C (ev C fr) h o=some (r,h')):h'=h:=by
 unfold oy at ho
 (repeat' split at ho)<;>(first|(cases ho;done)|(simp only[Zc,Zg]at ho;exact ho.2.symm))
def zb {C:Cx}{call:jH}{fr oC:List AV}{h:Hp}{o:Oper}(he:∀x∈o.op.operands,ev C fr x=ev C oC x):n0 C call (ev C fr) h o=n0 C call (ev C oC) h o:=by
 unfold n0;rw[Kp he,Nn he]
def rP {C:Cx}{call:jH}(hk:∀g xs h r h',C.inl g=false->call g xs h=some (r,h')->h'=h){fr:List AV}{h h':Hp}{o:Oper}{r:AV}
 (hc:ew C o=false) (ho:n0 C call (ev C fr) h o=some (r,h')):h'=h:=by
 unfold n0 at ho;unfold ew at hc;split at ho
 .exact Np ho
 .rename_i ahe;have aeZ:C.rV o=false:=by simpa using ahe
  rw[aeZ]at hc;exact Sg hk hc ho
def W8 {C:Cx}{call:jH}{fr:List AV}{h h':Hp}{o:Oper}{r:AV}(hc:rY C o=false)(ho:n0 C call (ev C fr) h o=some (r,h'))(h2:Hp):n0 C call (ev C fr) h2 o=some (r,h2):=by
 unfold rY at hc;rw[Bool.or_eq_false_iff]at hc;unfold n0 at ho|-;simp only[hc.1,Yq,if_false]at ho|-;exact Sh hc.2 ho h2
section want
variable {w : World} {X : Nat -> Prop} {ρ : Nat -> Nat} {n : Nat}
def wv {ops:Array Oper}{tmps:Array Value}{fr:List AV}(hf:RF w X ρ n tmps fr){o:Oper}{b:Bool}(h:gX ops fr o=some b):Region.wanted o (yielded ops tmps)=b:=by
 unfold gX at h;unfold Region.wanted;cases hg:o.guard with
 |none=>simp only[hg,Zc]at h|-;exact h
 |
  some q=>
  obtain⟨j,want⟩:=q;simp only[hg]at h|-;unfold yielded;cases hd:(ops[j]?).bind (·.dst)with
  |none=>simp only[hd,Zc]at h;simp[<-h]
  |
   some d=>
   simp only[hd]at h;split at h
   .rename_i b' hb;simp only[Zc]at h;have hr:=(hf.2 d _ hb).eF.1;have dY:d<tmps.size:=by rw[hf.1];exact(Za.1 hb).1
    have hv:tmps[d]?=some (.bool b'):=by
     rw[Xv dY];simpa[dY]using hr
    simp[hv,<-h]
   .rename_i hb;simp only[Zc]at h;have hr:=(hf.2 d _ hb).adC;have dY:d<tmps.size:=by rw[hf.1];exact(Za.1 hb).1
    have hv:tmps[d]?=some undef:=by
     rw[Xv dY];simpa[dY]using hr
    simp[hv,undef,<-h]
   .cases h
end want
def CX (C:Cx)(call:jH)(ops:Array Oper)(o:Oper)(s:St):AV:=
 match gX ops s.1 o with
 |
  some true=>match n0 C call (ev C s.1) s.2 o with
  |some (v,_)=>v
  |none=> .ud
 |_=> .un
def ln {C:Cx}{call:jH}{ops:Array Oper}{o:Oper}{s s':St}(h:step1 C call ops o s=some s'):
 s'.1=rX o s.1 (CX C call ops o s)/\((gX ops s.1 o=some true/\n0 C call (ev C s.1) s.2 o=some (CX C call ops o s,s'.2))\/(gX ops s.1 o=some false/\CX C call ops o s= .un/\s'.2=s.2))/\∀u,CX C call ops o s≠ .pn u:=by
 unfold step1 at h;unfold CX;split at h
 .rename_i hw;split at h
  .cases h
  .rename_i v h1 UZ ha;simp only[Zc]at h;subst h;simp only[hw,ha];exact⟨trivial,.inl ⟨trivial,trivial⟩,λu e=>UZ u e⟩
  .cases h
 .rename_i hw;simp only[Zc]at h;subst h;simp[hw]
 .cases h
def rL {C:Cx}{call:jH}{ops:Array Oper}:∀(l:List Oper) (s:St) (mX:List St),gD C call ops l s=some mX->
 ∃S:Nat->St,S 0=s/\mX.length=l.length+1/\(∀k,k<=l.length->mX[k]?=some (S k))/\∀(k:Nat) (o:Oper),l[k]?=some o->step1 C call ops o (S k)=some (S (k+1))
 |
  [],s,mX,h=>by
  simp only[gD,Zc]at h;subst h;refine⟨λ_=>s,rfl,rfl,λk hk=>?_,by simp⟩;have X_:k=0:=by simpa using hk
  subst X_;rfl
 |
  o::l,s,mX,h=>by
  simp only[gD]at h;split at h
  .rename_i s1 h1;simp only[Ze]at h;obtain⟨aks,h2,rfl⟩:=h;obtain⟨S,e0,el,e1,e2⟩:=rL l s1 aks h2;refine⟨λk=>match k with|0=>s|k+1=>S k,rfl,by simp[el],λk hk=>?_,λk o' hk=>?_⟩
   .cases k with
    |zero=>rfl
    |succ k=>simpa using e1 k (by simpa using hk)
   .cases k with
    |zero=>simp at hk;subst hk;simp[e0,h1]
    |succ k=>simp at hk;exact e2 k o' hk
  .cases h
def CY {C:Cx}{call:jH}{ops:Array Oper}:∀(l:List Oper) (s s':St),dz C call ops l s=some s'->
 ∃S:Nat->St,S 0=s/\S l.length=s'/\∀(k:Nat) (o:Oper),l[k]?=some o->step1 C call ops o (S k)=some (S (k+1))
 |
  [],s,s',h=>by
  simp only[dz,Zc]at h;subst h;exact⟨λ_=>s,rfl,rfl,by simp⟩
 |
  o::l,s,s',h=>by
  simp only[dz]at h;split at h
  .rename_i s1 h1;obtain⟨S,e0,el,e2⟩:=CY l s1 s' h;refine⟨λk=>match k with|0=>s|k+1=>S k,rfl,by simp[el],λk o' hk=>?_⟩;cases k with
   |zero=>simp at hk;subst hk;simp[e0,h1]
   |succ k=>simp at hk;exact e2 k o' hk
  .cases h
def CZ {C:Cx}{call:jH}{ops:Array Oper}:∀(l:List (Oper × Bool)) (s s':St),dz C call ops (DY l) s=some s'->
 ∃S:Nat->St,S 0=s/\∀(k:Nat) (o:Oper) (b:Bool),l[k]?=some (o,b)->if b=true then S (k+1)=S k else step1 C call ops o (S k)=some (S (k+1))
 | [],s,s',h=>⟨λ_=>s,rfl,by simp⟩
 |
  (o,true)::l,s,s',h=>by
  obtain⟨S,e0,e2⟩:=CZ l s s' h;refine⟨λk=>match k with|0=>s|k+1=>S k,rfl,λk o' b hk=>?_⟩;cases k with
  |zero=>simp at hk;obtain⟨rfl,rfl⟩:=hk;simp[e0]
  |succ k=>simp at hk;exact e2 k o' b hk
 |
  (o,false)::l,s,s',h=>by
  have h:dz C call ops (o::DY l) s=some s':=h;simp only[dz]at h;split at h
  .rename_i s1 h1;obtain⟨S,e0,e2⟩:=CZ l s1 s' h;refine⟨λk=>match k with|0=>s|k+1=>S k,rfl,λk o' b hk=>?_⟩;cases k with
   |zero=>simp at hk;obtain⟨rfl,rfl⟩:=hk;simp[e0,h1]
   |succ k=>simp at hk;exact e2 k o' b hk
  .cases h
def ahf (C:Cx)(call:jH)(ops:Array Oper)(s:St)(v:Value)(hP:Hp):Prop:=
 ∃J o sj s2,ops[J]?=some o/\dz C call ops (ops.toList.take J) s=some sj/\ew C o=true/\(∀q∈needs C ops,J<q.2)/\gX ops sj.1 o=some true/\n0 C call (ev C sj.1) sj.2 o=some (.pn v,hP)/\dz C call ops (DY (DX ops J)) sj=some s2
def Si {C:Cx}{call:jH}{ops:Array Oper}{J:Nat}{s s':St}{out:Out}(h:Y9 C call ops J s=some (out,s')):∃v h',out= .vE v/\s'=(X8 ops.toList s.1,h')/\ahf C call ops s v h':=by
 unfold Y9 at h;split at h
 .rename_i o sj h1 h2;split at h
  .rename_i h3;rw[Zh,Yr]at h3;split at h
   .rename_i h4;split at h
    .rename_i v h' h5;split at h
     .rename_i s2 h6;simp only[Zc,Zg]at h;exact⟨v,h',h.1.symm,h.2.symm,J,o,sj,s2,h1,h2,h3.1,λq hq=>of_decide_eq_true (h3.2 q hq),h4,h5,h6⟩
     .cases h
    .cases h
   .cases h
  .cases h
 .cases h
def put (a:Act)(o:Oper)(v:Value):Act:=a.put o.dst v
def W9 {w:World}{X:Nat->Prop}{ρ:Nat->Nat}{n:Nat}{a:Act}{fr:List AV}(hf:RF w X ρ n a.tmps fr)(o:Oper){v:Value}{x:AV}(hv:Rp w X ρ n v x):RF w X ρ n (a.put o.dst v).tmps (rX o fr x):=by
 unfold rX Act.put;cases o.dst with
 |none=>exact hf
 |some d=>exact hf.put d hv
def put_defers (a:Act)(o:Oper)(v:Value):(a.put o.dst v).defers=a.defers:=by
 unfold Act.put;cases o.dst<;>rfl
def Kq {C:Cx}{call:jH}(hT:∀t i,C.T t=some i->f_ C.P t=some i)(dy:lj C call){ops:Array Oper}{i:Nat}{o:Oper}(hi:ops[i]?=some o){w:World}{X:Nat->Prop}{ρ:Nat->Nat}{h h':Hp}{a:Act}{fr:List AV}
 (hs:iw C.G w X ρ h) (hf:RF w (fj X ρ h) ρ h.length a.tmps fr) {r:AV} (UZ:∀u,r≠ .pn u) (hr:(gX ops fr o=some true/\n0 C call (ev C fr) h o=some (r,h'))\/(gX ops fr o=some false/\r= .un/\h'=h))
 {K:Act->World->Prop} {Q:Exit->Act->World->Prop} (hK:∀v w' ρ',Ext C.G w X ρ h w' ρ' h'->RF w' (fj X ρ' h') ρ' h'.length (a.put o.dst v).tmps (rX o fr r)->(a.put o.dst v).defers=a.defers->K (a.put o.dst v) w'):
 wpOp C.P ops Q i K a w:=by
 unfold wpOp;simp only[hi];rcases hr with⟨hw,ha⟩|⟨hw,rfl,rfl⟩
 .rw[wv hf hw,dd rfl];exact .inl (E0 hs hf hT dy ha K Q (λv w' ρ' he hv=>hK v w' ρ' he (W9 (he.rf hf) o hv) (put_defers a o v)) λu _ _ e _=>absurd e (UZ u))
 .rw[wv hf hw];simp only[Yq,if_false];exact hK undef w ρ (Ext.refl hs) (W9 hf o (.im .un)) (put_defers a o undef)
def G2 :Out->Exit
 | .normal=> .normal
 | .exit id=> .exit id
 | .ret=> .ret
 | .vE v=> .panic [{v,recovered:=false}]
def E2 {C:Cx}{call:jH}(hT:∀t i,C.T t=some i->f_ C.P t=some i)(dy:lj C call){ops:Array Oper}{i:Nat}{o:Oper}(hi:ops[i]?=some o){w:World}{X:Nat->Prop}{ρ:Nat->Nat}{h h':Hp}{a:Act}{fr:List AV}
 (hs:iw C.G w X ρ h) (hf:RF w (fj X ρ h) ρ h.length a.tmps fr) {u:Value} (hw:gX ops fr o=some true) (ha:n0 C call (ev C fr) h o=some (.pn u,h'))
 {K:Act->World->Prop} {Q:Exit->Act->World->Prop} (hQ:∀w' ρ',Ext C.G w X ρ h w' ρ' h'->RF w' (fj X ρ' h') ρ' h'.length a.tmps fr->Q (.panic [{v:=u,recovered:=false}]) a w'):
 wpOp C.P ops Q i K a w:=by
 unfold wpOp;simp only[hi];rw[wv hf hw,dd rfl];refine .inl (E0 hs hf hT dy ha K Q (λv w' ρ' he hv=>absurd hv.adB (λh=>h)) λu' w' ρ' e he=>?_);simp only[AV.pn.injEq]at e;subst e;exact hQ w' ρ' he (he.rf hf)
def E3 {C:Cx}{call:jH}(hT:∀t i,C.T t=some i->f_ C.P t=some i)(dy:lj C call){ops:Array Oper}{X:Nat->Prop}{Q:Exit->Act->World->Prop}:
 ∀(rest:List Oper) (k:Nat) (s s':St) (out:Out),ops.toList.drop k=rest->eh C call ops rest s=some (out,s')->∀(a:Act) (w:World) (ρ:Nat->Nat),iw C.G w X ρ s.2->RF w (fj X ρ s.2) ρ s.2.length a.tmps s.1->
  (∀a' w' ρ',Ext C.G w X ρ s.2 w' ρ' s'.2->RF w' (fj X ρ' s'.2) ρ' s'.2.length a'.tmps s'.1->a'.defers=a.defers->Q (G2 out) a' w')->wpOps C.P ops Q ((List.range ops.size).drop k) a w
 |
  [],k,s,s',out,hd,hr,a,w,ρ,hs,hf,hQ=>by
  have hk:ops.size<=k:=by
   have:=congrArg List.length hd;simp at this;omega
  rw[Zt (by simpa using hk)];simp only[eh,Zc,Zg]at hr;obtain⟨rfl,rfl⟩:=hr;exact hQ a w ρ (Ext.refl hs) hf rfl
 |
  o::rest,k,s,s',out,hd,hr,a,w,ρ,hs,hf,hQ=>by
  have hk:k<ops.size:=by
   have:=congrArg List.length hd;simp at this;omega
  have ho:ops[k]?=some o:=by
   have:(ops.toList.drop k)[0]?=some o:=by rw[hd];rfl
   rw[Xg]at this;simpa using this
  rw[Zm (by simpa using hk),List.getElem_range,wpOps_cons];simp only[eh]at hr;split at hr
  .rename_i s1 h1;obtain⟨e1,e2,e3⟩:=ln h1;refine Kq hT dy ho hs hf e3 e2 λv w' ρ' he sw hdf=>?_
   have hd':ops.toList.drop (k+1)=rest:=by rw[<-List.drop_drop,hd];rfl
   exact E3 hT dy rest (k+1) s1 s' out hd' hr (a.put o.dst v) w' ρ' he.wO (by rw[e1];exact sw) λa' w'' akt OA aku akv=>hQ a' w'' akt (he.trans OA) aku (akv.trans hdf)
  .split at hr
   .rename_i hw;split at hr
    .rename_i u h1 ha;simp only[Zc,Zg]at hr;obtain⟨rfl,rfl⟩:=hr;exact E2 hT dy ho hs hf hw ha λw' ρ' he sw=>hQ a w' ρ' he sw rfl
    .cases hr
   .cases hr
structure Nq (ops:Array Oper)(base:List AV)(R:Nat->AV)(L:Nat->Bool)(fr:List AV):Prop where
 len:fr.length=base.length
 hit:∀(i:Nat) (o:Oper) (t:Tmp),ops[i]?=some o->o.dst=some t->t<base.length->fr[t]?=some (if L i then R i else base.getD t .ud)
 miss:∀t:Tmp,(∀(i:Nat) (o:Oper),ops[i]?=some o->o.dst≠some t)->fr[t]?=base[t]?
def Nq.put {ops:Array Oper}{C:Cx}(hr:Rok C ops){base:List AV}{R:Nat->AV}{L L':Nat->Bool}{fr:List AV}(h:Nq ops base R L fr){j:Nat}{o:Oper}(hj:ops[j]?=some o)
 (hL:∀i,L' i=if i=j then true else L i):Nq ops base R L' (rX o fr (R j)):=by
 unfold rX;cases hd:o.dst with
 |
  none=>
  refine⟨h.len,λi oi t hi ht dY=>?_,h.miss⟩;have eW:i≠j:=λe=>by subst e;rw[hj]at hi;cases hi;rw[hd]at ht;cases ht
  rw[h.hit i oi t hi ht dY,hL,db eW]
 |
  some d=>
  refine⟨by simp[h.len],λi oi t hi ht dY=>?_,λt ht=>?_⟩
  .by_cases qS:i=j
   .subst qS;rw[hj]at hi;cases hi;rw[hd]at ht;cases ht;simp only[hL,if_true];rw[Zj (by rw[h.len];exact dY)]
   .have eW:d≠t:=λe=>hr.dst j i o oi d (Ne.symm qS) hj hi hd (by rw[ht,e])
    rw[Zq eW,h.hit i oi t hi ht dY,hL,db qS]
  .have eW:d≠t:=λe=>ht j o hj (by rw[hd,e])
   rw[Zq eW];exact h.miss t ht
def Nq.skip {ops:Array Oper}{base:List AV}{R:Nat->AV}{L L':Nat->Bool}{fr:List AV}(h:Nq ops base R L fr){j:Nat}{o:Oper}(hj:ops[j]?=some o)(hR:∀d,o.dst=some d->R j=base.getD d .ud)
 (hL:∀i,L' i=if i=j then true else L i):Nq ops base R L' fr:=by
 refine⟨h.len,λi oi t hi ht dY=>?_,h.miss⟩;rw[h.hit i oi t hi ht dY,hL];by_cases qS:i=j
 .subst qS;rw[hj]at hi;cases hi;rw[hR t ht];simp
 .rw[db qS]
def abI {l:List Oper}{fr:List AV}{t:Nat}{x:AV}(h:(X8 l fr)[t]?=some x):x= .ud\/(fr[t]?=some x/\∀o∈l,o.dst≠some t):=by
 induction l generalizing fr with
 |nil=>exact .inr ⟨h,by simp⟩
 |
  cons o l ih=>
  rcases ih (fr:=rX o fr .ud) h with q|⟨q,hq⟩
  .exact .inl q
  .unfold rX at q;cases hd:o.dst with
   |
    none=>
    rw[hd]at q;exact .inr ⟨q,λo' vZ=>by
     rcases Xm.1 vZ with rfl|vZ; · rw[hd];simp
     .exact hq o' vZ⟩
   |
    some d=>
    rw[hd]at q;by_cases hdt:d=t
    .subst hdt;have dY:d<fr.length:=by have:=(Za.1 q).1;simpa using this
     simp only[Zj dY,Zc]at q;exact .inl q.symm
    .simp only[Zq hdt]at q;exact .inr ⟨q,λo' vZ=>by
      rcases Xm.1 vZ with rfl|vZ; · rw[hd];simpa using hdt
      .exact hq o' vZ⟩
def Nr (l:List Oper)(fr:List AV):(X8 l fr).length=fr.length:=by
 induction l generalizing fr with
 |nil=>rfl
 |
  cons o l ih=>
  show(X8 l (rX o fr .ud)).length=_;rw[ih];unfold rX;cases o.dst<;>simp
def Nq.ud {ops:Array Oper}{base:List AV}{R:Nat->AV}{L:Nat->Bool}{fr:List AV}(h:Nq ops base R L fr){w:World}{X:Nat->Prop}{ρ:Nat->Nat}{n:Nat}{tmps:Array Value}(hf:RF w X ρ n tmps fr):RF w X ρ n tmps (X8 ops.toList base):=by
 refine⟨by rw[hf.1,h.len,Nr],λt x hx=>?_⟩;rcases abI hx with rfl|⟨q,hq⟩
 .exact .im (.ud _)
 .refine hf.2 t x ?_;rw[h.miss t λi o hi=>hq o (by
   have:ops.toList[i]?=some o:=by simpa using hi
   exact Zi this)]
  exact q
def Nq.unique {ops:Array Oper}{base:List AV}{R:Nat->AV}{L L':Nat->Bool}{fr oC:List AV}(h:Nq ops base R L fr)(h':Nq ops base R L' oC){t:Tmp}
 (hL:∀(i:Nat) (o:Oper),ops[i]?=some o->o.dst=some t->L i=L' i):fr[t]?=oC[t]?:=by
 by_cases ht:∃(i:Nat) (o:Oper),ops[i]?=some o/\o.dst=some t
 .obtain⟨i,o,hi,hd⟩:=ht;by_cases dY:t<base.length
  .rw[h.hit i o t hi hd dY,h'.hit i o t hi hd dY,hL i o hi hd]
  .have h1:fr.length<=t:=by rw[h.len];exact Yb dY
   have h2:oC.length<=t:=by rw[h'.len];exact Yb dY
   rw[Xt h1,Xt h2]
 .have hm:∀(i:Nat) (o:Oper),ops[i]?=some o->o.dst≠some t:=λi o hi hd=>ht ⟨i,o,hi,hd⟩
  rw[h.miss t hm,h'.miss t hm]
def S6 (l:List Bool):Nat:=(l.filter λb=> !b).length
def Pd :∀(l:List Bool) (i:Nat),l[i]?=some false->S6 (l.set i true)+1=S6 l
 | [],i,h=>by simp at h
 |b::l,0,h=>by simp at h;subst h;simp[S6]
 |
  b::l,i+1,h=>by
  simp at h;have:=Pd l i h;cases b<;>simp[S6]at this|- <;>omega
def Kr :∀(l:List Bool),S6 l=0->∀(i:Nat) (b:Bool),l[i]?=some b->b=true
 | [],_,i,b,h=>by simp at h
 |
  c::l,hc,i,b,h=>by
  cases c with
  |false=>simp[S6]at hc
  |
   true=>
   have pS:S6 l=0:=by simpa[S6]using hc
   cases i with
   |zero=>simp at h;exact h
   |succ i=>simp at h;exact Kr l pS i b h
def MB.lt {C:Cx}{ops:Array Oper}(hr:Rok C ops){j i:Nat}(h:MB ops j i):i<j:=by
 induction h with
 |edge ho he hb=>exact hr.back _ _ ho _ he hb
 |trans ho he hb _ ih=>exact Nat.lt_trans ih (hr.back _ _ ho _ he hb)
section draw
variable {C : Cx} {call : FuncId -> List AV -> Hp -> Option (AV × Hp)} {ops : Array Oper}
def pP {listed:Array Bool}{j:Nat}(hj:j<listed.size)(i:Nat):(listed.setIfInBounds j true).getD i false=if i=j then true else listed.getD i false:=by
 by_cases h:i=j
 .subst h;simp[hj]
 .rw[db h,getD_set_ne false (Ne.symm h)]
set_option maxHeartbeats 1000000 in
def Ks (hT:∀t i,C.T t=some i->f_ C.P t=some i)(dy:lj C call)(eK:∀g xs h r h',C.inl g=false->call g xs h=some (r,h')->h'=h)(hr:Rok C ops)
 {J:Nat} {bad:Nat->Prop} (hbJ:∀k,bad k->k=J\/MB ops k J) (hJb:J<ops.size->bad J) (hJc:∀o,ops[J]?=some o->ew C o=true)
 {S:Nat->St} (hS:∀(k:Nat) (o:Oper),ops[k]?=some o->¬bad k->step1 C call ops o (S k)=some (S (k+1))) (hB:∀(k:Nat) (o:Oper),ops[k]?=some o->bad k->S (k+1)=S k)
 {R:Nat->AV} (hR:∀(k:Nat) (o:Oper),ops[k]?=some o->¬bad k->R k=CX C call ops o (S k)) (hRB:∀(k:Nat) (o:Oper),ops[k]?=some o->bad k->∀d,o.dst=some d->R k=(S 0).1.getD d .ud)
 (ae0:∀(j:Nat) (o:Oper),ops[j]?=some o->¬bad j->ew C o=false->rY C o=true->gX ops (S j).1 o=some true->∀m,m<=ops.size->m<=J->
  (∀(i:Nat) (oi:Oper),ops[i]?=some oi->ew C oi=true->(((nj ops.toList []).getD j 0).testBit i=true->i<m)/\(((nj ops.toList []).getD i 0).testBit j=true->m<=i))->n0 C call (ev C (S j).1) (S m).2 o=some (R j,(S m).2))
 {X:Nat->Prop} {w0:World} {ρ0:Nat->Nat} {d0:List Deferred} {Q:Exit->Act->World->Prop}
 (hQ:ops.size<=J->∀a' w' ρ',Ext C.G w0 X ρ0 (S 0).2 w' ρ' (S ops.size).2->RF w' (fj X ρ' (S ops.size).2) ρ' (S ops.size).2.length a'.tmps (S ops.size).1->a'.defers=d0->Q .normal a' w')
 (YF:∀o,ops[J]?=some o->gX ops (S J).1 o=some true/\∃u hP,n0 C call (ev C (S J).1) (S J).2 o=some (.pn u,hP)/\∀a' w' ρ',Ext C.G w0 X ρ0 (S 0).2 w' ρ' hP->RF w' (fj X ρ' hP) ρ' hP.length a'.tmps (X8 ops.toList (S 0).1)->a'.defers=d0->Q (.panic [{v:=u,recovered:=false}]) a' w'):
 ∀(fuel:Nat) (listed:Array Bool) (a:Act) (w:World) (ρ:Nat->Nat) (fr:List AV) (m:Nat),listed.size=ops.size->S6 listed.toList<=fuel->
  (∀(j:Nat) (o:Oper),ops[j]?=some o->listed.getD j false=true->∀e∈o.after,Region.binds .any e=true->listed.getD e.on false=true)->
  Nq ops (S 0).1 R (λi=>listed.getD i false) fr->m<=ops.size->(J<ops.size->listed.getD J false=false)->
  (∀(k:Nat) (o:Oper),ops[k]?=some o->ew C o=true->(k<m↔listed.getD k false=true))->
  Ext C.G w0 X ρ0 (S 0).2 w ρ (S m).2->RF w (fj X ρ (S m).2) ρ (S m).2.length a.tmps fr->a.defers=d0->wpAny C.P .any ops Q fuel listed a w:=by
 have Jx:∀k,k<=ops.size->Nq ops (S 0).1 R (λi=>decide (i<k)) (S k).1:=by
  intro k
  induction k with
  |
   zero=>
   intro _;refine⟨rfl,λi o t hi ht dY=>?_,λt _=>rfl⟩;simp[List.getD,Zb dY]
  |
   succ k ih=>
   intro hk;have ho:ops[k]?=some ops[k]:=Xv (by omega);have hL:∀i,decide (i<k+1)=if i=k then true else decide (i<k):=λi=>by
    by_cases hik:i=k
    .subst hik;simp
    .rw[db hik];have:(i<k+1)↔(i<k):=by omega
     simp[this]
   by_cases hb:bad k
   .rw[hB k _ ho hb];exact(ih (by omega)).skip ho (hRB k _ ho hb) hL
   .have h1:=(ln (hS k _ ho hb)).1;rw[h1,<-hR k _ ho hb];exact(ih (by omega)).put hr ho hL
 have qj:∀i d,i+d<=ops.size->(∀(k:Nat) (o:Oper),i<=k->k<i+d->ops[k]?=some o->ew C o=false)->(S (i+d)).2=(S i).2:=by
  intro i d
  induction d with
  |zero=>intro _ _;rfl
  |
   succ d ih=>
   intro eG qE;have ho:ops[i+d]?=some ops[i+d]:=Xv (by omega);have h2:=ih (by omega) (λk o h1 h2 h3=>qE k o h1 (by omega) h3);by_cases hb:bad (i+d)
   .rw[show i+(d+1)=i+d+1 by omega,hB (i+d) _ ho hb,h2]
   have h1:=(ln (hS (i+d) _ ho hb)).2.1;rcases h1 with⟨_,ha⟩|⟨_,_,ha⟩
   .have:=rP eK (qE (i+d) _ (by omega) (by omega) ho) ha;rw[show i+(d+1)=i+d+1 by omega,this,h2]
   .rw[show i+(d+1)=i+d+1 by omega,ha,h2]
 have hmb:∀{listed:Array Bool},(∀(j:Nat) (o:Oper),ops[j]?=some o->listed.getD j false=true->∀e∈o.after,Region.binds .any e=true->listed.getD e.on false=true)->
  ∀{j i:Nat},MB ops j i->listed.getD j false=true->listed.getD i false=true:=by
  intro listed fq j i h
  induction h with
  |edge ho he hb=>exact λhj=>fq _ _ ho hj _ he hb
  |trans ho he hb _ ih=>exact λhj=>ih (fq _ _ ho hj _ he hb)
 have W_:∀{listed:Array Bool},(∀(j:Nat) (o:Oper),ops[j]?=some o->listed.getD j false=true->∀e∈o.after,Region.binds .any e=true->listed.getD e.on false=true)->
  ∀{j i:Nat},MB ops j i->(∀o,ops[j]?=some o->∀e∈o.after,Region.binds .any e=true->listed.getD e.on false=true)->listed.getD i false=true:=by
  intro listed fq j i h hrd;cases h with
  |edge ho he hb=>exact hrd _ ho _ he hb
  |trans ho he hb h2=>exact hmb fq h2 (hrd _ ho _ he hb)
 have acz:∀{listed:Array Bool} {a:Act} {w:World} {ρ:Nat->Nat} {fr:List AV} {m:Nat},(∀i,i<ops.size->listed.getD i false=true)->Nq ops (S 0).1 R (λi=>listed.getD i false) fr->m<=ops.size->(J<ops.size->listed.getD J false=false)->
  (∀(k:Nat) (o:Oper),ops[k]?=some o->ew C o=true->(k<m↔listed.getD k false=true))->
  Ext C.G w0 X ρ0 (S 0).2 w ρ (S m).2->RF w (fj X ρ (S m).2) ρ (S m).2.length a.tmps fr->a.defers=d0->Q .normal a w:=by
  intro listed a w ρ fr m dJ KU hm tT Sj he hf hd;have S4:ops.size<=J:=by
   apply Classical.byContradiction;intro dY;have h1:=tT (by omega);rw[dJ J (by omega)]at h1;cases h1
  have h1:(S ops.size).2=(S m).2:=by
   have:=qj m (ops.size-m) (by omega) (λk o h1 h2 h3=>by
    cases hq:ew C o with
    |false=>rfl
    |
     true=>
     have g_:k<ops.size:=(Xy.1 h3).1;have:=(Sj k o h3 hq).2 (dJ k g_);omega)
   rwa [show m+(ops.size-m)=ops.size by omega]at this
  have h2:fr=(S ops.size).1:=by
   apply Xe;intro t;refine KU.unique (Jx ops.size (Yt _)) λi o hi _=>?_
   have gG:i<ops.size:=(Xy.1 hi).1;simp[gG];have:=dJ i gG;simpa using this
  rw[<-h1]at he hf;rw[h2]at hf;exact hQ S4 a w ρ he hf hd
 intro fuel
 induction fuel with
 |
  zero=>
  intro listed a w ρ fr m gC akw fq KU hm tT Sj he hf hd;have dJ:∀i,i<ops.size->listed.getD i false=true:=λi hi=>by
   have gG:i<listed.size:=by omega
   have:=Kr listed.toList (by omega) i listed[i] (by simp[gG]);simpa[gG]using this
  refine⟨?_,acz dJ KU hm tT Sj he hf hd⟩;apply List.eq_nil_iff_forall_not_mem.2;intro j hj;obtain⟨h0,o,ho,_⟩:=mem_ready.1 hj;have jU:j<ops.size:=(Xy.1 ho).1;have h1:=dJ j jU;have akx:j<listed.size:=by omega
  simp[akx]at h0 h1;rw[h0]at h1;cases h1
 |
  succ fuel ih=>
  intro listed a w ρ fr m gC akw fq KU hm tT Sj he hf hd;refine⟨λp_=>?_,λj hj=>?_⟩
  .by_cases dJ:∀i,i<ops.size->listed.getD i false=true
   .exact acz dJ KU hm tT Sj he hf hd
   .exfalso;have hex:∃i,i<ops.size/\listed.getD i false=false:=by
     apply Classical.byContradiction;intro eW;apply dJ;intro i hi;cases hq:listed.getD i false with
     |true=>rfl
     |false=>exact absurd ⟨i,hi,hq⟩ eW
    have ae1:∀b i,i<=b->i<ops.size->listed.getD i false=false->∃j,j<ops.size/\listed.getD j false=false/\∀k,k<j->listed.getD k false=true:=by
     intro b
     induction b with
     |
      zero=>
      intro i hib hi hif;have:i=0:=by omega
      subst this;exact⟨0,hi,hif,λk hk=>by omega⟩
     |
      succ b ihb=>
      intro i hib hi hif;by_cases hsm:∃k,k<i/\listed.getD k false=false
      .obtain⟨k,hk,hkf⟩:=hsm;exact ihb k (by omega) (by omega) hkf
      .refine⟨i,hi,hif,λk hk=>?_⟩;cases hq:listed.getD k false with
       |true=>rfl
       |false=>exact absurd ⟨k,hk,hq⟩ hsm
    obtain⟨i,hi,hif⟩:=hex;obtain⟨j,hj,YV,aky⟩:=ae1 i i (Yt _) hi hif;have ho:ops[j]?=some ops[j]:=Xv hj;have:j∈Region.ready .any ops listed:=mem_ready.2 ⟨by
     have jU:j<listed.size:=by omega
     simp[jU]at YV|-;exact YV,ops[j],ho,λe N5 hb=>aky e.on (hr.back j _ ho e N5 hb)⟩
    rw[p_]at this;cases this
  .obtain⟨Qj,o,ho,ae2⟩:=mem_ready.1 hj;have jU:j<ops.size:=(Xy.1 ho).1;have Kt:j<listed.size:=by omega
   have YV:listed.getD j false=false:=by simp[Kt]at Qj|-;exact Qj
   have hpr:∀o',ops[j]?=some o'->∀e∈o'.after,Region.binds .any e=true->listed.getD e.on false=true:=λo' vZ e N5 hb=>by
    rw[ho]at vZ;cases vZ;exact ae2 e N5 hb
   have acA:∀t∈o.looksAt ops,fr[t]?=(S j).1[t]?:=λt ht=>by
    refine KU.unique (Jx j (by omega)) λi oi hi ae3=>?_
    by_cases qS:i=j
    .subst qS;simp;simpa using YV
    .rcases hr.look i j oi o t qS hi ho ae3 ht with⟨dY,ahg⟩|⟨dY,ahh⟩
     .have:=W_ fq ahg hpr;simp[dY];simpa using this
     .have nS:listed.getD i false=false:=by
       cases hq:listed.getD i false with
       |false=>rfl
       |true=>have:=hmb fq ahh hq;rw[YV]at this;cases this
      have:¬i<j:=by omega
      simp[this];simpa using nS
   have nk:∀x∈o.op.operands,ev C fr x=ev C (S j).1 x:=λx hx=>by
    cases x with
    |
     tmp t=>
     have ht:t∈o.looksAt ops:=Zy _ (List.mem_filterMap.2 ⟨.tmp t,by simpa using hx,rfl⟩);simp only[ev,List.getD,acA t ht]
    |_=>rfl
   have XA:gX ops fr o=gX ops (S j).1 o:=by
    unfold gX;cases hg:o.guard with
    |none=>rfl
    |
     some q=>
     obtain⟨g,wt⟩:=q;simp only;cases ae3:(ops[g]?).bind (·.dst)with
     |none=>rfl
     |
      some d=>
      have ht:d∈o.looksAt ops:=Zk _ (by simp[hg,ae3]);simp only[acA d ht]
   have mI:ew C o=true->(S m).2=(S j).2:=λKu=>by
    by_cases hmj:m<=j
    .have:=qj m (j-m) (by omega) (λk ok h1 h2 h3=>by
      cases hq:ew C ok with
      |false=>rfl
      |
       true=>
       have OK:k≠j:=by omega
       rcases hr.heap k j ok o OK h3 ho hq Ku with⟨_,XB⟩|⟨dY,_⟩
       .have h4:=W_ fq XB hpr;have:=(Sj k ok h3 hq).2 h4;omega
       .omega)
     rw[<-this,show m+(j-m)=j by omega]
    .have:=qj j (m-j) (by omega) (λk ok h1 h2 h3=>by
      cases hq:ew C ok with
      |false=>rfl
      |
       true=>
       have h4:=(Sj k ok h3 hq).1 (by omega);by_cases OK:k=j
       .subst OK;rw[YV]at h4;cases h4
       .rcases hr.heap k j ok o OK h3 ho hq Ku with⟨dY,_⟩|⟨_,XC⟩
        .omega
        .have:=hmb fq XC h4;rw[YV]at this;cases this)
     rw[show j+(m-j)=m by omega]at this;exact this
   have hmJ:m<=J:=by
    by_cases S4:J<ops.size
    .have hoJ:ops[J]?=some ops[J]:=Xv S4;apply Classical.byContradiction;intro dY;have h1:=(Sj J _ hoJ (hJc _ hoJ)).1 (by omega);rw[tT S4]at h1;cases h1
    .omega
   by_cases hjJ:j=J
   .subst hjJ;obtain⟨hwJ,u,hP,haJ,hQJ⟩:=YF o ho;have hhp:=mI (hJc o ho);rw[<-hhp,<-zb nk]at haJ;rw[<-XA]at hwJ;exact E2 hT dy ho he.wO hf hwJ haJ λw' ρ' OA sw=>hQJ a w' ρ' (he.trans OA) (KU.ud sw) hd
   have hnb:¬bad j:=λhb=>by
    rcases hbJ j hb with q|q
    .exact hjJ q
    .by_cases S4:J<ops.size
     .have h1:=W_ fq q hpr;rw[tT S4]at h1;cases h1
     .have:=q.lt hr;omega
   obtain⟨px,eZ,UZ⟩:=ln (hS j o ho hnb);have hRj:=hR j o ho hnb;have akz:(listed.setIfInBounds j true).size=ops.size:=by simpa using gC
   have ahi:S6 (listed.setIfInBounds j true).toList<=fuel:=by
    have h1:=Pd listed.toList j (by
     have:listed[j]=false:=by simpa[Kt]using YV
     simp[Kt,this])
    rw[Array.toList_setIfInBounds];omega
   have PI:∀(j':Nat) (o':Oper),ops[j']?=some o'->(listed.setIfInBounds j true).getD j' false=true->∀e∈o'.after,Region.binds .any e=true->(listed.setIfInBounds j true).getD e.on false=true:=by
    intro j' o' vZ hl e N5 hb;rw[pP Kt]at hl;by_cases hjj:j'=j
    .subst hjj;exact getD_set_true (hpr o' vZ e N5 hb)
    .rw[db hjj]at hl;exact getD_set_true (fq j' o' vZ hl e N5 hb)
   have akA:Nq ops (S 0).1 R (λi=>(listed.setIfInBounds j true).getD i false) (rX o fr (R j)):=KU.put hr ho λi=>pP Kt i
   have next:∀(m':Nat) (h':Hp),m'<=ops.size->h'=(S m').2->(∀(k:Nat) (ok:Oper),ops[k]?=some ok->ew C ok=true->(k<m'↔(listed.setIfInBounds j true).getD k false=true))->
    ((gX ops fr o=some true/\n0 C call (ev C fr) (S m).2 o=some (R j,h'))\/(gX ops fr o=some false/\R j= .un/\h'=(S m).2))->wpOp C.P ops Q j (wpAny C.P .any ops Q fuel (listed.setIfInBounds j true)) a w:=by
    intro m' h' yG hh' akB rJ;subst hh';refine Kq hT dy ho he.wO hf (by rw[hR j o ho hnb];exact UZ) rJ λv w' ρ' OA sw hdf=>?_
    exact ih _ _ w' ρ' _ m' akz ahi PI akA yG (λS4=>by rw[pP Kt,db (Ne.symm hjJ)];exact tT S4) akB (he.trans OA) sw (hdf.trans hd)
   have stay:ew C o=false->∀(k:Nat) (ok:Oper),ops[k]?=some ok->ew C ok=true->(k<m↔(listed.setIfInBounds j true).getD k false=true):=by
    intro hnc k ok hk hq;have OK:k≠j:=λe=>by subst e;rw[ho]at hk;cases hk;rw[hnc]at hq;cases hq
    rw[pP Kt,db OK];exact Sj k ok hk hq
   by_cases ahj:ew C o=true
   .have Ku:=ahj;have hhp:=mI Ku;refine next (j+1) _ (by omega) rfl ?_ ?_
    .intro k ok hk hq;rw[pP Kt];by_cases OK:k=j
     .subst OK;simp
     .rw[db OK];rcases hr.heap k j ok o OK hk ho hq Ku with⟨dY,XB⟩|⟨dY,XC⟩
      .have:=W_ fq XB hpr;exact⟨λ_=>this,λ_=>by omega⟩
      .refine⟨λh1=>by omega,λh1=>?_⟩;have:=hmb fq XC h1;rw[YV]at this;cases this
    .rw[hhp,XA,zb nk,hRj];exact eZ
   .have hnc:ew C o=false:=by simpa using ahj
    refine next m _ hm rfl (stay hnc) ?_
    rw[XA,zb nk,hRj];rcases eZ with⟨h1,h2⟩|⟨h1,h2,h3⟩
    .left;refine⟨h1,?_⟩;by_cases Ku:rY C o=true
     .have hms:=s4 (ops:=ops) ops.toList [] (by simp) (λj i h=>by simp at h);rw[<-hRj];refine ae0 j o ho hnb hnc Ku h1 m hm hmJ λi oi hi SP=>⟨λhb=>?_,λhb=>?_⟩
      .exact(Sj i oi hi SP).2 (W_ fq (hms j i hb) hpr)
      .have nS:listed.getD i false=false:=by
        cases hq:listed.getD i false with
        |false=>rfl
        |true=>have:=hmb fq (hms i j hb) hq;rw[YV]at this;cases this
       have:¬i<m:=λdY=>by rw[(Sj i oi hi SP).1 dY]at nS;cases nS
       omega
     .exact W8 (by simpa using Ku) h2 _
    .exact .inr ⟨h1,h2,rfl⟩
def G3 {C:Cx}{ops:Array Oper}{m:Nat}(hm:m<ops.size):cc C ops (m+1)=cc C ops m+if ew C ops[m]=true then 1 else 0:=by
 unfold cc;rw[List.take_succ_eq_append_getElem (by simpa using hm),Yo,Zu]
 congr 1
 simp only[Array.getElem_toList,List.filter_cons,List.filter_nil];split<;>rfl
def G4 {C:Cx}{ops:Array Oper}:∀(d m:Nat),m+d<=ops.size->cc C ops (m+d)=cc C ops m->∀(k:Nat) (o:Oper),m<=k->k<m+d->ops[k]?=some o->ew C o=false
 |0,m,_,_,k,o,h1,h2,_=>by omega
 |
  d+1,m,eG,he,k,o,h1,h2,ho=>by
  have eZ:=G3 (C:=C) (ops:=ops) (m:=m+d) (by omega);have rS:∀d',m+d'<=ops.size->cc C ops m<=cc C ops (m+d'):=by
   intro d'
   induction d' with
   |zero=>intro _;exact Yt _
   |
    succ d' ih=>
    intro h;have:=G3 (C:=C) (ops:=ops) (m:=m+d') (by omega);rw[<-Nat.add_assoc,this];exact Yn (ih (by omega)) (Nat.le_add_right _ _)
  have h3:=rS d (by omega);rw[<-Nat.add_assoc]at he;rw[he]at eZ;by_cases hc:ew C ops[m+d]=true
  .rw[dd hc]at eZ;omega
  .rw[db hc]at eZ;by_cases hk:k=m+d
   .subst hk;rw[Xv (by omega)]at ho;cases ho;simpa using hc
   .exact G4 d m (by omega) (by omega) k o h1 (by omega) ho
def canon {C:Cx}{ops:Array Oper}:∀m,m<=ops.size->∃m0,m0<=m/\cc C ops m0=cc C ops m/\(m0=0\/∃o',ops[m0-1]?=some o'/\ew C o'=true)/\∀(k:Nat) (o:Oper),m0<=k->k<m->ops[k]?=some o->ew C o=false
 |0,_=>⟨0,Yt _,rfl,.inl rfl,λk o h1 h2=>by omega⟩
 |
  m+1,hm=>by
  have U5:m<ops.size:=by omega
  have eZ:=G3 (C:=C) (ops:=ops) (m:=m) (by omega);by_cases hc:ew C ops[m]=true
  .exact⟨m+1,Yt _,rfl,.inr ⟨ops[m]'U5,by simp,hc⟩,λk o h1 h2=>by omega⟩
  .obtain⟨m0,h1,h2,h3,h4⟩:=canon (C:=C) (ops:=ops) m (by omega);rw[db hc]at eZ;refine⟨m0,by omega,by omega,h3,λk o k1 k2 ho=>?_⟩;by_cases hk:k=m
   .rw[hk,Xv (show m<ops.size by omega)]at ho;simp only[Zc]at ho;rw[<-ho];simpa using hc
   .exact h4 k o k1 (by omega) ho
def Ns {C:Cx}{ops:Array Oper}{i:Nat}(h:(A6 C ops).testBit i=true):Fm C ops i=true:=by
 have key:∀(l:List Nat) (s:Nat),(l.foldl (λs i=>cond (Fm C ops i) (s|||2^i) s) s).testBit i=true->s.testBit i=true\/Fm C ops i=true:=by
  intro l
  induction l with
  |nil=>exact λs h=> .inl h
  |
   cons k l ih=>
   intro s h;rcases ih _ h with h1|h1
   .simp only at h1;cases hk:Fm C ops k with
    |false=>rw[hk]at h1;exact .inl h1
    |
     true=>
     rw[hk]at h1;simp only[cond_true,Nat.testBit_or,Bool.or_eq_true,Nat.testBit_two_pow,Zz]at h1;rcases h1 with h1|h1
     .exact .inl h1
     .subst h1;exact .inr hk
   .exact .inr h1
 rcases key _ 0 h with h1|h1
 .simp at h1
 .exact h1
def E4 {C:Cx}{ops:Array Oper}{i:Nat}(h:Fm C ops i=true):∃o,ops[i]?=some o/\ew C o=true:=by
 unfold Fm at h;split at h
 .rename_i o ho;exact⟨o,ho,h⟩
 .cases h
def E5 {C:Cx}{ops:Array Oper}{ms:List Nat}{j m:Nat}(hm:m<=ops.size)
 (h:∀(i:Nat) (oi:Oper),ops[i]?=some oi->ew C oi=true->((ms.getD j 0).testBit i=true->i<m)/\((ms.getD i 0).testBit j=true->m<=i)):A7 C ops ms j m=true:=by
 unfold A7;rw[Zh];constructor
 .refine Nat.ble_eq_true_of_le ?_;unfold af5;cases hq:Nat.beq (ms.getD j 0 &&& A6 C ops) 0 with
  |true=>exact Nat.zero_le _
  |
   false=>
   have eW:ms.getD j 0 &&& A6 C ops≠0:=λe=>by rw[e]at hq;cases hq
   have hb:=Nat.testBit_log2 eW;rw[Nat.testBit_and,Zh]at hb;obtain⟨o,ho,hc⟩:=E4 (Ns hb.2);exact(h _ o ho hc).1 hb.1
 .refine Nat.ble_eq_true_of_le ?_;unfold af6;cases hf:(List.range ops.size).find? λi=>Fm C ops i && (ms.getD i 0).testBit j with
  |none=>exact hm
  |
   some i=>
   have hp:=List.find?_some hf;rw[Zh]at hp;obtain⟨o,ho,hc⟩:=E4 hp.1;exact(h i o ho hc).2 hp.2
def Nt (hm:C.P.follows .mixedOrders=true)(hT:∀t i,C.T t=some i->f_ C.P t=some i)(dy:lj C call)(eK:∀g xs h r h',C.inl g=false->call g xs h=some (r,h')->h'=h)(hr:rok C ops=true)
 {s s':St} {mX:List St} (kb:gD C call ops ops.toList s=some mX) (qj:(needs C ops).all (sameAt C call ops mX)=true) (Vz:mX[ops.size]?=some s')
 {X:Nat->Prop} {w:World} {ρ:Nat->Nat} {a:Act} (hs:iw C.G w X ρ s.2) (hf:RF w (fj X ρ s.2) ρ s.2.length a.tmps s.1) {id:Nat} {Q:Exit->Act->World->Prop}
 (hQ:∀a' w' ρ',Ext C.G w X ρ s.2 w' ρ' s'.2->RF w' (fj X ρ' s'.2) ρ' s'.2.length a'.tmps s'.1->a'.defers=a.defers->Q .normal a' w'):(Code.region id ops true).wp C.P Q a w:=by
 obtain⟨S,e0,el,e1,e2⟩:=rL _ s mX kb;rw[Array.length_toList]at e1;have eL:S ops.size=s':=by
  have:=e1 ops.size (Yt _);rw[Vz]at this;exact(Option.some.inj this).symm
 have hS:∀(k:Nat) (o:Oper),ops[k]?=some o->step1 C call ops o (S k)=some (S (k+1)):=λk o hk=>e2 k o (by simpa using hk)
 have Nu:∀i d,i+d<=ops.size->(∀(k:Nat) (o:Oper),i<=k->k<i+d->ops[k]?=some o->ew C o=false)->(S (i+d)).2=(S i).2:=by
  intro i d
  induction d with
  |zero=>intro _ _;rfl
  |
   succ d ih=>
   intro eG qE;have ho:ops[i+d]?=some ops[i+d]:=Xv (by omega);have h1:=(ln (hS (i+d) _ ho)).2.1;have h2:=ih (by omega) (λk o h1 h2 h3=>qE k o h1 (by omega) h3);rcases h1 with⟨_,ha⟩|⟨_,_,ha⟩
   .have:=rP eK (qE (i+d) _ (by omega) (by omega) ho) ha;rw[show i+(d+1)=i+d+1 by omega,this,h2]
   .rw[show i+(d+1)=i+d+1 by omega,ha,h2]
 have C2:∀i k,i<=k->k<=ops.size->cc C ops i=cc C ops k->(S k).2=(S i).2:=by
  intro i k h1 h2 h3;have:=Nu i (k-i) (by omega) (λq o q1 q2 q3=>G4 (k-i) i (by omega) (by rw[show i+(k-i)=k by omega];exact h3.symm) q o q1 q2 q3)
  rwa [show i+(k-i)=k by omega]at this
 have ae0:∀(j:Nat) (o:Oper),ops[j]?=some o->ew C o=false->rY C o=true->gX ops (S j).1 o=some true->∀m,m<=ops.size->
  (∀(i:Nat) (oi:Oper),ops[i]?=some oi->ew C oi=true->(((nj ops.toList []).getD j 0).testBit i=true->i<m)/\(((nj ops.toList []).getD i 0).testBit j=true->m<=i))->n0 C call (ev C (S j).1) (S m).2 o=some (CX C call ops o (S j),(S m).2):=by
  intro j o ho hc ht hw m yG G5;have hj:j<ops.size:=(Xy.1 ho).1;have eZ:=ln (hS j o ho);have haj:n0 C call (ev C (S j).1) (S j).2 o=some (CX C call ops o (S j),(S j).2):=by
   rcases eZ.2.1 with⟨_,h2⟩|⟨h1,_⟩
   .have:=rP eK hc h2;rw[this]at h2;exact h2
   .rw[hw]at h1;cases h1
  obtain⟨m0,c1,c2,c3,c4⟩:=canon (C:=C) (ops:=ops) m yG;have s7:=C2 m0 m c1 yG c2;rw[s7];by_cases G6:cc C ops m0=cc C ops j
  .have:(S m0).2=(S j).2:=by
    by_cases eG:m0<=j
    .exact(C2 m0 j eG (by omega) G6).symm
    .exact C2 j m0 (by omega) (by omega) G6.symm
   rw[this];exact haj
  .rw[Yr]at qj;have hmr:A7 C ops (nj ops.toList []) j m0=true:=by
    refine E5 (by omega) λi oi hi SP=>⟨λhb=>?_,λhb=>?_⟩
    .have h5:=(G5 i oi hi SP).1 hb;apply Classical.byContradiction;intro dY;have:=c4 i oi (by omega) h5 hi;rw[SP]at this;cases this
    .have:=(G5 i oi hi SP).2 hb;omega
   have Il:tJ C ops m0=true:=by
    unfold tJ;rcases c3 with rfl|⟨o',h3,h4⟩
    .rfl
    .rw[h3];simp[h4]
   have kM:(j,m0)∈needs C ops:=by
    unfold needs;refine List.mem_flatMap.2 ⟨j,by simpa using hj,?_⟩;rw[ho];simp only[hc,ht,Bool.false_or,Xz,Yq,if_false];refine List.mem_filterMap.2 ⟨m0,by simp;omega,?_⟩;have hnb:Nat.beq (cc C ops m0) (cc C ops j)=false:=by
     cases hq:Nat.beq (cc C ops m0) (cc C ops j)with
     |false=>rfl
     |true=>exact absurd (Nat.eq_of_beq_eq_true hq) G6
    simp only[hnb,Il,hmr,Xz,Bool.or_self,Yq,if_false]
   have h2:=qj _ kM;simp only[sameAt,ho,e1 j (by omega),hw,e1 m0 (by omega),haj]at h2;split at h2
   .rename_i v' h' hav;have:=CT h2;have hh:=rP eK hc hav;rw[hav,this,hh]
   .cases h2
 have he:=uQ hs (w.drawn+1);refine wp_region_any hm ?_;have fq:∀i,(Array.replicate ops.size false).getD i false=false:=λi=>by
  by_cases h:i<ops.size<;>simp[h]
 have qE:∀o,ops[ops.size]?≠some o:=λo=>by simp
 refine Ks (S:=S) (R:=λk=>match ops[k]? with|some o=>CX C call ops o (S k)|none=> .ud) (w0:=w) (ρ0:=ρ) (d0:=a.defers) hT dy eK (Ko hr) (J:=ops.size) (bad:=λ_=>False) (λk h=>h.elim) (λh=>by omega) (λo ho=>absurd ho (qE o)) (λk o hk _=>hS k o hk) (λk o _ h=>h.elim) (λk o hk _=>by simp only[hk]) (λk o _ h=>h.elim)
  (λj o ho _ hc ht hw m yG _ G5=>by simp only[ho];exact ae0 j o ho hc ht hw m yG G5)
  (λ_ a' w' ρ' h1 h2 h3=>hQ a' w' ρ' (by rw[e0,eL]at h1;exact h1) (by rw[eL]at h2;exact h2) h3) (λo ho=>absurd ho (qE o)) ops.size _ a _ ρ s.1 0 (by simp) ?_ ?_ ?_ (Nat.zero_le _) (λh=>by omega) ?_ (by rw[e0];exact he) (by rw[e0];exact he.rf hf) rfl
 .simp only[S6,Array.toList_replicate];exact Yn (Xo _ _) (by simp)
 .intro j o _ hl;rw[fq]at hl;cases hl
 .rw[e0];refine⟨rfl,λi o t hi ht dY=>?_,λt _=>rfl⟩;rw[fq];simp[List.getD,Zb dY]
 .intro k o _ _;rw[fq];simp
def abJ {j m:Nat}{o:Oper}(ho:ops[j]?=some o)(hc:ew C o=false)(ht:rY C o=true)(yG:m<=ops.size)
 (G5:∀(i:Nat) (oi:Oper),ops[i]?=some oi->ew C oi=true->(((nj ops.toList []).getD j 0).testBit i=true->i<m)/\(((nj ops.toList []).getD i 0).testBit j=true->m<=i)):
 ∃m0,m0<=m/\cc C ops m0=cc C ops m/\(cc C ops m0=cc C ops j\/(j,m0)∈needs C ops):=by
 have hj:j<ops.size:=(Xy.1 ho).1;obtain⟨m0,c1,c2,c3,c4⟩:=canon (C:=C) (ops:=ops) m yG;refine⟨m0,c1,c2,?_⟩;by_cases G6:cc C ops m0=cc C ops j
 .exact .inl G6
 .refine .inr ?_;have hmr:A7 C ops (nj ops.toList []) j m0=true:=by
   refine E5 (by omega) λi oi hi SP=>⟨λhb=>?_,λhb=>?_⟩
   .have h5:=(G5 i oi hi SP).1 hb;apply Classical.byContradiction;intro dY;have:=c4 i oi (by omega) h5 hi;rw[SP]at this;cases this
   .have:=(G5 i oi hi SP).2 hb;omega
  have Il:tJ C ops m0=true:=by
   unfold tJ;rcases c3 with rfl|⟨o',h3,h4⟩
   .rfl
   .rw[h3];simp[h4]
  unfold needs;refine List.mem_flatMap.2 ⟨j,by simpa using hj,?_⟩;rw[ho];simp only[hc,ht,Bool.false_or,Xz,Yq,if_false];refine List.mem_filterMap.2 ⟨m0,by simp;omega,?_⟩;have hnb:Nat.beq (cc C ops m0) (cc C ops j)=false:=by
   cases hq:Nat.beq (cc C ops m0) (cc C ops j)with
   |false=>rfl
   |true=>exact absurd (Nat.eq_of_beq_eq_true hq) G6
  simp only[hnb,Il,hmr,Xz,Bool.or_self,Yq,if_false]
def XD (hm:C.P.follows .mixedOrders=true)(hT:∀t i,C.T t=some i->f_ C.P t=some i)(dy:lj C call)(eK:∀g xs h r h',C.inl g=false->call g xs h=some (r,h')->h'=h)(hr:rok C ops=true)
 {s:St} {v:Value} {hP:Hp} (hd:ahf C call ops s v hP)
 {X:Nat->Prop} {w:World} {ρ:Nat->Nat} {a:Act} (hs:iw C.G w X ρ s.2) (hf:RF w (fj X ρ s.2) ρ s.2.length a.tmps s.1) {id:Nat} {Q:Exit->Act->World->Prop}
 (hQ:∀a' w' ρ',Ext C.G w X ρ s.2 w' ρ' hP->RF w' (fj X ρ' hP) ρ' hP.length a'.tmps (X8 ops.toList s.1)->a'.defers=a.defers->Q (.panic [{v,recovered:=false}]) a' w'):(Code.region id ops true).wp C.P Q a w:=by
 obtain⟨J,oJ,sj,s2,h1,h2,h3,h4,h5,h6,h7⟩:=hd;have hJ:J<ops.size:=(Xy.1 h1).1;obtain⟨S1,a0,aJ,aS⟩:=CY _ _ _ h2;obtain⟨S2,b0,bS⟩:=CZ _ _ _ h7;have akC:(ops.toList.take J).length=J:=by rw[Yy,Array.length_toList];omega
 rw[akC]at aJ;have acB:∀k o,J<k->ops[k]?=some o->(DX ops J)[k-(J+1)]?=some (o,((nj ops.toList []).getD k 0).testBit J):=λk o hk ho=>by
  have vZ:ops.toList[k]?=some o:=by simpa using ho
  unfold DX;rw[Zs,Xg,List.getElem?_zipIdx,show J+1+(k-(J+1))=k by omega,vZ];simp
 obtain⟨S,eS⟩:∃S:Nat->St,∀k,S k=if k<=J then S1 k else S2 (k-(J+1)):=⟨_,λ_=>rfl⟩
 obtain⟨bad,eb⟩:∃bad:Nat->Prop,∀k,bad k↔(k=J\/(J<k/\((nj ops.toList []).getD k 0).testBit J=true)):=⟨_,λ_=>Iff.rfl⟩;have e0:S 0=s:=by rw[eS,dd (Nat.zero_le _),a0]
 have eJ:S J=sj:=by rw[eS,dd (Yt _),aJ]
 have hS:∀(k:Nat) (o:Oper),ops[k]?=some o->¬bad k->step1 C call ops o (S k)=some (S (k+1)):=λk o ho hb=>by
  rw[eb]at hb;by_cases hk:k<J
  .rw[eS,eS,dd (by omega),dd (by omega)];refine aS k o ?_;rw[List.getElem?_take_of_lt hk];simpa using ho
  .have og:J<k:=by omega
   have:=bS _ _ _ (acB k o og ho);rw[db (λq=>hb (.inr ⟨og,q⟩))]at this;rw[eS,eS,db (by omega),db (by omega),show k+1-(J+1)=k-(J+1)+1 by omega];exact this
 have hB:∀(k:Nat) (o:Oper),ops[k]?=some o->bad k->S (k+1)=S k:=λk o ho hb=>by
  rw[eb]at hb;rcases hb with rfl|⟨hk,hb⟩
  .rw[eS,eS,db (by omega),dd (Yt _),Nat.sub_self,b0,aJ]
  .have:=bS _ _ _ (acB k o hk ho);rw[dd hb]at this;rw[eS,eS,db (by omega),db (by omega),show k+1-(J+1)=k-(J+1)+1 by omega];exact this
 have Nu:∀i d,i+d<=ops.size->(∀(k:Nat) (o:Oper),i<=k->k<i+d->ops[k]?=some o->ew C o=false)->(S (i+d)).2=(S i).2:=by
  intro i d
  induction d with
  |zero=>intro _ _;rfl
  |
   succ d ih=>
   intro eG qE;have ho:ops[i+d]?=some ops[i+d]:=Xv (by omega);have h2:=ih (by omega) (λk o h1 h2 h3=>qE k o h1 (by omega) h3);by_cases hb:bad (i+d)
   .rw[show i+(d+1)=i+d+1 by omega,hB (i+d) _ ho hb,h2]
   have h1:=(ln (hS (i+d) _ ho hb)).2.1;rcases h1 with⟨_,ha⟩|⟨_,_,ha⟩
   .have:=rP eK (qE (i+d) _ (by omega) (by omega) ho) ha;rw[show i+(d+1)=i+d+1 by omega,this,h2]
   .rw[show i+(d+1)=i+d+1 by omega,ha,h2]
 have C2:∀i k,i<=k->k<=ops.size->cc C ops i=cc C ops k->(S k).2=(S i).2:=by
  intro i k h1 h2 h3;have:=Nu i (k-i) (by omega) (λq o q1 q2 q3=>G4 (k-i) i (by omega) (by rw[show i+(k-i)=k by omega];exact h3.symm) q o q1 q2 q3)
  rwa [show i+(k-i)=k by omega]at this
 have hms:=s4 (ops:=ops) ops.toList [] (by simp) (λj i h=>by simp at h);have he:=uQ hs (w.drawn+1);refine wp_region_any hm ?_;have fq:∀i,(Array.replicate ops.size false).getD i false=false:=λi=>by
  by_cases h:i<ops.size<;>simp[h]
 refine Ks (S:=S) (R:=λk=>match ops[k]? with|some o=>(open Classical in if bad k then(match o.dst with|some d=>(S 0).1.getD d .ud|none=> .ud)else CX C call ops o (S k))|none=> .ud) (w0:=w) (ρ0:=ρ) (d0:=a.defers) hT dy eK (Ko hr) (J:=J) (bad:=bad) ?_ (λ_=>(eb J).2 (.inl rfl)) (λo ho=>?_) hS hB (λk o hk hb=>by simp only[hk,db hb]) (λk o hk hb d hd=>by simp only[hk,dd hb,hd])
  (λj o ho hb hc ht hw m yG hmJ G5=>?_)
  (λh=>by omega) (λo ho=>?_) ops.size _ a _ ρ s.1 0 (by simp) ?_ ?_ ?_ (Nat.zero_le _) (λ_=>fq J) ?_ (by rw[e0];exact he) (by rw[e0];exact he.rf hf) rfl
 .intro k hb;rcases(eb k).1 hb with q|⟨_,q⟩
  .exact .inl q
  .exact .inr (hms k J q)
 .rw[h1]at ho;cases ho;exact h3
 .simp only[ho,db hb];have hj:j<ops.size:=(Xy.1 ho).1;have haj:n0 C call (ev C (S j).1) (S j).2 o=some (CX C call ops o (S j),(S j).2):=by
   rcases(ln (hS j o ho hb)).2.1 with⟨_,h2⟩|⟨h1,_⟩
   .have:=rP eK hc h2;rw[this]at h2;exact h2
   .rw[hw]at h1;cases h1
  obtain⟨m0,c1,c2,c3⟩:=abJ ho hc ht yG G5;rw[C2 m0 m c1 yG c2];rcases c3 with G6|kM
  .have:(S m0).2=(S j).2:=by
    by_cases eG:m0<=j
    .exact(C2 m0 j eG (by omega) G6).symm
    .exact C2 j m0 (by omega) (by omega) G6.symm
   rw[this];exact haj
  .have:=h4 _ kM;exact absurd this (by simp only;omega)
 .rw[h1]at ho;cases ho;rw[eJ];refine⟨h5,v,hP,h6,λa' w' ρ' k1 k2 k3=>hQ a' w' ρ' ?_ ?_ k3⟩
  .rw[e0]at k1;exact k1
  .rw[e0]at k2;exact k2
 .simp only[S6,Array.toList_replicate];exact Yn (Xo _ _) (by simp)
 .intro j o _ hl;rw[fq]at hl;cases hl
 .rw[e0];refine⟨rfl,λi o t hi ht dY=>?_,λt _=>rfl⟩;rw[fq];simp[List.getD,Zb dY]
 .intro k o _ _;rw[fq];simp
end draw
end Go.Ae
