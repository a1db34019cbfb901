/- Part of the proof. -/
import Derived.Test.YtmfohnojaginjaaGreatDoorP4
set_option linter.all false
namespace Go.Ae
open Go
def Rg(v u:Value)(h:nU v u=true):v=u:=by
 unfold nU at h;split at h
 .rw[eq_of_beq h]
 .simp only[Zh,Zy]at h;rw[h.1,h.2]
 .rw[(MapKept.bytes_beq _ _).1 h]
 .rfl
 .rfl
 .rfl
 .rfl
 .rfl
 .cases h
mutual
def mK :∀{x y:AV},fH x y=true->x=y
 |
  .sc v,y,h=>by
  cases y<;>simp[fH]at h;rw[Rg _ _ h]
 |
  .sl a b c d k,y,h=>by
  cases y<;>simp[fH]at h;obtain⟨⟨⟨⟨rfl,rfl⟩,rfl⟩,rfl⟩,rfl⟩:=h;rfl
 |
  .pt a b,y,h=>by
  cases y<;>simp[fH]at h;obtain⟨rfl,rfl⟩:=h;rfl
 |
  .mp a,y,h=>by
  cases y<;>simp[fH]at h;subst h;rfl
 |
  .ls sz cg z,y,h=>by
  cases y<;>simp[fH]at h;obtain⟨⟨rfl,rfl⟩,h3⟩:=h;rw[CE h3]
 |
  .rp row j,y,h=>by
  cases y<;>simp[fH]at h;obtain⟨rfl,h3⟩:=h;rw[i_ h3]
 |
  .fn f xs,y,h=>by
  cases y<;>simp[fH]at h;obtain⟨rfl,h3⟩:=h;rw[i_ h3]
 |
  .ag xs,y,h=>by
  cases y<;>simp[fH]at h;rw[i_ h]
 |
  .tp xs,y,h=>by
  cases y<;>simp[fH]at h;rw[i_ h]
 | .ud,y,h=>by cases y<;>simp[fH]at h
 | .un,y,h=>by cases y<;>simp[fH]at h
 | .pn v,y,h=>by cases y<;>simp[fH]at h
def i_ :∀{x y:List AV},gY x y=true->x=y
 | [],y,h=>by cases y<;>simp[gY]at h;rfl
 |
  x::xs,y,h=>by
  cases y<;>simp[gY]at h;rw[mK h.1,i_ h.2]
def CE :∀{x y:List (List AV)},mf x y=true->x=y
 | [],y,h=>by cases y<;>simp[mf]at h;rfl
 |
  x::xs,y,h=>by
  cases y<;>simp[mf]at h;rw[i_ h.1,CE h.2]
end
def jP{cg:List (List AV)}(h:∀r∈cg,gY r r=true):mf cg cg=true:=by
 induction cg with
 |nil=>simp[mf]
 |cons r cg ih=>simp[mf,h r (by simp),ih λx hx=>h x (by simp[hx])]
def rok(C:Cx)(ops:Array Oper):Bool:=
 let ms:=fY ops.toList []
 (List.range ops.size).all λj=>match ops[j]? with
  |none=>true
  |some oj=>
   (oj.after.toList.all λe=> !Region.binds .any e||decide (e.on<j)) &&
   (List.range ops.size).all λi=>i==j||match ops[i]? with
    |none=>true
    |some oi=>
     (match oi.dst with
      |none=>true
      |some d=>oj.dst !=some d && (!(oj.looksAt ops).contains d||ordered ms i j)) &&
     (!(cU C oi && cU C oj)||ordered ms i j)
inductive MB (ops:Array Oper):Nat->Nat->Prop where
 |edge {j:Nat} {o:Oper} {e:Edge}:ops[j]?=some o->e∈o.after->Region.binds .any e=true->MB ops j e.on
 |trans {j i:Nat} {o:Oper} {e:Edge}:ops[j]?=some o->e∈o.after->Region.binds .any e=true->MB ops e.on i->MB ops j i
def CF(acc:List Nat):∀(es:List Edge)(s i:Nat),(es.foldl (λs e=>if Region.binds .any e then s|||2^e.on|||acc.getD e.on 0 else s) s).testBit i=true->
 s.testBit i=true\/∃e∈es,Region.binds .any e=true/\(e.on=i\/(acc.getD e.on 0).testBit i=true)
 | [],s,i,h=> .inl h
 |
  e::es,s,i,h=>by
  simp only[List.foldl_cons]at h;rcases CF acc es _ i h with h1|⟨e',he,hb,hh⟩
  .by_cases hbd:Region.binds .any e=true
   .rw[cq hbd]at h1;simp only[Nat.testBit_or,Yy,Nat.testBit_two_pow,Zy]at h1;rcases h1 with(h1|h1)|h1
    .exact .inl h1
    .exact .inr ⟨e,by simp,hbd,.inl h1⟩
    .exact .inr ⟨e,by simp,hbd,.inr h1⟩
   .rw[cm hbd]at h1;exact .inl h1
  .exact .inr ⟨e',by simp[he],hb,hh⟩
def oR{ops:Array Oper}:∀(rest:List Oper)(acc:List Nat),ops.toList.drop acc.length=rest->(∀j i,(acc.getD j 0).testBit i=true->MB ops j i)->∀j i,((fY rest acc).getD j 0).testBit i=true->MB ops j i
 | [],acc,_,abd,j,i,h=>abd j i h
 |
  o::rest,acc,hd,abd,j,i,h=>by
  refine oR rest (acc++[Sw acc o]) ?_ ?_ j i h
  .rw[Zu,List.length_singleton,<-List.drop_drop,hd];rfl
  .intro j i h;have ho:ops[acc.length]?=some o:=by
    have:(ops.toList.drop acc.length)[0]?=some o:=by rw[hd];rfl
    rw[Xo]at this;simpa using this
   by_cases hj:j<acc.length
   .rw[List.getD,Zd hj]at h;exact abd j i h
   .by_cases hj':j=acc.length
    .subst hj';rw[List.getD,Zf (Xc _)]at h;simp only[Nat.sub_self,Ye,Xm]at h;rcases CF acc _ 0 i h with h1|⟨e,he,hb,hh⟩
     .simp at h1
     .rcases hh with rfl|hh
      .exact .edge ho (by simpa using he) hb
      .exact .trans ho (by simpa using he) hb (abd _ i hh)
    .rw[List.getD,Xh (by simp;omega)]at h;simp at h
def CG{ops:Array Oper}{i j:Nat}(eF:i≠j)(h:ordered (fY ops.toList []) i j=true):(i<j/\MB ops j i)\/(j<i/\MB ops i j):=by
 have hs:=oR (ops:=ops) ops.toList [] (by simp) (λj i h=>by simp at h);unfold ordered at h;split at h
 .rename_i dm;exact .inl ⟨dm,hs j i h⟩
 .exact .inr ⟨by omega,hs i j h⟩
structure Rok (C:Cx)(ops:Array Oper):Prop where
 back:∀(j:Nat)(o:Oper),ops[j]?=some o->∀e∈o.after,Region.binds .any e=true->e.on<j
 dst:∀(i j:Nat)(oi oj:Oper)(d:Tmp),i≠j->ops[i]?=some oi->ops[j]?=some oj->oi.dst=some d->oj.dst≠some d
 look:∀(i j:Nat)(oi oj:Oper)(d:Tmp),i≠j->ops[i]?=some oi->ops[j]?=some oj->oi.dst=some d->d∈oj.looksAt ops->(i<j/\MB ops j i)\/(j<i/\MB ops i j)
 heap:∀(i j:Nat)(oi oj:Oper),i≠j->ops[i]?=some oi->ops[j]?=some oj->cU C oi=true->cU C oj=true->(i<j/\MB ops j i)\/(j<i/\MB ops i j)
def rj{C:Cx}{ops:Array Oper}(h:rok C ops=true):Rok C ops:=by
 simp only[rok,Yt,List.mem_range]at h;have key:∀j oj,ops[j]?=some oj->(∀e∈oj.after,Region.binds .any e=true->e.on<j)/\∀i oi,i≠j->ops[i]?=some oi->
  (∀d,oi.dst=some d->oj.dst≠some d/\(d∈oj.looksAt ops->ordered (fY ops.toList []) i j=true))/\(cU C oi=true->cU C oj=true->ordered (fY ops.toList []) i j=true):=by
  intro j oj hj;have mZ:j<ops.size:=(Xt.1 hj).1;have h1:=h j mZ;simp only[hj,Zh,Yt,List.mem_range]at h1;refine⟨λe he hb=>?_,λi oi eF hi=>?_⟩
  .have:=h1.1 e (by simpa using he);simpa[hb]using this
  .have k_:i<ops.size:=(Xt.1 hi).1;have h2:=h1.2 i k_;simp only[hi,Yy,beq_iff_eq,eF,false_or,Zh]at h2;refine⟨λd hd=>?_,λhc ht=>?_⟩
   .have h3:=h2.1;simp only[hd,Zh,bne_iff_ne,ne_eq,Yy,Xj,List.contains_eq_mem,decide_eq_false_iff_not]at h3;exact⟨h3.1,λhm=>h3.2.resolve_left (λhn=>hn hm)⟩
   .have h3:=h2.2;simpa[hc,ht]using h3
 exact⟨λj o hj=>(key j o hj).1,λi j oi oj d eF hi hj hd=>(((key j oj hj).2 i oi eF hi).1 d hd).1,
  λi j oi oj d eF hi hj hd hm=>CG eF ((((key j oj hj).2 i oi eF hi).1 d hd).2 hm),λi j oi oj eF hi hj hc ht=>CG eF (((key j oj hj).2 i oi eF hi).2 hc ht)⟩
def Mb{C:Cx}{call:iB}{fr gO:List AV}{h:Hp}{o:Oper}(he:∀x∈o.op.operands,ev C fr x=ev C gO x):zP C call (ev C fr) h o=zP C call (ev C gO) h o:=by
 have agr:vQ C (ev C fr) o=vQ C (ev C gO) o:=by
  unfold vQ;cases dp:o.op<;>simp only[dp,Op.operands]at he|-
  case binOp op t x y t'=>rw[he x (by simp),he y (by simp)]
  case unOp op t x=>cases op<;>simp only<;>rw[he x (by simp)]
  case convert src dst x=>rw[he x (by simp)]
  case index t x i=>rw[he x (by simp),he i (by simp)]
  case call c=>
   obtain⟨callee,args,ya⟩:=c;have jt:∀x∈args.toList,ev C fr x=ev C gO x:=λx hx=>he x (by simp[Call.operands];exact .inr (by simpa using hx))
   cases callee with
   |value f=>rfl
   |invoke r m=>rfl
   |builtin b=>
    cases b<;>simp only
    all_goals
     split
     .first
       |(rename_i hl ht;rw[jt _ (by rw[hl];simp)])
       |(rename_i hl;rw[jt _ (by rw[hl];simp),jt _ (by rw[hl];simp)])
     .rfl
 have ags:j_ C (ev C fr) o=j_ C (ev C gO) o:=by
  unfold j_;have h1:(o.op.operands.toList.all λx=>y7 (ev C fr x))=(o.op.operands.toList.all λx=>y7 (ev C gO x)):=by
   rw[Bool.eq_iff_iff,Yt,Yt];exact⟨λhh x hx=>by rw[<-he x (by simpa using hx)];exact hh x hx,λhh x hx=>by rw[he x (by simpa using hx)];exact hh x hx⟩
  rw[h1];split
  .rename_i hc;have j6:∀cs b,o.op≠ .select cs b:=λcs b adh=>by simp[adh,wY]at hc
   rw[execOp_congr (ρ:=λx=>vA (ev C fr x)) (ρ':=λx=>vA (ev C gO x)) o j6 (λx hx=>by simp only[he x hx])]
  .rfl
 have N5:gM C (ev C fr) o=gM C (ev C gO) o:=by
  unfold gM;rw[agr,ags]
 have I2:∀xs:List Operand,(∀x∈xs,x∈o.op.operands)->xs.map (ev C fr)=xs.map (ev C gO):=λxs hx=>List.map_congr_left λx hm=>he x (hx x hm)
 have ED:∀ps:List (Nat × Operand),(∀p∈ps,p.2∈o.op.operands)->(ps.map λp=>(p.1,ev C fr p.2))=ps.map λp=>(p.1,ev C gO p.2):=λps hp=>List.map_congr_left λp hm=>by rw[he p.2 (hp p hm)]
 unfold zP;cases dp:o.op<;>simp only[dp,Op.operands]at he I2 ED<;>simp only[N5]
 case move x=>rw[he x (by simp)]
 case assign x=>rw[he x (by simp)]
 case pick c x y=>rw[he c (by simp),he x (by simp),he y (by simp)]
 case box t x=>rw[he x (by simp)]
 case build t ps=>rw[ED ps.toList (λp hp=>by simp;exact⟨p.1,by simpa using hp⟩)]
 case buildSlice t n ps=>rw[ED ps.toList (λp hp=>by simp;exact⟨p.1,by simpa using hp⟩)]
 case load t x=>rw[he x (by simp)]
 case store t x y=>rw[he x (by simp),he y (by simp)]
 case nilCheck x=>rw[he x (by simp)]
 case fieldAddr t x f=>rw[he x (by simp)]
 case indexAddr t x i=>rw[he x (by simp),he i (by simp)]
 case field t x f=>rw[he x (by simp)]
 case index t x i=>rw[he x (by simp),he i (by simp)]
 case extract x i=>rw[he x (by simp)]
 case makeFunc f first oe=>
  cases f<;>simp only[N5];rw[I2 oe.toList (λx hx=>by simp;exact .inr (by simpa using hx))]
 case makeSlice t l c=>rw[he l (by simp),he c (by simp)]
 case binOp op t x y t'=>rw[he x (by simp)]
 case convert src dst x=>rw[he x (by simp)]
 case makeMap t r=>cases r<;>rfl
 case mapUpdate t m k x=>rw[he m (by simp),he k (by simp),he x (by simp)]
 case lookup t m k ok=>rw[he m (by simp),he k (by simp)]
 case panic x=>rw[he x (by simp)]
 case range t x=>rw[he x (by simp)]
 case next x b=>cases b<;>simp only[N5]<;>rw[he x (by simp)]
 case slice t x lo hi mx=>
  rw[he x (by simp)];have h1:lo.map (ev C fr)=lo.map (ev C gO):=by cases lo<;>simp_all
  have h2:hi.map (ev C fr)=hi.map (ev C gO):=by cases hi<;>simp_all
  have h3:mx.map (ev C fr)=mx.map (ev C gO):=by cases mx<;>simp_all
  rw[h1,h2,h3]
 case call c=>
  obtain⟨callee,args,ya⟩:=c;have jt:∀x∈args.toList,ev C fr x=ev C gO x:=λx hx=>he x (by simp[Call.operands];exact .inr (by simpa using hx))
  cases callee with
  |value f=>
   simp only;rw[he f (by simp[Call.operands]),List.map_congr_left jt]
  |invoke r m=>rfl
  |builtin b=>
   cases b<;>simp only[N5]
   all_goals
    split
    .rename_i hl ht
     first
      |(rw[jt _ (by rw[hl];simp),jt _ (by rw[hl];simp)])
      |(rw[jt _ (by rw[hl];simp)])
    .rfl
def Rh{C:Cx}{call:iB}(hk:∀g xs h r h',C.inl g=false->call g xs h=some (r,h')->h'=h){fr:List AV}{h h':Hp}{o:Oper}{r:AV}(hc:AZ C o=false)(ho:zP C call (ev C fr) h o=some (r,h')):h'=h:=by
 unfold zP at ho;unfold AZ at hc;cases dp:o.op<;>simp only[dp]at ho hc
 all_goals try contradiction
 all_goals try(simp only[Ze,Zc,Zg]at ho)
 all_goals try(obtain⟨_,_,_,rfl⟩:=ho;rfl)
 all_goals try(exact ho.2.symm)
 case pick=>split at ho<;>(first|(cases ho;done)|(simp only[Ze,Zc,Zg]at ho;first|(obtain⟨_,_,_,hh⟩:=ho;exact hh.symm)|exact ho.2.symm))
 case build=>split at ho<;>(first|(cases ho;done)|(simp only[Ze,Zc,Zg]at ho;first|(obtain⟨_,_,_,hh⟩:=ho;exact hh.symm)|exact ho.2.symm))
 case load=>(repeat' split at ho)<;>(first|(cases ho;done)|(simp only[Ze,Zc,Zg]at ho;first|(obtain⟨_,_,_,hh⟩:=ho;exact hh.symm)|exact ho.2.symm))
 case nilCheck=>split at ho<;>(first|(cases ho;done)|(simp only[Ze,Zc,Zg]at ho;first|(obtain⟨_,_,_,hh⟩:=ho;exact hh.symm)|exact ho.2.symm))
 case fieldAddr=>(repeat' split at ho)<;>(first|(cases ho;done)|(simp only[Ze,Zc,Zg]at ho;first|(obtain⟨_,_,_,hh⟩:=ho;exact hh.symm)|exact ho.2.symm))
 case indexAddr=>(repeat' split at ho)<;>(first|(cases ho;done)|(simp only[Ze,Zc,Zg]at ho;first|(obtain⟨_,_,_,hh⟩:=ho;exact hh.symm)|exact ho.2.symm))
 case field=>(repeat' split at ho)<;>(first|(cases ho;done)|(simp only[Ze,Zc,Zg]at ho;first|(obtain⟨_,_,_,hh⟩:=ho;exact hh.symm)|exact ho.2.symm))
 case index=>(repeat' split at ho)<;>(first|(cases ho;done)|(simp only[Ze,Zc,Zg]at ho;first|(obtain⟨_,_,_,hh⟩:=ho;exact hh.symm)|exact ho.2.symm))
 case lookup=>(repeat' split at ho)<;>(first|(cases ho;done)|(simp only[Ze,Zc,Zg]at ho;first|(obtain⟨_,_,_,hh⟩:=ho;exact hh.symm)|exact ho.2.symm))
 case extract=>split at ho<;>(first|(cases ho;done)|(simp only[Ze,Zc,Zg]at ho;first|(obtain⟨_,_,_,hh⟩:=ho;exact hh.symm)|exact ho.2.symm))
 case slice=>(repeat' split at ho)<;>(first|(cases ho;done)|(simp only[Ze,Zc,Zg]at ho;first|(obtain⟨_,_,_,hh⟩:=ho;exact hh.symm)|exact ho.2.symm))
 case binOp=>(repeat' split at ho)<;>(first|(cases ho;done)|(simp only[Ze,Zc,Zg]at ho;first|(obtain⟨_,_,_,hh⟩:=ho;exact hh.symm)|exact ho.2.symm))
 case convert=>
  simp only[hc,Ys,if_false]at ho
  (repeat' split at ho)<;>(first|(cases ho;done)|(simp only[Ze,Zc,Zg]at ho;first|(obtain⟨_,_,_,hh⟩:=ho;exact hh.symm)|exact ho.2.symm))
 case makeFunc f first oe=>cases f<;>simp only at ho hc<;>first|contradiction|(split at ho<;>(first|(cases ho;done)|(simp only[Ze,Zc,Zg]at ho;first|(obtain⟨_,_,_,hh⟩:=ho;exact hh.symm)|exact ho.2.symm)))
 case call c=>
  obtain⟨callee,args,ya⟩:=c;cases callee with
  |value f=>
   cases f<;>simp only at hc ho<;>first|contradiction|skip
   rename_i g;simp only[ev]at ho;split at ho
   .simp only[Ze,Zg]at ho;obtain⟨_,_,_,hh⟩:=ho;exact hh.symm
   .exact hk _ _ _ _ _ hc ho
  |invoke r m=>contradiction
  |builtin b=>
   cases b<;>simp only at hc ho<;>first|contradiction|skip
   all_goals first
    |(simp only[Ze,Zg]at ho;obtain⟨_,_,_,rfl⟩:=ho;rfl)
    |((repeat' split at ho)<;>(first|(cases ho;done)|(simp only[Ze,Zc,Zg]at ho;first|(obtain⟨_,_,_,hh⟩:=ho;exact hh.symm)|exact ho.2.symm)))
def Rj{C:Cx}{call:iB}{fr:List AV}{h h':Hp}{o:Oper}{r:AV}(hc:A1 C o=false)(ho:zP C call (ev C fr) h o=some (r,h'))(h2:Hp):zP C call (ev C fr) h2 o=some (r,h2):=by
 unfold zP at ho|-;unfold A1 at hc;cases dp:o.op<;>simp only[dp]at ho hc|-
 all_goals try contradiction
 all_goals try(simp only[Ze,Zc,Zg]at ho|-)
 all_goals try(obtain⟨y,hy,hr,_⟩:=ho;exact⟨y,hy,hr,trivial⟩)
 all_goals try(exact⟨ho.1,trivial⟩)
 case pick=>split at ho<;>simp_all<;>(first|(obtain⟨y,hy,hr,_⟩:=ho;exact⟨y,hy,hr⟩)|(obtain⟨y,hy,hr,_⟩:=ho;subst hr;exact hy))
 case build=>split at ho<;>simp_all<;>(first|(obtain⟨y,hy,hr,_⟩:=ho;exact⟨y,hy,hr⟩)|(obtain⟨y,hy,hr,_⟩:=ho;subst hr;exact hy))
 case nilCheck=>split at ho<;>simp_all<;>(first|(obtain⟨y,hy,hr,_⟩:=ho;exact⟨y,hy,hr⟩)|(obtain⟨y,hy,hr,_⟩:=ho;subst hr;exact hy))
 case fieldAddr=>(repeat' split at ho)<;>simp_all<;>(first|(obtain⟨y,hy,hr,_⟩:=ho;exact⟨y,hy,hr⟩)|(obtain⟨y,hy,hr,_⟩:=ho;subst hr;exact hy))
 case indexAddr=>(repeat' split at ho)<;>simp_all<;>(first|(obtain⟨y,hy,hr,_⟩:=ho;exact⟨y,hy,hr⟩)|(obtain⟨y,hy,hr,_⟩:=ho;subst hr;exact hy))
 case field=>(repeat' split at ho)<;>simp_all<;>(first|(obtain⟨y,hy,hr,_⟩:=ho;exact⟨y,hy,hr⟩)|(obtain⟨y,hy,hr,_⟩:=ho;subst hr;exact hy))
 case index=>(repeat' split at ho)<;>simp_all<;>(first|(obtain⟨y,hy,hr,_⟩:=ho;exact⟨y,hy,hr⟩)|(obtain⟨y,hy,hr,_⟩:=ho;subst hr;exact hy))
 case extract=>split at ho<;>simp_all<;>(first|(obtain⟨y,hy,hr,_⟩:=ho;exact⟨y,hy,hr⟩)|(obtain⟨y,hy,hr,_⟩:=ho;subst hr;exact hy))
 case slice=>(repeat' split at ho)<;>simp_all<;>(first|(obtain⟨y,hy,hr,_⟩:=ho;exact⟨y,hy,hr⟩)|(obtain⟨y,hy,hr,_⟩:=ho;subst hr;exact hy))
 case binOp op t x y t'=>
  split at ho
  .rename_i hb;rw[cq hb];split at ho<;>simp_all
  .rename_i hb;rw[cm hb];simp only[Ze,Zg]at ho|-;obtain⟨y,hy,hr,_⟩:=ho;exact⟨y,hy,hr,trivial⟩
 case convert=>
  simp only[Bool.or_eq_false_iff]at hc;simp only[hc.1,hc.2,Ys,if_false]at ho|-
  (repeat' split at ho)<;>(first|(cases ho;done)|(simp only[Ze,Zg]at ho|-;obtain⟨y,hy,hr,_⟩:=ho;exact⟨y,hy,hr,trivial⟩))
 case makeFunc f first oe=>cases f<;>simp only at ho hc|- <;>first|contradiction|(split at ho<;>simp_all<;>(first|(obtain⟨y,hy,hr,_⟩:=ho;exact⟨y,hy,hr⟩)|(obtain⟨y,hy,hr,_⟩:=ho;subst hr;exact hy)))
 case call c=>
  obtain⟨callee,args,ya⟩:=c;cases callee with
  |value f=>contradiction
  |invoke r m=>contradiction
  |builtin b=>
   cases b<;>simp only at hc ho|- <;>first|contradiction|skip
   all_goals first
    |(simp only[Ze,Zg]at ho|-;obtain⟨y,hy,hr,_⟩:=ho;exact⟨y,hy,hr,trivial⟩)
    |((repeat' split at ho)<;>simp_all<;>(first|(obtain⟨y,hy,hr,_⟩:=ho;exact⟨y,hy,hr⟩)|(obtain⟨y,hy,hr,_⟩:=ho;subst hr;exact hy)))
def JF{C:Cx}{fr gO:List AV}{h:Hp}{o:Oper}(he:∀x∈o.op.operands,ev C fr x=ev C gO x):oh C (ev C fr) h o=oh C (ev C gO) h o:=by
 have ED:∀ps:List (Nat × Operand),(∀p∈ps,p.2∈o.op.operands)->(ps.map λp=>(p.1,ev C fr p.2))=ps.map λp=>(p.1,ev C gO p.2):=λps hp=>List.map_congr_left λp hm=>by rw[he p.2 (hp p hm)]
 unfold oh;cases dp:o.op<;>simp only[dp,Op.operands]at he ED|-
 case buildSlice t n ps=>rw[ED ps.toList (λp hp=>by simp;exact⟨p.1,by simpa using hp⟩)]
 case makeSlice t l c=>rw[he l (by simp),he c (by simp)]
 case slice t x lo hi mx=>
  have h0:ev C fr x=ev C gO x:=he x (by simp);have h1:lo.map (ev C fr)=lo.map (ev C gO):=by cases lo<;>simp_all
  have h2:hi.map (ev C fr)=hi.map (ev C gO):=by cases hi<;>simp_all
  cases mx with
  |some m=>rfl
  |
   none=>
   simp only;rw[h0,h1,h2]
 case call c=>
  obtain⟨callee,args,ya⟩:=c;have jt:∀x∈args.toList,ev C fr x=ev C gO x:=λx hx=>he x (by simp[Call.operands];exact .inr (by simpa using hx))
  cases callee with
  |value f=>rfl
  |invoke r m=>rfl
  |builtin b=>
   cases b<;>simp only;split
   .rename_i hl ht;rw[jt _ (by rw[hl];simp),jt _ (by rw[hl];simp)]
   .rfl
def Mc{C:Cx}{fr:List AV}{h h':Hp}{o:Oper}{r:AV}(ho:oh C (ev C fr) h o=some (r,h')):h'=h:=by
 unfold oh at ho
 (repeat' split at ho)<;>(first|(cases ho;done)|(simp only[Zc,Zg]at ho;exact ho.2.symm))
def yU{C:Cx}{call:iB}{fr gO:List AV}{h:Hp}{o:Oper}(he:∀x∈o.op.operands,ev C fr x=ev C gO x):lG C call (ev C fr) h o=lG C call (ev C gO) h o:=by
 unfold lG;rw[JF he,Mb he]
def rk{C:Cx}{call:iB}(hk:∀g xs h r h',C.inl g=false->call g xs h=some (r,h')->h'=h){fr:List AV}{h h':Hp}{o:Oper}{r:AV}(hc:cU C o=false)(ho:lG C call (ev C fr) h o=some (r,h')):h'=h:=by
 unfold lG at ho;unfold cU at hc;split at ho
 .exact Mc ho
 .rename_i rm;have aem:C.jI o=false:=by simpa using rm
  rw[aem]at hc;exact Rh hk hc ho
def Wg{C:Cx}{call:iB}{fr:List AV}{h h':Hp}{o:Oper}{r:AV}(hc:nF C o=false)(ho:lG C call (ev C fr) h o=some (r,h'))(h2:Hp):lG C call (ev C fr) h2 o=some (r,h2):=by
 unfold nF at hc;rw[Bool.or_eq_false_iff]at hc;unfold lG at ho|-;simp only[hc.1,Ys,if_false]at ho|-;exact Rj hc.2 ho h2
section want
variable {w : World} {X : Nat -> Prop} {ρ : Nat -> Nat} {n : Nat}
def wL{ops:Array Oper}{tmps:Array Value}{fr:List AV}(hf:RF w X ρ n tmps fr){o:Oper}{b:Bool}(h:eM ops fr o=some b):Region.wanted o (yielded ops tmps)=b:=by
 unfold eM at h;unfold Region.wanted;cases hg:o.guard with
 |none=>simp only[hg,Zc]at h|-;exact h
 |some q=>
  obtain⟨j,want⟩:=q;simp only[hg]at h|-;unfold yielded;cases hd:(ops[j]?).bind (·.dst)with
  |none=>simp only[hd,Zc]at h;simp[<-h]
  |some d=>
   simp only[hd]at h;split at h
   .rename_i b' hb;simp only[Zc]at h;have hr:=(hf.2 d _ hb).dH.1;have dm:d<tmps.size:=by rw[hf.1];exact(Za.1 hb).1
    have hv:tmps[d]?=some (.bool b'):=by
     rw[Xl dm];simpa[dm]using hr
    simp[hv,<-h]
   .rename_i hb;simp only[Zc]at h;have hr:=(hf.2 d _ hb).adg;have dm:d<tmps.size:=by rw[hf.1];exact(Za.1 hb).1
    have hv:tmps[d]?=some undef:=by
     rw[Xl dm];simpa[dm]using hr
    simp[hv,undef,<-h]
   .cases h
end want
def ru(C:Cx)(call:iB)(ops:Array Oper)(o:Oper)(s:St):AV:=
 match eM ops s.1 o with
 |some true=>match lG C call (ev C s.1) s.2 o with
  |some (v,_)=>v
  |none=> .ud
 |_=> .un
def jF{C:Cx}{call:iB}{ops:Array Oper}{o:Oper}{s s':St}(h:step1 C call ops o s=some s'):
 s'.1=rD o s.1 (ru C call ops o s)/\((eM ops s.1 o=some true/\lG C call (ev C s.1) s.2 o=some (ru C call ops o s,s'.2))\/(eM ops s.1 o=some false/\ru C call ops o s= .un/\s'.2=s.2))/\∀u,ru C call ops o s≠ .pn u:=by
 unfold step1 at h;unfold ru;split at h
 .rename_i hw;split at h
  .cases h
  .rename_i v h1 O9 ha;simp only[Zc]at h;subst h;simp only[hw,ha];exact⟨trivial,.inl ⟨trivial,trivial⟩,λu e=>O9 u e⟩
  .cases h
 .rename_i hw;simp only[Zc]at h;subst h;simp[hw]
 .cases h
def qQ{C:Cx}{call:iB}{ops:Array Oper}:∀(l:List Oper)(s:St)(jv:List St),eC C call ops l s=some jv->
 ∃S:Nat->St,S 0=s/\jv.length=l.length+1/\(∀k,k<=l.length->jv[k]?=some (S k))/\∀(k:Nat)(o:Oper),l[k]?=some o->step1 C call ops o (S k)=some (S (k+1))
 |
  [],s,jv,h=>by
  simp only[eC,Zc]at h;subst h;refine⟨λ_=>s,rfl,rfl,λk hk=>?_,by simp⟩;have hk0:k=0:=by simpa using hk
  subst hk0;rfl
 |
  o::l,s,jv,h=>by
  simp only[eC]at h;split at h
  .rename_i s1 h1;simp only[Ze]at h;obtain⟨agt,h2,rfl⟩:=h;obtain⟨S,e0,el,e1,e2⟩:=qQ l s1 agt h2;refine⟨λk=>match k with|0=>s|k+1=>S k,rfl,by simp[el],λk hk=>?_,λk o' hk=>?_⟩
   .cases k with
    |zero=>rfl
    |succ k=>simpa using e1 k (by simpa using hk)
   .cases k with
    |zero=>simp at hk;subst hk;simp[e0,h1]
    |succ k=>simp at hk;exact e2 k o' hk
  .cases h
def CH{C:Cx}{call:iB}{ops:Array Oper}:∀(l:List Oper)(s s':St),cp C call ops l s=some s'->
 ∃S:Nat->St,S 0=s/\S l.length=s'/\∀(k:Nat)(o:Oper),l[k]?=some o->step1 C call ops o (S k)=some (S (k+1))
 |
  [],s,s',h=>by
  simp only[cp,Zc]at h;subst h;exact⟨λ_=>s,rfl,rfl,by simp⟩
 |
  o::l,s,s',h=>by
  simp only[cp]at h;split at h
  .rename_i s1 h1;obtain⟨S,e0,el,e2⟩:=CH l s1 s' h;refine⟨λk=>match k with|0=>s|k+1=>S k,rfl,by simp[el],λk o' hk=>?_⟩;cases k with
   |zero=>simp at hk;subst hk;simp[e0,h1]
   |succ k=>simp at hk;exact e2 k o' hk
  .cases h
def CI{C:Cx}{call:iB}{ops:Array Oper}:∀(l:List (Oper × Bool))(s s':St),cp C call ops (DB l) s=some s'->
 ∃S:Nat->St,S 0=s/\∀(k:Nat)(o:Oper)(b:Bool),l[k]?=some (o,b)->if b=true then S (k+1)=S k else step1 C call ops o (S k)=some (S (k+1))
 | [],s,s',h=>⟨λ_=>s,rfl,by simp⟩
 |
  (o,true)::l,s,s',h=>by
  obtain⟨S,e0,e2⟩:=CI l s s' h;refine⟨λk=>match k with|0=>s|k+1=>S k,rfl,λk o' b hk=>?_⟩;cases k with
  |zero=>simp at hk;obtain⟨rfl,rfl⟩:=hk;simp[e0]
  |succ k=>simp at hk;exact e2 k o' b hk
 |
  (o,false)::l,s,s',h=>by
  have h:cp C call ops (o::DB l) s=some s':=h;simp only[cp]at h;split at h
  .rename_i s1 h1;obtain⟨S,e0,e2⟩:=CI l s1 s' h;refine⟨λk=>match k with|0=>s|k+1=>S k,rfl,λk o' b hk=>?_⟩;cases k with
   |zero=>simp at hk;obtain⟨rfl,rfl⟩:=hk;simp[e0,h1]
   |succ k=>simp at hk;exact e2 k o' b hk
  .cases h
def agu(C:Cx)(call:iB)(ops:Array Oper)(s:St)(v:Value)(hP:Hp):Prop:=
 ∃J o sj s2,ops[J]?=some o/\cp C call ops (ops.toList.take J) s=some sj/\cU C o=true/\(∀q∈needs C ops,J<q.2)/\eM ops sj.1 o=some true/\lG C call (ev C sj.1) sj.2 o=some (.pn v,hP)/\cp C call ops (DB (DA ops J)) sj=some s2
def Eu{C:Cx}{call:iB}{ops:Array Oper}{J:Nat}{s s':St}{out:Out}(h:X5 C call ops J s=some (out,s')):∃v h',out= .th v/\s'=(Sy ops.toList s.1,h')/\agu C call ops s v h':=by
 unfold X5 at h;split at h
 .rename_i o sj h1 h2;split at h
  .rename_i h3;rw[Zh,Yt]at h3;split at h
   .rename_i h4;split at h
    .rename_i v h' h5;split at h
     .rename_i s2 h6;simp only[Zc,Zg]at h;exact⟨v,h',h.1.symm,h.2.symm,J,o,sj,s2,h1,h2,h3.1,λq hq=>of_decide_eq_true (h3.2 q hq),h4,h5,h6⟩
     .cases h
    .cases h
   .cases h
  .cases h
 .cases h
def put(a:Act)(o:Oper)(v:Value):Act:=a.put o.dst v
def Wh{w:World}{X:Nat->Prop}{ρ:Nat->Nat}{n:Nat}{a:Act}{fr:List AV}(hf:RF w X ρ n a.tmps fr)(o:Oper){v:Value}{x:AV}(hv:Rp w X ρ n v x):RF w X ρ n (a.put o.dst v).tmps (rD o fr x):=by
 unfold rD Act.put;cases o.dst with
 |none=>exact hf
 |some d=>exact hf.put d hv
def put_defers(a:Act)(o:Oper)(v:Value):(a.put o.dst v).defers=a.defers:=by
 unfold Act.put;cases o.dst<;>rfl
def JG{C:Cx}{call:iB}(hT:∀t i,C.T t=some i->eH C.P t=some i)(cJ:iZ C call){ops:Array Oper}{i:Nat}{o:Oper}(hi:ops[i]?=some o){w:World}{X:Nat->Prop}{ρ:Nat->Nat}{h h':Hp}{a:Act}{fr:List AV}(hs:gf C.G w X ρ h)(hf:RF w (dK X ρ h) ρ h.length a.tmps fr){r:AV}(O9:∀u,r≠ .pn u)(hr:(eM ops fr o=some true/\lG C call (ev C fr) h o=some (r,h'))\/(eM ops fr o=some false/\r= .un/\h'=h)){K:Act->World->Prop}{Q:Exit->Act->World->Prop}(hK:∀v w' ρ',Ext C.G w X ρ h w' ρ' h'->RF w' (dK X ρ' h') ρ' h'.length (a.put o.dst v).tmps (rD o fr r)->(a.put o.dst v).defers=a.defers->K (a.put o.dst v) w'):
 wpOp C.P ops Q i K a w:=by
 unfold wpOp;simp only[hi];rcases hr with⟨hw,ha⟩|⟨hw,rfl,rfl⟩
 .rw[wL hf hw,cq rfl];exact .inl (EA hs hf hT cJ ha K Q (λv w' ρ' he hv=>hK v w' ρ' he (Wh (he.rf hf) o hv) (put_defers a o v)) λu _ _ e _=>absurd e (O9 u))
 .rw[wL hf hw];simp only[Ys,if_false];exact hK undef w ρ (Ext.refl hs) (Wh hf o (.im .un)) (put_defers a o undef)
def ug :Out->Exit
 | .normal=> .normal
 | .exit id=> .exit id
 | .ret=> .ret
 | .th v=> .panic [{v,recovered:=false}]
def EE{C:Cx}{call:iB}(hT:∀t i,C.T t=some i->eH C.P t=some i)(cJ:iZ C call){ops:Array Oper}{i:Nat}{o:Oper}(hi:ops[i]?=some o){w:World}{X:Nat->Prop}{ρ:Nat->Nat}{h h':Hp}{a:Act}{fr:List AV}(hs:gf C.G w X ρ h)(hf:RF w (dK X ρ h) ρ h.length a.tmps fr){u:Value}(hw:eM ops fr o=some true)(ha:lG C call (ev C fr) h o=some (.pn u,h')){K:Act->World->Prop}{Q:Exit->Act->World->Prop}(hQ:∀w' ρ',Ext C.G w X ρ h w' ρ' h'->RF w' (dK X ρ' h') ρ' h'.length a.tmps fr->Q (.panic [{v:=u,recovered:=false}]) a w'):
 wpOp C.P ops Q i K a w:=by
 unfold wpOp;simp only[hi];rw[wL hf hw,cq rfl];refine .inl (EA hs hf hT cJ ha K Q (λv w' ρ' he hv=>absurd hv.adf (λh=>h)) λu' w' ρ' e he=>?_);simp only[AV.pn.injEq]at e;subst e;exact hQ w' ρ' he (he.rf hf)
def EF{C:Cx}{call:iB}(hT:∀t i,C.T t=some i->eH C.P t=some i)(cJ:iZ C call){ops:Array Oper}{X:Nat->Prop}{Q:Exit->Act->World->Prop}:
 ∀(rest:List Oper)(k:Nat)(s s':St)(out:Out),ops.toList.drop k=rest->dr C call ops rest s=some (out,s')->∀(a:Act)(w:World)(ρ:Nat->Nat),gf C.G w X ρ s.2->RF w (dK X ρ s.2) ρ s.2.length a.tmps s.1->
  (∀a' w' ρ',Ext C.G w X ρ s.2 w' ρ' s'.2->RF w' (dK X ρ' s'.2) ρ' s'.2.length a'.tmps s'.1->a'.defers=a.defers->Q (ug out) a' w')->wpOps C.P ops Q ((List.range ops.size).drop k) a w
 |
  [],k,s,s',out,hd,hr,a,w,ρ,hs,hf,hQ=>by
  have hk:ops.size<=k:=by
   have:=congrArg List.length hd;simp at this;omega
  rw[Zt (by simpa using hk)];simp only[dr,Zc,Zg]at hr;obtain⟨rfl,rfl⟩:=hr;exact hQ a w ρ (Ext.refl hs) hf rfl
 |
  o::rest,k,s,s',out,hd,hr,a,w,ρ,hs,hf,hQ=>by
  have hk:k<ops.size:=by
   have:=congrArg List.length hd;simp at this;omega
  have ho:ops[k]?=some o:=by
   have:(ops.toList.drop k)[0]?=some o:=by rw[hd];rfl
   rw[Xo]at this;simpa using this
  rw[Zm (by simpa using hk),List.getElem_range,wpOps_cons];simp only[dr]at hr;split at hr
  .rename_i s1 h1;obtain⟨e1,e2,e3⟩:=jF h1;refine JG hT cJ ho hs hf e3 e2 λv w' ρ' he sF hdf=>?_
   have hd':ops.toList.drop (k+1)=rest:=by rw[<-List.drop_drop,hd];rfl
   exact EF hT cJ rest (k+1) s1 s' out hd' hr (a.put o.dst v) w' ρ' he.u6 (by rw[e1];exact sF) λa' w'' ajK M0 ajL ajM=>hQ a' w'' ajK (he.trans M0) ajL (ajM.trans hdf)
  .split at hr
   .rename_i hw;split at hr
    .rename_i u h1 ha;simp only[Zc,Zg]at hr;obtain⟨rfl,rfl⟩:=hr;exact EE hT cJ ho hs hf hw ha λw' ρ' he sF=>hQ a w' ρ' he sF rfl
    .cases hr
   .cases hr
structure GQ (ops:Array Oper)(base:List AV)(R:Nat->AV)(L:Nat->Bool)(fr:List AV):Prop where
 len:fr.length=base.length
 hit:∀(i:Nat)(o:Oper)(t:Tmp),ops[i]?=some o->o.dst=some t->t<base.length->fr[t]?=some (if L i then R i else base.getD t .ud)
 miss:∀t:Tmp,(∀(i:Nat)(o:Oper),ops[i]?=some o->o.dst≠some t)->fr[t]?=base[t]?
def GQ.put{ops:Array Oper}{C:Cx}(hr:Rok C ops){base:List AV}{R:Nat->AV}{L L':Nat->Bool}{fr:List AV}(h:GQ ops base R L fr){j:Nat}{o:Oper}(hj:ops[j]?=some o)(hL:∀i,L' i=if i=j then true else L i):GQ ops base R L' (rD o fr (R j)):=by
 unfold rD;cases hd:o.dst with
 |
  none=>
  refine⟨h.len,λi oi t hi ht dm=>?_,h.miss⟩;have eF:i≠j:=λe=>by subst e;rw[hj]at hi;cases hi;rw[hd]at ht;cases ht
  rw[h.hit i oi t hi ht dm,hL,cm eF]
 |some d=>
  refine⟨by simp[h.len],λi oi t hi ht dm=>?_,λt ht=>?_⟩
  .by_cases pZ:i=j
   .subst pZ;rw[hj]at hi;cases hi;rw[hd]at ht;cases ht;simp only[hL,if_true];rw[Zj (by rw[h.len];exact dm)]
   .have eF:d≠t:=λe=>hr.dst j i o oi d (Ne.symm pZ) hj hi hd (by rw[ht,e])
    rw[Zq eF,h.hit i oi t hi ht dm,hL,cm pZ]
  .have eF:d≠t:=λe=>ht j o hj (by rw[hd,e])
   rw[Zq eF];exact h.miss t ht
def GQ.skip{ops:Array Oper}{base:List AV}{R:Nat->AV}{L L':Nat->Bool}{fr:List AV}(h:GQ ops base R L fr){j:Nat}{o:Oper}(hj:ops[j]?=some o)(hR:∀d,o.dst=some d->R j=base.getD d .ud)(hL:∀i,L' i=if i=j then true else L i):GQ ops base R L' fr:=by
 refine⟨h.len,λi oi t hi ht dm=>?_,h.miss⟩;rw[h.hit i oi t hi ht dm,hL];by_cases pZ:i=j
 .subst pZ;rw[hj]at hi;cases hi;rw[hR t ht];simp
 .rw[cm pZ]
def abe{l:List Oper}{fr:List AV}{t:Nat}{x:AV}(h:(Sy l fr)[t]?=some x):x= .ud\/(fr[t]?=some x/\∀o∈l,o.dst≠some t):=by
 induction l generalizing fr with
 |nil=>exact .inr ⟨h,by simp⟩
 |cons o l ih=>
  rcases ih (fr:=rD o fr .ud) h with q|⟨q,hq⟩
  .exact .inl q
  .unfold rD at q;cases hd:o.dst with
   |
    none=>
    rw[hd]at q;exact .inr ⟨q,λo' yn=>by
     rcases Yw.1 yn with rfl|yn; · rw[hd];simp
     .exact hq o' yn⟩
   |some d=>
    rw[hd]at q;by_cases hdt:d=t
    .subst hdt;have dm:d<fr.length:=by have:=(Za.1 q).1;simpa using this
     simp only[Zj dm,Zc]at q;exact .inl q.symm
    .simp only[Zq hdt]at q;exact .inr ⟨q,λo' yn=>by
      rcases Yw.1 yn with rfl|yn; · rw[hd];simpa using hdt
      .exact hq o' yn⟩
def Md(l:List Oper)(fr:List AV):(Sy l fr).length=fr.length:=by
 induction l generalizing fr with
 |nil=>rfl
 |cons o l ih=>
  show(Sy l (rD o fr .ud)).length=_;rw[ih];unfold rD;cases o.dst<;>simp
def GQ.ud{ops:Array Oper}{base:List AV}{R:Nat->AV}{L:Nat->Bool}{fr:List AV}(h:GQ ops base R L fr){w:World}{X:Nat->Prop}{ρ:Nat->Nat}{n:Nat}{tmps:Array Value}(hf:RF w X ρ n tmps fr):RF w X ρ n tmps (Sy ops.toList base):=by
 refine⟨by rw[hf.1,h.len,Md],λt x hx=>?_⟩;rcases abe hx with rfl|⟨q,hq⟩
 .exact .im (.ud _)
 .refine hf.2 t x ?_;rw[h.miss t λi o hi=>hq o (by
   have:ops.toList[i]?=some o:=by simpa using hi
   exact Zi this)]
  exact q
def GQ.unique{ops:Array Oper}{base:List AV}{R:Nat->AV}{L L':Nat->Bool}{fr gO:List AV}(h:GQ ops base R L fr)(h':GQ ops base R L' gO){t:Tmp}(hL:∀(i:Nat)(o:Oper),ops[i]?=some o->o.dst=some t->L i=L' i):fr[t]?=gO[t]?:=by
 by_cases ht:∃(i:Nat)(o:Oper),ops[i]?=some o/\o.dst=some t
 .obtain⟨i,o,hi,hd⟩:=ht;by_cases dm:t<base.length
  .rw[h.hit i o t hi hd dm,h'.hit i o t hi hd dm,hL i o hi hd]
  .have h1:fr.length<=t:=by rw[h.len];exact Ya dm
   have h2:gO.length<=t:=by rw[h'.len];exact Ya dm
   rw[Xh h1,Xh h2]
 .have hm:∀(i:Nat)(o:Oper),ops[i]?=some o->o.dst≠some t:=λi o hi hd=>ht ⟨i,o,hi,hd⟩
  rw[h.miss t hm,h'.miss t hm]
def AK(l:List Bool):Nat:=(l.filter λb=> !b).length
def N6 :∀(l:List Bool)(i:Nat),l[i]?=some false->AK (l.set i true)+1=AK l
 | [],i,h=>by simp at h
 |b::l,0,h=>by simp at h;subst h;simp[AK]
 |
  b::l,i+1,h=>by
  simp at h;have:=N6 l i h;cases b<;>simp[AK]at this|- <;>omega
def JH :∀(l:List Bool),AK l=0->∀(i:Nat)(b:Bool),l[i]?=some b->b=true
 | [],_,i,b,h=>by simp at h
 |
  c::l,hc,i,b,h=>by
  cases c with
  |false=>simp[AK]at hc
  |
   true=>
   have kK:AK l=0:=by simpa[AK]using hc
   cases i with
   |zero=>simp at h;exact h
   |succ i=>simp at h;exact JH l kK i b h
def MB.lt{C:Cx}{ops:Array Oper}(hr:Rok C ops){j i:Nat}(h:MB ops j i):i<j:=by
 induction h with
 |edge ho he hb=>exact hr.back _ _ ho _ he hb
 |trans ho he hb _ ih=>exact Nat.lt_trans ih (hr.back _ _ ho _ he hb)
section draw
variable {C : Cx} {call : FuncId -> List AV -> Hp -> Option (AV × Hp)} {ops : Array Oper}
def jG{listed:Array Bool}{j:Nat}(hj:j<listed.size)(i:Nat):(listed.setIfInBounds j true).getD i false=if i=j then true else listed.getD i false:=by
 by_cases h:i=j
 .subst h;simp[hj]
 .rw[cm h,getD_set_ne false (Ne.symm h)]
set_option maxHeartbeats 1000000 in
def Wi(hT:∀t i,C.T t=some i->eH C.P t=some i)(cJ:iZ C call)(eZ:∀g xs h r h',C.inl g=false->call g xs h=some (r,h')->h'=h)(hr:Rok C ops){J:Nat}{bad:Nat->Prop}(hbJ:∀k,bad k->k=J\/MB ops k J)(hJb:J<ops.size->bad J)(hJc:∀o,ops[J]?=some o->cU C o=true){S:Nat->St}(hS:∀(k:Nat)(o:Oper),ops[k]?=some o->¬bad k->step1 C call ops o (S k)=some (S (k+1)))(hB:∀(k:Nat)(o:Oper),ops[k]?=some o->bad k->S (k+1)=S k){R:Nat->AV}(hR:∀(k:Nat)(o:Oper),ops[k]?=some o->¬bad k->R k=ru C call ops o (S k))(hRB:∀(k:Nat)(o:Oper),ops[k]?=some o->bad k->∀d,o.dst=some d->R k=(S 0).1.getD d .ud)(Me:∀(j:Nat)(o:Oper),ops[j]?=some o->¬bad j->cU C o=false->nF C o=true->eM ops (S j).1 o=some true->∀m,m<=ops.size->m<=J->
  (∀(i:Nat)(oi:Oper),ops[i]?=some oi->cU C oi=true->(((fY ops.toList []).getD j 0).testBit i=true->i<m)/\(((fY ops.toList []).getD i 0).testBit j=true->m<=i))->lG C call (ev C (S j).1) (S m).2 o=some (R j,(S m).2)){X:Nat->Prop}{w0:World}{ρ0:Nat->Nat}{d0:List Deferred}{Q:Exit->Act->World->Prop}(hQ:ops.size<=J->∀a' w' ρ',Ext C.G w0 X ρ0 (S 0).2 w' ρ' (S ops.size).2->RF w' (dK X ρ' (S ops.size).2) ρ' (S ops.size).2.length a'.tmps (S ops.size).1->a'.defers=d0->Q .normal a' w')(hpn:∀o,ops[J]?=some o->eM ops (S J).1 o=some true/\∃u hP,lG C call (ev C (S J).1) (S J).2 o=some (.pn u,hP)/\∀a' w' ρ',Ext C.G w0 X ρ0 (S 0).2 w' ρ' hP->RF w' (dK X ρ' hP) ρ' hP.length a'.tmps (Sy ops.toList (S 0).1)->a'.defers=d0->Q (.panic [{v:=u,recovered:=false}]) a' w')(W:Nat->Array Bool->Act->World->Prop)(hWz:∀listed a w,(∀i,i<ops.size->listed.getD i false=true)->Region.ready .any ops listed=[]->Q .normal a w->W 0 listed a w)(hWs:∀(fuel:Nat)(listed:Array Bool)(a:Act)(w:World)(ρ:Nat->Nat)(fr:List AV)(m:Nat),listed.size=ops.size->AK listed.toList<=fuel+1->(∀(j:Nat)(o:Oper),ops[j]?=some o->listed.getD j false=true->∀e∈o.after,Region.binds .any e=true->listed.getD e.on false=true)->GQ ops (S 0).1 R (λi=>listed.getD i false) fr->m<=ops.size->(∀(k:Nat)(o:Oper),ops[k]?=some o->cU C o=true->(k<m↔listed.getD k false=true))->Ext C.G w0 X ρ0 (S 0).2 w ρ (S m).2->RF w (dK X ρ (S m).2) ρ (S m).2.length a.tmps fr->a.defers=d0->(Region.ready .any ops listed=[]->Q .normal a w)->(∀j∈Region.ready .any ops listed,wpOp C.P ops Q j (W fuel (listed.setIfInBounds j true)) a w)->W (fuel+1) listed a w):
 ∀(fuel:Nat)(listed:Array Bool)(a:Act)(w:World)(ρ:Nat->Nat)(fr:List AV)(m:Nat),listed.size=ops.size->AK listed.toList<=fuel->
  (∀(j:Nat)(o:Oper),ops[j]?=some o->listed.getD j false=true->∀e∈o.after,Region.binds .any e=true->listed.getD e.on false=true)->
  GQ ops (S 0).1 R (λi=>listed.getD i false) fr->m<=ops.size->(J<ops.size->listed.getD J false=false)->
  (∀(k:Nat)(o:Oper),ops[k]?=some o->cU C o=true->(k<m↔listed.getD k false=true))->
  Ext C.G w0 X ρ0 (S 0).2 w ρ (S m).2->RF w (dK X ρ (S m).2) ρ (S m).2.length a.tmps fr->a.defers=d0->W fuel listed a w:=by
 have PL:∀k,k<=ops.size->GQ ops (S 0).1 R (λi=>decide (i<k)) (S k).1:=by
  intro k
  induction k with
  |
   zero=>
   intro _;refine⟨rfl,λi o t hi ht dm=>?_,λt _=>rfl⟩;simp[List.getD,Zb dm]
  |succ k ih=>
   intro hk;have ho:ops[k]?=some ops[k]:=Xl (by omega);have hL:∀i,decide (i<k+1)=if i=k then true else decide (i<k):=λi=>by
    by_cases hik:i=k
    .subst hik;simp
    .rw[cm hik];have:(i<k+1)↔(i<k):=by omega
     simp[this]
   by_cases hb:bad k
   .rw[hB k _ ho hb];exact(ih (by omega)).skip ho (hRB k _ ho hb) hL
   .have h1:=(jF (hS k _ ho hb)).1;rw[h1,<-hR k _ ho hb];exact(ih (by omega)).put hr ho hL
 have og:∀i d,i+d<=ops.size->(∀(k:Nat)(o:Oper),i<=k->k<i+d->ops[k]?=some o->cU C o=false)->(S (i+d)).2=(S i).2:=by
  intro i d
  induction d with
  |zero=>intro _ _;rfl
  |succ d ih=>
   intro da x7;have ho:ops[i+d]?=some ops[i+d]:=Xl (by omega);have h2:=ih (by omega) (λk o h1 h2 h3=>x7 k o h1 (by omega) h3);by_cases hb:bad (i+d)
   .rw[show i+(d+1)=i+d+1 by omega,hB (i+d) _ ho hb,h2]
   have h1:=(jF (hS (i+d) _ ho hb)).2.1;rcases h1 with⟨_,ha⟩|⟨_,_,ha⟩
   .have:=rk eZ (x7 (i+d) _ (by omega) (by omega) ho) ha;rw[show i+(d+1)=i+d+1 by omega,this,h2]
   .rw[show i+(d+1)=i+d+1 by omega,ha,h2]
 have hmb:∀{listed:Array Bool},(∀(j:Nat)(o:Oper),ops[j]?=some o->listed.getD j false=true->∀e∈o.after,Region.binds .any e=true->listed.getD e.on false=true)->
  ∀{j i:Nat},MB ops j i->listed.getD j false=true->listed.getD i false=true:=by
  intro listed dZ j i h
  induction h with
  |edge ho he hb=>exact λhj=>dZ _ _ ho hj _ he hb
  |trans ho he hb _ ih=>exact λhj=>ih (dZ _ _ ho hj _ he hb)
 have Wj:∀{listed:Array Bool},(∀(j:Nat)(o:Oper),ops[j]?=some o->listed.getD j false=true->∀e∈o.after,Region.binds .any e=true->listed.getD e.on false=true)->
  ∀{j i:Nat},MB ops j i->(∀o,ops[j]?=some o->∀e∈o.after,Region.binds .any e=true->listed.getD e.on false=true)->listed.getD i false=true:=by
  intro listed dZ j i h hrd;cases h with
  |edge ho he hb=>exact hrd _ ho _ he hb
  |trans ho he hb h2=>exact hmb dZ h2 (hrd _ ho _ he hb)
 have ab7:∀{listed:Array Bool}{a:Act}{w:World}{ρ:Nat->Nat}{fr:List AV}{m:Nat},(∀i,i<ops.size->listed.getD i false=true)->GQ ops (S 0).1 R (λi=>listed.getD i false) fr->m<=ops.size->(J<ops.size->listed.getD J false=false)->
  (∀(k:Nat)(o:Oper),ops[k]?=some o->cU C o=true->(k<m↔listed.getD k false=true))->
  Ext C.G w0 X ρ0 (S 0).2 w ρ (S m).2->RF w (dK X ρ (S m).2) ρ (S m).2.length a.tmps fr->a.defers=d0->Q .normal a w:=by
  intro listed a w ρ fr m dN x_ hm xa A8 he hf hd;have hJs:ops.size<=J:=by
   apply Classical.byContradiction;intro dm;have h1:=xa (by omega);rw[dN J (by omega)]at h1;cases h1
  have h1:(S ops.size).2=(S m).2:=by
   have:=og m (ops.size-m) (by omega) (λk o h1 h2 h3=>by
    cases hq:cU C o with
    |false=>rfl
    |
     true=>
     have ie:k<ops.size:=(Xt.1 h3).1;have:=(A8 k o h3 hq).2 (dN k ie);omega)
   rwa [show m+(ops.size-m)=ops.size by omega]at this
  have h2:fr=(S ops.size).1:=by
   apply List.ext_getElem?;intro t;refine x_.unique (PL ops.size (Xc _)) λi o hi _=>?_
   have k_:i<ops.size:=(Xt.1 hi).1;simp[k_];have:=dN i k_;simpa using this
  rw[<-h1]at he hf;rw[h2]at hf;exact hQ hJs a w ρ he hf hd
 intro fuel
 induction fuel with
 |
  zero=>
  intro listed a w ρ fr m fX abf dZ x_ hm xa A8 he hf hd;have dN:∀i,i<ops.size->listed.getD i false=true:=λi hi=>by
   have k_:i<listed.size:=by omega
   have:=JH listed.toList (by omega) i listed[i] (by simp[k_]);simpa[k_]using this
  refine hWz listed a w dN ?_ (ab7 dN x_ hm xa A8 he hf hd);apply List.eq_nil_iff_forall_not_mem.2;intro j hj;obtain⟨h0,o,ho,_⟩:=mem_ready.1 hj;have mZ:j<ops.size:=(Xt.1 ho).1;have h1:=dN j mZ;have ajN:j<listed.size:=by omega
  simp[ajN]at h0 h1;rw[h0]at h1;cases h1
 |succ fuel ih=>
  intro listed a w ρ fr m fX abf dZ x_ hm xa A8 he hf hd;refine hWs fuel listed a w ρ fr m fX abf dZ x_ hm A8 he hf hd (λGj=>?_) (λj hj=>?_)
  .by_cases dN:∀i,i<ops.size->listed.getD i false=true
   .exact ab7 dN x_ hm xa A8 he hf hd
   .exfalso;have hex:∃i,i<ops.size/\listed.getD i false=false:=by
     apply Classical.byContradiction;intro eF;apply dN;intro i hi;cases hq:listed.getD i false with
     |true=>rfl
     |false=>exact absurd ⟨i,hi,hq⟩ eF
    have aen:∀b i,i<=b->i<ops.size->listed.getD i false=false->∃j,j<ops.size/\listed.getD j false=false/\∀k,k<j->listed.getD k false=true:=by
     intro b
     induction b with
     |
      zero=>
      intro i hib hi hif;have:i=0:=by omega
      subst this;exact⟨0,hi,hif,λk hk=>by omega⟩
     |succ b ihb=>
      intro i hib hi hif;by_cases hsm:∃k,k<i/\listed.getD k false=false
      .obtain⟨k,hk,hkf⟩:=hsm;exact ihb k (by omega) (by omega) hkf
      .refine⟨i,hi,hif,λk hk=>?_⟩;cases hq:listed.getD k false with
       |true=>rfl
       |false=>exact absurd ⟨k,hk,hq⟩ hsm
    obtain⟨i,hi,hif⟩:=hex;obtain⟨j,hj,XN,aeo⟩:=aen i i (Xc _) hi hif;have ho:ops[j]?=some ops[j]:=Xl hj;have:j∈Region.ready .any ops listed:=mem_ready.2 ⟨by
     have mZ:j<listed.size:=by omega
     simp[mZ]at XN|-;exact XN,ops[j],ho,λe xf hb=>aeo e.on (hr.back j _ ho e xf hb)⟩
    rw[Gj]at this;cases this
  .obtain⟨T6,o,ho,aep⟩:=mem_ready.1 hj;have mZ:j<ops.size:=(Xt.1 ho).1;have JI:j<listed.size:=by omega
   have XN:listed.getD j false=false:=by simp[JI]at T6|-;exact T6
   have ZZ:∀o',ops[j]?=some o'->∀e∈o'.after,Region.binds .any e=true->listed.getD e.on false=true:=λo' yn e xf hb=>by
    rw[ho]at yn;cases yn;exact aep e xf hb
   have ab8:∀t∈o.looksAt ops,fr[t]?=(S j).1[t]?:=λt ht=>by
    refine x_.unique (PL j (by omega)) λi oi hi Wk=>?_
    by_cases pZ:i=j
    .subst pZ;simp;simpa using XN
    .rcases hr.look i j oi o t pZ hi ho Wk ht with⟨dm,agv⟩|⟨dm,agw⟩
     .have:=Wj dZ agv ZZ;simp[dm];simpa using this
     .have nh:listed.getD i false=false:=by
       cases hq:listed.getD i false with
       |false=>rfl
       |true=>have:=hmb dZ agw hq;rw[XN]at this;cases this
      have:¬i<j:=by omega
      simp[this];simpa using nh
   have AG:∀x∈o.op.operands,ev C fr x=ev C (S j).1 x:=λx hx=>by
    cases x with
    |tmp t=>
     have ht:t∈o.looksAt ops:=List.mem_append_left _ (List.mem_filterMap.2 ⟨.tmp t,by simpa using hx,rfl⟩);simp only[ev,List.getD,ab8 t ht]
    |_=>rfl
   have Wl:eM ops fr o=eM ops (S j).1 o:=by
    unfold eM;cases hg:o.guard with
    |none=>rfl
    |some q=>
     obtain⟨g,wt⟩:=q;simp only;cases Wk:(ops[g]?).bind (·.dst)with
     |none=>rfl
     |some d=>
      have ht:d∈o.looksAt ops:=Zk _ (by simp[hg,Wk]);simp only[ab8 d ht]
   have mi:cU C o=true->(S m).2=(S j).2:=λJJ=>by
    by_cases hmj:m<=j
    .have:=og m (j-m) (by omega) (λk ok h1 h2 h3=>by
      cases hq:cU C ok with
      |false=>rfl
      |
       true=>
       have XO:k≠j:=by omega
       rcases hr.heap k j ok o XO h3 ho hq JJ with⟨_,Wm⟩|⟨dm,_⟩
       .have h4:=Wj dZ Wm ZZ;have:=(A8 k ok h3 hq).2 h4;omega
       .omega)
     rw[<-this,show m+(j-m)=j by omega]
    .have:=og j (m-j) (by omega) (λk ok h1 h2 h3=>by
      cases hq:cU C ok with
      |false=>rfl
      |
       true=>
       have h4:=(A8 k ok h3 hq).1 (by omega);by_cases XO:k=j
       .subst XO;rw[XN]at h4;cases h4
       .rcases hr.heap k j ok o XO h3 ho hq JJ with⟨dm,_⟩|⟨_,Wn⟩
        .omega
        .have:=hmb dZ Wn h4;rw[XN]at this;cases this)
     rw[show j+(m-j)=m by omega]at this;exact this
   have hmJ:m<=J:=by
    by_cases hJs:J<ops.size
    .have hoJ:ops[J]?=some ops[J]:=Xl hJs;apply Classical.byContradiction;intro dm;have h1:=(A8 J _ hoJ (hJc _ hoJ)).1 (by omega);rw[xa hJs]at h1;cases h1
    .omega
   by_cases hjJ:j=J
   .subst hjJ;obtain⟨hwJ,u,hP,haJ,hQJ⟩:=hpn o ho;have hhp:=mi (hJc o ho);rw[<-hhp,<-yU AG]at haJ;rw[<-Wl]at hwJ;exact EE hT cJ ho he.u6 hf hwJ haJ λw' ρ' M0 sF=>hQJ a w' ρ' (he.trans M0) (x_.ud sF) hd
   have W_:¬bad j:=λhb=>by
    rcases hbJ j hb with q|q
    .exact hjJ q
    .by_cases hJs:J<ops.size
     .have h1:=Wj dZ q ZZ;rw[xa hJs]at h1;cases h1
     .have:=q.lt hr;omega
   obtain⟨oz,dM,O9⟩:=jF (hS j o ho W_);have hRj:=hR j o ho W_;have xS:(listed.setIfInBounds j true).size=ops.size:=by simpa using fX
   have agx:AK (listed.setIfInBounds j true).toList<=fuel:=by
    have h1:=N6 listed.toList j (by
     have:listed[j]=false:=by simpa[JI]using XN
     simp[JI,this])
    rw[Array.toList_setIfInBounds];omega
   have acY:∀(j':Nat)(o':Oper),ops[j']?=some o'->(listed.setIfInBounds j true).getD j' false=true->∀e∈o'.after,Region.binds .any e=true->(listed.setIfInBounds j true).getD e.on false=true:=by
    intro j' o' yn hl e xf hb;rw[jG JI]at hl;by_cases hjj:j'=j
    .subst hjj;exact getD_set_true (ZZ o' yn e xf hb)
    .rw[cm hjj]at hl;exact getD_set_true (dZ j' o' yn hl e xf hb)
   have ajO:GQ ops (S 0).1 R (λi=>(listed.setIfInBounds j true).getD i false) (rD o fr (R j)):=x_.put hr ho λi=>jG JI i
   have next:∀(m':Nat)(h':Hp),m'<=ops.size->h'=(S m').2->(∀(k:Nat)(ok:Oper),ops[k]?=some ok->cU C ok=true->(k<m'↔(listed.setIfInBounds j true).getD k false=true))->
    ((eM ops fr o=some true/\lG C call (ev C fr) (S m).2 o=some (R j,h'))\/(eM ops fr o=some false/\R j= .un/\h'=(S m).2))->wpOp C.P ops Q j (W fuel (listed.setIfInBounds j true)) a w:=by
    intro m' h' w6 hh' ajP vw;subst hh';refine JG hT cJ ho he.u6 hf (by rw[hR j o ho W_];exact O9) vw λv w' ρ' M0 sF hdf=>?_
    exact ih _ _ w' ρ' _ m' xS agx acY ajO w6 (λhJs=>by rw[jG JI,cm (Ne.symm hjJ)];exact xa hJs) ajP (he.trans M0) sF (hdf.trans hd)
   have stay:cU C o=false->∀(k:Nat)(ok:Oper),ops[k]?=some ok->cU C ok=true->(k<m↔(listed.setIfInBounds j true).getD k false=true):=by
    intro hnc k ok hk hq;have XO:k≠j:=λe=>by subst e;rw[ho]at hk;cases hk;rw[hnc]at hq;cases hq
    rw[jG JI,cm XO];exact A8 k ok hk hq
   by_cases agy:cU C o=true
   .have JJ:=agy;have hhp:=mi JJ;refine next (j+1) _ (by omega) rfl ?_ ?_
    .intro k ok hk hq;rw[jG JI];by_cases XO:k=j
     .subst XO;simp
     .rw[cm XO];rcases hr.heap k j ok o XO hk ho hq JJ with⟨dm,Wm⟩|⟨dm,Wn⟩
      .have:=Wj dZ Wm ZZ;exact⟨λ_=>this,λ_=>by omega⟩
      .refine⟨λh1=>by omega,λh1=>?_⟩;have:=hmb dZ Wn h1;rw[XN]at this;cases this
    .rw[hhp,Wl,yU AG,hRj];exact dM
   .have hnc:cU C o=false:=by simpa using agy
    refine next m _ hm rfl (stay hnc) ?_
    rw[Wl,yU AG,hRj];rcases dM with⟨h1,h2⟩|⟨h1,h2,h3⟩
    .left;refine⟨h1,?_⟩;by_cases JJ:nF C o=true
     .have hms:=oR (ops:=ops) ops.toList [] (by simp) (λj i h=>by simp at h);rw[<-hRj];refine Me j o ho W_ hnc JJ h1 m hm hmJ λi oi hi R9=>⟨λhb=>?_,λhb=>?_⟩
      .exact(A8 i oi hi R9).2 (Wj dZ (hms j i hb) ZZ)
      .have nh:listed.getD i false=false:=by
        cases hq:listed.getD i false with
        |false=>rfl
        |true=>have:=hmb dZ (hms i j hb) hq;rw[XN]at this;cases this
       have:¬i<m:=λdm=>by rw[(A8 i oi hi R9).1 dm]at nh;cases nh
       omega
     .exact Wg (by simpa using JJ) h2 _
    .exact .inr ⟨h1,h2,rfl⟩
def CJ(hT:∀t i,C.T t=some i->eH C.P t=some i)(cJ:iZ C call)(eZ:∀g xs h r h',C.inl g=false->call g xs h=some (r,h')->h'=h)(hr:Rok C ops){J:Nat}{bad:Nat->Prop}(hbJ:∀k,bad k->k=J\/MB ops k J)(hJb:J<ops.size->bad J)(hJc:∀o,ops[J]?=some o->cU C o=true){S:Nat->St}(hS:∀(k:Nat)(o:Oper),ops[k]?=some o->¬bad k->step1 C call ops o (S k)=some (S (k+1)))(hB:∀(k:Nat)(o:Oper),ops[k]?=some o->bad k->S (k+1)=S k){R:Nat->AV}(hR:∀(k:Nat)(o:Oper),ops[k]?=some o->¬bad k->R k=ru C call ops o (S k))(hRB:∀(k:Nat)(o:Oper),ops[k]?=some o->bad k->∀d,o.dst=some d->R k=(S 0).1.getD d .ud)(Me:∀(j:Nat)(o:Oper),ops[j]?=some o->¬bad j->cU C o=false->nF C o=true->eM ops (S j).1 o=some true->∀m,m<=ops.size->m<=J->
  (∀(i:Nat)(oi:Oper),ops[i]?=some oi->cU C oi=true->(((fY ops.toList []).getD j 0).testBit i=true->i<m)/\(((fY ops.toList []).getD i 0).testBit j=true->m<=i))->lG C call (ev C (S j).1) (S m).2 o=some (R j,(S m).2)){X:Nat->Prop}{w0:World}{ρ0:Nat->Nat}{d0:List Deferred}{Q:Exit->Act->World->Prop}(hQ:ops.size<=J->∀a' w' ρ',Ext C.G w0 X ρ0 (S 0).2 w' ρ' (S ops.size).2->RF w' (dK X ρ' (S ops.size).2) ρ' (S ops.size).2.length a'.tmps (S ops.size).1->a'.defers=d0->Q .normal a' w')(hpn:∀o,ops[J]?=some o->eM ops (S J).1 o=some true/\∃u hP,lG C call (ev C (S J).1) (S J).2 o=some (.pn u,hP)/\∀a' w' ρ',Ext C.G w0 X ρ0 (S 0).2 w' ρ' hP->RF w' (dK X ρ' hP) ρ' hP.length a'.tmps (Sy ops.toList (S 0).1)->a'.defers=d0->Q (.panic [{v:=u,recovered:=false}]) a' w'):
 ∀(fuel:Nat)(listed:Array Bool)(a:Act)(w:World)(ρ:Nat->Nat)(fr:List AV)(m:Nat),listed.size=ops.size->AK listed.toList<=fuel->
  (∀(j:Nat)(o:Oper),ops[j]?=some o->listed.getD j false=true->∀e∈o.after,Region.binds .any e=true->listed.getD e.on false=true)->
  GQ ops (S 0).1 R (λi=>listed.getD i false) fr->m<=ops.size->(J<ops.size->listed.getD J false=false)->
  (∀(k:Nat)(o:Oper),ops[k]?=some o->cU C o=true->(k<m↔listed.getD k false=true))->
  Ext C.G w0 X ρ0 (S 0).2 w ρ (S m).2->RF w (dK X ρ (S m).2) ρ (S m).2.length a.tmps fr->a.defers=d0->wpAny C.P .any ops Q fuel listed a w:=
 Wi hT cJ eZ hr hbJ hJb hJc hS hB hR hRB Me hQ hpn (λfuel listed a w=>wpAny C.P .any ops Q fuel listed a w) (λ_ _ _ _ h q=>⟨h,q⟩) (λ_ _ _ _ _ _ _ _ _ _ _ _ _ _ _ _ hn hj=>⟨hn,hj⟩)
def Gq{C:Cx}{ops:Array Oper}{m:Nat}(hm:m<ops.size):cc C ops (m+1)=cc C ops m+if cU C ops[m]=true then 1 else 0:=by
 unfold cc;rw[List.take_succ_eq_append_getElem (by simpa using hm),Yq,Zu]
 congr 1
 simp only[Array.getElem_toList,List.filter_cons,List.filter_nil];split<;>rfl
def Gs{C:Cx}{ops:Array Oper}:∀(d m:Nat),m+d<=ops.size->cc C ops (m+d)=cc C ops m->∀(k:Nat)(o:Oper),m<=k->k<m+d->ops[k]?=some o->cU C o=false
 |0,m,_,_,k,o,h1,h2,_=>by omega
 |
  d+1,m,da,he,k,o,h1,h2,ho=>by
  have dM:=Gq (C:=C) (ops:=ops) (m:=m+d) (by omega);have pz:∀d',m+d'<=ops.size->cc C ops m<=cc C ops (m+d'):=by
   intro d'
   induction d' with
   |zero=>intro _;exact Xc _
   |succ d' ih=>
    intro h;have:=Gq (C:=C) (ops:=ops) (m:=m+d') (by omega);rw[<-Nat.add_assoc,this];exact Yp (ih (by omega)) (Nat.le_add_right _ _)
  have h3:=pz d (by omega);rw[<-Nat.add_assoc]at he;rw[he]at dM;by_cases hc:cU C ops[m+d]=true
  .rw[cq hc]at dM;omega
  .rw[cm hc]at dM;by_cases hk:k=m+d
   .subst hk;rw[Xl (by omega)]at ho;cases ho;simpa using hc
   .exact Gs d m (by omega) (by omega) k o h1 (by omega) ho
def canon{C:Cx}{ops:Array Oper}:∀m,m<=ops.size->∃m0,m0<=m/\cc C ops m0=cc C ops m/\(m0=0\/∃o',ops[m0-1]?=some o'/\cU C o'=true)/\∀(k:Nat)(o:Oper),m0<=k->k<m->ops[k]?=some o->cU C o=false
 |0,_=>⟨0,Xc _,rfl,.inl rfl,λk o h1 h2=>by omega⟩
 |
  m+1,hm=>by
  have Ud:m<ops.size:=by omega
  have dM:=Gq (C:=C) (ops:=ops) (m:=m) (by omega);by_cases hc:cU C ops[m]=true
  .exact⟨m+1,Xc _,rfl,.inr ⟨ops[m]'Ud,by simp,hc⟩,λk o h1 h2=>by omega⟩
  .obtain⟨m0,h1,h2,h3,h4⟩:=canon (C:=C) (ops:=ops) m (by omega);rw[cm hc]at dM;refine⟨m0,by omega,by omega,h3,λk o k1 k2 ho=>?_⟩;by_cases hk:k=m
   .rw[hk,Xl (show m<ops.size by omega)]at ho;simp only[Zc]at ho;rw[<-ho];simpa using hc
   .exact h4 k o k1 (by omega) ho
def Mf{C:Cx}{ops:Array Oper}{i:Nat}(h:(A2 C ops).testBit i=true):CY C ops i=true:=by
 have key:∀(l:List Nat)(s:Nat),(l.foldl (λs i=>cond (CY C ops i) (s|||2^i) s) s).testBit i=true->s.testBit i=true\/CY C ops i=true:=by
  intro l
  induction l with
  |nil=>exact λs h=> .inl h
  |cons k l ih=>
   intro s h;rcases ih _ h with h1|h1
   .simp only at h1;cases hk:CY C ops k with
    |false=>rw[hk]at h1;exact .inl h1
    |
     true=>
     rw[hk]at h1;simp only[cond_true,Nat.testBit_or,Yy,Nat.testBit_two_pow,Zy]at h1;rcases h1 with h1|h1
     .exact .inl h1
     .subst h1;exact .inr hk
   .exact .inr h1
 rcases key _ 0 h with h1|h1
 .simp at h1
 .exact h1
def yV{C:Cx}{ops:Array Oper}{i:Nat}(h:CY C ops i=true):∃o,ops[i]?=some o/\cU C o=true:=by
 unfold CY at h;split at h
 .rename_i o ho;exact⟨o,ho,h⟩
 .cases h
def EG{C:Cx}{ops:Array Oper}{ms:List Nat}{j m:Nat}(hm:m<=ops.size)(h:∀(i:Nat)(oi:Oper),ops[i]?=some oi->cU C oi=true->((ms.getD j 0).testBit i=true->i<m)/\((ms.getD i 0).testBit j=true->m<=i)):A3 C ops ms j m=true:=by
 unfold A3;rw[Zh];constructor
 .refine Nat.ble_eq_true_of_le ?_;unfold afA;cases hq:Nat.beq (ms.getD j 0 &&& A2 C ops) 0 with
  |true=>exact Nat.zero_le _
  |
   false=>
   have eF:ms.getD j 0 &&& A2 C ops≠0:=λe=>by rw[e]at hq;cases hq
   have hb:=Nat.testBit_log2 eF;rw[Nat.testBit_and,Zh]at hb;obtain⟨o,ho,hc⟩:=yV (Mf hb.2);exact(h _ o ho hc).1 hb.1
 .refine Nat.ble_eq_true_of_le ?_;unfold afB;cases hf:(List.range ops.size).find? λi=>CY C ops i && (ms.getD i 0).testBit j with
  |none=>exact hm
  |some i=>
   have hp:=List.find?_some hf;rw[Zh]at hp;obtain⟨o,ho,hc⟩:=yV hp.1;exact(h i o ho hc).2 hp.2
def yW(eZ:∀g xs h r h',C.inl g=false->call g xs h=some (r,h')->h'=h){s s':St}{jv:List St}(jj:eC C call ops ops.toList s=some jv)(og:(needs C ops).all (sameAt C call ops jv)=true)(Wo:jv[ops.size]?=some s'):
 ∃S:Nat->St,S 0=s/\S ops.size=s'/\(∀k,k<=ops.size->jv[k]?=some (S k))/\(∀(k:Nat)(o:Oper),ops[k]?=some o->step1 C call ops o (S k)=some (S (k+1)))/\
 ∀(j:Nat)(o:Oper),ops[j]?=some o->cU C o=false->nF C o=true->eM ops (S j).1 o=some true->∀m,m<=ops.size->
  (∀(i:Nat)(oi:Oper),ops[i]?=some oi->cU C oi=true->(((fY ops.toList []).getD j 0).testBit i=true->i<m)/\(((fY ops.toList []).getD i 0).testBit j=true->m<=i))->lG C call (ev C (S j).1) (S m).2 o=some (ru C call ops o (S j),(S m).2):=by
 obtain⟨S,e0,el,e1,e2⟩:=qQ _ s jv jj;rw[Array.length_toList]at e1;have eL:S ops.size=s':=by
  have:=e1 ops.size (Xc _);rw[Wo]at this;exact(Option.some.inj this).symm
 have hS:∀(k:Nat)(o:Oper),ops[k]?=some o->step1 C call ops o (S k)=some (S (k+1)):=λk o hk=>e2 k o (by simpa using hk)
 have Mh:∀i d,i+d<=ops.size->(∀(k:Nat)(o:Oper),i<=k->k<i+d->ops[k]?=some o->cU C o=false)->(S (i+d)).2=(S i).2:=by
  intro i d
  induction d with
  |zero=>intro _ _;rfl
  |succ d ih=>
   intro da x7;have ho:ops[i+d]?=some ops[i+d]:=Xl (by omega);have h1:=(jF (hS (i+d) _ ho)).2.1;have h2:=ih (by omega) (λk o h1 h2 h3=>x7 k o h1 (by omega) h3);rcases h1 with⟨_,ha⟩|⟨_,_,ha⟩
   .have:=rk eZ (x7 (i+d) _ (by omega) (by omega) ho) ha;rw[show i+(d+1)=i+d+1 by omega,this,h2]
   .rw[show i+(d+1)=i+d+1 by omega,ha,h2]
 have CK:∀i k,i<=k->k<=ops.size->cc C ops i=cc C ops k->(S k).2=(S i).2:=by
  intro i k h1 h2 h3;have:=Mh i (k-i) (by omega) (λq o q1 q2 q3=>Gs (k-i) i (by omega) (by rw[show i+(k-i)=k by omega];exact h3.symm) q o q1 q2 q3)
  rwa [show i+(k-i)=k by omega]at this
 have Me:∀(j:Nat)(o:Oper),ops[j]?=some o->cU C o=false->nF C o=true->eM ops (S j).1 o=some true->∀m,m<=ops.size->
  (∀(i:Nat)(oi:Oper),ops[i]?=some oi->cU C oi=true->(((fY ops.toList []).getD j 0).testBit i=true->i<m)/\(((fY ops.toList []).getD i 0).testBit j=true->m<=i))->lG C call (ev C (S j).1) (S m).2 o=some (ru C call ops o (S j),(S m).2):=by
  intro j o ho hc ht hw m w6 yX;have hj:j<ops.size:=(Xt.1 ho).1;have dM:=jF (hS j o ho);have haj:lG C call (ev C (S j).1) (S j).2 o=some (ru C call ops o (S j),(S j).2):=by
   rcases dM.2.1 with⟨_,h2⟩|⟨h1,_⟩
   .have:=rk eZ hc h2;rw[this]at h2;exact h2
   .rw[hw]at h1;cases h1
  obtain⟨m0,c1,c2,c3,c4⟩:=canon (C:=C) (ops:=ops) m w6;have zQ:=CK m0 m c1 w6 c2;rw[zQ];by_cases E1:cc C ops m0=cc C ops j
  .have:(S m0).2=(S j).2:=by
    by_cases da:m0<=j
    .exact(CK m0 j da (by omega) E1).symm
    .exact CK j m0 (by omega) (by omega) E1.symm
   rw[this];exact haj
  .rw[Yt]at og;have hmr:A3 C ops (fY ops.toList []) j m0=true:=by
    refine EG (by omega) λi oi hi R9=>⟨λhb=>?_,λhb=>?_⟩
    .have h5:=(yX i oi hi R9).1 hb;apply Classical.byContradiction;intro dm;have:=c4 i oi (by omega) h5 hi;rw[R9]at this;cases this
    .have:=(yX i oi hi R9).2 hb;omega
   have hmz:tf C ops m0=true:=by
    unfold tf;rcases c3 with rfl|⟨o',h3,h4⟩
    .rfl
    .rw[h3];simp[h4]
   have tY:(j,m0)∈needs C ops:=by
    unfold needs;refine List.mem_flatMap.2 ⟨j,by simpa using hj,?_⟩;rw[ho];simp only[hc,ht,Bool.false_or,Xv,Ys,if_false];refine List.mem_filterMap.2 ⟨m0,by simp;omega,?_⟩;have W_:Nat.beq (cc C ops m0) (cc C ops j)=false:=by
     cases hq:Nat.beq (cc C ops m0) (cc C ops j)with
     |false=>rfl
     |true=>exact absurd (Nat.eq_of_beq_eq_true hq) E1
    simp only[W_,hmz,hmr,Xv,Bool.or_self,Ys,if_false]
   have h2:=og _ tY;simp only[sameAt,ho,e1 j (by omega),hw,e1 m0 (by omega),haj]at h2;split at h2
   .rename_i v' h' hav;have:=mK h2;have hh:=rk eZ hc hav;rw[hav,this,hh]
   .cases h2
 exact⟨S,e0,eL,e1,hS,Me⟩
def Mi(hm:C.P.follows .mixedOrders=true)(hT:∀t i,C.T t=some i->eH C.P t=some i)(cJ:iZ C call)(eZ:∀g xs h r h',C.inl g=false->call g xs h=some (r,h')->h'=h)(hr:rok C ops=true){s s':St}{jv:List St}(jj:eC C call ops ops.toList s=some jv)(og:(needs C ops).all (sameAt C call ops jv)=true)(Wo:jv[ops.size]?=some s'){X:Nat->Prop}{w:World}{ρ:Nat->Nat}{a:Act}(hs:gf C.G w X ρ s.2)(hf:RF w (dK X ρ s.2) ρ s.2.length a.tmps s.1){id:Nat}{Q:Exit->Act->World->Prop}(hQ:∀a' w' ρ',Ext C.G w X ρ s.2 w' ρ' s'.2->RF w' (dK X ρ' s'.2) ρ' s'.2.length a'.tmps s'.1->a'.defers=a.defers->Q .normal a' w'):(Code.region id ops true).wp C.P Q a w:=by
 obtain⟨S,e0,eL,_,hS,Me⟩:=yW eZ jj og Wo;have he:=qd hs (w.drawn+1);refine wp_region_any hm ?_;have dZ:∀i,(Array.replicate ops.size false).getD i false=false:=λi=>by
  by_cases h:i<ops.size<;>simp[h]
 have x7:∀o,ops[ops.size]?≠some o:=λo=>by simp
 refine CJ (S:=S) (R:=λk=>match ops[k]? with|some o=>ru C call ops o (S k)|none=> .ud) (w0:=w) (ρ0:=ρ) (d0:=a.defers) hT cJ eZ (rj hr) (J:=ops.size) (bad:=λ_=>False) (λk h=>h.elim) (λh=>by omega) (λo ho=>absurd ho (x7 o)) (λk o hk _=>hS k o hk) (λk o _ h=>h.elim) (λk o hk _=>by simp only[hk]) (λk o _ h=>h.elim)
  (λj o ho _ hc ht hw m w6 _ yX=>by simp only[ho];exact Me j o ho hc ht hw m w6 yX)
  (λ_ a' w' ρ' h1 h2 h3=>hQ a' w' ρ' (by rw[e0,eL]at h1;exact h1) (by rw[eL]at h2;exact h2) h3) (λo ho=>absurd ho (x7 o)) ops.size _ a _ ρ s.1 0 (by simp) ?_ ?_ ?_ (Nat.zero_le _) (λh=>by omega) ?_ (by rw[e0];exact he) (by rw[e0];exact he.rf hf) rfl
 .simp only[AK,Array.toList_replicate];exact Yp (Xu _ _) (by simp)
 .intro j o _ hl;rw[dZ]at hl;cases hl
 .rw[e0];refine⟨rfl,λi o t hi ht dm=>?_,λt _=>rfl⟩;rw[dZ];simp[List.getD,Zb dm]
 .intro k o _ _;rw[dZ];simp
def abg{j m:Nat}{o:Oper}(ho:ops[j]?=some o)(hc:cU C o=false)(ht:nF C o=true)(w6:m<=ops.size)(yX:∀(i:Nat)(oi:Oper),ops[i]?=some oi->cU C oi=true->(((fY ops.toList []).getD j 0).testBit i=true->i<m)/\(((fY ops.toList []).getD i 0).testBit j=true->m<=i)):
 ∃m0,m0<=m/\cc C ops m0=cc C ops m/\(cc C ops m0=cc C ops j\/(j,m0)∈needs C ops):=by
 have hj:j<ops.size:=(Xt.1 ho).1;obtain⟨m0,c1,c2,c3,c4⟩:=canon (C:=C) (ops:=ops) m w6;refine⟨m0,c1,c2,?_⟩;by_cases E1:cc C ops m0=cc C ops j
 .exact .inl E1
 .refine .inr ?_;have hmr:A3 C ops (fY ops.toList []) j m0=true:=by
   refine EG (by omega) λi oi hi R9=>⟨λhb=>?_,λhb=>?_⟩
   .have h5:=(yX i oi hi R9).1 hb;apply Classical.byContradiction;intro dm;have:=c4 i oi (by omega) h5 hi;rw[R9]at this;cases this
   .have:=(yX i oi hi R9).2 hb;omega
  have hmz:tf C ops m0=true:=by
   unfold tf;rcases c3 with rfl|⟨o',h3,h4⟩
   .rfl
   .rw[h3];simp[h4]
  unfold needs;refine List.mem_flatMap.2 ⟨j,by simpa using hj,?_⟩;rw[ho];simp only[hc,ht,Bool.false_or,Xv,Ys,if_false];refine List.mem_filterMap.2 ⟨m0,by simp;omega,?_⟩;have W_:Nat.beq (cc C ops m0) (cc C ops j)=false:=by
   cases hq:Nat.beq (cc C ops m0) (cc C ops j)with
   |false=>rfl
   |true=>exact absurd (Nat.eq_of_beq_eq_true hq) E1
  simp only[W_,hmz,hmr,Xv,Bool.or_self,Ys,if_false]
def Wp(hm:C.P.follows .mixedOrders=true)(hT:∀t i,C.T t=some i->eH C.P t=some i)(cJ:iZ C call)(eZ:∀g xs h r h',C.inl g=false->call g xs h=some (r,h')->h'=h)(hr:rok C ops=true){s:St}{v:Value}{hP:Hp}(hd:agu C call ops s v hP){X:Nat->Prop}{w:World}{ρ:Nat->Nat}{a:Act}(hs:gf C.G w X ρ s.2)(hf:RF w (dK X ρ s.2) ρ s.2.length a.tmps s.1){id:Nat}{Q:Exit->Act->World->Prop}(hQ:∀a' w' ρ',Ext C.G w X ρ s.2 w' ρ' hP->RF w' (dK X ρ' hP) ρ' hP.length a'.tmps (Sy ops.toList s.1)->a'.defers=a.defers->Q (.panic [{v,recovered:=false}]) a' w'):(Code.region id ops true).wp C.P Q a w:=by
 obtain⟨J,oJ,sj,s2,h1,h2,h3,h4,h5,h6,h7⟩:=hd;have hJ:J<ops.size:=(Xt.1 h1).1;obtain⟨S1,a0,aJ,aS⟩:=CH _ _ _ h2;obtain⟨S2,b0,bS⟩:=CI _ _ _ h7;have ajQ:(ops.toList.take J).length=J:=by rw[Xf,Array.length_toList];omega
 rw[ajQ]at aJ;have ab9:∀k o,J<k->ops[k]?=some o->(DA ops J)[k-(J+1)]?=some (o,((fY ops.toList []).getD k 0).testBit J):=λk o hk ho=>by
  have yn:ops.toList[k]?=some o:=by simpa using ho
  unfold DA;rw[Zs,Xo,List.getElem?_zipIdx,show J+1+(k-(J+1))=k by omega,yn];simp
 obtain⟨S,eS⟩:∃S:Nat->St,∀k,S k=if k<=J then S1 k else S2 (k-(J+1)):=⟨_,λ_=>rfl⟩
 obtain⟨bad,eb⟩:∃bad:Nat->Prop,∀k,bad k↔(k=J\/(J<k/\((fY ops.toList []).getD k 0).testBit J=true)):=⟨_,λ_=>Iff.rfl⟩;have e0:S 0=s:=by rw[eS,cq (Nat.zero_le _),a0]
 have eJ:S J=sj:=by rw[eS,cq (Xc _),aJ]
 have hS:∀(k:Nat)(o:Oper),ops[k]?=some o->¬bad k->step1 C call ops o (S k)=some (S (k+1)):=λk o ho hb=>by
  rw[eb]at hb;by_cases hk:k<J
  .rw[eS,eS,cq (by omega),cq (by omega)];refine aS k o ?_;rw[List.getElem?_take_of_lt hk];simpa using ho
  .have lk:J<k:=by omega
   have:=bS _ _ _ (ab9 k o lk ho);rw[cm (λq=>hb (.inr ⟨lk,q⟩))]at this;rw[eS,eS,cm (by omega),cm (by omega),show k+1-(J+1)=k-(J+1)+1 by omega];exact this
 have hB:∀(k:Nat)(o:Oper),ops[k]?=some o->bad k->S (k+1)=S k:=λk o ho hb=>by
  rw[eb]at hb;rcases hb with rfl|⟨hk,hb⟩
  .rw[eS,eS,cm (by omega),cq (Xc _),Nat.sub_self,b0,aJ]
  .have:=bS _ _ _ (ab9 k o hk ho);rw[cq hb]at this;rw[eS,eS,cm (by omega),cm (by omega),show k+1-(J+1)=k-(J+1)+1 by omega];exact this
 have Mh:∀i d,i+d<=ops.size->(∀(k:Nat)(o:Oper),i<=k->k<i+d->ops[k]?=some o->cU C o=false)->(S (i+d)).2=(S i).2:=by
  intro i d
  induction d with
  |zero=>intro _ _;rfl
  |succ d ih=>
   intro da x7;have ho:ops[i+d]?=some ops[i+d]:=Xl (by omega);have h2:=ih (by omega) (λk o h1 h2 h3=>x7 k o h1 (by omega) h3);by_cases hb:bad (i+d)
   .rw[show i+(d+1)=i+d+1 by omega,hB (i+d) _ ho hb,h2]
   have h1:=(jF (hS (i+d) _ ho hb)).2.1;rcases h1 with⟨_,ha⟩|⟨_,_,ha⟩
   .have:=rk eZ (x7 (i+d) _ (by omega) (by omega) ho) ha;rw[show i+(d+1)=i+d+1 by omega,this,h2]
   .rw[show i+(d+1)=i+d+1 by omega,ha,h2]
 have CK:∀i k,i<=k->k<=ops.size->cc C ops i=cc C ops k->(S k).2=(S i).2:=by
  intro i k h1 h2 h3;have:=Mh i (k-i) (by omega) (λq o q1 q2 q3=>Gs (k-i) i (by omega) (by rw[show i+(k-i)=k by omega];exact h3.symm) q o q1 q2 q3)
  rwa [show i+(k-i)=k by omega]at this
 have hms:=oR (ops:=ops) ops.toList [] (by simp) (λj i h=>by simp at h);have he:=qd hs (w.drawn+1);refine wp_region_any hm ?_;have dZ:∀i,(Array.replicate ops.size false).getD i false=false:=λi=>by
  by_cases h:i<ops.size<;>simp[h]
 refine CJ (S:=S) (R:=λk=>match ops[k]? with|some o=>(open Classical in if bad k then(match o.dst with|some d=>(S 0).1.getD d .ud|none=> .ud)else ru C call ops o (S k))|none=> .ud) (w0:=w) (ρ0:=ρ) (d0:=a.defers) hT cJ eZ (rj hr) (J:=J) (bad:=bad) ?_ (λ_=>(eb J).2 (.inl rfl)) (λo ho=>?_) hS hB (λk o hk hb=>by simp only[hk,cm hb]) (λk o hk hb d hd=>by simp only[hk,cq hb,hd])
  (λj o ho hb hc ht hw m w6 hmJ yX=>?_)
  (λh=>by omega) (λo ho=>?_) ops.size _ a _ ρ s.1 0 (by simp) ?_ ?_ ?_ (Nat.zero_le _) (λ_=>dZ J) ?_ (by rw[e0];exact he) (by rw[e0];exact he.rf hf) rfl
 .intro k hb;rcases(eb k).1 hb with q|⟨_,q⟩
  .exact .inl q
  .exact .inr (hms k J q)
 .rw[h1]at ho;cases ho;exact h3
 .simp only[ho,cm hb];have hj:j<ops.size:=(Xt.1 ho).1;have haj:lG C call (ev C (S j).1) (S j).2 o=some (ru C call ops o (S j),(S j).2):=by
   rcases(jF (hS j o ho hb)).2.1 with⟨_,h2⟩|⟨h1,_⟩
   .have:=rk eZ hc h2;rw[this]at h2;exact h2
   .rw[hw]at h1;cases h1
  obtain⟨m0,c1,c2,c3⟩:=abg ho hc ht w6 yX;rw[CK m0 m c1 w6 c2];rcases c3 with E1|tY
  .have:(S m0).2=(S j).2:=by
    by_cases da:m0<=j
    .exact(CK m0 j da (by omega) E1).symm
    .exact CK j m0 (by omega) (by omega) E1.symm
   rw[this];exact haj
  .have:=h4 _ tY;exact absurd this (by simp only;omega)
 .rw[h1]at ho;cases ho;rw[eJ];refine⟨h5,v,hP,h6,λa' w' ρ' k1 k2 k3=>hQ a' w' ρ' ?_ ?_ k3⟩
  .rw[e0]at k1;exact k1
  .rw[e0]at k2;exact k2
 .simp only[AK,Array.toList_replicate];exact Yp (Xu _ _) (by simp)
 .intro j o _ hl;rw[dZ]at hl;cases hl
 .rw[e0];refine⟨rfl,λi o t hi ht dm=>?_,λt _=>rfl⟩;rw[dZ];simp[List.getD,Zb dm]
 .intro k o _ _;rw[dZ];simp
end draw
end Go.Ae
