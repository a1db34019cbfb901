/- Part of the proof. -/
import Derived.Test.YtaibpnppeiigdaaGreatDoorP15
set_option linter.all false
set_option maxHeartbeats 32000000
set_option maxRecDepth 100000
namespace Go.Ae
open List
variable {α : Type} {cmp : α -> α -> Int}
def Up (cmp:α->α->Int)(l:List α):Prop:=l.Pairwise λa b=>cmp a b<0
def qG (cmp:α->α->Int)(x:α):List α->List α
 | []=> [x]
 |y::t=>if cmp y x<0 then y::qG cmp x t else if cmp y x=0 then y::t else x::y::t
def gd (cmp:α->α->Int)(l:List α):List α:=l.foldr (qG cmp) []
def Up.head {x:α}{l:List α}(h:Up cmp (x::l)):∀y∈l,cmp x y<0:=(Ye.1 h).1
def Up.tail {x:α}{l:List α}(h:Up cmp (x::l)):Up cmp l:=(Ye.1 h).2
def Ua (hc:nB cmp):∀(a b:List α),Up cmp a->Up cmp b->(∀x,x∈a↔x∈b)->a=b
 | [],[],_,_,_=>rfl
 | [],y::b,_,_,h=>absurd ((h y).2 (by simp)) (by simp)
 |x::a,[],_,_,h=>absurd ((h x).1 (by simp)) (by simp)
 |
  x::a,y::b,ha,hb,h=>by
  have e:x=y:=by
   rcases Xm.1 ((h x).1 (by simp))with e|e
   .exact e
   .rcases Xm.1 ((h y).2 (by simp))with k|k
    .exact k.symm
    .exact absurd (hc.tr _ _ _ (ha.head y k) (hb.head x e)) (hc.SK x)
  subst e;have:a=b:=Ua hc a b ha.tail hb.tail λz=>by
   constructor
   .intro hz;rcases Xm.1 ((h z).1 (Xn _ hz))with e|e
    .subst e;exact absurd (ha.head z hz) (hc.SK z)
    .exact e
   .intro hz;rcases Xm.1 ((h z).2 (Xn _ hz))with e|e
    .subst e;exact absurd (hb.head z hz) (hc.SK z)
    .exact e
  rw[this]
def xn (hc:nB cmp)(x z:α):∀l:List α,z∈qG cmp x l↔z=x\/z∈l
 | []=>by simp[qG]
 |
  y::t=>by
  unfold qG;split
  .rw[Xm,Xm,xn hc x z t];constructor<;>(intro h;rcases h with h|h|h<;>simp[h])
  .split
   .rename_i q;obtain rfl:=(hc.zero y x).1 q;rw[Xm];constructor
    .exact λh=> .inr h
    .rintro(h|h|h)
     .exact .inl h
     .exact .inl h
     .exact .inr h
   .rw[Xm]
def FQ (hc:nB cmp)(x:α):∀l:List α,Up cmp l->Up cmp (qG cmp x l)
 | [],_=>by unfold qG;exact List.pairwise_singleton _ _
 |
  y::t,h=>by
  unfold qG;split
  .rename_i q;refine Ye.2 ⟨λz hz=>?_,FQ hc x t h.tail⟩;rcases(xn hc x z t).1 hz with e|e
   .rw[e];exact q
   .exact h.head z e
  .split
   .exact h
   .rename_i q1 q2;have q3:cmp x y<0:=(hc.neg x y).2 (by omega);refine Ye.2 ⟨λz hz=>?_,h⟩;rcases Xm.1 hz with e|e
    .rw[e];exact q3
    .exact hc.tr _ _ _ q3 (h.head z e)
def ub (hc:nB cmp):∀l:List α,Up cmp (gd cmp l)
 | []=>List.Pairwise.nil
 |x::l=>FQ hc x _ (ub hc l)
def lv (hc:nB cmp)(z:α):∀l:List α,z∈gd cmp l↔z∈l
 | []=>by simp[gd]
 |
  x::l=>by
  have:z∈qG cmp x (gd cmp l)↔z∈x::l:=by rw[xn hc,Xm,lv hc z l]
  exact this
def xo (hc:nB cmp){l r:List α}(h:Up cmp r)(hm:∀x,x∈r↔x∈l):r=gd cmp l:=Ua hc _ _ h (ub hc l) λx=>(hm x).trans (lv hc x l).symm
def vL (cmp:α->α->Int):List α->List α->List α
 | [],b=>b
 |x::a,[]=>x::a
 |x::a,y::b=>if cmp x y<0 then x::vL cmp a (y::b)else if cmp x y=0 then x::vL cmp a b else y::vL cmp (x::a) b
termination_by a b=>a.length+b.length
def AE (hc:nB cmp)(z:α)(a b:List α):z∈vL cmp a b↔z∈a\/z∈b:=by
 fun_induction vL cmp a b with
 |case1 b=>simp
 |case2 x a=>simp
 |
  case3 x a y b q ih=>
  rw[Xm,ih,Xm (l:=a)];constructor
  .rintro(h|h|h)<;>simp[h]
  .rintro((h|h)|h)<;>simp[h]
 |
  case4 x a y b q1 q ih=>
  obtain rfl:=(hc.zero x y).1 q;rw[Xm,ih,Xm,Xm];constructor
  .rintro(h|h|h)<;>simp[h]
  .rintro((h|h)|h|h)<;>simp[h]
 |
  case5 x a y b q1 q2 ih=>
  rw[Xm,ih,Xm (l:=b)];constructor
  .rintro(h|h|h)<;>simp[h]
  .rintro(h|h|h)<;>simp[h]
def adw (hc:nB cmp)(a b:List α)(ha:Up cmp a)(hb:Up cmp b):Up cmp (vL cmp a b):=by
 fun_induction vL cmp a b with
 |case1 b=>exact hb
 |case2 x a=>exact ha
 |
  case3 x a y b q ih=>
  refine Ye.2 ⟨λz hz=>?_,ih ha.tail hb⟩;rcases(AE hc z a (y::b)).1 hz with h|h
  .exact ha.head z h
  .rcases Xm.1 h with h|h
   .rw[h];exact q
   .exact hc.tr _ _ _ q (hb.head z h)
 |
  case4 x a y b q1 q ih=>
  obtain rfl:=(hc.zero x y).1 q;refine Ye.2 ⟨λz hz=>?_,ih ha.tail hb.tail⟩;rcases(AE hc z a b).1 hz with h|h
  .exact ha.head z h
  .exact hb.head z h
 |
  case5 x a y b q1 q2 ih=>
  have q3:cmp y x<0:=(hc.neg y x).2 (by omega);refine Ye.2 ⟨λz hz=>?_,ih ha hb.tail⟩;rcases(AE hc z (x::a) b).1 hz with h|h
  .rcases Xm.1 h with h|h
   .rw[h];exact q3
   .exact hc.tr _ _ _ q3 (ha.head z h)
  .exact hb.head z h
def P_ (hc:nB cmp)(a b:List α):vL cmp (gd cmp a) (gd cmp b)=gd cmp (a++b):=
 xo hc (adw hc _ _ (ub hc a) (ub hc b)) λx=>by rw[AE hc,lv hc,lv hc,Ya]
def oK [DecidableEq α]:List α->List α
 | []=> []
 | [x]=> [x]
 |x::y::t=>if x=y then oK (y::t)else x::oK (y::t)
def Oh [DecidableEq α](z:α)(l:List α):z∈oK l↔z∈l:=by
 fun_induction oK l with
 |case1=>simp
 |case2 x=>simp
 |case3 y t ih=>rw[ih];simp
 |case4 x y t q ih=>rw[Xm,ih];simp only[Xm]
def adx [DecidableEq α](hc:nB cmp)(l:List α)(h:l.Pairwise λa b=>¬cmp b a<0):Up cmp (oK l):=by
 fun_induction oK l with
 |case1=>exact List.Pairwise.nil
 |case2 x=>exact List.pairwise_singleton _ _
 |case3 y t ih=>exact ih (Ye.1 h).2
 |
  case4 x y t q ih=>
  have h1:=Ye.1 h;refine Ye.2 ⟨λz hz=>?_,ih h1.2⟩;have h2:¬cmp y x<0:=h1.1 y (by simp);have h3:cmp x y<0:=by
   have:=hc.neg y x;have:=hc.neg x y;have:¬cmp x y=0:=λe=>q ((hc.zero _ _).1 e)
   omega
  rcases Xm.1 ((Oh z (y::t)).1 hz)with e|e
  .rw[e];exact h3
  .have h4:¬cmp z y<0:=(Ye.1 h1.2).1 z e;by_cases e2:cmp y z=0
   .rw[<-(hc.zero _ _).1 e2];exact h3
   .refine hc.tr _ _ _ h3 ?_;have:=hc.neg z y;have:=hc.neg y z;omega
def Qf [DecidableEq α](hc:nB cmp){l r:List α}(hp:r ~ l)(hs:r.Pairwise λa b=>¬cmp b a<0):oK r=gd cmp l:=
 xo hc (adx hc r hs) λx=>(Oh x r).trans hp.mem_iff
def gq :List Int->List Int->Int
 | [],[]=>0
 | [],_::_=> -1
 |_::_,[]=>1
 |a::l,b::r=>if a<b then-1 else if b<a then 1 else gq l r
def lV :nB gq where
 zero:=by
  intro a
  induction a with
  |nil=>intro b;cases b<;>simp[gq]
  |
   cons x a ih=>
   intro b;cases b with
   |nil=>simp[gq]
   |
    cons y b=>
    unfold gq;split
    .constructor
     .intro h;omega
     .intro h;injection h;omega
    .split
     .constructor
      .intro h;omega
      .intro h;injection h;omega
     .rw[ih b];have:x=y:=by omega
      simp[this]
 neg:=by
  intro a
  induction a with
  |nil=>intro b;cases b<;>simp[gq]
  |
   cons x a ih=>
   intro b;cases b with
   |nil=>simp[gq]
   |
    cons y b=>
    unfold gq;by_cases h1:x<y
    .rw[dd h1,db (by omega),dd h1];omega
    .by_cases h2:y<x
     .rw[db h1,dd h2,dd h2];omega
     .rw[db h1,db h2,db h2,db h1];exact ih b
 tr:=by
  intro a
  induction a with
  |nil=>intro b c;cases b<;>cases c<;>simp[gq]
  |
   cons x a ih=>
   intro b c;cases b with
   |nil=>simp[gq]
   |
    cons y b=>
    cases c with
    |nil=>simp[gq]
    |
     cons z c=>
     unfold gq;intro h1 h2;by_cases e:x<y
     .by_cases e2:y<z
      .rw[dd (by omega)];omega
      .rw[db e2]at h2;by_cases e3:z<y
       .rw[dd e3]at h2;omega
       .rw[dd (by omega)];omega
     .rw[db e]at h1;by_cases e1:y<x
      .rw[dd e1]at h1;omega
      .rw[db e1]at h1;by_cases e2:y<z
       .rw[dd (by omega)];omega
       .rw[db e2]at h2;by_cases e3:z<y
        .rw[dd e3]at h2;omega
        .rw[db e3]at h2;rw[db (by omega),db (by omega)];exact ih b c h1 h2
end Go.Ae
namespace Go.Ae
open Go List
structure acd {α:Type}(cmp:α->α->Int)(l:List α):Prop where
 SK:∀x∈l,¬cmp x x<0
 tr:∀x∈l,∀y∈l,∀z∈l,cmp x y<0->cmp y z<0->cmp x z<0
 ntr:∀x∈l,∀y∈l,∀z∈l,¬cmp x y<0->¬cmp y z<0->¬cmp x z<0
def nB.weak {α β:Type}{cmp:α->α->Int}(h:nB cmp)(f:β->α)(l:List β):acd (λa b=>cmp (f a) (f b)) l where
 SK:=λx _=>h.SK _
 tr:=λx _ y _ z _=>h.tr _ _ _
 ntr:=λx _ y _ z _ h1 h2 h3=>by
  by_cases e1:cmp (f x) (f y)=0
  .rw[(h.zero _ _).1 e1]at h3;exact h2 h3
  .have a1:cmp (f y) (f x)<0:=(h.neg _ _).2 (by omega);exact h2 (h.tr _ _ _ a1 h3)
def Ub {m:Nat}{cf:Nat->Nat->Int}(h:Hx m cf):(oz m cf).Pairwise λi j=>¬cf j.1 i.1<0:=by
 have hs:=(Sort.pdq_sorts _ h (Array.ofFn λi:Fin (m+1)=>i) 0 (m+1) (Lib.bitLen (m+1)) true true (Nat.zero_le _) (by simp) (Or.inl rfl)).2;have hz:(oz m cf).length=m+1:=by rw[(ph h).length_eq,List.length_ofFn]
 rw[List.pairwise_iff_getElem];intro i j hi hj qS;have:=hs i j (Nat.zero_le _) qS (by omega);unfold oz at hi hj;rw[getElem!_pos _ i (by simpa using hi),getElem!_pos _ j (by simpa using hj)]at this;have h2:=of_decide_eq_false this;unfold oz;rw[Array.getElem_toList,Array.getElem_toList];exact h2
def sB {α:Type}{enc:α->List AV}{s:Nat}(hs:∀x,(enc x).length=s)(rest:List AV):∀(l:List α) (i:Nat) (hi:i<l.length),rowAt s 0 (l.flatMap enc++rest) i=enc l[i]
 |
  x::l,0,_=>by
  unfold rowAt;rw[Yu,Zp,Nat.zero_mul,Xb,List.drop_zero,List.take_append_of_le_length (by rw[hs];exact Yt _),<-hs x,Yz];rfl
 |
  x::l,i+1,hi=>by
  have:=sB hs rest l i (by simpa using hi);unfold rowAt at this|-;rw[Yu,Zp,Xw,Nat.one_mul,Xb,Nat.add_comm (i*s),<-List.drop_drop,<-hs x,List.drop_left];rw[Xb,hs x]at *;simpa using this
def uc {α β:Type}{f:α->Option β}{g:α->β}:∀(l:List α),(∀x∈l,f x=some (g x))->l.mapM f=some (l.map g)
 | [],_=>rfl
 |
  x::l,h=>by
  rw[Zo,h x (by simp),uc l λy hy=>h y (Xn _ hy)];rfl
def Ib {α:Type}[Inhabited α]{call:FuncId->List AV->Hp->Option (AV × Hp)}{k:Nat}{h:Hp}{id:Nat}{b:Bool}{g:FuncId}(enc:α->List AV)(se:α->AV)(cmp:α->α->Int)(l:List α)(rest:List AV)
 (Uc:∀x,(enc x).length=oA k) (dC:h[id]?=some (.row (l.flatMap enc++rest))) (cU:l.length<4611686018427387904) (lH:∀x∈l,dq (h.set id .dead) 8 (Pt k (enc x))=some (se x))
 (dy:∀x∈l,∀y∈l,∃h',call g [se x,se y] []=some (.sc (.int .i64 (cmp x y)),h')) (hw:acd cmp l):
 ∃r:List α,r ~ l/\(r.Pairwise λa b=>¬cmp b a<0)/\Pu call k h [.sl id (oA k) 0 l.length b,.fn g []]=some (.tp [],h.set id (.row (r.flatMap enc++rest))):=by
 cases hl:l with
 |
  nil=>
  subst hl;refine⟨[],List.Perm.refl _,List.Pairwise.nil,?_⟩;unfold Pu;have iA:h.set id (.row (([]:List α).flatMap enc++rest))=h:=by
   apply Xe;intro j;rw[List.getElem?_set];split
   .rename_i e;subst e;have:=(Za.1 dC).1;rw[dd this,dC]
   .rfl
  simp only[dC,Xa,iA]
 |
  cons x0 l0=>
  obtain⟨m,hm⟩:∃m,l.length=m+1:=⟨l0.length,by rw[hl];rfl⟩;rw[<-hl];have sA:∀l:List α,(l.flatMap enc).length=l.length*oA k:=λl=>pj Uc l
  have s6:∀i,i<=m->∃x∈l,l[i]?=some x:=λi hi=>⟨l[i]'(by omega),Xd _,Zb _⟩
  have hss:(List.range (m+1)).mapM (λi=>dq (h.set id .dead) 8 (Pt k (rowAt (oA k) 0 (l.flatMap enc++rest) i)))=some ((List.range (m+1)).map λi=>se l[i]!):=by
   refine uc _ λi hi=>?_
   have pQ:i<l.length:=by rw[hm];simpa using hi
   rw[sB Uc rest l i pQ,lH _ (Xd _),getElem!_pos l i pQ]
  have hsd:∀i,i<=m->((List.range (m+1)).map λi=>se l[i]!).getD i .ud=se l[i]!:=λi hi=>by
   simp[List.getD,show i<m+1 by omega]
  have kM:∀i,i<=m->l[i]!∈l:=λi hi=>by rw[getElem!_pos l i (by omega)];exact Xd _
  have NJ:∀i j,i<=m->j<=m->He call g ((List.range (m+1)).map λi=>se l[i]!) i j=cmp l[i]! l[j]!:=λi j hi hj=>by
   obtain⟨h',e⟩:=dy _ (kM i hi) _ (kM j hj);unfold He;rw[hsd i hi,hsd j hj,e]
  have BK:Hx m (He call g ((List.range (m+1)).map λi=>se l[i]!)):=by
   unfold Hx;have hb:∀i:Fin (m+1),i.1<=m:=λi=>by omega
   constructor
   .intro i;rw[NJ _ _ (hb i) (hb i)];exact decide_eq_false (hw.SK _ (kM _ (hb i)))
   .intro i j q h1 h2;rw[NJ _ _ (hb _) (hb _)]at h1 h2|-;exact decide_eq_true (hw.tr _ (kM _ (hb _)) _ (kM _ (hb _)) _ (kM _ (hb _)) (of_decide_eq_true h1) (of_decide_eq_true h2))
   .intro i j q h1 h2;rw[NJ _ _ (hb _) (hb _)]at h1 h2|-;exact decide_eq_false (hw.ntr _ (kM _ (hb _)) _ (kM _ (hb _)) _ (kM _ (hb _)) (of_decide_eq_false h1) (of_decide_eq_false h2))
  have yx:Tf call g ((List.range (m+1)).map λi=>se l[i]!) m=true:=by
   have iG:Te call g ((List.range (m+1)).map λi=>se l[i]!) m:=⟨λi j hi hj=>by
    rw[NJ i j hi hj,hsd i hi,hsd j hj];exact dy _ (kM i hi) _ (kM j hj),BK⟩
   unfold Tf;split
   .rename_i e;subst e;obtain⟨h',e⟩:=dy _ (kM 0 (by omega)) _ (kM 0 (by omega));rw[hsd 0 (by omega),e];have:=hw.SK _ (kM 0 (by omega));simp only[Zz];omega
   .exact @decide_eq_true _ (Classical.propDecidable _) iG
  have Oi:=ph BK;have ajJ:(List.ofFn λi:Fin (m+1)=>i).map (λi=>l[i.1]!)=l:=by
   apply List.ext_getElem
   .simp[hm]
   .intro i h1 h2;rw[List.getElem_map,List.getElem_ofFn,getElem!_pos l i h2]
  refine⟨(oz m (He call g ((List.range (m+1)).map λi=>se l[i]!))).map (λi=>l[i.1]!),?_,?_,?_⟩
  .exact(Oi.map _).trans (by rw[ajJ])
  .rw[List.pairwise_map];have:=Ub BK;have g:∀{i j:Fin (m+1)},¬He call g ((List.range (m+1)).map λi=>se l[i]!) j.1 i.1<0->¬cmp l[j.1]! l[i.1]!<0:=λ{i j} q=>by
    rw[NJ _ _ (by omega) (by omega)]at q;exact q
   exact List.Pairwise.imp g this
  .unfold Pu;simp only[dC,hm];rw[dd ⟨trivial,by rw[Zu,sA,hm];omega,by omega⟩,hss];simp only[yx,if_true];rw[Ic BK];have e1:(oz m (He call g ((List.range (m+1)).map λi=>se l[i]!))).flatMap (λi=>rowAt (oA k) 0 (l.flatMap enc++rest) i.1)=((oz m (He call g ((List.range (m+1)).map λi=>se l[i]!))).map (λi=>l[i.1]!)).flatMap enc:=by
    rw[List.flatMap_map]
    congr 1
    funext i
    have hi:i.1<l.length:=by omega
    rw[sB Uc rest l i.1 hi,getElem!_pos l i.1 hi]
   have e2:(l.flatMap enc++rest).drop ((m+1)*oA k)=rest:=by rw[<-hm,<-sA,List.drop_left]
   rw[e1,List.take_zero,Zw,Xb,e2]
end Go.Ae
namespace Go.Proofs.YtaibpnppeiigdaaGreatDoor
open Go Go.Ae Go.Proofs.Tryz
section
attribute [local simp] zi da XM
def gR (a b:Int):Int:=dM .i64 (a+b)
def dR (p:Rw × Int):LA:=[.ls 5 (dN p.1.1) false,.sc (.int .i64 p.2)]
def dI (S:List (Rw × Int)):List LA:=S.map dR
def dF (S:List (Rw × Int)):(dI S).length=S.length:=by simp[dI]
def ue (S:List (Rw × Int))(i:Nat):(dI S)[i]?=(S[i]?).map dR:=by simp[dI]
def jR (S:List (Rw × Int)):(∀r∈dI S,r.length=2)/\(dI S).flatten.all eT=true:=
 ⟨λr hr=>by obtain⟨c,_,rfl⟩:=Yi.1 hr;rfl,jE λr hr=>by obtain⟨c,_,rfl⟩:=Yi.1 hr;rfl⟩
def fS (S:List (Rw × Int)):(dI S).flatten=S.flatMap dR:=by rw[dI,List.flatMap_def]
def ru (p:Rw × Int):(dR p).length=2:=rfl
structure mP (D:Nat)(r:Rw):Prop where
 len:r.1.length<=1000000000000
 key:(wD r.1).length<=1000000000000
 fB:∀x∈r.1,fB x<=D/\gV x
structure oo (D:Nat)(S:List (Rw × Int)):Prop where
 row:∀p∈S,mP D p.1
 num:∀p∈S,i64 p.2
 len:S.length<=1000000
def yy (n:Int):i64 (dM .i64 n):=by
 show i64 (if-9223372036854775808<=n/\n<=9223372036854775807 then n else IntKind.i64.wrap n);unfold i64;split
 .assumption
 .rw[IntWalk.i64_left];unfold RowKit.wrap64;omega
def keyOf (r:Rw):ByteArray:=⟨(wD r.1).toArray⟩
def Qg {D:Nat}{a b:Rw}(ha:mP D a)(hb:mP D b)(h:keyOf a=keyOf b):a=b:=by
 unfold keyOf at h;injection h with h
 have h':=congrArg Array.toList h;simp only at h';exact Subtype.ext (ZN a.2 b.2 (by have:=ha.len;omega) (by have:=hb.len;omega) h')
def kN :List (Rw × Int)->Nat->List (Value × AV)
 | [],_=> []
 |p::t,k=>(.string (keyOf p.1),.sc (.int .i64 k))::kN t (k+1)
def yz :∀(S:List (Rw × Int)) (p:Rw × Int) (k:Nat),kN (S++[p]) k=kN S k++[(.string (keyOf p.1),.sc (.int .i64 ((k+S.length:Nat):Int)))]
 | [],p,k=>rfl
 |
  q::S,p,k=>by
  rw[Zv,kN,kN,yz S p (k+1),Yw,Zv,show k+1+S.length=k+(S.length+1) by omega]
def yA :∀(S T:List (Rw × Int)) (k:Nat),S.map (·.1)=T.map (·.1)->kN S k=kN T k
 | [],[],_,_=>rfl
 | [],_::_,_,h=>by simp at h
 |_::_,[],_,h=>by simp at h
 |
  p::S,q::T,k,h=>by
  rw[Xi,Xi]at h;injection h with h1 h2
  rw[kN,kN,h1,yA S T (k+1) h2]
def BL :∀(S:List (Rw × Int)) (k:Nat),(kN S k).all vW=true
 | [],_=>rfl
 |p::S,k=>by rw[kN,Zn,BL S (k+1)];rfl
def Oj {D:Nat}{a b:Rw}(ha:mP D a)(hb:mP D b)(h:b≠a):Ps (keyOf a) (.string (keyOf b))=false:=by
 show(keyOf a==keyOf b)=false;rw[Bool.eq_false_iff];intro e;exact h (Qg ha hb ((Go.MapKept.bytes_beq _ _).1 e)).symm
def Qh (a:Rw):Ps (keyOf a) (.string (keyOf a))=true:=by
 show(keyOf a==keyOf a)=true;exact(Go.MapKept.bytes_beq _ _).2 rfl
def sC {D:Nat}{r:Rw}(hr:mP D r):∀(S:List (Rw × Int)) (k i:Nat),(∀p∈S,mP D p.1)->r∉S.map (·.1)->oZ (keyOf r) (kN S k) i=none
 | [],_,_,_,_=>rfl
 |
  p::S,k,i,hS,h=>by
  rw[Xi,Xm,not_or]at h;rw[kN,oZ,Oj hr (hS p (by simp)) (λe=>h.1 e.symm)];exact sC hr S (k+1) (i+1) (λq hq=>hS q (Xn _ hq)) h.2
def BM {D:Nat}{r:Rw}(hr:mP D r):∀(a:List (Rw × Int)) (m:Int) (t:List (Rw × Int)) (k i:Nat),(∀p∈a,mP D p.1)->r∉a.map (·.1)->oZ (keyOf r) (kN (a++(r,m)::t) k) i=some (i+a.length)
 | [],m,t,k,i,_,_=>by rw[Zw,kN,oZ,Qh];rfl
 |
  p::a,m,t,k,i,hS,h=>by
  rw[Xi,Xm,not_or]at h;rw[Zv,kN,oZ,Oj hr (hS p (by simp)) (λe=>h.1 e.symm)];have:=BM hr a m t (k+1) (i+1) (λq hq=>hS q (Xn _ hq)) h.2;rw[Yw,show i+(a.length+1)=i+1+a.length by omega];exact this
def Ie :∀(a:List (Rw × Int)) (p:Rw × Int) (t:List (Rw × Int)) (k:Nat),(kN (a++p::t) k)[a.length]?=some (.string (keyOf p.1),.sc (.int .i64 ((k+a.length:Nat):Int)))
 | [],p,t,k=>rfl
 |
  q::a,p,t,k=>by
  rw[Zv,kN,Yw,Yf,Ie a p t (k+1),show k+1+a.length=k+(a.length+1) by omega]
def BN {r:Rw}:∀(S:List (Rw × Int)),r∈S.map (·.1)->∃a m t,S=a++(r,m)::t/\r∉a.map (·.1)
 | [],h=>by simp at h
 |
  (q,m)::S,h=>by
  by_cases e:r=q
  .subst e;exact⟨[],m,S,rfl,by simp⟩
  .rw[Xi,Xm]at h;obtain⟨a,m',t,e1,e2⟩:=BN S (h.resolve_left e);refine⟨(q,m)::a,m',t,by rw[e1];rfl,?_⟩;rw[Xi,Xm,not_or];exact⟨e,e2⟩
def BO {D:Nat}{S:List (Rw × Int)}{r:Rw}(hr:mP D r)(hS:∀p∈S,mP D p.1)(h:r∉S.map (·.1)):A3 cx 203 (keyOf r) (kN S 0)=some (.sc (.int .i64 0),false):=by
 unfold A3;rw[sC hr S 0 0 hS h,ajI];rfl
def BP {D:Nat}{a t:List (Rw × Int)}{m:Int}{r:Rw}(hr:mP D r)(hS:∀p∈a,mP D p.1)(h:r∉a.map (·.1)):A3 cx 203 (keyOf r) (kN (a++(r,m)::t) 0)=some ((a.length:AV),true):=by
 unfold A3;rw[BM hr a m t 0 0 hS h];simp only[Xb];rw[Ie];simp
def wc (a:List (Rw × Int))(r:Rw)(m:Int)(t:List (Rw × Int))(rest:LA):((a++(r,m)::t).flatMap dR++rest)[a.length*2+1]?=some (.sc (.int .i64 m)):=by
 have:(a.flatMap dR).length=a.length*2:=pj ru a;rw[Xh,Zp,Zf (by omega),this];rw[show a.length*2+1-a.length*2=1 by omega];rfl
def uU (a:List (Rw × Int))(r:Rw)(m n:Int)(t:List (Rw × Int)):da ((a++(r,m)::t).flatMap dR) (a.length*2+1) [n]=(a++(r,n)::t).flatMap dR:=by
 have hl:(a.flatMap dR).length=a.length*2:=pj ru a;rw[Xh,Xh,Yu,Yu];have:=pg (A:=a.flatMap dR++[.ls 5 (dN r.1) false]) (Z:=[.sc (.int .i64 m)]) (E:=[.sc (.int .i64 n)]) (B:=t.flatMap dR) (o:=a.length*2+1) (by simp[hl]) rfl;simpa[dR]using this
def gS (S:List (Rw × Int)):(S.flatMap dR).length=S.length*2:=pj ru S
def FR {S:List (Rw × Int)}{i:Nat}{p:Rw × Int}(h:S[i]?=some p)(rest:LA):((S.flatMap dR++rest).drop (i*2)).take 2=dR p:=by
 have hi:=(Za.1 h).1;have:=sB (enc:=dR) ru rest S i hi;unfold Ae.rowAt at this;rw[Xb]at this;rw[this];obtain⟨_,e⟩:=Za.1 h;rw[e]
def Ud (n:Nat)(b:Bool)(p:Rw × Int)(h:Hp):cW cx (n+1) b 183 [.ag (dR p)] h=some (.sc (.bool (decide (p.2=0))),h):=by
 refine fZ f183 [.tmp 2] rfl rfl ?_ b h;simp[f183,dR]
def age (N D:Nat)(b:Bool)(p q:Rw × Int)(h:Hp)(hp:mP D p.1)(hq:mP D q.1):cW cx (N+2*D+10) b 185 [.ag (dR p),.ag (dR q)] h=some (.sc (.int .i64 (mF p.1 q.1)),h):=by
 refine fZ f185 [.tmp 4] rfl rfl ?_ b h;have f:=λb h=>H_ N D p.1.1 q.1.1 b h (by have:=hp.len;omega) (by have:=hq.len;omega) hp.fB hq.fB
 unfold mF;generalize N+2*D+9=M at f|-;generalize gL p.1.1 q.1.1=r at f|-;simp[f185,dR,f]
def Ig :List (Rw × Int)->Int->Int
 | [],_=> -1
 |p::t,i=>if p.2=0 then i else Ig t (i+1)
def uf (S:List (Rw × Int))(i:Nat):Int:=Ig (S.drop i) i
def Qi (S:List (Rw × Int))(i:Nat)(h:S.length<=i):uf S i= -1:=by unfold uf;rw[Zt h];rfl
def LO {S:List (Rw × Int)}{i:Nat}{p:Rw × Int}(h:S[i]?=some p):uf S i=if p.2=0 then(i:Int)else uf S (i+1):=by
 obtain⟨k,e⟩:=Za.1 h;unfold uf;rw[Zm k,e,Ig];rfl
def BQ :∀(S:List (Rw × Int)) (i:Int),(Ig S i= -1/\∀p∈S,p.2≠0)\/∃a p t,S=a++p::t/\(∀q∈a,q.2≠0)/\p.2=0/\Ig S i=i+a.length
 | [],i=> .inl ⟨rfl,λ_ h=>by simp at h⟩
 |
  p::S,i=>by
  unfold Ig;by_cases e:p.2=0
  .rw[dd e];exact .inr ⟨[],p,S,rfl,λ_ h=>by simp at h,e,by simp⟩
  .rw[db e];rcases BQ S (i+1)with⟨h1,h2⟩|⟨a,q,t,h1,h2,h3,h4⟩
   .refine .inl ⟨h1,λq hq=>?_⟩;rcases Xm.1 hq with rfl|h
    .exact e
    .exact h2 q h
   .refine .inr ⟨p::a,q,t,by rw[h1];rfl,λx hx=>?_,h3,by rw[h4];simp;omega⟩;rcases Xm.1 hx with rfl|h
    .exact e
    .exact h2 x h
def ZZ (n:Nat)(b:Bool)(S:List (Rw × Int))(z:Bool)(h:Hp)(hl:S.length<=1000000):cW cx (n+2) b 243 [.ls 2 (dI S) z,.fn 183 []] h=some (.sc (.int .i64 (Ig S 0)),h):=by
 refine fZ f243 [.tmp 4] rfl rfl ?_ b h;have hq:=dF S;have hg:=ue S;have fq:=λb p h=>Ud n b p h
 generalize dI S=cY at hq hg;generalize n+1=M at fq|-;change(eQ _ _).map Prod.fst=some (.sc (.int .i64 (uf S 0)));simp[f243,hq];refine lS
  (λi s _=>uf S 0=uf S i/\s.length=19/\gt s 0= .ls 2 cY z/\gt s 1= .fn 183 []/\gt s 7=S.length/\gt s 8=i)
  (λo s _=>s.length=19/\((o= .exit 0/\uf S 0= -1)\/(o= .ret/\gt s 4= .sc (.int .i64 (uf S 0))))) S.length (by simp;omega) (by simp) ?_ ?_
 .rintro i fr h eG ⟨ho,cU,h0,h1,h7,h8⟩;by_cases hi:i<S.length
  .obtain⟨p,hx⟩:=eA hi;have hr:cY[i]?=some (dR p):=by rw[hg,hx];rfl
   have du:=gA hr
   rw[LO hx]at ho;have nM:=λb h=>fq b p h
   have hf:dM .i64 ((i:Int)+1)=((i+1:Nat):Int):=dh (by omega) (by omega);unfold dR at hr du nM;by_cases hk:p.2=0
   .rw[dd hk]at ho;simp only[hk,decide_true]at nM hr du;simp[cU,h0,h1,h7,h8,hi,hq,du,nM,ho]
   .rw[db hk]at ho;simp only[hk,decide_false]at nM;simp[cU,h0,h1,h7,h8,hi,hq,du,nM,hf];exact ho
  .have zz:uf S 0= -1:=by rw[ho,Qi _ i (by omega)]
   simp[cU,h7,h8,hi,zz]
 .rintro o fr h hn ⟨cU,⟨rfl,hz⟩|⟨rfl,h2⟩⟩
  .simp[cU,hz]
  .simp[h2]
end
section
attribute [local simp] zi XM
def yB (S:List (Rw × Int)):List (Rw × Int):=S.filter λx=>x.2 !=0
def ug {h:Hp}{n id:Nat}{S:List (Rw × Int)}{rest:LA}(dC:h[id]?=some (.row (S.flatMap dR++rest))):Ae.dq h (n+1) (.sl id 2 0 S.length false)=some (.ls 2 (dI S) false):=by
 have dJ:=jR S;have:=jP (h:=h) (n:=n) (id:=id) (sz:=2) (cY:=dI S) (cs:=S.flatMap dR++rest) (by omega) dJ.1 dJ.2 (by rw[gI,dC]) (by rw[fS,dF];exact List.take_left' (gS S)) (by rw[dF,Zu,gS];omega);rw[dF]at this;exact this
def Ih (n:Nat)(b:Bool)(S:List (Rw × Int))(id:Nat)(h:Hp)(hl:S.length<=1000000)(dC:h[id]?=some (.row (S.flatMap dR))):cW cx (n+2) b 243 [.sl id 2 0 S.length false,.fn 183 []] h=some (.sc (.int .i64 (Ig S 0)),h):=by
 refine mr (n:=n+1) (ys:=[.ls 2 (dI S) false,.fn 183 []]) rfl (by kernel_rfl) ?_ rfl rfl (ZZ n b S false h hl);have:=ug (h:=h) (n:=7) (id:=id) (S:=S) (rest:=[]) (by rw[Yp];exact dC);rw[Zo,this];rfl
def Ii (n:Nat)(b:Bool)(h:Hp):cW cx (n+1) b 243 [(),.fn 183 []] h=some (.sc (.int .i64 (-1)),h):=by
 refine fZ f243 [.tmp 4] rfl rfl ?_ b h;simp[f243];refine lS
  (λi s _=>i=0/\s.length=19/\gt s 7=(0:Int)/\gt s 8=(0:Int))
  (λo s _=>s.length=19/\o= .exit 0) 0 (by simp) (by exact ⟨rfl,rfl,rfl,rfl⟩) ?_ ?_
 .rintro i fr h eG ⟨rfl,cU,h7,h8⟩;simp[cU,h7,h8]
 .rintro o fr h hn ⟨cU,rfl⟩;simp[cU]
def ady (h:Hp)(id:Nat)(F:List (Rw × Int))(r:AV):Prop:=(F=[]/\∃z,r= .ls 2 [] z)\/(F≠ []/\r= .sl id 2 0 F.length false/\∃rest,h[id]?=some (.row (F.flatMap dR++rest)))
def BR {S:List (Rw × Int)}{j:Nat}{p:Rw × Int}(h:S[j]?=some p):yB (S.take (j+1))=yB (S.take j)++(if p.2=0 then[]else[p]):=by
 unfold yB;rw[Yx,h,Yo]
 congr 1
 by_cases e:p.2=0<;>simp[e]
def KQ (a b x y:AV):da [a,b] 0 [x,y]=[x,y]:=rfl
structure adz (S:List (Rw × Int))(id:Nat)(h:Hp)(j:Nat)(s:St):Prop where
 le:j<=S.length
 len:s.1.length=42
 g0:gt s.1 0= .sl id 2 0 S.length false
 g1:gt s.1 1= .fn 183 []
 g5:gt s.1 5= .sc (.int .i64 ((yB (S.take j)).length:Nat))
 g6:gt s.1 6=j
 lt:(yB (S.take j)).length<j
 hl:h.length<=s.2.length
 keep:∀j b,j≠id->h[j]?=some b->s.2[j]?=some b
 row:∃X,X.length=(j-(yB (S.take j)).length)*2/\s.2[id]?=some (.row ((yB (S.take j)).flatMap dR++(X++(S.drop j).flatMap dR)))
def Ue (n:Nat)(b:Bool)(S:List (Rw × Int))(id:Nat)(h:Hp)(eW:S≠ [])(hl:S.length<=1000000)(dC:h[id]?=some (.row (S.flatMap dR))):
 ∃r h',cW cx (n+3) b 182 [.sl id 2 0 S.length false,.fn 183 []] h=some (r,h')/\(∀j b,j≠id->h[j]?=some b->h'[j]?=some b)/\ady h' id (yB S) r:=by
 rw[K7 (n:=n+2) f182 [.tmp 4]];have ak:=λb=>Ih n b S id h hl dC
 have aa:=λb p h=>Ud (n+1) b p h
 rcases BQ S 0 with⟨e,dJ⟩|⟨a,p,t,e1,ha,LH,e2⟩
 .rw[e]at ak;generalize n+2=M at ak aa|-;simp[f182,ak];have hF:yB S=S:=List.filter_eq_self.2 λx hx=>by simp[dJ x hx]
  refine⟨_,_,⟨rfl,rfl⟩,λj b _ hj=>hj,.inr ⟨by rw[hF];exact eW,by rw[hF],[],by rw[hF,Yp];exact dC⟩⟩
 .have hal:a.length<S.length:=by rw[e1];simp
  have ea:yB (S.take (a.length+1))=a:=by
   rw[BR (p:=p) (by rw[e1];simp),dd LH,Yp,e1,List.take_left];exact List.filter_eq_self.2 λx hx=>by simp[ha x hx]
  rw[Int.zero_add]at e2;rw[e2]at ak;generalize n+2=M at ak aa|-;obtain⟨w,hw⟩:∃w:Int,w=a.length:=⟨_,rfl⟩;obtain⟨w1,Hh⟩:∃w:Int,w=((a.length+1:Nat):Int):=⟨_,rfl⟩;rw[<-hw]at ak;have Ac:¬w= -1:=by omega
  have Ee:dM .i64 (w+1)=w1:=by rw[hw,Hh];exact di (by omega)
  simp[f182,ak,Ac,Ee];rw[hw,Hh];clear Ee Ac ak hw Hh;have jD:id<h.length:=(Za.1 dC).1;refine eC (C:=cx) (G:=λr=>∃r0 h',eQ _ (eR _ _ (dL _ r) _)=some (r0,h')/\(∀j b,j≠id->h[j]?=some b->h'[j]?=some b)/\ady h' id (yB S) r0)
   (λc s=>adz S id h (a.length+1+c) s)
   (λo s=>o= .exit 0/\s.1.length=42/\gt s.1 0= .sl id 2 0 S.length false/\gt s.1 5= .sc (.int .i64 ((yB S).length:Nat))/\(yB S).length<S.length/\(∀j b,j≠id->h[j]?=some b->s.2[j]?=some b)/\∃cs,s.2[id]?=some (.row cs)/\cs.length=S.length*2/\cs.take ((yB S).length*2)=(yB S).flatMap dR) S.length (by simp;omega) ?_ ?_ ?_
  .refine⟨by omega,rfl,rfl,rfl,by rw[Nat.add_zero,ea];rfl,rfl,by rw[Nat.add_zero,ea];omega,Yt _,λj b _ hj=>hj,dR p,by rw[Nat.add_zero,ea];simp[dR],?_⟩;show h[id]?=_;have e3:S.drop (a.length+1)=t:=by rw[e1];simp[List.drop_append]
   have e4:S.flatMap dR=a.flatMap dR++(dR p++t.flatMap dR):=by rw[e1,Xh,Yu]
   rw[Nat.add_zero,ea,dC,e3,e4]
  .rintro c fr hp _ ⟨hj,cU,g0,g1,g5,g6,dY,Dc,eK,X,hX,hz⟩;simp only at cU g0 g1 g5 g6 Dc eK hz;obtain⟨j,Qj⟩:∃j,j=a.length+1+c:=⟨_,rfl⟩;rw[<-Qj]at hj g5 g6 dY hX hz;have BS:id<hp.length:=by omega
   by_cases hi:j<S.length
   .obtain⟨p,hx⟩:=eA hi;have dD:=BR hx;have Dh:S.drop j=p::S.drop (j+1):=by
     obtain⟨k,e⟩:=Za.1 hx;rw[Zm k,e]
    have od:c<S.length:=by omega
    have S_:a.length+1+(c+1)=j+1:=by omega
    have BT:∀s,adz S id h (j+1) s->adz S id h (a.length+1+(c+1)) s:=λs q=>by rw[S_];exact q
    clear Qj S_ e1 e2 ea ha;generalize yB (S.take j)=F at g5 dY hX hz dD;obtain⟨cs,hcs⟩:∃cs,cs=F.flatMap dR++(X++(S.drop j).flatMap dR):=⟨_,rfl⟩;have sA:(F.flatMap dR).length=F.length*2:=gS F;have fq:cs.length=S.length*2:=by
     rw[hcs,Zu,Zu,sA,hX,gS,Xk];omega
    have fX:(cs.drop (j*2)).take 2=dR p:=by
     rw[hcs,<-Zp,List.drop_append_of_le_length (by rw[Zu,sA,hX];omega),Zt (by rw[Zu,sA,hX];omega),Zw,Dh,Yu];exact List.take_left' (ru p)
    have xm:j*2+2<=S.length*2:=by omega
    have Hj:F.length*2+2<=S.length*2:=by omega
    have hFS:F.length<S.length:=by omega
    have aa:=λb h=>aa b p h
    rw[<-hcs]at hz;have hA:∀y:fp,(hp++[y])[id]?=some (.row cs):=λy=>by rw[Zd BS];exact hz
    have wC:=gA hz
    have Og:∀(y:fp) k,(hp++[y])[id]'k= .row cs:=λy k=>by obtain⟨_,e⟩:=Za.1 (hA y);exact e
    have YG:∀(y:fp) j b,j≠id->h[j]?=some b->(hp++[y])[j]?=some b:=λy j b eW hh=>by
     have:=eK j b eW hh;rw[Zd (Za.1 this).1];exact this
    have hf:=di (i:=j) (by omega);unfold dR at fX aa;by_cases h0:p.2=0
    .have f1':∀b h,cW cx M b 183 [.ag [.ls 5 (dN p.1.1) false,p.2]] h=some ((true:AV),h):=λb h=>by rw[aa,h0];rfl
     rw[dd h0,Yp]at dD;simp[cU,g0,g1,g6,hi,hz,fX,fq,xm,f1',hf,KQ,od];clear hf aa f1';apply BT;refine⟨by omega,by simp[cU],by simp[g0],by simp[g1],by simp[g5,dD],by simp[cU],by rw[dD];omega,by simp;omega,YG _,X++dR p,by rw[dD,Zu,hX];simp[dR];omega,?_⟩;rw[dD];rw[hA,hcs,Dh,Yu,Zp]
    .have f1':∀b h,cW cx M b 183 [.ag [.ls 5 (dN p.1.1) false,p.2]] h=some ((false:AV),h):=λb h=>by rw[aa,decide_eq_false h0]
     rw[db h0]at dD;have hfF:=di (i:=F.length) (by omega);simp[cU,g0,g1,g5,g6,hi,hz,hA,fX,fq,xm,Hj,hFS,f1',hf,hfF,KQ,od];clear hf hfF aa f1';apply BT;refine⟨by omega,by simp[cU],by simp[g0],by simp[g1],by simp[cU,dD],by simp[cU],by rw[dD];simp;omega,by simp;omega,λk b eW hh=>by rw[Zq (λe=>eW e.symm)];exact YG _ k b eW hh,?_⟩;obtain⟨x0,x1,X',rfl⟩:∃x0 x1 X',X=x0::x1::X':=by
      match X,hX with
      | [],hX=>simp at hX;omega
      | [x],hX=>simp at hX;omega
      |x0::x1::X',_=>exact⟨x0,x1,X',rfl⟩
     refine⟨X'++dR p,by rw[dD];simp[dR]at hX|-;omega,?_⟩;rw[Zj (by simp;omega),dD];have:=pg (A:=F.flatMap dR) (Z:=[x0,x1]) (E:=dR p) (B:=X'++(dR p++(S.drop (j+1)).flatMap dR)) (o:=F.length*2) sA.symm rfl;rw[Dh,Yu]at hcs;have e5:cs=F.flatMap dR++([x0,x1]++(X'++(dR p++(S.drop (j+1)).flatMap dR))):=by rw[hcs];simp
     rw[<-e5]at this;unfold dR at this|-;rw[this];simp
   .have gG:j=S.length:=Yc hj (Yb hi);rw[gG,Yz]at g5 dY hX hz;rw[gG]at g6;simp[cU,g0,g6,g5];refine⟨dY,eK,_,hz,?_,?_⟩
    .rw[Zu,Zu,gS,hX];simp;omega
    .exact List.take_left' (gS _)
  .rintro o fr hp hn ⟨rfl,cU,g0,g5,dY,eK,cs,hz,fq,rR⟩;simp only at cU g0 g5 eK hz;have BS:id<hp.length:=(Za.1 hz).1;have wC:=gA hz
   generalize yB S=F at g5 dY rR|-;have hF1:F.length<=S.length:=by omega
   have hF2:¬F.length=S.length:=by omega
   have hF3:0<S.length-F.length:=by omega
   have hF4:F.length*2+(S.length-F.length)*2<=S.length*2:=by omega
   have ajK:∀vs:LA,da cs (F.length*2) vs=F.flatMap dR++(vs++cs.drop (F.length*2+vs.length)):=λvs=>by
    unfold da;rw[rR,Zp]
   cases hF:F with
   |
    nil=>
    subst hF;have hF5:0<S.length:=hF3;have hF6:¬S=[]:=eW;have hF7:¬0=S.length:=by omega
    simp only[Xa]at g5;simp[cU,g0,g5,ku,gQ,vV,hz,fq,hF5,hF7];exact gz ⟨λj b eW hh=>by rw[Zq (λe=>eW e.symm)];exact eK j b eW hh,.inl ⟨rfl,false,rfl⟩⟩
   |
    cons q F'=>
    rw[<-hF];have hFp:0<F.length:=by rw[hF];simp
    have hF5:¬0=F.length:=by omega
    have hF6:¬F.length=0:=by omega
    have hF7:¬F=[]:=by rw[hF];simp
    simp[cU,g0,g5,ku,gQ,vV,hz,fq,hF1,hF2,hF3,hF4,hF5];refine⟨_,_,⟨rfl,rfl⟩,λj b eW hh=>by rw[Zq (λe=>eW e.symm)];exact eK j b eW hh,.inr ⟨hF7,rfl,?_⟩⟩;exact⟨_,by rw[Zj BS,ajK]⟩
end
end Go.Proofs.YtaibpnppeiigdaaGreatDoor
