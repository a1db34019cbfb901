/- Contracts: sum and Cmp of the reference. -/
import Derived.Test.YtmocfjnklfpnbaaGreatDoorP15
set_option linter.all false
set_option maxRecDepth 100000
namespace Go.Proofs.YtmocfjnklfpnbaaGreatDoor
open Go Go.Ae
section
attribute [local simp] aop aopW coldF extF putA ofConst flat scalarOp fastOp binFast intOp strOp guardX Ae.part rowOf szOk natOf lenA cls fillA newsOf isNilC cellX
section
variable {C : Cx} {cal : FuncId → List AV → Hp → Option (AV × Hp)} {ops : Array Oper}
@[simp] theorem opP_lsI (d:Tmp)(rest:List Oper)(fr:List AV)(e:List Int)(h:Hp):opP C cal ops (some d) rest fr (some (lsI e,h))=runOpsP C cal ops rest (fr.set d (lsI e),h):=rfl
@[simp] theorem opN_lsI (d:Tmp)(rest:List Oper)(fr:List AV)(e:List Int)(h:Hp):opN C cal ops (some d) rest fr (some (lsI e,h))=runOps C cal ops rest (fr.set d (lsI e),h):=rfl
@[simp] theorem snap_lsI (h:Hp)(n:Nat)(e:List Int):snap h n (lsI e)=some (lsI e):=by cases n<;>rfl
@[simp] theorem snap_scv (h:Hp)(n:Nat)(v:Value):snap h n (.sc v)=some (.sc v):=by cases n<;>rfl
end
def lsZ :AV:= .ls 1 [[.sc (.int .i64 0)],[.sc (.int .i64 0)],[.sc (.int .i64 0)],[.sc (.int .i64 0)],[.sc (.int .i64 0)],[.sc (.int .i64 0)],[.sc (.int .i64 0)],[.sc (.int .i64 0)],[.sc (.int .i64 0)],[.sc (.int .i64 0)],[.sc (.int .i64 0)],[.sc (.int .i64 0)],[.sc (.int .i64 0)],[.sc (.int .i64 0)]] true
theorem plus_zero (n:Nat)(b:Bool)(h:Hp):callN cx (n+1) b 243 [lsZ,lsZ] h=some (lsI [0,0,0,0,0,0,0,0,0,0,0,0,0,0],h):=by
 kernel_rfl
def sumS (an X bn Y:Int):Int:=if an=bn∨bn=0 then an else if an=0 then bn else if sgnI (X-Y)=0 then 0 else if 0<sgnI (X-Y)then an else bn
theorem r03_sum (n:Nat)(an bn:Int)(xs ys:List Int)(hx:dok xs)(hy:dok ys)(lx:xs.length=14)(ly:ys.length=14):
 ∃r,(∃es,r= .tp [.sc (.int .i64 (sumS an (vl xs) bn (vl ys))),lsI es])∧∀b h,callN cx (n+2) b 169 [.sc (.int .i64 an),lsI xs,.sc (.int .i64 bn),lsI ys] h=some (r,h):=by
 obtain⟨_,⟨e1,_,rfl⟩,hp⟩:=r03_plus n xs ys hx hy lx ly;obtain⟨_,⟨e2,_,rfl⟩,hm⟩:=r03_minus n xs ys hx hy lx ly;obtain⟨_,⟨e3,_,rfl⟩,hm'⟩:=r03_minus n ys xs hy hx ly lx;have ho:=fun b h=>r03_order n b xs ys h hx hy lx ly
 refine pure_ex (f:=169) (n:=n+1) (args:=[.sc (.int .i64 an),lsI xs,.sc (.int .i64 bn),lsI ys]) (fun r=>∃es,r= .tp [.sc (.int .i64 (sumS an (vl xs) bn (vl ys))),lsI es]) ⟨Tryz.f169.ntmps,(Tryz.f169.body).getD .skip,[.tmp 8,.tmp 9]⟩ (by kernel_rfl) (by kernel_rfl) rfl (by kernel_rfl) (by simp[Tryz.f169]) rfl ?_;have hz:=fun b h=>plus_zero n b h
 have hch:chunk 1 14 (List.flatMap (fun _=> [AV.sc (Value.int IntKind.i64 0)]) (List.range 14))=[[.sc (.int .i64 0)],[.sc (.int .i64 0)],[.sc (.int .i64 0)],[.sc (.int .i64 0)],[.sc (.int .i64 0)],[.sc (.int .i64 0)],[.sc (.int .i64 0)],[.sc (.int .i64 0)],[.sc (.int .i64 0)],[.sc (.int .i64 0)],[.sc (.int .i64 0)],[.sc (.int .i64 0)],[.sc (.int .i64 0)],[.sc (.int .i64 0)]]:=rfl;simp only[lsZ]at hz;by_cases h1:an=bn
 ·simp[Tryz.f169,h1,hp,sumS];exact⟨_,_,⟨rfl,rfl⟩,by simp[snap];exact⟨_,rfl⟩⟩
 ·by_cases h2:bn=0
  ·subst h2;simp[Tryz.f169,h1,hp,sumS];exact⟨_,_,⟨rfl,rfl⟩,by simp[snap];exact⟨_,rfl⟩⟩
  ·by_cases h3:an=0
   ·subst h3;simp[Tryz.f169,h1,h2,sumS];exact⟨_,_,⟨rfl,rfl⟩,by simp[snap];exact⟨_,rfl⟩⟩
   ·by_cases h4:sgnI (vl xs-vl ys)=0
    ·simp[Tryz.f169,h1,h2,h3,ho,h4,sumS,show 14≤maxLen from(by unfold maxLen;omega),coldA,hch,hz];exact⟨_,_,⟨rfl,rfl⟩,by simp[snap];exact⟨_,rfl⟩⟩
    ·by_cases h5:0<sgnI (vl xs-vl ys)
     ·simp[Tryz.f169,h1,h2,h3,ho,h4,h5,hm,sumS];exact⟨_,_,⟨rfl,rfl⟩,by simp[snap];exact⟨_,rfl⟩⟩
     ·simp[Tryz.f169,h1,h2,h3,ho,h4,h5,hm',sumS];exact⟨_,_,⟨rfl,rfl⟩,by simp[snap];exact⟨_,rfl⟩⟩
theorem cmp_math2 (n1 d1 n2 d2:Int)(h1:0<d1)(h2:0<d2):sumS (sgnI n1) (n1.natAbs*d2) (-(sgnI n2)) (n2.natAbs*d1)=sgnI (n1*d2-n2*d1):=by
 have e1:(n1.natAbs:Int)*d2=((n1*d2).natAbs:Int):=by rw[Int.natAbs_mul];rw[Int.natCast_mul,Int.natAbs_of_nonneg (Int.le_of_lt h2)]
 have e2:(n2.natAbs:Int)*d1=((n2*d1).natAbs:Int):=by rw[Int.natAbs_mul];rw[Int.natCast_mul,Int.natAbs_of_nonneg (Int.le_of_lt h1)]
 have s:∀n d:Int,0<d→sgnI n=sgnI (n*d):=fun n d hd=>by
  unfold sgnI;by_cases a:n<0
  ·rw[if_pos a,if_pos (Int.mul_neg_of_neg_of_pos a hd)]
  ·by_cases b:0<n
   ·have:=Int.mul_pos b hd;rw[if_neg a,if_pos b,if_neg (by omega),if_pos this]
   ·have:n=0:=by omega
    subst this;simp
 rw[e1,e2,s n1 d2 h2,s n2 d1 h1];generalize n1*d2=p;generalize n2*d1=q;have sg:∀x:Int,(x<0∧sgnI x= -1∧(x.natAbs:Int)= -x)∨(x=0∧sgnI x=0∧(x.natAbs:Int)=0)∨(0<x∧sgnI x=1∧(x.natAbs:Int)=x):=fun x=>by
  unfold sgnI;by_cases a:x<0
  ·exact .inl ⟨a,by rw[if_pos a],by omega⟩
  ·by_cases b:0<x
   ·exact .inr (.inr ⟨b,by rw[if_neg a,if_pos b],by omega⟩)
   ·exact .inr (.inl ⟨by omega,by rw[if_neg a,if_neg b],by omega⟩)
 rcases sg p with⟨p1,p2,p3⟩|⟨p1,p2,p3⟩|⟨p1,p2,p3⟩<;>rcases sg q with⟨q1,q2,q3⟩|⟨q1,q2,q3⟩|⟨q1,q2,q3⟩<;>
  rcases sg (p-q)with⟨r1,r2,r3⟩|⟨r1,r2,r3⟩|⟨r1,r2,r3⟩<;>
  rcases sg ((p.natAbs:Int)-(q.natAbs:Int))with⟨t1,t2,t3⟩|⟨t1,t2,t3⟩|⟨t1,t2,t3⟩<;>
  simp only[sumS,p2,q2,r2,t2]<;>first|rfl|decide|omega
theorem r03_Cmp (n:Nat)(b:Bool)(N1 D1 N2 D2:Int)(h:Hp):callN cx (n+3) b 114 [frA N1 D1,frA N2 D2] h=some (.sc (.int .i64 (cmpF N1 D1 N2 D2)),h):=by
 refine pure_calm (r:= .sc (.int .i64 (cmpF N1 D1 N2 D2))) ⟨Tryz.f114.ntmps,(Tryz.f114.body).getD .skip,[.tmp 4]⟩ (by kernel_rfl) (by kernel_rfl) rfl (by kernel_rfl) (by simp[Tryz.f114]) rfl rfl ?_ b h;obtain⟨a1,a2,a3⟩:=nrm_ok N1 D1;obtain⟨b1,b2,b3⟩:=nrm_ok N2 D2;have hm:=cmp_math2 (nrmN N1 D1) (nrmD N1 D1) (nrmN N2 D2) (nrmD N2 D2) a3 b3;obtain⟨e1,he1⟩:∃e:Nat,nrmD N1 D1=e:=⟨(nrmD N1 D1).toNat,by omega⟩;obtain⟨e2,he2⟩:∃e:Nat,nrmD N2 D2=e:=⟨(nrmD N2 D2).toNat,by omega⟩;rw[inR_iff]at a1 a2 b1 b2;have l1:((nrmN N1 D1).natAbs:Int)*e2<1000^14:=by
  have:=Int.mul_le_mul (show((nrmN N1 D1).natAbs:Int)≤1000000000000000 by omega) (show(e2:Int)≤1000000000000000 by omega) (by omega) (by decide);have q:(1000:Int)^14=1000000000000000000000000000000000000000000:=by decide
  omega
 have l2:((nrmN N2 D2).natAbs:Int)*e1<1000^14:=by
  have:=Int.mul_le_mul (show((nrmN N2 D2).natAbs:Int)≤1000000000000000 by omega) (show(e1:Int)≤1000000000000000 by omega) (by omega) (by decide);have q:(1000:Int)^14=1000000000000000000000000000000000000000000:=by decide
  omega
 have c1:=fun h=>r03_size (n+1) false (nrmN N1 D1) h ⟨by omega,by omega⟩
 have c2:=fun h=>r03_size (n+1) false (nrmN N2 D2) h ⟨by omega,by omega⟩
 have c3:=fun h=>r03_times (n+1) false (nrmN N1 D1).natAbs e2 h (by omega) (by omega)
 have c4:=fun h=>r03_times (n+1) false (nrmN N2 D2).natAbs e1 h (by omega) (by omega)
 have s1:=fun h=>r03_sign (n+1) false (nrmN N1 D1) h
 have s2:=fun h=>r03_sign (n+1) false (nrmN N2 D2) h
 obtain⟨_,⟨es,rfl⟩,c5⟩:=r03_sum n (sgnI (nrmN N1 D1)) (-(sgnI (nrmN N2 D2))) (digs 14 ((nrmN N1 D1).natAbs*e2)) (digs 14 ((nrmN N2 D2).natAbs*e1)) (digs_dok _ _) (digs_dok _ _) (digs_length _ _) (digs_length _ _);rw[vl_digs _ _ (Int.mul_nonneg (by omega) (by omega)) l1,vl_digs _ _ (Int.mul_nonneg (by omega) (by omega)) l2,←he1,←he2,hm]at c5;have hf:fitI .i64 (-(sgnI (nrmN N2 D2)))= -(sgnI (nrmN N2 D2)):=by
  have: -1≤sgnI (nrmN N2 D2)∧sgnI (nrmN N2 D2)≤1:=by unfold sgnI;(repeat' split)<;>omega
  exact fit_i64 (by omega) (by omega)
 rw[←he2]at c3;rw[←he1]at c4;generalize digs 14 (((nrmN N1 D1).natAbs:Int)*nrmD N2 D2)=w1 at c3 c5;generalize digs 14 (((nrmN N2 D2).natAbs:Int)*nrmD N1 D1)=w2 at c4 c5;generalize sgnI (nrmN N1 D1)=g1 at s1 c5;generalize sgnI (nrmN N2 D2)=g2 at s2 c5 hf;generalize((nrmN N1 D1).natAbs:Int)=m1 at c1 c3;generalize((nrmN N2 D2).natAbs:Int)=m2 at c2 c4;cases hA:fv N1 D1<;>cases hB:fv N2 D2<;>simp only[nrmN,nrmD,hA,hB,cond_true,cond_false]at c1 c2 c3 c4 c5 s1 s2
 ·have e1:m1=m2:=by have:=(c1 []).symm.trans (c2 []);simpa using this
  subst e1;have e2:g1=g2:=by have:=(s1 []).symm.trans (s2 []);simpa using this
  subst e2;have e3:lsI w1=lsI w2:=by have:=(c3 []).symm.trans (c4 []);simpa using this
  rw[←e3]at c5;have hA':=fun b h=>r03_Valid n b N1 D1 h
  have hB':=fun b h=>r03_Valid n b N2 D2 h
  simp only[frA]at hA' hB';simp[splice,Tryz.f114,frA,hA',hB',hA,hB,c1,c3,s1,hf,c5,cmpF,nrmN,nrmD]
 all_goals
  have hA':=fun b h=>r03_Valid n b N1 D1 h
  have hB':=fun b h=>r03_Valid n b N2 D2 h
  simp only[frA]at hA' hB';simp[splice,Tryz.f114,frA,hA',hB',hA,hB,c1,c2,c3,c4,s1,s2,hf,c5,cmpF,nrmN,nrmD]
end
section
attribute [local simp] aop aopW coldF extF putA ofConst flat scalarOp fastOp binFast intOp strOp guardX Ae.part rowOf szOk natOf lenA cls fillA splice newsOf isNilC cellX
inductive V where
 |mk (k n d:Int) (s:ByteArray) (z:Bool) (l:List V)
namespace V
def k :V→Int| .mk k _ _ _ _ _=>k
def n :V→Int| .mk _ n _ _ _ _=>n
def d :V→Int| .mk _ _ d _ _ _=>d
def s :V→ByteArray| .mk _ _ _ s _ _=>s
def l :V→List V| .mk _ _ _ _ _ l=>l
def isNil :V→Bool| .mk _ _ _ _ z _=>z
end V
def lsV (z:Bool)(rows:List (List AV)):AV:=bif z && rows.isEmpty then .sc (.slice none 0 0)else .ls 5 rows z
mutual
def enc :V→List AV
 | .mk k n d s z l=> [.sc (.int .i64 k),.sc (.int .i64 n),.sc (.int .i64 d),.sc (.string s),lsV z (encL l)]
def encL :List V→List (List AV)
 | []=> []
 |x::xs=>enc x::encL xs
end
def evV (v:V):AV:= .ag (enc v)
def evL (z:Bool)(l:List V):AV:=lsV z (encL l)
mutual
def dep :V→Nat
 | .mk _ _ _ _ _ l=>depL l+1
def depL :List V→Nat
 | []=>0
 |x::xs=>max (dep x) (depL xs)
end
def okS (s:ByteArray):Bool:=s.data.toList.all fun b=>decide (32≤b.toNat) && decide (b.toNat≤126)
mutual
def okV :V→Int→Bool
 |
  .mk k n d s _ l,m=>
  (decide (k=3)||decide (d=0)) && (decide (k=4)||eqS s ⟨#[]⟩) && (decide (k=8)||decide (k=7)||l.isEmpty) &&
   (
    if k=0 then decide (n=0)
    else if k=1 then decide (n=0)||decide (n=1)
    else if k=2 then inR n
    else if k=3 then decide (2≤d) && fv n d
    else if k=4 then decide (n=0) && decide (s.size≤100) && okS s
    else if k=5∨k=6 then decide (1≤n) && decide (n≤1000000)
    else if k=8 then decide (n=0) && decide (l.length≤64) && decide (1≤m) && okL l (m-1)
    else if k=7 then decide (n=0) && decide (l.length % 2=1) && decide (l.length≤25) && okP l false
    else false)
def okL :List V→Int→Bool
 | [],_=>true
 |x::xs,m=>okV x m && okL xs m
def okP :List V→Bool→Bool
 | [],_=>true
 |x::xs,e=>(decide (x.k=if e then 6 else 5) && okV x 0) && okP xs (!e)
end
def okT (v:V):Bool:=okV v 8
def clsV (k:Int):Int:=if k=0 then 0 else if k=1 then 1 else if k=2∨k=3 then 2 else if k=4 then 3 else if k=5 then 4 else if k=6 then 5 else if k=8 then 6 else 7
mutual
def ordV :V→V→Int
 |
  .mk k n d s z l,w=>
  if okT (.mk k n d s z l)=okT w then
   if okT w then
    if cmpI (clsV k) (clsV w.k)=0 then
     if k=2∨k=3 then cmpF n (if k=2 then 1 else d) w.n (if w.k=2 then 1 else w.d)
     else orI [cmpI k w.k,cmpI n w.n,cmpI d w.d,cmpS s w.s,ordL l w.l]
    else cmpI (clsV k) (clsV w.k)
   else orI [cmpI k w.k,cmpI n w.n,cmpI d w.d,cmpS s w.s,ordL l w.l]
  else if okT w then 1 else-1
def ordL :List V→List V→Int
 | [],m=>if m.isEmpty then 0 else-1
 |
  x::xs,m=>match m with
  | []=>1
  |y::ys=>if ordV x y=0 then ordL xs ys else ordV x y
end
theorem dep_mem {v:V}:∀{l:List V},v∈l→dep v≤depL l
 |
  x::xs,h=>by
  rw[depL];rcases List.mem_cons.1 h with rfl|h
  ·omega
  ·have:=dep_mem h;omega
theorem encL_length :∀l:List V,(encL l).length=l.length
 | []=>rfl
 |x::xs=>by rw[encL,List.length_cons,List.length_cons,encL_length xs]
theorem encL_get :∀(l:List V) (i:Nat),(encL l)[i]?=(l[i]?).map enc
 | [],i=>by simp[encL]
 |x::xs,0=>by simp[encL]
 |x::xs,i+1=>by simp[encL,encL_get xs i]
theorem okL_iff (m:Int):∀l:List V,okL l m=l.all (okV · m)
 | []=>by simp[okL]
 |x::xs=>by simp[okL,okL_iff m xs]
theorem okV_mono_aux :∀N (v:V),dep v≤N→∀m m':Int,m≤m'→okV v m=true→okV v m'=true:=by
 intro N
 induction N with
 |zero=>intro v h;cases v;simp[dep]at h
 |
  succ N ih=>
  intro v h m m' hm hv;cases v with
  |
   mk k n d s z l=>
   simp only[dep]at h;rw[okV]at hv⊢;simp only[Zh]at hv⊢;refine⟨hv.1,?_⟩;have h2:=hv.2
   revert h2
   by_cases h8:k=8
   ·simp only[h8];simp only[show¬((8:Int)=0)from by decide,show¬((8:Int)=1)from by decide,show¬((8:Int)=2)from by decide,show¬((8:Int)=3)from by decide,show¬((8:Int)=4)from by decide,show¬((8:Int)=5∨(8:Int)=6)from by decide,if_false,if_true,Zh,Zz];rintro⟨⟨⟨a,b⟩,c⟩,e⟩;refine⟨⟨⟨a,b⟩,by omega⟩,?_⟩;rw[okL_iff,List.all_eq_true]at e⊢;intro x hx;exact ih x (by have:=dep_mem hx;omega) (m-1) (m'-1) (by omega) (e x hx)
   ·simp only[h8,if_false];exact fun h=>h
theorem okV_mono {v:V}{m m':Int}(hm:m≤m')(h:okV v m=true):okV v m'=true:=okV_mono_aux _ v (Nat.le_refl _) m m' hm h
end
section
attribute [local simp] aop aopW coldF extF putA ofConst flat scalarOp fastOp binFast intOp strOp guardX Ae.part rowOf szOk natOf lenA cls fillA newsOf isNilC cellX
theorem calm_evV (v:V):calm (evV v)=true:=by
 cases v with
 |mk k n d s z l=>simp only[evV,enc,calm,lsV];cases z && (encL l).isEmpty<;>rfl
theorem cmpS_eq {x y:ByteArray}(h:eqS x y=true):cmpS x y=0:=by
 have:=(eqS_iff x y).1 h;subst this;simp[cmpS,ltS_irrefl]
theorem calm_evV1 (v:V):[evV v].all calm=true:=by rw[Zn,calm_evV];rfl
theorem calm_evV2 (v w:V):[evV v,evV w].all calm=true:=by rw[Zn,Zn,calm_evV,calm_evV];rfl
theorem r04_ints (n:Nat)(b:Bool)(x y:Int)(h:Hp):callN cx (n+1) b 111 [.sc (.int .i64 x),.sc (.int .i64 y)] h=some (.sc (.int .i64 (cmpI x y)),h):=by
 refine pure_calm (r:= .sc (.int .i64 (cmpI x y))) ⟨Tryz.f111.ntmps,(Tryz.f111.body).getD .skip,[.tmp 4]⟩ (by kernel_rfl) (by kernel_rfl) rfl (by kernel_rfl) (by simp[Tryz.f111]) rfl rfl ?_ b h;by_cases h1:x<y
 ·simp[Tryz.f111,h1,cmpI]
 ·by_cases h2:y<x<;>simp[Tryz.f111,h1,h2,cmpI]
theorem r04_strs (n:Nat)(b:Bool)(x y:ByteArray)(h:Hp):callN cx (n+1) b 166 [.sc (.string x),.sc (.string y)] h=some (.sc (.int .i64 (cmpS x y)),h):=by
 refine pure_calm (r:= .sc (.int .i64 (cmpS x y))) ⟨Tryz.f166.ntmps,(Tryz.f166.body).getD .skip,[.tmp 4]⟩ (by kernel_rfl) (by kernel_rfl) rfl (by kernel_rfl) (by simp[Tryz.f166]) rfl rfl ?_ b h;cases h1:ltS x y
 ·cases h2:eqS x y
  ·simp[Tryz.f166,h1,h2,ltS_total h1 h2,cmpS]
  ·simp[Tryz.f166,h1,h2,cmpS_eq h2]
 ·simp[Tryz.f166,h1,cmpS]
theorem r45_texts (n:Nat)(b:Bool)(x y:ByteArray)(h:Hp):callN cx (n+1) b 56 [.sc (.string x),.sc (.string y)] h=some (.sc (.int .i64 (cmpS x y)),h):=by
 refine pure_calm (r:= .sc (.int .i64 (cmpS x y))) ⟨Tryz.f56.ntmps,(Tryz.f56.body).getD .skip,[.tmp 4]⟩ (by kernel_rfl) (by kernel_rfl) rfl (by kernel_rfl) (by simp[Tryz.f56]) rfl rfl ?_ b h;cases h1:ltS x y
 ·cases h2:eqS x y
  ·simp[Tryz.f56,h1,h2,ltS_total h1 h2,cmpS]
  ·simp[Tryz.f56,h1,h2,cmpS_eq h2]
 ·simp[Tryz.f56,h1,cmpS]
def yesI (b:Bool):Int:=bif b then 2 else 0
theorem r04_yes (n:Nat)(b x:Bool)(h:Hp):callN cx (n+1) b 109 [.sc (.bool x)] h=some (.sc (.int .i64 (yesI x)),h):=by
 refine pure_calm (r:= .sc (.int .i64 (yesI x))) ⟨Tryz.f109.ntmps,(Tryz.f109.body).getD .skip,[.tmp 2]⟩ (by kernel_rfl) (by kernel_rfl) rfl (by kernel_rfl) (by simp[Tryz.f109]) rfl rfl ?_ b h;cases x<;>simp[Tryz.f109,yesI]
theorem r04_class (n:Nat)(b:Bool)(k:Int)(h:Hp):callN cx (n+1) b 112 [.sc (.int .i64 k)] h=some (.sc (.int .i64 (clsV k)),h):=by
 refine pure_calm (r:= .sc (.int .i64 (clsV k))) ⟨Tryz.f112.ntmps,(Tryz.f112.body).getD .skip,[.tmp 2]⟩ (by kernel_rfl) (by kernel_rfl) rfl (by kernel_rfl) (by simp[Tryz.f112]) rfl rfl ?_ b h;by_cases h0:k=0
 ·simp[Tryz.f112,h0,clsV]
 by_cases h1:k=1
 ·simp[Tryz.f112,h1,clsV]
 by_cases h2:k=2
 ·simp[Tryz.f112,h2,clsV]
 by_cases h3:k=3
 ·simp[Tryz.f112,h3,clsV]
 by_cases h4:k=4
 ·simp[Tryz.f112,h4,clsV]
 by_cases h5:k=5
 ·simp[Tryz.f112,h5,clsV]
 by_cases h6:k=6
 ·simp[Tryz.f112,h6,clsV]
 by_cases h8:k=8
 ·simp[Tryz.f112,h8,clsV]
 simp[Tryz.f112,h0,h1,h2,h3,h4,h5,h6,h8,clsV]
def clsP (k:Int):Int:=if k=3 then 2 else if k=7 then 9 else k
theorem val_class (n:Nat)(b:Bool)(v:V)(h:Hp):callN cx (n+1) b 132 [evV v] h=some (.sc (.int .i64 (clsP v.k)),h):=by
 refine pure_calm (r:= .sc (.int .i64 (clsP v.k))) ⟨Tryz.f132.ntmps,(Tryz.f132.body).getD .skip,[.tmp 2]⟩ (by kernel_rfl) (by kernel_rfl) rfl (by kernel_rfl) (by simp[Tryz.f132]) (calm_evV1 v) rfl ?_ b h;cases v with
 |
  mk k n d s z l=>
  by_cases h3:k=3
  ·simp[Tryz.f132,evV,enc,h3,clsP,V.k]
  by_cases h7:k=7
  ·simp[Tryz.f132,evV,enc,h7,clsP,V.k]
  simp[Tryz.f132,evV,enc,h3,h7,clsP,V.k]
set_option maxHeartbeats 4000000
theorem lsV_cases (z:Bool)(l:List V):(l=[]∧evL z l= .sc (.slice none 0 0))∨evL z l= .ls 5 (encL l) z:=by
 unfold evL lsV;cases l with
 |nil=>cases z<;>simp[encL]
 |cons x xs=>right;simp[encL]
theorem evV_eq (k n d:Int)(s:ByteArray)(z:Bool)(l:List V):evV (.mk k n d s z l)= .ag [.sc (.int .i64 k),.sc (.int .i64 n),.sc (.int .i64 d),.sc (.string s),evL z l]:=rfl
def bareV (v:V)(a b c e:Bool):Bool:=(a||decide (v.n=0)) && (b||decide (v.d=0)) && (c||eqS v.s ⟨#[]⟩) && (e||v.l.isEmpty)
theorem lsV_len (z:Bool)(l:List V):evL z l= .sc (.slice none 0 0)∧l.isEmpty=true∨∃rows,evL z l= .ls 5 rows z∧(l.isEmpty=decide ((rows.length:Int)=0)):=by
 rcases lsV_cases z l with⟨rfl,e⟩|e
 ·exact .inl ⟨e,rfl⟩
 ·refine .inr ⟨_,e,?_⟩;rw[encL_length];cases l<;>simp<;>omega
theorem r04_bare0000 (n:Nat)(b:Bool)(v:V)(h:Hp):callN cx (n+1) b 237 [evV v,.sc (.bool false),.sc (.bool false),.sc (.bool false),.sc (.bool false)] h=some (.sc (.bool (bareV v false false false false)),h):=by
 have hc:[evV v,.sc (.bool false),.sc (.bool false),.sc (.bool false),.sc (.bool false)].all calm=true:=by rw[Zn,calm_evV];rfl
 refine pure_calm (r:= .sc (.bool (bareV v false false false false))) ⟨Tryz.f237.ntmps,(Tryz.f237.body).getD .skip,[.tmp 10]⟩ (by kernel_rfl) (by kernel_rfl) rfl (by kernel_rfl) (by simp[Tryz.f237]) hc rfl ?_ b h;clear hc;cases v with
 |
  mk k n d s z l=>
  rw[evV_eq];simp only[bareV,V.n,V.d,V.s,V.l];have hl:=lsV_len z l;generalize evL z l=L at hl;generalize l.isEmpty=E at hl;by_cases hn:n=0
  ·by_cases hd:d=0
   ·cases hs:eqS s ⟨#[]⟩
    ·simp[Tryz.f237,hn,hd,hs]
    ·rcases hl with⟨rfl,e⟩|⟨rows,rfl,e⟩<;>simp[Tryz.f237,hn,hd,hs,e]
   ·simp[Tryz.f237,hn,hd]
  ·simp[Tryz.f237,hn]
theorem r04_bare1000 (n:Nat)(b:Bool)(v:V)(h:Hp):callN cx (n+1) b 237 [evV v,.sc (.bool true),.sc (.bool false),.sc (.bool false),.sc (.bool false)] h=some (.sc (.bool (bareV v true false false false)),h):=by
 have hc:[evV v,.sc (.bool true),.sc (.bool false),.sc (.bool false),.sc (.bool false)].all calm=true:=by rw[Zn,calm_evV];rfl
 refine pure_calm (r:= .sc (.bool (bareV v true false false false))) ⟨Tryz.f237.ntmps,(Tryz.f237.body).getD .skip,[.tmp 10]⟩ (by kernel_rfl) (by kernel_rfl) rfl (by kernel_rfl) (by simp[Tryz.f237]) hc rfl ?_ b h;clear hc;cases v with
 |
  mk k n d s z l=>
  rw[evV_eq];simp only[bareV,V.n,V.d,V.s,V.l];have hl:=lsV_len z l;generalize evL z l=L at hl;generalize l.isEmpty=E at hl;by_cases hd:d=0
  ·cases hs:eqS s ⟨#[]⟩
   ·simp[Tryz.f237,hd,hs]
   ·rcases hl with⟨rfl,e⟩|⟨rows,rfl,e⟩<;>simp[Tryz.f237,hd,hs,e]
  ·simp[Tryz.f237,hd]
theorem r04_bare1100 (n:Nat)(b:Bool)(v:V)(h:Hp):callN cx (n+1) b 237 [evV v,.sc (.bool true),.sc (.bool true),.sc (.bool false),.sc (.bool false)] h=some (.sc (.bool (bareV v true true false false)),h):=by
 have hc:[evV v,.sc (.bool true),.sc (.bool true),.sc (.bool false),.sc (.bool false)].all calm=true:=by rw[Zn,calm_evV];rfl
 refine pure_calm (r:= .sc (.bool (bareV v true true false false))) ⟨Tryz.f237.ntmps,(Tryz.f237.body).getD .skip,[.tmp 10]⟩ (by kernel_rfl) (by kernel_rfl) rfl (by kernel_rfl) (by simp[Tryz.f237]) hc rfl ?_ b h;clear hc;cases v with
 |
  mk k n d s z l=>
  rw[evV_eq];simp only[bareV,V.n,V.d,V.s,V.l];have hl:=lsV_len z l;generalize evL z l=L at hl;generalize l.isEmpty=E at hl;cases hs:eqS s ⟨#[]⟩
  ·simp[Tryz.f237,hs]
  ·rcases hl with⟨rfl,e⟩|⟨rows,rfl,e⟩<;>simp[Tryz.f237,hs,e]
theorem r04_bare0010 (n:Nat)(b:Bool)(v:V)(h:Hp):callN cx (n+1) b 237 [evV v,.sc (.bool false),.sc (.bool false),.sc (.bool true),.sc (.bool false)] h=some (.sc (.bool (bareV v false false true false)),h):=by
 have hc:[evV v,.sc (.bool false),.sc (.bool false),.sc (.bool true),.sc (.bool false)].all calm=true:=by rw[Zn,calm_evV];rfl
 refine pure_calm (r:= .sc (.bool (bareV v false false true false))) ⟨Tryz.f237.ntmps,(Tryz.f237.body).getD .skip,[.tmp 10]⟩ (by kernel_rfl) (by kernel_rfl) rfl (by kernel_rfl) (by simp[Tryz.f237]) hc rfl ?_ b h;clear hc;cases v with
 |
  mk k n d s z l=>
  rw[evV_eq];simp only[bareV,V.n,V.d,V.s,V.l];have hl:=lsV_len z l;generalize evL z l=L at hl;generalize l.isEmpty=E at hl;by_cases hn:n=0
  ·by_cases hd:d=0
   ·rcases hl with⟨rfl,e⟩|⟨rows,rfl,e⟩<;>simp[Tryz.f237,hn,hd,e]
   ·simp[Tryz.f237,hn,hd]
  ·simp[Tryz.f237,hn]
theorem r04_bare0001 (n:Nat)(b:Bool)(v:V)(h:Hp):callN cx (n+1) b 237 [evV v,.sc (.bool false),.sc (.bool false),.sc (.bool false),.sc (.bool true)] h=some (.sc (.bool (bareV v false false false true)),h):=by
 have hc:[evV v,.sc (.bool false),.sc (.bool false),.sc (.bool false),.sc (.bool true)].all calm=true:=by rw[Zn,calm_evV];rfl
 refine pure_calm (r:= .sc (.bool (bareV v false false false true))) ⟨Tryz.f237.ntmps,(Tryz.f237.body).getD .skip,[.tmp 10]⟩ (by kernel_rfl) (by kernel_rfl) rfl (by kernel_rfl) (by simp[Tryz.f237]) hc rfl ?_ b h;clear hc;cases v with
 |
  mk k n d s z l=>
  rw[evV_eq];simp only[bareV,V.n,V.d,V.s,V.l];have hl:=lsV_len z l;generalize evL z l=L at hl;generalize l.isEmpty=E at hl;by_cases hn:n=0
  ·by_cases hd:d=0
   ·cases hs:eqS s ⟨#[]⟩
    ·simp[Tryz.f237,hn,hd,hs]
    ·simp[Tryz.f237,hn,hd,hs]
   ·simp[Tryz.f237,hn,hd]
  ·simp[Tryz.f237,hn]
def okC (c:UInt8):Bool:=decide (32≤c.toNat) && decide (c.toNat≤126)
theorem okC_int (c:UInt8):okC c=(decide (32≤(c.toNat:Int)) && decide ((c.toNat:Int)≤126)):=by
 unfold okC;generalize c.toNat=m;have e1:decide (32≤m)=decide (32≤(m:Int)):=decide_eq_decide.2 (by omega);have e2:decide (m≤126)=decide ((m:Int)≤126):=decide_eq_decide.2 (by omega);rw[e1,e2]
def okD (x:ByteArray)(i:Nat):Bool:=(x.data.toList.drop i).all okC
theorem okD_zero (x:ByteArray):okS x=okD x 0:=rfl
theorem okD_end (x:ByteArray)(i:Nat)(h:x.size≤i):okD x i=true:=by unfold okD;rw[Zt h];rfl
theorem okD_step {x:ByteArray}{i:Nat}{c:UInt8}(h:x.data.toList[i]?=some c):okD x i=(okC c && okD x (i+1)):=by
 obtain⟨k,e⟩:=Za.1 h;unfold okD;rw[Zm k,e,Zn]
theorem r04_str (n:Nat)(b:Bool)(x:ByteArray)(h:Hp)(hx:x.size≤1000000000000000):callN cx (n+1) b 239 [.sc (.string x)] h=some (.sc (.bool (okS x && decide ((x.size:Int)≤100))),h):=by
 refine pure_calm (r:= .sc (.bool (okS x && decide ((x.size:Int)≤100)))) ⟨Tryz.f239.ntmps,(Tryz.f239.body).getD .skip,[.tmp 2]⟩ (by kernel_rfl) (by kernel_rfl) rfl (by kernel_rfl) (by simp[Tryz.f239]) rfl rfl ?_ b h;have hsz:x.data.toList.length=x.size:=rfl;simp[Tryz.f239];refine loop_up (C:=cx) (G:=fun r=>∃h',finX _ (thenX _ _ (blockX _ r) _)=some (_,h'))
  (fun i s=>okS x=okD x i∧s.1.length=23∧gt s.1 0= .sc (.string x)∧gt s.1 3= .sc (.int .i64 i))
  (fun o s=>s.1.length=23∧((o= .exit 0∧okS x=true∧gt s.1 0= .sc (.string x))∨(o= .ret∧okS x=false∧gt s.1 2= .sc (.bool false)))) x.size (by simp;omega) (by simp[okD_zero]) ?_ ?_
 ·rintro i fr h hle ⟨ho,hlen,h0,h3⟩;simp only at hlen h0 h3;by_cases hi:i<x.size
  ·obtain⟨c,hc⟩:∃c,x.data.toList[i]?=some c:=⟨_,Zb (by omega)⟩;rw[okD_step hc]at ho;have hf:fitI .i64 ((i:Int)+1)=((i+1:Nat):Int):=fit_i64 (by omega) (by omega);have hc':∀k,x.data[i]'k=c:=fun k=>by obtain⟨_,e⟩:=Za.1 hc;exact e
   obtain⟨q,hq⟩:∃q:Int,q=c.toNat:=⟨_,rfl⟩;have hok:okC c=(decide (32≤q) && decide (q≤126)):=by rw[hq];exact okC_int c
   rw[hok]at ho;clear hok;by_cases c1:q<32
   ·have z:okS x=false:=by rw[ho];simp;omega
    clear ho;simp[hlen,h0,h3,hi,hc,hc',←hq,c1,z]
   ·by_cases c2:126<q
    ·have z:okS x=false:=by rw[ho];simp;omega
     clear ho;simp[hlen,h0,h3,hi,hc,hc',←hq,c1,c2,z]
    ·have z:okS x=okD x (i+1):=by rw[ho];simp[show 32≤q by omega,show q≤126 by omega]
     clear ho;simp[hlen,h0,h3,hi,hc,hc',←hq,c1,c2,hf];exact z
  ·have hz:okS x=true:=by rw[ho,okD_end x i (by omega)]
   simp[hlen,h0,h3,hi,hz]
 ·rintro o fr h hn ⟨hlen,⟨rfl,hz,h0⟩|⟨rfl,hz,h2⟩⟩
  ·simp only at hlen h0;simp[hlen,h0,hz]
  ·simp only at h2;simp[h2,hz]
@[simp] theorem enc_length (v:V):(enc v).length=5:=by cases v;rfl
@[simp] theorem take_enc (v:V):List.take 5 (enc v)=enc v:=by cases v;rfl
def VC (N:Nat)(v:V):Prop:=∀b m h,0≤m→m≤8→callN cx N b 165 [.ag (enc v),.sc (.int .i64 m)] h=some (.sc (.bool (okV v m)),h)
def okLD (l:List V)(m:Int)(i:Nat):Bool:=okL (l.drop i) m
theorem okLD_zero (l:List V)(m:Int):okL l m=okLD l m 0:=rfl
theorem okLD_end (l:List V)(m:Int)(i:Nat)(h:l.length≤i):okLD l m i=true:=by unfold okLD;rw[Zt h];rfl
theorem okLD_step {l:List V}{m:Int}{i:Nat}{c:V}(h:l[i]?=some c):okLD l m i=(okV c m && okLD l m (i+1)):=by
 obtain⟨k,e⟩:=Za.1 h;unfold okLD;rw[Zm k,e,okL]
def okLst (l:List V)(m:Int):Bool:=decide ((l.length:Int)≤64) && decide (1≤m) && okL l (m-1)
theorem calm_evL (z:Bool)(l:List V):calm (evL z l)=true:=by unfold evL lsV;cases z && (encL l).isEmpty<;>rfl
theorem r04_list (N:Nat)(b:Bool)(z:Bool)(l:List V)(m:Int)(h:Hp)(hm0:0≤m)(hm8:m≤8)(hv:∀x∈l,VC N x):callN cx (N+1) b 241 [evL z l,.sc (.int .i64 m)] h=some (.sc (.bool (okLst l m)),h):=by
 have hc:[evL z l,.sc (.int .i64 m)].all calm=true:=by rw[Zn,calm_evL];rfl
 refine pure_calm (r:= .sc (.bool (okLst l m))) ⟨Tryz.f241.ntmps,(Tryz.f241.body).getD .skip,[.tmp 4]⟩ (by kernel_rfl) (by kernel_rfl) rfl (by kernel_rfl) (by simp[Tryz.f241]) hc rfl ?_ b h;clear hc;unfold okLst;by_cases h1:m<1
 ·rcases lsV_cases z l with⟨rfl,e⟩|e<;>simp[Tryz.f241,h1,show¬1≤m by omega,e]
 have hf1:fitI .i64 (m-1)=m-1:=fit_i64 (by omega) (by omega);have h1':1≤m:=by omega
 rcases lsV_cases z l with⟨rfl,e⟩|e
 ·rw[e];simp[Tryz.f241,h1,h1',okL];refine loop_up (C:=cx) (G:=fun r=>∃h',finX _ (thenX _ _ (blockX _ r) _)=some (_,h'))
   (fun i s=>i=0∧s.1.length=27∧gt s.1 0= .sc (.slice none 0 0)∧gt s.1 5= .sc (.int .i64 0))
   (fun o s=>s.1.length=27∧o= .exit 0) 0 (by simp) (by simp) ?_ ?_
  ·rintro i fr h hle ⟨rfl,hlen,h0,h5⟩;simp only at hlen h0 h5;simp[hlen,h0,h5]
  ·rintro o fr h hn ⟨hlen,rfl⟩;simp only at hlen;simp[hlen]
 ·rw[e];have hq:=encL_length l;have hg:=encL_get l;generalize encL l=rows at hq hg;by_cases h2:64< (l.length:Int)
  ·simp[Tryz.f241,h1,h1',hq,h2,show¬(l.length:Int)≤64 by omega]
  ·have h2':(l.length:Int)≤64:=by omega
   simp[Tryz.f241,h1,h1',hq,h2,h2'];refine loop_up (C:=cx) (G:=fun r=>∃h',finX _ (thenX _ _ (blockX _ r) _)=some (_,h'))
    (fun i s=>okL l (m-1)=okLD l (m-1) i∧s.1.length=27∧gt s.1 0= .ls 5 rows z∧gt s.1 1= .sc (.int .i64 m)∧gt s.1 5= .sc (.int .i64 i))
    (fun o s=>s.1.length=27∧((o= .exit 0∧okL l (m-1)=true)∨(o= .ret∧okL l (m-1)=false∧gt s.1 4= .sc (.bool false)))) l.length (by simp;omega) (by simp[okLD_zero]) ?_ ?_
   ·rintro i fr h hle ⟨ho,hlen,h0,h1,h5⟩;simp only at hlen h0 h1 h5;by_cases hi:i<l.length
    ·obtain⟨c,hc⟩:∃c,l[i]?=some c:=⟨_,Zb hi⟩;have hr:rows[i]?=some (enc c):=by rw[hg,hc];rfl
     have hr':∀k,rows[i]'k=enc c:=fun k=>by obtain⟨_,e⟩:=Za.1 hr;exact e
     have hcv:=hv c (Zi hc);have hcall:=fun b h=>hcv b (m-1) h (by omega) (by omega)
     rw[okLD_step hc]at ho;have hf:fitI .i64 ((i:Int)+1)=((i+1:Nat):Int):=fit_i64 (by omega) (by omega);cases hk:okV c (m-1)
     ·have zz:okL l (m-1)=false:=by rw[ho,hk];rfl
      clear ho;simp[hlen,h0,h1,h5,hi,hq,hr,hr',hf1,hcall,hk,zz]
     ·have zz:okL l (m-1)=okLD l (m-1) (i+1):=by rw[ho,hk];rfl
      clear ho;simp[hlen,h0,h1,h5,hi,hq,hr,hr',hf1,hcall,hk,hf];exact zz
    ·have zz:okL l (m-1)=true:=by rw[ho,okLD_end l _ i (by omega)]
     simp[hlen,h0,h1,h5,hi,hq,zz]
   ·rintro o fr h hn ⟨hlen,⟨rfl,hz⟩|⟨rfl,hz,h2⟩⟩
    ·simp only at hlen;simp[hlen,hz]
    ·simp only at h2;simp[h2,hz]
end
end Go.Proofs.YtmocfjnklfpnbaaGreatDoor
