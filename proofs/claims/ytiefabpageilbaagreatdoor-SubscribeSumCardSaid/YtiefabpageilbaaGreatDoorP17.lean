/- Contracts: frac's wide numbers. -/
import Derived.Test.YtiefabpageilbaaGreatDoorP16
set_option linter.all false
set_option maxRecDepth 100000
namespace Go.Proofs.YtiefabpageilbaaGreatDoor
open Go Go.Ae
section
attribute [local simp] aop aopW coldF extF putA ofConst flat scalarOp fastOp binFast intOp strOp guardX Ae.part rowOf szOk natOf lenA cls fillA splice newsOf isNilC cellX
theorem frac_size (n:Nat)(b:Bool)(x:Int)(h:Hp)(hx:inR x=true):callN cx (n+1) b 266 [.sc (.int .i64 x)] h=some (.sc (.int .u64 x.natAbs),h):=by
 rw[inR_iff]at hx;refine pure_calm (r:= .sc (.int .u64 x.natAbs)) ⟨Tryz.f266.ntmps,(Tryz.f266.body).getD .skip,[.tmp 2]⟩ (by kernel_rfl) (by kernel_rfl) rfl (by kernel_rfl) (by simp[Tryz.f266]) rfl rfl ?_ b h;by_cases h1:x<0
 ·have f1:fitI .u64 x=x+18446744073709551616:=by
   rw[fitI_wrap];simp only[IntKind.wrap,IntKind.signed,IntKind.bits,Bool.false_and,Yg,if_false];omega
  have f2:fitI .u64 (-(x+18446744073709551616))=(x.natAbs:Int):=by
   rw[fitI_wrap];simp only[IntKind.wrap,IntKind.signed,IntKind.bits,Bool.false_and,Yg,if_false];omega
  simp[Tryz.f266,h1,f1,f2]
 ·have f1:fitI .u64 x=x:=fit_u64 (by omega) (by omega);have f2:x=(x.natAbs:Int):=by omega
  simp[Tryz.f266,h1,f1];exact f2
def wA (g:Bool)(m:Int):AV:= .ag [.sc (.bool g),.sc (.int .u64 (m/18446744073709551616)),.sc (.int .u64 (m % 18446744073709551616))]
theorem frac_product (n:Nat)(b:Bool)(x y:Int)(h:Hp)(hx:inR x=true)(hy:inR y=true):
 callN cx (n+2) b 200 [.sc (.int .i64 x),.sc (.int .i64 y)] h=some (wA (decide (x<0) !=decide (y<0)) (x.natAbs*y.natAbs:Nat),h):=by
 have hx':=hx;have hy':=hy;rw[inR_iff]at hx hy;refine pure_calm (r:=wA (decide (x<0) !=decide (y<0)) (x.natAbs*y.natAbs:Nat)) ⟨Tryz.f200.ntmps,(Tryz.f200.body).getD .skip,[.cell 4 3 true]⟩ (by kernel_rfl) (by kernel_rfl) rfl (by kernel_rfl) (by simp[Tryz.f200]) rfl rfl ?_ b h;simp[Tryz.f200,frac_size _ _ _ _ hx',frac_size _ _ _ _ hy',Mul64 _ _ (x.natAbs:Int) (y.natAbs:Int) _ (by omega) (by omega) (by omega) (by omega),wA]
theorem wide_less (n:Nat)(b:Bool)(g g':Bool)(x y:Int)(h:Hp):callN cx (n+1) b 268 [wA g x,wA g' y] h=some (.sc (.bool (decide (x<y))),h):=by
 refine pure_calm (r:= .sc (.bool (decide (x<y)))) ⟨Tryz.f268.ntmps,(Tryz.f268.body).getD .skip,[.tmp 4]⟩ (by kernel_rfl) (by kernel_rfl) rfl (by kernel_rfl) (by simp[Tryz.f268]) rfl rfl ?_ b h;have e:x=x/18446744073709551616*18446744073709551616+x % 18446744073709551616:=by omega
 have e':y=y/18446744073709551616*18446744073709551616+y % 18446744073709551616:=by omega
 by_cases h1:x/18446744073709551616<y/18446744073709551616
 ·have h0:x<y:=by omega
  simp[Tryz.f268,wA,h1,h0]
 ·by_cases h2:x/18446744073709551616=y/18446744073709551616
  ·have h0:(x % 18446744073709551616<y % 18446744073709551616)=(x<y):=propext (by omega);simp[Tryz.f268,wA,h2,h0]
  ·have h0:¬x<y:=by omega
   simp[Tryz.f268,wA,h1,h2,h0]
def sgW (g:Bool)(m:Int):Int:=if m=0 then 0 else bif g then-1 else 1
theorem wide_sign (n:Nat)(b:Bool)(g:Bool)(x:Int)(h:Hp)(h0:0≤x)(h1:x<18446744073709551616*18446744073709551616):callN cx (n+1) b 202 [wA g x] h=some (.sc (.int .i64 (sgW g x)),h):=by
 refine pure_calm (r:= .sc (.int .i64 (sgW g x))) ⟨Tryz.f202.ntmps,(Tryz.f202.body).getD .skip,[.tmp 2]⟩ (by kernel_rfl) (by kernel_rfl) rfl (by kernel_rfl) (by simp[Tryz.f202]) rfl rfl ?_ b h;have a1:0≤x/18446744073709551616:=by omega
 have a2:x/18446744073709551616≤18446744073709551615:=by omega
 have a3:0≤x % 18446744073709551616:=by omega
 have a4:x % 18446744073709551616≤18446744073709551615:=by omega
 by_cases hz:x=0
 ·subst hz;simp[Tryz.f202,wA,sgW]
 ·by_cases h2:x/18446744073709551616≤0
  ·have h3:¬x % 18446744073709551616≤0:=by omega
   cases g<;>simp[Tryz.f202,wA,sgW,hz,a1,a2,a3,a4,h2,h3]
  ·cases g<;>simp[Tryz.f202,wA,sgW,hz,a1,a2,a3,a4,h2]
theorem slow_ext3 {f:FuncId}{fr:List AV}{A B D:Operand}{x y c:Value}(hA:ev cx fr A= .sc x)(hB:ev cx fr B= .sc y)(hD:ev cx fr D= .sc c){d:Option Tmp}{tys:Array TypeId}{t:TypeId}{p:String}{a:Array Edge}{g:Option (Nat × Bool)}{r:Value}{R:AV}
 (hr:runPure cx.P (callFunc f #[x,y,c])=some (.value r)) (hR:ofResult r=some R):slowOp cx (ev cx fr) {dst:=d,op:= .call {callee:= .value (.func f),args:= #[A,B,D],argTypes:=tys},type:=t,pos:=p,after:=a,guard:=g}=some R:=by
 unfold slowOp;have e:execOp (fun x=>detOf (ev cx fr x)) {dst:=d,op:= .call {callee:= .value (.func f),args:= #[A,B,D],argTypes:=tys},type:=t,pos:=p,after:=a,guard:=g}=callFunc f #[x,y,c]:=by
  simp[execOp,resolve,Deferred.ofValue,invoke,detOf,hA,hB,hD]
 rw[e,hr];simp[isSelect,Op.operands,Call.operands,isDet,hA,hB,hD,hR]
theorem add64_b (x y:Int):runPure cx.P (callFunc 267 #[.int .u64 x,.int .u64 y,.int .u64 0])=some (.value (.tuple #[.int .u64 ((x.toNat+y.toNat+0) % 18446744073709551616:Nat),.int .u64 ((x.toNat+y.toNat+0)/18446744073709551616:Nat)])):=by kernel_rfl
theorem add64_c (x y:Int):runPure cx.P (callFunc 267 #[.int .u64 x,.int .u64 y,.int .u64 1])=some (.value (.tuple #[.int .u64 ((x.toNat+y.toNat+1) % 18446744073709551616:Nat),.int .u64 ((x.toNat+y.toNat+1)/18446744073709551616:Nat)])):=by kernel_rfl
theorem sub64_b (x y:Int):runPure cx.P (callFunc 269 #[.int .u64 x,.int .u64 y,.int .u64 0])=some (.value (.tuple #[.int .u64 ((x.toNat+18446744073709551616-y.toNat-0) % 18446744073709551616:Nat),.int .u64 (if x.toNat<y.toNat+0 then 1 else 0:Nat)])):=by kernel_rfl
theorem sub64_c (x y:Int):runPure cx.P (callFunc 269 #[.int .u64 x,.int .u64 y,.int .u64 1])=some (.value (.tuple #[.int .u64 ((x.toNat+18446744073709551616-y.toNat-1) % 18446744073709551616:Nat),.int .u64 (if x.toNat<y.toNat+1 then 1 else 0:Nat)])):=by kernel_rfl
theorem add64 (x y c:Int)(hx:0≤x)(hy:0≤y)(hc:c=0∨c=1):runPure cx.P (callFunc 267 #[.int .u64 x,.int .u64 y,.int .u64 c])=some (.value (.tuple #[.int .u64 ((x+y+c) % 18446744073709551616),.int .u64 ((x+y+c)/18446744073709551616)])):=by
 rcases hc with rfl|rfl
 ·rw[add64_b,show(((x.toNat+y.toNat+0) % 18446744073709551616:Nat):Int)=(x+y+0) % 18446744073709551616 by omega,show(((x.toNat+y.toNat+0)/18446744073709551616:Nat):Int)=(x+y+0)/18446744073709551616 by omega]
 ·rw[add64_c,show(((x.toNat+y.toNat+1) % 18446744073709551616:Nat):Int)=(x+y+1) % 18446744073709551616 by omega,show(((x.toNat+y.toNat+1)/18446744073709551616:Nat):Int)=(x+y+1)/18446744073709551616 by omega]
theorem sub64 (x y c:Int)(hx:0≤x)(hy:0≤y)(hy':y<18446744073709551616)(hc:c=0∨c=1):runPure cx.P (callFunc 269 #[.int .u64 x,.int .u64 y,.int .u64 c])=some (.value (.tuple #[.int .u64 ((x+18446744073709551616-y-c) % 18446744073709551616),.int .u64 (if x<y+c then 1 else 0)])):=by
 rcases hc with rfl|rfl
 ·rw[sub64_b,show(((x.toNat+18446744073709551616-y.toNat-0) % 18446744073709551616:Nat):Int)=(x+18446744073709551616-y-0) % 18446744073709551616 by omega,show((if x.toNat<y.toNat+0 then 1 else 0:Nat):Int)=if x<y+0 then 1 else 0 by split<;>split<;>omega]
 ·rw[sub64_c,show(((x.toNat+18446744073709551616-y.toNat-1) % 18446744073709551616:Nat):Int)=(x+18446744073709551616-y-1) % 18446744073709551616 by omega,show((if x.toNat<y.toNat+1 then 1 else 0:Nat):Int)=if x<y+1 then 1 else 0 by split<;>split<;>omega]
def plG (g g':Bool)(x y:Int):Bool:=bif g==g' then g else bif decide (x<y)then g' else g
def plM (g g':Bool)(x y:Int):Int:=bif g==g' then x+y else bif decide (x<y)then y-x else x-y
theorem wide_plus (n:Nat)(b:Bool)(g g':Bool)(x y:Int)(h:Hp)(hx:0≤x)(hx':x<18446744073709551616*9223372036854775808)(hy:0≤y)(hy':y<18446744073709551616*9223372036854775808):
 callN cx (n+2) b 201 [wA g x,wA g' y] h=some (wA (plG g g' x y) (plM g g' x y),h):=by
 refine pure_calm (r:=wA (plG g g' x y) (plM g g' x y)) ⟨Tryz.f201.ntmps,(Tryz.f201.body).getD .skip,[.cell 4 3 true]⟩ (by kernel_rfl) (by kernel_rfl) rfl (by kernel_rfl) (by simp[Tryz.f201]) rfl rfl ?_ b h;obtain⟨xh,hxh⟩:∃v,v=x/18446744073709551616:=⟨_,rfl⟩;obtain⟨xl,hxl⟩:∃v,v=x % 18446744073709551616:=⟨_,rfl⟩;obtain⟨yh,hyh⟩:∃v,v=y/18446744073709551616:=⟨_,rfl⟩;obtain⟨yl,hyl⟩:∃v,v=y % 18446744073709551616:=⟨_,rfl⟩;cases hg:g==g' with
 |
  true=>
  have hc:(xl+yl)/18446744073709551616=0∨(xl+yl)/18446744073709551616=1:=by omega
  simp[Tryz.f201,wA,plG,plM,hg,←hxh,←hxl,←hyh,←hyl];rw[slow_ext3 ?_ ?_ ?_ (add64 xl yl 0 (by omega) (by omega) (.inl rfl)) rfl]
  rotate_left
  ·rfl
  ·rfl
  ·rfl
  simp;rw[slow_ext3 ?_ ?_ ?_ (add64 xh yh ((xl+yl)/18446744073709551616) (by omega) (by omega) hc) rfl]
  rotate_left
  ·rfl
  ·rfl
  ·rfl
  have f1:(xl+yl) % 18446744073709551616=(x+y) % 18446744073709551616:=by omega
  have f2:(xh+yh+(xl+yl)/18446744073709551616) % 18446744073709551616=(x+y)/18446744073709551616:=by omega
  simp[f1,f2]
 |
  false=>
  have hl:=fun h=>wide_less n true g g' x y h
  simp only[wA,←hxh,←hxl,←hyh,←hyl]at hl;by_cases hlt:x<y
  ·simp only[hlt,decide_true]at hl;have hc:(if yl<xl then(1:Int)else 0)=0∨(if yl<xl then(1:Int)else 0)=1:=by split<;>simp
   simp[Tryz.f201,wA,plG,plM,hg,←hxh,←hxl,←hyh,←hyl,hlt,hl];rw[slow_ext3 ?_ ?_ ?_ (sub64 yl xl 0 (by omega) (by omega) (by omega) (.inl rfl)) rfl]
   rotate_left
   ·rfl
   ·rfl
   ·rfl
   simp;rw[slow_ext3 ?_ ?_ ?_ (sub64 yh xh (if yl<xl then 1 else 0) (by omega) (by omega) (by omega) hc) rfl]
   rotate_left
   ·rfl
   ·rfl
   ·rfl
   have f1:(yl+18446744073709551616-xl) % 18446744073709551616=(y-x) % 18446744073709551616:=by omega
   have f2:(yh+18446744073709551616-xh-(if yl<xl then 1 else 0)) % 18446744073709551616=(y-x)/18446744073709551616:=by split<;>omega
   simp[f1,f2]
  ·simp only[hlt,decide_false]at hl;have hc:(if xl<yl then(1:Int)else 0)=0∨(if xl<yl then(1:Int)else 0)=1:=by split<;>simp
   simp[Tryz.f201,wA,plG,plM,hg,←hxh,←hxl,←hyh,←hyl,hlt,hl];rw[slow_ext3 ?_ ?_ ?_ (sub64 xl yl 0 (by omega) (by omega) (by omega) (.inl rfl)) rfl]
   rotate_left
   ·rfl
   ·rfl
   ·rfl
   simp;rw[slow_ext3 ?_ ?_ ?_ (sub64 xh yh (if xl<yl then 1 else 0) (by omega) (by omega) (by omega) hc) rfl]
   rotate_left
   ·rfl
   ·rfl
   ·rfl
   have f1:(xl+18446744073709551616-yl) % 18446744073709551616=(x-y) % 18446744073709551616:=by omega
   have f2:(xh+18446744073709551616-yh-(if xl<yl then 1 else 0)) % 18446744073709551616=(x-y)/18446744073709551616:=by split<;>omega
   simp[f1,f2]
def sgnI (z:Int):Int:=if z<0 then-1 else if 0<z then 1 else 0
theorem cmp_math (n1 d1 n2 d2:Int)(h1:0<d1)(h2:0<d2):
 sgW (plG (decide (n1<0) !=decide (d2<0)) (decide (-n2<0) !=decide (d1<0)) (n1.natAbs*d2.natAbs:Nat) ((-n2).natAbs*d1.natAbs:Nat))
  (plM (decide (n1<0) !=decide (d2<0)) (decide (-n2<0) !=decide (d1<0)) (n1.natAbs*d2.natAbs:Nat) ((-n2).natAbs*d1.natAbs:Nat))=sgnI (n1*d2-n2*d1):=by
 obtain⟨p,hp⟩:∃p,p=n1*d2:=⟨_,rfl⟩;obtain⟨q,hq⟩:∃q,q=n2*d1:=⟨_,rfl⟩;have e1:((n1.natAbs*d2.natAbs:Nat):Int)=(p.natAbs:Int):=by rw[hp,Int.natAbs_mul]
 have e2:(((-n2).natAbs*d1.natAbs:Nat):Int)=(q.natAbs:Int):=by rw[hq,Int.natAbs_mul,Int.natAbs_neg]
 have g1:(n1<0)=(p<0):=propext ⟨fun h=>by rw[hp];exact Int.mul_neg_of_neg_of_pos h h2,fun h=>by
  rw[hp]at h;apply Classical.byContradiction;intro hn;have:=Int.mul_nonneg (Int.not_lt.1 hn) (Int.le_of_lt h2);omega⟩
 have g2:(-n2<0)=(0<q):=propext ⟨fun h=>by rw[hq];exact Int.mul_pos (by omega) h1,fun h=>by
  rw[hq]at h;apply Classical.byContradiction;intro hn;have:=Int.mul_nonneg (show 0≤ -n2 by omega) (Int.le_of_lt h1);rw[Int.neg_mul]at this;omega⟩
 rw[e1,e2,←hp,←hq];have d10:decide (d1<0)=false:=decide_eq_false (by omega);have d20:decide (d2<0)=false:=decide_eq_false (by omega);simp only[g1,g2,d10,d20,Bool.bne_false,sgW,plG,plM,sgnI];by_cases a:p<0<;>by_cases b:0<q<;>by_cases c:(p.natAbs:Int)<q.natAbs<;>simp[a,b,c]<;>(repeat' split)<;>omega
theorem plM_bd {g g':Bool}{x y B:Int}(hx:0≤x)(hy:0≤y)(hx':x≤B)(hy':y≤B):0≤plM g g' x y∧plM g g' x y≤2*B:=by
 unfold plM;cases g==g' with
 |true=>simp only[cond_true];omega
 |
  false=>
  by_cases h:x<y
  ·simp only[h,decide_true,cond_true,cond_false];omega
  ·simp only[h,decide_false,cond_false];omega
def nrmN (N D:Int):Int:=bif fv N D then N else 0
def nrmD (N D:Int):Int:=bif fv N D then D else 1
theorem nrm_ok (N D:Int):inR (nrmN N D)=true∧inR (nrmD N D)=true∧0<nrmD N D:=by
 unfold nrmN nrmD;cases h:fv N D with
 |true=>obtain⟨h1,h2,h3⟩:=fv_inR h;exact⟨h1,h2,h3⟩
 |false=>exact⟨rfl,rfl,(by decide:(0:Int)<1)⟩
def cmpF (N1 D1 N2 D2:Int):Int:=sgnI (nrmN N1 D1*nrmD N2 D2-nrmN N2 D2*nrmD N1 D1)
theorem inR_neg {x:Int}(h:inR x=true):inR (-x)=true:=by rw[inR_iff]at *;omega
theorem mul_le30 {x y:Int}(hx:inR x=true)(hy:inR y=true):((x.natAbs*y.natAbs:Nat):Int)≤1000000000000000000000000000000:=by
 rw[inR_iff]at *;have:=Nat.mul_le_mul (show x.natAbs≤1000000000000000 by omega) (show y.natAbs≤1000000000000000 by omega);omega
@[simp] theorem ev_zero (fr:List AV):ev cx fr (.global 0)= .rp [.sc (.int .i64 0),.sc (.int .i64 1)] 0:=rfl
@[simp] theorem opN_wA {C:Cx}{cal:FuncId→List AV→Hp→Option (AV × Hp)}{ops:Array Oper}(d:Tmp)(rest:List Oper)(fr:List AV)(g:Bool)(m:Int)(h:Hp):opN C cal ops (some d) rest fr (some (wA g m,h))=runOps C cal ops rest (fr.set d (wA g m),h):=rfl
theorem frac_Cmp (n:Nat)(b:Bool)(N1 D1 N2 D2:Int)(h:Hp):callN cx (n+4) b 147 [frA N1 D1,frA N2 D2] h=some (.sc (.int .i64 (cmpF N1 D1 N2 D2)),h):=by
 refine pure_calm (r:= .sc (.int .i64 (cmpF N1 D1 N2 D2))) ⟨Tryz.f147.ntmps,(Tryz.f147.body).getD .skip,[.tmp 4]⟩ (by kernel_rfl) (by kernel_rfl) rfl (by kernel_rfl) (by simp[Tryz.f147]) rfl rfl ?_ b h;obtain⟨a1,a2,a3⟩:=nrm_ok N1 D1;obtain⟨b1,b2,b3⟩:=nrm_ok N2 D2;have hm:=cmp_math (nrmN N1 D1) (nrmD N1 D1) (nrmN N2 D2) (nrmD N2 D2) a3 b3;have l1:=mul_le30 a1 b2;have l2:=mul_le30 (inR_neg b1) a2;have c1:=fun h=>frac_product (n+1) false _ _ h a1 b2
 have c2:=fun h=>frac_product (n+1) false _ _ h (inR_neg b1) a2
 have c3:=fun h=>wide_plus (n+1) false (decide (nrmN N1 D1<0) !=decide (nrmD N2 D2<0)) (decide (-nrmN N2 D2<0) !=decide (nrmD N1 D1<0)) _ _ h (Int.natCast_nonneg ((nrmN N1 D1).natAbs*(nrmD N2 D2).natAbs)) (by omega) (Int.natCast_nonneg ((-nrmN N2 D2).natAbs*(nrmD N1 D1).natAbs)) (by omega)
 have c4:=fun h=>wide_sign (n+2) false (plG (decide (nrmN N1 D1<0) !=decide (nrmD N2 D2<0)) (decide (-nrmN N2 D2<0) !=decide (nrmD N1 D1<0)) ((nrmN N1 D1).natAbs*(nrmD N2 D2).natAbs:Nat) ((-nrmN N2 D2).natAbs*(nrmD N1 D1).natAbs:Nat)) (plM (decide (nrmN N1 D1<0) !=decide (nrmD N2 D2<0)) (decide (-nrmN N2 D2<0) !=decide (nrmD N1 D1<0)) ((nrmN N1 D1).natAbs*(nrmD N2 D2).natAbs:Nat) ((-nrmN N2 D2).natAbs*(nrmD N1 D1).natAbs:Nat)) h
  (plM_bd (Int.natCast_nonneg _) (Int.natCast_nonneg _) l1 l2).1 (by have:=(plM_bd (g:=decide (nrmN N1 D1<0) !=decide (nrmD N2 D2<0)) (g':=decide (-nrmN N2 D2<0) !=decide (nrmD N1 D1<0)) (Int.natCast_nonneg _) (Int.natCast_nonneg _) l1 l2).2;omega)
 rw[hm]at c4;generalize(decide (nrmN N1 D1<0) !=decide (nrmD N2 D2<0))=g1 at c1 c3 c4;generalize(decide (-nrmN N2 D2<0) !=decide (nrmD N1 D1<0))=g2 at c2 c3 c4;generalize(((nrmN N1 D1).natAbs*(nrmD N2 D2).natAbs:Nat):Int)=m1 at c1 c3 c4;generalize(((-nrmN N2 D2).natAbs*(nrmD N1 D1).natAbs:Nat):Int)=m2 at c2 c3 c4;generalize plG g1 g2 m1 m2=g3 at c3 c4;generalize plM g1 g2 m1 m2=m3 at c3 c4;have hf:fitI .i64 (-nrmN N2 D2)= -nrmN N2 D2:=by have:=(inR_iff _).1 b1;exact fit_i64 (by omega) (by omega)
 cases hA:fv N1 D1<;>cases hB:fv N2 D2<;>simp only[nrmN,nrmD,hA,hB,cond_true,cond_false]at c1 c2 c3 c4 hf
 case' false.false=>
  have q:wA g2 m2=wA g1 m1:=by
   have q:=c2 [];rw[Int.neg_zero,c1 []]at q;simp only[Zc,Zg,and_true]at q;exact q.symm
  rw[q]at c3
 all_goals
  have hA':=fun n b h=>frac_Valid n b N1 D1 h
  have hB':=fun n b h=>frac_Valid n b N2 D2 h
  simp only[frA]at hA' hB'
  try simp only[Int.neg_zero]at c2 hf
  simp[Tryz.f147,frA,hA',hB',hA,hB,c1,c2,c3,c4,hf,cmpF,nrmN,nrmD]
end
def vl :List Int→Int
 | []=>0
 |d::ds=>d+1000*vl ds
def digs :Nat→Int→List Int
 |0,_=> []
 |n+1,m=>m % 1000::digs n (m/1000)
def dok (ds:List Int):Prop:=∀d∈ds,0≤d∧d<1000
theorem digs_length :∀(n:Nat) (m:Int),(digs n m).length=n
 |0,_=>rfl
 |n+1,m=>by simp[digs,digs_length n]
theorem vl_bd :∀{ds:List Int},dok ds→0≤vl ds∧vl ds<1000^ds.length
 | [],_=>by simp[vl]
 |
  d::ds,h=>by
  have h1:=h d (by simp);have h2:=vl_bd (ds:=ds) fun x hx=>h x (by simp[hx])
  simp only[vl,List.length_cons,Int.pow_succ];omega
theorem digs_vl :∀{ds:List Int},dok ds→digs ds.length (vl ds)=ds
 | [],_=>rfl
 |
  d::ds,h=>by
  have h1:=h d (by simp);have h2:=digs_vl (ds:=ds) fun x hx=>h x (by simp[hx])
  simp only[vl,List.length_cons,digs];rw[show(d+1000*vl ds) % 1000=d by omega,show(d+1000*vl ds)/1000=vl ds by omega,h2]
theorem digs_dok :∀(n:Nat) (m:Int),dok (digs n m)
 |0,_,d,h=>by simp[digs]at h
 |
  n+1,m,d,h=>by
  simp only[digs,List.mem_cons]at h;rcases h with rfl|h
  ·omega
  ·exact digs_dok n _ d h
theorem vl_digs :∀(n:Nat) (m:Int),0≤m→m<1000^n→vl (digs n m)=m
 |0,m,h0,h1=>by simp at h1;simp[digs,vl];omega
 |
  n+1,m,h0,h1=>by
  rw[Int.pow_succ]at h1;simp only[digs,vl];rw[vl_digs n (m/1000) (by omega) (by omega)];omega
theorem vl_set :∀(ds:List Int) (k:Nat) (o x:Int),ds[k]?=some o→vl (ds.set k x)=vl ds+(x-o)*1000^k
 | [],k,o,x,h=>by simp at h
 |
  d::ds,0,o,x,h=>by
  simp at h;subst h;simp[vl];omega
 |
  d::ds,k+1,o,x,h=>by
  simp at h;simp only[List.set_cons_succ,vl,vl_set ds k o x h,Int.pow_succ]
  grind
theorem dok_set {ds:List Int}(h:dok ds)(k:Nat){x:Int}(hx:0≤x∧x<1000):dok (ds.set k x):=by
 intro d hd;rcases List.mem_or_eq_of_mem_set hd with h1|h1
 ·exact h d h1
 ·rw[h1];exact hx
theorem vl_rep :∀n,vl (List.replicate n 0)=0
 |0=>rfl
 |n+1=>by simp[List.replicate_succ,vl,vl_rep n]
theorem mul_step (p o cy d c s:Int)(hs:s=cy+o+d*(c % 1000)):(s % 1000-o)*p+(s/1000+d*(c/1000))*(p*1000)=(cy+d*c)*p:=by
 have h1:s=1000*(s/1000)+s % 1000:=by omega
 have h2:c=1000*(c/1000)+c % 1000:=by omega
 have h3:d*c=d*(1000*(c/1000))+d*(c % 1000):=by rw[←Int.mul_add,←h2]
 generalize s/1000=u at *;generalize s % 1000=v at *;generalize c/1000=e at *;generalize c % 1000=f at *;rw[h3]
 grind
end Go.Proofs.YtiefabpageilbaaGreatDoor
