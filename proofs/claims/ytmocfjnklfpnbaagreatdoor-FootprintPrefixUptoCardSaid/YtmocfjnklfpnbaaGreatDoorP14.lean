/- Facts on this seat's types. -/
import Derived.Test.YtmocfjnklfpnbaaGreatDoorP13
set_option linter.all false
set_option maxRecDepth 100000
namespace Go.Proofs.YtmocfjnklfpnbaaGreatDoor
open Go Go.Ae
@[simp] theorem T_int :cx.T 3=some {size:=1,agg:=false,zero:=[.int .i64 (0)],kd:= .prim}:=by kernel_rfl
@[simp] theorem T_bool :cx.T 4=some {size:=1,agg:=false,zero:=[.bool false],kd:= .prim}:=by kernel_rfl
@[simp] theorem T_string :cx.T 9=some {size:=1,agg:=false,zero:=[.string ⟨#[]⟩],kd:= .prim}:=by kernel_rfl
@[simp] theorem T___int :cx.T 153=some {size:=1,agg:=false,zero:=[.slice none 0 0],kd:= .slice 1 false 8 [.int .i64 (0)]}:=by kernel_rfl
@[simp] theorem T_api_Value :cx.T 35=some {size:=5,agg:=true,zero:=[.int .i64 (0),.int .i64 (0),.int .i64 (0),.string ⟨#[]⟩,.slice none 0 0],kd:= .struct [(0,1,false),(1,1,false),(2,1,false),(3,1,false),(4,1,false)]}:=by kernel_rfl
@[simp] theorem T___api_Value :cx.T 33=some {size:=1,agg:=false,zero:=[.slice none 0 0],kd:= .slice 5 true 64 [.int .i64 (0),.int .i64 (0),.int .i64 (0),.string ⟨#[]⟩,.slice none 0 0]}:=by kernel_rfl
@[simp] theorem T_api_Pred :cx.T 37=some {size:=8,agg:=true,zero:=[.int .i64 (0),.string ⟨#[]⟩,.string ⟨#[]⟩,.int .i64 (0),.int .i64 (0),.int .i64 (0),.string ⟨#[]⟩,.slice none 0 0],kd:= .struct [(0,1,false),(1,1,false),(2,1,false),(3,5,true)]}:=by kernel_rfl
@[simp] theorem T___api_Pred :cx.T 27=some {size:=1,agg:=false,zero:=[.slice none 0 0],kd:= .slice 8 true 104 [.int .i64 (0),.string ⟨#[]⟩,.string ⟨#[]⟩,.int .i64 (0),.int .i64 (0),.int .i64 (0),.string ⟨#[]⟩,.slice none 0 0]}:=by kernel_rfl
@[simp] theorem T_api_Frac :cx.T 189=some {size:=2,agg:=true,zero:=[.int .i64 (0),.int .i64 (0)],kd:= .struct [(0,1,false),(1,1,false)]}:=by kernel_rfl
@[simp] theorem T_frac_wide :cx.T 259=some {size:=3,agg:=true,zero:=[.bool false,.int .u64 (0),.int .u64 (0)],kd:= .struct [(0,1,false),(1,1,false),(2,1,false)]}:=by kernel_rfl
@[simp] theorem T___string :cx.T 47=some {size:=1,agg:=false,zero:=[.slice none 0 0],kd:= .slice 1 false 16 [.string ⟨#[]⟩]}:=by kernel_rfl
@[simp] theorem T_int32 :cx.T 21=some {size:=1,agg:=false,zero:=[.int .i32 (0)],kd:= .prim}:=by kernel_rfl
@[simp] theorem T_uint64 :cx.T 177=some {size:=1,agg:=false,zero:=[.int .u64 (0)],kd:= .prim}:=by kernel_rfl
@[simp] theorem T_uint8 :cx.T 5=some {size:=1,agg:=false,zero:=[.int .u8 (0)],kd:= .prim}:=by kernel_rfl
@[simp] theorem U_int :cx.P.underlying 3=some (.int .i64):=by kernel_rfl
@[simp] theorem U_uint64 :cx.P.underlying 177=some (.int .u64):=by kernel_rfl
@[simp] theorem U_bool :cx.P.underlying 4=some .bool:=by kernel_rfl
@[simp] theorem S_string :isStr cx 9=true:=by kernel_rfl
@[simp] theorem L_ints :isSlT cx 153=true:=by kernel_rfl
@[simp] theorem L_values :isSlT cx 33=true:=by kernel_rfl
theorem fit_i64 {n:Int}(h1: -9223372036854775808≤n)(h2:n≤9223372036854775807):fitI .i64 n=n:=by
 show(if-9223372036854775808≤n∧n≤9223372036854775807 then n else IntKind.i64.wrap n)=n;rw[if_pos ⟨h1,h2⟩]
theorem fit_u64 {n:Int}(h1:0≤n)(h2:n≤18446744073709551615):fitI .u64 n=n:=by
 show(if 0≤n∧n≤18446744073709551615 then n else IntKind.u64.wrap n)=n;rw[if_pos ⟨h1,h2⟩]
@[simp] theorem cx_fuel :cx.fuel=1125899906842624:=rfl
section
attribute [local simp] aop aopW coldF extF putA ofConst flat scalarOp fastOp binFast intOp strOp guardX Ae.part rowOf szOk natOf lenA cls fillA splice newsOf isNilC
theorem bl_irrefl :∀l:List UInt8,Op.bytesLess l l=false
 | []=>rfl
 |a::l=>by simp[Op.bytesLess,bl_irrefl l]
theorem bl_total :∀l m:List UInt8,Op.bytesLess l m=false→l≠m→Op.bytesLess m l=true
 | [],[],_,h=>absurd rfl h
 | [],b::m,h,_=>by simp[Op.bytesLess]at h
 |a::l,[],_,_=>by simp[Op.bytesLess]
 |
  a::l,b::m,h,hn=>by
  simp only[Op.bytesLess,Bool.or_eq_false_iff,decide_eq_false_iff_not,Bool.and_eq_false_iff]at h;simp only[Op.bytesLess,Bool.or_eq_true,Zz,Zh];by_cases e:a=b
  ·subst e;refine .inr ⟨by simp,bl_total l m ?_ (fun q=>hn (by rw[q]))⟩;rcases h.2 with h2|h2
   ·simp at h2
   ·exact h2
  ·left;have h1:=h.1;rw[UInt8.lt_iff_toNat_lt]at h1⊢;have:a.toNat≠b.toNat:=fun q=>e (UInt8.toNat_inj.1 q)
   omega
theorem bl_trans :∀l m k:List UInt8,Op.bytesLess l m=true→Op.bytesLess m k=true→Op.bytesLess l k=true
 |_,[],_,h,_=>by simp[Op.bytesLess]at h
 |_,_::_,[],_,h=>by simp[Op.bytesLess]at h
 | [],_::_,_::_,_,_=>by simp[Op.bytesLess]
 |
  a::l,b::m,c::k,h1,h2=>by
  simp only[Op.bytesLess,Bool.or_eq_true,Zz,Zh,beq_iff_eq]at h1 h2⊢;rw[UInt8.lt_iff_toNat_lt]at *;rcases h1 with h1|⟨rfl,h1⟩<;>rcases h2 with h2|⟨rfl,h2⟩
  ·left;omega
  ·left;exact h1
  ·left;exact h2
  ·exact .inr ⟨rfl,bl_trans l m k h1 h2⟩
theorem eqS_iff (x y:ByteArray):eqS x y=true↔x=y:=by
 unfold eqS;rw[beq_iff_eq];exact⟨fun h=>by
  obtain⟨⟨a⟩⟩:=x;obtain⟨⟨b⟩⟩:=y;simp at h;rw[h],fun h=>by rw[h]⟩
theorem ltS_irrefl (x:ByteArray):ltS x x=false:=bl_irrefl _
theorem ltS_total {x y:ByteArray}(h:ltS x y=false)(hn:eqS x y=false):ltS y x=true:=by
 refine bl_total _ _ h fun q=>?_
 have:eqS x y=true:=by unfold eqS;rw[beq_iff_eq];exact q
 rw[hn]at this;cases this
theorem ltS_trans {x y z:ByteArray}(h:ltS x y=true)(k:ltS y z=true):ltS x z=true:=bl_trans _ _ _ h k
theorem ltS_asymm {x y:ByteArray}(h:ltS x y=true):ltS y x=false:=by
 cases q:ltS y x with
 |false=>rfl
 |true=>have:=ltS_trans h q;rw[ltS_irrefl]at this;cases this
theorem isNaN_int (n:Nat)(b:Bool)(x:Int)(h:Hp):callN cx (n+1) b 71 [.sc (.int .i64 x)] h=some (.sc (.bool false),h):=by
 refine pure_at (r:= .sc (.bool false)) (h':=[]) ⟨Tryz.f71.ntmps,(Tryz.f71.body).getD .skip,[.tmp 2]⟩ (by kernel_rfl) (by kernel_rfl) rfl (by kernel_rfl) (by simp[Tryz.f71]) rfl ?_ rfl b h;simp[Tryz.f71]
theorem isNaN_str (n:Nat)(b:Bool)(x:ByteArray)(h:Hp):callN cx (n+1) b 72 [.sc (.string x)] h=some (.sc (.bool false),h):=by
 refine pure_at (r:= .sc (.bool false)) (h':=[]) ⟨Tryz.f72.ntmps,(Tryz.f72.body).getD .skip,[.tmp 2]⟩ (by kernel_rfl) (by kernel_rfl) rfl (by kernel_rfl) (by simp[Tryz.f72]) rfl ?_ rfl b h;simp[Tryz.f72,eqS]
def cmpI (x y:Int):Int:=if x<y then-1 else if y<x then 1 else 0
theorem Compare_int (n:Nat)(b:Bool)(x y:Int)(h:Hp):callN cx (n+2) b 37 [.sc (.int .i64 x),.sc (.int .i64 y)] h=some (.sc (.int .i64 (cmpI x y)),h):=by
 refine pure_at (r:= .sc (.int .i64 (cmpI x y))) (h':=[]) ⟨Tryz.f37.ntmps,(Tryz.f37.body).getD .skip,[.tmp 4]⟩ (by kernel_rfl) (by kernel_rfl) rfl (by kernel_rfl) (by simp[Tryz.f37]) rfl ?_ rfl b h;simp[Tryz.f37,isNaN_int];rw[condX_ite];split<;>rename_i h1<;>simp at h1<;>simp[cmpI,h1];rw[condX_ite];split<;>rename_i h2<;>simp at h2<;>simp[cmpI,h1,h2];rw[if_neg (by omega),if_neg (by omega)]
def cmpS (x y:ByteArray):Int:=bif ltS x y then-1 else bif ltS y x then 1 else 0
theorem Compare_str (n:Nat)(b:Bool)(x y:ByteArray)(h:Hp):callN cx (n+2) b 38 [.sc (.string x),.sc (.string y)] h=some (.sc (.int .i64 (cmpS x y)),h):=by
 refine pure_at (r:= .sc (.int .i64 (cmpS x y))) (h':=[]) ⟨Tryz.f38.ntmps,(Tryz.f38.body).getD .skip,[.tmp 4]⟩ (by kernel_rfl) (by kernel_rfl) rfl (by kernel_rfl) (by simp[Tryz.f38]) rfl ?_ rfl b h;simp[Tryz.f38,isNaN_str];cases h1:ltS x y<;>simp[cmpS,h1];cases h2:eqS x y
 ·have h3:ltS y x=true:=ltS_total h1 h2;simp[h2,h3]
 ·have h3:ltS y x=false:=by rw[(eqS_iff x y).1 h2];exact ltS_irrefl y
  simp[h2,h3]
def orI :List Int→Int
 | []=>0
 |x::l=>if x=0 then orI l else x
theorem orI_drop {xs:List Int}{i:Nat}{x:Int}(h:xs[i]?=some x):orI (xs.drop i)=if x=0 then orI (xs.drop (i+1))else x:=by
 obtain⟨hi,rfl⟩:=Za.1 h;rw[Zm hi];rfl
theorem Or_int (n:Nat)(b:Bool)(xs:List Int)(z:Bool)(h:Hp)(hl:xs.length≤1000000):callN cx (n+1) b 36 [.ls 1 (xs.map fun x=> [.sc (.int .i64 x)]) z] h=some (.sc (.int .i64 (orI xs)),h):=by
 refine pure_at (r:= .sc (.int .i64 (orI xs))) (h':=[]) ⟨Tryz.f36.ntmps,(Tryz.f36.body).getD .skip,[.tmp 2]⟩ (by kernel_rfl) (by kernel_rfl) rfl (by kernel_rfl) (by simp[Tryz.f36]) rfl ?_ rfl b h;simp[Tryz.f36,lenA];refine loop_up (G:=fun x=>finX _ (thenX _ _ (blockX _ x) _)=_)
  (fun i s=>orI xs=orI (xs.drop i)∧s.1.length=18∧gt s.1 3= .sc (.int .i64 0)∧gt s.1 6= .ls 1 (xs.map fun x=> [.sc (.int .i64 x)]) z∧gt s.1 7= .sc (.int .i64 xs.length)∧gt s.1 8= .sc (.int .i64 i)∧s.2=[])
  (fun o s=>s.2=[]∧s.1.length=18∧((o= .exit 0∧orI xs=0∧gt s.1 3= .sc (.int .i64 0))∨(o= .ret∧gt s.1 2= .sc (.int .i64 (orI xs))))) xs.length (by simp;omega) (by simp) ?_ ?_
 ·rintro i fr h hle ⟨ho,hlen,h3,h6,h7,h8,rfl⟩;simp only at hlen h3 h6 h7 h8;by_cases hi:i<xs.length
  ·have hx:xs[i]?=some xs[i]:=Zb hi;have hd:=orI_drop hx;have hf:fitI .i64 ((i:Int)+1)=((i+1:Nat):Int):=fit_i64 (by omega) (by omega);by_cases h0:xs[i]=0
   ·rw[if_pos h0]at hd;simp[hlen,h3,h6,h7,h8,hi,hx,h0,hf,ho,hd]
   ·rw[if_neg h0]at hd;simp[hlen,h3,h6,h7,h8,hi,hx,h0,hf,ho,hd]
  ·have hz:orI xs=0:=by rw[ho,Zt (by omega)];rfl
   simp[hlen,h3,h6,h7,h8,hi,hz]
 ·rintro o fr h hn ⟨rfl,hlen,⟨rfl,h0,h3⟩|⟨rfl,h2⟩⟩
  ·simp only at hlen h3;simp[hlen,h3,h0]
  ·simp only at h2;simp[h2]
end
section
attribute [local simp] aop aopW coldF extF putA ofConst flat scalarOp fastOp binFast intOp strOp guardX Ae.part rowOf szOk natOf lenA cls fillA splice newsOf isNilC cellX
def inR (n:Int):Bool:=decide (-1000000000000000≤n) && decide (n≤1000000000000000)
theorem inR_iff (n:Int):inR n=true↔ -1000000000000000≤n∧n≤1000000000000000:=by simp[inR]
theorem num_In (n:Nat)(b:Bool)(x:Int)(h:Hp):callN cx (n+1) b 195 [.sc (.int .i64 x)] h=some (.sc (.bool (inR x)),h):=by
 refine pure_at (r:= .sc (.bool (inR x))) (h':=[]) ⟨Tryz.f195.ntmps,(Tryz.f195.body).getD .skip,[.tmp 2]⟩ (by kernel_rfl) (by kernel_rfl) rfl (by kernel_rfl) (by simp[Tryz.f195]) rfl ?_ rfl b h;by_cases h1: -1000000000000000≤x<;>simp[Tryz.f195,h1,inR]
theorem r01_In (n:Nat)(b:Bool)(x:Int)(h:Hp):callN cx (n+1) b 238 [.sc (.int .i64 x)] h=some (.sc (.bool (inR x)),h):=by
 refine pure_at (r:= .sc (.bool (inR x))) (h':=[]) ⟨Tryz.f238.ntmps,(Tryz.f238.body).getD .skip,[.tmp 2]⟩ (by kernel_rfl) (by kernel_rfl) rfl (by kernel_rfl) (by simp[Tryz.f238]) rfl ?_ rfl b h;by_cases h1: -1000000000000000≤x<;>simp[Tryz.f238,h1,inR]
theorem num_abs (n:Nat)(b:Bool)(x:Int)(h:Hp)(hx:inR x=true):callN cx (n+1) b 295 [.sc (.int .i64 x)] h=some (.sc (.int .i64 x.natAbs),h):=by
 rw[inR_iff]at hx;refine pure_at (r:= .sc (.int .i64 x.natAbs)) (h':=[]) ⟨Tryz.f295.ntmps,(Tryz.f295.body).getD .skip,[.tmp 2]⟩ (by kernel_rfl) (by kernel_rfl) rfl (by kernel_rfl) (by simp[Tryz.f295]) rfl ?_ rfl b h;have hf:fitI .i64 (-x)= -x:=fit_i64 (by omega) (by omega);have hm:(if x< -x then-x else x)=(x.natAbs:Int):=by split<;>omega
 simp[Tryz.f295,hf,hm]
theorem r03_size (n:Nat)(b:Bool)(x:Int)(h:Hp)(hx: -9223372036854775807≤x∧x≤9223372036854775807):callN cx (n+1) b 172 [.sc (.int .i64 x)] h=some (.sc (.int .i64 x.natAbs),h):=by
 refine pure_at (r:= .sc (.int .i64 x.natAbs)) (h':=[]) ⟨Tryz.f172.ntmps,(Tryz.f172.body).getD .skip,[.tmp 2]⟩ (by kernel_rfl) (by kernel_rfl) rfl (by kernel_rfl) (by simp[Tryz.f172]) rfl ?_ rfl b h;have hf:fitI .i64 (-x)= -x:=fit_i64 (by omega) (by omega);by_cases h1:x<0
 ·have hm: -x=(x.natAbs:Int):=by omega
  rw[hm]at hf;simp[Tryz.f172,hf,h1,hm]
 ·have hm:(x.natAbs:Int)=x:=by omega
  simp[Tryz.f172,h1,hm]
def gcdI (x y:Int):Int:=(Nat.gcd x.natAbs y.natAbs:Nat)
theorem num_Gcd (n:Nat)(b:Bool)(x y:Int)(h:Hp)(hx:inR x=true)(hy:inR y=true):callN cx (n+2) b 263 [.sc (.int .i64 x),.sc (.int .i64 y)] h=some (.sc (.int .i64 (gcdI x y)),h):=by
 refine pure_at (r:= .sc (.int .i64 (gcdI x y))) (h':=[]) ⟨Tryz.f263.ntmps,(Tryz.f263.body).getD .skip,[.tmp 4]⟩ (by kernel_rfl) (by kernel_rfl) rfl (by kernel_rfl) (by simp[Tryz.f263]) rfl ?_ rfl b h;simp[Tryz.f263,num_In,num_abs,hx,hy];rw[inR_iff]at hx hy;refine loop_down (G:=fun x=>finX _ (thenX _ _ (blockX _ x) _)=_)
  (fun k s=>∃p q:Nat,k=q∧Nat.gcd p q=Nat.gcd x.natAbs y.natAbs∧p≤1000000000000000∧q≤1000000000000000∧s.1.length=24∧gt s.1 0= .sc (.int .i64 p)∧gt s.1 1= .sc (.int .i64 q)∧s.2=[])
  (fun o s=>s.2=[]∧s.1.length=24∧o= .exit 0∧gt s.1 0= .sc (.int .i64 (Nat.gcd x.natAbs y.natAbs))) y.natAbs (by simp;omega) ⟨x.natAbs,y.natAbs,rfl,rfl,by omega,by omega,by simp⟩ ?_ ?_
 ·rintro k fr h ⟨p,q,rfl,hg,hp,hq,hlen,h0,h1,rfl⟩;simp only at hlen h0 h1;by_cases hz:k=0
  ·subst hz;rw[Nat.gcd_zero_right]at hg;simp[hlen,h0,h1,hg]
  ·have hb:¬(k:Int)=0:=by omega
   have hm:((p:Int).tmod (k:Int))=((p % k:Nat):Int):=rfl;have hk:True:=trivial;have h2:Nat.gcd k (p % k)=Nat.gcd x.natAbs y.natAbs:=by rw[←hg,Nat.gcd_comm p k,Nat.gcd_rec k p,Nat.gcd_comm]
   have h3:p % k<k:=Nat.mod_lt _ (by omega);simp[hlen,h0,h1,hz,hb,hm,hk];exact⟨p % k,h3,k,h2,hq,by omega,rfl,rfl⟩
 ·rintro o fr h hn ⟨rfl,hlen,rfl,h0⟩;simp only at hlen h0;simp[hlen,h0,gcdI]
theorem r03_gcd (n:Nat)(b:Bool)(x y:Nat)(h:Hp)(hx:x≤1000000000000000)(hy:y≤1000000000000000):callN cx (n+1) b 242 [.sc (.int .i64 x),.sc (.int .i64 y)] h=some (.sc (.int .i64 (Nat.gcd x y)),h):=by
 refine pure_at (r:= .sc (.int .i64 (Nat.gcd x y))) (h':=[]) ⟨Tryz.f242.ntmps,(Tryz.f242.body).getD .skip,[.tmp 4]⟩ (by kernel_rfl) (by kernel_rfl) rfl (by kernel_rfl) (by simp[Tryz.f242]) rfl ?_ rfl b h;simp[Tryz.f242];refine loop_down (G:=fun x=>finX _ (thenX _ _ (blockX _ x) _)=_)
  (fun k s=>∃p q:Nat,k=q∧Nat.gcd p q=Nat.gcd x y∧p≤1000000000000000∧q≤1000000000000000∧s.1.length=12∧gt s.1 0= .sc (.int .i64 p)∧gt s.1 1= .sc (.int .i64 q)∧s.2=[])
  (fun o s=>s.2=[]∧s.1.length=12∧o= .exit 0∧gt s.1 0= .sc (.int .i64 (Nat.gcd x y))) y (by simp;omega) ⟨x,y,rfl,rfl,by omega,by omega,by simp⟩ ?_ ?_
 ·rintro k fr h ⟨p,q,rfl,hg,hp,hq,hlen,h0,h1,rfl⟩;simp only at hlen h0 h1;by_cases hz:k=0
  ·subst hz;rw[Nat.gcd_zero_right]at hg;simp[hlen,h0,h1,hg]
  ·have hb:¬(k:Int)=0:=by omega
   have hm:((p:Int).tmod (k:Int))=((p % k:Nat):Int):=rfl;have hk:0<k:=by omega
   have h2:Nat.gcd k (p % k)=Nat.gcd x y:=by rw[←hg,Nat.gcd_comm p k,Nat.gcd_rec k p,Nat.gcd_comm]
   have h3:p % k<k:=Nat.mod_lt _ (by omega);simp[hlen,h0,h1,hz,hb,hm,hk];exact⟨p % k,h3,k,h2,hq,by omega,rfl,rfl⟩
 ·rintro o fr h hn ⟨rfl,hlen,rfl,h0⟩;simp only at hlen h0;simp[hlen,h0]
def frA (N D:Int):AV:= .ag [.sc (.int .i64 N),.sc (.int .i64 D)]
def fv (N D:Int):Bool:=decide (1≤D) && decide (D≤1000000000000000) && inR N && decide (gcdI N D=1)
theorem fv_inR {N D:Int}(h:fv N D=true):inR N=true∧inR D=true∧1≤D:=by
 simp only[fv,Zh,Zz]at h;exact⟨h.1.2,by rw[inR_iff];omega,h.1.1.1⟩
theorem frac_Valid (n:Nat)(b:Bool)(N D:Int)(h:Hp):callN cx (n+3) b 196 [frA N D] h=some (.sc (.bool (fv N D)),h):=by
 refine pure_calm (r:= .sc (.bool (fv N D))) ⟨Tryz.f196.ntmps,(Tryz.f196.body).getD .skip,[.tmp 2]⟩ (by kernel_rfl) (by kernel_rfl) rfl (by kernel_rfl) (by simp[Tryz.f196]) rfl rfl ?_ b h;by_cases h1:1≤D
 ·by_cases h2:D≤1000000000000000
  ·cases h3:inR N with
   |false=>simp[Tryz.f196,frA,h1,h2,num_In,h3,fv]
   |
    true=>
    have hD:inR D=true:=by rw[inR_iff];omega
    simp[Tryz.f196,frA,h1,h2,num_In,h3,fv,num_Gcd _ _ _ _ _ h3 hD]
  ·simp[Tryz.f196,frA,h1,h2,fv]
 ·simp[Tryz.f196,frA,h1,fv]
theorem r03_Valid (n:Nat)(b:Bool)(N D:Int)(h:Hp):callN cx (n+2) b 168 [frA N D] h=some (.sc (.bool (fv N D)),h):=by
 refine pure_calm (r:= .sc (.bool (fv N D))) ⟨Tryz.f168.ntmps,(Tryz.f168.body).getD .skip,[.tmp 2]⟩ (by kernel_rfl) (by kernel_rfl) rfl (by kernel_rfl) (by simp[Tryz.f168]) rfl rfl ?_ b h;by_cases h1:1≤D
 ·by_cases h2:D≤1000000000000000
  ·by_cases h3: -1000000000000000≤N
   ·by_cases h4:N≤1000000000000000
    ·obtain⟨d,rfl⟩:∃d:Nat,D=d:=⟨D.toNat,by omega⟩;have h5:d≤1000000000000000:=by omega
     simp[Tryz.f168,frA,h1,h2,h3,h4,inR,fv,gcdI,r03_size _ _ N _ ⟨by omega,by omega⟩,r03_gcd _ _ N.natAbs d _ (by omega) h5];rfl
    ·simp[Tryz.f168,frA,h1,h2,h3,h4,inR,fv]
   ·simp[Tryz.f168,frA,h1,h2,h3,inR,fv]
  ·simp[Tryz.f168,frA,h1,h2,fv]
 ·simp[Tryz.f168,frA,h1,fv]
theorem and32 (x:Nat):x &&& 4294967295=x % 4294967296:=Nat.and_two_pow_sub_one_eq_mod x 32
theorem mul32 {x y:Int}(hx:0≤x)(hx':x≤4294967295)(hy:0≤y)(hy':y≤4294967295):0≤x*y∧x*y≤18446744065119617025:=
 ⟨Int.mul_nonneg hx hy,by have:=Int.mul_le_mul hx' hy' hy (by decide:(0:Int)≤4294967295);omega⟩
theorem Mul64 (n:Nat)(b:Bool)(x y:Int)(h:Hp)(hx:0≤x)(hx':x≤18446744073709551615)(hy:0≤y)(hy':y≤18446744073709551615):
 callN cx (n+1) b 265 [.sc (.int .u64 x),.sc (.int .u64 y)] h=some (.tp [.sc (.int .u64 (x*y/18446744073709551616)),.sc (.int .u64 (x*y % 18446744073709551616))],h):=by
 obtain⟨x0,hx0⟩:∃x0,x0=x % 4294967296:=⟨_,rfl⟩;obtain⟨x1,hx1⟩:∃x1,x1=x/4294967296:=⟨_,rfl⟩;obtain⟨y0,hy0⟩:∃y0,y0=y % 4294967296:=⟨_,rfl⟩;obtain⟨y1,hy1⟩:∃y1,y1=y/4294967296:=⟨_,rfl⟩;have am:∀z:Int,0≤z→((z.toNat &&& 4294967295:Nat):Int)=z % 4294967296:=fun z hz=>by rw[and32];omega
 have b00:=mul32 (x:=x0) (y:=y0) (by omega) (by omega) (by omega) (by omega);have b10:=mul32 (x:=x1) (y:=y0) (by omega) (by omega) (by omega) (by omega);have b01:=mul32 (x:=x0) (y:=y1) (by omega) (by omega) (by omega) (by omega);have b11:=mul32 (x:=x1) (y:=y1) (by omega) (by omega) (by omega) (by omega);have exy:x*y=x1*y1*18446744073709551616+(x1*y0+x0*y1)*4294967296+x0*y0:=by
  have ex:x=x1*4294967296+x0:=by omega
  have ey:y=y1*4294967296+y0:=by omega
  rw[ex,ey,Int.add_mul,Int.mul_add,Int.mul_add,Int.add_mul];have e1:x1*4294967296*(y1*4294967296)=x1*y1*18446744073709551616:=by rw[Int.mul_assoc,←Int.mul_assoc 4294967296,Int.mul_comm 4294967296 y1,Int.mul_assoc y1,←Int.mul_assoc x1];rfl
  have e2:x1*4294967296*y0=x1*y0*4294967296:=by rw[Int.mul_assoc,Int.mul_comm 4294967296 y0,←Int.mul_assoc]
  have e3:x0*(y1*4294967296)=x0*y1*4294967296:=by rw[Int.mul_assoc]
  omega
 obtain⟨P,hP⟩:∃P,P=x0*y0:=⟨_,rfl⟩;obtain⟨Q,hQ⟩:∃Q,Q=x1*y0:=⟨_,rfl⟩;obtain⟨R,hR⟩:∃R,R=x0*y1:=⟨_,rfl⟩;obtain⟨S,hS⟩:∃S,S=x1*y1:=⟨_,rfl⟩;rw[←hP]at b00 exy;rw[←hQ]at b10 exy;rw[←hR]at b01 exy;rw[←hS]at b11 exy;have hhi:S+(Q+P/4294967296)/4294967296+((Q+P/4294967296) % 4294967296+R)/4294967296=x*y/18446744073709551616:=by omega
 have hlo:fitI .u64 (x*y)=x*y % 18446744073709551616:=by
  rw[fitI_wrap];simp[IntKind.wrap,IntKind.signed,IntKind.bits]
 have f1:fitI .u64 P=P:=fit_u64 (by omega) (by omega);have f2:fitI .u64 Q=Q:=fit_u64 (by omega) (by omega);have f3:fitI .u64 (Q+P/4294967296)=Q+P/4294967296:=fit_u64 (by omega) (by omega);have f4:fitI .u64 R=R:=fit_u64 (by omega) (by omega);have f5:fitI .u64 ((Q+P/4294967296) % 4294967296+R)=(Q+P/4294967296) % 4294967296+R:=fit_u64 (by omega) (by omega);have f6:fitI .u64 S=S:=fit_u64 (by omega) (by omega);have f7:fitI .u64 (S+(Q+P/4294967296)/4294967296)=S+(Q+P/4294967296)/4294967296:=fit_u64 (by omega) (by omega);have f8:fitI .u64 (S+(Q+P/4294967296)/4294967296+((Q+P/4294967296) % 4294967296+R)/4294967296)=S+(Q+P/4294967296)/4294967296+((Q+P/4294967296) % 4294967296+R)/4294967296:=fit_u64 (by omega) (by omega);have a1:=am x hx;have a2:=am y hy;have a3:=am (Q+P/4294967296) (by omega);have p3:0≤Q+P/4294967296:=by omega
 have q3:Q+P/4294967296≤18446744073709551615:=by omega
 rw[←hx0]at a1;rw[←hy0]at a2;have r:=hhi.symm;refine pure_at (r:= .tp [.sc (.int .u64 (x*y/18446744073709551616)),.sc (.int .u64 (x*y % 18446744073709551616))]) (h':=[]) ⟨Tryz.f265.ntmps,(Tryz.f265.body).getD .skip,[.tmp 4,.tmp 5]⟩ (by kernel_rfl) (by kernel_rfl) rfl (by kernel_rfl) (by simp[Tryz.f265]) rfl ?_ rfl b h;simp[Tryz.f265,hx,hx',hy,hy',a1,a2,←hx1,←hy1,←hP,←hQ,←hR,←hS,f1,f2,f3,p3,q3,a3,f4,f5,f6,f7,f8,hlo,r,IntKind.bits]
theorem frac_size (n:Nat)(b:Bool)(x:Int)(h:Hp)(hx:inR x=true):callN cx (n+1) b 266 [.sc (.int .i64 x)] h=some (.sc (.int .u64 x.natAbs),h):=by
 rw[inR_iff]at hx;refine pure_calm (r:= .sc (.int .u64 x.natAbs)) ⟨Tryz.f266.ntmps,(Tryz.f266.body).getD .skip,[.tmp 2]⟩ (by kernel_rfl) (by kernel_rfl) rfl (by kernel_rfl) (by simp[Tryz.f266]) rfl rfl ?_ b h;by_cases h1:x<0
 ·have f1:fitI .u64 x=x+18446744073709551616:=by
   rw[fitI_wrap];simp only[IntKind.wrap,IntKind.signed,IntKind.bits,Bool.false_and,Yl,if_false];omega
  have f2:fitI .u64 (-(x+18446744073709551616))=(x.natAbs:Int):=by
   rw[fitI_wrap];simp only[IntKind.wrap,IntKind.signed,IntKind.bits,Bool.false_and,Yl,if_false];omega
  simp[Tryz.f266,h1,f1,f2]
 ·have f1:fitI .u64 x=x:=fit_u64 (by omega) (by omega);have f2:x=(x.natAbs:Int):=by omega
  simp[Tryz.f266,h1,f1];exact f2
def wA (g:Bool)(m:Int):AV:= .ag [.sc (.bool g),.sc (.int .u64 (m/18446744073709551616)),.sc (.int .u64 (m % 18446744073709551616))]
theorem frac_product (n:Nat)(b:Bool)(x y:Int)(h:Hp)(hx:inR x=true)(hy:inR y=true):
 callN cx (n+2) b 200 [.sc (.int .i64 x),.sc (.int .i64 y)] h=some (wA (decide (x<0) !=decide (y<0)) (x.natAbs*y.natAbs:Nat),h):=by
 have hx':=hx;have hy':=hy;rw[inR_iff]at hx hy;refine pure_calm (r:=wA (decide (x<0) !=decide (y<0)) (x.natAbs*y.natAbs:Nat)) ⟨Tryz.f200.ntmps,(Tryz.f200.body).getD .skip,[.cell 4 3 true]⟩ (by kernel_rfl) (by kernel_rfl) rfl (by kernel_rfl) (by simp[Tryz.f200]) rfl rfl ?_ b h;simp[Tryz.f200,frac_size _ _ _ _ hx',frac_size _ _ _ _ hy',Mul64 _ _ (x.natAbs:Int) (y.natAbs:Int) _ (by omega) (by omega) (by omega) (by omega),wA]
theorem wide_less (n:Nat)(b:Bool)(g g':Bool)(x y:Int)(h:Hp):callN cx (n+1) b 268 [wA g x,wA g' y] h=some (.sc (.bool (decide (x<y))),h):=by
 refine pure_calm (r:= .sc (.bool (decide (x<y)))) ⟨Tryz.f268.ntmps,(Tryz.f268.body).getD .skip,[.tmp 4]⟩ (by kernel_rfl) (by kernel_rfl) rfl (by kernel_rfl) (by simp[Tryz.f268]) rfl rfl ?_ b h;have e:x=x/18446744073709551616*18446744073709551616+x % 18446744073709551616:=by omega
 have e':y=y/18446744073709551616*18446744073709551616+y % 18446744073709551616:=by omega
 by_cases h1:x/18446744073709551616<y/18446744073709551616
 ·have h0:x<y:=by omega
  simp[Tryz.f268,wA,h1,h0]
 ·by_cases h2:x/18446744073709551616=y/18446744073709551616
  ·have h0:(x % 18446744073709551616<y % 18446744073709551616)=(x<y):=propext (by omega);simp[Tryz.f268,wA,h2,h0]
  ·have h0:¬x<y:=by omega
   simp[Tryz.f268,wA,h1,h2,h0]
def sgW (g:Bool)(m:Int):Int:=if m=0 then 0 else bif g then-1 else 1
theorem wide_sign (n:Nat)(b:Bool)(g:Bool)(x:Int)(h:Hp)(h0:0≤x)(h1:x<18446744073709551616*18446744073709551616):callN cx (n+1) b 202 [wA g x] h=some (.sc (.int .i64 (sgW g x)),h):=by
 refine pure_calm (r:= .sc (.int .i64 (sgW g x))) ⟨Tryz.f202.ntmps,(Tryz.f202.body).getD .skip,[.tmp 2]⟩ (by kernel_rfl) (by kernel_rfl) rfl (by kernel_rfl) (by simp[Tryz.f202]) rfl rfl ?_ b h;have a1:0≤x/18446744073709551616:=by omega
 have a2:x/18446744073709551616≤18446744073709551615:=by omega
 have a3:0≤x % 18446744073709551616:=by omega
 have a4:x % 18446744073709551616≤18446744073709551615:=by omega
 by_cases hz:x=0
 ·subst hz;simp[Tryz.f202,wA,sgW]
 ·by_cases h2:x/18446744073709551616≤0
  ·have h3:¬x % 18446744073709551616≤0:=by omega
   cases g<;>simp[Tryz.f202,wA,sgW,hz,a1,a2,a3,a4,h2,h3]
  ·cases g<;>simp[Tryz.f202,wA,sgW,hz,a1,a2,a3,a4,h2]
theorem slow_ext3 {f:FuncId}{fr:List AV}{A B D:Operand}{x y c:Value}(hA:ev cx fr A= .sc x)(hB:ev cx fr B= .sc y)(hD:ev cx fr D= .sc c){d:Option Tmp}{tys:Array TypeId}{t:TypeId}{p:String}{a:Array Edge}{g:Option (Nat × Bool)}{r:Value}{R:AV}
 (hr:runPure cx.P (callFunc f #[x,y,c])=some (.value r)) (hR:ofResult r=some R):slowOp cx (ev cx fr) {dst:=d,op:= .call {callee:= .value (.func f),args:= #[A,B,D],argTypes:=tys},type:=t,pos:=p,after:=a,guard:=g}=some R:=by
 unfold slowOp;have e:execOp (fun x=>detOf (ev cx fr x)) {dst:=d,op:= .call {callee:= .value (.func f),args:= #[A,B,D],argTypes:=tys},type:=t,pos:=p,after:=a,guard:=g}=callFunc f #[x,y,c]:=by
  simp[execOp,resolve,Deferred.ofValue,invoke,detOf,hA,hB,hD]
 rw[e,hr];simp[isSelect,Op.operands,Call.operands,isDet,hA,hB,hD,hR]
theorem add64_b (x y:Int):runPure cx.P (callFunc 267 #[.int .u64 x,.int .u64 y,.int .u64 0])=some (.value (.tuple #[.int .u64 ((x.toNat+y.toNat+0) % 18446744073709551616:Nat),.int .u64 ((x.toNat+y.toNat+0)/18446744073709551616:Nat)])):=by kernel_rfl
theorem add64_c (x y:Int):runPure cx.P (callFunc 267 #[.int .u64 x,.int .u64 y,.int .u64 1])=some (.value (.tuple #[.int .u64 ((x.toNat+y.toNat+1) % 18446744073709551616:Nat),.int .u64 ((x.toNat+y.toNat+1)/18446744073709551616:Nat)])):=by kernel_rfl
theorem sub64_b (x y:Int):runPure cx.P (callFunc 269 #[.int .u64 x,.int .u64 y,.int .u64 0])=some (.value (.tuple #[.int .u64 ((x.toNat+18446744073709551616-y.toNat-0) % 18446744073709551616:Nat),.int .u64 (if x.toNat<y.toNat+0 then 1 else 0:Nat)])):=by kernel_rfl
theorem sub64_c (x y:Int):runPure cx.P (callFunc 269 #[.int .u64 x,.int .u64 y,.int .u64 1])=some (.value (.tuple #[.int .u64 ((x.toNat+18446744073709551616-y.toNat-1) % 18446744073709551616:Nat),.int .u64 (if x.toNat<y.toNat+1 then 1 else 0:Nat)])):=by kernel_rfl
theorem add64 (x y c:Int)(hx:0≤x)(hy:0≤y)(hc:c=0∨c=1):runPure cx.P (callFunc 267 #[.int .u64 x,.int .u64 y,.int .u64 c])=some (.value (.tuple #[.int .u64 ((x+y+c) % 18446744073709551616),.int .u64 ((x+y+c)/18446744073709551616)])):=by
 rcases hc with rfl|rfl
 ·rw[add64_b,show(((x.toNat+y.toNat+0) % 18446744073709551616:Nat):Int)=(x+y+0) % 18446744073709551616 by omega,show(((x.toNat+y.toNat+0)/18446744073709551616:Nat):Int)=(x+y+0)/18446744073709551616 by omega]
 ·rw[add64_c,show(((x.toNat+y.toNat+1) % 18446744073709551616:Nat):Int)=(x+y+1) % 18446744073709551616 by omega,show(((x.toNat+y.toNat+1)/18446744073709551616:Nat):Int)=(x+y+1)/18446744073709551616 by omega]
theorem sub64 (x y c:Int)(hx:0≤x)(hy:0≤y)(hy':y<18446744073709551616)(hc:c=0∨c=1):runPure cx.P (callFunc 269 #[.int .u64 x,.int .u64 y,.int .u64 c])=some (.value (.tuple #[.int .u64 ((x+18446744073709551616-y-c) % 18446744073709551616),.int .u64 (if x<y+c then 1 else 0)])):=by
 rcases hc with rfl|rfl
 ·rw[sub64_b,show(((x.toNat+18446744073709551616-y.toNat-0) % 18446744073709551616:Nat):Int)=(x+18446744073709551616-y-0) % 18446744073709551616 by omega,show((if x.toNat<y.toNat+0 then 1 else 0:Nat):Int)=if x<y+0 then 1 else 0 by split<;>split<;>omega]
 ·rw[sub64_c,show(((x.toNat+18446744073709551616-y.toNat-1) % 18446744073709551616:Nat):Int)=(x+18446744073709551616-y-1) % 18446744073709551616 by omega,show((if x.toNat<y.toNat+1 then 1 else 0:Nat):Int)=if x<y+1 then 1 else 0 by split<;>split<;>omega]
def plG (g g':Bool)(x y:Int):Bool:=bif g==g' then g else bif decide (x<y)then g' else g
def plM (g g':Bool)(x y:Int):Int:=bif g==g' then x+y else bif decide (x<y)then y-x else x-y
theorem wide_plus (n:Nat)(b:Bool)(g g':Bool)(x y:Int)(h:Hp)(hx:0≤x)(hx':x<18446744073709551616*9223372036854775808)(hy:0≤y)(hy':y<18446744073709551616*9223372036854775808):
 callN cx (n+2) b 201 [wA g x,wA g' y] h=some (wA (plG g g' x y) (plM g g' x y),h):=by
 refine pure_calm (r:=wA (plG g g' x y) (plM g g' x y)) ⟨Tryz.f201.ntmps,(Tryz.f201.body).getD .skip,[.cell 4 3 true]⟩ (by kernel_rfl) (by kernel_rfl) rfl (by kernel_rfl) (by simp[Tryz.f201]) rfl rfl ?_ b h;obtain⟨xh,hxh⟩:∃v,v=x/18446744073709551616:=⟨_,rfl⟩;obtain⟨xl,hxl⟩:∃v,v=x % 18446744073709551616:=⟨_,rfl⟩;obtain⟨yh,hyh⟩:∃v,v=y/18446744073709551616:=⟨_,rfl⟩;obtain⟨yl,hyl⟩:∃v,v=y % 18446744073709551616:=⟨_,rfl⟩;cases hg:g==g' with
 |
  true=>
  have hc:(xl+yl)/18446744073709551616=0∨(xl+yl)/18446744073709551616=1:=by omega
  simp[Tryz.f201,wA,plG,plM,hg,←hxh,←hxl,←hyh,←hyl];rw[slow_ext3 ?_ ?_ ?_ (add64 xl yl 0 (by omega) (by omega) (.inl rfl)) rfl]
  rotate_left
  ·rfl
  ·rfl
  ·rfl
  simp;rw[slow_ext3 ?_ ?_ ?_ (add64 xh yh ((xl+yl)/18446744073709551616) (by omega) (by omega) hc) rfl]
  rotate_left
  ·rfl
  ·rfl
  ·rfl
  have f1:(xl+yl) % 18446744073709551616=(x+y) % 18446744073709551616:=by omega
  have f2:(xh+yh+(xl+yl)/18446744073709551616) % 18446744073709551616=(x+y)/18446744073709551616:=by omega
  simp[f1,f2]
 |
  false=>
  have hl:=fun h=>wide_less n true g g' x y h
  simp only[wA,←hxh,←hxl,←hyh,←hyl]at hl;by_cases hlt:x<y
  ·simp only[hlt,decide_true]at hl;have hc:(if yl<xl then(1:Int)else 0)=0∨(if yl<xl then(1:Int)else 0)=1:=by split<;>simp
   simp[Tryz.f201,wA,plG,plM,hg,←hxh,←hxl,←hyh,←hyl,hlt,hl];rw[slow_ext3 ?_ ?_ ?_ (sub64 yl xl 0 (by omega) (by omega) (by omega) (.inl rfl)) rfl]
   rotate_left
   ·rfl
   ·rfl
   ·rfl
   simp;rw[slow_ext3 ?_ ?_ ?_ (sub64 yh xh (if yl<xl then 1 else 0) (by omega) (by omega) (by omega) hc) rfl]
   rotate_left
   ·rfl
   ·rfl
   ·rfl
   have f1:(yl+18446744073709551616-xl) % 18446744073709551616=(y-x) % 18446744073709551616:=by omega
   have f2:(yh+18446744073709551616-xh-(if yl<xl then 1 else 0)) % 18446744073709551616=(y-x)/18446744073709551616:=by split<;>omega
   simp[f1,f2]
  ·simp only[hlt,decide_false]at hl;have hc:(if xl<yl then(1:Int)else 0)=0∨(if xl<yl then(1:Int)else 0)=1:=by split<;>simp
   simp[Tryz.f201,wA,plG,plM,hg,←hxh,←hxl,←hyh,←hyl,hlt,hl];rw[slow_ext3 ?_ ?_ ?_ (sub64 xl yl 0 (by omega) (by omega) (by omega) (.inl rfl)) rfl]
   rotate_left
   ·rfl
   ·rfl
   ·rfl
   simp;rw[slow_ext3 ?_ ?_ ?_ (sub64 xh yh (if xl<yl then 1 else 0) (by omega) (by omega) (by omega) hc) rfl]
   rotate_left
   ·rfl
   ·rfl
   ·rfl
   have f1:(xl+18446744073709551616-yl) % 18446744073709551616=(x-y) % 18446744073709551616:=by omega
   have f2:(xh+18446744073709551616-yh-(if xl<yl then 1 else 0)) % 18446744073709551616=(x-y)/18446744073709551616:=by split<;>omega
   simp[f1,f2]
end
end Go.Proofs.YtmocfjnklfpnbaaGreatDoor
