/- Contracts: cmp.Compare, cmp.Or. -/
import Derived.Test.YtiefabpageilbaaGreatDoorP15
set_option linter.all false
set_option maxRecDepth 100000
namespace Go.Proofs.YtiefabpageilbaaGreatDoor
open Go Go.Ae
section
attribute [local simp] aop aopW coldF extF putA ofConst flat scalarOp fastOp binFast intOp strOp guardX Ae.part rowOf szOk natOf lenA cls fillA splice newsOf isNilC
theorem bl_irrefl :∀l:List UInt8,Op.bytesLess l l=false
 | []=>rfl
 |a::l=>by simp[Op.bytesLess,bl_irrefl l]
theorem bl_total :∀l m:List UInt8,Op.bytesLess l m=false→l≠m→Op.bytesLess m l=true
 | [],[],_,h=>absurd rfl h
 | [],b::m,h,_=>by simp[Op.bytesLess]at h
 |a::l,[],_,_=>by simp[Op.bytesLess]
 |
  a::l,b::m,h,hn=>by
  simp only[Op.bytesLess,Bool.or_eq_false_iff,decide_eq_false_iff_not,Bool.and_eq_false_iff]at h;simp only[Op.bytesLess,Bool.or_eq_true,Zx,Zh];by_cases e:a=b
  ·subst e;refine .inr ⟨by simp,bl_total l m ?_ (fun q=>hn (by rw[q]))⟩;rcases h.2 with h2|h2
   ·simp at h2
   ·exact h2
  ·left;have h1:=h.1;rw[UInt8.lt_iff_toNat_lt]at h1⊢;have:a.toNat≠b.toNat:=fun q=>e (UInt8.toNat_inj.1 q)
   omega
theorem bl_trans :∀l m k:List UInt8,Op.bytesLess l m=true→Op.bytesLess m k=true→Op.bytesLess l k=true
 |_,[],_,h,_=>by simp[Op.bytesLess]at h
 |_,_::_,[],_,h=>by simp[Op.bytesLess]at h
 | [],_::_,_::_,_,_=>by simp[Op.bytesLess]
 |
  a::l,b::m,c::k,h1,h2=>by
  simp only[Op.bytesLess,Bool.or_eq_true,Zx,Zh,beq_iff_eq]at h1 h2⊢;rw[UInt8.lt_iff_toNat_lt]at *;rcases h1 with h1|⟨rfl,h1⟩<;>rcases h2 with h2|⟨rfl,h2⟩
  ·left;omega
  ·left;exact h1
  ·left;exact h2
  ·exact .inr ⟨rfl,bl_trans l m k h1 h2⟩
theorem eqS_iff (x y:ByteArray):eqS x y=true↔x=y:=by
 unfold eqS;rw[beq_iff_eq];exact⟨fun h=>by
  obtain⟨⟨a⟩⟩:=x;obtain⟨⟨b⟩⟩:=y;simp at h;rw[h],fun h=>by rw[h]⟩
theorem ltS_irrefl (x:ByteArray):ltS x x=false:=bl_irrefl _
theorem ltS_total {x y:ByteArray}(h:ltS x y=false)(hn:eqS x y=false):ltS y x=true:=by
 refine bl_total _ _ h fun q=>?_
 have:eqS x y=true:=by unfold eqS;rw[beq_iff_eq];exact q
 rw[hn]at this;cases this
theorem ltS_trans {x y z:ByteArray}(h:ltS x y=true)(k:ltS y z=true):ltS x z=true:=bl_trans _ _ _ h k
theorem ltS_asymm {x y:ByteArray}(h:ltS x y=true):ltS y x=false:=by
 cases q:ltS y x with
 |false=>rfl
 |true=>have:=ltS_trans h q;rw[ltS_irrefl]at this;cases this
theorem isNaN_int (n:Nat)(b:Bool)(x:Int)(h:Hp):callN cx (n+1) b 122 [.sc (.int .i64 x)] h=some (.sc (.bool false),h):=by
 refine pure_at (r:= .sc (.bool false)) (h':=[]) ⟨Tryz.f122.ntmps,(Tryz.f122.body).getD .skip,[.tmp 2]⟩ (by kernel_rfl) (by kernel_rfl) rfl (by kernel_rfl) (by simp[Tryz.f122]) rfl ?_ rfl b h;simp[Tryz.f122]
theorem isNaN_str (n:Nat)(b:Bool)(x:ByteArray)(h:Hp):callN cx (n+1) b 148 [.sc (.string x)] h=some (.sc (.bool false),h):=by
 refine pure_at (r:= .sc (.bool false)) (h':=[]) ⟨Tryz.f148.ntmps,(Tryz.f148.body).getD .skip,[.tmp 2]⟩ (by kernel_rfl) (by kernel_rfl) rfl (by kernel_rfl) (by simp[Tryz.f148]) rfl ?_ rfl b h;simp[Tryz.f148,eqS]
def cmpI (x y:Int):Int:=if x<y then-1 else if y<x then 1 else 0
theorem Compare_int (n:Nat)(b:Bool)(x y:Int)(h:Hp):callN cx (n+2) b 73 [.sc (.int .i64 x),.sc (.int .i64 y)] h=some (.sc (.int .i64 (cmpI x y)),h):=by
 refine pure_at (r:= .sc (.int .i64 (cmpI x y))) (h':=[]) ⟨Tryz.f73.ntmps,(Tryz.f73.body).getD .skip,[.tmp 4]⟩ (by kernel_rfl) (by kernel_rfl) rfl (by kernel_rfl) (by simp[Tryz.f73]) rfl ?_ rfl b h;simp[Tryz.f73,isNaN_int];rw[condX_ite];split<;>rename_i h1<;>simp at h1<;>simp[cmpI,h1];rw[condX_ite];split<;>rename_i h2<;>simp at h2<;>simp[cmpI,h1,h2];rw[if_neg (by omega),if_neg (by omega)]
def cmpS (x y:ByteArray):Int:=bif ltS x y then-1 else bif ltS y x then 1 else 0
theorem Compare_str (n:Nat)(b:Bool)(x y:ByteArray)(h:Hp):callN cx (n+2) b 103 [.sc (.string x),.sc (.string y)] h=some (.sc (.int .i64 (cmpS x y)),h):=by
 refine pure_at (r:= .sc (.int .i64 (cmpS x y))) (h':=[]) ⟨Tryz.f103.ntmps,(Tryz.f103.body).getD .skip,[.tmp 4]⟩ (by kernel_rfl) (by kernel_rfl) rfl (by kernel_rfl) (by simp[Tryz.f103]) rfl ?_ rfl b h;simp[Tryz.f103,isNaN_str];cases h1:ltS x y<;>simp[cmpS,h1];cases h2:eqS x y
 ·have h3:ltS y x=true:=ltS_total h1 h2;simp[h2,h3]
 ·have h3:ltS y x=false:=by rw[(eqS_iff x y).1 h2];exact ltS_irrefl y
  simp[h2,h3]
def orI :List Int→Int
 | []=>0
 |x::l=>if x=0 then orI l else x
theorem orI_drop {xs:List Int}{i:Nat}{x:Int}(h:xs[i]?=some x):orI (xs.drop i)=if x=0 then orI (xs.drop (i+1))else x:=by
 obtain⟨hi,rfl⟩:=Za.1 h;rw[Zm hi];rfl
theorem Or_int (n:Nat)(b:Bool)(xs:List Int)(z:Bool)(h:Hp)(hl:xs.length≤1000000):callN cx (n+1) b 102 [.ls 1 (xs.map fun x=> [.sc (.int .i64 x)]) z] h=some (.sc (.int .i64 (orI xs)),h):=by
 refine pure_at (r:= .sc (.int .i64 (orI xs))) (h':=[]) ⟨Tryz.f102.ntmps,(Tryz.f102.body).getD .skip,[.tmp 2]⟩ (by kernel_rfl) (by kernel_rfl) rfl (by kernel_rfl) (by simp[Tryz.f102]) rfl ?_ rfl b h;simp[Tryz.f102,lenA];refine loop_up (G:=fun x=>finX _ (thenX _ _ (blockX _ x) _)=_)
  (fun i s=>orI xs=orI (xs.drop i)∧s.1.length=18∧gt s.1 3= .sc (.int .i64 0)∧gt s.1 6= .ls 1 (xs.map fun x=> [.sc (.int .i64 x)]) z∧gt s.1 7= .sc (.int .i64 xs.length)∧gt s.1 8= .sc (.int .i64 i)∧s.2=[])
  (fun o s=>s.2=[]∧s.1.length=18∧((o= .exit 0∧orI xs=0∧gt s.1 3= .sc (.int .i64 0))∨(o= .ret∧gt s.1 2= .sc (.int .i64 (orI xs))))) xs.length (by simp;omega) (by simp) ?_ ?_
 ·rintro i fr h hle ⟨ho,hlen,h3,h6,h7,h8,rfl⟩;simp only at hlen h3 h6 h7 h8;by_cases hi:i<xs.length
  ·have hx:xs[i]?=some xs[i]:=Zb hi;have hd:=orI_drop hx;have hf:fitI .i64 ((i:Int)+1)=((i+1:Nat):Int):=fit_i64 (by omega) (by omega);by_cases h0:xs[i]=0
   ·rw[if_pos h0]at hd;simp[hlen,h3,h6,h7,h8,hi,hx,h0,hf,ho,hd]
   ·rw[if_neg h0]at hd;simp[hlen,h3,h6,h7,h8,hi,hx,h0,hf,ho,hd]
  ·have hz:orI xs=0:=by rw[ho,Zt (by omega)];rfl
   simp[hlen,h3,h6,h7,h8,hi,hz]
 ·rintro o fr h hn ⟨rfl,hlen,⟨rfl,h0,h3⟩|⟨rfl,h2⟩⟩
  ·simp only at hlen h3;simp[hlen,h3,h0]
  ·simp only at h2;simp[h2]
end
section
attribute [local simp] aop aopW coldF extF putA ofConst flat scalarOp fastOp binFast intOp strOp guardX Ae.part rowOf szOk natOf lenA cls fillA splice newsOf isNilC cellX
def inR (n:Int):Bool:=decide (-1000000000000000≤n) && decide (n≤1000000000000000)
theorem inR_iff (n:Int):inR n=true↔ -1000000000000000≤n∧n≤1000000000000000:=by simp[inR]
theorem num_In (n:Nat)(b:Bool)(x:Int)(h:Hp):callN cx (n+1) b 195 [.sc (.int .i64 x)] h=some (.sc (.bool (inR x)),h):=by
 refine pure_at (r:= .sc (.bool (inR x))) (h':=[]) ⟨Tryz.f195.ntmps,(Tryz.f195.body).getD .skip,[.tmp 2]⟩ (by kernel_rfl) (by kernel_rfl) rfl (by kernel_rfl) (by simp[Tryz.f195]) rfl ?_ rfl b h;by_cases h1: -1000000000000000≤x<;>simp[Tryz.f195,h1,inR]
theorem r01_In (n:Nat)(b:Bool)(x:Int)(h:Hp):callN cx (n+1) b 204 [.sc (.int .i64 x)] h=some (.sc (.bool (inR x)),h):=by
 refine pure_at (r:= .sc (.bool (inR x))) (h':=[]) ⟨Tryz.f204.ntmps,(Tryz.f204.body).getD .skip,[.tmp 2]⟩ (by kernel_rfl) (by kernel_rfl) rfl (by kernel_rfl) (by simp[Tryz.f204]) rfl ?_ rfl b h;by_cases h1: -1000000000000000≤x<;>simp[Tryz.f204,h1,inR]
theorem num_abs (n:Nat)(b:Bool)(x:Int)(h:Hp)(hx:inR x=true):callN cx (n+1) b 308 [.sc (.int .i64 x)] h=some (.sc (.int .i64 x.natAbs),h):=by
 rw[inR_iff]at hx;refine pure_at (r:= .sc (.int .i64 x.natAbs)) (h':=[]) ⟨Tryz.f308.ntmps,(Tryz.f308.body).getD .skip,[.tmp 2]⟩ (by kernel_rfl) (by kernel_rfl) rfl (by kernel_rfl) (by simp[Tryz.f308]) rfl ?_ rfl b h;have hf:fitI .i64 (-x)= -x:=fit_i64 (by omega) (by omega);have hm:(if x< -x then-x else x)=(x.natAbs:Int):=by split<;>omega
 simp[Tryz.f308,hf,hm]
theorem r03_size (n:Nat)(b:Bool)(x:Int)(h:Hp)(hx: -9223372036854775807≤x∧x≤9223372036854775807):callN cx (n+1) b 155 [.sc (.int .i64 x)] h=some (.sc (.int .i64 x.natAbs),h):=by
 refine pure_at (r:= .sc (.int .i64 x.natAbs)) (h':=[]) ⟨Tryz.f155.ntmps,(Tryz.f155.body).getD .skip,[.tmp 2]⟩ (by kernel_rfl) (by kernel_rfl) rfl (by kernel_rfl) (by simp[Tryz.f155]) rfl ?_ rfl b h;have hf:fitI .i64 (-x)= -x:=fit_i64 (by omega) (by omega);by_cases h1:x<0
 ·have hm: -x=(x.natAbs:Int):=by omega
  rw[hm]at hf;simp[Tryz.f155,hf,h1,hm]
 ·have hm:(x.natAbs:Int)=x:=by omega
  simp[Tryz.f155,h1,hm]
def gcdI (x y:Int):Int:=(Nat.gcd x.natAbs y.natAbs:Nat)
theorem num_Gcd (n:Nat)(b:Bool)(x y:Int)(h:Hp)(hx:inR x=true)(hy:inR y=true):callN cx (n+2) b 263 [.sc (.int .i64 x),.sc (.int .i64 y)] h=some (.sc (.int .i64 (gcdI x y)),h):=by
 refine pure_at (r:= .sc (.int .i64 (gcdI x y))) (h':=[]) ⟨Tryz.f263.ntmps,(Tryz.f263.body).getD .skip,[.tmp 4]⟩ (by kernel_rfl) (by kernel_rfl) rfl (by kernel_rfl) (by simp[Tryz.f263]) rfl ?_ rfl b h;simp[Tryz.f263,num_In,num_abs,hx,hy];rw[inR_iff]at hx hy;refine loop_down (G:=fun x=>finX _ (thenX _ _ (blockX _ x) _)=_)
  (fun k s=>∃p q:Nat,k=q∧Nat.gcd p q=Nat.gcd x.natAbs y.natAbs∧p≤1000000000000000∧q≤1000000000000000∧s.1.length=24∧gt s.1 0= .sc (.int .i64 p)∧gt s.1 1= .sc (.int .i64 q)∧s.2=[])
  (fun o s=>s.2=[]∧s.1.length=24∧o= .exit 0∧gt s.1 0= .sc (.int .i64 (Nat.gcd x.natAbs y.natAbs))) y.natAbs (by simp;omega) ⟨x.natAbs,y.natAbs,rfl,rfl,by omega,by omega,by simp⟩ ?_ ?_
 ·rintro k fr h ⟨p,q,rfl,hg,hp,hq,hlen,h0,h1,rfl⟩;simp only at hlen h0 h1;by_cases hz:k=0
  ·subst hz;rw[Nat.gcd_zero_right]at hg;simp[hlen,h0,h1,hg]
  ·have hb:¬(k:Int)=0:=by omega
   have hm:((p:Int).tmod (k:Int))=((p % k:Nat):Int):=rfl;have hk:True:=trivial;have h2:Nat.gcd k (p % k)=Nat.gcd x.natAbs y.natAbs:=by rw[←hg,Nat.gcd_comm p k,Nat.gcd_rec k p,Nat.gcd_comm]
   have h3:p % k<k:=Nat.mod_lt _ (by omega);simp[hlen,h0,h1,hz,hb,hm,hk];exact⟨p % k,h3,k,h2,hq,by omega,rfl,rfl⟩
 ·rintro o fr h hn ⟨rfl,hlen,rfl,h0⟩;simp only at hlen h0;simp[hlen,h0,gcdI]
theorem r03_gcd (n:Nat)(b:Bool)(x y:Nat)(h:Hp)(hx:x≤1000000000000000)(hy:y≤1000000000000000):callN cx (n+1) b 208 [.sc (.int .i64 x),.sc (.int .i64 y)] h=some (.sc (.int .i64 (Nat.gcd x y)),h):=by
 refine pure_at (r:= .sc (.int .i64 (Nat.gcd x y))) (h':=[]) ⟨Tryz.f208.ntmps,(Tryz.f208.body).getD .skip,[.tmp 4]⟩ (by kernel_rfl) (by kernel_rfl) rfl (by kernel_rfl) (by simp[Tryz.f208]) rfl ?_ rfl b h;simp[Tryz.f208];refine loop_down (G:=fun x=>finX _ (thenX _ _ (blockX _ x) _)=_)
  (fun k s=>∃p q:Nat,k=q∧Nat.gcd p q=Nat.gcd x y∧p≤1000000000000000∧q≤1000000000000000∧s.1.length=12∧gt s.1 0= .sc (.int .i64 p)∧gt s.1 1= .sc (.int .i64 q)∧s.2=[])
  (fun o s=>s.2=[]∧s.1.length=12∧o= .exit 0∧gt s.1 0= .sc (.int .i64 (Nat.gcd x y))) y (by simp;omega) ⟨x,y,rfl,rfl,by omega,by omega,by simp⟩ ?_ ?_
 ·rintro k fr h ⟨p,q,rfl,hg,hp,hq,hlen,h0,h1,rfl⟩;simp only at hlen h0 h1;by_cases hz:k=0
  ·subst hz;rw[Nat.gcd_zero_right]at hg;simp[hlen,h0,h1,hg]
  ·have hb:¬(k:Int)=0:=by omega
   have hm:((p:Int).tmod (k:Int))=((p % k:Nat):Int):=rfl;have hk:0<k:=by omega
   have h2:Nat.gcd k (p % k)=Nat.gcd x y:=by rw[←hg,Nat.gcd_comm p k,Nat.gcd_rec k p,Nat.gcd_comm]
   have h3:p % k<k:=Nat.mod_lt _ (by omega);simp[hlen,h0,h1,hz,hb,hm,hk];exact⟨p % k,h3,k,h2,hq,by omega,rfl,rfl⟩
 ·rintro o fr h hn ⟨rfl,hlen,rfl,h0⟩;simp only at hlen h0;simp[hlen,h0]
def frA (N D:Int):AV:= .ag [.sc (.int .i64 N),.sc (.int .i64 D)]
def fv (N D:Int):Bool:=decide (1≤D) && decide (D≤1000000000000000) && inR N && decide (gcdI N D=1)
theorem fv_inR {N D:Int}(h:fv N D=true):inR N=true∧inR D=true∧1≤D:=by
 simp only[fv,Zh,Zx]at h;exact⟨h.1.2,by rw[inR_iff];omega,h.1.1.1⟩
theorem frac_Valid (n:Nat)(b:Bool)(N D:Int)(h:Hp):callN cx (n+3) b 196 [frA N D] h=some (.sc (.bool (fv N D)),h):=by
 refine pure_calm (r:= .sc (.bool (fv N D))) ⟨Tryz.f196.ntmps,(Tryz.f196.body).getD .skip,[.tmp 2]⟩ (by kernel_rfl) (by kernel_rfl) rfl (by kernel_rfl) (by simp[Tryz.f196]) rfl rfl ?_ b h;by_cases h1:1≤D
 ·by_cases h2:D≤1000000000000000
  ·cases h3:inR N with
   |false=>simp[Tryz.f196,frA,h1,h2,num_In,h3,fv]
   |
    true=>
    have hD:inR D=true:=by rw[inR_iff];omega
    simp[Tryz.f196,frA,h1,h2,num_In,h3,fv,num_Gcd _ _ _ _ _ h3 hD]
  ·simp[Tryz.f196,frA,h1,h2,fv]
 ·simp[Tryz.f196,frA,h1,fv]
theorem r03_Valid (n:Nat)(b:Bool)(N D:Int)(h:Hp):callN cx (n+2) b 151 [frA N D] h=some (.sc (.bool (fv N D)),h):=by
 refine pure_calm (r:= .sc (.bool (fv N D))) ⟨Tryz.f151.ntmps,(Tryz.f151.body).getD .skip,[.tmp 2]⟩ (by kernel_rfl) (by kernel_rfl) rfl (by kernel_rfl) (by simp[Tryz.f151]) rfl rfl ?_ b h;by_cases h1:1≤D
 ·by_cases h2:D≤1000000000000000
  ·by_cases h3: -1000000000000000≤N
   ·by_cases h4:N≤1000000000000000
    ·obtain⟨d,rfl⟩:∃d:Nat,D=d:=⟨D.toNat,by omega⟩;have h5:d≤1000000000000000:=by omega
     simp[Tryz.f151,frA,h1,h2,h3,h4,inR,fv,gcdI,r03_size _ _ N _ ⟨by omega,by omega⟩,r03_gcd _ _ N.natAbs d _ (by omega) h5];rfl
    ·simp[Tryz.f151,frA,h1,h2,h3,h4,inR,fv]
   ·simp[Tryz.f151,frA,h1,h2,h3,inR,fv]
  ·simp[Tryz.f151,frA,h1,h2,fv]
 ·simp[Tryz.f151,frA,h1,fv]
theorem and32 (x:Nat):x &&& 4294967295=x % 4294967296:=Nat.and_two_pow_sub_one_eq_mod x 32
theorem mul32 {x y:Int}(hx:0≤x)(hx':x≤4294967295)(hy:0≤y)(hy':y≤4294967295):0≤x*y∧x*y≤18446744065119617025:=
 ⟨Int.mul_nonneg hx hy,by have:=Int.mul_le_mul hx' hy' hy (by decide:(0:Int)≤4294967295);omega⟩
theorem Mul64 (n:Nat)(b:Bool)(x y:Int)(h:Hp)(hx:0≤x)(hx':x≤18446744073709551615)(hy:0≤y)(hy':y≤18446744073709551615):
 callN cx (n+1) b 265 [.sc (.int .u64 x),.sc (.int .u64 y)] h=some (.tp [.sc (.int .u64 (x*y/18446744073709551616)),.sc (.int .u64 (x*y % 18446744073709551616))],h):=by
 obtain⟨x0,hx0⟩:∃x0,x0=x % 4294967296:=⟨_,rfl⟩;obtain⟨x1,hx1⟩:∃x1,x1=x/4294967296:=⟨_,rfl⟩;obtain⟨y0,hy0⟩:∃y0,y0=y % 4294967296:=⟨_,rfl⟩;obtain⟨y1,hy1⟩:∃y1,y1=y/4294967296:=⟨_,rfl⟩;have am:∀z:Int,0≤z→((z.toNat &&& 4294967295:Nat):Int)=z % 4294967296:=fun z hz=>by rw[and32];omega
 have b00:=mul32 (x:=x0) (y:=y0) (by omega) (by omega) (by omega) (by omega);have b10:=mul32 (x:=x1) (y:=y0) (by omega) (by omega) (by omega) (by omega);have b01:=mul32 (x:=x0) (y:=y1) (by omega) (by omega) (by omega) (by omega);have b11:=mul32 (x:=x1) (y:=y1) (by omega) (by omega) (by omega) (by omega);have exy:x*y=x1*y1*18446744073709551616+(x1*y0+x0*y1)*4294967296+x0*y0:=by
  have ex:x=x1*4294967296+x0:=by omega
  have ey:y=y1*4294967296+y0:=by omega
  rw[ex,ey,Int.add_mul,Int.mul_add,Int.mul_add,Int.add_mul];have e1:x1*4294967296*(y1*4294967296)=x1*y1*18446744073709551616:=by rw[Int.mul_assoc,←Int.mul_assoc 4294967296,Int.mul_comm 4294967296 y1,Int.mul_assoc y1,←Int.mul_assoc x1];rfl
  have e2:x1*4294967296*y0=x1*y0*4294967296:=by rw[Int.mul_assoc,Int.mul_comm 4294967296 y0,←Int.mul_assoc]
  have e3:x0*(y1*4294967296)=x0*y1*4294967296:=by rw[Int.mul_assoc]
  omega
 obtain⟨P,hP⟩:∃P,P=x0*y0:=⟨_,rfl⟩;obtain⟨Q,hQ⟩:∃Q,Q=x1*y0:=⟨_,rfl⟩;obtain⟨R,hR⟩:∃R,R=x0*y1:=⟨_,rfl⟩;obtain⟨S,hS⟩:∃S,S=x1*y1:=⟨_,rfl⟩;rw[←hP]at b00 exy;rw[←hQ]at b10 exy;rw[←hR]at b01 exy;rw[←hS]at b11 exy;have hhi:S+(Q+P/4294967296)/4294967296+((Q+P/4294967296) % 4294967296+R)/4294967296=x*y/18446744073709551616:=by omega
 have hlo:fitI .u64 (x*y)=x*y % 18446744073709551616:=by
  rw[fitI_wrap];simp[IntKind.wrap,IntKind.signed,IntKind.bits]
 have f1:fitI .u64 P=P:=fit_u64 (by omega) (by omega);have f2:fitI .u64 Q=Q:=fit_u64 (by omega) (by omega);have f3:fitI .u64 (Q+P/4294967296)=Q+P/4294967296:=fit_u64 (by omega) (by omega);have f4:fitI .u64 R=R:=fit_u64 (by omega) (by omega);have f5:fitI .u64 ((Q+P/4294967296) % 4294967296+R)=(Q+P/4294967296) % 4294967296+R:=fit_u64 (by omega) (by omega);have f6:fitI .u64 S=S:=fit_u64 (by omega) (by omega);have f7:fitI .u64 (S+(Q+P/4294967296)/4294967296)=S+(Q+P/4294967296)/4294967296:=fit_u64 (by omega) (by omega);have f8:fitI .u64 (S+(Q+P/4294967296)/4294967296+((Q+P/4294967296) % 4294967296+R)/4294967296)=S+(Q+P/4294967296)/4294967296+((Q+P/4294967296) % 4294967296+R)/4294967296:=fit_u64 (by omega) (by omega);have a1:=am x hx;have a2:=am y hy;have a3:=am (Q+P/4294967296) (by omega);have p3:0≤Q+P/4294967296:=by omega
 have q3:Q+P/4294967296≤18446744073709551615:=by omega
 rw[←hx0]at a1;rw[←hy0]at a2;have r:=hhi.symm;refine pure_at (r:= .tp [.sc (.int .u64 (x*y/18446744073709551616)),.sc (.int .u64 (x*y % 18446744073709551616))]) (h':=[]) ⟨Tryz.f265.ntmps,(Tryz.f265.body).getD .skip,[.tmp 4,.tmp 5]⟩ (by kernel_rfl) (by kernel_rfl) rfl (by kernel_rfl) (by simp[Tryz.f265]) rfl ?_ rfl b h;simp[Tryz.f265,hx,hx',hy,hy',a1,a2,←hx1,←hy1,←hP,←hQ,←hR,←hS,f1,f2,f3,p3,q3,a3,f4,f5,f6,f7,f8,hlo,r,IntKind.bits]
end
end Go.Proofs.YtiefabpageilbaaGreatDoor
