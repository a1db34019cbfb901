/- Part of the proof. -/
import Derived.Test.YtmocfjnklfpnbaaGreatDoorP7
set_option linter.all false
set_option maxRecDepth 100000
namespace Go.Proofs.YtmocfjnklfpnbaaGreatDoor
open Go Go.Ae Go.Proofs.Tryz
section
attribute [simp] qj yB HJ acJ ql ofConst lr iu uk yW xR KL Ae.part gu kM jy tD cls lX gV zK
attribute [local simp] ew cF
def DZ :∀l:List UInt8,Op.bytesLess l l=false
 | []=>rfl
 |a::l=>by simp[Op.bytesLess,DZ l]
def IA :∀l m:List UInt8,Op.bytesLess l m=false->l≠m->Op.bytesLess m l=true
 | [],[],_,h=>absurd rfl h
 | [],b::m,h,_=>by simp[Op.bytesLess]at h
 |a::l,[],_,_=>by simp[Op.bytesLess]
 |
  a::l,b::m,h,hn=>by
  simp only[Op.bytesLess,Bool.or_eq_false_iff,decide_eq_false_iff_not,Bool.and_eq_false_iff]at h;simp only[Op.bytesLess,Yx,Zy,Zh];by_cases e:a=b
  .subst e;refine .inr ⟨by simp,IA l m ?_ (λq=>hn (by rw[q]))⟩;rcases h.2 with h2|h2
   .simp at h2
   .exact h2
  .left;have h1:=h.1;rw[UInt8.lt_iff_toNat_lt]at h1|-;have:a.toNat≠b.toNat:=λq=>e (UInt8.toNat_inj.1 q)
   omega
def IB :∀l m k:List UInt8,Op.bytesLess l m=true->Op.bytesLess m k=true->Op.bytesLess l k=true
 |_,[],_,h,_=>by simp[Op.bytesLess]at h
 |_,_::_,[],_,h=>by simp[Op.bytesLess]at h
 | [],_::_,_::_,_,_=>by simp[Op.bytesLess]
 |
  a::l,b::m,c::k,h1,h2=>by
  simp only[Op.bytesLess,Yx,Zy,Zh,beq_iff_eq]at h1 h2|-;rw[UInt8.lt_iff_toNat_lt]at *;rcases h1 with h1|⟨rfl,h1⟩<;>rcases h2 with h2|⟨rfl,h2⟩
  .left;omega
  .left;exact h1
  .left;exact h2
  .exact .inr ⟨rfl,IB l m k h1 h2⟩
def ng(x y:ByteArray):dn x y=true↔x=y:=by
 unfold dn;rw[beq_iff_eq];exact⟨λh=>by
  obtain⟨⟨a⟩⟩:=x;obtain⟨⟨b⟩⟩:=y;simp at h;rw[h],λh=>by rw[h]⟩
def l_(x:ByteArray):nO x x=false:=DZ _
def nB{x y:ByteArray}(h:nO x y=false)(hn:dn x y=false):nO y x=true:=by
 refine IA _ _ h λq=>?_
 have:dn x y=true:=by unfold dn;rw[beq_iff_eq];exact q
 rw[hn]at this;cases this
def CM{x y z:ByteArray}(h:nO x y=true)(k:nO y z=true):nO x z=true:=IB _ _ _ h k
def CL{x y:ByteArray}(h:nO x y=true):nO y x=false:=by
 cases q:nO y x with
 |false=>rfl
 |true=>have:=CM h q;rw[l_]at this;cases this
def O8(n:Nat)(b:Bool)(x:Int)(h:Hp):cu cx (n+1) b 71 [x] h=some ((false:AV),h):=by
 refine IL (r:= .sc (.bool false)) (h':=[]) f71 [.tmp 2] rfl ?_ rfl b h;simp[f71]
def O9(n:Nat)(b:Bool)(x:ByteArray)(h:Hp):cu cx (n+1) b 72 [x] h=some ((false:AV),h):=by
 refine IL (r:= .sc (.bool false)) (h':=[]) f72 [.tmp 2] rfl ?_ rfl b h;simp[f72,dn]
def eO(x y:Int):Int:=if x<y then-1 else if y<x then 1 else 0
def lA(n:Nat)(b:Bool)(x y:Int)(h:Hp):cu cx (n+2) b 37 [x,y] h=some (.sc (.int .i64 (eO x y)),h):=by
 refine IL (r:= .sc (.int .i64 (eO x y))) (h':=[]) f37 [.tmp 4] rfl ?_ rfl b h;simp[f37,O8];rw[DV];split<;>rename_i h1<;>simp at h1<;>simp[eO,h1];rw[DV];split<;>rename_i h2<;>simp at h2<;>simp[h1,h2];rw[cv (by omega),cv (by omega)]
def iZ(x y:ByteArray):Int:=bif nO x y then-1 else bif nO y x then 1 else 0
def oN(n:Nat)(b:Bool)(x y:ByteArray)(h:Hp):cu cx (n+2) b 38 [x,y] h=some (.sc (.int .i64 (iZ x y)),h):=by
 refine IL (r:= .sc (.int .i64 (iZ x y))) (h':=[]) f38 [.tmp 4] rfl ?_ rfl b h;simp[f38,O9];cases h1:nO x y<;>simp[iZ,h1];cases h2:dn x y
 .have h3:nO y x=true:=nB h1 h2;simp[h3]
 .have h3:nO y x=false:=by rw[(ng x y).1 h2];exact l_ y
  simp[h3]
def rj :List Int->Int
 | []=>0
 |x::l=>if x=0 then rj l else x
def Uv{xs:List Int}{i:Nat}{x:Int}(h:xs[i]?=some x):rj (xs.drop i)=if x=0 then rj (xs.drop (i+1))else x:=by
 obtain⟨hi,rfl⟩:=Za.1 h;rw[Zm hi];rfl
def aaT(n:Nat)(b:Bool)(xs:List Int)(z:Bool)(h:Hp)(hl:xs.length<=10^6):cu cx (n+1) b 36 [.ls 1 (xs.map λx=> [.sc (.int .i64 x)]) z] h=some (.sc (.int .i64 (rj xs)),h):=by
 refine IL (r:= .sc (.int .i64 (rj xs))) (h':=[]) f36 [.tmp 2] rfl ?_ rfl b h;simp[f36,tD];refine oM (G:=λx=>dT _ (jC _ _ (gJ _ x) _)=_)
  (λi s=>rj xs=rj (xs.drop i)/\s.1.length=18/\gt s.1 3=(0:Int)/\gt s.1 6= .ls 1 (xs.map λx=> [.sc (.int .i64 x)]) z/\gt s.1 7=xs.length/\gt s.1 8=i/\s.2=[])
  (λo s=>s.2=[]/\s.1.length=18/\((o= .exit 0/\rj xs=0/\gt s.1 3=(0:Int))\/(o= .ret/\gt s.1 2= .sc (.int .i64 (rj xs))))) xs.length (by simp;omega) (by simp) ?_ ?_
 .rintro i fr h cP ⟨ho,cp,h3,h6,h7,h8,rfl⟩;simp only at cp h3 h6 h7 h8;by_cases hi:i<xs.length
  .have hx:xs[i]?=some xs[i]:=Zb hi;have hd:=Uv hx;have hf:dA .i64 ((i:Int)+1)=((i+1:Nat):Int):=cK (by omega) (by omega);by_cases h0:xs[i]=0
   .rw[cw h0]at hd;simp[cp,h3,h6,h7,h8,hi,h0,hf,ho,hd]
   .rw[cv h0]at hd;simp[cp,h3,h6,h7,h8,hi,h0,ho,hd]
  .have hz:rj xs=0:=by rw[ho,Zt (by omega)];rfl
   simp[cp,h3,h7,h8,hi,hz]
 .rintro o fr h hn ⟨rfl,cp,⟨rfl,h0,h3⟩|⟨rfl,h2⟩⟩
  .simp only at cp h3;simp[cp,h3,h0]
  .simp only at h2;simp[h2]
end
section
attribute [local simp] ew cF eY
def tI(n:Int):Bool:=decide (-1000000000000000<=n) && decide (n<=1000000000000000)
def mD(n:Int):tI n=true↔ -1000000000000000<=n/\n<=1000000000000000:=by simp[tI]
def Ec(n:Nat)(b:Bool)(x:Int)(h:Hp):cu cx (n+1) b 195 [x] h=some (.sc (.bool (tI x)),h):=by
 refine IL (r:= .sc (.bool (tI x))) (h':=[]) f195 [.tmp 2] rfl ?_ rfl b h;by_cases h1: -1000000000000000<=x<;>simp[f195,h1,tI]
def acK(n:Nat)(b:Bool)(x:Int)(h:Hp):cu cx (n+1) b 238 [x] h=some (.sc (.bool (tI x)),h):=by
 refine IL (r:= .sc (.bool (tI x))) (h':=[]) f238 [.tmp 2] rfl ?_ rfl b h;by_cases h1: -1000000000000000<=x<;>simp[f238,h1,tI]
def YU(n:Nat)(b:Bool)(x:Int)(h:Hp)(hx:tI x=true):cu cx (n+1) b 295 [x] h=some ((x.natAbs:AV),h):=by
 rw[mD]at hx;refine IL (r:= .sc (.int .i64 x.natAbs)) (h':=[]) f295 [.tmp 2] rfl ?_ rfl b h;have hf:dA .i64 (-x)= -x:=cK (by omega) (by omega);have hm:(if x< -x then-x else x)=(x.natAbs:Int):=by split<;>omega
 simp[f295,hf,hm]
def BI(n:Nat)(b:Bool)(x:Int)(h:Hp)(hx: -9223372036854775807<=x/\x<=9223372036854775807):cu cx (n+1) b 172 [x] h=some ((x.natAbs:AV),h):=by
 refine IL (r:= .sc (.int .i64 x.natAbs)) (h':=[]) f172 [.tmp 2] rfl ?_ rfl b h;have hf:dA .i64 (-x)= -x:=cK (by omega) (by omega);by_cases h1:x<0
 .have hm: -x=(x.natAbs:Int):=by omega
  rw[hm]at hf;simp[f172,hf,h1,hm]
 .have hm:(x.natAbs:Int)=x:=by omega
  simp[f172,h1,hm]
def Uw(x y:Int):Int:=(Nat.gcd x.natAbs y.natAbs:Nat)
def YV(n:Nat)(b:Bool)(x y:Int)(h:Hp)(hx:tI x=true)(hy:tI y=true):cu cx (n+2) b 263 [x,y] h=some (.sc (.int .i64 (Uw x y)),h):=by
 refine IL (r:= .sc (.int .i64 (Uw x y))) (h':=[]) f263 [.tmp 4] rfl ?_ rfl b h;simp[f263,Ec,YU,hx,hy];rw[mD]at hx hy;refine qe (G:=λx=>dT _ (jC _ _ (gJ _ x) _)=_)
  (λk s=>∃p q:Nat,k=q/\Nat.gcd p q=Nat.gcd x.natAbs y.natAbs/\p<=1000000000000000/\q<=1000000000000000/\s.1.length=24/\gt s.1 0=p/\gt s.1 1=q/\s.2=[])
  (λo s=>s.2=[]/\s.1.length=24/\o= .exit 0/\gt s.1 0= .sc (.int .i64 (Nat.gcd x.natAbs y.natAbs))) y.natAbs (by simp;omega) ⟨x.natAbs,y.natAbs,rfl,rfl,by omega,by omega,by simp⟩ ?_ ?_
 .rintro k fr h ⟨p,q,rfl,hg,hp,hq,cp,h0,h1,rfl⟩;simp only at cp h0 h1;by_cases hz:k=0
  .subst hz;rw[Nat.gcd_zero_right]at hg;simp[cp,h0,h1,hg]
  .have hb:¬(k:Int)=0:=by omega
   have hm:((p:Int).tmod (k:Int))=((p % k:Nat):Int):=rfl;have hk:True:=trivial;have h2:Nat.gcd k (p % k)=Nat.gcd x.natAbs y.natAbs:=by rw[<-hg,Nat.gcd_comm p k,Nat.gcd_rec k p,Nat.gcd_comm]
   have h3:p % k<k:=Nat.mod_lt _ (by omega);simp[cp,h0,h1,hz,hm];exact⟨p % k,h3,k,h2,hq,by omega,rfl,rfl⟩
 .rintro o fr h hn ⟨rfl,cp,rfl,h0⟩;simp only at cp h0;simp[cp,h0,Uw]
def YW(n:Nat)(b:Bool)(x y:Nat)(h:Hp)(hx:x<=1000000000000000)(hy:y<=1000000000000000):cu cx (n+1) b 242 [x,y] h=some (.sc (.int .i64 (Nat.gcd x y)),h):=by
 refine IL (r:= .sc (.int .i64 (Nat.gcd x y))) (h':=[]) f242 [.tmp 4] rfl ?_ rfl b h;simp[f242];refine qe (G:=λx=>dT _ (jC _ _ (gJ _ x) _)=_)
  (λk s=>∃p q:Nat,k=q/\Nat.gcd p q=Nat.gcd x y/\p<=1000000000000000/\q<=1000000000000000/\s.1.length=12/\gt s.1 0=p/\gt s.1 1=q/\s.2=[])
  (λo s=>s.2=[]/\s.1.length=12/\o= .exit 0/\gt s.1 0= .sc (.int .i64 (Nat.gcd x y))) y (by simp;omega) ⟨x,y,rfl,rfl,by omega,by omega,by simp⟩ ?_ ?_
 .rintro k fr h ⟨p,q,rfl,hg,hp,hq,cp,h0,h1,rfl⟩;simp only at cp h0 h1;by_cases hz:k=0
  .subst hz;rw[Nat.gcd_zero_right]at hg;simp[cp,h0,h1,hg]
  .have hb:¬(k:Int)=0:=by omega
   have hm:((p:Int).tmod (k:Int))=((p % k:Nat):Int):=rfl;have hk:0<k:=by omega
   have h2:Nat.gcd k (p % k)=Nat.gcd x y:=by rw[<-hg,Nat.gcd_comm p k,Nat.gcd_rec k p,Nat.gcd_comm]
   have h3:p % k<k:=Nat.mod_lt _ (by omega);simp[cp,h0,h1,hz,hm,hk];exact⟨p % k,h3,k,h2,hq,by omega,rfl,rfl⟩
 .rintro o fr h hn ⟨rfl,cp,rfl,h0⟩;simp only at cp h0;simp[cp,h0]
def mE(N D:Int):AV:= .ag [N,D]
def fv(N D:Int):Bool:=decide (1<=D) && decide (D<=1000000000000000) && tI N && decide (Uw N D=1)
def acL{N D:Int}(h:fv N D=true):tI N=true/\tI D=true/\1<=D:=by
 simp only[fv,Zh,Zy]at h;exact⟨h.1.2,by rw[mD];omega,h.1.1.1⟩
def ur(n:Nat)(b:Bool)(N D:Int)(h:Hp):cu cx (n+3) b 196 [mE N D] h=some (.sc (.bool (fv N D)),h):=by
 refine fU f196 [.tmp 2] rfl rfl ?_ b h;by_cases h1:1<=D
 .by_cases h2:D<=1000000000000000
  .cases h3:tI N with
   |false=>simp[f196,mE,h1,h2,Ec,h3,fv]
   |
    true=>
    have hD:tI D=true:=by rw[mD];omega
    simp[f196,mE,h1,h2,Ec,h3,fv,YV _ _ _ _ _ h3 hD]
  .simp[f196,mE,h1,h2,fv]
 .simp[f196,mE,h1,fv]
def qf(n:Nat)(b:Bool)(N D:Int)(h:Hp):cu cx (n+2) b 168 [mE N D] h=some (.sc (.bool (fv N D)),h):=by
 refine fU f168 [.tmp 2] rfl rfl ?_ b h;by_cases h1:1<=D
 .by_cases h2:D<=1000000000000000
  .by_cases h3: -1000000000000000<=N
   .by_cases h4:N<=1000000000000000
    .obtain⟨d,rfl⟩:∃d:Nat,D=d:=⟨D.toNat,by omega⟩;have h5:d<=1000000000000000:=by omega
     simp[f168,mE,h1,h2,h3,h4,tI,fv,Uw,BI _ _ N _ ⟨by omega,by omega⟩,YW _ _ N.natAbs d _ (by omega) h5];rfl
    .simp[f168,mE,h1,h2,h3,h4,tI,fv]
   .simp[f168,mE,h1,h2,h3,tI,fv]
  .simp[f168,mE,h1,h2,fv]
 .simp[f168,mE,h1,fv]
def aeL(x:Nat):x &&& 4294967295=x % 4294967296:=Nat.and_two_pow_sub_one_eq_mod x 32
def Mt{x y:Int}(hx:0<=x)(IU:x<=4294967295)(hy:0<=y)(Ny:y<=4294967295):0<=x*y/\x*y<=18446744065119617025:=
 ⟨Int.mul_nonneg hx hy,by have:=Int.mul_le_mul IU Ny hy (by decide:(0:Int)<=4294967295);omega⟩
def Mul64(n:Nat)(b:Bool)(x y:Int)(h:Hp)(hx:0<=x)(IU:x<=18446744073709551615)(hy:0<=y)(Ny:y<=18446744073709551615):
 cu cx (n+1) b 265 [.sc (.int .u64 x),.sc (.int .u64 y)] h=some (.tp [.sc (.int .u64 (x*y/18446744073709551616)),.sc (.int .u64 (x*y % 18446744073709551616))],h):=by
 obtain⟨x0,hx0⟩:∃x0,x0=x % 4294967296:=⟨_,rfl⟩;obtain⟨x1,ZS⟩:∃x1,x1=x/4294967296:=⟨_,rfl⟩;obtain⟨y0,Ol⟩:∃y0,y0=y % 4294967296:=⟨_,rfl⟩;obtain⟨y1,IW⟩:∃y1,y1=y/4294967296:=⟨_,rfl⟩;have am:∀z:Int,0<=z->((z.toNat &&& 4294967295:Nat):Int)=z % 4294967296:=λz hz=>by rw[aeL];omega
 have b00:=Mt (x:=x0) (y:=y0) (by omega) (by omega) (by omega) (by omega);have b10:=Mt (x:=x1) (y:=y0) (by omega) (by omega) (by omega) (by omega);have b01:=Mt (x:=x0) (y:=y1) (by omega) (by omega) (by omega) (by omega);have b11:=Mt (x:=x1) (y:=y1) (by omega) (by omega) (by omega) (by omega);have exy:x*y=x1*y1*18446744073709551616+(x1*y0+x0*y1)*4294967296+x0*y0:=by
  have ex:x=x1*4294967296+x0:=by omega
  have ey:y=y1*4294967296+y0:=by omega
  rw[ex,ey,Int.add_mul,Int.mul_add,Int.mul_add,Int.add_mul];have e1:x1*4294967296*(y1*4294967296)=x1*y1*18446744073709551616:=by rw[Int.mul_assoc,<-Int.mul_assoc 4294967296,Int.mul_comm 4294967296 y1,Int.mul_assoc y1,<-Int.mul_assoc x1];rfl
  have e2:x1*4294967296*y0=x1*y0*4294967296:=by rw[Int.mul_assoc,Int.mul_comm 4294967296 y0,<-Int.mul_assoc]
  have e3:x0*(y1*4294967296)=x0*y1*4294967296:=by rw[Int.mul_assoc]
  omega
 obtain⟨P,hP⟩:∃P,P=x0*y0:=⟨_,rfl⟩;obtain⟨Q,hQ⟩:∃Q,Q=x1*y0:=⟨_,rfl⟩;obtain⟨R,hR⟩:∃R,R=x0*y1:=⟨_,rfl⟩;obtain⟨S,hS⟩:∃S,S=x1*y1:=⟨_,rfl⟩;rw[<-hP]at b00 exy;rw[<-hQ]at b10 exy;rw[<-hR]at b01 exy;rw[<-hS]at b11 exy;have Ct:S+(Q+P/4294967296)/4294967296+((Q+P/4294967296) % 4294967296+R)/4294967296=x*y/18446744073709551616:=by omega
 have hlo:dA .u64 (x*y)=x*y % 18446744073709551616:=by
  rw[nH];simp[IntKind.wrap,IntKind.signed,IntKind.bits]
 have ae:dA .u64 P=P:=ny (by omega) (by omega);have af:dA .u64 Q=Q:=ny (by omega) (by omega);have ah:dA .u64 (Q+P/4294967296)=Q+P/4294967296:=ny (by omega) (by omega);have ai:dA .u64 R=R:=ny (by omega) (by omega);have ak:dA .u64 ((Q+P/4294967296) % 4294967296+R)=(Q+P/4294967296) % 4294967296+R:=ny (by omega) (by omega);have aj:dA .u64 S=S:=ny (by omega) (by omega);have ao:dA .u64 (S+(Q+P/4294967296)/4294967296)=S+(Q+P/4294967296)/4294967296:=ny (by omega) (by omega);have aq:dA .u64 (S+(Q+P/4294967296)/4294967296+((Q+P/4294967296) % 4294967296+R)/4294967296)=S+(Q+P/4294967296)/4294967296+((Q+P/4294967296) % 4294967296+R)/4294967296:=ny (by omega) (by omega);have a1:=am x hx;have a2:=am y hy;have a3:=am (Q+P/4294967296) (by omega);have p3:0<=Q+P/4294967296:=by omega
 have q3:Q+P/4294967296<=18446744073709551615:=by omega
 rw[<-hx0]at a1;rw[<-Ol]at a2;have r:=Ct.symm;refine IL (r:= .tp [.sc (.int .u64 (x*y/18446744073709551616)),.sc (.int .u64 (x*y % 18446744073709551616))]) (h':=[]) f265 [.tmp 4,.tmp 5] rfl ?_ rfl b h;simp[f265,hx,IU,hy,Ny,a1,a2,<-ZS,<-IW,<-hP,<-hQ,<-hR,<-hS,ae,af,ah,p3,q3,a3,ai,ak,aj,ao,aq,hlo,r,IntKind.bits]
def D0(n:Nat)(b:Bool)(x:Int)(h:Hp)(hx:tI x=true):cu cx (n+1) b 266 [x] h=some (.sc (.int .u64 x.natAbs),h):=by
 rw[mD]at hx;refine fU f266 [.tmp 2] rfl rfl ?_ b h;by_cases h1:x<0
 .have ae:dA .u64 x=x+18446744073709551616:=by
   rw[nH];simp only[IntKind.wrap,IntKind.signed,IntKind.bits,Bool.false_and,Yl,if_false];omega
  have af:dA .u64 (-(x+18446744073709551616))=(x.natAbs:Int):=by
   rw[nH];simp only[IntKind.wrap,IntKind.signed,IntKind.bits,Bool.false_and,Yl,if_false];omega
  simp[f266,h1,ae,af]
 .have ae:dA .u64 x=x:=ny (by omega) (by omega);have af:x=(x.natAbs:Int):=by omega
  simp[f266,h1,ae];exact af
def wA(g:Bool)(m:Int):AV:= .ag [g,.sc (.int .u64 (m/18446744073709551616)),.sc (.int .u64 (m % 18446744073709551616))]
def wI(n:Nat)(b:Bool)(x y:Int)(h:Hp)(hx:tI x=true)(hy:tI y=true):
 cu cx (n+2) b 200 [x,y] h=some (wA (decide (x<0) !=decide (y<0)) (x.natAbs*y.natAbs:Nat),h):=by
 have IU:=hx;have Ny:=hy;rw[mD]at hx hy;refine fU f200 [.cell 4 3 true] rfl rfl ?_ b h;simp[f200,D0 _ _ _ _ IU,D0 _ _ _ _ Ny,Mul64 _ _ (x.natAbs:Int) (y.natAbs:Int) _ (by omega) (by omega) (by omega) (by omega),wA]
def O_(n:Nat)(b:Bool)(g g':Bool)(x y:Int)(h:Hp):cu cx (n+1) b 268 [wA g x,wA g' y] h=some (.sc (.bool (decide (x<y))),h):=by
 refine fU f268 [.tmp 4] rfl rfl ?_ b h;by_cases h1:x/18446744073709551616<y/18446744073709551616
 .have h0:x<y:=by omega
  simp[f268,wA,h1,h0]
 .by_cases h2:x/18446744073709551616=y/18446744073709551616
  .have h0:(x % 18446744073709551616<y % 18446744073709551616)=(x<y):=propext (by omega);simp[f268,wA,h2,h0]
  .have h0:¬x<y:=by omega
   simp[f268,wA,h1,h2,h0]
def sgW(g:Bool)(m:Int):Int:=if m=0 then 0 else bif g then-1 else 1
def Pa(n:Nat)(b:Bool)(g:Bool)(x:Int)(h:Hp)(h0:0<=x)(h1:x<18446744073709551616*18446744073709551616):cu cx (n+1) b 202 [wA g x] h=some (.sc (.int .i64 (sgW g x)),h):=by
 refine fU f202 [.tmp 2] rfl rfl ?_ b h;have a1:0<=x/18446744073709551616:=by omega
 have a2:x/18446744073709551616<=18446744073709551615:=by omega
 have a3:0<=x % 18446744073709551616:=by omega
 have a4:x % 18446744073709551616<=18446744073709551615:=by omega
 by_cases hz:x=0
 .subst hz;simp[f202,wA,sgW]
 .by_cases h2:x/18446744073709551616<=0
  .have h3:¬x % 18446744073709551616<=0:=by omega
   cases g<;>simp[f202,wA,sgW,hz,a1,a2,a3,a4,h2,h3]
  .cases g<;>simp[f202,wA,sgW,hz,a1,a2,a3,a4,h2]
def nL{f:FuncId}{fr:LA}{A B D:Operand}{x y c:Value}(hA:ev cx fr A= .sc x)(hB:ev cx fr B= .sc y)(hD:ev cx fr D= .sc c){d:Option Tmp}{wO:Array TypeId}{t:TypeId}{p:String}{a:Array Edge}{g:Option (Nat × Bool)}{r:Value}{R:AV}(hr:jL cx.P (callFunc f #[x,y,c])=some (.value r))(hR:zI r=some R):mO cx (ev cx fr) {dst:=d,op:= .call {callee:= .value (.func f),args:= #[A,B,D],argTypes:=wO},type:=t,pos:=p,after:=a,guard:=g}=some R:=by
 unfold mO;have e:execOp (λx=>tS (ev cx fr x)) {dst:=d,op:= .call {callee:= .value (.func f),args:= #[A,B,D],argTypes:=wO},type:=t,pos:=p,after:=a,guard:=g}=callFunc f #[x,y,c]:=by
  simp[execOp,resolve,Deferred.ofValue,invoke,tS,hA,hB,hD]
 rw[e,hr];simp[pD,Op.operands,Call.operands,tR,hA,hB,hD,hR]
def YX(x y:Int):jL cx.P (callFunc 267 #[.int .u64 x,.int .u64 y,.int .u64 0])=some (.value (.tuple #[.int .u64 ((x.toNat+y.toNat+0) % 18446744073709551616:Nat),.int .u64 ((x.toNat+y.toNat+0)/18446744073709551616:Nat)])):=by kernel_rfl
def YZ(x y:Int):jL cx.P (callFunc 267 #[.int .u64 x,.int .u64 y,.int .u64 1])=some (.value (.tuple #[.int .u64 ((x.toNat+y.toNat+1) % 18446744073709551616:Nat),.int .u64 ((x.toNat+y.toNat+1)/18446744073709551616:Nat)])):=by kernel_rfl
def Y0(x y:Int):jL cx.P (callFunc 269 #[.int .u64 x,.int .u64 y,.int .u64 0])=some (.value (.tuple #[.int .u64 ((x.toNat+18446744073709551616-y.toNat-0) % 18446744073709551616:Nat),.int .u64 (if x.toNat<y.toNat+0 then 1 else 0:Nat)])):=by kernel_rfl
def Y1(x y:Int):jL cx.P (callFunc 269 #[.int .u64 x,.int .u64 y,.int .u64 1])=some (.value (.tuple #[.int .u64 ((x.toNat+18446744073709551616-y.toNat-1) % 18446744073709551616:Nat),.int .u64 (if x.toNat<y.toNat+1 then 1 else 0:Nat)])):=by kernel_rfl
def aas(x y c:Int)(hx:0<=x)(hy:0<=y)(hc:c=0\/c=1):jL cx.P (callFunc 267 #[.int .u64 x,.int .u64 y,.int .u64 c])=some (.value (.tuple #[.int .u64 ((x+y+c) % 18446744073709551616),.int .u64 ((x+y+c)/18446744073709551616)])):=by
 rcases hc with rfl|rfl
 .rw[YX,show(((x.toNat+y.toNat+0) % 18446744073709551616:Nat):Int)=(x+y+0) % 18446744073709551616 by omega,show(((x.toNat+y.toNat+0)/18446744073709551616:Nat):Int)=(x+y+0)/18446744073709551616 by omega]
 .rw[YZ,show(((x.toNat+y.toNat+1) % 18446744073709551616:Nat):Int)=(x+y+1) % 18446744073709551616 by omega,show(((x.toNat+y.toNat+1)/18446744073709551616:Nat):Int)=(x+y+1)/18446744073709551616 by omega]
def Mu(x y c:Int)(hx:0<=x)(hy:0<=y)(Ny:y<18446744073709551616)(hc:c=0\/c=1):jL cx.P (callFunc 269 #[.int .u64 x,.int .u64 y,.int .u64 c])=some (.value (.tuple #[.int .u64 ((x+18446744073709551616-y-c) % 18446744073709551616),.int .u64 (if x<y+c then 1 else 0)])):=by
 rcases hc with rfl|rfl
 .rw[Y0,show(((x.toNat+18446744073709551616-y.toNat-0) % 18446744073709551616:Nat):Int)=(x+18446744073709551616-y-0) % 18446744073709551616 by omega,show((if x.toNat<y.toNat+0 then 1 else 0:Nat):Int)=if x<y+0 then 1 else 0 by split<;>split<;>omega]
 .rw[Y1,show(((x.toNat+18446744073709551616-y.toNat-1) % 18446744073709551616:Nat):Int)=(x+18446744073709551616-y-1) % 18446744073709551616 by omega,show((if x.toNat<y.toNat+1 then 1 else 0:Nat):Int)=if x<y+1 then 1 else 0 by split<;>split<;>omega]
def plG(g g':Bool)(x y:Int):Bool:=bif g==g' then g else bif decide (x<y)then g' else g
def Ux(g g':Bool)(x y:Int):Int:=bif g==g' then x+y else bif decide (x<y)then y-x else x-y
def Pb(n:Nat)(b:Bool)(g g':Bool)(x y:Int)(h:Hp)(hx:0<=x)(IU:x<18446744073709551616*9223372036854775808)(hy:0<=y)(Ny:y<18446744073709551616*9223372036854775808):
 cu cx (n+2) b 201 [wA g x,wA g' y] h=some (wA (plG g g' x y) (Ux g g' x y),h):=by
 refine fU f201 [.cell 4 3 true] rfl rfl ?_ b h;obtain⟨xh,hxh⟩:∃v,v=x/18446744073709551616:=⟨_,rfl⟩;obtain⟨xl,Bk⟩:∃v,v=x % 18446744073709551616:=⟨_,rfl⟩;obtain⟨yh,hyh⟩:∃v,v=y/18446744073709551616:=⟨_,rfl⟩;obtain⟨yl,IY⟩:∃v,v=y % 18446744073709551616:=⟨_,rfl⟩;cases hg:g==g' with
 |
  true=>
  have hc:(xl+yl)/18446744073709551616=0\/(xl+yl)/18446744073709551616=1:=by omega
  simp[f201,wA,plG,Ux,hg,<-hxh,<-Bk,<-hyh,<-IY];rw[nL ?_ ?_ ?_ (aas xl yl 0 (by omega) (by omega) (.inl rfl)) rfl]
  rotate_left
  .rfl
  .rfl
  .rfl
  simp;rw[nL ?_ ?_ ?_ (aas xh yh ((xl+yl)/18446744073709551616) (by omega) (by omega) hc) rfl]
  rotate_left
  .rfl
  .rfl
  .rfl
  have ae:(xl+yl) % 18446744073709551616=(x+y) % 18446744073709551616:=by omega
  have af:(xh+yh+(xl+yl)/18446744073709551616) % 18446744073709551616=(x+y)/18446744073709551616:=by omega
  simp[ae,af]
 |
  false=>
  have hl:=λh=>O_ n true g g' x y h
  simp only[wA,<-hxh,<-Bk,<-hyh,<-IY]at hl;by_cases du:x<y
  .simp only[du,decide_true]at hl;have hc:(if yl<xl then(1:Int)else 0)=0\/(if yl<xl then(1:Int)else 0)=1:=by split<;>simp
   simp[f201,wA,plG,Ux,hg,<-hxh,<-Bk,<-hyh,<-IY,du,hl];rw[nL ?_ ?_ ?_ (Mu yl xl 0 (by omega) (by omega) (by omega) (.inl rfl)) rfl]
   rotate_left
   .rfl
   .rfl
   .rfl
   simp;rw[nL ?_ ?_ ?_ (Mu yh xh (if yl<xl then 1 else 0) (by omega) (by omega) (by omega) hc) rfl]
   rotate_left
   .rfl
   .rfl
   .rfl
   have ae:(yl+18446744073709551616-xl) % 18446744073709551616=(y-x) % 18446744073709551616:=by omega
   have af:(yh+18446744073709551616-xh-(if yl<xl then 1 else 0)) % 18446744073709551616=(y-x)/18446744073709551616:=by split<;>omega
   simp[ae,af]
  .simp only[du,decide_false]at hl;have hc:(if xl<yl then(1:Int)else 0)=0\/(if xl<yl then(1:Int)else 0)=1:=by split<;>simp
   simp[f201,wA,plG,Ux,hg,<-hxh,<-Bk,<-hyh,<-IY,du,hl];rw[nL ?_ ?_ ?_ (Mu xl yl 0 (by omega) (by omega) (by omega) (.inl rfl)) rfl]
   rotate_left
   .rfl
   .rfl
   .rfl
   simp;rw[nL ?_ ?_ ?_ (Mu xh yh (if xl<yl then 1 else 0) (by omega) (by omega) (by omega) hc) rfl]
   rotate_left
   .rfl
   .rfl
   .rfl
   have ae:(xl+18446744073709551616-yl) % 18446744073709551616=(x-y) % 18446744073709551616:=by omega
   have af:(xh+18446744073709551616-yh-(if xl<yl then 1 else 0)) % 18446744073709551616=(x-y)/18446744073709551616:=by split<;>omega
   simp[ae,af]
def jb(z:Int):Int:=if z<0 then-1 else if 0<z then 1 else 0
def Uy(n1 d1 n2 d2:Int)(h1:0<d1)(h2:0<d2):
 sgW (plG (decide (n1<0) !=decide (d2<0)) (decide (-n2<0) !=decide (d1<0)) (n1.natAbs*d2.natAbs:Nat) ((-n2).natAbs*d1.natAbs:Nat))
  (Ux (decide (n1<0) !=decide (d2<0)) (decide (-n2<0) !=decide (d1<0)) (n1.natAbs*d2.natAbs:Nat) ((-n2).natAbs*d1.natAbs:Nat))=jb (n1*d2-n2*d1):=by
 obtain⟨p,hp⟩:∃p,p=n1*d2:=⟨_,rfl⟩;obtain⟨q,hq⟩:∃q,q=n2*d1:=⟨_,rfl⟩;have e1:((n1.natAbs*d2.natAbs:Nat):Int)=(p.natAbs:Int):=by rw[hp,Int.natAbs_mul]
 have e2:(((-n2).natAbs*d1.natAbs:Nat):Int)=(q.natAbs:Int):=by rw[hq,Int.natAbs_mul,Int.natAbs_neg]
 have g1:(n1<0)=(p<0):=propext ⟨λh=>by rw[hp];exact Int.mul_neg_of_neg_of_pos h h2,λh=>by
  rw[hp]at h;apply Classical.byContradiction;intro hn;have:=Int.mul_nonneg (Int.not_lt.1 hn) (Int.le_of_lt h2);omega⟩
 have g2:(-n2<0)=(0<q):=propext ⟨λh=>by rw[hq];exact Int.mul_pos (by omega) h1,λh=>by
  rw[hq]at h;apply Classical.byContradiction;intro hn;have:=Int.mul_nonneg (show 0<= -n2 by omega) (Int.le_of_lt h1);rw[Int.neg_mul]at this;omega⟩
 rw[e1,e2,<-hp,<-hq];have d10:decide (d1<0)=false:=decide_eq_false (by omega);have d20:decide (d2<0)=false:=decide_eq_false (by omega);simp only[g1,g2,d10,d20,Bool.bne_false,sgW,plG,Ux,jb];by_cases a:p<0<;>by_cases b:0<q<;>by_cases c:(p.natAbs:Int)<q.natAbs<;>simp[a,b,c]<;>(repeat' split)<;>omega
def Uz{g g':Bool}{x y B:Int}(hx:0<=x)(hy:0<=y)(IU:x<=B)(Ny:y<=B):0<=Ux g g' x y/\Ux g g' x y<=2*B:=by
 unfold Ux;cases g==g' with
 |true=>simp only[cond_true];omega
 |
  false=>
  by_cases h:x<y
  .simp only[h,decide_true,cond_true,cond_false];omega
  .simp only[h,decide_false,cond_false];omega
def gD(N D:Int):Int:=bif fv N D then N else 0
def jM(N D:Int):Int:=bif fv N D then D else 1
def zY(N D:Int):tI (gD N D)=true/\tI (jM N D)=true/\0<jM N D:=by
 unfold gD jM;cases h:fv N D with
 |true=>obtain⟨h1,h2,h3⟩:=acL h;exact⟨h1,h2,h3⟩
 |false=>exact⟨rfl,rfl,(by decide:(0:Int)<1)⟩
def wW(N1 D1 N2 D2:Int):Int:=jb (gD N1 D1*jM N2 D2-gD N2 D2*jM N1 D1)
def Mv{x:Int}(h:tI x=true):tI (-x)=true:=by rw[mD]at *;omega
def IC{x y:Int}(hx:tI x=true)(hy:tI y=true):((x.natAbs*y.natAbs:Nat):Int)<=1000000000000000000000000000000:=by
 rw[mD]at *;have:=Nat.mul_le_mul (show x.natAbs<=1000000000000000 by omega) (show y.natAbs<=1000000000000000 by omega);omega
@[simp] def af2(fr:LA):ev cx fr (.global 0)= .rp [(0:Int),(1:Int)] 0:=rfl
@[simp] def aj6{C:Cx}{eG:FuncId->LA->Hp->Option (AV × Hp)}{ops:Array Oper}(d:Tmp)(rest:List Oper)(fr:LA)(g:Bool)(m:Int)(h:Hp):vG C eG ops (some d) rest fr (some (wA g m,h))=dG C eG ops rest (fr.set d (wA g m),h):=rfl
def Qj(n:Nat)(b:Bool)(N1 D1 N2 D2:Int)(h:Hp):cu cx (n+4) b 134 [mE N1 D1,mE N2 D2] h=some (.sc (.int .i64 (wW N1 D1 N2 D2)),h):=by
 refine fU f134 [.tmp 4] rfl rfl ?_ b h;obtain⟨a1,a2,a3⟩:=zY N1 D1;obtain⟨b1,b2,b3⟩:=zY N2 D2;have hm:=Uy (gD N1 D1) (jM N1 D1) (gD N2 D2) (jM N2 D2) a3 b3;have l1:=IC a1 b2;have l2:=IC (Mv b1) a2;have c1:=λh=>wI (n+1) false _ _ h a1 b2
 have c2:=λh=>wI (n+1) false _ _ h (Mv b1) a2
 have c3:=λh=>Pb (n+1) false (decide (gD N1 D1<0) !=decide (jM N2 D2<0)) (decide (-gD N2 D2<0) !=decide (jM N1 D1<0)) _ _ h (Int.natCast_nonneg ((gD N1 D1).natAbs*(jM N2 D2).natAbs)) (by omega) (Int.natCast_nonneg ((-gD N2 D2).natAbs*(jM N1 D1).natAbs)) (by omega)
 have c4:=λh=>Pa (n+2) false (plG (decide (gD N1 D1<0) !=decide (jM N2 D2<0)) (decide (-gD N2 D2<0) !=decide (jM N1 D1<0)) ((gD N1 D1).natAbs*(jM N2 D2).natAbs:Nat) ((-gD N2 D2).natAbs*(jM N1 D1).natAbs:Nat)) (Ux (decide (gD N1 D1<0) !=decide (jM N2 D2<0)) (decide (-gD N2 D2<0) !=decide (jM N1 D1<0)) ((gD N1 D1).natAbs*(jM N2 D2).natAbs:Nat) ((-gD N2 D2).natAbs*(jM N1 D1).natAbs:Nat)) h
  (Uz (Int.natCast_nonneg _) (Int.natCast_nonneg _) l1 l2).1 (by have:=(Uz (g:=decide (gD N1 D1<0) !=decide (jM N2 D2<0)) (g':=decide (-gD N2 D2<0) !=decide (jM N1 D1<0)) (Int.natCast_nonneg _) (Int.natCast_nonneg _) l1 l2).2;omega)
 rw[hm]at c4;generalize(decide (gD N1 D1<0) !=decide (jM N2 D2<0))=g1 at c1 c3 c4;generalize(decide (-gD N2 D2<0) !=decide (jM N1 D1<0))=g2 at c2 c3 c4;generalize(((gD N1 D1).natAbs*(jM N2 D2).natAbs:Nat):Int)=m1 at c1 c3 c4;generalize(((-gD N2 D2).natAbs*(jM N1 D1).natAbs:Nat):Int)=m2 at c2 c3 c4;generalize plG g1 g2 m1 m2=g3,Ux g1 g2 m1 m2=m3 at c3 c4;have hf:dA .i64 (-gD N2 D2)= -gD N2 D2:=by have:=(mD _).1 b1;exact cK (by omega) (by omega)
 cases hA:fv N1 D1<;>cases hB:fv N2 D2<;>simp only[gD,jM,hA,hB,cond_true,cond_false]at c1 c2 c3 c4 hf
 case' false.false=>
  have q:wA g2 m2=wA g1 m1:=by
   have q:=c2 [];rw[Int.neg_zero,c1 []]at q;simp only[Zc,Zg,and_true]at q;exact q.symm
  rw[q]at c3
 all_goals
  have JI:=λn b h=>ur n b N1 D1 h
  have Oj:=λn b h=>ur n b N2 D2 h
  simp only[mE]at JI Oj
  try simp only[Int.neg_zero]at c2 hf
  simp[f134,mE,JI,Oj,hA,hB,c1,c2,c3,c4,hf,wW,gD,jM]
end
def vl :List Int->Int
 | []=>0
 |d::ds=>d+1000*vl ds
def oD :Nat->Int->List Int
 |0,_=> []
 |n+1,m=>m % 1000::oD n (m/1000)
def Cz(ds:List Int):Prop:=∀d∈ds,0<=d/\d<1000
def o_ :∀(n:Nat)(m:Int),(oD n m).length=n
 |0,_=>rfl
 |n+1,m=>by simp[oD,o_ n]
def Mw :∀{ds:List Int},Cz ds->0<=vl ds/\vl ds<1000^ds.length
 | [],_=>by simp[vl]
 |
  d::ds,h=>by
  have h1:=h d (by simp);have h2:=Mw (ds:=ds) λx hx=>h x (by simp[hx])
  simp only[vl,Ys,Int.pow_succ];omega
def Mx :∀{ds:List Int},Cz ds->oD ds.length (vl ds)=ds
 | [],_=>rfl
 |
  d::ds,h=>by
  have h1:=h d (by simp);have h2:=Mx (ds:=ds) λx hx=>h x (by simp[hx])
  simp only[vl,Ys,oD];rw[show(d+1000*vl ds) % 1000=d by omega,show(d+1000*vl ds)/1000=vl ds by omega,h2]
def BJ :∀(n:Nat)(m:Int),Cz (oD n m)
 |0,_,d,h=>by simp[oD]at h
 |
  n+1,m,d,h=>by
  simp only[oD,Yv]at h;rcases h with rfl|h
  .omega
  .exact BJ n _ d h
def Fs :∀(n:Nat)(m:Int),0<=m->m<1000^n->vl (oD n m)=m
 |0,m,h0,h1=>by simp at h1;simp[oD,vl];omega
 |
  n+1,m,h0,h1=>by
  rw[Int.pow_succ]at h1;simp only[oD,vl];rw[Fs n (m/1000) (by omega) (by omega)];omega
def UA :∀(ds:List Int)(k:Nat)(o x:Int),ds[k]?=some o->vl (ds.set k x)=vl ds+(x-o)*1000^k
 | [],k,o,x,h=>by simp at h
 |
  d::ds,0,o,x,h=>by
  simp at h;subst h;simp[vl];omega
 |
  d::ds,k+1,o,x,h=>by
  simp at h;simp only[List.set_cons_succ,vl,UA ds k o x h,Int.pow_succ]
  grind
def Y2{ds:List Int}(h:Cz ds)(k:Nat){x:Int}(hx:0<=x/\x<1000):Cz (ds.set k x):=by
 intro d hd;rcases List.mem_or_eq_of_mem_set hd with h1|h1
 .exact h d h1
 .rw[h1];exact hx
def UB :∀n,vl (List.replicate n 0)=0
 |0=>rfl
 |n+1=>by simp[List.replicate_succ,vl,UB n]
def UC(p o cy d c s:Int)(hs:s=cy+o+d*(c % 1000)):(s % 1000-o)*p+(s/1000+d*(c/1000))*(p*1000)=(cy+d*c)*p:=by
 have h1:s=1000*(s/1000)+s % 1000:=by omega
 have h2:c=1000*(c/1000)+c % 1000:=by omega
 have h3:d*c=d*(1000*(c/1000))+d*(c % 1000):=by rw[<-Int.mul_add,<-h2]
 generalize s/1000=u,s % 1000=v,c/1000=e,c % 1000=f at *;rw[h3]
 grind
section
attribute [local simp] ew eY
def xP{j:Nat}(h:(1000:Int)^j<=1000000000000000000000000000000):j<11:=by
 apply Classical.byContradiction;intro hn;have h1:(1000:Nat)^11<=1000^j:=Nat.pow_le_pow_right (by decide) (by omega);have h2:((1000^j:Nat):Int)=(1000:Int)^j:=by simp
 omega
def Pc{k i A:Nat}(hk:0<k)(h:(k:Int)*1000^i<=A)(hA:A<=1000000000000000):(1000:Int)^i<=1000000000000000000000000000000:=by
 have h1:(1:Int)*1000^i<=k*1000^i:=Xb (by omega) (Int.pow_nonneg (by decide));omega
def ajm{k i A:Nat}(h:(k:Int)*1000^i<=A)(hA:A<=1000000000000000):k<=1000000000000000:=by
 have h2:((1000^i:Nat):Int)=(1000:Int)^i:=by simp
 have h3:0< (1000:Nat)^i:=Nat.pow_pos (by decide);have h1:(k:Int)*1<=k*1000^i:=Int.mul_le_mul_of_nonneg_left (by omega) (by omega);omega
def ajn{k i A B:Nat}{v:Int}(hA:A<=1000000000000000)(hB:B<=1000000000000000)(hv:v+k*B*1000^i=A*B):v+((k % 1000:Nat):Int)*B*1000^i<=1000000000000000000000000000000:=by
 have h1:((k % 1000:Nat):Int)*B*1000^i<=k*B*1000^i:=Xb (Xb (by omega) (by omega)) (Int.pow_nonneg (by decide));have h2:(A:Int)*B<=1000000000000000*1000000000000000:=Int.mul_le_mul (by omega) (by omega) (by omega) (by decide);omega
def dg(ds:List Int):LA:=ds.map λd=> .sc (.int .i64 d)
def rR(ds:List Int):AV:= .ls 1 (ds.map λd=> [.sc (.int .i64 d)]) false
@[simp] def adg(ds:List Int):(dg ds).length=ds.length:=by simp[dg]
def acM{ds:List Int}{k:Nat}{o:Int}(h:ds[k]?=some o):(dg ds)[k]?=some (.sc (.int .i64 o)):=by simp[dg,h]
def tz(ds:List Int)(k:Nat)(x:Int)(h:k<ds.length):cF (dg ds) k [x]=dg (ds.set k x):=by
 unfold cF dg;rw[List.set_eq_take_append_cons_drop,cw h];simp
def Y3(h:Hp)(n:Nat)(ds:List Int):(dg ds).mapM (da h n)=some (dg ds):=by
 induction ds with
 |nil=>rfl
 |cons d ds ih=>
  show List.mapM (da h n) (AV.sc (.int .i64 d)::dg ds)=_;rw[Zo,ih];cases n<;>rfl
def Ft(ds:List Int)(k:Bool)(h:Hp)(id:Nat)(hr:gu h id=some (dg ds)):da h 8 (.sl id 1 0 ds.length k)=some (rR ds):=by
 simp only[da,hr];rw[cw (by simp)];have e:List.take (ds.length*1) (List.drop 0 (dg ds))=dg ds:=by
  rw[Yd,Yy (by simp)]
 rw[e,Y3];simp only[Yw,rR,Zc,AV.ls.injEq,true_and,and_true];apply List.ext_getElem?;intro i;by_cases hi:i<ds.length
 .rw[Zs,Yz hi,Zs,Zb hi];simp[dg,Zm,hi]
 .rw[Xc (by simp;omega),Xc (by simp;omega)]
def UD{i j k B d c A:Nat}{cy T:Int}{es:List Int}(hk:0<k)(hki:(k:Int)*1000^i<=A)(hA:A<=1000000000000000)(hB:B<=1000000000000000)(A_:(c:Int)*1000^j<=B*1000^i)(Vd:Cz es)(u9:vl es+(cy+d*c)*1000^j=T)(hT:T<=1000000000000000000000000000000)(hgo:0<c\/0<cy):j<11:=by
 have hvb:=Mw Vd;have hpj:(0:Int)<1000^j:=Int.pow_pos (by decide);have hpi:(0:Int)<1000^i:=Int.pow_pos (by decide);have hdc:(0:Int)<=d*c:=Int.mul_nonneg (by omega) (by omega);apply xP;rcases hgo with hc|hc
 .have q1:(1:Int)*1000^j<=c*1000^j:=Xb (by omega) (Int.le_of_lt hpj);have q2:(B:Int)*1000^i<=10^15*1000^i:=Xb (by omega) (Int.le_of_lt hpi);have q3:(1:Int)*1000^i<=k*1000^i:=Xb (by omega) (Int.le_of_lt hpi);generalize(1000:Int)^j=u,(1000:Int)^i=v at *;omega
 .have q1:(1:Int)*1000^j<=(cy+d*c)*1000^j:=Xb (by omega) (Int.le_of_lt hpj);omega
def KO{d c e f:Nat}{cy o S:Int}(hd:d<=999)(hc:c<=1000000000000000)(ho:0<=o/\o<1000)(Ol:0<=cy)(IW:cy<=2000)(he:e=c % 1000)(hf:f=c/1000)(hS:S=cy+o+d*e):
 (0<=S/\S<=2000000)/\S.tmod 1000=S % 1000/\S.tdiv 1000=S/1000/\dA .i64 (cy+o)=cy+o/\dA .i64 ((d:Int)*e)=d*e/\dA .i64 (cy+o+d*e)=S/\dA .i64 (f:Int)=f/\dA .i64 (S/1000)=S/1000:=by
 have hde:(0:Int)<=d*e/\(d:Int)*e<=999*999:=⟨Int.mul_nonneg (by omega) (by omega),Int.mul_le_mul (by omega) (by omega) (by omega) (by decide)⟩;have b:0<=S/\S<=2000000:=by omega
 exact⟨b,Int.tmod_eq_emod_of_nonneg b.1,Int.tdiv_eq_ediv_of_nonneg b.1,cK (by omega) (by omega),cK (by omega) (by omega),by rw[<-hS];exact cK (by omega) (by omega),cK (by omega) (by omega),cK (by omega) (by omega)⟩
def KP{i j B d c e f q:Nat}{cy T o S:Int}{es:List Int}(hjq:j+q=14)(hj:j<11)(tC:i<=j)(rQ:es.length=14)(Vd:Cz es)(Kl:c<=1000000000000000)(A_:(c:Int)*1000^j<=B*1000^i)(u9:vl es+(cy+d*c)*1000^j=T)(ho:es[j]?=some o)(he:e=c % 1000)(hf:f=c/1000)(hS:S=cy+o+d*e)(hSb:0<=S/\S<=2000000):
 ∃k',k'<q/\∃(j' c':Nat)(cy':Int)(es':List Int),j'+k'=14/\i<=j'/\es'.length=14/\Cz es'/\0<=cy'/\cy'<=2000/\c'<=1000000000000000/\(c':Int)*1000^j'<=B*1000^i/\vl es'+(cy'+d*c')*1000^j'=T/\(f:Int)=c'/\S/1000=cy'/\(j:Int)+1=j'/\dg (es.set j (S % 1000))=dg es':=by
 have hpj:(0:Int)<1000^j:=Int.pow_pos (by decide);have ft:=UC (1000^j) o cy d c S (by rw[hS,he];simp);have kQ:=UA es j o (S % 1000) ho;have Dx:vl (es.set j (S % 1000))+(S/1000+d*f)*1000^(j+1)=T:=by
  have Mm:((f:Nat):Int)=(c:Int)/1000:=by rw[hf];simp
  rw[kQ,Mm,Int.pow_succ,<-u9,<-ft]
  grind
 have Cn:(f:Int)*1000^(j+1)<=B*1000^i:=by
  refine Int.le_trans ?_ A_;have e1:(f:Int)*1000<=c:=by omega
  have:=Xb e1 (Int.le_of_lt hpj);rw[Int.pow_succ]
  grind
 clear ft kQ A_ u9;exact⟨q-1,by omega,j+1,f,S/1000,es.set j (S % 1000),by omega,by omega,by simpa using rQ,Y2 Vd j (by omega),by omega,by omega,by omega,Cn,Dx,rfl,rfl,by omega,rfl⟩
def ID(n:Nat)(b:Bool)(x:Int)(h:Hp):cu cx (n+1) b 170 [x] h=some (.sc (.int .i64 (jb x)),h):=by
 refine fU f170 [.tmp 2] rfl rfl ?_ b h;by_cases h1:x<0
 .simp[f170,h1,jb]
 .by_cases h2:0<x<;>simp[f170,h1,h2,jb]
def D3(n:Nat)(b:Bool)(A B:Nat)(h:Hp)(hA:A<=1000000000000000)(hB:B<=1000000000000000):
 cu cx (n+1) b 171 [A,B] h=some (rR (oD 14 (A*B)),h):=by
 refine sY (r:= .sl 0 1 0 14 false) (r':=rR (oD 14 (A*B))) (h':=[.row (dg (oD 14 (A*B)))]) ⟨f171.ntmps,(f171.body).getD .skip,[.tmp 4]⟩ (by kernel_rfl) (by kernel_rfl) rfl (by kernel_rfl) (by simp[f171]) rfl ?_ ?_ b h
 .have UE:List.flatMap (λ_=> [AV.sc (Value.int IntKind.i64 0)]) (List.range 14)=dg (List.replicate 14 0):=rfl;simp[f171,show 14<=maxLen from(by unfold maxLen;omega),UE, -List.reduceReplicate];refine qe (G:=λx=>dT _ (jC _ _ (gJ _ x) _)=_)
   (λk s=>∃(i:Nat)(ds:List Int),ds.length=14/\Cz ds/\(k:Int)*1000^i<=A/\vl ds+k*B*1000^i=A*B/\s.1.length=51/\gt s.1 0=k/\gt s.1 1=B/\gt s.1 5= .sl 0 1 0 14 false/\gt s.1 6=i/\s.2=[.row (dg ds)])
   (λo s=>o= .exit 0/\s.1.length=51/\gt s.1 5= .sl 0 1 0 14 false/\s.2=[.row (dg (oD 14 (A*B)))]) A (by simp;omega) ⟨0,List.replicate 14 0,rfl,by intro d hd;have:=(List.mem_replicate.1 hd).2;omega,by simp,by rw[UB];simp,by simp⟩ ?_ ?_
  .rintro k fr h ⟨i,ds,U_,jB,hki,hv,cp,h0,h1,h5,h6,rfl⟩;simp only at cp h0 h1 h5 h6;by_cases hk:0<k
   .obtain⟨u,hu⟩:∃u,u=k/1000:=⟨_,rfl⟩;obtain⟨d,hd⟩:∃d,d=k % 1000:=⟨_,rfl⟩;have hkA:k<=1000000000000000:=ajm hki hA;have hd0:((k:Int).tmod 1000)=(d:Int):=by rw[hd];rfl
    have hd1:((k:Int).tdiv 1000)=(u:Int):=by rw[hu];rfl
    have tV:dA .i64 (u:Int)=(u:Int):=cK (by omega) (by omega);simp[cp,h0,h1,h6,hk,hd0,hd1,tV];have aeM:=Pc hk hki hA;have hd9:d<=999:=by omega
    have Wa:u<k:=by omega
    have hi14:i<=14:=by have:=xP aeM;omega
    have aeN:i+(14-i)=14:=by omega
    have hif:14-i<1125899906842624:=by omega
    have hT:vl ds+(d:Int)*B*1000^i<=1000000000000000000000000000000:=by rw[hd];exact ajn hA hB hv
    have e:(k:Int)=1000*(u:Int)+(d:Int):=by omega
    have hTe:vl ds+(d:Int)*B*1000^i+(u:Int)*B*1000^(i+1)=A*B:=by
     rw[<-hv,e,Int.pow_succ]
     grind
    have Y4:(u:Int)*1000^(i+1)<=A:=by
     refine Int.le_trans ?_ hki;have e:(u:Int)*1000<=k:=by omega
     have:=Xb e (show(0:Int)<=1000^i from Int.pow_nonneg (by decide));rw[Int.pow_succ]
     grind
    have Mm:dA .i64 ((i:Int)+1)=(i:Int)+1:=by
     have:=xP aeM;exact cK (by omega) (by omega)
    generalize hTT:vl ds+(d:Int)*B*1000^i=T at *;refine qe (G:=λx=>xO _ _ _ (jC _ _ (gJ _ (gJ _ x)) _))
     (λq s=>∃(j c:Nat)(cy:Int)(es:List Int),j+q=14/\i<=j/\es.length=14/\Cz es/\0<=cy/\cy<=2000/\c<=1000000000000000/\(c:Int)*1000^j<=B*1000^i/\vl es+(cy+d*c)*1000^j=T/\
      s.1.length=51/\gt s.1 0= .sc (.int .i64 u)/\gt s.1 1=B/\gt s.1 5= .sl 0 1 0 14 false/\gt s.1 6=i/\gt s.1 7= .sc (.int .i64 d)/\gt s.1 8=c/\gt s.1 9=cy/\gt s.1 10=j/\s.2=[.row (dg es)])
     (λo s=>o= .exit 2/\s.1.length=51/\gt s.1 0= .sc (.int .i64 u)/\gt s.1 1=B/\gt s.1 5= .sl 0 1 0 14 false/\gt s.1 6=i/\∃es,es.length=14/\Cz es/\vl es=T/\s.2=[.row (dg es)]) (14-i) hif ?_ ?_ ?_
    .refine⟨i,B,0,ds,aeN,Yq _,U_,jB,Int.le_refl _,(by decide:(0:Int)<=2000),hB,Int.le_refl _,by rw[<-hTT];simp,?_⟩;simp[cp,h1,h5,h6]
    .rintro q fr h ⟨j,c,cy,es,hjq,tC,rQ,Vd,Ol,IW,Kl,A_,u9,cp,h0,h1,h5,h6,h7,h8,h9,jv,rfl⟩;simp only at cp h0 h1 h5 h6 h7 h8 h9 jv;by_cases hgo:0<c\/0<cy
     .have hj:j<11:=UD hk hki hA hB A_ Vd u9 hT hgo;obtain⟨o,ho⟩:∃o,es[j]?=some o:=⟨es[j]'(by rw[rQ];clear u9 A_ hT hTe Y4 hki hv;omega),Zb _⟩;have hob:=Vd o (Zi ho);have hdo:=acM ho;obtain⟨e,he⟩:∃e,e=c % 1000:=⟨_,rfl⟩;obtain⟨f,hf⟩:∃f,f=c/1000:=⟨_,rfl⟩;obtain⟨S,hS⟩:∃S,S=cy+o+d*e:=⟨_,rfl⟩;have t0:((c:Int).tmod 1000)=(e:Int):=by rw[he];rfl
      have t1:((c:Int).tdiv 1000)=(f:Int):=by rw[hf];rfl
      obtain⟨sb,s1,s2,ae,af,ah,ai,ak⟩:=KO hd9 Kl hob Ol IW he hf hS;have fin:=KP hjq hj tC rQ Vd Kl A_ u9 ho he hf hS sb;have acN:j<14:=Nat.lt_trans hj (by decide);have aj:dA .i64 ((j:Int)+1)=(j:Int)+1:=by clear u9 A_ hT hTe Y4 hki hv;exact cK (by omega) (by omega)
      have RG:j+1<=es.length:=by rw[rQ];exact acN
      have mZ:=tz es j (S % 1000) RG;clear u9 A_ hT hTe Y4 hki hv;by_cases hc:0<c
      .simp[cp,h0,h1,h5,h6,h7,h8,h9,jv,hc,acN,RG,hdo,t0,t1,s1,s2,ae,af,ah,ai,ak,aj,mZ];obtain⟨k',a1,j',c',cy',es',a2,a3,a4,a5,a6,a7,a8,a9,a10,a11,a12,a13,a14⟩:=fin;exact⟨k',a1,j',a2,a3,c',cy',es',a4,a5,a6,a7,a8,a9,a10,a11,a12,a13,a14⟩
      .have hy:0<cy:=hgo.resolve_left hc;simp[cp,h0,h1,h5,h6,h7,h8,h9,jv,hc,hy,acN,RG,hdo,t0,t1,s1,s2,ae,af,ah,ai,ak,aj,mZ];obtain⟨k',a1,j',c',cy',es',a2,a3,a4,a5,a6,a7,a8,a9,a10,a11,a12,a13,a14⟩:=fin;exact⟨k',a1,j',a2,a3,c',cy',es',a4,a5,a6,a7,a8,a9,a10,a11,a12,a13,a14⟩
     .have aeO:¬0<c/\¬0<cy:=not_or.1 hgo;obtain rfl:c=0:=Nat.eq_zero_of_not_pos aeO.1;obtain rfl:cy=0:=Int.le_antisymm (Int.not_lt.1 aeO.2) Ol;have hvT:vl es=T:=by simpa using u9
      simp[cp,h0,h1,h5,h6,h8,h9];exact⟨es,rQ,Vd,hvT,rfl⟩
    .rintro o fr h hn ⟨rfl,cp,h0,h1,h5,h6,es,rQ,Vd,u9,rfl⟩;simp only at cp h0 h1 h5 h6;simp[cp,h0,h1,h5,h6,Mm];exact⟨u,Wa,i+1,es,rQ,Vd,Y4,by rw[u9];exact hTe,rfl,rfl,rfl⟩
   .obtain rfl:k=0:=by omega
    have:ds=oD 14 (A*B):=by
     rw[<-hv,<-U_];simp[Mx jB]
    simp[cp,h0,h5,this]
  .rintro o fr h hn ⟨rfl,cp,h5,rfl⟩;simp only at cp h5;simp[cp,h5]
 .have:=Ft (oD 14 (A*B)) false [.row (dg (oD 14 (A*B)))] 0 rfl
  rwa [o_]at this
end
end Go.Proofs.YtmocfjnklfpnbaaGreatDoor
