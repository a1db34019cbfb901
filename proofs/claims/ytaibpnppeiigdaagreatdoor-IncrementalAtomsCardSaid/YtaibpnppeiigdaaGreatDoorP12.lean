/- Part of the proof. -/
import Derived.Test.YtaibpnppeiigdaaGreatDoorP11
set_option linter.all false
set_option maxHeartbeats 16000000
set_option maxRecDepth 100000
namespace Go.Proofs.YtaibpnppeiigdaaGreatDoor
open Go Go.Ae Go.Proofs.Tryz
mutual
def Dl :V->Prop
 | .mk k n d s z l=>i64 k/\i64 n/\i64 d/\s.size<=1000000000000000/\l.length<=1000000000000000/\z=false/\NS l
def NS :List V->Prop
 | []=>True
 |x::xs=>Dl x/\NS xs
end
def kD :∀{l:List V},NS l->∀x∈l,Dl x
 | [],_,_,h=>by cases h
 |
  y::l,h,x,hx=>by
  rw[NS]at h;rcases Xm.1 hx with rfl|e
  .exact h.1
  .exact kD h.2 x e
def TC :∀{l:List V},(∀x∈l,Dl x)->NS l
 | [],_=>by rw[NS];trivial
 |
  y::l,h=>by
  rw[NS];exact⟨h y (by simp),TC λx hx=>h x (Xn _ hx)⟩
def PJ :∀D,(∀v:V,fB v<=D->Dl v->gV v):=by
 intro D
 induction D with
 |zero=>intro v h;have:=gZ v;omega
 |
  succ D ih=>
  intro v hd hg;cases v with
  |
   mk k n d s z l=>
   rw[Dl]at hg;rw[gV];refine⟨hg.2.2.2.1,hg.2.2.2.2.1,?_⟩;have hm:=kD hg.2.2.2.2.2.2;have:∀m:List V,(∀x∈m,fB x<=D)->(∀x∈m,Dl x)->Px m:=by
    intro m
    induction m with
    |nil=>intro _ _;rw[Px];trivial
    |cons x m ihm=>intro h1 h2;rw[Px];exact⟨ih x (h1 x (by simp)) (h2 x (by simp)),ihm (λy hy=>h1 y (Xn _ hy)) λy hy=>h2 y (Xn _ hy)⟩
   exact this l (λx hx=>by have:=oE hx;rw[fB]at hd;omega) hm
def af8 {v:V}(h:Dl v):gV v:=PJ _ v (Yt _) h
def HP {a b c d:Nat}(h:a*d=c*b)(g:Nat.gcd a b=1):b ∣ d:=by
 have h1:b ∣ a*d:=⟨c,by rw[h,Nat.mul_comm]⟩;exact Nat.Coprime.dvd_of_dvd_mul_left (Nat.Coprime.symm g) h1
def Lq {x:Int}:iU x=0↔x=0:=by unfold iU;(repeat' split)<;>omega
def ZM {n1 d1 n2 d2:Int}(h1:fv n1 d1=true)(h2:fv n2 d2=true)(h:tj n1 d1 n2 d2=0):n1=n2/\d1=d2:=by
 unfold tj gO jN at h;rw[h1,h2,Lq]at h;simp only[cond_true]at h;simp only[fv,Zh,Zz,FJ]at h1 h2;have e:n1*d2=n2*d1:=by omega
 have en:n1.natAbs*d2.natAbs=n2.natAbs*d1.natAbs:=by rw[<-Int.natAbs_mul,<-Int.natAbs_mul,e]
 have g1:Nat.gcd n1.natAbs d1.natAbs=1:=Int.ofNat.inj (of_decide_eq_true h1.2);have g2:Nat.gcd n2.natAbs d2.natAbs=1:=Int.ofNat.inj (of_decide_eq_true h2.2);have a1:=HP en g1;have a2:=HP en.symm g2;have a3:=Nat.dvd_antisymm a1 a2;have ed:d1=d2:=by omega
 subst ed;exact⟨Int.eq_of_mul_eq_mul_right (by omega) e,rfl⟩
def Ea {k n d:Int}{s:ByteArray}{z:Bool}{l:List V}(ho:jF (.mk k n d s z l)=true)(hk:k=2\/k=3):s=⟨#[]⟩/\l=[]/\(k=2->d=0)/\fv n (if k=2 then 1 else d)=true/\(k=3->2<=d):=by
 unfold jF at ho;rw[pR]at ho;simp only[Zh]at ho;obtain⟨⟨⟨a,b⟩,c⟩,ho⟩:=ho;rcases hk with rfl|rfl
 .simp at a b c ho;refine⟨(iT _ _).1 b,c,λ_=>a,?_,λh=>by omega⟩;rw[dd rfl,fv,ho];simp[FJ]
 .simp at b c ho;refine⟨(iT _ _).1 b,c,λh=>by omega,?_,λ_=>ho.1⟩;rw[db (by decide)];exact ho.2
def HQ :∀{l:List Int},wU l=0->∀x∈l,x=0
 | [],_,_,h=>by cases h
 |
  y::l,h,x,hx=>by
  unfold wU at h;split at h
  .rename_i e;rcases Xm.1 hx with rfl|q
   .exact e
   .exact HQ h x q
  .rename_i e;exact absurd h e
def yk :∀(a b:List V),(∀x∈a,∀y∈b,j6 x y=0->x=y)->gL a b=0->a=b
 | [],[],_,_=>rfl
 | [],y::b,_,h=>by simp[gL]at h
 |x::a,[],_,h=>by simp[gL]at h
 |
  x::a,y::b,hz,h=>by
  rw[gL]at h;by_cases e:j6 x y=0
  .simp only[e,if_true]at h;rw[hz x (by simp) y (by simp) e,yk a b (λp hp q hq=>hz p (Xn _ hp) q (Xn _ hq)) h]
  .simp only[e,if_false]at h
def Dm :∀D (v w:V),fB v<=D->Dl v->Dl w->j6 v w=0->v=w:=by
 intro D
 induction D with
 |zero=>intro v w h;have:=gZ v;omega
 |
  succ D ih=>
  intro v w hd gv gw h;cases v with
  |
   mk k n d s z l=>
   cases w with
   |
    mk k' n' d' s' z' l'=>
    rw[Dl]at gv gw;have hz:z=z':=by rw[gv.2.2.2.2.2.1,gw.2.2.2.2.2.1]
    have hL:gL l l'=0->l=l':=yk l l' λx hx y hy=>ih x y (by have:=oE hx;rw[fB]at hd;omega) (kD gv.2.2.2.2.2.2 x hx) (kD gw.2.2.2.2.2.2 y hy)
    have hF:qW (.mk k n d s z l) (.mk k' n' d' s' z' l')=0->V.mk k n d s z l= .mk k' n' d' s' z' l':=by
     intro q;unfold qW at q;have q':=HQ q;simp only[V.k,V.n,V.d,V.s,V.l,Xm,List.not_mem_nil,or_false,forall_eq_or_imp,forall_eq]at q';obtain⟨q1,q2,q3,q4,q5⟩:=q';rw[jh.1 q1,jh.1 q2,jh.1 q3,yj.1 q4,hL q5,hz]
    rw[NP]at h;split at h
    .rename_i e;split at h
     .rename_i ow;by_cases ec:ej (fA (V.mk k n d s z l).k) (fA (V.mk k' n' d' s' z' l').k)=0
      .rw[dd ec]at h;by_cases X_:(V.mk k n d s z l).k=2\/(V.mk k n d s z l).k=3
       .rw[dd X_]at h;have hk:k=2\/k=3:=X_;have og:k'=2\/k'=3:=by
         have ec':fA k=fA k':=jh.1 ec;rw[<-Be,<-ec',Be];exact hk
        obtain⟨a1,a2,a3,a4,a5⟩:=Ea (e.trans ow) hk;obtain⟨b1,b2,b3,b4,b5⟩:=Ea ow og;obtain⟨c1,c2⟩:=ZM a4 b4 h;have TD:k=k'/\d=d':=by
         rcases hk with rfl|rfl<;>rcases og with rfl|rfl
         .exact⟨rfl,(a3 rfl).trans (b3 rfl).symm⟩
         .have:=b5 rfl;simp at c2;omega
         .have:=a5 rfl;simp at c2;omega
         .simp at c2;exact⟨rfl,c2⟩
        rw[TD.1,TD.2,c1,a1,b1,a2,b2,hz]
       .rw[db X_]at h;exact hF h
      .rw[db ec]at h;exact absurd h ec
     .exact hF h
    .split at h<;>omega
def PK {v w:V}(gv:Dl v)(gw:Dl w)(h:j6 v w=0):v=w:=Dm _ v w (Yt _) gv gw h
mutual
def Dn :V->List UInt8
 | .mk k n d s _ l=>fM k++44::(fM n++44::(fM d++44::(fM s.size++58::(s.data.toList++(fM l.length++91::(tk l++[93]))))))
def tk :List V->List UInt8
 | []=> []
 |x::xs=>Dn x++tk xs
end
def wD (l:List V):List UInt8:=fM l.length++91::(tk l++[93])
def iB {n:Nat}(h:n<=1000000000000000):i64 (n:Int):=by unfold i64;omega
def FK :∀(a b:List V),a.length=b.length->(∀x∈a,∀y∈b,∀r t,Dn x++r=Dn y++t->x=y/\r=t)->∀r t,tk a++r=tk b++t->a=b/\r=t
 | [],[],_,_,r,t,h=>⟨rfl,by simpa[tk]using h⟩
 | [],_::_,h,_,_,_,_=>by simp at h
 |_::_,[],h,_,_,_,_=>by simp at h
 |
  x::a,y::b,h,hk,r,t,e=>by
  rw[tk,tk,Zp,Zp]at e;obtain⟨e1,e2⟩:=hk x (by simp) y (by simp) _ _ e;obtain⟨e3,e4⟩:=FK a b (by simpa using h) (λp hp q hq=>hk p (Xn _ hp) q (Xn _ hq)) r t e2;exact⟨by rw[e1,e3],e4⟩
def HR :∀D (v w:V),fB v<=D->Dl v->Dl w->∀r t,Dn v++r=Dn w++t->v=w/\r=t:=by
 intro D
 induction D with
 |zero=>intro v w h;have:=gZ v;omega
 |
  succ D ih=>
  intro v w hd gv gw r t h;cases v with
  |
   mk k n d s z l=>
   cases w with
   |
    mk k' n' d' s' z' l'=>
    rw[Dl]at gv gw;rw[Dn,Dn]at h;simp only[Zp,Zv]at h;obtain⟨h1,h⟩:=ym (oh gv.1 (by decide)) (oh gw.1 (by decide)) h;obtain⟨h2,h⟩:=ym (oh gv.2.1 (by decide)) (oh gw.2.1 (by decide)) h;obtain⟨h3,h⟩:=ym (oh gv.2.2.1 (by decide)) (oh gw.2.2.1 (by decide)) h;obtain⟨h4,h⟩:=ym (oh (iB gv.2.2.2.1) (by decide)) (oh (iB gw.2.2.2.1) (by decide)) h;have e1:=oS gv.1.1 gv.1.2 gw.1.1 gw.1.2 h1;have e2:=oS gv.2.1.1 gv.2.1.2 gw.2.1.1 gw.2.1.2 h2;have e3:=oS gv.2.2.1.1 gv.2.2.1.2 gw.2.2.1.1 gw.2.2.1.2 h3;have e4:=oS (iB gv.2.2.2.1).1 (iB gv.2.2.2.1).2 (iB gw.2.2.2.1).1 (iB gw.2.2.2.1).2 h4;have es:s.data.toList.length=s'.data.toList.length:=by
     have:s.size=s'.size:=by omega
     rw[Array.length_toList,Array.length_toList];exact this
    obtain⟨h5,h⟩:=List.append_inj h es;have e5:s=s':=by
     cases s;cases s';simp only at h5;rw[Array.toList_inj.1 h5]
    obtain⟨h6,h⟩:=ym (oh (iB gv.2.2.2.2.1) (by decide)) (oh (iB gw.2.2.2.2.1) (by decide)) h;have e6:=oS (iB gv.2.2.2.2.1).1 (iB gv.2.2.2.2.1).2 (iB gw.2.2.2.2.1).1 (iB gw.2.2.2.2.1).2 h6;obtain⟨h7,h8⟩:=FK l l' (by omega) (λx hx y hy=>ih x y (by have:=oE hx;rw[fB]at hd;omega) (kD gv.2.2.2.2.2.2 x hx) (kD gw.2.2.2.2.2.2 y hy)) _ _ h;refine⟨by rw[e1,e2,e3,e5,h7,gv.2.2.2.2.2.1,gw.2.2.2.2.2.1],?_⟩;injection h8
def ZN {a b:List V}(ga:NS a)(gb:NS b)(ha:a.length<=1000000000000000)(hb:b.length<=1000000000000000)(h:wD a=wD b):a=b:=by
 unfold wD at h;obtain⟨h1,h⟩:=ym (oh (iB ha) (by decide)) (oh (iB hb) (by decide)) h;have e1:=oS (iB ha).1 (iB ha).2 (iB hb).1 (iB hb).2 h1;exact(FK a b (by omega) (λx hx y hy=>HR _ x y (Yt _) (kD ga x hx) (kD gb y hy)) _ _ h).1
abbrev Rw :={l:List V//NS l}
noncomputable instance : DecidableEq Rw:=λa b=>Classical.propDecidable (a=b)
def mF (a b:Rw):Int:=gL a.1 b.1
def o_ :m_ (λ_:List V=>True) gL:=(Tt Tz).zZ λ_ _ _ _=>trivial
def mK :nB mF where
 zero:=λa b=>⟨λh=>Subtype.ext (yk a.1 b.1 (λx hx y hy=>PK (kD a.2 x hx) (kD b.2 y hy)) h),λh=>by subst h;exact o_.self trivial⟩
 neg:=λa b=>by have:=o_.neg a.1 b.1 trivial trivial;unfold mF;omega
 tr:=λa b c h1 h2=>by
  unfold mF at *;have n1:=o_.neg c.1 a.1 trivial trivial;have n2:=o_.neg c.1 b.1 trivial trivial;have t1:=o_.tr a.1 b.1 c.1 trivial trivial trivial (by omega) (by omega);by_cases e:gL a.1 c.1=0
  .have:=o_.tr c.1 a.1 b.1 trivial trivial trivial (by omega) (by omega);omega
  .omega
section
attribute [local simp] da XM
def wY (a b:ByteArray)(h:a.size+b.size<=9223372036854775807):∃c,zi .add a b=some (.string c)/\c.data.toList=a.data.toList++b.data.toList/\c.size=a.size+b.size:=by
 refine⟨a++b,?_,by simp,by simp⟩;unfold zi;rw[dd h]
def bsize (a:ByteArray):a.size=a.data.toList.length:=by rw[Array.length_toList];rfl
def Bh :∀(k u:Nat),(tm k u).length<=k+1
 |0,u=>by simp[tm]
 |
  k+1,u=>by
  unfold tm;split
  .simp
  .have:=Bh k (u/10);simp;omega
def PL (n:Int):(fM n).length<=22:=by
 unfold fM;split
 .have:=Bh 20 n.natAbs;simp;omega
 .have:=Bh 20 n.toNat;omega
def NT (n:Nat)(b:Bool)(m:Int)(h:Hp)(hm:i64 m):cW cx (n+1) b 242 [m] h=some (.sc (.string ⟨(fM m).toArray⟩),h):=by
 refine TE rfl (by kernel_rfl) ?_ rfl b h;show yn 242 [m]=_;unfold yn;rw[dd rfl];unfold i64 at hm;simp only[hm,and_self,if_true]
def sd :∀(a b:List V),tk (a++b)=tk a++tk b
 | [],b=>by rw[tk];rfl
 |x::a,b=>by rw[Zv,tk,tk,sd a b,Zp]
def TF {l:List V}{i:Nat}{x:V}(h:l[i]?=some x):tk (l.take (i+1))=tk (l.take i)++Dn x:=by
 rw[Yx,h,sd];simp[tk]
def TG {l:List V}(i:Nat):(tk (l.take i)).length<=(tk l).length:=by
 have:=sd (l.take i) (l.drop i);rw[List.take_append_drop]at this;rw[this,Zu];omega
def Lr {l:List V}{x:V}(h:x∈l):(Dn x).length<=(tk l).length:=by
 obtain⟨a,b,rfl⟩:=List.append_of_mem h;rw[sd,tk,Zu,Zu];omega
def uR (cY:List LA):ql false cY= .ls 5 cY false:=rfl
def aca {a:ByteArray}{l:List UInt8}(h:a.data.toList=l):a=⟨l.toArray⟩:=by subst h;simp
def af9 :∀(D:Nat) (l:List V),(∀x∈l,fB x<=D)->NS l->l.length<=1000000000000000->(wD l).length<=1000000000000->∀(N:Nat) (z:Bool) b h,cW cx (N+D+2) b 180 [.ls 5 (dN l) z] h=some (.sc (.string ⟨(wD l).toArray⟩),h):=by
 intro D
 induction D with
 |
  zero=>
  intro l hd;have:l=[]:=by
   cases l with
   |nil=>rfl
   |cons x l=>have:=hd x (by simp);have:=gZ x;omega
  subst this;intro _ _ _ N z b h;refine fZ f180 [.tmp 2] rfl rfl ?_ b h;have ak:=λb h=>NT N b 0 h ⟨by omega,by omega⟩
  obtain⟨A,e,ea⟩:=wY ⟨(fM 0).toArray⟩ ⟨#[91]⟩ (by decide);obtain⟨B,e',eb⟩:=wY A ⟨#[93]⟩ (by rw[ea.2];decide);have eB:B=⟨(wD []).toArray⟩:=aca (by rw[eb.1,ea.1];simp[wD,tk]);rw[<-eB];clear eB;generalize(⟨(fM 0).toArray⟩:ByteArray)=I0 at *;rw[show N+0+1=N+1 by omega];simp[f180,dN,ak,e];refine lS
   (λi s _=>i=0/\s.length=48/\gt s 3= .sc (.string A)/\gt s 11=(0:Int)/\gt s 12=(0:Int))
   (λo s _=>o= .exit 0/\s.length=48/\gt s 3= .sc (.string A)) 0 (by simp) (by exact ⟨rfl,rfl,rfl,rfl,rfl⟩) ?_ ?_
  .rintro i fr hp eG ⟨rfl,cU,h3,tM,vH⟩;simp[cU,h3,tM,vH]
  .rintro o fr hp hn ⟨rfl,cU,h3⟩;simp[cU,h3,e']
 |
  succ D ih=>
  intro l hd hg hl hk N z b h;refine fZ f180 [.tmp 2] rfl rfl ?_ b h;have fI:=λm b h (hm:i64 m)=>NT (N+D+1) b m h hm
  have fL:=λb h=>fI (l.length:Int) b h (iB hl)
  have g_:(wD l).length=(fM l.length).length+(tk l).length+2:=by unfold wD;simp;omega
  have gG:=PL l.length;have fR:∀x∈l,∀b h,cW cx (N+D+2) b 180 [.ls 5 (dN x.l) false] h=some (.sc (.string ⟨(wD x.l).toArray⟩),h):=λx hx=>by
   have gx:=kD hg x hx;have dx:=hd x hx;have kx:=Lr hx;cases x with
   |
    mk k n d s z' l'=>
    rw[Dl]at gx;rw[fB]at dx;have:(wD l').length<=(Dn (.mk k n d s z' l')).length:=by
     rw[Dn,wD];simp;omega
    exact ih l' (λy hy=>by have:=oE hy;omega) gx.2.2.2.2.2.2 gx.2.2.2.2.1 (by omega) N false
  clear ih;rw[show N+D+1+1=N+D+2 by omega]at fI fL;generalize N+D+2=M at fI fL fR|-;have hq:=dK l;have tQ:=fP l;generalize dN l=cY at hq tQ;obtain⟨I0,hI0⟩:∃I0:ByteArray,I0=⟨(fM l.length).toArray⟩:=⟨_,rfl⟩;rw[<-hI0]at fL;have hI1:I0.data.toList=fM l.length:=by rw[hI0]
  have hI2:I0.size<=22:=by rw[bsize,hI1];exact gG
  obtain⟨A,e,ea1,ea2⟩:=wY I0 ⟨#[91]⟩ (by have:(⟨#[91]⟩:ByteArray).size=1:=rfl;omega);obtain⟨T,hT⟩:∃T:ByteArray,T=⟨(wD l).toArray⟩:=⟨_,rfl⟩;rw[<-hT];have hA:A.data.toList=fM l.length++91::tk (l.take 0):=by rw[ea1,hI1];simp[tk]
  simp[f180,fL,e,hq];refine lS
   (λi s _=>i<=l.length/\s.length=48/\gt s 10= .ls 5 cY z/\gt s 11=l.length/\gt s 12=i/\∃S:ByteArray,gt s 3= .sc (.string S)/\S.data.toList=fM l.length++91::tk (l.take i))
   (λo s _=>o= .exit 0/\s.length=48/\∃S:ByteArray,gt s 3= .sc (.string S)/\S.data.toList=fM l.length++91::tk l) l.length (by simp;omega) ?_ ?_ ?_
  .exact⟨by omega,rfl,rfl,by rw[ZO];rfl,rfl,A,rfl,hA⟩
  .rintro i fr hp ajH ⟨eG,cU,lQ,tM,vH,S,h3,hS⟩;by_cases hi:i<l.length
   .obtain⟨x,hx⟩:=eA hi;have kM:=Zi hx;have gx:=kD hg x kM;have fK:=fR x kM;have kx:=Lr kM;have kt:=TF hx;have kl:=TG (l:=l) i;have kl':=TG (l:=l) (i+1);have hr:cY[i]?=some (enc x):=by rw[tQ,hx];rfl
    have du:=gA hr
    have hf:dM .i64 ((i:Int)+1)=((i+1:Nat):Int):=dh (by omega) (by omega);clear fR;cases x with
    |
     mk k n d s z' l'=>
     rw[Dl]at gx;obtain⟨g1,g2,g3,g4,g5,rfl,_⟩:=gx;simp only[V.l]at fK;simp only[enc,uR]at hr du;have F1:=λb h=>fI k b h g1
     have F2:=λb h=>fI n b h g2
     have F3:=λb h=>fI d b h g3
     have F4:=λb h=>fI (s.size:Int) b h (iB g4)
     generalize dN l'=rows' at fK hr du;have hkv:(Dn (.mk k n d s false l')).length=(fM k).length+(fM n).length+(fM d).length+(fM s.size).length+s.size+(wD l').length+4:=by
      rw[Dn,wD];simp;omega
     have hkw:Dn (.mk k n d s false l')=fM k++[44]++fM n++[44]++fM d++[44]++fM s.size++[58]++s.data.toList++wD l':=by
      rw[Dn,wD];simp
     obtain⟨P1,hP1⟩:∃P:ByteArray,P=⟨(fM k).toArray⟩:=⟨_,rfl⟩;obtain⟨P2,hP2⟩:∃P:ByteArray,P=⟨(fM n).toArray⟩:=⟨_,rfl⟩;obtain⟨P3,hP3⟩:∃P:ByteArray,P=⟨(fM d).toArray⟩:=⟨_,rfl⟩;obtain⟨P4,hP4⟩:∃P:ByteArray,P=⟨(fM s.size).toArray⟩:=⟨_,rfl⟩;obtain⟨P5,hP5⟩:∃P:ByteArray,P=⟨(wD l').toArray⟩:=⟨_,rfl⟩;rw[<-hP1]at F1;rw[<-hP2]at F2;rw[<-hP3]at F3;rw[<-hP4]at F4;rw[<-hP5]at fK;have q1:P1.data.toList=fM k:=by rw[hP1]
     have q2:P2.data.toList=fM n:=by rw[hP2]
     have q3:P3.data.toList=fM d:=by rw[hP3]
     have q4:P4.data.toList=fM s.size:=by rw[hP4]
     have q5:P5.data.toList=wD l':=by rw[hP5]
     have z1:P1.size=(fM k).length:=by rw[bsize,q1]
     have z2:P2.size=(fM n).length:=by rw[bsize,q2]
     have z3:P3.size=(fM d).length:=by rw[bsize,q3]
     have z4:P4.size=(fM s.size).length:=by rw[bsize,q4]
     have z5:P5.size=(wD l').length:=by rw[bsize,q5]
     have zS:S.size=(fM l.length).length+1+(tk (l.take i)).length:=by rw[bsize,hS];simp;omega
     have c44:(⟨#[44]⟩:ByteArray).size=1:=rfl;have c58:(⟨#[58]⟩:ByteArray).size=1:=rfl;obtain⟨B1,b1,l1,w1⟩:=wY P1 ⟨#[44]⟩ (by omega);obtain⟨B2,b2,l2,w2⟩:=wY B1 P2 (by omega);obtain⟨B3,b3,l3,w3⟩:=wY B2 ⟨#[44]⟩ (by omega);obtain⟨B4,b4,l4,w4⟩:=wY B3 P3 (by omega);obtain⟨B5,b5,l5,w5⟩:=wY B4 ⟨#[44]⟩ (by omega);obtain⟨B6,b6,l6,w6⟩:=wY B5 P4 (by omega);obtain⟨B7,b7,l7,w7⟩:=wY B6 ⟨#[58]⟩ (by omega);obtain⟨B8,b8,l8,w8⟩:=wY B7 s (by omega);obtain⟨B9,b9,l9,w9⟩:=wY B8 P5 (by omega);obtain⟨B0,b0,l0,w0⟩:=wY S B9 (by omega);have hB0:B0.data.toList=fM l.length++91::tk (l.take (i+1)):=by
      rw[kt,hkw,l0,hS,l9,l8,l7,l6,l5,l4,l3,l2,l1,q1,q2,q3,q4,q5];simp
     clear hP1 hP2 hP3 hP4 hP5 l1 l2 l3 l4 l5 l6 l7 l8 l9 l0 w1 w2 w3 w4 w5 w6 w7 w8 w9 w0 z1 z2 z3 z4 z5 zS q1 q2 q3 q4 q5 kt hkw hkv kx kl kl' hS fI fL;simp[cU,lQ,tM,vH,h3,hi,hq,du,F1,F2,F3,F4,fK,b1,b2,b3,b4,b5,b6,b7,b8,b9,b0,hf];exact⟨Nat.succ_le_of_lt hi,hB0⟩
   .have gG:i=l.length:=Yc eG (Yb hi);subst gG;rw[Yz]at hS;simp[cU,tM,vH,h3,hS]
  .rintro o fr hp hn ⟨rfl,cU,S,h3,hS⟩;have zS:S.size=(fM l.length).length+1+(tk l).length:=by rw[bsize,hS];simp;omega
   obtain⟨B,e',eb,_⟩:=wY S ⟨#[93]⟩ (by have:(⟨#[93]⟩:ByteArray).size=1:=rfl;omega);have eB:B=T:=by rw[hT];exact aca (by rw[eb,hS,wD];simp)
   subst eB;simp[cU,h3,e']
end
section
attribute [local simp] zi da XM
def Pp {f:FuncId}{n:Nat}{r:AV}{b:Bool}{h0:Hp}(hs:cx.ox f=none)(hi:cx.inl f=false)(dy:cW cx (n+1) b f [] []=some (r,h0))(b':Bool)(h:Hp):cW cx (n+1) b' f [] h=some (r,h):=by
 have e:∀h':Hp,([]:LA).mapM (dq h' 8)=some []:=λ_=>rfl
 simp only[cW,hs,hi,Yq,if_false,e,List.all_nil,Bool.true_or,if_true]at dy|-;split at dy
 .rename_i r0 Ft;simp only[Zc,Zg]at dy;obtain⟨rfl,_⟩:=dy;rfl
 .cases dy
def Bi (q:Int):Bool:=(decide (97<=q) && decide (q<=122))||(decide (65<=q) && decide (q<=90))
def zl (q:Int):Bool:=Bi q||(decide (48<=q) && decide (q<=57))||decide (q=95)
def TH (n:Nat)(b:Bool)(q:Int)(h:Hp):cW cx (n+1) b 164 [.sc (.int .u8 q)] h=some (.sc (.bool (Bi q)),h):=by
 refine fZ f164 [.tmp 2] rfl rfl ?_ b h;unfold Bi;by_cases h1:97<=q
 .by_cases h2:q<=122
  .simp[f164,h1,h2]
  .simp[f164,h1,h2,show 65<=q by omega,show¬q<=90 by omega]
 .by_cases h2:65<=q
  .by_cases h3:q<=90<;>simp[f164,h1,h2,h3]
  .simp[f164,h1,h2]
def Ls (n:Nat)(b:Bool)(q:Int)(h:Hp):cW cx (n+1) b 149 [.sc (.int .u8 q)] h=some (.sc (.bool (Bi q)),h):=by
 refine fZ f149 [.tmp 2] rfl rfl ?_ b h;unfold Bi;by_cases h1:97<=q
 .by_cases h2:q<=122
  .simp[f149,h1,h2]
  .simp[f149,h1,h2,show 65<=q by omega,show¬q<=90 by omega]
 .by_cases h2:65<=q
  .by_cases h3:q<=90<;>simp[f149,h1,h2,h3]
  .simp[f149,h1,h2]
def Eb (c:UInt8):Bool:=zl c.toNat
def ig (x:ByteArray)(i:Nat):Bool:=(x.data.toList.drop i).all Eb
def Ec (x:ByteArray)(i:Nat)(h:x.size<=i):ig x i=true:=by unfold ig;rw[Zt h];rfl
def v8 {x:ByteArray}{i:Nat}{c:UInt8}(h:x.data.toList[i]?=some c):ig x i=(Eb c && ig x (i+1)):=by
 obtain⟨k,e⟩:=Za.1 h;unfold ig;rw[Zm k,e,Zn]
def jo (x:ByteArray):Bool:=decide ((x.size:Int)<=20) && (match x.data.toList[0]? with|none=>false|some c=>Bi c.toNat) && ig x 1
def wZ (x:ByteArray):x.data.toList.length=x.size:=rfl
def Bj (x:ByteArray):(x.size=0/\x.data.toList[0]?=none/\kr x ⟨#[]⟩=true)\/∃c,0<x.size/\x.data.toList[0]?=some c/\kr x ⟨#[]⟩=false/\ig x 0=(Eb c && ig x 1):=by
 cases h:x.data.toList[0]? with
 |
  none=>
  have h1:=List.getElem?_eq_none_iff.1 h;have h2:x.data.toList=[]:=Zl (by omega);exact .inl ⟨by have:=wZ x;omega,rfl,by unfold kr;rw[h2];rfl⟩
 |
  some c=>
  have h1:=(Za.1 h).1;refine .inr ⟨c,by have:=wZ x;omega,rfl,?_,v8 h⟩;unfold kr;cases hq:x.data.toList with
  |nil=>rw[hq]at h1;simp at h1
  |cons a l=>rfl
def TI (q:Int)(h:Bi q=true):zl q=true:=by unfold zl;rw[h];rfl
def Bk (n:Nat)(b:Bool)(x:ByteArray)(h:Hp):cW cx (n+2) b 100 [.sc (.string x)] h=some (.sc (.bool (jo x)),h):=by
 refine fZ f100 [.tmp 2] rfl rfl ?_ b h;have gC:=wZ x;have fq:=λb q h=>TH n b q h
 unfold jo;rcases Bj x with⟨z0,z1,z2⟩|⟨c0,z0,z1,z2,z3⟩
 .simp[f100,z0,z2]
 have Lt:∀k,x.data[0]'k=c0:=λk=>by obtain⟨_,e⟩:=Za.1 z1;exact e
 by_cases NU:(x.size:Int)<=20
 rotate_left
 .simp[f100,z0,z2,show 20< (x.size:Int) by omega,NU]
 have TJ:¬20< (x.size:Int):=by omega
 obtain⟨q0,ZE⟩:∃q:Int,q=c0.toNat:=⟨_,rfl⟩;have od:=λb h=>fq b q0 h
 cases qg:Bi q0
 .simp[f100,z0,Lt,z2,NU,TJ,<-ZE,od,qg]
 have z4:ig x 0=ig x 1:=by
  rw[z3,show Eb c0=zl q0 from by rw[ZE];rfl,TI q0 qg];rfl
 clear z3;simp[f100,z0,Lt,z2,NU,TJ,<-ZE,od,qg];refine lS
  (λi s _=>ig x 1=ig x i/\s.length=46/\gt s 0= .sc (.string x)/\gt s 18=x.size/\gt s 19=i)
  (λo s _=>s.length=46/\((o= .exit 0/\ig x 1=true)\/(o= .ret/\ig x 1=false/\gt s 2=false))) x.size (by simp;omega) (by simp[z4]) ?_ ?_
 .rintro i fr h eG ⟨ho,cU,h0,PM,YA⟩;by_cases hi:i<x.size
  .obtain⟨c,hc⟩:∃c,x.data.toList[i]?=some c:=⟨_,Zb (by omega)⟩;rw[v8 hc]at ho;have hf:dM .i64 ((i:Int)+1)=((i+1:Nat):Int):=dh (by omega) (by omega);have pS:∀k,x.data[i]'k=c:=λk=>by obtain⟨_,e⟩:=Za.1 hc;exact e
   obtain⟨q,hq⟩:∃q:Int,q=c.toNat:=⟨_,rfl⟩;have iG:Eb c=zl q:=by rw[hq];rfl
   rw[iG]at ho;clear iG;have TK:=λb h=>fq b q h
   unfold zl at ho;cases hl:Bi q
   .by_cases c1:q<48
    .have z:ig x 1=false:=by rw[ho,hl];simp;omega
     clear ho;simp[cU,h0,PM,YA,hi,pS,<-hq,TK,hl,c1,show¬q=95 by omega,z]
    .by_cases c2:57<q
     .by_cases c3:q=95
      .have z:ig x 1=ig x (i+1):=by rw[ho,hl];simp[c3]
       clear ho;subst c3;simp[cU,h0,PM,YA,hi,pS,<-hq,TK,hl,hf];exact z
      .have z:ig x 1=false:=by rw[ho,hl];simp;omega
       clear ho;simp[cU,h0,PM,YA,hi,pS,<-hq,TK,hl,c1,c2,c3,z]
     .have z:ig x 1=ig x (i+1):=by rw[ho,hl];simp[show 48<=q by omega,show q<=57 by omega]
      clear ho;simp[cU,h0,PM,YA,hi,pS,<-hq,TK,hl,c1,c2,show¬q=95 by omega,hf];exact z
   .have z:ig x 1=ig x (i+1):=by rw[ho,hl];simp
    clear ho;simp[cU,h0,PM,YA,hi,pS,<-hq,TK,hl,hf];exact z
  .have hz:ig x 1=true:=by rw[ho,Ec x i (by omega)]
   simp[cU,PM,YA,hi,hz]
 .rintro o fr h hn ⟨cU,⟨rfl,hz⟩|⟨rfl,hz,h2⟩⟩
  .simp[cU,hz]
  .simp[h2,hz]
def tS (n:Nat)(b:Bool)(x:ByteArray)(h:Hp):cW cx (n+2) b 85 [.sc (.string x)] h=some (.sc (.bool (jo x)),h):=by
 refine fZ f85 [.tmp 2] rfl rfl ?_ b h;have gC:=wZ x;have fq:=λb q h=>Ls n b q h
 unfold jo;rcases Bj x with⟨z0,z1,z2⟩|⟨c0,z0,z1,z2,z3⟩
 .simp[f85,z0]
 have Lt:∀k,x.data[0]'k=c0:=λk=>by obtain⟨_,e⟩:=Za.1 z1;exact e
 clear z3;have z5:¬(x.size:Int)<1:=by omega
 by_cases NU:(x.size:Int)<=20
 rotate_left
 .simp[f85,z0,z5,show 20< (x.size:Int) by omega,NU]
 have TJ:¬20< (x.size:Int):=by omega
 obtain⟨q0,ZE⟩:∃q:Int,q=c0.toNat:=⟨_,rfl⟩;have od:=λb h=>fq b q0 h
 cases qg:Bi q0
 .simp[f85,z0,Lt,z5,NU,TJ,<-ZE,od,qg]
 simp[f85,z0,Lt,z5,NU,TJ,<-ZE,od,qg];refine lS
  (λj s _=>j+1<=x.size/\ig x 1=ig x (j+1)/\s.length=47/\gt s 0= .sc (.string x)/\gt s 3= .sc (.int .i64 (j+1:Nat)))
  (λo s _=>s.length=47/\((o= .exit 0/\ig x 1=true)\/(o= .ret/\ig x 1=false/\gt s 2=false))) x.size (by simp;omega) (by simp;omega) ?_ ?_
 .rintro j fr h eG ⟨C9,ho,cU,h0,h3⟩;by_cases hi:j+1<x.size
  .obtain⟨c,hc⟩:∃c,x.data.toList[j+1]?=some c:=⟨_,Zb (by omega)⟩;rw[v8 hc]at ho;have hf:dM .i64 (((j+1:Nat):Int)+1)=((j+1+1:Nat):Int):=dh (by omega) (by omega);have pS:∀k,x.data[j+1]'k=c:=λk=>by obtain⟨_,e⟩:=Za.1 hc;exact e
   obtain⟨q,hq⟩:∃q:Int,q=c.toNat:=⟨_,rfl⟩;have iG:Eb c=zl q:=by rw[hq];rfl
   rw[iG]at ho;clear iG;have TK:=λb h=>fq b q h
   unfold zl at ho;generalize hjj:((j+1:Nat):Int)=J at h3 hf;have NV:J.toNat=j+1:=by omega
   have NW:0<=J:=by omega
   have tT:J< (x.size:Int):=by omega
   cases hl:Bi q
   .by_cases c1:q<48
    .have z:ig x 1=false:=by rw[ho,hl];simp;omega
     clear ho;simp[cU,h0,h3,NW,NV,tT,hc,<-hq,TK,hl,c1,show¬q=95 by omega,z]
    .by_cases c2:57<q
     .by_cases c3:q=95
      .have z:ig x 1=ig x (j+1+1):=by rw[ho,hl];simp[c3]
       clear ho;subst c3;simp[cU,h0,h3,NW,NV,tT,hc,<-hq,TK,hl,hf]
       and_intros<;>first|omega|assumption
      .have z:ig x 1=false:=by rw[ho,hl];simp;omega
       clear ho;simp[cU,h0,h3,NW,NV,tT,hc,<-hq,TK,hl,c1,c2,c3,z]
     .have z:ig x 1=ig x (j+1+1):=by rw[ho,hl];simp[show 48<=q by omega,show q<=57 by omega]
      clear ho;simp[cU,h0,h3,NW,NV,tT,hc,<-hq,TK,hl,c1,c2,show¬q=95 by omega,hf]
      and_intros<;>first|omega|assumption
   .have z:ig x 1=ig x (j+1+1):=by rw[ho,hl];simp
    clear ho;simp[cU,h0,h3,NW,NV,tT,hc,<-hq,TK,hl,hf]
    and_intros<;>first|omega|assumption
  .have hz:ig x 1=true:=by rw[ho,Ec x (j+1) (by omega)]
   have tT:¬((j+1:Nat):Int)< (x.size:Int):=by omega
   generalize((j+1:Nat):Int)=J at h3 tT;simp[cU,h0,h3,tT,hz]
 .rintro o fr h hn ⟨cU,⟨rfl,hz⟩|⟨rfl,hz,h2⟩⟩
  .simp[cU,hz]
  .simp[h2,hz]
end
@[simp] def afF :cx.T 143=some {size:=6,agg:=true,zero:=[.string ⟨#[]⟩,.int .i64 (0),.int .i64 (0),.int .i64 (0),.string ⟨#[]⟩,.slice none 0 0],kd:= .struct [(0,1,false),(1,5,true)]}:=by kernel_rfl
@[simp] def sf :cx.T 89=some {size:=1,agg:=false,zero:=[.slice none 0 0],kd:= .slice 6 true 80 [.string ⟨#[]⟩,.int .i64 (0),.int .i64 (0),.int .i64 (0),.string ⟨#[]⟩,.slice none 0 0]}:=by kernel_rfl
@[simp] def afk :cx.T 91=some {size:=3,agg:=true,zero:=[.int .i64 (0),.slice none 0 0,.slice none 0 0],kd:= .struct [(0,1,false),(1,1,false),(2,1,false)]}:=by kernel_rfl
@[simp] def si :cx.T 22=some {size:=1,agg:=false,zero:=[.slice none 0 0],kd:= .slice 3 true 56 [.int .i64 (0),.slice none 0 0,.slice none 0 0]}:=by kernel_rfl
@[simp] def afu :cx.T 94=some {size:=5,agg:=true,zero:=[.int .i64 (0),.int .i64 (0),.int .i64 (0),.string ⟨#[]⟩,.slice none 0 0],kd:= .struct [(0,1,false),(1,1,false),(2,1,false),(3,1,false),(4,1,false)]}:=by kernel_rfl
@[simp] def sk :cx.T 23=some {size:=1,agg:=false,zero:=[.slice none 0 0],kd:= .slice 5 true 64 [.int .i64 (0),.int .i64 (0),.int .i64 (0),.string ⟨#[]⟩,.slice none 0 0]}:=by kernel_rfl
@[simp] def acH :cx.T 25=some {size:=4,agg:=true,zero:=[.slice none 0 0,.slice none 0 0,.int .i64 (0),.int .i64 (0)],kd:= .struct [(0,1,false),(1,1,false),(2,1,false),(3,1,false)]}:=by kernel_rfl
@[simp] def ab4 :cx.T 61=some {size:=10,agg:=true,zero:=[.int .i64 (0),.int .i64 (0),.int .i64 (0),.int .i64 (0),.string ⟨#[]⟩,.int .i64 (0),.int .i64 (0),.int .i64 (0),.string ⟨#[]⟩,.slice none 0 0],kd:= .struct [(0,1,false),(1,1,false),(2,1,false),(3,1,false),(4,1,false),(5,5,true)]}:=by kernel_rfl
@[simp] def ac3 :cx.T 41=some {size:=1,agg:=false,zero:=[.int .i64 (0)],kd:= .Hu}:=by kernel_rfl
@[simp] def af2 :nQ cx 28=true:=by kernel_rfl
@[simp] def aiQ :nQ cx 89=true:=by kernel_rfl
@[simp] def aiB :nQ cx 22=true:=by kernel_rfl
@[simp] def air :nQ cx 23=true:=by kernel_rfl
@[simp] def afJ :nQ cx 26=true:=by kernel_rfl
section
attribute [local simp] zi da XM
def gP (l:List ByteArray):List LA:=l.map λs=> [.sc (.string s)]
def iK (l:List ByteArray)(z:Bool):AV:= .ls 1 (gP l) z
def dG (l:List ByteArray):(gP l).length=l.length:=by simp[gP]
def kF (l:List ByteArray)(i:Nat):(gP l)[i]?=(l[i]?).map λs=> [.sc (.string s)]:=by simp[gP]
def dZ :List ByteArray->Bool
 | []=>true
 |
  x::l=>match l with
  | []=>true
  |y::_=>nZ x y && dZ l
def lL (l:List ByteArray)(i:Nat):Bool:=dZ (l.drop i)
def sq (l:List ByteArray)(i:Nat)(h:l.length<=i+1):lL l i=true:=by
 unfold lL;cases hq:l.drop i with
 |nil=>rfl
 |
  cons x m=>
  have:=congrArg List.length hq;simp at this;have hm:m=[]:=Zl (by omega);subst hm;rfl
def qm {l:List ByteArray}{i:Nat}{x y:ByteArray}(h:l[i]?=some x)(h':l[i+1]?=some y):lL l i=(nZ x y && lL l (i+1)):=by
 obtain⟨k,e⟩:=Za.1 h;obtain⟨k',e'⟩:=Za.1 h';unfold lL;rw[Zm k,Zm k',e,e',dZ]
def TL (x y:ByteArray):(nZ y x||kr y x)= !(nZ x y):=by
 cases h1:nZ x y with
 |
  true=>
  have h2:=D9 h1;cases h3:kr y x with
  |false=>simp[h2]
  |true=>have:=(iT y x).1 h3;subst this;rw[kU]at h1;cases h1
 |
  false=>
  cases h3:kr y x with
  |true=>simp
  |
   false=>
   cases h4:nZ y x with
   |true=>simp
   |false=>have:=nz h4 h3;rw[h1]at this;cases this
def w_ (n:Nat)(b:Bool)(l:List ByteArray)(z:Bool)(h:Hp)(hl:l.length<=1000000000000000):cW cx (n+1) b 161 [iK l z] h=some (.sc (.bool (dZ l)),h):=by
 refine fZ f161 [.tmp 2] rfl rfl ?_ b h;have hq:=dG l;have hg:=kF l;unfold iK;generalize gP l=cY at hq hg;simp[f161];refine lS
  (λj s _=>dZ l=lL l j/\(j+1<=l.length\/j=0)/\s.length=20/\gt s 0= .ls 1 cY z/\gt s 3= .sc (.int .i64 (j+1:Nat)))
  (λo s _=>s.length=20/\((o= .exit 0/\dZ l=true)\/(o= .ret/\dZ l=false/\gt s 2=false))) l.length (by simp;omega) (by simp[lL]) ?_ ?_
 .rintro j fr h eG ⟨ho,hj,cU,h0,h3⟩;by_cases hi:j+1<l.length
  .obtain⟨x,hx⟩:∃c,l[j]?=some c:=⟨_,Zb (by omega)⟩;obtain⟨y,hy⟩:=eA hi;have hr:cY[j]?=some [.sc (.string x)]:=by rw[hg,hx];rfl
   have r9:cY[j+1]?=some [.sc (.string y)]:=by rw[hg,hy];rfl
   have du:=gA hr
   have lK:=gA r9
   rw[qm hx hy]at ho;have eG:=TL x y;have hf:dM .i64 (((j+1:Nat):Int)+1)=((j+1+1:Nat):Int):=dh (by omega) (by omega);have Ee:dM .i64 (((j+1:Nat):Int)-1)=((j:Nat):Int):=by rw[dh (by omega) (by omega)];omega
   generalize hjj:((j+1:Nat):Int)=J at h3 hf Ee;have NV:J.toNat=j+1:=by omega
   have NW:0<=J:=by omega
   have tT:J< (l.length:Int):=by omega
   cases dY:nZ x y
   .have zz:dZ l=false:=by rw[ho,dY];rfl
    clear ho;rw[dY]at eG;simp[cU,h0,h3,NV,NW,tT,hq,hr,r9,Ee,eG,zz]
   .have zz:dZ l=lL l (j+1):=by rw[ho,dY];rfl
    clear ho;rw[dY]at eG;simp[cU,h0,h3,NV,NW,tT,hq,hr,r9,Ee,eG,hf];exact⟨by omega,zz,by omega⟩
  .have zz:dZ l=true:=by rw[ho,sq l j (by omega)]
   have tT:¬((j+1:Nat):Int)< (l.length:Int):=by omega
   generalize((j+1:Nat):Int)=J at h3 tT;simp[cU,h0,h3,tT,hq,zz]
 .rintro o fr h hn ⟨cU,⟨rfl,hz⟩|⟨rfl,hz,h2⟩⟩
  .simp[cU,hz]
  .simp[h2,hz]
def ri (n:Nat)(b:Bool)(h:Hp):cW cx (n+1) b 161 [()] h=some ((true:AV),h):=by
 refine fZ f161 [.tmp 2] rfl rfl ?_ b h;simp[f161];refine lS
  (λj s _=>j=0/\s.length=20/\gt s 0=()/\gt s 3=(1:Int))
  (λo s _=>s.length=20/\o= .exit 0) 0 (by simp) (by simp) ?_ ?_
 .rintro j fr h eG ⟨rfl,cU,h0,h3⟩;simp[cU,h0,h3]
 .rintro o fr h hn ⟨cU,rfl⟩;simp[cU]
def Ef (n:Nat)(b:Bool)(l:List ByteArray)(z:Bool)(h:Hp)(hl:l.length<=1000000000000000):cW cx (n+1) b 225 [iK l z] h=some (.sc (.bool (dZ l)),h):=by
 refine fZ f225 [.tmp 2] rfl rfl ?_ b h;have hq:=dG l;have hg:=kF l;unfold iK;generalize gP l=cY at hq hg;simp[f225];refine lS
  (λj s _=>dZ l=lL l j/\(j+1<=l.length\/j=0)/\s.length=20/\gt s 0= .ls 1 cY z/\gt s 3= .sc (.int .i64 (j+1:Nat)))
  (λo s _=>s.length=20/\((o= .exit 0/\dZ l=true)\/(o= .ret/\dZ l=false/\gt s 2=false))) l.length (by simp;omega) (by simp[lL]) ?_ ?_
 .rintro j fr h eG ⟨ho,hj,cU,h0,h3⟩;by_cases hi:j+1<l.length
  .obtain⟨x,hx⟩:∃c,l[j]?=some c:=⟨_,Zb (by omega)⟩;obtain⟨y,hy⟩:=eA hi;have hr:cY[j]?=some [.sc (.string x)]:=by rw[hg,hx];rfl
   have r9:cY[j+1]?=some [.sc (.string y)]:=by rw[hg,hy];rfl
   have du:=gA hr
   have lK:=gA r9
   rw[qm hx hy]at ho;have eG:=TL x y;have hf:dM .i64 (((j+1:Nat):Int)+1)=((j+1+1:Nat):Int):=dh (by omega) (by omega);have Ee:dM .i64 (((j+1:Nat):Int)-1)=((j:Nat):Int):=by rw[dh (by omega) (by omega)];omega
   generalize hjj:((j+1:Nat):Int)=J at h3 hf Ee;have NV:J.toNat=j+1:=by omega
   have NW:0<=J:=by omega
   have tT:J< (l.length:Int):=by omega
   cases dY:nZ x y
   .have zz:dZ l=false:=by rw[ho,dY];rfl
    clear ho;rw[dY]at eG;simp[cU,h0,h3,NV,NW,tT,hq,hr,r9,Ee,eG,zz]
   .have zz:dZ l=lL l (j+1):=by rw[ho,dY];rfl
    clear ho;rw[dY]at eG;simp[cU,h0,h3,NV,NW,tT,hq,hr,r9,Ee,eG,hf];exact⟨by omega,zz,by omega⟩
  .have zz:dZ l=true:=by rw[ho,sq l j (by omega)]
   have tT:¬((j+1:Nat):Int)< (l.length:Int):=by omega
   generalize((j+1:Nat):Int)=J at h3 tT;simp[cU,h0,h3,tT,hq,zz]
 .rintro o fr h hn ⟨cU,⟨rfl,hz⟩|⟨rfl,hz,h2⟩⟩
  .simp[cU,hz]
  .simp[h2,hz]
def vJ (n:Nat)(b:Bool)(h:Hp):cW cx (n+1) b 225 [()] h=some ((true:AV),h):=by
 refine fZ f225 [.tmp 2] rfl rfl ?_ b h;simp[f225];refine lS
  (λj s _=>j=0/\s.length=20/\gt s 0=()/\gt s 3=(1:Int))
  (λo s _=>s.length=20/\o= .exit 0) 0 (by simp) (by simp) ?_ ?_
 .rintro j fr h eG ⟨rfl,cU,h0,h3⟩;simp[cU,h0,h3]
 .rintro o fr h hn ⟨cU,rfl⟩;simp[cU]
def fg (l:List ByteArray):Bool:=l.all jo
def qB (l:List ByteArray)(i:Nat):Bool:=fg (l.drop i)
def Bl (l:List ByteArray)(i:Nat)(h:l.length<=i):qB l i=true:=by unfold qB;rw[Zt h];rfl
def zm {l:List ByteArray}{i:Nat}{c:ByteArray}(h:l[i]?=some c):qB l i=(jo c && qB l (i+1)):=by
 obtain⟨k,e⟩:=Za.1 h;unfold qB fg;rw[Zm k,e,Zn]
def Eg (n:Nat)(b:Bool)(l:List ByteArray)(z:Bool)(h:Hp)(hl:l.length<=1000000000000000):cW cx (n+3) b 224 [iK l z] h=some (.sc (.bool (fg l)),h):=by
 refine fZ f224 [.tmp 2] rfl rfl ?_ b h;have hq:=dG l;have hg:=kF l;have fq:=λb x h=>tS n b x h
 unfold iK;generalize gP l=cY at hq hg;simp[f224];refine lS
  (λi s _=>fg l=qB l i/\s.length=16/\gt s 0= .ls 1 cY z/\gt s 3=i)
  (λo s _=>s.length=16/\((o= .exit 0/\fg l=true)\/(o= .ret/\fg l=false/\gt s 2=false))) l.length (by simp;omega) (by simp[qB]) ?_ ?_
 .rintro i fr h eG ⟨ho,cU,h0,h3⟩;by_cases hi:i<l.length
  .obtain⟨x,hx⟩:=eA hi;have hr:cY[i]?=some [.sc (.string x)]:=by rw[hg,hx];rfl
   have du:=gA hr
   rw[zm hx]at ho;have nM:=λb h=>fq b x h
   have hf:dM .i64 ((i:Int)+1)=((i+1:Nat):Int):=dh (by omega) (by omega);cases hk:jo x
   .have zz:fg l=false:=by rw[ho,hk];rfl
    clear ho;simp[cU,h0,h3,hi,hq,du,nM,hk,zz]
   .have zz:fg l=qB l (i+1):=by rw[ho,hk];rfl
    clear ho;simp[cU,h0,h3,hi,hq,du,nM,hk,hf];exact zz
  .have zz:fg l=true:=by rw[ho,Bl l i (by omega)]
   simp[cU,h0,h3,hi,hq,zz]
 .rintro o fr h hn ⟨cU,⟨rfl,hz⟩|⟨rfl,hz,h2⟩⟩
  .simp[cU,hz]
  .simp[h2,hz]
def vK (n:Nat)(b:Bool)(h:Hp):cW cx (n+1) b 224 [()] h=some ((true:AV),h):=by
 refine fZ f224 [.tmp 2] rfl rfl ?_ b h;simp[f224];refine lS
  (λj s _=>j=0/\s.length=16/\gt s 0=()/\gt s 3=(0:Int))
  (λo s _=>s.length=16/\o= .exit 0) 0 (by simp) (by simp) ?_ ?_
 .rintro j fr h eG ⟨rfl,cU,h0,h3⟩;simp[cU,h0,h3]
 .rintro o fr h hn ⟨cU,rfl⟩;simp[cU]
def PN (n:Nat)(b:Bool)(x:ByteArray)(h:Hp):cW cx (n+3) b 160 [.sc (.string x)] h=some (.sc (.bool (!jo x)),h):=by
 refine fZ f160 [.tmp 2] rfl rfl ?_ b h;have hc:=λb h=>Bk n b x h
 cases hk:jo x<;>simp[f160,hc,hk]
def PO :List ByteArray->Nat->Int
 | [],_=> -1
 |c::l,i=>if jo c=true then PO l (i+1)else i
def lT (l:List ByteArray)(i:Nat):Int:=PO (l.drop i) i
def Bm :∀(l:List ByteArray) (i:Nat),(0<=PO l i)=(fg l=false)
 | [],i=>by simp[PO,fg]
 |
  c::l,i=>by
  rw[PO,fg,Zn];cases h:jo c
  .simp
  .have:=Bm l (i+1);unfold fg at this;simp[this]
def Eh (l:List ByteArray)(i:Nat)(h:l.length<=i):lT l i= -1:=by unfold lT;rw[Zt h];rfl
def Bn {l:List ByteArray}{i:Nat}{c:ByteArray}(h:l[i]?=some c):lT l i=if jo c=true then lT l (i+1)else i:=by
 obtain⟨k,e⟩:=Za.1 h;unfold lT;rw[Zm k,e,PO]
def tU (n:Nat)(b:Bool)(l:List ByteArray)(z:Bool)(h:Hp)(hl:l.length<=1000000000000000):cW cx (n+4) b 192 [iK l z,.fn 160 []] h=some (.sc (.int .i64 (lT l 0)),h):=by
 refine fZ f192 [.tmp 4] rfl rfl ?_ b h;have hq:=dG l;have hg:=kF l;have fq:=λb x h=>PN n b x h
 unfold iK;generalize gP l=cY at hq hg;simp[f192,hq];refine lS
  (λi s _=>lT l 0=lT l i/\s.length=19/\gt s 0= .ls 1 cY z/\gt s 1= .fn 160 []/\gt s 7=l.length/\gt s 8=i)
  (λo s _=>s.length=19/\((o= .exit 0/\lT l 0= -1)\/(o= .ret/\gt s 4= .sc (.int .i64 (lT l 0))))) l.length (by simp;omega) (by simp) ?_ ?_
 .rintro i fr h eG ⟨ho,cU,h0,h1,h7,h8⟩;by_cases hi:i<l.length
  .obtain⟨x,hx⟩:=eA hi;have hr:cY[i]?=some [.sc (.string x)]:=by rw[hg,hx];rfl
   have du:=gA hr
   rw[Bn hx]at ho;have nM:=λb h=>fq b x h
   have hf:dM .i64 ((i:Int)+1)=((i+1:Nat):Int):=dh (by omega) (by omega);cases hk:jo x
   .rw[db (by rw[hk];simp)]at ho;simp[cU,h0,h1,h7,h8,hi,hq,du,nM,hk,ho]
   .rw[dd hk]at ho;simp[cU,h0,h1,h7,h8,hi,hq,du,nM,hk,hf];exact ho
  .have zz:lT l 0= -1:=by rw[ho,Eh l i (by omega)]
   simp[cU,h7,h8,hi,zz]
 .rintro o fr h hn ⟨cU,⟨rfl,hz⟩|⟨rfl,h2⟩⟩
  .simp[cU,hz]
  .simp[h2]
def yo (n:Nat)(b:Bool)(g:FuncId)(h:Hp):cW cx (n+1) b 192 [(),.fn g []] h=some (.sc (.int .i64 (-1)),h):=by
 refine fZ f192 [.tmp 4] rfl rfl ?_ b h;simp[f192];refine lS
  (λj s _=>j=0/\s.length=19/\gt s 7=(0:Int)/\gt s 8=(0:Int))
  (λo s _=>s.length=19/\o= .exit 0) 0 (by simp) (by simp) ?_ ?_
 .rintro j fr h eG ⟨rfl,cU,h7,h8⟩;simp[cU,h7,h8]
 .rintro o fr h hn ⟨cU,rfl⟩;simp[cU]
def my (n:Nat)(b:Bool)(l:List ByteArray)(z:Bool)(h:Hp)(hl:l.length<=1000000000000000):cW cx (n+5) b 116 [iK l z,.fn 160 []] h=some (.sc (.bool (!fg l)),h):=by
 refine fZ f116 [.tmp 4] rfl rfl ?_ b h;have hc:=λb h=>tU n b l z h hl
 have hw:=Bm l 0;change(0<=lT l 0)=_ at hw;unfold iK at hc|-;generalize lT l 0=w at hc hw;cases hk:fg l
 .have:0<=w:=hw.mpr hk;simp[f116,hc,this]
 .have:¬0<=w:=λq=>by rw[hw.mp q]at hk;cases hk
  simp[f116,hc,this]
def oB (n:Nat)(b:Bool)(h:Hp):cW cx (n+2) b 116 [(),.fn 160 []] h=some ((false:AV),h):=by
 refine fZ f116 [.tmp 4] rfl rfl ?_ b h;have hc:=λb h=>yo n b 160 h
 simp[f116,hc]
def jd (v:V):Bool:=jF v && (decide (v.k=1)||decide (v.k=2)||decide (v.k=4))
def yp (N D:Nat)(v:V)(hd:fB v<=D)(hb:gV v)(b:Bool)(h:Hp):cW cx (N+2*D+5) b 114 [.ag (enc v)] h=some (.sc (.bool (jd v)),h):=by
 have hv:=λb h=>oR N D v hd hb b h
 have hc:[AV.ag (enc v)].all d_=true:=lu v;refine fZ f114 [.tmp 2] hc rfl ?_ b h;clear hc;unfold jd;generalize jF v=K at hv;generalize N+2*D+4=M at hv;cases v with
 |
  mk k n d s z l=>
  simp only[V.k];rw[fY]at hv;have he:enc (.mk k n d s z l)=[.sc (.int .i64 k),.sc (.int .i64 n),.sc (.int .i64 d),.sc (.string s),fG z l]:=rfl;rw[he];clear he;generalize fG z l=L at hv;by_cases h1:k=1
  .subst h1;cases K<;>simp[f114,hv]
  by_cases h2:k=2
  .subst h2;cases K<;>simp[f114,hv]
  by_cases h4:k=4
  .subst h4;cases K<;>simp[f114,hv]
  cases K<;>simp[f114,h1,h2,h4]
def yq (N D:Nat)(v:V)(hd:fB v<=D)(hb:gV v)(b:Bool)(h:Hp):cW cx (N+2*D+5) b 84 [.ag (enc v)] h=some (.sc (.bool (jd v)),h):=by
 have hv:=λb h=>oQ N D v hd hb b h
 have hc:[AV.ag (enc v)].all d_=true:=lu v;refine fZ f84 [.tmp 2] hc rfl ?_ b h;clear hc;unfold jd;generalize jF v=K at hv;generalize N+2*D+4=M at hv;cases v with
 |
  mk k n d s z l=>
  simp only[V.k];rw[fY]at hv;have he:enc (.mk k n d s z l)=[.sc (.int .i64 k),.sc (.int .i64 n),.sc (.int .i64 d),.sc (.string s),fG z l]:=rfl;rw[he];clear he;generalize fG z l=L at hv;by_cases h1:k=1
  .subst h1;cases K<;>simp[f84,hv]
  by_cases h2:k=2
  .subst h2;cases K<;>simp[f84,hv]
  by_cases h4:k=4
  .subst h4;cases K<;>simp[f84,hv]
  cases K<;>simp[f84,hv,h1,h2,h4]
end
end Go.Proofs.YtaibpnppeiigdaaGreatDoor
