/- Part of the proof. -/
import Derived.Test.YtmocfjnklfpnbaaGreatDoorP12
set_option linter.all false
set_option maxHeartbeats 16000000
set_option maxRecDepth 100000
namespace Go.Proofs.YtmocfjnklfpnbaaGreatDoor
open Go Go.Ae Go.Proofs.Tryz
section
attribute [local simp] ew eY
def lf(k n d:Int)(s:ByteArray)(m:Nat):Bool:=decide (k=0) && decide (n=0) && decide (d=0) && dn s ⟨#[]⟩ && decide (m=0)
def mR(v:V):Bool:=lf v.k v.n v.d v.s v.l.length
def Eo(op:Int)(nm:ByteArray)(ds:Bool)(m:Int):Bool:=
 if op=1\/op=2 then decide (m=0)
 else if op=3\/op=4\/op=5\/op=6\/op=21 then decide (m=1)
 else if op=22 then decide (m<=16)
 else if op=23 then decide ((mN nm).1=0)||(decide ((mN nm).1<=m) && decide (m<=(mN nm).2))
 else if op=24 then decide (m=1)||(decide (m=0) && dn nm ⟨#[99,111,117,110,116]⟩ && !ds)
 else decide (m=2)
def MV(x:ByteArray):mN x=(1,1)\/mN x=(2,4)\/mN x=(0,0):=by
 unfold mN;by_cases h0:dn x ⟨#[105,100]⟩=true
 .simp[h0]
 simp only[Xs]at h0;by_cases h1:dn x ⟨#[116,121,112,101]⟩=true
 .simp[h0,h1]
 simp only[Xs]at h1;by_cases h2:dn x ⟨#[108,97,98,101,108,115]⟩=true
 .simp[h0,h1,h2]
 simp only[Xs]at h2;by_cases h3:dn x ⟨#[115,105,122,101]⟩=true
 .simp[h0,h1,h2,h3]
 simp only[Xs]at h3;by_cases h4:dn x ⟨#[108,101,110,103,116,104]⟩=true
 .simp[h0,h1,h2,h3,h4]
 simp only[Xs]at h4;by_cases h5:dn x ⟨#[110,111,100,101,115]⟩=true
 .simp[h0,h1,h2,h3,h4,h5]
 simp only[Xs]at h5;by_cases h6:dn x ⟨#[101,100,103,101,115]⟩=true
 .simp[h0,h1,h2,h3,h4,h5,h6]
 simp only[Xs]at h6;by_cases h7:dn x ⟨#[102,105,114,115,116]⟩=true
 .simp[h0,h1,h2,h3,h4,h5,h6,h7]
 simp only[Xs]at h7;by_cases h8:dn x ⟨#[108,97,115,116]⟩=true
 .simp[h0,h1,h2,h3,h4,h5,h6,h7,h8]
 simp only[Xs]at h8;by_cases h9:dn x ⟨#[115,116,97,114,116]⟩=true
 .simp[h0,h1,h2,h3,h4,h5,h6,h7,h8,h9]
 simp only[Xs]at h9;by_cases jv:dn x ⟨#[101,110,100]⟩=true
 .simp[h0,h1,h2,h3,h4,h5,h6,h7,h8,h9,jv]
 simp only[Xs]at jv;by_cases uu:dn x ⟨#[97,98,115]⟩=true
 .simp[h0,h1,h2,h3,h4,h5,h6,h7,h8,h9,jv,uu]
 simp only[Xs]at uu;by_cases sX:dn x ⟨#[116,101,120,116]⟩=true
 .simp[h0,h1,h2,h3,h4,h5,h6,h7,h8,h9,jv,uu,sX]
 simp only[Xs]at sX;by_cases tW:dn x ⟨#[99,111,97,108,101,115,99,101]⟩=true
 .simp[h0,h1,h2,h3,h4,h5,h6,h7,h8,h9,jv,uu,sX,tW]
 simp only[Xs]at tW;simp[h0,h1,h2,h3,h4,h5,h6,h7,h8,h9,jv,uu,sX,tW]
def Ag(x:ByteArray):((mN x).2=0)=((mN x).1=0):=by
 rcases MV x with h|h|h<;>rw[h]<;>simp
def Ah(n:Nat)(b:Bool)(k n' d:Int)(s:ByteArray)(r:List LA)(z:Bool)(h:Hp):cu cx (n+1) b 271 [.ag [k,n',d,s,.ls 5 r z]] h=some (.sc (.bool (lf k n' d s r.length)),h):=by
 refine fU f271 [.tmp 2] rfl rfl ?_ b h;unfold lf;by_cases h1:k=0
 .by_cases h2:n'=0
  .by_cases h3:d=0
   .cases h4:dn s ⟨#[]⟩
    .simp[f271,h1,h2,h3,h4]
    .by_cases h5:r.length=0
     .simp[f271,h1,h2,h3,h4,h5]
     .simp[f271,h1,h2,h3,h4,h5]
   .simp[f271,h1,h2,h3]
  .simp[f271,h1,h2]
 .simp[f271,h1]
def F_(n:Nat)(b:Bool)(k n' d:Int)(s:ByteArray)(r:List LA)(z:Bool)(h:Hp):cu cx (n+1) b 283 [.ag [k,n',d,s,.ls 5 r z]] h=some (.sc (.bool (lf k n' d s r.length)),h):=by
 refine fU f283 [.tmp 2] rfl rfl ?_ b h;unfold lf;by_cases h1:k=0
 .by_cases h2:n'=0
  .by_cases h3:d=0
   .cases h4:dn s ⟨#[]⟩
    .simp[f283,h1,h2,h3,h4]
    .by_cases h5:r.length=0
     .simp[f283,h1,h2,h3,h4,h5]
     .simp[f283,h1,h2,h3,h4,h5]
   .simp[f283,h1,h2,h3]
  .simp[f283,h1,h2]
 .simp[f283,h1]
def Ga(n:Nat)(b:Bool)(op k n' d:Int)(s:ByteArray)(r q:List LA)(z z':Bool)(nm:ByteArray)(ds:Bool)(h:Hp):cu cx (n+2) b 275 [.ag [op,k,n',d,s,.ls 5 r z,nm,ds,.ls 9 q z']] h=some (.sc (.bool (Eo op nm ds q.length)),h):=by
 refine fU f275 [.tmp 2] rfl rfl ?_ b h;have fa:=λb h=>F9 n b nm h
 generalize n+1=M at fa|-;have ha:=Ag nm;unfold Eo;generalize mN nm=ar at fa ha|-;obtain⟨lo,hi⟩:=ar;generalize hq:q.length=L;by_cases c1:op=1
 .by_cases e:L=0
  .have e':(L:Int)=0:=by omega
   simp[f275,hq,c1,e]
  .have e':¬(L:Int)=0:=by omega
   simp[f275,hq,c1,e]
 by_cases c2:op=2
 .by_cases e:L=0
  .have e':(L:Int)=0:=by omega
   simp[f275,hq,c2,e]
  .have e':¬(L:Int)=0:=by omega
   simp[f275,hq,c2,e]
 by_cases c3:op=3
 .by_cases e:L=1
  .have e':(L:Int)=1:=by omega
   simp[f275,hq,c3,e]
  .have e':¬(L:Int)=1:=by omega
   simp[f275,hq,c3,e']
 by_cases c4:op=4
 .by_cases e:L=1
  .have e':(L:Int)=1:=by omega
   simp[f275,hq,c4,e]
  .have e':¬(L:Int)=1:=by omega
   simp[f275,hq,c4,e']
 by_cases c5:op=5
 .by_cases e:L=1
  .have e':(L:Int)=1:=by omega
   simp[f275,hq,c5,e]
  .have e':¬(L:Int)=1:=by omega
   simp[f275,hq,c5,e']
 by_cases c6:op=6
 .by_cases e:L=1
  .have e':(L:Int)=1:=by omega
   simp[f275,hq,c6,e]
  .have e':¬(L:Int)=1:=by omega
   simp[f275,hq,c6,e']
 by_cases VG:op=21
 .by_cases e:L=1
  .have e':(L:Int)=1:=by omega
   simp[f275,hq,VG,e]
  .have e':¬(L:Int)=1:=by omega
   simp[f275,hq,VG,e']
 by_cases VH:op=22
 .by_cases e:L<=16
  .have e':(L:Int)<=16:=by omega
   simp[f275,hq,VH,e']
  .have e':¬(L:Int)<=16:=by omega
   simp[f275,hq,VH,e']
 by_cases Gb:op=23
 .by_cases e:lo=0
  .simp[f275,hq,Gb,fa,e]
  .by_cases e1:lo<=L
   .by_cases e2:(L:Int)<=hi<;>simp[f275,hq,Gb,fa,e,e1,e2]
   .simp[f275,hq,Gb,fa,e,e1]
 by_cases rP:op=24
 .by_cases e:L=1
  .have e':(L:Int)=1:=by omega
   simp[f275,hq,rP,e]
  .have e':¬(L:Int)=1:=by omega
   by_cases e1:L=0
   .have e1':(L:Int)=0:=by omega
    cases e2:dn nm ⟨#[99,111,117,110,116]⟩<;>cases ds<;>simp[f275,hq,rP,e1,e2]
   .have e1':¬(L:Int)=0:=by omega
    simp[f275,hq,rP,e',e1]
 by_cases e:L=2
 .have e':(L:Int)=2:=by omega
  simp[f275,hq,c1,c2,c3,c4,c5,c6,VG,VH,Gb,rP,e]
 .have e':¬(L:Int)=2:=by omega
  simp[f275,hq,c1,c2,c3,c4,c5,c6,VG,VH,Gb,rP,e']
def Er(n:Nat)(b:Bool)(op k n' d:Int)(s:ByteArray)(r q:List LA)(z z':Bool)(nm:ByteArray)(ds:Bool)(h:Hp):cu cx (n+2) b 324 [.ag [op,k,n',d,s,.ls 5 r z,nm,ds,.ls 9 q z']] h=some (.sc (.bool (Eo op nm ds q.length)),h):=by
 refine fU f324 [.tmp 2] rfl rfl ?_ b h;have fa:=λb h=>CU n b nm h
 generalize n+1=M at fa|-;have ha:=Ag nm;unfold Eo;generalize mN nm=ar at fa ha|-;obtain⟨lo,hi⟩:=ar;generalize hq:q.length=L;by_cases c1:op=1
 .by_cases e:L=0
  .have e':(L:Int)=0:=by omega
   simp[f324,hq,c1,e]
  .have e':¬(L:Int)=0:=by omega
   simp[f324,hq,c1,e]
 by_cases c2:op=2
 .by_cases e:L=0
  .have e':(L:Int)=0:=by omega
   simp[f324,hq,c2,e]
  .have e':¬(L:Int)=0:=by omega
   simp[f324,hq,c2,e]
 by_cases c3:op=3
 .by_cases e:L=1
  .have e':(L:Int)=1:=by omega
   simp[f324,hq,c3,e]
  .have e':¬(L:Int)=1:=by omega
   simp[f324,hq,c3,e']
 by_cases c4:op=4
 .by_cases e:L=1
  .have e':(L:Int)=1:=by omega
   simp[f324,hq,c4,e]
  .have e':¬(L:Int)=1:=by omega
   simp[f324,hq,c4,e']
 by_cases c5:op=5
 .by_cases e:L=1
  .have e':(L:Int)=1:=by omega
   simp[f324,hq,c5,e]
  .have e':¬(L:Int)=1:=by omega
   simp[f324,hq,c5,e']
 by_cases c6:op=6
 .by_cases e:L=1
  .have e':(L:Int)=1:=by omega
   simp[f324,hq,c6,e]
  .have e':¬(L:Int)=1:=by omega
   simp[f324,hq,c6,e']
 by_cases VG:op=21
 .by_cases e:L=1
  .have e':(L:Int)=1:=by omega
   simp[f324,hq,VG,e]
  .have e':¬(L:Int)=1:=by omega
   simp[f324,hq,VG,e']
 by_cases VH:op=22
 .by_cases e:L<=16
  .have e':(L:Int)<=16:=by omega
   simp[f324,hq,VH,e']
  .have e':¬(L:Int)<=16:=by omega
   simp[f324,hq,VH,e']
 by_cases Gb:op=23
 .by_cases e:lo=0
  .simp[f324,hq,Gb,fa,ha,e]
  .by_cases e1:lo<=L
   .by_cases e2:(L:Int)<=hi<;>simp[f324,hq,Gb,fa,ha,e,e1,e2]
   .simp[f324,hq,Gb,fa,ha,e,e1]
 by_cases rP:op=24
 .by_cases e:L=1
  .have e':(L:Int)=1:=by omega
   simp[f324,hq,rP,e]
  .have e':¬(L:Int)=1:=by omega
   by_cases e1:L=0
   .have e1':(L:Int)=0:=by omega
    cases e2:dn nm ⟨#[99,111,117,110,116]⟩<;>cases ds<;>simp[f324,hq,rP,e1,e2]
   .have e1':¬(L:Int)=0:=by omega
    simp[f324,hq,rP,e',e1]
 by_cases e:L=2
 .have e':(L:Int)=2:=by omega
  simp[f324,hq,c1,c2,c3,c4,c5,c6,VG,VH,Gb,rP,e]
 .have e':¬(L:Int)=2:=by omega
  simp[f324,hq,c1,c2,c3,c4,c5,c6,VG,VH,Gb,rP,e']
mutual
def xV :Ep->Int
 | .mk _ _ _ _ l=>QF l 1
def QF :List Ep->Int->Int
 | [],n=>n
 |x::xs,n=>QF xs (dA .i64 (n+xV x))
end
mutual
def Jy :Ep->Int
 | .mk _ _ _ _ l=>dA .i64 (QG l 0+1)
def QG :List Ep->Int->Int
 | [],n=>n
 |x::xs,n=>QG xs (if n<Jy x then Jy x else n)
end
def Gc{l:List Ep}{i:Nat}{x:Ep}(n:Int)(h:l[i]?=some x):QF (l.drop i) n=QF (l.drop (i+1)) (dA .i64 (n+xV x)):=by
 obtain⟨k,e⟩:=Za.1 h;rw[Zm k,e,QF]
def Gd{l:List Ep}{i:Nat}{x:Ep}(n:Int)(h:l[i]?=some x):QG (l.drop i) n=QG (l.drop (i+1)) (if n<Jy x then Jy x else n):=by
 obtain⟨k,e⟩:=Za.1 h;rw[Zm k,e,QG]
def rW{ev:LA}(h:ev.length=9)(a b c d e f g i j:AV):cF [a,b,c,d,e,f,g,i,j] 0 ev=ev:=by
 unfold cF;rw[List.take_zero,Zw,Xk,h];simp
def dR(e:Ep):calm (.ag (cM e))=true:=by
 obtain⟨op,⟨k,n,d,s,z,l⟩,nm,ds,ks⟩:=e;rw[cM,enc];unfold zT;cases (z && (fj l).isEmpty)<;>rfl
def jO{op k n d:Int}{s nm:ByteArray}{z ds:Bool}{l:List V}{ks:List Ep}(hz:z=false):cM (.mk op (.mk k n d s z l) nm ds ks)=[.sc (.int .i64 op),.sc (.int .i64 k),.sc (.int .i64 n),.sc (.int .i64 d),.sc (.string s),.ls 5 (fj l) false,.sc (.string nm),.sc (.bool ds),.ls 9 (cZ ks) false]:=by
 subst hz;rw[cM,enc];rfl
def Jz{D:Nat}{op:Int}{v:V}{nm:ByteArray}{ds:Bool}{ks:List Ep}(h:ke D (.mk op v nm ds ks)):∃k n d s l,v= .mk k n d s false l/\s.size<=1000000000000000/\ks.length<=1000000000000000:=by
 rw[ke]at h;obtain⟨k,n,d,s,z,l⟩:=v;have h1:=h.1.2;rw[CT]at h1;obtain⟨_,_,_,h2,_,rfl,_⟩:=h1;exact⟨k,n,d,s,l,rfl,h2,h.2.2.1⟩
def VI(D:Nat):∀(d:Nat)(e:Ep),lE e<=d->ke D e->∀N b h,cu cx (N+d+1) b 220 [.ag (cM e)] h=some (.sc (.int .i64 (xV e)),h):=by
 intro d
 induction d with
 |zero=>intro e h;have:=jU e;omega
 |succ d ih=>
  intro e de be N b h;have dL:[AV.ag (cM e)].all calm=true:=by rw[Zn,dR];rfl
  refine fU (n:=N+d+1) f220 [.tmp 2] dL rfl ?_ b h;have ho:∀x∈e.ks,∀b h,cu cx (N+d+1) b 220 [.ag (cM x)] h=some (.sc (.int .i64 (xV x)),h):=λx hx=>ih x (kU de hx) (mQ be hx) N
  obtain⟨op,v,nm,ds,ks⟩:=e;simp only[Ep.ks]at ho;obtain⟨k,n',d',s,l,rfl,hs,qg⟩:=Jz be;rw[jO rfl,xV];have hq:=cX ks;have hg:=eM ks;generalize cZ ks=cq at hq hg;generalize fj l=r5,hT:QF ks 1=T;simp[f220,hq];refine ve
   (λi st _=>∃c:Int,QF (ks.drop i) c=T/\st.length=19/\gt st 3=c/\gt st 7= .ls 9 cq false/\gt st 8=ks.length/\gt st 9=i)
   (λo s _=>o= .exit 0/\s.length=19/\gt s 3=T) ks.length (by simp;omega) (by exact ⟨1,hT,rfl,rfl,rfl,rfl,rfl⟩) ?_ ?_
  .rintro i fr hp cP ⟨c,hT,cp,h3,h7,h8,h9⟩;by_cases hi:i<ks.length
   .obtain⟨x,hx⟩:=eA hi;have hr:cq[i]?=some (cM x):=by rw[hg,hx];rfl
    have cC:=gA hr
    have hw:=λb h=>ho x (Zi hx) b h
    have hf:=cz (Yj cP qg);have dH:=cB x;have dO:=Gc c hx;rw[hT]at dO;generalize cM x=ev at hr cC hw dH;have dJ:ev.take 9=ev:=Yy (by omega);have mZ:=rW dH;generalize xV x=w at hw dO;simp[cp,h3,h7,h8,h9,hi,hq,cC,hw,dH,dJ,mZ,hf];exact dO.symm
   .have iJ:i=ks.length:=Yb cP (Ya hi);subst iJ;rw[Yc,QF]at hT;subst hT;simp[cp,h3,h8,h9]
  .rintro o fr hp hn ⟨rfl,cp,h3⟩;simp[cp,h3]
def QH(D:Nat):∀(d:Nat)(e:Ep),lE e<=d->ke D e->∀N b h,cu cx (N+d+1) b 219 [.ag (cM e)] h=some (.sc (.int .i64 (Jy e)),h):=by
 intro d
 induction d with
 |zero=>intro e h;have:=jU e;omega
 |succ d ih=>
  intro e de be N b h;have dL:[AV.ag (cM e)].all calm=true:=by rw[Zn,dR];rfl
  refine fU (n:=N+d+1) f219 [.tmp 2] dL rfl ?_ b h;have ho:∀x∈e.ks,∀b h,cu cx (N+d+1) b 219 [.ag (cM x)] h=some (.sc (.int .i64 (Jy x)),h):=λx hx=>ih x (kU de hx) (mQ be hx) N
  obtain⟨op,v,nm,ds,ks⟩:=e;simp only[Ep.ks]at ho;obtain⟨k,n',d',s,l,rfl,hs,qg⟩:=Jz be;rw[jO rfl,Jy];have hq:=cX ks;have hg:=eM ks;generalize cZ ks=cq at hq hg;generalize fj l=r5,hT:QG ks 0=T;simp[f219,hq];refine ve
   (λi st _=>∃c:Int,QG (ks.drop i) c=T/\st.length=20/\gt st 3=c/\gt st 7= .ls 9 cq false/\gt st 8=ks.length/\gt st 9=i)
   (λo s _=>o= .exit 0/\s.length=20/\gt s 3=T) ks.length (by simp;omega) (by exact ⟨0,hT,rfl,rfl,rfl,rfl,rfl⟩) ?_ ?_
  .rintro i fr hp cP ⟨c,hT,cp,h3,h7,h8,h9⟩;by_cases hi:i<ks.length
   .obtain⟨x,hx⟩:=eA hi;have hr:cq[i]?=some (cM x):=by rw[hg,hx];rfl
    have cC:=gA hr
    have hw:=λb h=>ho x (Zi hx) b h
    have hf:=cz (Yj cP qg);have dH:=cB x;have dO:=Gd c hx;rw[hT]at dO;generalize cM x=ev at hr cC hw dH;have dJ:ev.take 9=ev:=Yy (by omega);have mZ:=rW dH;generalize Jy x=w at hw dO;simp[cp,h3,h7,h8,h9,hi,hq,cC,hw,dH,dJ,mZ,hf];exact dO.symm
   .have iJ:i=ks.length:=Yb cP (Ya hi);subst iJ;rw[Yc,QG]at hT;subst hT;simp[cp,h3,h8,h9]
  .rintro o fr hp hn ⟨rfl,cp,h3⟩;simp[cp,h3]
mutual
def mG :Ep->Bool
 | .mk o _ _ _ l=>decide (o=24)||uz l
def uz :List Ep->Bool
 | []=>false
 |x::xs=>mG x||uz xs
end
def MW{l:List Ep}{i:Nat}{x:Ep}(h:l[i]?=some x):uz (l.drop i)=(mG x||uz (l.drop (i+1))):=by
 obtain⟨k,e⟩:=Za.1 h;rw[Zm k,e,uz]
def Ge(D:Nat):∀(d:Nat)(e:Ep),lE e<=d->ke D e->∀N b h,cu cx (N+d+1) b 25 [.ag (cM e)] h=some (.sc (.int .i64 (xV e)),h):=by
 intro d
 induction d with
 |zero=>intro e h;have:=jU e;omega
 |succ d ih=>
  intro e de be N b h;have dL:[AV.ag (cM e)].all calm=true:=by rw[Zn,dR];rfl
  refine fU (n:=N+d+1) f25 [.tmp 2] dL rfl ?_ b h;have ho:∀x∈e.ks,∀b h,cu cx (N+d+1) b 25 [.ag (cM x)] h=some (.sc (.int .i64 (xV x)),h):=λx hx=>ih x (kU de hx) (mQ be hx) N
  obtain⟨op,v,nm,ds,ks⟩:=e;simp only[Ep.ks]at ho;obtain⟨k,n',d',s,l,rfl,hs,qg⟩:=Jz be;rw[jO rfl,xV];have hq:=cX ks;have hg:=eM ks;generalize cZ ks=cq at hq hg;generalize fj l=r5,hT:QF ks 1=T;simp[f25];refine ve
   (λi st cD=>∃c:Int,QF (ks.drop i) c=T/\st.length=21/\gt st 1= .pt 0 0/\gt st 3=c/\gt st 4=i/\cD=[.row [op,k,n',d',s,.ls 5 r5 false,nm,ds,.ls 9 cq false]])
   (λo s _=>o= .exit 0/\s.length=21/\gt s 3=T) ks.length (by simp;omega) (by exact ⟨1,hT,rfl,rfl,rfl,rfl,rfl⟩) ?_ ?_
  .rintro i fr hp cP ⟨c,hT,cp,h1,h3,h4,hh⟩;subst hh;by_cases hi:i<ks.length
   .obtain⟨x,hx⟩:=eA hi;have hr:cq[i]?=some (cM x):=by rw[hg,hx];rfl
    have cC:=gA hr
    have hw:=λb h=>ho x (Zi hx) b h
    have hf:=cz (Yj cP qg);have dH:=cB x;have dO:=Gc c hx;rw[hT]at dO;generalize cM x=ev at hr cC hw dH;have dJ:ev.take 9=ev:=Yy (by omega);generalize xV x=w at hw dO;simp[cp,h1,h3,h4,hi,hq,cC,hw,dH,dJ,hf];exact dO.symm
   .have iJ:i=ks.length:=Yb cP (Ya hi);subst iJ;rw[Yc,QF]at hT;subst hT;simp[cp,h1,h3,h4,hq]
  .rintro o fr hp hn ⟨rfl,cp,h3⟩;simp[cp,h3]
def MX(D:Nat):∀(d:Nat)(e:Ep),lE e<=d->ke D e->∀N b h,cu cx (N+d+1) b 285 [.ag (cM e)] h=some (.sc (.int .i64 (Jy e)),h):=by
 intro d
 induction d with
 |zero=>intro e h;have:=jU e;omega
 |succ d ih=>
  intro e de be N b h;have dL:[AV.ag (cM e)].all calm=true:=by rw[Zn,dR];rfl
  refine fU (n:=N+d+1) f285 [.tmp 2] dL rfl ?_ b h;have ho:∀x∈e.ks,∀b h,cu cx (N+d+1) b 285 [.ag (cM x)] h=some (.sc (.int .i64 (Jy x)),h):=λx hx=>ih x (kU de hx) (mQ be hx) N
  obtain⟨op,v,nm,ds,ks⟩:=e;simp only[Ep.ks]at ho;obtain⟨k,n',d',s,l,rfl,hs,qg⟩:=Jz be;rw[jO rfl,Jy];have hq:=cX ks;have hg:=eM ks;generalize cZ ks=cq at hq hg;generalize fj l=r5,hT:QG ks 0=T;simp[f285];refine ve
   (λi st cD=>∃c:Int,QG (ks.drop i) c=T/\st.length=25/\gt st 1= .pt 0 0/\gt st 3=c/\gt st 4=i/\cD=[.row [op,k,n',d',s,.ls 5 r5 false,nm,ds,.ls 9 cq false]])
   (λo s _=>o= .exit 0/\s.length=25/\gt s 3=T) ks.length (by simp;omega) (by exact ⟨0,hT,rfl,rfl,rfl,rfl,rfl⟩) ?_ ?_
  .rintro i fr hp cP ⟨c,hT,cp,h1,h3,h4,hh⟩;subst hh;by_cases hi:i<ks.length
   .obtain⟨x,hx⟩:=eA hi;have hr:cq[i]?=some (cM x):=by rw[hg,hx];rfl
    have cC:=gA hr
    have hw:=λb h=>ho x (Zi hx) b h
    have hf:=cz (Yj cP qg);have dH:=cB x;have dO:=Gd c hx;rw[hT]at dO;generalize cM x=ev at hr cC hw dH;have dJ:ev.take 9=ev:=Yy (by omega);generalize Jy x=w at hw dO;by_cases hc:c<w
    .rw[cw hc]at dO;simp[cp,h1,h3,h4,hi,hq,cC,hw,dH,dJ,hf,hc];exact dO.symm
    .rw[cv hc]at dO;simp[cp,h1,h3,h4,hi,hq,cC,hw,dH,dJ,hf,hc];exact dO.symm
   .have iJ:i=ks.length:=Yb cP (Ya hi);subst iJ;rw[Yc,QG]at hT;subst hT;simp[cp,h1,h3,h4,hq]
  .rintro o fr hp hn ⟨rfl,cp,h3⟩;simp[cp,h3]
def Ai(D:Nat):∀(d:Nat)(e:Ep),lE e<=d->ke D e->∀N b h,cu cx (N+d+1) b 163 [.ag (cM e)] h=some (.sc (.bool (mG e)),h):=by
 intro d
 induction d with
 |zero=>intro e h;have:=jU e;omega
 |succ d ih=>
  intro e de be N b h;have dL:[AV.ag (cM e)].all calm=true:=by rw[Zn,dR];rfl
  refine fU (n:=N+d+1) f163 [.tmp 2] dL rfl ?_ b h;have ho:∀x∈e.ks,∀b h,cu cx (N+d+1) b 163 [.ag (cM x)] h=some (.sc (.bool (mG x)),h):=λx hx=>ih x (kU de hx) (mQ be hx) N
  obtain⟨op,v,nm,ds,ks⟩:=e;simp only[Ep.ks]at ho;obtain⟨k,n',d',s,l,rfl,hs,qg⟩:=Jz be;rw[jO rfl,mG];have hq:=cX ks;have hg:=eM ks;generalize cZ ks=cq at hq hg;generalize fj l=r5;by_cases dq:op=24
  .simp[f163,dq]
  simp only[dq,decide_false,Bool.false_or];generalize hT:uz ks=T;simp[f163,dq];refine ve
   (λi st cD=>uz (ks.drop i)=T/\st.length=20/\gt st 1= .pt 0 0/\gt st 3=i/\cD=[.row [op,k,n',d',s,.ls 5 r5 false,nm,ds,.ls 9 cq false]])
   (λo s _=>s.length=20/\((o= .exit 0/\T=false)\/(o= .ret/\T=true/\gt s 2=true))) ks.length (by simp;omega) (by exact ⟨hT,rfl,rfl,rfl,rfl⟩) ?_ ?_
  .rintro i fr hp cP ⟨hT,cp,h1,h3,hh⟩;subst hh;by_cases hi:i<ks.length
   .obtain⟨x,hx⟩:=eA hi;have hr:cq[i]?=some (cM x):=by rw[hg,hx];rfl
    have cC:=gA hr
    have hw:=λb h=>ho x (Zi hx) b h
    have hf:=cz (Yj cP qg);have dH:=cB x;have dO:=MW hx;rw[hT]at dO;generalize cM x=ev at hr cC hw dH;have dJ:ev.take 9=ev:=Yy (by omega);generalize mG x=w at hw dO;cases w with
    |
     true=>
     have:T=true:=by simpa using dO
     simp[cp,h1,h3,hi,hq,cC,hw,dH,dJ,this]
    |
     false=>
     have:uz (ks.drop (i+1))=T:=by simpa using dO.symm
     simp[cp,h1,h3,hi,hq,cC,hw,dH,dJ,hf,this]
   .have iJ:i=ks.length:=Yb cP (Ya hi);subst iJ;rw[Yc,uz]at hT;subst hT;simp[cp,h1,h3,hq]
  .rintro o fr hp hn ⟨cp,⟨rfl,hT⟩|⟨rfl,hT,h2⟩⟩
   .simp[cp,hT]
   .simp[hT,h2]
def Aj(p:LA->Bool):List LA->Int->Int
 | [],_=> -1
 |r::l,i=>if p r=true then i else Aj p l (i+1)
def Ak{p:LA->Bool}{l:List LA}{i:Nat}{r:LA}(h:l[i]?=some r):Aj p (l.drop i) (i:Nat)=if p r=true then(i:Int)else Aj p (l.drop (i+1)) ((i+1:Nat):Int):=by
 obtain⟨k,e⟩:=Za.1 h;rw[Zm k,e,Aj];rfl
def Es(p:LA->Bool):∀(l:List LA)(i:Int),0<=i->decide (0<=Aj p l i)=l.any p
 | [],i,h=>by simp[Aj]
 |
  r::l,i,h=>by
  rw[Aj,List.any_cons];cases hp:p r with
  |true=>simp[h]
  |false=>simp[Es p l (i+1) (by omega)]
def aa6(n:Nat)(b:Bool)(g:FuncId)(cq:List LA)(p:LA->Bool)(z:Bool)(h:Hp)(hw:∀r∈cq,r.length=9)(hl:cq.length<=1000000000000000)(hc:∀r∈cq,∀b h,cu cx n b g [.ag r] h=some (.sc (.bool (p r)),h))(hx:¬(g=267\/g=269):=by decide):cu cx (n+1) b 282 [.ls 9 cq z,.fn g []] h=some (.sc (.int .i64 (Aj p cq 0)),h):=by
 refine fU f282 [.tmp 4] rfl rfl ?_ b h;generalize hT:Aj p cq 0=T;simp[f282];refine ve
  (λi s _=>Aj p (cq.drop i) (i:Nat)=T/\s.length=19/\gt s 0= .ls 9 cq z/\gt s 1= .fn g []/\gt s 7=cq.length/\gt s 8=i)
  (λo s _=>s.length=19/\((o= .exit 0/\T= -1)\/(o= .ret/\gt s 4=T))) cq.length (by simp;omega) (by exact ⟨hT,rfl,rfl,rfl,rfl,rfl⟩) ?_ ?_
 .rintro i fr hp cP ⟨hT,cp,h0,h1,h7,h8⟩;by_cases hi:i<cq.length
  .obtain⟨r,hr⟩:=eA hi;have cC:=gA hr
   have hm:=Zi hr;have FF:=λb h=>hc r hm b h
   have dH:=hw r hm;have dJ:r.take 9=r:=Yy (by omega);have hf:=cz (Yj cP hl);rw[Ak hr]at hT;generalize p r=w at FF hT;cases w with
   |
    true=>
    rw[cw rfl]at hT;subst hT;simp[cp,h0,h1,h7,h8,hi,cC,FF,dH,dJ,hx]
   |
    false=>
    rw[cv (by simp)]at hT;simp[cp,h0,h1,h7,h8,hi,cC,FF,dH,dJ,hf,hx];exact hT
  .have iJ:i=cq.length:=Yb cP (Ya hi);subst iJ;rw[Yc,Aj]at hT;subst hT;simp[cp,h7,h8]
 .rintro o fr h hn ⟨cp,⟨rfl,hz⟩|⟨rfl,h2⟩⟩
  .simp[cp,hz]
  .simp[h2]
def aa7(n:Nat)(b:Bool)(g:FuncId)(cq:List LA)(p:LA->Bool)(z:Bool)(h:Hp)(hw:∀r∈cq,r.length=9)(hl:cq.length<=1000000000000000)(hc:∀r∈cq,∀b h,cu cx n b g [.ag r] h=some (.sc (.bool (p r)),h))(hx:¬(g=267\/g=269):=by decide):cu cx (n+2) b 226 [.ls 9 cq z,.fn g []] h=some (.sc (.bool (cq.any p)),h):=by
 refine fU f226 [.tmp 4] rfl rfl ?_ b h;have ae:=λb h=>aa6 n b g cq p z h hw hl hc hx
 rw[<-Es p cq 0 (by omega)];generalize Aj p cq 0=T,n+1=M at ae|-;by_cases hT:0<=T<;>simp[f226,ae,hT]
def aa8(n:Nat)(b:Bool)(g:FuncId)(cq:List LA)(p:LA->Bool)(z:Bool)(h:Hp)(hw:∀r∈cq,r.length=7)(hl:cq.length<=1000000000000000)(hc:∀r∈cq,∀b h,cu cx n b g [.ag r] h=some (.sc (.bool (p r)),h))(hx:¬(g=267\/g=269):=by decide):cu cx (n+1) b 272 [.ls 7 cq z,.fn g []] h=some (.sc (.int .i64 (Aj p cq 0)),h):=by
 refine fU f272 [.tmp 4] rfl rfl ?_ b h;generalize hT:Aj p cq 0=T;simp[f272];refine ve
  (λi s _=>Aj p (cq.drop i) (i:Nat)=T/\s.length=19/\gt s 0= .ls 7 cq z/\gt s 1= .fn g []/\gt s 7=cq.length/\gt s 8=i)
  (λo s _=>s.length=19/\((o= .exit 0/\T= -1)\/(o= .ret/\gt s 4=T))) cq.length (by simp;omega) (by exact ⟨hT,rfl,rfl,rfl,rfl,rfl⟩) ?_ ?_
 .rintro i fr hp cP ⟨hT,cp,h0,h1,h7,h8⟩;by_cases hi:i<cq.length
  .obtain⟨r,hr⟩:=eA hi;have cC:=gA hr
   have hm:=Zi hr;have FF:=λb h=>hc r hm b h
   have dH:=hw r hm;have dJ:r.take 7=r:=Yy (by omega);have hf:=cz (Yj cP hl);rw[Ak hr]at hT;generalize p r=w at FF hT;cases w with
   |
    true=>
    rw[cw rfl]at hT;subst hT;simp[cp,h0,h1,h7,h8,hi,cC,FF,dH,dJ,hx]
   |
    false=>
    rw[cv (by simp)]at hT;simp[cp,h0,h1,h7,h8,hi,cC,FF,dH,dJ,hf,hx];exact hT
  .have iJ:i=cq.length:=Yb cP (Ya hi);subst iJ;rw[Yc,Aj]at hT;subst hT;simp[cp,h7,h8]
 .rintro o fr h hn ⟨cp,⟨rfl,hz⟩|⟨rfl,h2⟩⟩
  .simp[cp,hz]
  .simp[h2]
def QI(n:Nat)(b:Bool)(g:FuncId)(cq:List LA)(p:LA->Bool)(z:Bool)(h:Hp)(hw:∀r∈cq,r.length=7)(hl:cq.length<=1000000000000000)(hc:∀r∈cq,∀b h,cu cx n b g [.ag r] h=some (.sc (.bool (p r)),h))(hx:¬(g=267\/g=269):=by decide):cu cx (n+2) b 209 [.ls 7 cq z,.fn g []] h=some (.sc (.bool (cq.any p)),h):=by
 refine fU f209 [.tmp 4] rfl rfl ?_ b h;have ae:=λb h=>aa8 n b g cq p z h hw hl hc hx
 rw[<-Es p cq 0 (by omega)];generalize Aj p cq 0=T,n+1=M at ae|-;by_cases hT:0<=T<;>simp[f209,ae,hT]
def aa9(n:Nat)(b:Bool)(g:FuncId)(cq:List LA)(p:LA->Bool)(z:Bool)(h:Hp)(hw:∀r∈cq,r.length=10)(hl:cq.length<=1000000000000000)(hc:∀r∈cq,∀b h,cu cx n b g [.ag r] h=some (.sc (.bool (p r)),h))(hx:¬(g=267\/g=269):=by decide):cu cx (n+1) b 147 [.ls 10 cq z,.fn g []] h=some (.sc (.int .i64 (Aj p cq 0)),h):=by
 refine fU f147 [.tmp 4] rfl rfl ?_ b h;generalize hT:Aj p cq 0=T;simp[f147];refine ve
  (λi s _=>Aj p (cq.drop i) (i:Nat)=T/\s.length=19/\gt s 0= .ls 10 cq z/\gt s 1= .fn g []/\gt s 7=cq.length/\gt s 8=i)
  (λo s _=>s.length=19/\((o= .exit 0/\T= -1)\/(o= .ret/\gt s 4=T))) cq.length (by simp;omega) (by exact ⟨hT,rfl,rfl,rfl,rfl,rfl⟩) ?_ ?_
 .rintro i fr hp cP ⟨hT,cp,h0,h1,h7,h8⟩;by_cases hi:i<cq.length
  .obtain⟨r,hr⟩:=eA hi;have cC:=gA hr
   have hm:=Zi hr;have FF:=λb h=>hc r hm b h
   have dH:=hw r hm;have dJ:r.take 10=r:=Yy (by omega);have hf:=cz (Yj cP hl);rw[Ak hr]at hT;generalize p r=w at FF hT;cases w with
   |
    true=>
    rw[cw rfl]at hT;subst hT;simp[cp,h0,h1,h7,h8,hi,cC,FF,dH,dJ,hx]
   |
    false=>
    rw[cv (by simp)]at hT;simp[cp,h0,h1,h7,h8,hi,cC,FF,dH,dJ,hf,hx];exact hT
  .have iJ:i=cq.length:=Yb cP (Ya hi);subst iJ;rw[Yc,Aj]at hT;subst hT;simp[cp,h7,h8]
 .rintro o fr h hn ⟨cp,⟨rfl,hz⟩|⟨rfl,h2⟩⟩
  .simp[cp,hz]
  .simp[h2]
def VJ{α:Type}{f g:α->Bool}:∀{l:List α},(∀x∈l,f x=g x)->l.any f=l.any g
 | [],_=>rfl
 |y::l,h=>by rw[List.any_cons,List.any_cons,h y (List.mem_cons_self ..),VJ λx hx=>h x (Yr _ hx)]
def Gf :∀l:List Ep,uz l=l.any mG
 | []=>by rw[uz];rfl
 |x::xs=>by rw[uz,List.any_cons,Gf xs]
def CV(D:Nat):∀(d:Nat)(e:Ep),lE e<=d->ke D e->∀N b h,cu cx (N+3*d) b 145 [.ag (cM e)] h=some (.sc (.bool (mG e)),h):=by
 intro d
 induction d with
 |zero=>intro e h;have:=jU e;omega
 |succ d ih=>
  intro e de be N b h;have dL:[AV.ag (cM e)].all calm=true:=by rw[Zn,dR];rfl
  refine fU (n:=N+3*d+2) f145 [.tmp 2] dL rfl ?_ b h;have ho:∀x∈e.ks,∀b h,cu cx (N+3*d) b 145 [.ag (cM x)] h=some (.sc (.bool (mG x)),h):=λx hx=>ih x (kU de hx) (mQ be hx) N
  obtain⟨op,v,nm,ds,ks⟩:=e;simp only[Ep.ks]at ho;obtain⟨k,n',d',s,l,rfl,hs,qg⟩:=Jz be;rw[jO rfl,mG];have hex:∃p:LA->Bool,(∀x∈ks,p (cM x)=mG x):=by
   refine⟨λr=>match cu cx (N+3*d) true 145 [.ag r] []with|some (.sc (.bool q),_)=>q|_=>false,λx hx=>?_⟩;simp only[ho x hx]
  obtain⟨p,hp⟩:=hex;have ae:=λb h=>aa7 (N+3*d) b 145 (cZ ks) p false h (λr hr=>by
   rw[<-nC]at hr;obtain⟨x,_,rfl⟩:=Yf.1 hr;exact cB x) (by rw[cX];exact qg) (λr hr b h=>by
   rw[<-nC]at hr;obtain⟨x,hx,rfl⟩:=Yf.1 hr;rw[hp x hx];exact ho x hx b h)
  have agL:(cZ ks).any p=uz ks:=by
   rw[Gf,<-nC,List.any_map];exact VJ λx hx=>hp x hx
  rw[agL]at ae;generalize cZ ks=cq at ae|-;generalize fj l=r5;generalize uz ks=T,N+3*d+2=M at ae|-;by_cases dq:op=24
  .simp[f145,dq]
  .simp[f145,dq,ae]
@[simp] def aeU :zM cx 323=true:=by kernel_rfl
@[simp] def ado :zM cx 9=false:=by kernel_rfl
@[simp] def afz :isStr cx 323=false:=by kernel_rfl
@[simp] def afY :cx.T 323=some {size:=1,agg:=false,zero:=[.slice none 0 0],kd:= .slice 1 false 1 [.int .u8 (0)]}:=by kernel_rfl
@[simp] def afD :j9 cx 323=true:=by kernel_rfl
def wK(c:UInt8):UInt8:=if 97<=c.toNat/\c.toNat<=122 then UInt8.ofNat (c.toNat-32)else c
def FG(x:ByteArray):ByteArray:=⟨(x.data.toList.map wK).toArray⟩
def JA(c:UInt8):AV:= .sc (.int .u8 c.toNat)
def Al(l:List UInt8)(i:Nat):LA:=((l.take i).map wK++l.drop i).map JA
def VK(l:List UInt8)(i:Nat):(Al l i).length=l.length:=by
 unfold Al;simp;omega
def VL{l:List UInt8}{i:Nat}{c:UInt8}(h:l[i]?=some c):(Al l i)[i]?=some (JA c):=by
 obtain⟨k,e⟩:=Za.1 h;unfold Al;rw[Zs,Zf (by simp;omega)];have hm:i-((l.take i).map wK).length=0:=by simp;omega
 rw[hm,Zm k,e];rfl
def VM{l:List UInt8}{i:Nat}{c:UInt8}(h:l[i]?=some c):cF (Al l i) i [JA (wK c)]=Al l (i+1):=by
 obtain⟨k,e⟩:=Za.1 h;have hA:(((l.take i).map wK).map JA).length=i:=by simp;omega
 have e1:Al l i=((l.take i).map wK).map JA++([JA c]++(l.drop (i+1)).map JA):=by
  unfold Al;rw[Zm k,e];simp
 have e2:Al l (i+1)=((l.take i).map wK).map JA++([JA (wK c)]++(l.drop (i+1)).map JA):=by
  unfold Al;rw[Xt,h];simp
 rw[e1,e2];unfold cF;rw[List.take_left' hA,<-List.drop_drop,List.drop_left' hA];simp
def QJ{l:List UInt8}{i:Nat}{c:UInt8}(h:l[i]?=some c)(hc:wK c=c):Al l i=Al l (i+1):=by
 obtain⟨k,e⟩:=Za.1 h;unfold Al;rw[Zm k,e,Xt,h];simp[hc]
def QK(l:List UInt8):Al l 0=l.map JA:=by simp[Al]
def VN(l:List UInt8):Al l l.length=(l.map wK).map JA:=by simp[Al]
def Gg :∀l:List UInt8,(l.map JA).mapM zL=some l
 | []=>rfl
 |
  c::l=>by
  have hc:=c.toNat_lt;have e:zL (JA c)=some c:=by
   show(if 0<=(c.toNat:Int)/\(c.toNat:Int)<256 then some (UInt8.ofNat (c.toNat:Int).toNat)else none)=some c;rw[cw ⟨by omega,by omega⟩];simp
  rw[Yn,Zo,e,Gg l];rfl
def JB{n:Int}(h1:0<=n)(h2:n<=255):dA .u8 n=n:=by
 show IntKind.u8.wrap n=n;unfold IntKind.wrap;show(if(IntKind.u8.signed && decide (n % 256≥2^7))=true then n % 256-256 else n % 256)=n;have:IntKind.u8.signed=false:=by decide
 rw[this,Bool.false_and,cv (by simp)];omega
def QL(n:Nat)(b:Bool)(x:ByteArray)(h:Hp)(hs:x.size<=1000000000000000):cu cx (n+1) b 297 [x] h=some (.sc (.string (FG x)),h):=by
 refine fU f297 [.tmp 2] rfl rfl ?_ b h;have hm:x.size<=maxLen:=by unfold maxLen;omega
 have hz:=pN x;have tY:=QK x.data.toList;have hb:=Gg (x.data.toList.map wK);rw[<-VN]at hb;unfold FG;generalize x.data.toList.map wK=res at hb|-;have cY:(x.data.toList.map λb=>AV.sc (.int .u8 b.toNat))=Al x.data.toList 0:=tY.symm;clear tY;generalize hl:x.data.toList=l,hL:x.size=L at *;have Lb:=VK l;simp[f297,hl,hL,hm,cY];refine ve
  (λi s cD=>i<=L/\s.length=30/\gt s 3= .sl 0 1 0 L false/\gt s 8= .sl 0 1 0 L false/\gt s 9=L/\gt s 10=i/\cD=[.raw (Al l i)])
  (λo s cD=>o= .exit 0/\s.length=30/\gt s 3= .sl 0 1 0 L false/\cD=[.raw (Al l L)]) L (by simp;omega) (by exact ⟨by omega,rfl,rfl,rfl,rfl,rfl,rfl⟩) ?_ ?_
 .rintro i fr hp _ ⟨UQ,cp,h3,h8,h9,jv,hh⟩;subst hh;by_cases hi:i<L
  .obtain⟨c,hc⟩:∃c,l[i]?=some c:=⟨_,Zb (by omega)⟩;have hg:=VL hc;have kQ:=VM hc;have j8:=QJ hc;have hf:=cz (Yj UQ hs);have gI:=c.toNat_lt;have ki:=Lb i;have FR:i+1<=l.length:=by omega
   have QM:=gA hg
   unfold JA at hg QM kQ;unfold wK at kQ j8;generalize Al l i=R0 at hg QM kQ j8 ki|-;generalize FH:Al l (i+1)=R1 at kQ j8;by_cases c1:97<=c.toNat
   .have ZR:(97:Int)<=c.toNat:=by omega
    by_cases c2:c.toNat<=122
    .have BM:(c.toNat:Int)<=122:=by omega
     rw[cw ⟨c1,c2⟩]at kQ;have e1:dA .u8 ((c.toNat:Int)-97)=(c.toNat:Int)-97:=JB (by omega) (by omega);have e2:dA .u8 ((c.toNat:Int)-97+65)=(c.toNat:Int)-32:=by rw[JB (by omega) (by omega)];omega
     have e3:((UInt8.ofNat (c.toNat-32)).toNat:Int)=(c.toNat:Int)-32:=by
      rw[UInt8.toNat_ofNat'];omega
     rw[e3]at kQ;simp[cp,h3,h8,h9,jv,hi,hg,ki,ZR,BM,e1,e2,kQ,hf,FR];exact⟨by omega,FH.symm⟩
    .have BM:¬(c.toNat:Int)<=122:=by omega
     have:=j8 (by rw[cv (λq=>c2 q.2)]);subst this;simp[cp,h3,h8,h9,jv,hi,hg,ZR,BM,hf];exact⟨by omega,FH.symm⟩
   .have ZR:¬(97:Int)<=c.toNat:=by omega
    have:=j8 (by rw[cv (λq=>c1 q.1)]);subst this;simp[cp,h3,h8,h9,jv,hi,hg,ZR,hf];exact⟨by omega,FH.symm⟩
  .have iJ:i=L:=Yb UQ (Ya hi);subst iJ;simp[cp,h3,h9,jv]
 .rintro o fr hp hn ⟨rfl,cp,h3,hh⟩;subst hh;have ki:=Lb L;have hL2:L=l.length:=by omega
  rw[<-hL2]at hb;generalize Al l L=R0 at hb ki|-;have ht:R0.take L=R0:=Yy (by omega);simp[cp,h3,ki,hL2.symm,ht,hb]
def tZ :List UInt8:=[32,77,65,84,67,72,32,79,80,84,73,79,78,65,76,32,87,72,69,82,69,32,85,78,87,73,78,68,32,65,83,32,87,73,84,72,32,68,73,83,84,73,78,67,84,32,79,82,68,69,82,32,66,89,32,65,83,67,32,68,69,83,67,32,83,75,73,80,32,76,73,77,73,84,32,82,69,84,85,82,78,32,67,82,69,65,84,69,32,77,69,82,71,69,32,83,69,84,32,82,69,77,79,86,69,32,68,69,76,69,84,69,32,68,69,84,65,67,72,32,65,78,68,32,79,82,32,78,79,84,32,73,78,32,73,83,32,78,85,76,76,32,84,82,85,69,32,70,65,76,83,69,32,87,65,76,75,32,84,82,65,73,76,32,83,73,77,80,76,69,32,83,72,79,82,84,69,83,84,32,65,78,89,32]
def JC(n:Nat)(b:Bool)(x y:ByteArray)(h:Hp)(hx:x.size<4294967281):cu cx (n+1) b 296 [x,y] h=some (.sc (.bool (Lib.contains x.data.toList y.data.toList)),h):=by
 refine QN rfl (by kernel_rfl) ?_ rfl b h;show Et 296 [x,y]=_;unfold Et;rw[cw rfl];simp only[hx,if_true]
def adz(x:ByteArray):Bool:=decide (x.size<4294967281)
def MY :ByteArray:=⟨#[32]⟩
def QO(x:ByteArray):Bool:= !(dn x ⟨#[]⟩) && (!(Lib.contains x.data.toList MY.data.toList) && Lib.contains tZ (MY++FG x++MY).data.toList)
def Gh(n:Nat)(b:Bool)(x:ByteArray)(h:Hp)(hs:x.size<=1000000):cu cx (n+2) b 273 [x] h=some (.sc (.bool (QO x)),h):=by
 refine fU f273 [.tmp 2] rfl rfl ?_ b h;have ae:=λb h=>QL n b x h (by omega)
 obtain⟨R,af⟩:∃R:ByteArray->ByteArray->Bool->Hp->Option (AV × Hp),∀x y b h,cu cx (n+1) b 296 [.sc (.string x),.sc (.string y)] h=if adz x=true then some (.sc (.bool (Lib.contains x.data.toList y.data.toList)),h)else R x y b h:=⟨λx y b h=>cu cx (n+1) b 296 [.sc (.string x),.sc (.string y)] h,λx y b h=>by
  split
  .rename_i q;exact JC n b x y h (of_decide_eq_true q)
  .rfl⟩
 have hx:adz x=true:=decide_eq_true (by omega);have hu:(FG x).size=x.size:=by unfold FG;show(x.data.toList.map wK).toArray.size=x.data.size;simp
 have g1:MY.size+(FG x).size<=9223372036854775807:=by rw[hu];show 1+_<=_;omega
 have g2:(MY++FG x).size+MY.size<=9223372036854775807:=by rw[ByteArray.size_append,hu];show 1+_+1<=_;omega
 unfold QO;generalize FG x=u at ae g1 g2|-;generalize n+1=M at ae af|-;have g3:=g2;rw[ByteArray.size_append]at g3;unfold MY at g1 g2 g3|-;cases he:dn x ⟨#[]⟩
 .cases hc:Lib.contains x.data.toList (ByteArray.mk #[32]).data.toList
  .simp only[]at hc;simp[f273,he,ae,af,hx,hc,g1,g3,tZ];split
   .simp
   .rename_i q;exact absurd (by kernel_rfl) q
  .simp only[]at hc;simp[f273,he,af,hx,hc]
 .simp[f273,he]
def dt(x:ByteArray):Bool:=qX x && !QO x
def oO(n:Nat)(b:Bool)(x:ByteArray)(h:Hp):cu cx (n+3) b 213 [x] h=some (.sc (.bool (dt x)),h):=by
 refine fU f213 [.tmp 2] rfl rfl ?_ b h;have ae:=λb h=>aa1 n b x h
 have af:=λ(q:qX x=true)b h=>Gh n b x h (by
  unfold qX at q;simp only[Zh,Zy]at q;omega)
 unfold dt;cases hn:qX x with
 |
  false=>
  rw[hn]at ae;simp[f213,ae]
 |
  true=>
  rw[hn]at ae;have af:=af hn;simp[f213,ae,af]
end
end Go.Proofs.YtmocfjnklfpnbaaGreatDoor
