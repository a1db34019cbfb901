/- Part of the proof. -/
import Derived.Test.YtaibpnppeiigdaaGreatDoorP13
set_option linter.all false
set_option maxHeartbeats 32000000
set_option maxRecDepth 100000
namespace Go.Proofs.YtaibpnppeiigdaaGreatDoor
open Go Go.Ae Go.Proofs.Tryz
section
attribute [local simp] zi da XM
def j7 (f:Nat->Int):∀(k i:Nat),tX f i k=0->∀j,i<=j->j<i+k->f j=0
 |0,i,_,j,h1,h2=>by omega
 |
  k+1,i,h,j,h1,h2=>by
  rw[tX]at h;by_cases hk:f i=0
  .rw[dd hk]at h;by_cases e:i=j
   .subst e;exact hk
   .exact j7 f k (i+1) h j (by omega) (by omega)
  .rw[db hk]at h;exact absurd h hk
def H0 {g:Gr}{i:Nat}{a c:Nd}(ha:g.nodes[i]?=some a)(hc:g.nodes[i+1]?=some c)(h:mB g (i+1)=0):a.id<c.id:=by
 unfold mB at h;rw[hc]at h;simp only at h;split at h
 .exact absurd h (by decide)
 .rename_i k;rw[Nat.add_sub_cancel]at k;by_cases q:c.id<=a.id
  .exact absurd ⟨by omega,a,ha,q⟩ k
  .omega
def xd {g:Gr}(h:tY g=0):uS g.nodes:=by
 have hz:∀j,j<g.nodes.length->mB g j=0:=λj hj=>j7 (mB g) g.nodes.length 0 h j (by omega) (by omega)
 intro i j a b ha hb qS;obtain⟨k,rfl⟩:∃k,j=i+1+k:=⟨j-(i+1),by omega⟩;clear qS
 induction k generalizing b with
 |zero=>exact H0 ha hb (hz _ (Za.1 hb).1)
 |
  succ k ih=>
  have hl:=(Za.1 hb).1;obtain⟨c,hc⟩:∃c,g.nodes[i+1+k]?=some c:=⟨_,Zb (by omega)⟩;have h1:=ih c hc;have h2:=H0 hc hb (hz _ hl);omega
def di {i:Nat}(h:i<=1000000000000000):dM .i64 ((i:Int)+1)=((i+1:Nat):Int):=dh (by omega) (by omega)
def iL {i j:Nat}(e:i=j+1)(h:i<=1000000000000000):dM .i64 ((i:Int)-1)=(j:Int):=by
 subst e;rw[show((j+1:Nat):Int)-1=(j:Int) by omega];exact dh (by omega) (by omega)
def N7 (N D:Nat)(b:Bool)(g:Gr)(h:Hp)(hb:AX D g):
 cW cx (N+2*D+8) b 52 [.ag (dn g)] h=some (.sc (.int .i64 (gN g)),h):=by
 refine fZ f52 [.tmp 2] (N4 _) rfl ?_ b h;have aa:=λb (n:Nd) h (hn:n∈g.nodes)=>NY (N+1) D b (some false) n.labels n.props false h (by intro e;cases e) (hb.ns n hn).1 (hb.ns n hn).2.1 (hb.ns n hn).2.2
 have ae:=λb (e:Ed) h (he:e∈g.cZ)=>NY (N+1) D b none [] e.props false h (λ_=>rfl) (by simp) (hb.es e he).1 (hb.es e he).2
 have af:=λb x h=>Bk (N+2*D+5) b x h
 have ah:=λb x h (hs:uS g.nodes)=>agc (N+2*D+2) b g.nodes x h hb.nl hs
 have nS:=hb.nl;have Bu:=hb.el;have tq:=fJ g.nodes;have qD:=fU g.cZ;have ZJ:=mM g.nodes;have rS:=mN g.cZ;have Bv:tY g=0->uS g.nodes:=xd;unfold gN;generalize eW:tY g=ne at Bv;generalize N5:yt g=ee;unfold tY at eW;unfold yt at N5;have wz:∀i n,g.nodes[i]?=some n->mB g i=if 0<i/\(∃m,g.nodes[i-1]?=some m/\n.id<=m.id)then 26
  else if n.id<1\/g.nn<=n.id then 1 else ie n.labels n.props:=λi n hn=>by unfold mB;rw[hn]
 have hfe:∀i e,g.cZ[i]?=some e->mC g i=if 0<i/\(∃m,g.cZ[i-1]?=some m/\e.id<=m.id)then 26
  else if e.id<1\/g.ne<=e.id then 1
  else if(dQ g.nodes e.src).isSome=false\/(dQ g.nodes e.dst).isSome=false then 10
  else if jo e.type=false then 6 else ie [] e.props:=λi n hn=>by unfold mC;rw[hn]
 generalize mB g=fn at eW wz;generalize mC g=fe at N5 hfe;unfold dn gh gE;unfold gh at ah;simp only[HT,iK,iE]at aa ae;generalize lU g.nodes=jW at tq ZJ ah;generalize mA g.cZ=h_ at qD rS;have e7:N+1+2*D+6=N+2*D+7:=by omega
 simp only[e7]at aa ae;generalize N+2*D+7=M at aa ae af ah|-;obtain⟨nodes,cZ,nn,en⟩:=g;simp only at *;by_cases k1:2000<nodes.length
 .simp[f52,tq,k1,show 2000< (nodes.length:Int) by omega]
 have PT:¬2000< (nodes.length:Int):=by omega
 by_cases k2:4000<cZ.length
 .simp[f52,tq,qD,k1,PT,k2,show 4000< (cZ.length:Int) by omega]
 have TY:¬4000< (cZ.length:Int):=by omega
 by_cases k3:nn<1
 .simp[f52,tq,qD,k1,PT,k2,TY,k3]
 by_cases k4:1000001<nn
 .simp[f52,tq,qD,k1,PT,k2,TY,k3,k4]
 by_cases k5:en<1
 .simp[f52,tq,qD,k1,PT,k2,TY,k3,k4,k5]
 by_cases k6:1000001<en
 .simp[f52,tq,qD,k1,PT,k2,TY,k3,k4,k5,k6]
 simp[f52,tq,qD,k1,PT,k2,TY,k3,k4,k5,k6];refine lS
  (λi s iR=>ne=tX fn i (nodes.length-i)/\s.length=135/\gt s 1= .pt 0 0/\gt s 38= .ls 3 jW false/\gt s 39=nodes.length/\gt s 40= .sc (.int .i64 i)/\∃tl,iR= .row [.ls 3 jW false,.ls 5 h_ false,nn,en]::tl)
  (λo s iR=>s.length=135/\((o= .exit 0/\ne=0/\gt s 1= .pt 0 0/\∃tl,iR= .row [.ls 3 jW false,.ls 5 h_ false,nn,en]::tl)\/(o= .ret/\ne≠0/\gt s 2=ne))) nodes.length (by simp;omega) (by simp[eW]) ?_ ?_
 .rintro i fr h eG ⟨ho,cU,h1,ZR,YE,PV,tl,hh⟩;subst hh;have vq:i<=1000000000000000:=Yn eG nS;by_cases hi:i<nodes.length
  .rw[sr fn hi]at ho;obtain⟨c,hx⟩:=eA hi;have nM:=λb h=>aa b c h (Zi hx)
   have hr:jW[i]?=some [.sc (.int .i64 c.id),.ls 1 (gP c.labels) false,.ls 6 (iy c.props) false]:=by rw[ZJ,hx];rfl
   have du:=gA hr
   have hv:=wz i c hx;generalize ie c.labels c.props=pe at nM hv;clear aa ae af ah wz hfe Bv;obtain rfl|⟨j,N3⟩:i=0\/∃j,i=j+1:=by cases i with|zero=>exact .inl rfl|succ j=>exact .inr ⟨j,rfl⟩
   .rw[db (by rintro⟨a,_⟩;omega)]at hv;have pQ:0< (nodes.length:Int):=by omega
    by_cases q1:c.id<1
    .have su:ne=1:=by rw[ho,hv];simp[q1]
     simp[cU,ZR,YE,PV,tq,hi,du,q1,su]
    by_cases q2:nn<=c.id
    .have su:ne=1:=by rw[ho,hv];simp[q1,q2]
     simp[cU,h1,ZR,YE,PV,tq,hi,du,q1,q2,su]
    rw[db (by omega)]at hv;by_cases q3:pe=0
    .rw[hv,dd q3]at ho;simp[cU,h1,ZR,YE,PV,tq,hi,du,q1,q2,q3,nM];exact⟨ho,rfl⟩
    .rw[hv,db q3]at ho;simp[cU,h1,ZR,YE,PV,tq,hi,du,q1,q2,q3,nM,ho]
   .obtain⟨m,hm⟩:∃m,nodes[j]?=some m:=⟨_,Zb (by omega)⟩;have hs:jW[j]?=some [.sc (.int .i64 m.id),iK m.labels false,iE m.props false]:=by rw[ZJ,hm];rfl
    have kC:=gA hs
    have hp:0<i:=by omega
    have hj:j<nodes.length:=by omega
    by_cases q0:c.id<=m.id
    .rw[dd ⟨by omega,m,by rw[show i-1=j by omega];exact hm,q0⟩]at hv;have su:ne=26:=by rw[ho,hv];simp
     have sw:=iL N3 vq;simp[cU,h1,ZR,YE,PV,tq,hi,hj,du,kC,sw,hp,q0,su]
    rw[db (by rintro⟨_,m',e,k⟩;rw[show i-1=j by omega,hm]at e;cases e;exact q0 k)]at hv;by_cases q1:c.id<1
    .have su:ne=1:=by rw[ho,hv];simp[q1]
     have sw:=iL N3 vq;simp[cU,h1,ZR,YE,PV,tq,hi,hj,du,kC,sw,hp,q0,q1,su]
    by_cases q2:nn<=c.id
    .have su:ne=1:=by rw[ho,hv];simp[q1,q2]
     have sw:=iL N3 vq;simp[cU,h1,ZR,YE,PV,tq,hi,hj,du,kC,sw,hp,q0,q1,q2,su]
    rw[db (by omega)]at hv;by_cases q3:pe=0
    .rw[hv,dd q3]at ho;have hf:=di vq;have sw:=iL N3 vq;simp[cU,h1,ZR,YE,PV,tq,hi,hj,du,kC,sw,hf,hp,q0,q1,q2,q3,nM];exact ho
    .rw[hv,db q3]at ho;have sw:=iL N3 vq;simp[cU,h1,ZR,YE,PV,tq,hi,hj,du,kC,sw,hp,q0,q1,q2,q3,nM,ho]
  .rw[show nodes.length-i=0 by omega]at ho;have vZ:ne=0:=ho;simp[cU,h1,YE,PV,hi,vZ]
 .rintro o fr h hn ⟨cU,⟨rfl,hz,h1,tl,hh⟩|⟨rfl,hz,h2⟩⟩
  .subst hh;clear eW hn wz aa;subst hz;have f4':=λb x h=>ah b x h (Bv rfl)
   clear ah Bv;simp[cU,h1,qD];refine lS
    (λi s iR=>ee=tX fe i (cZ.length-i)/\s.length=135/\gt s 1= .pt 0 0/\gt s 79= .ls 5 h_ false/\gt s 80=cZ.length/\gt s 81= .sc (.int .i64 i)/\∃tl,iR= .row [.ls 3 jW false,.ls 5 h_ false,nn,en]::tl)
    (λo s _=>s.length=135/\((o= .exit 2/\ee=0)\/(o= .ret/\gt s 2=ee))) cZ.length (by simp;omega) (by simp[N5,cU,h1]) ?_ ?_
   .rintro i fr h eG ⟨ho,cU,h1,Lw,KN,KO,tl,hh⟩;subst hh;have vq:i<=1000000000000000:=Yn eG Bu;by_cases hi:i<cZ.length
    .rw[sr fe hi]at ho;obtain⟨c,hx⟩:=eA hi;have nM:=λb h=>ae b c h (Zi hx)
     have hr:h_[i]?=some [.sc (.int .i64 c.id),.sc (.int .i64 c.src),.sc (.int .i64 c.dst),.sc (.string c.type),.ls 6 (iy c.props) false]:=by rw[rS,hx];rfl
     have du:=gA hr
     have hv:=hfe i c hx;have fa:=λb h=>f4' b c.src h
     have fb:=λb h=>f4' b c.dst h
     have fc:=λb h=>af b c.type h
     generalize(dQ nodes c.src).isSome=ba at fa hv;generalize(dQ nodes c.dst).isSome=bb at fb hv;generalize jo c.type=nt at fc hv;generalize ie [] c.props=pe at nM hv;clear ae af f4' hfe;obtain rfl|⟨j,N3⟩:i=0\/∃j,i=j+1:=by cases i with|zero=>exact .inl rfl|succ j=>exact .inr ⟨j,rfl⟩
     .rw[db (by rintro⟨a,_⟩;omega)]at hv;have pQ:0< (cZ.length:Int):=by omega
      by_cases q1:c.id<1
      .have su:ee=1:=by rw[ho,hv];simp[q1]
       simp[cU,Lw,KN,KO,qD,hi,du,q1,su]
      by_cases q2:en<=c.id
      .have su:ee=1:=by rw[ho,hv];simp[q1,q2]
       simp[cU,h1,Lw,KN,KO,qD,hi,du,q1,q2,su]
      rw[db (by omega)]at hv;cases ba
      .have su:ee=10:=by rw[ho,hv];simp
       simp[cU,h1,Lw,KN,KO,qD,hi,du,q1,q2,su,fa]
      cases bb
      .have su:ee=10:=by rw[ho,hv];simp
       simp[cU,h1,Lw,KN,KO,qD,hi,du,q1,q2,su,fa,fb]
      rw[db (by simp)]at hv;cases nt
      .have su:ee=6:=by rw[ho,hv];simp
       simp[cU,h1,Lw,KN,KO,qD,hi,du,q1,q2,su,fa,fb,fc]
      rw[db (by simp)]at hv;by_cases q3:pe=0
      .rw[hv,dd q3]at ho;simp[cU,h1,Lw,KN,KO,qD,hi,du,q1,q2,q3,fa,fb,fc,nM];exact⟨ho,rfl⟩
      .rw[hv,db q3]at ho;simp[cU,h1,Lw,KN,KO,qD,hi,du,q1,q2,q3,fa,fb,fc,nM,ho]
     .obtain⟨m,hm⟩:∃m,cZ[j]?=some m:=⟨_,Zb (by omega)⟩;have hs:h_[j]?=some [.sc (.int .i64 m.id),.sc (.int .i64 m.src),.sc (.int .i64 m.dst),.sc (.string m.type),.ls 6 (iy m.props) false]:=by rw[rS,hm];rfl
      have kC:=gA hs
      have hp:0<i:=by omega
      have hj:j<cZ.length:=by omega
      by_cases q0:c.id<=m.id
      .rw[dd ⟨by omega,m,by rw[show i-1=j by omega];exact hm,q0⟩]at hv;have su:ee=26:=by rw[ho,hv];simp
       have sw:=iL N3 vq;simp[cU,h1,Lw,KN,KO,qD,hi,hj,du,kC,sw,hp,q0,su]
      rw[db (by rintro⟨_,m',e,k⟩;rw[show i-1=j by omega,hm]at e;cases e;exact q0 k)]at hv;by_cases q1:c.id<1
      .have su:ee=1:=by rw[ho,hv];simp[q1]
       have sw:=iL N3 vq;simp[cU,h1,Lw,KN,KO,qD,hi,hj,du,kC,sw,hp,q0,q1,su]
      by_cases q2:en<=c.id
      .have su:ee=1:=by rw[ho,hv];simp[q1,q2]
       have sw:=iL N3 vq;simp[cU,h1,Lw,KN,KO,qD,hi,hj,du,kC,sw,hp,q0,q1,q2,su]
      rw[db (by omega)]at hv;have sw:=iL N3 vq;have hf:=di vq;cases ba
      .have su:ee=10:=by rw[ho,hv];simp
       simp[cU,h1,Lw,KN,KO,qD,hi,hj,du,kC,sw,hp,q0,q1,q2,su,fa]
      cases bb
      .have su:ee=10:=by rw[ho,hv];simp
       simp[cU,h1,Lw,KN,KO,qD,hi,hj,du,kC,sw,hp,q0,q1,q2,su,fa,fb]
      rw[db (by simp)]at hv;cases nt
      .have su:ee=6:=by rw[ho,hv];simp
       simp[cU,h1,Lw,KN,KO,qD,hi,hj,du,kC,sw,hp,q0,q1,q2,su,fa,fb,fc]
      rw[db (by simp)]at hv;by_cases q3:pe=0
      .rw[hv,dd q3]at ho;simp[cU,h1,Lw,KN,KO,qD,hi,hj,du,kC,sw,hf,hp,q0,q1,q2,q3,fa,fb,fc,nM];exact ho
      .rw[hv,db q3]at ho;simp[cU,h1,Lw,KN,KO,qD,hi,hj,du,kC,sw,hp,q0,q1,q2,q3,fa,fb,fc,nM,ho]
    .rw[show cZ.length-i=0 by omega]at ho;have vZ:ee=0:=ho;simp[cU,KN,KO,hi,vZ]
   .rintro o fr h hn ⟨cU,⟨rfl,hz⟩|⟨rfl,h2⟩⟩
    .simp[cU,hz]
    .simp[h2]
  .simp[h2,hz]
structure Ch where
 k:Int
 a:Int
 b:Int
 c:Int
 name:ByteArray
 v:V
def dp (c:Ch):LA:=[.sc (.int .i64 c.k),.sc (.int .i64 c.a),.sc (.int .i64 c.b),.sc (.int .i64 c.c),.sc (.string c.name)]++enc c.v
@[simp] def acP (c:Ch):(dp c).length=10:=by simp[dp]
def rj (c:Ch):[AV.ag (dp c)].all d_=true:=by
 obtain⟨k,a,b,d,name,v⟩:=c;cases v with
 |mk k' n' d' s' z' l'=>simp only[dp,enc,Zn,List.all_nil,Bool.and_true,d_,ql];cases z' && (dN l').isEmpty<;>rfl
@[simp] def ah3 (v:V):(enc v).take 5=enc v:=Ys (by simp)
def KP (x:Int):Bool:=decide (1<=x) && decide (x<=1000000)
def dt (k:Int):Bool:=decide (k=3)||decide (k=4)||decide (k=5)||decide (k=6)||decide (k=8)
def dj (k:Int):Bool:=decide (k=5)||decide (k=8)
def zeroV :V:= .mk 0 0 0 ⟨#[]⟩ true []
def mD (v:V):Bool:=decide (j6 v zeroV=0)
def tZ :gV zeroV:=⟨by decide,by decide,trivial⟩
def t_ (x:Int):[AV.sc (.int .i64 x)].all d_=true:=rfl
def Lx (n:Nat)(b:Bool)(x:Int)(h:Hp):cW cx (n+1) b 151 [x] h=some (.sc (.bool (KP x)),h):=by
 refine fZ f151 [.tmp 2] (t_ _) rfl ?_ b h;by_cases h1:1<=x<;>by_cases h2:x<=1000000<;>simp[f151,KP,h1,h2]
def adt (n:Nat)(b:Bool)(x:Int)(h:Hp):cW cx (n+1) b 166 [x] h=some (.sc (.bool (KP x)),h):=by
 refine fZ f166 [.tmp 2] (t_ _) rfl ?_ b h;by_cases h1:1<=x<;>by_cases h2:x<=1000000<;>simp[f166,KP,h1,h2]
def Ly (n:Nat)(b:Bool)(x:Int)(h:Hp):cW cx (n+1) b 153 [x] h=some (.sc (.bool (dj x)),h):=by
 refine fZ f153 [.tmp 2] (t_ _) rfl ?_ b h;by_cases h1:x=5
 .simp[f153,dj,h1]
 .by_cases h2:x=8<;>simp[f153,dj,h1,h2]
def PW (n:Nat)(b:Bool)(x:Int)(h:Hp):cW cx (n+1) b 152 [x] h=some (.sc (.bool (dt x)),h):=by
 refine fZ f152 [.tmp 2] (t_ _) rfl ?_ b h;by_cases h1:x=3
 .simp[f152,dt,h1]
 by_cases h2:x=4
 .simp[f152,dt,h2]
 by_cases h3:x=5
 .simp[f152,dt,h3]
 by_cases h4:x=6
 .simp[f152,dt,h4]
 .by_cases h5:x=8<;>simp[f152,dt,h1,h2,h3,h4,h5]
def H4 (N D:Nat)(b:Bool)(v:V)(h:Hp)(hd:fB v<=D)(hv:gV v):cW cx (N+3*D+7) b 154 [.ag (enc v)] h=some (.sc (.bool (mD v)),h):=by
 refine fZ f154 [.tmp 2] (lu _) rfl ?_ b h;have hz:fB zeroV<=D:=Yn (by show 1<=fB v;have:=gZ v;omega) hd;have aa:=λb h=>K6 D v zeroV hd hz hv tZ N b h
 unfold mD;generalize j6 v zeroV=r at aa;simp only[zeroV,enc,dN,ql,Qa,Bool.and_self,cond_true]at aa;generalize N+3*D+6=M at aa;by_cases hr:r=0<;>simp[f154,jB,aa,hr]
def T3 (N D:Nat)(b:Bool)(v:V)(h:Hp)(hd:fB v<=D)(hv:gV v):cW cx (N+2*D+8) b 167 [.ag (enc v)] h=some (.sc (.bool (mD v)),h):=by
 refine fZ f167 [.tmp 2] (lu _) rfl ?_ b h;have hz:fB zeroV<=D:=Yn (by show 1<=fB v;have:=gZ v;omega) hd;have aa:=λb h=>tP D v zeroV hd hz hv tZ N b h
 unfold mD;generalize j6 v zeroV=r at aa;simp only[zeroV,enc,dN,ql,Qa,Bool.and_self,cond_true]at aa;generalize N+2*D+7=M at aa;by_cases hr:r=0<;>simp[f167,jB,aa,hr]
def Ad (k:Int):LA:=if k=3\/k=4 then[.sc (.bool false),.sc (.bool true),.sc (.bool false)]else if k=5\/k=8 then[.sc (.bool false),.sc (.bool true),.sc (.bool true)]else if k=6 then[.sc (.bool true),.sc (.bool true),.sc (.bool false)]else[.sc (.bool false),.sc (.bool false),.sc (.bool false)]
def dB (k:Int):Bool:=decide (1<=k) && decide (k<=8)
@[simp] def alk :cx.T 189=some {size:=3,agg:=true,zero:=[.bool false,.bool false,.bool false],kd:= .struct [(0,1,false),(1,1,false),(2,1,false)]}:=by kernel_rfl
def ZS (k:Int):[AV.ag (Ad k),.sc (.bool (dB k))].all d_=true:=by unfold Ad;split<;>(try split)<;>(try split)<;>rfl
def T4 (n:Nat)(b:Bool)(k:Int)(h:Hp):cW cx (n+1) b 165 [k] h=some (.tp [.ag (Ad k),.sc (.bool (dB k))],h):=by
 refine tA (xs:=[.ag (Ad k),.sc (.bool (dB k))]) f165 [.cell 2 3 true,.tmp 3] (t_ _) (by exact ZS _) ?_ b h;by_cases h1:k=1
 .subst h1;simp[f165,Ad,dB]
 by_cases h2:k=2
 .subst h2;simp[f165,Ad,dB]
 by_cases h7:k=7
 .subst h7;simp[f165,Ad,dB]
 by_cases h3:k=3
 .subst h3;simp[f165,Ad,dB]
 by_cases h4:k=4
 .subst h4;simp[f165,Ad,dB]
 by_cases h5:k=5
 .subst h5;simp[f165,Ad,dB]
 by_cases h8:k=8
 .subst h8;simp[f165,Ad,dB]
 by_cases h6:k=6
 .subst h6;simp[f165,Ad,dB]
 .have hk:dB k=false:=by
   unfold dB;by_cases q:1<=k
   .by_cases q':k<=8
    .omega
    .simp[q']
   .simp[q]
  simp[f165,Ad,hk,h1,h2,h3,h4,h5,h6,h7,h8]
def dr (c:Ch):Int:=
 if dB c.k=false\/KP c.a=false\/(dt c.k=false/\kr c.name ⟨#[]⟩=false)\/(dj c.k=false/\mD c.v=false)then 1
 else if(c.k=6/\(KP c.b=false\/KP c.c=false))\/(¬c.k=6/\(¬c.b=0\/¬c.c=0))then 1
 else if dt c.k=true/\jo c.name=false then 6
 else if dj c.k=true/\mD c.v=false/\jd c.v=false then 8 else 0
def iC (N D:Nat)(b:Bool)(c:Ch)(h:Hp)(hd:fB c.v<=D)(hv:gV c.v):cW cx (N+3*D+8) b 88 [.ag (dp c)] h=some (.sc (.int .i64 (dr c)),h):=by
 refine fZ f88 [.tmp 2] (rj _) rfl ?_ b h;have iz:=λb h=>Lx (N+3*D+6) b c.a h
 have N8:=λb h=>Lx (N+3*D+6) b c.b h
 have SM:=λb h=>Lx (N+3*D+6) b c.c h
 have af:=λb h=>PW (N+3*D+6) b c.k h
 have ah:=λb h=>Ly (N+3*D+6) b c.k h
 have ai:=λb h=>H4 N D b c.v h hd hv
 have aj:=λb h=>tS (N+3*D+5) b c.name h
 have au:=λb h=>yq (N+D+2) D c.v hd hv b h
 rw[show N+D+2+2*D+5=N+3*D+7 by omega]at au;have ae:True:=trivial;generalize N+3*D+7=M at iz N8 SM af ah ai aj au|-;obtain⟨k,a0,b0,c0,name,v⟩:=c;simp only[dp,dr,Zv,Zw]at *;generalize KP a0=ia at iz|-;generalize KP b0=ib at N8|-;generalize KP c0=ic at SM|-;generalize mD v=nl at ai|-;generalize jd v=pl at au|-;generalize jo name=ns at aj|-;generalize eM:kr name ⟨#[]⟩=en;by_cases r_:k<1
 .have hk:dB k=false:=by simp[dB,show¬1<=k by omega]
  simp[f88,hk,r_]
 by_cases hk8:8<k
 .have hk:dB k=false:=by simp[dB,show¬k<=8 by omega]
  simp[f88,hk,r_,hk8]
 have PM:k=1\/k=2\/k=3\/k=4\/k=5\/k=6\/k=7\/k=8:=by omega
 rcases PM with rfl|rfl|rfl|rfl|rfl|rfl|rfl|rfl
 .cases ia
  .simp[f88,dr,dB,dt,dj,af,ah,iz,ae,ai]
  cases en
  .simp[f88,dr,dB,dt,dj,af,ah,iz,ae,ai,eM]
  cases nl
  .simp[f88,dr,dB,dt,dj,af,ah,iz,ae,ai,eM]
  by_cases hb:b0=0
  rotate_left
  .simp[f88,dr,dB,dt,dj,af,ah,iz,ae,ai,eM,hb]
  by_cases hc:c0=0
  rotate_left
  .simp[f88,dr,dB,dt,dj,af,ah,iz,ae,ai,eM,hb,hc]
  simp[f88,dr,dB,dt,dj,af,ah,iz,ae,ai,eM,hb,hc]
 .cases ia
  .simp[f88,dr,dB,dt,dj,af,ah,iz,ae,ai]
  cases en
  .simp[f88,dr,dB,dt,dj,af,ah,iz,ae,ai,eM]
  cases nl
  .simp[f88,dr,dB,dt,dj,af,ah,iz,ae,ai,eM]
  by_cases hb:b0=0
  rotate_left
  .simp[f88,dr,dB,dt,dj,af,ah,iz,ae,ai,eM,hb]
  by_cases hc:c0=0
  rotate_left
  .simp[f88,dr,dB,dt,dj,af,ah,iz,ae,ai,eM,hb,hc]
  simp[f88,dr,dB,dt,dj,af,ah,iz,ae,ai,eM,hb,hc]
 .cases ia
  .simp[f88,dr,dB,dt,dj,af,ah,iz,ae,ai]
  cases nl
  .simp[f88,dr,dB,dt,dj,af,ah,iz,ae,ai,eM]
  by_cases hb:b0=0
  rotate_left
  .simp[f88,dr,dB,dt,dj,af,ah,iz,ae,ai,eM,hb]
  by_cases hc:c0=0
  rotate_left
  .simp[f88,dr,dB,dt,dj,af,ah,iz,ae,ai,eM,hb,hc]
  cases ns
  .simp[f88,dr,dB,dt,dj,af,ah,iz,ae,ai,eM,hb,hc,aj]
  simp[f88,dr,dB,dt,dj,af,ah,iz,ae,ai,eM,hb,hc,aj]
 .cases ia
  .simp[f88,dr,dB,dt,dj,af,ah,iz,ae,ai]
  cases nl
  .simp[f88,dr,dB,dt,dj,af,ah,iz,ae,ai,eM]
  by_cases hb:b0=0
  rotate_left
  .simp[f88,dr,dB,dt,dj,af,ah,iz,ae,ai,eM,hb]
  by_cases hc:c0=0
  rotate_left
  .simp[f88,dr,dB,dt,dj,af,ah,iz,ae,ai,eM,hb,hc]
  cases ns
  .simp[f88,dr,dB,dt,dj,af,ah,iz,ae,ai,eM,hb,hc,aj]
  simp[f88,dr,dB,dt,dj,af,ah,iz,ae,ai,eM,hb,hc,aj]
 .cases ia
  .simp[f88,dr,dB,dt,dj,af,ah,iz,ae,ai]
  by_cases hb:b0=0
  rotate_left
  .simp[f88,dr,dB,dt,dj,af,ah,iz,ae,ai,eM,hb]
  by_cases hc:c0=0
  rotate_left
  .simp[f88,dr,dB,dt,dj,af,ah,iz,ae,ai,eM,hb,hc]
  cases ns
  .simp[f88,dr,dB,dt,dj,af,ah,iz,ae,ai,eM,hb,hc,aj]
  cases nl
  rotate_left
  .simp[f88,dr,dB,dt,dj,af,ah,iz,ae,ai,eM,hb,hc,aj]
  cases pl
  .simp[f88,dr,dB,dt,dj,af,ah,iz,ae,ai,eM,hb,hc,aj,au]
  simp[f88,dr,dB,dt,dj,af,ah,iz,ae,ai,eM,hb,hc,aj,au]
 .cases ia
  .simp[f88,dr,dB,dt,dj,af,ah,iz,ae,ai]
  cases nl
  .simp[f88,dr,dB,dt,dj,af,ah,iz,ae,ai,eM]
  cases ib
  .simp[f88,dr,dB,dt,dj,af,ah,iz,ae,ai,eM,N8]
  cases ic
  .simp[f88,dr,dB,dt,dj,af,ah,iz,ae,ai,eM,N8,SM]
  cases ns
  .simp[f88,dr,dB,dt,dj,af,ah,iz,ae,ai,eM,N8,SM,aj]
  simp[f88,dr,dB,dt,dj,af,ah,iz,ae,ai,eM,N8,SM,aj]
 .cases ia
  .simp[f88,dr,dB,dt,dj,af,ah,iz,ae,ai]
  cases en
  .simp[f88,dr,dB,dt,dj,af,ah,iz,ae,ai,eM]
  cases nl
  .simp[f88,dr,dB,dt,dj,af,ah,iz,ae,ai,eM]
  by_cases hb:b0=0
  rotate_left
  .simp[f88,dr,dB,dt,dj,af,ah,iz,ae,ai,eM,hb]
  by_cases hc:c0=0
  rotate_left
  .simp[f88,dr,dB,dt,dj,af,ah,iz,ae,ai,eM,hb,hc]
  simp[f88,dr,dB,dt,dj,af,ah,iz,ae,ai,eM,hb,hc]
 .cases ia
  .simp[f88,dr,dB,dt,dj,af,ah,iz,ae,ai]
  by_cases hb:b0=0
  rotate_left
  .simp[f88,dr,dB,dt,dj,af,ah,iz,ae,ai,eM,hb]
  by_cases hc:c0=0
  rotate_left
  .simp[f88,dr,dB,dt,dj,af,ah,iz,ae,ai,eM,hb,hc]
  cases ns
  .simp[f88,dr,dB,dt,dj,af,ah,iz,ae,ai,eM,hb,hc,aj]
  cases nl
  rotate_left
  .simp[f88,dr,dB,dt,dj,af,ah,iz,ae,ai,eM,hb,hc,aj]
  cases pl
  .simp[f88,dr,dB,dt,dj,af,ah,iz,ae,ai,eM,hb,hc,aj,au]
  simp[f88,dr,dB,dt,dj,af,ah,iz,ae,ai,eM,hb,hc,aj,au]
def ZT (N D:Nat)(b:Bool)(c:Ch)(h:Hp)(hd:fB c.v<=D)(hv:gV c.v):cW cx (N+2*D+9) b 105 [.ag (dp c)] h=some (.sc (.int .i64 (dr c)),h):=by
 refine fZ f105 [.tmp 2] (rj _) rfl ?_ b h;have iz:=λb h=>adt (N+2*D+7) b c.a h
 have N8:=λb h=>adt (N+2*D+7) b c.b h
 have SM:=λb h=>adt (N+2*D+7) b c.c h
 have af:=λb h=>T4 (N+2*D+7) b c.k h
 have ai:=λb h=>T3 N D b c.v h hd hv
 have aj:=λb h=>Bk (N+2*D+6) b c.name h
 have au:=λb h=>yp (N+3) D c.v hd hv b h
 rw[show N+3+2*D+5=N+2*D+8 by omega]at au;have ae:True:=trivial;have ah:True:=trivial;generalize N+2*D+8=M at iz N8 SM af ai aj au|-;obtain⟨k,a0,b0,c0,name,v⟩:=c;simp only[dp,dr,Zv,Zw]at *;generalize KP a0=ia at iz|-;generalize KP b0=ib at N8|-;generalize KP c0=ic at SM|-;generalize mD v=nl at ai|-;generalize jd v=pl at au|-;generalize jo name=ns at aj|-;generalize eM:kr name ⟨#[]⟩=en;by_cases r_:k<1
 .have hk:dB k=false:=by simp[dB,show¬1<=k by omega]
  rw[hk]at af;have sA:Ad k=[.sc (.bool false),.sc (.bool false),.sc (.bool false)]:=by unfold Ad;rw[db (by omega),db (by omega),db (by omega)]
  rw[sA]at af;simp[f105,hk,af]
 by_cases hk8:8<k
 .have hk:dB k=false:=by simp[dB,show¬k<=8 by omega]
  rw[hk]at af;have sA:Ad k=[.sc (.bool false),.sc (.bool false),.sc (.bool false)]:=by unfold Ad;rw[db (by omega),db (by omega),db (by omega)]
  rw[sA]at af;simp[f105,hk,af]
 have PM:k=1\/k=2\/k=3\/k=4\/k=5\/k=6\/k=7\/k=8:=by omega
 rcases PM with rfl|rfl|rfl|rfl|rfl|rfl|rfl|rfl
 .simp[Ad,dB]at af;cases ia
  .simp[f105,dB,dt,dj,af,iz]
  by_cases hb:b0=0
  rotate_left
  .simp[f105,dB,dt,dj,af,iz,hb]
  by_cases hc:c0=0
  rotate_left
  .simp[f105,dB,dt,dj,af,iz,hb,hc]
  cases en
  .simp[f105,dB,dt,dj,af,iz,hb,hc,eM]
  cases nl
  .simp[f105,dB,dt,dj,af,iz,ai,hb,hc,eM]
  simp[f105,dB,dt,dj,af,iz,ai,hb,hc,eM]
 .simp[Ad,dB]at af;cases ia
  .simp[f105,dB,dt,dj,af,iz]
  by_cases hb:b0=0
  rotate_left
  .simp[f105,dB,dt,dj,af,iz,hb]
  by_cases hc:c0=0
  rotate_left
  .simp[f105,dB,dt,dj,af,iz,hb,hc]
  cases en
  .simp[f105,dB,dt,dj,af,iz,hb,hc,eM]
  cases nl
  .simp[f105,dB,dt,dj,af,iz,ai,hb,hc,eM]
  simp[f105,dB,dt,dj,af,iz,ai,hb,hc,eM]
 .simp[Ad,dB]at af;cases ia
  .simp[f105,dB,dt,dj,af,iz]
  by_cases hb:b0=0
  rotate_left
  .simp[f105,dB,dt,dj,af,iz,hb]
  by_cases hc:c0=0
  rotate_left
  .simp[f105,dB,dt,dj,af,iz,hb,hc]
  cases nl
  .simp[f105,dB,dt,dj,af,iz,ai,hb,hc]
  cases ns
  .simp[f105,dB,dt,dj,af,iz,ai,hb,hc,aj]
  simp[f105,dB,dt,dj,af,iz,ai,hb,hc,aj]
 .simp[Ad,dB]at af;cases ia
  .simp[f105,dB,dt,dj,af,iz]
  by_cases hb:b0=0
  rotate_left
  .simp[f105,dB,dt,dj,af,iz,hb]
  by_cases hc:c0=0
  rotate_left
  .simp[f105,dB,dt,dj,af,iz,hb,hc]
  cases nl
  .simp[f105,dB,dt,dj,af,iz,ai,hb,hc]
  cases ns
  .simp[f105,dB,dt,dj,af,iz,ai,hb,hc,aj]
  simp[f105,dB,dt,dj,af,iz,ai,hb,hc,aj]
 .simp[Ad,dB]at af;cases ia
  .simp[f105,dB,dt,dj,af,iz]
  by_cases hb:b0=0
  rotate_left
  .simp[f105,dB,dt,dj,af,iz,hb]
  by_cases hc:c0=0
  rotate_left
  .simp[f105,dB,dt,dj,af,iz,hb,hc]
  cases ns
  .simp[f105,dB,dt,dj,af,iz,hb,hc,aj]
  cases nl
  rotate_left
  .simp[f105,dB,dt,dj,af,iz,ai,hb,hc,aj]
  cases pl
  .simp[f105,dB,dt,dj,af,iz,ai,hb,hc,aj,au]
  simp[f105,dB,dt,dj,af,iz,ai,hb,hc,aj,au]
 .simp[Ad,dB]at af;cases ia
  .simp[f105,dB,dt,dj,af,iz]
  cases ib
  .simp[f105,dB,dt,dj,af,iz,N8]
  cases ic
  .simp[f105,dB,dt,dj,af,iz,N8,SM]
  cases nl
  .simp[f105,dB,dt,dj,af,iz,ai,N8,SM]
  cases ns
  .simp[f105,dB,dt,dj,af,iz,ai,N8,SM,aj]
  simp[f105,dB,dt,dj,af,iz,ai,N8,SM,aj]
 .simp[Ad,dB]at af;cases ia
  .simp[f105,dB,dt,dj,af,iz]
  by_cases hb:b0=0
  rotate_left
  .simp[f105,dB,dt,dj,af,iz,hb]
  by_cases hc:c0=0
  rotate_left
  .simp[f105,dB,dt,dj,af,iz,hb,hc]
  cases en
  .simp[f105,dB,dt,dj,af,iz,hb,hc,eM]
  cases nl
  .simp[f105,dB,dt,dj,af,iz,ai,hb,hc,eM]
  simp[f105,dB,dt,dj,af,iz,ai,hb,hc,eM]
 .simp[Ad,dB]at af;cases ia
  .simp[f105,dB,dt,dj,af,iz]
  by_cases hb:b0=0
  rotate_left
  .simp[f105,dB,dt,dj,af,iz,hb]
  by_cases hc:c0=0
  rotate_left
  .simp[f105,dB,dt,dj,af,iz,hb,hc]
  cases ns
  .simp[f105,dB,dt,dj,af,iz,hb,hc,aj]
  cases nl
  rotate_left
  .simp[f105,dB,dt,dj,af,iz,ai,hb,hc,aj]
  cases pl
  .simp[f105,dB,dt,dj,af,iz,ai,hb,hc,aj,au]
  simp[f105,dB,dt,dj,af,iz,ai,hb,hc,aj,au]
def oI (l:List ByteArray)(x:ByteArray):Bool:=l.any λy=>kr y x
def H5 (l:List ByteArray)(x:ByteArray)(i:Nat):Bool:=oI (l.drop i) x
def T5 (l:List ByteArray)(x:ByteArray)(i:Nat)(h:l.length<=i):H5 l x i=false:=by unfold H5;rw[Zt h];rfl
def PX {l:List ByteArray}{x:ByteArray}{i:Nat}{c:ByteArray}(h:l[i]?=some c):H5 l x i=(kr c x||H5 l x (i+1)):=by
 obtain⟨k,e⟩:=Za.1 h;unfold H5 oI;rw[Zm k,e,List.any_cons]
def FN (l:List ByteArray)(z:Bool)(x:ByteArray):[iK l z,.sc (.string x)].all d_=true:=rfl
def N9 (c:Nd)(x:ByteArray):[AV.ag (eo c),.sc (.string x)].all d_=true:=rfl
def Bw (n:Nat)(b:Bool)(l:List ByteArray)(z:Bool)(x:ByteArray)(h:Hp)(hl:l.length<=1000000000000000):
 cW cx (n+1) b 130 [iK l z,.sc (.string x)] h=some (.sc (.bool (oI l x)),h):=by
 refine fZ f130 [.tmp 4] (FN _ _ _) rfl ?_ b h;have hq:=dG l;have hg:=kF l;unfold iK;generalize gP l=cY at hq hg;simp[f130];refine lS
  (λi s _=>oI l x=H5 l x i/\s.length=18/\gt s 0= .ls 1 cY z/\gt s 1= .sc (.string x)/\gt s 5=i)
  (λo s _=>s.length=18/\((o= .exit 0/\oI l x=false)\/(o= .ret/\oI l x=true/\gt s 4=true))) l.length (by simp;omega) (by simp[H5]) ?_ ?_
 .rintro i fr h eG ⟨ho,cU,h0,h1,h5⟩;by_cases hi:i<l.length
  .obtain⟨c,hx⟩:=eA hi;have hr:cY[i]?=some [.sc (.string c)]:=by rw[hg,hx];rfl
   have du:=gA hr
   rw[PX hx]at ho;have hf:=di (Yn eG hl);cases hk:kr c x
   .have zz:oI l x=H5 l x (i+1):=by rw[ho,hk];rfl
    clear ho;simp[cU,h0,h1,h5,hi,hq,du,hk,hf];exact zz
   .have zz:oI l x=true:=by rw[ho,hk];rfl
    clear ho;simp[cU,h0,h1,h5,hi,hq,du,hk,zz]
  .have zz:oI l x=false:=by rw[ho,T5 l x i (by omega)]
   simp[cU,h0,h5,hi,hq,zz]
 .rintro o fr h hn ⟨cU,⟨rfl,hz⟩|⟨rfl,hz,h2⟩⟩
  .simp[cU,hz]
  .simp[h2,hz]
def mO (n:Nat)(b:Bool)(c:Nd)(x:ByteArray)(h:Hp)(hl:c.labels.length<=1000000000000000):
 cW cx (n+2) b 131 [.ag (eo c),.sc (.string x)] h=some (.sc (.bool (oI c.labels x)),h):=by
 refine fZ f131 [.tmp 4] (N9 _ _) rfl ?_ b h;have aa:=λb h=>Bw n b c.labels false x h hl
 generalize oI c.labels x=r at aa;unfold eo;unfold iK at aa|-;simp[f131,aa]
def Lz (l:List ByteArray)(x:ByteArray)(i:Nat):Int:=match l with
 | []=> -1
 |c::l=>if kr x c=true then i else Lz l x (i+1)
def Bx (l:List ByteArray)(x:ByteArray)(i:Nat):Int:=Lz (l.drop i) x i
def PY (l:List ByteArray)(x:ByteArray)(i:Nat)(h:l.length<=i):Bx l x i= -1:=by unfold Bx;rw[Zt h];rfl
def LB {l:List ByteArray}{x:ByteArray}{i:Nat}{c:ByteArray}(h:l[i]?=some c):Bx l x i=if kr x c=true then(i:Int)else Bx l x (i+1):=by
 obtain⟨k,e⟩:=Za.1 h;unfold Bx;rw[Zm k,e];rfl
def H6 (x:ByteArray):∀(l:List ByteArray) (i:Nat),decide (0<=Lz l x i)=oI l x
 | [],i=>rfl
 |
  c::l,i=>by
  have ih:=H6 x l (i+1);unfold Lz oI;rw[List.any_cons];cases hk:kr x c
  .have og:kr c x=false:=by
    rw[Bool.eq_false_iff]at hk|-;intro e;apply hk;rw[iT]at e|-;exact e.symm
   rw[og,Bool.false_or];exact ih
  .have og:kr c x=true:=by rw[iT]at hk|-;exact hk.symm
   rw[og,Bool.true_or];simp
def T6 (n:Nat)(b:Bool)(l:List ByteArray)(z:Bool)(x:ByteArray)(h:Hp)(hl:l.length<=1000000000000000):
 cW cx (n+1) b 193 [iK l z,.sc (.string x)] h=some (.sc (.int .i64 (Lz l x 0)),h):=by
 refine fZ f193 [.tmp 4] (FN _ _ _) rfl ?_ b h;have hq:=dG l;have hg:=kF l;unfold iK;generalize gP l=cY at hq hg;generalize hd:Lz l x 0=v;have LC:v=Bx l x 0:=hd.symm;simp[f193];refine lS
  (λi s _=>v=Bx l x i/\s.length=19/\gt s 0= .ls 1 cY z/\gt s 1= .sc (.string x)/\gt s 7=l.length/\gt s 8=i)
  (λo s _=>s.length=19/\((o= .exit 0/\v= -1)\/(o= .ret/\gt s 4=v))) l.length (by simp;omega) (by simp[LC,hq]) ?_ ?_
 .rintro i fr h eG ⟨ho,cU,h0,h1,h7,h8⟩;by_cases hi:i<l.length
  .obtain⟨c,hx⟩:=eA hi;have hr:cY[i]?=some [.sc (.string c)]:=by rw[hg,hx];rfl
   have du:=gA hr
   rw[LB hx]at ho;have hf:=di (Yn eG hl);cases hk:kr x c
   .rw[db (by rw[hk];decide)]at ho;simp[cU,h0,h1,h7,h8,hi,hq,du,hk,hf];exact ho
   .rw[dd hk]at ho;simp[cU,h0,h1,h7,h8,hi,hq,du,hk,ho]
  .have zz:v= -1:=by rw[ho,PY l x i (by omega)]
   simp[cU,h7,h8,hi,zz]
 .rintro o fr h hn ⟨cU,⟨rfl,hz⟩|⟨rfl,h2⟩⟩
  .simp[cU,hz]
  .simp[h2]
def zp (n:Nat)(b:Bool)(l:List ByteArray)(z:Bool)(x:ByteArray)(h:Hp)(hl:l.length<=1000000000000000):
 cW cx (n+2) b 119 [iK l z,.sc (.string x)] h=some (.sc (.bool (oI l x)),h):=by
 refine fZ f119 [.tmp 4] (FN _ _ _) rfl ?_ b h;have aa:=λb h=>T6 n b l z x h hl
 have ae:=H6 x l 0;generalize Lz l x 0=r at aa ae;generalize oI l x=w at ae;subst ae;unfold iK at aa|-;simp[f119,aa]
def LD (n:Nat)(b:Bool)(c:Nd)(x:ByteArray)(h:Hp)(hl:c.labels.length<=1000000000000000):
 cW cx (n+3) b 120 [.ag (eo c),.sc (.string x)] h=some (.sc (.bool (oI c.labels x)),h):=by
 refine fZ f120 [.tmp 4] (N9 _ _) rfl ?_ b h;have aa:=λb h=>zp n b c.labels false x h hl
 generalize oI c.labels x=r at aa;unfold eo;unfold iK at aa|-;simp[f120,aa]
def je (l:List Ed)(x:Int):Option Ed:=l.find? λn=>n.id==x
def Bz (l:List Ed)(x:Int)(i:Nat):Option Ed:=je (l.drop i) x
def PZ (l:List Ed)(x:Int)(i:Nat)(h:l.length<=i):Bz l x i=none:=by unfold Bz;rw[Zt h];rfl
def LF {l:List Ed}{x:Int}{i:Nat}{c:Ed}(h:l[i]?=some c):Bz l x i=if c.id=x then some c else Bz l x (i+1):=by
 obtain⟨k,e⟩:=Za.1 h;unfold Bz je;rw[Zm k,e,List.find?_cons];by_cases q:c.id=x
 .simp[q]
 .have q':(c.id==x)=false:=by simpa using q
  simp[q,q']
def Az (o:Option Ed):LA:=match o with
 |none=> [.sc (.int .i64 0),.sc (.int .i64 0),.sc (.int .i64 0),.sc (.string ⟨#[]⟩),.sc (.slice none 0 0)]
 |some n=>eY n
@[simp] def afB (o:Option Ed):(Az o).length=5:=by cases o<;>rfl
def ZU (o:Option Ed)(b:Bool):[AV.ag (Az o),.sc (.bool b)].all d_=true:=by cases o<;>rfl
def jO (n:Nat)(b:Bool)(g:Gr)(x:Int)(h:Hp)(hl:g.cZ.length<=1000000000000000):
 cW cx (n+1) b 90 [.ag (dn g),x] h=some (.tp [.ag (Az (je g.cZ x)),.sc (.bool (je g.cZ x).isSome)],h):=by
 refine tA (xs:=[.ag (Az (je g.cZ x)),.sc (.bool (je g.cZ x).isSome)]) f90 [.cell 4 5 true,.tmp 5] (Bt _ _) (by exact ZU _ _) ?_ b h;have hq:=fU g.cZ;have hg:=mN g.cZ;unfold dn gE;generalize mA g.cZ=cY at hq hg;simp[f90];refine lS
  (λi s iR=>je g.cZ x=Bz g.cZ x i/\s.length=28/\gt s 1=x/\gt s 2= .pt 0 0/\gt s 4= .pt 1 0/\gt s 6=i/\iR=[.row [gh g.nodes,.ls 5 cY false,g.nn,g.ne],.row [(0:Int),(0:Int),(0:Int),.sc (.string ⟨#[]⟩),()]])
  (λo s iR=>s.length=28/\gt s 4= .pt 1 0/\((o= .exit 0/\je g.cZ x=none/\∃a b,iR=[.row a,.row b]/\b.length=5)\/(o= .ret/\∃c a,je g.cZ x=some c/\gt s 5=true/\iR=[.row a,.row (eY c)]))) g.cZ.length (by simp;omega) (by simp[Bz]) ?_ ?_
 .rintro i fr h eG ⟨ho,cU,h1,h2,h4,h6,hh⟩;subst hh;by_cases hi:i<g.cZ.length
  .obtain⟨c,hx⟩:=eA hi;have hr:cY[i]?=some [.sc (.int .i64 c.id),.sc (.int .i64 c.src),.sc (.int .i64 c.dst),.sc (.string c.type),iE c.props false]:=by rw[hg,hx];rfl
   have du:=gA hr
   rw[LF hx]at ho;have hf:dM .i64 ((i:Int)+1)=((i+1:Nat):Int):=dh (by omega) (by omega);by_cases hk:c.id=x
   .rw[dd hk]at ho;simp[cU,h1,h2,h4,h6,hi,hq,du,hk,ho,eY]
   .rw[db hk]at ho;simp[cU,h1,h2,h4,h6,hi,hq,du,hk,hf];exact ho
  .have zz:je g.cZ x=none:=by rw[ho,PZ _ _ i (by omega)]
   simp[cU,h2,h4,h6,hi,hq,zz];exact gz rfl
 .rintro o fr h hn ⟨cU,h4,⟨rfl,hz,a,b',hh,hb⟩|⟨rfl,c,a,hz,h5,hh⟩⟩
  .subst hh;simp[cU,h4,hz,hb,Az]
  .subst hh;simp[h4,h5,hz,Az,eY]
def jf (l:List iP)(x:ByteArray):V:=match l with
 | []=>zeroV
 |c::l=>if kr c.key x=true then c.v else jf l x
def xe (l:List iP)(x:ByteArray)(i:Nat):V:=jf (l.drop i) x
def El (l:List iP)(x:ByteArray)(i:Nat)(h:l.length<=i):xe l x i=zeroV:=by unfold xe;rw[Zt h];rfl
def BA {l:List iP}{x:ByteArray}{i:Nat}{c:iP}(h:l[i]?=some c):xe l x i=if kr c.key x=true then c.v else xe l x (i+1):=by
 obtain⟨k,e⟩:=Za.1 h;unfold xe;rw[Zm k,e];rfl
def N_ (l:List iP)(z:Bool)(x:ByteArray):[iE l z,.sc (.string x)].all d_=true:=rfl
def rk :enc zeroV=[.sc (.int .i64 0),.sc (.int .i64 0),.sc (.int .i64 0),.sc (.string ⟨#[]⟩),.sc (.slice none 0 0)]:=rfl
def T7 (n:Nat)(b:Bool)(l:List iP)(z:Bool)(x:ByteArray)(h:Hp)(hl:l.length<=1000000000000000):
 cW cx (n+1) b 133 [iE l z,.sc (.string x)] h=some (.ag (enc (jf l x)),h):=by
 refine fZ f133 [.cell 4 5 true] (N_ _ _ _) (by exact ki _) ?_ b h;have hq:=dW l;have hg:=qo l;unfold iE;generalize iy l=cY at hq hg;generalize hv:jf l x=v;have wG:v=xe l x 0:=hv.symm;simp[f133];refine lS
  (λi s iR=>v=xe l x i/\s.length=25/\gt s 0= .ls 6 cY z/\gt s 1= .sc (.string x)/\gt s 4= .pt 0 0/\gt s 5=i/\iR=[.row (enc zeroV)])
  (λo s iR=>s.length=25/\gt s 4= .pt 0 0/\((o= .exit 0/\v=zeroV/\iR=[.row (enc zeroV)])\/(o= .ret/\iR=[.row (enc v)]))) l.length (by simp;omega) (by simp[wG,rk]) ?_ ?_
 .rintro i fr h eG ⟨ho,cU,h0,h1,h4,h5,hh⟩;subst hh;by_cases hi:i<l.length
  .obtain⟨c,hx⟩:=eA hi;have hr:cY[i]?=some (.sc (.string c.key)::enc c.v):=by rw[hg,hx];rfl
   have du:=gA hr
   rw[BA hx]at ho;have hf:=di (Yn eG hl);cases hk:kr c.key x
   .rw[db (by rw[hk];decide)]at ho;simp[cU,h0,h1,h4,h5,hi,hq,du,hk,hf];exact ho
   .rw[dd hk]at ho;simp[cU,h0,h1,h4,h5,hi,hq,du,hk,ho]
  .have zz:v=zeroV:=by rw[ho,El l x i (by omega)]
   simp[cU,h0,h4,h5,hi,hq,zz]
 .rintro o fr h hn ⟨cU,h4,⟨rfl,hz,hh⟩|⟨rfl,hh⟩⟩
  .subst hh;simp[cU,h4,hz,rk]
  .subst hh;simp[h4]
end
end Go.Proofs.YtaibpnppeiigdaaGreatDoor
namespace Go.Ae
open Go
structure iX {α:Type}(lt eq:α->Bool)(l pre gj post:List α):Prop where
 e:l=pre++gj++post
 p:∀x∈pre,lt x=true/\eq x=false
 m:∀x∈gj,lt x=false/\eq x=true
 one:gj.length<=1
 q:∀x∈post,lt x=false/\eq x=false
section
variable {α : Type} {lt eq : α -> Bool} {l pre gj post : List α}
def j8 (lt eq:α->Bool)(n:α)(add:Bool)(st:List α × Bool)(x:α):List α × Bool:=
 ((st.1++(if !st.2 && !lt x && add then[n]else[]))++(if eq x then[]else[x]),st.2|| !lt x)
def v_ (n:α)(add:Bool)(st:List α × Bool):List α:=if !st.2 && add then st.1++[n]else st.1
def om (lt eq:α->Bool)(n:α)(add:Bool)(l:List α)(i:Nat):List α × Bool:=(l.take i).foldl (j8 lt eq n add) ([],false)
def P6 (lt eq:α->Bool)(n:α)(add:Bool)(l:List α):List α:=v_ n add (om lt eq n add l l.length)
def Em (n:α)(add:Bool)(l:List α):om lt eq n add l 0=([],false):=rfl
def rm (n:α)(add:Bool){l:List α}{i:Nat}{x:α}(h:l[i]?=some x):om lt eq n add l (i+1)=j8 lt eq n add (om lt eq n add l i) x:=by
 unfold om;rw[Yx,h,List.foldl_append];rfl
def BB (n:α)(add:Bool):∀(post acc:List α),(∀x∈post,lt x=false/\eq x=false)->post.foldl (j8 lt eq n add) (acc,true)=(acc++post,true)
 | [],acc,_=>by simp
 |
  x::post,acc,h=>by
  have hx:=h x (by simp);rw[Yl];have:j8 lt eq n add (acc,true) x=(acc++[x],true):=by simp[j8,hx.2]
  rw[this,BB n add post _ (λy hy=>h y (by simp[hy]))];simp
def Oa (n:α)(add:Bool):∀(pre acc:List α),(∀x∈pre,lt x=true/\eq x=false)->pre.foldl (j8 lt eq n add) (acc,false)=(acc++pre,false)
 | [],acc,_=>by simp
 |
  x::pre,acc,h=>by
  have hx:=h x (by simp);rw[Yl];have:j8 lt eq n add (acc,false) x=(acc++[x],false):=by simp[j8,hx.1,hx.2]
  rw[this,Oa n add pre _ (λy hy=>h y (by simp[hy]))];simp
def BC (h:iX lt eq l pre gj post)(n:α)(add:Bool):P6 lt eq n add l=pre++(if add then[n]else[])++post:=by
 unfold P6 om;rw[Yz,h.e,List.foldl_append,List.foldl_append,Oa n add pre [] h.p];have hm:=h.one
 match yu:gj,hm with
 |
  [],_=>
  rw[List.foldl_nil]
  match Ob:post,h.q with
  | [],_=>cases add<;>simp[v_]
  |
   y::ys,hq=>
   have hy:=hq y (by simp);rw[Yl];have:j8 lt eq n add ([]++pre,false) y=(pre++(if add then[n]else[])++[y],true):=by cases add<;>simp[j8,hy.1,hy.2]
   rw[this,BB n add ys _ (λz hz=>hq z (by simp[hz]))];simp[v_]
 |
  [x],_=>
  have hx:=h.m x (by simp);rw[Yl,List.foldl_nil];have:j8 lt eq n add ([]++pre,false) x=(pre++(if add then[n]else[]),true):=by cases add<;>simp[j8,hx.1,hx.2]
  rw[this,BB n add post _ h.q];simp[v_]
 |_::_::_,hm=>simp at hm
def iX.filter (h:iX lt eq l pre gj post):l.filter (λx=> !eq x)=pre++post:=by
 have h1:pre.filter (λx=> !eq x)=pre:=List.filter_eq_self.2 λx hx=>by simp[(h.p x hx).2]
 have h2:gj.filter (λx=> !eq x)=[]:=List.filter_eq_nil_iff.2 λx hx=>by simp[(h.m x hx).2]
 have h3:post.filter (λx=> !eq x)=post:=List.filter_eq_self.2 λx hx=>by simp[(h.q x hx).2]
 rw[h.e,Yo,Yo,h1,h2,h3,Yp]
def iX.find (h:iX lt eq l pre gj post):l.find? eq=gj.head?:=by
 have h1:pre.find? eq=none:=List.find?_eq_none.2 λx hx=>by simp[(h.p x hx).2]
 rw[h.e,List.find?_append,List.find?_append,h1]
 match yu:gj with
 |
  []=>
  have h3:post.find? eq=none:=List.find?_eq_none.2 λx hx=>by simp[(h.q x hx).2]
  simp[h3]
 |x::_=>simp[(h.m x (by simp)).2]
def iX.any (h:iX lt eq l pre gj post):l.any eq= !gj.isEmpty:=by
 rw[h.e,List.any_append,List.any_append];have h1:pre.any eq=false:=List.any_eq_false.2 λx hx=>by simp[(h.p x hx).2]
 have h3:post.any eq=false:=List.any_eq_false.2 λx hx=>by simp[(h.q x hx).2]
 rw[h1,h3]
 match yu:gj with
 | []=>rfl
 |x::_=>simp[(h.m x (by simp)).2]
def iX.take (h:iX lt eq l pre gj post):l.take pre.length=pre:=by rw[h.e,Zp];simp
def iX.drop (h:iX lt eq l pre gj post):l.drop pre.length=gj++post:=by rw[h.e,Zp];simp
def iX.at {x:α}(h:iX lt eq l pre [x] post):l[pre.length]?=some x:=by rw[h.e,Zp];simp
def iX.set {x:α}(h:iX lt eq l pre [x] post)(n:α):l.set pre.length n=pre++[n]++post:=by rw[h.e,Zp];simp
def iX.lt_iff (h:iX lt eq l pre gj post){i:Nat}{x:α}(hx:l[i]?=some x):lt x=true↔i<pre.length:=by
 rw[h.e,Zp]at hx;by_cases hi:i<pre.length
 .rw[Zd hi]at hx;simp[hi,(h.p x (Zi hx)).1]
 .rw[Zf (by omega)]at hx;have hm:=Zi hx;have:lt x=false:=by
   rcases Ya.1 hm with hm|hm
   .exact(h.m x hm).1
   .exact(h.q x hm).1
  simp[hi,this]
def iX.H7 (h:iX lt eq l pre gj post){x:α}(hx:l[pre.length]?=some x):eq x= !gj.isEmpty:=by
 rw[h.e,Zp,Zf (Yt _),Nat.sub_self]at hx
 match yu:gj with
 |
  []=>
  simp at hx;have:=h.q x (Zi hx);simp[this.2]
 |
  y::_=>
  simp at hx;subst hx;simp[(h.m y (by simp)).2]
def iX.ua (h:iX lt eq l pre gj post)(hx:l.length<=pre.length):gj=[]:=by
 have:l.length=pre.length+gj.length+post.length:=by rw[h.e];simp;omega
 exact Zl (by omega)
def FP (R:α->α->Prop)(hl:l.Pairwise R)(h1:∀x y,R x y->lt y=true->lt x=true)(h2:∀x y,R x y->eq y=true->lt x=true)(h4:∀x,lt x=true->eq x=false):
 ∃pre gj post,iX lt eq l pre gj post:=by
 induction l with
 |nil=>exact⟨[],[],[],⟨rfl,by simp,by simp,by simp,by simp⟩⟩
 |
  cons x l ih=>
  rw[Ye]at hl;obtain⟨pre,gj,post,hs⟩:=ih hl.2;cases hx:lt x with
  |true=>exact⟨x::pre,gj,post,⟨by rw[hs.e];rfl,λy hy=>by
   rcases Xm.1 hy with rfl|hy
   .exact⟨hx,h4 _ hx⟩
   .exact hs.p y hy,hs.m,hs.one,hs.q⟩⟩
  |
   false=>
   have qE:∀y∈l,lt y=false:=λy hy=>by
    cases hq:lt y with
    |false=>rfl
    |true=>rw[h1 x y (hl.1 y hy) hq]at hx;cases hx
   have eW:∀y∈l,eq y=false:=λy hy=>by
    cases hq:eq y with
    |false=>rfl
    |true=>rw[h2 x y (hl.1 y hy) hq]at hx;cases hx
   cases he:eq x with
   |true=>exact⟨[],[x],l,⟨rfl,by simp,by simp[hx,he],by simp,λy hy=>⟨qE y hy,eW y hy⟩⟩⟩
   |false=>exact⟨[],[],x::l,⟨rfl,by simp,by simp,by simp,λy hy=>by
    rcases Xm.1 hy with rfl|hy
    .exact⟨hx,he⟩
    .exact⟨qE y hy,eW y hy⟩⟩⟩
end
end Go.Ae
