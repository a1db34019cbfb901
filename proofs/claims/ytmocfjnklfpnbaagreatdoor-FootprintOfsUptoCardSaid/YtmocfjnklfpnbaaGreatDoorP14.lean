/- Part of the proof. -/
import Derived.Test.YtmocfjnklfpnbaaGreatDoorP13
set_option linter.all false
set_option maxHeartbeats 32000000
set_option maxRecDepth 100000
namespace Go.Proofs.YtmocfjnklfpnbaaGreatDoor
open Go Go.Ae Go.Proofs.Tryz
section
attribute [local simp] ew eY
def jP(op:Int):Bool:=decide (op=2)||(decide (op=3)||(decide (op=4)||(decide (op=23)||decide (op=24))))
def uA(op:Int)(bl:Bool)(nm:ByteArray)(ds:Bool):Bool:=(decide (op=1)||bl) && (jP op||dn nm ⟨#[]⟩) && (decide (op=24)|| !ds)
def uB(k:Int)(bl ok:Bool):Bool:=bl||((decide (k=1)||decide (k=2)||decide (k=4)) && ok)
def me(op:Int)(nm:ByteArray):Bool:=if op=2\/op=3\/op=4 then !dt nm else if op=23 then decide ((mN nm).1=0)else if op=24 then !Em nm else false
def QP(n:Nat)(b:Bool)(op k n' d:Int)(s:ByteArray)(r q:List LA)(z z':Bool)(nm:ByteArray)(ds:Bool)(h:Hp):cu cx (n+2) b 276 [.ag [op,k,n',d,s,.ls 5 r z,nm,ds,.ls 9 q z']] h=some (.sc (.bool (uA op (lf k n' d s r.length) nm ds)),h):=by
 refine fU f276 [.tmp 2] rfl rfl ?_ b h;have fb:=λb h=>Ah n b k n' d s r z h
 generalize n+1=M,lf k n' d s r.length=bl at fb|-;unfold uA jP;by_cases c1:op=1
 .subst c1;cases bl<;>cases he:dn nm ⟨#[]⟩<;>cases ds<;>simp[f276,he]
 by_cases c2:op=2
 .subst c2;cases bl<;>cases he:dn nm ⟨#[]⟩<;>cases ds<;>simp[f276,fb]
 by_cases c3:op=3
 .subst c3;cases bl<;>cases he:dn nm ⟨#[]⟩<;>cases ds<;>simp[f276,fb]
 by_cases c4:op=4
 .subst c4;cases bl<;>cases he:dn nm ⟨#[]⟩<;>cases ds<;>simp[f276,fb]
 by_cases Gb:op=23
 .subst Gb;cases bl<;>cases he:dn nm ⟨#[]⟩<;>cases ds<;>simp[f276,fb]
 by_cases rP:op=24
 .subst rP;cases bl<;>cases he:dn nm ⟨#[]⟩<;>cases ds<;>simp[f276,fb]
 cases bl<;>cases he:dn nm ⟨#[]⟩<;>cases ds<;>simp[f276,fb,he,c1,c2,c3,c4,Gb,rP]
def Gi(N D:Nat)(b:Bool)(v:V)(h:Hp)(hd:kj v<=D)(hv:CT v):cu cx (N+2*D+5) b 277 [.ag (enc v)] h=some (.sc (.bool (uB v.k (mR v) (k_ v))),h):=by
 have dL:[AV.ag (enc v)].all calm=true:=by rw[Zn,VD];rfl
 refine fU (n:=N+2*D+4) f277 [.tmp 2] dL rfl ?_ b h;have ae:=λb h=>pK N D v hd (Ad hv) b h
 unfold jq at ae;obtain⟨k,n',d,s,z,l⟩:=v;rw[CT]at hv;obtain⟨_,_,_,_,_,rfl,_⟩:=hv;have af:=λb h=>Ah (N+2*D+3) b k n' d s (fj l) false h
 have e:enc (.mk k n' d s false l)=[.sc (.int .i64 k),.sc (.int .i64 n'),.sc (.int .i64 d),.sc (.string s),.ls 5 (fj l) false]:=by rw[enc];rfl
 rw[e]at ae|-;unfold mR;simp only[V.k,V.n,V.d,V.s,V.l];rw[dS]at af;generalize lf k n' d s l.length=bl at af|-;generalize k_ (.mk k n' d s false l)=ok at ae|-;generalize N+2*D+4=M,fj l=r at ae af|-;unfold uB;cases bl
 .by_cases c1:k=1
  .subst c1;cases ok<;>simp[f277,ae,af]
  by_cases c2:k=2
  .subst c2;cases ok<;>simp[f277,ae,af]
  by_cases c4:k=4
  .subst c4;cases ok<;>simp[f277,ae,af]
  simp[f277,af,c1,c2,c4]
 .simp[f277,af]
def Gj(n:Nat)(b:Bool)(op k n' d:Int)(s:ByteArray)(r q:List LA)(z z':Bool)(nm:ByteArray)(ds:Bool)(h:Hp):cu cx (n+4) b 278 [.ag [op,k,n',d,s,.ls 5 r z,nm,ds,.ls 9 q z']] h=some (.sc (.bool (me op nm)),h):=by
 refine fU f278 [.tmp 2] rfl rfl ?_ b h;have ae:=λb h=>oO n b nm h
 have af:=λb h=>F9 (n+2) b nm h
 have ah:=λb h=>En (n+2) b nm h
 generalize n+3=M at ae af ah|-;unfold me;generalize dt nm=w at ae|-;generalize mN nm=ar at af|-;generalize Em nm=ag at ah|-;obtain⟨lo,hi⟩:=ar;by_cases c2:op=2
 .subst c2;cases w<;>simp[f278,ae]
 by_cases c3:op=3
 .subst c3;cases w<;>simp[f278,ae]
 by_cases c4:op=4
 .subst c4;cases w<;>simp[f278,ae]
 by_cases Gb:op=23
 .subst Gb;by_cases e:lo=0<;>simp[f278,af,e]
 by_cases rP:op=24
 .subst rP;cases ag<;>simp[f278,ah]
 simp[f278,c2,c3,c4,Gb,rP]
mutual
def rv :Ep->Bool->Int
 |
  .mk op v nm ds ks,ag=>
  if op<1\/24<op then 1
  else if Eo op nm ds ks.length=false then 1
  else if uA op (mR v) nm ds=false then 1
  else if op=1/\uB v.k (mR v) (k_ v)=false then 8
  else if me op nm=true then 6
  else if op=24/\ag=true then 9
  else rX ks (ag||decide (op=24))
def rX :List Ep->Bool->Int
 | [],_=>0
 |x::xs,ag=>if rv x ag=0 then rX xs ag else rv x ag
end
def sZ{l:List Ep}{i:Nat}{x:Ep}(ag:Bool)(h:l[i]?=some x):rX (l.drop i) ag=if rv x ag=0 then rX (l.drop (i+1)) ag else rv x ag:=by
 obtain⟨k,e⟩:=Za.1 h;rw[Zm k,e,rX]
def QQ(N D:Nat):∀(d:Nat)(e:Ep),lE e<=d->ke D e->∀ag b h,cu cx (N+2*D+8+d) b 221 [.ag (cM e),.sc (.bool ag)] h=some (.sc (.int .i64 (rv e ag)),h):=by
 intro d
 induction d with
 |zero=>intro e h;have:=jU e;omega
 |succ d ih=>
  intro e de be ag b h;have dL:[AV.ag (cM e),.sc (.bool ag)].all calm=true:=by rw[Zn,dR];rfl
  refine fU (n:=N+2*D+8+d) f221 [.tmp 4] dL rfl ?_ b h;have ho:∀x∈e.ks,∀ag b h,cu cx (N+2*D+8+d) b 221 [.ag (cM x),.sc (.bool ag)] h=some (.sc (.int .i64 (rv x ag)),h):=λx hx=>ih x (kU de hx) (mQ be hx)
  obtain⟨op,v,nm,ds,ks⟩:=e;simp only[Ep.ks]at ho;have hv:=be;rw[ke]at hv;have fc:=λb h=>Gi (N+d+3) D b v h hv.1.1 hv.1.2
  rw[show N+d+3+2*D+5=N+2*D+8+d by omega]at fc;obtain⟨k,n',d',s,l,rfl,hs,qg⟩:=Jz be;have e1:enc (.mk k n' d' s false l)=[.sc (.int .i64 k),.sc (.int .i64 n'),.sc (.int .i64 d'),.sc (.string s),.ls 5 (fj l) false]:=by rw[enc];rfl
  rw[e1]at fc;have fo:=λb h=>Ga (N+2*D+6+d) b op k n' d' s (fj l) (cZ ks) false false nm ds h
  have fs:=λb h=>QP (N+2*D+6+d) b op k n' d' s (fj l) (cZ ks) false false nm ds h
  have fn:=λb h=>Gj (N+2*D+4+d) b op k n' d' s (fj l) (cZ ks) false false nm ds h
  rw[show N+2*D+6+d+2=N+2*D+8+d by omega]at fo fs;rw[show N+2*D+4+d+4=N+2*D+8+d by omega]at fn;rw[jO rfl,rv];have FT:lf k n' d' s (fj l).length=mR (.mk k n' d' s false l):=by rw[dS];rfl
  rw[FT]at fs;have hq:=cX ks;rw[hq]at fo;have hg:=eM ks;generalize cZ ks=cq at hq hg fo fs fn|-;generalize fj l=r5 at fc fo fs fn|-;generalize mR (.mk k n' d' s false l)=bl at fc fs|-;generalize uB (V.mk k n' d' s false l).k bl (k_ (.mk k n' d' s false l))=co at fc|-;generalize Eo op nm ds ks.length=oo at fo|-;generalize uA op bl nm ds=sp at fs|-;generalize me op nm=nn at fn|-;generalize N+2*D+8+d=M at ho fc fo fs fn|-;by_cases c1:op<1
  .rw[cw (.inl c1)];simp[f221,c1]
  by_cases c2:24<op
  .rw[cw (.inr c2)];simp[f221,c1,c2]
  rw[cv (by omega)];cases oo
  .rw[cw rfl];simp[f221,c1,c2,fo]
  rw[cv (by simp)];cases sp
  .rw[cw rfl];simp[f221,c1,c2,fo,fs]
  rw[cv (by simp)];by_cases c3:op=1/\co=false
  .obtain⟨rfl,rfl⟩:=c3;rw[cw ⟨rfl,rfl⟩];simp[f221,fo,fs,fc]
  rw[cv c3];have key:(∃c3a:op=1,co=true)\/¬op=1:=by
   by_cases q:op=1
   .exact .inl ⟨q,by simpa using λe=>c3 ⟨q,e⟩⟩
   .exact .inr q
  cases nn
  .rw[cv (by simp)];by_cases c4:op=24/\ag=true
   .obtain⟨rfl,rfl⟩:=c4;rw[cw ⟨rfl,rfl⟩];simp[f221,fo,fs,fn]
   rw[cv c4];by_cases rP:op=24
   .subst rP;have hag:ag=false:=by cases ag with
     |false=>rfl
     |true=>exact absurd ⟨rfl,rfl⟩ c4
    subst hag;simp only[decide_true,Bool.or_true];generalize hT:rX ks true=T;simp[f221,fo,fs,fn,hq];refine ve
     (λi st cD=>rX (ks.drop i) true=T/\st.length=62/\gt st 1=false/\gt st 2= .pt 0 0/\gt st 44= .ls 9 cq false/\gt st 45=ks.length/\gt st 46=i/\∃rest,cD= .row [(24:Int),k,n',d',s,.ls 5 r5 false,nm,ds,.ls 9 cq false]::rest)
     (λo s _=>s.length=62/\((o= .exit 1/\T=0)\/(o= .ret/\gt s 4=T))) ks.length (by simp;omega) (by exact ⟨hT,rfl,rfl,rfl,rfl,rfl,rfl,[],rfl⟩) ?_ ?_
    .rintro i fr hp cP ⟨hT,cp,h1,h2,Gk,QR,QS,rest,hh⟩;subst hh;by_cases hi:i<ks.length
     .obtain⟨x,hx⟩:=eA hi;have hr:cq[i]?=some (cM x):=by rw[hg,hx];rfl
      have cC:=gA hr
      have hw:=λb h=>ho x (Zi hx) true b h
      have hf:=cz (Yj cP qg);have dH:=cB x;have dO:=sZ true hx;rw[hT]at dO;generalize cM x=ev at hr cC hw dH;have dJ:ev.take 9=ev:=Yy (by omega);have mZ:=rW dH;generalize rv x true=w at hw dO;by_cases Ce:w=0
      .rw[cw Ce]at dO;subst Ce;simp[cp,h1,h2,Gk,QR,QS,hi,hq,cC,hw,dH,dJ,mZ,hf];exact dO.symm
      .rw[cv Ce]at dO;subst dO;simp[cp,h1,h2,Gk,QR,QS,hi,hq,cC,hw,dH,dJ,mZ,Ce]
     .have iJ:i=ks.length:=Yb cP (Ya hi);subst iJ;rw[Yc,rX]at hT;subst hT;simp[cp,QR,QS]
    .rintro o fr hp hn ⟨cp,⟨rfl,hT⟩|⟨rfl,h4⟩⟩
     .simp[cp,hT]
     .simp[h4]
   .simp only[rP,decide_false,Bool.or_false];generalize hT:rX ks ag=T;rcases key with⟨rfl,rfl⟩|c1n
    .simp[f221,fo,fs,fc,fn,hq];refine ve
      (λi st cD=>rX (ks.drop i) ag=T/\st.length=62/\gt st 1= .sc (.bool ag)/\gt st 2= .pt 0 0/\gt st 44= .ls 9 cq false/\gt st 45=ks.length/\gt st 46=i/\∃rest,cD= .row [(1:Int),k,n',d',s,.ls 5 r5 false,nm,ds,.ls 9 cq false]::rest)
      (λo s _=>s.length=62/\((o= .exit 1/\T=0)\/(o= .ret/\gt s 4=T))) ks.length (by simp;omega) (by exact ⟨hT,rfl,rfl,rfl,rfl,rfl,rfl,[],rfl⟩) ?_ ?_
     .rintro i fr hp cP ⟨hT,cp,h1,h2,Gk,QR,QS,rest,hh⟩;subst hh;by_cases hi:i<ks.length
      .obtain⟨x,hx⟩:=eA hi;have hr:cq[i]?=some (cM x):=by rw[hg,hx];rfl
       have cC:=gA hr
       have hw:=λb h=>ho x (Zi hx) ag b h
       have hf:=cz (Yj cP qg);have dH:=cB x;have dO:=sZ ag hx;rw[hT]at dO;generalize cM x=ev at hr cC hw dH;have dJ:ev.take 9=ev:=Yy (by omega);have mZ:=rW dH;generalize rv x ag=w at hw dO;by_cases Ce:w=0
       .rw[cw Ce]at dO;subst Ce;cases ag<;>simp[cp,h1,h2,Gk,QR,QS,hi,hq,cC,hw,dH,dJ,mZ,hf]
        all_goals exact dO.symm
       .rw[cv Ce]at dO;subst dO;cases ag<;>simp[cp,h1,h2,Gk,QR,QS,hi,hq,cC,hw,dH,dJ,mZ,Ce]
      .have iJ:i=ks.length:=Yb cP (Ya hi);subst iJ;rw[Yc,rX]at hT;subst hT;simp[cp,QR,QS]
     .rintro o fr hp hn ⟨cp,⟨rfl,hT⟩|⟨rfl,h4⟩⟩
      .simp[cp,hT]
      .simp[h4]
    .simp[f221,c1,c2,c1n,rP,fo,fs,fn,hq];refine ve
      (λi st cD=>rX (ks.drop i) ag=T/\st.length=62/\gt st 1= .sc (.bool ag)/\gt st 2= .pt 0 0/\gt st 44= .ls 9 cq false/\gt st 45=ks.length/\gt st 46=i/\∃rest,cD= .row [op,k,n',d',s,.ls 5 r5 false,nm,ds,.ls 9 cq false]::rest)
      (λo s _=>s.length=62/\((o= .exit 1/\T=0)\/(o= .ret/\gt s 4=T))) ks.length (by simp;omega) (by exact ⟨hT,rfl,rfl,rfl,rfl,rfl,rfl,[],rfl⟩) ?_ ?_
     .rintro i fr hp cP ⟨hT,cp,h1,h2,Gk,QR,QS,rest,hh⟩;subst hh;by_cases hi:i<ks.length
      .obtain⟨x,hx⟩:=eA hi;have hr:cq[i]?=some (cM x):=by rw[hg,hx];rfl
       have cC:=gA hr
       have hw:=λb h=>ho x (Zi hx) ag b h
       have hf:=cz (Yj cP qg);have dH:=cB x;have dO:=sZ ag hx;rw[hT]at dO;generalize cM x=ev at hr cC hw dH;have dJ:ev.take 9=ev:=Yy (by omega);have mZ:=rW dH;generalize rv x ag=w at hw dO;by_cases Ce:w=0
       .rw[cw Ce]at dO;subst Ce;cases ag<;>simp[cp,h1,h2,Gk,QR,QS,hi,hq,cC,hw,dH,dJ,mZ,hf,rP]
        all_goals exact dO.symm
       .rw[cv Ce]at dO;subst dO;cases ag<;>simp[cp,h1,h2,Gk,QR,QS,hi,hq,cC,hw,dH,dJ,mZ,Ce,rP]
      .have iJ:i=ks.length:=Yb cP (Ya hi);subst iJ;rw[Yc,rX]at hT;subst hT;simp[cp,QR,QS]
     .rintro o fr hp hn ⟨cp,⟨rfl,hT⟩|⟨rfl,h4⟩⟩
      .simp[cp,hT]
      .simp[h4]
  .rw[cw rfl];rcases key with⟨rfl,rfl⟩|c1n
   .simp[f221,fo,fs,fc,fn]
   .simp[f221,c1,c2,c1n,fo,fs,fn]
def fM(e:Ep):Int:=if 24<Jy e then 5 else if 300<xV e then 4 else rv e false
def qt(N D d:Nat)(b:Bool)(e:Ep)(h:Hp)(de:lE e<=d)(be:ke D e):cu cx (N+2*D+9+d) b 139 [.ag (cM e)] h=some (.sc (.int .i64 (fM e)),h):=by
 have dL:[AV.ag (cM e)].all calm=true:=by rw[Zn,dR];rfl
 rw[show N+2*D+9+d=N+2*D+8+d+1 by omega];refine fU (n:=N+2*D+8+d) f139 [.tmp 2] dL rfl ?_ b h;have ae:=λb h=>QH D d e de be (N+2*D+7) b h
 have af:=λb h=>VI D d e de be (N+2*D+7) b h
 have ah:=λb h=>QQ N D d e de be false b h
 rw[show N+2*D+7+d+1=N+2*D+8+d by omega]at ae af;have dH:=cB e;unfold fM;generalize Jy e=p at ae|-;generalize xV e=q at af|-;generalize rv e false=w at ah|-;generalize N+2*D+8+d=M at ae af ah|-;generalize cM e=ev at ae af ah dH|-;have dJ:ev.take 9=ev:=Yy (by omega);by_cases c1:24<p
 .simp[f139,ae,dH,dJ,c1]
 .by_cases c2:300<q
  .simp[f139,ae,af,dH,dJ,c1,c2]
  .simp[f139,ae,af,ah,dH,dJ,c1,c2]
structure Pp where
 key:ByteArray
 e:Ep
def eF(p:Pp):LA:= .sc (.string p.key)::cM p.e
def jw(l:List Pp):List LA:=l.map eF
structure Np where
 var:ByteArray
 labels:List ByteArray
 props:List Pp
def dD(n:Np):LA:=[.sc (.string n.var),.ls 1 (eE n.labels) false,.ls 10 (jw n.props) false]
structure Gp where
 var:ByteArray
 types:List ByteArray
 dir:Int
 mode:Int
 mn:Int
 mx:Int
 props:List Pp
def dE(x:Gp):LA:=[.sc (.string x.var),.ls 1 (eE x.types) false,.sc (.int .i64 x.dir),.sc (.int .i64 x.mode),.sc (.int .i64 x.mn),.sc (.int .i64 x.mx),.ls 10 (jw x.props) false]
structure Tp where
 var:ByteArray
 nodes:List Np
 cE:List Gp
def gZ(l:List Np):List LA:=l.map dD
def nD(l:List Gp):List LA:=l.map dE
def dW(p:Tp):LA:=[.sc (.string p.var),.ls 3 (gZ p.nodes) false,.ls 7 (nD p.cE) false]
def dP(l:List Pp):(jw l).length=l.length:=by simp[jw]
def jf(l:List Pp)(i:Nat):(jw l)[i]?=(l[i]?).map eF:=by simp[jw]
def fK(l:List Np):(gZ l).length=l.length:=by simp[gZ]
def kV(l:List Np)(i:Nat):(gZ l)[i]?=(l[i]?).map dD:=by simp[gZ]
def fL(l:List Gp):(nD l).length=l.length:=by simp[nD]
def kW(l:List Gp)(i:Nat):(nD l)[i]?=(l[i]?).map dE:=by simp[nD]
def nh(p:Pp):(eF p).length=10:=by unfold eF;rw[Ys,cB]
def Am(dir mode mn mx:Int)(m:Nat):Bool:=
 if dir<1\/3<dir\/mode<0\/5<mode then false
 else if mode=0 then decide (mn=0) && decide (mx=0)
 else decide (0<=mn) && (decide (mn<=mx) && (decide (1<=mx) && (decide (mx<=6) && decide (m=0))))
def Gl(mode dir:Int)(m:Nat):Bool:=decide (mode=0) && (decide (m=1) && !decide (dir=3))
def CW(op:Int)(bl:Bool)(nm:ByteArray)(ds:Bool)(m:Nat):Bool:=decide (op=0) && (bl && (dn nm ⟨#[]⟩ && (!ds && decide (m=0))))
def aba(n:Nat)(b:Bool)(vr:ByteArray)(ty pr:List LA)(zt zp:Bool)(dir mode mn mx:Int)(h:Hp):cu cx (n+1) b 211 [.ag [vr,.ls 1 ty zt,dir,mode,mn,mx,.ls 10 pr zp]] h=some (.sc (.bool (Am dir mode mn mx pr.length)),h):=by
 refine fU f211 [.tmp 2] rfl rfl ?_ b h;unfold Am;generalize hq:pr.length=m;by_cases c1:dir<1
 .simp[f211,c1]
 by_cases c2:3<dir
 .simp[f211,c1,c2]
 by_cases c3:mode<0
 .simp[f211,c1,c2,c3]
 by_cases c4:5<mode
 .simp[f211,c1,c2,c3,c4]
 rw[cv (by omega)];by_cases c5:mode=0
 .rw[cw c5];subst c5;by_cases d1:mn=0
  .by_cases d2:mx=0<;>simp[f211,c1,c2,d1,d2]
  .simp[f211,c1,c2,d1]
 rw[cv c5];by_cases d1:0<=mn
 .by_cases d2:mn<=mx
  .by_cases d3:1<=mx
   .by_cases d4:mx<=6
    .by_cases d5:m=0
     .have d5':(m:Int)=0:=by omega
      simp[f211,hq,c1,c2,c3,c4,c5,d1,d2,d3,d4,d5]
     .have d5':¬(m:Int)=0:=by omega
      simp[f211,hq,c1,c2,c3,c4,c5,d1,d2,d3,d4,d5]
    .simp[f211,c1,c2,c3,c4,c5,d1,d2,d3,d4]
   .simp[f211,c1,c2,c3,c4,c5,d1,d2,d3]
  .simp[f211,c1,c2,c3,c4,c5,d1,d2]
 .simp[f211,c1,c2,c3,c4,c5,d1]
def Eu(n:Nat)(b:Bool)(vr:ByteArray)(ty pr:List LA)(zt zp:Bool)(dir mode mn mx:Int)(h:Hp):cu cx (n+1) b 218 [.ag [vr,.ls 1 ty zt,dir,mode,mn,mx,.ls 10 pr zp]] h=some (.sc (.bool (Gl mode dir ty.length)),h):=by
 refine fU f218 [.tmp 2] rfl rfl ?_ b h;unfold Gl;generalize hq:ty.length=m;by_cases c1:mode=0
 .subst c1;by_cases c2:m=1
  .have BM:(m:Int)=1:=by omega
   by_cases c3:dir=3<;>simp[f218,hq,c2,c3]
  .have BM:¬(m:Int)=1:=by omega
   simp[f218,hq,c2,BM]
 .simp[f218,c1]
def Gm(n:Nat)(b:Bool)(x:Gp)(h:Hp):cu cx (n+2) b 210 [.ag (dE x)] h=some (.sc (.bool (!(Am x.dir x.mode x.mn x.mx x.props.length))),h):=by
 refine fU f210 [.tmp 2] rfl rfl ?_ b h;have ae:=λb h=>aba n b x.var (eE x.types) (jw x.props) false false x.dir x.mode x.mn x.mx h
 rw[dP]at ae;generalize Am x.dir x.mode x.mn x.mx x.props.length=w at ae|-;unfold dE;generalize n+1=M at ae|-;cases w<;>simp[f210,ae]
def Gn(n:Nat)(b:Bool)(x:Gp)(h:Hp):cu cx (n+2) b 217 [.ag (dE x)] h=some (.sc (.bool (!(Gl x.mode x.dir x.types.length))),h):=by
 refine fU f217 [.tmp 2] rfl rfl ?_ b h;have ae:=λb h=>Eu n b x.var (eE x.types) (jw x.props) false false x.dir x.mode x.mn x.mx h
 rw[cI]at ae;generalize Gl x.mode x.dir x.types.length=w at ae|-;unfold dE;generalize n+1=M at ae|-;cases w<;>simp[f217,ae]
def VO(n:Nat)(b:Bool)(op k n' d:Int)(s:ByteArray)(r q:List LA)(z z':Bool)(nm:ByteArray)(ds:Bool)(h:Hp):cu cx (n+2) b 205 [.ag [op,k,n',d,s,.ls 5 r z,nm,ds,.ls 9 q z']] h=some (.sc (.bool (CW op (lf k n' d s r.length) nm ds q.length)),h):=by
 refine fU f205 [.tmp 2] rfl rfl ?_ b h;have fb:=λb h=>Ah n b k n' d s r z h
 generalize n+1=M,lf k n' d s r.length=bl at fb|-;unfold CW;generalize hq:q.length=m;by_cases c1:op=0
 .subst c1;cases bl
  .simp[f205,fb]
  cases he:dn nm ⟨#[]⟩
  .simp[f205,fb,he]
  cases ds
  .by_cases c2:m=0
   .have BM:(m:Int)=0:=by omega
    simp[f205,hq,fb,he,c2]
   .have BM:¬(m:Int)=0:=by omega
    simp[f205,hq,fb,he,c2]
  .simp[f205,fb,he]
 .simp[f205,c1]
def MZ(n:Nat)(b:Bool)(m:Int)(h:Hp):cu cx (n+1) b 206 [m] h=some (.sc (.bool (decide (m=0)||decide (m= -1))),h):=by
 refine fU f206 [.tmp 2] rfl rfl ?_ b h;by_cases c1:m=0
 .simp[f206,c1]
 .by_cases c2:m= -1<;>simp[f206,c1,c2]
def Ps(p:ByteArray->Bool):List ByteArray->Int->Int
 | [],_=> -1
 |r::l,i=>if p r=true then i else Ps p l (i+1)
def QT{p:ByteArray->Bool}{l:List ByteArray}{i:Nat}{r:ByteArray}(h:l[i]?=some r):Ps p (l.drop i) (i:Nat)=if p r=true then(i:Int)else Ps p (l.drop (i+1)) ((i+1:Nat):Int):=by
 obtain⟨k,e⟩:=Za.1 h;rw[Zm k,e,Ps];rfl
def Lc(p:ByteArray->Bool):∀(l:List ByteArray)(i:Int),0<=i->decide (0<=Ps p l i)=l.any p
 | [],i,h=>by simp[Ps]
 |
  r::l,i,h=>by
  rw[Ps,List.any_cons];cases hp:p r with
  |true=>simp[h]
  |false=>simp[Lc p l (i+1) (by omega)]
def VP(n:Nat)(b:Bool)(g:FuncId)(l:List ByteArray)(p:ByteArray->Bool)(z:Bool)(h:Hp)(hl:l.length<=1000000000000000)(hc:∀r b h,cu cx n b g [.sc (.string r)] h=some (.sc (.bool (p r)),h))(hx:¬(g=267\/g=269):=by decide):cu cx (n+1) b 117 [.ls 1 (eE l) z,.fn g []] h=some (.sc (.int .i64 (Ps p l 0)),h):=by
 refine fU f117 [.tmp 4] rfl rfl ?_ b h;have hq:=cI l;have hg:=iW l;generalize eE l=cq at hq hg;generalize hT:Ps p l 0=T;simp[f117,hq];refine ve
  (λi s _=>Ps p (l.drop i) (i:Nat)=T/\s.length=19/\gt s 0= .ls 1 cq z/\gt s 1= .fn g []/\gt s 7=l.length/\gt s 8=i)
  (λo s _=>s.length=19/\((o= .exit 0/\T= -1)\/(o= .ret/\gt s 4=T))) l.length (by simp;omega) (by exact ⟨hT,rfl,rfl,rfl,rfl,rfl⟩) ?_ ?_
 .rintro i fr hp cP ⟨hT,cp,h0,h1,h7,h8⟩;by_cases hi:i<l.length
  .obtain⟨r,ZS⟩:=eA hi;have hr:cq[i]?=some [.sc (.string r)]:=by rw[hg,ZS];rfl
   have cC:=gA hr
   have FF:=λb h=>hc r b h
   have hf:=cz (Yj cP hl);rw[QT ZS]at hT;generalize p r=w at FF hT;cases w with
   |
    true=>
    rw[cw rfl]at hT;subst hT;simp[cp,h0,h1,h7,h8,hi,hq,cC,FF,hx]
   |
    false=>
    rw[cv (by simp)]at hT;simp[cp,h0,h1,h7,h8,hi,hq,cC,FF,hf,hx];exact hT
  .have iJ:i=l.length:=Yb cP (Ya hi);subst iJ;rw[Yc,Ps]at hT;subst hT;simp[cp,h7,h8]
 .rintro o fr h hn ⟨cp,⟨rfl,hz⟩|⟨rfl,h2⟩⟩
  .simp[cp,hz]
  .simp[h2]
def VQ(n:Nat)(b:Bool)(g:FuncId)(l:List ByteArray)(p:ByteArray->Bool)(z:Bool)(h:Hp)(hl:l.length<=1000000000000000)(hc:∀r b h,cu cx n b g [.sc (.string r)] h=some (.sc (.bool (p r)),h))(hx:¬(g=267\/g=269):=by decide):cu cx (n+2) b 60 [.ls 1 (eE l) z,.fn g []] h=some (.sc (.bool (l.any p)),h):=by
 refine fU f60 [.tmp 4] rfl rfl ?_ b h;have ae:=λb h=>VP n b g l p z h hl hc hx
 rw[<-Lc p l 0 (by omega)];generalize Ps p l 0=T,n+1=M at ae|-;by_cases hT:0<=T<;>simp[f60,ae,hT]
def M0(n:Nat)(b:Bool)(x:ByteArray)(h:Hp):cu cx (n+4) b 274 [x] h=some (.sc (.bool (!dt x)),h):=by
 refine fU f274 [.tmp 2] rfl rfl ?_ b h;have ae:=λb h=>oO n b x h
 generalize dt x=w,n+3=M at ae|-;cases w<;>simp[f274,ae]
def Gq(n:Nat)(b:Bool)(l:List ByteArray)(z:Bool)(h:Hp)(hl:l.length<=1000000000000000):cu cx (n+7) b 214 [.ls 1 (eE l) z] h=some (.sc (.bool (!(l.any λx=> !dt x))),h):=by
 refine fU f214 [.tmp 2] rfl rfl ?_ b h;have ae:=λb h=>VQ (n+4) b 274 l (λx=> !dt x) z h hl (λr b h=>M0 n b r h)
 generalize(l.any λx=> !dt x)=w at ae|-;rw[show n+4+2=n+6 by omega]at ae;generalize n+6=M,eE l=cq at ae|-;cases w<;>simp[f214,ae]
def Gs(n:Nat)(b:Bool)(l:List ByteArray)(z:Bool)(h:Hp)(hl:l.length<=1000000000000000):cu cx (n+1) b 216 [tsV l z] h=some (.sc (.bool (eR l)),h):=by
 refine fU f216 [.tmp 2] rfl rfl ?_ b h;have hq:=cI l;have hg:=iW l;unfold tsV;generalize eE l=cq at hq hg;simp[f216];refine ve
  (λj s _=>eR l=nV l j/\(j+1<=l.length\/j=0)/\s.length=20/\gt s 0= .ls 1 cq z/\gt s 3= .sc (.int .i64 (j+1:Nat)))
  (λo s _=>s.length=20/\((o= .exit 0/\eR l=true)\/(o= .ret/\eR l=false/\gt s 2=false))) l.length (by simp;omega) (by simp[nV]) ?_ ?_
 .rintro j fr h cP ⟨ho,hj,cp,h0,h3⟩;by_cases hi:j+1<l.length
  .obtain⟨x,hx⟩:∃c,l[j]?=some c:=⟨_,Zb (by omega)⟩;obtain⟨y,hy⟩:=eA hi;have hr:cq[j]?=some [.sc (.string x)]:=by rw[hg,hx];rfl
   have oL:cq[j+1]?=some [.sc (.string y)]:=by rw[hg,hy];rfl
   have cC:=gA hr
   have rm:=gA oL
   rw[xU hx hy]at ho;have cP:=ZM x y;have hf:dA .i64 (((j+1:Nat):Int)+1)=((j+1+1:Nat):Int):=cK (by omega) (by omega);have fH:dA .i64 (((j+1:Nat):Int)-1)=((j:Nat):Int):=by rw[cK (by omega) (by omega)];omega
   generalize hjj:((j+1:Nat):Int)=J at h3 hf fH;have QU:J.toNat=j+1:=by omega
   have QV:0<=J:=by omega
   have vH:J< (l.length:Int):=by omega
   cases du:nO x y
   .have zz:eR l=false:=by rw[ho,du];rfl
    clear ho;rw[du]at cP;simp[cp,h0,h3,QU,QV,vH,hq,hr,oL,fH,du,zz]
   .have zz:eR l=nV l (j+1):=by rw[ho,du];rfl
    clear ho;rw[du]at cP;simp[cp,h0,h3,QU,QV,vH,hq,hr,oL,fH,du,hf];exact⟨by omega,zz,by omega⟩
  .have zz:eR l=true:=by rw[ho,Aa l j (by omega)]
   have vH:¬((j+1:Nat):Int)< (l.length:Int):=by omega
   generalize((j+1:Nat):Int)=J at h3 vH;simp[cp,h0,h3,vH,hq,zz]
 .rintro o fr h hn ⟨cp,⟨rfl,hz⟩|⟨rfl,hz,h2⟩⟩
  .simp[cp,hz]
  .simp[h2,hz]
def dX(l:List Pp):List ByteArray:=l.map (·.key)
def Ao{l:List Pp}{i:Nat}{x:Pp}(h:l[i]?=some x):dX (l.take (i+1))=dX (l.take i)++[x.key]:=by
 unfold dX;rw[Xt,h];simp
def nX(l:List ByteArray)(x:ByteArray):eE (l++[x])=eE l++[[.sc (.string x)]]:=by simp[eE]
def qY{ev:LA}(h:ev.length=10)(a b c d e f g i j k:AV):cF [a,b,c,d,e,f,g,i,j,k] 0 ev=ev:=by
 unfold cF;rw[List.take_zero,Zw,Xk,h];simp
def M1(a x:AV):cF [a] 0 [x]=[x]:=rfl
def Ld(n:Nat)(b:Bool)(l:List Pp)(z:Bool)(h:Hp)(hl:l.length<=10^9):cu cx (n+1) b 215 [.ls 10 (jw l) z] h=some (.ls 1 (eE (dX l)) false,h):=by
 refine ZT f215 [.tmp 2] rfl ?_ b h;have Ev:kx 215=1:=by decide
 rw[Ev];have hq:=dP l;have hg:=jf l;generalize jw l=cq at hq hg;simp[f215,hq];refine lpG
  (λi s cD=>i<=l.length/\s.length=19/\gt s 6= .ls 10 cq z/\gt s 7=l.length/\gt s 8=i/\∃y,gt s 3=y/\ka cD 1 (eE (dX (l.take i))) y)
  (λo s cD=>o= .exit 0/\s.length=19/\∃y,gt s 3=y/\ka cD 1 (eE (dX l)) y) l.length (by simp;omega) (by exact ⟨by omega,rfl,rfl,rfl,rfl,_,rfl,.inl ⟨rfl,rfl⟩⟩) ?_ ?_
 .rintro i fr hp _ ⟨UQ,cp,h6,h7,h8,y,h3,hy⟩;by_cases hi:i<l.length
  .obtain⟨x,hx⟩:=eA hi;have hr:cq[i]?=some (eF x):=by rw[hg,hx];rfl
   have cC:=gA hr
   have dO:=Ao hx;have dH:=nh x;have hf:dA .i64 ((i:Int)+1)=((i+1:Nat):Int):=cK (by omega) (by omega);have q3:=akN (λv=>hy.np v)
   have iB:(dX (l.take i)).length<=10^9:=by unfold dX;simp;omega
   have xW:ka (hp++[.row (eF x)]) 1 (eE (dX (l.take i))) y:=by
    rcases hy with hx|⟨gE,id,e,ej⟩
    .exact .inl hx
    .refine .inr ⟨gE,id,e,?_⟩;rw[Zd (Za.1 ej).1];exact ej
   obtain⟨lB,h4,b1,b2,b3,b4⟩:=iy (t:=47) kp rfl (hp++[.row (eF x)]) [x.key] (eE (dX (l.take i))) y xW rfl (λr hr=>(g_ _).1 r hr) (by omega) (by rw[cI];exact iB) (by omega);rw[cI]at b1;simp only[Zp,Zv,Zw,Zu,Ys,List.length_nil,Xk]at b1;have hk:eF x= .sc (.string x.key)::cM x.e:=rfl;have QW:=cB x.e;rw[hk]at hr cC dH b1;generalize cM x.e=ev at hr cC dH b1 QW;have mZ:=qY dH;have dJ:ev.take 9=ev:=Yy (by omega);generalize dX (l.take i)=F at b1 b2 dO;simp[cp,h6,h7,h8,h3,q3,hi,hq,cC,QW,dJ,mZ,M1,b1,hf];refine⟨by omega,?_⟩;rw[dO,nX];exact .inr ⟨by simp,lB,by simp[cI],by rw[b2]⟩
  .have iJ:i=l.length:=Yb UQ (Ya hi);subst iJ;rw[Xq]at hy;simp[cp,h7,h8];rw[h3];exact hy
 .rintro o fr hp hn ⟨rfl,cp,y,h3,hy⟩;have jx:=gf (n:=7) (by omega) (g_ _).1 (g_ _).2 hy;have q3:=akN (λv=>hy.np v)
  simp[cp,h3,q3];exact qW ⟨_,jx,kT _ _⟩
def Ew(x:Gp):(dE x).length=7:=rfl
def Ex(x:Np):(dD x).length=3:=rfl
def mf(mode mx:Int):Int:=if mode=0 then 1 else if mx<0 then 0 else if 13<mx then 13 else mx
def Le(a b:Int):0<=mf a b/\mf a b<=13:=by unfold mf;split<;>(try split)<;>(try split)<;>omega
def oP :List Gp->Int->Int
 | [],c=>c
 |x::r,c=>oP r (c+mf x.mode x.mx)
def Ap{l:List Gp}{i:Nat}{x:Gp}(c:Int)(h:l[i]?=some x):oP (l.drop i) c=oP (l.drop (i+1)) (c+mf x.mode x.mx):=by
 obtain⟨hi,e⟩:=Za.1 h;rw[Zm hi,e,oP]
def qZ(p:Tp):Bool:=decide (p.nodes.length=0)||(decide (6<p.cE.length)||decide (12<oP p.cE 0))
def M2{ev:LA}(h:ev.length=7)(a b c d e f g:AV):cF [a,b,c,d,e,f,g] 0 ev=ev:=by
 unfold cF;rw[List.take_zero,Zw,Xk,h];simp
def VR(n:Nat)(b:Bool)(p:Tp)(h:Hp):cu cx (n+1) b 208 [.ag (dW p)] h=some (.sc (.bool (qZ p)),h):=by
 refine fU f208 [.tmp 2] rfl rfl ?_ b h;obtain⟨vr,ns,es⟩:=p;unfold dW qZ;simp only;have vJ:=fK ns;generalize gZ ns=nr at vJ;have hq:=fL es;have hg:=kW es;generalize nD es=cq at hq hg;by_cases c1:ns.length=0
 .have ZR:(ns.length:Int)=0:=by omega
  simp[f208,vJ,c1]
 have ZR:¬(ns.length:Int)=0:=by omega
 by_cases c2:6<es.length
 .have BM:(6:Int)<es.length:=by omega
  simp[f208,vJ,hq,c1,c2,BM]
 have BM:¬(6:Int)<es.length:=by omega
 generalize hT:oP es 0=T;simp[f208,vJ,hq,c1,c2,BM];refine ve
  (λi st _=>∃c:Int,(0<=c/\c<=13*i)/\oP (es.drop i) c=T/\st.length=37/\gt st 3=c/\gt st 17= .ls 7 cq false/\gt st 18=es.length/\gt st 19=i)
  (λo s _=>o= .exit 0/\s.length=37/\gt s 3=T) es.length (by simp;omega) (by exact ⟨0,by omega,hT,rfl,rfl,rfl,rfl,rfl⟩) ?_ ?_
 .rintro i fr hp cP ⟨c,hc,hT,cp,h3,sU,Pm,FE⟩;by_cases hi:i<es.length
  .obtain⟨x,hx⟩:=eA hi;have hr:cq[i]?=some (dE x):=by rw[hg,hx];rfl
   have cC:=gA hr
   have dO:=Ap c hx;rw[hT]at dO;have hw:=Le x.mode x.mx;have ZU:0<=c+mf x.mode x.mx/\c+mf x.mode x.mx<=13*((i+1:Nat):Int):=by omega
   have Pt:dA .i64 (c+mf x.mode x.mx)=c+mf x.mode x.mx:=cK (by omega) (by omega);have hf:dA .i64 ((i:Int)+1)=((i+1:Nat):Int):=cK (by omega) (by omega);unfold dE at hr cC;by_cases d1:x.mode=0
   .have e:mf x.mode x.mx=1:=by unfold mf;rw[cw d1]
    rw[e]at dO Pt ZU;simp[cp,h3,sU,Pm,FE,hi,hq,cC,M2,d1,hf,Pt];refine⟨?_,dO.symm⟩;clear hf Pt;omega
   by_cases d2:x.mx<0
   .have e:mf x.mode x.mx=0:=by unfold mf;rw[cv d1,cw d2]
    rw[e,Int.add_zero]at dO Pt ZU;simp[cp,h3,sU,Pm,FE,hi,hq,cC,M2,d1,d2,hf,Pt];refine⟨?_,dO.symm⟩;clear hf Pt;omega
   by_cases d3:13<x.mx
   .have e:mf x.mode x.mx=13:=by unfold mf;rw[cv d1,cv d2,cw d3]
    rw[e]at dO Pt ZU;simp[cp,h3,sU,Pm,FE,hi,hq,cC,M2,d1,d2,d3,hf,Pt];refine⟨?_,dO.symm⟩;clear hf Pt;omega
   .have e:mf x.mode x.mx=x.mx:=by unfold mf;rw[cv d1,cv d2,cv d3]
    rw[e]at dO Pt ZU;simp[cp,h3,sU,Pm,FE,hi,hq,cC,M2,d1,d2,d3,hf,Pt];refine⟨?_,dO.symm⟩;clear hf Pt;omega
  .have iJ:i=es.length:=Yb cP (Ya hi);subst iJ;rw[Yc,oP]at hT;subst hT;simp[cp,h3,Pm,FE]
 .rintro o fr hp hn ⟨rfl,cp,h3⟩;by_cases d:12<T<;>simp[cp,h3,d]
def Lf :Ep->Bool
 | .mk op (.mk k n d s _ l) nm ds ks=>CW op (lf k n d s l.length) nm ds ks.length
def Gt(n D:Nat)(b:Bool)(e:Ep)(h:Hp)(be:ke D e):cu cx (n+2) b 205 [.ag (cM e)] h=some (.sc (.bool (Lf e)),h):=by
 obtain⟨op,v,nm,ds,ks⟩:=e;obtain⟨k,n',d,s,l,rfl,_,_⟩:=Jz be;rw[jO rfl,Lf];have f:=VO n b op k n' d s (fj l) (cZ ks) false false nm ds h;rw[dS,cX]at f;exact f
structure Sp where
 var:ByteArray
 key:ByteArray
 label:ByteArray
 off:Bool
 e:Ep
def fD(x:Sp):LA:= .sc (.string x.var):: .sc (.string x.key):: .sc (.string x.label):: .sc (.bool x.off)::cM x.e
def VS(lz kz off ez w1 w2 w3:Bool)(c:Int):Int:=
 if !lz && (!kz|| !ez)then 1 else if lz && off then 1 else if !w1 then 6 else if !lz && !w2 then 6 else if lz && !w3 then 6 else if lz then c else 0
def oA(x:Sp):Int:=VS (dn x.label ⟨#[]⟩) (dn x.key ⟨#[]⟩) x.off (Lf x.e) (dt x.var) (dt x.label) (dt x.key) (fM x.e)
def Gu(N D d:Nat)(b:Bool)(x:Sp)(h:Hp)(de:lE x.e<=d)(be:ke D x.e):cu cx (N+2*D+10+d) b 141 [.ag (fD x)] h=some (.sc (.int .i64 (oA x)),h):=by
 obtain⟨vr,ky,lb,off,e⟩:=x;simp only at de be;have fz:=λb h=>Gt (N+2*D+7+d) D b e h be
 have ae:=λb h=>oO (N+2*D+6+d) b vr h
 have af:=λb h=>oO (N+2*D+6+d) b lb h
 have ah:=λb h=>oO (N+2*D+6+d) b ky h
 have fc:=λb h=>qt N D d b e h de be
 rw[show N+2*D+10+d=N+2*D+9+d+1 by omega];rw[show N+2*D+7+d+2=N+2*D+9+d by omega]at fz;rw[show N+2*D+6+d+3=N+2*D+9+d by omega]at ae af ah;have dL:[AV.ag (fD ⟨vr,ky,lb,off,e⟩)].all calm=true:=by
  have h0:=dR e;simp[fD,calm]at h0|-;exact h0
 refine fU (n:=N+2*D+9+d) f141 [.tmp 2] dL rfl ?_ b h;unfold oA fD;simp only;generalize N+2*D+9+d=M at fz ae af ah fc|-;have dH:=cB e;generalize cM e=ev at fz fc dH|-;have dJ:ev.take 9=ev:=Yy (by omega);generalize dt vr=w1 at ae|-;generalize dt lb=w2 at af|-;generalize dt ky=w3 at ah|-;generalize Lf e=ez at fz|-;generalize fM e=c at fc|-;unfold VS;cases hl:dn lb ⟨#[]⟩
 .cases hk:dn ky ⟨#[]⟩
  .simp[f141,dH,hl,hk]
  .cases ez
   .simp[f141,dH,dJ,hl,hk,fz]
   .cases w1
    .simp[f141,dH,dJ,hl,hk,fz,ae]
    .cases w2<;>simp[f141,dH,dJ,hl,hk,fz,ae,af]
 .cases off
  .cases w1
   .simp[f141,dH,hl,ae]
   .cases w3<;>simp[f141,dH,dJ,hl,ae,ah,fc]
  .simp[f141,dH,hl]
structure Ip where
 e:Ep
 nm:ByteArray
structure BN where
 e:Ep
 desc:Bool
def jr(x:Ip):LA:=cM x.e++[.sc (.string x.nm)]
def js(x:BN):LA:=cM x.e++[.sc (.bool x.desc)]
structure Cp where
 kind:Int
 opt:Bool
 w_:Bool
 paths:List Tp
 eu:List Ep
 e:Ep
 name:ByteArray
 items:List Ip
 order:List BN
 skip:Int
 limit:Int
 sets:List Sp
 names:List ByteArray
def q7(l:List Tp):List LA:=l.map dW
def xa(l:List Ip):List LA:=l.map jr
def yZ(l:List BN):List LA:=l.map js
def y_(l:List Sp):List LA:=l.map fD
def cA(c:Cp):LA:= .sc (.int .i64 c.kind):: .sc (.bool c.opt):: .sc (.bool c.w_):: .ls 3 (q7 c.paths) false:: .ls 9 (cZ c.eu) false::
 (cM c.e++[.sc (.string c.name),.ls 10 (xa c.items) false,.ls 10 (yZ c.order) false,.sc (.int .i64 c.skip),.sc (.int .i64 c.limit),.ls 13 (y_ c.sets) false,.ls 1 (eE c.names) false])
def iN(l:List Tp):(q7 l).length=l.length:=by simp[q7]
def qu(l:List Tp)(i:Nat):(q7 l)[i]?=(l[i]?).map dW:=by simp[q7]
def iO(l:List Ip):(xa l).length=l.length:=by simp[xa]
def qv(l:List Ip)(i:Nat):(xa l)[i]?=(l[i]?).map jr:=by simp[xa]
def iP(l:List BN):(yZ l).length=l.length:=by simp[yZ]
def qw(l:List BN)(i:Nat):(yZ l)[i]?=(l[i]?).map js:=by simp[yZ]
def iQ(l:List Sp):(y_ l).length=l.length:=by simp[y_]
def qx(l:List Sp)(i:Nat):(y_ l)[i]?=(l[i]?).map fD:=by simp[y_]
def M3(n:Nat)(b:Bool)(m lo hi:Int)(h:Hp):cu cx (n+1) b 207 [m,lo,hi] h=some (.sc (.bool (decide (lo<=m) && decide (m<=hi))),h):=by
 refine fU f207 [.tmp 6] rfl rfl ?_ b h;by_cases c1:lo<=m
 .by_cases c2:m<=hi<;>simp[f207,c1,c2]
 .simp[f207,c1]
def inC(m k:Nat):Bool:=decide ((1:Int)<=m) && decide ((m:Int)<=k)
def Gv(kind:Int)(np nw ni no ns nn:Nat):Bool:=
 if kind=1\/kind=5 then !inC np 6||decide ((1:Int)<nw)
 else if kind=6 then !decide ((np:Int)=1)
 else if kind=3\/kind=4 then !inC ni 16||(decide ((16:Int)<no)||decide ((1:Int)<nw))
 else if kind=7 then !inC ns 16
 else if kind=8 then !inC nn 16
 else false
def JD(n:Nat)(b:Bool)(c:Cp)(h:Hp):cu cx (n+2) b 136 [.ag (cA c)] h=some (.sc (.bool (Gv c.kind c.paths.length c.eu.length c.items.length c.order.length c.sets.length c.names.length)),h):=by
 have dL:[AV.ag (cA c)].all calm=true:=by
  have h0:=dR c.e;simp[cA,calm]at h0|-;exact h0
 refine fU f136 [.tmp 2] dL rfl ?_ b h;have fw:=λ(m lo hi:Int)b h=>M3 n b m lo hi h
 unfold cA Gv inC;obtain⟨a0,a1,a2,a3,a4,a5,a6,a7,a8,dH⟩:∃a0 a1 a2 a3 a4 a5 a6 a7 a8,cM c.e=[a0,a1,a2,a3,a4,a5,a6,a7,a8]:=by
  have:=cB c.e
  match cM c.e,this with
  | [a0,a1,a2,a3,a4,a5,a6,a7,a8],_=>exact⟨_,_,_,_,_,_,_,_,_,rfl⟩
 rw[dH];have q1:=iN c.paths;have q2:=cX c.eu;have q3:=iO c.items;have q4:=iP c.order;have q5:=iQ c.sets;have q6:=cI c.names;generalize n+1=M at fw|-;generalize c.kind=kind;generalize q7 c.paths=r1 at q1|-;generalize cZ c.eu=r2 at q2|-;generalize xa c.items=r3 at q3|-;generalize yZ c.order=r4 at q4|-;generalize y_ c.sets=r5 at q5|-;generalize eE c.names=r6 at q6|-;generalize c.paths.length=n1 at q1|-;generalize c.eu.length=n2 at q2|-;generalize c.items.length=n3 at q3|-;generalize c.order.length=n4 at q4|-;generalize c.sets.length=n5 at q5|-;generalize c.names.length=n6 at q6|-;have key:∀(x:Bool),x=true\/x=false:=λx=>by cases x<;>simp
 by_cases k1:kind=1
 .subst k1;generalize hx:(decide ((1:Int)<=n1) && decide ((n1:Int)<=(6:Nat)))=x;have fx:=λb h=>fw n1 1 6 b h
  rw[show(decide ((1:Int)<=n1) && decide ((n1:Int)<=6))=x from hx]at fx;cases x
  .simp[f136,q1,fx]
  .by_cases d:(1:Int)<n2<;>simp[f136,q1,q2,fx,d]
 by_cases k5:kind=5
 .subst k5;generalize hx:(decide ((1:Int)<=n1) && decide ((n1:Int)<=(6:Nat)))=x;have fx:=λb h=>fw n1 1 6 b h
  rw[show(decide ((1:Int)<=n1) && decide ((n1:Int)<=6))=x from hx]at fx;cases x
  .simp[f136,q1,fx]
  .by_cases d:(1:Int)<n2<;>simp[f136,q1,q2,fx,d]
 by_cases k6:kind=6
 .subst k6;by_cases d:(n1:Int)=1<;>simp[f136,q1,d]
 generalize hx:(decide ((1:Int)<=n3) && decide ((n3:Int)<=(16:Nat)))=x;have fx:=λb h=>fw n3 1 16 b h
 rw[show(decide ((1:Int)<=n3) && decide ((n3:Int)<=16))=x from hx]at fx;by_cases k3:kind=3
 .subst k3;cases x
  .simp[f136,q3,fx]
  .by_cases d:(16:Int)<n4
   .simp[f136,q3,q4,fx,d]
   .by_cases d2:(1:Int)<n2<;>simp[f136,q3,q4,q2,fx,d,d2]
 by_cases k4:kind=4
 .subst k4;cases x
  .simp[f136,q3,fx]
  .by_cases d:(16:Int)<n4
   .simp[f136,q3,q4,fx,d]
   .by_cases d2:(1:Int)<n2<;>simp[f136,q3,q4,q2,fx,d,d2]
 by_cases k7:kind=7
 .subst k7;generalize hy:(decide ((1:Int)<=n5) && decide ((n5:Int)<=(16:Nat)))=y;have fy:=λb h=>fw n5 1 16 b h
  rw[show(decide ((1:Int)<=n5) && decide ((n5:Int)<=16))=y from hy]at fy;cases y<;>simp[f136,q5,fy]
 by_cases k8:kind=8
 .subst k8;generalize hy:(decide ((1:Int)<=n6) && decide ((n6:Int)<=(16:Nat)))=y;have fy:=λb h=>fw n6 1 16 b h
  rw[show(decide ((1:Int)<=n6) && decide ((n6:Int)<=16))=y from hy]at fy;cases y<;>simp[f136,q6,fy]
 simp[f136,k1,k3,k4,k5,k6,k7,k8]
end
end Go.Proofs.YtmocfjnklfpnbaaGreatDoor
