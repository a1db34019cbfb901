/- Part of the proof. -/
import Derived.Test.YtmocfjnklfpnbaaGreatDoorP25
set_option linter.all false
set_option maxHeartbeats 32000000
set_option maxRecDepth 100000
namespace Go.Proofs.YtmocfjnklfpnbaaGreatDoor
open Go Go.Ae Go.Proofs.Tryz
section
attribute [local simp] ew eY
def J5(n:Nat)(b:Bool)(l:List ByteArray)(z:Bool)(h:Hp)(hl:l.length<=1000000000000000):cu cx (n+1) b 306 [tsV l z] h=some (.sc (.bool (eR l)),h):=by
 refine fU f306 [.tmp 2] rfl rfl ?_ b h;have hq:=cI l;have hg:=iW l;unfold tsV;generalize eE l=cq at hq hg;simp[f306];refine ve
  (λj s _=>eR l=nV l j/\(j+1<=l.length\/j=0)/\s.length=20/\gt s 0= .ls 1 cq z/\gt s 3= .sc (.int .i64 (j+1:Nat)))
  (λo s _=>s.length=20/\((o= .exit 0/\eR l=true)\/(o= .ret/\eR l=false/\gt s 2=false))) l.length (by simp;omega) (by simp[nV]) ?_ ?_
 .rintro j fr h cP ⟨ho,hj,cp,h0,h3⟩;by_cases hi:j+1<l.length
  .obtain⟨x,hx⟩:∃c,l[j]?=some c:=⟨_,Zb (by omega)⟩;obtain⟨y,hy⟩:=eA hi;have hr:cq[j]?=some [.sc (.string x)]:=by rw[hg,hx];rfl
   have oL:cq[j+1]?=some [.sc (.string y)]:=by rw[hg,hy];rfl
   have cC:=gA hr
   have rm:=gA oL
   rw[xU hx hy]at ho;have cP:=ZM x y;have hf:dA .i64 (((j+1:Nat):Int)+1)=((j+1+1:Nat):Int):=cK (by omega) (by omega);have fH:dA .i64 (((j+1:Nat):Int)-1)=((j:Nat):Int):=by rw[cK (by omega) (by omega)];omega
   generalize hjj:((j+1:Nat):Int)=J at h3 hf fH;have QU:J.toNat=j+1:=by omega
   have QV:0<=J:=by omega
   have vH:J< (l.length:Int):=by omega
   cases du:nO x y
   .have zz:eR l=false:=by rw[ho,du];rfl
    clear ho;rw[du]at cP;simp[cp,h0,h3,QU,QV,vH,hq,hr,oL,fH,du,zz]
   .have zz:eR l=nV l (j+1):=by rw[ho,du];rfl
    clear ho;rw[du]at cP;simp[cp,h0,h3,QU,QV,vH,hq,hr,oL,fH,du,hf];exact⟨by omega,zz,by omega⟩
  .have zz:eR l=true:=by rw[ho,Aa l j (by omega)]
   have vH:¬((j+1:Nat):Int)< (l.length:Int):=by omega
   generalize((j+1:Nat):Int)=J at h3 vH;simp[cp,h0,h3,vH,hq,zz]
 .rintro o fr h hn ⟨cp,⟨rfl,hz⟩|⟨rfl,hz,h2⟩⟩
  .simp[cp,hz]
  .simp[h2,hz]
def Sr(n:Nat)(b:Bool)(l:List Pp)(z:Bool)(h:Hp)(hl:l.length<=10^9):cu cx (n+1) b 305 [.ls 10 (jw l) z] h=some (.ls 1 (eE (dX l)) false,h):=by
 refine ZT f305 [.tmp 2] rfl ?_ b h;have Ev:kx 305=1:=by decide
 rw[Ev];have hq:=dP l;have hg:=jf l;generalize jw l=cq at hq hg;simp[f305];generalize cU:n (.loop _) _=XX;refine gk cU (λi st cD=>st.length=20/\gt st 0= .ls 10 cq z/\gt st 4=i/\∃y,gt st 3=y/\ka cD 1 (eE (dX (l.take i))) y)
  (λo st cD=>o= .exit 0/\st.length=20/\∃y,gt st 3=y/\ka cD 1 (eE (dX l)) y) l.length (by simp;omega) ⟨by simp,by simp,by simp,_,rfl,.inl ⟨rfl,by simp⟩⟩ ?_ ?_
 .rintro i fr hp cP ⟨cp,h0,h4,y,h3,hy⟩;rcases dY hg cP with⟨x,hi,hx,hr,cC⟩|rfl
  .have dO:=Ao hx;have q3:=akN (λv=>hy.np v)
   have iB:(dX (l.take i)).length<=10^9:=by unfold dX;simp;omega
   obtain⟨lB,h5,b1,b2,b3,b4⟩:=iy (t:=47) kp rfl hp [x.key] (eE (dX (l.take i))) y hy rfl (λr hr=>(g_ _).1 r hr) (by omega) (by rw[cI];exact iB) (by omega);rw[cI]at b1;unfold eF at hr cC;have QW:=cB x.e;generalize cM x.e=ev at hr cC QW;generalize dX (l.take i)=F at b1 b2 dO;have hf:dA .i64 ((i:Int)+1)=((i+1:Nat):Int):=cK (by omega) (by omega);simp[cp,h0,h4,h3,q3,hi,hq,cC,QW,M1,b1,hf];rw[dO,nX];exact .inr ⟨by simp,lB,by simp[cI],by rw[b2]⟩
  .rw[Xq]at hy;simp[cp,h0,h4,hq];rw[h3];exact hy
 .rintro o cG h' rfl ⟨rfl,cp,y,h3,hy⟩;have jx:=gf (n:=7) (by omega) (g_ _).1 (g_ _).2 hy;have q3:=akN (λv=>hy.np v)
  simp[cp,h3,q3];exact qW ⟨_,jx,kT _ _⟩
def J6(n:Nat)(b:Bool)(vr:ByteArray)(ty pr:List LA)(zt zp:Bool)(dir mode mn mx:Int)(h:Hp):cu cx (n+1) b 304 [.ag [vr,.ls 1 ty zt,dir,mode,mn,mx,.ls 10 pr zp]] h=some (.sc (.bool (Am dir mode mn mx pr.length)),h):=by
 refine fU f304 [.tmp 2] rfl rfl ?_ b h;unfold Am;generalize hq:pr.length=m;have hd:(dir<1\/3<dir)\/dir=1\/dir=2\/dir=3:=by omega
 by_cases c5:mode=0
 .subst c5;rcases hd with hd|rfl|rfl|rfl
  .rw[cw (by omega)];have e1:¬dir=1:=by omega
   have e2:¬dir=2:=by omega
   have e3:¬dir=3:=by omega
   simp[f304,e1,e2,e3]
  all_goals
   rw[cv (by omega),cw rfl];by_cases d1:mn=0
   .by_cases d2:mx=0<;>simp[f304,d1,d2]
   .simp[f304,d1]
 by_cases c3:mode<0
 .rw[cw (by omega)];rcases hd with hd|rfl|rfl|rfl
  .have e1:¬dir=1:=by omega
   have e2:¬dir=2:=by omega
   have e3:¬dir=3:=by omega
   simp[f304,e1,e2,e3]
  all_goals simp[f304,c3]
 by_cases c4:5<mode
 .rw[cw (by omega)];rcases hd with hd|rfl|rfl|rfl
  .have e1:¬dir=1:=by omega
   have e2:¬dir=2:=by omega
   have e3:¬dir=3:=by omega
   simp[f304,e1,e2,e3]
  all_goals simp[f304,c3,c4]
 rcases hd with hd|hd
 .rw[cw (by omega)];have e1:¬dir=1:=by omega
  have e2:¬dir=2:=by omega
  have e3:¬dir=3:=by omega
  simp[f304,e1,e2,e3]
 rw[cv (by omega),cv c5];by_cases d1:0<=mn
 rotate_left
 .rcases hd with rfl|rfl|rfl<;>simp[f304,c3,c4,c5,d1]
 by_cases d2:mn<=mx
 rotate_left
 .rcases hd with rfl|rfl|rfl<;>simp[f304,c3,c4,c5,d1,d2]
 by_cases d3:1<=mx
 rotate_left
 .rcases hd with rfl|rfl|rfl<;>simp[f304,c3,c4,c5,d1,d2,d3]
 by_cases d4:mx<=6
 rotate_left
 .rcases hd with rfl|rfl|rfl<;>simp[f304,c3,c4,c5,d1,d2,d3,d4]
 by_cases d5:m=0
 .have d5':(m:Int)=0:=by omega
  rcases hd with rfl|rfl|rfl<;>simp[f304,hq,c3,c4,c5,d1,d2,d3,d4,d5]
 .have d5':¬(m:Int)=0:=by omega
  rcases hd with rfl|rfl|rfl<;>simp[f304,hq,c3,c4,c5,d1,d2,d3,d4,d5]
def HB :∀(l:List Gp)(c:Int),c<=oP l c
 | [],c=>by rw[oP];omega
 |
  x::r,c=>by
  rw[oP];have:=HB r (c+mf x.mode x.mx);have:=Le x.mode x.mx;omega
def Ss(n:Nat)(b:Bool)(p:Tp)(h:Hp):cu cx (n+1) b 302 [.ag (dW p)] h=some (.sc (.bool (!qZ p)),h):=by
 refine fU f302 [.tmp 2] rfl rfl ?_ b h;obtain⟨vr,ns,es⟩:=p;unfold dW qZ;simp only;have vJ:=fK ns;generalize gZ ns=nr at vJ;have hq:=fL es;have hg:=kW es;generalize nD es=cq at hq hg;by_cases c1:ns.length=0
 .have ZR:(ns.length:Int)=0:=by omega
  simp[f302,vJ,c1]
 have ZR:¬(ns.length:Int)=0:=by omega
 by_cases c2:6<es.length
 .have BM:(6:Int)<es.length:=by omega
  simp[f302,vJ,hq,c1,c2,BM]
 have BM:¬(6:Int)<es.length:=by omega
 generalize hT:oP es 0=T;simp[f302,vJ,hq,c1,c2,BM];generalize cU:n (.loop _) _=XX;refine gk cU
  (λi st cD=>∃c:Int,(0<=c/\c<=12*i)/\oP (es.drop i) c=T/\st.length=55/\gt st 1= .pt 0 0/\gt st 3=c/\gt st 4=i/\cD[0]?=some (.row [vr,.ls 3 nr false,.ls 7 cq false]))
  (λo s _=>s.length=55/\((o= .exit 0/\gt s 3=T)\/(o= .ret/\12<T/\gt s 2=false))) es.length (by simp;omega) ⟨0,by omega,hT,by simp⟩ ?_ ?_
 .rintro i fr hp cP ⟨c,hc,hT,cp,h1,h3,h4,hh⟩;rcases dY hg cP with⟨x,hi,hx,hr,cC⟩|rfl
  .have dO:=Ap c hx;rw[hT]at dO;have vK:=HB (es.drop (i+1)) (c+mf x.mode x.mx);unfold dE at hr cC;have ahJ:0<=c+1/\c+1<=12*((i:Int)+1):=by omega
   have ahK:0<=c/\c<=12*((i:Int)+1):=by omega
   have hT2:x.mode≠0->12<x.mx->12<T:=λd1 d2=>by
    have e:13<=mf x.mode x.mx:=by unfold mf;rw[cv d1];split<;>(try split)<;>omega
    omega
   have abI:x.mx<=12->0<x.mx->0<=c+x.mx/\c+x.mx<=12*((i:Int)+1):=λ_ _=>by omega
   have e1:x.mode=0->mf x.mode x.mx=1:=λd1=>by unfold mf;rw[cw d1]
   have e2:x.mode≠0->¬12<x.mx->0<x.mx->mf x.mode x.mx=x.mx:=λd1 d2 d3=>by unfold mf;rw[cv d1];split<;>(try split)<;>omega
   have e3:x.mode≠0->¬12<x.mx->¬0<x.mx->mf x.mode x.mx=0:=λd1 d2 d3=>by unfold mf;rw[cv d1];split<;>(try split)<;>omega
   have ahL:¬12<x.mx->x.mx<=12:=λ_=>by omega
   clear vK;have hf:dA .i64 ((i:Int)+1)=((i+1:Nat):Int):=cK (by omega) (by omega);have yM:dA .i64 (c+1)=c+1:=cK (by clear hf;omega) (by clear hf;omega);by_cases d1:x.mode=0
   .rw[e1 d1]at dO;simp[cp,h1,h3,h4,hh,hi,hq,cC,d1,hf,yM];exact⟨ahJ,dO.symm⟩
   by_cases d2:12<x.mx
   .have hTT:=hT2 d1 d2;simp[cp,h1,h3,h4,hh,hi,hq,cC,d1,d2,hTT]
   by_cases d3:0<x.mx
   .rw[e2 d1 d2 d3]at dO;have abI:=abI (ahL d2) d3;have Cn:dA .i64 (c+x.mx)=c+x.mx:=cK (by clear hf yM;omega) (by clear hf yM;omega);simp[cp,h1,h3,h4,hh,hi,hq,cC,d1,d2,d3,hf,Cn];exact⟨abI,dO.symm⟩
   .rw[e3 d1 d2 d3,Int.add_zero]at dO;simp[cp,h1,h3,h4,hh,hi,hq,cC,d1,d2,d3,hf];exact⟨ahK,dO.symm⟩
  .rw[Yc,oP]at hT;subst hT;simp[cp,h1,h3,h4,hh,hq]
 .rintro o cG h' rfl ⟨cp,⟨rfl,h3⟩|⟨rfl,hTT,h2⟩⟩
  .by_cases c3:12<T
   .have GD:¬T<=12:=by omega
    simp[cp,h3,c3,GD]
   .have GD:T<=12:=by omega
    simp[cp,h3,c3,GD]
  .have GD:¬T<=12:=by omega
   simp[h2,hTT]
noncomputable def Df :Code:=(f284.body).getD .skip
def uR(x:Np):Bool:=(dn x.var ⟨#[]⟩||dt x.var) && (x.labels.all dt && (dX x.props).all dt)
def uS(x:Np):Bool:=eR x.labels && eR (dX x.props)
def J7(a c:Bool):Int:=if a=false then 6 else if c=false then 26 else 0
def xp(p:Tp):Int:=
 if qZ p=true then 4
 else if p.nodes.length≠p.cE.length+1 then 1
 else if p.cE.any r7=true then 1
 else J7 ((dn p.var ⟨#[]⟩||dt p.var) && p.cE.all (λx=>uR (Ar x)) && p.nodes.all uR) (p.cE.all (λx=>uS (Ar x)) && p.nodes.all uS)
def v8{α:Type}{l:List α}{p:α->Bool}{i:Nat}{x:α}(h:l[i]?=some x):(l.take (i+1)).all p=((l.take i).all p && p x):=by
 rw[Xt,h];simp
def ad4(a b c d e f:AV):cF [a,b,c] 0 [d,e,f]=[d,e,f]:=rfl
def PH(r:Option (Out × St))(v:Int):Prop:=∃h',dT [.tmp 2] r=some ((v:AV),h')
def ahM(M:Nat)(a c:Bool)(fr:LA)(h:Hp)(cp:fr.length=112)(g3:gt fr 3=a)(g4:gt fr 4=c):PH (M (cT 6 Df) (fr,h)) (J7 a c):=by
 unfold PH J7;cases a
 .simp[Df,cT,cR,f284,cp,g3]
 .cases c<;>simp[Df,cT,cR,f284,cp,g3,g4]
def ahN(M:Nat)(l:List Np)(cq re:List LA)(vr:ByteArray)(hq:cq.length=l.length)(hg:∀i:Nat,cq[i]?=(l[i]?).map dD)(hl:l.length<=10^9)(hb:∀x∈l,x.labels.length<=10^9/\x.props.length<=10^9)(ff:∀x b h,cu cx M b 303 [.sc (.string x)] h=some (.sc (.bool (dn x ⟨#[]⟩||dt x)),h))(fw:∀l:List ByteArray,l.length<=10^9->∀b h,cu cx M b 235 [.ls 1 (eE l) false] h=some (.sc (.bool (l.all dt)),h))(fk:∀l:List Pp,l.length<=10^9->∀b h,cu cx M b 305 [.ls 10 (jw l) false] h=some (.ls 1 (eE (dX l)) false,h))(fs:∀l:List ByteArray,l.length<=10^9->∀b h,cu cx M b 306 [.ls 1 (eE l) false] h=some (.sc (.bool (eR l)),h))(a c:Bool)(fr:LA)(h:Hp)(cp:fr.length=112)(g1:gt fr 1= .pt 0 0)(g3:gt fr 3=a)(g4:gt fr 4=c)(hh:h[0]?=some (.row [vr,.ls 3 cq false,.ls 7 re false])):
 PH (M (.seq (cL (cT 5 Df)) (cT 6 Df)) (fr,h)) (J7 (a && l.all uR) (c && l.all uS)):=by
 have s6:=ahM M;generalize cT 6 Df=Z at s6|-;simp[Df,cT,cR,cL,f284];generalize cU:M (.loop _) _=XX;obtain⟨fA,W8⟩:∃fA:Nat->Bool,∀i,fA i=(a && (l.take i).all uR):=⟨_,λ_=>rfl⟩;obtain⟨fC,W9⟩:∃fC:Nat->Bool,∀i,fC i=(c && (l.take i).all uS):=⟨_,λ_=>rfl⟩;have eA:=W8 l.length;have eC:=W9 l.length;rw[Xq]at eA eC;rw[<-eA,<-eC];have zA:fA 0=a:=by rw[W8];simp
 have zC:fC 0=c:=by rw[W9];simp
 clear eA eC;refine gk cU
  (λi st cD=>st.length=112/\gt st 1= .pt 0 0/\gt st 3= .sc (.bool (fA i))/\gt st 4= .sc (.bool (fC i))/\gt st 7=i/\cD[0]?=some (.row [vr,.ls 3 cq false,.ls 7 re false]))
  (λo st _=>o= .exit 2/\st.length=112/\gt st 3= .sc (.bool (fA l.length))/\gt st 4= .sc (.bool (fC l.length)))
  l.length (by simp;omega) ⟨by simp[cp],by simp[g1],by simp[g3,zA],by simp[g4,zC],by simp[cp],hh⟩ ?_ ?_
 .clear cU XX cp g1 g3 g4 hh zA zC;rintro i fr hp cP ⟨cp,g1,g3,g4,g7,hh⟩;rcases dY hg cP with⟨x,hi,hx,hr,cC⟩|rfl
  .have fH:i<=10^15:=by omega
   have hA:fA (i+1)=(fA i && ((dn x.var ⟨#[]⟩||dt x.var) && (x.labels.all dt && (dX x.props).all dt))):=by rw[W8,W8,v8 hx,<-Bool.and_assoc];rfl
   have hC:fC (i+1)=(fC i && (eR x.labels && eR (dX x.props))):=by rw[W9,W9,v8 hx,<-Bool.and_assoc];rfl
   have ry:=hb x (Zi hx);have iB:(dX x.props).length<=10^9:=by unfold dX;rw[Yh];exact ry.2
   have ae:=ff x.var;have af:=fw x.labels ry.1;have ah:=fk x.props ry.2;have ai:=fw (dX x.props) iB;have ak:=fs x.labels ry.1;have aj:=fs (dX x.props) iB;unfold dD at hr cC;have hp0:0<hp.length:=(Za.1 hh).1;generalize x.labels.all dt=w1 at af hA;generalize(dX x.props).all dt=w2 at ai hA;generalize eR x.labels=r1 at ak hC;generalize eR (dX x.props)=r2 at aj hC;generalize(dn x.var ⟨#[]⟩||dt x.var)=fv at ae hA;generalize fA i=A0 at hA g3;generalize fC i=C0 at hC g4;generalize eE (dX x.props)=tk at ah ai aj;generalize eE x.labels=tl at hr cC af ak;generalize jw x.props=tp at hr cC ah;have hf:=cz fH;have JL:∀b:eV,(hp++[b])[0]?=some (.row [vr,.ls 3 cq false,.ls 7 re false]):=λb=>by rw[Zd hp0];exact hh
   have U0:∀(b:eV)k,(hp++[b])[0]'k= .row [vr,.ls 3 cq false,.ls 7 re false]:=λb k=>by obtain⟨_,e⟩:=Za.1 (JL b);exact e
   have h9:(A0=false\/(A0=true/\fv=false)\/(A0=true/\fv=true/\w1=false)\/(A0=true/\fv=true/\w1=true))/\(C0=false\/(C0=true/\r1=false)\/(C0=true/\r1=true)):=by
    cases A0<;>cases fv<;>cases w1<;>cases C0<;>cases r1<;>simp
   obtain⟨h8,h9⟩:=h9;rcases h8 with rfl|⟨rfl,rfl⟩|⟨rfl,rfl,rfl⟩|⟨rfl,rfl,rfl⟩<;>rcases h9 with rfl|⟨rfl,rfl⟩|⟨rfl,rfl⟩<;>
    simp[cp,g1,g3,g4,g7,hh,U0,hi,hq,cC,hf,ae,af,ah,ai,ak,aj,hA,hC,ad4]
  .simp[cp,g1,g3,g4,g7,hh,hq]
 .rintro o cG h' rfl ⟨rfl,cp,g3,g4⟩;simp;exact s6 _ _ _ _ cp g3 g4
def A5(a b c d e f g a' b' c' d' e' f' g':AV):cF [a,b,c,d,e,f,g] 0 [a',b',c',d',e',f',g']=[a',b',c',d',e',f',g']:=rfl
def ahO(M:Nat)(l:List Gp)(ln:List Np)(rn cq:List LA)(vr:ByteArray)(vJ:rn.length=ln.length)(MQ:∀i:Nat,rn[i]?=(ln[i]?).map dD)(Cf:ln.length<=10^9)(M9:∀x∈ln,x.labels.length<=10^9/\x.props.length<=10^9)(hq:cq.length=l.length)(hg:∀i:Nat,cq[i]?=(l[i]?).map dE)(hl:l.length<=10^9)(hb:∀x∈l,x.types.length<=10^9/\x.props.length<=10^9)(fo:∀x:Gp,∀b h,cu cx M b 304 [.ag (dE x)] h=some (.sc (.bool (Am x.dir x.mode x.mn x.mx x.props.length)),h))(ff:∀x b h,cu cx M b 303 [.sc (.string x)] h=some (.sc (.bool (dn x ⟨#[]⟩||dt x)),h))(fw:∀l:List ByteArray,l.length<=10^9->∀b h,cu cx M b 235 [.ls 1 (eE l) false] h=some (.sc (.bool (l.all dt)),h))(fk:∀l:List Pp,l.length<=10^9->∀b h,cu cx M b 305 [.ls 10 (jw l) false] h=some (.ls 1 (eE (dX l)) false,h))(fs:∀l:List ByteArray,l.length<=10^9->∀b h,cu cx M b 306 [.ls 1 (eE l) false] h=some (.sc (.bool (eR l)),h))(a c:Bool)(fr:LA)(h:Hp)(cp:fr.length=112)(g1:gt fr 1= .pt 0 0)(g3:gt fr 3=a)(g4:gt fr 4=c)(hh:h[0]?=some (.row [vr,.ls 3 rn false,.ls 7 cq false])):
 PH (M (.seq (cL (cT 4 Df)) (.seq (cL (cT 5 Df)) (cT 6 Df))) (fr,h)) (if l.any r7=true then 1 else J7 (a && l.all (λx=>uR (Ar x)) && ln.all uR) (c && l.all (λx=>uS (Ar x)) && ln.all uS)):=by
 have s5:=ahN M ln rn cq vr vJ MQ Cf M9 ff fw fk fs;generalize Code.seq (cL (cT 5 Df)) (cT 6 Df)=Z at s5|-;obtain⟨fA,W8⟩:∃fA:Nat->Bool,∀i,fA i=(a && (l.take i).all (λx=>uR (Ar x))):=⟨_,λ_=>rfl⟩;obtain⟨fC,W9⟩:∃fC:Nat->Bool,∀i,fC i=(c && (l.take i).all (λx=>uS (Ar x))):=⟨_,λ_=>rfl⟩;have eA:=W8 l.length;have eC:=W9 l.length;rw[Xq]at eA eC;rw[<-eA,<-eC];have zA:fA 0=a:=by rw[W8];simp
 have zC:fC 0=c:=by rw[W9];simp
 clear eA eC;generalize hT:l.any r7=T;simp[Df,cT,cR,cL,f284];generalize cU:M (.loop _) _=XX;refine gk cU
  (λi st cD=>(l.drop i).any r7=T/\st.length=112/\gt st 1= .pt 0 0/\gt st 3= .sc (.bool (fA i))/\gt st 4= .sc (.bool (fC i))/\gt st 5=i/\cD[0]?=some (.row [vr,.ls 3 rn false,.ls 7 cq false]))
  (λo st cD=>st.length=112/\((o= .exit 0/\T=false/\gt st 1= .pt 0 0/\gt st 3= .sc (.bool (fA l.length))/\gt st 4= .sc (.bool (fC l.length))/\cD[0]?=some (.row [vr,.ls 3 rn false,.ls 7 cq false]))\/(o= .ret/\T=true/\gt st 2=(1:Int))))
  l.length (by simp;omega) ⟨hT,by simp[cp],by simp[g1],by simp[g3,zA],by simp[g4,zC],by simp[cp],hh⟩ ?_ ?_
 .clear cU XX cp g1 g3 g4 hh zA zC s5;rintro i fr hp cP ⟨hT,cp,g1,g3,g4,g7,hh⟩;rcases dY hg cP with⟨x,hi,hx,hr,cC⟩|rfl
  .have fH:i<=10^15:=by omega
   rw[nY hx,show r7 x= !(Am x.dir x.mode x.mn x.mx x.props.length)from rfl]at hT;have hA:fA (i+1)=(fA i && ((dn x.var ⟨#[]⟩||dt x.var) && (x.types.all dt && (dX x.props).all dt))):=by rw[W8,W8,v8 hx,<-Bool.and_assoc];rfl
   have hC:fC (i+1)=(fC i && (eR x.types && eR (dX x.props))):=by rw[W9,W9,v8 hx,<-Bool.and_assoc];rfl
   have ry:=hb x (Zi hx);have iB:(dX x.props).length<=10^9:=by unfold dX;rw[Yh];exact ry.2
   have au:=fo x;have ae:=ff x.var;have af:=fw x.types ry.1;have ah:=fk x.props ry.2;have ai:=fw (dX x.props) iB;have ak:=fs x.types ry.1;have aj:=fs (dX x.props) iB;unfold dE at hr cC au;have hp0:0<hp.length:=(Za.1 hh).1;generalize x.types.all dt=w1 at af hA;generalize(dX x.props).all dt=w2 at ai hA;generalize eR x.types=r1 at ak hC;generalize eR (dX x.props)=r2 at aj hC;generalize(dn x.var ⟨#[]⟩||dt x.var)=fv at ae hA;generalize Am x.dir x.mode x.mn x.mx x.props.length=ho at au hT;generalize fA i=A0 at hA g3;generalize fC i=C0 at hC g4;generalize eE (dX x.props)=tk at ah ai aj;generalize eE x.types=tl at hr cC au af ak;generalize jw x.props=tp at hr cC au ah;generalize hTi:(l.drop (i+1)).any r7=Ti at hT;have hf:=cz fH;have JL:∀b:eV,(hp++[b])[0]?=some (.row [vr,.ls 3 rn false,.ls 7 cq false]):=λb=>by rw[Zd hp0];exact hh
   have U0:∀(b:eV)k,(hp++[b])[0]'k= .row [vr,.ls 3 rn false,.ls 7 cq false]:=λb k=>by obtain⟨_,e⟩:=Za.1 (JL b);exact e
   cases ho
   .rw[Bool.not_false,Bool.true_or]at hT;subst hT;simp[cp,g1,g7,hh,hi,hq,cC,au,A5]
   rw[Bool.not_true,Bool.false_or]at hT;subst hT;have h9:(A0=false\/(A0=true/\fv=false)\/(A0=true/\fv=true/\w1=false)\/(A0=true/\fv=true/\w1=true))/\(C0=false\/(C0=true/\r1=false)\/(C0=true/\r1=true)):=by
    cases A0<;>cases fv<;>cases w1<;>cases C0<;>cases r1<;>simp
   obtain⟨h8,h9⟩:=h9;rcases h8 with rfl|⟨rfl,rfl⟩|⟨rfl,rfl,rfl⟩|⟨rfl,rfl,rfl⟩<;>rcases h9 with rfl|⟨rfl,rfl⟩|⟨rfl,rfl⟩<;>
    simp[cp,g1,g3,g4,g7,hh,U0,hi,hq,cC,hf,au,ae,af,ah,ai,ak,aj,hA,hC,hTi,A5]
  .rw[Yc]at hT;subst hT;simp[cp,g1,g3,g4,g7,hh,hq]
 .rintro o cG h' rfl ⟨cp,⟨rfl,rfl,g1,g3,g4,hh⟩|⟨rfl,rfl,g2⟩⟩
  .rw[cv (by simp)];simp;exact s5 _ _ _ _ cp g1 g3 g4 hh
  .rw[cw rfl];simp[PH,g2]
def ahP(M:Nat)(fr:LA)(cp:fr.length=112)(lo fv:Bool)(V qa qb q:Int)(Z:Code)(vr:ByteArray)(rn re:List LA)(UY:(rn.length:Int)=qa)(UZ:(re.length:Int)=qb)(hf:dA .i64 (qb+1)=q)(fh:∀b h,cu cx M b 302 [.ag [vr,.ls 3 rn false,.ls 7 re false]] h=some (.sc (.bool (!lo)),h))(g0:gt fr 0= .ag [vr,.ls 3 rn false,.ls 7 re false])(ff:∀b h,cu cx M b 303 [vr] h=some ((fv:AV),h))(s4:∀fr h,fr.length=112->gt fr 1= .pt 0 0->gt fr 3= .sc (.bool fv)->gt fr 4= .sc (.bool true)->h[0]?=some (.row [vr,.ls 3 rn false,.ls 7 re false])->PH (M Z (fr,h)) V):
 PH (M (.seq (cL (cT 0 Df)) (.seq (cL (cT 1 Df)) (.seq (cL (cT 2 Df)) (.seq (cL (cT 3 Df)) Z)))) (fr,[])) (if lo=true then 4 else if qa=q then V else 1):=by
 cases lo
 .rw[cv (by simp)];by_cases c1:qa=q
  .rw[cw c1];subst c1;simp[Df,cT,cR,cL,f284,cp,g0,fh,UY,UZ,hf,ff];exact s4 _ _ (by simp[cp]) (by simp[cp]) (by simp[cp]) (by simp[cp]) (by simp)
  .rw[cv c1];simp[Df,cT,cR,cL,f284,cp,g0,fh,PH,UY,UZ,hf,c1]
 .rw[cw rfl];simp[Df,cT,cR,cL,f284,cp,g0,fh,PH]
def N4(n D d:Nat)(b:Bool)(p:Tp)(h:Hp)(hb:bdT D d p):cu cx (n+5) b 284 [.ag (dW p)] h=some (.sc (.int .i64 (xp p)),h):=by
 refine fU f284 [.tmp 2] rfl rfl ?_ b h;have fh:=λb h=>Ss (n+3) b p h
 have fo:∀x:Gp,∀b h,cu cx (n+4) b 304 [.ag (dE x)] h=some (.sc (.bool (Am x.dir x.mode x.mn x.mx x.props.length)),h):=λx b h=>by
  have:=J6 (n+3) b x.var (eE x.types) (jw x.props) false false x.dir x.mode x.mn x.mx h;rw[dP]at this;exact this
 have ff:=λx b h=>Sm n b x h
 have fw:∀l:List ByteArray,l.length<=10^9->∀b h,cu cx (n+4) b 235 [.ls 1 (eE l) false] h=some (.sc (.bool (l.all dt)),h):=λl hl b h=>De n b l false h (by omega)
 have fk:∀l:List Pp,l.length<=10^9->∀b h,cu cx (n+4) b 305 [.ls 10 (jw l) false] h=some (.ls 1 (eE (dX l)) false,h):=λl hl b h=>Sr (n+3) b l false h hl
 have fs:∀l:List ByteArray,l.length<=10^9->∀b h,cu cx (n+4) b 306 [.ls 1 (eE l) false] h=some (.sc (.bool (eR l)),h):=λl hl b h=>J5 (n+3) b l false h (by omega)
 generalize n+4=M at *;have s4:=ahO M p.cE p.nodes (gZ p.nodes) (nD p.cE) p.var (fK _) (kV _) hb.2.2.1 (λx hx=>⟨(hb.1 x hx).1,(hb.1 x hx).2.1⟩) (fL _) (kW _) hb.2.2.2 (λx hx=>⟨(hb.2.1 x hx).1,(hb.2.1 x hx).2.1⟩) fo ff fw fk fs (dn p.var ⟨#[]⟩||dt p.var) true;simp only[Bool.true_and]at s4;have PD:p.cE.length<=1000000000000000:=by have:=hb.2.2.2;omega
 have key:∀r v,PH r v->(dT [.tmp 2] r).map Prod.fst=some (.sc (.int .i64 v)):=λr v ⟨h',e⟩=>by rw[e];rfl
 have hV:xp p=if qZ p=true then 4 else if(p.nodes.length:Int)=((p.cE.length+1:Nat):Int)then(if p.cE.any r7=true then 1 else J7 ((dn p.var ⟨#[]⟩||dt p.var) && p.cE.all (λx=>uR (Ar x)) && p.nodes.all uR) (p.cE.all (λx=>uS (Ar x)) && p.nodes.all uS))else 1:=by
  unfold xp;by_cases c1:p.nodes.length=p.cE.length+1
  .rw[cv (not_not_intro c1),cw (show(p.nodes.length:Int)=((p.cE.length+1:Nat):Int) by rw[c1])]
  .rw[cw c1,cv (show¬(p.nodes.length:Int)=((p.cE.length+1:Nat):Int)from λe=>c1 (Int.ofNat.inj e))]
 rw[hV];refine key _ _ ?_;exact ahP M _ (by simp) (qZ p) _ _ _ (re:=nD p.cE) (rn:=gZ p.nodes) _ _ _ p.var (by rw[fK]) rfl (by rw[fL];exact cz PD) fh rfl (ff p.var) s4
def L5(T:List Ep)(row:LA)(m:List Ep)(fr:LA)(h:Hp):Prop:=h[0]?=some (.row row)/\∃E y,gt fr 3=y/\ka h 9 (cZ E) y/\(∀k n,y= .sl k 9 0 n false->k≠0)/\E++m=T/\T.length<=10^9
def L5.fr{T:List Ep}{row:LA}{m:List Ep}{fr cG:LA}{h:Hp}(hX:L5 T row m fr h)(e:gt cG 3=gt fr 3):L5 T row m cG h:=by
 obtain⟨a,E,y,g3,b⟩:=hX;exact⟨a,E,y,e.trans g3,b⟩
def zo{E m T:List Ep}(h:E++m=T)(hl:T.length<=10^9):E.length+m.length<=10^9:=by
 rw[<-Zu,h];exact hl
def HC{l:List Pp}{j:Nat}{q:Pp}{E m T:List Ep}(hx:l[j]?=some q)(h:E++((l.drop j).map (·.e)++m)=T):(E++[q.e])++((l.drop (j+1)).map (·.e)++m)=T:=by
 rw[cH hx,Yn]at h;rw[<-h];simp
def ad5(M:Nat)(T:List Ep)(i:Nat)(vr:ByteArray)(rn re:List LA)(x:Np)(hr:rn[i]?=some (dD x))(m:List Ep)(fr:LA)(h:Hp)(cp:fr.length=68)(g1:gt fr 1= .pt 0 0)(g4:gt fr 4=i)(hX:L5 T [vr,.ls 3 rn false,.ls 7 re false] (x.props.map (·.e)++m) fr h):
 ∃cG h',M (cL Da) (fr,h)=some (.normal,(cG,h'))/\cG.length=68/\gt cG 1= .pt 0 0/\gt cG 4=i/\L5 T [vr,.ls 3 rn false,.ls 7 re false] m cG h':=by
 have hi:=(Za.1 hr).1;have cC:=gA hr
 obtain⟨h0,E,y,g3,hB,hk,hE,hl⟩:=hX;have wM:=dP x.props;have JH:=jf x.props;have oy:x.props.length<=10^9:=by have:=zo hE hl;rw[Zu,Yh]at this;omega
 unfold dD at hr cC;generalize jw x.props=rp at *;simp[Da,R8,yL,cT,cR,cL,f26];generalize cU:M (.loop _) _=XX;refine gk cU
  (λj st cD=>st.length=68/\gt st 1= .pt 0 0/\gt st 4=i/\gt st 5=j/\L5 T [vr,.ls 3 rn false,.ls 7 re false] ((x.props.drop j).map (·.e)++m) st cD)
  (λo st cD=>o= .exit 2/\st.length=68/\gt st 1= .pt 0 0/\gt st 4=i/\L5 T [vr,.ls 3 rn false,.ls 7 re false] m st cD)
  x.props.length (by simp;omega) ⟨by simp[cp],by simp[g1],by simp[g4],by simp[cp],h0,E,y,by simp[g3],hB,hk,by simpa using hE,hl⟩ ?_ ?_
 .clear cU XX cp g1 g3 g4 h0 hB hk hE hl;rintro j fr hp cP ⟨cp,g1,g4,gj,h0,E,y,g3,hB,hk,hE,hl⟩;by_cases hj:j<x.props.length
  .obtain⟨q,Lx,ED,lW⟩:=il JH hj;have AR:j<=1000000000000000:=by omega
   obtain⟨id,h',b1,b2,b3,b4⟩:=ER q.e h0 hB hk (by have:=zo hE hl;omega);have WG:=HC Lx hE;rw[Xn]at WG;have q2:=akN (λv=>hB.np v)
   obtain⟨b0,c1,c2,c3,c4,c5,c6,c7,c8,gC⟩:=iK q.e;unfold eF at ED lW;rw[gC]at ED b1;simp only[gC]at lW;have jT:=rW (ev:=[b0,c1,c2,c3,c4,c5,c6,c7,c8]) rfl;have kD:∀F k n:Nat,AV.sl id 9 0 F false= .sl k 9 0 n false->k≠0:=λF k n e=>by injection e;omega
   have hf:=cz AR;generalize(cZ E).length=F at *;simp[cp,g1,g3,g4,gj,h0,hi,cC,hj,wM,lW,q2,jT,b1,hf];exact⟨b2,E++[q.e],.sl id 9 0 (F+1) false,by simp[cp],b3,kD _,WG,hl⟩
  .have iJ:j=x.props.length:=Yb cP (Ya hj);subst iJ;simp[cp,g1,g4,gj,h0,hi,cC,wM];rw[Yc]at hE;exact⟨h0,E,y,by simp[g3],hB,hk,by simpa using hE,hl⟩
 .rintro o cG h' rfl ⟨rfl,cp,g1,g4,hX⟩;exact⟨cG,h',by simp,cp,g1,g4,hX⟩
def ad6(M:Nat)(T:List Ep)(i:Nat)(vr:ByteArray)(rn re:List LA)(x:Gp)(hr:re[i]?=some (dE x))(m:List Ep)(fr:LA)(h:Hp)(cp:fr.length=68)(g1:gt fr 1= .pt 0 0)(g4:gt fr 4=i)(hX:L5 T [vr,.ls 3 rn false,.ls 7 re false] (x.props.map (·.e)++m) fr h):
 ∃cG h',M (cL (cR (cR Da))) (fr,h)=some (.normal,(cG,h'))/\cG.length=68/\gt cG 1= .pt 0 0/\gt cG 4=i/\L5 T [vr,.ls 3 rn false,.ls 7 re false] m cG h':=by
 have hi:=(Za.1 hr).1;have cC:=gA hr
 obtain⟨h0,E,y,g3,hB,hk,hE,hl⟩:=hX;have wM:=dP x.props;have JH:=jf x.props;have oy:x.props.length<=10^9:=by have:=zo hE hl;rw[Zu,Yh]at this;omega
 unfold dE at hr cC;generalize jw x.props=rp at *;simp[Da,R8,yL,cT,cR,cL,f26];generalize cU:M (.loop _) _=XX;refine gk cU
  (λj st cD=>st.length=68/\gt st 1= .pt 0 0/\gt st 4=i/\gt st 6=j/\L5 T [vr,.ls 3 rn false,.ls 7 re false] ((x.props.drop j).map (·.e)++m) st cD)
  (λo st cD=>o= .exit 4/\st.length=68/\gt st 1= .pt 0 0/\gt st 4=i/\L5 T [vr,.ls 3 rn false,.ls 7 re false] m st cD)
  x.props.length (by simp;omega) ⟨by simp[cp],by simp[g1],by simp[g4],by simp[cp],h0,E,y,by simp[g3],hB,hk,by simpa using hE,hl⟩ ?_ ?_
 .clear cU XX cp g1 g3 g4 h0 hB hk hE hl;rintro j fr hp cP ⟨cp,g1,g4,gj,h0,E,y,g3,hB,hk,hE,hl⟩;by_cases hj:j<x.props.length
  .obtain⟨q,Lx,ED,lW⟩:=il JH hj;have AR:j<=1000000000000000:=by omega
   obtain⟨id,h',b1,b2,b3,b4⟩:=ER q.e h0 hB hk (by have:=zo hE hl;omega);have WG:=HC Lx hE;rw[Xn]at WG;have q2:=akN (λv=>hB.np v)
   obtain⟨b0,c1,c2,c3,c4,c5,c6,c7,c8,gC⟩:=iK q.e;unfold eF at ED lW;rw[gC]at ED b1;simp only[gC]at lW;have jT:=rW (ev:=[b0,c1,c2,c3,c4,c5,c6,c7,c8]) rfl;have kD:∀F k n:Nat,AV.sl id 9 0 F false= .sl k 9 0 n false->k≠0:=λF k n e=>by injection e;omega
   have hf:=cz AR;generalize(cZ E).length=F at *;simp[cp,g1,g3,g4,gj,h0,hi,cC,hj,wM,lW,q2,jT,b1,hf];exact⟨b2,E++[q.e],.sl id 9 0 (F+1) false,by simp[cp],b3,kD _,WG,hl⟩
  .have iJ:j=x.props.length:=Yb cP (Ya hj);subst iJ;simp[cp,g1,g4,gj,h0,hi,cC,wM];rw[Yc]at hE;exact⟨h0,E,y,by simp[g3],hB,hk,by simpa using hE,hl⟩
 .rintro o cG h' rfl ⟨rfl,cp,g1,g4,hX⟩;exact⟨cG,h',by simp,cp,g1,g4,hX⟩
def sD(x:Np)(l:List Np):eo (x::l)=x.props.map (·.e)++eo l:=by unfold eo;rw[Ym]
def Su(M:Nat)(T:List Ep)(p:Tp)(hT:T=eo (c9 p.nodes p.cE))(hn:p.nodes.length<=10^9)(hm:T.length<=10^9):
 ∃r h',dT [.tmp 2] (M yL ([.ag (dW p)]++List.replicate 67 .un,[]))=some (r,h')/\∃r',Ae.da h' 8 r=some r'/\EM 9 r'= .ls 9 (cZ T) false:=by
 rw[show yL= .seq (cL (cT 0 yL)) (.seq (cL (cT 1 yL)) (.seq (.seq (cL (cL (cT 2 yL))) (.block 0 (.loop (.seq (cL R8) (.seq (.block 1 (.seq (cL Da) (.seq (cL (cR Da)) (.cond (.tmp 42) (cL (cR (cR Da))) .skip)))) (cR (cR R8))))))) (cT 3 yL))) by kernel_rfl];have tJ:∀fr h,fr.length=68->L5 T [p.var,.ls 3 (gZ p.nodes) false,.ls 7 (nD p.cE) false] [] fr h->∃r h',dT [.tmp 2] (M (cT 3 yL) (fr,h))=some (r,h')/\∃r',Ae.da h' 8 r=some r'/\EM 9 r'= .ls 9 (cZ T) false:=by
  rintro fr h cp ⟨h0,E,y,g3,hB,hk,hE,hl⟩;obtain rfl:E=T:=by simpa using hE
  have q2:=akN (λv=>hB.np v)
  have jx:=gf (n:=7) (by omega) (pW E).1 (pW E).2 hB;have hnf:EM 9 (eH 9 (cZ E))= .ls 9 (cZ E) false:=kT _ _;generalize cZ E=cq at *;generalize eH 9 cq=v at *;simp[yL,cT,cR,f26,cp,g3,q2];exact qW ⟨_,jx,hnf⟩
 generalize cT 3 yL=Z at tJ|-;have c1:=λi x hr m fr h cp g1 g4 hX=>ad5 M T i p.var (gZ p.nodes) (nD p.cE) x hr m fr h cp g1 g4 hX
 have c2:=λi x hr m fr h cp g1 g4 hX=>ad6 M T i p.var (gZ p.nodes) (nD p.cE) x hr m fr h cp g1 g4 hX
 have vJ:=fK p.nodes;have MQ:=kV p.nodes;have xc:=fL p.cE;have vK:=kW p.cE;unfold dW;generalize gZ p.nodes=rn,nD p.cE=re at *;generalize ahB:p.nodes=U4,ahC:p.cE=NL,hz1:cL Da=Z1,hz2:cL (cR (cR Da))=Z2 at *;simp[Da,R8,yL,cT,cR,cL,f26];generalize cU:M (.loop _) _=XX;refine gk cU
  (λi st cD=>st.length=68/\gt st 1= .pt 0 0/\gt st 4=i/\L5 T [p.var,.ls 3 rn false,.ls 7 re false] (eo (c9 (U4.drop i) (NL.drop i))) st cD)
  (λo st cD=>o= .exit 0/\st.length=68/\L5 T [p.var,.ls 3 rn false,.ls 7 re false] [] st cD)
  U4.length (by simp;omega) ⟨by simp,by simp,by simp,rfl,[],_,rfl,.inl ⟨rfl,rfl⟩,λk n e=>by simp at e,by simpa using hT.symm,hm⟩ ?_ ?_
 .clear cU XX hT hm tJ;rintro i fr hp cP ⟨cp,g1,g4,hX⟩;have h0:=hX.1;rcases dY MQ cP with⟨x,hi,hx,hr,cC⟩|rfl
  .have fH:i<=10^15:=by omega
   by_cases he:i<NL.length
   .obtain⟨e,hxe,Z_,Wh⟩:=il vK he;rw[cH hx,cH hxe,c9,sD,sD,show(Ar e).props=e.props from rfl]at hX;have d1:=λfr h cp g1 g4 hX=>c1 i x hr (e.props.map (·.e)++eo (c9 (U4.drop (i+1)) (NL.drop (i+1)))) fr h cp g1 g4 hX
    simp[cp,g1,g4,h0,hi,vJ];generalize IV:M Z1 _=EE;refine R7 IV (d1 _ _ (by simp[cp]) (by simp[g1]) (by simp[g4]) (hX.fr (by simp))) ?_;clear IV d1 hX h0 cp g1 g4;rintro FJ h1 rfl ⟨cp,g1,g4,hX⟩;have h0:=hX.1;have d2:=λfr h cp g1 g4 hX=>c2 i e Z_ (eo (c9 (U4.drop (i+1)) (NL.drop (i+1)))) fr h cp g1 g4 hX
    simp[cp,g1,g4,h0,he,xc];generalize IV:M Z2 _=EE;refine R7 IV (d2 _ _ (by simp[cp]) (by simp[g1]) (by simp[g4]) (hX.fr (by simp))) ?_;clear IV d2 hX h0 cp g1 g4;rintro Lm h2 rfl ⟨cp,g1,g4,hX⟩;have hf:=cz fH;simp[cp,g1,g4,hi,hf];exact hX.fr (by simp)
   .have e1:NL.drop i=[]:=Zt (by omega);have e2:NL.drop (i+1)=[]:=Zt (by omega);rw[cH hx,e1,c9,sD]at hX;have d1:=λfr h cp g1 g4 hX=>c1 i x hr (eo (c9 (U4.drop (i+1)) [])) fr h cp g1 g4 hX
    simp[cp,g1,g4,h0,hi,vJ];generalize IV:M Z1 _=EE;refine R7 IV (d1 _ _ (by simp[cp]) (by simp[g1]) (by simp[g4]) (hX.fr (by simp))) ?_;clear IV d1 hX h0 cp g1 g4;rintro FJ h1 rfl ⟨cp,g1,g4,hX⟩;have h0:=hX.1;have hf:=cz fH;simp[cp,g1,g4,h0,he,xc,hi,hf];rw[e2];exact hX.fr (by simp)
  .simp[cp,g1,g4,h0,vJ];rw[Yc,c9,show eo []=[]from rfl]at hX;exact hX.fr (by simp)
 .rintro o cG h' rfl ⟨rfl,cp,hX⟩;simp;exact tJ cG h' cp hX
def J8(n:Nat)(p:Tp)(hn:p.nodes.length<=10^9)(hm:(eo (c9 p.nodes p.cE)).length<=10^9)(b:Bool)(h:Hp):cu cx (n+1) b 26 [.ag (dW p)] h=some (.ls 9 (cZ (eo (c9 p.nodes p.cE))) false,h):=
 ET (f:=26) (n:=n) (args:=[.ag (dW p)]) (.ls 9 (cZ (eo (c9 p.nodes p.cE))) false) ⟨f26.ntmps,(f26.body).getD .skip,[.tmp 2]⟩ (by kernel_rfl) (by kernel_rfl) rfl (by kernel_rfl) (by simp[f26]) rfl (Su n _ p rfl hn hm) (by decide) b h
noncomputable def BV :Code:=(f231.body).getD .skip
def PQ(r:Option (Out × St))(v:Int):Prop:=∃h',dT [.tmp 4] r=some ((v:AV),h')
def ahQ(M:Nat)(fr:LA)(h:Hp)(cp:fr.length=73):PQ (M (cT 6 BV) (fr,h)) 0:=by
 simp[PQ,BV,cT,cR,f231,cp]
def ahR(M:Nat)(cr:Bool)(l:List Gp)(cq rn:List LA)(vr:ByteArray)(hq:cq.length=l.length)(hg:∀i:Nat,cq[i]?=(l[i]?).map dE)(hl:l.length<=10^9)(fr:LA)(h:Hp)(cp:fr.length=73)(g1:gt fr 1=cr)(g2:gt fr 2= .pt 0 0)(hh:h[0]?=some (.row [vr,.ls 3 rn false,.ls 7 cq false])):
 PQ (M (.seq (cL (cT 5 BV)) (cT 6 BV)) (fr,h)) (if(cr && l.any yG)=true then 1 else 0):=by
 have s6:=ahQ M;generalize cT 6 BV=Z at s6|-;generalize hT:(cr && l.any yG)=T;simp[BV,cT,cR,cL,f231];generalize cU:M (.loop _) _=XX;refine gk cU
  (λi st cD=>(cr && (l.drop i).any yG)=T/\st.length=73/\gt st 1=cr/\gt st 2= .pt 0 0/\gt st 10=i/\cD[0]?=some (.row [vr,.ls 3 rn false,.ls 7 cq false]))
  (λo st _=>st.length=73/\((o= .exit 4/\T=false)\/(o= .ret/\T=true/\gt st 4=(1:Int))))
  l.length (by simp;omega) ⟨hT,by simp[cp],by simp[g1],by simp[g2],by simp[cp],hh⟩ ?_ ?_
 .clear cU XX cp g1 g2 hh hT s6;rintro i fr hp cP ⟨hT,cp,g1,g2,g7,hh⟩;rcases dY hg cP with⟨x,hi,hx,hr,cC⟩|rfl
  .have fH:i<=10^15:=by omega
   rw[nY hx,show yG x= !(decide (x.mode=0) && (decide (x.types.length=1) && !decide (x.dir=3)))from rfl]at hT;have hp0:0<hp.length:=(Za.1 hh).1;have JL:∀b:eV,(hp++[b])[0]?=some (.row [vr,.ls 3 rn false,.ls 7 cq false]):=λb=>by rw[Zd hp0];exact hh
   have U0:∀(b:eV)k,(hp++[b])[0]'k= .row [vr,.ls 3 rn false,.ls 7 cq false]:=λb k=>by obtain⟨_,e⟩:=Za.1 (JL b);exact e
   unfold dE at hr cC;have M_:=cI x.types;generalize eE x.types=tl at *;obtain⟨q,U1⟩:∃q:Int,(tl.length:Int)=q:=⟨_,rfl⟩;have Aq:x.types.length=1↔q=1:=by omega
   simp only[Aq]at hT;clear Aq M_;generalize hTi:(l.drop (i+1)).any yG=Ti at hT|-;have hf:=cz fH;cases cr
   .simp only[Bool.false_and]at hT;simp[cp,g1,g2,g7,hh,U0,hi,hq,cC,hf,A5];exact hT.symm
   simp only[Bool.true_and]at hT;by_cases m0:x.mode=0
   .by_cases q1:q=1
    .by_cases d3:x.dir=3
     .simp only[m0,q1,d3,decide_true,Bool.not_true,Bool.and_false,Bool.not_false,Bool.true_or]at hT;subst hT;simp[cp,g1,g2,g7,hh,hi,hq,cC,U1,A5,m0,q1,d3]
     .simp only[m0,q1,d3,decide_true,decide_false,Bool.not_false,Bool.and_true,Bool.not_true,Bool.false_or]at hT;subst hT;simp[cp,g1,g2,g7,hh,U0,hi,hq,cC,hf,U1,A5,m0,q1,d3];exact hTi
    .simp only[m0,q1,decide_true,decide_false,Bool.false_and,Bool.and_false,Bool.not_false,Bool.true_or]at hT;subst hT;simp[cp,g1,g2,g7,hh,hi,hq,cC,U1,A5,m0,q1]
   .simp only[m0,decide_false,Bool.false_and,Bool.not_false,Bool.true_or]at hT;subst hT;simp[cp,g1,g2,g7,hh,hi,hq,cC,A5,m0]
  .rw[Yc,List.any_nil,Bool.and_false]at hT;subst hT;simp[cp,g2,g7,hh,hq]
 .rintro o cG h' rfl ⟨cp,⟨rfl,rfl⟩|⟨rfl,rfl,g4⟩⟩
  .simp;exact s6 _ _ cp
  .simp[PQ,g4]
def ahS(M:Nat)(cr:Bool)(V:Int)(E:List Ep)(row:LA)(Z:Code)(hl:E.length<=10^9)(fx:∀e∈E,∀b h,cu cx M b 163 [.ag (cM e)] h=some (.sc (.bool (mG e)),h))(s5:∀fr h,fr.length=73->gt fr 1= .sc (.bool cr)->gt fr 2= .pt 0 0->h[0]?=some (.row row)->PQ (M Z (fr,h)) V)(fr:LA)(h:Hp)(cp:fr.length=73)(g1:gt fr 1=cr)(g2:gt fr 2= .pt 0 0)(g6:gt fr 6= .ls 9 (cZ E) false)(hh:h[0]?=some (.row row)):
 PQ (M (.seq (cL (cT 4 BV)) Z) (fr,h)) (if M6 E=true then 9 else V):=by
 have hq:=cX E;have hg:=eM E;generalize cZ E=cq at *;unfold M6;generalize hT:E.any mG=T;simp[BV,cT,cR,cL,f231];generalize cU:M (.loop _) _=XX;refine gk cU
  (λi st cD=>(E.drop i).any mG=T/\st.length=73/\gt st 1=cr/\gt st 2= .pt 0 0/\gt st 6= .ls 9 cq false/\gt st 9=i/\cD[0]?=some (.row row))
  (λo st cD=>st.length=73/\((o= .exit 2/\T=false/\gt st 1=cr/\gt st 2= .pt 0 0/\cD[0]?=some (.row row))\/(o= .ret/\T=true/\gt st 4=(9:Int))))
  E.length (by simp;omega) ⟨hT,by simp[cp],by simp[g1],by simp[g2],by simp[g6],by simp[cp],hh⟩ ?_ ?_
 .clear cU XX cp g1 g2 g6 hh hT s5;rintro i fr hp cP ⟨hT,cp,g1,g2,g6,g7,hh⟩;rcases dY hg cP with⟨x,hi,hx,hr,cC⟩|rfl
  .have fH:i<=10^15:=by omega
   rw[nY hx]at hT;have ae:=fx x (Zi hx);have dH:=cB x;generalize cM x=ev at *;have dJ:ev.take 9=ev:=Yy (by omega);generalize mG x=w at ae hT;have hf:=cz fH;cases w
   .rw[Bool.false_or]at hT;simp[cp,g1,g2,g6,g7,hi,hq,cC,hf,ae,dH,dJ];exact⟨by simpa using hT,hh⟩
   .rw[Bool.true_or]at hT;subst hT;simp[cp,g6,g7,hi,hq,cC,ae,dH,dJ]
  .rw[Yc,List.any_nil]at hT;subst hT;simp[cp,g1,g2,g6,g7,hq];exact hh
 .rintro o cG h' rfl ⟨cp,⟨rfl,rfl,g1,g2,hh⟩|⟨rfl,rfl,g4⟩⟩
  .rw[cv (by simp)];simp;exact s5 _ _ cp g1 g2 hh
  .simp[PQ,g4]
def Sv{l:List Ep}{i:Nat}{x:Ep}(h:l[i]?=some x):t_ (l.drop i)=if fM x=0 then t_ (l.drop (i+1))else fM x:=by
 rw[cH h];unfold t_;rw[Yn,dy]
def ahT(M:Nat)(cr:Bool)(V:Int)(E:List Ep)(row:LA)(Z:Code)(hl:E.length<=10^9)(fx:∀e∈E,∀b h,cu cx M b 232 [.ag (cM e)] h=some (.sc (.int .i64 (fM e)),h))(s5:∀fr h,fr.length=73->gt fr 1= .sc (.bool cr)->gt fr 2= .pt 0 0->gt fr 6= .ls 9 (cZ E) false->h[0]?=some (.row row)->PQ (M Z (fr,h)) V)(fr:LA)(h:Hp)(cp:fr.length=73)(g1:gt fr 1=cr)(g2:gt fr 2= .pt 0 0)(g6:gt fr 6= .ls 9 (cZ E) false)(hh:h[0]?=some (.row row)):
 PQ (M (.seq (cL (cT 3 BV)) Z) (fr,h)) (if t_ E=0 then V else t_ E):=by
 have hq:=cX E;have hg:=eM E;generalize cZ E=cq at *;generalize hT:t_ E=T;simp[BV,cT,cR,cL,f231];generalize cU:M (.loop _) _=XX;refine gk cU
  (λi st cD=>t_ (E.drop i)=T/\st.length=73/\gt st 1=cr/\gt st 2= .pt 0 0/\gt st 6= .ls 9 cq false/\gt st 7=i/\cD[0]?=some (.row row))
  (λo st cD=>st.length=73/\((o= .exit 0/\T=0/\gt st 1=cr/\gt st 2= .pt 0 0/\gt st 6= .ls 9 cq false/\cD[0]?=some (.row row))\/(o= .ret/\T≠0/\gt st 4=T)))
  E.length (by simp;omega) ⟨hT,by simp[cp],by simp[g1],by simp[g2],by simp[g6],by simp[cp],hh⟩ ?_ ?_
 .clear cU XX cp g1 g2 g6 hh hT s5;rintro i fr hp cP ⟨hT,cp,g1,g2,g6,g7,hh⟩;rcases dY hg cP with⟨x,hi,hx,hr,cC⟩|rfl
  .have fH:i<=10^15:=by omega
   rw[Sv hx]at hT;have ae:=fx x (Zi hx);have dH:=cB x;generalize cM x=ev at *;have dJ:ev.take 9=ev:=Yy (by omega);generalize fM x=w at ae hT;have hf:=cz fH;by_cases w0:w=0
   .rw[cw w0]at hT;subst w0;simp[cp,g1,g2,g6,g7,hi,hq,cC,hf,ae,dH,dJ];exact⟨hT,hh⟩
   .rw[cv w0]at hT;subst hT;simp[cp,g6,g7,hi,hq,cC,ae,dH,dJ,w0]
  .rw[Yc,show t_ []=0 from rfl]at hT;subst hT;simp[cp,g1,g2,g6,g7,hq];exact hh
 .rintro o cG h' rfl ⟨cp,⟨rfl,rfl,g1,g2,g6,hh⟩|⟨rfl,w0,g4⟩⟩
  .rw[cw rfl];simp;exact s5 _ _ cp g1 g2 g6 hh
  .rw[cv w0];simp[PQ,g4]
def ahU(M:Nat)(cr:Bool)(V sh:Int)(E:List LA)(row:LA)(lj:row.length=3)(Z:Code)(ae:∀b h,cu cx M b 284 [.ag row] h=some ((sh:AV),h))(af:∀b h,cu cx M b 26 [.ag row] h=some (.ls 9 E false,h))(s5:∀fr h,fr.length=73->gt fr 1= .sc (.bool cr)->gt fr 2= .pt 0 0->gt fr 6= .ls 9 E false->h[0]?=some (.row row)->PQ (M Z (fr,h)) V)(fr:LA)(cp:fr.length=73)(g0:gt fr 0= .ag row)(g1:gt fr 1=cr):
 PQ (M (.seq (cL (cT 0 BV)) (.seq (cL (cT 1 BV)) (.seq (cL (cT 2 BV)) Z))) (fr,[])) (if sh=0 then V else sh):=by
 obtain⟨a,b,c,rfl⟩:∃a b c,row=[a,b,c]:=by
  match row,lj with
  | [a,b,c],_=>exact⟨_,_,_,rfl⟩
 by_cases h0:sh=0
 .subst h0;rw[cw rfl];simp[BV,cT,cR,cL,f231,cp,g0,ae,af];exact s5 _ _ (by simp[cp]) (by simp[g1]) (by simp[cp]) (by simp[cp]) (by simp)
 .rw[cv h0];simp[BV,cT,cR,cL,f231,cp,g0,ae,h0,PQ]
def mV(p:Tp)(create:Bool):Int:=if xp p=0 then vL p create (c9 p.nodes p.cE)else xp p
def Co(D d n:Nat)(b:Bool)(p:Tp)(cr:Bool)(h:Hp)(hb:bdT D d p)(he:(eo (c9 p.nodes p.cE)).length<=10^9)(hn:2*D+3*d+20<=n):cu cx n b 231 [.ag (dW p),cr] h=some (.sc (.int .i64 (mV p cr)),h):=by
 obtain⟨M,rfl⟩:∃M,n=M+1:=⟨n-1,by omega⟩;refine fU f231 [.tmp 4] rfl rfl ?_ b h;have hE:∀e∈eo (c9 p.nodes p.cE),lE e<=d/\ke D e:=λe he=>by
  unfold eo at he;obtain⟨x,hx,h1⟩:=List.mem_flatMap.1 he;obtain⟨q,hq,rfl⟩:=Yf.1 h1;exact(s9 hb.1 hb.2.1 x hx).2.2 q hq
 obtain⟨k0,e0⟩:∃k,M=k+5:=⟨M-5,by omega⟩;obtain⟨k1,e1⟩:∃k,M=k+1:=⟨M-1,by omega⟩;obtain⟨k2,e2⟩:∃k,M=k+2*D+9+d:=⟨M-2*D-9-d,by omega⟩;obtain⟨k3,e3⟩:∃k,M=k+d+1:=⟨M-d-1,by omega⟩;have ae:=λb h=>N4 k0 D d b p h hb
 have af:=λb h=>J8 k1 p hb.2.2.1 he b h
 have ah:∀e∈eo (c9 p.nodes p.cE),∀b h,cu cx M b 232 [.ag (cM e)] h=some (.sc (.int .i64 (fM e)),h):=λe he b h=>by rw[e2];exact pw k2 D d b e h (hE e he).1 (hE e he).2
 have ai:∀e∈eo (c9 p.nodes p.cE),∀b h,cu cx M b 163 [.ag (cM e)] h=some (.sc (.bool (mG e)),h):=λe he b h=>by rw[e3];exact Ai D d e (hE e he).1 (hE e he).2 k3 b h
 rw[<-e0]at ae;rw[<-e1]at af;have key:∀r v,PQ r v->(dT [.tmp 4] r).map Prod.fst=some (.sc (.int .i64 v)):=λr v ⟨h',e⟩=>by rw[e];rfl
 refine key _ _ ?_;have yN:(f231.body).getD .skip= .seq (cL (cT 0 BV)) (.seq (cL (cT 1 BV)) (.seq (cL (cT 2 BV)) (.seq (cL (cT 3 BV)) (.seq (cL (cT 4 BV)) (.seq (cL (cT 5 BV)) (cT 6 BV)))))):=by kernel_rfl
 rw[yN];unfold mV vL Q2;refine ahU M cr _ _ _ (dW p) rfl _ ae af ?_ _ (by simp) rfl rfl;refine ahT M cr _ _ _ _ he ah ?_;intro fr h cp g1 g2 g6 hh;exact ahS M cr _ _ (dW p) _ he ai (λfr h cp g1 g2 hh=>ahR M cr p.cE (nD p.cE) (gZ p.nodes) p.var (fL _) (kW _) hb.2.2.2 fr h cp g1 g2 hh) fr h cp g1 g2 g6 hh
end
end Go.Proofs.YtmocfjnklfpnbaaGreatDoor
