/- Part of the proof. -/
import Derived.Test.YtmocfjnklfpnbaaGreatDoorP31
set_option linter.all false
set_option maxHeartbeats 32000000
set_option maxRecDepth 100000
namespace Go.Proofs.YtmocfjnklfpnbaaGreatDoor
open Go Go.Ae Go.Proofs.Tryz
section
attribute [local simp] ew eY
def Mj{ev:LA}(h:ev.length=8)(a b c d e f g i:AV):cF [a,b,c,d,e,f,g,i] 0 ev=ev:=by
 unfold cF;rw[List.take_zero,Zw,Xk,h];simp
def Bn(l:List Pr)(x:Pr):gN (l++[x])=gN l++[eQ x]:=by simp[gN]
def Te(n:Nat)(b:Bool)(l:List Pr)(p:Pr)(h:Hp)(hl:l.length<=10^8)(fo:∀x∈l,∀t h,cu cx n t 24 [.ag (eQ x),.ag (eQ p)] h=some (.sc (.int .i64 (dx x p)),h)):cu cx (n+1) b 55 [.ls 8 (gN l) false,.ag (eQ p)] h=some (.ls 8 (gN (cQ l p)) false,h):=by
 have dL:[AV.ls 8 (gN l) false,AV.ag (eQ p)].all calm=true:=by
  have:=rT p;unfold uw at this;rw[Zn,Zn,this];rfl
 refine XQ f55 [.tmp 4] dL ?_ b h;clear dL;have hq:=ef l;have hg:=EH l;have oy:=eI p;have tp:(eQ p).take 8=eQ p:=Yy (by omega);have U8:=Xv (p:=λx=>decide (dx x p<0)) (l:=l);unfold cQ;have hep:∃ep,eQ p=ep:=⟨_,rfl⟩;generalize hW:l.takeWhile (λx=>decide (dx x p<0))=W,hV:l.dropWhile (λx=>decide (dx x p<0))=V at U8;generalize gN l=cq at hq hg;simp[f55,oy];generalize cU:n (.loop _) _=XX;refine gk cU (λi st cD=>l.take i++(l.drop i).takeWhile (λx=>decide (dx x p<0))=W/\(l.drop i).dropWhile (λx=>decide (dx x p<0))=V/\st.length=54/\gt st 0= .ls 8 cq false/\gt st 3= .pt 0 0/\gt st 6=i/\cD[0]?=some (.row (eQ p))/\∃y,gt st 5=y/\ka cD 8 (gN (l.take i)) y/\∀k m,y= .sl k 8 0 m false->0≠k)
  (λo st cD=>o= .exit 0/\st.length=54/\gt st 0= .ls 8 cq false/\gt st 3= .pt 0 0/\gt st 6=W.length/\cD[0]?=some (.row (eQ p))/\∃y,gt st 5=y/\ka cD 8 (gN W) y/\∀k m,y= .sl k 8 0 m false->0≠k) l.length (by simp;omega) ⟨by simpa using hW,by simpa using hV,by simp,by simp,by simp,by simp,by simp,_,rfl,.inl ⟨rfl,by simp⟩,λk m e=>(by cases e)⟩ ?_ ?_
 .clear cU XX hW hV;rintro i fr hp cP ⟨hW,hV,cp,h0,h1,h6,yN,y,h5,hy,my⟩;have abT:=dh yN;rcases dY hg cP with⟨x,hi,hx,hr,cC⟩|rfl
  .have ae:=fo x (Zi hx);rw[cH hx]at hW hV;rw[List.takeWhile_cons]at hW;rw[List.dropWhile_cons]at hV;have Bk:=eI x;have tx:(eQ x).take 8=eQ x:=Yy (by omega);have q3:=akN (λv=>hy.np v)
   by_cases hw:dx x p<0
   .rw[cw (by simpa using hw)]at hW hV;have iB:(l.take i).length<=10^9:=by rw[Xa];omega
    obtain⟨lB,h4,b1,b2,b3,b4⟩:=iy (t:=27) El rfl hp (eQ x) (gN (l.take i)) y hy Bk (lM _) (by omega) (by rw[ef];exact iB) (by omega);rw[ef]at b1;have g4:=b3 0 _ yN my;have gE:0≠lB:=by
     have:=(Za.1 yN).1;omega
    have dO:l.take (i+1)=l.take i++[x]:=jX hx;have jT:=λa b c d e f g i=>Mj Bk a b c d e f g i
    generalize hF:l.take i=F at b1 b2 dO;have hBn:ka h4 8 (gN (l.take (i+1))) (.sl lB 8 0 (F.length+1) false):=by
     rw[dO,Bn];exact .inr ⟨by simp,lB,by simp[ef],by rw[b2]⟩
    have hW':l.take (i+1)++(l.drop (i+1)).takeWhile (λx=>decide (dx x p<0))=W:=by rw[<-hW,dO,hF,Zp];rfl
    have hf:dA .i64 ((i:Int)+1)=((i+1:Nat):Int):=cK (by omega) (by omega);generalize dx x p=c at ae hw;generalize eQ x=ex,eQ p=ep at *;clear b2 b3 b4 hy hF dO;simp[cp,h0,h1,h5,h6,yN,q3,hi,hq,cC,hw,ae,jT,Bk,oy,tx,tp,b1,hf];exact⟨hW',hV,g4,hBn,gE⟩
   .rw[cv (by simpa using hw)]at hW hV;rw[Yk]at hW;have hWl:W.length=i:=by rw[<-hW,Xa];omega
    generalize dx x p=c at ae hw;generalize eQ x=ex,eQ p=ep at *;simp[cp,h0,h1,h5,h6,yN,hi,hq,cC,hw,ae,Bk,oy,tx,tp];rw[hWl,<-hW];exact⟨rfl,hy,my⟩
  .rw[Xq]at hy hW;rw[Yc]at hW hV;simp only[List.takeWhile_nil,Yk]at hW;subst hW;simp[cp,h0,h1,h6,hq,yN];rw[h5];exact⟨hy,my⟩
 .rintro o fr h' rfl ⟨rfl,cp,h0,h1,h6,yN,y,h5,hy,my⟩;have abT:=dh yN;have q3:=akN (λv=>hy.np v)
  have hWl:W.length+V.length=l.length:=by rw[<-U8,Zu]
  have mZ:=λa b c d e f g i=>Mj oy a b c d e f g i
  obtain⟨lB,h4,b1,b2,b3,b4⟩:=iy (t:=27) El rfl h' (eQ p) (gN W) y hy oy (lM _) (by omega) (by rw[ef];omega) (by omega);rw[ef]at b1;have g4:=b3 0 _ yN my;have gE:0≠lB:=by
   have:=(Za.1 yN).1;omega
  have XG:ka h4 8 (gN (W++[p])) (.sl lB 8 0 (W.length+1) false):=by
   rw[Bn];exact .inr ⟨by simp,lB,by simp[ef],by rw[b2]⟩
  have hgV:∀j:Nat,cq[W.length+j]?=(V[j]?).map eQ:=λj=>by
   rw[hg,<-U8,Zf (by omega),Nat.add_sub_cancel_left]
  have lj:cq.length=W.length+V.length:=by rw[hq,hWl]
  have foV:∀x∈V,∀t h,cu cx n t 24 [.ag (eQ x),.ag (eQ p)] h=some (.sc (.int .i64 (dx x p)),h):=λx hx=>fo x (by rw[<-U8];exact Zk _ hx)
  have hlW:W.length<=l.length:=by omega
  clear hW hV hg hq fo b2 b3 b4;simp[cp,h1,h5,yN,q3,mZ,oy,tp,b1];clear q3 b1 hy;generalize W.length=w0 at *;generalize cU:n (.loop _) _=XX;refine gk cU (λj st cD=>st.length=54/\gt st 0= .ls 8 cq false/\gt st 3= .pt 0 0/\gt st 6= .sc (.int .i64 ((w0+j:Nat):Int))/\cD[0]?=some (.row (eQ p))/\∃y,gt st 5=y/\ka cD 8 (gN (W++p::(V.take j).filter λx=> !decide (dx x p=0))) y/\∀k m,y= .sl k 8 0 m false->0≠k)
   (λo st cD=>o= .exit 2/\st.length=54/\∃y,gt st 5=y/\ka cD 8 (gN (W++p::V.filter λx=> !decide (dx x p=0))) y) V.length (by simp;omega) ⟨by simp[cp],by simp[h0],by simp[h1],by simp[h6],g4,.sl lB 8 0 (w0+1) false,by simp[cp],by simpa using XG,λk m e=>by(injection e with e;rw[<-e];exact gE)⟩ ?_ ?_
  .clear cU XX XG h0 h1 h5 h6 cp yN abT my;rintro j fr hp cP ⟨cp,h0,h1,h6,yN,y,h5,hy,my⟩;have abT:=dh yN;by_cases hj:j<V.length
   .obtain⟨x,hx,hr,cC⟩:∃x,V[j]?=some x/\cq[w0+j]?=some (eQ x)/\∀k,cq[w0+j]'k=eQ x:=by
     refine⟨V[j],Zb hj,?_,λk=>?_⟩
     .rw[hgV,Zb hj];rfl
     .have:=hgV j;rw[Zb k,Zb hj]at this;exact Option.some.inj this
    have ae:=foV x (Zi hx);have Bk:=eI x;have tx:(eQ x).take 8=eQ x:=Yy (by omega);have jT:=λa b c d e f g i=>Mj Bk a b c d e f g i
    have du:w0+j<cq.length:=by omega
    have q3:=akN (λv=>hy.np v)
    have iB:(W++p::(V.take j).filter λx=> !decide (dx x p=0)).length<=10^9:=by
     rw[Zu,Ys];have h1:=List.length_filter_le (λx=> !decide (dx x p=0)) (V.take j);rw[Xa]at h1;have:W.length<=l.length:=by rw[<-U8,Zu];omega
     omega
    have dO:V.take (j+1)=V.take j++[x]:=jX hx;have hwj:w0+(j+1)=w0+j+1:=by omega
    have hf:dA .i64 (((w0+j:Nat):Int)+1)=((w0+(j+1):Nat):Int):=cK (by omega) (by omega);have E4:(V.take (j+1)).filter (λx=> !decide (dx x p=0))=(V.take j).filter (λx=> !decide (dx x p=0))++if dx x p=0 then[]else[x]:=by
     rw[dO,List.filter_append];by_cases hw:dx x p=0<;>simp[hw]
    generalize(V.take j).filter (λx=> !decide (dx x p=0))=F at *;by_cases hw:dx x p=0
    .rw[cw hw,Yk]at E4;rw[hw]at ae;generalize eQ x=ex,aiK:w0+j=wj at *;have hBf:ka hp 8 (gN (W++p::(V.take (j+1)).filter λx=> !decide (dx x p=0))) y:=by rw[E4];exact hy
     simp[cp,h0,h1,h5,h6,yN,du,cC,ae,Bk,oy,tx,tp,hf];exact⟨hj,hBf,my⟩
    .rw[cv hw]at E4;obtain⟨lB,h4,b1,b2,b3,b4⟩:=iy (t:=27) El rfl hp (eQ x) (gN (W++p::F)) y hy Bk (lM _) (by omega) (by rw[ef];exact iB) (by omega);rw[ef]at b1;have g4:=b3 0 _ yN my;have gE:0≠lB:=by
      have:=(Za.1 yN).1;intro e;rw[<-e]at b4;exact absurd (Nat.lt_of_lt_of_le this b4) (Nat.lt_irrefl 0)
     have hBf:ka h4 8 (gN (W++p::(V.take (j+1)).filter λx=> !decide (dx x p=0))) (.sl lB 8 0 ((W++p::F).length+1) false):=by
      rw[E4,show W++p::(F++[x])=(W++p::F)++[x] by simp,Bn];exact .inr ⟨by simp,lB,by simp[ef],by rw[b2]⟩
     generalize(W++p::F).length=om at *;generalize dx x p=c at ae hw;generalize eQ x=ex,aiK:w0+j=wj at *;simp[cp,h0,h1,h5,h6,yN,q3,du,cC,hw,ae,jT,Bk,oy,tx,tp,b1,hf];exact⟨hj,g4,hBf,gE⟩
   .have lD:j=V.length:=Yb cP (Ya hj);subst lD;rw[Xq]at hy;simp[cp,h0,h6,lj];rw[h5];exact hy
  .rintro o cG h' rfl ⟨rfl,cp,y,h5,hy⟩;have jx:=gf (n:=7) (by omega) (lM _) (pU _) hy;have q3:=akN (λv=>hy.np v)
   simp[cp,h5,q3];refine⟨_,_,⟨rfl,rfl⟩,_,jx,kT _ _⟩
def Tf(n:Nat)(b:Bool)(p:Pr)(h:Hp):cu cx (n+1) b 55 [(),.ag (eQ p)] h=some (.ls 8 (gN (cQ [] p)) false,h):=by
 have dL:[AV.sc (.slice none 0 0),AV.ag (eQ p)].all calm=true:=by
  have:=rT p;unfold uw at this;rw[Zn,Zn,this];rfl
 refine XQ f55 [.tmp 4] dL ?_ b h;clear dL;have oy:=eI p;have tp:(eQ p).take 8=eQ p:=Yy (by omega);have mZ:=λa b c d e f g i=>Mj oy a b c d e f g i
 simp[f55,oy];generalize cU:n (.loop _) _=XX;refine gk cU (λi st cD=>cD=[.row (eQ p)]/\st.length=54/\gt st 0=()/\gt st 3= .pt 0 0/\gt st 5=()/\gt st 6=(0:Int)) (λo st cD=>cD=[.row (eQ p)]/\o= .exit 0/\st.length=54/\gt st 0=()/\gt st 3= .pt 0 0/\gt st 5=()/\gt st 6=(0:Int)) 0 (by simp) ⟨by simp,by simp⟩ ?_ ?_
 .rintro i fr hp cP ⟨hh,cp,h0,h3,h5,h6⟩;simp[hh,cp,h0,h3,h5,h6]
 .rintro o fr h' rfl ⟨hh,rfl,cp,h0,h3,h5,h6⟩;subst hh;obtain⟨lB,h4,b1,b2,b3,b4⟩:=iy (t:=27) El rfl [.row (eQ p)] (eQ p) [] (.sc (.slice none 0 0)) (.inl ⟨rfl,rfl⟩) oy (λr hr=>by cases hr) (by omega) (by simp) (by omega);have XG:ka h4 8 (gN [p]) (.sl lB 8 0 1 false):= .inr ⟨by simp[gN],lB,by simp[gN],b2⟩;rw[List.length_nil,Xk]at b1;rw[List.singleton_append,List.length_singleton]at b1;simp[cp,h3,h5,mZ,oy,tp,b1];clear b1 b2 b3 b4;generalize cU:n (.loop _) _=XX;refine gk cU (λi st cD=>cD=h4/\st.length=54/\gt st 0=()/\gt st 5= .sl lB 8 0 1 false/\gt st 6=(0:Int)) (λo st cD=>cD=h4/\o= .exit 2/\st.length=54/\gt st 5= .sl lB 8 0 1 false) 0 (by simp) ⟨by simp,by simp[cp,h0,h6]⟩ ?_ ?_
  .rintro i fr hp cP ⟨hh,cp,h0,h5,h6⟩;simp[hh,cp,h0,h5,h6]
  .rintro o cG h' rfl ⟨hh,rfl,cp,h5⟩;subst hh;have jx:=gf (n:=7) (by omega) (lM _) (pU _) XG;simp[cp,h5];exact qW ⟨_,jx,kT 8 (gN [p])⟩
end
def Dz :∀(l:List Pr){K:List Pr},kC K->kC (l.foldl cQ K)
 | [],K,h=>h
 |p::l,K,h=>Dz l (Td p h)
def xG(x:Pr):∀(l K:List Pr),x∈l.foldl cQ K->x∈l\/x∈K
 | [],K,h=> .inr h
 |
  p::l,K,h=>by
  rcases xG x l (cQ K p) h with h|h
  .exact .inl (Yr _ h)
  .rcases Tc K p x h with rfl|h
   .exact .inl (List.mem_cons_self ..)
   .exact .inr h
def DA :∀(l K:List Pr)(x:Pr),(∃y,(y∈l\/y∈K)/\dx x y=0)->∃y∈l.foldl cQ K,dx x y=0
 |
  [],K,x,⟨y,h,e⟩=>by
  rcases h with h|h
  .simp at h
  .exact⟨y,h,e⟩
 |
  p::l,K,x,⟨y,h,e⟩=>by
  refine DA l (cQ K p) x ?_;rcases h with h|h
  .rcases Yv.1 h with rfl|h
   .exact⟨y,.inr (Dy K y),e⟩
   .exact⟨y,.inl h,e⟩
  .rcases On K p y h with h|h
   .exact⟨y,.inr h,e⟩
   .have a1:=wy (show dx x y<=0 by omega) (show dx y p<=0 by omega);have a2:=wy (show dx p y<=0 by have:=jS p y;omega) (show dx y x<=0 by have:=jS y x;omega);have a3:=jS x p;exact⟨p,.inr (Dy K p),by omega⟩
def fV :∀(l K:List Pr),(l.foldl cQ K).length<=K.length+l.length
 | [],K=>by simp
 |
  p::l,K=>by
  rw[Yi];have h1:=fV l (cQ K p);have h2:=lU K p;rw[Ys];omega
section
attribute [local simp] ew eY
def fQ(K:List Pr)(y:AV):Prop:=y= .ls 8 (gN K) false\/(K=[]/\y=())
def fQ.np{K:List Pr}{y:AV}(h:fQ K y):∀v,y≠ .pn v:=λv=>by rcases h with rfl|⟨_,rfl⟩<;>simp
def fQ.calm{K:List Pr}{y:AV}(h:fQ K y):Ae.calm y=true:=by rcases h with rfl|⟨_,rfl⟩<;>rfl
def fQ.nf{K:List Pr}{y:AV}(h:fQ K y):wZ 8 y= .ls 8 (gN K) false:=by
 rcases h with rfl|⟨rfl,rfl⟩
 .simp[wZ]
 .rfl
def fQ.ls(K:List Pr):fQ K (.ls 8 (gN K) false):= .inl rfl
def fQ.nil :fQ [] (.sc (.slice none 0 0)):= .inr ⟨rfl,rfl⟩
def iY{α:Type}{l:List α}{j:Nat}{b:α}(hj:l[j]?=some b):∀k,l[j]'k=b:=λkx=>by obtain⟨_,e⟩:=Za.1 hj;exact e
def fS{D:Nat}{l K:List Pr}(h1:gP D l)(h2:gP D K):gP D (l.foldl cQ K):=λp hp=>by
 rcases xG p l K hp with h|h
 .exact h1 p h
 .exact h2 p h
def HX(D n:Nat)(b:Bool)(K:List Pr)(y:AV)(p:Pr)(h:Hp)(hy:fQ K y)(hl:K.length<=10^8)(gK:gP D K)(gp:kj p.v<=D/\oK p.v)(hn:3*D+9<=n):cu cx n b 55 [y,.ag (eQ p)] h=some (.ls 8 (gN (cQ K p)) false,h):=by
 obtain⟨m,rfl⟩:∃m,n=m+3*D+8+1:=⟨n-3*D-9,by omega⟩;have fo:∀x∈K,∀t h,cu cx (m+3*D+8) t 24 [.ag (eQ x),.ag (eQ p)] h=some (.sc (.int .i64 (dx x p)),h):=λx hx t h=>Hr m D x p (gK x hx) gp t h
 rcases hy with rfl|⟨rfl,rfl⟩
 .exact Te _ b K p h hl fo
 .exact Tf _ b p h
def jh(D n:Nat)(b:Bool)(K:List Pr)(y:AV)(k:Int)(nm:ByteArray)(h:Hp)(hy:fQ K y)(hl:K.length<=10^8)(gK:gP D K)(hD:1<=D)(hn:3*D+9<=n):cu cx n b 55 [y,.ag [k,nm,.sc (.string ⟨#[]⟩),(0:Int),(0:Int),(0:Int),.sc (.string ⟨#[]⟩),()]] h=some (.ls 8 (gN (cQ K (ij k nm))) false,h):=by
 have:=HX D n b K y (ij k nm) h hy hl gK (jk hD k nm _ (by simp)) hn
 rwa [G2]at this
def RP(s:Tmp)(T:List Pr)(r:Option (Out × St)):Prop:=∃r0 h',dT [.tmp s] r=some (r0,h')/\∃r',da h' 8 r0=some r'/\wZ 8 r'= .ls 8 (gN T) false
def RP.of{T:List Pr}{y:AV}{h:Hp}(hy:fQ T y):∃r',da h 8 y=some r'/\wZ 8 r'= .ls 8 (gN T) false:=⟨y,iE (n:=6) hy.calm,hy.nf⟩
noncomputable def Fa :Code:=(f53.body).getD .skip
def mL(D:Nat)(hD:1<=D):∀(d:Nat)(e:Ep),lE e<=d->ke D e->∀(n:Nat)(t:Bool)(K:List Pr)(y:AV)(h:Hp),fQ K y->gP D K->K.length+2*dc e<=100000000->3*D+10<=n->cu cx (n+d+1) t 53 [y,.ag (cM e)] h=some (.ls 8 (gN ((ja e).foldl cQ K)) false,h):=by
 intro d
 induction d with
 |zero=>intro e h;have:=jU e;omega
 |succ d ih=>
  intro e de be n t K y h hy gK hl hn;rw[show n+(d+1)+1=n+d+1+1 by omega];refine XQ (n:=n+d+1) f53 [.tmp 4] (by rw[Zn,Zn,hy.calm,dR];rfl) ?_ t h;have ho:=λx hx=>ih x (kU de hx) (mQ be hx) n
  obtain⟨op,v,nm,ds,ks⟩:=e;simp only[Ep.ks]at ho;rw[dc]at hl;obtain⟨k,n',d',s,lv,rfl,hs,qg⟩:=Jz be;rw[jO rfl,ja];have hq:=cX ks;have hg:=eM ks;generalize cZ ks=cq at hq hg|-;generalize fj lv=r5;have fa:=λb(K:List Pr)y k nm h hy hl gK=>jh D (n+d+1) b K y k nm h hy hl gK hD (by omega)
  generalize n+d+1=M at ho fa|-;have loop:∀(K:List Pr)(y:AV)(fr:LA),fQ K y->gP D K->K.length+2*iA ks<=100000000->fr.length=73->gt fr 0=y->gt fr 3= .pt 0 0->RP 4 ((mS ks).foldl cQ K) (M (cT 5 Fa) (fr,[.row [op,k,n',d',s,.ls 5 r5 false,nm,ds,.ls 9 cq false]])):=by
   intro K y fr hy gK hl cp g0 g3;simp[Fa,cT,cR,f53];generalize cU:M (.loop _) _=XX,hT:(mS ks).foldl cQ K=T;generalize hE:[eV.row [op,k,n',d',s,.ls 5 r5 false,nm,ds,.ls 9 cq false]]=E at *;have e0:E[0]?=some (.row [op,k,n',d',s,.ls 5 r5 false,nm,ds,.ls 9 cq false]):=by rw[<-hE];rfl
   have e0':=dh e0;clear hE;refine gk cU
    (λi st cD=>cD=E/\st.length=73/\gt st 3= .pt 0 0/\gt st 5=i/\∃K',fQ K' (gt st 0)/\gP D K'/\K'.length+2*iA (ks.drop i)<=100000000/\(mS (ks.drop i)).foldl cQ K'=T)
    (λo st cD=>o= .exit 0/\cD=E/\st.length=73/\fQ T (gt st 0))
    ks.length (by simp;omega) ⟨rfl,by simp[cp],by simp[g3],by simp[cp],K,by simp[g0];exact hy,gK,hl,hT⟩ ?_ ?_
   .clear cU XX hT hy gK hl cp g0 g3 K y;rintro i fr hp cP ⟨hh,cp,g3,g5,K,hy,gK,hl,hT⟩;subst hh;generalize g0:gt fr 0=y at hy;have q3:=akN hy.np
    rcases dY hg cP with⟨x,hi,hx,hr,cC⟩|rfl
    .have fH:i<=10^15:=Yj cP qg;rw[cH hx,iA]at hl;rw[cH hx,mS,Xu]at hT;have ae:=λb h=>ho x (Zi hx) b K y h hy gK (by omega) hn
     have iF:((ja x).foldl cQ K).length+2*iA (ks.drop (i+1))<=100000000:=by have:=fF x;have:=fV (ja x) K;omega
     have Th:gP D ((ja x).foldl cQ K):=fS (lQ hD x) gK;generalize(ja x).foldl cQ K=K2 at *;have dH:=cB x;generalize cM x=ev at hr cC ae dH;have dJ:ev.take 9=ev:=Yy (by omega);have hf:=cz fH;simp[cp,g0,g3,g5,e0,hi,hq,cC,dH,dJ,q3,ae,hf];exact⟨_,fQ.ls _,Th,iF,hT⟩
    .rw[Yc,mS,Xr]at hT;subst hT;simp[cp,g0,g3,g5,e0,hq];exact hy
   .rintro o cG h' rfl ⟨rfl,hh,cp,hy⟩;generalize g0:gt cG 0=y at hy;have q3:=akN hy.np
    unfold RP;simp[cp,g0,q3];exact qW (RP.of hy)
  show RP 4 _ (M Fa _);rw[show Fa= .seq (cL (cT 0 Fa)) (.seq (cL (cT 1 Fa)) (.seq (cL (cT 2 Fa)) (.seq (cL (cT 3 Fa)) (.seq (cL (cT 4 Fa)) (cT 5 Fa))))) by kernel_rfl];generalize cT 5 Fa=Z at loop|-;clear ho;have q3:=akN hy.np
  have q2:=akO hy.np
  have one:=λb k nm h=>fa b K y k nm h hy (by omega) gK
  have gO:gP D ((pQ op nm).foldl cQ K):=fS (aae hD op nm) gK;have hO:((pQ op nm).foldl cQ K).length+2*iA ks<=100000000:=by
   have h1:=LF op nm;have h2:=fV (pQ op nm) K;omega
  rw[Xu];have go:∀fr y2,fQ ((pQ op nm).foldl cQ K) y2->fr.length=73->gt fr 0=y2->gt fr 3= .pt 0 0->RP 4 ((mS ks).foldl cQ ((pQ op nm).foldl cQ K)) (M Z (fr,[.row [op,k,n',d',s,.ls 5 r5 false,nm,ds,.ls 9 cq false]])):=λfr y2 xW h1 h2 h3=>loop _ y2 fr xW gO hO h1 h2 h3
  clear loop;by_cases o3:op=3
  .subst o3;have eT:pQ 3 nm=[ij 3 nm,ij 6 nm]:=by unfold pQ;rw[cw rfl]
   have ae:=λb h=>one b 3 nm h
   have af:=λb h=>fa b _ _ 6 nm h (fQ.ls (cQ K (ij 3 nm))) (by have:=lU K (ij 3 nm);omega) (fS (l:=[ij 3 nm]) (jk hD 3 nm) gK)
   rw[eT]at go|-;generalize(mS ks).foldl cQ _=T at go|-;simp only[Yi,Xr]at go;clear one fa hl hn hO gO;simp[cF,Fa,cT,cR,cL,f53,ae,af,q2];exact go _ _ (fQ.ls _) (by simp) (by simp) (by simp)
  by_cases o4:op=4
  .subst o4;have eT:pQ 4 nm=[ij 2 nm]:=by unfold pQ;rw[cv (by omega),cw rfl]
   have ae:=λb h=>one b 2 nm h
   rw[eT]at go|-;generalize(mS ks).foldl cQ _=T at go|-;simp only[Yi,Xr]at go;clear one fa hl hn hO gO;simp[cF,Fa,cT,cR,cL,f53,ae,q3];exact go _ _ (fQ.ls _) (by simp) (by simp) (by simp)
  by_cases o23:op=23
  .subst o23;have af:=λb h=>one b 2 ⟨#[]⟩ h
   have ak:=λb h=>one b 5 ⟨#[]⟩ h
   have c12:dn ⟨#[108,97,98,101,108,115]⟩ ⟨#[116,121,112,101]⟩=false:=by decide
   have c13:dn ⟨#[108,97,98,101,108,115]⟩ ⟨#[115,116,97,114,116]⟩=false:=by decide
   have c14:dn ⟨#[108,97,98,101,108,115]⟩ ⟨#[101,110,100]⟩=false:=by decide
   have c11:dn ⟨#[108,97,98,101,108,115]⟩ ⟨#[108,97,98,101,108,115]⟩=true:=by decide
   have eT:pQ 23 nm=(if dn nm zj=true then[ij 2 mI]else if dn nm LD=true then[ij 5 mI]else if dn nm EI=true then[ij 5 mI]else if dn nm Wo=true then[ij 5 mI]else[]):=by unfold pQ;rw[cv (by omega),cv (by omega),cw rfl]
   rw[eT]at go|-;unfold zj LD EI Wo mI at go|-;generalize(mS ks).foldl cQ _=T at go|-;clear one fa hl hn hO gO eT;by_cases e1:dn nm ⟨#[108,97,98,101,108,115]⟩=true
   .have hnm:=(ng _ _).1 e1;subst hnm;rw[cw e1]at go;simp only[Yi,Xr]at go;clear e1;simp[cF,Fa,cT,cR,cL,f53,c11,c12,c13,c14,af,q3];exact go _ _ (fQ.ls _) (by simp) (by simp) (by simp)
   rw[cv e1]at go;by_cases e2:dn nm ⟨#[116,121,112,101]⟩=true
   .rw[cw e2]at go;simp only[Yi,Xr]at go;simp[cF,Fa,cT,cR,cL,f53,e1,e2,ak,q3];exact go _ _ (fQ.ls _) (by simp) (by simp) (by simp)
   rw[cv e2]at go;by_cases e3:dn nm ⟨#[115,116,97,114,116]⟩=true
   .rw[cw e3]at go;simp only[Yi,Xr]at go;simp[cF,Fa,cT,cR,cL,f53,e1,e2,e3,ak,q3];exact go _ _ (fQ.ls _) (by simp) (by simp) (by simp)
   rw[cv e3]at go;by_cases e4:dn nm ⟨#[101,110,100]⟩=true
   .rw[cw e4]at go;simp only[Yi,Xr]at go;simp[cF,Fa,cT,cR,cL,f53,e1,e2,e3,e4,ak,q3];exact go _ _ (fQ.ls _) (by simp) (by simp) (by simp)
   rw[cv e4]at go;simp only[Xr]at go;simp[Fa,cT,cR,cL,f53,e1,e2,e3,e4];exact go _ _ hy (by simp) (by simp) (by simp)
  .have eT:pQ op nm=[]:=by unfold pQ;rw[cv o3,cv o4,cv o23]
   rw[eT]at go|-;generalize(mS ks).foldl cQ _=T at go|-;simp only[Xr]at go;clear one fa hl hn hO gO;simp[Fa,cT,cR,cL,f53,o3,o4,o23];exact go _ _ hy (by simp) (by simp) (by simp)
def DB(D d n:Nat)(hD:1<=D)(t:Bool)(ps:List Pp)(K:List Pr)(y:AV)(h:Hp)(hb:∀q∈ps,oz D d q.e)(oy:ps.length<=10^9)(hy:fQ K y)(gK:gP D K)(hl:K.length+2*nj ps<=100000000)(hn:3*D+d+12<=n):cu cx n t 105 [y,.ls 10 (jw ps) false] h=some (.ls 8 (gN ((tL ps).foldl cQ K)) false,h):=by
 obtain⟨M,rfl⟩:∃m,n=m+1:=⟨n-1,by omega⟩;refine XQ f105 [.tmp 4] (by rw[Zn,hy.calm];rfl) ?_ t h;obtain⟨k1,e1⟩:∃k,M=k+d+1:=⟨M-d-1,by omega⟩;have fx:=λb(K:List Pr)y(e:Ep)h(he:oz D d e)hy gK hl=>mL D hD d e he.1 he.2 k1 b K y h hy gK hl (by omega)
 rw[<-e1]at fx;clear e1 hn;have hq:=dP ps;have hg:=jf ps;generalize jw ps=cq at hq hg|-;generalize hT:(tL ps).foldl cQ K=T;simp[f105];generalize cU:M (.loop _) _=XX;refine gk cU
  (λi st _=>st.length=20/\gt st 1= .ls 10 cq false/\gt st 5=i/\∃K',fQ K' (gt st 0)/\gP D K'/\K'.length+2*nj (ps.drop i)<=100000000/\(tL (ps.drop i)).foldl cQ K'=T)
  (λo st _=>o= .exit 0/\st.length=20/\fQ T (gt st 0))
  ps.length (by simp;omega) ⟨by simp,by simp,by simp,K,by simp;exact hy,gK,hl,hT⟩ ?_ ?_
 .clear cU XX hT hy gK hl K y;rintro i fr hp cP ⟨cp,g1,g5,K,hy,gK,hl,hT⟩;generalize g0:gt fr 0=y at hy;have q3:=akN hy.np
  rcases dY hg cP with⟨x,hi,hx,hr,cC⟩|rfl
  .have fH:i<=10^15:=by omega
   rw[cH hx]at hl hT;unfold nj at hl;unfold tL at hT;rw[Yn,Yo]at hl;rw[Ym,Xu]at hT;have ae:=λb h=>fx b K y x.e h (hb x (Zi hx)) hy gK (by omega)
   have iF:((ja x.e).foldl cQ K).length+2*nj (ps.drop (i+1))<=100000000:=by unfold nj;have:=fF x.e;have:=fV (ja x.e) K;omega
   have Th:gP D ((ja x.e).foldl cQ K):=fS (lQ hD x.e) gK;generalize(ja x.e).foldl cQ K=K2 at *;have dH:=cB x.e;unfold eF at hr cC;generalize cM x.e=ev at hr cC ae dH;have dJ:ev.take 9=ev:=Yy (by omega);have hf:=cz fH;simp[cp,g0,g1,g5,hi,hq,cC,dH,dJ,q3,ae,hf];exact⟨_,fQ.ls _,Th,iF,hT⟩
  .rw[Yc]at hT;unfold tL at hT;rw[Xo,Xr]at hT;subst hT;simp[cp,g0,g1,g5,hq];exact hy
 .rintro o cG h' rfl ⟨rfl,cp,hy⟩;generalize g0:gt cG 0=y at hy;have q3:=akN hy.np
  simp[cp,g0,q3];exact qW (RP.of hy)
structure Tj (S:gM)(z:AV):Prop where
 np:∀v,z≠ .pn v
 cl:Ae.calm z=true
 kd:∀n b s h,cu cx (n+1) b 100 [z,.sc (.string s)] h=some (.sc (.int .i64 (db S s)),h)
def abU(S:gM)(hl:S.length<=10^9):Tj S (uX S):=⟨λv=>by unfold uX;simp,rfl,λn b s h=>xr n b S _ s h hl⟩
def IZ(k:Int):List Pr:=if k=1 then[ij 1 mI]else[ij 5 mI]
def lC(D n:Nat)(hD:1<=D)(t:Bool)(S:gM)(z:AV)(s:ByteArray)(K:List Pr)(y:AV)(h:Hp)(hz:Tj S z)(hy:fQ K y)(gK:gP D K)(hl:K.length<=10^8)(hn:3*D+12<=n):cu cx n t 54 [y,z,s] h=some (.ls 8 (gN ((IZ (db S s)).foldl cQ K)) false,h):=by
 obtain⟨M,rfl⟩:∃m,n=m+1:=⟨n-1,by omega⟩;refine XQ f54 [.tmp 6] (by rw[Zn,Zn,hy.calm,hz.cl];rfl) ?_ t h;obtain⟨k1,e1⟩:∃k,M=k+1:=⟨M-1,by omega⟩;have fk:=λb h=>hz.kd k1 b s h
 rw[<-e1]at fk;have fa:=λb k nm h=>jh D M b K y k nm h hy hl gK hD (by omega)
 have q3:=akN hy.np
 have q4:=akN hz.np
 clear e1 hn;generalize db S s=k at *;unfold IZ;by_cases c1:k=1
 .subst c1;rw[cw rfl,Yi,Xr];have ae:=λb h=>fa b 1 ⟨#[]⟩ h
  unfold mI;clear fa;simp[cF,f54,q3,q4,fk,ae];exact⟨_,_,⟨rfl,rfl⟩,RP.of (fQ.ls _)⟩
 .rw[cv c1,Yi,Xr];have ae:=λb h=>fa b 5 ⟨#[]⟩ h
  unfold mI;clear fa;simp[cF,f54,q3,q4,fk,ae,c1];exact⟨_,_,⟨rfl,rfl⟩,RP.of (fQ.ls _)⟩
noncomputable def wz :Code:=(f107.body).getD .skip
def Tk(D n:Nat)(hD:1<=D)(t:Bool)(x:Gp)(K:List Pr)(y:AV)(h:Hp)(hy:fQ K y)(gK:gP D K)(h1:x.types.length<=10^8)(h2:x.props.length<=10^8)(hl:K.length+1+x.types.length+x.props.length<=10^8)(hn:3*D+12<=n):cu cx n t 107 [y,.ag (dE x)] h=some (.ls 8 (gN ((vU x).foldl cQ K)) false,h):=by
 obtain⟨M,rfl⟩:∃m,n=m+1:=⟨n-1,by omega⟩;refine XQ f107 [.tmp 4] (by rw[Zn,hy.calm];rfl) ?_ t h;have fa:=λb(K:List Pr)y k nm h hy hl gK=>jh D M b K y k nm h hy hl gK hD (by omega)
 clear hn;obtain⟨vr,ts,dr,md,mn,mx,ps⟩:=x;simp only at h1 h2 hl;show∃r h',dT [.tmp 4] (M wz ([y,.ag (dE ⟨vr,ts,dr,md,mn,mx,ps⟩)]++List.replicate 44 .un,[]))=some (r,h')/\∃r',da h' 8 r=some r'/\wZ 8 r'=_;change RP 4 _ _;unfold vU dE;simp only;rw[Xu,Xu];have Aq:=cI ts;have hg1:=iW ts;have CX:=dP ps;have QM:=jf ps;generalize eE ts=rt,jw ps=rp at *;generalize hE:[AV.sc (.string vr),.ls 1 rt false,.sc (.int .i64 dr),.sc (.int .i64 md),.sc (.int .i64 mn),.sc (.int .i64 mx),.ls 10 rp false]=E;have hEl:E.length=7:=by rw[<-hE];rfl
 have hE1:E[1]?=some (.ls 1 rt false):=by rw[<-hE];rfl
 have hE6:E[6]?=some (.ls 10 rp false):=by rw[<-hE];rfl
 have XR:=iY hE1;have aek:=iY hE6;have hEt:E.take 7=E:=Yy (by omega);clear hE;rw[show wz= .seq (cL (cT 0 wz)) (.seq (cL (cT 1 wz)) (.seq (cL (cT 2 wz)) (cT 3 wz))) by kernel_rfl];have s3:∀(K:List Pr)(y:AV)(fr:LA),fQ K y->gP D K->K.length+ps.length<=10^8->fr.length=46->gt fr 0=y->gt fr 3= .pt 0 0->RP 4 ((ps.map λq=>ij 6 q.key).foldl cQ K) (M (cT 3 wz) (fr,[.row E])):=by
  intro K y fr hy gK hl cp g0 g3;simp[wz,cT,cR,f107];generalize cU:M (.loop _) _=XX,hT:(ps.map λq=>ij 6 q.key).foldl cQ K=T;refine gk cU
   (λi st cD=>cD=[.row E]/\st.length=46/\gt st 3= .pt 0 0/\gt st 6=i/\∃K',fQ K' (gt st 0)/\gP D K'/\K'.length+(ps.length-i)<=100000000/\((ps.drop i).map λq=>ij 6 q.key).foldl cQ K'=T)
   (λo st _=>o= .exit 2/\st.length=46/\fQ T (gt st 0))
   ps.length (by simp;omega) ⟨rfl,by simp[cp],by simp[g3],by simp[cp],K,by simp[g0];exact hy,gK,by omega,hT⟩ ?_ ?_
  .clear cU XX hT hy gK hl cp g0 g3 K y;rintro i fr hp cP ⟨hh,cp,g3,g6,K,hy,gK,hl,hT⟩;subst hh;generalize g0:gt fr 0=y at hy;have q3:=akN hy.np
   rcases dY QM cP with⟨x,hi,hx,hr,cC⟩|rfl
   .have fH:i<=10^15:=by omega
    rw[cH hx,Yn,Yi]at hT;have ae:=λb h=>fa b K y 6 x.key h hy (by omega) gK
    have iF:(cQ K (ij 6 x.key)).length+(ps.length-(i+1))<=100000000:=by have:=lU K (ij 6 x.key);omega
    have Th:gP D (cQ K (ij 6 x.key)):=fS (l:=[ij 6 x.key]) (jk hD 6 x.key) gK;generalize cQ K (ij 6 x.key)=K2 at *;have dH:=cB x.e;unfold eF at hr cC;generalize cM x.e=ev at hr cC dH;have hf:=cz fH;simp[cF,cp,g0,g3,g6,hi,CX,cC,dH,hEl,aek,q3,ae,hf];exact⟨_,fQ.ls _,Th,iF,by simpa using hT⟩
   .rw[Yc,Xm,Xr]at hT;subst hT;simp[cp,g0,g3,g6,CX,hEl,aek];exact hy
  .rintro o cG h' rfl ⟨rfl,cp,hy⟩;generalize g0:gt cG 0=y at hy;have q3:=akN hy.np
   unfold RP;simp[cp,g0,q3];exact qW (RP.of hy)
 generalize cT 3 wz=Z3 at s3|-;have s2:∀(K:List Pr)(y:AV)(fr:LA),fQ K y->gP D K->K.length+ts.length+ps.length<=10^8->fr.length=46->gt fr 0=y->gt fr 3= .pt 0 0->RP 4 ((ps.map λq=>ij 6 q.key).foldl cQ ((ts.map λs=>ij 5 s).foldl cQ K)) (M (.seq (cL (cT 2 wz)) Z3) (fr,[.row E])):=by
  intro K y fr hy gK hl cp g0 g3;simp[wz,cT,cR,cL,f107];generalize cU:M (.loop _) _=XX,hT:(ts.map λs=>ij 5 s).foldl cQ K=T;refine gk cU
   (λi st cD=>cD=[.row E]/\st.length=46/\gt st 3= .pt 0 0/\gt st 5=i/\∃K',fQ K' (gt st 0)/\gP D K'/\K'.length+(ts.length-i)+ps.length<=10^8/\((ts.drop i).map λs=>ij 5 s).foldl cQ K'=T)
   (λo st cD=>o= .exit 0/\cD=[.row E]/\st.length=46/\gt st 3= .pt 0 0/\fQ T (gt st 0)/\gP D T/\T.length+ps.length<=10^8)
   ts.length (by simp;omega) ⟨rfl,by simp[cp],by simp[g3],by simp[cp],K,by simp[g0];exact hy,gK,by omega,hT⟩ ?_ ?_
  .clear cU XX hT hy gK hl cp g0 g3 K y s3;rintro i fr hp cP ⟨hh,cp,g3,g5,K,hy,gK,hl,hT⟩;subst hh;generalize g0:gt fr 0=y at hy;have q3:=akN hy.np
   rcases dY hg1 cP with⟨x,hi,hx,hr,cC⟩|rfl
   .have fH:i<=10^15:=by omega
    rw[cH hx,Yn,Yi]at hT;have ae:=λb h=>fa b K y 5 x h hy (by omega) gK
    have iF:(cQ K (ij 5 x)).length+(ts.length-(i+1))+ps.length<=10^8:=by have:=lU K (ij 5 x);omega
    have Th:gP D (cQ K (ij 5 x)):=fS (l:=[ij 5 x]) (jk hD 5 x) gK;generalize cQ K (ij 5 x)=K2 at *;have hf:=cz fH;simp[cF,cp,g0,g3,g5,hi,Aq,cC,hEl,XR,q3,ae,hf];exact⟨_,fQ.ls _,Th,iF,by simpa using hT⟩
   .rw[Yc,Xm,Xr]at hT;subst hT;have q9:K.length+ps.length<=10^8:=by omega
    simp[cp,g0,g3,g5,Aq,hEl,XR];exact⟨hy,gK,q9⟩
  .rintro o cG h' rfl ⟨rfl,hh,cp,g3,hy,gT,hl⟩;subst hh;simp;exact s3 T _ cG hy gT hl cp rfl g3
 generalize Code.seq (cL (cT 2 wz)) Z3=Z2 at s2|-;clear s3;have q3:=akN hy.np
 by_cases ht:ts.length=0
 .rw[cw ht,Yi,Xr];have ae:=λb h=>fa b K y 5 ⟨#[]⟩ h hy (by omega) gK
  unfold mI;have go:=λfr=>s2 (cQ K (ij 5 ⟨#[]⟩)) _ fr (fQ.ls _) (fS (l:=[ij 5 ⟨#[]⟩]) (jk hD 5 ⟨#[]⟩) gK) (by have:=lU K (ij 5 ⟨#[]⟩);omega)
  clear s2 fa;simp[cF,wz,cT,cR,cL,f107,hEl,XR,Aq,ht,q3,ae];exact go _ (by simp) (by simp) (by simp)
 .rw[cv ht,Xr];have go:=λfr=>s2 K y fr hy gK (by omega)
  clear s2 fa;simp[wz,cT,cR,cL,f107,hEl,XR,Aq,ht];exact go _ (by simp) (by simp) (by simp)
def Tl(N D:Nat)(v:V)(hd:kj v<=D)(hb:oK v)(b:Bool)(h:Hp):cu cx (N+2*D+5) b 164 [.ag (enc v)] h=some (.sc (.bool (mP v)),h):=by
 have hv:=λb h=>pF N D v hd hb b h
 have hc:[AV.ag (enc v)].all calm=true:=l8 v;refine fU (n:=N+2*D+4) f164 [.tmp 2] hc rfl ?_ b h;clear hc;unfold mP;generalize k_ v=K,N+2*D+4=M at hv;cases v with
 |mk k n d s z l=>
  simp only[V.k];rw[fJ]at hv;have he:enc (.mk k n d s z l)=[.sc (.int .i64 k),.sc (.int .i64 n),.sc (.int .i64 d),.sc (.string s),gY z l]:=rfl;rw[he];clear he;generalize gY z l=L at hv;by_cases h1:k=1
  .subst h1;cases K<;>simp[f164,hv]
  by_cases h2:k=2
  .subst h2;cases K<;>simp[f164,hv]
  by_cases h4:k=4
  .subst h4;cases K<;>simp[f164,hv]
  cases K<;>simp[f164,hv,h1,h2,h4]
def zu{α:Type}(o:Option Nat):List α->Nat->List α
 | [],_=> []
 |x::l,i=>if o=some i then zu o l (i+1)else x::zu o l (i+1)
def wB{α:Type}:∀(l:List α)(i:Nat),zu none l i=l
 | [],i=>rfl
 |x::l,i=>by rw[zu,cv (by simp),wB l]
def Bo{α:Type}(j:Nat):∀(l:List α)(i:Nat),j<i->zu (some j) l i=l
 | [],i,h=>rfl
 |x::l,i,h=>by rw[zu,cv (by simp;omega),Bo j l _ (by omega)]
def HY{α:Type}:∀(j:Nat)(l:List α)(i:Nat),zu (some (i+j)) l i=l.take j++l.drop (j+1)
 |_,[],i=>by simp[zu]
 |0,x::l,i=>by rw[zu,cw (by simp),Nat.add_zero,Bo _ _ _ (by omega)];simp
 |j+1,x::l,i=>by rw[zu,cv (by simp),show i+(j+1)=i+1+j by omega,HY j l (i+1)];simp
def yj(x:Pp):∀(a:List Pp)(k:Nat),fY (a++[x]) k=match fY a k with|some j=>some j|none=>if NA x=true then some (k+a.length)else none
 |
  [],k=>by
  rw[Zw];by_cases hp:NA x=true<;>simp[fY,hp]
 |
  q::a,k=>by
  rw[Zv,fY,fY];by_cases hp:NA q=true
  .rw[cw hp,cw hp]
  .rw[cv hp,cv hp,yj x a (k+1),Ys,show k+1+a.length=k+(a.length+1) by omega]
def Cv :Option Nat->Int|none=> -1|some _=>0
def Bp :Option Nat->Int|none=> -1|some j=>(j:Int)
def uY(s:ByteArray)(ps:List Pp)(K:List Pr):Option Nat->List Pr
 |none=>K
 |some j=>match ps[j]? with|some q=>cQ K ⟨4,s,q.key,q.e.v⟩|none=>K
noncomputable def kH :Code:=(f106.body).getD .skip
def Tm(D M:Nat)(hD:1<=D)(hM:3*D+9<=M)(ls:List ByteArray)(rt:List LA)(row:LA)(lj:row.length=3)(Ln:row[1]?=some (.ls 1 rt false))(hq:rt.length=ls.length)(hg:∀i:Nat,rt[i]?=(ls[i]?).map (λs=> [.sc (.string s)]))(PE:ls.length<=10^8)(o:Option Nat)(w:Int)(hw:∀i:Nat,o=some i->w=(i:Int))(BU:∀i:Nat,¬o=some i->¬(i:Int)=w)(p:Int)(b:Nat)(Z:Code)(G:Option (Out × St)->Prop)(T:List Pr)(hZ:∀y fr h,fQ T y->gP D T->T.length+b<=100000000->fr.length=103->gt fr 0=y->gt fr 3= .pt 0 0->gt fr 6= .sc (.int .i64 p)->h[0]?=some (.row row)->G (M Z (fr,h)))(K:List Pr)(y:AV)(fr:LA)(h:Hp)(hy:fQ K y)(gK:gP D K)(hl:K.length+ls.length+b<=100000000)(hT:(oB (zu o ls 0)).foldl cQ K=T)(cp:fr.length=103)(g0:gt fr 0=y)(g3:gt fr 3= .pt 0 0)(g5:gt fr 5=w)(g6:gt fr 6=p)(h0:h[0]?=some (.row row)):G (M (.seq (cL (cT 4 kH)) Z) (fr,h)):=by
 have fa:=λb(K:List Pr)y k nm h hy hl gK=>jh D M b K y k nm h hy hl gK hD hM
 have Tn:=iY Ln;simp[kH,cT,cR,cL,f106];generalize cU:M (.loop _) _=XX;refine gk cU
  (λi st cD=>cD=h/\st.length=103/\gt st 3= .pt 0 0/\gt st 5=w/\gt st 6=p/\gt st 9=i/\∃K',fQ K' (gt st 0)/\gP D K'/\K'.length+(ls.length-i)+b<=100000000/\(oB (zu o (ls.drop i) i)).foldl cQ K'=T)
  (λo st cD=>o= .exit 2/\cD=h/\st.length=103/\gt st 3= .pt 0 0/\gt st 6=p/\fQ T (gt st 0)/\gP D T/\T.length+b<=100000000)
  ls.length (by simp;omega) ⟨rfl,by simp[cp],by simp[g3],by simp[g5],by simp[g6],by simp[cp],K,by simp[g0];exact hy,gK,by omega,hT⟩ ?_ ?_
 .clear cU XX hT hy gK hl cp g0 g3 g5 g6 K y hZ;rintro i fr hp cP ⟨hh,cp,g3,g5,g6,g9,K,hy,gK,hl,hT⟩;subst hh;have tU:=dh h0;generalize g0:gt fr 0=y at hy;have q3:=akN hy.np
  rcases dY hg cP with⟨x,hi,hx,hr,cC⟩|rfl
  .have fH:i<=10^15:=by omega
   rw[cH hx,zu]at hT;by_cases hc:o=some i
   .have XS:=hw i hc;rw[cw hc]at hT;rw[XS]at g5;have iF:K.length+(ls.length-(i+1))+b<=100000000:=by omega
    clear hw BU;have hf:=cz fH;simp[cp,g0,g3,g5,g6,g9,h0,lj,Tn,hi,hq,hf];exact⟨XS.symm,_,hy,gK,iF,hT⟩
   .have XS:=BU i hc;rw[cv hc,oB,Yn,Yi]at hT;have ae:=λb h=>fa b K y 2 x h hy (by omega) gK
    have iF:(cQ K (ij 2 x)).length+(ls.length-(i+1))+b<=100000000:=by have:=lU K (ij 2 x);omega
    have Th:gP D (cQ K (ij 2 x)):=fS (l:=[ij 2 x]) (jk hD 2 x) gK;generalize cQ K (ij 2 x)=K2 at *;clear hw BU;have hf:=cz fH;simp[cF,cp,g0,g3,g5,g6,g9,h0,lj,Tn,hi,hq,cC,q3,ae,hf,XS];exact⟨_,fQ.ls _,Th,iF,hT⟩
  .rw[Yc,zu]at hT;unfold oB at hT;rw[Xm,Xr]at hT;subst hT;have q9:K.length+b<=100000000:=by omega
   simp[cp,g0,g3,g6,g9,h0,lj,Tn,hq];exact⟨hy,gK,q9⟩
 .rintro o cG h' rfl ⟨rfl,hh,cp,g3,g6,hy,gT,hl⟩;subst hh;simp;exact hZ _ cG _ hy gT hl cp rfl g3 g6 h0
def Tq(D M:Nat)(hD:1<=D)(hM:3*D+9<=M)(ps:List Pp)(rp:List LA)(row:LA)(lj:row.length=3)(oL:row[2]?=some (.ls 10 rp false))(hq:rp.length=ps.length)(hg:∀i:Nat,rp[i]?=(ps[i]?).map eF)(PE:ps.length<=10^8)(o:Option Nat)(w:Int)(hw:∀i:Nat,o=some i->w=(i:Int))(BU:∀i:Nat,¬o=some i->¬(i:Int)=w)(T:List Pr)(K:List Pr)(y:AV)(fr:LA)(h:Hp)(hy:fQ K y)(gK:gP D K)(hl:K.length+ps.length<=10^8)(hT:(rF (zu o ps 0)).foldl cQ K=T)(cp:fr.length=103)(g0:gt fr 0=y)(g3:gt fr 3= .pt 0 0)(g6:gt fr 6=w)(h0:h[0]?=some (.row row)):RP 4 T (M (cT 5 kH) (fr,h)):=by
 have fa:=λb(K:List Pr)y k nm h hy hl gK=>jh D M b K y k nm h hy hl gK hD hM
 have rm:=iY oL;simp[kH,cT,cR,f106];generalize cU:M (.loop _) _=XX;refine gk cU
  (λi st cD=>cD=h/\st.length=103/\gt st 3= .pt 0 0/\gt st 6=w/\gt st 10=i/\∃K',fQ K' (gt st 0)/\gP D K'/\K'.length+(ps.length-i)<=100000000/\(rF (zu o (ps.drop i) i)).foldl cQ K'=T)
  (λo st _=>o= .exit 4/\st.length=103/\fQ T (gt st 0))
  ps.length (by simp;omega) ⟨rfl,by simp[cp],by simp[g3],by simp[g6],by simp[cp],K,by simp[g0];exact hy,gK,by omega,hT⟩ ?_ ?_
 .clear cU XX hT hy gK hl cp g0 g3 g6 K y;rintro i fr hp cP ⟨hh,cp,g3,g6,g10,K,hy,gK,hl,hT⟩;subst hh;have tU:=dh h0;generalize g0:gt fr 0=y at hy;have q3:=akN hy.np
  rcases dY hg cP with⟨x,hi,hx,hr,cC⟩|rfl
  .have fH:i<=10^15:=by omega
   rw[cH hx,zu]at hT;have dH:=cB x.e;unfold eF at hr cC;by_cases hc:o=some i
   .have XS:=hw i hc;rw[cw hc]at hT;rw[XS]at g6;have iF:K.length+(ps.length-(i+1))<=100000000:=by omega
    generalize cM x.e=ev at hr cC dH;clear hw BU;have hf:=cz fH;simp[cp,g0,g3,g6,g10,h0,lj,rm,hi,hq,hf];exact⟨XS.symm,_,hy,gK,iF,hT⟩
   .have XS:=BU i hc;rw[cv hc,rF,Yn,Yi]at hT;have ae:=λb h=>fa b K y 3 x.key h hy (by omega) gK
    have iF:(cQ K (ij 3 x.key)).length+(ps.length-(i+1))<=100000000:=by have:=lU K (ij 3 x.key);omega
    have Th:gP D (cQ K (ij 3 x.key)):=fS (l:=[ij 3 x.key]) (jk hD 3 x.key) gK;generalize cQ K (ij 3 x.key)=K2 at *;generalize cM x.e=ev at hr cC dH;clear hw BU;have hf:=cz fH;simp[cF,cp,g0,g3,g6,g10,h0,lj,rm,hi,hq,cC,dH,q3,ae,hf,XS];exact⟨_,fQ.ls _,Th,iF,hT⟩
  .rw[Yc,zu]at hT;unfold rF at hT;rw[Xm,Xr]at hT;subst hT;simp[cp,g0,g3,g10,h0,lj,rm,hq];exact hy
 .rintro o cG h' rfl ⟨rfl,cp,hy⟩;generalize g0:gt cG 0=y at hy;have q3:=akN hy.np
  unfold RP;simp[cp,g0,q3];exact qW (RP.of hy)
end
end Go.Proofs.YtmocfjnklfpnbaaGreatDoor
