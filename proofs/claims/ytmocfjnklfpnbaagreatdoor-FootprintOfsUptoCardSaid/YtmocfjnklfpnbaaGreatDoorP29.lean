/- Part of the proof. -/
import Derived.Test.YtmocfjnklfpnbaaGreatDoorP28
set_option linter.all false
set_option maxHeartbeats 32000000
set_option maxRecDepth 100000
namespace Go.Proofs.YtmocfjnklfpnbaaGreatDoor
open Go Go.Ae Go.Proofs.Tryz
section
attribute [local simp] ew eY
@[simp] def ajv :j9 cx 47=true:=by kernel_rfl
def SL(l:List ByteArray)(s:ByteArray):(ku l s).length<=l.length+1:=by
 unfold ku;rw[Zu,Ys];have h1:=List.length_filter_le (λx=> !dn x s) (l.dropWhile λx=>nO x s);have h2:(l.takeWhile λx=>nO x s).length+(l.dropWhile λx=>nO x s).length=l.length:=by rw[<-Zu,Xv]
 omega
def SM(n:Nat)(b:Bool)(s:ByteArray)(h:Hp):cu cx (n+1) b 236 [(),s] h=some (.ls 1 (eE (ku [] s)) false,h):=by
 refine ZT f236 [.tmp 4] rfl ?_ b h;have Ev:kx 236=1:=by decide
 rw[Ev];simp[f236];generalize cU:n (.loop _) _=XX;refine gk cU (λi st cD=>cD=[]/\st.length=52/\gt st 0=()/\gt st 1=s/\gt st 5=()/\gt st 6=(0:Int)) (λo st cD=>cD=[]/\o= .exit 0/\st.length=52/\gt st 0=()/\gt st 1=s/\gt st 5=()/\gt st 6=(0:Int)) 0 (by simp) ⟨by simp,by simp⟩ ?_ ?_
 .rintro i fr hp cP ⟨hh,cp,h0,h1,h5,h6⟩;simp[hh,cp,h0,h1,h5,h6]
 .rintro o fr h' rfl ⟨hh,rfl,cp,h0,h1,h5,h6⟩;obtain⟨lB,h4,b1,b2,b3,b4⟩:=iy (t:=47) kp rfl h' [s] [] (.sc (.slice none 0 0)) (.inl ⟨rfl,rfl⟩) rfl (λr hr=>by cases hr) (by omega) (by simp) (by omega);have XG:ka h4 1 (eE [s]) (.sl lB 1 0 1 false):= .inr ⟨by simp[eE],lB,by simp[eE],b2⟩;rw[List.length_nil,Xk]at b1;simp[cp,h1,h5,b1,M1];clear b1 b2 b3 b4;generalize cU:n (.loop _) _=XX;refine gk cU (λi st cD=>cD=h4/\st.length=52/\gt st 0=()/\gt st 5= .sl lB 1 0 1 false/\gt st 6=(0:Int)) (λo st cD=>cD=h4/\o= .exit 2/\st.length=52/\gt st 5= .sl lB 1 0 1 false) 0 (by simp) ⟨by simp,by simp[cp,h0,h6]⟩ ?_ ?_
  .rintro i fr hp cP ⟨hh,cp,h0,h5,h6⟩;simp[hh,cp,h0,h5,h6]
  .rintro o cG h' rfl ⟨hh,rfl,cp,h5⟩;subst hh;have jx:=gf (n:=7) (by omega) (g_ _).1 (g_ _).2 XG;simp[cp,h5];exact qW ⟨_,jx,kT 1 (eE [s])⟩
def SN(n:Nat)(b:Bool)(l:List ByteArray)(s:ByteArray)(h:Hp)(hl:l.length<=10^8):cu cx (n+1) b 236 [.ls 1 (eE l) false,s] h=some (.ls 1 (eE (ku l s)) false,h):=by
 refine ZT f236 [.tmp 4] rfl ?_ b h;have Ev:kx 236=1:=by decide
 rw[Ev];have hq:=cI l;have hg:=iW l;have U8:=Xv (p:=λx=>nO x s) (l:=l);unfold ku;generalize eE l=cq at hq hg;generalize hW:l.takeWhile (λx=>nO x s)=W,hV:l.dropWhile (λx=>nO x s)=V at U8;simp[f236];generalize cU:n (.loop _) _=XX;refine gk cU (λi st cD=>l.take i++(l.drop i).takeWhile (λx=>nO x s)=W/\(l.drop i).dropWhile (λx=>nO x s)=V/\st.length=52/\gt st 0= .ls 1 cq false/\gt st 1=s/\gt st 6=i/\∃y,gt st 5=y/\ka cD 1 (eE (l.take i)) y)
  (λo st cD=>o= .exit 0/\st.length=52/\gt st 0= .ls 1 cq false/\gt st 1=s/\gt st 6=W.length/\∃y,gt st 5=y/\ka cD 1 (eE W) y) l.length (by simp;omega) ⟨by simpa using hW,by simpa using hV,by simp,by simp,by simp,by simp,_,rfl,.inl ⟨rfl,by simp⟩⟩ ?_ ?_
 .clear cU XX hW hV;rintro i fr hp cP ⟨hW,hV,cp,h0,h1,h6,y,h5,hy⟩;rcases dY hg cP with⟨x,hi,hx,hr,cC⟩|rfl
  .rw[cH hx]at hW hV;rw[List.takeWhile_cons]at hW;rw[List.dropWhile_cons]at hV;have q3:=akN (λv=>hy.np v)
   cases hw:nO x s
   .rw[hw]at hW hV;simp only[Yl,if_false,Yk]at hW hV;have hWl:W.length=i:=by rw[<-hW,Xa];omega
    simp[cp,h0,h1,h5,h6,hi,hq,cC,hw];rw[hWl,<-hW];exact⟨rfl,hy⟩
   .rw[hw]at hW hV;simp only[if_true]at hW hV;have iB:(l.take i).length<=10^9:=by rw[Xa];omega
    obtain⟨lB,h4,b1,b2,b3,b4⟩:=iy (t:=47) kp rfl hp [x] (eE (l.take i)) y hy rfl (λr hr=>(g_ _).1 r hr) (by omega) (by rw[cI];exact iB) (by omega);rw[cI]at b1;have dO:l.take (i+1)=l.take i++[x]:=jX hx;generalize hF:l.take i=F at b1 b2 dO;have hf:dA .i64 ((i:Int)+1)=((i+1:Nat):Int):=cK (by omega) (by omega);simp[cp,h0,h1,h5,h6,q3,hi,hq,cC,hw,M1,b1,hf];rw[dO,nX];refine⟨by rw[<-hW,hF,Zp];rfl,hV,.inr ⟨by simp,lB,by simp[cI],by rw[b2]⟩⟩
  .rw[Xq]at hy hW;rw[Yc]at hW hV;simp only[List.takeWhile_nil,Yk]at hW;subst hW;simp[cp,h0,h1,h6,hq];rw[h5];exact hy
 .rintro o fr h' rfl ⟨rfl,cp,h0,h1,h6,y,h5,hy⟩;have q3:=akN (λv=>hy.np v)
  have hWl:W.length+V.length=l.length:=by rw[<-U8,Zu]
  obtain⟨lB,h4,b1,b2,b3,b4⟩:=iy (t:=47) kp rfl h' [s] (eE W) y hy rfl (λr hr=>(g_ _).1 r hr) (by omega) (by rw[cI];omega) (by omega);rw[cI]at b1;have XG:ka h4 1 (eE (W++[s])) (.sl lB 1 0 (W.length+1) false):=by
   rw[nX];exact .inr ⟨by simp,lB,by simp[cI],by rw[b2]⟩
  have hgV:∀j:Nat,cq[W.length+j]?=(V[j]?).map λx=> [.sc (.string x)]:=λj=>by
   rw[hg,<-U8,Zf (by omega),Nat.add_sub_cancel_left]
  have lj:cq.length=W.length+V.length:=by rw[hq,hWl]
  clear hW hV hg hq;simp[cp,h1,h5,q3,M1,b1];clear q3 b1 b2 b3 b4 hy;generalize W.length=w0 at *;generalize cU:n (.loop _) _=XX;refine gk cU (λj st cD=>st.length=52/\gt st 0= .ls 1 cq false/\gt st 1=s/\gt st 6= .sc (.int .i64 ((w0+j:Nat):Int))/\∃y,gt st 5=y/\ka cD 1 (eE (W++s::(V.take j).filter λx=> !dn x s)) y)
   (λo st cD=>o= .exit 2/\st.length=52/\∃y,gt st 5=y/\ka cD 1 (eE (W++s::V.filter λx=> !dn x s)) y) V.length (by simp;omega) ⟨by simp[cp],by simp[h0],by simp[h1],by simp[h6],.sl lB 1 0 (w0+1) false,by simp[cp],by simpa using XG⟩ ?_ ?_
  .clear cU XX XG h0 h1 h5 h6 cp;rintro j fr hp cP ⟨cp,h0,h1,h6,y,h5,hy⟩;by_cases hj:j<V.length
   .obtain⟨x,hx,hr,cC⟩:∃x,V[j]?=some x/\cq[w0+j]?=some [.sc (.string x)]/\∀k,cq[w0+j]'k=[.sc (.string x)]:=by
     refine⟨V[j],Zb hj,?_,λk=>?_⟩
     .rw[hgV,Zb hj];rfl
     .have:=hgV j;rw[Zb k,Zb hj]at this;exact Option.some.inj this
    have du:w0+j<cq.length:=by omega
    have q3:=akN (λv=>hy.np v)
    have iB:(W++s::(V.take j).filter λx=> !dn x s).length<=10^9:=by
     rw[Zu,Ys];have h1:=List.length_filter_le (λx=> !dn x s) (V.take j);rw[Xa]at h1;have:W.length<=l.length:=by rw[<-U8,Zu];omega
     omega
    have dO:V.take (j+1)=V.take j++[x]:=jX hx;have hf:dA .i64 (((w0+j:Nat):Int)+1)=((w0+(j+1):Nat):Int):=cK (by omega) (by omega);have E4:(V.take (j+1)).filter (λx=> !dn x s)=(V.take j).filter (λx=> !dn x s)++if dn x s=true then[]else[x]:=by
     rw[dO,List.filter_append];cases hw:dn x s<;>simp[hw]
    generalize(V.take j).filter (λx=> !dn x s)=F,hwj:w0+j=wj at *;cases hw:dn x s
    .obtain⟨lB,h4,b1,b2,b3,b4⟩:=iy (t:=47) kp rfl hp [.sc (.string x)] (eE (W++s::F)) y hy rfl (λr hr=>(g_ _).1 r hr) (by omega) (by rw[cI];exact iB) (by omega);rw[cI]at b1;have hF:W++s::(F++[x])=(W++s::F)++[x]:=by simp
     generalize W++s::F=G at *;simp[cp,h0,h1,h5,h6,q3,du,cC,hw,M1,b1,hf];rw[hw,cv (by simp)]at E4;rw[E4,hF,nX];exact⟨hj,.inr ⟨by simp,lB,by simp[cI],by rw[b2]⟩⟩
    .rw[hw,cw rfl,Yk]at E4;simp[cp,h0,h1,h5,h6,du,cC,hw,hf];rw[E4];exact⟨hj,hy⟩
   .have lD:j=V.length:=Yb cP (Ya hj);subst lD;rw[Xq]at hy;simp[cp,h0,h6,lj];rw[h5];exact hy
  .rintro o cG h' rfl ⟨rfl,cp,y,h5,hy⟩;have jx:=gf (n:=7) (by omega) (g_ _).1 (g_ _).2 hy;have q3:=akN (λv=>hy.np v)
   simp[cp,h5,q3];refine⟨_,_,⟨rfl,rfl⟩,_,jx,kT _ _⟩
def XH(n:Nat)(b:Bool)(l:List ByteArray)(s:ByteArray)(h:Hp)(hl:l.length<=10^8):cu cx (n+1) b 236 [eH 1 (eE l),s] h=some (.ls 1 (eE (ku l s)) false,h):=by
 cases l with
 |nil=>exact SM n b s h
 |cons a l=>exact SN n b (a::l) s h hl
mutual
def kI :Ep->List ByteArray
 | .mk op _ nm _ ks=>gz ks (if op=2 then ku [] nm else[])
def gz :List Ep->List ByteArray->List ByteArray
 | [],K=>K
 |x::xs,K=>gz xs ((kI x).foldl ku K)
end
def yf(x:Ep):∀(l:List Ep)(K:List ByteArray),gz (l++[x]) K=(kI x).foldl ku (gz l K)
 | [],K=>by rw[Zw,gz,gz,gz]
 |a::l,K=>by rw[Zv,gz,gz,yf x l]
def ot :∀(l K:List ByteArray),(l.foldl ku K).length<=K.length+l.length
 | [],K=>by simp
 |
  s::l,K=>by
  rw[Yi];have:=ot l (ku K s);have h2:=SL K s;rw[Ys];omega
mutual
def xu :∀e:Ep,(kI e).length<=dc e
 |
  .mk op v nm ds ks=>by
  rw[kI,dc];have h:=uU ks (if op=2 then ku [] nm else[]);have h2:(if op=2 then ku [] nm else([]:List ByteArray)).length<=1:=by split<;>simp[ku]
  omega
def uU :∀(l:List Ep)(K:List ByteArray),(gz l K).length<=K.length+iA l
 | [],K=>by rw[gz,iA];omega
 |
  x::xs,K=>by
  rw[gz,iA];have h1:=xu x;have h2:=uU xs ((kI x).foldl ku K);have h3:=ot (kI x) K;omega
end
def Dn(x:ByteArray):∀(l K:List ByteArray),x∈l.foldl ku K↔x∈l\/x∈K
 | [],K=>by simp
 |
  s::l,K=>by
  rw[Yi,Dn x l,A7,Yv];constructor
  .rintro(h|h|h)
   .exact .inl (.inr h)
   .exact .inl (.inl h)
   .exact .inr h
  .rintro((h|h)|h)
   .exact .inr (.inl h)
   .exact .inl h
   .exact .inr (.inr h)
def HK(K:List ByteArray)(s:ByteArray):eH 1 (eE (ku K s))= .ls 1 (eE (ku K s)) false:=by
 unfold eH;have:eE (ku K s)≠ []:=by unfold ku eE;simp
 rw[List.isEmpty_eq_false_iff.2 this];rfl
def Bd :∀{ks:List Ep}{x:Ep},x∈ks->dc x<=iA ks
 |
  a::ks,x,h=>by
  rw[iA];rcases Yv.1 h with rfl|h
  .omega
  .have:=Bd h;omega
def yR{ks:List Ep}(K:List ByteArray)(i:Nat):(gz (ks.take i) K).length<=K.length+iA ks:=by
 have h1:=uU (ks.take i) K;have h2:iA (ks.take i)<=iA ks:=by
  rw[pR,pR]
  conv=>rhs;rw[<-List.take_append_drop i ks,List.map_append,List.sum_append]
  exact Nat.le_add_right _ _
 omega
noncomputable def SS :Code:=(f162.body).getD .skip
def SV(D:Nat):∀(d:Nat)(e:Ep),lE e<=d->ke D e->dc e<=1000000->∀N b h,cu cx (N+d+1) b 162 [.ag (cM e)] h=some (.ls 1 (eE (kI e)) false,h):=by
 intro d
 induction d with
 |zero=>intro e h;have:=jU e;omega
 |succ d ih=>
  intro e de be hce N b h;have dL:[AV.ag (cM e)].all calm=true:=by rw[Zn,dR];rfl
  refine ZT (n:=N+d+1) f162 [.tmp 2] dL ?_ b h;have Ev:kx 162=1:=by decide
  rw[Ev];have ho:∀x∈e.ks,∀b h,cu cx (N+d+1) b 162 [.ag (cM x)] h=some (.ls 1 (eE (kI x)) false,h):=λx hx=>ih x (kU de hx) (mQ be hx) (by
   obtain⟨op,v,nm,ds,ks⟩:=e;rw[dc]at hce;have:=Bd (show x∈ks from hx);omega) N
  obtain⟨op,v,nm,ds,ks⟩:=e;simp only[Ep.ks]at ho;obtain⟨k,n',d',s,l,rfl,hs,qg⟩:=Jz be;rw[jO rfl,kI];rw[dc]at hce;have abM:=λ(K:List ByteArray)(s:ByteArray)(b:Bool)(h:Hp)(hK:K.length<=10^8)=>XH (N+d) b K s h hK
  generalize N+d+1=M at ho abM|-;have hq:=cX ks;have hg:=eM ks;have hksx:=pR ks;generalize cZ ks=cq at hq hg;generalize fj l=r5;have vT:(if op=2 then ku [] nm else([]:List ByteArray)).length<=1:=by split<;>simp[ku]
  have main:∀(K0:List ByteArray)(X:Option (Out × St))(fr:LA),K0.length<=1->fr.length=40->gt fr 1= .pt 0 0->gt fr 3=eH 1 (eE K0)->
   ∃r h',dT [.tmp 2] (M (cT 3 SS) (fr,[.row [op,k,n',d',s,.ls 5 r5 false,nm,ds,.ls 9 cq false]]))=some (r,h')/\∃r',da h' 8 r=some r'/\EM 1 r'= .ls 1 (eE (gz ks K0)) false:=by
   intro K0 X fr hK cp h1 h3;simp[SS,cT,cR,f162];generalize cU:M (.loop _) _=XX;refine gk cU (λi st cD=>cD=[.row [op,k,n',d',s,.ls 5 r5 false,nm,ds,.ls 9 cq false]]/\st.length=40/\gt st 1= .pt 0 0/\gt st 3=eH 1 (eE (gz (ks.take i) K0))/\gt st 4=i)
    (λo st _=>o= .exit 0/\st.length=40/\gt st 3=eH 1 (eE (gz ks K0))) ks.length (by simp;omega) ⟨rfl,by simp[cp],by simp[h1],by simpa[gz]using h3,by simp[cp]⟩ ?_ ?_
   .clear cU XX cp h1 h3;rintro i fr hp cP ⟨hh,cp,h1,h3,h4⟩;subst hh;by_cases hi:i<ks.length
    .obtain⟨x,hx⟩:=eA hi;have hr:cq[i]?=some (cM x):=by rw[hg,hx];rfl
     have cC:=gA hr
     have hw:=λb h=>ho x (Zi hx) b h
     have hf:=cz (Yj cP qg);have dH:=cB x;have dO:gz (ks.take (i+1)) K0=(kI x).foldl ku (gz (ks.take i) K0):=by rw[jX hx,yf]
     have wN:=yR (ks:=ks) K0 i;have q9:(kI x).length<=iA ks:=Yj (xu x) (Bd (Zi hx));generalize cM x=ev at hr cC hw dH;have dJ:ev.take 9=ev:=Yy (by omega);generalize gz (ks.take i) K0=K at dO wN h3;generalize kI x=us at hw dO q9;have hqu:=cI us;have hgu:=iW us;generalize eE us=ru at hw hqu hgu;simp[cp,h1,h4,hi,hq,cC,hw,dH,dJ];generalize cU:M (.loop _) _=XX;refine gk cU (λj st cD=>cD=[.row [op,k,n',d',s,.ls 5 r5 false,nm,ds,.ls 9 cq false]]/\st.length=40/\gt st 1= .pt 0 0/\gt st 3=eH 1 (eE ((us.take j).foldl ku K))/\gt st 4=i/\gt st 5= .ls 1 ru false/\gt st 6=j)
      (λo st cD=>cD=[.row [op,k,n',d',s,.ls 5 r5 false,nm,ds,.ls 9 cq false]]/\o= .exit 2/\st.length=40/\gt st 1= .pt 0 0/\gt st 3=eH 1 (eE (us.foldl ku K))/\gt st 4=i) us.length (by simp;omega) ⟨rfl,by simp[cp,h1,h3,h4]⟩ ?_ ?_
     .clear cU XX cp h1 h3 h4;rintro j fr hp wV ⟨hh,cp,h1,h3,h4,h5,h6⟩;subst hh;by_cases hj:j<us.length
      .obtain⟨y,hy,hry,XI⟩:=il hgu hj;have hsy:(us.take (j+1)).foldl ku K=ku ((us.take j).foldl ku K) y:=by rw[jX hy,Xu];rfl
       have hl3:=ot (us.take j) K;rw[Xa]at hl3;generalize(us.take j).foldl ku K=K' at hsy hl3 h3;have fp:=λb h=>abM K' y b h (by omega)
       have xw:∀v,eH 1 (eE K')≠ .pn v:=λv=>by unfold eH;split<;>simp
       generalize eH 1 (eE K')=yK at fp xw h3;have q3:=akN xw
       have Dp:=cz (show j<=1000000000000000 by omega);simp[cp,h1,h3,h4,h5,h6,hj,hqu,XI,fp,q3,Dp];rw[hsy,HK]
      .have lD:j=us.length:=Yb wV (Ya hj);subst lD;rw[Xq]at h3;simp[cp,h1,h3,h4,h5,h6,hqu]
     .rintro o cG h' rfl ⟨hh,rfl,cp,h1,h3,h4⟩;subst hh;simp[cp,h1,h3,h4,hf];rw[dO];exact⟨hi,rfl⟩
    .have iJ:i=ks.length:=Yb cP (Ya hi);subst iJ;rw[Xq]at h3;simp[cp,h1,h3,h4,hq]
   .rintro o cG h' rfl ⟨rfl,cp,h3⟩;have xw:∀v,eH 1 (eE (gz ks K0))≠ .pn v:=λv=>by unfold eH;split<;>simp
    have gI:=mc 1 (eE (gz ks K0));have hnf:=kT 1 (eE (gz ks K0));generalize eH 1 (eE (gz ks K0))=yK at *;have q3:=akN xw
    simp[cp,h3,q3];exact qW ⟨_,iE (n:=6) gI,hnf⟩
  change∃r h',dT [.tmp 2] (M SS ([.ag [op,k,n',d',s,.ls 5 r5 false,nm,ds,.ls 9 cq false]]++List.replicate 39 .un,[]))=some (r,h')/\∃r',da h' 8 r=some r'/\EM 1 r'= .ls 1 (eE (gz ks (if op=2 then ku [] nm else[]))) false;rw[show SS= .seq (cL (cT 0 SS)) (.seq (cL (cT 1 SS)) (.seq (cL (cT 2 SS)) (cT 3 SS))) by kernel_rfl];generalize cT 3 SS=Z at main|-;by_cases c:op=2
  .subst c;rw[cw rfl]at vT|-;have fp:=λb h=>abM [] nm b h (by simp)
   rw[show eH 1 (eE [])= .sc (.slice none 0 0)from rfl]at fp;have hm:=λfr=>main (ku [] nm) none fr vT
   rw[HK]at hm;generalize ku [] nm=K0 at fp hm|-;simp[SS,cT,cR,cL,f162,fp];exact hm _ rfl rfl rfl
  .rw[cv c]at vT|-;have hm:=λfr=>main [] none fr vT
   simp[SS,cT,cR,cL,f162,c];exact hm _ rfl rfl rfl
def HL(a b c:Int):cS (cS a b) c=cS a (cS b c):=by
 unfold cS;by_cases h:a=0
 .rw[cw h,cw h]
 .rw[cv h,cv h,cv h]
def cO.Dq(s:cO)(a b:Int):(s.fail a).fail b=s.fail (cS a b):=by
 unfold cO.fail;simp only[HL]
def cO.Dr(s:cO):s.fail 0=s:=by
 unfold cO.fail;rw[uF]
def xx(l:gM)(us:List ByteArray):Int:=if(us.any λs=>decide (db l s=0))=true then 6 else 0
def Oe(l:gM)(us:List ByteArray)(x:ByteArray):xx l (us++[x])=if db l x=0 then cS (xx l us) 6 else xx l us:=by
 unfold xx cS;rw[List.any_append,List.any_cons,List.any_nil,Bool.or_false];by_cases h:db l x=0
 .rw[cw h];simp only[h,decide_true,Bool.or_true,if_true];split<;>simp_all
 .rw[cv h];simp only[h,decide_false,Bool.or_false]
def Og(e:Ep)(w:Bool):Int:=if(mG e && !(w && decide (e.op=24)))=true then 9 else 0
def jH(l:gM)(e:Ep)(w:Bool):Int:=cS (xx l (kI e)) (Og e w)
noncomputable def sI :Code:=(f99.body).getD .skip
def ad9(N:Nat->Prop)(d M:Nat)(id:Nat)(yo:AV)(s:cO)(e:Ep)(w:Bool)(q:Nat)(h:Hp)(fr:LA)(hS:ga N id yo s h)(hM:1<=M)(cp:fr.length=40)(h0:gt fr 0= .pt id 0)(h3:gt fr 3=w)(h5:gt fr 5= .pt q 0)(hq:h[q]?=some (.row (cM e)))(ah:∀b h,cu cx M b 163 [.ag (cM e)] h=some (.sc (.bool (mG e)),h)):
 ∃cG h',M (cT 3 sI) (fr,h)=some (.normal,(cG,h'))/\ga N id yo (s.fail (Og e w)) h'/\dm id h h':=by
 obtain⟨k,rfl⟩:∃k,M=k+1:=⟨M-1,by omega⟩;obtain⟨h1,ae,gm,f_⟩:=lS N k true id yo s 9 h hS;generalize k+1=M at ae ah|-;unfold Og;obtain⟨a1,a2,a3,a4,a5,a7,a8,gC⟩:=EF e;rw[gC]at ah hq;generalize mG e=hg at ah|-;generalize e.op=op at ah hq|-;have v_:∀x:Bool,x=false->(∃cG,M (cT 3 sI) (fr,h)=some (.normal,(cG,h)))->∃cG h',M (cT 3 sI) (fr,h)=some (.normal,(cG,h'))/\ga N id yo (s.fail (if x=true then 9 else 0)) h'/\dm id h h':=by
  rintro x rfl ⟨cG,hx⟩;exact⟨cG,h,hx,by rw[cv (by simp),cO.Dr];exact hS,dm.refl id h⟩
 have Oh:∀x:Bool,x=true->(∃cG,M (cT 3 sI) (fr,h)=some (.normal,(cG,h1)))->∃cG h',M (cT 3 sI) (fr,h)=some (.normal,(cG,h'))/\ga N id yo (s.fail (if x=true then 9 else 0)) h'/\dm id h h':=by
  rintro x rfl ⟨cG,hx⟩;exact⟨cG,h1,hx,by rw[cw rfl];exact gm,f_⟩
 clear hS gm f_;cases hg
 .refine v_ _ rfl ?_;clear v_ Oh;simp[sI,cT,cR,f99,cp,h5,hq,ah]
 .cases w
  .refine Oh _ rfl ?_;clear v_ Oh;simp[sI,cT,cR,f99,cp,h0,h3,h5,hq,ah,ae]
  .by_cases c:op=24
   .refine v_ _ (by simp[c]) ?_;clear v_ Oh;subst c;simp[sI,cT,cR,f99,cp,h3,h5,hq,ah]
   .refine Oh _ (by simp[c]) ?_;clear v_ Oh;simp[sI,cT,cR,f99,cp,h0,h3,h5,hq,ah,ae,c]
def mq(N:Nat->Prop)(D d n:Nat)(t:Bool)(id:Nat)(yo:AV)(s:cO)(e:Ep)(l:gM)(y:AV)(w:Bool)(h:Hp)(hS:ga N id yo s h)(hy:iV h l y)(PL:A8 id y)(hl:l.length<=10^6)(he:oz D d e)(hc:dc e<=1000000)(hn:3*d+10<=n):
 ∃h',cu cx n t 99 [.pt id 0,.ag (cM e),y,w] h=some (.tp [],h')/\ga N id yo (s.fail (jH l e w)) h'/\dm id h h':=by
 obtain⟨M,rfl⟩:∃M,n=M+1:=⟨n-1,by omega⟩;obtain⟨k1,e1⟩:∃k,M=k+1:=⟨M-1,by omega⟩;obtain⟨k2,e2⟩:∃k,M=k+d+1:=⟨M-d-1,by omega⟩;rw[rr (n:=M) f99 []];change∃h',dT [] (M sI ([.pt id 0,.ag (cM e),y,.sc (.bool w)]++List.replicate 36 .un,h))=some (.tp [],h')/\ga N id yo (s.fail (jH l e w)) h'/\dm id h h';have ae:=λb h=>SV D d e he.1 he.2 hc k2 b h
 have af:=λs b h(hy:iV h l y)=>og k1 b l y s h hy hl
 have ah:=λb h=>Ai D d e he.1 he.2 k2 b h
 have ai:=λ(s:cO)h hS=>lS N k1 true id yo s 6 h hS
 rw[<-e1]at af ai;rw[<-e2]at ae ah;have hM:1<=M:=by omega
 have Wa:(kI e).length<=10^6:=by have:=xu e;omega
 unfold jH;have k3:=λs fr H hS cp h0 h3 h5 hq=>ad9 N d M id yo s e w h.length H fr hS hM cp h0 h3 h5 hq ah
 clear e1 e2 hn hc he ah;rw[show sI= .seq (cL (cT 0 sI)) (.seq (cL (cT 1 sI)) (.seq (cL (cT 2 sI)) (cT 3 sI))) by kernel_rfl];generalize cT 3 sI=Z at k3|-;have gm:=hS.app [.row (cM e)];have IW:iV (h++[.row (cM e)]) l y:=hy.grow _;have f_:dm id h (h++[.row (cM e)]):=dm.app _ _ _;have hb:(h++[.row (cM e)])[h.length]?=some (.row (cM e)):=by simp
 have aif:h.length≠id:=by have:=hS.lt;omega
 generalize Og e w=ag at k3|-;obtain⟨a1,a2,a3,a4,a5,a7,a8,gC⟩:=EF e;rw[gC]at ae k3 gm IW f_ hb|-;generalize kI e=us at ae Wa|-;have xw:∀v,y≠ .pn v:=λv=>hy.np v
 have q3:=akN xw
 have hq:=cI us;have Wb:=iW us;generalize eE us=cq at ae hq Wb;generalize hH1:h++[.row [e.op,a1,a2,a3,a4,a5,e.nm,a7,a8]]=H1 at gm IW f_ hb;simp[sI,cT,cR,cL,f99,ae,hH1,hb];generalize cU:M (.loop _) _=XX;refine gk cU (λi st cD=>st.length=40/\gt st 0= .pt id 0/\gt st 2=y/\gt st 3=w/\gt st 5= .pt h.length 0/\gt st 8= .ls 1 cq false/\gt st 9=i/\ga N id yo (s.fail (xx l (us.take i))) cD/\dm id H1 cD)
  (λo st cD=>o= .exit 0/\st.length=40/\gt st 0= .pt id 0/\gt st 3=w/\gt st 5= .pt h.length 0/\ga N id yo (s.fail (xx l us)) cD/\dm id H1 cD) us.length (by simp;omega) ⟨by simp,by simp,by simp,by simp,by simp,by simp,by simp,by rw[List.take_zero];simpa[xx,cO.Dr]using gm,dm.refl _ _⟩ ?_ ?_
 .clear cU XX;rintro i fr hp cP ⟨cp,h0,h2,h3,h5,h8,h9,hS,hK⟩;rcases dY Wb cP with⟨x,hi,hx,hr,cC⟩|rfl
  .have hf:=cz (show i<=10^15 by omega);have hu:xx l (us.take (i+1))=if db l x=0 then cS (xx l (us.take i)) 6 else xx l (us.take i):=by rw[jX hx,Oe]
   have hyp:iV hp l y:=IW.keep hK PL;have fk:=λb=>af x b hp hyp
   obtain⟨h',g1,g2,g3⟩:=ai _ hp hS;rw[cO.Dq]at g2;have hKK:=hK.trans g3;by_cases hk:db l x=0
   .rw[cw hk]at hu;rw[hk]at fk;simp[cp,h0,h2,h3,h5,h8,h9,hi,hq,cC,fk,q3,g1,hf];rw[hu];exact⟨g2,hKK⟩
   .rw[cv hk]at hu;generalize db l x=kk at fk hk;simp[cp,h0,h2,h3,h5,h8,h9,hi,hq,cC,fk,q3,hk,hf];rw[hu];exact⟨hS,hK⟩
  .rw[Xq]at hS;simp[cp,h0,h3,h5,h8,h9,hq];exact⟨hS,hK⟩
 .rintro o cG h' rfl ⟨rfl,cp,h0,h3,h5,hS,hK⟩;obtain⟨Lm,h2,g1,g2,g3⟩:=k3 _ cG h' hS cp h0 h3 h5 (hK _ _ hb aif);rw[cO.Dq]at g2;simp;rw[g1];exact⟨h2,rfl,g2,(f_.trans hK).trans g3⟩
def cO.Ds(s:cO)(k:Int):cO:=if k=0 then s.fail 6 else s
def cO.Be(s:cO)(k:Int)(nd:Bool):cO:=if(!decide (k=1) && (!decide (k=2)||nd))=true then s.fail 8 else s
def cO.elem(s:cO)(nm:ByteArray)(nd:Bool):cO:=(s.Ds (db s.now nm)).Be (db s.now nm) nd
noncomputable def xy :Code:=(f104.body).getD .skip
def HM(N:Nat->Prop)(n:Nat)(t:Bool)(id:Nat)(yo:AV)(s:cO)(nm:ByteArray)(nd:Bool)(h:Hp)(hS:ga N id yo s h)(hl:s.now.length<=10^6):∃h',cu cx (n+2) t 104 [.pt id 0,nm,nd] h=some (.tp [],h')/\ga N id yo (s.elem nm nd) h'/\dm id h h':=by
 rw[rr (n:=n+1) f104 []];change∃h',dT [] (dd cx (cu cx (n+1)) xy ([.pt id 0,.sc (.string nm),.sc (.bool nd)]++List.replicate 25 .un,h))=some (.tp [],h')/\ga N id yo (s.elem nm nd) h'/\dm id h h';have ff:=λ(s:cO)e h hS=>lS N n true id yo s e h hS
 unfold cO.elem;generalize hk:db s.now nm=k;have tail:∀(s1:cO)(h1:Hp)(fr:LA),ga N id yo s1 h1->dm id h h1->fr.length=28->gt fr 0= .pt id 0->gt fr 2= .sc (.bool nd)->gt fr 6= .sc (.int .i64 k)->∃h',dT [] (dd cx (cu cx (n+1)) (cT 2 xy) (fr,h1))=some (.tp [],h')/\ga N id yo (s1.Be k nd) h'/\dm id h h':=by
  intro s1 h1 fr gm hK cp g0 g2 g6;obtain⟨h2,ae,jI,ph⟩:=ff s1 8 h1 gm;unfold cO.Be;generalize n+1=M at ae|-;by_cases k1:k=1
  .refine⟨h1,?_,by rw[cv (by simp[k1])];exact gm,hK⟩;simp[xy,cT,cR,f104,cp,g6,k1,h_]
  .by_cases k2:k=2
   .subst k2;cases nd
    .refine⟨h1,?_,by rw[cv (by simp)];exact gm,hK⟩;simp[xy,cT,cR,f104,cp,g2,g6,h_]
    .refine⟨h2,?_,by rw[cw (by simp)];exact jI,hK.trans ph⟩;simp[xy,cT,cR,f104,cp,g0,g2,g6,ae,h_]
   .refine⟨h2,?_,by rw[cw (by simp[k1,k2])];exact jI,hK.trans ph⟩;simp[xy,cT,cR,f104,cp,g0,g6,k1,k2,ae,h_]
 rw[show xy= .seq (cL (cT 0 xy)) (.seq (cL (cT 1 xy)) (cT 2 xy)) by kernel_rfl];generalize cT 2 xy=Z at tail|-;obtain⟨h2,af,jI,ph⟩:=ff s 6 h hS;have ig:=hS;obtain⟨yn,g0,hN,hb,⟨ho,lV⟩,hn,rz⟩:=ig;have fk:=λb=>og n b s.now yn nm h hn hl
 rw[hk]at fk;have q3:=akN (λv=>hn.np v)
 clear ff hn rz ho lV hb hk;unfold cO.Ds;generalize n+1=M at *;by_cases k0:k=0
 .subst k0;rw[cw rfl];simp[xy,cT,cR,cL,f104,g0,fk,q3,af];exact tail _ _ _ jI ph rfl rfl rfl rfl
 .rw[cv k0];simp[xy,cT,cR,cL,f104,g0,fk,q3,k0];exact tail _ _ _ hS (dm.refl _ _) rfl rfl rfl rfl
def cO.props(s:cO)(l:List Pp):cO:=l.foldl (λs q=>s.fail (jH s.old q.e false)) s
def ga.old{N:Nat->Prop}{id:Nat}{yo:AV}{s:cO}{h:Hp}(hS:ga N id yo s h):iV h s.old yo:=by
 obtain⟨yn,h0,hN,hl,⟨ho,lV⟩,hn,rz⟩:=hS;exact ho
def ga.PO{N:Nat->Prop}{id:Nat}{yo:AV}{s:cO}{h:Hp}(hS:ga N id yo s h):¬N id:=by
 obtain⟨yn,h0,hN,_⟩:=hS;exact hN
def ga.off{N:Nat->Prop}{id:Nat}{yo:AV}{s:cO}{h:Hp}(hS:ga N id yo s h):A8 id yo:=by
 obtain⟨yn,h0,hN,hl,⟨ho,lV⟩,hn,rz⟩:=hS;exact λk m e q=>hN (q▸lV k m e)
noncomputable def rJ :Code:=(f160.body).getD .skip
def aih(N:Nat->Prop)(D d M id q:Nat)(yo:AV)(s:cO)(x:Np)(h:Hp)(fr:LA)(hS:ga N id yo s h)(AF:s.old.length<=10^6)(hb:∀p∈x.props,ub D d p.e)(hl:x.props.length<=10^9)(hM:3*d+20<=M)(cp:fr.length=67)(g0:gt fr 0= .pt id 0)(g3:gt fr 3= .pt q 0)(wP:N q)(gb:h[q]?=some (.row (dD x))):
 ∃h',dT [] (M (cT 3 rJ) (fr,h))=some (.tp [],h')/\ga N id yo (s.props x.props) h'/\KN N h h':=by
 have hq:=dP x.props;have hg:=jf x.props;have fc:=λ(s':cO)(h:Hp)(p:Pp)(hp:p∈x.props)(hS:ga N id yo s' h)(ho:s'.old=s.old)b=>mq N D d M b id yo s' p.e s'.old yo false h hS hS.old hS.off (by rw[ho];exact AF) (hb p hp).1 (hb p hp).2 (by omega)
 have PE:x.props.length<=10^9:=hl;unfold dD at gb;generalize hT:s.props x.props=T;generalize x.props=l at hq hg fc hT PE gb;generalize jw l=cq at hq hg gb;simp[rJ,cT,cR,f160];generalize cU:M (.loop _) _=XX;refine gk cU
  (λi st cD=>st.length=67/\gt st 0= .pt id 0/\gt st 3= .pt q 0/\gt st 5=i/\∃s',ga N id yo s' cD/\KN N h cD/\s'.old=s.old/\s'.props (l.drop i)=T)
  (λo st cD=>o= .exit 0/\ga N id yo T cD/\KN N h cD)
  l.length (by simp;omega) ⟨by simp[cp],by simp[g0],by simp[g3],by simp[cp],s,hS,KN.refl _ _,rfl,hT⟩ ?_ ?_
 .clear cU XX hT hS cp g0 g3;rintro i fr hp cP ⟨cp,h0,h3,h5,s',hS,hK,GJ,hT⟩;have gq:=hK _ _ wP gb;rcases dY hg cP with⟨x,hi,hx,hr,cC⟩|rfl
  .have dB:=Zi hx;have hf:=cz (show i<=10^15 by omega);rw[cH hx]at hT;change(s'.fail (jH s'.old x.e false)).props (l.drop (i+1))=T at hT;obtain⟨h',ae,ig,hK'⟩:=fc s' hp x dB hS GJ false;have hN:¬N id:=hS.PO;have PL:=hS.old;obtain⟨yn,gr,_⟩:=hS;have q3:=akO (λv=>PL.np v)
   have hold:(s'.fail (jH s'.old x.e false)).old=s.old:=GJ;generalize s'.fail (jH s'.old x.e false)=s2 at hT ig hold;generalize s'.e=e0 at gr;unfold eF at hr cC;have dH:=cB x.e;generalize cM x.e=ev at hr cC dH ae;have dJ:ev.take 9=ev:=Yy (by omega);have gq':=dh gq;have Ma:=dh gr;simp[cp,h0,h3,h5,hi,hq,cC,dH,dJ,gq,gr,q3,ae,hf];exact⟨s2,ig,hK.trans (KN.jg hK' hN),hold,hT⟩
  .rw[Yc]at hT;subst hT;simp[cp,h3,h5,gq,hq];exact⟨hS,hK⟩
 .rintro o cG h' rfl ⟨rfl,ig,hK'⟩;simp[h_];exact⟨ig,hK'⟩
noncomputable def nt :Code:=(f161.body).getD .skip
def aii(N:Nat->Prop)(D d M id q:Nat)(yo:AV)(s:cO)(x:Gp)(h:Hp)(fr:LA)(hS:ga N id yo s h)(AF:s.old.length<=10^6)(hb:∀p∈x.props,ub D d p.e)(hl:x.props.length<=10^9)(hM:3*d+20<=M)(cp:fr.length=67)(g0:gt fr 0= .pt id 0)(g3:gt fr 3= .pt q 0)(wP:N q)(gb:h[q]?=some (.row (dE x))):
 ∃h',dT [] (M (cT 5 nt) (fr,h))=some (.tp [],h')/\ga N id yo (s.props x.props) h'/\KN N h h':=by
 have hq:=dP x.props;have hg:=jf x.props;have fc:=λ(s':cO)(h:Hp)(p:Pp)(hp:p∈x.props)(hS:ga N id yo s' h)(ho:s'.old=s.old)b=>mq N D d M b id yo s' p.e s'.old yo false h hS hS.old hS.off (by rw[ho];exact AF) (hb p hp).1 (hb p hp).2 (by omega)
 have PE:x.props.length<=10^9:=hl;unfold dE at gb;generalize hT:s.props x.props=T;generalize x.props=l at hq hg fc hT PE gb;generalize jw l=cq at hq hg gb;simp[nt,cT,cR,f161];generalize cU:M (.loop _) _=XX;refine gk cU
  (λi st cD=>st.length=67/\gt st 0= .pt id 0/\gt st 3= .pt q 0/\gt st 6=i/\∃s',ga N id yo s' cD/\KN N h cD/\s'.old=s.old/\s'.props (l.drop i)=T)
  (λo st cD=>o= .exit 0/\ga N id yo T cD/\KN N h cD)
  l.length (by simp;omega) ⟨by simp[cp],by simp[g0],by simp[g3],by simp[cp],s,hS,KN.refl _ _,rfl,hT⟩ ?_ ?_
 .clear cU XX hT hS cp g0 g3;rintro i fr hp cP ⟨cp,h0,h3,h5,s',hS,hK,GJ,hT⟩;have gq:=hK _ _ wP gb;rcases dY hg cP with⟨x,hi,hx,hr,cC⟩|rfl
  .have dB:=Zi hx;have hf:=cz (show i<=10^15 by omega);rw[cH hx]at hT;change(s'.fail (jH s'.old x.e false)).props (l.drop (i+1))=T at hT;obtain⟨h',ae,ig,hK'⟩:=fc s' hp x dB hS GJ false;have hN:¬N id:=hS.PO;have PL:=hS.old;obtain⟨yn,gr,_⟩:=hS;have q3:=akO (λv=>PL.np v)
   have hold:(s'.fail (jH s'.old x.e false)).old=s.old:=GJ;generalize s'.fail (jH s'.old x.e false)=s2 at hT ig hold;generalize s'.e=e0 at gr;unfold eF at hr cC;have dH:=cB x.e;generalize cM x.e=ev at hr cC dH ae;have dJ:ev.take 9=ev:=Yy (by omega);have gq':=dh gq;have Ma:=dh gr;simp[cp,h0,h3,h5,hi,hq,cC,dH,dJ,gq,gr,q3,ae,hf];exact⟨s2,ig,hK.trans (KN.jg hK' hN),hold,hT⟩
  .rw[Yc]at hT;subst hT;simp[cp,h3,h5,gq,hq];exact⟨hS,hK⟩
 .rintro o cG h' rfl ⟨rfl,ig,hK'⟩;simp[h_];exact⟨ig,hK'⟩
structure gQ (s:cO):Prop where
 old:s.old.length<=10^6
 now:s.now.length<=10^6
def gQ.fail{s:cO}(h:gQ s)(e:Int):gQ (s.fail e):=⟨h.old,h.now⟩
def gQ.push{s:cO}(h:gQ s)(hl:s.e=0->s.now.length<1000000)(nm:ByteArray)(k:Int):gQ (s.push nm k):=by
 unfold cO.push;split
 .rename_i h0;refine⟨h.old,?_⟩;have:=hl h0;simp only[Zu,List.length_singleton];omega
 .exact h
def gQ.intro{s:cO}(h:gQ s)(nm:ByteArray)(k:Int):gQ (s.intro nm k):=by
 unfold cO.intro;split
 .refine(h.fail 4).push (λh0=>?_) nm k;have:cS s.e 4=0:=h0;unfold cS at this;split at this<;>omega
 .exact h.push (λ_=>by omega) nm k
def Bf :∀(l:List Pp){s:cO},gQ s->gQ (s.props l)/\(s.props l).old=s.old
 | [],s,h=>⟨h,rfl⟩
 |
  q::l,s,h=>by
  have:=Bf l (h.fail (jH s.old q.e false));exact⟨this.1,this.2⟩
def SX(s:cO)(nm:ByteArray)(k:Int):(s.push nm k).old=s.old:=by unfold cO.push;split<;>rfl
def XJ(s:cO)(nm:ByteArray)(k:Int):(s.push nm k).kd=s.kd:=by unfold cO.push;split<;>rfl
def dU(s:cO)(nm:ByteArray)(k:Int):(s.intro nm k).old=s.old:=by unfold cO.intro;rw[SX];split<;>rfl
def Bg(s:cO)(nm:ByteArray)(k:Int):(s.intro nm k).kd=s.kd:=by unfold cO.intro;rw[XJ];split<;>rfl
def ga.row{N:Nat->Prop}{id:Nat}{yo:AV}{s:cO}{h:Hp}(hS:ga N id yo s h):∃yn,h[id]?=some (.row [yo,yn,s.kd,s.e]):=by
 obtain⟨yn,h0,_⟩:=hS;exact⟨yn,h0⟩
def cO.node8(s:cO)(k:Int):cO:=if k=1 then s else s.fail 8
def cO.node7(s:cO)(m:Nat):cO:=if(!decide (s.kd=1) && decide (0<m))=true then s.fail 7 else s
def cO.jt(s:cO)(x:Np):cO:=if dn x.var ⟨#[]⟩=true then s else if db s.now x.var=0 then s.intro x.var 1 else(s.node8 (db s.now x.var)).node7 (x.labels.length+x.props.length)
def cO.node(s:cO)(x:Np):cO:=(s.jt x).props x.props
def gQ.jt{s:cO}(h:gQ s)(x:Np):gQ (s.jt x)/\(s.jt x).old=s.old/\(s.jt x).kd=s.kd:=by
 unfold cO.jt;split
 .exact⟨h,rfl,rfl⟩
 .split
  .exact⟨h.intro _ _,dU _ _ _,Bg _ _ _⟩
  .unfold cO.node7 cO.node8;split<;>split<;>exact⟨⟨h.old,h.now⟩,rfl,rfl⟩
def SZ(N:Nat->Prop)(D d n:Nat)(t:Bool)(id:Nat)(yo:AV)(s:cO)(x:Np)(h:Hp)(hS:ga N id yo s h)(hs:gQ s)(xz:∀k m,yo= .sl k 2 0 m false->N k)(hb:bbN D d x)(hd:bdN D d x)(hn:3*d+30<=n):
 ∃h',cu cx n t 160 [.pt id 0,.ag (dD x)] h=some (.tp [],h')/\ga N id yo (s.node x) h'/\KN N h h':=by
 obtain⟨M,rfl⟩:∃m,n=m+1:=⟨n-1,by omega⟩;obtain⟨k1,e1⟩:∃k,M=k+1:=⟨M-1,by omega⟩;obtain⟨k2,e2⟩:∃k,M=k+2:=⟨M-2,by omega⟩;rw[rr (n:=M) f160 []];change∃h',dT [] (M rJ ([.pt id 0,.ag (dD x)]++List.replicate 65 .un,h))=some (.tp [],h')/\ga N id yo (s.node x) h'/\KN N h h';have jI:=hS.more (.row (dD x));have RD:x.labels.length<=10^9:=hd.1;have oy:x.props.length<=10^9:=hd.2.1;obtain⟨hV1,hV2,hV3⟩:=hs.jt x;have tail:∀(fr:LA)(h1:Hp)(s1:cO),ga (λj=>N j\/j=h.length) id yo s1 h1->KN (λj=>N j\/j=h.length) (h++[.row (dD x)]) h1->s1.old.length<=10^6->fr.length=67->gt fr 0= .pt id 0->gt fr 3= .pt h.length 0->∃h',dT [] (M (cT 3 rJ) (fr,h1))=some (.tp [],h')/\ga N id yo (s1.props x.props) h'/\KN N h h':=by
  intro fr h1 s1 gm hK ho cp g0 g3;obtain⟨h',ae,ig,hK'⟩:=aih (λj=>N j\/j=h.length) D d M id h.length yo s1 x h1 fr gm ho hb.1 hb.2 (by omega) cp g0 g3 (.inr rfl) (hK _ _ (.inr rfl) (by simp));exact⟨h',ae,ig.less (λj hj=> .inl hj) xz,(KN.app N h _).trans ((hK.trans hK').less λj hj=> .inl hj)⟩
 rw[show rJ= .seq (cL (cT 0 rJ)) (.seq (cL (cT 1 rJ)) (.seq (cL (cT 2 rJ)) (cT 3 rJ))) by kernel_rfl];have Xy:¬(λj=>N j\/j=h.length) id:=jI.PO;have ff:=λ(s:cO)e H hS=>lS (λj=>N j\/j=h.length) k1 true id yo s e H hS
 have fi:=λnm k=>ti (λj=>N j\/j=h.length) k2 true id yo s nm k _ jI hs.now
 rw[<-e1]at ff;rw[<-e2]at fi;generalize cT 3 rJ=Z at tail|-;have wQ:∀{a b:Hp},dm id a b->KN (λj=>N j\/j=h.length) a b:=λhk=>KN.jg hk Xy
 have zg:=jI;obtain⟨yn,g0,hN,FT,⟨ho,lV⟩,Mb,S0⟩:=zg;have fk:=λb=>og k1 b s.now yn x.var _ Mb hs.now
 rw[<-e1]at fk;have q3:=akO (λv=>Mb.np v)
 clear ho lV Mb S0 FT e1 e2 hn hN;have gb:(h++[.row (dD x)])[h.length]?=some (.row (dD x)):=by simp
 have S3:∀{h1:Hp},KN (λj=>N j\/j=h.length) (h++[.row (dD x)]) h1->h1[h.length]?=some (.row (dD x)):=λhk=>hk _ _ (.inr rfl) gb
 unfold cO.node cO.jt;generalize db s.now x.var=k at *;have Lu:=cI x.labels;have wM:=dP x.props;have hf:dA .i64 (((x.labels.length:Nat):Int)+((x.props.length:Nat):Int))=((x.labels.length+x.props.length:Nat):Int):=by rw[cK (by omega) (by omega)];omega
 unfold dD at *;generalize eE x.labels=rl,jw x.props=rp,x.labels.length=nl,x.props.length=np at *;generalize cY:([.sc (.string x.var),.ls 1 rl false,.ls 10 rp false]:LA)=row at *;have di:=cY.symm;generalize hH:h++[eV.row row]=H at *;have gb':=dh gb;have Nc:=dh g0;by_cases he:dn x.var ⟨#[]⟩=true
 .rw[cw he];subst di;simp[cL,cT,cR,rJ,f160,hH,g0,gb,q3,fk,he];exact tail _ _ s jI (KN.refl _ _) hs.old (by simp) (by simp) (by simp)
 rw[cv he];simp only[Xs]at he;by_cases k0:k=0
 .rw[cw k0];subst k0;obtain⟨h1,ae,gm,f_⟩:=fi x.var 1;subst di;simp[cL,cT,cR,rJ,f160,hH,g0,gb,q3,fk,he,ae];exact tail _ _ _ gm f_ (by rw[dU];exact hs.old) (by simp) (by simp) (by simp)
 rw[cv k0];unfold cO.node8 cO.node7;by_cases kk:k=1
 .rw[cw kk];subst kk;by_cases cc:(!decide (s.kd=1) && decide (0<nl+np))=true
  .rw[cw cc];simp only[Zh,Xd,decide_eq_false_iff_not,Zy]at cc;obtain⟨h1,ae,gm,f_⟩:=ff s 7 _ jI;have c2:(0:Int)< ((nl+np:Nat):Int):=by omega
   have c1:=cc.1;generalize s.kd=kd at c1 g0 Nc;generalize nl+np=q at hf c2;have BM:0<q:=Int.natCast_pos.1 c2;subst di;simp[cL,cT,cR,rJ,f160,hH,g0,gb,q3,fk,he,Lu,wM,c1,BM,hf,ae];exact tail _ _ _ gm (wQ f_) hs.old (by simp) (by simp) (by simp)
  .rw[cv cc];by_cases c1:s.kd=1
   .rw[c1]at g0 Nc;subst di;simp[cL,cT,cR,rJ,f160,hH,g0,gb,q3,fk,he];exact tail _ _ s jI (KN.refl _ _) hs.old (by simp) (by simp) (by simp)
   .have c2:nl+np=0:=by
     simp only[Zh,Xd,decide_eq_false_iff_not,Zy,not_and]at cc;have:=cc c1;omega
    rw[c2]at hf;generalize s.kd=kd at c1 g0 Nc;subst di;simp[cL,cT,cR,rJ,f160,hH,g0,gb,q3,fk,he,Lu,wM,c1,hf];exact tail _ _ s jI (KN.refl _ _) hs.old (by simp) (by simp) (by simp)
 .rw[cv kk];obtain⟨h1,ae,gm,f_⟩:=ff s 8 _ jI;obtain⟨Wj,g1⟩:=gm.row;have E5:=S3 (wQ f_);have abN:=dh E5;have g1':=dh g1;change h1[id]?=some (.row [yo,Wj,s.kd,.sc (.int .i64 (s.fail 8).e)])at g1;change∀k,h1[id]'k=(.row [yo,Wj,s.kd,.sc (.int .i64 (s.fail 8).e)])at g1';by_cases cc:(!decide (s.kd=1) && decide (0<nl+np))=true
  .rw[cw (show(!decide ((s.fail 8).kd=1) && decide (0<nl+np))=true from cc)];simp only[Zh,Xd,decide_eq_false_iff_not,Zy]at cc;obtain⟨h3,ah,zg,Hq⟩:=ff (s.fail 8) 7 _ gm;have c2:(0:Int)< ((nl+np:Nat):Int):=by omega
   have c1:=cc.1;generalize(s.fail 8).e=e8 at g1 g1';generalize s.kd=kd at c1 g0 Nc g1 g1';generalize nl+np=q at hf c2;have BM:0<q:=Int.natCast_pos.1 c2;subst di;simp[cL,cT,cR,rJ,f160,hH,g0,gb,q3,fk,he,k0,kk,ae,g1,E5,Lu,wM,c1,BM,hf,ah];exact tail _ _ _ zg ((wQ f_).trans (wQ Hq)) hs.old (by simp) (by simp) (by simp)
  .rw[cv (show¬(!decide ((s.fail 8).kd=1) && decide (0<nl+np))=true from cc)];generalize(s.fail 8).e=e8 at g1 g1';by_cases c1:s.kd=1
   .rw[c1]at g0 Nc g1 g1';subst di;simp[cL,cT,cR,rJ,f160,hH,g0,gb,q3,fk,he,k0,kk,ae,g1];exact tail _ _ _ gm (wQ f_) hs.old (by simp) (by simp) (by simp)
   .have c2:nl+np=0:=by
     simp only[Zh,Xd,decide_eq_false_iff_not,Zy,not_and]at cc;have:=cc c1;omega
    rw[c2]at hf;generalize s.kd=kd at c1 g0 Nc g1 g1';subst di;simp[cL,cT,cR,rJ,f160,hH,g0,gb,q3,fk,he,k0,kk,ae,g1,E5,Lu,wM,c1,hf];exact tail _ _ _ gm (wQ f_) hs.old (by simp) (by simp) (by simp)
end
end Go.Proofs.YtmocfjnklfpnbaaGreatDoor
