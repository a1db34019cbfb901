/- Part of the proof. -/
import Derived.Test.YtmocfjnklfpnbaaGreatDoorP33
set_option linter.all false
set_option maxHeartbeats 32000000
set_option maxRecDepth 100000
namespace Go.Proofs.YtmocfjnklfpnbaaGreatDoor
open Go Go.Ae Go.Proofs.Tryz
section
attribute [local simp] ew eY
def oY(c:Cp)(S:gM):List Pr:=c.paths.flatMap (ml c.kind S)++((c.eu.flatMap λx=>ja x)++(ja c.e++((c.items.flatMap λx=>ja x.e)++((c.order.flatMap λx=>ja x.e)++((c.sets.flatMap λx=>akP S x)++((c.names.flatMap λx=>xL S x)++sq c))))))
def H2{D d:Nat}(hD:1<=D)(c:Cp)(S:gM)(hb:J0 D d c):gP D (oY c S):=by
 refine fR (jR λp hp=>vY hD c.kind S p (hb.paths p hp)) (fR (jR λx _=>lQ hD x) (fR (lQ hD c.e) (fR (jR λx _=>lQ hD x.e) (fR (jR λx _=>lQ hD x.e) (fR (jR λx _=>Mk hD S x) (fR (jR λx _=>Fc hD _) ?_))))));unfold sq;split
 .exact jk hD 5 mI
 .exact j4 D
def Oq(c:Cp)(S:gM):(oY c S).length<=rI c:=by
 have hlp:=fP (ml c.kind S) vm (sn c.kind S) c.paths;have hlw:=fP (λx=>ja x) (λx=>2*dc x) (λx=>fF x) c.eu;have cP:=fF c.e;have hli:=fP (λx:Ip=>ja x.e) (λx=>2*dc x.e) (λx=>fF x.e) c.items;have hlo:=fP (λx:BN=>ja x.e) (λx=>2*dc x.e) (λx=>fF x.e) c.order;have PE:=fP (λx:Sp=>akP S x) (λx=>2*dc x.e+2) (λx=>H0 S x) c.sets;have Cf:=fP (λx:ByteArray=>xL S x) (λ_=>1) (λx=>Nat.le_of_eq (zw _)) c.names;have hd:(sq c).length<=1:=by unfold sq;split<;>simp
 unfold oY rI;simp only[Zu];omega
def Kk(D d n:Nat)(hD:1<=D)(t:Bool)(S:gM)(z:AV)(hz:Tj S z)(c:Cp)(K:List Pr)(y:AV)(h:Hp)(hb:J0 D d c)(hy:fQ K y)(gK:gP D K)(hl:K.length+rI c<=100000000)(hn:3*D+d+32<=n):cu cx n t 23 [y,.ag (cA c),z] h=some (.ls 8 (gN ((oY c S).foldl cQ K)) false,h):=by
 obtain⟨M,rfl⟩:∃m,n=m+1:=⟨n-1,by omega⟩;refine XQ f23 [.tmp 6] (by have:=AZ c;rw[Zn]at this;rw[Zn,hy.calm,Zn,Zn,hz.cl];simpa using this) ?_ t h;show∃r h',dT [.tmp 6] (M jW ([y,.ag (cA c),z]++List.replicate 131 .un,[]))=some (r,h')/\∃r',da h' 8 r=some r'/\wZ 8 r'=_;change RP 6 _ _;obtain⟨k0,e0⟩:∃k,M=k+d+1:=⟨M-d-1,by omega⟩;have fx:=λb(K:List Pr)y(e:Ep)h(he:oz D d e)hy gK hl=>mL D hD d e he.1 he.2 k0 b K y h hy gK hl (by omega)
 rw[<-e0]at fx;have fa:=λb(K:List Pr)y k nm h hy hl gK=>jh D M b K y k nm h hy hl gK hD (by omega)
 have hM:3*D+d+30<=M:=by omega
 clear e0 hn;have RU:rI c=(c.paths.map vm).sum+(c.eu.map λx=>2*dc x).sum+2*dc c.e+(c.items.map λx=>2*dc x.e).sum+(c.order.map λx=>2*dc x.e).sum+(c.sets.map λx=>2*dc x.e+2).sum+(c.names.map λ_=>1).sum+1:=rfl;rw[RU]at hl;generalize hT:(oY c S).foldl cQ K=T;unfold oY at hT;simp only[Xu]at hT;have gI:(cA c).length=21:=by simp[cA,cB]
 have LC:(cA c).take 21=cA c:=Yy (by omega);have rO:(cA c)[0]?=some (.sc (.int .i64 c.kind)):=rfl;have yM:(cA c)[1]?=some (.sc (.bool c.opt)):=rfl;have hc3:(cA c)[3]?=some (.ls 3 (q7 c.paths) false):=rfl;have hc4:(cA c)[4]?=some (.ls 9 (cZ c.eu) false):=rfl;obtain⟨Kl,ab6,ab7,ab8⟩:=nZ c;have Lz:((cA c).drop 5).take 9=cM c.e:=by
  obtain⟨a0,a1,a2,a3,a4,a5,a6,a7,a8,gC,ta⟩:=qG c;rw[gC,ta];rfl
 generalize cA c=row at *;rw[show jW= .seq (cL (cT 0 jW)) (.seq (cL (cT 1 jW)) (.seq (cL (cT 2 jW)) (.seq (cL (cT 3 jW)) (.seq (cL (cT 4 jW)) (.seq (cL (cT 5 jW)) (.seq (cL (cT 6 jW)) (.seq (cL (cT 7 jW)) (cT 8 jW)))))))) by kernel_rfl];generalize hT1:(c.paths.flatMap (ml c.kind S)).foldl cQ K=T1 at hT;generalize hT2:(c.eu.flatMap λx=>ja x).foldl cQ T1=T2 at hT;generalize hT3:(ja c.e).foldl cQ T2=T3 at hT;generalize hT4:(c.items.flatMap λx=>ja x.e).foldl cQ T3=T4 at hT;generalize hT5:(c.order.flatMap λx=>ja x.e).foldl cQ T4=T5 at hT;generalize hT6:(c.sets.flatMap λx=>akP S x).foldl cQ T5=T6 at hT;generalize hT7:(c.names.flatMap λx=>xL S x).foldl cQ T6=T7 at hT;have WA:∀y fr h,fQ T7 y->gP D T7->T7.length+1<=100000000->mM z row fr h->gt fr 0=y->RP 6 T (M (cT 8 jW) (fr,h)):=by
  rintro y fr h hy gT hl ⟨cp,g2,g4,h0⟩ g0;have tU:=dh h0;have ab9:=iY rO;have ael:=iY yM;have q3:=akN hy.np
  have ae:=λb h=>fa b T7 y 5 ⟨#[]⟩ h hy (by omega) gT
  clear fa fx Lz hc3 hc4 Kl ab6 ab7 ab8 LC hT1 hT2 hT3 hT4 hT5 hT6 hT7 RU;unfold sq at hT;generalize c.kind=kd,c.opt=op at *;unfold RP;by_cases k8:kd=8
  .subst k8;cases op
   .rw[cv (by simp),Xr]at hT;subst hT;simp[jW,cT,cR,f23,cp,g0,g4,h0,gI,ab9,ael,q3];exact qW (RP.of hy)
   .rw[cw ⟨rfl,rfl⟩,Yi,Xr]at hT;subst hT;unfold mI;simp[cF,jW,cT,cR,f23,cp,g0,g4,h0,gI,ab9,ael,q3,ae];exact⟨_,_,⟨rfl,rfl⟩,RP.of (fQ.ls _)⟩
  .rw[cv (λe=>k8 e.1),Xr]at hT;subst hT;simp[jW,cT,cR,f23,cp,g0,g4,h0,gI,ab9,q3,k8];exact qW (RP.of hy)
 generalize cT 8 jW=Z8 at WA|-;have WB:=λy fr h(a1:fQ T6 y)a2 a3 a4 a5=>ab5 D d M hD hM S z hz c.kind c.names (eE c.names) row gI rO ab8 (cI _) (iW _) hb.n6 Z8 (RP 6 T) T7 1 WA T6 y fr h a1 a2 a3 hT7 a4 a5
 generalize Code.seq (cL (cT 7 jW)) Z8=Z7 at WB|-;have WC:=λy fr h(a1:fQ T5 y)a2 a3 a4 a5=>ab4 D d M hD hM S z hz c.kind c.sets (y_ c.sets) row gI rO ab7 (iQ _) (qx _) hb.n5 hb.sets Z7 (RP 6 T) T6 ((c.names.map λ_=>1).sum+1) (λy fr h b1 b2 b3 b4 b5=>WB y fr h b1 b2 (by omega) b4 b5) T5 y fr h a1 a2 a3 hT6 a4 a5
 generalize Code.seq (cL (cT 6 jW)) Z7=Z6 at WC|-;have BO:=λy fr h(a1:fQ T4 y)a2 a3 a4 a5=>ab3 D d M hD hM S z hz c.kind c.order (yZ c.order) row gI rO ab6 (iP _) (qw _) hb.n4 hb.order Z6 (RP 6 T) T5 ((c.sets.map λx=>2*dc x.e+2).sum+(c.names.map λ_=>1).sum+1) (λy fr h b1 b2 b3 b4 b5=>WC y fr h b1 b2 (by omega) b4 b5) T4 y fr h a1 a2 a3 hT5 a4 a5
 generalize Code.seq (cL (cT 5 jW)) Z6=Z5 at BO|-;have xb:=λy fr h(a1:fQ T3 y)a2 a3 a4 a5=>ab2 D d M hD hM S z hz c.kind c.items (xa c.items) row gI rO Kl (iO _) (qv _) hb.n3 hb.items Z5 (RP 6 T) T4 ((c.order.map λx=>2*dc x.e).sum+(c.sets.map λx=>2*dc x.e+2).sum+(c.names.map λ_=>1).sum+1) (λy fr h b1 b2 b3 b4 b5=>BO y fr h b1 b2 (by omega) b4 b5) T3 y fr h a1 a2 a3 hT4 a4 a5
 generalize Code.seq (cL (cT 4 jW)) Z5=Z4 at xb|-;have tJ:∀y fr h,fQ T2 y->gP D T2->T2.length+(2*dc c.e+(c.items.map λx=>2*dc x.e).sum+(c.order.map λx=>2*dc x.e).sum+(c.sets.map λx=>2*dc x.e+2).sum+(c.names.map λ_=>1).sum+1)<=100000000->mM z row fr h->gt fr 0=y->RP 6 T (M (.seq (cL (cT 3 jW)) Z4) (fr,h)):=by
  rintro y fr h hy gT hl ⟨cp,g2,g4,h0⟩ g0;have tU:=dh h0;have ae:=λb h=>fx b T2 y c.e h hb.e hy gT (by omega)
  have hl3:T3.length<=T2.length+2*dc c.e:=by rw[<-hT3];have h1:=fV (ja c.e) T2;have h2:=fF c.e;omega
  have gT3:gP D T3:=by rw[<-hT3];exact fS (lQ hD c.e) gT
  rw[hT3]at ae;have s4:=λfr hS g0=>xb _ fr h (fQ.ls T3) gT3 (by omega) hS g0
  have q3:=akN hy.np
  have hex:=cB c.e;clear xb BO WC WB WA fx fa hl hl3 hT1 hT2 hT3 hT4 hT5 hT6 hT7 RU;generalize cM c.e=ev at *;have dJ:ev.take 9=ev:=Yy (by omega);simp[jW,cT,cR,cL,f23,cp,g0,g4,h0,gI,Lz,q3,ae];exact s4 _ ⟨by simp[cp],by simp[g2],by simp[g4],h0⟩ (by simp[cp])
 generalize Code.seq (cL (cT 3 jW)) Z4=Z3 at tJ|-;have st2:=λy fr h(a1:fQ T1 y)a2 a3 a4 a5=>ab1 D d M hD hM S z hz c.kind c.eu (cZ c.eu) row gI rO hc4 (cX _) (eM _) hb.n2 hb.eu Z3 (RP 6 T) T2 (2*dc c.e+(c.items.map λx=>2*dc x.e).sum+(c.order.map λx=>2*dc x.e).sum+(c.sets.map λx=>2*dc x.e+2).sum+(c.names.map λ_=>1).sum+1) tJ T1 y fr h a1 a2 a3 hT2 a4 a5
 generalize Code.seq (cL (cT 2 jW)) Z3=Z2 at st2|-;have st1:=λfr h a4 a5=>ab0 D d M hD hM S z hz c.kind c.paths (q7 c.paths) row gI rO hc3 (iN _) (qu _) (by have:=hb.n1;omega) hb.paths Z2 (RP 6 T) T1 ((c.eu.map λx=>2*dc x).sum+(2*dc c.e+(c.items.map λx=>2*dc x.e).sum+(c.order.map λx=>2*dc x.e).sum+(c.sets.map λx=>2*dc x.e+2).sum+(c.names.map λ_=>1).sum+1)) (λy fr h b1 b2 b3 b4 b5=>st2 y fr h b1 b2 (by omega) b4 b5) K y fr h hy gK (by omega) hT1 a4 a5
 generalize Code.seq (cL (cT 1 jW)) Z2=Z1 at st1|-;clear st2 tJ xb BO WC WB WA fx fa hT1 hT2 hT3 hT4 hT5 hT6 hT7 RU hT hl rO yM hc3 hc4 Kl ab6 ab7 ab8 Lz;have q3:=akN hy.np
 have q4:=akN hz.np
 simp[jW,cT,cL,f23,gI];exact st1 _ _ ⟨by simp,by simp,by simp,rfl⟩ (by simp)
def DC :∀(a b:List Pr),ug a b=true->a.length=b.length/\∀(i:Nat)x y,a[i]?=some x->b[i]?=some y->dx x y=0
 | [],[],_=>⟨rfl,λi x y h=>by simp at h⟩
 | [],y::b,h=>by simp[ug]at h
 |x::a,[],h=>by simp[ug]at h
 |
  x::a,y::b,h=>by
  rw[ug,Zh,Zy]at h;obtain⟨h1,h2⟩:=DC a b h.2;refine⟨by simp[h1],λi u v hu hv=>?_⟩;cases i with
  |zero=>simp at hu hv;rw[<-hu,<-hv];exact h.1
  |succ i=>exact h2 i u v (by simpa using hu) (by simpa using hv)
def Tt(D n:Nat)(t:Bool)(A B:List Pr)(ya yb:AV)(h:Hp)(ha:fQ A ya)(hb:fQ B yb)(gA:gP D A)(gB:gP D B)(hs:ug A B=true)(hl:A.length<=10^9)(hn:3*D+10<=n):cu cx n t 9 [ya,yb] h=some ((true:AV),h):=by
 obtain⟨M,rfl⟩:∃m,n=m+1:=⟨n-1,by omega⟩;obtain⟨k0,e0⟩:∃k,M=k+3*D+8:=⟨M-3*D-8,by omega⟩;have fo:=λp q(hp:p∈A)(hq:q∈B)t h=>Hr k0 D p q (gA p hp) (gB q hq) t h
 rw[<-e0]at fo;clear e0 hn gA gB;obtain⟨hL,hO⟩:=DC A B hs;clear hs;have dL:[ya,yb].all calm=true:=by rw[Zn,Zn,ha.calm,hb.calm];rfl
 refine fU f9 [.tmp 4] dL rfl ?_ t h;clear dL;by_cases h0:A.length=0
 .obtain rfl:=Xp.1 h0;obtain rfl:=Xp.1 (hL.symm.trans h0);clear fo hO hL hl h0;rcases ha with rfl|⟨_,rfl⟩<;>rcases hb with rfl|⟨_,rfl⟩
  all_goals
   simp[gN,f9];generalize cU:M (.loop _) _=XX
  .refine gk cU (λi st _=>st.length=27/\gt st 0= .ls 8 [] false/\gt st 5=(0:Int)) (λo st _=>o= .exit 0/\st.length=27) 0 (by simp) ⟨by simp,by simp⟩ ?_ ?_
   .rintro i fr hp cP ⟨cp,g0,g5⟩;simp[cp,g0,g5]
   .rintro o cG h' rfl ⟨rfl,cp⟩;simp[cp]
  .refine gk cU (λi st _=>st.length=27/\gt st 0= .ls 8 [] false/\gt st 5=(0:Int)) (λo st _=>o= .exit 0/\st.length=27) 0 (by simp) ⟨by simp,by simp⟩ ?_ ?_
   .rintro i fr hp cP ⟨cp,g0,g5⟩;simp[cp,g0,g5]
   .rintro o cG h' rfl ⟨rfl,cp⟩;simp[cp]
  .refine gk cU (λi st _=>st.length=27/\gt st 0=()/\gt st 5=(0:Int)) (λo st _=>o= .exit 0/\st.length=27) 0 (by simp) ⟨by simp,by simp⟩ ?_ ?_
   .rintro i fr hp cP ⟨cp,g0,g5⟩;simp[cp,g0,g5]
   .rintro o cG h' rfl ⟨rfl,cp⟩;simp[cp]
  .refine gk cU (λi st _=>st.length=27/\gt st 0=()/\gt st 5=(0:Int)) (λo st _=>o= .exit 0/\st.length=27) 0 (by simp) ⟨by simp,by simp⟩ ?_ ?_
   .rintro i fr hp cP ⟨cp,g0,g5⟩;simp[cp,g0,g5]
   .rintro o cG h' rfl ⟨rfl,cp⟩;simp[cp]
 .obtain rfl:ya= .ls 8 (gN A) false:=ha.resolve_right λq=>h0 (by rw[q.1];rfl)
  obtain rfl:yb= .ls 8 (gN B) false:=hb.resolve_right λq=>h0 (by rw[hL,q.1];rfl)
  have Aq:=ef A;have hg1:=EH A;have CX:=ef B;have QM:=EH B;rw[<-hL]at CX;generalize gN A=ra,gN B=rb at *;simp[f9,Aq,CX];generalize cU:M (.loop _) _=XX;refine gk cU (λi st _=>st.length=27/\gt st 0= .ls 8 ra false/\gt st 1= .ls 8 rb false/\gt st 5=i) (λo st _=>o= .exit 0/\st.length=27) A.length (by simp;omega) ⟨by simp,by simp⟩ ?_ ?_
  .clear cU XX;rintro i fr hp cP ⟨cp,g0,g1,g5⟩;rcases dY hg1 cP with⟨x,hi,hx,hr,cC⟩|rfl
   .obtain⟨y,hy,hs,yY⟩:=il QM (hL▸hi);have fH:i<=10^15:=by omega
    have ae:=fo x y (Zi hx) (Zi hy);rw[hO i x y hx hy]at ae;have Bk:=eI x;have IY:=eI y;have tx:(eQ x).take 8=eQ x:=Yy (by omega);have ty:(eQ y).take 8=eQ y:=Yy (by omega);unfold uw at ae;clear fo hO hx hy;generalize eQ x=ex,eQ y=ey at *;have hf:=cz fH;simp[cp,g0,g1,g5,hi,Aq,CX,cC,yY,Bk,IY,tx,ty,ae,hf]
   .simp[cp,g0,g5,Aq]
  .rintro o cG h' rfl ⟨rfl,cp⟩;simp[cp]
noncomputable def tN :Code:=(f8.body).getD .skip
def mW(q:List Cp):List Cp->Nat->List Pr
 | [],_=> []
 |c::l,i=>oY c (dK q (i:Int)).1++mW q l (i+1)
def DD{D d:Nat}(hD:1<=D)(q:List Cp):∀(l:List Cp)(i:Nat),(∀c∈l,J0 D d c)->gP D (mW q l i)
 | [],_,_=>j4 D
 |c::l,i,h=>fR (H2 hD c _ (h c (by simp))) (DD hD q l (i+1) λx hx=>h x (by simp[hx]))
def OX(at' e:Int)(T:List Pr)(r:Option (Out × St)):Prop:=∃y h',dT [.tmp 2,.tmp 3,.tmp 4] r=some (.tp [y,at',e],h')/\fQ (if e=0 then T else[]) y
def Ot(eG:Bool->FuncId->LA->Hp->Option (AV × Hp))(D d:Nat)(hD:1<=D)(q:List Cp)(at' e:Int)(ZJ:e=0->at'=0)(hl:q.length<=10^6)(hr:∀c∈q,J0 D d c)(hm:(q.map rI).sum<=100000000)(h1:∀t h,eG t 21 [.ag (gL q)] h=some (.tp [.ud,at',e],h))(h2:∀(i:Nat)t h,eG t 22 [.ag (gL q),i] h=some (.tp [uX (dK q (i:Int)).1,.sc (.int .i64 (dK q (i:Int)).2.1),.sc (.int .i64 (dK q (i:Int)).2.2)],h))(h3:∀(c:Cp)(i:Nat)(K:List Pr)(y:AV)t h,c∈q->fQ K y->gP D K->K.length+rI c<=100000000->eG t 23 [y,.ag (cA c),uX (dK q (i:Int)).1] h=some (.ls 8 (gN ((oY c (dK q (i:Int)).1).foldl cQ K)) false,h)):
 OX at' e ((mW q q 0).foldl cQ []) (dd cx eG tN ([.ag (gL q)]++List.replicate 45 .un,[])):=by
 have hq:=jj q;have hg:=oQ q;have po:gL q=[.ls 21 (m_ q) false]:=rfl;by_cases he:e=0
 .subst he;obtain rfl:=ZJ rfl;rw[show tN= .seq (cL (cT 0 tN)) (.seq (cL (cT 1 tN)) (.seq (cL (cT 2 tN)) (cT 3 tN))) by kernel_rfl];generalize hT:(mW q q 0).foldl cQ []=T;have tJ:∀fr,fr.length=46->gt fr 1= .pt 0 0->gt fr 8= .sc (.slice none 0 0)->OX 0 0 T (dd cx eG (cT 3 tN) (fr,[.row [.ls 21 (m_ q) false]])):=by
   intro fr cp g1 g8;rw[po]at h1 h2;clear po h1;have aem:∀(i:Nat)v,uX (dK q (i:Int)).1≠ .pn v:=λi v=>by unfold uX;simp
   generalize m_ q=cq at *;simp[tN,cT,cR,f8];generalize cU:dd cx eG (.loop _) _=XX;refine gk cU
    (λi st cD=>cD=[.row [.ls 21 cq false]]/\st.length=46/\gt st 1= .pt 0 0/\gt st 9=i/\∃K',fQ K' (gt st 8)/\gP D K'/\K'.length+((q.drop i).map rI).sum<=100000000/\(mW q (q.drop i) i).foldl cQ K'=T)
    (λo st _=>o= .exit 0/\st.length=46/\fQ T (gt st 8))
    q.length (by simp;omega) ⟨rfl,by simp[cp],by simp[g1],by simp[cp],[],by simp[g8];exact fQ.nil,j4 D,by simpa using hm,hT⟩ ?_ ?_
   .clear cU XX hT cp g1 g8;rintro i fr hp cP ⟨hh,cp,g1,g9,K,hy,gK,iF,hT⟩;subst hh;generalize g8:gt fr 8=y at hy;have q3:=akN hy.np
    rcases dY hg cP with⟨c,hi,hx,Ln,Tn⟩|rfl
    .have dB:=Zi hx;have fH:i<=10^15:=by omega
     rw[cH hx,Yn,Yo]at iF;rw[cH hx,mW,Xu]at hT;have ae:=h2 i;have af:=λt h=>h3 c i K y t h dB hy gK (by omega)
     have rL:gP D ((oY c (dK q (i:Int)).1).foldl cQ K):=fS (H2 hD c _ (hr c dB)) gK;have q9:((oY c (dK q (i:Int)).1).foldl cQ K).length+((q.drop (i+1)).map rI).sum<=100000000:=by
      have h1:=fV (oY c (dK q (i:Int)).1) K;have h2:=Oq c (dK q (i:Int)).1;omega
     have q4:=akN (aem i)
     have hec:(cA c).length=21:=by simp[cA,cB]
     have LC:(cA c).take 21=cA c:=Yy (by omega);clear h2 h3 aem;generalize(oY c (dK q (i:Int)).1).foldl cQ K=K2,uX (dK q (i:Int)).1=z,(dK q (i:Int)).2.1=u1,(dK q (i:Int)).2.2=u2,cA c=row at *;have hf:=cz fH;simp[cp,g1,g8,g9,hi,hq,Tn,hec,LC,ae,af,q3,q4,hf];exact⟨_,fQ.ls _,rL,by simpa only[Xn]using q9,hT⟩
    .rw[Yc,mW,Xr]at hT;subst hT;simp[cp,g1,g8,g9,hq];exact hy
   .rintro o cG h' rfl ⟨rfl,cp,hy⟩;generalize g8:gt cG 8=y at hy;have q3:=akN hy.np
    unfold OX;simp[cp,g8,q3];exact hy
  generalize cT 3 tN=Z3 at tJ|-;rw[po]at h1;rw[po];clear po h2 h3 hT;generalize m_ q=cq at *;simp[tN,cT,cR,cL,f8,h1];exact tJ _ (by simp) (by simp) (by simp)
 .rw[show tN= .seq (cL (cT 0 tN)) (.seq (cL (cT 1 tN)) (cT 2 tN)) by kernel_rfl];generalize cT 2 tN=Z2;rw[po]at h1;rw[po];clear po h2 h3;generalize m_ q=cq at *;unfold OX;rw[cv he];simp[tN,cT,cR,cL,f8,h1,he];exact fQ.nil
def Km(N D:Nat)(b:Bool)(id:Nat)(L:List Pr)(rest:LA)(h:Hp)(ej:h[id]?=some (.row (L.flatMap eQ++rest)))(hl:L.length<=10^9)(hb:∀p∈L,kj p.v<=D/\oK p.v):
 ∃r:List Pr,r.Perm L/\(r.Pairwise λa b=>dx a b<=0)/\cu cx (N+2*D+9+1) b 18 [.sl id 8 0 L.length false,.fn 14 []] h=some (.tp [],h.set id (.row (r.flatMap eQ++rest))):=by
 have hc:=λx(hx:x∈L)y(hy:y∈L)=>LK N D x y (hb x hx) (hb y hy) false []
 generalize N+2*D+9=M at hc|-;obtain⟨r,p1,p2,p3⟩:=RM (call:=cu cx M false) (k:=8) (h:=h) (id:=id) (b:=false) (g:=14) eQ uw dx L rest (λp=>eI p) ej (by omega) (λx _=>iE (n:=6) (rT x)) (λx hx y hy=>⟨[],hc x hx y hy⟩) (ND L);refine⟨r,p1,p2.imp λ{a b}h=>by(have:=jS a b;omega),?_⟩;have e1:cx.vc 18 =none:=rfl;have e2:cx.inl 18 =true:=by kernel_rfl
 have e3:cx.ins 18 =some (8,0):=by kernel_rfl
 simp only[cu,e1,e2,e3,if_true];exact p3
def Tu(N D:Nat)(b:Bool)(L:List Pr)(y:AV)(h:Hp)(hy:ka h 8 (gN L) y)(hl:L.length<=10^9)(hb:∀p∈L,kj p.v<=D/\oK p.v):
 ∃(r:List Pr)(h':Hp),r.Perm L/\(r.Pairwise λa b=>dx a b<=0)/\cu cx (N+2*D+9+1) b 18 [y,.fn 14 []] h=some (.tp [],h')/\ka h' 8 (gN r) y/\(∀j,(∀k n,y= .sl k 8 0 n false->j≠k)->h'[j]?=h[j]?):=by
 rcases hy with⟨h1,rfl⟩|⟨h1,id,rfl,ej⟩
 .exact⟨L,h,.refl _,by(cases L with|nil=>exact List.Pairwise.nil|cons a L=>cases h1),NF _ b h,.inl ⟨h1,rfl⟩,λ_ _=>rfl⟩
 .have VW:h[id]?=some (.row (L.flatMap eQ++[])):=by rw[Yk,<-Hm];exact ej
  obtain⟨r,p1,p2,p3⟩:=Km N D b id L [] h VW hl hb;rw[Yk,<-Hm]at p3;rw[ef];refine⟨r,h.set id (.row (gN r).flatten),p1,p2,p3,.inr ⟨?_,id,?_,?_⟩,λj hj=>?_⟩
  .intro e;apply h1;have:=p1.length_eq;rw[<-ef,e]at this;have h0:L=[]:=Zl (by rw[<-this];rfl);rw[h0];rfl
  .rw[ef,p1.length_eq]
  .rw[Zj (Za.1 ej).1]
  .rw[Zq (λe=>hj id _ rfl e.symm)]
def H3{W:List Pr}{x p:Pr}(hW:kC W)(h:∀w∈W,dx w p<=0)(hp:dx p x<0):kC (W++[x]):=by
 unfold kC at *;rw[List.pairwise_append];refine⟨hW,List.pairwise_singleton _ _,λa ha b hb=>?_⟩;rw[List.mem_singleton.1 hb];exact qQ (h a ha) hp
def Fe{L:List Pr}(hw:L.Pairwise λa b=>dx a b<=0){k:Nat}{z p:Pr}(hz:z∈L.take (k+1))(hp:L[k]?=some p):dx z p<=0:=by
 rw[Xt,hp,Zz]at hz;rcases hz with hz|hz
 .have hw2:=hw;rw[<-List.take_append_drop k L,List.pairwise_append]at hw2;refine hw2.2.2 z hz p ?_;rw[cH hp];exact List.mem_cons_self ..
 .have:z=p:=by simpa using hz
  rw[this,nI];exact Int.le_refl 0
def lt_next{L:List Pr}(hw:L.Pairwise λa b=>dx a b<=0){k:Nat}{x p:Pr}(hx:L[k+1]?=some x)(hp:L[k]?=some p)(hc:¬dx x p=0):dx p x<0:=by
 have h1:p∈L.take (k+1+1):=List.mem_iff_getElem?.2 ⟨k,by rw[List.getElem?_take_of_lt (by omega)];exact hp⟩;have h2:=Fe hw h1 hx;have:=jS x p;omega
def Ml(L:List Pr):kC (L.take 1):=by
 unfold kC;cases L with
 |nil=>exact List.Pairwise.nil
 |cons a L=>exact List.pairwise_singleton _ _
def XV(L:List Pr)(r:AV)(h:Hp):Prop:=∃R,xo R L/\kC R/\R.length<=L.length/\(∀n,Ae.da h (n+1) r=some (eH 8 (gN R)))/\∀v,r≠ .pn v
def aca{L R:List Pr}{h:Hp}{id w:Nat}{cs:LA}(hS:xo R L)(FP:kC R)(hR:R.length=w)(cP:R.length<=L.length)(h0:0<w)(ej:h[id]?=some (.row ((gN R).flatten++cs))):XV L (.sl id 8 0 w false) h:=by
 refine⟨R,hS,FP,cP,λn=>?_,λv e=>by cases e⟩;have hq:=ef R;have hf:=pT R;have:=CQ (h:=h) (n:=n) (id:=id) (sz:=8) (cq:=gN R) (cs:=(gN R).flatten++cs) (by omega) (lM R) (pU R) (by rw[gu,ej]) (by rw[hq,<-hf];exact List.take_left' rfl) (by rw[hq,Zu,hf];omega);rw[hq,hR]at this;rw[this];unfold eH;cases R with
 |nil=>simp at hR;omega
 |cons a R=>rfl
def acb(M id:Nat)(L:List Pr)(hL:L.length<=10^9)(hw:L.Pairwise λa b=>dx a b<=0)(hs:∀x,dx x x=0)(ht:∀x y z,dx x y=0->dx z y=0->dx z x=0)(ho:∀p∈L,∀q∈L,∀t h,∃k,cu cx M t 20 [uw p,uw q] h=some (.sc (.bool (decide (dx p q=0))),h++k))(a:Nat)(ha:1<=a)(haL:a<L.length)(x p:Pr)(hx:L[a]?=some x)(hp:L[a-1]?=some p)(he:dx x p=0)(ZG:kC (L.take a))(fr:LA)(h:Hp)(cp:fr.length=66)(g0:gt fr 0= .sl id 8 0 L.length false)(g1:gt fr 1= .fn 20 [])(g5:gt fr 5=a)(ej:h[id]?=some (.row (gN L).flatten)):
 ∃cG h',M NI (fr,h)=some (.ret,(cG,h'))/\XV L (gt cG 4) h':=by
 rw[show NI= .seq (cL NI) (.seq (cL (cR NI)) (cR (cR NI))) by kernel_rfl];have st2:∀(W:List Pr)fr h,xo W L->kC W->0<W.length->W.length<L.length->fr.length=66->gt fr 0= .sl id 8 0 L.length false->gt fr 5= .sc (.int .i64 (W.length:Nat))->h[id]?=some (.row (gN (W++L.drop W.length)).flatten)->∃cG h',M (cR (cR NI)) (fr,h)=some (.ret,(cG,h'))/\XV L (gt cG 4) h':=by
  intro W fr h hW hWs h0 hl cp g0 g5 ej;have b1:W.length<=L.length:=by omega
  have b2:¬W.length=L.length:=by omega
  have b3:0<L.length-W.length:=by omega
  have b4:¬0=W.length:=by omega
  have vj:=pT (W++L.drop W.length);have b5:W.length*8+(L.length-W.length)*8<=(gN (W++L.drop W.length)).flatten.length:=by
   rw[vj,Zu,List.length_drop];omega
  obtain⟨cs,hcs⟩:∃cs,cF (gN (W++L.drop W.length)).flatten (W.length*8) ((List.range (L.length-W.length)).flatMap λ_=> [.sc (.int .i64 0),.sc (.string ⟨#[]⟩),.sc (.string ⟨#[]⟩),.sc (.int .i64 0),.sc (.int .i64 0),.sc (.int .i64 0),.sc (.string ⟨#[]⟩),.sc (.slice none 0 0)])=(gN W).flatten++cs:=by
   unfold cF;rw[EO,List.flatten_append,<-pT W,List.take_left' rfl,Zp];exact⟨_,rfl⟩
  have Ki:=aca (L:=L) (h:=h.set id (.row ((gN W).flatten++cs))) (id:=id) hW hWs rfl b1 h0 (dC ej);generalize(gN (W++L.drop W.length)).flatten=CS,hm:L.length-W.length=m at *;generalize W.length=w,L.length=n at *;simp[NI,FO,cT,cR,cL,f19,cp,g0,g5,qi,iC,b1,b2,b4,D7,ej,b3,b5,hcs,hm];refine⟨_,_,⟨rfl,rfl⟩,?_⟩;simp[cp];exact Ki
 generalize cR (cR NI)=Z at st2|-;obtain⟨m,hm⟩:∃m,L.length-a=m:=⟨_,rfl⟩;have hm2:L.length=a+m:=by omega
 have b6:a<=L.length:=by omega
 have b7:¬a=L.length:=by omega
 have hm1:1<=m:=by omega
 have hz0:∀z∈L.take (a+1),∃y∈L.take a,dx y z=0:=by
  intro z hz;rw[Xt,hx]at hz;rcases Zz.1 hz with hz|hz
  .exact⟨z,hz,hs z⟩
  .have:z=x:=by simpa using hz
   subst this;refine⟨p,?_,?_⟩
   .rw[List.mem_iff_getElem?];exact⟨a-1,by rw[List.getElem?_take_of_lt (by omega)];exact hp⟩
   .exact ht _ _ _ he (hs p)
 have vP:(L.take a).length=a:=List.length_take_of_le (by omega);have aen:∃W,(∀z∈W,z∈L.take (a+0+1))/\kC W/\(∀z∈L.take (a+0+1),∃y∈W,dx y z=0)/\0<W.length/\W.length<=a+0/\gt fr 5=W.length/\h[id]?=some (.row (gN (W++L.drop W.length)).flatten):=
  ⟨L.take a,λz hz=>by(show z∈L.take (a+1);rw[Xt];exact Zx _ hz),ZG,hz0,by omega,by omega,by rw[vP];exact g5,by rw[vP,List.take_append_drop];exact ej⟩
 obtain⟨W0,w1,ws,w2,w3,w4,w5,w6⟩:=aen;generalize hLn:L.length=n at *;simp[NI,FO,cT,cR,cL,f19,cp,g0,g5,qi,iC,b6,b7,hm];generalize cU:M (.loop _) _=XX;refine gk cU
  (λi st cD=>st.length=66/\gt st 0= .sl id 8 0 n false/\gt st 1= .fn 20 []/\gt st 6= .sl id 8 (a*8) m false/\gt st 7= .sc (.int .i64 ((i:Nat)+1))/\∃W,(∀z∈W,z∈L.take (a+i+1))/\kC W/\(∀z∈L.take (a+i+1),∃y∈W,dx y z=0)/\0<W.length/\W.length<=a+i/\gt st 5=W.length/\cD[id]?=some (.row (gN (W++L.drop W.length)).flatten))
  (λo st cD=>o= .exit 2/\st.length=66/\gt st 0= .sl id 8 0 n false/\∃W,xo W L/\kC W/\0<W.length/\W.length<n/\gt st 5=W.length/\cD[id]?=some (.row (gN (W++L.drop W.length)).flatten))
  (m-1) (by simp;omega) ⟨by simp[cp],by simp[g0],by simp[g1],by simp[cp],by simp[cp],W0,w1,ws,w2,w3,w4,by simp[w5],w6⟩ ?_ ?_
 .clear cU XX ZG w1 ws w2 w3 w4 w5 w6 W0 cp g0 g1 g5 ej hz0 st2 hx hp he x p;rintro i fr h cP ⟨cp,g0,g1,g6,g7,W,w1,ws,w2,w3,w4,g5,ej⟩;by_cases hi:i+1<m
  .obtain⟨x,hx⟩:∃x,L[a+i+1]?=some x:=⟨_,Zb (by omega)⟩;obtain⟨p,hp⟩:∃p,L[a+i]?=some p:=⟨_,Zb (by omega)⟩;obtain⟨y,hy⟩:∃y,L[W.length]?=some y:=⟨_,Zb (by omega)⟩;have hQ:∀j,W.length<=j->(W++L.drop W.length)[j]?=L[j]?:=λj hj=>by
    rw[Zf hj,Xj,show W.length+(j-W.length)=j by omega]
   have c1:=sr (Q:=W++L.drop W.length) (i:=a+i+1) (x:=x) (by rw[hQ _ (by omega)];exact hx);have c0:=sr (Q:=W++L.drop W.length) (i:=a+i) (x:=p) (by rw[hQ _ (by omega)];exact hp);have vj:=pT (W++L.drop W.length);have HZ:(W++L.drop W.length).length=n:=by rw[Zu,List.length_drop,hLn];omega
   rw[HZ]at vj;have k1:a*8+(i+1)*8+8<=n*8:=by omega
   have k0:a*8+i*8+8<=n*8:=by omega
   have kw:W.length*8+8<=n*8:=by omega
   have kwn:W.length<n:=by omega
   have k2:(i:Int)+1< (m:Int):=by omega
   have k3:i<m:=by omega
   have k4:¬(i:Int)+1<0:=by omega
   have k5:(0:Int)<=(i:Int)+1:=by omega
   have k6:i<m-1:=by omega
   rw[show(a+i+1)*8=a*8+(i+1)*8 by omega]at c1;rw[show(a+i)*8=a*8+i*8 by omega]at c0;have hxm:=Zi hx;have hpm:=Zi hp;obtain⟨k,ae⟩:=ho x hxm p hpm false h;have Bk:=eI x;have oy:=eI p;have htk:L.take (a+(i+1)+1)=L.take (a+i+1)++[x]:=by
    rw[show a+(i+1)=a+i+1 by omega,Xt,hx];rfl
   have i15:i+1<=1000000000000000:=by omega
   have i15':i<=10^15:=by omega
   have w15:W.length<=1000000000000000:=by omega
   have Ou:=cJ k ej;unfold uw at ae;by_cases hc:dx x p=0
   .have acd:∀z∈L.take (a+(i+1)+1),∃y∈W,dx y z=0:=by
     intro z hz;rw[htk]at hz;rcases Zz.1 hz with hz|hz
     .exact w2 z hz
     .have:z=x:=by simpa using hz
      subst this;obtain⟨y,IW,xW⟩:=w2 p (by rw[List.mem_iff_getElem?];exact⟨a+i,by rw[List.getElem?_take_of_lt (by omega)];exact hp⟩);exact⟨y,IW,ht _ _ _ hc xW⟩
    have w4':W.length<=a+(i+1):=by omega
    have w1':∀z∈W,z∈L.take (a+(i+1)+1):=λz hz=>by rw[htk];exact Zx _ (w1 z hz)
    rw[decide_eq_true hc]at ae;generalize hCS:(gN (W++L.drop W.length)).flatten=CS at *;have IP: -9223372036854775808<=(i:Int)/\(i:Int)<=9223372036854775807/\ -9223372036854775808<=(i:Int)+1+1/\(i:Int)+1+1<=9223372036854775807:=by omega
    have Mm:dA .i64 (i:Int)=(i:Int):=cK IP.1 IP.2.1;have hf:dA .i64 ((i:Int)+1+1)=(i:Int)+1+1:=cK IP.2.2.1 IP.2.2.2;simp[cp,g0,g1,g5,g6,g7,k2,k3,k5,ej,vj,k1,k0,c1,c0,Mm,ae,hi,hf,k6];exact⟨W,w1',ws,acd,w3,w4',rfl,by rw[hCS];exact Ou⟩
   .obtain⟨y,hy⟩:∃y,L[W.length]?=some y:=⟨_,Zb (by omega)⟩;have mZ:=NJ W (L.drop (W.length+1)) x y;rw[<-cH hy]at mZ;have hWx:(W++[x]).length=W.length+1:=by simp
    have aeo:(gN (W++x::L.drop (W.length+1))).flatten=(gN ((W++[x])++L.drop (W++[x]).length)).flatten:=by rw[hWx,Zp];rfl
    rw[aeo]at mZ;have w1':∀z∈W++[x],z∈L.take (a+(i+1)+1):=λz hz=>by
     rw[htk];rcases Zz.1 hz with hz|hz
     .exact Zx _ (w1 z hz)
     .exact Zk _ hz
    have ws':kC (W++[x]):=H3 ws (λz hz=>Fe hw (w1 z hz) hp) (lt_next hw hx hp hc);have acd:∀z∈L.take (a+(i+1)+1),∃y∈W++[x],dx y z=0:=by
     intro z hz;rw[htk]at hz;rcases Zz.1 hz with hz|hz
     .obtain⟨y,h1,h2⟩:=w2 z hz;exact⟨y,Zx _ h1,h2⟩
     .have:z=x:=by simpa using hz
      subst this;exact⟨z,Zk _ (by simp),hs z⟩
    have w3':0< (W++[x]).length:=by omega
    have w4':(W++[x]).length<=a+(i+1):=by omega
    have aiM:(List.set (h++k) id (.row (gN ((W++[x])++L.drop (W++[x]).length)).flatten))[id]?=some (.row (gN ((W++[x])++L.drop (W++[x]).length)).flatten):=dC Ou;rw[decide_eq_false hc]at ae;generalize aiN:(gN ((W++[x])++L.drop (W++[x]).length)).flatten=CS2,hCS:(gN (W++L.drop W.length)).flatten=CS at *;have IP: -9223372036854775808<=(i:Int)/\(i:Int)<=9223372036854775807/\ -9223372036854775808<=(i:Int)+1+1/\(i:Int)+1+1<=9223372036854775807:=by omega
    have Mm:dA .i64 (i:Int)=(i:Int):=cK IP.1 IP.2.1;have hf:dA .i64 ((i:Int)+1+1)=(i:Int)+1+1:=cK IP.2.2.1 IP.2.2.2;have hfw:=cz w15;have hW1:((W++[x]).length:Int)=(W.length:Int)+1:=by rw[hWx];rfl
    clear aeo hWx;simp[cp,g0,g1,g5,g6,g7,k2,k3,k5,ej,Ou,vj,k1,k0,kw,kwn,c1,c0,Bk,Mm,ae,hi,hf,hfw,mZ,k6];exact⟨W++[x],w1',ws',acd,w3',w4',by simp,by rw[aiN];exact aiM⟩
  .have iJ:i+1=m:=by omega
   have k2:¬(i:Int)+1< (m:Int):=by omega
   have hSub:xo W L:=⟨λz hz=>List.mem_of_mem_take (w1 z hz),λz hz=>w2 z (by rw[Yy (by omega)];exact hz)⟩;have hWn:W.length<n:=by omega
   simp[cp,g6,g7,k2];exact⟨g0,W,hSub,ws,w3,hWn,g5,ej⟩
 .rintro o cG h' rfl ⟨rfl,cp,g0,W,hSub,ws,w3,hWn,g5,ej⟩;simp;exact st2 W cG h' hSub ws w3 hWn cp g0 g5 ej
def H4(N D:Nat)(t:Bool)(L:List Pr)(y:AV)(h:Hp)(hy:ka h 8 (gN L) y)(hl:L.length<=10^9)(hw:L.Pairwise λa b=>dx a b<=0)(hb:∀p∈L,kj p.v<=D/\oK p.v):
 ∃r h',cu cx (N+2*D+12) t 19 [y,.fn 20 []] h=some (r,h')/\XV L r h':=by
 have ho:∀p∈L,∀q∈L,∀t h,∃k,cu cx (N+2*D+11) t 20 [uw p,uw q] h=some (.sc (.bool (decide (dx p q=0))),h++k):=λp hp q hq t h=>by
  refine⟨_,adT (N+2*D+10) t p q h (dx p q) λb h=>?_⟩;have:=LK (N+1) D p q (hb p hp) (hb q hq) b h
  rwa [show N+1+2*D+9=N+2*D+10 by omega]at this
 rw[rr (n:=N+2*D+11) f19 [.tmp 4]];generalize N+2*D+11=M at *;have uh:kC L->XV L y h:=λFP=>⟨L,xo.refl nI L,FP,Yq _,λn=>gf (by omega) (lM L) (pU L) hy,λv=>hy.np v⟩
 show∃r h',dT [.tmp 4] (M FO ([y,.fn 20 []]++List.replicate 64 .un,h))=some (r,h')/\XV L r h';rw[show FO= .seq (cL (cT 0 FO)) (.seq (cL (cT 1 FO)) (.seq (.seq (cL (cL (cT 2 FO))) (.block 0 (.loop (.seq (cL kCB) (.seq (.block 1 (.seq (cL kCD) (.cond (.tmp 28) NI .skip))) (cR (cR kCB))))))) (cT 3 FO))) by kernel_rfl];rcases hy with⟨h1,rfl⟩|⟨h1,id,rfl,ej⟩
 .generalize NI=ZI,cT 3 FO=Z3;simp[kCB,kCD,FO,cT,cR,cL,f19];exact qW (uh (by cases L with|nil=>exact List.Pairwise.nil|cons a L=>cases h1))
 rw[ef]at uh|-;have hL1:1<=L.length:=by
  rcases Nat.eq_zero_or_pos L.length with e|e
  .rw[Xp.1 e]at h1;exact absurd rfl h1
  .exact e
 by_cases h2:L.length<2
 .have FP:kC L:=by have:=Ml L;rwa [Yy (by omega)]at this
  have uh:=uh FP;clear FP hw
  revert uh
  intro uh;have Jc:(L.length:Int)<2:=by omega
  generalize NI=ZI,cT 3 FO=Z3;generalize L.length=n at *;simp[kCB,kCD,FO,cT,cR,cL,f19,Jc];exact qW uh
 have Jc:¬(L.length:Int)<2:=by omega
 have s3:kC L->∀fr h,fr.length=66->gt fr 0= .sl id 8 0 L.length false->h[id]?=some (.row (gN L).flatten)->∃r h',dT [.tmp 4] (M (cT 3 FO) (fr,h))=some (r,h')/\XV L r h':=by
  intro FP fr h cp g0 ej;have hB:ka h 8 (gN L) (.sl id 8 0 L.length false):= .inr ⟨h1,id,by rw[ef],ej⟩;have uh:XV L (.sl id 8 0 L.length false) h:=⟨L,xo.refl nI L,FP,Yq _,λn=>gf (by omega) (lM L) (pU L) hB,λv=>hB.np v⟩;simp[FO,cT,cR,f19,cp,g0];exact qW uh
 have ci:=λa ha haL x p hx hp he ZG fr h cp g0 g1 g5 ej=>acb M id L hl hw nI RX ho a ha haL x p hx hp he ZG fr h cp g0 g1 g5 ej
 generalize NI=ZI at ci|-;generalize cT 3 FO=Z3 at s3|-;have hq:=ef L;have vj:=pT L;generalize hLn:L.length=n at *;clear uh;simp[kCB,kCD,FO,cT,cR,cL,f19,Jc];generalize cU:M (.loop _) _=XX;refine gk cU
  (λi st cD=>st.length=66/\gt st 0= .sl id 8 0 n false/\gt st 1= .fn 20 []/\gt st 5= .sc (.int .i64 ((i:Nat)+1))/\kC (L.take (i+1))/\cD[id]?=some (.row (gN L).flatten))
  (λo st cD=>(o= .exit 0/\kC L/\st.length=66/\gt st 0= .sl id 8 0 n false/\cD[id]?=some (.row (gN L).flatten))\/(o= .ret/\XV L (gt st 4) cD))
  (n-1) (by simp;omega) ⟨by simp,by simp,by simp,by simp,Ml L,ej⟩ ?_ ?_
 .clear cU XX ej s3 h;rintro i fr h cP ⟨cp,g0,g1,g5,hSt,ej⟩;by_cases hi:i+1<n
  .obtain⟨x,hx⟩:∃x,L[i+1]?=some x:=⟨_,Zb (by omega)⟩;obtain⟨p,hp⟩:∃p,L[i]?=some p:=⟨_,Zb (by omega)⟩;have c1:=sr hx;have c0:=sr hp;obtain⟨k,ae⟩:=ho x (Zi hx) p (Zi hp) false h;have Ou:=cJ k ej;have k1:(i+1)*8+8<=n*8:=by omega
   have k0:i*8+8<=n*8:=by omega
   have k2:(i:Int)+1< (n:Int):=by omega
   have k3:i<n:=by omega
   have k4:¬(i:Int)+1<0:=by omega
   have k5:(0:Int)<=(i:Int)+1:=by omega
   have k6:i<n-1:=by omega
   have ci2:=ci (i+1) (by omega) hi x p hx (by rw[Nat.add_sub_cancel];exact hp);unfold uw at ae;have IP: -9223372036854775808<=(i:Int)/\(i:Int)<=9223372036854775807/\ -9223372036854775808<=(i:Int)+1+1/\(i:Int)+1+1<=9223372036854775807:=by omega
   have Mm:dA .i64 (i:Int)=(i:Int):=cK IP.1 IP.2.1;have hf:dA .i64 ((i:Int)+1+1)=(i:Int)+1+1:=cK IP.2.2.1 IP.2.2.2;clear ci ho;by_cases hc:dx x p=0
   .rw[decide_eq_true hc]at ae;have ci3:=ci2 hc hSt;clear ci2;generalize hCS:(gN L).flatten=CS at *;simp[cp,g0,g1,g5,k2,k3,k5,ej,vj,k1,k0,c1,c0,Mm,ae,hi];generalize IV:M ZI _=EE;refine ahy IV (ci3 _ _ (by simp[cp]) (by simp[g0]) (by simp[g1]) (by simp[g5]) Ou) ?_;rintro cG h' rfl hCF;simp;exact hCF
   .rw[decide_eq_false hc]at ae;have aiO:kC (L.take (i+1+1)):=by
     rw[Xt,hx];exact H3 hSt (λz hz=>Fe hw hz hp) (lt_next hw hx hp hc)
    clear ci2;generalize hCS:(gN L).flatten=CS at *;simp[cp,g0,g1,g5,k2,k3,k5,ej,vj,k1,k0,c1,c0,Mm,ae,hi,hf,k6];exact⟨aiO,Ou⟩
  .have k2:¬(i:Int)+1< (n:Int):=by omega
   have FP:kC L:=by rwa [Yy (by omega)]at hSt
   simp[cp,g0,g5,k2];exact⟨FP,ej⟩
 .rintro o cG h' rfl hQ;rcases hQ with⟨rfl,FP,cp,g0,ej⟩|⟨rfl,hCF⟩
  .simp;exact s3 FP cG h' cp g0 ej
  .simp;exact qW hCF
def OFS(q:List Cp)(r:Option (Out × St)):Prop:=∃R r0 h',dT [.tmp 2,.tmp 3,.tmp 4] r=some (.tp [r0,(0:Int),(0:Int)],h')/\xo R (mm q)/\kC R/\R.length<=(mm q).length/\(∀n,Ae.da h' (n+1) r0=some (eH 8 (gN R)))
def Tv(D d M:Nat)(q:List Cp)(hb:∀c∈q,Cg D d c)(oE:∀c∈q,AJ D d c)(hr:∀c∈q,J0 D d c)(hl:q.length<=10^6)(hm:(q.map rI).sum<=1000000000)(hpd:∀p∈mm q,kj p.v<=D/\oK p.v)(hn:2*D+3*d+120<=M)(jB:(gv q).2.2=0):
 OFS q (M Cl ([.ag (gL q)]++List.replicate 46 .un,[])):=by
 rw[show Cl= .seq (cL (cT 0 Cl)) (.seq (cL (cT 1 Cl)) (.seq (cL (cT 2 Cl)) (.seq (cL (cT 3 Cl)) (cT 4 Cl)))) by kernel_rfl];obtain⟨kK,ae⟩:=G1 D d M true q [.row (gL q)] hb oE hl (by omega);rw[jB]at ae;have fs:=λb(m:Int)h=>G0 D d M b q m h hb oE hl (by omega)
 have fc:=λb K(hK:K.length<=24)l0 c h(hc:c∈q)hR hl=>NH D d M b 1 K hK l0 c h hR (hr c hc) hl (by omega)
 have hT:(mm q).length<=(q.map rI).sum:=uO q q 0;have xb:∀fr h,fr.length=47->gt fr 8= .pt 1 0->RS 1 (mm q) h->OFS q (M (cT 4 Cl) (fr,h)):=by
  rintro fr h cp g8 ⟨y,h0,hB,hk⟩;obtain⟨L,h2,hp,hpw,af,hB2,Ja⟩:=Tu (M-2*D-10) D true (mm q) y h hB (by omega) hpd;rw[show M-2*D-10+2*D+9+1=M by omega]at af;have h02:h2[1]?=some (.row [y]):=by rw[Ja 1 (λk n e=>(hk k n e).symm)];exact h0
  have aiP:∀p∈L,kj p.v<=D/\oK p.v:=λp h=>hpd p (hp.mem_iff.1 h)
  obtain⟨r,h3,ah,R,hS,FP,hRl,jx,xw⟩:=H4 (M-2*D-12) D true L y h2 hB2 (by rw[hp.length_eq];omega) hpw aiP;rw[show M-2*D-12+2*D+12=M by omega]at ah;have jI:xo R (mm q):=⟨λx hx=>hp.mem_iff.1 (hS.1 x hx),λx hx=>hS.2 x (hp.mem_iff.2 hx)⟩;rw[hp.length_eq]at hRl;have q1:=akN (λv=>hB.np v)
  have q2:=akN xw
  clear ae fs fc;unfold OFS;simp[Cl,cT,cR,f7,cp,g8,h0,q1,af,h02,ah,q2];exact⟨R,_,_,⟨rfl,rfl⟩,jI,FP,hRl,jx⟩
 generalize cT 4 Cl=Z4 at xb|-;have hq:=jj q;have hg:=oQ q;have hy:∀v,eH 1 (eE kK)≠ .pn v:=λv=>by unfold eH;split<;>simp
 have q3:=akN hy
 generalize dN:mm q=TL at *;have Wl:lP q q 0=TL:=dN;clear dN jB;generalize eH 1 (eE kK)=yc,(gv q).2.1=i1 at *;have tJ:∀fr h,fr.length=47->gt fr 1= .pt 0 0->gt fr 8= .pt 1 0->h=[.row (gL q),.row [()]]->OFS q (M (.seq (cL (cT 3 Cl)) Z4) (fr,h)):=by
  rintro fr h cp g1 g8 hh;have hR0:RS 1 [] h:=by subst hh;exact⟨_,rfl,.inl ⟨rfl,rfl⟩,λk m e=>by cases e⟩
  have hF0:pP 1 0 h:=by
   subst hh;refine⟨by omega,λm e=>?_⟩;injection e with e
   injection e with e
   injection e with e _
   cases e
  have qh:h[0]?=some (.row (gL q)):=by subst hh;rfl
  clear hh ae;have Px:=uI q;have po:gL q=[.ls 21 (m_ q) false]:=rfl;generalize m_ q=cq at *;simp[Cl,cT,cR,cL,f7,cp,g1,qh,po,hq];generalize cU:M (.loop _) _=XX;refine gk cU
   (λi st cD=>st.length=47/\gt st 1= .pt 0 0/\gt st 8= .pt 1 0/\gt st 25= .ls 21 cq false/\gt st 26=q.length/\gt st 27=i/\cD[0]?=some (.row (gL q))/\pP 1 0 cD/\∃l',RS 1 l' cD/\l'.length+((q.drop i).map rI).sum<=1000000000/\l'++lP q (q.drop i) i=TL)
   (λo st cD=>o= .exit 0/\st.length=47/\gt st 8= .pt 1 0/\RS 1 TL cD)
   q.length (by simp;omega) ⟨by simp[cp],by simp[g1],by simp[g8],by simp[cp],by simp[cp],by simp[cp],qh,hF0,[],hR0,by simpa using hm,by simpa using Wl⟩ ?_ ?_
  .clear cU XX Wl hR0 hF0 qh cp g1 g8 xb;rintro i fr hp cP ⟨cp,g1,g8,g25,Wv,Ww,gc,lF,l',hR,iF,hT⟩;rcases dY hg cP with⟨c,hi,hx,hr,cC⟩|rfl
   .have dB:=Zi hx;have fH:i<=10^15:=by omega
    rw[cH hx,Yn,Yo]at iF;rw[cH hx,lP,<-Zp]at hT;have du:=hR.lt;have NC:=hR.app [.row (cA c)];have U3:=cJ [.row (cA c)] gc;have EN:=kR [.row (cA c)] du lF;have gp:(hp++[eV.row (cA c)])[hp.length]?=some (.row (cA c)):=by simp
    obtain⟨h',af,FH,Ho⟩:=fc true (dK q (i:Int)).1 (Px (i:Int)) l' c _ dB NC (by omega);obtain⟨JX,uL⟩:=Ho _ _ U3 EN;have gI:=C9 c (dK q (i:Int)).1;have q9:(l'++q_ c (dK q (i:Int)).1).length+((q.drop (i+1)).map rI).sum<=1000000000:=by rw[Zu];omega
    have ae:=λb h=>fs b (i:Int) h
    have my:∀v,eH 2 (ib (dK q (i:Int)).1)≠ .pn v:=λv=>by unfold eH;split<;>simp
    have hec:(cA c).length=21:=by simp[cA,cB]
    have LC:(cA c).take 21=cA c:=Yy (by omega);have jT:=λ(a0 a1 a2 a3 a4 a5 a6 a7 a8 a9 b0 b1 b2 b3 b4 b5 b6 b7 b8 b9 c0:AV)=>Z9 (ev:=cA c) (z:=[a0,a1,a2,a3,a4,a5,a6,a7,a8,a9,b0,b1,b2,b3,b4,b5,b6,b7,b8,b9,c0]) hec rfl
    clear fs fc Px gI;generalize q_ c (dK q (i:Int)).1=RQ,eH 2 (ib (dK q (i:Int)).1)=yk,(dK q (i:Int)).2.1=u1,(dK q (i:Int)).2.2=u2 at *;have q4:=akN my
    rw[po]at *;generalize cA c=row,Lw:hp.length=jp at *;generalize xj:hp++[eV.row row]=hp1 at *;have hf:=cz fH;simp[cp,g1,g8,g25,Wv,Ww,hi,hq,cC,hec,LC,jT,xj,Lw,U3,gp,ae,q4,af,hf];exact⟨JX,uL,_,FH,by simpa only[Xn]using q9,hT⟩
   .rw[Yc,lP,Yk]at hT;subst hT;simp[cp,Wv,Ww];exact⟨g8,hR⟩
  .rintro o cG h' rfl ⟨rfl,cp,g8,hR⟩;simp;exact xb cG h' cp g8 hR
 generalize Code.seq (cL (cT 3 Cl)) Z4=Z3 at tJ|-;have ace:gL q=[.ls 21 (m_ q) false]:=rfl;generalize hE:AV.ls 21 (m_ q) false=E at *;simp only[ace]at ae tJ|-;simp[Cl,cT,cR,cL,f7,ae,q3];exact tJ _ _ (by simp) (by simp) (by simp) rfl
def acf(D d n:Nat)(q:List Cp)(hb:∀c∈q,Cg D d c)(oE:∀c∈q,AJ D d c)(hr:∀c∈q,J0 D d c)(hl:q.length<=10^6)(hm:(q.map rI).sum<=1000000000)(hpd:∀p∈mm q,kj p.v<=D/\oK p.v)(hn:2*D+3*d+121<=n):
 ((gv q).2.2≠0/\∀b h,cu cx n b 7 [.ag (gL q)] h=some (.tp [(),.sc (.int .i64 (gv q).2.1),.sc (.int .i64 (gv q).2.2)],h))\/
 ((gv q).2.2=0/\∃R,xo R (mm q)/\kC R/\R.length<=(mm q).length/\∀b h,cu cx n b 7 [.ag (gL q)] h=some (.tp [eH 8 (gN R),(0:Int),(0:Int)],h)):=by
 obtain⟨M,rfl⟩:∃m,n=m+1:=⟨n-1,by omega⟩;by_cases jB:(gv q).2.2=0
 .obtain⟨R,r0,h',e,hS,FP,hRl,jx⟩:=Tv D d M q hb oE hr hl hm hpd (by omega) jB;refine .inr ⟨jB,R,hS,FP,hRl,λb h=>?_⟩;refine IL (r:= .tp [r0,(0:Int),(0:Int)]) (h':=h') f7 [.tmp 2,.tmp 3,.tmp 4] rfl e ?_ b h;show([r0,_,_].mapM (Ae.da h' 7)).map AV.tp=_;simp[jx 6,Ae.da]
 .refine .inl ⟨jB,?_⟩;intro b h;obtain⟨kK,ae⟩:=G1 D d M true q [.row (gL q)] hb oE hl (by omega);have hy:∀v,eH 1 (eE kK)≠ .pn v:=λv=>by unfold eH;split<;>simp
  have q3:=akN hy
  have hw:∃h',dT [.tmp 2,.tmp 3,.tmp 4] (M Cl ([.ag (gL q)]++List.replicate 46 .un,[]))=some (.tp [(),.sc (.int .i64 (gv q).2.1),.sc (.int .i64 (gv q).2.2)],h'):=by
   rw[show Cl= .seq (cL (cT 0 Cl)) (.seq (cL (cT 1 Cl)) (cT 2 Cl)) by kernel_rfl];generalize cT 2 Cl=Z2;have ace:gL q=[.ls 21 (m_ q) false]:=rfl;generalize hE:AV.ls 21 (m_ q) false=E at *;simp only[ace]at ae|-;generalize eH 1 (eE kK)=yc,(gv q).2.1=i1,(gv q).2.2=i2 at *;simp[Cl,cT,cR,cL,f7,ae,q3,jB]
  obtain⟨h',e⟩:=hw;refine IL (r:= .tp [(),.sc (.int .i64 (gv q).2.1),.sc (.int .i64 (gv q).2.2)]) (h':=h') f7 [.tmp 2,.tmp 3,.tmp 4] rfl e rfl b h
end
end Go.Proofs.YtmocfjnklfpnbaaGreatDoor
