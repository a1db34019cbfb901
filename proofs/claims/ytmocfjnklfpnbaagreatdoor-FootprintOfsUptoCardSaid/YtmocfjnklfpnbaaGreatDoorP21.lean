/- Part of the proof. -/
import Derived.Test.YtmocfjnklfpnbaaGreatDoorP20
set_option linter.all false
set_option maxHeartbeats 32000000
set_option maxRecDepth 100000
namespace Go.Proofs.YtmocfjnklfpnbaaGreatDoor
open Go Go.Ae Go.Proofs.Tryz
section
attribute [local simp] ew eY
def SO(id hc:Nat)(yk:AV)(rp:List LA)(m i:Nat)(row:LA)(fr:LA)(h:Hp):Prop:=fr.length=70/\gt fr 0= .pt id 0/\gt fr 2=yk/\gt fr 4= .pt hc 0/\gt fr 13= .ls 3 rp false/\gt fr 14=m/\gt fr 15=i/\h[hc]?=some (.row row)/\pP id hc h
noncomputable def FN :Code:=cL (cL (cR (cR (cL (cL (cT 2 Hg))))))
def Wz(D d M id hc:Nat)(K:gM)(yk:AV)(my:yk=eH 2 (ib K))(rG:K.length<=24)(kd:Int)(l:List Tp)(hlL:l.length<=10^8)(i:Nat)(p:Tp)(hx:l[i]?=some p)(row:LA)(cY:row[0]?=some (.sc (.int .i64 kd)))(hb:brT D d p)(hn:2*D+d+20<=M)(h0:Hp)(l0:List Pr)(ki:l0.length+vm p<=1000000000)(fr:LA)(h:Hp)(hS:SO id hc yk (q7 l) l.length i row fr h)(hR:RS id l0 h)(hK:KR id h0 h):
 PI (SO id hc yk (q7 l) l.length i row) id (l0++ml kd K p) h0 (M FN (fr,h)):=by
 obtain⟨M9,V1,Cf,cP⟩:=hb;rw[show FN= .seq (cL FN) (.seq (cL (cR FN)) (.seq (cL (cR (cR FN))) (cR (cR (cR FN))))) by kernel_rfl];have c1:=λjp vr re l0 fr h ki hS hR hK=>RH D d M id hc jp K yk my rG kd (q7 l) l.length i row cY vr (gZ p.nodes) re p.nodes (fK _) (kV _) Cf M9 hn h0 l0 ki fr h hS hR hK
 have c2:=λjp vr rn l0 fr h ki hS hR hK h9=>RJ D d M id hc jp K yk my rG kd (q7 l) l.length i row cY vr rn (nD p.cE) p.cE (fL _) (kW _) cP V1 hn h0 l0 ki fr h hS hR hK h9
 rw[show cL (cR (cL (cL (cR (cR (cL (cL (cT 2 Hg))))))))=cL (cR FN)from rfl]at c1;rw[show cR (cR (cR (cL (cL (cR (cR (cL (cL (cT 2 Hg)))))))))=cR (cR (cR FN))from rfl]at c2;have hi:=(Za.1 hx).1;obtain⟨p',IU,hr,cC⟩:=il (qu l) hi;obtain rfl:p=p':=by rw[hx]at IU;injection IU
 have hq:=iN l;have xc:=fL p.cE;obtain⟨cp,g0,g2,g4,g13,g14,g15,gc,lF⟩:=hS;have du:=hR.lt;have hyp:∀v,yk≠ .pn v:=λv=>by rw[my];unfold eH;split<;>simp
 unfold dW at hr cC;have r3:∃cG,M (cL FN) (fr,h)=some (.normal,(cG,h++[.row [p.var,.ls 3 (gZ p.nodes) false,.ls 7 (nD p.cE) false]]))/\cG.length=70/\gt cG 0= .pt id 0/\gt cG 2=yk/\gt cG 4= .pt hc 0/\gt cG 7= .pt h.length 0/\gt cG 13= .ls 3 (q7 l) false/\gt cG 14=l.length/\gt cG 15=i:=by
  generalize gZ p.nodes=rn,nD p.cE=re,q7 l=cq at *;simp[FN,Hg,cT,cR,cL,f43,cp,g13,g14,g15,hi,hq,cC,qC,g0,g2,g4]
 obtain⟨fr3,r3,adS,k0,k2,k4,k7,k13,k14,k15⟩:=r3;have zg:SR id hc h.length yk (q7 l) l.length i row [p.var,.ls 3 (gZ p.nodes) false,.ls 7 (nD p.cE) false] fr3 (h++[.row [p.var,.ls 3 (gZ p.nodes) false,.ls 7 (nD p.cE) false]]):=
  ⟨adS,k0,k2,k4,k7,k13,k14,k15,⟨cJ _ gc,kR _ du lF⟩,by simp,hR.free _⟩
 have hmt:vm p=(p.nodes.map ue).sum+(p.cE.map vX).sum:=rfl;obtain⟨fr4,h4,ai,II,hR4,JM⟩:=c1 h.length p.var (nD p.cE) l0 fr3 _ (by omega) zg (hR.app _) (hK.trans (KR.app _ du));have BT:(p.nodes.flatMap (qK kd K)).length<=(p.nodes.map ue).sum:=by
  generalize p.nodes=L
  induction L with
  |nil=>simp
  |cons x L ih=>have:=AW kd K x;rw[Ym,Yn,Yo,Zu];omega
 have r13:∃cG,M (cL (cR (cR FN))) (fr4,h4)=some (.normal,(cG,h4))/\SR id hc h.length yk (q7 l) l.length i row [p.var,.ls 3 (gZ p.nodes) false,.ls 7 (nD p.cE) false] cG h4/\gt cG 52= .ls 7 (nD p.cE) false/\gt cG 53= .sc (.int .i64 ((nD p.cE).length:Nat))/\gt cG 54= .sc (.int .i64 (0:Nat)):=by
  obtain⟨cp,g0,g2,g4,g7,g13,g14,g15,⟨gc,lF⟩,gp,C6⟩:=II;generalize gZ p.nodes=rn,nD p.cE=re,q7 l=cq at *;clear ai c1 c2 r3 zg hR4 JM;generalize h.length=jp at *;simp[FN,Hg,cT,cR,cL,f43,cp,g7,gp];exact⟨by simp[cp],by simp[g0],by simp[g2],by simp[g4],by simp[g7],by simp[g13],by simp[g14],by simp[g15],⟨gc,lF⟩,gp,C6⟩
 obtain⟨fr5,r13,hS5,h9⟩:=r13;obtain⟨fr6,h6,aj,IJ,hR6,AH⟩:=c2 h.length p.var (gZ p.nodes) _ fr5 h4 (by rw[Zu];omega) hS5 hR4 JM h9;rw[Zp]at hR6;generalize cL FN=Z1,cL (cR FN)=Z2,cL (cR (cR FN))=Z3,cR (cR (cR FN))=Z4 at *;refine⟨fr6,h6,by simp[r3,ai,r13,aj],?_,hR6,AH⟩;obtain⟨cp,g0,g2,g4,g7,g13,g14,g15,⟨gc,lF⟩,gp,C6⟩:=IJ;exact⟨cp,g0,g2,g4,g13,g14,g15,gc,lF⟩
def sn(kd:Int)(K:gM)(p:Tp):(ml kd K p).length<=vm p:=by
 unfold ml vm;rw[Zu];have h1:(p.nodes.flatMap (qK kd K)).length<=(p.nodes.map ue).sum:=by
  generalize p.nodes=L
  induction L with
  |nil=>simp
  |cons x L ih=>have:=AW kd K x;rw[Ym,Yn,Yo,Zu];omega
 have h2:(p.cE.flatMap (si kd)).length<=(p.cE.map vX).sum:=by
  generalize p.cE=L
  induction L with
  |nil=>simp
  |cons x L ih=>have:=Hh kd x;rw[Ym,Yn,Yo,Zu];omega
 omega
def RN(D d n:Nat)(t:Bool)(id:Nat)(K:gM)(rG:K.length<=24)(l0:List Pr)(c:Cp)(h:Hp)(hS:RS id l0 h)(hb:∀p∈c.paths,brT D d p)(oy:c.paths.length<=10^8)(hl:l0.length+(c.paths.map vm).sum<=1000000000)(hn:2*D+d+21<=n):
 ∃h',cu cx n t 43 [.pt id 0,.ag (cA c),eH 2 (ib K)] h=some (.tp [],h')/\RS id (l0++c.paths.flatMap (ml c.kind K)) h'/\KR id h h':=by
 obtain⟨M,rfl⟩:∃m,n=m+1:=⟨n-1,by omega⟩;rw[rr (n:=M) f43 []];generalize my:eH 2 (ib K)=yk,dN:l0++c.paths.flatMap (ml c.kind K)=TL;show PR id TL h (M Hg _);rw[show Hg= .seq (cL (cT 0 Hg)) (.seq (cL (cT 1 Hg)) (.block 0 (.loop (.seq (cL (cL (cL (cT 2 Hg)))) (.seq (cL (cR (cL (cL (cT 2 Hg))))) (.seq (.block 1 FN) (cR (cR (cR (cL (cL (cT 2 Hg)))))))))))) by kernel_rfl];have du:=hS.lt;have gc:(h++[eV.row (cA c)])[h.length]?=some (.row (cA c)):=by simp
 have lF:=hS.free [.row (cA c)];have FH:=hS.app [.row (cA c)];have f_:KR id h (h++[.row (cA c)]):=KR.app _ du;have cY:(cA c)[0]?=some (.sc (.int .i64 c.kind)):=rfl;have BP:(cA c)[3]?=some (.ls 3 (q7 c.paths) false):=rfl;have ahp:∀k,(cA c)[3]'k= .ls 3 (q7 c.paths) false:=λk=>rfl
 have c1:=λi p hx l0 fr h' ki hS hR hK hbp=>Wz D d M id h.length K yk my.symm rG c.kind c.paths oy i p hx (cA c) cY hbp (by omega) h l0 ki fr h' hS hR hK
 have hq:=iN c.paths;have hg:=qu c.paths;have PD:(cA c).length=21:=by simp[cA,cB]
 have hyp:∀v,yk≠ .pn v:=λv=>by rw[<-my];unfold eH;split<;>simp
 generalize q7 c.paths=cq at *;generalize c.paths=l,c.kind=kd,cA c=row,hjc:h.length=hc at *;generalize hH1:h++[eV.row row]=hp1,FN=ZI at *;simp[Hg,cT,cR,cL,f43,PD,ahp,hq,hH1,hjc,gc];generalize cU:M (.loop _) _=XX;refine gk cU
  (λi st cD=>SO id hc yk cq l.length i row st cD/\∃l',RS id l' cD/\KR id h cD/\l'.length+((l.drop i).map vm).sum<=1000000000/\l'++(l.drop i).flatMap (ml kd K)=TL)
  (λo st cD=>o= .exit 0/\RS id TL cD/\KR id h cD)
  l.length (by simp;omega) ⟨⟨by simp,by simp,by simp,by simp,by simp,by simp,by simp,gc,lF⟩,l0,FH,f_,hl,dN⟩ ?_ ?_
 .clear cU XX dN FH f_ hl gc lF hS du;rintro i fr hp cP ⟨⟨cp,g0,g2,g4,g13,g14,g15,gc,lF⟩,l',hR,hK,hl,dN⟩;rcases dY hg cP with⟨p,hi,hx,hr,cC⟩|rfl
  .have dB:=Zi hx;have fH:i<=10^15:=by omega
   rw[cH hx,Yn,Yo]at hl;rw[cH hx,Ym,<-Zp]at dN;have hpe:=sn kd K p;have q9:(l'++ml kd K p).length+((l.drop (i+1)).map vm).sum<=1000000000:=by rw[Zu];omega
   have c2:=λfr hS=>c1 i p hx l' fr hp (by omega) hS hR hK (hb p dB)
   have hf:=cz fH;have ft:∀fr,SO id hc yk cq l.length i row fr hp->∃cG h',M ZI (fr,hp)=some (.normal,(cG,h'))/\SO id hc yk cq l.length i row cG h'/\RS id (l'++ml kd K p) h'/\KR id h h':=λfr hS=>c2 fr hS
   clear c1 c2;simp[cp,g14,g15,hi];obtain⟨cG,h',e,⟨qV,Nc,g2',NG,ahq,ahr,ahs,gc',RO⟩,C8,hK'⟩:=ft (fr.set 16 (.sc (.bool true))) ⟨by simp[cp],by simp[g0],by simp[g2],by simp[g4],by simp[g13],by simp[g14],by simp[g15],gc,lF⟩;rw[e];simp[qV,ahs,hf,hi];exact⟨⟨by simp[qV],by simp[Nc],by simp[g2'],by simp[NG],by simp[ahq],by simp[ahr],by simp[qV],gc',RO⟩,_,C8,hK',by simpa only[Xn]using q9,dN⟩
  .rw[Yc,Xo,Yk]at dN;subst dN;simp[cp,g14,g15];exact⟨hR,hK⟩
 .rintro o cG h' rfl ⟨rfl,hR,hK⟩;exact⟨h',by simp[h_],hR,hK⟩
noncomputable def pq :Code:=(f17.body).getD .skip
def rH(K:gM)(x:Sp):List Pr:=ja x.e++(G6 (db K x.var)++(if dn x.label mI=true then[]else[ij 2 x.label]))
def uN(K:gM)(nm:ByteArray):List Pr:=G6 (db K nm)
def Hn(K:gM)(x:Sp):(rH K x).length<=2*dc x.e+2:=by
 have h1:=fF x.e;have h2:=vQ (db K x.var);unfold rH;rw[Zu,Zu];split<;>simp<;>omega
def SQ(id hc:Nat)(yk:AV)(row:LA)(fr:LA)(h:Hp):Prop:=fr.length=106/\gt fr 0= .pt id 0/\gt fr 2=yk/\gt fr 4= .pt hc 0/\h[hc]?=some (.row row)/\pP id hc h
def aht(D d M id hc:Nat)(K:gM)(yk:AV)(my:yk=eH 2 (ib K))(rG:K.length<=24)(l:List Ep)(cq:List LA)(row:LA)(cY:row[4]?=some (.ls 9 cq false))(T:List Pr)(h0:Hp)(X:Code)(hq:cq.length=l.length)(hg:∀i:Nat,cq[i]?=(l[i]?).map cM)(hl:l.length<=10^9)(hn:d+10<=M)(hb:∀x∈l,oz D d x)(l0:List Pr)(ki:l0.length+(l.map λx=>2*dc x).sum<=1000000000)(hX:∀fr h,RS id (l0++l.flatMap λx=>ja x) h->KR id h0 h->SQ id hc yk row fr h->PR id T h0 (M X (fr,h)))(fr:LA)(h:Hp)(hR:RS id l0 h)(hK:KR id h0 h)(hS:SQ id hc yk row fr h):
 PR id T h0 (M (.seq (cL (cT 2 pq)) X) (fr,h)):=by
 obtain⟨k0,e0⟩:∃k,M=k+d+1:=⟨M-d-1,by omega⟩;obtain⟨k1,e1⟩:∃k,M=k+1:=⟨M-1,by omega⟩;obtain⟨k2,e2⟩:∃k,M=k+2:=⟨M-2,by omega⟩;have fx:=λb(l:List Pr)(e:Ep)h(he:oz D d e)hS hl=>qH D d e he.1 he.2 k0 b id l h hS hl
 have fa:=λ(l:List Pr)k nm h hS hl=>kL k1 true id l k nm h hS hl
 have xn:=λb(l:List Pr)k h hS hl=>vR k2 b id l k h hS hl
 have fk:=λb nm h=>CY k1 b K nm h (by omega)
 rw[<-my,<-e1]at fk;rw[<-e0]at fx;rw[<-e1]at fa;rw[<-e2]at xn;clear e0 e1 e2 hn;have hyp:∀v,yk≠ .pn v:=λv=>by rw[my];unfold eH;split<;>simp
 clear my;obtain⟨cp,g0,g2,g4,gc,lF⟩:=hS;generalize dN:(l0++l.flatMap λx=>ja x)=TL at hX;simp[pq,cT,cR,cL,f17,cp,g4,gc,cY,hq];generalize cU:M (.loop _) _=XX;refine gk cU
  (λi st cD=>SQ id hc yk row st cD/\gt st 21= .ls 9 cq false/\gt st 22=l.length/\gt st 23=i/\∃l',RS id l' cD/\KR id h0 cD/\l'.length+((l.drop i).map λx=>2*dc x).sum<=1000000000/\(l'++(l.drop i).flatMap λx=>ja x)=TL)
  (λo st cD=>o= .exit 0/\SQ id hc yk row st cD/\RS id TL cD/\KR id h0 cD)
  l.length (by simp;omega) ⟨⟨by simp[cp],by simp[g0],by simp[g2],by simp[g4],gc,lF⟩,by simp[cp],by simp[cp],by simp[cp],l0,hR,hK,ki,dN⟩ ?_ ?_
 .clear cU XX dN hR hK cp g0 g2 g4 gc lF hX ki;rintro i fr hp cP ⟨⟨cp,g0,g2,g4,gc,lF⟩,h1,h2,h3,l',hR,hK,iF,dN⟩;rcases dY hg cP with⟨x,hi,hx,hr,cC⟩|rfl
  .have dB:=Zi hx;have fH:i<=10^15:=by omega
   rw[cH hx,Yn,Yo]at iF;rw[cH hx,Ym,<-Zp]at dN;have du:=hR.lt;have NC:=hR.app [.row (cM x)];have AK:=hK.trans (KR.app (id:=id) [.row (cM x)] du);have U3:=cJ [.row (cM x)] gc;have EN:=kR [.row (cM x)] du lF;obtain⟨h',ae,FH,Ho⟩:=fx true l' x _ (hb x dB) NC (by omega);obtain⟨JX,uL⟩:=Ho _ _ U3 EN;have f_:=AK.trans Ho;have q9:(l'++ja x).length+((l.drop (i+1)).map λx=>2*dc x).sum<=1000000000:=by have:=fF x;rw[Zu];omega
   have dH:=cB x;generalize cM x=ev at hr cC dH ae;have dJ:ev.take 9=ev:=Yy (by omega);have jT:=rW dH;have hf:=cz fH;simp[cp,g0,h1,h2,h3,hi,hq,cC,jT,dH,dJ,ae,hf];exact⟨⟨by simp[cp],by simp[g0],by simp[g2],by simp[g4],JX,uL⟩,_,FH,f_,by simpa only[Xn]using q9,dN⟩
  .rw[Yc,Xo,Yk]at dN;subst dN;simp[cp,h2,h3];exact⟨⟨by simp[cp],by simp[g0],by simp[g2],by simp[g4],gc,lF⟩,hR,hK⟩
 .rintro o cG h' rfl ⟨rfl,hS,hR,hK⟩;simp;exact hX _ _ hR hK hS
def ahu(D d M id hc:Nat)(K:gM)(yk:AV)(my:yk=eH 2 (ib K))(rG:K.length<=24)(l:List Ip)(cq:List LA)(row:LA)(cY:row[15]?=some (.ls 10 cq false))(T:List Pr)(h0:Hp)(X:Code)(hq:cq.length=l.length)(hg:∀i:Nat,cq[i]?=(l[i]?).map jr)(hl:l.length<=10^9)(hn:d+10<=M)(hb:∀x∈l,oz D d x.e)(l0:List Pr)(ki:l0.length+(l.map λx=>2*dc x.e).sum<=1000000000)(hX:∀fr h,RS id (l0++l.flatMap λx=>ja x.e) h->KR id h0 h->SQ id hc yk row fr h->PR id T h0 (M X (fr,h)))(fr:LA)(h:Hp)(hR:RS id l0 h)(hK:KR id h0 h)(hS:SQ id hc yk row fr h):
 PR id T h0 (M (.seq (cL (cT 4 pq)) X) (fr,h)):=by
 obtain⟨k0,e0⟩:∃k,M=k+d+1:=⟨M-d-1,by omega⟩;obtain⟨k1,e1⟩:∃k,M=k+1:=⟨M-1,by omega⟩;obtain⟨k2,e2⟩:∃k,M=k+2:=⟨M-2,by omega⟩;have fx:=λb(l:List Pr)(e:Ep)h(he:oz D d e)hS hl=>qH D d e he.1 he.2 k0 b id l h hS hl
 have fa:=λ(l:List Pr)k nm h hS hl=>kL k1 true id l k nm h hS hl
 have xn:=λb(l:List Pr)k h hS hl=>vR k2 b id l k h hS hl
 have fk:=λb nm h=>CY k1 b K nm h (by omega)
 rw[<-my,<-e1]at fk;rw[<-e0]at fx;rw[<-e1]at fa;rw[<-e2]at xn;clear e0 e1 e2 hn;have hyp:∀v,yk≠ .pn v:=λv=>by rw[my];unfold eH;split<;>simp
 clear my;obtain⟨cp,g0,g2,g4,gc,lF⟩:=hS;generalize dN:(l0++l.flatMap λx=>ja x.e)=TL at hX;simp[pq,cT,cR,cL,f17,cp,g4,gc,cY,hq];generalize cU:M (.loop _) _=XX;refine gk cU
  (λi st cD=>SQ id hc yk row st cD/\gt st 36= .ls 10 cq false/\gt st 37=l.length/\gt st 38=i/\∃l',RS id l' cD/\KR id h0 cD/\l'.length+((l.drop i).map λx=>2*dc x.e).sum<=1000000000/\(l'++(l.drop i).flatMap λx=>ja x.e)=TL)
  (λo st cD=>o= .exit 2/\SQ id hc yk row st cD/\RS id TL cD/\KR id h0 cD)
  l.length (by simp;omega) ⟨⟨by simp[cp],by simp[g0],by simp[g2],by simp[g4],gc,lF⟩,by simp[cp],by simp[cp],by simp[cp],l0,hR,hK,ki,dN⟩ ?_ ?_
 .clear cU XX dN hR hK cp g0 g2 g4 gc lF hX ki;rintro i fr hp cP ⟨⟨cp,g0,g2,g4,gc,lF⟩,h1,h2,h3,l',hR,hK,iF,dN⟩;rcases dY hg cP with⟨x,hi,hx,hr,cC⟩|rfl
  .have dB:=Zi hx;have fH:i<=10^15:=by omega
   rw[cH hx,Yn,Yo]at iF;rw[cH hx,Ym,<-Zp]at dN;have du:=hR.lt;have NC:=hR.app [.row (jr x)];have AK:=hK.trans (KR.app (id:=id) [.row (jr x)] du);have U3:=cJ [.row (jr x)] gc;have EN:=kR [.row (jr x)] du lF;obtain⟨h',ae,FH,Ho⟩:=fx true l' x.e _ (hb x dB) NC (by omega);obtain⟨JX,uL⟩:=Ho _ _ U3 EN;have f_:=AK.trans Ho;have q9:(l'++ja x.e).length+((l.drop (i+1)).map λx=>2*dc x.e).sum<=1000000000:=by have:=fF x.e;rw[Zu];omega
   obtain⟨b0,b1,b2,b3,b4,b5,b6,b7,b8,gC⟩:=iK x.e;unfold jr at hr cC ae;rw[gC]at hr ae;simp only[gC]at cC;simp only[Zv,Zw]at hr cC ae;have jT:=qY (ev:=[b0,b1,b2,b3,b4,b5,b6,b7,b8,.sc (.string x.nm)]) rfl;have dH:True:=trivial;have dJ:True:=trivial;have hf:=cz fH;simp[cp,g0,h1,h2,h3,hi,hq,cC,jT,ae,hf];exact⟨⟨by simp[cp],by simp[g0],by simp[g2],by simp[g4],JX,uL⟩,_,FH,f_,by simpa only[Xn]using q9,dN⟩
  .rw[Yc,Xo,Yk]at dN;subst dN;simp[cp,h2,h3];exact⟨⟨by simp[cp],by simp[g0],by simp[g2],by simp[g4],gc,lF⟩,hR,hK⟩
 .rintro o cG h' rfl ⟨rfl,hS,hR,hK⟩;simp;exact hX _ _ hR hK hS
def ahv(D d M id hc:Nat)(K:gM)(yk:AV)(my:yk=eH 2 (ib K))(rG:K.length<=24)(l:List BN)(cq:List LA)(row:LA)(cY:row[16]?=some (.ls 10 cq false))(T:List Pr)(h0:Hp)(X:Code)(hq:cq.length=l.length)(hg:∀i:Nat,cq[i]?=(l[i]?).map js)(hl:l.length<=10^9)(hn:d+10<=M)(hb:∀x∈l,oz D d x.e)(l0:List Pr)(ki:l0.length+(l.map λx=>2*dc x.e).sum<=1000000000)(hX:∀fr h,RS id (l0++l.flatMap λx=>ja x.e) h->KR id h0 h->SQ id hc yk row fr h->PR id T h0 (M X (fr,h)))(fr:LA)(h:Hp)(hR:RS id l0 h)(hK:KR id h0 h)(hS:SQ id hc yk row fr h):
 PR id T h0 (M (.seq (cL (cT 5 pq)) X) (fr,h)):=by
 obtain⟨k0,e0⟩:∃k,M=k+d+1:=⟨M-d-1,by omega⟩;obtain⟨k1,e1⟩:∃k,M=k+1:=⟨M-1,by omega⟩;obtain⟨k2,e2⟩:∃k,M=k+2:=⟨M-2,by omega⟩;have fx:=λb(l:List Pr)(e:Ep)h(he:oz D d e)hS hl=>qH D d e he.1 he.2 k0 b id l h hS hl
 have fa:=λ(l:List Pr)k nm h hS hl=>kL k1 true id l k nm h hS hl
 have xn:=λb(l:List Pr)k h hS hl=>vR k2 b id l k h hS hl
 have fk:=λb nm h=>CY k1 b K nm h (by omega)
 rw[<-my,<-e1]at fk;rw[<-e0]at fx;rw[<-e1]at fa;rw[<-e2]at xn;clear e0 e1 e2 hn;have hyp:∀v,yk≠ .pn v:=λv=>by rw[my];unfold eH;split<;>simp
 clear my;obtain⟨cp,g0,g2,g4,gc,lF⟩:=hS;generalize dN:(l0++l.flatMap λx=>ja x.e)=TL at hX;simp[pq,cT,cR,cL,f17,cp,g4,gc,cY,hq];generalize cU:M (.loop _) _=XX;refine gk cU
  (λi st cD=>SQ id hc yk row st cD/\gt st 48= .ls 10 cq false/\gt st 49=l.length/\gt st 50=i/\∃l',RS id l' cD/\KR id h0 cD/\l'.length+((l.drop i).map λx=>2*dc x.e).sum<=1000000000/\(l'++(l.drop i).flatMap λx=>ja x.e)=TL)
  (λo st cD=>o= .exit 4/\SQ id hc yk row st cD/\RS id TL cD/\KR id h0 cD)
  l.length (by simp;omega) ⟨⟨by simp[cp],by simp[g0],by simp[g2],by simp[g4],gc,lF⟩,by simp[cp],by simp[cp],by simp[cp],l0,hR,hK,ki,dN⟩ ?_ ?_
 .clear cU XX dN hR hK cp g0 g2 g4 gc lF hX ki;rintro i fr hp cP ⟨⟨cp,g0,g2,g4,gc,lF⟩,h1,h2,h3,l',hR,hK,iF,dN⟩;rcases dY hg cP with⟨x,hi,hx,hr,cC⟩|rfl
  .have dB:=Zi hx;have fH:i<=10^15:=by omega
   rw[cH hx,Yn,Yo]at iF;rw[cH hx,Ym,<-Zp]at dN;have du:=hR.lt;have NC:=hR.app [.row (js x)];have AK:=hK.trans (KR.app (id:=id) [.row (js x)] du);have U3:=cJ [.row (js x)] gc;have EN:=kR [.row (js x)] du lF;obtain⟨h',ae,FH,Ho⟩:=fx true l' x.e _ (hb x dB) NC (by omega);obtain⟨JX,uL⟩:=Ho _ _ U3 EN;have f_:=AK.trans Ho;have q9:(l'++ja x.e).length+((l.drop (i+1)).map λx=>2*dc x.e).sum<=1000000000:=by have:=fF x.e;rw[Zu];omega
   obtain⟨b0,b1,b2,b3,b4,b5,b6,b7,b8,gC⟩:=iK x.e;unfold js at hr cC ae;rw[gC]at hr ae;simp only[gC]at cC;simp only[Zv,Zw]at hr cC ae;have jT:=qY (ev:=[b0,b1,b2,b3,b4,b5,b6,b7,b8,.sc (.bool x.desc)]) rfl;have dH:True:=trivial;have dJ:True:=trivial;have hf:=cz fH;simp[cp,g0,h1,h2,h3,hi,hq,cC,jT,ae,hf];exact⟨⟨by simp[cp],by simp[g0],by simp[g2],by simp[g4],JX,uL⟩,_,FH,f_,by simpa only[Xn]using q9,dN⟩
  .rw[Yc,Xo,Yk]at dN;subst dN;simp[cp,h2,h3];exact⟨⟨by simp[cp],by simp[g0],by simp[g2],by simp[g4],gc,lF⟩,hR,hK⟩
 .rintro o cG h' rfl ⟨rfl,hS,hR,hK⟩;simp;exact hX _ _ hR hK hS
def ahw(D d M id hc:Nat)(K:gM)(yk:AV)(my:yk=eH 2 (ib K))(rG:K.length<=24)(l:List Sp)(cq:List LA)(row:LA)(cY:row[19]?=some (.ls 13 cq false))(T:List Pr)(h0:Hp)(X:Code)(hq:cq.length=l.length)(hg:∀i:Nat,cq[i]?=(l[i]?).map fD)(hl:l.length<=10^9)(hn:d+10<=M)(hb:∀x∈l,oz D d x.e)(l0:List Pr)(ki:l0.length+(l.map λx=>2*dc x.e+2).sum<=1000000000)(hX:∀fr h,RS id (l0++l.flatMap λx=>rH K x) h->KR id h0 h->SQ id hc yk row fr h->PR id T h0 (M X (fr,h)))(fr:LA)(h:Hp)(hR:RS id l0 h)(hK:KR id h0 h)(hS:SQ id hc yk row fr h):
 PR id T h0 (M (.seq (cL (cT 6 pq)) X) (fr,h)):=by
 obtain⟨k0,e0⟩:∃k,M=k+d+1:=⟨M-d-1,by omega⟩;obtain⟨k1,e1⟩:∃k,M=k+1:=⟨M-1,by omega⟩;obtain⟨k2,e2⟩:∃k,M=k+2:=⟨M-2,by omega⟩;have fx:=λb(l:List Pr)(e:Ep)h(he:oz D d e)hS hl=>qH D d e he.1 he.2 k0 b id l h hS hl
 have fa:=λ(l:List Pr)k nm h hS hl=>kL k1 true id l k nm h hS hl
 have xn:=λb(l:List Pr)k h hS hl=>vR k2 b id l k h hS hl
 have fk:=λb nm h=>CY k1 b K nm h (by omega)
 rw[<-my,<-e1]at fk;rw[<-e0]at fx;rw[<-e1]at fa;rw[<-e2]at xn;clear e0 e1 e2 hn;have hyp:∀v,yk≠ .pn v:=λv=>by rw[my];unfold eH;split<;>simp
 have q2:=akN hyp
 have q3:=akO hyp
 clear my;obtain⟨cp,g0,g2,g4,gc,lF⟩:=hS;generalize dN:(l0++l.flatMap λx=>rH K x)=TL at hX;simp[pq,cT,cR,cL,f17,cp,g4,gc,cY,hq];generalize cU:M (.loop _) _=XX;refine gk cU
  (λi st cD=>SQ id hc yk row st cD/\gt st 60= .ls 13 cq false/\gt st 61=l.length/\gt st 62=i/\∃l',RS id l' cD/\KR id h0 cD/\l'.length+((l.drop i).map λx=>2*dc x.e+2).sum<=1000000000/\(l'++(l.drop i).flatMap λx=>rH K x)=TL)
  (λo st cD=>o= .exit 6/\SQ id hc yk row st cD/\RS id TL cD/\KR id h0 cD)
  l.length (by simp;omega) ⟨⟨by simp[cp],by simp[g0],by simp[g2],by simp[g4],gc,lF⟩,by simp[cp],by simp[cp],by simp[cp],l0,hR,hK,ki,dN⟩ ?_ ?_
 .clear cU XX dN hR hK cp g0 g2 g4 gc lF hX ki;rintro i fr hp cP ⟨⟨cp,g0,g2,g4,gc,lF⟩,h1,h2,h3,l',hR,hK,iF,dN⟩;rcases dY hg cP with⟨x,hi,hx,hr,cC⟩|rfl
  .have dB:=Zi hx;have fH:i<=10^15:=by omega
   rw[cH hx,Yn,Yo]at iF;rw[cH hx,Ym,<-Zp]at dN;have du:=hR.lt;have NC:=hR.app [.row (fD x)];have AK:=hK.trans (KR.app (id:=id) [.row (fD x)] du);have U3:=cJ [.row (fD x)] gc;have EN:=kR [.row (fD x)] du lF;have gp:(hp++[eV.row (fD x)])[hp.length]?=some (.row (fD x)):=by simp
   have C6:=hR.free [.row (fD x)];have hex:=fF x.e;have PD:=vQ (db K x.var);obtain⟨ha,ae,FH,Ho⟩:=fx true l' x.e _ (hb x dB) NC (by omega);obtain⟨JX,uL⟩:=Ho _ _ U3 EN;obtain⟨rC,JY⟩:=Ho _ _ gp C6;have f_:=AK.trans Ho;obtain⟨oE,af,hR2,hKy⟩:=xn true _ (db K x.var) ha FH (by rw[Zu];omega);obtain⟨IQ,Cj⟩:=hKy _ _ JX uL;obtain⟨Ci,Ck⟩:=hKy _ _ rC JY;have ph:=f_.trans hKy;have ah:=fk true x.var ha;have yI:=λ(R:List Pr)(hR:R.length<=1)=>(show(l'++ja x.e++G6 (db K x.var)++R).length+((l.drop (i+1)).map λx=>2*dc x.e+2).sum<=1000000000 by rw[Zu,Zu,Zu];omega)
   unfold rH at dN;rw[<-Zp,<-Zp]at dN;change(l'++ja x.e++G6 (db K x.var)++(if dn x.label mI=true then[]else[ij 2 x.label])++(l.drop (i+1)).flatMap λx=>rH K x)=TL at dN;obtain⟨b0,b1,b2,b3,b4,b5,b6,b7,b8,gC⟩:=iK x.e;unfold fD at hr cC ae rC Ci gp;rw[gC]at hr ae rC Ci gp;simp only[gC]at cC;have jT:=GB (ev:=[.sc (.string x.var),.sc (.string x.key),.sc (.string x.label),.sc (.bool x.off),b0,b1,b2,b3,b4,b5,b6,b7,b8]) rfl;by_cases he:dn x.label mI=true
   .rw[cw he]at dN;have q9:=yI [] (by simp);rw[Yk]at dN q9;clear yI fx fa xn fk C6 JY Ck;generalize ja x.e=RE,db K x.var=kk at *;generalize G6 kk=RK,Lw:hp.length=jp,xj:hp++[eV.row [x.var,x.key,x.label,x.off,b0,b1,b2,b3,b4,b5,b6,b7,b8]]=hp1 at *;unfold mI at he;have hf:=cz fH;simp[cp,g0,g2,h1,h2,h3,hi,hq,cC,jT,xj,Lw,gp,ae,rC,q2,ah,af,Ci,he,hf];exact⟨⟨by simp[cp],by simp[g0],by simp[g2],by simp[g4],IQ,Cj⟩,_,hR2,ph,by simpa only[Xn]using q9,dN⟩
   .rw[cv he]at dN;have q9:=yI [ij 2 x.label] (by simp);obtain⟨hd,ai,hR3,hKz⟩:=fa _ 2 x.label oE hR2 (by rw[Zu,Zu];omega);obtain⟨gc3,JZ⟩:=hKz _ _ IQ Cj;have Hq:=ph.trans hKz;clear yI fx fa xn fk C6 JY Ck;generalize ja x.e=RE,db K x.var=kk at *;generalize G6 kk=RK,Lw:hp.length=jp,xj:hp++[eV.row [x.var,x.key,x.label,x.off,b0,b1,b2,b3,b4,b5,b6,b7,b8]]=hp1 at *;unfold mI at he;have hf:=cz fH;simp[cp,g0,g2,h1,h2,h3,hi,hq,cC,jT,xj,Lw,gp,ae,rC,q2,ah,af,Ci,he,ai,hf];exact⟨⟨by simp[cp],by simp[g0],by simp[g2],by simp[g4],gc3,JZ⟩,_,hR3,Hq,by simpa only[Xn]using q9,dN⟩
  .rw[Yc,Xo,Yk]at dN;subst dN;simp[cp,h2,h3];exact⟨⟨by simp[cp],by simp[g0],by simp[g2],by simp[g4],gc,lF⟩,hR,hK⟩
 .rintro o cG h' rfl ⟨rfl,hS,hR,hK⟩;simp;exact hX _ _ hR hK hS
def ahx(D d M id hc:Nat)(K:gM)(yk:AV)(my:yk=eH 2 (ib K))(rG:K.length<=24)(l:List ByteArray)(cq:List LA)(row:LA)(cY:row[20]?=some (.ls 1 cq false))(T:List Pr)(h0:Hp)(X:Code)(hq:cq.length=l.length)(hg:∀i:Nat,cq[i]?=(l[i]?).map (λs=> [.sc (.string s)]))(hl:l.length<=10^9)(hn:d+10<=M)(l0:List Pr)(ki:l0.length+(l.map λx=>1).sum<=1000000000)(hX:∀fr h,RS id (l0++l.flatMap λx=>uN K x) h->KR id h0 h->SQ id hc yk row fr h->PR id T h0 (M X (fr,h)))(fr:LA)(h:Hp)(hR:RS id l0 h)(hK:KR id h0 h)(hS:SQ id hc yk row fr h):
 PR id T h0 (M (.seq (cL (cT 7 pq)) X) (fr,h)):=by
 obtain⟨k0,e0⟩:∃k,M=k+d+1:=⟨M-d-1,by omega⟩;obtain⟨k1,e1⟩:∃k,M=k+1:=⟨M-1,by omega⟩;obtain⟨k2,e2⟩:∃k,M=k+2:=⟨M-2,by omega⟩;have fx:=λb(l:List Pr)(e:Ep)h(he:oz D d e)hS hl=>qH D d e he.1 he.2 k0 b id l h hS hl
 have fa:=λ(l:List Pr)k nm h hS hl=>kL k1 true id l k nm h hS hl
 have xn:=λb(l:List Pr)k h hS hl=>vR k2 b id l k h hS hl
 have fk:=λb nm h=>CY k1 b K nm h (by omega)
 rw[<-my,<-e1]at fk;rw[<-e0]at fx;rw[<-e1]at fa;rw[<-e2]at xn;clear e0 e1 e2 hn;have hyp:∀v,yk≠ .pn v:=λv=>by rw[my];unfold eH;split<;>simp
 have q2:=akN hyp
 have q3:=akO hyp
 clear my;obtain⟨cp,g0,g2,g4,gc,lF⟩:=hS;generalize dN:(l0++l.flatMap λx=>uN K x)=TL at hX;simp[pq,cT,cR,cL,f17,cp,g4,gc,cY,hq];generalize cU:M (.loop _) _=XX;refine gk cU
  (λi st cD=>SQ id hc yk row st cD/\gt st 85= .ls 1 cq false/\gt st 86=l.length/\gt st 87=i/\∃l',RS id l' cD/\KR id h0 cD/\l'.length+((l.drop i).map λx=>1).sum<=1000000000/\(l'++(l.drop i).flatMap λx=>uN K x)=TL)
  (λo st cD=>o= .exit 8/\SQ id hc yk row st cD/\RS id TL cD/\KR id h0 cD)
  l.length (by simp;omega) ⟨⟨by simp[cp],by simp[g0],by simp[g2],by simp[g4],gc,lF⟩,by simp[cp],by simp[cp],by simp[cp],l0,hR,hK,ki,dN⟩ ?_ ?_
 .clear cU XX dN hR hK cp g0 g2 g4 gc lF hX ki;rintro i fr hp cP ⟨⟨cp,g0,g2,g4,gc,lF⟩,h1,h2,h3,l',hR,hK,iF,dN⟩;rcases dY hg cP with⟨x,hi,hx,hr,cC⟩|rfl
  .have dB:=Zi hx;have fH:i<=10^15:=by omega
   rw[cH hx,Yn,Yo]at iF;rw[cH hx,Ym,<-Zp]at dN;have PD:=vQ (db K x);obtain⟨h',af,FH,Ho⟩:=xn true _ (db K x) hp hR (by omega);obtain⟨JX,uL⟩:=Ho _ _ gc lF;have f_:=hK.trans Ho;have ah:=fk true x hp;have q9:(l'++G6 (db K x)).length+((l.drop (i+1)).map λ_=>1).sum<=1000000000:=by rw[Zu];omega
   change(l'++G6 (db K x)++(l.drop (i+1)).flatMap λx=>uN K x)=TL at dN;generalize db K x=kk at *;generalize G6 kk=RK at *;have hf:=cz fH;simp[cp,g0,g2,h1,h2,h3,hi,hq,cC,q2,ah,af,hf];exact⟨⟨by simp[cp],by simp[g0],by simp[g2],by simp[g4],JX,uL⟩,_,FH,f_,by simpa only[Xn]using q9,dN⟩
  .rw[Yc,Xo,Yk]at dN;subst dN;simp[cp,h2,h3];exact⟨⟨by simp[cp],by simp[g0],by simp[g2],by simp[g4],gc,lF⟩,hR,hK⟩
 .rintro o cG h' rfl ⟨rfl,hS,hR,hK⟩;simp;exact hX _ _ hR hK hS
def sq(c:Cp):List Pr:=if c.kind=8/\c.opt=true then[ij 5 mI]else[]
def q_(c:Cp)(K:gM):List Pr:=c.paths.flatMap (ml c.kind K)++((c.eu.flatMap λx=>ja x)++(ja c.e++((c.items.flatMap λx=>ja x.e)++((c.order.flatMap λx=>ja x.e)++((c.sets.flatMap λx=>rH K x)++((c.names.flatMap λx=>uN K x)++sq c))))))
def rI(c:Cp):Nat:=(c.paths.map vm).sum+(c.eu.map λx=>2*dc x).sum+2*dc c.e+(c.items.map λx=>2*dc x.e).sum+(c.order.map λx=>2*dc x.e).sum+(c.sets.map λx=>2*dc x.e+2).sum+(c.names.map λ_=>1).sum+1
def fP{α:Type}(f:α->List Pr)(g:α->Nat)(h:∀x,(f x).length<=g x)(l:List α):(l.flatMap f).length<=(l.map g).sum:=by
 induction l with
 |nil=>simp
 |cons x l ih=>have:=h x;rw[Ym,Yn,Yo,Zu];omega
structure J0 (D d:Nat)(c:Cp):Prop where
 paths:∀p∈c.paths,brT D d p
 eu:∀e∈c.eu,oz D d e
 e:oz D d c.e
 items:∀x∈c.items,oz D d x.e
 order:∀x∈c.order,oz D d x.e
 sets:∀x∈c.sets,oz D d x.e
 n1:c.paths.length<=10^8
 n2:c.eu.length<=10^9
 n3:c.items.length<=10^9
 n4:c.order.length<=10^9
 n5:c.sets.length<=10^9
 n6:c.names.length<=10^9
def NH(D d n:Nat)(t:Bool)(id:Nat)(K:gM)(rG:K.length<=24)(l0:List Pr)(c:Cp)(h:Hp)(hR:RS id l0 h)(hb:J0 D d c)(hl:l0.length+rI c<=1000000000)(hn:2*D+d+40<=n):
 ∃h',cu cx n t 17 [.pt id 0,.ag (cA c),eH 2 (ib K)] h=some (.tp [],h')/\RS id (l0++q_ c K) h'/\KR id h h':=by
 obtain⟨M,rfl⟩:∃m,n=m+1:=⟨n-1,by omega⟩;rw[rr (n:=M) f17 []];have Nh:=λb h(hR:RS id l0 h)=>RN D d M b id K rG l0 c h hR hb.paths hb.n1 (by unfold rI at hl;omega) (by omega)
 generalize my:eH 2 (ib K)=yk;rw[my]at Nh;have hyp:∀v,yk≠ .pn v:=λv=>by rw[<-my];unfold eH;split<;>simp
 obtain⟨k0,e0⟩:∃k,M=k+d+1:=⟨M-d-1,by omega⟩;obtain⟨k1,e1⟩:∃k,M=k+1:=⟨M-1,by omega⟩;have fx:=λb(l:List Pr)h hS hl=>qH D d c.e hb.e.1 hb.e.2 k0 b id l h hS hl
 have fa:=λ(l:List Pr)k nm h hS hl=>kL k1 true id l k nm h hS hl
 rw[<-e0]at fx;rw[<-e1]at fa;generalize dN:l0++q_ c K=TL;unfold q_ at dN;show PR id TL h (M pq _);rw[show pq= .seq (cL (cT 0 pq)) (.seq (cL (cT 1 pq)) (.seq (cL (cT 2 pq)) (.seq (cL (cT 3 pq)) (.seq (cL (cT 4 pq)) (.seq (cL (cT 5 pq)) (.seq (cL (cT 6 pq)) (.seq (cL (cT 7 pq)) (.seq (cL (cT 8 pq)) (cT 9 pq))))))))) by kernel_rfl];have du:=hR.lt;have hcr0:(cA c)[0]?=some (.sc (.int .i64 c.kind)):=rfl;have hcr1:(cA c)[1]?=some (.sc (.bool c.opt)):=rfl;have RT:∀k,(cA c)[0]'k=c.kind:=λk=>rfl
 have aac:∀k,(cA c)[1]'k=c.opt:=λk=>rfl
 have gI:(cA c).length=21:=by simp[cA,cB]
 have LC:(cA c).take 21=cA c:=Yy (by omega);have Lz:((cA c).drop 5).take 9=cM c.e:=by
  obtain⟨a0,a1,a2,a3,a4,a5,a6,a7,a8,gC,ta⟩:=qG c;rw[gC,ta];rfl
 have RU:rI c=(c.paths.map vm).sum+(c.eu.map λx=>2*dc x).sum+2*dc c.e+(c.items.map λx=>2*dc x.e).sum+(c.order.map λx=>2*dc x.e).sum+(c.sets.map λx=>2*dc x.e+2).sum+(c.names.map λ_=>1).sum+1:=rfl;have hlp:=fP (ml c.kind K) vm (sn c.kind K) c.paths;have hlw:=fP (λx=>ja x) (λx=>2*dc x) (λx=>fF x) c.eu;have cP:=fF c.e;have hli:=fP (λx:Ip=>ja x.e) (λx=>2*dc x.e) (λx=>fF x.e) c.items;have hlo:=fP (λx:BN=>ja x.e) (λx=>2*dc x.e) (λx=>fF x.e) c.order;have PE:=fP (λx:Sp=>rH K x) (λx=>2*dc x.e+2) (λx=>Hn K x) c.sets;have Cf:=fP (λx:ByteArray=>uN K x) (λ_=>1) (λx=>vQ _) c.names;have WA:∀(l':List Pr)fr hp,RS id l' hp->KR id h hp->SQ id h.length yk (cA c) fr hp->l'.length<=10^9->l'++sq c=TL->PR id TL h (M (.seq (cL (cT 8 pq)) (cT 9 pq)) (fr,hp)):=by
  rintro l' fr hp hR hK ⟨cp,g0,g2,g4,gc,lF⟩ iF hT;clear Nh fx Lz;unfold sq at hT;generalize cA c=row,c.kind=kd,c.opt=op,h.length=hc at *;by_cases k8:kd=8
  .subst k8;cases op
   .simp at hT;subst hT;simp[pq,cT,cR,cL,f17,cp,g4,gc,gI,RT,aac];exact⟨hp,by simp[h_],hR,hK⟩
   .simp at hT;obtain⟨h',ae,C8,hK'⟩:=fa l' 5 mI hp hR iF;rw[hT]at C8;unfold mI at ae;simp[pq,cT,cR,cL,f17,cp,g0,g4,gc,gI,RT,aac,ae];exact⟨h',by simp[h_],C8,hK.trans hK'⟩
  .rw[cv (λe=>k8 e.1),Yk]at hT;subst hT;simp[pq,cT,cR,cL,f17,cp,g4,gc,gI,RT,k8];exact⟨hp,by simp[h_],hR,hK⟩
 generalize Code.seq (cL (cT 8 pq)) (cT 9 pq)=Z8 at WA|-;have WB:∀(l':List Pr)fr hp,RS id l' hp->KR id h hp->SQ id h.length yk (cA c) fr hp->l'.length+(c.names.map λ_=>1).sum<=999999999->l'++((c.names.flatMap λx=>uN K x)++sq c)=TL->PR id TL h (M (.seq (cL (cT 7 pq)) Z8) (fr,hp)):=by
  intro l' fr hp hR hK hS iF hT;exact ahx D d M id h.length K yk my.symm rG c.names (eE c.names) (cA c) (nZ c).2.2.2 TL h Z8 (cI _) (iW _) hb.n6 (by omega) l' (by omega) (λcG h' C8 hK' ig=>WA _ cG h' C8 hK' ig (by rw[Zu];omega) (by rw[Zp];exact hT)) fr hp hR hK hS
 generalize Code.seq (cL (cT 7 pq)) Z8=Z7 at WB|-;have WC:∀(l':List Pr)fr hp,RS id l' hp->KR id h hp->SQ id h.length yk (cA c) fr hp->l'.length+(c.sets.map λx=>2*dc x.e+2).sum+(c.names.map λ_=>1).sum<=999999999->l'++((c.sets.flatMap λx=>rH K x)++((c.names.flatMap λx=>uN K x)++sq c))=TL->PR id TL h (M (.seq (cL (cT 6 pq)) Z7) (fr,hp)):=by
  intro l' fr hp hR hK hS iF hT;exact ahw D d M id h.length K yk my.symm rG c.sets (y_ c.sets) (cA c) (nZ c).2.2.1 TL h Z7 (iQ _) (qx _) hb.n5 (by omega) hb.sets l' (by omega) (λcG h' C8 hK' ig=>WB _ cG h' C8 hK' ig (by rw[Zu];omega) (by rw[Zp];exact hT)) fr hp hR hK hS
 generalize Code.seq (cL (cT 6 pq)) Z7=Z6 at WC|-;have BO:∀(l':List Pr)fr hp,RS id l' hp->KR id h hp->SQ id h.length yk (cA c) fr hp->l'.length+(c.order.map λx=>2*dc x.e).sum+(c.sets.map λx=>2*dc x.e+2).sum+(c.names.map λ_=>1).sum<=999999999->l'++((c.order.flatMap λx=>ja x.e)++((c.sets.flatMap λx=>rH K x)++((c.names.flatMap λx=>uN K x)++sq c)))=TL->PR id TL h (M (.seq (cL (cT 5 pq)) Z6) (fr,hp)):=by
  intro l' fr hp hR hK hS iF hT;exact ahv D d M id h.length K yk my.symm rG c.order (yZ c.order) (cA c) (nZ c).2.1 TL h Z6 (iP _) (qw _) hb.n4 (by omega) hb.order l' (by omega) (λcG h' C8 hK' ig=>WC _ cG h' C8 hK' ig (by rw[Zu];omega) (by rw[Zp];exact hT)) fr hp hR hK hS
 generalize Code.seq (cL (cT 5 pq)) Z6=Z5 at BO|-;have xb:∀(l':List Pr)fr hp,RS id l' hp->KR id h hp->SQ id h.length yk (cA c) fr hp->l'.length+(c.items.map λx=>2*dc x.e).sum+(c.order.map λx=>2*dc x.e).sum+(c.sets.map λx=>2*dc x.e+2).sum+(c.names.map λ_=>1).sum<=999999999->l'++((c.items.flatMap λx=>ja x.e)++((c.order.flatMap λx=>ja x.e)++((c.sets.flatMap λx=>rH K x)++((c.names.flatMap λx=>uN K x)++sq c))))=TL->PR id TL h (M (.seq (cL (cT 4 pq)) Z5) (fr,hp)):=by
  intro l' fr hp hR hK hS iF hT;exact ahu D d M id h.length K yk my.symm rG c.items (xa c.items) (cA c) (nZ c).1 TL h Z5 (iO _) (qv _) hb.n3 (by omega) hb.items l' (by omega) (λcG h' C8 hK' ig=>BO _ cG h' C8 hK' ig (by rw[Zu];omega) (by rw[Zp];exact hT)) fr hp hR hK hS
 generalize Code.seq (cL (cT 4 pq)) Z5=Z4 at xb|-;have tJ:∀(l':List Pr)fr hp,RS id l' hp->KR id h hp->SQ id h.length yk (cA c) fr hp->l'.length+2*dc c.e+(c.items.map λx=>2*dc x.e).sum+(c.order.map λx=>2*dc x.e).sum+(c.sets.map λx=>2*dc x.e+2).sum+(c.names.map λ_=>1).sum<=999999999->l'++(ja c.e++((c.items.flatMap λx=>ja x.e)++((c.order.flatMap λx=>ja x.e)++((c.sets.flatMap λx=>rH K x)++((c.names.flatMap λx=>uN K x)++sq c)))))=TL->PR id TL h (M (.seq (cL (cT 3 pq)) Z4) (fr,hp)):=by
  rintro l' fr hp hR hK ⟨cp,g0,g2,g4,gc,lF⟩ iF hT;obtain⟨h',ae,C8,hK'⟩:=fx true l' hp hR (by omega);obtain⟨gc',RO⟩:=hK' _ _ gc lF;have s4:=λcG ig=>xb _ cG h' C8 (hK.trans hK') ig (by rw[Zu];omega) (by rw[Zp];exact hT)
  have hex:=cB c.e;clear xb BO WC WB WA hT hR hK C8 hK' Nh fx fa hlp hlw cP hli hlo PE Cf RU;generalize cM c.e=ev,cA c=row,h.length=hc at *;simp[pq,cT,cR,cL,f17,cp,g0,g4,gc,gI,Lz,ae];exact s4 _ ⟨by simp[cp],by simp[g0],by simp[g2],by simp[g4],gc',RO⟩
 generalize Code.seq (cL (cT 3 pq)) Z4=Z3 at tJ|-;have st2:∀(l':List Pr)fr hp,RS id l' hp->KR id h hp->SQ id h.length yk (cA c) fr hp->l'.length+(c.eu.map λx=>2*dc x).sum+2*dc c.e+(c.items.map λx=>2*dc x.e).sum+(c.order.map λx=>2*dc x.e).sum+(c.sets.map λx=>2*dc x.e+2).sum+(c.names.map λ_=>1).sum<=999999999->l'++((c.eu.flatMap λx=>ja x)++(ja c.e++((c.items.flatMap λx=>ja x.e)++((c.order.flatMap λx=>ja x.e)++((c.sets.flatMap λx=>rH K x)++((c.names.flatMap λx=>uN K x)++sq c))))))=TL->PR id TL h (M (.seq (cL (cT 2 pq)) Z3) (fr,hp)):=by
  intro l' fr hp hR hK hS iF hT;exact aht D d M id h.length K yk my.symm rG c.eu (cZ c.eu) (cA c) rfl TL h Z3 (cX _) (eM _) hb.n2 (by omega) hb.eu l' (by omega) (λcG h' C8 hK' ig=>tJ _ cG h' C8 hK' ig (by rw[Zu];omega) (by rw[Zp];exact hT)) fr hp hR hK hS
 generalize Code.seq (cL (cT 2 pq)) Z3=Z2 at st2|-;obtain⟨h',ae,C8,hK'⟩:=Nh true _ (hR.app [.row (cA c)]);have gc:(h++[eV.row (cA c)])[h.length]?=some (.row (cA c)):=by simp
 have lF:=hR.free [.row (cA c)];obtain⟨gc',RO⟩:=hK' _ _ gc lF;have s2:=λcG ig=>st2 _ cG h' C8 ((KR.app _ du).trans hK') ig (by rw[Zu];omega) (by rw[Zp];exact dN)
 have q2:=akN hyp
 clear st2 tJ xb BO WC WB WA dN hR C8 hK' Nh fx fa hlp hlw cP hli hlo PE Cf RU hl;generalize cA c=row,hjc:h.length=hc at *;generalize xj:h++[eV.row row]=hp1 at *;simp[pq,cT,cR,cL,f17,xj,hjc,gc,gI,LC,q2,ae];refine s2 _ ?_;exact⟨by simp,by simp,by simp,by simp,gc',RO⟩
noncomputable def FO :Code:=(f19.body).getD .skip
noncomputable def NI :Code:=cL (cR (cL (cL (cR (cL (cL (cR (cL (cT 2 FO)))))))))
noncomputable def kCB :Code:=cL (cL (cR (cL (cT 2 FO))))
noncomputable def kCD :Code:=cL (cL (cR kCB))
def ahy{P:Prop}{call:Bool->FuncId->LA->Hp->Option (AV × Hp)}{X:Option (Out × St)}{c:Code}{fr:LA}{h:Hp}{K:LA->Hp->Prop}(hX:dd cx call c (fr,h)=X)(H:∃cG h',dd cx call c (fr,h)=some (.ret,(cG,h'))/\K cG h')(fin:∀cG h',X=some (.ret,(cG,h'))->K cG h'->P):P:=by
 obtain⟨cG,h',e,k⟩:=H;exact fin cG h' (hX.symm.trans e) k
def EO(a b:List Pr):gN (a++b)=gN a++gN b:=by simp[gN]
def pT(Q:List Pr):(gN Q).flatten.length=Q.length*8:=by rw[e9 _ (lM Q),ef]
def sr :∀{Q:List Pr}{i:Nat}{x:Pr},Q[i]?=some x->((gN Q).flatten.drop (i*8)).take 8=eQ x
 | [],i,x,h=>by simp at h
 |
  q::Q,0,x,h=>by
  simp at h;subst h;rw[show gN (q::Q)=eQ q::gN Q from rfl,List.flatten_cons,Nat.zero_mul,Yd];exact List.take_left' (eI q)
 |
  q::Q,i+1,x,h=>by
  rw[show gN (q::Q)=eQ q::gN Q from rfl,List.flatten_cons,show(i+1)*8=8+i*8 by omega,<-List.drop_drop,List.drop_left' (eI q)];exact sr (by simpa using h)
def NJ(W P:List Pr)(x y:Pr):cF (gN (W++y::P)).flatten (W.length*8) (eQ x)=(gN (W++x::P)).flatten:=by
 have hl:=pT W;rw[EO,EO,List.flatten_append,List.flatten_append];unfold cF;rw[<-hl,List.take_left' rfl,eI,<-List.drop_drop,List.drop_left' rfl];rw[show gN (y::P)=eQ y::gN P from rfl,show gN (x::P)=eQ x::gN P from rfl,List.flatten_cons,List.flatten_cons,List.drop_left' (eI y),Zp]
def pU(Q:List Pr):(gN Q).flatten.all l6=true:=by
 refine nW λr hr=>?_
 obtain⟨⟨k,n,y,⟨vk,vn,vd,vs,vz,vl⟩⟩,_,rfl⟩:=Yf.1 hr;cases vz<;>cases hE:(fj vl).isEmpty<;>simp[eQ,enc,zT,l6,hE]
def xo(R L:List Pr):Prop:=(∀x∈R,x∈L)/\∀x∈L,∃z∈R,dx z x=0
def xo.refl(hs:∀x,dx x x=0)(L:List Pr):xo L L:=⟨λ_ h=>h,λx h=>⟨x,h,hs x⟩⟩
def adT(M:Nat)(t:Bool)(p q:Pr)(h:Hp)(c:Int)(ho:∀b h,cu cx M b 14 [uw p,uw q] h=some ((c:AV),h)):cu cx (M+1) t 20 [uw p,uw q] h=some (.sc (.bool (decide (c=0))),h++[.row (eQ p),.row (eQ q)]):=by
 rw[rr (n:=M) f20 [.tmp 4]];unfold uw at ho|-;have hp:=eI p;have hq:=eI q;have tp:(eQ p).take 8=eQ p:=Yy (by omega);have tq:(eQ q).take 8=eQ q:=Yy (by omega);generalize eQ p=rp,eQ q=rq at *;simp[f20,hp,hq,tp,tq,ho]
def RX(x y z:Pr)(h1:dx x y=0)(h2:dx z y=0):dx z x=0:=by
 have a1:=nU x y;have a2:=nU z y;have b1:=Ei z y x (by omega) (by omega);have b2:=Ei x y z (by omega) (by omega);have:=nU x z;omega
noncomputable def Cl :Code:=(f7.body).getD .skip
def lP(q:List Cp):List Cp->Nat->List Pr
 | [],_=> []
 |c::l,i=>q_ c (dK q (i:Int)).1++lP q l (i+1)
def mm(q:List Cp):List Pr:=lP q q 0
def C9(c:Cp)(K:gM):(q_ c K).length<=rI c:=by
 have hlp:=fP (ml c.kind K) vm (sn c.kind K) c.paths;have hlw:=fP (λx=>ja x) (λx=>2*dc x) (λx=>fF x) c.eu;have cP:=fF c.e;have hli:=fP (λx:Ip=>ja x.e) (λx=>2*dc x.e) (λx=>fF x.e) c.items;have hlo:=fP (λx:BN=>ja x.e) (λx=>2*dc x.e) (λx=>fF x.e) c.order;have PE:=fP (λx:Sp=>rH K x) (λx=>2*dc x.e+2) (λx=>Hn K x) c.sets;have Cf:=fP (λx:ByteArray=>uN K x) (λ_=>1) (λx=>vQ _) c.names;have hd:(sq c).length<=1:=by unfold sq;split<;>simp
 unfold q_ rI;simp only[Zu];omega
def uO(q:List Cp):∀(l:List Cp)(i:Nat),(lP q l i).length<=(l.map rI).sum
 | [],i=>by simp[lP]
 |
  c::l,i=>by
  have h1:=C9 c (dK q (i:Int)).1;have h2:=uO q l (i+1);rw[lP,Zu,Yn,Yo];omega
def Hr(N D:Nat)(p q:Pr)(hp:kj p.v<=D/\oK p.v)(hq:kj q.v<=D/\oK q.v)(t:Bool)(h:Hp):cu cx (N+3*D+8) t 24 [uw p,uw q] h=some (.sc (.int .i64 (dx p q)),h):=
 Qu (N+3*D+6) p q t h (kE p.v q.v) (λt h=>by
  have:=aaQ D p.v q.v hp.1 hq.1 hp.2 hq.2 (N+1) t h
  rwa [show N+1+3*D+6=N+3*D+6+1 by omega]at this)
end
def LL{m i:Nat}(h:i<=m):n_ m (i:Int)=i:=by unfold n_;omega
def C_{q:List Cp}(h:(gv q).2.2=0):(fW q).2=0:=by
 unfold gv dK at h;by_cases hq:(fW q).2=0
 .exact hq
 .rw[cv hq]at h;exact h
def gP(D:Nat)(l:List Pr):Prop:=∀p∈l,kj p.v<=D/\oK p.v
def fR{D:Nat}{a b:List Pr}(h1:gP D a)(h2:gP D b):gP D (a++b):=λp hp=>by
 rcases Zz.1 hp with h|h
 .exact h1 p h
 .exact h2 p h
def j4(D:Nat):gP D []:=λp hp=>by cases hp
def jR{α:Type}{D:Nat}{f:α->List Pr}{l:List α}(h:∀x∈l,gP D (f x)):gP D (l.flatMap f):=λp hp=>by
 obtain⟨x,hx,hp⟩:=List.mem_flatMap.1 hp;exact h x hx p hp
def aad{D:Nat}(hD:1<=D):kj zV<=D/\oK zV:=by
 unfold zV;refine⟨by rw[kj];simp[F6];omega,?_⟩;rw[oK];exact⟨Yt _,Yt _,trivial⟩
def jk{D:Nat}(hD:1<=D)(k:Int)(n:ByteArray):gP D [ij k n]:=λp hp=>by
 obtain rfl:=List.mem_singleton.1 hp;exact aad hD
def qL{α:Type}{D:Nat}(hD:1<=D)(k:Int)(f:α->ByteArray)(l:List α):gP D (l.map λx=>ij k (f x)):=λp hp=>by
 obtain⟨x,_,rfl⟩:=Yf.1 hp;exact aad hD
def aae{D:Nat}(hD:1<=D)(op:Int)(nm:ByteArray):gP D (pQ op nm):=by
 have h2:∀a b n m,gP D [ij a n,ij b m]:=λa b n m=>fR (jk hD a n) (jk hD b m)
 unfold pQ
 repeat' split
 all_goals first|exact h2 _ _ _ _|exact jk hD _ _|exact j4 D
mutual
def lQ{D:Nat}(hD:1<=D):∀e:Ep,gP D (ja e)
 | .mk op v nm ds ks=>by rw[ja];exact fR (aae hD op nm) (RY hD ks)
def RY{D:Nat}(hD:1<=D):∀l:List Ep,gP D (mS l)
 | []=>by rw[mS];exact j4 D
 |x::xs=>by rw[mS];exact fR (lQ hD x) (RY hD xs)
end
def aaf{D:Nat}(hD:1<=D)(k:Int):gP D (G6 k):=by
 unfold G6
 repeat' split
 all_goals first|exact jk hD _ _|exact j4 D
def adU{D d:Nat}(hD:1<=D)(x:Np)(hb:brN D d x):gP D (FM x):=by
 unfold FM;split
 .exact fR (jk hD _ _) (fR (qL hD 2 (λs=>s) _) (qL hD 3 (λq:Pp=>q.key) _))
 .split
  .exact fR (qL hD 2 (λs=>s) _) (qL hD 3 (λq:Pp=>q.key) _)
  .split
   .rename_i j _ s rest q h1 h2;refine fR (λp hp=>?_) (fR (qL hD 2 (λs=>s) _) (qL hD 3 (λq:Pp=>q.key) _));obtain rfl:=List.mem_singleton.1 hp;have hq:=(hb.1 q (Zi h2)).2;obtain⟨key,⟨op,v,nm,ds,ks⟩⟩:=q;rw[ke]at hq;exact⟨hq.1.1,Ad hq.1.2⟩
   .exact j4 D
def LM{D:Nat}(hD:1<=D)(l:List Pp):gP D (tL l):=jR λq _=>lQ hD q.e
def vY{D d:Nat}(hD:1<=D)(kd:Int)(K:gM)(p:Tp)(hb:brT D d p):gP D (ml kd K p):=by
 unfold ml;refine fR (jR λx hx=>?_) (jR λx hx=>?_)
 .unfold qK;refine fR (LM hD _) ?_;split
  .split
   .exact j4 D
   .split
    .exact j4 D
    .exact jk hD _ _
  .exact adU hD x (hb.1 x hx)
 .unfold si;refine fR (LM hD _) ?_;split
  .exact j4 D
  .unfold vU;refine fR (fR ?_ (qL hD 5 (λs=>s) _)) (qL hD 6 (λq:Pp=>q.key) _);split
   .exact jk hD _ _
   .exact j4 D
def NK{D d:Nat}(hD:1<=D)(c:Cp)(K:gM)(hb:J0 D d c):gP D (q_ c K):=by
 unfold q_;refine fR (jR λp hp=>vY hD _ K p (hb.paths p hp)) (fR (jR λx _=>lQ hD x) (fR (lQ hD _) (fR (jR λx _=>lQ hD x.e) (fR (jR λx _=>lQ hD x.e) (fR (jR λx _=>?_) (fR (jR λx _=>aaf hD _) ?_))))))
 .unfold rH;refine fR (lQ hD _) (fR (aaf hD _) ?_);split
  .exact j4 D
  .exact jk hD _ _
 .unfold sq;split
  .exact jk hD _ _
  .exact j4 D
def Hs{D d:Nat}(hD:1<=D)(q:List Cp):∀(l:List Cp)(i:Nat),(∀c∈l,J0 D d c)->gP D (lP q l i)
 | [],i,_=>j4 D
 |
  c::l,i,hb=>by
  rw[lP];exact fR (NK hD c _ (hb c (by simp))) (Hs hD q l (i+1) λx hx=>hb x (by simp[hx]))
end Go.Proofs.YtmocfjnklfpnbaaGreatDoor
