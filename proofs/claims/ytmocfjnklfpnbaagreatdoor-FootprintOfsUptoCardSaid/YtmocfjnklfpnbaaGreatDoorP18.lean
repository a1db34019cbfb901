/- Part of the proof. -/
import Derived.Test.YtmocfjnklfpnbaaGreatDoorP17
set_option linter.all false
set_option maxHeartbeats 32000000
set_option maxRecDepth 100000
namespace Go.Proofs.YtmocfjnklfpnbaaGreatDoor
open Go Go.Ae Go.Proofs.Tryz
section
attribute [local simp] ew eY
def Bs.i_(s:Bs)(l:List Ep):Bs:=l.foldl (λs e=>s.fail (iM s.now e false)) s
def Bs.xk(s:Bs)(e:Ep)(l:List Ep):s.i_ (e::l)=(s.fail (iM s.now e false)).i_ l:=rfl
def zh(l:List Ep):∀{s:Bs},jG s->jG (s.i_ l)/\(s.i_ l).old=s.old/\(s.i_ l).now=s.now:=by
 induction l with
 |nil=>exact λh=>⟨h,rfl,rfl⟩
 |cons e l ih=>exact λ{s}h=>ih (s:=s.fail (iM s.now e false)) h
def Bs.paths(s:Bs)(c:Cp):Bs:=(c.paths.foldl (λs p=>s.path p c.kind) s).i_ c.eu
noncomputable def CZ :Code:=(f82.body).getD .skip
def ag3(D d M id hc:Nat)(l:List Ep)(cq:List LA)(row:LA)(cY:row[4]?=some (.ls 9 cq false))(T:Bs)(h0:Hp)(hq:cq.length=l.length)(hg:∀i:Nat,cq[i]?=(l[i]?).map cM)(hl:l.length<=10^9)(hb:∀x∈l,ub D d (x))(hn:3*d+40<=M)(s:Bs)(dN:s.i_ (l.map λx=>x)=T)(fr:LA)(h:Hp)(hS:BS id s h)(hs:jG s)(hK:dm id h0 h)(cp:fr.length=89)(g0:gt fr 0= .pt id 0)(g3:gt fr 3= .pt hc 0)(hh:h[hc]?=some (.row row))(gE:hc≠id):
 PB id T h0 (M (cT 3 IH) (fr,h)):=by
 obtain⟨k1,e1⟩:∃k,M=k+1:=⟨M-1,by omega⟩;have ff:=λb(s:Bs)e h hS=>kX k1 b id s e h hS
 have fc:=λ(y:AV)(h:Hp)(e:Ep)(he:ub D d e)(hB:ka h 2 (ib s.now) y)b=>lh D d M b s.now y h e false hB (by have:=hs.2;omega) he (by omega)
 rw[<-e1]at ff;clear e1 hn;simp[IH,cT,cR,f77,cp,g3,hh,cY,hq];generalize cU:M (.loop _) _=XX;refine gk cU
  (λi st cD=>st.length=89/\gt st 0= .pt id 0/\gt st 3= .pt hc 0/\cD[hc]?=some (.row row)/\gt st 74= .ls 9 cq false/\gt st 75=l.length/\gt st 76=i/\∃s',BS id s' cD/\s'.now=s.now/\dm id h0 cD/\s'.i_ ((l.drop i).map λx=>x)=T)
  (λo st cD=>o= .exit 5/\st.length=89/\gt st 0= .pt id 0/\gt st 3= .pt hc 0/\cD[hc]?=some (.row row)/\BS id T cD/\dm id h0 cD)
  l.length (by simp;omega) ⟨by simp[cp],by simp[g0],by simp[g3],hh,by simp[cp],by simp[cp],by simp[cp],s,hS,rfl,hK,dN⟩ ?_ ?_
 .clear cU XX dN hS hK cp g0 g3 hh;rintro i fr hp cP ⟨cp,g0,g3,hh,h1,h2,h3,s',hS,jx,hK,dN⟩;rcases dY hg cP with⟨x,hi,hx,hr,cC⟩|rfl
  .have dB:=Zi hx;have fH:i<=10^15:=by omega
   rw[cH hx,Yn,Bs.xk]at dN;have jI:=hS.app [.row (cM x)];obtain⟨h',ae,ig,hK'⟩:=ff false s' (iM s'.now (x) false) _ jI;obtain⟨yo,yn,i0,⟨go,go'⟩,gn,tK⟩:=hS;rw[jx]at gn dN ae ig;have g1:=cJ [.row (cM x)] i0;have q3:=akO (λv=>gn.np v)
   have GL:(s'.fail (iM s.now (x) false)).now=s.now:=jx;have kJ:=cJ [.row (cM x)] hh;generalize s'.fail (iM s.now (x) false)=s2 at dN ig GL;generalize s'.e=e0 at i0 g1;have dH:=cB x;have af:=fc yn (hp++[.row (cM x)]) x (hb x dB) (gn.grow _) false;generalize iM s.now x false=c at ae af;generalize cM x=ev at hr cC dH ae af hK' kJ g1;have dJ:ev.take 9=ev:=Yy (by omega);have jT:=rW dH;have hf:=cz fH;simp[cp,g0,g3,h1,h2,h3,hi,hq,cC,dH,dJ,jT,g1,q3,ae,af,hf];refine⟨hK' _ _ kJ gE,s2,ig,GL,(hK.trans (dm.app _ _ _)).trans hK',?_⟩
   first|exact dN|simpa using dN
  .rw[Yc,Xm]at dN;change s'=T at dN;subst dN;simp[cp,h2,h3];exact⟨g0,g3,hh,hS,hK⟩
 .rintro o cG h' rfl ⟨rfl,cp,g0,g3,hh,hS,hK⟩;simp;exact⟨h',by simp[h_],hS,hK⟩
def ag4(D d M id hc:Nat)(l:List BN)(cq:List LA)(row:LA)(cY:row[16]?=some (.ls 10 cq false))(T:Bs)(h0:Hp)(X:Code)(hq:cq.length=l.length)(hg:∀i:Nat,cq[i]?=(l[i]?).map js)(hl:l.length<=10^9)(hb:∀x∈l,ub D d (x.e))(hn:3*d+40<=M)(s:Bs)(hX:∀fr h,BS id (s.i_ (l.map λx=>x.e)) h->dm id h0 h->fr.length=91->gt fr 0= .pt id 0->gt fr 3= .pt hc 0->h[hc]?=some (.row row)->PB id T h0 (M X (fr,h)))(fr:LA)(h:Hp)(hS:BS id s h)(hs:jG s)(hK:dm id h0 h)(cp:fr.length=91)(g0:gt fr 0= .pt id 0)(g3:gt fr 3= .pt hc 0)(hh:h[hc]?=some (.row row))(gE:hc≠id):
 PB id T h0 (M (.seq (cL (cT 3 CZ)) X) (fr,h)):=by
 obtain⟨k1,e1⟩:∃k,M=k+1:=⟨M-1,by omega⟩;have ff:=λb(s:Bs)e h hS=>kX k1 b id s e h hS
 have fc:=λ(y:AV)(h:Hp)(e:Ep)(he:ub D d e)(hB:ka h 2 (ib s.now) y)b=>lh D d M b s.now y h e false hB (by have:=hs.2;omega) he (by omega)
 rw[<-e1]at ff;clear e1 hn;generalize dN:s.i_ (l.map λx=>x.e)=TL at hX;simp[CZ,cT,cR,cL,f82,cp,g3,hh,cY,hq];generalize cU:M (.loop _) _=XX;refine gk cU
  (λi st cD=>st.length=91/\gt st 0= .pt id 0/\gt st 3= .pt hc 0/\cD[hc]?=some (.row row)/\gt st 59= .ls 10 cq false/\gt st 60=l.length/\gt st 61=i/\∃s',BS id s' cD/\s'.now=s.now/\dm id h0 cD/\s'.i_ ((l.drop i).map λx=>x.e)=TL)
  (λo st cD=>o= .exit 2/\st.length=91/\gt st 0= .pt id 0/\gt st 3= .pt hc 0/\cD[hc]?=some (.row row)/\BS id TL cD/\dm id h0 cD)
  l.length (by simp;omega) ⟨by simp[cp],by simp[g0],by simp[g3],hh,by simp[cp],by simp[cp],by simp[cp],s,hS,rfl,hK,dN⟩ ?_ ?_
 .clear cU XX dN hS hK cp g0 g3 hh hX;rintro i fr hp cP ⟨cp,g0,g3,hh,h1,h2,h3,s',hS,jx,hK,dN⟩;rcases dY hg cP with⟨x,hi,hx,hr,cC⟩|rfl
  .have dB:=Zi hx;have fH:i<=10^15:=by omega
   rw[cH hx,Yn,Bs.xk]at dN;have jI:=hS.app [.row (js x)];obtain⟨h',ae,ig,hK'⟩:=ff false s' (iM s'.now (x.e) false) _ jI;obtain⟨yo,yn,i0,⟨go,go'⟩,gn,tK⟩:=hS;rw[jx]at gn dN ae ig;have g1:=cJ [.row (js x)] i0;have q3:=akO (λv=>gn.np v)
   have GL:(s'.fail (iM s.now (x.e) false)).now=s.now:=jx;have kJ:=cJ [.row (js x)] hh;generalize s'.fail (iM s.now (x.e) false)=s2 at dN ig GL;generalize s'.e=e0 at i0 g1;obtain⟨b0,b1,b2,b3,b4,b5,b6,b7,b8,gC⟩:=iK x.e;have af:=fc yn (hp++[.row (js x)]) x.e (hb x dB) (gn.grow _) false;generalize iM s.now x.e false=c at ae af;unfold js at hr cC ae af hK' kJ g1;rw[gC]at hr ae af kJ g1 hK';simp only[gC]at cC;simp only[Zv,Zw]at hr cC ae af kJ g1 hK';have jT:=qY (ev:=[b0,b1,b2,b3,b4,b5,b6,b7,b8,.sc (.bool x.desc)]) rfl;have dH:True:=trivial;have dJ:True:=trivial;have hf:=cz fH;simp[cp,g0,g3,h1,h2,h3,hi,hq,cC,jT,g1,q3,ae,af,hf];refine⟨hK' _ _ kJ gE,s2,ig,GL,(hK.trans (dm.app _ _ _)).trans hK',?_⟩
   first|exact dN|simpa using dN
  .rw[Yc,Xm]at dN;change s'=TL at dN;subst dN;simp[cp,h2,h3];exact⟨g0,g3,hh,hS,hK⟩
 .rintro o cG h' rfl ⟨rfl,cp,g0,g3,hh,hS,hK⟩;simp;exact hX _ _ hS hK cp g0 g3 hh
def ag5(D d M id hc:Nat)(l:List Ep)(cq:List LA)(row:LA)(cY:row[4]?=some (.ls 9 cq false))(T:Bs)(h0:Hp)(hq:cq.length=l.length)(hg:∀i:Nat,cq[i]?=(l[i]?).map cM)(hl:l.length<=10^9)(hb:∀x∈l,ub D d (x))(hn:3*d+40<=M)(s:Bs)(dN:s.i_ (l.map λx=>x)=T)(fr:LA)(h:Hp)(hS:BS id s h)(hs:jG s)(hK:dm id h0 h)(cp:fr.length=91)(g0:gt fr 0= .pt id 0)(g3:gt fr 3= .pt hc 0)(hh:h[hc]?=some (.row row))(gE:hc≠id):
 PB id T h0 (M (cT 4 CZ) (fr,h)):=by
 obtain⟨k1,e1⟩:∃k,M=k+1:=⟨M-1,by omega⟩;have ff:=λb(s:Bs)e h hS=>kX k1 b id s e h hS
 have fc:=λ(y:AV)(h:Hp)(e:Ep)(he:ub D d e)(hB:ka h 2 (ib s.now) y)b=>lh D d M b s.now y h e false hB (by have:=hs.2;omega) he (by omega)
 rw[<-e1]at ff;clear e1 hn;simp[CZ,cT,cR,f82,cp,g3,hh,cY,hq];generalize cU:M (.loop _) _=XX;refine gk cU
  (λi st cD=>st.length=91/\gt st 0= .pt id 0/\gt st 3= .pt hc 0/\cD[hc]?=some (.row row)/\gt st 76= .ls 9 cq false/\gt st 77=l.length/\gt st 78=i/\∃s',BS id s' cD/\s'.now=s.now/\dm id h0 cD/\s'.i_ ((l.drop i).map λx=>x)=T)
  (λo st cD=>o= .exit 4/\st.length=91/\gt st 0= .pt id 0/\gt st 3= .pt hc 0/\cD[hc]?=some (.row row)/\BS id T cD/\dm id h0 cD)
  l.length (by simp;omega) ⟨by simp[cp],by simp[g0],by simp[g3],hh,by simp[cp],by simp[cp],by simp[cp],s,hS,rfl,hK,dN⟩ ?_ ?_
 .clear cU XX dN hS hK cp g0 g3 hh;rintro i fr hp cP ⟨cp,g0,g3,hh,h1,h2,h3,s',hS,jx,hK,dN⟩;rcases dY hg cP with⟨x,hi,hx,hr,cC⟩|rfl
  .have dB:=Zi hx;have fH:i<=10^15:=by omega
   rw[cH hx,Yn,Bs.xk]at dN;have jI:=hS.app [.row (cM x)];obtain⟨h',ae,ig,hK'⟩:=ff false s' (iM s'.now (x) false) _ jI;obtain⟨yo,yn,i0,⟨go,go'⟩,gn,tK⟩:=hS;rw[jx]at gn dN ae ig;have g1:=cJ [.row (cM x)] i0;have q3:=akO (λv=>gn.np v)
   have GL:(s'.fail (iM s.now (x) false)).now=s.now:=jx;have kJ:=cJ [.row (cM x)] hh;generalize s'.fail (iM s.now (x) false)=s2 at dN ig GL;generalize s'.e=e0 at i0 g1;have dH:=cB x;have af:=fc yn (hp++[.row (cM x)]) x (hb x dB) (gn.grow _) false;generalize iM s.now x false=c at ae af;generalize cM x=ev at hr cC dH ae af hK' kJ g1;have dJ:ev.take 9=ev:=Yy (by omega);have jT:=rW dH;have hf:=cz fH;simp[cp,g0,g3,h1,h2,h3,hi,hq,cC,dH,dJ,jT,g1,q3,ae,af,hf];refine⟨hK' _ _ kJ gE,s2,ig,GL,(hK.trans (dm.app _ _ _)).trans hK',?_⟩
   first|exact dN|simpa using dN
  .rw[Yc,Xm]at dN;change s'=T at dN;subst dN;simp[cp,h2,h3];exact⟨g0,g3,hh,hS,hK⟩
 .rintro o cG h' rfl ⟨rfl,cp,g0,g3,hh,hS,hK⟩;simp;exact⟨h',by simp[h_],hS,hK⟩
structure AJ (D d:Nat)(c:Cp):Prop where
 paths:∀p∈c.paths,bbT D d p
 eu:∀e∈c.eu,ub D d e
 e:ub D d c.e
 items:∀x∈c.items,ub D d x.e
 order:∀x∈c.order,ub D d x.e
 sets:∀x∈c.sets,ub D d x.e
 n1:c.paths.length<=10^9
 n2:c.eu.length<=10^9
 n3:c.items.length<=10^9
 n4:c.order.length<=10^9
 n5:c.sets.length<=10^9
 n6:c.names.length<=10^9
def GM(kd:Int):∀(l:List Tp){s:Bs},jG s->jG (l.foldl (λs p=>s.path p kd) s)/\(l.foldl (λs p=>s.path p kd) s).old=s.old
 | [],s,h=>⟨h,rfl⟩
 |
  p::l,s,h=>by
  obtain⟨h1,h2⟩:=Wg h p kd;obtain⟨h3,h4⟩:=GM kd l h1;exact⟨h3,h4.trans h2⟩
def Rf(D d n:Nat)(t:Bool)(id:Nat)(s:Bs)(c:Cp)(h:Hp)(hS:BS id s h)(hs:jG s)(hb:AJ D d c)(hn:3*d+50<=n):
 ∃h',cu cx n t 77 [.pt id 0,.ag (cA c)] h=some (.tp [],h')/\BS id (s.paths c) h'/\dm id h h':=by
 obtain⟨M,rfl⟩:∃m,n=m+1:=⟨n-1,by omega⟩;rw[rr (n:=M) f77 []];show PB id (s.paths c) h (M IH _);rw[show IH= .seq (cL (cT 0 IH)) (.seq (cL (cT 1 IH)) (.seq (cL (cT 2 IH)) (cT 3 IH))) by kernel_rfl];have kq:∀fr,fr.length=89->gt fr 0= .pt id 0->gt fr 3= .pt h.length 0->gt fr 4= .sc (.bool (decide (c.kind=1)))->PB id (s.paths c) h (M (.seq (cL (cT 2 IH)) (cT 3 IH)) (fr,h++[.row (cA c)])):=by
  intro fr cp g0 g3 g4;have du:=hS.lt;refine ag2 D d M id h.length c.kind c.paths (q7 c.paths) (cA c) ⟨rfl,rfl⟩ _ h _ (iN _) (qu _) hb.n1 hb.paths (by omega) s ?_ fr _ (hS.app _) hs (dm.app _ _ _) cp g0 g3 g4 (by simp) (by omega);intro fr h' ig yY ho hK cp g0 g3 hh;exact ag3 D d M id h.length c.eu (cZ c.eu) (cA c) rfl _ h (cX _) (eM _) hb.n2 hb.eu (by omega) _ (by simp[Bs.paths]) fr h' ig yY hK cp g0 g3 hh (by omega)
 generalize Code.seq (cL (cT 2 IH)) (cT 3 IH)=Z,s.paths c=T at kq|-;obtain⟨tl,hc,M_⟩:=qE c;rw[hc]at kq|-;by_cases k1:c.kind=1
 .rw[decide_eq_true k1]at kq;rw[k1]at kq|-;simp[IH,cT,cR,cL,f77,M_];exact kq _ (by simp) (by simp) (by simp) (by simp)
 .rw[decide_eq_false k1]at kq;generalize c.kind=kd at *;simp[IH,cT,cR,cL,f77,M_,k1];exact kq _ (by simp) (by simp) (by simp) (by simp)
def EF(e:Ep):∃a1 a2 a3 a4 a5 a7 a8,cM e=[.sc (.int .i64 e.op),a1,a2,a3,a4,a5,.sc (.string e.nm),a7,a8]:=by
 obtain⟨op,v,nm,ds,ks⟩:=e;have hv:=jN v;rw[cM]
 match enc v,hv with
 | [a1,a2,a3,a4,a5],_=>exact⟨_,_,_,_,_,_,_,rfl⟩
def Bs.l7(s:Bs)(x:Ip):Bs:=s.fail (iM s.old x.e true)
def Bs.lK(s:Bs)(x:Ip):Bs:=if db s.now x.nm=0 then s else s.fail 7
def xZ(s:Bs)(x:Ip):Int:=if x.e.op=2 then db s.old x.e.nm else 4
def Bs.item(s:Bs)(x:Ip):Bs:=((s.l7 x).lK x).intro x.nm (xZ ((s.l7 x).lK x) x)
def GN{s:Bs}(h:jG s)(x:Ip):jG (s.lK x)/\(s.lK x).old=s.old:=by
 unfold Bs.lK;split
 .exact⟨h,rfl⟩
 .exact⟨h,rfl⟩
def Wi{s:Bs}(h:jG s)(x:Ip):jG (s.item x)/\(s.item x).old=s.old:=by
 have h1:jG (s.l7 x):=h;obtain⟨h2,h3⟩:=GN h1 x;exact⟨h2.intro _ _,(Bs.dU _ _ _).trans h3⟩
def nZ(c:Cp):(cA c)[15]?=some (.ls 10 (xa c.items) false)/\(cA c)[16]?=some (.ls 10 (yZ c.order) false)/\(cA c)[19]?=some (.ls 13 (y_ c.sets) false)/\(cA c)[20]?=some (.ls 1 (eE c.names) false):=by
 obtain⟨a0,a1,a2,a3,a4,a5,a6,a7,a8,gC⟩:=iK c.e;unfold cA;rw[gC];exact⟨rfl,rfl,rfl,rfl⟩
def Bs.gw(s:Bs)(c:Cp):Bs:=((c.items.foldl Bs.item {s with now:=[]}).i_ (c.order.map λx=>x.e)).i_ c.eu
def ag6(D d M id hc:Nat)(l:List Ip)(cq:List LA)(row:LA)(cY:row[15]?=some (.ls 10 cq false))(T:Bs)(h0:Hp)(X:Code)(hq:cq.length=l.length)(hg:∀i:Nat,cq[i]?=(l[i]?).map jr)(hl:l.length<=10^9)(hb:∀x∈l,ub D d x.e)(hn:3*d+40<=M)(s:Bs)(hX:∀fr h,BS id (l.foldl Bs.item s) h->jG (l.foldl Bs.item s)->dm id h0 h->fr.length=91->gt fr 0= .pt id 0->gt fr 3= .pt hc 0->h[hc]?=some (.row row)->PB id T h0 (M X (fr,h)))(fr:LA)(h:Hp)(hS:BS id s h)(hs:jG s)(hK:dm id h0 h)(cp:fr.length=91)(g0:gt fr 0= .pt id 0)(g3:gt fr 3= .pt hc 0)(hh:h[hc]?=some (.row row))(gE:hc≠id):
 PB id T h0 (M (.seq (cL (cT 2 CZ)) X) (fr,h)):=by
 obtain⟨k1,e1⟩:∃k,M=k+1:=⟨M-1,by omega⟩;obtain⟨k2,e2⟩:∃k,M=k+2:=⟨M-2,by omega⟩;have ff:=λb(s:Bs)e h hS=>kX k1 b id s e h hS
 have fi:=λb(s:Bs)nm k h hS(hs:jG s)=>r_ k2 b id s nm k h hS (by have:=hs.2;omega)
 have fk:=λb(l:gM)(y:AV)(h:Hp)nm(hB:ka h 2 (ib l) y)(hs:l.length<=24)=>nG k1 b l y h nm hB (by omega)
 have fc:=λb(l:gM)(y:AV)(h:Hp)(e:Ep)(he:ub D d e)(hB:ka h 2 (ib l) y)(hs:l.length<=24)=>lh D d M b l y h e true hB (by omega) he (by omega)
 rw[<-e1]at ff fk;rw[<-e2]at fi;clear e1 e2 hn;generalize dN:l.foldl Bs.item s=TL at hX;simp[CZ,cT,cR,cL,f82,cp,g3,hh,cY,hq];generalize cU:M (.loop _) _=XX;refine gk cU
  (λi st cD=>st.length=91/\gt st 0= .pt id 0/\gt st 3= .pt hc 0/\cD[hc]?=some (.row row)/\gt st 15= .ls 10 cq false/\gt st 16=l.length/\gt st 17=i/\∃s',BS id s' cD/\jG s'/\dm id h0 cD/\(l.drop i).foldl Bs.item s'=TL)
  (λo st cD=>o= .exit 0/\st.length=91/\gt st 0= .pt id 0/\gt st 3= .pt hc 0/\cD[hc]?=some (.row row)/\BS id TL cD/\jG TL/\dm id h0 cD)
  l.length (by simp;omega) ⟨by simp[cp],by simp[g0],by simp[g3],hh,by simp[cp],by simp[cp],by simp[cp],s,hS,hs,hK,dN⟩ ?_ ?_
 .clear cU XX dN hS hs hK cp g0 g3 hh hX;rintro i fr hp cP ⟨cp,g0,g3,hh,tH,vA,sU,s',hS,hs,hK,dN⟩;rcases dY hg cP with⟨x,hi,hx,hr,cC⟩|rfl
  .have dB:=Zi hx;have fH:i<=10^15:=by omega
   rw[cH hx,Yi]at dN;have du:=hS.lt;have jI:=hS.app [.row (jr x)];have kJ:=cJ [.row (jr x)] hh;have rC:(hp++[eV.row (jr x)])[hp.length]?=some (.row (jr x)):=by simp
   have Nf:hp.length≠id:=by omega
   have AK:=hK.trans (dm.app id hp [.row (jr x)]);obtain⟨h1,ae,II,JM⟩:=ff false s' (iM s'.old x.e true) _ jI;obtain⟨yo,yn,i0,⟨go,go'⟩,gn,tK⟩:=jI;have af:=fc false s'.old yo _ x.e (hb x dB) go hs.1;have q1:=akO (λv=>go.np v)
   change BS id (s'.l7 x) h1 at II;have iD:jG (s'.l7 x):=hs;have JL:=JM _ _ kJ gE;have Ci:=JM _ _ rC Nf;have GQ:=AK.trans JM;unfold Bs.item at dN;generalize s'.l7 x=s1 at *;clear go go' gn tK;have hS5:=II;obtain⟨yo1,Wj,i1,⟨go,go'⟩,gn,tK⟩:=hS5;have ah:=fk false s1.now Wj h1 x.nm gn iD.2;have q2:=akO (λv=>gn.np v)
   clear go go' gn tK;obtain⟨hs6,ho6⟩:=GN iD x;obtain⟨h2,ai,IJ,AH⟩:∃h2,(db s1.now x.nm=0/\h2=h1\/db s1.now x.nm≠0/\cu cx M true 78 [.pt id 0,(7:Int)] h1=some (.tp [],h2))/\BS id (s1.lK x) h2/\dm id h1 h2:=by
    unfold Bs.lK;by_cases kk:db s1.now x.nm=0
    .rw[cw kk];exact⟨h1,.inl ⟨kk,rfl⟩,II,dm.refl _ _⟩
    .rw[cv kk];obtain⟨h2,ai,a,b⟩:=ff true s1 7 h1 II;exact⟨h2,.inr ⟨kk,ai⟩,a,b⟩
   have U0:=AH _ _ JL gE;have Rg:=AH _ _ Ci Nf;have FK:=GQ.trans AH;generalize s1.lK x=s2 at *;have hS7:=IJ;obtain⟨yo2,yn2,i2,⟨go,go'⟩,gn,tK⟩:=hS7;have ak:=fk false s2.old yo2 h2 x.e.nm go hs6.1;have q3:=akO (λv=>go.np v)
   clear go go' gn tK;obtain⟨h3,aj,hS8,hK8⟩:=fi true s2 x.nm (xZ s2 x) h2 IJ hs6;have hs8:=hs6.intro x.nm (xZ s2 x);have hh4:=hK8 _ _ U0 gE;have EG:=FK.trans hK8;generalize s2.intro x.nm (xZ s2 x)=s3 at *;unfold xZ at aj;generalize db s1.now x.nm=k at ah ai;generalize db s2.old x.e.nm=k2 at ak aj;generalize iM s'.old x.e true=c at ae af;obtain⟨a1,a2,a3,a4,a5,a7,a8,gC⟩:=EF x.e;unfold jr at hr cC ae af i0 rC Ci Rg;rw[gC]at hr ae af i0 rC Ci Rg;simp only[gC]at cC;generalize x.e.op=op,x.e.nm=GR at *;simp only[Zv,Zw]at hr cC ae af i0 rC Ci Rg;have jT:=qY (ev:=[.sc (.int .i64 op),a1,a2,a3,a4,a5,.sc (.string GR),a7,a8,.sc (.string x.nm)]) rfl;have Ng:=dh rC;generalize xj:hp++[eV.row [op,a1,a2,a3,a4,a5,GR,a7,a8,x.nm]]=hp1 at *;clear hS II IJ hK JM AH hK8 AK GQ FK hs iD hs6 ff fi fk fc;generalize Lw:hp.length=jp,s'.e=u0,s1.e=u1,s2.e=u2 at *;have hf:=cz fH;rcases ai with⟨rfl,rfl⟩|⟨kk,ai⟩
   .obtain⟨rfl,rfl,rfl⟩:yo1=yo2/\Wj=yn2/\u1=u2:=by
     have e12:=i1.symm.trans i2;simpa using e12
    by_cases ho:op=2
    .subst ho;rw[cw rfl]at aj;simp[cp,g0,g3,tH,vA,sU,hi,hq,cC,jT,xj,Lw,i0,q1,rC,af,ae,i1,q2,Ci,ah,q3,ak,aj,hf];exact⟨hh4,s3,hS8,hs8,EG,dN⟩
    .rw[cv ho]at aj;simp[cp,g0,g3,tH,vA,sU,hi,hq,cC,jT,xj,Lw,i0,q1,rC,af,ae,i1,q2,Ci,ah,aj,hf,ho];exact⟨hh4,s3,hS8,hs8,EG,dN⟩
   .by_cases ho:op=2
    .subst ho;rw[cw rfl]at aj;simp[cp,g0,g3,tH,vA,sU,hi,hq,cC,jT,xj,Lw,i0,q1,rC,af,ae,i1,q2,Ci,ah,kk,ai,Rg,i2,q3,ak,aj,hf];exact⟨hh4,s3,hS8,hs8,EG,dN⟩
    .rw[cv ho]at aj;simp[cp,g0,g3,tH,vA,sU,hi,hq,cC,jT,xj,Lw,i0,q1,rC,af,ae,i1,q2,Ci,ah,kk,ai,Rg,aj,hf,ho];exact⟨hh4,s3,hS8,hs8,EG,dN⟩
  .rw[Yc,Xr]at dN;subst dN;simp[cp,vA,sU];exact⟨g0,g3,hh,hS,hs,hK⟩
 .rintro o cG h' rfl ⟨rfl,cp,g0,g3,hh,hS,hs,hK⟩;simp;exact hX _ _ hS hs hK cp g0 g3 hh
def JN(D d n:Nat)(t:Bool)(id:Nat)(s:Bs)(c:Cp)(h:Hp)(hS:BS id s h)(hs:jG s)(hb:AJ D d c)(hn:3*d+50<=n):
 ∃h',cu cx n t 82 [.pt id 0,.ag (cA c)] h=some (.tp [],h')/\BS id (s.gw c) h'/\dm id h h':=by
 obtain⟨M,rfl⟩:∃m,n=m+1:=⟨n-1,by omega⟩;rw[rr (n:=M) f82 []];show PB id (s.gw c) h (M CZ _);rw[show CZ= .seq (cL (cT 0 CZ)) (.seq (cL (cT 1 CZ)) (.seq (cL (cT 2 CZ)) (.seq (cL (cT 3 CZ)) (cT 4 CZ)))) by kernel_rfl];have du:=hS.lt;obtain⟨yo,yn,i0,⟨go,go'⟩,gn,tK⟩:=hS;have qh:(h++[eV.row (cA c)])[h.length]?=some (.row (cA c)):=by simp
 have i1:=cJ [.row (cA c)] i0;have gm:BS id {s with now:=[]} ((h++[eV.row (cA c)]).set id (.row [yo,(),s.e])):=
  ⟨yo,.sc (.slice none 0 0),dC i1,⟨(go.grow _).keep (dm.set _ _ _) go',go'⟩,.inl ⟨rfl,rfl⟩,by simp⟩
 have kq:∀fr,fr.length=91->gt fr 0= .pt id 0->gt fr 3= .pt h.length 0->PB id (s.gw c) h (M (.seq (cL (cT 2 CZ)) (.seq (cL (cT 3 CZ)) (cT 4 CZ))) (fr,(h++[eV.row (cA c)]).set id (.row [yo,(),s.e]))):=by
  intro fr cp g0 g3;refine ag6 D d M id h.length c.items (xa c.items) (cA c) (nZ c).1 _ h _ (iO _) (qv _) hb.n3 hb.items (by omega) {s with now:=[]} ?_ fr _ gm ⟨hs.1,by simp⟩ ((dm.app _ _ _).trans (dm.set _ _ _)) cp g0 g3 (d_ qh (by omega)) (by omega);intro fr h' ig yY hK cp g0 g3 hh;refine ag4 D d M id h.length c.order (yZ c.order) (cA c) (nZ c).2.1 _ h _ (iP _) (qw _) hb.n4 hb.order (by omega) _ ?_ fr h' ig yY hK cp g0 g3 hh (by omega);intro fr h' ag7 hK cp g0 g3 hh;exact ag5 D d M id h.length c.eu (cZ c.eu) (cA c) rfl _ h (cX _) (eM _) hb.n2 hb.eu (by omega) _ (by simp[Bs.gw]) fr h' ag7 (zh _ yY).1 hK cp g0 g3 hh (by omega)
 generalize Code.seq (cL (cT 2 CZ)) (.seq (cL (cT 3 CZ)) (cT 4 CZ))=Z,s.gw c=T at kq|-;have gI:(cA c).length=21:=by simp[cA,cB]
 clear qh;generalize cA c=row,s.e=u at *;simp[CZ,cT,cR,cL,f82,gI,i1,cF];exact kq _ (by simp) (by simp) (by simp)
noncomputable def rD :Code:=(f41.body).getD .skip
def Bs.lL(s:Bs)(x:Sp):Bs:=(s.elem x.var (dn x.label ⟨#[]⟩)).fail (iM (s.elem x.var (dn x.label ⟨#[]⟩)).now x.e false)
def Bs.Rh(s:Bs)(c:Cp):Bs:=s.fail (iM s.now c.e false)
def Bs.GU(s:Bs)(c:Cp):Bs:=if db s.now c.name=0 then s else s.fail 7
def Bs.zi(s:Bs)(c:Cp):Bs:=((s.Rh c).GU c).intro c.name 4
def Bs.qF(s:Bs)(c:Cp):Bs:=
 if c.kind=1\/c.kind=5\/c.kind=6 then s.paths c
 else if c.kind=2 then s.zi c
 else if c.kind=3\/c.kind=4 then s.gw c
 else if c.kind=7 then c.sets.foldl Bs.lL s
 else if c.kind=8 then c.names.foldl (λs nm=>s.elem nm true) s
 else s
def Bs.clause(s:Bs)(c:Cp):Bs:=({s with old:=s.now}:Bs).qF c
def Wk{s:Bs}(h:jG s)(x:Sp):jG (s.lL x):=(h.elem _ _).fail _
def Ly :∀(l:List Sp){s:Bs},jG s->jG (l.foldl Bs.lL s)
 | [],s,h=>h
 |x::l,s,h=>Ly l (Wk h x)
def GV :∀(l:List ByteArray){s:Bs},jG s->jG (l.foldl (λs nm=>s.elem nm true) s)
 | [],s,h=>h
 |x::l,s,h=>GV l (h.elem x true)
def GY :∀(l:List Ip){s:Bs},jG s->jG (l.foldl Bs.item s)
 | [],s,h=>h
 |x::l,s,h=>GY l (Wi h x).1
def C2{s:Bs}(h:jG s)(c:Cp):jG (s.clause c):=by
 have h0:jG {s with old:=s.now}:=⟨h.2,h.2⟩;unfold Bs.clause Bs.qF;split
 .exact(zh _ (GM c.kind _ h0).1).1
 .split
  .refine jG.intro ?_ _ _;unfold Bs.GU;split
   .exact h0.fail _
   .exact(h0.fail _).fail _
  .split
   .exact(zh _ (zh _ (GY _ (s:={({s with old:=s.now}:Bs)with now:=[]}) ⟨h.2,by simp⟩)).1).1
   .split
    .exact Ly _ h0
    .split
     .exact GV _ h0
     .exact h0
def PN(id:Nat)(T:Bs)(h0:Hp)(r:Option (Out × St)):Prop:=∃cG h',r=some (.normal,(cG,h'))/\BS id T h'/\dm id h0 h'
def ag8(M id hc:Nat)(l:List ByteArray)(cq:List LA)(row:LA)(cY:row[20]?=some (.ls 1 cq false))(h0:Hp)(hq:cq.length=l.length)(hg:∀i:Nat,cq[i]?=(l[i]?).map λs=> [.sc (.string s)])(hl:l.length<=10^9)(hn:2<=M)(s:Bs)(fr:LA)(h:Hp)(hS:BS id s h)(hs:jG s)(hK:dm id h0 h)(cp:fr.length=94)(g0:gt fr 0= .pt id 0)(g3:gt fr 3= .pt hc 0)(hh:h[hc]?=some (.row row)):
 PN id (l.foldl (λs nm=>s.elem nm true) s) h0 (M (cL (cR (cR (cR (cR (cR (cR (cR (cR (cR (cL (cT 3 rD)))))))))))) (fr,h)):=by
 obtain⟨k2,e2⟩:∃k,M=k+2:=⟨M-2,by omega⟩;have fe:=λb(s:Bs)nm h hS(hs:jG s)=>Lv k2 b id s nm true h hS hs
 rw[<-e2]at fe;clear e2 hn;generalize dN:l.foldl (λs nm=>s.elem nm true) s=TL;simp[rD,cT,cR,cL,f41,cp,g3,hh,cY,hq];generalize cU:M (.loop _) _=XX;refine gk cU
  (λi st cD=>st.length=94/\gt st 0= .pt id 0/\gt st 84= .ls 1 cq false/\gt st 85=l.length/\gt st 86=i/\∃s',BS id s' cD/\jG s'/\dm id h0 cD/\(l.drop i).foldl (λs nm=>s.elem nm true) s'=TL)
  (λo st cD=>o= .exit 3/\BS id TL cD/\dm id h0 cD)
  l.length (by simp;omega) ⟨by simp[cp],by simp[g0],by simp[cp],by simp[cp],by simp[cp],s,hS,hs,hK,dN⟩ ?_ ?_
 .clear cU XX dN hS hs hK cp g0 g3 hh;rintro i fr hp cP ⟨cp,g0,h1,h2,h3,s',hS,hs,hK,dN⟩;rcases dY hg cP with⟨x,hi,hx,hr,cC⟩|rfl
  .have fH:i<=10^15:=by omega
   rw[cH hx,Yi]at dN;obtain⟨h',ae,ig,hK'⟩:=fe true s' x hp hS hs;have yY:=hs.elem x true;generalize s'.elem x true=s2 at *;have hf:=cz fH;simp[cp,g0,h1,h2,h3,hi,hq,cC,ae,hf];exact⟨s2,ig,yY,hK.trans hK',dN⟩
  .rw[Yc,Xr]at dN;subst dN;simp[cp,h2,h3];exact⟨hS,hK⟩
 .rintro o cG h' rfl ⟨rfl,hS,hK⟩;exact⟨cG,h',by simp,hS,hK⟩
def ag9(D d M id hc:Nat)(l:List Sp)(cq:List LA)(row:LA)(cY:row[19]?=some (.ls 13 cq false))(h0:Hp)(hq:cq.length=l.length)(hg:∀i:Nat,cq[i]?=(l[i]?).map fD)(hl:l.length<=10^9)(hb:∀x∈l,ub D d x.e)(hn:3*d+40<=M)(s:Bs)(fr:LA)(h:Hp)(hS:BS id s h)(hs:jG s)(hK:dm id h0 h)(cp:fr.length=94)(g0:gt fr 0= .pt id 0)(g3:gt fr 3= .pt hc 0)(hh:h[hc]?=some (.row row)):
 PN id (l.foldl Bs.lL s) h0 (M (cL (cR (cR (cR (cR (cR (cR (cR (cL (cT 3 rD)))))))))) (fr,h)):=by
 obtain⟨k1,e1⟩:∃k,M=k+1:=⟨M-1,by omega⟩;obtain⟨k2,e2⟩:∃k,M=k+2:=⟨M-2,by omega⟩;have fe:=λb(s:Bs)nm ed h hS(hs:jG s)=>Lv k2 b id s nm ed h hS hs
 have ff:=λb(s:Bs)e h hS=>kX k1 b id s e h hS
 have fc:=λb(l:gM)(y:AV)(h:Hp)(e:Ep)(he:ub D d e)(hB:ka h 2 (ib l) y)(hs:l.length<=24)=>lh D d M b l y h e false hB (by omega) he (by omega)
 rw[<-e1]at ff;rw[<-e2]at fe;clear e1 e2 hn;generalize dN:l.foldl Bs.lL s=TL;simp[rD,cT,cR,cL,f41,cp,g3,hh,cY,hq];generalize cU:M (.loop _) _=XX;refine gk cU
  (λi st cD=>st.length=94/\gt st 0= .pt id 0/\gt st 58= .ls 13 cq false/\gt st 59=l.length/\gt st 60=i/\∃s',BS id s' cD/\jG s'/\dm id h0 cD/\(l.drop i).foldl Bs.lL s'=TL)
  (λo st cD=>o= .exit 1/\BS id TL cD/\dm id h0 cD)
  l.length (by simp;omega) ⟨by simp[cp],by simp[g0],by simp[cp],by simp[cp],by simp[cp],s,hS,hs,hK,dN⟩ ?_ ?_
 .clear cU XX dN hS hs hK cp g0 g3 hh;rintro i fr hp cP ⟨cp,g0,h1,h2,h3,s',hS,hs,hK,dN⟩;rcases dY hg cP with⟨x,hi,hx,hr,cC⟩|rfl
  .have dB:=Zi hx;have fH:i<=10^15:=by omega
   rw[cH hx,Yi]at dN;change(l.drop (i+1)).foldl Bs.lL ((s'.elem x.var (dn x.label ⟨#[]⟩)).fail (iM (s'.elem x.var (dn x.label ⟨#[]⟩)).now x.e false))=TL at dN;have du:=hS.lt;have Nf:hp.length≠id:=by omega
   have gp:(hp++[eV.row (fD x)])[hp.length]?=some (.row (fD x)):=by simp
   have AK:=hK.trans (dm.app id hp [.row (fD x)]);obtain⟨h1',ae,gm,f_⟩:=fe true s' x.var (dn x.label ⟨#[]⟩) _ (hS.app [.row (fD x)]) hs;have q8:=hs.elem x.var (dn x.label ⟨#[]⟩);have rC:=f_ _ _ gp Nf;have GQ:=AK.trans f_;obtain⟨Jc,af,jI,ph⟩:=ff false _ (iM (s'.elem x.var (dn x.label ⟨#[]⟩)).now x.e false) h1' gm;have hs2:=q8.fail (iM (s'.elem x.var (dn x.label ⟨#[]⟩)).now x.e false);generalize hd:(s'.elem x.var (dn x.label ⟨#[]⟩)).fail (iM (s'.elem x.var (dn x.label ⟨#[]⟩)).now x.e false)=s2 at *;have Wl:=dN;clear dN hd;generalize s'.elem x.var (dn x.label ⟨#[]⟩)=s1 at *;obtain⟨yo,yn,i0,⟨go,go'⟩,gn,tK⟩:=gm;have ah:=fc false s1.now yn h1' x.e (hb x dB) gn q8.2;have q3:=akO (λv=>gn.np v)
   clear go go' gn tK hS hs q8 hK AK f_ gp ff fe fc;generalize iM s1.now x.e false=c,s1.e=u at *;obtain⟨a0,a1,a2,a3,a4,a5,a6,a7,a8,gC⟩:=iK x.e;unfold fD at hr cC ae rC;rw[gC]at hr ae rC ah;simp only[gC]at cC;have jT:=GB (ev:=[.sc (.string x.var),.sc (.string x.key),.sc (.string x.label),.sc (.bool x.off),a0,a1,a2,a3,a4,a5,a6,a7,a8]) rfl;have hgs:∀k:Nat,(hp++[eV.row [x.var,x.key,x.label,x.off,a0,a1,a2,a3,a4,a5,a6,a7,a8]])[hp.length]?=some (.row [x.var,x.key,x.label,x.off,a0,a1,a2,a3,a4,a5,a6,a7,a8]):=λ_=>by simp
   generalize Lw:hp.length=jp,xj:hp++[eV.row [x.var,x.key,x.label,x.off,a0,a1,a2,a3,a4,a5,a6,a7,a8]]=hp1 at *;have hgs:=hgs 0;have hf:=cz fH;simp[cp,g0,h1,h2,h3,hi,hq,cC,jT,xj,Lw,hgs,ae,rC,i0,q3,ah,af,hf];exact⟨s2,jI,hs2,GQ.trans ph,Wl⟩
  .rw[Yc,Xr]at dN;subst dN;simp[cp,h2,h3];exact⟨hS,hK⟩
 .rintro o cG h' rfl ⟨rfl,hS,hK⟩;exact⟨cG,h',by simp,hS,hK⟩
def qG(c:Cp):∃a0 a1 a2 a3 a4 a5 a6 a7 a8,cM c.e=[a0,a1,a2,a3,a4,a5,a6,a7,a8]/\cA c=ie c.kind c.opt c.w_ (q7 c.paths) (cZ c.eu) a0 a1 a2 a3 a4 a5 a6 a7 a8 c.name (xa c.items) (yZ c.order) c.skip c.limit (y_ c.sets) (eE c.names):=by
 obtain⟨a0,a1,a2,a3,a4,a5,a6,a7,a8,gC⟩:=iK c.e;refine⟨a0,a1,a2,a3,a4,a5,a6,a7,a8,gC,?_⟩;unfold cA ie;rw[gC];rfl
def aha(D d M id hc:Nat)(c:Cp)(hb:AJ D d c)(hn:3*d+60<=M)(h0:Hp)(s:Bs)(fr:LA)(h:Hp)(hS:BS id s h)(hs:jG s)(hK:dm id h0 h)(cp:fr.length=94)(g0:gt fr 0= .pt id 0)(g3:gt fr 3= .pt hc 0)(hh:h[hc]?=some (.row (cA c)))(gE:hc≠id):
 PN id (s.zi c) h0 (M (cL (cR (cR (cR (cL (cT 3 rD)))))) (fr,h)):=by
 obtain⟨k1,e1⟩:∃k,M=k+1:=⟨M-1,by omega⟩;obtain⟨k2,e2⟩:∃k,M=k+2:=⟨M-2,by omega⟩;have ff:=λb(s:Bs)e h hS=>kX k1 b id s e h hS
 have fi:=λb(s:Bs)nm k h hS(hs:jG s)=>r_ k2 b id s nm k h hS (by have:=hs.2;omega)
 have fk:=λb(l:gM)(y:AV)(h:Hp)nm(hB:ka h 2 (ib l) y)(hs:l.length<=24)=>nG k1 b l y h nm hB (by omega)
 have fc:=λb(l:gM)(y:AV)(h:Hp)(hB:ka h 2 (ib l) y)(hs:l.length<=24)=>lh D d M b l y h c.e false hB (by omega) hb.e (by omega)
 rw[<-e1]at ff fk;rw[<-e2]at fi;clear e1 e2 hn hb;obtain⟨a0,a1,a2,a3,a4,a5,a6,a7,a8,gC,ta⟩:=qG c;have abh:(cA c)[14]?=some (.sc (.string c.name)):=by rw[ta];rfl
 have Lz:((cA c).drop 5).take 9=[a0,a1,a2,a3,a4,a5,a6,a7,a8]:=by rw[ta];rfl
 have gI:(cA c).length=21:=by simp[cA,cB]
 have GZ:∀k,(cA c)[14]'k=c.name:=λkx=>by obtain⟨_,e⟩:=Za.1 abh;exact e
 clear ta;obtain⟨h1,ae,II,JM⟩:=ff false s (iM s.now c.e false) _ hS;obtain⟨yo,yn,i0,⟨go,go'⟩,gn,tK⟩:=hS;have af:=fc false s.now yn _ gn hs.2;rw[gC]at af;have q1:=akO (λv=>gn.np v)
 change BS id (s.Rh c) h1 at II;have iD:jG (s.Rh c):=hs;have JL:=JM _ _ hh gE;have GQ:=hK.trans JM;unfold Bs.zi;generalize s.Rh c=s1 at *;clear go go' gn tK;have hS5:=II;obtain⟨yo1,Wj,i1,⟨go,go'⟩,gn,tK⟩:=hS5;have ah:=fk false s1.now Wj h1 c.name gn iD.2;have q2:=akO (λv=>gn.np v)
 clear go go' gn tK;obtain⟨h2,ai,IJ,hs6,AH⟩:∃h2,(db s1.now c.name=0/\h2=h1\/db s1.now c.name≠0/\cu cx M true 78 [.pt id 0,(7:Int)] h1=some (.tp [],h2))/\BS id (s1.GU c) h2/\jG (s1.GU c)/\dm id h1 h2:=by
  unfold Bs.GU;by_cases kk:db s1.now c.name=0
  .rw[cw kk];exact⟨h1,.inl ⟨kk,rfl⟩,II,iD,dm.refl _ _⟩
  .rw[cv kk];obtain⟨h2,ai,a,b⟩:=ff true s1 7 h1 II;exact⟨h2,.inr ⟨kk,ai⟩,a,iD,b⟩
 have U0:=AH _ _ JL gE;have FK:=GQ.trans AH;generalize s1.GU c=s2 at *;obtain⟨h3,aj,hS8,hK8⟩:=fi true s2 c.name 4 h2 IJ hs6;have EG:=FK.trans hK8;generalize s2.intro c.name 4=s3 at *;generalize db s1.now c.name=k at ah ai;generalize iM s.now c.e false=cc at ae af;generalize cA c=row,s.e=u0,s1.e=u1 at *;clear II IJ hK JM AH hK8 GQ FK hs iD hs6 ff fi fk fc;rcases ai with⟨rfl,rfl⟩|⟨kk,ai⟩
 .unfold PN;simp[rD,cT,cR,cL,f41,cp,g0,g3,hh,Lz,gI,i0,q1,af,ae,JL,GZ,i1,q2,ah,aj];exact qW ⟨hS8,EG⟩
 .unfold PN;simp[rD,cT,cR,cL,f41,cp,g0,g3,hh,Lz,gI,i0,q1,af,ae,JL,GZ,i1,q2,ah,kk,ai,U0,aj];exact qW ⟨hS8,EG⟩
def AL{id:Nat}{T:Bs}{h0:Hp}{r:Option (Out × St)}(h:PN id T h0 r):PB id T h0 (gJ 0 r):=by
 obtain⟨cG,h',rfl,hS,hK⟩:=h;exact⟨h',by simp[h_,gJ],hS,hK⟩
def JO(D d M id hc:Nat)(c:Cp)(hb:AJ D d c)(hn:3*d+60<=M)(h0:Hp)(s:Bs)(fr:LA)(h:Hp)(hS:BS id s h)(hs:jG s)(hK:dm id h0 h)(cp:fr.length=94)(g0:gt fr 0= .pt id 0)(g3:gt fr 3= .pt hc 0)(g16:gt fr 16=c.kind)(hh:h[hc]?=some (.row (cA c)))(gE:hc≠id):
 PB id (s.qF c) h0 (M (cT 3 rD) (fr,h)):=by
 have Nh:=λb=>Rf D d M b id s c h hS hs hb (by omega)
 have fco:=λb=>JN D d M b id s c h hS hs hb (by omega)
 have af:=λfr cp g0 g3=>aha D d M id hc c hb hn h0 s fr h hS hs hK cp g0 g3 hh gE
 have ao:=λfr cp g0 g3=>ag9 D d M id hc c.sets (y_ c.sets) (cA c) (nZ c).2.2.1 h0 (iQ _) (qx _) hb.n5 hb.sets (by omega) s fr h hS hs hK cp g0 g3 hh
 have aq:=λfr cp g0 g3=>ag8 M id hc c.names (eE c.names) (cA c) (nZ c).2.2.2 h0 (cI _) (iW _) hb.n6 (by omega) s fr h hS hs hK cp g0 g3 hh
 rw[show cT 3 rD= .block 0 (.seq (cL (cL (cT 3 rD))) (.cond (.tmp 17) (cL (cR (cL (cT 3 rD)))) (.seq (cL (cR (cR (cL (cT 3 rD))))) (.cond (.tmp 24) (cL (cR (cR (cR (cL (cT 3 rD)))))) (.seq (cL (cR (cR (cR (cR (cL (cT 3 rD))))))) (.cond (.tmp 49) (cL (cR (cR (cR (cR (cR (cL (cT 3 rD)))))))) (.seq (cL (cR (cR (cR (cR (cR (cR (cL (cT 3 rD))))))))) (.cond (.tmp 55) (cL (cR (cR (cR (cR (cR (cR (cR (cL (cT 3 rD)))))))))) (.seq (cL (cR (cR (cR (cR (cR (cR (cR (cR (cL (cT 3 rD))))))))))) (.cond (.tmp 81) (cL (cR (cR (cR (cR (cR (cR (cR (cR (cR (cL (cT 3 rD)))))))))))) .skip)))))))))) by kernel_rfl];generalize cL (cR (cR (cR (cL (cT 3 rD)))))=Z2 at af|-;generalize cL (cR (cR (cR (cR (cR (cR (cR (cL (cT 3 rD)))))))))=Z7 at ao|-;generalize cL (cR (cR (cR (cR (cR (cR (cR (cR (cR (cL (cT 3 rD)))))))))))=Z8 at aq|-;have gI:(cA c).length=21:=by simp[cA,cB]
 have LC:(cA c).take 21=cA c:=Yy (by omega);unfold Bs.qF;by_cases Ni:c.kind=1\/c.kind=5\/c.kind=6
 .rw[cw Ni];obtain⟨h',ae,ig,hK'⟩:=Nh true;refine⟨h',?_,ig,hK.trans hK'⟩;clear af ao aq Nh fco;generalize cA c=row,c.kind=kd at *;rcases Ni with rfl|rfl|rfl<;>simp[rD,cT,cR,cL,f41,cp,g0,g3,g16,hh,gI,LC,ae,h_]
 rw[cv Ni];have k1:¬c.kind=1:=λe=>Ni (.inl e)
 have k5:¬c.kind=5:=λe=>Ni (.inr (.inl e))
 have k6:¬c.kind=6:=λe=>Ni (.inr (.inr e))
 by_cases k2:c.kind=2
 .rw[cw k2];clear ao aq Nh fco;generalize cA c=row,c.kind=kd at *;subst k2;simp[rD,cT,cR,cL,f41,cp,g16];exact AL (af _ (by simp[cp]) (by simp[g0]) (by simp[g3]))
 rw[cv k2];by_cases k34:c.kind=3\/c.kind=4
 .rw[cw k34];obtain⟨h',ae,ig,hK'⟩:=fco true;refine⟨h',?_,ig,hK.trans hK'⟩;clear af ao aq Nh fco;generalize cA c=row,c.kind=kd at *;rcases k34 with rfl|rfl<;>simp[rD,cT,cR,cL,f41,cp,g0,g3,g16,hh,gI,LC,ae,h_]
 rw[cv k34];have k3:¬c.kind=3:=λe=>k34 (.inl e)
 have k4:¬c.kind=4:=λe=>k34 (.inr e)
 by_cases k7:c.kind=7
 .rw[cw k7];clear af aq Nh fco;generalize cA c=row,c.kind=kd at *;subst k7;simp[rD,cT,cR,cL,f41,cp,g16];exact AL (ao _ (by simp[cp]) (by simp[g0]) (by simp[g3]))
 rw[cv k7];by_cases k8:c.kind=8
 .rw[cw k8];clear af ao Nh fco;generalize cA c=row,c.kind=kd at *;subst k8;simp[rD,cT,cR,cL,f41,cp,g16];exact AL (aq _ (by simp[cp]) (by simp[g0]) (by simp[g3]))
 rw[cv k8];clear ao aq Nh fco;generalize cA c=row,c.kind=kd at *;simp[rD,cT,cR,cL,f41,cp,g16,k1,k2,k3,k4,k5,k6,k7,k8];exact⟨h,by simp[h_],hS,hK⟩
def Nj(D d n:Nat)(t:Bool)(id:Nat)(s:Bs)(c:Cp)(h:Hp)(hS:BS id s h)(hs:jG s)(hb:AJ D d c)(hn:3*d+70<=n):
 ∃h',cu cx n t 41 [.pt id 0,.ag (cA c)] h=some (.tp [],h')/\BS id (s.clause c) h'/\dm id h h':=by
 obtain⟨M,rfl⟩:∃m,n=m+1:=⟨n-1,by omega⟩;rw[rr (n:=M) f41 []];show PB id (s.clause c) h (M rD _);rw[show rD= .seq (cL (cT 0 rD)) (.seq (cL (cT 1 rD)) (.seq (cL (cT 2 rD)) (cT 3 rD))) by kernel_rfl];have du:=hS.lt;obtain⟨yo,yn,i0,⟨go,go'⟩,gn,tK⟩:=hS;have qh:(h++[eV.row (cA c)])[h.length]?=some (.row (cA c)):=by simp
 have i1:=cJ [.row (cA c)] i0;have gm:BS id {s with old:=s.now} ((h++[eV.row (cA c)]).set id (.row [yn,yn,s.e])):=
  ⟨yn,yn,dC i1,⟨(gn.grow _).keep (dm.set _ _ _) tK,tK⟩,(gn.grow _).keep (dm.set _ _ _) tK,tK⟩
 have kq:∀fr,fr.length=94->gt fr 0= .pt id 0->gt fr 3= .pt h.length 0->gt fr 16= .sc (.int .i64 c.kind)->PB id (s.clause c) h (M (cT 3 rD) (fr,(h++[eV.row (cA c)]).set id (.row [yn,yn,s.e]))):=
  λfr cp g0 g3 g16=>JO D d M id h.length c hb (by omega) h {s with old:=s.now} fr _ gm ⟨hs.2,hs.2⟩ ((dm.app _ _ _).trans (dm.set _ _ _)) cp g0 g3 g16 (d_ qh (by omega)) (by omega)
 have kJ:((h++[eV.row (cA c)]).set id (.row [yn,yn,s.e]))[h.length]?=some (.row (cA c)):=d_ qh (by omega);have q1:=akN (λv=>gn.np v)
 have Wm:cls yn=some [yn]:=by rcases gn with⟨_,rfl⟩|⟨_,j,rfl,_⟩<;>rfl
 unfold cls at Wm;generalize cT 3 rD=Z,s.clause c=T at kq|-;obtain⟨tl,LC,M_⟩:=qE c;clear qh gm;rw[LC]at i1 kq kJ|-;generalize c.kind=kd,s.e=u at *;generalize xj:(h++[eV.row (AV.sc (.int .i64 kd)::tl)]).set id (.row [yn,yn,u])=H at *;simp[rD,cT,cR,cL,f41,M_,i1,q1,Wm,cF,xj,kJ];exact kq _ (by simp) (by simp) (by simp) (by simp)
def ic :List Cp->Bs->Nat->gM × Int × Int
 | [],s,_=>(s.now,0,0)
 |c::l,s,i=>if(s.clause c).e=0 then ic l (s.clause c) (i+1)else([],(i:Int),(s.clause c).e)
def n_(m:Nat)(n:Int):Nat:=min (max n 0).toNat m
def dK(l:List Cp)(n:Int):gM × Int × Int:=if(fW l).2=0 then ic (l.take (n_ l.length n)) ⟨[],[],0⟩ 0 else([],(fW l).1,(fW l).2)
def uH :∀(l:List Cp)(s:Bs)(i:Nat),jG s->(ic l s i).1.length<=24
 | [],s,i,h=>h.2
 |
  c::l,s,i,h=>by
  rw[ic];split
  .exact uH l _ _ (C2 h c)
  .simp
def uI(l:List Cp)(n:Int):(dK l n).1.length<=24:=by
 unfold dK;split
 .exact uH _ _ _ ⟨by simp,by simp⟩
 .simp
def Rj(n:Nat)(b:Bool)(h:Hp):cu cx (n+1) b 42 [()] h=some (.sc (.slice none 0 0),h):=by
 kernel_rfl
def Nk{t:TypeId}{i:Ti}{sz bytes:Nat}{ag:Bool}{ez:List Value}(hT:cx.T t=some i)(hk:i.kd= .slice sz ag bytes ez)(h:Hp)(old:LA)(id n:Nat)(ej:h[id]?=some (.row old))(ho:old.length=n*sz)(ik:0<sz)(hn:0<n)(hn1:n<=1000000000000000)(hb:n*bytes<=140737488355328):
 fg cx (h++[.row []]) t (.sl h.length sz 0 0 false) (.sl id sz 0 n false)=some (.sl (h.length+1) sz 0 n false,(h++[eV.row []]).set h.length .dead++[.row old]):=by
 obtain⟨size,agg,zero,kd⟩:=i;simp only at hk;subst hk;have wY:id<h.length:=(Za.1 ej).1;have hr:gu (h++[eV.row []]) id=some old:=by unfold gu;rw[Zd wY,ej]
 have hn:gV (h++[eV.row []]) (.sl id sz 0 n false)=some (n,old):=by
  simp only[gV,hr];rw[cw (by omega),Yd,Yy (by omega)]
 have vP:0<n*sz:=Nat.mul_pos (by omega) ik;unfold fg;rw[hT];simp only[kM,beq_self_eq_true,Bool.and_self,if_true,hn];rw[cv (by omega)];have h0:(h++[eV.row []])[h.length]?=some (.row []):=by simp
 simp only[h0];rw[cv (by simp;omega),cw ⟨trivial,by simp,by unfold maxLen;omega,by rw[Xk];exact hb⟩];simp
def Rk(n:Nat)(b:Bool)(j:Nat)(l:gM)(h:Hp)(hl:l.length<=24)(gE:ib l≠ [])(hj:h[j]?=some (.row (ib l).flatten)):cu cx (n+1) b 42 [.sl j 2 0 (ib l).length false] h=some (.sl (h.length+1) 2 0 (ib l).length false,(h++[eV.row []]).set h.length .dead++[.row (ib l).flatten]):=by
 rw[rr (n:=n) f42 [.tmp 2]];have hq:=fl l;have ae:=Nk (t:=118) QZ rfl h (ib l).flatten j (ib l).length hj (e9 _ (kf l).1) (by omega) (List.length_pos_iff.2 gE) (by omega) (by omega);generalize(ib l).flatten=F,(ib l).length=m at *;simp[f42,ae,CE]
def Nl(n:Nat)(b:Bool)(l:gM)(y:AV)(h:Hp)(hl:l.length<=24)(hB:ka h 2 (ib l) y):∃y' h',cu cx (n+1) b 42 [y] h=some (y',h')/\ka h' 2 (ib l) y':=by
 rcases hB with⟨h0,rfl⟩|⟨gE,j,rfl,hj⟩
 .exact⟨_,_,Rj n b h,.inl ⟨h0,rfl⟩⟩
 .refine⟨_,_,Rk n b j l h hl gE hj,.inr ⟨gE,_,rfl,?_⟩⟩;rw[Zf (by simp)];simp
noncomputable def Rl :Code:=(f16.body).getD .skip
def PS(r:Option (Out × St))(T:gM × Int × Int):Prop:=∃y h',dT [.tmp 4,.tmp 5,.tmp 6] r=some (.tp [y,T.2.1,T.2.2],h')/\ka h' 2 (ib T.1) y
def ahb(D d M:Nat)(l:List Cp)(n:Int)(T:gM × Int × Int)(hb:∀c∈l,AJ D d c)(hl:l.length<=10^6)(hn:3*d+80<=M)(hT:ic (l.take (n_ l.length n)) ⟨[],[],0⟩ 0=T)(fr:LA)(cp:fr.length=48)(g1:gt fr 1=n)(g2:gt fr 2= .pt 0 0)(g9:gt fr 9= .pt 1 0):
 PS (M (cT 3 Rl) (fr,[.row [.ls 21 (m_ l) false],.row [(),(),(0:Int)]])) T:=by
 obtain⟨k1,e1⟩:∃k,M=k+1:=⟨M-1,by omega⟩;have fcl:=λ(s:Bs)(c:Cp)h hS hs hc=>Nj D d M true 1 s c h hS hs hc (by omega)
 have fcn:=λ(l:gM)(y:AV)(h:Hp)hl hB=>Nl k1 true l y h hl hB
 rw[<-e1]at fcn;clear e1 hn;have hTl:=uH (l.take (n_ l.length n)) ⟨[],[],0⟩ 0 ⟨by simp,by simp⟩;rw[hT]at hTl;have hq:=jj l;have hg:∀i:Nat,((m_ l).take (n_ l.length n))[i]?=((l.take (n_ l.length n))[i]?).map cA:=by intro i;rw[show(m_ l).take (n_ l.length n)=(l.take (n_ l.length n)).map cA by unfold m_;rw[List.map_take],Zs]
 have oE:∀c∈l.take (n_ l.length n),AJ D d c:=λc hc=>hb c (List.mem_of_mem_take hc)
 have hlm:(l.take (n_ l.length n)).length=n_ l.length n:=by rw[Xa];unfold n_;omega
 have hT0:=hT;generalize hm:n_ l.length n=m at *;have IK:m<=l.length:=by rw[<-hm];unfold n_;omega
 have hm2:(if(l.length:Int)< (if n<0 then 0 else n)then(l.length:Int)else if n<0 then 0 else n)=(m:Int):=by
  rw[<-hm];unfold n_;split<;>split<;>omega
 have ahc:∀q:Int,q=(l.length:Int)->(if q< (if n<0 then 0 else n)then q else if n<0 then 0 else n)=(m:Int):=λq hq=>by rw[hq];exact hm2
 have lj:(m_ l).length=l.length:=hq;generalize m_ l=cq at *;have Px:qi (.ls 21 cq false) none (some (.sc (.int .i64 (m:Int)))) none=some (.ls 21 (cq.take m) false):=by
  simp only[qi,tD,iC,jy,Bool.false_and];simp;omega
 have U1:(cq.take m).length=m:=by rw[Xa];omega
 clear hm;generalize cq.take m=rt,hlml:l.take m=lm,hL:(l.length:Int)=L at *;simp[Rl,cT,cR,f16,cp,g1,g2,hq,hL,hm2,Px,U1];generalize cU:M (.loop _) _=XX;refine gk cU
  (λi st cD=>st.length=48/\gt st 9= .pt 1 0/\gt st 29= .ls 21 rt false/\gt st 30=m/\gt st 31=i/\∃s',BS 1 s' cD/\jG s'/\ic (lm.drop i) s' i=T)
  (λo st cD=>st.length=48/\((o= .exit 0/\gt st 9= .pt 1 0/\∃s',BS 1 s' cD/\T=(s'.now,0,0))\/(o= .ret/\gt st 4=()/\gt st 5=T.2.1/\gt st 6=T.2.2/\T.1=[])))
  m (by simp;omega) ⟨by simp[cp],by simp[g9],by simp[cp],by simp[cp],by simp[cp],⟨[],[],0⟩,⟨.sc (.slice none 0 0),.sc (.slice none 0 0),rfl,⟨.inl ⟨rfl,rfl⟩,by simp⟩,.inl ⟨rfl,rfl⟩,by simp⟩,⟨by simp,by simp⟩,hT0⟩ ?_ ?_
 .clear cU XX hT0 cp g1 g2 g9 hTl hm2 ahc Px lj hL;rintro i fr hp cP ⟨cp,g9,h1,h2,h3,s',hS,hs,hT⟩;by_cases hi:i<m
  .obtain⟨x,hx,hr,cC⟩:=il hg (by omega:i<lm.length);have dB:=Zi hx;have fH:i<=10^15:=by omega
   rw[cH hx,ic]at hT;obtain⟨h',ae,ig,hK'⟩:=fcl s' x _ (hS.app [.row (cA x)]) hs (oE x dB);have yY:=C2 hs x;generalize s'.clause x=s2 at *;have jI:=ig;obtain⟨yo,yn,i0,_⟩:=ig;have i0':=dh i0;have dH:(cA x).length=21:=by simp[cA,cB]
   generalize cA x=ev at *;have dJ:ev.take 21=ev:=Yy (by omega);have jT:=Q8 dH;have hf:=cz fH;by_cases he:s2.e=0
   .rw[cw he]at hT;rw[he]at i0 i0';simp[cp,g9,h1,h2,h3,hi,U1,cC,jT,dH,dJ,ae,i0,hf];exact⟨s2,jI,yY,hT⟩
   .rw[cv he]at hT;subst hT;generalize s2.e=u at *;simp[cp,g9,h1,h2,h3,hi,U1,cC,jT,dH,dJ,ae,i0,he]
  .have iJ:i=m:=Yb cP (Ya hi);subst iJ;rw[Zt (by omega),ic]at hT;simp[cp,h2,h3];exact⟨g9,s',hS,hT.symm⟩
 .rintro o cG h' rfl ⟨cp,⟨rfl,g9,s',hS,rfl⟩|⟨rfl,h4,h5,h6,h0⟩⟩
  .simp only at cp g9 hS hTl;obtain⟨yo,yn,i0,⟨go,go'⟩,gn,tK⟩:=hS;have i0':=dh i0;obtain⟨y',h2,ae,hB⟩:=fcn s'.now yn h' hTl gn;have q1:=akN (λv=>gn.np v)
   have q2:=akN (λv=>hB.np v)
   refine⟨y',h2,?_,hB⟩;simp[cp,g9,i0,q1,q2,ae]
  .refine⟨.sc (.slice none 0 0),h',?_,.inl ⟨by rw[h0];rfl,rfl⟩⟩;simp[h4,h5,h6]
end
end Go.Proofs.YtmocfjnklfpnbaaGreatDoor
