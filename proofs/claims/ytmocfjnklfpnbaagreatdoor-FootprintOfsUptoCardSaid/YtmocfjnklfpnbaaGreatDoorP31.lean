/- Part of the proof. -/
import Derived.Test.YtmocfjnklfpnbaaGreatDoorP30
set_option linter.all false
set_option maxHeartbeats 32000000
set_option maxRecDepth 100000
namespace Go.Proofs.YtmocfjnklfpnbaaGreatDoor
open Go Go.Ae Go.Proofs.Tryz
section
attribute [local simp] ew eY
def cO.lL(s:cO)(x:Sp):cO:=if dn x.label ⟨#[]⟩=true then(s.elem x.var false).fail (jH (s.elem x.var false).now x.e false)else s.elem x.var true
def cO.sets(s:cO)(l:List Sp):cO:=l.foldl cO.lL s
def gQ.lL{s:cO}(h:gQ s)(x:Sp):p6 s (s.lL x):=by
 unfold cO.lL;split
 .have h1:=h.elem x.var false;exact h1.trans ⟨h1.1.fail _,rfl,rfl⟩
 .exact h.elem x.var true
def gQ.sets :∀(l:List Sp){s:cO},gQ s->p6 s (s.sets l)
 | [],s,h=> .refl h
 |x::l,s,h=>(h.lL x).trans (gQ.sets l (h.lL x).1)
def ais(N:Nat->Prop)(D d M id q:Nat)(yo:AV)(s T:cO)(l:List Sp)(cq:List LA)(row:LA)(h0 h:Hp)(fr:LA)(X:Code)(hq:cq.length=l.length)(hg:∀i:Nat,cq[i]?=(l[i]?).map fD)(hS:ga N id yo s h)(hs:gQ s)(xz:∀k m,yo= .sl k 2 0 m false->N k)(vT:KN N h0 h)(hb:∀x∈l,ub D d x.e)(hl:l.length<=10^9)(hM:3*d+30<=M)(cp:fr.length=142)(g0:gt fr 0= .pt id 0)(g3:gt fr 3= .pt q 0)(wP:N q)(gb:h[q]?=some (.row row))(cY:row[19]?=some (.ls 13 cq false))(hX:∀fr h1,ga N id yo (s.sets l) h1->p6 s (s.sets l)->KN N h0 h1->fr.length=142->gt fr 0= .pt id 0->gt fr 3= .pt q 0->h1[q]?=some (.row row)->RW N id yo T h0 (M X (fr,h1))):
 RW N id yo T h0 (M (.seq (cL (cT 5 iH)) X) (fr,h)):=by
 obtain⟨k2,e2⟩:∃k,M=k+2:=⟨M-2,by omega⟩;have fe:=λ(N:Nat->Prop)(s:cO)nm nd H(hS:ga N id yo s H)(hs:gQ s)=>HM N k2 true id yo s nm nd H hS hs.now
 rw[<-e2]at fe;have fc:=λ(N:Nat->Prop)(s':cO)(x:Sp)(hx:x∈l)H yn(hS:ga N id yo s' H)(hs:gQ s')(hB:iV H s'.now yn)(ho:A8 id yn)b=>mq N D d M b id yo s' x.e s'.now yn false H hS hB ho hs.now (hb x hx).1 (hb x hx).2 (by omega)
 have p8:=hS.PO;have Dw:=gQ.sets l hs;clear hM e2;have di:∀k,row[19]'k= .ls 13 cq false:=λk=>by have:=Zb k;rw[cY]at this;exact(Option.some.inj this).symm
 generalize hT:s.sets l=TT at hX Dw;simp[iH,cT,cR,cL,f51];generalize cU:M (.loop _) _=XX;refine gk cU
  (λi st cD=>st.length=142/\gt st 0= .pt id 0/\gt st 3= .pt q 0/\gt st 7=i/\∃s',ga N id yo s' cD/\gQ s'/\KN N h cD/\s'.sets (l.drop i)=TT)
  (λo st cD=>o= .exit 6/\st.length=142/\gt st 0= .pt id 0/\gt st 3= .pt q 0/\ga N id yo TT cD/\KN N h cD)
  l.length (by simp;omega) ⟨by simp[cp],by simp[g0],by simp[g3],by simp[cp],s,hS,hs,KN.refl _ _,hT⟩ ?_ ?_
 .clear cU XX hT hS hs cp g0 g3 hX;rintro i fr hp cP ⟨cp,h0,h3,h9,s',hS,hs,hK,hT⟩;have gq:=hK _ _ wP gb;have gq':=dh gq;rcases dY hg cP with⟨x,hi,hx,hr,cC⟩|rfl
  .have hf:=cz (show i<=10^15 by omega);rw[cH hx]at hT;change(s'.lL x).sets (l.drop (i+1))=TT at hT;have du:=hS.lt;have gE:hp.length≠id:=Nat.ne_of_gt du;have aej:=(hs.lL x).1;have hSm:=hS.more (.row (fD x));have gp:(hp++[eV.row (fD x)])[hp.length]?=some (.row (fD x)):=by simp
   have AK:KN N hp (hp++[eV.row (fD x)]):=KN.app N hp _;have gq2:=AK _ _ wP gq;have wQ:∀{a b:Hp},dm id a b->KN N a b:=λhk=>KN.jg hk p8
   obtain⟨a0,a1,a2,a3,a4,a5,a6,a7,a8,gC⟩:=iK x.e;have jT:=GB (ev:=[.sc (.string x.var),.sc (.string x.key),.sc (.string x.label),.sc (.bool x.off),a0,a1,a2,a3,a4,a5,a6,a7,a8]) rfl;by_cases hz:dn x.label ⟨#[]⟩=true
   .have kQ:s'.lL x=(s'.elem x.var false).fail (jH (s'.elem x.var false).now x.e false):=by unfold cO.lL;rw[cw hz]
    obtain⟨h1,ae,gm,f_⟩:=fe _ s' x.var false _ hSm hs;have q8:=(hs.elem x.var false).1;have rC:=f_ _ _ gp gE;have Ng:=dh rC;obtain⟨yn,gr,hB,Bl⟩:=gm.now;have Ma:=dh gr;obtain⟨h2,af,jI,ph⟩:=fc _ (s'.elem x.var false) x (Zi hx) h1 yn gm q8 hB Bl false;rw[<-kQ]at jI;have zg:=jI.less (λj hj=> .inl hj) xz;have Hq:=((hK.trans AK).trans (wQ f_)).trans (wQ ph);have q3:=akO (λv=>hB.np v)
    generalize cO.e _=e0,cO.kd _=kd0 at gr Ma;clear hS hSm gm jI f_ ph wQ AK hB Bl kQ fe fc;unfold fD at hr cC gp rC Ng gq2 ae;rw[gC]at hr cC gp rC Ng af ae gq2;have gp':=dh gp;have ait:=dh gq2;simp[cp,h0,h3,h9,hi,hq,cC,gq,cY,gp',rC,gr,q3,ae,af,hf,jT,hz];exact⟨_,zg,aej,Hq,hT⟩
   .have kQ:s'.lL x=s'.elem x.var true:=by unfold cO.lL;rw[cv hz]
    simp only[Xs]at hz;obtain⟨h1,ae,gm,f_⟩:=fe _ s' x.var true _ hSm hs;have rC:=f_ _ _ gp gE;have Ng:=dh rC;rw[<-kQ]at gm;have zg:=gm.less (λj hj=> .inl hj) xz;have Hq:=(hK.trans AK).trans (wQ f_);clear hS hSm gm f_ wQ AK kQ fe fc;unfold fD at hr cC gp rC Ng gq2 ae;rw[gC]at hr cC gp rC Ng ae gq2;have gp':=dh gp;have ait:=dh gq2;simp[cp,h0,h3,h9,hi,hq,cC,gq,cY,gp',rC,ae,hf,jT,hz];exact⟨_,zg,aej,Hq,hT⟩
  .rw[Yc]at hT;subst hT;simp[cp,h0,h3,h9,gq,hq,cY];exact⟨hS,hK⟩
 .rintro o cG h' rfl ⟨rfl,cp,h0,h3,ig,hK'⟩;simp;exact hX _ _ ig Dw (vT.trans hK') cp h0 h3 (hK' _ _ wP gb)
def cO.xE(s:cO)(l:List Tp):cO:=l.foldl cO.path s
def gQ.xE :∀(l:List Tp){s:cO},gQ s->p6 s (s.xE l)
 | [],s,h=> .refl h
 |x::l,s,h=>(h.path x).trans (gQ.xE l (h.path x).1)
def aiu(N:Nat->Prop)(D d M id q:Nat)(yo:AV)(s T:cO)(l:List Tp)(cq:List LA)(row:LA)(h0 h:Hp)(fr:LA)(X:Code)(hq:cq.length=l.length)(hg:∀i:Nat,cq[i]?=(l[i]?).map dW)(hS:ga N id yo s h)(hs:gQ s)(xz:∀k m,yo= .sl k 2 0 m false->N k)(vT:KN N h0 h)(hb:∀p∈l,bbT D d p)(hd:∀p∈l,bdT D d p)(hl:l.length<=10^9)(hM:3*d+40<=M)(cp:fr.length=142)(g0:gt fr 0= .pt id 0)(g3:gt fr 3= .pt q 0)(wP:N q)(gb:h[q]?=some (.row row))(cY:row[3]?=some (.ls 3 cq false))(hX:∀fr h1,ga N id yo (s.xE l) h1->p6 s (s.xE l)->KN N h0 h1->fr.length=142->gt fr 0= .pt id 0->gt fr 3= .pt q 0->h1[q]?=some (.row row)->RW N id yo T h0 (M X (fr,h1))):
 RW N id yo T h0 (M (.seq (cL (cT 1 iH)) X) (fr,h)):=by
 have fp:=λ(s:cO)(p:Tp)(hp:p∈l)H(hS:ga N id yo s H)(hs:gQ s)=>S7 N D d M true id yo s p H hS hs xz (hb p hp) (hd p hp) hM
 have Dw:=gQ.xE l hs;clear hM;have di:∀k,row[3]'k= .ls 3 cq false:=λk=>by have:=Zb k;rw[cY]at this;exact(Option.some.inj this).symm
 generalize hT:s.xE l=TT at hX Dw;simp[iH,cT,cR,cL,f51];generalize cU:M (.loop _) _=XX;refine gk cU
  (λi st cD=>st.length=142/\gt st 0= .pt id 0/\gt st 3= .pt q 0/\gt st 4=i/\∃s',ga N id yo s' cD/\gQ s'/\KN N h cD/\s'.xE (l.drop i)=TT)
  (λo st cD=>o= .exit 0/\st.length=142/\gt st 0= .pt id 0/\gt st 3= .pt q 0/\ga N id yo TT cD/\KN N h cD)
  l.length (by simp;omega) ⟨by simp[cp],by simp[g0],by simp[g3],by simp[cp],s,hS,hs,KN.refl _ _,hT⟩ ?_ ?_
 .clear cU XX hT hS hs cp g0 g3 hX;rintro i fr hp cP ⟨cp,h0,h3,h9,s',hS,hs,hK,hT⟩;have gq:=hK _ _ wP gb;rcases dY hg cP with⟨x,hi,hx,hr,cC⟩|rfl
  .have hf:=cz (show i<=10^15 by omega);rw[cH hx]at hT;change(s'.path x).xE (l.drop (i+1))=TT at hT;obtain⟨h1,ae,gm,f_⟩:=fp s' x (Zi hx) hp hS hs;have q8:=(hs.path x).1;have dH:(dW x).length=3:=rfl;generalize dW x=ev at hr cC dH ae;have dJ:ev.take 3=ev:=Yy (Nat.le_of_eq dH);simp[cp,h0,h3,h9,hi,hq,cC,gq,cY,ae,hf,dH,dJ];exact⟨_,gm,q8,hK.trans f_,hT⟩
  .rw[Yc]at hT;subst hT;simp[cp,h0,h3,h9,gq,hq,cY];exact⟨hS,hK⟩
 .rintro o cG h' rfl ⟨rfl,cp,h0,h3,ig,hK'⟩;simp;exact hX _ _ ig Dw (vT.trans hK') cp h0 h3 (hK' _ _ wP gb)
def cO.yS(s:cO)(nm:ByteArray):cO:=if db s.now nm=0 then s else s.fail 7
def cO.zi(s:cO)(c:Cp):cO:=if c.kind=2 then((s.fail (jH s.now c.e false)).yS c.name).intro c.name 4 else s
def gQ.yS{s:cO}(h:gQ s)(nm:ByteArray):p6 s (s.yS nm):=by
 unfold cO.yS;split<;>exact⟨⟨h.old,h.now⟩,rfl,rfl⟩
def gQ.zi{s:cO}(h:gQ s)(c:Cp):p6 s (s.zi c):=by
 unfold cO.zi;split
 .have h1:p6 s (s.fail (jH s.now c.e false)):=⟨h.fail _,rfl,rfl⟩;have h2:=h1.1.yS c.name;exact(h1.trans h2).trans (h2.1.aec c.name 4)
 .exact .refl h
def aiv(N:Nat->Prop)(D d M id q:Nat)(yo:AV)(s T:cO)(c:Cp)(h0 h:Hp)(fr:LA)(X:Code)(hS:ga N id yo s h)(hs:gQ s)(xz:∀k m,yo= .sl k 2 0 m false->N k)(vT:KN N h0 h)(hb:ub D d c.e)(hM:3*d+40<=M)(cp:fr.length=142)(g0:gt fr 0= .pt id 0)(g3:gt fr 3= .pt q 0)(wP:N q)(gb:h[q]?=some (.row (cA c)))(hX:∀fr h1,ga N id yo (s.zi c) h1->p6 s (s.zi c)->KN N h0 h1->fr.length=142->gt fr 0= .pt id 0->gt fr 3= .pt q 0->h1[q]?=some (.row (cA c))->RW N id yo T h0 (M X (fr,h1))):
 RW N id yo T h0 (M (.seq (cL (cT 2 iH)) X) (fr,h)):=by
 obtain⟨k1,e1⟩:∃k,M=k+1:=⟨M-1,by omega⟩;obtain⟨k2,e2⟩:∃k,M=k+2:=⟨M-2,by omega⟩;have ff:=λ(s:cO)e H hS=>lS N k1 true id yo s e H hS
 have fi:=λ(s:cO)nm H(hS:ga N id yo s H)(hs:gQ s)=>ti N k2 true id yo s nm 4 H hS hs.now
 have fk:=λ(s:cO)y nm H(hB:iV H s.now y)(hs:gQ s)b=>og k1 b s.now y nm H hB hs.now
 have fc:=λ(s':cO)H yn(hS:ga N id yo s' H)(hs:gQ s')(hB:iV H s'.now yn)(ho:A8 id yn)b=>mq N D d M b id yo s' c.e s'.now yn false H hS hB ho hs.now hb.1 hb.2 (by omega)
 rw[<-e1]at ff fk;rw[<-e2]at fi;clear e1 e2 hM;have p8:=hS.PO;have Dw:=hs.zi c;obtain⟨a0,a1,a2,a3,a4,a5,a6,a7,a8,gC,ta⟩:=qG c;have tY:(cA c)[0]?=some (.sc (.int .i64 c.kind)):=by rw[ta];rfl
 have abh:(cA c)[14]?=some (.sc (.string c.name)):=by rw[ta];rfl
 have Lz:((cA c).drop 5).take 9=[a0,a1,a2,a3,a4,a5,a6,a7,a8]:=by rw[ta];rfl
 have gI:(cA c).length=21:=by simp[cA,cB]
 have GZ:∀k,(cA c)[14]'k=c.name:=λk=>by have:=Zb k;rw[abh]at this;exact(Option.some.inj this).symm
 have sL:∀k,(cA c)[0]'k=c.kind:=λk=>by have:=Zb k;rw[tY]at this;exact(Option.some.inj this).symm
 clear ta;have gb':=dh gb;by_cases ck:c.kind=2
 .have hu:s.zi c=((s.fail (jH s.now c.e false)).yS c.name).intro c.name 4:=by unfold cO.zi;rw[cw ck]
  obtain⟨yn,gr,hB,Bl⟩:=hS.now;have Ma:=dh gr;obtain⟨h1,ae,gm,f_⟩:=fc s h yn hS hs hB Bl false;have q8:gQ (s.fail (jH s.now c.e false)):=hs.fail _;generalize s.fail (jH s.now c.e false)=s1 at hu gm q8;have E5:=(KN.jg f_ p8) _ _ wP gb;have abN:=dh E5;obtain⟨Wj,gr1,hB1,hoff1⟩:=gm.now;have aiw:=dh gr1;have af:=λb=>fk s1 Wj c.name h1 hB1 q8 b
  obtain⟨h2,ah,jI,ph⟩:∃h2,(db s1.now c.name=0/\h2=h1\/db s1.now c.name≠0/\cu cx M true 101 [.pt id 0,(7:Int)] h1=some (.tp [],h2))/\ga N id yo (s1.yS c.name) h2/\dm id h1 h2:=by
   unfold cO.yS;by_cases kk:db s1.now c.name=0
   .rw[cw kk];exact⟨h1,.inl ⟨kk,rfl⟩,gm,dm.refl _ _⟩
   .rw[cv kk];obtain⟨h2,ai,a,b⟩:=ff s1 7 h1 gm;exact⟨h2,.inr ⟨kk,ai⟩,a,b⟩
  have hs2:=(q8.yS c.name).1;have gb2:=(KN.jg ph p8) _ _ wP E5;have gb2':=dh gb2;obtain⟨h3,ai,zg,Hq⟩:=fi (s1.yS c.name) c.name h2 jI hs2;rw[<-hu]at zg;have HS:=(((KN.jg f_ p8).trans (KN.jg ph p8)).trans Hq);have gb3:=Hq _ _ wP gb2;have q3:=akO (λv=>hB.np v)
  have q4:=akO (λv=>hB1.np v)
  rw[gC]at ae;rw[ck]at tY sL;have hX':=λfr=>hX fr h3 zg Dw (vT.trans HS)
  generalize db s1.now c.name=kk at af ah;generalize s1.e=ee1,s1.kd=ek1 at gr1 aiw;generalize s.e=ee,s.kd=ek at gr Ma;clear hS gm jI zg f_ ph Hq hB hB1 hu fc fi ff fk HS;generalize cA c=ev,c.name=nm at *;rcases ah with⟨rfl,rfl⟩|⟨k0,ah⟩
  .simp[iH,cT,cR,cL,f51,cp,g0,g3,gb,sL,GZ,Lz,gI,gr,gr1,E5,q3,q4,ae,af,ai];exact hX' _ (by simp[cp]) (by simp[g0]) (by simp[g3]) gb3
  .simp[iH,cT,cR,cL,f51,cp,g0,g3,gb,sL,GZ,Lz,gI,gr,gr1,E5,gb2,q3,q4,ae,af,ah,k0,ai];exact hX' _ (by simp[cp]) (by simp[g0]) (by simp[g3]) gb3
 .have hu:s.zi c=s:=by unfold cO.zi;rw[cv ck]
  rw[hu]at hX Dw;generalize c.kind=kd at *;simp[iH,cT,cR,cL,f51,cp,g3,gb,sL,gI,ck];exact hX _ _ hS Dw vT (by simp[cp]) (by simp[g0]) (by simp[g3]) gb
def cO.kK(s:cO)(c:Cp):cO:=if c.kind=3\/c.kind=4 then(s.gw c.items).i_ (c.order.map λx=>x.e)else s
def gQ.kK{s:cO}(h:gQ s)(c:Cp)(hl:c.items.length<=10^6):p6 s (s.kK c):=by
 unfold cO.kK;split
 .have h1:=h.gw c.items hl;exact h1.trans (h1.1.i_ _)
 .exact .refl h
def aix(N:Nat->Prop)(D d M id q:Nat)(yo:AV)(s T:cO)(c:Cp)(h0 h:Hp)(fr:LA)(X:Code)(hS:ga N id yo s h)(hs:gQ s)(xz:∀k m,yo= .sl k 2 0 m false->N k)(vT:KN N h0 h)(Py:∀x∈c.items,ub D d x.e)(Li:∀x∈c.order,ub D d x.e)(iJ:c.items.length<=10^6)(hol:c.order.length<=10^9)(hM:3*d+40<=M)(cp:fr.length=142)(g0:gt fr 0= .pt id 0)(g3:gt fr 3= .pt q 0)(wP:N q)(gb:h[q]?=some (.row (cA c)))(hX:∀fr h1,ga N id yo (s.kK c) h1->p6 s (s.kK c)->KN N h0 h1->fr.length=142->gt fr 0= .pt id 0->gt fr 3= .pt q 0->h1[q]?=some (.row (cA c))->RW N id yo T h0 (M X (fr,h1))):
 RW N id yo T h0 (M (.seq (cL (cT 3 iH)) X) (fr,h)):=by
 obtain⟨a0,a1,a2,a3,a4,a5,a6,a7,a8,gC,ta⟩:=qG c;have tY:(cA c)[0]?=some (.sc (.int .i64 c.kind)):=by rw[ta];rfl
 have sL:∀k,(cA c)[0]'k=c.kind:=λk=>by have:=Zb k;rw[tY]at this;exact(Option.some.inj this).symm
 obtain⟨aiy,aiz,_,_⟩:=nZ c;have aak:∀k,(cA c)[15]'k= .ls 10 (xa c.items) false:=λk=>by have:=Zb k;rw[aiy]at this;exact(Option.some.inj this).symm
 have gI:(cA c).length=21:=by simp[cA,cB]
 clear ta gC;obtain⟨h1,ae,gm,f_⟩:=HR N D d M true id yo s c.items h hS hs xz Py iJ (by omega);have q8:=hs.gw c.items iJ;have E5:=f_ _ _ wP gb;have Dw:=hs.kK c iJ;rw[show cL (cT 3 iH)= .seq (cL (cL (cT 3 iH))) (.cond (.tmp 56) (.seq (cL (cL (cR (cL (cT 3 iH))))) (cR (cL (cR (cL (cT 3 iH)))))) .skip) by kernel_rfl];have next:c.kind=3\/c.kind=4->∀fr,fr.length=142->gt fr 0= .pt id 0->gt fr 3= .pt q 0->RW N id yo T h0 (M (.seq (cR (cL (cR (cL (cT 3 iH))))) X) (fr,h1)):=by
  intro hk fr cp g0 g3;have hu:s.kK c=(s.gw c.items).i_ (c.order.map λx=>x.e):=by unfold cO.kK;rw[cw hk]
  refine aei N D d M id q yo (s.gw c.items) T c.order (yZ c.order) (cA c) h0 h1 fr X (iP _) (qw _) gm q8.1 xz (vT.trans f_) Li hol (by omega) cp g0 g3 wP E5 aiz ?_;intro fr h2 b1 b2 b3 b4 b5 b6 b7;rw[<-hu]at b1;exact hX fr h2 b1 Dw b3 b4 b5 b6 b7
 change c.kind=3\/c.kind=4->∀fr,fr.length=142->gt fr 0= .pt id 0->gt fr 3= .pt q 0->RW N id yo T h0 (jC cx (cu cx M) (M (cR (cL (cR (cL (cT 3 iH))))) (fr,h1)) X)at next
 have XO:¬(c.kind=3\/c.kind=4)->s.kK c=s:=λhk=>by unfold cO.kK;rw[cv hk]
 generalize cR (cL (cR (cL (cT 3 iH))))=O at next|-
 have gb':=dh gb;by_cases k3:c.kind=3
 .have nx:=next (.inl k3)
  rw[k3]at tY sL;clear next XO hX hS gm f_ Dw
  generalize cA c=ev at *;simp[iH,cT,cR,cL,f51,cp,g0,g3,gb,sL,aak,gI,ae];exact nx _ (by simp[cp]) (by simp[g0]) (by simp[g3])
 .by_cases k4:c.kind=4
  .have nx:=next (.inr k4)
   rw[k4]at tY sL;clear next XO hX hS gm f_ Dw
   generalize cA c=ev at *;simp[iH,cT,cR,cL,f51,cp,g0,g3,gb,sL,aak,gI,ae];exact nx _ (by simp[cp]) (by simp[g0]) (by simp[g3])
  .have hu:=XO (λq=>q.elim k3 k4);rw[hu]at hX;clear next XO gm f_ ae E5
   have cU:=λfr=>hX fr h hS (.refl hs) vT
   clear hX Dw hu;generalize hkd:c.kind=kd,dH:cA c=ev at *;simp[iH,cT,cR,cL,f51,cp,g3,gb,sL,gI,k3,k4];exact cU _ (by simp[cp]) (by simp[g0]) (by simp[g3]) gb
def cO.clause(s:cO)(c:Cp):cO:=((((((s.xE c.paths).zi c).kK c).i_ (c.eu.map λx=>x)).sets c.sets).elems c.names)
def gQ.clause{s:cO}(h:gQ s)(c:Cp)(hl:c.items.length<=10^6):p6 s (s.clause c):=by
 have h1:=h.xE c.paths;have h2:=h1.trans (h1.1.zi c);have h3:=h2.trans (h2.1.kK c hl);have h4:=h3.trans (h3.1.i_ (c.eu.map λx=>x));have h5:=h4.trans (h4.1.sets c.sets);exact h5.trans (h5.1.elems c.names)
def Kj(N:Nat->Prop)(D d n:Nat)(t:Bool)(id:Nat)(yo:AV)(s:cO)(c:Cp)(h:Hp)(hS:ga N id yo s h)(hs:gQ s)(xz:∀k m,yo= .sl k 2 0 m false->N k)(hb:AJ D d c)(hd:Cg D d c)(iJ:c.items.length<=10^6)(hn:3*d+60<=n):
 ∃h',cu cx n t 51 [.pt id 0,.ag (cA c)] h=some (.tp [],h')/\ga N id yo (s.clause c) h'/\KN N h h':=by
 obtain⟨M,rfl⟩:∃m,n=m+1:=⟨n-1,by omega⟩;rw[rr (n:=M) f51 []];change∃h',dT [] (M iH ([.pt id 0,.ag (cA c)]++List.replicate 140 .un,h))=some (.tp [],h')/\ga N id yo (s.clause c) h'/\KN N h h';have jI:=hS.more (.row (cA c));have xD:∀k m,yo= .sl k 2 0 m false->N k\/k=h.length:=λk m e=> .inl (xz k m e)
 have gb:(h++[.row (cA c)])[h.length]?=some (.row (cA c)):=by simp
 have Ki:∀r:Option (Out × St),RW (λj=>N j\/j=h.length) id yo (s.clause c) (h++[.row (cA c)]) r->∃h',dT [] r=some (.tp [],h')/\ga N id yo (s.clause c) h'/\KN N h h':=λr ⟨h',a,b,c⟩=>⟨h',a,b.less (λj hj=> .inl hj) xz,(KN.app N h _).trans (c.less λj hj=> .inl hj)⟩
 refine Ki _ ?_;clear Ki;have gI:(cA c).length=21:=by simp[cA,cB]
 obtain⟨_,_,aiA,abu⟩:=nZ c;obtain⟨a0,a1,a2,a3,a4,a5,a6,a7,a8,gC,ta⟩:=qG c;have BP:(cA c)[3]?=some (.ls 3 (q7 c.paths) false):=by rw[ta];rfl
 have hr4:(cA c)[4]?=some (.ls 9 (cZ c.eu) false):=by rw[ta];rfl
 clear ta gC;have all:∀fr,fr.length=142->gt fr 0= .pt id 0->gt fr 3= .pt h.length 0->RW (λj=>N j\/j=h.length) id yo (s.clause c) (h++[.row (cA c)]) (M (.seq (cL (cT 1 iH)) (.seq (cL (cT 2 iH)) (.seq (cL (cT 3 iH)) (.seq (cL (cT 4 iH)) (.seq (cL (cT 5 iH)) (cT 6 iH)))))) (fr,h++[.row (cA c)])):=by
  intro fr cp g0 g3;refine aiu _ D d M id h.length yo s _ c.paths (q7 c.paths) (cA c) _ _ fr _ (by simp[q7]) (λi=>by simp[q7]) jI hs xD (KN.refl _ _) hb.paths hd.paths hb.n1 (by omega) cp g0 g3 (.inr rfl) gb BP ?_;intro fr h1 b1 b2 b3 b4 b5 b6 b7;refine aiv _ D d M id h.length yo _ _ c _ h1 fr _ b1 b2.1 xD b3 hb.e (by omega) b4 b5 b6 (.inr rfl) b7 ?_;intro fr h2 c1 c2 c3 c4 c5 c6 c7;refine aix _ D d M id h.length yo _ _ c _ h2 fr _ c1 c2.1 xD c3 hb.items hb.order iJ hb.n4 (by omega) c4 c5 c6 (.inr rfl) c7 ?_;intro fr h3 d1 d2 d3 d4 d5 d6 d7;refine air _ D d M id h.length yo _ _ c.eu (cZ c.eu) (cA c) _ h3 fr _ (cX _) (eM _) d1 d2.1 xD d3 hb.eu hb.n2 (by omega) d4 d5 d6 (.inr rfl) d7 hr4 ?_;intro fr h4 e1 e2 e3 e4 e5 e6 e7;refine ais _ D d M id h.length yo _ _ c.sets (y_ c.sets) (cA c) _ h4 fr _ (iQ _) (qx _) e1 e2.1 xD e3 hb.sets hb.n5 (by omega) e4 e5 e6 (.inr rfl) e7 aiA ?_;intro fr h5 ae af ah ai ak aj ao;obtain⟨h6,w1,w2,w3⟩:=aiq _ M id h.length yo _ c.names (cA c) h5 fr ae af.1 hb.n6 (by omega) ai ak aj (.inr rfl) ao abu;exact⟨h6,w1,w2,ah.trans w3⟩
 rw[show iH= .seq (cL (cT 0 iH)) (.seq (cL (cT 1 iH)) (.seq (cL (cT 2 iH)) (.seq (cL (cT 3 iH)) (.seq (cL (cT 4 iH)) (.seq (cL (cT 5 iH)) (cT 6 iH)))))) by kernel_rfl];generalize Code.seq (cL (cT 1 iH)) (.seq (cL (cT 2 iH)) (.seq (cL (cT 3 iH)) (.seq (cL (cT 4 iH)) (.seq (cL (cT 5 iH)) (cT 6 iH)))))=Z at all|-;have PT:∀fr:LA,fr.length=142->gt fr 0= .pt id 0->gt fr 1= .ag (cA c)->∃cG,M (cL (cT 0 iH)) (fr,h)=some (.normal,(cG,h++[.row (cA c)]))/\cG.length=142/\gt cG 0= .pt id 0/\gt cG 3= .pt h.length 0:=by
  intro fr cp g0 g1;simp[iH,cT,cL,f51,cp,g0,g1,gI]
 obtain⟨cG,p1,p2,p3,p4⟩:=PT ([.pt id 0,.ag (cA c)]++List.replicate 140 .un) rfl rfl rfl;have:=all cG p2 p3 p4;show RW _ id yo _ _ (jC cx (cu cx M) (M (cL (cT 0 iH)) ([.pt id 0,.ag (cA c)]++List.replicate 140 .un,h)) Z);rw[p1];exact this
end
def iV.lt{h:Hp}{l:gM}{y:AV}(hb:iV h l y):∀k m,y= .sl k 2 0 m false->k<h.length:=by
 intro k m e;subst e;rcases hb with(⟨_,e⟩|⟨_,j,e,hj⟩)|⟨_,e⟩
 .cases e
 .injection e with e
  subst e;exact(Za.1 hj).1
 .cases e
def iV.all{h h':Hp}{l:gM}{y:AV}(hb:iV h l y)(hk:∀(j:Nat)(b:eV),h[j]?=some b->h'[j]?=some b):iV h' l y:=by
 rcases hb with(⟨h0,rfl⟩|⟨gE,j,rfl,hj⟩)|hb
 .exact .inl (.inl ⟨h0,rfl⟩)
 .exact .inl (.inr ⟨gE,j,rfl,hk j _ hj⟩)
 .exact .inr hb
structure OdQ (fr:LA)(h:Hp)(l:gM)(y:AV)(kd:Int)(s':St):Prop where
 len:s'.1.length=60
 one:gt s'.1 1=gt fr 1
 two:gt s'.1 2=gt fr 2
 nine:gt s'.1 9=gt fr 9
 ten:gt s'.1 10=gt fr 10
 lay:∃id,gt s'.1 11= .pt (id+1) 0/\ga (λj=>j<h.length) (id+1) y ⟨l,l,kd,0⟩ s'.2
 keep:∀(j:Nat)(b:eV),h[j]?=some b->s'.2[j]?=some b
def E8{fr:LA}{h H:Hp}{l:gM}{kd:Int}{id:Nat}{s':St}{y yn:AV}(hP:OdP fr H (id+1) s')(hk:∀(j:Nat)(b:eV),h[j]?=some b->H[j]?=some b)(h0:H[id+1]?=some (.row [y,yn,kd,(0:Int)]))(hy:iV h l y)(ej:h.length<=id+1)(hn:iV H l yn)(BT:∀k m,yn= .sl k 2 0 m false->k≠id+1/\h.length<=k):OdQ fr h l y kd s':=by
 refine⟨hP.len,hP.one,hP.two,hP.nine,hP.ten,⟨id,hP.aie,yn,?_,?_,?_,⟨?_,hy.lt⟩,?_,?_⟩,?_⟩
 .rw[hP.heap];exact h0
 .omega
 .intro j hj;rw[hP.heap];exact(Za.1 (hk j _ (Zb hj))).1
 .rw[hP.heap];exact hy.all hk
 .rw[hP.heap];exact hn
 .intro k m e;have:=BT k m e;exact⟨this.1,by omega⟩
 .rw[hP.heap];exact hk
def abQ(hC:Cq cx)(fr:LA)(h:Hp)(l:gM)(y:AV)(i:Nat)(cq:List LA)(row:LA)(z:Bool)(kd:Int)(id:Nat)(cp:fr.length=60)(h2:gt fr 2= .pt 0 0)(h9:gt fr 9=y)(jv:gt fr 10=i)(hi:i<cq.length)(hr:cq[i]?=some row)(lj:row.length=21)(hk:row[0]?=some (.sc (.int .i64 kd)))(hy:iV (qB cq z::h) l y)(hl:l.length<=10^6):
 HG cx (.region id Ob.toArray true) (fr,qB cq z::h) (λo s'=>o= .normal/\OdQ fr (qB cq z::h) l y kd s'):=by
 have cC:cq[i]=row:=by
  have:=Zb hi;rw[hr]at this;exact(Option.some.inj this).symm
 have main:∃sA sB,E3 BW (λ_ _ _=>none) U6.toArray (fr,qB cq z::h) sA/\E3 BW (λ_ _ _=>none) U7.toArray (fr,qB cq z::h) sB/\OdQ fr (qB cq z::h) l y kd sA/\OdQ fr (qB cq z::h) l y kd sB:=by
  have empty:∀y,(y= .sc (.slice none 0 0)\/y= .ls 2 [] true)->l=[]->iV (qB cq z::h) l y->gt fr 9=y->∃sA sB,E3 BW (λ_ _ _=>none) U6.toArray (fr,qB cq z::h) sA/\E3 BW (λ_ _ _=>none) U7.toArray (fr,qB cq z::h) sB/\OdQ fr (qB cq z::h) l y kd sA/\OdQ fr (qB cq z::h) l y kd sB:=by
   intro y Ol ki hB h9;have hc:CpY y (.ls 2 [] true):=Ol.elim (λq=> .inl ⟨q,rfl⟩) λq=> .inr (.inl ⟨q,rfl⟩)
   have f:∀H,fg BW H 83 (.ls 2 [] true) y=some (.ls 2 [] true,H):=λH=>by
    unfold fg;rw[aah,Ek];rcases Ol with rfl|rfl<;>simp[kM,gV]
   obtain⟨sA,a1,a2⟩:=L9 (λ_ _ _=>none) fr h h y _ i cq row z kd cp h2 h9 jv hi cC lj hk hc (f _);obtain⟨sB,b1,b2⟩:=L_ (λ_ _ _=>none) fr h [] y _ i cq row z kd cp h2 h9 jv hi cC lj hk hc (f _);refine⟨sA,sB,a1,b1,E8 a2 (λj b hj=>?_) ?_ hB (by simp) (.inr ⟨ki,rfl⟩) (λk m e=>by cases e),E8 b2 (λj b hj=>?_) ?_ hB (by simp) (.inr ⟨ki,rfl⟩) (λk m e=>by cases e)⟩
   .exact cJ (h:=qB cq z::h) _ hj
   .simp
   .exact cJ (h:=qB cq z::h) _ hj
   .simp
  rcases hy with(⟨h0,rfl⟩|⟨gE,k,rfl,Mf⟩)|⟨h0,rfl⟩
  .have hz:l=[]:=by
    have:=congrArg List.length h0;rw[fl]at this;exact Xp.1 (by simpa using this)
   exact empty _ (.inl rfl) hz (.inl (.inl ⟨h0,rfl⟩)) h9
  .have vP:=List.length_pos_iff.2 gE;have hq:=fl l;have vj:=e9 _ (kf l).1;have iB:=(Za.1 Mf).1;have g1:=cJ [zB] Mf;have fA:=SK Mf vP (by omega) vj;have fB:=SK g1 vP (by omega) vj;rw[Zv,Ys]at fA;simp only[Zv,Ys,Zu,List.length_nil,Zp,Zw]at fB;obtain⟨sA,a1,a2⟩:=L9 (λ_ _ _=>none) fr h _ _ _ i cq row z kd cp h2 h9 jv hi cC lj hk (.inr (.inr ⟨_,_,_,rfl,rfl⟩)) fA;obtain⟨sB,b1,b2⟩:=L_ (λ_ _ _=>none) fr h _ _ _ i cq row z kd cp h2 h9 jv hi cC lj hk (.inr (.inr ⟨_,_,_,rfl,rfl⟩)) fB;simp only[Ys]at iB;refine⟨sA,sB,a1,b1,E8 (yn:= .sl (h.length+1) 2 0 (ib l).length false) a2 ?_ ?_ (.inl (.inr ⟨gE,k,rfl,Mf⟩)) ?_ (.inl (.inr ⟨gE,h.length+1,rfl,?_⟩)) ?_,E8 (yn:= .sl (h.length+1+1) 2 0 (ib l).length false) b2 ?_ ?_ (.inl (.inr ⟨gE,k,rfl,Mf⟩)) ?_ (.inl (.inr ⟨gE,h.length+1+1,rfl,?_⟩)) ?_⟩
   .intro j b hj;rw[Zp];exact cJ (h:=qB cq z::h) _ hj
   .simp
   .simp only[Zu,Ys];omega
   .simp
   .intro k' m e;injection e with e;simp only[Zu,Ys];omega
   .intro j b hj;exact cJ (h:=qB cq z::h) _ hj
   .simp
   .simp
   .simp
   .intro k' m e;injection e with e;simp only[Ys];omega
  .exact empty _ (.inr rfl) h0 (.inr ⟨h0,rfl⟩) h9
 obtain⟨tA,tB,rA,rB',qA,qB'⟩:=main;have key:HG BW (.region id Ob.toArray true) (fr,qB cq z::h) (λo s'=>o= .normal/\OdQ fr (qB cq z::h) l y kd s'):=
  XA (C:=BW) (call:=λ_ _ _=>none) (sA:=tA) (sB:=tB) (s:=_root_.id) (r:=_root_.id) (s':=sB) (r':=rB) (c:=11) (d:=3) hC.mixed (λt i q=>q) (λg xs h r h' q=>by cases q) (λg xs h r h' _ q=>by cases q) SH SI (Od _) (by decide) (by decide) (by decide) XC XD (by rw[abK];exact rA) (by rw[abL];exact rB') ⟨rfl,qA⟩ ⟨rfl,qB'⟩
 exact key
section
attribute [local simp] ew eY
def oX :List Cp->gM->Nat->gM × Int × Int
 | [],vars,_=>(vars,0,0)
 |c::l,vars,i=>if(cO.clause ⟨vars,vars,c.kind,0⟩ c).e=0 then oX l (cO.clause ⟨vars,vars,c.kind,0⟩ c).now (i+1)else([],(i:Int),(cO.clause ⟨vars,vars,c.kind,0⟩ c).e)
noncomputable def wR :Code:=(f22.body).getD .skip
noncomputable def Ta :Code:=cL (cL (cR (cL (cT 4 wR))))
noncomputable def kX3 :Code:=cL Ta
noncomputable def kX4 :Code:=cR (cL (cL (cR Ta)))
noncomputable def kX5 :Code:=cR (cR Ta)
def abR :Ta= .seq kX3 (.seq (.block 1 (.seq (.region 10 Ob.toArray true) kX4)) kX5):=by kernel_rfl
def kG{C:Cx}{call:Bool->FuncId->LA->Hp->Option (AV × Hp)}(hC:Cq C)(cW:∀b,jm C (call b))(gh:∀g xs h r h',C.inl g=false->call false g xs h=some (r,h')->h'=h){c:Code}(jB:codeOk C c=true)(h2:vg C c=true){s s':St}{o:Out}(he:dd C call c s=some (o,s')){P:Out->St->Prop}(hP:P o s'):HG C c s P:=
 SA hC cW gh jB (by rw[HT c h2];exact he) hP
def aiB(M:Nat)(i m:Nat)(fr:LA)(h:Hp)(cp:fr.length=60)(h1:gt fr 1=m)(jv:gt fr 10=i):
 ∃cG,M kX3 (fr,h)=some (if i<m then .normal else .exit 0,(cG,h))/\cG.length=60/\gt cG 1=gt fr 1/\gt cG 2=gt fr 2/\gt cG 9=gt fr 9/\gt cG 10=gt fr 10:=by
 by_cases hi:i<m
 .rw[cw hi];simp[kX3,Ta,wR,cT,cR,cL,f22,cp,h1,jv,hi]
 .rw[cv hi];simp[kX3,Ta,wR,cT,cR,cL,f22,cp,h1,jv,hi]
def aiC(M:Nat)(i:Nat)(fr:LA)(h:Hp)(cp:fr.length=60)(jv:gt fr 10=i)(hf:dA .i64 ((i:Int)+1)=((i+1:Nat):Int)):
 ∃cG,M kX5 (fr,h)=some (.normal,(cG,h))/\cG.length=60/\gt cG 1=gt fr 1/\gt cG 2=gt fr 2/\gt cG 9=gt fr 9/\gt cG 10= .sc (.int .i64 ((i+1:Nat):Int)):=by
 simp[kX5,Ta,wR,cT,cR,cL,f22,cp,jv,hf]
def aiD(M:Nat)(i id:Nat)(fr:LA)(h h2:Hp)(cq:List LA)(row:LA)(y yo yn:AV)(kd e:Int)(cp:fr.length=60)(g2:gt fr 2= .pt 0 0)(g10:gt fr 10=i)(g11:gt fr 11= .pt id 0)(hi:i<cq.length)(hr:cq[i]?=some row)(lj:row.length=21)(hb:h[0]?=some (qB cq false))(ae:cu cx M true 51 [.pt id 0,.ag row] h=some (.tp [],h2))(gr:h2[id]?=some (.row [yo,yn,kd,e]))(xw:∀v,yn≠ .pn v):
 ∃cG,M kX4 (fr,h)=some (if e=0 then .normal else .ret,(cG,h2))/\cG.length=60/\gt cG 1=gt fr 1/\gt cG 2=gt fr 2/\gt cG 10=gt fr 10/\(e=0->gt cG 9=yn)/\(e≠0->gt cG 4=()/\gt cG 5=i/\gt cG 6=e):=by
 have cC:∀k,cq[i]'k=row:=λk=>by have:=Zb k;rw[hr]at this;exact(Option.some.inj this).symm
 have oE:=dh hb;have Ma:=dh gr;have V6:row.take 21=row:=Yy (by omega);have q1:=akN xw
 by_cases c:e=0
 .subst c;simp[kX4,Ta,wR,cT,cR,cL,f22,cp,g2,g10,g11,hi,cC,lj,V6,hb,ae,gr,q1]
 .simp[kX4,Ta,wR,cT,cR,cL,f22,cp,g2,g10,g11,hi,cC,lj,V6,hb,ae,gr,c]
end
def HU{h:Hp}{b:eV}(h0:h[0]?=some b):∃t,h=b::t:=by
 cases h with
 |nil=>simp at h0
 |cons a t=>simp at h0;exact⟨t,by rw[h0]⟩
def ScP(T:gM × Int × Int)(o:Out)(s:St):Prop:=
 (o= .normal/\s.1.length=60/\T.2=(0,0)/\∃y,gt s.1 9=y/\iV s.2 T.1 y)\/(o= .ret/\s.1.length=60/\gt s.1 4=()/\gt s.1 5=T.2.1/\gt s.1 6=T.2.2/\T.1=[])
def XP(hC:kg cx)(D d M m:Nat)(l:List Cp)(hm:m<=l.length)(hl:l.length<=10^6)(hb:∀c∈l,AJ D d c)(hd:∀c∈l,Cg D d c)(zc:∀c∈l,c.items.length<=10^6)(hM:3*d+60<=M)(fr:LA)(cp:fr.length=60)(g1:gt fr 1=m)(g2:gt fr 2= .pt 0 0)(g9:gt fr 9=())(g10:gt fr 10=(0:Int)):
 HG cx (.block 0 (.loop Ta)) (fr,[qB (m_ l) false]) (ScP (oX (l.take m) [] 0)):=by
 have hq:=jj l;have hg:=oQ l;generalize hT:oX (l.take m) [] 0=T;generalize m_ l=cq at hq hg|-;refine Dg (SB (λi s=>s.1.length=60/\gt s.1 1=m/\gt s.1 2= .pt 0 0/\gt s.1 10=i/\∃y vars h,s.2=qB cq false::h/\gt s.1 9=y/\iV s.2 vars y/\vars.length<=10^6/\oX ((l.take m).drop i) vars i=T) m ?_ ⟨cp,g1,g2,g10,_,[],[],rfl,g9,.inl (.inl ⟨rfl,rfl⟩),by simp,by simpa using hT⟩);clear hT cp g1 g2 g9 g10;rintro i ⟨fr,H⟩ cP ⟨cp,g1,g2,g10,y,vars,h,hH,g9,hB,hv,hT⟩;simp only at cp g1 g2 g10 hH g9 hB;subst hH;rw[abR];obtain⟨FJ,a0,a1,a2,a3,a4,a5⟩:=aiB M i m fr (qB cq false::h) cp g1 g10;refine nq (kG hC.base (gH hC M).1 (gH hC M).2 (by kernel_rfl) (by kernel_rfl) a0 ?_);by_cases him:i<m
 .rw[cw him];refine⟨λ_=>?_,λq=>absurd rfl q⟩;obtain⟨x,hx⟩:∃x,l[i]?=some x:=⟨_,Zb (by omega)⟩;have dB:=Zi hx;have hxt:(l.take m)[i]?=some x:=by rw[Xi,cw him];exact hx
  have hr:cq[i]?=some (cA x):=by rw[hg,hx];rfl
  have lj:(cA x).length=21:=by simp[cA,cB]
  obtain⟨c0,c1,c2,c3,c4,c5,c6,c7,c8,gC,ta⟩:=qG x;have tY:(cA x)[0]?=some (.sc (.int .i64 x.kind)):=by rw[ta];rfl
  clear ta gC;rw[cH hxt,oX]at hT;have hs:gQ ⟨vars,vars,x.kind,0⟩:=⟨hv,hv⟩;have hOk:=hs.clause x (zc x dB);refine nq (Dg (nq (HH (abQ hC.base FJ h vars y i cq (cA x) false x.kind 10 a1 (a3.trans g2) (a4.trans g9) (a5.trans g10) (by omega) hr lj tY hB hv) ?_)));rintro o ⟨Lm,h2⟩ ⟨rfl,hQ⟩;refine⟨λ_=>?_,λq=>absurd rfl q⟩;obtain⟨b0,b1,b2,b3,b4,⟨id,b5,hS⟩,b6⟩:=hQ;simp only at b0 b1 b2 b3 b4 b5 b6 hS;obtain⟨h3,ae,zg,Hq⟩:=Kj _ D d M true (id+1) y _ x h2 hS hs hB.lt (hb x dB) (hd x dB) (zc x dB) hM;obtain⟨yn,gr,hBn,_⟩:=zg.now;have IG:=b6 0 _ (show(qB cq false::h)[0]?=some (qB cq false)from rfl);have UT:=Hq 0 _ (by simp) IG;obtain⟨t3,rfl⟩:=HU UT;obtain⟨fr3,d0,d1,d2,d3,d4,d5,d6⟩:=aiD M i (id+1) Lm h2 (qB cq false::t3) cq (cA x) y y yn _ _ b0 (b2.trans (a3.trans g2)) (b4.trans (a5.trans g10)) b5 (by omega) hr lj IG ae gr (λv=>hBn.np v);generalize cO.clause ⟨vars,vars,x.kind,0⟩ x=s3 at hT hOk hBn d0 d5 d6;refine kG hC.base (gH hC M).1 (gH hC M).2 (by kernel_rfl) (by kernel_rfl) d0 ?_;by_cases he:s3.e=0
  .rw[cw he]at hT|-;refine⟨λ_=>?_,λq=>absurd rfl q⟩;obtain⟨fr4,e0,e1,e2,e3,e4,e5⟩:=aiC M i fr3 (qB cq false::t3) d1 (d4.trans (b4.trans (a5.trans g10))) (cz (by omega));refine kG hC.base (gH hC M).1 (gH hC M).2 (by kernel_rfl) (by kernel_rfl) e0 ?_;refine⟨λ_=>⟨by omega,e1,e2.trans (d2.trans (b1.trans (a2.trans g1))),e3.trans (d3.trans (b2.trans (a3.trans g2))),e5,yn,s3.now,t3,rfl,e4.trans (d5 he),hBn,hOk.1.now,hT⟩,λq=>absurd rfl q⟩
  .rw[cv he]at hT|-;refine⟨λq=>(by cases q),λ_=>⟨λq=>(by cases q),λ_=> .inr ?_⟩⟩;subst hT;obtain⟨w1,w2,w3⟩:=d6 he;exact⟨rfl,d1,w1,w2,w3,rfl⟩
 .rw[cv him];refine⟨λq=>(by cases q),λ_=>⟨λq=>(by cases q),λ_=> .inl ?_⟩⟩;have iJ:i=m:=by omega
  subst iJ;rw[Zt (by rw[Xa];omega),oX]at hT;subst hT;exact⟨rfl,a1,rfl,y,a4.trans g9,hB⟩
section
attribute [local simp] ew eY
def j6(l:List Cp)(n:Int):gM × Int × Int:=if(fW l).2=0 then oX (l.take (n_ l.length n)) [] 0 else([],(fW l).1,(fW l).2)
def E9{C:Cx}{f:FuncId}{fi:Fi}(h1:I5 C.P f=some fi)(h3:∀fn,C.P.funcs[f]?=some fn->fn.name≠ "runtime.NumGoroutine"){xs:LA}(cP:xs.length<=fi.ntmps){r:AV}{m:Nat}(hb:HG C fi.body (xs++List.replicate (fi.ntmps-xs.length) .un,[]) (λo s=>(o= .normal\/o= .ret)/\∃r0 r1,pE fi s=some r0/\da s.2 m r0=some r1/\∀w X v,Ri w X v r1->Ri w X v r)):iG C f xs r:=by
 intro w X vs hX hG hl hv;have hs:=E_ hX hG id;obtain⟨fn,ae,af,ah,ai⟩:=xF h1;refine⟨⟨fn,ae,h3 fn ae,by simp[af]⟩,calls_of_wp ae af ?_⟩;have hrf:=Bm (w:=w) (X:=dZ X id []) (ρ:=id) (n:=0) (m:=fn.ntmps) (m':=fi.ntmps) (vs:=vs) (xs:=xs) hl ah.symm (λk x hk=> .im ((hv k x hk).yz λb(hb:dZ X id [] b)=>hb.elim (λh=>h) λh=>absurd h (nu id b)));refine hb X _ w id _ hs hrf ?_;rintro o s' a' w' ρ' ⟨ho,r0,r1,hr,jx,hwk⟩ he Dp hd;obtain⟨v,HV,Dx⟩:=kS he.uj Dp ai hr;have dO:Step w eK w' eK:=⟨he.step.os,he.step.tape,he.step.output,he.step.size,λb hb _=>he.step.keep b hb (nu id b),he.step.row,λ_ _ h=>h,he.step.drew⟩;have yJ:=hwk _ _ _ (ox he.uj m v r0 r1 Dx jx);rcases ho with rfl|rfl
 .exact⟨hd,v,HV,v,rfl,dO,yJ⟩
 .exact⟨hd,v,HV,v,rfl,dO,yJ⟩
def abS{w:World}{X:Nat->Prop}{v:Value}(h:Ri w X v (.sc (.slice none 0 0))):Ri w X v (.ls 2 [] true):=by
 have:=h.dQ.1;subst this;exact .le none 0 2 true (by unfold maxLen;omega) (λ_=>rfl)
def Tb{w:World}{X:Nat->Prop}{v:Value}{a a' b c:AV}(h:Ri w X v (.tp [a,b,c]))(ha:∀u,Ri w X u a->Ri w X u a'):Ri w X v (.tp [a',b,c]):=by
 cases h with
 |tp us xs h1 h2=>
  refine .tp us _ (by simpa using h1) λk x hk=>?_
  match k,hk with
  |0,hk=>simp at hk;subst hk;exact ha _ (h2 0 a rfl)
  |1,hk=>exact h2 1 x hk
  |2,hk=>exact h2 2 x hk
  |k+3,hk=>simp at hk
def uX(l:gM):AV:= .ls 2 (ib l) l.isEmpty
def Om{h:Hp}{l:gM}{y:AV}(n:Nat)(hy:iV h l y):∃y1,da h (n+2) y=some y1/\∀w X u,Ri w X u y1->Ri w X u (uX l):=by
 rcases hy with hy|⟨rfl,rfl⟩
 .refine⟨_,gf (n:=n+1) (by omega) (kf l).1 (kf l).2 hy,λw X u hu=>?_⟩;cases l with
  |nil=>exact abS hu
  |cons a l=>exact hu
 .exact⟨_,iE rfl,λw X u hu=>hu⟩
def aiE(M:Nat)(cq:List LA)(n:Int)(fr:LA)(cp:fr.length=60)(g0:gt fr 0= .ag [.ls 21 cq false])(g1:gt fr 1=n):
 ∃cG,M (cL (cT 0 wR)) (fr,[])=some (.normal,(cG,[qB cq false]))/\cG.length=60/\gt cG 1=n/\gt cG 2= .pt 0 0:=by
 simp[wR,cT,cL,f22,cp,g0,g1]
def aiF(M:Nat)(cq:List LA)(n a e:Int)(fr:LA)(cp:fr.length=60)(g1:gt fr 1=n)(g2:gt fr 2= .pt 0 0)(ae:∀b h,cu cx M b 50 [.ag [.ls 21 cq false]] h=some (.tp [a,e],h)):
 ∃cG,M (cL (cT 1 wR)) (fr,[qB cq false])=some (if e=0 then .normal else .ret,(cG,[qB cq false]))/\cG.length=60/\gt cG 1=n/\gt cG 2= .pt 0 0/\(e≠0->gt cG 4=()/\gt cG 5=a/\gt cG 6=e):=by
 by_cases c:e=0
 .subst c;simp[wR,cT,cR,cL,f22,cp,g1,g2,ae]
 .simp[wR,cT,cR,cL,f22,cp,g1,g2,ae,c]
def aiG(M:Nat)(cq:List LA)(n:Int)(fr:LA)(cp:fr.length=60)(g1:gt fr 1=n)(g2:gt fr 2= .pt 0 0):
 ∃cG,M (cL (cT 2 wR)) (fr,[qB cq false])=some (.normal,(cG,[qB cq false]))/\cG.length=60/\gt cG 1= .sc (.int .i64 (min n cq.length))/\gt cG 2= .pt 0 0:=by
 by_cases c:(cq.length:Int)<n
 .rw[show min n (cq.length:Int)=cq.length by omega];simp[wR,cT,cR,cL,f22,cp,g1,g2,c]
 .rw[show min n (cq.length:Int)=n by omega];simp[wR,cT,cR,cL,f22,cp,g1,g2,c]
def aiH(M:Nat)(h:Hp)(fr:LA)(cp:fr.length=60):
 ∃cG,M (cL (cT 3 wR)) (fr,h)=some (.normal,(cG,h))/\cG.length=60/\gt cG 1=gt fr 1/\gt cG 2=gt fr 2/\gt cG 9=():=by
 simp[wR,cT,cR,cL,f22,cp]
def aiI(M:Nat)(h:Hp)(fr:LA)(cp:fr.length=60):
 ∃cG,M (cL (cL (cT 4 wR))) (fr,h)=some (.normal,(cG,h))/\cG.length=60/\gt cG 1=gt fr 1/\gt cG 2=gt fr 2/\gt cG 9=gt fr 9/\gt cG 10=(0:Int):=by
 simp[wR,cT,cR,cL,f22,cp]
def aiJ(M:Nat)(h:Hp)(y:AV)(fr:LA)(cp:fr.length=60)(g9:gt fr 9=y)(xw:∀v,y≠ .pn v):
 ∃cG,M (cT 5 wR) (fr,h)=some (.ret,(cG,h))/\cG.length=60/\gt cG 4=y/\gt cG 5=(0:Int)/\gt cG 6=(0:Int):=by
 have q1:=akN xw
 simp[wR,cT,cR,f22,cp,g9,q1]
end
def cQ(l:List Pr)(p:Pr):List Pr:=l.takeWhile (λx=>decide (dx x p<0))++p::(l.dropWhile (λx=>decide (dx x p<0))).filter (λx=> !decide (dx x p=0))
def lU(l:List Pr)(p:Pr):(cQ l p).length<=l.length+1:=by
 unfold cQ;rw[Zu,Ys];have h1:=List.length_filter_le (λx=> !decide (dx x p=0)) (l.dropWhile λx=>decide (dx x p<0));have h2:(l.takeWhile λx=>decide (dx x p<0)).length+(l.dropWhile λx=>decide (dx x p<0)).length=l.length:=by rw[<-Zu,Xv]
 omega
def Tc(l:List Pr)(p x:Pr):x∈cQ l p->x=p\/x∈l:=by
 unfold cQ;rw[Zz,Yv,List.mem_filter];rintro(h|h|h)
 .exact .inr ((List.takeWhile_sublist _).subset h)
 .exact .inl h
 .exact .inr ((List.dropWhile_sublist _).subset h.1)
def On(l:List Pr)(p x:Pr)(hx:x∈l):x∈cQ l p\/dx x p=0:=by
 rw[<-Xv (p:=λx=>decide (dx x p<0)) (l:=l),Zz]at hx;unfold cQ;rw[Zz,Yv,List.mem_filter];rcases hx with h|h
 .exact .inl (.inl h)
 .by_cases e:dx x p=0
  .exact .inr e
  .exact .inl (.inr (.inr ⟨h,by simp[e]⟩))
def Dy(l:List Pr)(p:Pr):p∈cQ l p:=by
 unfold cQ;rw[Zz,Yv];exact .inr (.inl rfl)
def jS(a b:Pr):dx a b= -(dx b a):=pM.neg a b trivial trivial
def qQ{a b c:Pr}(h1:dx a b<=0)(h2:dx b c<0):dx a c<0:=by
 rcases pM.zeros (a:=a) (b:=b) (c:=c) trivial trivial trivial h1 (by omega)with h|⟨_,_,h⟩
 .exact h
 .omega
def kC(l:List Pr):Prop:=l.Pairwise λa b=>dx a b<0
def Mh(p:Pr):∀(l:List Pr),kC l->∀b∈l.dropWhile (λx=>decide (dx x p<0)),¬dx b p<0
 | [],_,b,hb=>by simp at hb
 |
  a::l,h,b,hb=>by
  unfold kC at h;rw[List.pairwise_cons]at h;rw[List.dropWhile_cons]at hb;by_cases c:dx a p<0
  .rw[cw (by simpa using c)]at hb;exact Mh p l h.2 b hb
  .rw[cv (by simpa using c)]at hb;rcases Yv.1 hb with rfl|hb
   .exact c
   .have h1:=h.1 b hb;have h2:dx p a<=0:=by have:=jS p a;omega
    have h3:=qQ h2 h1;have:=jS b p;omega
def Mi(p:Pr):∀(l:List Pr),∀b∈l.takeWhile (λx=>decide (dx x p<0)),dx b p<0
 | [],b,hb=>by simp at hb
 |
  a::l,b,hb=>by
  rw[List.takeWhile_cons]at hb;by_cases c:dx a p<0
  .rw[cw (by simpa using c)]at hb;rcases Yv.1 hb with rfl|hb
   .exact c
   .exact Mi p l b hb
  .rw[cv (by simpa using c)]at hb;simp at hb
def Td{l:List Pr}(p:Pr)(h:kC l):kC (cQ l p):=by
 have hd:=Mh p l h;have ht:=Mi p l;have hh:kC (l.takeWhile (λx=>decide (dx x p<0))++l.dropWhile (λx=>decide (dx x p<0))):=by rw[Xv];exact h
 unfold kC at hh;rw[List.pairwise_append]at hh;obtain⟨h1,h2,h3⟩:=hh;unfold cQ kC;rw[List.pairwise_append,List.pairwise_cons];refine⟨h1,⟨λb hb=>?_,h2.sublist List.filter_sublist⟩,λa ha b hb=>?_⟩
 .rw[List.mem_filter]at hb;have e1:=hd b hb.1;have e2:dx b p≠0:=by simpa using hb.2
  have:=jS p b;omega
 .rcases Yv.1 hb with rfl|hb
  .exact ht a ha
  .exact h3 a ha b (List.mem_filter.1 hb).1
def ug :List Pr->List Pr->Bool
 | [],[]=>true
 |x::a,y::b=>decide (dx x y=0) && ug a b
 |_,_=>false
def wy{a b c:Pr}(h1:dx a b<=0)(h2:dx b c<=0):dx a c<=0:=pM.tr a b c trivial trivial trivial h1 h2
def HW :∀(a b:List Pr),kC a->kC b->(∀x∈a,∃y∈b,dx x y=0)->(∀y∈b,∃x∈a,dx x y=0)->ug a b=true
 | [],[],_,_,_,_=>rfl
 | [],y::b,_,_,_,h=>by obtain⟨x,hx,_⟩:=h y (by simp);simp at hx
 |x::a,[],_,_,h,_=>by obtain⟨y,hy,_⟩:=h x (by simp);simp at hy
 |
  x::a,y::b,ha,hb,h1,h2=>by
  unfold kC at ha hb;rw[List.pairwise_cons]at ha hb;have hxy:dx x y=0:=by
   obtain⟨y1,IW,e1⟩:=h1 x (by simp);obtain⟨x1,ZS,e2⟩:=h2 y (by simp);rcases Yv.1 IW with rfl|IW
   .exact e1
   rcases Yv.1 ZS with rfl|ZS
   .exact e2
   have l1:=hb.1 y1 IW;have l2:=ha.1 x1 ZS;have a1:=qQ (show dx x1 y<=0 by omega) l1;have a3:=jS x y1;have a4:=qQ (show dx y1 x<=0 by have:=jS y1 x;omega) l2;have a5:=jS y1 x1;omega
  have r1:∀x2∈a,∃y2∈b,dx x2 y2=0:=λx2 hx2=>by
   obtain⟨y2,xW,e⟩:=h1 x2 (Yr _ hx2);rcases Yv.1 xW with rfl|xW
   .have l:=ha.1 x2 hx2;have t:=wy (show dx x2 y2<=0 by omega) (show dx y2 x<=0 by have:=jS y2 x;omega);have:=jS x2 x;omega
   .exact⟨y2,xW,e⟩
  have r2:∀y2∈b,∃x2∈a,dx x2 y2=0:=λy2 xW=>by
   obtain⟨x2,hx2,e⟩:=h2 y2 (Yr _ xW);rcases Yv.1 hx2 with rfl|hx2
   .have l:=hb.1 y2 xW;have t:=wy (show dx y2 x2<=0 by have:=jS y2 x2;omega) (show dx x2 y<=0 by omega);have:=jS y2 y;omega
   .exact⟨x2,hx2,e⟩
  rw[ug,hxy,HW a b ha.2 hb.2 r1 r2];rfl
end Go.Proofs.YtmocfjnklfpnbaaGreatDoor
