/- Part of the proof. -/
import Derived.Test.YtmocfjnklfpnbaaGreatDoorP27
set_option linter.all false
set_option maxHeartbeats 32000000
set_option maxRecDepth 100000
namespace Go.Proofs.YtmocfjnklfpnbaaGreatDoor
open Go Go.Ae Go.Proofs.Tryz
section
attribute [local simp] ew eY
def N8(D d n:Nat)(b:Bool)(l:List Cp)(h:Hp)(hb:∀c∈l,Cg D d c)(hx:∀c∈l,∀p∈c.paths,yO p)(hn:2*D+3*d+40<=n):cu cx n b 50 [.ag (gL l)] h=some (.tp [.sc (.int .i64 (fW l).1),.sc (.int .i64 (fW l).2)],h):=by
 obtain⟨M,rfl⟩:∃M,n=M+1:=⟨n-1,by omega⟩;refine tA (xs:=[.sc (.int .i64 (fW l).1),.sc (.int .i64 (fW l).2)]) f50 [.tmp 2,.tmp 3] rfl rfl ?_ b h;have ae:∀c∈l,∀b h,cu cx M b 97 [.ag (cA c)] h=some (.sc (.int .i64 (iq c)),h):=λc hc b h=>by rw[<-Kc];exact yP D d M b c h (hb c hc) (hx c hc) (by omega)
 clear hb hn hx;unfold fW gL;have hq:=jj l;have hg:=oQ l;generalize m_ l=cq at hq hg;by_cases c0:l.length=0
 .rw[cw c0];simp[f50,hq,c0]
 rw[cv c0];by_cases c12:12<l.length
 .rw[cw c12];have JJ:(12:Int)< (l.length:Int):=by omega
  simp[f50,hq,c0,JJ]
 rw[cv c12];have JJ:¬(12:Int)< (l.length:Int):=by omega
 generalize hT:pO l.length l 0=T;obtain⟨q,hqv⟩:∃q:Int,q=((l.length-1:Nat):Int):=⟨_,rfl⟩;have du:∀i:Nat,i<l.length->((i:Int)<q↔¬i+1=l.length)/\((i:Int)=q↔i+1=l.length):=λi hi=>by omega
 have wN:dA .i64 ((l.length:Int)-1)=q:=by
  rw[hqv,cK (by omega) (by omega)];omega
 clear hqv;simp[f50,hq,c0,JJ];generalize cU:M (.loop _) _=XX;refine gk cU
  (λi s cD=>s.length=54/\gt s 1= .pt 0 0/\cD[0]?=some (.row [.ls 21 cq false])/\gt s 4=l.length/\gt s 5=i/\pO l.length (l.drop i) i=T)
  (λo s _=>s.length=54/\((o= .exit 0/\T=(0,0))\/(o= .ret/\gt s 2=T.1/\gt s 3=T.2)))
  l.length (by simp;clear wN;omega) ⟨rfl,rfl,rfl,rfl,rfl,hT⟩ ?_ ?_
 .clear cU XX hT;rintro i fr hp cP ⟨cp,h1,hh,h4,h5,hT⟩;rcases dY hg cP with⟨x,hi,hx,hr,cC⟩|rfl
  .have dB:=Zi hx;have du:=du i hi;have fc:=ae x dB;rw[Aw hx]at hT;obtain⟨tl,he,M_⟩:=qE x;rw[he]at hr fc;simp only[he]at cC;have dH:(AV.sc (.int .i64 x.kind)::tl).length=21:=by simp[M_]
   have r9:(AV.sc (.int .i64 x.kind)::tl).take 21=AV.sc (.int .i64 x.kind)::tl:=Yy (by rw[dH];exact Yq _);have jT:=Q8 dH;have ag1:tl.take 20=tl:=Yy (by rw[M_];exact Yq _);have hp0:0<hp.length:=(Za.1 hh).1;have V4:∀b:eV,(hp++[b])[0]?=some (.row [.ls 21 cq false]):=λb=>by rw[Zd hp0];exact hh
   have Au:∀(b:eV)k,(hp++[b])[0]'k= .row [.ls 21 cq false]:=λb k=>by obtain⟨_,e⟩:=Za.1 (V4 b);exact e
   unfold Lq at hT;generalize iq x=c at fc hT;generalize x.kind=kd at *;by_cases hc:c=0
   .subst hc;rw[cw rfl]at hT;by_cases c3:i+1=l.length
    .have GD:=(du.2.2 c3).symm;have abJ:¬(i:Int)<q:=λe=>du.1.1 e c3
     rw[decide_eq_true c3]at hT;clear du;by_cases c4:kd<=3
     .rw[decide_eq_true c4]at hT;subst hT;simp[cp,h1,hh,h4,h5,hi,hq,cC,fc,jT,dH,r9,wN,GD,c4]
     .rw[decide_eq_false c4]at hT;have hf:dA .i64 ((i:Int)+1)=((i+1:Nat):Int):=cK (by clear wN;omega) (by clear wN;omega);simp[cp,h1,hh,h4,h5,hi,hq,cC,fc,jT,dH,r9,Au,wN,GD,c4,hf];exact hT
    .have GD:¬(i:Int)=q:=λe=>c3 (du.2.1 e)
     have abJ:(i:Int)<q:=du.1.2 c3;rw[decide_eq_false c3]at hT;clear du;by_cases c4:kd=4
     .rw[decide_eq_true c4]at hT;subst c4;subst hT;simp[cp,h1,hh,h4,h5,hi,hq,cC,fc,jT,dH,r9,wN,abJ]
     .rw[decide_eq_false c4]at hT;have hf:dA .i64 ((i:Int)+1)=((i+1:Nat):Int):=cK (by clear wN;omega) (by clear wN;omega);simp[cp,h1,hh,h4,h5,hi,hq,cC,fc,jT,dH,r9,Au,wN,GD,abJ,c4,hf];exact hT
   .rw[cv hc]at hT;subst hT;simp[cp,h1,hh,h4,h5,hi,hq,cC,fc,jT,dH,r9,hc]
  .rw[Yc,pO]at hT;subst hT;simp[cp,h4,h5]
 .rintro o cG h' rfl ⟨cp,⟨rfl,rfl⟩|⟨rfl,g2,g3⟩⟩
  .simp[cp]
  .simp[g2,g3]
def xr(n:Nat)(b:Bool)(l:gM)(z:Bool)(s:ByteArray)(h:Hp)(hl:l.length<=10^9):cu cx (n+1) b 100 [.ls 2 (ib l) z,s] h=some (.sc (.int .i64 (db l s)),h):=by
 refine fU f100 [.tmp 4] rfl rfl ?_ b h;have hq:=fl l;have hg:∀i:Nat,(ib l)[i]?=(l[i]?).map Pw:=λi=>by simp[ib]
 generalize ib l=cq at hq hg;generalize hT:db l s=T;simp[f100];generalize cU:n (.loop _) _=XX;refine gk cU (λi st _=>db (l.drop i) s=T/\st.length=24/\gt st 0= .ls 2 cq z/\gt st 1=s/\gt st 5=i)
  (λo st _=>st.length=24/\((o= .exit 0/\T=0)\/(o= .ret/\gt st 4=T))) l.length (by simp;omega) ⟨hT,by simp⟩ ?_ ?_
 .clear cU XX hT;rintro i fr hp cP ⟨hT,cp,h0,h1,h5⟩;rcases dY hg cP with⟨x,hi,hx,hr,cC⟩|rfl
  .have fH:i<=10^15:=by omega
   rw[xe s hx]at hT;unfold Pw at hr cC;have hf:=cz fH;cases hw:dn x.1 s
   .rw[hw,cv (by simp)]at hT;simp[cp,h0,h1,h5,hi,hq,cC,hw,hf];exact hT
   .rw[hw,cw rfl]at hT;subst hT;simp[cp,h0,h1,h5,hi,hq,cC,hw]
  .rw[Yc,db]at hT;subst hT;simp[cp,h0,h5,hq]
 .rintro o cG h' rfl ⟨cp,⟨rfl,rfl⟩|⟨rfl,h4⟩⟩
  .simp[cp]
  .simp[h4]
def N9(n:Nat)(b:Bool)(s:ByteArray)(h:Hp):cu cx (n+1) b 100 [(),s] h=some (.sc (.int .i64 0),h):=by
 refine fU f100 [.tmp 4] rfl rfl ?_ b h;simp[f100];generalize cU:n (.loop _) _=XX;refine gk cU (λi st _=>st.length=24/\gt st 0=()/\gt st 5=(0:Int)) (λo st _=>o= .exit 0/\st.length=24) 0 (by simp) ⟨by simp,by simp⟩ ?_ ?_
 .rintro i fr hp cP ⟨cp,h0,h5⟩;simp[cp,h0,h5]
 .rintro o cG h' rfl ⟨rfl,cp⟩;simp[cp]
def iV(h:Hp)(l:gM)(y:AV):Prop:=ka h 2 (ib l) y\/(l=[]/\y= .ls 2 [] true)
def og(n:Nat)(b:Bool)(l:gM)(y:AV)(s:ByteArray)(h:Hp)(hy:iV h l y)(hl:l.length<=10^6):cu cx (n+1) b 100 [y,s] h=some (.sc (.int .i64 (db l s)),h):=by
 have h1:cu cx (n+1) b 100 [eH 2 (ib l),s] h=some (.sc (.int .i64 (db l s)),h):=by
  cases l with
  |nil=>exact N9 n b s h
  |cons a l=>exact xr n b (a::l) false s h (by omega)
 rcases hy with hy|⟨rfl,rfl⟩
 .exact sV (n:=n) (ys:=[eH 2 (ib l),.sc (.string s)]) rfl (by kernel_rfl) (by rw[Zo,gf (n:=7) (by omega) (kf l).1 (kf l).2 hy,Zo];rfl) (by rw[Zn,mc];rfl) rfl h1
 .exact xr n b [] true s h (by simp)
def ku(l:List ByteArray)(s:ByteArray):List ByteArray:=l.takeWhile (λx=>nO x s)++s::(l.dropWhile (λx=>nO x s)).filter (λx=> !dn x s)
def A7(l:List ByteArray)(s x:ByteArray):x∈ku l s↔x=s\/x∈l:=by
 unfold ku;rw[Zz,Yv,List.mem_filter];have h0:x∈l↔x∈l.takeWhile (λx=>nO x s)\/x∈l.dropWhile (λx=>nO x s):=by
  rw[<-Zz,Xv]
 rw[h0];constructor
 .rintro(h|h|h)
  .exact .inr (.inl h)
  .exact .inl h
  .exact .inr (.inr h.1)
 .rintro(h|h|h)
  .exact .inr (.inl h)
  .exact .inl h
  .by_cases e:x=s
   .exact .inr (.inl e)
   .refine .inr (.inr ⟨h,?_⟩);cases q:dn x s with
    |false=>rfl
    |true=>exact absurd ((ng x s).1 q) e
@[simp] def akD :cx.T 133=some {size:=4,agg:=true,zero:=[.slice none 0 0,.slice none 0 0,.int .i64 0,.int .i64 0],kd:= .struct [(0,1,false),(1,1,false),(2,1,false),(3,1,false)]}:=by kernel_rfl
structure cO where
 old:gM
 now:gM
 kd:Int
 e:Int
def cO.fail(s:cO)(e:Int):cO:={s with e:=cS s.e e}
def cO.push(s:cO)(nm:ByteArray)(k:Int):cO:=if s.e=0 then{s with now:=s.now++[(nm,k)]}else s
def cO.intro(s:cO)(nm:ByteArray)(k:Int):cO:=(if 24<=s.now.length then s.fail 4 else s).push nm k
def A8(id:Nat)(y:AV):Prop:=∀k m,y= .sl k 2 0 m false->k≠id
def iV.grow{h:Hp}{l:gM}{y:AV}(k:Hp)(hB:iV h l y):iV (h++k) l y:=hB.imp (λq=>q.grow k) id
def iV.keep{h h':Hp}{id:Nat}{l:gM}{y:AV}(hb:iV h l y)(hk:dm id h h')(hy:A8 id y):iV h' l y:=hb.imp (λq=>q.keep hk hy) λq=>q
def iV.np{h:Hp}{l:gM}{y:AV}(hb:iV h l y)(v:Value):y≠ .pn v:=by
 rcases hb with hb|⟨_,rfl⟩
 .exact hb.np v
 .simp
def KN(N:Nat->Prop)(h h':Hp):Prop:=∀(j:Nat)(b:eV),N j->h[j]?=some b->h'[j]?=some b
def KN.trans{N:Nat->Prop}{a b c:Hp}(h1:KN N a b)(h2:KN N b c):KN N a c:=λj x hj hx=>h2 j x hj (h1 j x hj hx)
def KN.refl(N:Nat->Prop)(h:Hp):KN N h h:=λ_ _ _ hx=>hx
def KN.app(N:Nat->Prop)(h k:Hp):KN N h (h++k):=λ_ _ _ hx=>cJ k hx
def KN.less{N N':Nat->Prop}{h h':Hp}(hk:KN N h h')(hN:∀j,N' j->N j):KN N' h h':=λj b hj hb=>hk j b (hN j hj) hb
def iV.kn{N:Nat->Prop}{h h':Hp}{l:gM}{y:AV}(hb:iV h l y)(hk:KN N h h')(hy:∀k m,y= .sl k 2 0 m false->N k):iV h' l y:=by
 rcases hb with(⟨h0,rfl⟩|⟨gE,j,rfl,hj⟩)|hb
 .exact .inl (.inl ⟨h0,rfl⟩)
 .exact .inl (.inr ⟨gE,j,rfl,hk j _ (hy j _ rfl) hj⟩)
 .exact .inr hb
def ga(N:Nat->Prop)(id:Nat)(yo:AV)(s:cO)(h:Hp):Prop:=∃yn,h[id]?=some (.row [yo,yn,s.kd,s.e])/\¬N id/\(∀j,N j->j<h.length)/\(iV h s.old yo/\∀k m,yo= .sl k 2 0 m false->N k)/\iV h s.now yn/\∀k m,yn= .sl k 2 0 m false->k≠id/\¬N k
def ga.lt{N:Nat->Prop}{id:Nat}{yo:AV}{s:cO}{h:Hp}(hS:ga N id yo s h):id<h.length:=by
 obtain⟨yn,h0,_⟩:=hS;exact(Za.1 h0).1
def ga.app{N:Nat->Prop}{id:Nat}{yo:AV}{s:cO}{h:Hp}(k:Hp)(hS:ga N id yo s h):ga N id yo s (h++k):=by
 obtain⟨yn,h0,hN,hl,⟨ho,lV⟩,hn,rz⟩:=hS;exact⟨yn,cJ k h0,hN,λj hj=>by have:=hl j hj;rw[Zu];omega,⟨ho.grow k,lV⟩,hn.grow k,rz⟩
def ga.more{N:Nat->Prop}{id:Nat}{yo:AV}{s:cO}{h:Hp}(b:eV)(hS:ga N id yo s h):ga (λj=>N j\/j=h.length) id yo s (h++[b]):=by
 have ej:=hS.lt;obtain⟨yn,h0,hN,hl,⟨ho,lV⟩,hn,rz⟩:=hS;refine⟨yn,cJ _ h0,λq=>q.elim hN (by omega),λj hj=>?_,⟨ho.grow _,λk m e=> .inl (lV k m e)⟩,hn.grow _,λk m e=>⟨(rz k m e).1,λq=>q.elim (rz k m e).2 λq=>?_⟩⟩
 .rw[Zu,List.length_singleton];rcases hj with hj|rfl
  .have:=hl j hj;omega
  .omega
 .subst e;subst q;rcases hn with(⟨_,e⟩|⟨_,j,e,hj⟩)|⟨_,e⟩
  .cases e
  .injection e with e
   subst e;rw[Xc (Yq _)]at hj;cases hj
  .cases e
def ga.less{N N':Nat->Prop}{id:Nat}{yo:AV}{s:cO}{h:Hp}(hS:ga N id yo s h)(Xy:∀j,N' j->N j)(hy:∀k m,yo= .sl k 2 0 m false->N' k):ga N' id yo s h:=by
 obtain⟨yn,h0,hN,hl,⟨ho,lV⟩,hn,rz⟩:=hS;exact⟨yn,h0,λq=>hN (Xy _ q),λj hj=>hl j (Xy j hj),⟨ho,hy⟩,hn,λk m e=>⟨(rz k m e).1,λq=>(rz k m e).2 (Xy _ q)⟩⟩
def KN.jg{N:Nat->Prop}{id:Nat}{h h':Hp}(hk:dm id h h')(hN:¬N id):KN N h h':=λj b hj hb=>hk j b hb λe=>hN (e▸hj)
def lS(N:Nat->Prop)(n:Nat)(t:Bool)(id:Nat)(yo:AV)(s:cO)(e:Int)(h:Hp)(hS:ga N id yo s h):∃h',cu cx (n+1) t 101 [.pt id 0,e] h=some (.tp [],h')/\ga N id yo (s.fail e) h'/\dm id h h':=by
 obtain⟨yn,h0,hN,hl,⟨ho,lV⟩,hn,rz⟩:=hS;refine⟨h.set id (.row [yo,yn,s.kd,.sc (.int .i64 (cS s.e e))]),?_,⟨yn,dC h0,hN,λj hj=>by rw[List.length_set];exact hl j hj,⟨ho.keep (dm.set _ _ _) (λk m e q=>hN (q▸lV k m e)),lV⟩,hn.keep (dm.set _ _ _) (λk m e=>(rz k m e).1),rz⟩,dm.set _ _ _⟩;rw[rr (n:=n) f101 []];unfold cS;generalize s.e=e0 at h0|-;by_cases c:e0=0
 .subst c;simp[f101,h0,cF,h_]
 .rw[cv c,r8 h0];simp[f101,h0,c,h_]
def HF(h:Hp)(nm:ByteArray)(k:Int)(l:gM)(y:AV)(hy:iV h l y)(hl:l.length<=10^6):
 ∃id h',fg cx (h++[.row [nm,k]]) 83 y (.sl h.length 2 0 1 false)=some (.sl id 2 0 (l.length+1) false,h')/\h'[id]?=some (.row (ib (l++[(nm,k)])).flatten)/\
  (∀j b,h[j]?=some b->(∀k n,y= .sl k 2 0 n false->j≠k)->h'[j]?=some b)/\h.length<=id:=by
 rcases hy with hy|⟨rfl,rfl⟩
 .obtain⟨id,h',a,b,c,d⟩:=iy (t:=83) Ek rfl h [nm,.sc (.int .i64 k)] (ib l) y hy rfl (kf l).1 (by omega) (by rw[fl];omega) (by omega);rw[fl]at a;rw[<-AE]at b;exact⟨id,h',a,b,c,d⟩
 .refine⟨h.length+1,h++[.row [nm,.sc (.int .i64 k)],.row [nm,.sc (.int .i64 k)]],?_,?_,λj b hj _=>cJ _ hj,by omega⟩
  .have hr:gu (h++[eV.row [AV.sc (.string nm),.sc (.int .i64 k)]]) h.length=some [.sc (.string nm),.sc (.int .i64 k)]:=by simp[gu]
   unfold fg;rw[Ek];simp only[kM,gV,hr];simp[maxLen]
  .rw[Zf (by omega)];simp[ib,Pw]
noncomputable def sE :Code:=(f102.body).getD .skip
def Sz(N:Nat->Prop)(n:Nat)(id:Nat)(yo:AV)(nm:ByteArray)(k:Int)(s:cO)(h:Hp)(fr:LA)(hS:ga N id yo s h)(hl:s.now.length<=10^6)(cp:fr.length=31)(tU:gt fr 0= .pt id 0)(h1':gt fr 1=nm)(Jc:gt fr 2=k):
 ∃cG h',n (cT 1 sE) (fr,h)=some (.normal,(cG,h'))/\ga N id yo (s.push nm k) h'/\KN N h h':=by
 have ej:=hS.lt;obtain⟨yn,h0,hN,hb,⟨ho,lV⟩,hn,rz⟩:=hS;unfold cO.push;by_cases c:s.e=0
 .rw[cw c];obtain⟨lB,h',ah,ai,ak,aj⟩:=HF h nm k s.now yn hn hl;have g0:h'[id]?=some (.row [yo,yn,s.kd,s.e]):=ak id _ h0 λk m e=>λq=>(rz k m e).1 q.symm
  have hq:=fl (s.now++[(nm,k)]);have hKN:KN N h (h'.set id (.row [yo,.sl lB 2 0 (s.now.length+1) false,s.kd,s.e])):=λj b hj hbj=>d_ (ak j b hbj λk m e q=>(rz k m e).2 (q▸hj)) λe=>hN (e▸hj)
  have hy:=λv=>hn.np v
  have hx:∃cG,n (cT 1 sE) (fr,h)=some (.normal,(cG,h'.set id (.row [yo,.sl lB 2 0 (s.now.length+1) false,s.kd,s.e]))):=by
   have q3:=akN hy
   clear hKN ai ak aj hn rz ho lV hb;generalize s.e=e0,s.now.length+1=q at *;subst c;simp[sE,cT,cR,f102,cp,tU,h1',Jc,h0,q3,ah,g0,cF]
  obtain⟨cG,hx⟩:=hx;refine⟨cG,_,hx,⟨.sl lB 2 0 (s.now.length+1) false,dC g0,hN,λj hj=>?_,⟨ho.kn hKN lV,lV⟩,.inl (.inr ⟨?_,lB,?_,d_ ai (by omega)⟩),λk m e=>?_⟩,hKN⟩
  .obtain⟨b,hbj⟩:∃b,h[j]?=some b:=⟨_,Zb (hb j hj)⟩;exact(Za.1 (hKN j b hj hbj)).1
  .intro e;rw[e]at hq;simp at hq
  .rw[hq];simp
  .injection e with e
   subst e;exact⟨by omega,λq=>by have:=hb _ q;omega⟩
 .rw[cv c];have hx:∃cG,n (cT 1 sE) (fr,h)=some (.normal,(cG,h)):=by
   clear hn rz ho lV hb;generalize s.e=e0 at *;simp[sE,cT,cR,f102,cp,tU,h0,c]
  obtain⟨cG,hx⟩:=hx;exact⟨cG,h,hx,⟨yn,h0,hN,hb,⟨ho,lV⟩,hn,rz⟩,KN.refl N h⟩
def ti(N:Nat->Prop)(n:Nat)(t:Bool)(id:Nat)(yo:AV)(s:cO)(nm:ByteArray)(k:Int)(h:Hp)(hS:ga N id yo s h)(hl:s.now.length<=10^6):∃h',cu cx (n+2) t 102 [.pt id 0,nm,k] h=some (.tp [],h')/\ga N id yo (s.intro nm k) h'/\KN N h h':=by
 rw[rr (n:=n+1) f102 []];change∃h',dT [] (dd cx (cu cx (n+1)) sE ([.pt id 0,.sc (.string nm),.sc (.int .i64 k)]++List.replicate 28 .un,h))=some (.tp [],h')/\ga N id yo (s.intro nm k) h'/\KN N h h';rw[show sE= .seq (cL (cT 0 sE)) (cT 1 sE) by kernel_rfl];have Rm:=hS;obtain⟨yn,h0,hN,hb,⟨ho,lV⟩,hn,rz⟩:=Rm;have hy:=λv=>hn.np v
 have q3:=akN hy
 have hsh:(s.now.length=0/\(yn=()\/yn= .ls 2 [] true))\/∃j,yn= .sl j 2 0 s.now.length false:=by
  rcases hn with(⟨e,rfl⟩|⟨_,j,rfl,_⟩)|⟨e,rfl⟩
  .have:=congrArg List.length e;rw[fl]at this;exact .inl ⟨by simpa using this,.inl rfl⟩
  .rw[fl];exact .inr ⟨j,rfl⟩
  .rw[e];exact .inl ⟨rfl,.inr rfl⟩
 have key:=λ(s:cO)(h:Hp)(fr:LA)=>Sz N (n+1) id yo nm k s h fr
 unfold cO.intro;by_cases c:24<=s.now.length
 .rw[cw c];have c':(24:Int)<=(s.now.length:Int):=by omega
  obtain⟨h1,ae,gm,f_⟩:=lS N n true id yo s 4 h hS;have ad7:=KN.jg f_ hN;have k1:=λfr=>key (s.fail 4) h1 fr gm hl
  generalize cT 1 sE=Z at k1|-;have hx:∃cG,dd cx (cu cx (n+1)) (.seq (cL (cT 0 sE)) Z) ([.pt id 0,.sc (.string nm),.sc (.int .i64 k)]++List.replicate 28 .un,h)=dd cx (cu cx (n+1)) Z (cG,h1)/\cG.length=31/\gt cG 0= .pt id 0/\gt cG 1=nm/\gt cG 2=k:=by
   clear k1 key hS gm f_ ad7 hn rz ho lV hb q3;generalize s.now.length=q,s.e=e0 at *;rcases hsh with⟨hq,_⟩|⟨j,rfl⟩
   .omega
   .simp[sE,cT,cL,f102,h0,c',ae];exact⟨_,rfl,rfl,rfl,rfl,rfl⟩
  obtain⟨cG,hx,a1,a2,a3,a4⟩:=hx;obtain⟨Lm,h2,b1,b2,b3⟩:=k1 cG a1 a2 a3 a4;exact⟨h2,by rw[hx,b1];rfl,b2,ad7.trans b3⟩
 .rw[cv c];have c':¬(24:Int)<=(s.now.length:Int):=by omega
  have k1:=λfr=>key s h fr hS hl
  generalize cT 1 sE=Z at k1|-;have hx:∃cG,dd cx (cu cx (n+1)) (.seq (cL (cT 0 sE)) Z) ([.pt id 0,.sc (.string nm),.sc (.int .i64 k)]++List.replicate 28 .un,h)=dd cx (cu cx (n+1)) Z (cG,h)/\cG.length=31/\gt cG 0= .pt id 0/\gt cG 1=nm/\gt cG 2=k:=by
   clear k1 key hS hn rz ho lV hb q3;generalize s.now.length=q,s.e=e0 at *;rcases hsh with⟨hq,rfl|rfl⟩|⟨j,rfl⟩
   .simp[sE,cT,cL,f102,h0];exact⟨_,rfl,rfl,rfl,rfl,rfl⟩
   .simp[sE,cT,cL,f102,h0];exact⟨_,rfl,rfl,rfl,rfl,rfl⟩
   .simp[sE,cT,cL,f102,h0,c'];exact⟨_,rfl,rfl,rfl,rfl,rfl⟩
  obtain⟨cG,hx,a1,a2,a3,a4⟩:=hx;obtain⟨Lm,h2,b1,b2,b3⟩:=k1 cG a1 a2 a3 a4;exact⟨h2,by rw[hx,b1];rfl,b2,b3⟩
end
end Go.Proofs.YtmocfjnklfpnbaaGreatDoor
namespace Go.Ae
open Go
def HG(C:Cx)(c:Code)(s:St)(P:Out->St->Prop):Prop:=
 ∀(X:Nat->Prop)(a:Act)(w:World)(ρ:Nat->Nat)(Q:Exit->Act->World->Prop),ia C.G w X ρ s.2->RF w (dZ X ρ s.2) ρ s.2.length a.tmps s.1->
  (∀(out:Out)(s':St)(a':Act)(w':World)(ρ':Nat->Nat),P out s'->Ext C.G w X ρ s.2 w' ρ' s'.2->RF w' (dZ X ρ' s'.2) ρ' s'.2.length a'.tmps s'.1->a'.defers=a.defers->Q (uT out) a' w')->c.wp C.P Q a w
variable {C : Cx}
def HH{c:Code}{s:St}{P P':Out->St->Prop}(h:HG C c s P)(hP:∀o s',P o s'->P' o s'):HG C c s P':=
 λX a w ρ Q hs hf hQ=>h X a w ρ Q hs hf λo s' a' w' ρ' hp=>hQ o s' a' w' ρ' (hP o s' hp)
def SA{call:Bool->FuncId->List AV->Hp->Option (AV × Hp)}(hC:Cq C)(cW:∀b,jm C (call b))(gh:∀g xs h r h',C.inl g=false->call false g xs h=some (r,h')->h'=h){c:Code}(jB:codeOk C c=true){s s':St}{o:Out}(he:exec C call c s=some (o,s')){P:Out->St->Prop}(hP:P o s'):HG C c s P:=
 λX a w ρ Q hs hf hQ=>lq hC cW gh c jB s s' o he a w ρ Q hs hf λa' w' ρ' h1 h2 h3=>hQ o s' a' w' ρ' hP h1 h2 h3
def nq{a b:Code}{s:St}{P:Out->St->Prop}(h:HG C a s (λo s1=>(o= .normal->HG C b s1 P)/\(o≠ .normal->P o s1))):HG C (.seq a b) s P:=by
 intro X ac w ρ Q hs hf hQ;refine wp_seq (h X ac w ρ _ hs hf ?_);rintro o s1 a1 w1 ρ1 ⟨hn,hx⟩ e1 ae d1;cases o with
 |
  normal=>
  show b.wp C.P Q a1 w1;exact hn rfl X a1 w1 ρ1 Q e1.uj ae λo2 s2 a2 w2 ρ2 p2 e2 af d2=>hQ o2 s2 a2 w2 ρ2 p2 (e1.trans e2) af (d2.trans d1)
 |exit id=>exact hQ _ s1 a1 w1 ρ1 (hx (by simp)) e1 ae d1
 |ret=>exact hQ _ s1 a1 w1 ρ1 (hx (by simp)) e1 ae d1
 |wU u=>exact hQ _ s1 a1 w1 ρ1 (hx (by simp)) e1 ae d1
def aid(id:Nat):Out->Out
 | .exit i=>if i=id then .normal else .exit i
 |o=>o
def Dg{id:Nat}{c:Code}{s:St}{P:Out->St->Prop}(h:HG C c s (λo s1=>P (aid id o) s1)):HG C (.block id c) s P:=by
 intro X ac w ρ Q hs hf hQ;refine wp_block (h X ac w ρ _ hs hf ?_);intro o s1 a1 w1 ρ1 hp e1 ae d1;have hq:=hQ _ s1 a1 w1 ρ1 hp e1 ae d1;cases o with
 |normal=>exact hq
 |ret=>exact hq
 |wU u=>exact hq
 |exit i=>
  have vf:Q (uT (if i=id then Out.normal else Out.exit i)) a1 w1:=hq;show(if i=id then Q .normal a1 w1 else Q (.exit i) a1 w1);by_cases hi:i=id
  .rw[cw hi]at vf;rw[cw hi];exact vf
  .rw[cv hi]at vf;rw[cv hi];exact vf
def SB{c:Code}{P:Out->St->Prop}(I:Nat->St->Prop)(N:Nat)(hI:∀i s,i<=N->I i s->HG C c s (λo s1=>(o= .normal->i+1<=N/\I (i+1) s1)/\(o≠ .normal->P o s1))){s:St}(h0:I 0 s):HG C (.loop c) s P:=by
 intro X ac w ρ Q hs hf hQ;refine wp_loop_rounds (N+1) ?_;have key:∀(n i:Nat)(s:St)(a1:Act)(w1:World)(ρ1:Nat->Nat),i<=N->N+1=i+n->I i s->ia C.G w1 X ρ1 s.2->RF w1 (dZ X ρ1 s.2) ρ1 s.2.length a1.tmps s.1->
  (∀(out:Out)(s':St)(a':Act)(w':World)(ρ':Nat->Nat),P out s'->Ext C.G w1 X ρ1 s.2 w' ρ' s'.2->RF w' (dZ X ρ' s'.2) ρ' s'.2.length a'.tmps s'.1->a'.defers=a1.defers->Q (uT out) a' w')->Code.rounds C.P c Q n a1 w1:=by
  intro n
  induction n with
  |zero=>intro i s a1 w1 ρ1 hi hn;omega
  |succ n ihn=>
   intro i s a1 w1 ρ1 hi hn hinv q8 tV Xz;rw[rounds_succ];refine hI i s hi hinv X a1 w1 ρ1 _ q8 tV ?_;rintro o s1 a2 w2 ρ2 ⟨v_,hx⟩ e2 af d2;cases o with
   |
    normal=>
    obtain⟨rN,ad8⟩:=v_ rfl;show Code.rounds C.P c Q n a2 w2;exact ihn (i+1) s1 a2 w2 ρ2 rN (by omega) ad8 e2.uj af λo3 s3 a3 w3 ρ3 p3 e3 ah d3=>Xz o3 s3 a3 w3 ρ3 p3 (e2.trans e3) ah (d3.trans d2)
   |exit id=>exact Xz _ s1 a2 w2 ρ2 (hx (by simp)) e2 af d2
   |ret=>exact Xz _ s1 a2 w2 ρ2 (hx (by simp)) e2 af d2
   |wU u=>exact Xz _ s1 a2 w2 ρ2 (hx (by simp)) e2 af d2
 exact key (N+1) 0 s ac w ρ (by omega) (by omega) h0 hs hf hQ
section draw
variable {C : Cx} {call : FuncId -> List AV -> Hp -> Option (AV × Hp)} {ops : Array Oper}
def SD(hT:∀t i,C.T t=some i->ir C.P t=some i)(cW:jm C call)(gh:∀g xs h r h',C.inl g=false->call g xs h=some (r,h')->h'=h)(hr:J1 C ops=true){s s':St}{tT:List St}(jV:j_ C call ops ops.toList s=some tT)(j8:∀q∈needs C ops,∀(o:Oper)(sj sm:St),ops[q.1]?=some o->tT[q.1]?=some sj->tT[q.2]?=some sm->(qj C call (ev C sj.1) sm.2 o).map Prod.fst=(qj C call (ev C sj.1) sj.2 o).map Prod.fst)(SE:tT[ops.size]?=some s'){X:Nat->Prop}{w:World}{ρ:Nat->Nat}{a:Act}(hs:ia C.G w X ρ s.2)(hf:RF w (dZ X ρ s.2) ρ s.2.length a.tmps s.1){Q:Exit->Act->World->Prop}(hQ:∀a' w' ρ',Ext C.G w X ρ s.2 w' ρ' s'.2->RF w' (dZ X ρ' s'.2) ρ' s'.2.length a'.tmps s'.1->a'.defers=a.defers->Q .normal a' w'):wpAny C.P .any ops Q ops.size (Array.replicate ops.size false) a {w with drawn:=w.drawn+1}:=by
 obtain⟨S,e0,el,e1,e2⟩:=tj _ s tT jV;rw[Yu]at e1;have eL:S ops.size=s':=by
  have:=e1 ops.size (Yq _);rw[SE]at this;exact(Option.some.inj this).symm
 have hS:∀(k:Nat)(o:Oper),ops[k]?=some o->step1 C call ops o (S k)=some (S (k+1)):=λk o hk=>e2 k o (by simpa using hk)
 have A9:∀i d,i+d<=ops.size->(∀(k:Nat)(o:Oper),i<=k->k<i+d->ops[k]?=some o->dz C o=false)->(S (i+d)).2=(S i).2:=by
  intro i d
  induction d with
  |zero=>intro _ _;rfl
  |succ d ih=>
   intro cP v_;have ho:ops[i+d]?=some ops[i+d]:=Xf (by omega);have h1:=(jn (hS (i+d) _ ho)).2.1;have h2:=ih (by omega) (λk o h1 h2 h3=>v_ k o h1 (by omega) h3);rcases h1 with⟨_,ha⟩|⟨_,_,ha⟩
   .have:=lT gh (v_ (i+d) _ (by omega) (by omega) ho) ha;rw[show i+(d+1)=i+d+1 by omega,this,h2]
   .rw[show i+(d+1)=i+d+1 by omega,ha,h2]
 have sF:∀i k,i<=k->k<=ops.size->cc C ops i=cc C ops k->(S k).2=(S i).2:=by
  intro i k h1 h2 h3;have:=A9 i (k-i) (by omega) (λq o q1 q2 q3=>zr (k-i) i (by omega) (by rw[show i+(k-i)=k by omega];exact h3.symm) q o q1 q2 q3)
  rwa [show i+(k-i)=k by omega]at this
 have SF:∀(j:Nat)(o:Oper),ops[j]?=some o->dz C o=false->oF C o=true->jd ops (S j).1 o=some true->∀m,m<=ops.size->
  (∀(i:Nat)(oi:Oper),ops[i]?=some oi->dz C oi=true->(((kN ops.toList []).getD j 0).testBit i=true->i<m)/\(((kN ops.toList []).getD i 0).testBit j=true->m<=i))->qj C call (ev C (S j).1) (S m).2 o=some (wa C call ops o (S j),(S m).2):=by
  intro j o ho hc ht hw m vV wb;have hj:j<ops.size:=(Xl.1 ho).1;have ft:=jn (hS j o ho);have haj:qj C call (ev C (S j).1) (S j).2 o=some (wa C call ops o (S j),(S j).2):=by
   rcases ft.2.1 with⟨_,h2⟩|⟨h1,_⟩
   .have:=lT gh hc h2;rw[this]at h2;exact h2
   .rw[hw]at h1;cases h1
  obtain⟨m0,c1,c2,c3,c4⟩:=canon (C:=C) (ops:=ops) m vV;have F2:=sF m0 m c1 vV c2;rw[F2];by_cases A_:cc C ops m0=cc C ops j
  .have:(S m0).2=(S j).2:=by
    by_cases cP:m0<=j
    .exact(sF m0 j cP (by omega) A_).symm
    .exact sF j m0 (by omega) (by omega) A_.symm
   rw[this];exact haj
  .have hmr:wT C ops (kN ops.toList []) j m0=true:=by
    refine xt (by omega) λi oi hi L8=>⟨λhb=>?_,λhb=>?_⟩
    .have h5:=(wb i oi hi L8).1 hb;apply Classical.byContradiction;intro du;have:=c4 i oi (by omega) h5 hi;rw[L8]at this;cases this
    .have:=(wb i oi hi L8).2 hb;omega
   have hmz:nP C ops m0=true:=by
    unfold nP;rcases c3 with rfl|⟨o',h3,h4⟩
    .rfl
    .rw[h3];simp[h4]
   have dB:(j,m0)∈needs C ops:=by
    unfold needs;refine List.mem_flatMap.2 ⟨j,by simpa using hj,?_⟩;rw[ho];simp only[hc,ht,Bool.false_or,Bool.not_true,Yl,if_false];refine List.mem_filterMap.2 ⟨m0,by simp;omega,?_⟩;have U5:Nat.beq (cc C ops m0) (cc C ops j)=false:=by
     cases hq:Nat.beq (cc C ops m0) (cc C ops j)with
     |false=>rfl
     |true=>exact absurd (Nat.eq_of_beq_eq_true hq) A_
    simp only[U5,hmz,hmr,Bool.not_true,Bool.or_self,Yl,if_false]
   have h2:=j8 _ dB o _ _ ho (e1 j (by omega)) (e1 m0 (by omega));rw[haj]at h2;obtain⟨⟨v',h'⟩,hav,hv⟩:=Ze.1 h2;have hh:=lT gh hc hav;simp only at hv;subst hv;subst hh;exact hav
 have he:=pC hs (w.drawn+1);have gI:∀i,(Array.replicate ops.size false).getD i false=false:=λi=>by
  by_cases h:i<ops.size<;>simp[h]
 have v_:∀o,ops[ops.size]?≠some o:=λo=>by simp
 refine Ba (S:=S) (R:=λk=>match ops[k]? with|some o=>wa C call ops o (S k)|none=> .ud) (w0:=w) (ρ0:=ρ) (d0:=a.defers) hT cW gh (Bb hr) (J:=ops.size) (bad:=λ_=>False) (λk h=>h.elim) (λh=>by omega) (λo ho=>absurd ho (v_ o)) (λk o hk _=>hS k o hk) (λk o _ h=>h.elim) (λk o hk _=>by simp only[hk]) (λk o _ h=>h.elim)
  (λj o ho _ hc ht hw m vV _ wb=>by simp only[ho];exact SF j o ho hc ht hw m vV wb)
  (λ_ a' w' ρ' h1 h2 h3=>hQ a' w' ρ' (by rw[e0,eL]at h1;exact h1) (by rw[eL]at h2;exact h2) h3) (λo ho=>absurd ho (v_ o)) ops.size _ a _ ρ s.1 0 (by simp) ?_ ?_ ?_ (Yt _) (λh=>by omega) ?_ (by rw[e0];exact he) (by rw[e0];exact he.rf hf) rfl
 .simp only[N_,Array.toList_replicate];exact Yj (List.length_filter_le _ _) (by simp)
 .intro j o _ hl;rw[gI]at hl;cases hl
 .rw[e0];refine⟨rfl,λi o t hi ht du=>?_,λt _=>rfl⟩;rw[gI];simp[List.getD,Zb du]
 .intro k o _ _;rw[gI];simp
end draw
def Ke(P:Program)(o:Oper):Prop:=∀(e:Operand->Value)(w:World)(n:Next)(w':World),(execOp e o).run P w= .ok n w'->(∃v,n= .value v)\/n= .skip
def SG{P:Program}{o:Oper}(hp:Ke P o){a:Act}{w:World}{Q:Exit->Act->World->Prop}{K1 K2:Act->World->Prop}(h1:o.wp P a w K1 Q)(h2:o.wp P a w K2 Q):o.wp P a w (λa w=>K1 a w/\K2 a w) Q:=by
 unfold Oper.wp at *;have hpo:=hp a.eval w;generalize(execOp a.eval o).run P w=R at *;cases R with
 |ok n w'=>
  rcases hpo n w' rfl with⟨v,rfl⟩|rfl
  .exact⟨h1,h2⟩
  .exact⟨h1,h2⟩
 |halt x w'=>cases x<;>exact h1
def Dh(s:Nat->Nat)(j c d:Nat)(o:Oper):Oper:={o with after:=((o.after.toList.filter (Region.binds .any)).map (λ(e:Edge)=>({on:=s e.on,ground:= .data}:Edge))++if j=c then[({on:=s d,ground:= .data}:Edge)]else[]).toArray}
def iX(s r:Nat->Nat)(c d:Nat)(ops:Array Oper):Array Oper:=((List.range ops.size).map λk=>Dh s (r k) c d (ops.getD (r k) default)).toArray
structure yQ (n:Nat)(s r:Nat->Nat):Prop where
 fwd:∀j,j<n->s j<n/\r (s j)=j
 back:∀k,k<n->r k<n/\s (r k)=k
structure sG (P:Program)(ops:Array Oper):Prop where
 guard:∀(j:Nat)(o:Oper),ops[j]?=some o->o.guard=none
 plain:∀(j:Nat)(o:Oper),ops[j]?=some o->Ke P o
 on:∀(j:Nat)(o:Oper),ops[j]?=some o->∀e∈o.after,e.on<ops.size
section turn
variable {P : Program} {ops : Array Oper} {Q : Exit -> Act -> World -> Prop} {s r : Nat -> Nat} {c d : Nat}
def HI(ht:yQ ops.size s r){j:Nat}{o:Oper}(hj:ops[j]?=some o):(iX s r c d ops)[s j]?=some (Dh s j c d o):=by
 obtain⟨du,e⟩:=Xl.1 hj;obtain⟨h1,h2⟩:=ht.fwd j du;unfold iX;simp[h1,h2,du,e]
def Di :(iX s r c d ops).size=ops.size:=by simp[iX]
def kA(ht:yQ ops.size s r)(hS:sG P ops)(hd:d<ops.size){L L':Array Bool}(hL:L.size=ops.size)(je:L'.size=ops.size)(hr:∀j,j<ops.size->L'.getD (s j) false=L.getD j false){j:Nat}(hj:j<ops.size):
 s j∈Region.ready .any (iX s r c d ops) L'↔j∈Region.ready .any ops L/\(j=c->L.getD d false=true):=by
 rw[mem_ready,mem_ready];have ho:ops[j]?=some ops[j]:=Xf hj;have h1:L'.getD (s j) true=L.getD j true:=by
  have:=hr j hj;have h2:s j<L'.size:=by rw[je];exact(ht.fwd j hj).1
  have h3:j<L.size:=by omega
  simpa[h2,h3]using this
 rw[h1,HI ht ho,ho];simp only[Zc,exists_eq_left'];have key:(∀e∈(Dh s j c d ops[j]).after,Region.binds .any e=true->L'.getD e.on false=true)↔((∀e∈ops[j].after,Region.binds .any e=true->L.getD e.on false=true)/\(j=c->L.getD d false=true)):=by
  unfold Dh;simp only[List.mem_toArray,Zz,Yf,List.mem_filter,Array.mem_toList_iff];constructor
  .intro h;refine⟨λe he hb=>?_,λhc=>?_⟩
   .have:=h ⟨s e.on,.data⟩ (.inl ⟨e,⟨he,hb⟩,rfl⟩) rfl
    rwa [hr _ (hS.on j _ ho e he)]at this
   .have:=h ⟨s d,.data⟩ (.inr (by rw[cw hc];simp)) rfl
    rwa [hr _ hd]at this
  .rintro⟨ha,hb⟩ e he _;rcases he with⟨x,⟨hx,hxb⟩,rfl⟩|he
   .rw[hr _ (hS.on j _ ho x hx)];exact ha x hx hxb
   .by_cases hc:j=c
    .rw[cw hc]at he;have:e=⟨s d,.data⟩:=by simpa using he
     subst this;rw[hr _ hd];exact hb hc
    .rw[cv hc]at he;simp at he
 rw[key];exact⟨λ⟨a,b,c⟩=>⟨⟨a,b⟩,c⟩,λ⟨⟨a,b⟩,c⟩=>⟨a,b,c⟩⟩
def tm(ht:yQ ops.size s r)(hS:sG P ops){j:Nat}(hj:j<ops.size){K:Act->World->Prop}{a:Act}{w:World}:wpOp P (iX s r c d ops) Q (s j) K a w↔(ops[j].wp P a w K Q\/(ops[j].asks P a w/\LetsOut Q)):=by
 have ho:ops[j]?=some ops[j]:=Xf hj;have hg:=hS.guard j _ ho;unfold wpOp;rw[HI ht ho];have hw:∀y,Region.wanted (Dh s j c d ops[j]) y=true:=λy=>by simp[Region.wanted,Dh,hg]
 simp only[hw,if_true];rfl
def Dj(hS:sG P ops){j:Nat}(hj:j<ops.size){K:Act->World->Prop}{a:Act}{w:World}:wpOp P ops Q j K a w↔(ops[j].wp P a w K Q\/(ops[j].asks P a w/\LetsOut Q)):=by
 have ho:ops[j]?=some ops[j]:=Xf hj;have hg:=hS.guard j _ ho;unfold wpOp;rw[ho];have hw:∀y,Region.wanted ops[j] y=true:=λy=>by simp[Region.wanted,hg]
 simp only[hw,if_true]
def sH(ht:yQ ops.size s r){L L':Array Bool}(hL:L.size=ops.size)(je:L'.size=ops.size)(hr:∀j,j<ops.size->L'.getD (s j) false=L.getD j false){i:Nat}(hi:i<ops.size):
 ∀j,j<ops.size->(L'.setIfInBounds (s i) true).getD (s j) false=(L.setIfInBounds i true).getD j false:=by
 intro j hj;rw[jo (by rw[je];exact(ht.fwd i hi).1),jo (by omega)];by_cases e:j=i
 .subst e;simp
 .have:s j≠s i:=λq=>e (by rw[<-(ht.fwd j hj).2,<-(ht.fwd i hi).2,q])
  rw[cv this,cv e,hr j hj]
def pY{L:Array Bool}{j:Nat}(h:j∈Region.ready .any ops L):j<ops.size:=by
 rw[mem_ready]at h;obtain⟨_,o,ho,_⟩:=h;exact(Xl.1 ho).1
def Dk(ht:yQ ops.size s r)(hS:sG P ops)(hd:d<ops.size){L L':Array Bool}(hL:L.size=ops.size)(je:L'.size=ops.size)(hr:∀j,j<ops.size->L'.getD (s j) false=L.getD j false)(h:Region.ready .any ops L=[]):
 Region.ready .any (iX s r c d ops) L'=[]:=by
 apply List.eq_nil_iff_forall_not_mem.2;intro k hk;have kD:k<ops.size:=by have:=pY hk;rwa [Di]at this
 obtain⟨b1,b2⟩:=ht.back k kD;rw[<-b2,kA ht hS hd hL je hr b1,h]at hk;simp at hk
def Dl(ht:yQ ops.size s r)(hS:sG P ops)(hd:d<ops.size):∀(fuel:Nat)(L L':Array Bool)(a:Act)(w:World),L.size=ops.size->L'.size=ops.size->(∀j,j<ops.size->L'.getD (s j) false=L.getD j false)->L.getD d false=true->
 wpAny P .any (iX s r c d ops) Q fuel L' a w->wpAny P .any ops Q fuel L a w:=by
 intro fuel
 induction fuel with
 |
  zero=>
  rintro L L' a w hL je hr hdl ⟨h1,h2⟩;refine⟨List.eq_nil_iff_forall_not_mem.2 λj hj=>?_,h2⟩;have:=(kA ht hS hd hL je hr (c:=c) (pY hj)).2 ⟨hj,λ_=>hdl⟩;rw[h1]at this;simp at this
 |succ n ih=>
  rintro L L' a w hL je hr hdl ⟨h1,h2⟩;refine⟨λh=>h1 (Dk ht hS hd hL je hr h),λj hj=>?_⟩;have lD:=pY hj;have h3:=h2 (s j) ((kA ht hS hd hL je hr lD).2 ⟨hj,λ_=>hdl⟩);rw[tm ht hS lD]at h3;rw[Dj hS lD];refine h3.imp (Oper.wp_mono λa' w' hk=>?_) id;refine ih _ _ a' w' (by simpa using hL) (by simpa using je) (sH ht hL je hr lD) ?_ hk;rw[jo (by omega)];split
  .rfl
  .exact hdl
def Oa{s' r':Nat->Nat}(ht:yQ ops.size s r)(JS:yQ ops.size s' r')(hS:sG P ops)(hd:d<ops.size)(hc:c<ops.size)(hcd:c≠d):∀(fuel:Nat)(L LA LB:Array Bool)(a:Act)(w:World),L.size=ops.size->LA.size=ops.size->LB.size=ops.size->(∀j,j<ops.size->LA.getD (s j) false=L.getD j false)->(∀j,j<ops.size->LB.getD (s' j) false=L.getD j false)->
 wpAny P .any (iX s r c d ops) Q fuel LA a w->wpAny P .any (iX s' r' d c ops) Q fuel LB a w->wpAny P .any ops Q fuel L a w:=by
 intro fuel
 induction fuel with
 |
  zero=>
  rintro L LA LB a w hL hLA hLB hA hB ⟨a1,a2⟩ ⟨b1,b2⟩;refine⟨List.eq_nil_iff_forall_not_mem.2 λj hj=>?_,a2⟩;by_cases e:j=c
  .have:=(kA JS hS hc hL hLB hB (c:=d) (pY hj)).2 ⟨hj,λq=>absurd (e.symm.trans q) hcd⟩;rw[b1]at this;simp at this
  .have:=(kA ht hS hd hL hLA hA (c:=c) (pY hj)).2 ⟨hj,λq=>absurd q e⟩;rw[a1]at this;simp at this
 |succ n ih=>
  rintro L LA LB a w hL hLA hLB hA hB ⟨a1,a2⟩ ⟨b1,b2⟩;refine⟨λh=>a1 (Dk ht hS hd hL hLA hA h),λj hj=>?_⟩;have lD:=pY hj;rw[Dj hS lD];by_cases ec:j=c
  .have h3:=b2 (s' j) ((kA JS hS hc hL hLB hB lD).2 ⟨hj,λq=>absurd (ec.symm.trans q) hcd⟩);rw[tm JS hS lD]at h3;refine h3.imp (Oper.wp_mono λa' w' hk=>?_) id;refine Dl JS hS hc n _ _ a' w' (by simpa using hL) (by simpa using hLB) (sH JS hL hLB hB lD) ?_ hk;rw[jo (by omega),cw ec.symm]
  .have h3:=a2 (s j) ((kA ht hS hd hL hLA hA lD).2 ⟨hj,λq=>absurd q ec⟩);rw[tm ht hS lD]at h3;by_cases ed:j=d
   .refine h3.imp (Oper.wp_mono λa' w' hk=>?_) id;refine Dl ht hS hd n _ _ a' w' (by simpa using hL) (by simpa using hLA) (sH ht hL hLA hA lD) ?_ hk;rw[jo (by omega),cw ed.symm]
   .have h4:=b2 (s' j) ((kA JS hS hc hL hLB hB lD).2 ⟨hj,λq=>absurd q ed⟩);rw[tm JS hS lD]at h4;rcases h3 with h3|h3
    .rcases h4 with h4|h4
     .refine .inl (Oper.wp_mono (λa' w' hk=>?_) (SG (hS.plain j _ (Xf lD)) h3 h4));exact ih _ _ _ a' w' (by simpa using hL) (by simpa using hLA) (by simpa using hLB) (sH ht hL hLA hA lD) (sH JS hL hLB hB lD) hk.1 hk.2
     .exact .inr h4
    .exact .inr h3
end turn
structure E3 (C:Cx)(eG:lu)(ops:Array Oper)(st s':St):Prop where
 run:dG C eG ops ops.toList st=some s'
 same:∀q∈needs C ops,∀(o:Oper)(sj sm:St),ops[q.1]?=some o->dG C eG ops (ops.toList.take q.1) st=some sj->dG C eG ops (ops.toList.take q.2) st=some sm->(qj C eG (ev C sj.1) sm.2 o).map Prod.fst=(qj C eG (ev C sj.1) sj.2 o).map Prod.fst
def XA{C:Cx}{call:lu}(hm:C.P.follows .mixedOrders=true)(hT:∀t i,C.T t=some i->ir C.P t=some i)(cW:jm C call)(gh:∀g xs h r h',C.inl g=false->call g xs h=some (r,h')->h'=h){ops:Array Oper}{s r s' r':Nat->Nat}{c d:Nat}(ht:yQ ops.size s r)(JS:yQ ops.size s' r')(hS:sG C.P ops)(hd:d<ops.size)(hc:c<ops.size)(hcd:c≠d)(rA:J1 C (iX s r c d ops)=true)(rB:J1 C (iX s' r' d c ops)=true){st sA sB:St}{id:Nat}(eA:E3 C call (iX s r c d ops) st sA)(eB:E3 C call (iX s' r' d c ops) st sB){Q:Out->St->Prop}(qA:Q .normal sA)(qB:Q .normal sB):HG C (.region id ops true) st Q:=by
 intro X a w ρ R hs hf hR;have cut:∀(o':Array Oper)(s1:St),J1 C o'=true->E3 C call o' st s1->Q .normal s1->wpAny C.P .any o' R o'.size (Array.replicate o'.size false) a {w with drawn:=w.drawn+1}:=by
  intro o' s1 hr ⟨he,hsm⟩ hq;rw[<-oq]at he;obtain⟨tT,jV,hl⟩:=Ye.1 he;rw[Yu]at hl;obtain⟨S,_,el,_,_⟩:=tj _ st tT jV;have ZJ:=Bc _ st tT jV;rw[Yu]at ZJ;have cP:∀(k:Nat)(x:St),tT[k]?=some x->k<=o'.size:=λk x hk=>by
   have:=(Za.1 hk).1;have ik:o'.toList.length=o'.size:=Yu;rw[el]at this;omega
  refine SD hT cW gh hr jV (λq hq o sj sm ho hj hm=>?_) hl hs hf λa' w' ρ' h1 h2 h3=>hR .normal s1 a' w' ρ' hq h1 h2 h3
  have h1:=ZJ q.1 (cP _ _ hj);have h2:=ZJ q.2 (cP _ _ hm);rw[hj]at h1;rw[hm]at h2;exact hsm q hq o sj sm ho h1.symm h2.symm
 have hA:=cut _ _ rA eA qA;have hB:=cut _ _ rB eB qB;rw[Di]at hA hB;refine wp_region_any hm ?_;have h0:∀i,(Array.replicate ops.size false).getD i false=false:=λi=>by
  by_cases h:i<ops.size<;>simp[h]
 exact Oa ht JS hS hd hc hcd ops.size _ _ _ a _ (by simp) (by simp) (by simp) (λj _=>by rw[h0,h0]) (λj _=>by rw[h0,h0]) hA hB
end Go.Ae
namespace Go.Proofs.YtmocfjnklfpnbaaGreatDoor
open Go Go.Ae Go.Proofs.Tryz
section
attribute [local simp] ew eY cF
def Ob :List Oper:=[{dst:=some 34,op:=Go.Op.move (Go.Operand.tmp 9),type:=83,pos:= "ref.go:231",after:= #[],guard:=none},
 {dst:=some 35,op:=Go.Op.buildSlice 83 0 #[],type:=83,pos:= "ref.go:231",after:= #[],guard:=none},
 {dst:=some 36,op:=Go.Op.move (Go.Operand.tmp 9),type:=83,pos:= "ref.go:231",after:= #[],guard:=none},
 {dst:=some 37,op:=Go.Op.call {callee:=Go.Callee.builtin Go.Builtin.append,args:= #[Go.Operand.tmp 35,Go.Operand.tmp 36],argTypes:= #[83,83]},type:=83,pos:= "ref.go:231",after:= #[{on:=1,ground:=Go.Ground.data},{on:=2,ground:=Go.Ground.data}],guard:=none},
 {dst:=some 38,op:=Go.Op.fieldAddr 24 (Go.Operand.tmp 2) 0,type:=0,pos:= "ref.go:231",after:= #[],guard:=none},
 {dst:=some 39,op:=Go.Op.load 22 (Go.Operand.tmp 38),type:=22,pos:= "ref.go:231",after:= #[{on:=4,ground:=Go.Ground.data}],guard:=none},
 {dst:=some 40,op:=Go.Op.move (Go.Operand.tmp 10),type:=3,pos:= "ref.go:231",after:= #[],guard:=none},
 {dst:=some 41,op:=Go.Op.indexAddr 22 (Go.Operand.tmp 39) (Go.Operand.tmp 40),type:=0,pos:= "ref.go:231",after:= #[{on:=5,ground:=Go.Ground.data},{on:=6,ground:=Go.Ground.data}],guard:=none},
 {dst:=some 42,op:=Go.Op.fieldAddr 49 (Go.Operand.tmp 41) 0,type:=0,pos:= "ref.go:231",after:= #[{on:=7,ground:=Go.Ground.data}],guard:=none},
 {dst:=some 43,op:=Go.Op.load 3 (Go.Operand.tmp 42),type:=3,pos:= "ref.go:231",after:= #[{on:=8,ground:=Go.Ground.data}],guard:=none},
 {dst:=some 44,op:=Go.Op.build 133 #[(0,Go.Operand.tmp 34),(1,Go.Operand.tmp 37),(2,Go.Operand.tmp 43)],type:=133,pos:= "ref.go:231",after:= #[{on:=0,ground:=Go.Ground.data},{on:=3,ground:=Go.Ground.data},{on:=9,ground:=Go.Ground.data}],guard:=none},
 {dst:=some 11,op:=Go.Op.alloc 133,type:=0,pos:= "ref.go:231",after:= #[],guard:=none},
 {dst:=none,op:=Go.Op.store 133 (Go.Operand.tmp 11) (Go.Operand.tmp 44),type:=0,pos:= "ref.go:231",after:= #[{on:=11,ground:=Go.Ground.data},{on:=10,ground:=Go.Ground.data},{on:=3,ground:=Go.Ground.chain},{on:=0,ground:=Go.Ground.phase},{on:=1,ground:=Go.Ground.phase},{on:=2,ground:=Go.Ground.phase},{on:=3,ground:=Go.Ground.phase},{on:=4,ground:=Go.Ground.phase},{on:=5,ground:=Go.Ground.phase},{on:=6,ground:=Go.Ground.phase},{on:=7,ground:=Go.Ground.phase},{on:=8,ground:=Go.Ground.phase},{on:=9,ground:=Go.Ground.phase},{on:=10,ground:=Go.Ground.phase},{on:=11,ground:=Go.Ground.phase}],guard:=none}]
def U6 :List Oper:=[{dst:=some 34,op:=Go.Op.move (Go.Operand.tmp 9),type:=83,pos:= "ref.go:231",after:= #[],guard:=none},
 {dst:=some 35,op:=Go.Op.buildSlice 83 0 #[],type:=83,pos:= "ref.go:231",after:= #[],guard:=none},
 {dst:=some 36,op:=Go.Op.move (Go.Operand.tmp 9),type:=83,pos:= "ref.go:231",after:= #[],guard:=none},
 {dst:=some 37,op:=Go.Op.call {callee:=Go.Callee.builtin Go.Builtin.append,args:= #[Go.Operand.tmp 35,Go.Operand.tmp 36],argTypes:= #[83,83]},type:=83,pos:= "ref.go:231",after:= #[{on:=1,ground:=Go.Ground.data},{on:=2,ground:=Go.Ground.data}],guard:=none},
 {dst:=some 38,op:=Go.Op.fieldAddr 24 (Go.Operand.tmp 2) 0,type:=0,pos:= "ref.go:231",after:= #[],guard:=none},
 {dst:=some 39,op:=Go.Op.load 22 (Go.Operand.tmp 38),type:=22,pos:= "ref.go:231",after:= #[{on:=4,ground:=Go.Ground.data}],guard:=none},
 {dst:=some 40,op:=Go.Op.move (Go.Operand.tmp 10),type:=3,pos:= "ref.go:231",after:= #[],guard:=none},
 {dst:=some 41,op:=Go.Op.indexAddr 22 (Go.Operand.tmp 39) (Go.Operand.tmp 40),type:=0,pos:= "ref.go:231",after:= #[{on:=5,ground:=Go.Ground.data},{on:=6,ground:=Go.Ground.data}],guard:=none},
 {dst:=some 42,op:=Go.Op.fieldAddr 49 (Go.Operand.tmp 41) 0,type:=0,pos:= "ref.go:231",after:= #[{on:=7,ground:=Go.Ground.data}],guard:=none},
 {dst:=some 43,op:=Go.Op.load 3 (Go.Operand.tmp 42),type:=3,pos:= "ref.go:231",after:= #[{on:=8,ground:=Go.Ground.data}],guard:=none},
 {dst:=some 44,op:=Go.Op.build 133 #[(0,Go.Operand.tmp 34),(1,Go.Operand.tmp 37),(2,Go.Operand.tmp 43)],type:=133,pos:= "ref.go:231",after:= #[{on:=0,ground:=Go.Ground.data},{on:=3,ground:=Go.Ground.data},{on:=9,ground:=Go.Ground.data}],guard:=none},
 {dst:=some 11,op:=Go.Op.alloc 133,type:=0,pos:= "ref.go:231",after:= #[{on:=3,ground:=Go.Ground.data}],guard:=none},
 {dst:=none,op:=Go.Op.store 133 (Go.Operand.tmp 11) (Go.Operand.tmp 44),type:=0,pos:= "ref.go:231",after:= #[{on:=11,ground:=Go.Ground.data},{on:=10,ground:=Go.Ground.data},{on:=3,ground:=Go.Ground.data},{on:=0,ground:=Go.Ground.data},{on:=1,ground:=Go.Ground.data},{on:=2,ground:=Go.Ground.data},{on:=3,ground:=Go.Ground.data},{on:=4,ground:=Go.Ground.data},{on:=5,ground:=Go.Ground.data},{on:=6,ground:=Go.Ground.data},{on:=7,ground:=Go.Ground.data},{on:=8,ground:=Go.Ground.data},{on:=9,ground:=Go.Ground.data},{on:=10,ground:=Go.Ground.data},{on:=11,ground:=Go.Ground.data}],guard:=none}]
def U7 :List Oper:=[{dst:=some 11,op:=Go.Op.alloc 133,type:=0,pos:= "ref.go:231",after:= #[],guard:=none},
 {dst:=some 34,op:=Go.Op.move (Go.Operand.tmp 9),type:=83,pos:= "ref.go:231",after:= #[],guard:=none},
 {dst:=some 35,op:=Go.Op.buildSlice 83 0 #[],type:=83,pos:= "ref.go:231",after:= #[],guard:=none},
 {dst:=some 36,op:=Go.Op.move (Go.Operand.tmp 9),type:=83,pos:= "ref.go:231",after:= #[],guard:=none},
 {dst:=some 37,op:=Go.Op.call {callee:=Go.Callee.builtin Go.Builtin.append,args:= #[Go.Operand.tmp 35,Go.Operand.tmp 36],argTypes:= #[83,83]},type:=83,pos:= "ref.go:231",after:= #[{on:=2,ground:=Go.Ground.data},{on:=3,ground:=Go.Ground.data},{on:=0,ground:=Go.Ground.data}],guard:=none},
 {dst:=some 38,op:=Go.Op.fieldAddr 24 (Go.Operand.tmp 2) 0,type:=0,pos:= "ref.go:231",after:= #[],guard:=none},
 {dst:=some 39,op:=Go.Op.load 22 (Go.Operand.tmp 38),type:=22,pos:= "ref.go:231",after:= #[{on:=5,ground:=Go.Ground.data}],guard:=none},
 {dst:=some 40,op:=Go.Op.move (Go.Operand.tmp 10),type:=3,pos:= "ref.go:231",after:= #[],guard:=none},
 {dst:=some 41,op:=Go.Op.indexAddr 22 (Go.Operand.tmp 39) (Go.Operand.tmp 40),type:=0,pos:= "ref.go:231",after:= #[{on:=6,ground:=Go.Ground.data},{on:=7,ground:=Go.Ground.data}],guard:=none},
 {dst:=some 42,op:=Go.Op.fieldAddr 49 (Go.Operand.tmp 41) 0,type:=0,pos:= "ref.go:231",after:= #[{on:=8,ground:=Go.Ground.data}],guard:=none},
 {dst:=some 43,op:=Go.Op.load 3 (Go.Operand.tmp 42),type:=3,pos:= "ref.go:231",after:= #[{on:=9,ground:=Go.Ground.data}],guard:=none},
 {dst:=some 44,op:=Go.Op.build 133 #[(0,Go.Operand.tmp 34),(1,Go.Operand.tmp 37),(2,Go.Operand.tmp 43)],type:=133,pos:= "ref.go:231",after:= #[{on:=1,ground:=Go.Ground.data},{on:=4,ground:=Go.Ground.data},{on:=10,ground:=Go.Ground.data}],guard:=none},
 {dst:=none,op:=Go.Op.store 133 (Go.Operand.tmp 11) (Go.Operand.tmp 44),type:=0,pos:= "ref.go:231",after:= #[{on:=0,ground:=Go.Ground.data},{on:=11,ground:=Go.Ground.data},{on:=4,ground:=Go.Ground.data},{on:=1,ground:=Go.Ground.data},{on:=2,ground:=Go.Ground.data},{on:=3,ground:=Go.Ground.data},{on:=4,ground:=Go.Ground.data},{on:=5,ground:=Go.Ground.data},{on:=6,ground:=Go.Ground.data},{on:=7,ground:=Go.Ground.data},{on:=8,ground:=Go.Ground.data},{on:=9,ground:=Go.Ground.data},{on:=10,ground:=Go.Ground.data},{on:=11,ground:=Go.Ground.data},{on:=0,ground:=Go.Ground.data}],guard:=none}]
def sB(i:Nat):Nat:=if i=11 then 0 else if i<11 then i+1 else i
def rB(k:Nat):Nat:=if k=0 then 11 else if k<=11 then k-1 else k
def abK :iX id id 11 3 Ob.toArray=U6.toArray:=by kernel_rfl
def abL :iX sB rB 3 11 Ob.toArray=U7.toArray:=by kernel_rfl
def SH :yQ Ob.toArray.size id id:=⟨λj h=>⟨h,rfl⟩,λj h=>⟨h,rfl⟩⟩
def SI :yQ Ob.toArray.size sB rB:=by
 have key:∀j:Fin 13,(sB j.1<13/\rB (sB j.1)=j.1)/\(rB j.1<13/\sB (rB j.1)=j.1):=by decide
 exact⟨λj h=>(key ⟨j,h⟩).1,λk h=>(key ⟨k,h⟩).2⟩
def Kf(o:Op):Bool:=match o with
 | .move _| .buildSlice .. | .fieldAddr .. | .load .. | .indexAddr .. | .build .. | .alloc _| .store .. =>true
 | .call {callee:= .builtin .append,.. }=>true
 |_=>false
def Dm{P:Program}{s:Sem Value}{w w':World}{n:Next}(h:(do pure (Next.value (<-s)):Sem Next).run P w= .ok n w'):∃v,n= .value v:=by
 rw[Sem.run_bind]at h;cases hs:s.run P w with
 |ok v w1=>rw[hs]at h;simp only[Result.andThen_ok,Sem.run_pure]at h;cases h;exact⟨v,rfl⟩
 |halt x w1=>rw[hs]at h;cases h
def Oc{P:Program}{s:Sem Unit}{w w':World}{n:Next}(h:(do s;pure Next.skip:Sem Next).run P w= .ok n w'):n= .skip:=by
 rw[Sem.run_bind]at h;cases hs:s.run P w with
 |ok v w1=>rw[hs]at h;simp only[Result.andThen_ok,Sem.run_pure]at h;cases h;rfl
 |halt x w1=>rw[hs]at h;cases h
def SJ{P:Program}{o:Oper}(h:Kf o.op=true):Ke P o:=by
 intro e w n w' hr;unfold execOp at hr;cases dq:o.op<;>rw[dq]at h hr<;>simp only[Kf]at h<;>try(cases h)
 all_goals first
  |exact .inl (Dm hr)
  |exact .inr (Oc hr)
  |skip
 all_goals first
  |(simp only[Sem.run_pure]at hr;cases hr;exact .inl ⟨_,rfl⟩)
  |skip
 rename_i c;obtain⟨eG,args,ts⟩:=c;cases eG with
 |builtin b=>
  cases b<;>simp only[]at h<;>first|(cases h)|skip
  simp only[resolve,Sem.run_bind,Sem.run_pure,Result.andThen_ok,invoke,builtin]at hr;refine .inl (Dm (P:=P) (w:=w) (w':=w') (s:=Builtin.append_ ts o.type (args.map e)) ?_);rw[Sem.run_bind];exact hr
 |_=>simp at h
def Od(P:Program):sG P Ob.toArray:=by
 refine⟨λj o h=>?_,λj o h=>SJ ?_,λj o h e he=>?_⟩
 .have key:Ob.all (λo=>o.guard.isNone)=true:=by rfl
  have:=Yp.1 key o (Zi (by simpa using h));simpa using this
 .have key:Ob.all (λo=>Kf o.op)=true:=by rfl
  exact Yp.1 key o (Zi (by simpa using h))
 .have key:Ob.all (λo=>o.after.toList.all λe=>decide (e.on<13))=true:=by rfl
  have:=Yp.1 key o (Zi (by simpa using h));have h2:=Yp.1 this e (by simpa using he);exact of_decide_eq_true h2
noncomputable def BW :Cx:={cx with pb:=λo=>match o.op with| .buildSlice .. =>HJ o|_=>false}
@[simp] def aah :BW.T=cx.T:=rfl
@[simp] def ajs :BW.mv=mvF:=rfl
@[simp] def akz :BW.G=cx.G:=rfl
def pZ :BW.pb=λo=>match o.op with| .buildSlice .. =>HJ o|_=>false:=rfl
def XC :J1 BW (iX id id 11 3 Ob.toArray)=true:=by kernel_rfl
def XD :J1 BW (iX sB rB 3 11 Ob.toArray)=true:=by kernel_rfl
def XE :needs BW U6.toArray=[(5,0),(5,12),(9,0),(9,12)]:=by kernel_rfl
def XF :needs BW U7.toArray=[(2,0),(6,0),(6,1),(10,0),(10,1)]:=by kernel_rfl
def SK{h:Hp}{id m:Nat}{cells:LA}(ej:h[id]?=some (.row cells))(hm:0<m)(vV:m<=1000000)(hl:cells.length=m*2):fg BW h 83 (.ls 2 [] true) (.sl id 2 0 m false)=some (.sl h.length 2 0 m false,h++[.row cells]):=by
 unfold fg;rw[aah,Ek];have hr:gu h id=some cells:=by unfold gu;rw[ej]
 have hn:gV h (.sl id 2 0 m false)=some (m,cells):=by
  simp only[gV,hr];rw[cw (by omega),Yd,Yy (by omega)]
 simp only[kM,beq_self_eq_true,Bool.and_self,if_true,hn];rw[cv (by omega),cw (by unfold maxLen;simp;omega)];simp
structure OdP (fr:LA)(h':Hp)(id:Nat)(s':St):Prop where
 len:s'.1.length=60
 one:gt s'.1 1=gt fr 1
 two:gt s'.1 2=gt fr 2
 nine:gt s'.1 9=gt fr 9
 ten:gt s'.1 10=gt fr 10
 aie:gt s'.1 11= .pt id 0
 heap:s'.2=h'
abbrev qB(cq:List LA)(z:Bool):eV:= .row [.ls 21 cq z]
abbrev zB :eV:= .row [(),(),(0:Int),(0:Int)]
def CpY(y yn:AV):Prop:=(y=()/\yn= .ls 2 [] true)\/(y= .ls 2 [] true/\yn= .ls 2 [] true)\/∃id k m,y= .sl id 2 0 m false/\yn= .sl k 2 0 m false
section run
variable (eG : FuncId -> LA -> Hp -> Option (AV × Hp)) (fr : LA) (h h1 ex : Hp) (y yn : AV) (i : Nat) (cq : List LA) (row : LA) (z : Bool) (kd : Int) (cp : fr.length = 60) (h2 : gt fr 2 = .pt 0 0) (h9 : gt fr 9 = y) (jv : gt fr 10 =i)
 (hi:i<cq.length) (hr:cq[i]?=some row) (cC:cq[i]=row) (lj:row.length=21) (hk:row[0]?=some (.sc (.int .i64 kd))) (hy:CpY y yn)
def L9(ae:fg BW (qB cq z::h) 83 (.ls 2 [] true) y=some (yn,qB cq z::h1)):
 ∃s',E3 BW eG U6.toArray (fr,qB cq z::h) s'/\OdP fr (qB cq z::(h1++[.row [y,yn,kd,(0:Int)]])) (h1.length+1) s':=by
 have kD:∀q,row[0]'q=kd:=λq=>by have:=Zb q;rw[hk]at this;exact(Option.some.inj this).symm
 have jV:∃s',dG BW eG U6.toArray U6 (fr,qB cq z::h)=some s'/\OdP fr (qB cq z::(h1++[.row [y,yn,kd,(0:Int)]])) (h1.length+1) s':=by
  rcases hy with⟨rfl,rfl⟩|⟨rfl,rfl⟩|⟨id,k,m,rfl,rfl⟩<;>simp[U6,cp,h2,h9,jv,hi,cC,lj,kD,ae,pZ,lY,chunk]<;>constructor<;>simp[cp,h2,h9,jv]
 obtain⟨s',jV,hP⟩:=jV;refine⟨s',⟨jV,λq hq o sj sm ho hj hm=>?_⟩,hP⟩;rw[XE]at hq;simp only[Yv,List.not_mem_nil,or_false]at hq;rcases hy with⟨rfl,rfl⟩|⟨rfl,rfl⟩|⟨id,k,m,rfl,rfl⟩<;>rcases hq with rfl|rfl|rfl|rfl<;>simp[U6]at ho<;>subst ho<;>simp[U6,cp,h2,h9,jv,hi,cC,lj,kD,ae,pZ,lY,chunk]at hj hm<;>subst hj<;>subst hm<;>simp[cp,lj,kD,pZ]
def L_(ae:fg BW (qB cq z::(h++[zB])) 83 (.ls 2 [] true) y=some (yn,qB cq z::(h++zB::ex))):
 ∃s',E3 BW eG U7.toArray (fr,qB cq z::h) s'/\OdP fr (qB cq z::(h++ .row [y,yn,kd,(0:Int)]::ex)) (h.length+1) s':=by
 have kD:∀q,row[0]'q=kd:=λq=>by have:=Zb q;rw[hk]at this;exact(Option.some.inj this).symm
 have q1:(h++zB::ex)[h.length]?=some zB:=by rw[Zf (Yq _)];simp
 have q2:∀b,(h++zB::ex).set h.length b=h++b::ex:=λb=>by rw[List.set_append_right _ _ (Yq _)];simp
 have jV:∃s',dG BW eG U7.toArray U7 (fr,qB cq z::h)=some s'/\OdP fr (qB cq z::(h++ .row [y,yn,kd,(0:Int)]::ex)) (h.length+1) s':=by
  rcases hy with⟨rfl,rfl⟩|⟨rfl,rfl⟩|⟨id,k,m,rfl,rfl⟩<;>simp[U7,cp,h2,h9,jv,hi,cC,lj,kD,ae,pZ,lY,chunk,q2]<;>constructor<;>simp[cp,h2,h9,jv]
 obtain⟨s',jV,hP⟩:=jV;refine⟨s',⟨jV,λq hq o sj sm ho hj hm=>?_⟩,hP⟩;rw[XF]at hq;simp only[Yv,List.not_mem_nil,or_false]at hq;rcases hy with⟨rfl,rfl⟩|⟨rfl,rfl⟩|⟨id,k,m,rfl,rfl⟩<;>rcases hq with rfl|rfl|rfl|rfl|rfl<;>simp[U7]at ho<;>subst ho<;>simp[U7,cp,h2,h9,jv,hi,cC,ae,pZ,lY,chunk]at hj hm<;>subst hj<;>subst hm<;>simp[cp,lj,kD,pZ,lY,chunk]
end run
end
end Go.Proofs.YtmocfjnklfpnbaaGreatDoor
