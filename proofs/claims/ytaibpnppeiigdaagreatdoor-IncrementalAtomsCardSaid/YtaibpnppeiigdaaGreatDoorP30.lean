/- Part of the proof. -/
import Derived.Test.YtaibpnppeiigdaaGreatDoorP29
set_option linter.all false
set_option maxHeartbeats 32000000
set_option maxRecDepth 100000
namespace Go.Proofs.YtaibpnppeiigdaaGreatDoor
open Go Go.Ae Go.Proofs.Tryz
section
attribute [local simp] zi XM
structure S0 (gc ea rc:LA)(L:List (List Int))(y:AV)(h:Hp):Prop where
 b0:At h 0 (.row gc)
 b1:At h 1 (.row ea)
 b2:At h 2 (.row rc)
 len:3<=h.length
 Es:kP h 1 (iN L) y
 far:∀k n,y= .sl k 1 0 n false->3<=k
def S0.mono {gc ea rc:LA}{L:List (List Int)}{y:AV}{h h':Hp}(m:S0 gc ea rc L y h)(hk:∀j,j<h.length->h'[j]?=h[j]?):S0 gc ea rc L y h':=by
 have hl:=m.len;have e2:h'[2]?=some (.row rc):=(hk 2 (by omega)).trans m.b2;refine⟨(hk 0 (by omega)).trans m.b0,(hk 1 (by omega)).trans m.b1,e2,(Za.1 e2).1,?_,m.far⟩;rcases m.Es with⟨h1,h2⟩|⟨h1,id,h2,h3⟩
 .exact .inl ⟨h1,h2⟩
 .exact .inr ⟨h1,id,h2,by rw[hk id (Za.1 h3).1];exact h3⟩
def S0.app {gc ea rc:LA}{L:List (List Int)}{y:AV}{h:Hp}(m:S0 gc ea rc L y h)(t:List Int)(hl:L.length<=1000000):
 ∃id h2,eE cx (h++[.row [.ls 1 (tI t) false]]) 55 y (.sl h.length 1 0 1 false)=some (.sl id 1 0 (L.length+1) false,h2)/\S0 gc ea rc (L++[t]) (.sl id 1 0 (L.length+1) false) h2:=by
 obtain⟨id,h3,b1,b2,b3,b4⟩:=gm (t:=55) xj rfl h [.ls 1 (tI t) false] (iN L) y m.Es rfl (λr hr=>(oO _).1 r hr) (by omega) (by rw[fy];omega) (by omega);rw[fy]at b1;have hl3:=m.len;have far:=m.far;refine⟨id,h3,b1,b3 0 _ m.b0 λk n q=>?_,b3 1 _ m.b1 λk n q=>?_,b3 2 _ m.b2 λk n q=>?_,?_,.inr ⟨by simp[iN],id,by simp[iN],by rw[b2];simp[iN]⟩,λk n q=>?_⟩
 .have:=far k n q;omega
 .have:=far k n q;omega
 .have:=far k n q;omega
 .have:=(Za.1 b2).1;omega
 .cases q;omega
def acs (N D:Nat)(b:Bool)(g:Gr)(a:Am)(h:Hp)(hb:AX D g)(hd:fB a.v<=D)(hv:gV a.v)(tW:a.ts.length<=1000000000000000)(mY:a.vs.length<=16):
 cW cx (N+3*D+5009) b 31 [.ag (dn g),.ag (encA a)] h=some (yZ g a,h):=by
 refine wH f31 [.cell 4 2 true] (OZ g a) ?_ b h;have mi:kx 31=8:=by decide
 rw[mi];have aa:=λb h=>Ek (N+D+5000) D b g h hb
 have ae:=λb h=>Wk (N+5001) D b a h hd hv tW
 have af:=λb h=>aa4 (N+3*D+5005) b a h tW
 have KZ:=λe b h (hl:a.vs.length=3)=>aaU (N+3*D+5005) b a e h hl
 have fht:=λe b h=>Q3 (N+3*D+5006) b e a.ts h tW
 have Rr:=λc b h (hl:c.labels.length<=1000000000000000) (hp:c.props.length<=1000000000000000) (hpb:KM D c.props) (pT:∀x∈c.props,x.v.l=[])=>aa2 (N+D+5001) D b c a h hl hp hpb pT hd hv
 have GB:=λb h=>Jt (N+3*D+5006) b a h mY
 have fso:=λ(L:List (List Int)) (hl:L.length<=4000) (ht:∀t∈L,t.length<=1000000) b h=>VS 4000 L hl (by omega) ht (N+3*D+1006) false b h
 have Ql:=λb h=>sN (N+3*D+5007) b (.sc (.slice none 0 0)) h (.inl rfl)
 have fsF:∀(L:List (List Int)) (id:Nat) (h:Hp),L.length<=4000->(∀t∈L,t.length<=1000000)->h[id]?=some (.row (iN L).flatten)->∃h',cW cx (N+3*D+5008) true 48 [.sl id 1 0 (iN L).length false] h=some (.ls 1 (iN (gd gq L)) false,h')/\∀j,j≠id->h'[j]?=h[j]?:=λL id h hl ht dC=>
  OQ (f:=48) (n:=N+3*D+5007) rfl (by kernel_rfl) rfl id h (by omega) (oO _).1 (oO _).2 dC λh=>by
   have:=fso L hl ht true h
   rwa [show N+3*D+1006+4000+2=N+3*D+5007+1 by omega]at this
 rw[show N+D+5000+2*D+8=N+3*D+5008 by omega]at aa;rw[show N+5001+3*D+7=N+3*D+5008 by omega]at ae;rw[show N+3*D+5005+3=N+3*D+5008 by omega]at af KZ;rw[show N+3*D+5006+2=N+3*D+5008 by omega]at fht GB;rw[show N+D+5001+2*D+7=N+3*D+5008 by omega]at Rr;rw[show N+3*D+5007+1=N+3*D+5008 by omega]at Ql;clear fso;generalize N+3*D+5008=M at aa ae af KZ fht Rr GB Ql fsF|-;have eM:=gB a;have CH:(dn g).length=4:=rfl;have akb:(dn g)[0]?=some (.ls 3 (lU g.nodes) false):=rfl;have akc:(dn g)[1]?=some (.ls 5 (mA g.cZ) false):=rfl;have tq:=fJ g.nodes;have ZJ:=mM g.nodes;have qD:=fU g.cZ;have rS:=mN g.cZ;have AW:=dU (eu a.vs);have Rf:=dU a.vs;have hga:=lf a.vs;have hsf:=Q_ a;have SZ:encA a= .sc (.int .i64 a.k):: .ls 1 (tI a.vs) false:: .sc (.string a.nm):: .ls 1 (gP a.ts) false::enc a.v:=rfl;have Rr:gN g=0->∀c∈g.nodes,∀b h,cW cx M b 72 [.ag (eo c),.ag (encA a)] h=some (.sc (.bool (xI c a)),h):=λh1 c hc b h=>by
  obtain⟨n1,n2,n3⟩:=hb.ns c hc;exact Rr c b h n1 n2 n3 λx hx=>(OX (zK ((Ew h1).np c hc) x hx)).1
 have Wo:¬vP g a->yZ g a= .ag [(0:Int),.ls 1 [] false]:=λiG=>by
  unfold yZ iW;have MQ:¬(gN g=0/\lY a=true/\yU a=true):=iG;rw[db iG,db MQ];rfl
 generalize dn g=gc at *;have tQ:gc.take 4=gc:=Ys (by omega);have Wm:=gA akb
 have Rs:=gA akc
 rw[SZ]at ae af KZ GB eM|-;simp only[SZ]at Rr;unfold iK at fht;generalize lU g.nodes=jW at *;generalize mA g.cZ=h_ at *;generalize gP a.ts=iO at *;generalize enc a.v=ev at *;simp only[Yw]at eM;have eM:ev.length=5:=by omega
 have nk:ev.take 5=ev:=Ys (by omega);by_cases h1:gN g=0
 case neg=>
  rw[Wo λq=>h1 q.1];simp[f31,eM,CH,tQ,aa,h1,wo];exact gz ⟨_,rfl,rfl⟩
 rw[h1]at aa;cases h2:Jy a
 case false=>
  rw[Wo λq=>by have:=q.2.1;rw[hsf,h2]at this;cases this];rw[h2]at ae;simp[f31,eM,nk,CH,tQ,aa,ae,wo];exact gz ⟨_,rfl,rfl⟩
 rw[h2]at ae;cases h3:yU a
 case false=>
  rw[Wo λq=>by have:=q.2.2;rw[h3]at this;cases this];rw[h3]at af;simp[f31,eM,nk,CH,tQ,aa,ae,af,wo];exact gz ⟨_,rfl,rfl⟩
 rw[h3]at af;rw[h2,Bool.true_and]at hsf;generalize tI (eu a.vs)=Cy at *;generalize tI a.vs=rK at *;simp[f31,eM,nk,CH,tQ,aa,ae,af];refine LM
  (λi s iR=>i<=a.vs.length/\s.length=104/\gt s 2= .pt 0 0/\gt s 3= .pt 1 0/\gt s 4= .pt 2 0/\gt s 5=i/\iR=[.row gc,.row (.sc (.int .i64 a.k):: .ls 1 rK false:: .sc (.string a.nm):: .ls 1 iO false::ev),.row [(0:Int),()]]/\∀j x,j<i->a.vs[j]?=some x->0<=x)
  (λo s iR=>s.length=104/\gt s 4= .pt 2 0/\((o= .exit 0/\gt s 2= .pt 0 0/\gt s 3= .pt 1 0/\iR=[.row gc,.row (.sc (.int .i64 a.k):: .ls 1 rK false:: .sc (.string a.nm):: .ls 1 iO false::ev),.row [(0:Int),()]]/\lY a=true)\/(o= .ret/\lY a=false/\iR[2]?=some (.row [(0:Int),()])))) a.vs.length (by simp;omega) ?_ ?_ ?_
 .exact⟨by omega,rfl,rfl,rfl,rfl,rfl,rfl,λj x hj=>by omega⟩
 .rintro i fr hp _ ⟨kY,cU,g2,g3,g4,g5,hh,qC⟩;subst hh;have mj:i<=1000000000000000:=by omega
  by_cases hi:i<a.vs.length
  .obtain⟨x,hx⟩:=eA hi;have hr:rK[i]?=some [.sc (.int .i64 x)]:=by rw[hga,hx];rfl
   have du:=gA hr
   by_cases YQ:x<0
   .have agU:¬0<=x:=by omega
    have hs:lY a=false:=by
     rw[hsf,Bool.eq_false_iff];intro q;rw[Yr]at q;have:=q x (Zi hx);simp at this;omega
    simp[cU,g2,g3,g4,g5,hi,Rf,du,YQ,wo];exact hs
   .have agU:0<=x:=by omega
    simp[cU,g2,g3,g4,g5,hi,Rf,du,YQ,di mj];refine⟨by omega,λj y hj hy=>?_⟩;by_cases e:j=i
    .subst e;rw[hx]at hy;cases hy;exact agU
    .exact qC j y (by omega) hy
  .have gG:i=a.vs.length:=Yc kY (Yb hi);have hs:lY a=true:=by
    rw[hsf,Yr];intro x hx;obtain⟨j,hj,e⟩:=List.mem_iff_getElem.1 hx;simp;exact qC j x (by omega) (by rw[Zb hj,e])
   subst gG;simp[cU,g2,g3,g4,g5,Rf];exact hs
 .rintro o fr hp hn ⟨cU,g4,⟨rfl,g2,g3,hh,hs⟩|⟨rfl,hs,hh⟩⟩
  case inr=>
   rw[Wo λq=>by have:=q.2.1;rw[hs]at this;cases this];simp[g4,hh];exact gz ⟨_,rfl,rfl⟩
  subst hh;have iG:vP g a:=⟨h1,hs,h3⟩;have hrv:yZ g a= .ag [.sc (.int .i64 ((eu a.vs).length:Nat)),.ls 1 (iN (gd gq (lh g a))) false]:=by
   have MQ:gN g=0/\lY a=true/\yU a=true:=iG;unfold yZ iW;rw[dd iG,dd MQ]
  rw[hrv];clear hrv Wo;have AO:=Ew h1;have g_:=uz hs;have nC:=yV AO a;have fX:=yX (g:=g) hs;have Rr:=Rr h1;have s7:S0 gc (.sc (.int .i64 a.k):: .ls 1 rK false:: .sc (.string a.nm):: .ls 1 iO false::ev) [(0:Int),()] [] (.sc (.slice none 0 0)) [.row gc,.row (.sc (.int .i64 a.k):: .ls 1 rK false:: .sc (.string a.nm):: .ls 1 iO false::ev),.row [(0:Int),()]]:=⟨rfl,rfl,rfl,by simp,.inl ⟨rfl,rfl⟩,λk n q=>by cases q⟩;by_cases hk:a.k=3
  .have aa6:a.vs.length=3:=by rcases g_ with q|q<;>omega
   have hrF:lh g a=g.cZ.filterMap (ke a):=by unfold lh;rw[dd hk]
   rw[hrF]at nC fX|-;simp[cU,g3,hk];rw[hk]at KZ GB s7;refine LM
    (λi s iR=>i<=g.cZ.length/\s.length=104/\gt s 2= .pt 0 0/\gt s 3= .pt 1 0/\gt s 4= .pt 2 0/\gt s 7=i/\∃y,gt s 6=y/\S0 gc (.sc (.int .i64 3):: .ls 1 rK false:: .sc (.string a.nm):: .ls 1 iO false::ev) [(0:Int),()] ((g.cZ.take i).filterMap (ke a)) y iR)
    (λo s iR=>o= .exit 2/\s.length=104/\gt s 3= .pt 1 0/\gt s 4= .pt 2 0/\∃y,gt s 6=y/\S0 gc (.sc (.int .i64 3):: .ls 1 rK false:: .sc (.string a.nm):: .ls 1 iO false::ev) [(0:Int),()] (g.cZ.filterMap (ke a)) y iR) g.cZ.length (by have:=AO.el;simp;omega) ?_ ?_ ?_
   .exact⟨by omega,by simp[cU],by simp[g2],by simp[g3],by simp[g4],by simp[cU],_,by simp[cU],s7⟩
   .clear cU g2 g3 g4 s7;rintro i fr hp _ ⟨kY,cU,g2,g3,g4,g7,y,g6,m⟩;have Bu:=AO.el;have mj:i<=1000000000000000:=by omega
    have z0:=m.b0.vg;have Qo:=m.b0.get;have z1:=m.b1.vg;have Lt:=m.b1.get;by_cases hi:i<g.cZ.length
    .obtain⟨e,he⟩:=eA hi;have hr:h_[i]?=some (eY e):=by rw[rS,he];rfl
     have du:=gA hr
     have dD:(g.cZ.take (i+1)).filterMap (ke a)=(g.cZ.take i).filterMap (ke a)++Hm (ke a e):=by
      rw[Yx,he,List.filterMap_append];cases q:ke a e<;>simp[Hm,q]
     have hLl:((g.cZ.take i).filterMap (ke a)).length<=1000000:=by
      have:=List.length_filterMap_le (ke a) (g.cZ.take i);rw[Yy]at this;omega
     have hids:=(V9 h1).2 e (Zi he);have hte:MH a.vs (mU e)=pK a.vs (mU e):=ad7 (by rw[aa6];rfl) λd hd=>by
      have:d=e.src\/d=e.id\/d=e.dst:=by simpa[mU]using hd
      omega
     have KZ:=λb h=>KZ e b h aa6
     have ft:=λb h=>fht e b h
     rw[hte]at KZ;have q6:=oG (λv=>m.Es.np v)
     unfold ke at dD;unfold eY iE at hr du ft KZ;cases ht:pK a.vs (mU e)with
     |
      none=>
      rw[ht]at KZ;simp only[MJ]at KZ;have dD:(g.cZ.take (i+1)).filterMap (ke a)=(g.cZ.take i).filterMap (ke a):=by
       have:(if htS e a.ts=true then pK a.vs (mU e)else none)=none:=by rw[ht];split<;>rfl
       rw[this,Hm,Yp]at dD;exact dD
      simp[cU,g2,g3,g4,g7,z0,z1,CH,Rs,hi,qD,du,eM,nk,KZ,di mj];refine⟨hi,?_⟩;rw[dD,g6];exact m
     |
      some t=>
      rw[ht]at KZ;simp only[MJ]at KZ;cases hh:htS e a.ts
      .rw[hh]at ft;have dD:(g.cZ.take (i+1)).filterMap (ke a)=(g.cZ.take i).filterMap (ke a):=by
        rw[hh]at dD;simp only[Yq,if_false,Hm,Yp]at dD;exact dD
       simp[cU,g2,g3,g4,g7,z0,z1,CH,Rs,hi,qD,du,eM,nk,KZ,ft,di mj];refine⟨hi,?_⟩;rw[dD,g6];exact m
      .rw[hh]at ft;have dD:(g.cZ.take (i+1)).filterMap (ke a)=(g.cZ.take i).filterMap (ke a)++[t]:=by
        rw[hh,ht]at dD;simp only[if_true,Hm]at dD;exact dD
       obtain⟨id,h2,b1,m2⟩:=m.app t hLl;generalize tI t=tr at KZ b1;simp[cU,g2,g3,g4,g7,g6,q6,z0,z1,CH,Rs,hi,qD,du,eM,nk,KZ,ft,Js,b1,di mj];refine⟨hi,?_⟩;rw[dD];exact m2
    .have gG:i=g.cZ.length:=Yc kY (Yb hi);subst gG;rw[Yz]at m;simp[cU,g2,g3,g4,g7,z0,CH,Rs,qD];rw[g6];exact m
   .rintro o fr hp hn ⟨rfl,cU,g3,g4,y,g6,m⟩;have z1:=m.b1.vg;have Lt:=m.b1.get;have z2:=m.b2.vg;have IZ:=m.b2.get;rcases m.Es with⟨w1,rfl⟩|⟨w1,id,rfl,w3⟩
    .have p_:(g.cZ.filterMap (ke a))=[]:=by
      cases q:(g.cZ.filterMap (ke a))with
      |nil=>rfl
      |cons x l=>rw[q]at w1;simp[iN]at w1
     have z4:=λx=>(m.b2.new x).vg
     rw[p_];simp[cU,g3,g4,g6,z1,z2,z4,eM,nk,GB,Ql,AW,FT,Hl,wo];exact gz ⟨_,rfl,rfl⟩
    .have Ag:=m.far id _ rfl;obtain⟨h9,e9,k9⟩:=fsF (g.cZ.filterMap (ke a)) id hp (by omega) (λt ht=>by have:=fX t ht;omega) w3;have z3:At h9 2 (.row [(0:Int),()]):=(k9 2 (by omega)).trans m.b2;have z3q:=z3.vg;have z3':=z3.get;have z4:=λx=>(z3.new x).vg
     generalize iN (gd gq (g.cZ.filterMap (ke a)))=rr at e9|-;generalize(iN (g.cZ.filterMap (ke a))).length=rl at e9 g6;simp[cU,g3,g4,g6,z1,z3q,z4,eM,nk,GB,e9,AW,FT,Hl,wo];exact gz ⟨_,rfl,rfl⟩
  .have aei:a.vs.length=1:=by rcases g_ with q|q<;>omega
   have hrF:lh g a=g.nodes.filterMap (kn a):=by unfold lh;rw[db hk]
   rw[hrF]at nC fX|-;simp[cU,g3,hk];refine LM
    (λi s iR=>i<=g.nodes.length/\s.length=104/\gt s 2= .pt 0 0/\gt s 3= .pt 1 0/\gt s 4= .pt 2 0/\gt s 10=i/\∃y,gt s 6=y/\S0 gc (.sc (.int .i64 a.k):: .ls 1 rK false:: .sc (.string a.nm):: .ls 1 iO false::ev) [(0:Int),()] ((g.nodes.take i).filterMap (kn a)) y iR)
    (λo s iR=>o= .exit 4/\s.length=104/\gt s 3= .pt 1 0/\gt s 4= .pt 2 0/\∃y,gt s 6=y/\S0 gc (.sc (.int .i64 a.k):: .ls 1 rK false:: .sc (.string a.nm):: .ls 1 iO false::ev) [(0:Int),()] (g.nodes.filterMap (kn a)) y iR) g.nodes.length (by have:=AO.nl;simp;omega) ?_ ?_ ?_
   .exact⟨by omega,by simp[cU],by simp[g2],by simp[g3],by simp[g4],by simp[cU],_,by simp[cU],s7⟩
   .clear cU g2 g3 g4 s7;rintro i fr hp _ ⟨kY,cU,g2,g3,g4,g10,y,g6,m⟩;have Bu:=AO.nl;have mj:i<=1000000000000000:=by omega
    have z0:=m.b0.vg;have Qo:=m.b0.get;have z1:=m.b1.vg;have Lt:=m.b1.get;by_cases hi:i<g.nodes.length
    .obtain⟨c,hc⟩:=eA hi;have hr:jW[i]?=some (eo c):=by rw[ZJ,hc];rfl
     have du:=gA hr
     have dD:(g.nodes.take (i+1)).filterMap (kn a)=(g.nodes.take i).filterMap (kn a)++Hm (kn a c):=by
      rw[Yx,hc,List.filterMap_append];cases q:kn a c<;>simp[Hm,q]
     have hLl:((g.nodes.take i).filterMap (kn a)).length<=1000000:=by
      have:=List.length_filterMap_le (kn a) (g.nodes.take i);rw[Yy]at this;omega
     have ft:=λb h=>Rr c (Zi hc) b h
     have q6:=oG (λv=>m.Es.np v)
     unfold kn at dD;unfold eo iK iE at hr du ft;cases hh:xI c a
     .rw[hh]at ft;have dD:(g.nodes.take (i+1)).filterMap (kn a)=(g.nodes.take i).filterMap (kn a):=by
       rw[hh]at dD;simp only[Yq,if_false,Hm,Yp]at dD;exact dD
      simp[cU,g2,g3,g4,g10,z0,z1,CH,Wm,hi,tq,du,eM,nk,ft,di mj];refine⟨hi,?_⟩;rw[dD,g6];exact m
     .rw[hh]at ft;have dD:(g.nodes.take (i+1)).filterMap (kn a)=(g.nodes.take i).filterMap (kn a)++[[c.id]]:=by
       rw[hh]at dD;simp only[if_true,Hm]at dD;exact dD
      have e0:(hp++[fp.row [c.id]])[hp.length]?=some (.row (tI [c.id]).flatten):=by simp[tI,p8]
      obtain⟨h5,u1,u2,u3,u4⟩:=MF (by omega) (pJ [c.id]).1 (pJ [c.id]).2 e0;have m5:S0 gc (.sc (.int .i64 a.k):: .ls 1 rK false:: .sc (.string a.nm):: .ls 1 iO false::ev) [(0:Int),()] ((g.nodes.take i).filterMap (kn a)) y h5:=m.mono λj hj=>by rw[u4 j (by omega),Zd hj]
      obtain⟨id,h2,b1,m2⟩:=m5.app [c.id] hLl;rw[dU]at u2;simp only[Yw,Xa,Xb]at u2;generalize tI [c.id]=tr at u2 b1;simp[cU,g2,g3,g4,g10,g6,q6,z0,z1,CH,Wm,hi,tq,du,eM,nk,ft,Js,u1,u2,b1,di mj];refine⟨hi,?_⟩;rw[dD];exact m2
    .have gG:i=g.nodes.length:=Yc kY (Yb hi);subst gG;rw[Yz]at m;simp[cU,g2,g3,g4,g10,z0,CH,Wm,tq];rw[g6];exact m
   .rintro o fr hp hn ⟨rfl,cU,g3,g4,y,g6,m⟩;have z1:=m.b1.vg;have Lt:=m.b1.get;have z2:=m.b2.vg;have IZ:=m.b2.get;rcases m.Es with⟨w1,rfl⟩|⟨w1,id,rfl,w3⟩
    .have p_:(g.nodes.filterMap (kn a))=[]:=by
      cases q:(g.nodes.filterMap (kn a))with
      |nil=>rfl
      |cons x l=>rw[q]at w1;simp[iN]at w1
     have z4:=λx=>(m.b2.new x).vg
     rw[p_];simp[cU,g3,g4,g6,z1,z2,z4,eM,nk,GB,Ql,AW,FT,Hl,wo];exact gz ⟨_,rfl,rfl⟩
    .have Ag:=m.far id _ rfl;obtain⟨h9,e9,k9⟩:=fsF (g.nodes.filterMap (kn a)) id hp (by omega) (λt ht=>by have:=fX t ht;omega) w3;have z3:At h9 2 (.row [(0:Int),()]):=(k9 2 (by omega)).trans m.b2;have z3q:=z3.vg;have z3':=z3.get;have z4:=λx=>(z3.new x).vg
     generalize iN (gd gq (g.nodes.filterMap (kn a)))=rr at e9|-;generalize(iN (g.nodes.filterMap (kn a))).length=rl at e9 g6;simp[cU,g3,g4,g6,z1,z3q,z4,eM,nk,GB,e9,AW,FT,Hl,wo];exact gz ⟨_,rfl,rfl⟩
end
def CI {D:Nat}:∀{cs:List Ch} {g:Gr} {i:Nat},p9 D g->(∀c∈cs,fB c.v<=D/\gV c.v)->(ja g cs i).2.2=0->p9 D (ja g cs i).1
 | [],g,i,H,_,_=>H
 |
  c::cs,g,i,H,hc,h0=>by
  unfold ja at h0|-;by_cases e:(jc g c).2=0
  .rw[dd e]at h0|-;exact CI (yT H (hc c (by simp)).1 (hc c (by simp)).2 e) (λx hx=>hc x (Xn _ hx)) h0
  .rw[db e]at h0;exact absurd h0 e
def JL {D:Nat}{g:Gr}{cs:List Ch}(hb:AX D g)(hc:∀c∈cs,fB c.v<=D/\gV c.v)(h:(jG g cs).2.2=0):gN g=0/\p9 D (jG g cs).1:=by
 unfold jG at h|-;by_cases e:gN g=0
 .rw[db (λq=>q e)]at h|-;exact⟨e,CI (Gu e hb) hc h⟩
 .rw[dd e]at h;exact absurd h e
def Ru :List Ch->Int->Int
 | [],b=>b
 |c::cs,b=>if 0<=b then Ru cs (pZ c.v (b-3-(c.name.size:Int)/50) 12)else b
def Fj (cs:List Ch):Bool:=decide (0<=Ru cs 32) && decide (cs.length<=8)
def zM (cs:List Ch)(b:Int)(i:Nat):Int:=Ru (cs.drop i) b
def Rx (l:List Ch)(b:Int)(i:Nat)(h:l.length<=i):zM l b i=b:=by unfold zM;rw[Zt h];rfl
def Ry (l:List Ch)(b:Int)(i:Nat)(h:¬0<=b):zM l b i=b:=by
 unfold zM;cases l.drop i with
 |nil=>rfl
 |cons c t=>rw[Ru,db h]
def MU {l:List Ch}{b:Int}{i:Nat}{c:Ch}(h:l[i]?=some c)(hb:0<=b):zM l b i=zM l (pZ c.v (b-3-(c.name.size:Int)/50) 12) (i+1):=by
 obtain⟨k,e⟩:=Za.1 h;unfold zM;rw[Zm k,e,Ru,dd hb]
def lI (a:Am):Bool:=decide (a.vs.length<=8) && (decide (a.ts.length<=12) && (decide (a.nm.size<=100) && decide (0<=pZ a.v 99 12)))
section
attribute [local simp] zi XM
def aba (N D:Nat)(b:Bool)(cs:List Ch)(z:Bool)(h:Hp)(hl:cs.length<=1000000000000000)(hc:∀c∈cs,fB c.v<=D/\gV c.v/\c.name.size<=1000000000000000):
 cW cx (N+D+2) b 22 [.ls 10 (zd cs) z,(8:Int)] h=some (.sc (.bool (Fj cs)),h):=by
 refine fZ f22 [.tmp 4] rfl rfl ?_ b h;have hq:=wm cs;have hg:=Gh cs;unfold Fj;generalize zd cs=cY at hq hg;generalize hT:Ru cs 32=T;simp[f22];refine lS
  (λi st _=>∃c:Int,T=zM cs c i/\c<=2000/\st.length=43/\gt st 0= .ls 10 cY z/\gt st 1=(8:Int)/\gt st 5=c/\gt st 6=i)
  (λo s _=>o= .exit 0/\s.length=43/\gt s 0= .ls 10 cY z/\gt s 1=(8:Int)/\gt s 5=T) cs.length (by simp;omega) ?_ ?_ ?_
 .exact⟨32,hT.symm,by omega,rfl,rfl,rfl,rfl,rfl⟩
 .rintro i fr hp eG ⟨c,hT,Hj,cU,g0,g1,g5,g6⟩;by_cases hi:i<cs.length
  .obtain⟨x,hx⟩:=eA hi;have AK:=hc x (Zi hx);by_cases pS:0<=c
   .have hw:=λb h=>yF D x.v AK.1 AK.2.1 N (c-3-(x.name.size:Int)/50) 12 (by have:=AK.2.2;omega) (by omega) (by omega) (by omega) b h
    have hf:=di (Yn eG hl);have e2:dM .i64 ((x.name.size:Int)/50)=(x.name.size:Int)/50:=dh (by have:=AK.2.2;omega) (by have:=AK.2.2;omega);have e1:dM .i64 (c-3)=c-3:=dh (by omega) (by omega);have e3:dM .i64 (c-3-(x.name.size:Int)/50)=c-3-(x.name.size:Int)/50:=dh (by have:=AK.2.2;omega) (by have:=AK.2.2;omega);have dD:=MU hx pS;have rE:=xy x.v (c-3-(x.name.size:Int)/50) 12 (by omega);rw[<-hT]at dD;have nk:=i7 x.v;have hr:cY[i]?=some (dp x):=by rw[hg,hx];rfl
    have du:=gA hr
    unfold dp at hr du;generalize enc x.v=ev at hw nk hr du;generalize pZ x.v (c-3-(x.name.size:Int)/50) 12=w at hw dD rE;have ael:ev.take 5=ev:=Ys (by omega);simp[cU,g0,g1,g5,g6,hi,hq,du,pS,nk,ael,e1,e2,e3,hw,hf]
    first
     |exact⟨dD,rE⟩
     |exact⟨hi,dD,rE⟩
     |exact⟨hi,w,dD,rE,rfl⟩
   .have zz:T=c:=by rw[hT,Ry _ _ _ pS]
    simp[cU,g0,g1,g5,g6,hi,hq,pS,zz]
  .have zz:T=c:=by rw[hT,Rx _ _ _ (by omega)]
   simp[cU,g0,g1,g5,g6,hi,hq,zz]
 .rintro o fr hp hn ⟨rfl,cU,g0,g1,g5⟩;by_cases h0:0<=T
  .by_cases h8:cs.length<=8
   .have HV:(cs.length:Int)<=8:=by omega
    simp[cU,g0,g1,g5,h0,hq,h8,HV]
   .have HV:¬(cs.length:Int)<=8:=by omega
    simp[cU,g0,g1,g5,h0,hq,h8,HV]
  .simp[cU,g5,h0]
def MV (N D:Nat)(b:Bool)(v:V)(z z':Bool)(h:Hp)(hd:fB v<=D)(hv:gV v):
 cW cx (N+D+2) b 51 [.ls 1 [[.ls 5 [enc v] z]] z',(100:Int)] h=some (.sc (.bool (decide (0<=pZ v 99 12))),h):=by
 refine fZ f51 [.tmp 4] rfl rfl ?_ b h;have hw:=λb h=>yF D v hd hv N 99 12 (by omega) (by omega) (by omega) (by omega) b h
 have nk:=i7 v;generalize enc v=ev at hw nk|-;have ael:ev.take 5=ev:=Ys (by omega);generalize pZ v 99 12=w at hw|-;have e1:dM .i64 (100-1)=99:=dh (by omega) (by omega);have e2':dM .i64 1=1:=dh (by omega) (by omega);have e3:dM .i64 99=99:=dh (by omega) (by omega);simp[f51];refine lS
  (λi st _=>st.length=43/\gt st 0= .ls 1 [[.ls 5 [ev] z]] z'/\((i=0/\gt st 5=(0:Int)/\gt st 1=(100:Int))\/(i=1/\gt st 5=(1:Int)/\gt st 1=w)))
  (λo s _=>o= .exit 0/\s.length=43/\gt s 1=w) 1 (by simp) ?_ ?_ ?_
 .exact⟨rfl,rfl,.inl ⟨rfl,rfl,rfl⟩⟩
 .rintro i fr hp _ ⟨cU,g0,⟨rfl,g5,g1⟩|⟨rfl,g5,g1⟩⟩
  .simp[cU,g0,g5,g1,e3];generalize hX:dS cx (cW cx (N+D+1)) (Code.loop _) _=X;have HL:=ux (call:=cW cx (N+D+1)) (λj s=>s.1.length=43/\gt s.1 0= .ls 1 [[.ls 5 [ev] z]] z'/\gt s.1 5=(0:Int)/\((j=0/\gt s.1 6=(0:Int)/\gt s.1 1=(99:Int))\/(j=1/\gt s.1 6=(1:Int)/\gt s.1 1=w)))
    (λo s=>o= .exit 2/\s.1.length=43/\gt s.1 0= .ls 1 [[.ls 5 [ev] z]] z'/\gt s.1 5=(0:Int)/\gt s.1 1=w) 1 (by simp) X _ _ _ hX ⟨by simp[cU],by simp[g0],by simp[g5],.inl ⟨rfl,by simp[cU],by simp[cU]⟩⟩ (by
    rintro j xz h2 _ ⟨fl,k0,k5,⟨rfl,k6,k1⟩|⟨rfl,k6,k1⟩⟩
    .simp only at fl k0 k5 k6 k1;simp[fl,k0,k5,k6,k1,nk,ael,hw,e2']
    .simp only at fl k0 k5 k6 k1;simp[fl,k0,k5,k6,k1])
   obtain⟨o,xz,h2,rfl,rfl,fl,k0,k5,k1⟩:=HL;simp only at fl k0 k5 k1;simp[fl,k0,k5,k1,e2']
  .simp[cU,g0,g5,g1]
 .rintro o fr hp hn ⟨rfl,cU,g1⟩;simp[cU,g1]
def JM (v:V):(enc v).all d_=true:=by
 obtain⟨k,n,d,s,z,l⟩:=v;rw[enc];unfold ql;cases z && (dN l).isEmpty<;>rfl
def agV (a:AV):chunk 1 1 [a]=[[a]]:=rfl
def akd (a x:AV):da [a] 0 [x]=[x]:=rfl
def JN (N D:Nat)(b:Bool)(a:Am)(h:Hp)(hd:fB a.v<=D)(hv:gV a.v):cW cx (N+D+3) b 23 [.ag (encA a)] h=some (.sc (.bool (lI a)),h):=by
 refine fZ f23 [.tmp 2] (kp a) rfl ?_ b h;have aa:=λz z' b h=>MV N D b a.v z z' h hd hv
 have eM:=gB a;have hq:=dG a.ts;have zJ:=dU a.vs;have HF:=JM a.v;have fq:∀(k:Nat) (r:List LA) (z:Bool),d_ (.ls k r z)=true:=λk r z=>rfl
 unfold lI;generalize pZ a.v 99 12=w at aa|-;unfold encA iK at *;generalize N+D+2=M at aa|-;generalize tI a.vs=cY at eM zJ|-;generalize gP a.ts=iO at eM hq|-;generalize enc a.v=ev at eM aa HF|-;simp only[Yw]at eM;have eM:ev.length=5:=by omega
 have nk:ev.take 5=ev:=Ys (by omega);have ake:da [(0:Int),(0:Int),(0:Int),.sc (.string ⟨#[]⟩),()] 0 ev=ev:=by
  unfold da;rw[List.take_zero,Zw,Xb,eM];simp
 have UF:chunk 5 1 ev=[ev]:=by
  unfold chunk;simp[nk]
 generalize a.vs.length=vl at *;generalize a.ts.length=tl at *;by_cases h1:vl<=8
 .have zH:(vl:Int)<=8:=by omega
  by_cases h2:tl<=12
  .have wT:(tl:Int)<=12:=by omega
   by_cases h3:a.nm.size<=100
   .have h3':(a.nm.size:Int)<=100:=by omega
    simp[f23,eM,nk,zJ,hq,h1,zH,h2,wT,h3,h3',oy,ake,UF,HF,fq,agV,akd,aa]
   .have h3':¬(a.nm.size:Int)<=100:=by omega
    simp[f23,eM,zJ,hq,h1,zH,h2,wT,h3,h3']
  .have wT:¬(tl:Int)<=12:=by omega
   simp[f23,eM,zJ,hq,h1,zH,h2,wT]
 .have zH:¬(vl:Int)<=8:=by omega
  simp[f23,eM,zJ,h1,zH]
@[simp] def akS :cx.T 38=some {size:=2,agg:=true,zero:=[.slice none 0 0,.slice none 0 0],kd:= .struct [(0,1,false),(1,1,false)]}:=by kernel_rfl
@[simp] def ai7 :cx.T 36=some {size:=1,agg:=false,zero:=[.slice none 0 0],kd:= .slice 9 true 136 [.int .i64 0,.slice none 0 0,.string ⟨#[]⟩,.slice none 0 0,.int .i64 0,.int .i64 0,.int .i64 0,.string ⟨#[]⟩,.slice none 0 0]}:=by kernel_rfl
def amR (l:List Am):List LA:=l.map encA
def MW (l:List Am):(amR l).length=l.length:=by simp[amR]
def abb (l:List Am)(i:Nat):(amR l)[i]?=(l[i]?).map encA:=by simp[amR]
def aem {c:LA}(h:c.length=9):da [(0:Int),(),.sc (.string ⟨#[]⟩),(),(0:Int),(0:Int),(0:Int),.sc (.string ⟨#[]⟩),()] 0 c=c:=by
 unfold da;rw[List.take_zero,Zw,Xb,h];simp
def acu (va:AV)(n:Nat):Prop:=(∃vs z,va=iK vs z/\vs.length=n)\/(va=()/\n=0)
def vS (n:Nat)(l:List Am):Bool:=decide (n<=30) && (decide (l.length<=14) && l.all lI)
def abd {va:AV}{n:Nat}(h:acu va n)(x:AV)(hx:eT x=true):[AV.ag [va,x]].all d_=true:=by
 rw[Zn,gT,Zn,Zn,hx];rcases h with⟨vs,z,rfl,_⟩|⟨rfl,_⟩<;>rfl
def Y2 (N D:Nat)(b:Bool)(va:AV)(n:Nat)(L:List Am)(z:Bool)(h:Hp)(hva:acu va n)(hL:L.length<=1000000000000000)(hb:∀a∈L,fB a.v<=D/\gV a.v):
 cW cx (N+D+4) b 7 [.ag [va,.ls 9 (amR L) z]] h=some (.sc (.bool (vS n L)),h):=by
 refine fZ f7 [.tmp 2] (abd hva _ rfl) rfl ?_ b h;have aa:=λa b h (ha:a∈L)=>JN N D b a h (hb a ha).1 (hb a ha).2
 have hq:=MW L;have hg:=abb L;unfold vS;generalize N+D+3=M at aa|-;generalize amR L=cY at hq hg|-;rcases hva with⟨vs,zv,rfl,rfl⟩|⟨rfl,rfl⟩
 .have AW:=dG vs;unfold iK;generalize gP vs=Cy at AW;by_cases h1:vs.length<=30
  case neg=>
   have zH:(30:Int)<vs.length:=by omega
   have akf:30<vs.length:=by omega
   simp[f7,AW,h1,zH]
  case pos=>
   have zH:¬(30:Int)<vs.length:=by omega
   have akf:¬30<vs.length:=by omega
   by_cases h2:L.length<=14
   case neg=>
    have wT:(14:Int)<L.length:=by omega
    have aen:14<L.length:=by omega
    simp[f7,AW,h1,zH,hq,h2,wT]
   case pos=>
    have wT:¬(14:Int)<L.length:=by omega
    have aen:¬14<L.length:=by omega
    simp[f7,AW,h1,zH,hq,h2,wT];refine lS
     (λi s _=>i<=L.length/\s.length=26/\gt s 16= .ls 9 cY z/\gt s 17=L.length/\gt s 18=i/\L.all lI=(L.drop i).all lI)
     (λo s _=>s.length=26/\((o= .exit 0/\L.all lI=true)\/(o= .ret/\L.all lI=false/\gt s 2=false))) L.length (by simp;omega) ?_ ?_ ?_
    .exact⟨by omega,rfl,rfl,rfl,rfl,rfl⟩
    .rintro i fr hp _ ⟨kY,cU,g16,g17,g18,ho⟩;have mj:i<=1000000000000000:=by omega
     by_cases hi:i<L.length
     .obtain⟨a,ha⟩:=eA hi;have hr:cY[i]?=some (encA a):=by rw[hg,ha];rfl
      have du:=gA hr
      have aa:=λb h=>aa a b h (Zi ha)
      have tw:=gB a;have Ao:(encA a).take 9=encA a:=Ys (by omega);have pY:=aem tw;have hd:L.drop i=a::L.drop (i+1):=by
       obtain⟨k,e⟩:=Za.1 ha;rw[Zm k,e]
      rw[hd,Zn]at ho;generalize encA a=ea at hr du aa tw Ao pY;cases hc:lI a
      .rw[hc,Bool.false_and]at ho;rw[hc]at aa;simp[cU,g16,g17,g18,hi,hq,du,tw,Ao,pY,aa,ho]
      .rw[hc,Bool.true_and]at ho;rw[hc]at aa;simp[cU,g16,g17,g18,hi,hq,du,tw,Ao,pY,aa,di mj];exact⟨hi,ho⟩
     .have gG:i=L.length:=Yc kY (Yb hi);subst gG;have vZ:L.all lI=true:=by rw[ho];simp
      simp[cU,g17,g18,vZ]
    .rintro o fr hp hn ⟨cU,⟨rfl,ho⟩|⟨rfl,ho,g2⟩⟩
     .simp[cU,ho]
     .simp[g2,ho]
 .skip
  case _=>
   by_cases h2:L.length<=14
   case neg=>
    have wT:(14:Int)<L.length:=by omega
    have aen:14<L.length:=by omega
    simp[f7,hq,h2,wT]
   case pos=>
    have wT:¬(14:Int)<L.length:=by omega
    have aen:¬14<L.length:=by omega
    simp[f7,hq,h2,wT];refine lS
     (λi s _=>i<=L.length/\s.length=26/\gt s 16= .ls 9 cY z/\gt s 17=L.length/\gt s 18=i/\L.all lI=(L.drop i).all lI)
     (λo s _=>s.length=26/\((o= .exit 0/\L.all lI=true)\/(o= .ret/\L.all lI=false/\gt s 2=false))) L.length (by simp;omega) ?_ ?_ ?_
    .exact⟨by omega,rfl,rfl,rfl,rfl,rfl⟩
    .rintro i fr hp _ ⟨kY,cU,g16,g17,g18,ho⟩;have mj:i<=1000000000000000:=by omega
     by_cases hi:i<L.length
     .obtain⟨a,ha⟩:=eA hi;have hr:cY[i]?=some (encA a):=by rw[hg,ha];rfl
      have du:=gA hr
      have aa:=λb h=>aa a b h (Zi ha)
      have tw:=gB a;have Ao:(encA a).take 9=encA a:=Ys (by omega);have pY:=aem tw;have hd:L.drop i=a::L.drop (i+1):=by
       obtain⟨k,e⟩:=Za.1 ha;rw[Zm k,e]
      rw[hd,Zn]at ho;generalize encA a=ea at hr du aa tw Ao pY;cases hc:lI a
      .rw[hc,Bool.false_and]at ho;rw[hc]at aa;simp[cU,g16,g17,g18,hi,hq,du,tw,Ao,pY,aa,ho]
      .rw[hc,Bool.true_and]at ho;rw[hc]at aa;simp[cU,g16,g17,g18,hi,hq,du,tw,Ao,pY,aa,di mj];exact⟨hi,ho⟩
     .have gG:i=L.length:=Yc kY (Yb hi);subst gG;have vZ:L.all lI=true:=by rw[ho];simp
      simp[cU,g17,g18,vZ]
    .rintro o fr hp hn ⟨cU,⟨rfl,ho⟩|⟨rfl,ho,g2⟩⟩
     .simp[cU,ho]
     .simp[g2,ho]
def JO {D:Nat}{g:Gr}(H:p9 D g):AX D g where
 nl:=by have:=H.v.nl;omega
 el:=by have:=H.v.el;omega
 ns:=λn hn=>by
  have:=jX (H.v.np n hn);exact⟨by omega,by omega,H.n n hn⟩
 es:=λe he=>by
  have:=jX (H.v.ep e he);exact⟨by omega,H.e e he⟩
def O7 (a:Am):(encA a).take 9=encA a:=Ys (by rw[gB];exact Yt _)
def oW (g:Gr)(a:Am):(iW g a).length<=1000000/\∀t∈iW g a,t.length<=1000000/\∀x∈t,i64 x:=by
 refine⟨by have:=xJ g a;omega,λt ht=>⟨by have:=xK g a t ht;omega,λx hx=>?_⟩⟩;have:=Wb g a t ht x hx;unfold i64;omega
def GH {D:Nat}(hD:1<=D)(g:Gr)(a:Am):oo D (mH (iW g a)):=MI hD (by have:=xJ g a;omega) λt ht=>by have:=xK g a t ht;omega
def K1 {D:Nat}(hD:1<=D)(g g':Gr)(a:Am):oo D (dP (mH (iW g' a))++jJ (dP (dP (mH (iW g a))))):=
 agL hD (by have:=xJ g a;omega) (λt ht=>by have:=xK g a t ht;omega) (by have:=xJ g' a;omega) λt ht=>by have:=xK g' a t ht;omega
structure AmB (D:Nat)(a:Am):Prop where
 d:fB a.v<=D
 b:gV a.v
 vs:a.vs.length<=16
 ts:a.ts.length<=1000000000000000
def AmB.pos {D:Nat}{a:Am}(h:AmB D a):1<=D:=by have:=gZ a.v;have:=h.d;omega
def O8 (N D:Nat)(b:Bool)(g:Gr)(a:Am)(h:Hp)(hb:AX D g)(ha:AmB D a):cW cx (N+2*D+15) b 27 [.ag (dn g),.rp (encA a) 0] h=some (.ls 2 (dI (dP (mH (iW g a)))) false,h):=by
 refine fZ f27 [.tmp 3] rfl rfl ?_ b h;have aa:=λb h=>agQ (N+5) D b g a h hb ha.d ha.b (by have:=ha.vs;omega) ha.ts
 have ae:=λb h=>agN N D b (iW g a) false h (oW g a).1 (oW g a).2 (GH ha.pos g a)
 rw[show N+5+2*D+9=N+2*D+14 by omega]at aa;generalize N+2*D+14=M at aa ae|-;have hg4:(dn g).length=4:=rfl;have tQ:(dn g).take 4=dn g:=rfl;have tw:=gB a;have Ao:=O7 a;unfold yZ at aa;generalize dn g=gc at aa hg4 tQ|-;generalize encA a=ea at aa tw Ao|-;generalize iN (iW g a)=rr at aa ae;generalize dI (dP (mH (iW g a)))=bb at ae|-;generalize(if vP g a then((eu a.vs).length:Int)else 0)=ar at aa;simp[f27,hg4,tQ,tw,Ao,aa,ae]
def agW (g:Gr):mZ (dn g) (dn g)=true:=by
 simp[dn,gh,gE,mZ,jI,Ae.rZ,Gy,Gz]
def GI (N D:Nat)(b:Bool)(g g':Gr)(a:Am)(h:Hp)(hb:AX D g)(vB:AX D g')(ha:AmB D a):
 cW cx (N+2*D+16) b 26 [.ag (dn g),.ag (dn g'),.fn 27 [.rp (encA a) 0]] h=some (.ls 2 (dI (Hq (iW g a) (iW g' a))) false,h):=by
 refine JE (f:=26) (n:=N+2*D+15) (args:=[.ag (dn g),.ag (dn g'),.fn 27 [.rp (encA a) 0]]) (λi=>i==1) (.ls 2 (dI (Hq (iW g a) (iW g' a))) false) ⟨f26.ntmps,(f26.body).getD .skip,[.tmp 6]⟩ (by kernel_rfl) (by kernel_rfl) rfl (by kernel_rfl) (by simp[f26]) rfl ?_ (by decide) b h;have mi:kx 26=2:=by decide
 rw[mi];have aa:=λb h=>O8 N D b g a h hb ha
 have ae:=λb h=>O8 N D b g' a h vB ha
 have af:=λb h=>agB (N+1) D b (dP (mH (iW g' a))) (dP (mH (iW g a))) h (qf (GH ha.pos g a)) (K1 ha.pos g g' a)
 rw[show N+1+2*D+14=N+2*D+15 by omega]at af;unfold Hq;generalize N+2*D+15=M at aa ae af|-;have hg4:(dn g).length=4:=rfl;have tQ:(dn g).take 4=dn g:=rfl;have aeo:(dn g').length=4:=rfl;have agX:(dn g').take 4=dn g':=rfl;have q:=agW g;generalize dn g=gc at aa hg4 tQ q|-;generalize dn g'=gc' at ae aeo agX|-;generalize encA a=ea at aa ae|-;generalize dI (dP (dP (mH (iW g' a))++jJ (dP (dP (mH (iW g a))))))=res at af|-;generalize dI (dP (mH (iW g a)))=b1 at aa af;generalize dI (dP (mH (iW g' a)))=b2 at ae af;simp[f26,hg4,aeo];rw[pL [(4,0)] ?_ ?_]
 rotate_left
 .kernel_rfl
 .kernel_rfl
 simp(maxSteps:=1000000) [yY,hg4,tQ,aeo,agX,aa,ae,af,q,jI];exact gz ⟨_,rfl,rfl⟩
def abe {f c:FuncId}{n:Nat}{x y:LA}{ea:LA}{r:AV}(hs:cx.ox f=none)(hi:cx.inl f=false)(hr:ml r=false)(id:Nat)(h:Hp)(hx:x.all eT=true)(hy:y.all eT=true)(hc:ea.all eT=true)(dC:h[id]?=some (.row ea))
 (dy:∀h,cW cx (n+1) true f [.ag x,.ag y,.fn c [.rp ea 0]] h=some (r,h)):∃h',cW cx (n+1) true f [.ag x,.ag y,.fn c [.pt id 0]] h=some (r,h'):=by
 have sn:∀H:Hp,H[id]?=some (.row ea)->[AV.ag x,.ag y,.fn c [.pt id 0]].mapM (Ae.dq H 8)=some [.ag x,.ag y,.fn c [.rp ea 0]]:=λH hH=>by
  have e1:∀x:LA,x.all eT=true->Ae.dq H 8 (.ag x)=some (.ag x):=λx hx=>by
   show(x.mapM (Ae.dq H 7)).map AV.ag=_;rw[kX hx];rfl
  have e2:Ae.dq H 8 (.fn c [.pt id 0])=some (.fn c [.rp ea 0]):=by
   show([AV.pt id 0].mapM (Ae.dq H 7)).map (AV.fn c)=_;have e3:Ae.dq H 7 (.pt id 0)=some (.rp ea 0):=by
    show(match gI H id with|some cs=>(cs.mapM (Ae.dq H 6)).map (λ(xs:LA)=>AV.rp xs 0)|none=>none)=_;rw[jQ hH];dsimp only;rw[kX hc];rfl
   rw[Zo,e3];rfl
  rw[Zo,Zo,Zo,e1 x hx,e1 y hy,e2];rfl
 have VA:[AV.ag x,.ag y,.fn c [.pt id 0]].flatMap (reach h 8)=[id]:=by
  have e1:∀x:LA,x.all eT=true->reach h 8 (.ag x)=[]:=λx hx=>by
   show x.flatMap (reach h 7)=[];exact pH hx
  have e2:reach h 8 (.fn c [.pt id 0])=[id]:=by
   show[AV.pt id 0].flatMap (reach h 7)=[id];have e3:reach h 7 (.pt id 0)=id::((gI h id).getD []).flatMap (reach h 6):=rfl;rw[Yu,List.flatMap_nil,e3,jQ dC,Yv,pH hc];rfl
  rw[Yu,Yu,Yu,List.flatMap_nil,e1 x hx,e1 y hy,e2];rfl
 obtain⟨h',hf,_,_⟩:=ad5 dC hc;have k1:∀x:LA,x.all eT=true->d_ (.ag x)=true:=λx hx=>by
  have:=gT x;rw[this];exact hx
 refine⟨h',Cl (ys:=[.ag x,.ag y,.fn c [.rp ea 0]]) hs hi (sn h dC) ?_ ?_ hr ?_ (by rw[VA];exact hf) (dy h)⟩
 .rw[Zn,Zn,k1 x hx,k1 y hy];rfl
 .rw[Zn,Zn,k1 x hx,k1 y hy];rfl
 .rw[VA,sn _ (AP dC)];rfl
def DU (g:Gr)(cs:List Ch)(a:Am):AV:=if(jG g cs).2.2=0 then .tp [.ls 2 (dI (Hq (iW g a) (iW (jG g cs).1 a))) false,(0:Int)]else .tp [(),.sc (.int .i64 (jG g cs).2.2)]
def CJ (g:Gr):(dn g).all eT=true:=rfl
def JP (g:Gr)(l:List LA)(z:Bool)(a:Am):[AV.ag (dn g),AV.ls 10 l z,AV.ag (encA a)].all d_=true:=by
 rw[Zn,Zn,kp];rfl
def abf (a b c d x y z w:AV):da [a,b,c,d] 0 [x,y,z,w]=[x,y,z,w]:=rfl
def ada (N D:Nat)(b:Bool)(g:Gr)(cs:List Ch)(z:Bool)(a:Am)(h:Hp)(hb:AX D g)(hc:cs.length<=1000000)(SH:∀c∈cs,fB c.v<=D/\gV c.v)(ha:AmB D a):
 cW cx (N+2*D+17) b 9 [.ag (dn g),.ls 10 (zd cs) z,.ag (encA a)] h=some (DU g cs a,h):=by
 refine wH f9 [.tmp 6,.tmp 7] (JP g _ z a) ?_ b h;have mi:kx 9=0:=by decide
 rw[mi];have aa:=λb h=>Mn (N+4) D b g cs z h hb hc λh0=>V5 (Gu h0 hb) SH
 rw[show N+4+2*D+12=N+2*D+16 by omega]at aa;have tw:=gB a;have Ao:=O7 a;unfold DU;by_cases he:(jG g cs).2.2=0
 .have hF:=(JL hb SH he).2;have vB:=JO hF;have ae:∀(h:Hp),h[1]?=some (.row (encA a))->∃h',cW cx (N+2*D+16) true 26 [.ag (dn g),.ag (dn (jG g cs).1),.fn 27 [.pt 1 0]] h=some (.ls 2 (dI (Hq (iW g a) (iW (jG g cs).1 a))) false,h'):=λh dC=>
   abe (f:=26) (n:=N+2*D+15) rfl (by kernel_rfl) rfl 1 h (CJ _) (CJ _) (sM a) dC λh=>GI N D true g (jG g cs).1 a h hb vB ha
  rw[dd he];rw[he]at aa;generalize N+2*D+16=M at aa ae|-;generalize dI (Hq (iW g a) (iW (jG g cs).1 a))=res at ae|-;generalize(jG g cs).1=g' at aa ae;generalize(jG g cs).2.1=k at aa;generalize zd cs=cY at aa|-;generalize encA a=ea at ae tw Ao|-;unfold dn gh gE at *;obtain⟨h',e2⟩:=ae [.row [.ls 3 (lU g.nodes) false,.ls 5 (mA g.cZ) false,g.nn,g.ne],.row ea,.row [.ls 3 (lU g'.nodes) false,.ls 5 (mA g'.cZ) false,g'.nn,g'.ne]] rfl;simp[f9,tw,aa,abf,e2];exact gz ⟨_,rfl,rfl⟩
 .rw[db he];generalize(jG g cs).2.2=e at aa he|-;generalize N+2*D+16=M at aa|-;generalize(jG g cs).1=g' at aa;generalize(jG g cs).2.1=k at aa;generalize zd cs=cY at aa|-;generalize encA a=ea at tw Ao|-;unfold dn gh gE at *;simp[f9,tw,aa,abf,he];exact gz ⟨_,rfl,rfl⟩
def adb (N D:Nat)(b:Bool)(g:Gr)(cs:List Ch)(z:Bool)(a:Am)(h:Hp)(hb:AX D g)(hc:cs.length<=1000000)(SH:∀c∈cs,fB c.v<=D/\gV c.v)(ha:AmB D a):
 cW cx (N+3*D+5010) b 10 [.ag (dn g),.ls 10 (zd cs) z,.ag (encA a)] h=some (DU g cs a,h):=by
 refine wH f10 [.tmp 6,.tmp 7] (JP g _ z a) ?_ b h;have mi:kx 10=0:=by decide
 rw[mi];have aa:=λb h=>GA (N+4998) D b g cs z h hb hc SH
 rw[show N+4998+3*D+11=N+3*D+5009 by omega]at aa;have tw:=gB a;have Ao:=O7 a;unfold DU;by_cases he:(jG g cs).2.2=0
 .have hF:=(JL hb SH he).2;have vB:=JO hF;have ae:=λb h=>acs N D b g a h hb ha.d ha.b ha.ts ha.vs
  have af:=λb h=>acs N D b (jG g cs).1 a h vB ha.d ha.b ha.ts ha.vs
  have ah:=λb h=>Wf (N+3*D+5007) b (iW g a) false h (oW g a).1 (oW g a).2
  have ai:=λb h=>Wf (N+3*D+5007) b (iW (jG g cs).1 a) false h (oW _ a).1 (oW _ a).2
  have aj:=λb h=>VH (N+4997) D b ((iW g a).map vy) ((iW (jG g cs).1 a).map vy) false false h (GH ha.pos g a) (GH ha.pos _ a) (K1 ha.pos g _ a)
  rw[show N+3*D+5007+2=N+3*D+5009 by omega]at ah ai;rw[show N+4997+3*D+12=N+3*D+5009 by omega]at aj;rw[dd he];rw[he]at aa;unfold Hq mH;unfold yZ at ae af;generalize N+3*D+5009=M at aa ae af ah ai aj|-;generalize dI (dP (dP (oN ((iW (jG g cs).1 a).map vy))++jJ (dP (dP (oN ((iW g a).map vy))))))=res at aj|-;generalize vx ((iW g a).map vy)=w1 at ah aj;generalize vx ((iW (jG g cs).1 a).map vy)=w2 at ai aj;generalize iN (iW g a)=r1 at ae ah;generalize iN (iW (jG g cs).1 a)=r2 at af ai;generalize(if vP g a then((eu a.vs).length:Int)else 0)=a1 at ae;generalize(if vP (jG g cs).1 a then((eu a.vs).length:Int)else 0)=a2 at af;generalize(jG g cs).1=g' at aa af;generalize(jG g cs).2.1=k at aa;generalize zd cs=cY at aa|-;generalize encA a=ea at ae af tw Ao|-;unfold dn gh gE at *;simp[f10,tw,Ao,aa,ae,af,ah,ai,aj,abf];exact gz ⟨_,rfl,rfl⟩
 .rw[db he];generalize(jG g cs).2.2=e at aa he|-;generalize N+3*D+5009=M at aa|-;generalize(jG g cs).1=g' at aa;generalize(jG g cs).2.1=k at aa;generalize zd cs=cY at aa|-;generalize encA a=ea at tw Ao|-;unfold dn gh gE at *;simp[f10,tw,aa,abf,he];exact gz ⟨_,rfl,rfl⟩
def Fk (n:Nat)(b:Bool)(h:Hp):cW cx (n+1) b 11 [(),()] h=some ((true:AV),h):=by
 refine fZ f11 [.tmp 4] rfl rfl ?_ b h;simp[f11];refine lS
  (λi s _=>i=0/\s.length=57/\gt s 0=()/\gt s 5=(0:Int)) (λo s _=>o= .exit 0/\s.length=57) 0 (by simp) (by exact ⟨rfl,rfl,rfl,rfl⟩) ?_ ?_
 .rintro i fr hp _ ⟨rfl,cU,g0,g5⟩;simp[cU,g0,g5]
 .rintro o fr hp hn ⟨rfl,cU⟩;simp[cU]
def Po (N D:Nat)(b:Bool)(g:Gr)(cs:List Ch)(z:Bool)(h:Hp)(hb:AX D g)(hs:SzB g)(hl:cs.length<=1000000000000000)(hc:∀c∈cs,fB c.v<=D/\gV c.v/\c.name.size<=1000000000000000):
 cW cx (N+D+4) b 6 [.ag (dn g),.ls 10 (zd cs) z] h=some (.sc (.bool (tC g && Fj cs)),h):=by
 refine fZ f6 [.tmp 4] rfl rfl ?_ b h;have aa:=λb h=>QU N D b g h hb hs
 have ae:=λb h=>aba (N+1) D b cs z h hl hc
 rw[show N+1+D+2=N+D+3 by omega]at ae;generalize N+D+3=M at aa ae|-;generalize tC g=s at aa|-;generalize Fj cs=w at ae|-;generalize zd cs=cY at ae|-;unfold dn gh gE at *;cases s<;>simp[f6,aa,ae]
def MX (a:Am):(encA a).all d_=true:=by
 unfold encA;rw[Zn,Zn,Zn,Zn,JM];rfl
def akg {c:LA}(h:c.length=9):chunk 9 1 c=[c]:=by
 unfold chunk;simp[Ys (Nat.le_of_eq h)]
def Y3 (M:Nat)(g:Gr)(cY:List LA)(z:Bool)(a:Am)(s l:Bool)(X:AV)(e:Int)(hX:X=()\/∃r,X= .ls 2 r false)
 (hS:∀t h,cW cx M t 6 [.ag (dn g),.ls 10 cY z] h=some ((s:AV),h))
 (hL:∀t h,cW cx M t 7 [.ag [(),.ls 9 [encA a] true]] h=some ((l:AV),h))
 (hP:s=true->l=true->∀t h,cW cx M t 9 [.ag (dn g),.ls 10 cY z,.ag (encA a)] h=some (.tp [X,e],h))
 (hR:s=true->l=true->∀t h,cW cx M t 10 [.ag (dn g),.ls 10 cY z,.ag (encA a)] h=some (.tp [X,e],h))
 (hE:∀t h,cW cx M t 11 [X,X] h=some ((true:AV),h))
 (hl:∀t h,cW cx M t 8 [] h=some ((true:AV),h)):
 ∃h',eQ [.tmp 6] (dS cx (cW cx M) ((f3.body).getD .skip) ([.ag (dn g),.ls 10 cY z,.ag (encA a)]++List.replicate (f3.ntmps-3) .un,[]))=some ((true:AV),h'):=by
 have tw:=gB a;have Ao:=O7 a;have HF:=MX a;have UF:=akg tw;have pY:=aem tw;unfold dn gh gE at *;generalize encA a=ea at *;cases s
 .simp[f3,tw,hS,hl]
 .cases l
  .simp[f3,tw,Ao,HF,UF,pY,oy,Hl,hS,hL,hl]
  .have hP:=hP rfl rfl;have hR:=hR rfl rfl;rcases hX with rfl|⟨r,rfl⟩
   .simp[f3,tw,Ao,HF,UF,pY,oy,Hl,hS,hL,hP,hR,hE,hl]
   .simp[f3,tw,Ao,HF,UF,pY,oy,Hl,hS,hL,hP,hR,hE,hl]
end
def live (N:Nat):cW cx (N+90) true 8 [] []=some ((true:AV),[]):=by kernel_rfl
end Go.Proofs.YtaibpnppeiigdaaGreatDoor
