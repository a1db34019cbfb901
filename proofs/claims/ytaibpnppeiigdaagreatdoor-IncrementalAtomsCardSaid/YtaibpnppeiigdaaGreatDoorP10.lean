/- Part of the proof. -/
import Derived.Test.YtaibpnppeiigdaaGreatDoorP9
import Derived.Laws.RangeAny
import Derived.Laws.RangeString
set_option linter.all false
set_option maxHeartbeats 8000000
set_option maxRecDepth 100000
namespace Go.Proofs.YtaibpnppeiigdaaGreatDoor
open Go Go.Ae Go.Proofs.Tryz
section
attribute [local simp] zi XM
def z8 (l:List V)(i:Nat):Bool:=wB (l.drop i) (decide (i % 2=1))
def DZ (l:List V):wB l false=z8 l 0:=rfl
def Hz (l:List V)(i:Nat)(h:l.length<=i):z8 l i=true:=by unfold z8;rw[Zt h,wB]
def D3 {l:List V}{i:Nat}{c:V}(h:l[i]?=some c):z8 l i=((decide (c.k=if i % 2=1 then 6 else 5) && pR c 0) && z8 l (i+1)):=by
 obtain⟨k,e⟩:=Za.1 h;unfold z8;rw[Zm k,e,wB];rcases Nat.mod_two_eq_zero_or_one i with q|q
 .rw[show decide ((i+1) % 2=1)= !decide (i % 2=1)from by rw[q];simp;omega];simp[q]
 .rw[show decide ((i+1) % 2=1)= !decide (i % 2=1)from by rw[q];simp;omega];simp[q]
def zj (l:List V):Bool:=decide (l.length % 2=1) && decide ((l.length:Int)<=25) && wB l false
def Tj (N:Nat)(b:Bool)(z:Bool)(l:List V)(h:Hp)(hv:∀x∈l,VC N x):cW cx (N+1) b 274 [fG z l] h=some (.sc (.bool (zj l)),h):=by
 have hc:[fG z l].all d_=true:=by rw[Zn,kQ];rfl
 refine fZ f274 [.tmp 2] hc rfl ?_ b h;clear hc;unfold zj;rcases gu z l with⟨rfl,e⟩|e
 .simp[f274,e]
 rw[e];have hq:=dK l;have hg:=fP l;generalize dN l=cY at hq hg;have hm:((l.length:Int).tmod 2)=((l.length % 2:Nat):Int):=rfl;by_cases h0:l.length % 2=0
 .rw[h0]at hm;simp[f274,hq,hm,h0]
 have Ft:l.length % 2=1:=by omega
 rw[Ft]at hm;by_cases h2:25< (l.length:Int)
 .simp[f274,hq,hm,Ft,h2,show¬(l.length:Int)<=25 by omega]
 have wT:(l.length:Int)<=25:=by omega
 simp[f274,hq,hm,Ft,h2,wT];refine lS
  (λi s _=>wB l false=z8 l i/\s.length=38/\gt s 0= .ls 5 cY z/\gt s 3=i)
  (λo s _=>s.length=38/\((o= .exit 0/\wB l false=true)\/(o= .ret/\wB l false=false/\gt s 2=false))) l.length (by simp;omega) (by simp[DZ]) ?_ ?_
 .rintro i fr h eG ⟨ho,cU,h0,h3⟩;by_cases hi:i<l.length
  .obtain⟨c,hc⟩:=eA hi;have hr:cY[i]?=some (enc c):=by rw[hg,hc];rfl
   have du:=gA hr
   have NJ:=hv c (Zi hc);have dy:=λb h=>NJ b 0 h (by omega) (by omega)
   rw[D3 hc]at ho;have hf:dM .i64 ((i:Int)+1)=((i+1:Nat):Int):=dh (by omega) (by omega);generalize pR c 0=K at ho dy;cases c with
   |
    mk k n d s z' l'=>
    simp only[V.k]at ho;simp only[enc]at hr du dy;generalize ql z' (dN l')=L' at hr du dy;have hm:((i:Int).tmod 2)=((i % 2:Nat):Int):=rfl;rcases Nat.mod_two_eq_zero_or_one i with q|q<;>rw[q]at hm ho
    all_goals
     simp only[show¬((0:Nat)=1)from by decide,if_false,if_true]at ho
    .by_cases hk:k=5
     .subst hk;cases K
      .have zz:wB l false=false:=by rw[ho];simp
       clear ho;simp[cU,h0,h3,hi,hq,du,dy,hm,zz]
      .have zz:wB l false=z8 l (i+1):=by rw[ho];simp
       clear ho;simp[cU,h0,h3,hi,hq,du,dy,hm,hf];exact zz
     .have zz:wB l false=false:=by rw[ho];simp[hk]
      clear ho;simp[cU,h0,h3,hi,hq,du,hm,hk,zz]
    .by_cases hk:k=6
     .subst hk;cases K
      .have zz:wB l false=false:=by rw[ho];simp
       clear ho;simp[cU,h0,h3,hi,hq,du,dy,hm,zz]
      .have zz:wB l false=z8 l (i+1):=by rw[ho];simp
       clear ho;simp[cU,h0,h3,hi,hq,du,dy,hm,hf];exact zz
     .have zz:wB l false=false:=by rw[ho];simp[hk]
      clear ho;simp[cU,h0,h3,hi,hq,du,hm,hk,zz]
  .have zz:wB l false=true:=by rw[ho,Hz l i (by omega)]
   simp[cU,h0,h3,hi,hq,zz]
 .rintro o fr h hn ⟨cU,⟨rfl,hz⟩|⟨rfl,hz,h2⟩⟩
  .simp[cU,hz]
  .simp[h2,hz]
def kS (k n d:Int)(s:ByteArray)(z:Bool)(l:List V)(m:Int):pR (.mk k n d s z l) m=
 (
  if k=0 then iJ (.mk k n d s z l) false false false false
  else if k=1 then iJ (.mk k n d s z l) true false false false && (decide (n=0)||decide (n=1))
  else if k=2 then iJ (.mk k n d s z l) true false false false && vm n
  else if k=3 then iJ (.mk k n d s z l) true true false false && decide (2<=d) && fv n d
  else if k=4 then iJ (.mk k n d s z l) false false true false && (HA s && decide ((s.size:Int)<=100))
  else if k=5\/k=6 then iJ (.mk k n d s z l) true false false false && decide (1<=n) && decide (n<=1000000)
  else if k=7 then iJ (.mk k n d s z l) false false false true && zj l
  else if k=8 then iJ (.mk k n d s z l) false false false true && D4 l m else false):=by
 have e1:decide ((s.size:Int)<=100)=decide (s.size<=100):=decide_eq_decide.2 (by omega);have e2:decide ((l.length:Int)<=25)=decide (l.length<=25):=decide_eq_decide.2 (by omega);have e3:decide ((l.length:Int)<=64)=decide (l.length<=64):=decide_eq_decide.2 (by omega);rw[pR];unfold iJ zj D4;simp only[V.n,V.d,V.s,V.l,e1,e2,e3];generalize Ax l (m-1)=P1;generalize wB l false=P2;generalize HA s=P3;generalize kr s ⟨#[]⟩=P4;generalize l.isEmpty=P9;generalize vm n=P10;generalize fv n d=P11;rw[Bool.eq_iff_iff];by_cases h0:k=0
 .subst h0;clear e1 e2 e3;simp;try grind
 by_cases h1:k=1
 .subst h1;clear e1 e2 e3;simp;try grind
 by_cases h2:k=2
 .subst h2;clear e1 e2 e3;simp;try grind
 by_cases h3:k=3
 .subst h3;clear e1 e2 e3;simp;try grind
 by_cases h4:k=4
 .subst h4;clear e1 e2 e3;simp;try grind
 by_cases h5:k=5
 .subst h5;clear e1 e2 e3;simp;try grind
 by_cases h6:k=6
 .subst h6;clear e1 e2 e3;simp;try grind
 by_cases h7:k=7
 .subst h7;clear e1 e2 e3;simp;try grind
 by_cases h8:k=8
 .subst h8;clear e1 e2 e3;simp;try grind
 simp[h0,h1,h2,h3,h4,h5,h6,h7,h8]
def Pw (N:Nat)(v:V)(hs:v.s.size<=1000000000000000)(hv:∀x∈v.l,VC (N+3) x):VC (N+5) v:=by
 intro b m h s7 hm8;have hc:[AV.ag (enc v),.sc (.int .i64 m)].all d_=true:=by
  have:=ki v;simp only[jB]at this;rw[Zn,this];rfl
 refine fZ f216 [.tmp 4] hc rfl ?_ b h;clear hc;cases v with
 |
  mk k n d s z l=>
  simp only[V.s,V.l]at hs hv;have ak:=λb h=>Fu (N+3) b (.mk k n d s z l) h
  have aa:=λb h=>Fv (N+3) b (.mk k n d s z l) h
  have ae:=λb h=>Fx (N+3) b (.mk k n d s z l) h
  have af:=λb h=>Fy (N+3) b (.mk k n d s z l) h
  have ah:=λb h=>FA (N+3) b (.mk k n d s z l) h
  have g1:=λb h=>adi (N+3) b n h
  have g2:=λb h=>qU (N+2) b n d h
  have g3:=λb h=>Y_ (N+3) b s h hs
  have g4:=λb h=>Tj (N+3) b z l h hv
  have g5:=λb h=>Tk (N+3) b z l m h s7 hm8 hv
  have he:enc (.mk k n d s z l)=[.sc (.int .i64 k),.sc (.int .i64 n),.sc (.int .i64 d),.sc (.string s),fG z l]:=rfl;rw[kS,he];simp only[fY]at ak aa ae af ah;simp only[lJ]at g2;clear he hv;have hL:(∃r,fG z l= .ls 5 r z)\/fG z l=():=(gu z l).elim (λe=> .inr e.2) (λe=> .inl ⟨_,e⟩);generalize fG z l=L at hL ak aa ae af ah g4 g5;generalize iJ (.mk k n d s z l) false false false false=B0 at ak;generalize iJ (.mk k n d s z l) true false false false=B1 at aa;generalize iJ (.mk k n d s z l) true true false false=B2 at ae;generalize iJ (.mk k n d s z l) false false true false=B3 at af;generalize iJ (.mk k n d s z l) false false false true=B4 at ah;generalize zj l=R4 at g4;generalize D4 l m=R5 at g5;generalize(HA s && decide ((s.size:Int)<=100))=R3 at g3;generalize fv n d=R2 at g2;generalize vm n=R1 at g1;by_cases h0:k=0
  .subst h0;simp[f216,ak]
  by_cases h1:k=1
  .subst h1;cases B1
   .simp[f216,aa]
   .by_cases q:n=0
    .subst q;simp[f216,aa]
    .simp[f216,aa,q]
  by_cases h2:k=2
  .subst h2;cases B1<;>simp[f216,aa,g1]
  by_cases h3:k=3
  .subst h3;cases B2
   .simp[f216,ae]
   .by_cases q:2<=d
    .simp[da,f216,ae,q,g2]
    .simp[f216,ae,q]
  by_cases h4:k=4
  .subst h4;cases B3<;>simp[f216,af,g3]
  by_cases h5:k=5
  .subst h5;cases B1
   .simp[f216,aa]
   .by_cases q:1<=n<;>simp[f216,aa,q]
  by_cases h6:k=6
  .subst h6;cases B1
   .simp[f216,aa]
   .by_cases q:1<=n<;>simp[f216,aa,q]
  by_cases h7:k=7
  .subst h7;cases B4<;>rcases hL with⟨r,rfl⟩|rfl<;>simp[f216,ah,g4]
  by_cases h8:k=8
  .subst h8;cases B4<;>rcases hL with⟨r,rfl⟩|rfl<;>simp[f216,ah,g5]
  simp[f216,h0,h1,h2,h3,h4,h5,h6,h7,h8]
mutual
def gV :V->Prop
 | .mk _ _ _ s _ l=>s.size<=1000000000000000/\l.length<=1000000000000000/\Px l
def Px :List V->Prop
 | []=>True
 |x::xs=>gV x/\Px xs
end
def FB {v:V}:∀{l:List V},Px l->v∈l->gV v
 |
  x::xs,hb,h=>by
  rw[Px]at hb;rcases Xm.1 h with rfl|h
  .exact hb.1
  .exact FB hb.2 h
def adj :∀(D:Nat) (v:V),fB v<=D->gV v->∀N,VC (N+2*D+3) v:=by
 intro D
 induction D with
 |zero=>intro v h;cases v;simp[fB]at h
 |
  succ D ih=>
  intro v h hb N;have hl:∀x∈v.l,fB x<=D/\gV x:=by
   cases v with
   |
    mk k n d s z l=>
    intro x hx;simp only[fB]at h;rw[gV]at hb;have:=oE (l:=l) hx;exact⟨by omega,FB hb.2.2 hx⟩
  have hs:v.s.size<=1000000000000000:=by cases v;rw[gV]at hb;exact hb.1
  have:=Pw (N+2*D) v hs (λx hx=>ih x (hl x hx).1 (hl x hx).2 N);rw[show N+2*(D+1)+3=N+2*D+5 by omega];exact this
def oQ (N D:Nat)(v:V)(hd:fB v<=D)(hb:gV v)(b:Bool)(h:Hp):cW cx (N+2*D+4) b 143 [jB v] h=some (.sc (.bool (jF v)),h):=by
 have hv:=λb h=>adj D v hd hb N b 8 h (by omega) (by omega)
 have hc:=lu v;refine fZ f143 [.tmp 2] hc rfl ?_ b h;clear hc;unfold jF;generalize pR v 8=K at hv;generalize N+2*D+3=M at hv;cases v with
 |
  mk k n d s z l=>
  rw[fY];have he:enc (.mk k n d s z l)=[.sc (.int .i64 k),.sc (.int .i64 n),.sc (.int .i64 d),.sc (.string s),fG z l]:=rfl;rw[he]at hv;generalize fG z l=L at hv;simp[f143,hv]
end
section
attribute [local simp] zi da XM
def mg (v:V):Int:=if jF v then(if v.k=2 then v.n else if v.k=3 then v.n else 0)else 0
def mh (v:V):Int:=if jF v then(if v.k=2 then 1 else if v.k=3 then v.d else 0)else 0
def kj (v:V):Bool:=jF v && (decide (v.k=2)||decide (v.k=3))
def r6 (N D:Nat)(v:V)(hd:fB v<=D)(hb:gV v)(b:Bool)(h:Hp):cW cx (N+2*D+5) b 147 [jB v] h=some (.tp [lJ (mg v) (mh v),.sc (.bool (kj v))],h):=by
 have hv:=λb h=>oQ N D v hd hb b h
 have hc:=lu v;have hr:dq [] 8 (.tp [lJ (mg v) (mh v),.sc (.bool (kj v))])=some (.tp [lJ (mg v) (mh v),.sc (.bool (kj v))]):=rfl;clear hr
 suffices H:(∃r,r=AV.tp [lJ (mg v) (mh v),.sc (.bool (kj v))]/\∀b h,cW cx (N+2*D+5) b 147 [jB v] h=some (r,h)) by
  obtain⟨r,rfl,hr⟩:=H;exact hr b h
 refine iQ (f:=147) (n:=N+2*D+4) (args:=[jB v]) (λr=>r= .tp [lJ (mg v) (mh v),.sc (.bool (kj v))]) ⟨f147.ntmps,(f147.body).getD .skip,[.cell 2 2 true,.tmp 3]⟩ (by kernel_rfl) (by kernel_rfl) rfl (by kernel_rfl) (by simp[f147]) hc ?_;clear hc;generalize N+2*D+4=M at hv;cases v with
 |
  mk k n d s z l=>
  unfold mg mh kj;generalize jF (.mk k n d s z l)=K at hv;simp only[V.k,V.n,V.d];rw[fY]at hv|-;generalize fG z l=L at hv;cases K
  .simp[f147,hv,lJ];exact gz rfl
  .by_cases h2:k=2
   .subst h2;simp[f147,hv,lJ];exact gz rfl
   .by_cases h3:k=3
    .subst h3;simp[f147,hv,lJ];exact gz rfl
    .simp[f147,hv,lJ,h2,h3];exact gz rfl
end
section
attribute [local simp] zi XM
def qW (v w:V):Int:=wU [ej v.k w.k,ej v.n w.n,ej v.d w.d,kL v.s w.s,gL v.l w.l]
def K3 (N:Nat)(v w:V)(hl:∀b h,cW cx (N+1) b 73 [fG v.isNil v.l,fG w.isNil w.l] h=some (.sc (.int .i64 (gL v.l w.l)),h))(b:Bool)(h:Hp):
 cW cx (N+2) b 145 [jB v,jB w] h=some (.sc (.int .i64 (qW v w)),h):=by
 have hc:=nx v w;refine fZ f145 [.tmp 4] hc rfl ?_ b h;clear hc;cases v with
 |
  mk k n d s z l=>
  cases w with
  |
   mk k' n' d' s' z' l'=>
   have hi:=λx y b h=>Ba N b x y h
   have hs:=λb h=>Tl N b s s' h
   simp only[V.l,V.isNil]at hl;simp only[qW,V.k,V.n,V.d,V.s,V.l,fY];have hL:(∃r,fG z l= .ls 5 r z)\/fG z l=():=(gu z l).elim (λe=> .inr e.2) (λe=> .inl ⟨_,e⟩);have fT:(∃r,fG z' l'= .ls 5 r z')\/fG z' l'=():=(gu z' l').elim (λe=> .inr e.2) (λe=> .inl ⟨_,e⟩);generalize fG z l=L at hl hL;generalize fG z' l'=L' at hl fT;have i1:=λb h=>hi k k' b h
   have i2:=λb h=>hi n n' b h
   have i3:=λb h=>hi d d' b h
   generalize ej k k'=c1 at i1;generalize ej n n'=c2 at i2;generalize ej d d'=c3 at i3;generalize kL s s'=c4 at hs;generalize gL l l'=c5 at hl;clear hi;by_cases h1:c1=0
   .subst h1;by_cases h2:c2=0
    .subst h2;by_cases h3:c3=0
     .subst h3;by_cases h4:c4=0
      .subst h4;rcases hL with⟨r,rfl⟩|rfl<;>rcases fT with⟨r',rfl⟩|rfl<;>simp[f145,i1,i2,i3,hs,hl,wU]
      .simp[f145,i1,i2,i3,hs,h4,wU]
     .simp[f145,i1,i2,i3,h3,wU]
    .simp[f145,i1,i2,h2,wU]
   .simp[f145,i1,h1,wU]
def OC (N:Nat)(v w:V):Prop:=∀b h,cW cx N b 82 [.ag (enc v),.ag (enc w)] h=some (.sc (.int .i64 (j6 v w)),h)
def vG (l m:List V)(i:Nat):Int:=gL (l.drop i) (m.drop i)
def r7 (l m:List V):gL l m=vG l m 0:=rfl
def mm (l m:List V)(i:Nat)(h1:i<=l.length)(h2:i<=m.length)(h:i=l.length\/i=m.length):vG l m i=ej l.length m.length:=by
 unfold vG;rcases Nat.lt_or_ge i l.length with q|q
 .have e':m.drop i=[]:=Zt (by omega);rw[Zm q,e'];show(1:Int)=ej l.length m.length;unfold ej;rw[db (by omega),dd (by omega)]
 .have e:l.drop i=[]:=Zt q;rcases Nat.lt_or_ge i m.length with p|p
  .rw[e,Zm p];show(-1:Int)=ej l.length m.length;unfold ej;rw[dd (by omega)]
  .rw[e,Zt p];show(0:Int)=ej l.length m.length;unfold ej;rw[db (by omega),db (by omega)]
def r8 {l m:List V}{i:Nat}{x y:V}(h:l[i]?=some x)(h':m[i]?=some y):vG l m i=if j6 x y=0 then vG l m (i+1)else j6 x y:=by
 obtain⟨k,e⟩:=Za.1 h;obtain⟨k',e'⟩:=Za.1 h';unfold vG;rw[Zm k,e,Zm k',e',gL]
def jg (z:Bool)(l:List V):(fG z l= .ls 5 (dN l) z)\/(fG z l=()/\l.length=0):=(gu z l).elim (λe=> .inr ⟨e.2,by rw[e.1];rfl⟩) .inl
def D5 (N:Nat)(z z':Bool)(l m:List V)(hl:l.length<=1000000000000000)(_hm:m.length<=1000000000000000)(ho:∀x∈l,∀y∈m,OC (N+1) x y)(b:Bool)(h:Hp):
 cW cx (N+2) b 73 [fG z l,fG z' m] h=some (.sc (.int .i64 (gL l m)),h):=by
 have hc:[fG z l,fG z' m].all d_=true:=by rw[Zn,Zn,kQ,kQ];rfl
 refine fZ f73 [.tmp 4] hc rfl ?_ b h;clear hc;have hL:=jg z l;have fT:=jg z' m;generalize fG z l=L at hL;generalize fG z' m=L' at fT;simp[f73];refine lS
  (λi s _=>i<=m.length/\gL l m=vG l m i/\s.length=36/\gt s 0=L/\gt s 1=L'/\gt s 5=i)
  (λo s _=>s.length=36/\((o= .exit 0/\gL l m=ej l.length m.length/\gt s 0=L/\gt s 1=L')\/(o= .ret/\gt s 4= .sc (.int .i64 (gL l m))))) l.length (by simp;omega) (by simp[r7]) ?_ ?_
 .rintro i fr h eG ⟨n_,jM,cU,h0,h1,h5⟩;have hq:=dK l;have hg:=fP l;have jA:=dK m;have qK:=fP m;generalize dN l=cY at hq hg hL;generalize dN m=rows' at jA qK fT;by_cases hi:i<l.length
  .rcases hL with hL|⟨hL,hz⟩
   .subst hL;by_cases hj:i<m.length
    .rcases fT with fT|⟨fT,hz⟩
     .subst fT;obtain⟨x,hx⟩:=eA hi;obtain⟨y,hy⟩:=eA hj;have hr:cY[i]?=some (enc x):=by rw[hg,hx];rfl
      have r9:rows'[i]?=some (enc y):=by rw[qK,hy];rfl
      have du:=gA hr
      have lK:=gA r9
      have dy:=ho x (Zi hx) y (Zi hy);unfold OC at dy;rw[r8 hx hy]at jM;have hf:dM .i64 ((i:Int)+1)=((i+1:Nat):Int):=dh (by omega) (by omega);generalize j6 x y=c at dy jM;by_cases od:c=0
      .subst od;rw[dd rfl]at jM;simp[cU,h0,h1,h5,hi,hj,hq,jA,du,lK,dy,hf];exact⟨by omega,jM⟩
      .rw[db od]at jM;simp[cU,h0,h1,h5,hi,hj,hq,jA,du,lK,dy,od,jM]
     .omega
    .have hz:=mm l m i (by omega) (by omega) (by omega);rw[<-jM]at hz;rcases fT with fT|⟨fT,wC⟩
     .subst fT;simp[cU,h0,h1,h5,hi,hj,hq,jA,hz]
     .subst fT;obtain rfl:i=0:=by omega
      simp[cU,h0,h1,h5,hi,hq,hz]
   .omega
  .have hz:=mm l m i (by omega) (by omega) (by omega);rw[<-jM]at hz;rcases hL with hL|⟨hL,wC⟩
   .subst hL;simp[cU,h0,h1,h5,hi,hq,hz]
   .subst hL;obtain rfl:i=0:=by omega
    simp[cU,h0,h1,h5,hz]
 .have hq:=dK l;have jA:=dK m;have ny:=λx y b h=>Ba N b x y h
  rintro o fr h hn ⟨cU,⟨rfl,hz,h0,h1⟩|⟨rfl,h2⟩⟩
  .rw[hz];rcases hL with hL|⟨hL,e⟩<;>rcases fT with fT|⟨fT,e'⟩<;>subst hL<;>subst fT<;>simp[*]
  .simp[h2]
end
section
attribute [local simp] zi da XM
def Bb (M:Nat)(v w:V)(b:Bool)(h:Hp)(p q:Bool)
 (hv:∀b h,cW cx M b 143 [jB v] h=some ((p:AV),h)) (hw:∀b h,cW cx M b 143 [jB w] h=some ((q:AV),h))
 (hy:∀x b h,cW cx M b 144 [.sc (.bool x)] h=some (.sc (.int .i64 (tL x)),h)) (hpq:p≠q):
 cW cx (M+1) b 82 [jB v,jB w] h=some (.sc (.int .i64 (if q then 1 else-1)),h):=by
 have hc:=nx v w;refine fZ f82 [.tmp 4] hc rfl ?_ b h;clear hc;cases v with
 |
  mk k n d s z l=>
  cases w with
  |
   mk k' n' d' s' z' l'=>
   rw[fY]at hv hw|-;rw[fY];generalize fG z l=L at hv;generalize fG z' l'=L' at hw;cases p<;>cases q<;>simp at hpq<;>simp[f82,hv,hw,hy,tL,show dM .i64 1=1 from rfl,show dM .i64 (-1)= -1 from rfl]
def K4 (M:Nat)(v w:V)(b:Bool)(h:Hp)(c:Int)
 (hv:∀b h,cW cx M b 143 [jB v] h=some ((false:AV),h)) (hw:∀b h,cW cx M b 143 [jB w] h=some ((false:AV),h))
 (hf:∀b h,cW cx M b 145 [jB v,jB w] h=some ((c:AV),h)):
 cW cx (M+1) b 82 [jB v,jB w] h=some ((c:AV),h):=by
 have hc:=nx v w;refine fZ f82 [.tmp 4] hc rfl ?_ b h;clear hc;cases v with
 |
  mk k n d s z l=>
  cases w with
  |
   mk k' n' d' s' z' l'=>
   rw[fY]at hv hw hf|-;rw[fY]at hf|-;generalize fG z l=L at hv hf;generalize fG z' l'=L' at hw hf;by_cases e:(AV.ag [k,n,d,.sc (.string s),L])=(AV.ag [k',n',d',.sc (.string s'),L'])
   .simp[f82,hv,hw,hf]
   .simp[f82,hv,hw,hf]
def K5 (M:Nat)(v w:V)(b:Bool)(h:Hp)(c g N1 D1 N2 D2:Int)(B1 B2:Bool)
 (hv:∀b h,cW cx M b 143 [jB v] h=some ((true:AV),h)) (hw:∀b h,cW cx M b 143 [jB w] h=some ((true:AV),h))
 (hk:∀k b h,cW cx M b 146 [.sc (.int .i64 k)] h=some (.sc (.int .i64 (fA k)),h))
 (hi:∀x y b h,cW cx M b 134 [.sc (.int .i64 x),.sc (.int .i64 y)] h=some (.sc (.int .i64 (ej x y)),h))
 (ZA:∀b h,cW cx M b 147 [jB v] h=some (.tp [lJ N1 D1,B1],h)) (ZB:∀b h,cW cx M b 147 [jB w] h=some (.tp [lJ N2 D2,B2],h))
 (yf:∀b h,cW cx M b 148 [lJ N1 D1,lJ N2 D2] h=some ((g:AV),h))
 (hf:∀b h,cW cx M b 145 [jB v,jB w] h=some ((c:AV),h)):
 cW cx (M+1) b 82 [jB v,jB w] h=some (.sc (.int .i64 (if ej (fA v.k) (fA w.k)=0 then(bif B1 then g else c)else ej (fA v.k) (fA w.k))),h):=by
 have hc:=nx v w;refine fZ f82 [.tmp 4] hc rfl ?_ b h;clear hc;cases v with
 |
  mk k n d s z l=>
  cases w with
  |
   mk k' n' d' s' z' l'=>
   have r_:=λb h=>hk k b h
   have SI:=λb h=>hk k' b h
   have Av:=λb h=>hi (fA k) (fA k') b h
   simp only[V.k];clear hk hi;obtain⟨x,hx⟩:∃x,ej (fA k) (fA k')=x:=⟨_,rfl⟩;simp only[hx]at Av|-;clear hx;generalize fA k=y1 at r_ Av;generalize fA k'=y2 at SI Av;simp only[lJ]at ZA ZB yf;rw[fY]at hv hw hf ZA ZB|-;rw[fY]at hf|-;generalize fG z l=L at hv hf ZA;generalize fG z' l'=L' at hw hf ZB;by_cases h0:x=0
   .subst h0;cases B1<;>simp[f82,hv,hw,hf,r_,SI,Av,ZA,ZB,yf]
   .simp[f82,hv,hw,r_,SI,Av,h0]
def mq {v:V}(h:gV v):v.l.length<=1000000000000000/\∀x∈v.l,gV x:=by
 cases v;rw[gV]at h;exact⟨h.2.1,λx hx=>FB h.2.2 hx⟩
def qX {v:V}{D:Nat}(h:fB v<=D+1):∀x∈v.l,fB x<=D:=by
 cases v with
 |mk k n d s z l=>intro x hx;have:=oE (l:=l) hx;simp only[fB]at h;omega
def gZ (v:V):1<=fB v:=by cases v;simp only[fB];omega
def K6 :∀(D:Nat) (v w:V),fB v<=D->fB w<=D->gV v->gV w->∀N,OC (N+3*D+6) v w:=by
 intro D
 induction D with
 |zero=>intro v w h;have:=gZ v;omega
 |
  succ D ih=>
  intro v w dv dw bv bw N b h;have hl:=D5 (N+3*D+5) v.isNil w.isNil v.l w.l (mq bv).1 (mq bw).1 (λx hx y hy=>ih x y (qX dv x hx) (qX dw y hy) ((mq bv).2 x hx) ((mq bw).2 y hy) N);have hf:=λb h=>K3 (N+3*D+6) v w hl b h
  have hv:=λb h=>oQ (N+D+2) (D+1) v dv bv b h
  have hw:=λb h=>oQ (N+D+2) (D+1) w dw bw b h
  have nv:=λb h=>r6 (N+D+1) (D+1) v dv bv b h
  have nw:=λb h=>r6 (N+D+1) (D+1) w dw bw b h
  rw[show N+D+2+2*(D+1)+4=N+3*D+8 by omega]at hv hw;rw[show N+D+1+2*(D+1)+5=N+3*D+8 by omega]at nv nw;rw[show N+3*(D+1)+6=N+3*D+8+1 by omega];have hy:=λx b h=>NK (N+3*D+7) b x h
  have hk:=λk b h=>Py (N+3*D+7) b k h
  have hi:=λx y b h=>Ba (N+3*D+7) b x y h
  have yf:=λb h=>NL (N+3*D+5) b (mg v) (mh v) (mg w) (mh w) h
  have e:j6 v w=if jF v=jF w then(if jF w then(if ej (fA v.k) (fA w.k)=0 then(if v.k=2\/v.k=3 then tj v.n (if v.k=2 then 1 else v.d) w.n (if w.k=2 then 1 else w.d)else qW v w)else ej (fA v.k) (fA w.k))else qW v w)else if jF w then 1 else-1:=by
   cases v;rw[j6];rfl
  rw[e];cases hp:jF v<;>cases hq:jF w<;>rw[hp]at hv<;>rw[hq]at hw
  .have:=K4 (N+3*D+8) v w b h (qW v w) hv hw hf;simpa[jB]using this
  .have:=Bb (N+3*D+8) v w b h false true hv hw hy (by decide);simpa[jB]using this
  .have:=Bb (N+3*D+8) v w b h true false hv hw hy (by decide);simpa[jB]using this
  .have:=K5 (N+3*D+8) v w b h (qW v w) _ _ _ _ _ _ _ hv hw hk hi nv nw yf hf;simp only[jB]at this;rw[this];simp only[if_true,kj,hp,Bool.true_and];by_cases h0:ej (fA v.k) (fA w.k)=0
   .simp only[h0,if_true];by_cases h1:v.k=2\/v.k=3
    .have fq:fA v.k=fA w.k:=by
      unfold ej at h0;by_cases a:fA v.k<fA w.k
      .rw[dd a]at h0;omega
      .by_cases a':fA w.k<fA v.k
       .rw[db a,dd a']at h0;omega
       .omega
     have h2:fA v.k=2:=by rcases h1 with e|e<;>rw[e]<;>rfl
     have h3:w.k=2\/w.k=3:=by
      rw[h2]at fq;unfold fA at fq
      (repeat' split at fq)<;>omega
     have q:(decide (v.k=2)||decide (v.k=3))=true:=by simpa using h1
     simp only[h1,if_true,q,cond_true,mg,mh,hp,hq];rcases h1 with e1|e1<;>rcases h3 with e3|e3<;>simp[e1,e3]
    .have q:(decide (v.k=2)||decide (v.k=3))=false:=by simp;omega
     simp[h1,q]
   .simp only[h0,if_false]
end
section
attribute [local simp] zi XM
def qY {f:FuncId}{args:LA}{n:Nat}(fi:Fi)(hs:cx.ox f=none)(hi:cx.inl f=true)(hF:cx.F f=some fi)(hd:(j5 cx fi.body).isNone=true)(iG:tv cx fi.body=true)(hl:args.length<=fi.ntmps)(b:Bool)(h:Hp)(hp:kv f=true:=by decide):
 cW cx (n+1) b f args h=eQ fi.res (dS cx (cW cx n) fi.body (args++List.replicate (fi.ntmps-args.length) .un,h)):=by
 have e1:cx.ins f=none:=Bc hp;have e2:(if args.all d_ then cx.tE f args else none)=none:=by rw[show cx.tE f args=none from wV hp];split<;>rfl
 simp only[cW,hs,hi,if_true,e1,e2,hF,Yd.1 hd];exact kh hF iG hl h
def K7 {f:FuncId}{args:LA}{n:Nat}(fn:Func)(res:List Rv){b:Bool}{h:Hp}(hs:cx.ox f=none:=by rfl)(hi:cx.inl f=true:=by kernel_rfl)(hF:cx.F f=some ⟨fn.ntmps,(fn.body).getD .skip,res⟩:=by kernel_rfl)(hd:(j5 cx ((fn.body).getD .skip)).isNone=true:=by kernel_rfl)(iG:tv cx ((fn.body).getD .skip)=true:=by kernel_rfl)(hl:Nat.ble args.length fn.ntmps=true:=by rfl)(hp:kv f=true:=by decide):cW cx (n+1) b f args h=eQ res (dS cx (cW cx n) ((fn.body).getD .skip) (args++List.replicate (fn.ntmps-args.length) .un,h)):=
 qY ⟨fn.ntmps,(fn.body).getD .skip,res⟩ hs hi hF hd iG (Nat.le_of_ble_eq_true hl) b h hp
def Tm (n:Nat)(b:Bool)(r:Int)(h:Hp):cW cx (n+1) b 298 [.sc (.int .i32 r)] h=some (.sc (.bool (decide (r<32)||decide (126<r))),h):=by
 rw[K7 f298 [.tmp 2]];by_cases h1:r<32<;>simp[f298,h1]
def Pz :List UInt8->Nat->Int
 | [],_=> -1
 |c::l,i=>if K8 c=true then Pz l (i+1)else i
def vn (x:ByteArray)(i:Nat):Int:=Pz (x.data.toList.drop i) i
def HD :∀(l:List UInt8) (i:Nat),(Pz l i<0)=(l.all K8=true)
 | [],i=>by simp[Pz]
 |
  c::l,i=>by
  rw[Pz,Zn];cases h:K8 c
  .simp
  .simp[HD l (i+1)]
def Tn (x:ByteArray)(i:Nat)(h:x.size<=i):vn x i= -1:=by unfold vn;rw[Zt h];rfl
def PA {x:ByteArray}{i:Nat}{c:UInt8}(h:x.data.toList[i]?=some c):vn x i=if K8 c=true then vn x (i+1)else i:=by
 obtain⟨k,e⟩:=Za.1 h;unfold vn;rw[Zm k,e,Pz]
def ZC {x:ByteArray}{i:Nat}{c:UInt8}(h:x.data.toList[i]?=some c):(K8 c=true/\Utf8.decode x i=(c.toNat,1)/\32<=c.toNat/\c.toNat<=126)\/(K8 c=false/\((Utf8.decode x i).1<32\/126< (Utf8.decode x i).1)):=by
 obtain⟨k,e⟩:=Za.1 h;have kx:i<x.size:=k;have ex:x[i]'kx=c:=e;by_cases ha:c.toNat<128
 .have hd:=decode_ascii x i kx (by rw[ex];exact ha);rw[ex]at hd;cases hc:K8 c with
  |
   true=>
   left;simp only[K8,Zh,Zz]at hc;exact⟨rfl,hd,hc.1,hc.2⟩
  |
   false=>
   right;rw[hd];simp only[K8,Bool.and_eq_false_iff,decide_eq_false_iff_not]at hc;exact⟨rfl,by simp only;omega⟩
 .have hd:=decode_high x i kx (by rw[ex];omega);right;refine⟨?_,.inr (by omega)⟩;simp only[K8,Bool.and_eq_false_iff,decide_eq_false_iff_not];omega
def Di (n:Nat)(b:Bool)(x:ByteArray)(h:Hp)(hx:x.size<=1000000000000000):cW cx (n+2) b 326 [.sc (.string x),.fn 298 [],true] h=some (.sc (.int .i64 (vn x 0)),h):=by
 refine fZ f326 [.tmp 6] rfl rfl ?_ b h;have gC:x.data.toList.length=x.size:=rfl;have fq:=λb r h=>Tm n b r h
 simp[f326];refine lS
  (λi s iR=>vn x 0=vn x i/\s.length=21/\gt s 1= .fn 298 []/\gt s 2=true/\gt s 10= .pt 0 0/\iR=[.iter x i])
  (λo s _=>s.length=21/\((o= .exit 0/\vn x 0= -1)\/(o= .ret/\gt s 6= .sc (.int .i64 (vn x 0))))) x.size (by simp;omega) (by simp) ?_ ?_
 .rintro i fr h eG ⟨ho,cU,h1,h2,lQ,hh⟩;subst hh;by_cases hi:i<x.size
  .obtain⟨c,hc⟩:∃c,x.data.toList[i]?=some c:=⟨_,Zb (by omega)⟩;rw[PA hc]at ho;rcases ZC hc with⟨hk,hd,k1,k2⟩|⟨hk,hd⟩
   .rw[dd hk]at ho;have aa:¬((c.toNat:Int)<32):=by omega
    have ae:¬(126< (c.toNat:Int)):=by omega
    generalize c.toNat=d at hd aa ae;simp[cU,h1,h2,lQ,hi,hd,fq,aa,ae];exact ho
   .rw[db (by rw[hk];simp)]at ho;generalize hde:Utf8.decode x i=de at hd;obtain⟨d,wd⟩:=de;simp only at hd;by_cases aa:(d:Int)<32
    .simp[cU,h1,h2,lQ,hi,hde,fq,aa,ho]
    .have ae:126< (d:Int):=by omega
     simp[cU,h1,h2,lQ,hi,hde,fq,aa,ae,ho]
  .have hz:vn x 0= -1:=by rw[ho,Tn x i (by omega)]
   simp[cU,lQ,hi,hz]
 .rintro o fr h hn ⟨cU,⟨rfl,hz⟩|⟨rfl,h2⟩⟩
  .simp[cU,hz]
  .simp[h2]
def Dj (n:Nat)(b:Bool)(x:ByteArray)(h:Hp)(hx:x.size<=1000000000000000):cW cx (n+3) b 297 [.sc (.string x),.fn 298 []] h=some (.sc (.int .i64 (vn x 0)),h):=by
 refine fZ f297 [.tmp 4] rfl rfl ?_ b h;have hc:=λb h=>Di n b x h hx
 simp[f297,hc]
def ZD (x:ByteArray):(vn x 0<0)=(HA x=true):=by
 unfold vn;rw[HD];rfl
end
section
attribute [local simp] zi da XM
@[simp] def ahO (h:Hp)(a:fp)(l:Hp):(h++a::l)[h.length]?=some a:=by simp
@[simp] def ah0 (h:Hp)(a b:fp)(l:Hp):(h++a::b::l)[h.length+1]?=some b:=by rw[Zf (by omega)];simp
@[simp] def ah6 (h:Hp)(a b:fp)(l:Hp):(h++a::l).set h.length b=h++b::l:=by rw[List.set_append_right _ _ (Yt _)];simp
@[simp] def ahD (h:Hp)(a b c:fp)(l:Hp):(h++a::b::l).set (h.length+1) c=h++a::c::l:=by rw[List.set_append_right _ _ (by omega)];simp
@[simp] def alA :List.range 2=[0,1]:=rfl
@[simp] def alz :List.range 3=[0,1,2]:=rfl
@[simp] def alw :List.range 4=[0,1,2,3]:=rfl
@[simp] def alx :List.range 5=[0,1,2,3,4]:=rfl
def PVC (N:Nat)(v:V):Prop:=∀b q h,0<=q->q<=8->cW cx N b 246 [.ag (enc v),.sc (.int .i64 q)] h=some (.sc (.bool (pR v (8-q))),h)
def adk {v:V}(h:v.k=5\/v.k=6)(m m':Int):pR v m=pR v m':=by
 cases v with
 |
  mk k n d s z l=>
  simp only[V.k]at h;rw[pR,pR];rcases h with rfl|rfl<;>simp
def Tp (N:Nat)(b:Bool)(z:Bool)(l:List V)(h:Hp)(hv:∀x∈l,PVC N x):cW cx (N+1) b 299 [fG z l] h=some (.sc (.bool (zj l)),h):=by
 have hc:[fG z l].all d_=true:=by rw[Zn,kQ];rfl
 refine fZ f299 [.tmp 2] hc rfl ?_ b h;clear hc;unfold zj;rcases gu z l with⟨rfl,e⟩|e
 .simp[f299,e]
 rw[e];have hq:=dK l;have hg:=fP l;generalize dN l=cY at hq hg;have hm:((l.length:Int).tmod 2)=((l.length % 2:Nat):Int):=rfl;by_cases h0:l.length % 2=0
 .rw[h0]at hm;simp[f299,hq,hm,h0]
 have Ft:l.length % 2=1:=by omega
 rw[Ft]at hm;by_cases h2:25< (l.length:Int)
 .simp[f299,hq,hm,Ft,h2,show¬(l.length:Int)<=25 by omega]
 have wT:(l.length:Int)<=25:=by omega
 simp[f299,hq,hm,Ft,h2,wT];refine lS
  (λi s _=>wB l false=z8 l i/\s.length=37/\gt s 15= .ls 5 cY z/\gt s 16=l.length/\gt s 17=i)
  (λo s _=>s.length=37/\((o= .exit 0/\wB l false=true)\/(o= .ret/\wB l false=false/\gt s 2=false))) l.length (by simp;omega) (by simp[DZ]) ?_ ?_
 .rintro i fr h eG ⟨ho,cU,h15,oe,h17⟩;by_cases hi:i<l.length
  .obtain⟨c,hc⟩:=eA hi;have hr:cY[i]?=some (enc c):=by rw[hg,hc];rfl
   have du:=gA hr
   have NJ:=hv c (Zi hc);have dy:=λb h=>NJ b 0 h (by omega) (by omega)
   rw[D3 hc]at ho;have hf:dM .i64 ((i:Int)+1)=((i+1:Nat):Int):=dh (by omega) (by omega);have h56:c.k=5\/c.k=6->pR c (8-0)=pR c 0:=λq=>adk q _ _
   generalize pR c 0=K0 at ho h56;generalize pR c (8-0)=K at dy h56;cases c with
   |
    mk k n d s z' l'=>
    simp only[V.k]at ho h56;simp only[enc]at hr du dy;generalize ql z' (dN l')=L' at hr du dy;have hm:((i:Int).tmod 2)=((i % 2:Nat):Int):=rfl;rcases Nat.mod_two_eq_zero_or_one i with q|q<;>rw[q]at hm ho
    all_goals
     simp only[show¬((0:Nat)=1)from by decide,if_false,if_true]at ho
    .by_cases hk:k=5
     .subst hk;obtain rfl:=h56 (.inl rfl);cases K
      .have zz:wB l false=false:=by rw[ho];simp
       clear ho;simp[cU,h15,oe,h17,hi,hq,du,dy,hm,zz]
      .have zz:wB l false=z8 l (i+1):=by rw[ho];simp
       clear ho;simp[cU,h15,oe,h17,hi,hq,du,dy,hm,hf];exact zz
     .have zz:wB l false=false:=by rw[ho];simp[hk]
      clear ho;simp[cU,h15,oe,h17,hi,hq,du,hm,hk,zz]
    .by_cases hk:k=6
     .subst hk;obtain rfl:=h56 (.inr rfl);cases K
      .have zz:wB l false=false:=by rw[ho];simp
       clear ho;simp[cU,h15,oe,h17,hi,hq,du,dy,hm,zz]
      .have zz:wB l false=z8 l (i+1):=by rw[ho];simp
       clear ho;simp[cU,h15,oe,h17,hi,hq,du,dy,hm,hf];exact zz
     .have zz:wB l false=false:=by rw[ho];simp[hk]
      clear ho;simp[cU,h15,oe,h17,hi,hq,du,hm,hk,zz]
  .have zz:wB l false=true:=by rw[ho,Hz l i (by omega)]
   simp[cU,oe,h17,hi,zz]
 .rintro o fr h hn ⟨cU,⟨rfl,hz⟩|⟨rfl,hz,h2⟩⟩
  .simp[cU,hz]
  .simp[h2,hz]
def wW (z:Bool)(l:List V):(fG z l=()/\l.isEmpty=true)\/(fG z l= .ls 5 [] z/\l.isEmpty=true)\/∃cY,fG z l= .ls 5 cY z/\0<cY.length/\l.isEmpty=false:=by
 rcases gu z l with⟨rfl,e⟩|e
 .exact .inl ⟨e,rfl⟩
 .cases l with
  |nil=>exact .inr (.inl ⟨e,rfl⟩)
  |cons x xs=>exact .inr (.inr ⟨_,e,by rw[dK];simp,rfl⟩)
def jC (v:V)(q:Int):[jB v,.sc (.int .i64 q)].all d_=true:=by rw[Zn,ki];rfl
def K9 (M:Nat)(n d q:Int)(s:ByteArray)(z:Bool)(l:List V)(b:Bool)(h:Hp):cW cx (M+1) b 246 [jB (.mk 0 n d s z l),q] h=some (.sc (.bool (pR (.mk 0 n d s z l) (8-q))),h):=by
 refine fZ f246 [.tmp 4] (jC _ _) rfl ?_ b h;rw[kS,fY];unfold iJ;simp only[V.n,V.d,V.s,V.l];have hl:=wW z l;generalize fG z l=L at hl;generalize l.isEmpty=E at hl;by_cases hd:d=0
 rotate_left
 .simp[f246,hd]
 cases hs:kr s ⟨#[]⟩
 .simp[f246,hs,hd]
 rcases hl with⟨rfl,rfl⟩|⟨rfl,rfl⟩|⟨cY,rfl,hr,rfl⟩
 rotate_right
 .simp[f246,hr,hd,hs]
 all_goals
  by_cases hn:n=0<;>simp[f246,hn,hd,hs]
def K_ (M:Nat)(n d q:Int)(s:ByteArray)(z:Bool)(l:List V)(b:Bool)(h:Hp):cW cx (M+1) b 246 [jB (.mk 1 n d s z l),q] h=some (.sc (.bool (pR (.mk 1 n d s z l) (8-q))),h):=by
 refine fZ f246 [.tmp 4] (jC _ _) rfl ?_ b h;rw[kS,fY];unfold iJ;simp only[V.n,V.d,V.s,V.l];have hl:=wW z l;generalize fG z l=L at hl;generalize l.isEmpty=E at hl;by_cases hd:d=0
 rotate_left
 .simp[f246,hd]
 cases hs:kr s ⟨#[]⟩
 .simp[f246,hs,hd]
 rcases hl with⟨rfl,rfl⟩|⟨rfl,rfl⟩|⟨cY,rfl,hr,rfl⟩
 rotate_right
 .simp[f246,hr,hd,hs]
 all_goals
  by_cases hn:n=0
  .simp[f246,hn,hd,hs]
  .simp[f246,hn,hd,hs]
def La (M:Nat)(n d q:Int)(s:ByteArray)(z:Bool)(l:List V)(b:Bool)(h:Hp)(g1:∀b h,cW cx M b 295 [n] h=some (.sc (.bool (vm n)),h)):cW cx (M+1) b 246 [jB (.mk 2 n d s z l),q] h=some (.sc (.bool (pR (.mk 2 n d s z l) (8-q))),h):=by
 refine fZ f246 [.tmp 4] (jC _ _) rfl ?_ b h;rw[kS,fY];unfold iJ;simp only[V.n,V.d,V.s,V.l];have hl:=wW z l;generalize fG z l=L at hl;generalize l.isEmpty=E at hl;by_cases hd:d=0
 rotate_left
 .simp[f246,hd,g1]
 cases hs:kr s ⟨#[]⟩
 .simp[f246,hs,g1,hd]
 rcases hl with⟨rfl,rfl⟩|⟨rfl,rfl⟩|⟨cY,rfl,hr,rfl⟩
 rotate_right
 .simp[f246,hr,g1,hd,hs]
 all_goals simp[f246,g1,hd,hs]
def Lb (M:Nat)(n d q:Int)(s:ByteArray)(z:Bool)(l:List V)(b:Bool)(h:Hp)(g2:∀b h,cW cx M b 296 [.ag [n,d]] h=some (.sc (.bool (fv n d)),h)):cW cx (M+1) b 246 [jB (.mk 3 n d s z l),q] h=some (.sc (.bool (pR (.mk 3 n d s z l) (8-q))),h):=by
 refine fZ f246 [.tmp 4] (jC _ _) rfl ?_ b h;rw[kS,fY];unfold iJ;simp only[V.n,V.d,V.s,V.l];have hl:=wW z l;generalize fG z l=L at hl;generalize l.isEmpty=E at hl;cases hs:kr s ⟨#[]⟩
 .simp[f246,hs,g2]
 rcases hl with⟨rfl,rfl⟩|⟨rfl,rfl⟩|⟨cY,rfl,hr,rfl⟩
 rotate_right
 .simp[f246,hr,g2,hs]
 all_goals
  by_cases hd:2<=d<;>simp[f246,hd,g2,hs]
def Lc (M:Nat)(n d q:Int)(s:ByteArray)(z:Bool)(l:List V)(b:Bool)(h:Hp)(g3:∀b h,cW cx M b 297 [.sc (.string s),.fn 298 []] h=some (.sc (.int .i64 (vn s 0)),h)):cW cx (M+1) b 246 [jB (.mk 4 n d s z l),q] h=some (.sc (.bool (pR (.mk 4 n d s z l) (8-q))),h):=by
 refine fZ f246 [.tmp 4] (jC _ _) rfl ?_ b h;rw[kS,fY];unfold iJ;simp only[V.n,V.d,V.s,V.l];have hl:=wW z l;generalize fG z l=L at hl;generalize l.isEmpty=E at hl;by_cases hd:d=0
 rotate_left
 .simp[f246,hd]
 rcases hl with⟨rfl,rfl⟩|⟨rfl,rfl⟩|⟨cY,rfl,hr,rfl⟩
 rotate_right
 .simp[f246,hr,hd]
 all_goals
  have hw:=ZD s;generalize vn s 0=w at hw g3;by_cases hn:n=0
  .by_cases h1:(s.size:Int)<=100
   .by_cases h2:w<0
    .have h3:HA s=true:=by rw[<-hw];exact h2
     simp[f246,hn,h1,h2,h3,g3,hd]
    .have h3:HA s=false:=by cases h4:HA s with|false=>rfl|true=>rw[h4]at hw;exact absurd (hw.mpr rfl) h2
     simp[f246,hn,h1,h2,h3,g3,hd]
   .simp[f246,hn,h1,hd]
  .simp[f246,hn,hd]
def Ld (M:Nat)(n d q:Int)(s:ByteArray)(z:Bool)(l:List V)(b:Bool)(h:Hp):cW cx (M+1) b 246 [jB (.mk 5 n d s z l),q] h=some (.sc (.bool (pR (.mk 5 n d s z l) (8-q))),h):=by
 refine fZ f246 [.tmp 4] (jC _ _) rfl ?_ b h;rw[kS,fY];unfold iJ;simp only[V.n,V.d,V.s,V.l];have hl:=wW z l;generalize fG z l=L at hl;generalize l.isEmpty=E at hl;by_cases hd:d=0
 rotate_left
 .simp[f246,hd]
 cases hs:kr s ⟨#[]⟩
 .simp[f246,hs,hd]
 rcases hl with⟨rfl,rfl⟩|⟨rfl,rfl⟩|⟨cY,rfl,hr,rfl⟩
 rotate_right
 .simp[f246,hr,hd,hs]
 all_goals
  by_cases hn:1<=n<;>simp[f246,hn,hd,hs]
def Le (M:Nat)(n d q:Int)(s:ByteArray)(z:Bool)(l:List V)(b:Bool)(h:Hp):cW cx (M+1) b 246 [jB (.mk 6 n d s z l),q] h=some (.sc (.bool (pR (.mk 6 n d s z l) (8-q))),h):=by
 refine fZ f246 [.tmp 4] (jC _ _) rfl ?_ b h;rw[kS,fY];unfold iJ;simp only[V.n,V.d,V.s,V.l];have hl:=wW z l;generalize fG z l=L at hl;generalize l.isEmpty=E at hl;by_cases hd:d=0
 rotate_left
 .simp[f246,hd]
 cases hs:kr s ⟨#[]⟩
 .simp[f246,hs,hd]
 rcases hl with⟨rfl,rfl⟩|⟨rfl,rfl⟩|⟨cY,rfl,hr,rfl⟩
 rotate_right
 .simp[f246,hr,hd,hs]
 all_goals
  by_cases hn:1<=n<;>simp[f246,hn,hd,hs]
def Lf (M:Nat)(n d q:Int)(s:ByteArray)(z:Bool)(l:List V)(b:Bool)(h:Hp)(g4:∀b h,cW cx M b 299 [fG z l] h=some (.sc (.bool (zj l)),h)):cW cx (M+1) b 246 [jB (.mk 7 n d s z l),q] h=some (.sc (.bool (pR (.mk 7 n d s z l) (8-q))),h):=by
 refine fZ f246 [.tmp 4] (jC _ _) rfl ?_ b h;rw[kS,fY];unfold iJ;simp only[V.n,V.d,V.s,V.l];have hl:=wW z l;generalize fG z l=L at hl g4;generalize l.isEmpty=E at hl;by_cases hd:d=0
 rotate_left
 .simp[f246,hd]
 cases hs:kr s ⟨#[]⟩
 .simp[f246,hs,hd]
 rcases hl with⟨rfl,rfl⟩|⟨rfl,rfl⟩|⟨cY,rfl,hr,rfl⟩
 all_goals
  by_cases hn:n=0<;>simp[f246,hn,g4,hd,hs]
def Lg (M:Nat)(k n d q:Int)(s:ByteArray)(z:Bool)(l:List V)(b:Bool)(h:Hp)(h0:¬k=0)(h1:¬k=1)(h2:¬k=2)(h3:¬k=3)(h4:¬k=4)(h5:¬k=5)(h6:¬k=6)(h7:¬k=7)(h8:¬k=8):cW cx (M+1) b 246 [jB (.mk k n d s z l),q] h=some (.sc (.bool (pR (.mk k n d s z l) (8-q))),h):=by
 refine fZ f246 [.tmp 4] (jC _ _) rfl ?_ b h;rw[kS,fY];have hl:=wW z l;generalize fG z l=L at hl;generalize l.isEmpty=E at hl;by_cases hd:d=0
 rotate_left
 .simp[f246,h0,h1,h2,h3,h4,h5,h6,h7,h8,hd]
 cases hs:kr s ⟨#[]⟩
 .simp[f246,h0,h1,h2,h3,h4,h5,h6,h7,h8,hd,hs]
 rcases hl with⟨rfl,rfl⟩|⟨rfl,rfl⟩|⟨cY,rfl,hr,rfl⟩
 rotate_right
 .simp[f246,h0,h1,h2,h3,h4,h5,h6,h7,h8,hd,hs,hr]
 all_goals simp[f246,h0,h1,h2,h3,h4,h5,h6,h7,h8,hd,hs]
def Lh (M:Nat)(n d q:Int)(s:ByteArray)(z:Bool)(l:List V)(b:Bool)(h:Hp)(ZE:0<=q)(hq8:q<=8)(hv:∀x∈l,PVC M x):cW cx (M+1) b 246 [jB (.mk 8 n d s z l),q] h=some (.sc (.bool (pR (.mk 8 n d s z l) (8-q))),h):=by
 refine fZ f246 [.tmp 4] (jC _ _) rfl ?_ b h;rw[kS,fY];unfold iJ;simp only[V.n,V.d,V.s,V.l];by_cases hd:d=0
 rotate_left
 .simp[f246,hd]
 cases hs:kr s ⟨#[]⟩
 .simp[f246,hd,hs]
 by_cases hn:n=0
 rotate_left
 .simp[f246,hd,hs,hn]
 unfold D4;have e1:decide (1<=8-q)= !decide (8<=q):=by
  by_cases c:8<=q
  .rw[decide_eq_true c,decide_eq_false (by omega)];rfl
  .rw[decide_eq_false c,decide_eq_true (by omega)];rfl
 rw[e1];rcases gu z l with⟨rfl,e⟩|e
 .rw[e];by_cases h3:8<=q
  .simp[f246,hd,hs,hn,h3]
  simp[f246,hd,hs,hn,h3,Ax];refine eC (C:=cx) (G:=λr=>∃h',eQ _ (eR _ _ (dL _ (eR _ _ (dL _ r) _)) _)=some (_,h'))
   (λi s=>i=0/\s.1.length=142/\gt s.1 121=(0:Int)/\gt s.1 122=(0:Int))
   (λo s=>s.1.length=142/\o= .exit 1) 0 (by simp) (by simp) ?_ ?_
  .rintro i fr h eG ⟨rfl,cU,Li,Lj⟩;simp only at cU Li Lj;simp[cU,Li,Lj]
  .rintro o fr h hn ⟨cU,rfl⟩;simp only at cU;simp[cU]
 .rw[e];have hz:=dK l;have hg:=fP l;generalize dN l=cY at hz hg;by_cases h2:64< (l.length:Int)
  .simp[f246,hd,hs,hn,hz,h2,show¬(l.length:Int)<=64 by omega]
  have wT:(l.length:Int)<=64:=by omega
  by_cases h3:8<=q
  .simp[f246,hd,hs,hn,hz,h2,wT,h3]
  simp[f246,hd,hs,hn,hz,h2,wT,h3];have KL:dM .i64 (q+1)=q+1:=dh (by omega) (by omega);have e2:(8:Int)-q-1=8-(q+1):=by omega
  rw[e2];refine eC (C:=cx) (G:=λr=>∃h',eQ _ (eR _ _ (dL _ (eR _ _ (dL _ r) _)) _)=some (_,h'))
   (λi s=>Ax l (8-(q+1))=Dk l (8-(q+1)) i/\s.1.length=142/\gt s.1 1=q/\gt s.1 120= .ls 5 cY z/\gt s.1 121=l.length/\gt s.1 122=i)
   (λo s=>s.1.length=142/\((o= .exit 1/\Ax l (8-(q+1))=true)\/(o= .ret/\Ax l (8-(q+1))=false/\gt s.1 4=false))) l.length (by simp;omega) (by simp[D6]) ?_ ?_
  .rintro i fr h eG ⟨ho,cU,h1,adl,Li,Lj⟩;simp only at cU h1 adl Li Lj;by_cases hi:i<l.length
   .obtain⟨c,hc⟩:=eA hi;have hr:cY[i]?=some (enc c):=by rw[hg,hc];rfl
    have du:=gA hr
    have NJ:=hv c (Zi hc);have dy:=λb h=>NJ b (q+1) h (by omega) (by omega)
    rw[D7 hc]at ho;have hf:dM .i64 ((i:Int)+1)=((i+1:Nat):Int):=dh (by omega) (by omega);generalize pR c (8-(q+1))=K at dy ho;cases c with
    |
     mk k' n' d' s' z' l'=>
     simp only[enc]at hr du dy;generalize ql z' (dN l')=L' at hr du dy;cases K
     .have zz:Ax l (8-(q+1))=false:=by rw[ho];rfl
      clear ho;simp[cU,h1,adl,Li,Lj,hi,hz,du,KL,dy,zz]
     .have zz:Ax l (8-(q+1))=Dk l (8-(q+1)) (i+1):=by rw[ho];rfl
      clear ho;simp[cU,h1,adl,Li,Lj,hi,hz,du,KL,dy,hf];exact zz
   .have zz:Ax l (8-(q+1))=true:=by rw[ho,HE l _ i (by omega)]
    simp[cU,Li,Lj,hi,zz]
  .rintro o fr h hn ⟨cU,⟨rfl,hz⟩|⟨rfl,hz,h2⟩⟩
   .simp only at cU;simp[cU,hz]
   .simp only at h2;simp[h2,hz]
def PB (N:Nat)(v:V)(hs:v.s.size<=1000000000000000)(X9:∀x∈v.l,PVC (N+3) x)(hv4:∀x∈v.l,PVC (N+4) x):PVC (N+5) v:=by
 intro b q h ZE hq8;cases v with
 |
  mk k n d s z l=>
  simp only[V.s,V.l]at hs X9 hv4;have g1:=λb h=>FC (N+3) b n h
  have g2:=λb h=>vX (N+1) b n d h
  have g3:=λb h=>Dj (N+1) b s h hs
  have g4:=λb h=>Tp (N+3) b z l h X9
  simp only[lJ]at g2;show cW cx (N+5) b 246 [jB (.mk k n d s z l),q] h=_;by_cases h0:k=0
  .subst h0;exact K9 (N+4) n d q s z l b h
  by_cases h1:k=1
  .subst h1;exact K_ (N+4) n d q s z l b h
  by_cases h2:k=2
  .subst h2;exact La (N+4) n d q s z l b h g1
  by_cases h3:k=3
  .subst h3;exact Lb (N+4) n d q s z l b h g2
  by_cases h4:k=4
  .subst h4;exact Lc (N+4) n d q s z l b h g3
  by_cases h5:k=5
  .subst h5;exact Ld (N+4) n d q s z l b h
  by_cases h6:k=6
  .subst h6;exact Le (N+4) n d q s z l b h
  by_cases h7:k=7
  .subst h7;exact Lf (N+4) n d q s z l b h g4
  by_cases h8:k=8
  .subst h8;exact Lh (N+4) n d q s z l b h ZE hq8 hv4
  exact Lg (N+4) k n d q s z l b h h0 h1 h2 h3 h4 h5 h6 h7 h8
def ZF :∀(D:Nat) (v:V),fB v<=D->gV v->∀N,PVC (N+2*D+3) v:=by
 intro D
 induction D with
 |zero=>intro v h;have:=gZ v;omega
 |
  succ D ih=>
  intro v h hb N;have hl:∀x∈v.l,fB x<=D/\gV x:=λx hx=>⟨qX h x hx,(mq hb).2 x hx⟩
  have hs:v.s.size<=1000000000000000:=by cases v;rw[gV]at hb;exact hb.1
  have:=PB (N+2*D) v hs (λx hx=>ih x (hl x hx).1 (hl x hx).2 N) (λx hx=>by
   have:=ih x (hl x hx).1 (hl x hx).2 (N+1)
   rwa [show N+1+2*D+3=N+2*D+4 by omega]at this)
  rw[show N+2*(D+1)+3=N+2*D+5 by omega];exact this
end
end Go.Proofs.YtaibpnppeiigdaaGreatDoor
