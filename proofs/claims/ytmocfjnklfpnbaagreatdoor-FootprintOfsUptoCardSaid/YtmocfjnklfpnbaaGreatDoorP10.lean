/- Part of the proof. -/
import Derived.Test.YtmocfjnklfpnbaaGreatDoorP9
import Derived.Laws.RangeAny
import Derived.Laws.RangeString
set_option linter.all false
set_option maxHeartbeats 8000000
set_option maxRecDepth 100000
namespace Go.Proofs.YtmocfjnklfpnbaaGreatDoor
open Go Go.Ae Go.Proofs.Tryz
section
attribute [local simp] ew eY
mutual
def oK :V->Prop
 | .mk _ _ _ s _ l=>s.size<=1000000000000000/\l.length<=1000000000000000/\bdL l
def bdL :List V->Prop
 | []=>True
 |x::xs=>oK x/\bdL xs
end
def Eb{v:V}:∀{l:List V},bdL l->v∈l->oK v
 |
  x::xs,hb,h=>by
  rw[bdL]at hb;rcases Yv.1 h with rfl|h
  .exact hb.1
  .exact Eb hb.2 h
def aaP :∀(D:Nat)(v:V),kj v<=D->oK v->∀N,VC (N+2*D+3) v:=by
 intro D
 induction D with
 |zero=>intro v h;cases v;simp[kj]at h
 |succ D ih=>
  intro v h hb N;have hl:∀x∈v.l,kj x<=D/\oK x:=by
   cases v with
   |mk k n d s z l=>
    intro x hx;simp only[kj]at h;rw[oK]at hb;have:=vw (l:=l) hx;exact⟨by omega,Eb hb.2.2 hx⟩
  have hs:v.s.size<=1000000000000000:=by cases v;rw[oK]at hb;exact hb.1
  have:=MG (N+2*D) v hs (λx hx=>ih x (hl x hx).1 (hl x hx).2 N);rw[show N+2*(D+1)+3=N+2*D+5 by omega];exact this
def pF(N D:Nat)(v:V)(hd:kj v<=D)(hb:oK v)(b:Bool)(h:Hp):cu cx (N+2*D+4) b 108 [jq v] h=some (.sc (.bool (k_ v)),h):=by
 have hv:=λb h=>aaP D v hd hb N b 8 h (by omega) (by omega)
 have hc:=l8 v;refine fU (n:=N+2*D+3) f108 [.tmp 2] hc rfl ?_ b h;clear hc;unfold k_;generalize px v 8=K,N+2*D+3=M at hv;cases v with
 |mk k n d s z l=>
  rw[fJ];have he:enc (.mk k n d s z l)=[.sc (.int .i64 k),.sc (.int .i64 n),.sc (.int .i64 d),.sc (.string s),gY z l]:=rfl;rw[he]at hv;generalize gY z l=L at hv;simp[f108,hv]
end
section
attribute [local simp] ew cF eY
def pG(v:V):Int:=if k_ v then(if v.k=2 then v.n else if v.k=3 then v.n else 0)else 0
def pH(v:V):Int:=if k_ v then(if v.k=2 then 1 else if v.k=3 then v.d else 0)else 0
def um(v:V):Bool:=k_ v && (decide (v.k=2)||decide (v.k=3))
def zQ(N D:Nat)(v:V)(hd:kj v<=D)(hb:oK v)(b:Bool)(h:Hp):cu cx (N+2*D+5) b 113 [jq v] h=some (.tp [mE (pG v) (pH v),.sc (.bool (um v))],h):=by
 have hv:=λb h=>pF N D v hd hb b h
 have hc:=l8 v;have hr:da [] 8 (.tp [mE (pG v) (pH v),.sc (.bool (um v))])=some (.tp [mE (pG v) (pH v),.sc (.bool (um v))]):=rfl;clear hr
 suffices H:(∃r,r=AV.tp [mE (pG v) (pH v),.sc (.bool (um v))]/\∀b h,cu cx (N+2*D+5) b 113 [jq v] h=some (r,h)) by
  obtain⟨r,rfl,hr⟩:=H;exact hr b h
 refine vx (f:=113) (n:=N+2*D+4) (args:=[jq v]) (λr=>r= .tp [mE (pG v) (pH v),.sc (.bool (um v))]) ⟨f113.ntmps,(f113.body).getD .skip,[.cell 2 2 true,.tmp 3]⟩ (by kernel_rfl) (by kernel_rfl) rfl (by kernel_rfl) (by simp[f113]) hc ?_;clear hc;generalize N+2*D+4=M at hv;cases v with
 |mk k n d s z l=>
  unfold pG pH um;generalize k_ (.mk k n d s z l)=K at hv;simp only[V.k,V.n,V.d];rw[fJ]at hv|-;generalize gY z l=L at hv;cases K
  .simp[f113,hv,mE];exact qW rfl
  .by_cases h2:k=2
   .subst h2;simp[f113,hv,mE];exact qW rfl
   .by_cases h3:k=3
    .subst h3;simp[f113,hv,mE];exact qW rfl
    .simp[f113,hv,mE,h2,h3];exact qW rfl
end
section
attribute [local simp] ew eY
def ri(v w:V):Int:=rj [eO v.k w.k,eO v.n w.n,eO v.d w.d,iZ v.s w.s,jz v.l w.l]
def I6(N:Nat)(v w:V)(hl:∀b h,cu cx (N+1) b 167 [gY v.isNil v.l,gY w.isNil w.l] h=some (.sc (.int .i64 (jz v.l w.l)),h))(b:Bool)(h:Hp):
 cu cx (N+2) b 110 [jq v,jq w] h=some (.sc (.int .i64 (ri v w)),h):=by
 have hc:=l9 v w;refine fU f110 [.tmp 4] hc rfl ?_ b h;clear hc;cases v with
 |mk k n d s z l=>
  cases w with
  |mk k' n' d' s' z' l'=>
   have hi:=λx y b h=>zR N b x y h
   have hs:=λb h=>Qd N b s s' h
   simp only[V.l,V.isNil]at hl;simp only[ri,V.k,V.n,V.d,V.s,V.l,fJ];have hL:(∃r,gY z l= .ls 5 r z)\/gY z l=():=(gW z l).elim (λe=> .inr e.2) (λe=> .inl ⟨_,e⟩);have je:(∃r,gY z' l'= .ls 5 r z')\/gY z' l'=():=(gW z' l').elim (λe=> .inr e.2) (λe=> .inl ⟨_,e⟩);generalize gY z l=L at hl hL;generalize gY z' l'=L' at hl je;have i1:=λb h=>hi k k' b h
   have i2:=λb h=>hi n n' b h
   have i3:=λb h=>hi d d' b h
   generalize eO k k'=c1 at i1;generalize eO n n'=c2 at i2;generalize eO d d'=c3 at i3;generalize iZ s s'=c4 at hs;generalize jz l l'=c5 at hl;clear hi;by_cases h1:c1=0
   .subst h1;by_cases h2:c2=0
    .subst h2;by_cases h3:c3=0
     .subst h3;by_cases h4:c4=0
      .subst h4;rcases hL with⟨r,rfl⟩|rfl<;>rcases je with⟨r',rfl⟩|rfl<;>simp[f110,i1,i2,i3,hs,hl,rj]
      .simp[f110,i1,i2,i3,hs,h4,rj]
     .simp[f110,i1,i2,i3,h3,rj]
    .simp[f110,i1,i2,h2,rj]
   .simp[f110,i1,h1,rj]
def OC(N:Nat)(v w:V):Prop:=∀b h,cu cx N b 57 [.ag (enc v),.ag (enc w)] h=some (.sc (.int .i64 (kE v w)),h)
def vy(l m:List V)(i:Nat):Int:=jz (l.drop i) (m.drop i)
def uo(l m:List V):jz l m=vy l m 0:=rfl
def nz(l m:List V)(i:Nat)(h1:i<=l.length)(h2:i<=m.length)(h:i=l.length\/i=m.length):vy l m i=eO l.length m.length:=by
 unfold vy;rcases Nat.lt_or_ge i l.length with q|q
 .have e':m.drop i=[]:=Zt (by omega);rw[Zm q,e'];show(1:Int)=eO l.length m.length;unfold eO;rw[cv (by omega),cw (by omega)]
 .have e:l.drop i=[]:=Zt q;rcases Nat.lt_or_ge i m.length with p|p
  .rw[e,Zm p];show(-1:Int)=eO l.length m.length;unfold eO;rw[cw (by omega)]
  .rw[e,Zt p];show(0:Int)=eO l.length m.length;unfold eO;rw[cv (by omega),cv (by omega)]
def uq{l m:List V}{i:Nat}{x y:V}(h:l[i]?=some x)(h':m[i]?=some y):vy l m i=if kE x y=0 then vy l m (i+1)else kE x y:=by
 obtain⟨k,e⟩:=Za.1 h;obtain⟨k',e'⟩:=Za.1 h';unfold vy;rw[Zm k,e,Zm k',e',jz]
def nA(z:Bool)(l:List V):(gY z l= .ls 5 (fj l) z)\/(gY z l=()/\l.length=0):=(gW z l).elim (λe=> .inr ⟨e.2,by rw[e.1];rfl⟩) .inl
def MH(N:Nat)(z z':Bool)(l m:List V)(hl:l.length<=1000000000000000)(_hm:m.length<=1000000000000000)(ho:∀x∈l,∀y∈m,OC (N+1) x y)(b:Bool)(h:Hp):
 cu cx (N+2) b 167 [gY z l,gY z' m] h=some (.sc (.int .i64 (jz l m)),h):=by
 have hc:[gY z l,gY z' m].all calm=true:=by rw[Zn,Zn,lH,lH];rfl
 refine fU f167 [.tmp 4] hc rfl ?_ b h;clear hc;have hL:=nA z l;have je:=nA z' m;generalize gY z l=L at hL;generalize gY z' m=L' at je;simp[f167];refine ve
  (λi s _=>i<=m.length/\jz l m=vy l m i/\s.length=36/\gt s 0=L/\gt s 1=L'/\gt s 5=i)
  (λo s _=>s.length=36/\((o= .exit 0/\jz l m=eO l.length m.length/\gt s 0=L/\gt s 1=L')\/(o= .ret/\gt s 4= .sc (.int .i64 (jz l m))))) l.length (by simp;omega) (by simp[uo]) ?_ ?_
 .rintro i fr h cP ⟨wV,pI,cp,h0,h1,h5⟩;have hq:=dS l;have hg:=jA l;have vf:=dS m;have I7:=jA m;generalize fj l=cq at hq hg hL;generalize fj m=rows' at vf I7 je;by_cases hi:i<l.length
  .rcases hL with hL|⟨hL,hz⟩
   .subst hL;by_cases hj:i<m.length
    .rcases je with je|⟨je,hz⟩
     .subst je;obtain⟨x,hx⟩:=eA hi;obtain⟨y,hy⟩:=eA hj;have hr:cq[i]?=some (enc x):=by rw[hg,hx];rfl
      have oL:rows'[i]?=some (enc y):=by rw[I7,hy];rfl
      have cC:=gA hr
      have rm:=gA oL
      have cW:=ho x (Zi hx) y (Zi hy);unfold OC at cW;rw[uq hx hy]at pI;have hf:dA .i64 ((i:Int)+1)=((i+1:Nat):Int):=cK (by omega) (by omega);generalize kE x y=c at cW pI;by_cases rO:c=0
      .subst rO;rw[cw rfl]at pI;simp[cp,h0,h1,h5,hi,hj,hq,vf,cC,rm,cW,hf];exact⟨by omega,pI⟩
      .rw[cv rO]at pI;simp[cp,h0,h1,h5,hi,hj,hq,vf,cC,rm,cW,rO,pI]
     .omega
    .have hz:=nz l m i (by omega) (by omega) (by omega);rw[<-pI]at hz;rcases je with je|⟨je,hz'⟩
     .subst je;simp[cp,h0,h1,h5,hi,hj,hq,vf,hz]
     .subst je;obtain rfl:i=0:=by omega
      simp[cp,h0,h1,h5,hi,hq,hz]
   .omega
  .have hz:=nz l m i (by omega) (by omega) (by omega);rw[<-pI]at hz;rcases hL with hL|⟨hL,hz'⟩
   .subst hL;simp[cp,h0,h1,h5,hi,hq,hz]
   .subst hL;obtain rfl:i=0:=by omega
    simp[cp,h0,h1,h5,hz]
 .have hq:=dS l;have vf:=dS m;have hin:=λx y b h=>zR N b x y h
  rintro o fr h hn ⟨cp,⟨rfl,hz,h0,h1⟩|⟨rfl,h2⟩⟩
  .rw[hz];rcases hL with hL|⟨hL,e⟩<;>rcases je with je|⟨je,e'⟩<;>subst hL<;>subst je<;>simp[*]
  .simp[h2]
end
section
attribute [local simp] ew cF eY
def zS(M:Nat)(v w:V)(b:Bool)(h:Hp)(p q:Bool)(hv:∀b h,cu cx M b 108 [jq v] h=some ((p:AV),h))(hw:∀b h,cu cx M b 108 [jq w] h=some ((q:AV),h))(hy:∀x b h,cu cx M b 109 [.sc (.bool x)] h=some (.sc (.int .i64 (I8 x)),h))(hpq:p≠q):
 cu cx (M+1) b 57 [jq v,jq w] h=some (.sc (.int .i64 (if q then 1 else-1)),h):=by
 have hc:=l9 v w;refine fU f57 [.tmp 4] hc rfl ?_ b h;clear hc;cases v with
 |mk k n d s z l=>
  cases w with
  |mk k' n' d' s' z' l'=>
   rw[fJ]at hv hw|-;rw[fJ];generalize gY z l=L at hv;generalize gY z' l'=L' at hw;cases p<;>cases q<;>simp at hpq<;>simp[f57,hv,hw,hy,I8,show dA .i64 1=1 from rfl,show dA .i64 (-1)= -1 from rfl]
def I9(M:Nat)(v w:V)(b:Bool)(h:Hp)(c:Int)(hv:∀b h,cu cx M b 108 [jq v] h=some ((false:AV),h))(hw:∀b h,cu cx M b 108 [jq w] h=some ((false:AV),h))(hf:∀b h,cu cx M b 110 [jq v,jq w] h=some ((c:AV),h)):
 cu cx (M+1) b 57 [jq v,jq w] h=some ((c:AV),h):=by
 have hc:=l9 v w;refine fU f57 [.tmp 4] hc rfl ?_ b h;clear hc;cases v with
 |mk k n d s z l=>
  cases w with
  |mk k' n' d' s' z' l'=>
   rw[fJ]at hv hw hf|-;rw[fJ]at hf|-;generalize gY z l=L at hv hf;generalize gY z' l'=L' at hw hf;by_cases e:(AV.ag [k,n,d,s,L])=(AV.ag [k',n',d',s',L'])
   .simp[f57,hv,hw,hf]
   .simp[f57,hv,hw,hf]
def I_(M:Nat)(v w:V)(b:Bool)(h:Hp)(c g N1 D1 N2 D2:Int)(B1 B2:Bool)(hv:∀b h,cu cx M b 108 [jq v] h=some ((true:AV),h))(hw:∀b h,cu cx M b 108 [jq w] h=some ((true:AV),h))(hk:∀k b h,cu cx M b 112 [.sc (.int .i64 k)] h=some (.sc (.int .i64 (eZ k)),h))(hi:∀x y b h,cu cx M b 111 [.sc (.int .i64 x),.sc (.int .i64 y)] h=some (.sc (.int .i64 (eO x y)),h))(Vm:∀b h,cu cx M b 113 [jq v] h=some (.tp [mE N1 D1,B1],h))(Vn:∀b h,cu cx M b 113 [jq w] h=some (.tp [mE N2 D2,B2],h))(FD:∀b h,cu cx M b 114 [mE N1 D1,mE N2 D2] h=some ((g:AV),h))(hf:∀b h,cu cx M b 110 [jq v,jq w] h=some ((c:AV),h)):
 cu cx (M+1) b 57 [jq v,jq w] h=some (.sc (.int .i64 (if eO (eZ v.k) (eZ w.k)=0 then(bif B1 then g else c)else eO (eZ v.k) (eZ w.k))),h):=by
 have hc:=l9 v w;refine fU f57 [.tmp 4] hc rfl ?_ b h;clear hc;cases v with
 |mk k n d s z l=>
  cases w with
  |mk k' n' d' s' z' l'=>
   have tF:=λb h=>hk k b h
   have Ja:=λb h=>hk k' b h
   have FR:=λb h=>hi (eZ k) (eZ k') b h
   simp only[V.k];clear hk hi;obtain⟨x,hx⟩:∃x,eO (eZ k) (eZ k')=x:=⟨_,rfl⟩;simp only[hx]at FR|-;clear hx;generalize eZ k=y1 at tF FR;generalize eZ k'=y2 at Ja FR;simp only[mE]at Vm Vn FD;rw[fJ]at hv hw hf Vm Vn|-;rw[fJ]at hf|-;generalize gY z l=L at hv hf Vm;generalize gY z' l'=L' at hw hf Vn;by_cases h0:x=0
   .subst h0;cases B1<;>simp[f57,hv,hw,hf,tF,Ja,FR,Vm,Vn,FD]
   .simp[f57,hv,hw,tF,Ja,FR,h0]
def pJ{v:V}(h:oK v):v.l.length<=1000000000000000/\∀x∈v.l,oK x:=by
 cases v;rw[oK]at h;exact⟨h.2.1,λx hx=>Eb h.2.2 hx⟩
def xS{v:V}{D:Nat}(h:kj v<=D+1):∀x∈v.l,kj x<=D:=by
 cases v with
 |mk k n d s z l=>intro x hx;have:=vw (l:=l) hx;simp only[kj]at h;omega
def qq(v:V):1<=kj v:=by cases v;simp only[kj];omega
def aaQ :∀(D:Nat)(v w:V),kj v<=D->kj w<=D->oK v->oK w->∀N,OC (N+3*D+6) v w:=by
 intro D
 induction D with
 |zero=>intro v w h;have:=qq v;omega
 |succ D ih=>
  intro v w dv dw bv bw N b h;have hl:=MH (N+3*D+5) v.isNil w.isNil v.l w.l (pJ bv).1 (pJ bw).1 (λx hx y hy=>ih x y (xS dv x hx) (xS dw y hy) ((pJ bv).2 x hx) ((pJ bw).2 y hy) N);have hf:=λb h=>I6 (N+3*D+6) v w hl b h
  have hv:=λb h=>pF (N+D+2) (D+1) v dv bv b h
  have hw:=λb h=>pF (N+D+2) (D+1) w dw bw b h
  have nv:=λb h=>zQ (N+D+1) (D+1) v dv bv b h
  have nw:=λb h=>zQ (N+D+1) (D+1) w dw bw b h
  rw[show N+D+2+2*(D+1)+4=N+3*D+8 by omega]at hv hw;rw[show N+D+1+2*(D+1)+5=N+3*D+8 by omega]at nv nw;rw[show N+3*(D+1)+6=N+3*D+8+1 by omega];have hy:=λx b h=>Vo (N+3*D+7) b x h
  have hk:=λk b h=>MI (N+3*D+7) b k h
  have hi:=λx y b h=>zR (N+3*D+7) b x y h
  have FD:=λb h=>Vp (N+3*D+5) b (pG v) (pH v) (pG w) (pH w) h
  have e:kE v w=if k_ v=k_ w then(if k_ w then(if eO (eZ v.k) (eZ w.k)=0 then(if v.k=2\/v.k=3 then wW v.n (if v.k=2 then 1 else v.d) w.n (if w.k=2 then 1 else w.d)else ri v w)else eO (eZ v.k) (eZ w.k))else ri v w)else if k_ w then 1 else-1:=by
   cases v;rw[kE];rfl
  rw[e];cases hp:k_ v<;>cases hq:k_ w<;>rw[hp]at hv<;>rw[hq]at hw
  .have:=I9 (N+3*D+8) v w b h (ri v w) hv hw hf;simpa[jq]using this
  .have:=zS (N+3*D+8) v w b h false true hv hw hy (by decide);simpa[jq]using this
  .have:=zS (N+3*D+8) v w b h true false hv hw hy (by decide);simpa[jq]using this
  .have:=I_ (N+3*D+8) v w b h (ri v w) _ _ _ _ _ _ _ hv hw hk hi nv nw FD hf;simp only[jq]at this;rw[this];simp only[if_true,um,hp,Bool.true_and];by_cases h0:eO (eZ v.k) (eZ w.k)=0
   .simp only[h0,if_true];by_cases h1:v.k=2\/v.k=3
    .have gI:eZ v.k=eZ w.k:=by
      unfold eO at h0;by_cases a:eZ v.k<eZ w.k
      .rw[cw a]at h0;omega
      .by_cases a':eZ w.k<eZ v.k
       .rw[cv a,cw a']at h0;omega
       .omega
     have h2:eZ v.k=2:=by rcases h1 with e|e<;>rw[e]<;>rfl
     have h3:w.k=2\/w.k=3:=by
      rw[h2]at gI;unfold eZ at gI
      (repeat' split at gI)<;>omega
     have q:(decide (v.k=2)||decide (v.k=3))=true:=by simpa using h1
     simp only[h1,if_true,q,cond_true,pG,pH,hp,hq];rcases h1 with e1|e1<;>rcases h3 with e3|e3<;>simp[e1,e3]
    .have q:(decide (v.k=2)||decide (v.k=3))=false:=by simp;omega
     simp[h1,q]
   .simp only[h0,if_false]
end
section
attribute [local simp] ew eY
def Qe{f:FuncId}{args:LA}{n:Nat}(fi:Fi)(hs:cx.vc f=none)(hi:cx.inl f=true)(hF:cx.F f=some fi)(hd:(qm cx fi.body).isNone=true)(jB:vg cx fi.body=true)(hl:args.length<=fi.ntmps)(b:Bool)(h:Hp)(hp:la f=true:=by decide):
 cu cx (n+1) b f args h=dT fi.res (n fi.body (args++List.replicate (fi.ntmps-args.length) .un,h)):=by
 have e1:cx.ins f=none:=Qf hp;have e2:(if args.all calm then cx.BZ f args else none)=none:=by rw[show cx.BZ f args=none from FX hp];split<;>rfl
 simp only[cu,hs,hi,if_true,e1,e2,hF,Option.isNone_iff_eq_none.1 hd];exact nQ hF jB hl h
def rr{f:FuncId}{args:LA}{n:Nat}(fn:Func)(res:List Rv){b:Bool}{h:Hp}(hs:cx.vc f=none:=by rfl)(hi:cx.inl f=true:=by kernel_rfl)(hF:cx.F f=some ⟨fn.ntmps,(fn.body).getD .skip,res⟩:=by kernel_rfl)(hd:(qm cx ((fn.body).getD .skip)).isNone=true:=by kernel_rfl)(jB:vg cx ((fn.body).getD .skip)=true:=by kernel_rfl)(hl:Nat.ble args.length fn.ntmps=true:=by rfl)(hp:la f=true:=by decide):cu cx (n+1) b f args h=dT res (n ((fn.body).getD .skip) (args++List.replicate (fn.ntmps-args.length) .un,h)):=
 Qe ⟨fn.ntmps,(fn.body).getD .skip,res⟩ hs hi hF hd jB (Nat.le_of_ble_eq_true hl) b h hp
def Qg(n:Nat)(b:Bool)(r:Int)(h:Hp):cu cx (n+1) b 198 [.sc (.int .i32 r)] h=some (.sc (.bool (decide (r<32)||decide (126<r))),h):=by
 rw[rr f198 [.tmp 2]];by_cases h1:r<32<;>simp[f198,h1]
def MJ :List UInt8->Nat->Int
 | [],_=> -1
 |c::l,i=>if Jb c=true then MJ l (i+1)else i
def tG(x:ByteArray)(i:Nat):Int:=MJ (x.data.toList.drop i) i
def FY :∀(l:List UInt8)(i:Nat),(MJ l i<0)=(l.all Jb=true)
 | [],i=>by simp[MJ]
 |
  c::l,i=>by
  rw[MJ,Zn];cases h:Jb c
  .simp
  .simp[FY l (i+1)]
def Qh(x:ByteArray)(i:Nat)(h:x.size<=i):tG x i= -1:=by unfold tG;rw[Zt h];rfl
def MK{x:ByteArray}{i:Nat}{c:UInt8}(h:x.data.toList[i]?=some c):tG x i=if Jb c=true then tG x (i+1)else i:=by
 obtain⟨k,e⟩:=Za.1 h;unfold tG;rw[Zm k,e,MJ]
def Vq{x:ByteArray}{i:Nat}{c:UInt8}(h:x.data.toList[i]?=some c):(Jb c=true/\Utf8.decode x i=(c.toNat,1)/\32<=c.toNat/\c.toNat<=126)\/(Jb c=false/\((Utf8.decode x i).1<32\/126< (Utf8.decode x i).1)):=by
 obtain⟨k,e⟩:=Za.1 h;have kx:i<x.size:=k;have ex:x[i]'kx=c:=e;by_cases ha:c.toNat<128
 .have hd:=decode_ascii x i kx (by rw[ex];exact ha);rw[ex]at hd;cases hc:Jb c with
  |
   true=>
   left;simp only[Jb,Zh,Zy]at hc;exact⟨rfl,hd,hc.1,hc.2⟩
  |
   false=>
   right;rw[hd];simp only[Jb,Bool.and_eq_false_iff,decide_eq_false_iff_not]at hc;exact⟨rfl,by simp only;omega⟩
 .have hd:=decode_high x i kx (by rw[ex];omega);right;refine⟨?_,.inr (by omega)⟩;simp only[Jb,Bool.and_eq_false_iff,decide_eq_false_iff_not];omega
def B6(n:Nat)(b:Bool)(x:ByteArray)(h:Hp)(hx:x.size<=1000000000000000):cu cx (n+2) b 264 [x,.fn 198 [],true] h=some (.sc (.int .i64 (tG x 0)),h):=by
 refine fU f264 [.tmp 6] rfl rfl ?_ b h;have ik:x.data.toList.length=x.size:=rfl;have gI:=λb r h=>Qg n b r h
 simp[f264];refine ve
  (λi s cD=>tG x 0=tG x i/\s.length=21/\gt s 1= .fn 198 []/\gt s 2=true/\gt s 10= .pt 0 0/\cD=[.iter x i])
  (λo s _=>s.length=21/\((o= .exit 0/\tG x 0= -1)\/(o= .ret/\gt s 6= .sc (.int .i64 (tG x 0))))) x.size (by simp;omega) (by simp) ?_ ?_
 .rintro i fr h cP ⟨ho,cp,h1,h2,jv,hh⟩;subst hh;by_cases hi:i<x.size
  .obtain⟨c,hc⟩:∃c,x.data.toList[i]?=some c:=⟨_,Zb (by omega)⟩;rw[MK hc]at ho;rcases Vq hc with⟨hk,hd,k1,k2⟩|⟨hk,hd⟩
   .rw[cw hk]at ho;have ae:¬((c.toNat:Int)<32):=by omega
    have af:¬(126< (c.toNat:Int)):=by omega
    generalize c.toNat=d at hd ae af;simp[cp,h1,h2,jv,hi,hd,gI,ae,af];exact ho
   .rw[cv (by rw[hk];simp)]at ho;generalize hde:Utf8.decode x i=de at hd;obtain⟨d,wd⟩:=de;simp only at hd;by_cases ae:(d:Int)<32
    .simp[cp,h1,h2,jv,hi,hde,gI,ae,ho]
    .have af:126< (d:Int):=by omega
     simp[cp,h1,h2,jv,hi,hde,gI,ae,af,ho]
  .have hz:tG x 0= -1:=by rw[ho,Qh x i (by omega)]
   simp[cp,jv,hi,hz]
 .rintro o fr h hn ⟨cp,⟨rfl,hz⟩|⟨rfl,h2⟩⟩
  .simp[cp,hz]
  .simp[h2]
def B_(n:Nat)(b:Bool)(x:ByteArray)(h:Hp)(hx:x.size<=1000000000000000):cu cx (n+3) b 197 [x,.fn 198 []] h=some (.sc (.int .i64 (tG x 0)),h):=by
 refine fU f197 [.tmp 4] rfl rfl ?_ b h;have hc:=λb h=>B6 n b x h hx
 simp[f197,hc]
def Vr(x:ByteArray):(tG x 0<0)=(FZ x=true):=by
 unfold tG;rw[FY];rfl
end
section
attribute [local simp] ew cF eY
@[simp] def afd(h:Hp)(a:eV)(l:Hp):(h++a::l)[h.length]?=some a:=by simp
@[simp] def ae5(h:Hp)(a b:eV)(l:Hp):(h++a::b::l)[h.length+1]?=some b:=by rw[Zf (by omega)];simp
@[simp] def afh(h:Hp)(a b:eV)(l:Hp):(h++a::l).set h.length b=h++b::l:=by rw[List.set_append_right _ _ (Yq _)];simp
@[simp] def ae1(h:Hp)(a b c:eV)(l:Hp):(h++a::b::l).set (h.length+1) c=h++a::c::l:=by rw[List.set_append_right _ _ (by omega)];simp
@[simp] def akJ :List.range 2=[0,1]:=rfl
@[simp] def akM :List.range 3=[0,1,2]:=rfl
@[simp] def akL :List.range 4=[0,1,2,3]:=rfl
@[simp] def akK :List.range 5=[0,1,2,3,4]:=rfl
def PVC(N:Nat)(v:V):Prop:=∀b q h,0<=q->q<=8->cu cx N b 131 [.ag (enc v),.sc (.int .i64 q)] h=some (.sc (.bool (px v (8-q))),h)
def aaR{v:V}(h:v.k=5\/v.k=6)(m m':Int):px v m=px v m':=by
 cases v with
 |mk k n d s z l=>
  simp only[V.k]at h;rw[px,px];rcases h with rfl|rfl<;>simp
def Qi(N:Nat)(b:Bool)(z:Bool)(l:List V)(h:Hp)(hv:∀x∈l,PVC N x):cu cx (N+1) b 199 [gY z l] h=some (.sc (.bool (xT l)),h):=by
 have hc:[gY z l].all calm=true:=by rw[Zn,lH];rfl
 refine fU f199 [.tmp 2] hc rfl ?_ b h;clear hc;unfold xT;rcases gW z l with⟨rfl,e⟩|e
 .simp[f199,e]
 rw[e];have hq:=dS l;have hg:=jA l;generalize fj l=cq at hq hg;have hm:((l.length:Int).tmod 2)=((l.length % 2:Nat):Int):=rfl;by_cases h0:l.length % 2=0
 .rw[h0]at hm;simp[f199,hq,hm,h0]
 have tU:l.length % 2=1:=by omega
 rw[tU]at hm;by_cases h2:25< (l.length:Int)
 .simp[f199,hq,hm,tU,h2,show¬(l.length:Int)<=25 by omega]
 have Jc:(l.length:Int)<=25:=by omega
 simp[f199,hq,hm,tU,h2,Jc];refine ve
  (λi s _=>vh l false=yC l i/\s.length=37/\gt s 15= .ls 5 cq z/\gt s 16=l.length/\gt s 17=i)
  (λo s _=>s.length=37/\((o= .exit 0/\vh l false=true)\/(o= .ret/\vh l false=false/\gt s 2=false))) l.length (by simp;omega) (by simp[CF]) ?_ ?_
 .rintro i fr h cP ⟨ho,cp,tH,vA,sU⟩;by_cases hi:i<l.length
  .obtain⟨c,hc⟩:=eA hi;have hr:cq[i]?=some (enc c):=by rw[hg,hc];rfl
   have cC:=gA hr
   have ML:=hv c (Zi hc);have cW:=λb h=>ML b 0 h (by omega) (by omega)
   rw[CG hc]at ho;have hf:dA .i64 ((i:Int)+1)=((i+1:Nat):Int):=cK (by omega) (by omega);have h56:c.k=5\/c.k=6->px c (8-0)=px c 0:=λq=>aaR q _ _
   generalize px c 0=K0 at ho h56;generalize px c (8-0)=K at cW h56;cases c with
   |mk k n d s z' l'=>
    simp only[V.k]at ho h56;simp only[enc]at hr cC cW;generalize zT z' (fj l')=L' at hr cC cW;have hm:((i:Int).tmod 2)=((i % 2:Nat):Int):=rfl;rcases Nat.mod_two_eq_zero_or_one i with q|q<;>rw[q]at hm ho
    all_goals
     simp only[show¬((0:Nat)=1)from by decide,if_false,if_true]at ho
    .by_cases hk:k=5
     .subst hk;obtain rfl:=h56 (.inl rfl);cases K
      .have zz:vh l false=false:=by rw[ho];simp
       clear ho;simp[cp,tH,vA,sU,hi,hq,hr,cC,cW,hm,zz]
      .have zz:vh l false=yC l (i+1):=by rw[ho];simp
       clear ho;simp[cp,tH,vA,sU,hi,hq,hr,cC,cW,hm,hf];exact zz
     .have zz:vh l false=false:=by rw[ho];simp[hk]
      clear ho;simp[cp,tH,vA,sU,hi,hq,hr,cC,hm,hk,zz]
    .by_cases hk:k=6
     .subst hk;obtain rfl:=h56 (.inr rfl);cases K
      .have zz:vh l false=false:=by rw[ho];simp
       clear ho;simp[cp,tH,vA,sU,hi,hq,hr,cC,cW,hm,zz]
      .have zz:vh l false=yC l (i+1):=by rw[ho];simp
       clear ho;simp[cp,tH,vA,sU,hi,hq,hr,cC,cW,hm,hf];exact zz
     .have zz:vh l false=false:=by rw[ho];simp[hk]
      clear ho;simp[cp,tH,vA,sU,hi,hq,hr,cC,hm,hk,zz]
  .have zz:vh l false=true:=by rw[ho,F0 l i (by omega)]
   simp[cp,tH,vA,sU,hi,hq,zz]
 .rintro o fr h hn ⟨cp,⟨rfl,hz⟩|⟨rfl,hz,h2⟩⟩
  .simp[cp,hz]
  .simp[h2,hz]
def vC(z:Bool)(l:List V):(gY z l=()/\l.isEmpty=true)\/(gY z l= .ls 5 [] z/\l.isEmpty=true)\/∃cq,gY z l= .ls 5 cq z/\0<cq.length/\l.isEmpty=false:=by
 rcases gW z l with⟨rfl,e⟩|e
 .exact .inl ⟨e,rfl⟩
 .cases l with
  |nil=>exact .inr (.inl ⟨e,rfl⟩)
  |cons x xs=>exact .inr (.inr ⟨_,e,by rw[dS];simp,rfl⟩)
def ji(v:V)(q:Int):[jq v,.sc (.int .i64 q)].all calm=true:=by rw[Zn,kP];rfl
def Jd(M:Nat)(n d q:Int)(s:ByteArray)(z:Bool)(l:List V)(b:Bool)(h:Hp):cu cx (M+1) b 131 [jq (.mk 0 n d s z l),q] h=some (.sc (.bool (px (.mk 0 n d s z l) (8-q))),h):=by
 refine fU f131 [.tmp 4] (ji _ _) rfl ?_ b h;rw[ko,fJ];unfold iw;simp only[V.n,V.d,V.s,V.l];have hl:=vC z l;generalize gY z l=L,l.isEmpty=E at hl;by_cases hd:d=0
 rotate_left
 .simp[f131,hd]
 cases hs:dn s ⟨#[]⟩
 .simp[f131,hs,hd]
 rcases hl with⟨rfl,rfl⟩|⟨rfl,rfl⟩|⟨cq,rfl,hr,rfl⟩
 rotate_right
 .simp[f131,hr,hd,hs]
 all_goals
  by_cases hn:n=0<;>simp[f131,hn,hd,hs]
def Je(M:Nat)(n d q:Int)(s:ByteArray)(z:Bool)(l:List V)(b:Bool)(h:Hp):cu cx (M+1) b 131 [jq (.mk 1 n d s z l),q] h=some (.sc (.bool (px (.mk 1 n d s z l) (8-q))),h):=by
 refine fU f131 [.tmp 4] (ji _ _) rfl ?_ b h;rw[ko,fJ];unfold iw;simp only[V.n,V.d,V.s,V.l];have hl:=vC z l;generalize gY z l=L,l.isEmpty=E at hl;by_cases hd:d=0
 rotate_left
 .simp[f131,hd]
 cases hs:dn s ⟨#[]⟩
 .simp[f131,hs,hd]
 rcases hl with⟨rfl,rfl⟩|⟨rfl,rfl⟩|⟨cq,rfl,hr,rfl⟩
 rotate_right
 .simp[f131,hr,hd,hs]
 all_goals
  by_cases hn:n=0
  .simp[f131,hn,hd,hs]
  .simp[f131,hn,hd,hs]
def Jf(M:Nat)(n d q:Int)(s:ByteArray)(z:Bool)(l:List V)(b:Bool)(h:Hp)(g1:∀b h,cu cx M b 195 [n] h=some (.sc (.bool (tI n)),h)):cu cx (M+1) b 131 [jq (.mk 2 n d s z l),q] h=some (.sc (.bool (px (.mk 2 n d s z l) (8-q))),h):=by
 refine fU f131 [.tmp 4] (ji _ _) rfl ?_ b h;rw[ko,fJ];unfold iw;simp only[V.n,V.d,V.s,V.l];have hl:=vC z l;generalize gY z l=L,l.isEmpty=E at hl;by_cases hd:d=0
 rotate_left
 .simp[f131,hd]
 cases hs:dn s ⟨#[]⟩
 .simp[f131,hs,hd]
 rcases hl with⟨rfl,rfl⟩|⟨rfl,rfl⟩|⟨cq,rfl,hr,rfl⟩
 rotate_right
 .simp[f131,hr,hd,hs]
 all_goals simp[f131,g1,hd,hs]
def Jg(M:Nat)(n d q:Int)(s:ByteArray)(z:Bool)(l:List V)(b:Bool)(h:Hp)(g2:∀b h,cu cx M b 196 [.ag [n,d]] h=some (.sc (.bool (fv n d)),h)):cu cx (M+1) b 131 [jq (.mk 3 n d s z l),q] h=some (.sc (.bool (px (.mk 3 n d s z l) (8-q))),h):=by
 refine fU f131 [.tmp 4] (ji _ _) rfl ?_ b h;rw[ko,fJ];unfold iw;simp only[V.n,V.d,V.s,V.l];have hl:=vC z l;generalize gY z l=L,l.isEmpty=E at hl;cases hs:dn s ⟨#[]⟩
 .simp[f131,hs]
 rcases hl with⟨rfl,rfl⟩|⟨rfl,rfl⟩|⟨cq,rfl,hr,rfl⟩
 rotate_right
 .simp[f131,hr,hs]
 all_goals
  by_cases hd:2<=d<;>simp[f131,hd,g2,hs]
def Jh(M:Nat)(n d q:Int)(s:ByteArray)(z:Bool)(l:List V)(b:Bool)(h:Hp)(g3:∀b h,cu cx M b 197 [s,.fn 198 []] h=some (.sc (.int .i64 (tG s 0)),h)):cu cx (M+1) b 131 [jq (.mk 4 n d s z l),q] h=some (.sc (.bool (px (.mk 4 n d s z l) (8-q))),h):=by
 refine fU f131 [.tmp 4] (ji _ _) rfl ?_ b h;rw[ko,fJ];unfold iw;simp only[V.n,V.d,V.s,V.l];have hl:=vC z l;generalize gY z l=L,l.isEmpty=E at hl;by_cases hd:d=0
 rotate_left
 .simp[f131,hd]
 rcases hl with⟨rfl,rfl⟩|⟨rfl,rfl⟩|⟨cq,rfl,hr,rfl⟩
 rotate_right
 .simp[f131,hr,hd]
 all_goals
  have hw:=Vr s;generalize tG s 0=w at hw g3;by_cases hn:n=0
  .by_cases h1:(s.size:Int)<=100
   .by_cases h2:w<0
    .have h3:FZ s=true:=by rw[<-hw];exact h2
     simp[f131,hn,h1,h2,h3,g3,hd]
    .have h3:FZ s=false:=by cases h4:FZ s with|false=>rfl|true=>rw[h4]at hw;exact absurd (hw.mpr rfl) h2
     simp[f131,hn,h1,h2,h3,g3,hd]
   .simp[f131,hn,h1,hd]
  .simp[f131,hn,hd]
def Ji(M:Nat)(n d q:Int)(s:ByteArray)(z:Bool)(l:List V)(b:Bool)(h:Hp):cu cx (M+1) b 131 [jq (.mk 5 n d s z l),q] h=some (.sc (.bool (px (.mk 5 n d s z l) (8-q))),h):=by
 refine fU f131 [.tmp 4] (ji _ _) rfl ?_ b h;rw[ko,fJ];unfold iw;simp only[V.n,V.d,V.s,V.l];have hl:=vC z l;generalize gY z l=L,l.isEmpty=E at hl;by_cases hd:d=0
 rotate_left
 .simp[f131,hd]
 cases hs:dn s ⟨#[]⟩
 .simp[f131,hs,hd]
 rcases hl with⟨rfl,rfl⟩|⟨rfl,rfl⟩|⟨cq,rfl,hr,rfl⟩
 rotate_right
 .simp[f131,hr,hd,hs]
 all_goals
  by_cases hn:1<=n<;>simp[f131,hn,hd,hs]
def Jj(M:Nat)(n d q:Int)(s:ByteArray)(z:Bool)(l:List V)(b:Bool)(h:Hp):cu cx (M+1) b 131 [jq (.mk 6 n d s z l),q] h=some (.sc (.bool (px (.mk 6 n d s z l) (8-q))),h):=by
 refine fU f131 [.tmp 4] (ji _ _) rfl ?_ b h;rw[ko,fJ];unfold iw;simp only[V.n,V.d,V.s,V.l];have hl:=vC z l;generalize gY z l=L,l.isEmpty=E at hl;by_cases hd:d=0
 rotate_left
 .simp[f131,hd]
 cases hs:dn s ⟨#[]⟩
 .simp[f131,hs,hd]
 rcases hl with⟨rfl,rfl⟩|⟨rfl,rfl⟩|⟨cq,rfl,hr,rfl⟩
 rotate_right
 .simp[f131,hr,hd,hs]
 all_goals
  by_cases hn:1<=n<;>simp[f131,hn,hd,hs]
def Jk(M:Nat)(n d q:Int)(s:ByteArray)(z:Bool)(l:List V)(b:Bool)(h:Hp)(g4:∀b h,cu cx M b 199 [gY z l] h=some (.sc (.bool (xT l)),h)):cu cx (M+1) b 131 [jq (.mk 7 n d s z l),q] h=some (.sc (.bool (px (.mk 7 n d s z l) (8-q))),h):=by
 refine fU f131 [.tmp 4] (ji _ _) rfl ?_ b h;rw[ko,fJ];unfold iw;simp only[V.n,V.d,V.s,V.l];have hl:=vC z l;generalize gY z l=L at hl g4;generalize l.isEmpty=E at hl;by_cases hd:d=0
 rotate_left
 .simp[f131,hd]
 cases hs:dn s ⟨#[]⟩
 .simp[f131,hs,hd]
 rcases hl with⟨rfl,rfl⟩|⟨rfl,rfl⟩|⟨cq,rfl,hr,rfl⟩
 all_goals
  by_cases hn:n=0<;>simp[f131,hn,g4,hd,hs]
def Jl(M:Nat)(k n d q:Int)(s:ByteArray)(z:Bool)(l:List V)(b:Bool)(h:Hp)(h0:¬k=0)(h1:¬k=1)(h2:¬k=2)(h3:¬k=3)(h4:¬k=4)(h5:¬k=5)(h6:¬k=6)(h7:¬k=7)(h8:¬k=8):cu cx (M+1) b 131 [jq (.mk k n d s z l),q] h=some (.sc (.bool (px (.mk k n d s z l) (8-q))),h):=by
 refine fU f131 [.tmp 4] (ji _ _) rfl ?_ b h;rw[ko,fJ];have hl:=vC z l;generalize gY z l=L,l.isEmpty=E at hl;by_cases hd:d=0
 rotate_left
 .simp[f131,h0,h1,h2,h3,h4,h5,h6,h7,h8,hd]
 cases hs:dn s ⟨#[]⟩
 .simp[f131,h0,h1,h2,h3,h4,h5,h6,h7,h8,hd,hs]
 rcases hl with⟨rfl,rfl⟩|⟨rfl,rfl⟩|⟨cq,rfl,hr,rfl⟩
 rotate_right
 .simp[f131,h0,h1,h2,h3,h4,h5,h6,h7,h8,hd,hs,hr]
 all_goals simp[f131,h0,h1,h2,h3,h4,h5,h6,h7,h8,hd,hs]
def Jm(M:Nat)(n d q:Int)(s:ByteArray)(z:Bool)(l:List V)(b:Bool)(h:Hp)(IG:0<=q)(hq8:q<=8)(hv:∀x∈l,PVC M x):cu cx (M+1) b 131 [jq (.mk 8 n d s z l),q] h=some (.sc (.bool (px (.mk 8 n d s z l) (8-q))),h):=by
 refine fU f131 [.tmp 4] (ji _ _) rfl ?_ b h;rw[ko,fJ];unfold iw;simp only[V.n,V.d,V.s,V.l];by_cases hd:d=0
 rotate_left
 .simp[f131,hd]
 cases hs:dn s ⟨#[]⟩
 .simp[f131,hd,hs]
 by_cases hn:n=0
 rotate_left
 .simp[f131,hd,hs,hn]
 unfold CH;have e1:decide (1<=8-q)= !decide (8<=q):=by
  by_cases c:8<=q
  .rw[decide_eq_true c,decide_eq_false (by omega)];rfl
  .rw[decide_eq_false c,decide_eq_true (by omega)];rfl
 rw[e1];rcases gW z l with⟨rfl,e⟩|e
 .rw[e];by_cases h3:8<=q
  .simp[f131,hd,hs,hn,h3]
  simp[f131,hd,hs,hn,h3,yX];refine oM (C:=cx) (G:=λr=>∃h',dT _ (jC _ _ (gJ _ (jC _ _ (gJ _ r) _)) _)=some (_,h'))
   (λi s=>i=0/\s.1.length=142/\gt s.1 121=(0:Int)/\gt s.1 122=(0:Int))
   (λo s=>s.1.length=142/\o= .exit 1) 0 (by simp) (by simp) ?_ ?_
  .rintro i fr h cP ⟨rfl,cp,Jn,Jo⟩;simp only at cp Jn Jo;simp[cp,Jn,Jo]
  .rintro o fr h hn ⟨cp,rfl⟩;simp only at cp;simp[cp]
 .rw[e];have hz:=dS l;have hg:=jA l;generalize fj l=cq at hz hg;by_cases h2:64< (l.length:Int)
  .simp[f131,hd,hs,hn,hz,h2,show¬(l.length:Int)<=64 by omega]
  have Jc:(l.length:Int)<=64:=by omega
  by_cases h3:8<=q
  .simp[f131,hd,hs,hn,hz,h2,Jc,h3]
  simp[f131,hd,hs,hn,hz,h2,Jc,h3];have tV:dA .i64 (q+1)=q+1:=cK (by omega) (by omega);have e2:(8:Int)-q-1=8-(q+1):=by omega
  rw[e2];refine oM (C:=cx) (G:=λr=>∃h',dT _ (jC _ _ (gJ _ (jC _ _ (gJ _ r) _)) _)=some (_,h'))
   (λi s=>yX l (8-(q+1))=Ca l (8-(q+1)) i/\s.1.length=142/\gt s.1 1=q/\gt s.1 120= .ls 5 cq z/\gt s.1 121=l.length/\gt s.1 122=i)
   (λo s=>s.1.length=142/\((o= .exit 1/\yX l (8-(q+1))=true)\/(o= .ret/\yX l (8-(q+1))=false/\gt s.1 4=false))) l.length (by simp;omega) (by simp[CI]) ?_ ?_
  .rintro i fr h cP ⟨ho,cp,h1,aaS,Jn,Jo⟩;simp only at cp h1 aaS Jn Jo;by_cases hi:i<l.length
   .obtain⟨c,hc⟩:=eA hi;have hr:cq[i]?=some (enc c):=by rw[hg,hc];rfl
    have cC:=gA hr
    have ML:=hv c (Zi hc);have cW:=λb h=>ML b (q+1) h (by omega) (by omega)
    rw[CJ hc]at ho;have hf:dA .i64 ((i:Int)+1)=((i+1:Nat):Int):=cK (by omega) (by omega);generalize px c (8-(q+1))=K at cW ho;cases c with
    |mk k' n' d' s' z' l'=>
     simp only[enc]at hr cC cW;generalize zT z' (fj l')=L' at hr cC cW;cases K
     .have zz:yX l (8-(q+1))=false:=by rw[ho];rfl
      clear ho;simp[cp,h1,aaS,Jn,Jo,hi,hz,cC,tV,cW,zz]
     .have zz:yX l (8-(q+1))=Ca l (8-(q+1)) (i+1):=by rw[ho];rfl
      clear ho;simp[cp,h1,aaS,Jn,Jo,hi,hz,cC,tV,cW,hf];exact zz
   .have zz:yX l (8-(q+1))=true:=by rw[ho,F1 l _ i (by omega)]
    simp[cp,Jn,Jo,hi,zz]
  .rintro o fr h hn ⟨cp,⟨rfl,hz⟩|⟨rfl,hz,h2⟩⟩
   .simp only at cp;simp[cp,hz]
   .simp only at h2;simp[h2,hz]
def MM(N:Nat)(v:V)(hs:v.s.size<=1000000000000000)(ZL:∀x∈v.l,PVC (N+3) x)(hv4:∀x∈v.l,PVC (N+4) x):PVC (N+5) v:=by
 intro b q h IG hq8;cases v with
 |mk k n d s z l=>
  simp only[V.s,V.l]at hs ZL hv4;have g1:=λb h=>Ec (N+3) b n h
  have g2:=λb h=>ur (N+1) b n d h
  have g3:=λb h=>B_ (N+1) b s h hs
  have g4:=λb h=>Qi (N+3) b z l h ZL
  simp only[mE]at g2;show cu cx (N+5) b 131 [jq (.mk k n d s z l),q] h=_;by_cases h0:k=0
  .subst h0;exact Jd (N+4) n d q s z l b h
  by_cases h1:k=1
  .subst h1;exact Je (N+4) n d q s z l b h
  by_cases h2:k=2
  .subst h2;exact Jf (N+4) n d q s z l b h g1
  by_cases h3:k=3
  .subst h3;exact Jg (N+4) n d q s z l b h g2
  by_cases h4:k=4
  .subst h4;exact Jh (N+4) n d q s z l b h g3
  by_cases h5:k=5
  .subst h5;exact Ji (N+4) n d q s z l b h
  by_cases h6:k=6
  .subst h6;exact Jj (N+4) n d q s z l b h
  by_cases h7:k=7
  .subst h7;exact Jk (N+4) n d q s z l b h g4
  by_cases h8:k=8
  .subst h8;exact Jm (N+4) n d q s z l b h IG hq8 hv4
  exact Jl (N+4) k n d q s z l b h h0 h1 h2 h3 h4 h5 h6 h7 h8
def Vs :∀(D:Nat)(v:V),kj v<=D->oK v->∀N,PVC (N+2*D+3) v:=by
 intro D
 induction D with
 |zero=>intro v h;have:=qq v;omega
 |succ D ih=>
  intro v h hb N;have hl:∀x∈v.l,kj x<=D/\oK x:=λx hx=>⟨xS h x hx,(pJ hb).2 x hx⟩
  have hs:v.s.size<=1000000000000000:=by cases v;rw[oK]at hb;exact hb.1
  have:=MM (N+2*D) v hs (λx hx=>ih x (hl x hx).1 (hl x hx).2 N) (λx hx=>by
   have:=ih x (hl x hx).1 (hl x hx).2 (N+1)
   rwa [show N+1+2*D+3=N+2*D+4 by omega]at this)
  rw[show N+2*(D+1)+3=N+2*D+5 by omega];exact this
def pK(N D:Nat)(v:V)(hd:kj v<=D)(hb:oK v)(b:Bool)(h:Hp):cu cx (N+2*D+4) b 73 [jq v] h=some (.sc (.bool (k_ v)),h):=by
 have hv:=λb h=>Vs D v hd hb N b 0 h (by omega) (by omega)
 have hc:=l8 v;refine fU (n:=N+2*D+3) f73 [.tmp 2] hc rfl ?_ b h;clear hc;unfold k_;simp only[show(8:Int)-0=8 from rfl]at hv;generalize px v 8=K,N+2*D+3=M at hv;cases v with
 |mk k n d s z l=>
  rw[fJ];have he:enc (.mk k n d s z l)=[.sc (.int .i64 k),.sc (.int .i64 n),.sc (.int .i64 d),.sc (.string s),gY z l]:=rfl;rw[he]at hv;generalize gY z l=L at hv;simp[f73,hv]
def zU(N D:Nat)(v:V)(hd:kj v<=D)(hb:oK v)(b:Bool)(h:Hp):cu cx (N+2*D+5) b 133 [jq v] h=some (.tp [mE (pG v) (pH v),.sc (.bool (um v))],h):=by
 have hv:=λb h=>pK N D v hd hb b h
 have hc:=l8 v;have hr:da [] 8 (.tp [mE (pG v) (pH v),.sc (.bool (um v))])=some (.tp [mE (pG v) (pH v),.sc (.bool (um v))]):=rfl;clear hr
 suffices H:(∃r,r=AV.tp [mE (pG v) (pH v),.sc (.bool (um v))]/\∀b h,cu cx (N+2*D+5) b 133 [jq v] h=some (r,h)) by
  obtain⟨r,rfl,hr⟩:=H;exact hr b h
 refine vx (f:=133) (n:=N+2*D+4) (args:=[jq v]) (λr=>r= .tp [mE (pG v) (pH v),.sc (.bool (um v))]) ⟨f133.ntmps,(f133.body).getD .skip,[.cell 2 2 true,.tmp 3]⟩ (by kernel_rfl) (by kernel_rfl) rfl (by kernel_rfl) (by simp[f133]) hc ?_;clear hc;generalize N+2*D+4=M at hv;cases v with
 |mk k n d s z l=>
  unfold pG pH um;generalize k_ (.mk k n d s z l)=K at hv;simp only[V.k,V.n,V.d];rw[fJ]at hv|-;generalize gY z l=L at hv;cases K
  .by_cases h2:k=2
   .subst h2;simp[f133,hv,mE];exact qW rfl
   .by_cases h3:k=3
    .subst h3;simp[f133,hv,mE];exact qW rfl
    .simp[f133,mE,h2,h3];exact qW rfl
  .by_cases h2:k=2
   .subst h2;simp[f133,hv,mE];exact qW rfl
   .by_cases h3:k=3
    .subst h3;simp[f133,hv,mE];exact qW rfl
    .simp[f133,mE,h2,h3];exact qW rfl
end
end Go.Proofs.YtmocfjnklfpnbaaGreatDoor
