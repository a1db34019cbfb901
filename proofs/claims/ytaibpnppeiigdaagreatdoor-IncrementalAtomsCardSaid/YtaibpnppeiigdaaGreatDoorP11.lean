/- Part of the proof. -/
import Derived.Test.YtaibpnppeiigdaaGreatDoorP10
set_option linter.all false
set_option maxHeartbeats 8000000
set_option maxRecDepth 100000
namespace Go.Proofs.YtaibpnppeiigdaaGreatDoor
open Go Go.Ae Go.Proofs.Tryz
section
attribute [local simp] zi da XM
def oR (N D:Nat)(v:V)(hd:fB v<=D)(hb:gV v)(b:Bool)(h:Hp):cW cx (N+2*D+4) b 187 [jB v] h=some (.sc (.bool (jF v)),h):=by
 have hv:=λb h=>ZF D v hd hb N b 0 h (by omega) (by omega)
 have hc:=lu v;refine fZ f187 [.tmp 2] hc rfl ?_ b h;clear hc;unfold jF;simp only[show(8:Int)-0=8 from rfl]at hv;generalize pR v 8=K at hv;generalize N+2*D+3=M at hv;cases v with
 |
  mk k n d s z l=>
  rw[fY];have he:enc (.mk k n d s z l)=[.sc (.int .i64 k),.sc (.int .i64 n),.sc (.int .i64 d),.sc (.string s),fG z l]:=rfl;rw[he]at hv;generalize fG z l=L at hv;simp[f187,hv]
def sa (N D:Nat)(v:V)(hd:fB v<=D)(hb:gV v)(b:Bool)(h:Hp):cW cx (N+2*D+5) b 248 [jB v] h=some (.tp [lJ (mg v) (mh v),.sc (.bool (kj v))],h):=by
 have hv:=λb h=>oR N D v hd hb b h
 have hc:=lu v;have hr:dq [] 8 (.tp [lJ (mg v) (mh v),.sc (.bool (kj v))])=some (.tp [lJ (mg v) (mh v),.sc (.bool (kj v))]):=rfl;clear hr
 suffices H:(∃r,r=AV.tp [lJ (mg v) (mh v),.sc (.bool (kj v))]/\∀b h,cW cx (N+2*D+5) b 248 [jB v] h=some (r,h)) by
  obtain⟨r,rfl,hr⟩:=H;exact hr b h
 refine iQ (f:=248) (n:=N+2*D+4) (args:=[jB v]) (λr=>r= .tp [lJ (mg v) (mh v),.sc (.bool (kj v))]) ⟨f248.ntmps,(f248.body).getD .skip,[.cell 2 2 true,.tmp 3]⟩ (by kernel_rfl) (by kernel_rfl) rfl (by kernel_rfl) (by simp[f248]) hc ?_;clear hc;generalize N+2*D+4=M at hv;cases v with
 |
  mk k n d s z l=>
  unfold mg mh kj;generalize jF (.mk k n d s z l)=K at hv;simp only[V.k,V.n,V.d];rw[fY]at hv|-;generalize fG z l=L at hv;cases K
  .by_cases h2:k=2
   .subst h2;simp[f248,hv,lJ];exact gz rfl
   .by_cases h3:k=3
    .subst h3;simp[f248,hv,lJ];exact gz rfl
    .simp[f248,lJ,h2,h3];exact gz rfl
  .by_cases h2:k=2
   .subst h2;simp[f248,hv,lJ];exact gz rfl
   .by_cases h3:k=3
    .subst h3;simp[f248,hv,lJ];exact gz rfl
    .simp[f248,lJ,h2,h3];exact gz rfl
def mr {f:FuncId}{args ys:LA}{n:Nat}{r:AV}{b:Bool}{h:Hp}(hs:cx.ox f=none)(hi:cx.inl f=false)(ha:args.mapM (dq h 8)=some ys)(hc:ys.all d_=true)(hr:ml r=true)(dy:cW cx (n+1) b f ys h=some (r,h)):cW cx (n+1) b f args h=some (r,h):=by
 have e:ys.mapM (dq h 8)=some ys:=qZ (n:=6) hc;simp only[cW,hs,hi,Yq,if_false,e,hc,Bool.true_or,if_true,ha]at dy|-;split at dy
 .rename_i r0 h0;simp only[Zc,Zg,and_true]at dy;subst dy;simp only[hr,Bool.or_true,if_true]
 .cases dy
def PD {h:Hp}{id:Nat}{xs:List Int}(hx:h[id]?=some (.row (xs.map λx=> .sc (.int .i64 x)))):dq h 8 (.sl id 1 0 xs.length false)=some (.ls 1 (xs.map λx=> [.sc (.int .i64 x)]) false):=by
 have e:∀l:List Int,(l.map λx=>AV.sc (.int .i64 x)).mapM (dq h 7)=some (l.map λx=>AV.sc (.int .i64 x)):=by
  intro l
  induction l with
  |nil=>rfl
  |cons x l ih=>rw[Xi,Zo,ih];rfl
 have e2:((xs.map λx=>AV.sc (.int .i64 x)).drop 0).take (xs.length*1)=xs.map λx=>AV.sc (.int .i64 x):=by
  rw[List.drop_zero,Ys (by simp)]
 have e3:0+xs.length*1<=(xs.map λx=>AV.sc (.int .i64 x)).length:=by simp
 simp only[dq,gI,hx,e3,if_true,e2,e,Xq,Zc,AV.ls.injEq,true_and,and_true];apply Xe;intro i;by_cases hi:i<xs.length
 .simp only[Zs,Xp hi,Zb hi,Xq,Nat.mul_one];rw[Zm (by simpa using hi)];simp
 .simp[hi]
def Tq (n:Nat)(b:Bool)(h:Hp)(id k:Nat)(xs:List Int)(hk:k=xs.length)(hx:h[id]?=some (.row (xs.map λx=> .sc (.int .i64 x))))(hl:xs.length<=1000000):cW cx (n+1) b 189 [.sl id 1 0 k false] h=some (.sc (.int .i64 (wU xs)),h):=by
 subst hk;refine mr (ys:=[.ls 1 (xs.map λx=> [.sc (.int .i64 x)]) false]) rfl (by kernel_rfl) ?_ rfl rfl (adm n b xs false h hl);rw[Zo,PD hx];rfl
def FD (N:Nat)(v w:V):Prop:=∀b h,cW cx N b 188 [.ag (enc v),.ag (enc w)] h=some (.sc (.int .i64 (j6 v w)),h)
def z_ (N:Nat)(z z':Bool)(l m:List V)(hl:l.length<=1000000000000000)(hm:m.length<=1000000000000000)(ho:∀x∈l,∀y∈m,FD N x y)(b:Bool)(h:Hp):
 cW cx (N+1) b 191 [fG z l,fG z' m,.fn 188 []] h=some (.sc (.int .i64 (gL l m)),h):=by
 have hc:[fG z l,fG z' m,.fn 188 []].all d_=true:=by rw[Zn,Zn,kQ,kQ];rfl
 refine fZ f191 [.tmp 6] hc rfl ?_ b h;clear hc;have hL:=jg z l;have fT:=jg z' m;generalize fG z l=L at hL;generalize fG z' m=L' at fT;have hq:=dK l;have hg:=fP l;have jA:=dK m;have qK:=fP m;generalize dN l=cY at hq hg hL;generalize dN m=rows' at jA qK fT;rcases hL with hL|⟨hL,hz⟩
 .subst hL;simp[f191,hq];refine lS
   (λi s _=>i<=m.length/\gL l m=vG l m i/\s.length=39/\gt s 0= .ls 5 cY z/\gt s 1=L'/\gt s 2= .fn 188 []/\gt s 11= .ls 5 cY z/\gt s 12=l.length/\gt s 13=i)
   (λo s _=>s.length=39/\((o= .exit 0/\l.length<=m.length/\gL l m=ej l.length m.length/\gt s 0= .ls 5 cY z/\gt s 1=L')\/(o= .ret/\gt s 6= .sc (.int .i64 (gL l m))))) l.length (by simp;omega) (by simp[r7]) ?_ ?_
  .rintro i fr h eG ⟨n_,jM,cU,h0,h1,h2,tM,vH,yg⟩;by_cases hi:i<l.length
   .obtain⟨x,hx⟩:=eA hi;have hr:cY[i]?=some (enc x):=by rw[hg,hx];rfl
    have du:=gA hr
    by_cases hj:i<m.length
    .rcases fT with fT|⟨fT,hz⟩
     .subst fT;obtain⟨y,hy⟩:=eA hj;have r9:rows'[i]?=some (enc y):=by rw[qK,hy];rfl
      have lK:=gA r9
      have dy:=ho x (Zi hx) y (Zi hy);unfold FD at dy;rw[r8 hx hy]at jM;have hf:dM .i64 ((i:Int)+1)=((i+1:Nat):Int):=dh (by omega) (by omega);have vT:¬(m.length<=i):=by omega
      generalize j6 x y=c at dy jM;cases x with
      |
       mk k n d s zx lx=>
       cases y with
       |
        mk k' n' d' s' zy ly=>
        simp only[enc]at hr du r9 lK dy;generalize ql zx (dN lx)=X at hr du dy;generalize ql zy (dN ly)=Y at r9 lK dy;by_cases od:c=0
        .subst od;rw[dd rfl]at jM;simp[cU,h0,h1,h2,tM,vH,yg,hi,hj,vT,hq,jA,du,lK,dy,hf];exact⟨by omega,jM⟩
        .rw[db od]at jM;simp[cU,h0,h1,h2,tM,vH,yg,hi,hj,vT,hq,jA,du,lK,dy,od,jM]
     .omega
    .have hz:=mm l m i (by omega) (by omega) (by omega);rw[<-jM]at hz;have ta:gL l m=1:=by rw[hz];unfold ej;rw[db (by omega),dd (by omega)]
     have vT:m.length<=i:=by omega
     cases x with
     |
      mk k n d s zx lx=>
      simp only[enc]at hr du;generalize ql zx (dN lx)=X at hr du;rcases fT with fT|⟨fT,wC⟩
      .subst fT;simp[cU,h0,h1,tM,vH,yg,hi,vT,hq,jA,du,ta]
      .subst fT;obtain rfl:i=0:=by omega
       simp[cU,h0,h1,tM,vH,yg,hi,hq,du,ta]
   .have hz:=mm l m i (by omega) (by omega) (by omega);rw[<-jM]at hz;simp[cU,h0,h1,vH,yg,hi,hz];omega
  .rintro o fr h hn ⟨cU,⟨rfl,PE,hz,h0,h1⟩|⟨rfl,h2⟩⟩
   .rw[hz];unfold ej;by_cases hc:(l.length:Int)<m.length
    .rcases fT with fT|⟨fT,e'⟩
     .subst fT;simp[cU,h0,h1,hq,jA,show l.length<m.length by omega]
     .omega
    .rcases fT with fT|⟨fT,e'⟩
     .subst fT;simp[cU,h0,h1,hq,jA,show¬l.length<m.length by omega,show¬m.length<l.length by omega]
     .subst fT;simp[cU,h0,h1,hq,e',show l.length=0 by omega]
   .simp[h2]
 .subst hL;have qg:l=[]:=Zl hz;subst qg;simp[f191];refine lS
   (λi s _=>i=0/\s.length=39/\gt s 0=()/\gt s 1=L'/\gt s 12=(0:Int)/\gt s 13=(0:Int))
   (λo s _=>s.length=39/\o= .exit 0/\gt s 0=()/\gt s 1=L') 0 (by simp) (by simp) ?_ ?_
  .rintro i fr h eG ⟨rfl,cU,h0,h1,vH,yg⟩;simp[cU,h0,h1,vH,yg]
  .rintro o fr h hn ⟨cU,rfl,h0,h1⟩;have jM:gL [] m=if 0<m.length then-1 else 0:=by cases m<;>simp[gL]
   rw[jM];rcases fT with fT|⟨fT,e'⟩
   .subst fT;by_cases s7:0<m.length
    .simp[cU,h0,h1,jA,s7]
    .simp[cU,h0,h1,jA,s7]
   .subst fT;simp[cU,h0,h1,e']
def wX (N:Nat)(v w:V):Prop:=∀b h,cW cx N b 115 [.ag (enc v),.ag (enc w)] h=some (.sc (.int .i64 (j6 v w)),h)
def Aa (N:Nat)(z z':Bool)(l m:List V)(hl:l.length<=1000000000000000)(hm:m.length<=1000000000000000)(ho:∀x∈l,∀y∈m,wX N x y)(b:Bool)(h:Hp):
 cW cx (N+1) b 191 [fG z l,fG z' m,.fn 115 []] h=some (.sc (.int .i64 (gL l m)),h):=by
 have hc:[fG z l,fG z' m,.fn 115 []].all d_=true:=by rw[Zn,Zn,kQ,kQ];rfl
 refine fZ f191 [.tmp 6] hc rfl ?_ b h;clear hc;have hL:=jg z l;have fT:=jg z' m;generalize fG z l=L at hL;generalize fG z' m=L' at fT;have hq:=dK l;have hg:=fP l;have jA:=dK m;have qK:=fP m;generalize dN l=cY at hq hg hL;generalize dN m=rows' at jA qK fT;rcases hL with hL|⟨hL,hz⟩
 .subst hL;simp[f191,hq];refine lS
   (λi s _=>i<=m.length/\gL l m=vG l m i/\s.length=39/\gt s 0= .ls 5 cY z/\gt s 1=L'/\gt s 2= .fn 115 []/\gt s 11= .ls 5 cY z/\gt s 12=l.length/\gt s 13=i)
   (λo s _=>s.length=39/\((o= .exit 0/\l.length<=m.length/\gL l m=ej l.length m.length/\gt s 0= .ls 5 cY z/\gt s 1=L')\/(o= .ret/\gt s 6= .sc (.int .i64 (gL l m))))) l.length (by simp;omega) (by simp[r7]) ?_ ?_
  .rintro i fr h eG ⟨n_,jM,cU,h0,h1,h2,tM,vH,yg⟩;by_cases hi:i<l.length
   .obtain⟨x,hx⟩:=eA hi;have hr:cY[i]?=some (enc x):=by rw[hg,hx];rfl
    have du:=gA hr
    by_cases hj:i<m.length
    .rcases fT with fT|⟨fT,hz⟩
     .subst fT;obtain⟨y,hy⟩:=eA hj;have r9:rows'[i]?=some (enc y):=by rw[qK,hy];rfl
      have lK:=gA r9
      have dy:=ho x (Zi hx) y (Zi hy);unfold wX at dy;rw[r8 hx hy]at jM;have hf:dM .i64 ((i:Int)+1)=((i+1:Nat):Int):=dh (by omega) (by omega);have vT:¬(m.length<=i):=by omega
      generalize j6 x y=c at dy jM;cases x with
      |
       mk k n d s zx lx=>
       cases y with
       |
        mk k' n' d' s' zy ly=>
        simp only[enc]at hr du r9 lK dy;generalize ql zx (dN lx)=X at hr du dy;generalize ql zy (dN ly)=Y at r9 lK dy;by_cases od:c=0
        .subst od;rw[dd rfl]at jM;simp[cU,h0,h1,h2,tM,vH,yg,hi,hj,vT,hq,jA,du,lK,dy,hf];exact⟨by omega,jM⟩
        .rw[db od]at jM;simp[cU,h0,h1,h2,tM,vH,yg,hi,hj,vT,hq,jA,du,lK,dy,od,jM]
     .omega
    .have hz:=mm l m i (by omega) (by omega) (by omega);rw[<-jM]at hz;have ta:gL l m=1:=by rw[hz];unfold ej;rw[db (by omega),dd (by omega)]
     have vT:m.length<=i:=by omega
     cases x with
     |
      mk k n d s zx lx=>
      simp only[enc]at hr du;generalize ql zx (dN lx)=X at hr du;rcases fT with fT|⟨fT,wC⟩
      .subst fT;simp[cU,h0,h1,tM,vH,yg,hi,vT,hq,jA,du,ta]
      .subst fT;obtain rfl:i=0:=by omega
       simp[cU,h0,h1,tM,vH,yg,hi,hq,du,ta]
   .have hz:=mm l m i (by omega) (by omega) (by omega);rw[<-jM]at hz;simp[cU,h0,h1,vH,yg,hi,hz];omega
  .rintro o fr h hn ⟨cU,⟨rfl,PE,hz,h0,h1⟩|⟨rfl,h2⟩⟩
   .rw[hz];unfold ej;by_cases hc:(l.length:Int)<m.length
    .rcases fT with fT|⟨fT,e'⟩
     .subst fT;simp[cU,h0,h1,hq,jA,show l.length<m.length by omega]
     .omega
    .rcases fT with fT|⟨fT,e'⟩
     .subst fT;simp[cU,h0,h1,hq,jA,show¬l.length<m.length by omega,show¬m.length<l.length by omega]
     .subst fT;simp[cU,h0,h1,hq,e',show l.length=0 by omega]
   .simp[h2]
 .subst hL;have qg:l=[]:=Zl hz;subst qg;simp[f191];refine lS
   (λi s _=>i=0/\s.length=39/\gt s 0=()/\gt s 1=L'/\gt s 12=(0:Int)/\gt s 13=(0:Int))
   (λo s _=>s.length=39/\o= .exit 0/\gt s 0=()/\gt s 1=L') 0 (by simp) (by simp) ?_ ?_
  .rintro i fr h eG ⟨rfl,cU,h0,h1,vH,yg⟩;simp[cU,h0,h1,vH,yg]
  .rintro o fr h hn ⟨cU,rfl,h0,h1⟩;have jM:gL [] m=if 0<m.length then-1 else 0:=by cases m<;>simp[gL]
   rw[jM];rcases fT with fT|⟨fT,e'⟩
   .subst fT;by_cases s7:0<m.length
    .simp[cU,h0,h1,jA,s7]
    .simp[cU,h0,h1,jA,s7]
   .subst fT;simp[cU,h0,h1,e']
def Lk (M:Nat)(v w:V)(b:Bool)(h:Hp)(y1 y2 c0 g c1 c2 c3 N1 D1 N2 D2:Int)(B1 B2:Bool)
 (hk:∀b h,cW cx (M+1) b 247 [jB v] h=some ((y1:AV),h)) (og:∀b h,cW cx (M+1) b 247 [jB w] h=some ((y2:AV),h))
 (hc:∀b h,cW cx (M+1) b 125 [y1,y2] h=some ((c0:AV),h))
 (ZA:∀b h,cW cx (M+1) b 248 [jB v] h=some (.tp [lJ N1 D1,B1],h)) (ZB:∀b h,cW cx (M+1) b 248 [jB w] h=some (.tp [lJ N2 D2,B2],h))
 (yf:∀b h,cW cx (M+1) b 249 [lJ N1 D1,lJ N2 D2] h=some ((g:AV),h))
 (hs:∀b h,cW cx (M+1) b 190 [.sc (.string v.s),.sc (.string w.s)] h=some ((c1:AV),h))
 (hn:∀b h,cW cx (M+1) b 125 [v.n,w.n] h=some ((c2:AV),h))
 (hl:∀b h,cW cx (M+1) b 191 [fG v.isNil v.l,fG w.isNil w.l,.fn 188 []] h=some ((c3:AV),h)):
 cW cx (M+2) b 188 [jB v,jB w] h=some (.sc (.int .i64 (if c0=0 then(if y1=2 then g else wU [c1,c2,c3])else c0)),h):=by
 have HF:=nx v w;refine fZ f188 [.tmp 4] HF rfl ?_ b h;clear HF;cases v with
 |
  mk k n d s z l=>
  cases w with
  |
   mk k' n' d' s' z' l'=>
   simp only[V.n,V.s,V.l,V.isNil]at *;simp only[lJ]at ZA ZB yf;rw[fY]at hk ZA|-;rw[fY]at og ZB|-;have hL:(∃r,fG z l= .ls 5 r z)\/fG z l=():=(gu z l).elim (λe=> .inr e.2) (λe=> .inl ⟨_,e⟩);have fT:(∃r,fG z' l'= .ls 5 r z')\/fG z' l'=():=(gu z' l').elim (λe=> .inr e.2) (λe=> .inl ⟨_,e⟩);generalize fG z l=L at hk ZA hl hL;generalize fG z' l'=L' at og ZB hl fT;have jM:=λb=>Tq M b [.row [k,n,d,.sc (.string s),L],.row [k',n',d',.sc (.string s'),L'],.row [c1,c2,c3]] 2 3 [c1,c2,c3] rfl rfl (by simp)
   generalize wU [c1,c2,c3]=o at jM;by_cases h0:c0=0
   .subst h0;by_cases h2:y1=2
    .subst h2;simp[f188,hk,og,hc,ZA,ZB,yf]
    .rcases hL with⟨r,rfl⟩|rfl<;>rcases fT with⟨r',rfl⟩|rfl<;>simp[f188,hk,og,hc,hs,hn,hl,jM,h2]
   .simp[f188,hk,og,hc,h0]
def kT {v:V}(h:jF v=true):0<=v.k/\v.k<=8/\(v.k=3\/v.d=0)/\(v.k=4\/v.s=⟨#[]⟩)/\(v.k=4->v.n=0)/\∀x∈v.l,jF x=true:=by
 cases v with
 |
  mk k n d s z l=>
  simp only[jF,V.k,V.n,V.d,V.s,V.l]at *;rw[pR]at h;simp only[Zh,Bool.or_eq_true,Zz]at h;obtain⟨⟨⟨hd,hs⟩,hl⟩,hk⟩:=h;have kC:k=4\/s=⟨#[]⟩:=hs.imp (λh=>h) (iT s ⟨#[]⟩).1;have hP:∀(l:List V) (e:Bool),wB l e=true->∀x∈l,pR x 8=true:=by
   intro l
   induction l with
   |nil=>intro _ _ x hx;cases hx
   |
    cons y ys ih=>
    intro e he x hx;rw[wB]at he;simp only[Zh]at he;rcases Xm.1 hx with rfl|hx
    .exact HG (by omega) he.1.2
    .exact ih _ he.2 x hx
  have hLs:∀(l:List V),l.isEmpty=true->∀x∈l,pR x 8=true:=λl hl x hx=>by cases l<;>simp at hl;cases hx
  by_cases h0:k=0
  .subst h0;exact⟨by omega,by omega,hd,kC,by omega,hLs l (by simpa using hl)⟩
  by_cases h1:k=1
  .subst h1;exact⟨by omega,by omega,hd,kC,by omega,hLs l (by simpa using hl)⟩
  by_cases h2:k=2
  .subst h2;exact⟨by omega,by omega,hd,kC,by omega,hLs l (by simpa using hl)⟩
  by_cases h3:k=3
  .subst h3;exact⟨by omega,by omega,hd,kC,by omega,hLs l (by simpa using hl)⟩
  by_cases h4:k=4
  .subst h4;simp at hk;exact⟨by omega,by omega,hd,kC,λ_=>hk.1.1,hLs l (by simpa using hl)⟩
  by_cases h5:k=5
  .subst h5;exact⟨by omega,by omega,hd,kC,by omega,hLs l (by simpa using hl)⟩
  by_cases h6:k=6
  .subst h6;exact⟨by omega,by omega,hd,kC,by omega,hLs l (by simpa using hl)⟩
  by_cases h7:k=7
  .subst h7;simp at hk;exact⟨by omega,by omega,hd,kC,by omega,hP l _ hk.2⟩
  by_cases h8:k=8
  .subst h8;simp at hk;refine⟨by omega,by omega,hd,kC,by omega,λx hx=>?_⟩;have:=hk.2;rw[FE,Yr]at this;exact HG (by omega) (this x hx)
  simp[h0,h1,h2,h3,h4,h5,h6,h7,h8]at hk
def o8 {k:Int}(h0:0<=k)(h8:k<=8):(k=0/\o9 k=0/\fA k=0)\/(k=1/\o9 k=1/\fA k=1)\/(k=2/\o9 k=2/\fA k=2)\/(k=3/\o9 k=2/\fA k=2)\/(k=4/\o9 k=4/\fA k=3)\/(k=5/\o9 k=5/\fA k=4)\/(k=6/\o9 k=6/\fA k=5)\/(k=7/\o9 k=9/\fA k=7)\/(k=8/\o9 k=8/\fA k=6):=by
 have:k=0\/k=1\/k=2\/k=3\/k=4\/k=5\/k=6\/k=7\/k=8:=by omega
 rcases this with rfl|rfl|rfl|rfl|rfl|rfl|rfl|rfl|rfl<;>decide
def Ll {a b c d:Int}(h1:a<b↔c<d)(h2:b<a↔d<c):ej a b=ej c d:=by
 unfold ej;simp only[h1,h2]
def ZG {v w:V}(hv:jF v=true)(hw:jF w=true):ej (o9 v.k) (o9 w.k)=ej (fA v.k) (fA w.k):=by
 obtain⟨a1,a2,_⟩:=kT hv;obtain⟨b1,b2,_⟩:=kT hw;have h1:=o8 a1 a2;have h2:=o8 b1 b2;generalize o9 v.k=p1 at *;generalize o9 w.k=p2 at *;generalize fA v.k=q1 at *;generalize fA w.k=q2 at *;exact Ll (by omega) (by omega)
def ZH {v:V}(hv:jF v=true):o9 v.k=2↔v.k=2\/v.k=3:=by
 obtain⟨a1,a2,_⟩:=kT hv;have h1:=o8 a1 a2;generalize o9 v.k=p1 at *;omega
def yi (x:Int):ej x x=0:=by unfold ej;rw[db (by omega),db (by omega)]
def PG (x:ByteArray):kL x x=0:=by unfold kL;rw[kU];rfl
def PH {v w:V}(hv:jF v=true)(hw:jF w=true)(hc:fA v.k=fA w.k)(hn:¬(v.k=2\/v.k=3)):qW v w=wU [kL v.s w.s,ej v.n w.n,gL v.l w.l]:=by
 obtain⟨a1,a2,a3,a4,a5,_⟩:=kT hv;obtain⟨b1,b2,b3,b4,b5,_⟩:=kT hw;have h1:=o8 a1 a2;have h2:=o8 b1 b2;have hk:v.k=w.k:=by
  generalize o9 v.k=p1 at *;generalize o9 w.k=p2 at *;generalize fA v.k=q1 at *;generalize fA w.k=q2 at *;omega
 have hd:v.d=w.d:=by
  have e1:v.d=0:=a3.resolve_left (by omega);have e2:w.d=0:=b3.resolve_left (by omega);rw[e1,e2]
 unfold qW;rw[hk,hd,yi,yi];by_cases h4:v.k=4
 .have e1:=a5 h4;have e2:=b5 (by omega);rw[e1,e2,yi];simp only[wU,if_true]
 .have e1:v.s=⟨#[]⟩:=a4.resolve_left h4;have e2:w.s=⟨#[]⟩:=b4.resolve_left (by omega);rw[e1,e2,PG];simp only[wU,if_true]
def ZI {v w:V}(hv:jF v=true)(hw:jF w=true)(h1:v.k=2\/v.k=3)(h3:w.k=2\/w.k=3):tj (mg v) (mh v) (mg w) (mh w)=tj v.n (if v.k=2 then 1 else v.d) w.n (if w.k=2 then 1 else w.d):=by
 simp only[mg,mh,hv,hw,if_true];rcases h1 with e1|e1<;>rcases h3 with e3|e3<;>simp[e1,e3]
def Bd (v w:V):j6 v w=if jF v=jF w then(if jF w then(if ej (fA v.k) (fA w.k)=0 then(if v.k=2\/v.k=3 then tj v.n (if v.k=2 then 1 else v.d) w.n (if w.k=2 then 1 else w.d)else qW v w)else ej (fA v.k) (fA w.k))else qW v w)else if jF w then 1 else-1:=by
 cases v;rw[j6];rfl
def HI :∀(D:Nat) (v w:V),fB v<=D->fB w<=D->gV v->gV w->jF v=true->jF w=true->∀N,FD (N+2*D+6) v w:=by
 intro D
 induction D with
 |zero=>intro v w h;have:=gZ v;omega
 |
  succ D ih=>
  intro v w dv dw bv bw ov ow N b h;obtain⟨_,_,_,_,_,vl⟩:=kT ov;obtain⟨_,_,_,_,_,wl⟩:=kT ow;have hl:=z_ (N+2*D+6) v.isNil w.isNil v.l w.l (mq bv).1 (mq bw).1 (λx hx y hy=>ih x y (qX dv x hx) (qX dw y hy) ((mq bv).2 x hx) ((mq bw).2 y hy) (vl x hx) (wl y hy) N);have nv:=λb h=>sa N (D+1) v dv bv b h
  have nw:=λb h=>sa N (D+1) w dw bw b h
  rw[show N+2*(D+1)+5=N+2*D+6+1 by omega]at nv nw;have:=Lk (N+2*D+6) v w b h _ _ _ _ _ _ _ _ _ _ _ _ _ (λb h=>D8 _ b v h) (λb h=>D8 _ b w h) (λb h=>jn (N+2*D+5) b _ _ h) nv nw
   (λb h=>Tr (N+2*D+3) b _ _ _ _ h) (λb h=>tN (N+2*D+5) b _ _ h) (λb h=>jn (N+2*D+5) b _ _ h) hl
  rw[show N+2*(D+1)+6=N+2*D+6+2 by omega];simp only[jB]at this;rw[this,Bd v w,ov,ow];simp only[if_true,ZG ov ow,ZH ov];by_cases h0:ej (fA v.k) (fA w.k)=0
  .simp only[h0,if_true];have fq:=h0;unfold ej at fq;have PI:fA v.k=fA w.k:=by(repeat' split at fq)<;>omega
   by_cases h1:v.k=2\/v.k=3
   .have h3:w.k=2\/w.k=3:=by
     obtain⟨b1,b2,_⟩:=kT ow;obtain⟨a1,a2,_⟩:=kT ov;have r1:=o8 a1 a2;have r2:=o8 b1 b2;generalize o9 v.k=p1 at *;generalize o9 w.k=p2 at *;generalize fA v.k=q1 at *;generalize fA w.k=q2 at *;omega
    simp only[h1,if_true,ZI ov ow h1 h3]
   .simp only[h1,if_false,PH ov ow PI h1]
  .simp only[h0,if_false]
end
structure m_ {α:Type}(P:α->Prop)(f:α->α->Int):Prop where
 neg:∀a b,P a->P b->f a b= -(f b a)
 tr:∀a b c,P a->P b->P c->f a b<=0->f b c<=0->f a c<=0
def m_.self {α:Type}{P:α->Prop}{f:α->α->Int}(h:m_ P f){a:α}(ha:P a):f a a=0:=by have:=h.neg a a ha ha;omega
def vo {α:Type}(f g:α->α->Int)(a b:α):Int:=if f a b=0 then g a b else f a b
def m_.zeros {α:Type}{P:α->Prop}{f:α->α->Int}(hf:m_ P f){a b c:α}(ha:P a)(hb:P b)(hc:P c)(h1:f a b<=0)(h2:f b c<=0):f a c<0\/f a c=0/\f a b=0/\f b c=0:=by
 have h3:=hf.tr a b c ha hb hc h1 h2;by_cases e:f a c=0
 .right;have e1:=hf.neg c a hc ha;have e2:=hf.tr b c a hb hc ha h2 (by omega);have e3:=hf.tr c a b hc ha hb (by omega) h1;have e4:=hf.neg a b ha hb;have e5:=hf.neg b c hb hc;omega
 .left;omega
def FF {f g:Int}(h:(if f=0 then g else f)<=0):f<=0/\(f=0->g<=0):=by
 by_cases e:f=0
 .rw[dd e]at h;exact⟨by omega,λ_=>h⟩
 .rw[db e]at h;exact⟨h,λq=>absurd q e⟩
def m_.lex {α:Type}{P:α->Prop}{f g:α->α->Int}(hf:m_ P f)(ZJ:∀a b,P a->P b->f a b=0->g a b= -(g b a))
 (hg:∀a b c,P a->P b->P c->f a b=0->f b c=0->f a c=0->g a b<=0->g b c<=0->g a c<=0):m_ P (vo f g):={
 neg:=λa b ha hb=>by
  have e:=hf.neg a b ha hb;unfold vo;by_cases h:f a b=0
  .rw[dd h,dd (by omega)];exact ZJ a b ha hb h
  .rw[db h,db (by omega)];exact e
 tr:=λa b c ha hb hc h1 h2=>by
  unfold vo at *;obtain⟨a1,a2⟩:=FF h1;obtain⟨b1,b2⟩:=FF h2;rcases hf.zeros ha hb hc a1 b1 with h|⟨h,h',h''⟩
  .rw[db (by omega)];omega
  .rw[dd h];exact hg a b c ha hb hc h' h'' h (a2 h') (b2 h'')}
def m_.lex' {α:Type}{P:α->Prop}{f g:α->α->Int}(hf:m_ P f)(hg:m_ P g):m_ P (vo f g):=
 hf.lex (λa b ha hb _=>hg.neg a b ha hb) λa b c ha hb hc _ _ _=>hg.tr a b c ha hb hc
def m_.map {α β:Type}{P:α->Prop}{Q:β->Prop}{f:β->β->Int}(hf:m_ Q f)(k:α->β)(h:∀a,P a->Q (k a)):m_ P (λa b=>f (k a) (k b)):=
 ⟨λa b ha hb=>hf.neg _ _ (h a ha) (h b hb),λa b c ha hb hc=>hf.tr _ _ _ (h a ha) (h b hb) (h c hc)⟩
def m_.zZ {α:Type}{P Q:α->Prop}{f:α->α->Int}(hf:m_ Q f)(h:∀a,P a->Q a):m_ P f:=hf.map (λa=>a) h
def jh {x y:Int}:ej x y=0↔x=y:=by unfold ej;(repeat' split)<;>omega
def FG (P:Int->Prop):m_ P ej:=
 ⟨λa b _ _=>by unfold ej;(repeat' split)<;>omega,λa b c _ _ _=>by unfold ej;(repeat' split)<;>omega⟩
def yj {x y:ByteArray}:kL x y=0↔x=y:=by
 constructor
 .intro h;unfold kL at h;cases h1:nZ x y with
  |true=>rw[h1]at h;cases h
  |
   false=>
   cases h2:kr x y with
   |true=>exact(iT x y).1 h2
   |false=>rw[h1,nz h1 h2]at h;cases h
 .rintro rfl;simp[kL,kU]
def vY (x y:ByteArray):(kL x y= -1/\nZ x y=true)\/(kL x y=0/\x=y)\/(kL x y=1/\nZ y x=true):=by
 cases h1:nZ x y with
 |true=>left;simp[kL,h1]
 |
  false=>
  cases h2:kr x y with
  |true=>right;left;exact⟨yj.2 ((iT x y).1 h2),(iT x y).1 h2⟩
  |false=>right;right;have:=nz h1 h2;simp[kL,h1,this]
def adn (P:ByteArray->Prop):m_ P kL:=by
 refine⟨λa b _ _=>?_,λa b c _ _ _ h1 h2=>?_⟩
 .rcases vY a b with⟨e,h⟩|⟨e,rfl⟩|⟨e,h⟩
  .have h':=D9 h;rw[e];simp[kL,h,h']
  .rw[e];rfl
  .rw[e];simp[kL,h]
 .rcases vY a b with⟨e,h⟩|⟨e,rfl⟩|⟨e,h⟩
  .rcases vY b c with⟨e',h'⟩|⟨e',rfl⟩|⟨e',h'⟩
   .have:=q_ h h';simp[kL,this]
   .omega
   .omega
  .exact h2
  .omega
def Ts (x:Int):iU (-x)= -(iU x):=by unfold iU;(repeat' split)<;>omega
def ZK {x:Int}:iU x<=0↔x<=0:=by unfold iU;(repeat' split)<;>omega
def ado :m_ (λq:Int × Int=>0<q.2) (λp q=>iU (p.1*q.2-q.1*p.2)):=by
 refine⟨λa b _ _=>?_,λa b c ha hb hc h1 h2=>?_⟩
 .rw[<-Ts];congr 1;omega
 .rw[ZK]at *;have e1:a.1*b.2*c.2<=b.1*a.2*c.2:=Xs (by omega) (by omega);have e2:b.1*c.2*a.2<=c.1*b.2*a.2:=Xs (by omega) (by omega);have e3:b.1*a.2*c.2=b.1*c.2*a.2:=by rw[Int.mul_assoc,Int.mul_assoc,Int.mul_comm a.2]
  have e4:a.1*b.2*c.2=a.1*c.2*b.2:=by rw[Int.mul_assoc,Int.mul_assoc,Int.mul_comm b.2]
  have e5:c.1*b.2*a.2=c.1*a.2*b.2:=by rw[Int.mul_assoc,Int.mul_assoc,Int.mul_comm b.2]
  have e6:a.1*c.2*b.2<=c.1*a.2*b.2:=by omega
  have:=Int.le_of_mul_le_mul_right e6 hb;omega
def Tt {P:V->Prop}(hf:m_ P j6):m_ (λl:List V=>∀x∈l,P x) gL:=by
 have key:∀(a b:List V),(∀x∈a,P x)->(∀x∈b,P x)->gL a b= -(gL b a):=by
  intro a
  induction a with
  |nil=>intro b _ _;cases b<;>simp[gL]
  |
   cons x xs ih=>
   intro b ha hb;cases b with
   |nil=>simp[gL]
   |
    cons y ys=>
    have e:=hf.neg x y (ha x (by simp)) (hb y (by simp));simp only[gL];by_cases h:j6 x y=0
    .rw[dd h,dd (by omega)];exact ih ys (λz hz=>ha z (by simp[hz])) (λz hz=>hb z (by simp[hz]))
    .rw[db h,db (by omega)];exact e
 refine⟨λa b ha hb=>key a b ha hb,λa=>?_⟩
 induction a with
 |
  nil=>
  intro b c _ _ _ _ _;cases c<;>simp[gL]
 |
  cons x xs ih=>
  intro b c ha hb hc h1 h2;cases b with
  |nil=>simp[gL]at h1
  |
   cons y ys=>
   cases c with
   |nil=>simp[gL]at h2
   |
    cons z zs=>
    simp only[gL]at h1 h2|-;obtain⟨a1,a2⟩:=FF h1;obtain⟨b1,b2⟩:=FF h2;rcases hf.zeros (ha x (by simp)) (hb y (by simp)) (hc z (by simp)) a1 b1 with h|⟨h,h',h''⟩
    .rw[db (by omega)];omega
    .rw[dd h];exact ih ys zs (λq hq=>ha q (by simp[hq])) (λq hq=>hb q (by simp[hq])) (λq hq=>hc q (by simp[hq])) (a2 h') (b2 h'')
def Tu (v:V):Int:=if jF v then fA v.k else 100
def NM (v:V):Int × Int:=(gO v.n (if v.k=2 then 1 else v.d),jN v.n (if v.k=2 then 1 else v.d))
def NN (k:Int):0<=fA k/\fA k<=7:=by unfold fA;(repeat' split)<;>omega
def Be {k:Int}:fA k=2↔k=2\/k=3:=by unfold fA;(repeat' split)<;>omega
def NP (v w:V):j6 v w=if jF v=jF w then(if jF w then(if ej (fA v.k) (fA w.k)=0 then(if v.k=2\/v.k=3 then tj v.n (if v.k=2 then 1 else v.d) w.n (if w.k=2 then 1 else w.d)else qW v w)else ej (fA v.k) (fA w.k))else qW v w)else if jF w then 1 else-1:=by
 cases v;rw[j6];rfl
def Tv (v w:V):j6 v w=vo (λv w=>ej (Tu v) (Tu w)) (λv w=>if Tu v=2 then iU ((NM v).1*(NM w).2-(NM w).1*(NM v).2)else qW v w) v w:=by
 have rt:∀v,jF v=true->Tu v=fA v.k:=λv h=>dd h
 have rf:∀v,jF v=false->Tu v=100:=λv h=>db (by rw[h];simp)
 rw[NP];unfold vo;dsimp only;have h1:=NN v.k;have h2:=NN w.k;have h3:=Be (k:=v.k);cases hv:jF v<;>cases hw:jF w
 .simp only[rf v hv,rf w hw,jh.2 rfl,if_true,Yq,if_false];rw[db (by omega)]
 .simp only[rf v hv,rt w hw,Yq,if_false,if_true];rw[db (by rw[jh];omega)];unfold ej;rw[db (by omega),dd (by omega)]
 .simp only[rt v hv,rf w hw,Bool.true_eq_false,Yq,if_false];rw[db (by rw[jh];omega)];unfold ej;rw[dd (by omega)]
 .simp only[rt v hv,rt w hw,if_true,h3,tj,NM]
def Tw (v w:V):qW v w=vo (λv w=>ej v.k w.k) (vo (λv w=>ej v.n w.n) (vo (λv w=>ej v.d w.d) (vo (λv w=>kL v.s w.s) (λv w=>gL v.l w.l)))) v w:=by
 simp only[qW,wU,vo]
 (repeat' split)<;>simp_all
def Tx :∀D,m_ (λv=>fB v<=D) j6:=by
 intro D
 induction D with
 |zero=>exact⟨λa _ h=>by have:=gZ a;omega,λa _ _ h=>by have:=gZ a;omega⟩
 |
  succ D ih=>
  have hL:m_ (λv:V=>fB v<=D+1) (λv w=>gL v.l w.l):=(Tt ih).map V.l λv hv=>qX hv
  have hF:m_ (λv:V=>fB v<=D+1) qW:=by
   have e:qW=vo (λv w=>ej v.k w.k) (vo (λv w=>ej v.n w.n) (vo (λv w=>ej v.d w.d) (vo (λv w=>kL v.s w.s) (λv w=>gL v.l w.l)))):=funext λv=>funext λw=>Tw v w
   rw[e];exact((FG λ_=>True).map V.k λ_ _=>trivial).lex' (((FG λ_=>True).map V.n λ_ _=>trivial).lex' (((FG λ_=>True).map V.d λ_ _=>trivial).lex' (((adn λ_=>True).map V.s λ_ _=>trivial).lex' hL)))
  have hN:m_ (λv:V=>fB v<=D+1) (λv w=>iU ((NM v).1*(NM w).2-(NM w).1*(NM v).2)):=ado.map NM λv _=>(Bf _ _).2.2
  have e:j6=vo (λv w=>ej (Tu v) (Tu w)) (λv w=>if Tu v=2 then iU ((NM v).1*(NM w).2-(NM w).1*(NM v).2)else qW v w):=funext λv=>funext λw=>Tv v w
  rw[e];refine((FG λ_=>True).map Tu λ_ _=>trivial).lex (λa b ha hb h=>?_) λa b c ha hb hc h1 h2 h3 k1 k2=>?_
  .rw[jh]at h;simp only[<-h];by_cases q:Tu a=2
   .rw[dd q,dd q];exact hN.neg a b ha hb
   .rw[db q,db q];exact hF.neg a b ha hb
  .rw[jh]at h1 h3;simp only[<-h1]at k2;by_cases q:Tu a=2
   .rw[dd q]at k1 k2|-;exact hN.tr a b c ha hb hc k1 k2
   .rw[db q]at k1 k2|-;exact hF.tr a b c ha hb hc k1 k2
def Ty (v w:V):j6 v w= -(j6 w v):=(Tx (fB v+fB w)).neg v w (by show fB v<=_;omega) (by show fB w<=_;omega)
def ZL (u v w:V)(h1:j6 u v<=0)(h2:j6 v w<=0):j6 u w<=0:=
 (Tx (fB u+fB v+fB w)).tr u v w (by show fB u<=_;omega) (by show fB v<=_;omega) (by show fB w<=_;omega) h1 h2
def Tz :m_ (λ_:V=>True) j6:=⟨λa b _ _=>Ty a b,λa b c _ _ _=>ZL a b c⟩
structure Pr where
 k:Int
 n:ByteArray
 y:ByteArray
 v:V
section
attribute [local simp] zi da XM
def Lm (M:Nat)(v w:V)(b:Bool)(h:Hp)(c:Int)(p q:Bool)
 (hv:∀b h,cW cx (M+1) b 187 [jB v] h=some ((p:AV),h)) (hw:∀b h,cW cx (M+1) b 187 [jB w] h=some ((q:AV),h))
 (ho:p=true->q=true->∀b h,cW cx (M+1) b 188 [jB v,jB w] h=some ((c:AV),h)) (hpq:¬(p=false/\q=false)):
 cW cx (M+2) b 115 [jB v,jB w] h=some (.sc (.int .i64 (bif p then(bif q then c else-1)else 1)),h):=by
 have HF:=nx v w;refine fZ f115 [.tmp 4] HF rfl ?_ b h;clear HF;cases v with
 |
  mk k n d s z l=>
  cases w with
  |
   mk k' n' d' s' z' l'=>
   rw[fY]at hv ho|-;rw[fY]at hw ho|-;generalize fG z l=L at hv ho;generalize fG z' l'=L' at hw ho;cases p<;>cases q<;>simp at hpq
   .simp[f115,hv,hw]
   .simp[f115,hv,hw]
   .have vZ:=ho rfl rfl;simp[f115,hv,hw,vZ]
def Ln (M:Nat)(v w:V)(b:Bool)(h:Hp)(c1 c2 c3 c4 c5:Int)
 (hv:∀b h,cW cx (M+1) b 187 [jB v] h=some ((false:AV),h)) (hw:∀b h,cW cx (M+1) b 187 [jB w] h=some ((false:AV),h))
 (h1:∀b h,cW cx (M+1) b 125 [v.k,w.k] h=some ((c1:AV),h))
 (h2:∀b h,cW cx (M+1) b 125 [v.n,w.n] h=some ((c2:AV),h))
 (h3:∀b h,cW cx (M+1) b 125 [v.d,w.d] h=some ((c3:AV),h))
 (h4:∀b h,cW cx (M+1) b 190 [.sc (.string v.s),.sc (.string w.s)] h=some ((c4:AV),h))
 (hl:∀b h,cW cx (M+1) b 191 [fG v.isNil v.l,fG w.isNil w.l,.fn 115 []] h=some ((c5:AV),h)):
 cW cx (M+2) b 115 [jB v,jB w] h=some (.sc (.int .i64 (wU [c1,c2,c3,c4,c5])),h):=by
 have HF:=nx v w;refine fZ f115 [.tmp 4] HF rfl ?_ b h;clear HF;cases v with
 |
  mk k n d s z l=>
  cases w with
  |
   mk k' n' d' s' z' l'=>
   simp only[V.k,V.n,V.d,V.s,V.l,V.isNil]at h1 h2 h3 h4 hl;rw[fY]at hv|-;rw[fY]at hw|-;have hL:(∃r,fG z l= .ls 5 r z)\/fG z l=():=(gu z l).elim (λe=> .inr e.2) (λe=> .inl ⟨_,e⟩);have fT:(∃r,fG z' l'= .ls 5 r z')\/fG z' l'=():=(gu z' l').elim (λe=> .inr e.2) (λe=> .inl ⟨_,e⟩);generalize fG z l=L at hv hl hL;generalize fG z' l'=L' at hw hl fT;have jM:=λb=>Tq M b [.row [k,n,d,.sc (.string s),L],.row [k',n',d',.sc (.string s'),L'],.row [c1,c2,c3,c4,c5]] 2 5 [c1,c2,c3,c4,c5] rfl rfl (by simp)
   generalize wU [c1,c2,c3,c4,c5]=o at jM;rcases hL with⟨r,rfl⟩|rfl<;>rcases fT with⟨r',rfl⟩|rfl<;>simp[f115,hv,hw,h1,h2,h3,h4,hl,jM]
def tP :∀(D:Nat) (v w:V),fB v<=D->fB w<=D->gV v->gV w->∀N,wX (N+2*D+7) v w:=by
 intro D
 induction D with
 |zero=>intro v w h;have:=gZ v;omega
 |
  succ D ih=>
  intro v w dv dw bv bw N b h;have hl:=Aa (N+2*D+7) v.isNil w.isNil v.l w.l (mq bv).1 (mq bw).1 (λx hx y hy=>ih x y (qX dv x hx) (qX dw y hy) ((mq bv).2 x hx) ((mq bw).2 y hy) N);have hv:=λb h=>oR (N+2) (D+1) v dv bv b h
  have hw:=λb h=>oR (N+2) (D+1) w dw bw b h
  rw[show N+2+2*(D+1)+4=N+2*D+7+1 by omega]at hv hw;rw[show N+2*(D+1)+7=N+2*D+7+2 by omega];by_cases hn:jF v=false/\jF w=false
  .rw[hn.1]at hv;rw[hn.2]at hw;have:=Ln (N+2*D+7) v w b h _ _ _ _ _ hv hw (λb h=>jn (N+2*D+6) b _ _ h) (λb h=>jn (N+2*D+6) b _ _ h) (λb h=>jn (N+2*D+6) b _ _ h) (λb h=>tN (N+2*D+6) b _ _ h) hl;simp only[jB]at this;rw[this,Bd v w,hn.1,hn.2];rfl
  .have:=Lm (N+2*D+7) v w b h (j6 v w) (jF v) (jF w) hv hw (λov ow b h=>by
    have:=HI (D+1) v w dv dw bv bw ov ow N b h;rw[show N+2*(D+1)+6=N+2*D+7+1 by omega]at this;exact this) hn
   simp only[jB]at this;rw[this,Bd v w];cases hp:jF v<;>cases hq:jF w
   .exact absurd ⟨hp,hq⟩ hn
   .rfl
   .rfl
   .simp only[cond_true]
def adp (p:Pr):LA:=[.sc (.int .i64 p.k),.sc (.string p.n),.sc (.string p.y)]++enc p.v
end
end Go.Proofs.YtaibpnppeiigdaaGreatDoor
namespace Go.Ae
def i64 (n:Int):Prop:= -9223372036854775808<=n/\n<=9223372036854775807
def oh {n:Int}(h:i64 n){c:UInt8}(hc:c.toNat≠45/\(c.toNat<48\/57<c.toNat)):c∉fM n:=λq=>by
 have:=Lp n h.1 h.2 c q;omega
end Go.Ae
namespace Go.Ae
open List
structure nB {α:Type}(cmp:α->α->Int):Prop where
 zero:∀a b,cmp a b=0↔a=b
 neg:∀a b,cmp a b<0↔0<cmp b a
 tr:∀a b c,cmp a b<0->cmp b c<0->cmp a c<0
def nR {α:Type}[DecidableEq α](add:Int->Int->Int):List (α × Int)->α->Int->List (α × Int)
 | [],r,n=> [(r,n)]
 |(s,m)::t,r,n=>if s=r then(s,add m n)::t else(s,m)::nR add t r n
def pW {α:Type}(cmp:α->α->Int)(add:Int->Int->Int):List (α × Int)->α->Int->List (α × Int)
 | [],r,n=> [(r,n)]
 |(s,m)::t,r,n=>if cmp s r<0 then(s,m)::pW cmp add t r n else if cmp s r=0 then(s,add m n)::t else(r,n)::(s,m)::t
def SJ {α:Type}[DecidableEq α](add:Int->Int->Int)(l:List (α × Int))(r:α)(n:Int):List (α × Int):=
 if r∈l.map (·.1)then l.map λp=>if p.1=r then(r,add p.2 n)else p else(r,n)::l
variable {α : Type} {cmp : α -> α -> Int} {add : Int -> Int -> Int}
def TA [DecidableEq α]{a b:List (α × Int)}(h:a ~ b)(r:α)(n:Int):SJ add a r n ~ SJ add b r n:=by
 unfold SJ;have e:r∈a.map (·.1)↔r∈b.map (·.1):=(h.map _).mem_iff;by_cases q:r∈a.map (·.1)
 .rw[dd q,dd (e.1 q)];exact h.map _
 .rw[db q,db λk=>q (e.2 k)];exact h.cons _
def HJ [DecidableEq α]{t:List (α × Int)}{r:α}(f:α × Int->α × Int)(h:r∉t.map (·.1)):(t.map λp=>if p.1=r then f p else p)=t:=by
 induction t with
 |nil=>rfl
 |
  cons x t ih=>
  rw[Xi,Xm,not_or]at h;rw[Xi,db λq=>h.1 q.symm,ih h.2]
def HK [DecidableEq α]:∀(l:List (α × Int)) (r:α) (n:Int),(l.map (·.1)).Nodup->nR add l r n ~ SJ add l r n
 | [],r,n,_=>by simp[nR,SJ]
 |
  (s,m)::t,r,n,h=>by
  have hs:s∉t.map (·.1):=(List.nodup_cons.1 h).1;have ht:(t.map (·.1)).Nodup:=(List.nodup_cons.1 h).2;unfold nR;by_cases e:s=r
  .subst e;rw[dd rfl];unfold SJ;rw[dd (by simp),Xi,dd rfl,HJ _ hs]
  .rw[db e];refine((HK t r n ht).cons _).trans ?_;unfold SJ;by_cases q:r∈t.map (·.1)
   .rw[dd q,dd (by rw[Xi];exact Xn _ q),Xi,db e]
   .rw[db q,db (by rw[Xi,Xm,not_or];exact⟨λk=>e k.symm,q⟩)];exact List.Perm.swap _ _ _
def FH (cmp:α->α->Int)(l:List (α × Int)):Prop:=l.Pairwise λa b=>cmp a.1 b.1<0
def nB.SK (h:nB cmp)(a:α):¬cmp a a<0:=by have:=(h.zero a a).2 rfl;omega
def FH.nodup (hc:nB cmp){l:List (α × Int)}(h:FH cmp l):(l.map (·.1)).Nodup:=by
 rw[List.Nodup,List.pairwise_map];have g:∀{a b:α × Int},cmp a.1 b.1<0->a.1≠b.1:=λ{a b} q e=>hc.SK b.1 (by rw[e]at q;exact q)
 exact List.Pairwise.imp g h
def HM :∀(l:List (α × Int)) (r:α) (n:Int) (x:α × Int),x∈pW cmp add l r n->x.1=r\/x.1∈l.map (·.1)
 | [],r,n,x,h=>by unfold pW at h;simp at h;left;rw[h]
 |
  (s,m)::t,r,n,x,h=>by
  unfold pW at h;split at h
  .rcases Xm.1 h with h|h
   .right;rw[h];simp
   .rcases HM t r n x h with h|h
    .exact .inl h
    .right;rw[Xi];exact Xn _ h
  .split at h
   .rcases Xm.1 h with h|h
    .right;rw[h];simp
    .right;rw[Xi];exact Xn _ (List.mem_map_of_mem h)
   .rcases Xm.1 h with h|h
    .left;rw[h]
    .right;exact List.mem_map_of_mem h
def Bg (hc:nB cmp):∀(l:List (α × Int)) (r:α) (n:Int),FH cmp l->FH cmp (pW cmp add l r n)
 | [],r,n,_=>by unfold pW;exact List.pairwise_singleton _ _
 |
  (s,m)::t,r,n,h=>by
  have h1:=(Ye.1 h).1;have h2:FH cmp t:=(Ye.1 h).2;unfold pW;split
  .rename_i q;refine Ye.2 ⟨λx hx=>?_,Bg hc t r n h2⟩;rcases HM t r n x hx with e|e
   .rw[e];exact q
   .obtain⟨y,hy,e⟩:=Yi.1 e;rw[<-e];exact h1 y hy
  .split
   .exact Ye.2 ⟨λx hx=>h1 x hx,h2⟩
   .rename_i q1 q2;have q3:cmp r s<0:=(hc.neg r s).2 (by omega);refine Ye.2 ⟨λx hx=>?_,h⟩;rcases Xm.1 hx with e|e
    .rw[e];exact q3
    .exact hc.tr _ _ _ q3 (h1 x e)
def HN [DecidableEq α](hc:nB cmp):∀(l:List (α × Int)) (r:α) (n:Int),FH cmp l->pW cmp add l r n ~ SJ add l r n
 | [],r,n,_=>by simp[pW,SJ]
 |
  (s,m)::t,r,n,h=>by
  have hn:=FH.nodup hc h;have hs:s∉t.map (·.1):=(List.nodup_cons.1 hn).1;have h1:=(Ye.1 h).1;have h2:FH cmp t:=(Ye.1 h).2;unfold pW;split
  .rename_i q;have e:s≠r:=λe=>hc.SK r (by rw[e]at q;exact q)
   refine((HN hc t r n h2).cons _).trans ?_;unfold SJ;by_cases q:r∈t.map (·.1)
   .rw[dd q,dd (by rw[Xi];exact Xn _ q),Xi,db e]
   .rw[db q,db (by rw[Xi,Xm,not_or];exact⟨λk=>e k.symm,q⟩)];exact List.Perm.swap _ _ _
  .split
   .rename_i q;obtain rfl:=(hc.zero s r).1 q;unfold SJ;rw[dd (by simp),Xi,dd rfl,HJ _ hs]
   .rename_i q1 q2;have q3:cmp r s<0:=(hc.neg r s).2 (by omega);unfold SJ;rw[db];intro k;rw[Xi,Xm]at k;rcases k with k|k
    .exact q2 ((hc.zero s r).2 k.symm)
    .obtain⟨y,hy,e⟩:=Yi.1 k;have:=hc.tr _ _ _ q3 (h1 y hy);rw[e]at this;exact hc.SK r this
def mJ [DecidableEq α](add:Int->Int->Int)(z:List (α × Int)):List (α × Int):=z.foldl (λs x=>nR add s x.1 x.2) []
def vp (cmp:α->α->Int)(add:Int->Int->Int)(z:List (α × Int)):List (α × Int):=z.foldl (λs x=>pW cmp add s x.1 x.2) []
def HO [DecidableEq α](hc:nB cmp):∀(z a b:List (α × Int)),a ~ b->FH cmp b->(z.foldl (λs x=>nR add s x.1 x.2) a) ~ (z.foldl (λs x=>pW cmp add s x.1 x.2) b)/\FH cmp (z.foldl (λs x=>pW cmp add s x.1 x.2) b)
 | [],_,_,h,hb=>⟨h,hb⟩
 |
  x::z,a,b,h,hb=>by
  refine HO hc z _ _ ?_ (Bg hc b _ _ hb);have hn:(a.map (·.1)).Nodup:=((h.map _).nodup_iff).2 (FH.nodup hc hb);exact(HK a _ _ hn).trans ((TA h _ _).trans (HN hc b _ _ hb).symm)
def rh [DecidableEq α](hc:nB cmp)(z:List (α × Int)):mJ add z ~ vp cmp add z:=(HO hc z [] [] (List.Perm.refl _) List.Pairwise.nil).1
def TB (hc:nB cmp)(z:List (α × Int)):FH cmp (vp cmp add z):=by
 suffices h:∀(z b:List (α × Int)),FH cmp b->FH cmp (z.foldl (λs x=>pW cmp add s x.1 x.2) b)from h z [] List.Pairwise.nil
 intro z
 induction z with
 |nil=>exact λb h=>h
 |cons x z ih=>exact λb h=>ih _ (Bg hc b _ _ h)
def NQ (cmp:α->α->Int)(add:Int->Int->Int)(z:List (α × Int)):List (α × Int):=(vp cmp add z).filter λx=>x.2 !=0
def D_ (hc:nB cmp)(z:List (α × Int)):FH cmp (NQ cmp add z):=(TB hc z).filter _
def FH.le (hc:nB cmp){l:List (α × Int)}(h:FH cmp l):l.Pairwise λa b=>¬cmp b.1 a.1<0:=by
 have g:∀{a b:α × Int},cmp a.1 b.1<0->¬cmp b.1 a.1<0:=λ{a b} q k=>hc.SK a.1 (hc.tr _ _ _ q k)
 exact List.Pairwise.imp g h
def norm_eq [DecidableEq α](hc:nB cmp)(z l:List (α × Int))(hp:l ~ (mJ add z).filter λx=>x.2 !=0)(hs:l.Pairwise λa b=>¬cmp b.1 a.1<0):l=NQ cmp add z:=by
 have h1:l ~ NQ cmp add z:=hp.trans ((rh hc z).filter _);refine List.Perm.eq_of_pairwise (le:=λa b=>¬cmp b.1 a.1<0) ?_ hs (FH.le hc (D_ hc z)) h1;intro a b ha hb q1 q2;have e:a.1=b.1:=(hc.zero _ _).1 (by have:=hc.neg a.1 b.1;have:=hc.neg b.1 a.1;omega);have ha':=h1.mem_iff.1 ha;have hu:∀(l:List (α × Int)),(l.map (·.1)).Nodup->∀a∈l,∀b∈l,a.1=b.1->a=b:=by
  intro l
  induction l with
  |nil=>intro _ a h;cases h
  |
   cons x l ih=>
   intro hn a ha b hb e;rw[Xi,List.nodup_cons]at hn;rcases Xm.1 ha with ha|ha
   .rcases Xm.1 hb with hb|hb
    .rw[ha,hb]
    .exact absurd (by rw[<-ha,e];exact List.mem_map_of_mem hb) hn.1
   .rcases Xm.1 hb with hb|hb
    .exact absurd (by rw[<-hb,<-e];exact List.mem_map_of_mem ha) hn.1
    .exact ih hn.2 a ha b hb e
 exact hu _ (FH.nodup hc (D_ hc z)) a ha' b hb e
end Go.Ae
