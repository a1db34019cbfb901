/- Part of the proof. -/
import Derived.Test.YtmfohnojaginjaaGreatDoorP11
import Derived.Deep.Slices
import GoSem.ClaimJoined
set_option linter.all false
set_option maxHeartbeats 8000000
set_option maxRecDepth 100000
namespace Go.Proofs.YtmfohnojaginjaaGreatDoor
open Go Go.Ae Go.Proofs.Tryz
section
attribute [local simp] cn eD
def Kv(M:Nat)(k n d q:Int)(s:ByteArray)(z:Bool)(l:List V)(b:Bool)(h:Hp)(h0:¬k=0)(h1:¬k=1)(h2:¬k=2)(h3:¬k=3)(h4:¬k=4)(h5:¬k=5)(h6:¬k=6)(h7:¬k=7)(h8:¬k=8):ch cx (M+1) b 345 [iX (.mk k n d s z l),q] h=some (.sc (.bool (oY (.mk k n d s z l) (8-q))),h):=by
 refine eR f345 [.tmp 4] (iY _ _) rfl ?_ b h;rw[ke,eI];have hl:=w_ z l;generalize eG z l=L,l.isEmpty=E at hl;by_cases hd:d=0
 rotate_left
 .simp[f345,h0,h1,h2,h3,h4,h5,h6,h7,h8,hd]
 cases hs:fm s ⟨#[]⟩
 .simp[f345,h0,h1,h2,h3,h4,h5,h6,h7,h8,hd,hs]
 rcases hl with⟨rfl,rfl⟩|⟨rfl,rfl⟩|⟨cg,rfl,hr,rfl⟩
 rotate_right
 .simp[f345,h0,h1,h2,h3,h4,h5,h6,h7,h8,hd,hs,hr]
 all_goals simp[f345,h0,h1,h2,h3,h4,h5,h6,h7,h8,hd,hs]
def Kw(M:Nat)(n d q:Int)(s:ByteArray)(z:Bool)(l:List V)(b:Bool)(h:Hp)(YI:0<=q)(hq8:q<=8)(hv:∀x∈l,PVC M x):ch cx (M+1) b 345 [iX (.mk 8 n d s z l),q] h=some (.sc (.bool (oY (.mk 8 n d s z l) (8-q))),h):=by
 refine eR f345 [.tmp 4] (iY _ _) rfl ?_ b h;rw[ke,eI];unfold gN;simp only[V.n,V.d,V.s,V.l];by_cases hd:d=0
 rotate_left
 .simp[f345,hd]
 cases hs:fm s ⟨#[]⟩
 .simp[f345,hd,hs]
 by_cases hn:n=0
 rotate_left
 .simp[f345,hd,hs,hn]
 unfold DH;have e1:decide (1<=8-q)= !decide (8<=q):=by
  by_cases c:8<=q
  .rw[decide_eq_true c,decide_eq_false (by omega)];rfl
  .rw[decide_eq_false c,decide_eq_true (by omega)];rfl
 rw[e1];rcases fI z l with⟨rfl,e⟩|e
 .rw[e];by_cases h3:8<=q
  .simp[f345,hd,hs,hn,h3]
  simp[f345,hd,hs,hn,h3,Aj];refine ej (C:=cx) (G:=λr=>∃h',dL _ (eX _ _ (du _ (eX _ _ (du _ r) _)) _)=some (_,h'))
   (λi s=>i=0/\s.1.length=142/\gt s.1 121=(0:Int)/\gt s.1 122=(0:Int))
   (λo s=>s.1.length=142/\o= .exit 1) 0 (by simp) (by simp) ?_ ?_
  .rintro i fr h da ⟨rfl,cf,Kx,Ky⟩;simp only at cf Kx Ky;simp[cf,Kx,Ky]
  .rintro o fr h hn ⟨cf,rfl⟩;simp only at cf;simp[cf]
 .rw[e];have hz:=dI l;have hg:=gh l;generalize ef l=cg at hz hg;by_cases h2:64< (l.length:Int)
  .simp[f345,hd,hs,hn,hz,h2,show¬(l.length:Int)<=64 by omega]
  have ry:(l.length:Int)<=64:=by omega
  by_cases h3:8<=q
  .simp[f345,hd,hs,hn,hz,h2,ry,h3]
  simp[f345,hd,hs,hn,hz,h2,ry,h3];have JY:cS .i64 (q+1)=q+1:=cu (by omega) (by omega);have e2:(8:Int)-q-1=8-(q+1):=by omega
  rw[e2];refine ej (C:=cx) (G:=λr=>∃h',dL _ (eX _ _ (du _ (eX _ _ (du _ r) _)) _)=some (_,h'))
   (λi s=>Aj l (8-(q+1))=C3 l (8-(q+1)) i/\s.1.length=142/\gt s.1 1=q/\gt s.1 120= .ls 5 cg z/\gt s.1 121=l.length/\gt s.1 122=i)
   (λo s=>s.1.length=142/\((o= .exit 1/\Aj l (8-(q+1))=true)\/(o= .ret/\Aj l (8-(q+1))=false/\gt s.1 4=false))) l.length (by simp;omega) (by simp[DF]) ?_ ?_
  .rintro i fr h da ⟨ho,cf,h1,acW,Kx,Ky⟩;simp only at cf h1 acW Kx Ky;by_cases hi:i<l.length
   .obtain⟨c,hc⟩:=eA hi;have hr:cg[i]?=some (enc c):=by rw[hg,hc];rfl
    have cz:=gA hr
    have hcv:=hv c (Zi hc);have cJ:=λb h=>hcv b (q+1) h (by omega) (by omega)
    rw[DG hc]at ho;have hf:cS .i64 ((i:Int)+1)=((i+1:Nat):Int):=cu (by omega) (by omega);generalize oY c (8-(q+1))=K at cJ ho;cases c with
    |mk k' n' d' s' z' l'=>
     simp only[enc]at hr cz cJ;generalize po z' (ef l')=L' at hr cz cJ;cases K
     .have zz:Aj l (8-(q+1))=false:=by rw[ho];rfl
      clear ho;simp[cf,h1,acW,Kx,Ky,hi,hz,cz,JY,cJ,zz]
     .have zz:Aj l (8-(q+1))=C3 l (8-(q+1)) (i+1):=by rw[ho];rfl
      clear ho;simp[cf,h1,acW,Kx,Ky,hi,hz,cz,JY,cJ,hf];exact zz
   .have zz:Aj l (8-(q+1))=true:=by rw[ho,G9 l _ i (by omega)]
    simp[cf,Kx,Ky,hi,zz]
  .rintro o fr h hn ⟨cf,⟨rfl,hz⟩|⟨rfl,hz,h2⟩⟩
   .simp only at cf;simp[cf,hz]
   .simp only at h2;simp[h2,hz]
def Oy(N:Nat)(v:V)(hs:v.s.size<=1000000000000000)(hv3:∀x∈v.l,PVC (N+3) x)(hv4:∀x∈v.l,PVC (N+4) x):PVC (N+5) v:=by
 intro b q h YI hq8;cases v with
 |mk k n d s z l=>
  simp only[V.s,V.l]at hs hv3 hv4;have g1:=λb h=>E_ (N+3) b n h
  have g2:=λb h=>vZ (N+1) b n d h
  have g3:=λb h=>C5 (N+1) b s h hs
  have g4:=λb h=>SU (N+3) b z l h hv3
  simp only[kI]at g2;show ch cx (N+5) b 345 [iX (.mk k n d s z l),q] h=_;by_cases h0:k=0
  .subst h0;exact Kn (N+4) n d q s z l b h
  by_cases h1:k=1
  .subst h1;exact Ko (N+4) n d q s z l b h
  by_cases h2:k=2
  .subst h2;exact Kp (N+4) n d q s z l b h g1
  by_cases h3:k=3
  .subst h3;exact Kq (N+4) n d q s z l b h g2
  by_cases h4:k=4
  .subst h4;exact Kr (N+4) n d q s z l b h g3
  by_cases h5:k=5
  .subst h5;exact Ks (N+4) n d q s z l b h
  by_cases h6:k=6
  .subst h6;exact Kt (N+4) n d q s z l b h
  by_cases h7:k=7
  .subst h7;exact Ku (N+4) n d q s z l b h g4
  by_cases h8:k=8
  .subst h8;exact Kw (N+4) n d q s z l b h YI hq8 hv4
  exact Kv (N+4) k n d q s z l b h h0 h1 h2 h3 h4 h5 h6 h7 h8
def YJ :∀(D:Nat)(v:V),gS v<=D->jK v->∀N,PVC (N+2*D+3) v:=by
 intro D
 induction D with
 |zero=>intro v h;have:=kS v;omega
 |succ D ih=>
  intro v h hb N;have hl:∀x∈v.l,gS x<=D/\jK x:=λx hx=>⟨ql h x hx,(lh hb).2 x hx⟩
  have hs:v.s.size<=1000000000000000:=by cases v;rw[jK]at hb;exact hb.1
  have:=Oy (N+2*D) v hs (λx hx=>ih x (hl x hx).1 (hl x hx).2 N) (λx hx=>by
   have:=ih x (hl x hx).1 (hl x hx).2 (N+1)
   rwa [show N+1+2*D+3=N+2*D+4 by omega]at this)
  rw[show N+2*(D+1)+3=N+2*D+5 by omega];exact this
def nY(N D:Nat)(v:V)(hd:gS v<=D)(hb:jK v)(b:Bool)(h:Hp):ch cx (N+2*D+4) b 220 [iX v] h=some (.sc (.bool (jo v)),h):=by
 have hv:=λb h=>YJ D v hd hb N b 0 h (by omega) (by omega)
 have hc:=kA v;refine eR (n:=N+2*D+3) f220 [.tmp 2] hc rfl ?_ b h;clear hc;unfold jo;simp only[show(8:Int)-0=8 from rfl]at hv;generalize oY v 8=K,N+2*D+3=M at hv;cases v with
 |mk k n d s z l=>
  rw[eI];have he:enc (.mk k n d s z l)=[.sc (.int .i64 k),.sc (.int .i64 n),.sc (.int .i64 d),.sc (.string s),eG z l]:=rfl;rw[he]at hv;generalize eG z l=L at hv;simp[f220,hv]
def rG(N D:Nat)(v:V)(hd:gS v<=D)(hb:jK v)(b:Bool)(h:Hp):ch cx (N+2*D+5) b 347 [iX v] h=some (.tp [kI (lI v) (lJ v),.sc (.bool (jR v))],h):=by
 have hv:=λb h=>nY N D v hd hb b h
 have hc:=kA v;have hr:cD [] 8 (.tp [kI (lI v) (lJ v),.sc (.bool (jR v))])=some (.tp [kI (lI v) (lJ v),.sc (.bool (jR v))]):=rfl;clear hr
 suffices H:(∃r,r=AV.tp [kI (lI v) (lJ v),.sc (.bool (jR v))]/\∀b h,ch cx (N+2*D+5) b 347 [iX v] h=some (r,h)) by
  obtain⟨r,rfl,hr⟩:=H;exact hr b h
 refine gP (f:=347) (n:=N+2*D+4) (args:=[iX v]) (λr=>r= .tp [kI (lI v) (lJ v),.sc (.bool (jR v))]) ⟨f347.ntmps,(f347.body).getD .skip,[.cell 2 2 true,.tmp 3]⟩ (by kernel_rfl) (by kernel_rfl) rfl (by kernel_rfl) (by simp[f347]) hc ?_;clear hc;generalize N+2*D+4=M at hv;cases v with
 |mk k n d s z l=>
  unfold lI lJ jR;generalize jo (.mk k n d s z l)=K at hv;simp only[V.k,V.n,V.d];rw[eI]at hv|-;generalize eG z l=L at hv;cases K
  .by_cases h2:k=2
   .subst h2;simp[f347,hv,kI];exact gq rfl
   .by_cases h3:k=3
    .subst h3;simp[f347,hv,kI];exact gq rfl
    .simp[f347,kI,h2,h3];exact gq rfl
  .by_cases h2:k=2
   .subst h2;simp[f347,hv,kI];exact gq rfl
   .by_cases h3:k=3
    .subst h3;simp[f347,hv,kI];exact gq rfl
    .simp[f347,kI,h2,h3];exact gq rfl
def lj{f:FuncId}{args ys:LA}{n:Nat}{r:AV}{b:Bool}{h:Hp}(hs:cx.oW f=none)(hi:cx.inl f=false)(ha:args.mapM (cD h 8)=some ys)(hc:ys.all dk=true)(hr:uy r=true)(cJ:ch cx (n+1) b f ys h=some (r,h)):ch cx (n+1) b f args h=some (r,h):=by
 have e:ys.mapM (cD h 8)=some ys:=yk (n:=6) hc;simp only[ch,hs,hi,Ys,if_false,e,hc,Bool.true_or,if_true,ha]at cJ|-;split at cJ
 .rename_i r0 h0;simp only[Zc,Zg,and_true]at cJ;subst cJ;simp only[hr,Bool.or_true,if_true]
 .cases cJ
def Oz{h:Hp}{id:Nat}{xs:List Int}(hx:h[id]?=some (.row (xs.map λx=> .sc (.int .i64 x)))):cD h 8 (.sl id 1 0 xs.length false)=some (.ls 1 (xs.map λx=> [.sc (.int .i64 x)]) false):=by
 have e:∀l:List Int,(l.map λx=>AV.sc (.int .i64 x)).mapM (cD h 7)=some (l.map λx=>AV.sc (.int .i64 x)):=by
  intro l
  induction l with
  |nil=>rfl
  |cons x l ih=>rw[Yz,Zo,ih];rfl
 have e2:((xs.map λx=>AV.sc (.int .i64 x)).drop 0).take (xs.length*1)=xs.map λx=>AV.sc (.int .i64 x):=by
  rw[Yi,Xa (by simp)]
 have e3:0+xs.length*1<=(xs.map λx=>AV.sc (.int .i64 x)).length:=by simp
 simp only[cD,rowOf,hx,e3,if_true,e2,e,Yx,Zc,AV.ls.injEq,true_and,and_true];apply List.ext_getElem?;intro i;by_cases hi:i<xs.length
 .simp only[Zs,Xb hi,Zb hi,Yx,Nat.mul_one];rw[Zm (by simpa using hi)];simp
 .simp[hi]
def Kz(n:Nat)(b:Bool)(h:Hp)(id k:Nat)(xs:List Int)(hk:k=xs.length)(hx:h[id]?=some (.row (xs.map λx=> .sc (.int .i64 x))))(hl:xs.length<=10^6):ch cx (n+1) b 97 [.sl id 1 0 k false] h=some (.sc (.int .i64 (sN xs)),h):=by
 subst hk;refine lj (ys:=[.ls 1 (xs.map λx=> [.sc (.int .i64 x)]) false]) rfl (by kernel_rfl) ?_ rfl rfl (acX n b xs false h hl);rw[Zo,Oz hx];rfl
def Fa(N:Nat)(v w:V):Prop:=∀b h,ch cx N b 221 [.ag (enc v),.ag (enc w)] h=some (.sc (.int .i64 (mg v w)),h)
def zS(N:Nat)(z z':Bool)(l m:List V)(hl:l.length<=1000000000000000)(hm:m.length<=1000000000000000)(ho:∀x∈l,∀y∈m,Fa N x y)(b:Bool)(h:Hp):
 ch cx (N+1) b 222 [eG z l,eG z' m,.fn 221 []] h=some (.sc (.int .i64 (je l m)),h):=by
 have hc:[eG z l,eG z' m,.fn 221 []].all dk=true:=by rw[Zn,Zn,lP,lP];rfl
 refine eR f222 [.tmp 6] hc rfl ?_ b h;clear hc;have hL:=jN z l;have eW:=jN z' m;generalize eG z l=L at hL;generalize eG z' m=L' at eW;have hq:=dI l;have hg:=gh l;have mR:=dI m;have x6:=gh m;generalize ef l=cg at hq hg hL;generalize ef m=rows' at mR x6 eW;rcases hL with hL|⟨hL,hz⟩
 .subst hL;simp[f222,hq];refine pQ
   (λi s _=>i<=m.length/\je l m=w9 l m i/\s.length=39/\gt s 0= .ls 5 cg z/\gt s 1=L'/\gt s 2= .fn 221 []/\gt s 11= .ls 5 cg z/\gt s 12=l.length/\gt s 13=i)
   (λo s _=>s.length=39/\((o= .exit 0/\l.length<=m.length/\je l m=dE l.length m.length/\gt s 0= .ls 5 cg z/\gt s 1=L')\/(o= .ret/\gt s 6= .sc (.int .i64 (je l m))))) l.length (by simp;omega) (by simp[vW]) ?_ ?_
  .rintro i fr h da ⟨jw,j9,cf,h0,h1,h2,GD,KA,KB⟩;by_cases hi:i<l.length
   .obtain⟨x,hx⟩:=eA hi;have hr:cg[i]?=some (enc x):=by rw[hg,hx];rfl
    have cz:=gA hr
    by_cases hj:i<m.length
    .rcases eW with eW|⟨eW,hz⟩
     .subst eW;obtain⟨y,hy⟩:=eA hj;have vY:rows'[i]?=some (enc y):=by rw[x6,hy];rfl
      have nG:=gA vY
      have cJ:=ho x (Zi hx) y (Zi hy);unfold Fa at cJ;rw[vX hx hy]at j9;have hf:cS .i64 ((i:Int)+1)=((i+1:Nat):Int):=cu (by omega) (by omega);have AU:¬(m.length<=i):=by omega
      generalize mg x y=c at cJ j9;cases x with
      |mk k n d s zx lx=>
       cases y with
       |mk k' n' d' s' zy ly=>
        simp only[enc]at hr cz vY nG cJ;generalize po zx (ef lx)=X at hr cz cJ;generalize po zy (ef ly)=Y at vY nG cJ;by_cases u_:c=0
        .subst u_;rw[cq rfl]at j9;simp[cf,h0,h1,h2,GD,KA,KB,hi,hj,AU,hq,mR,cz,nG,cJ,hf];exact⟨by omega,j9⟩
        .rw[cm u_]at j9;simp[cf,h0,h1,h2,GD,KA,KB,hi,hj,AU,hq,mR,cz,nG,cJ,u_,j9]
     .omega
    .have hz:=nX l m i (by omega) (by omega) (by omega);rw[<-j9]at hz;have eo:je l m=1:=by rw[hz];unfold dE;rw[cm (by omega),cq (by omega)]
     have AU:m.length<=i:=by omega
     cases x with
     |mk k n d s zx lx=>
      simp only[enc]at hr cz;generalize po zx (ef lx)=X at hr cz;rcases eW with eW|⟨eW,JZ⟩
      .subst eW;simp[cf,h0,h1,GD,KA,KB,hi,AU,hq,mR,cz,eo]
      .subst eW;obtain rfl:i=0:=by omega
       simp[cf,h0,h1,GD,KA,KB,hi,hq,cz,eo]
   .have hz:=nX l m i (by omega) (by omega) (by omega);rw[<-j9]at hz;simp[cf,h0,h1,KA,KB,hi,hz];omega
  .rintro o fr h hn ⟨cf,⟨rfl,hlm,hz,h0,h1⟩|⟨rfl,h2⟩⟩
   .rw[hz];unfold dE;by_cases hc:(l.length:Int)<m.length
    .rcases eW with eW|⟨eW,e'⟩
     .subst eW;simp[cf,h0,h1,hq,mR,show l.length<m.length by omega]
     .omega
    .rcases eW with eW|⟨eW,e'⟩
     .subst eW;simp[cf,h0,h1,hq,mR,show¬l.length<m.length by omega,show¬m.length<l.length by omega]
     .subst eW;simp[cf,h0,h1,hq,e',show l.length=0 by omega]
   .simp[h2]
 .subst hL;have pg:l=[]:=Zl hz;subst pg;simp[f222];refine pQ
   (λi s _=>i=0/\s.length=39/\gt s 0=()/\gt s 1=L'/\gt s 12=(0:Int)/\gt s 13=(0:Int))
   (λo s _=>s.length=39/\o= .exit 0/\gt s 0=()/\gt s 1=L') 0 (by simp) (by simp) ?_ ?_
  .rintro i fr h da ⟨rfl,cf,h0,h1,KA,KB⟩;simp[cf,h0,h1,KA,KB]
  .rintro o fr h hn ⟨cf,rfl,h0,h1⟩;have j9:je [] m=if 0<m.length then-1 else 0:=by cases m<;>simp[je]
   rw[j9];rcases eW with eW|⟨eW,e'⟩
   .subst eW;by_cases zQ:0<m.length
    .simp[cf,h0,h1,mR,zQ]
    .simp[cf,h0,h1,mR,zQ]
   .subst eW;simp[cf,h0,h1,e']
def Fb(N:Nat)(v w:V):Prop:=∀b h,ch cx N b 125 [.ag (enc v),.ag (enc w)] h=some (.sc (.int .i64 (mg v w)),h)
def zT(N:Nat)(z z':Bool)(l m:List V)(hl:l.length<=1000000000000000)(hm:m.length<=1000000000000000)(ho:∀x∈l,∀y∈m,Fb N x y)(b:Bool)(h:Hp):
 ch cx (N+1) b 222 [eG z l,eG z' m,.fn 125 []] h=some (.sc (.int .i64 (je l m)),h):=by
 have hc:[eG z l,eG z' m,.fn 125 []].all dk=true:=by rw[Zn,Zn,lP,lP];rfl
 refine eR f222 [.tmp 6] hc rfl ?_ b h;clear hc;have hL:=jN z l;have eW:=jN z' m;generalize eG z l=L at hL;generalize eG z' m=L' at eW;have hq:=dI l;have hg:=gh l;have mR:=dI m;have x6:=gh m;generalize ef l=cg at hq hg hL;generalize ef m=rows' at mR x6 eW;rcases hL with hL|⟨hL,hz⟩
 .subst hL;simp[f222,hq];refine pQ
   (λi s _=>i<=m.length/\je l m=w9 l m i/\s.length=39/\gt s 0= .ls 5 cg z/\gt s 1=L'/\gt s 2= .fn 125 []/\gt s 11= .ls 5 cg z/\gt s 12=l.length/\gt s 13=i)
   (λo s _=>s.length=39/\((o= .exit 0/\l.length<=m.length/\je l m=dE l.length m.length/\gt s 0= .ls 5 cg z/\gt s 1=L')\/(o= .ret/\gt s 6= .sc (.int .i64 (je l m))))) l.length (by simp;omega) (by simp[vW]) ?_ ?_
  .rintro i fr h da ⟨jw,j9,cf,h0,h1,h2,GD,KA,KB⟩;by_cases hi:i<l.length
   .obtain⟨x,hx⟩:=eA hi;have hr:cg[i]?=some (enc x):=by rw[hg,hx];rfl
    have cz:=gA hr
    by_cases hj:i<m.length
    .rcases eW with eW|⟨eW,hz⟩
     .subst eW;obtain⟨y,hy⟩:=eA hj;have vY:rows'[i]?=some (enc y):=by rw[x6,hy];rfl
      have nG:=gA vY
      have cJ:=ho x (Zi hx) y (Zi hy);unfold Fb at cJ;rw[vX hx hy]at j9;have hf:cS .i64 ((i:Int)+1)=((i+1:Nat):Int):=cu (by omega) (by omega);have AU:¬(m.length<=i):=by omega
      generalize mg x y=c at cJ j9;cases x with
      |mk k n d s zx lx=>
       cases y with
       |mk k' n' d' s' zy ly=>
        simp only[enc]at hr cz vY nG cJ;generalize po zx (ef lx)=X at hr cz cJ;generalize po zy (ef ly)=Y at vY nG cJ;by_cases u_:c=0
        .subst u_;rw[cq rfl]at j9;simp[cf,h0,h1,h2,GD,KA,KB,hi,hj,AU,hq,mR,cz,nG,cJ,hf];exact⟨by omega,j9⟩
        .rw[cm u_]at j9;simp[cf,h0,h1,h2,GD,KA,KB,hi,hj,AU,hq,mR,cz,nG,cJ,u_,j9]
     .omega
    .have hz:=nX l m i (by omega) (by omega) (by omega);rw[<-j9]at hz;have eo:je l m=1:=by rw[hz];unfold dE;rw[cm (by omega),cq (by omega)]
     have AU:m.length<=i:=by omega
     cases x with
     |mk k n d s zx lx=>
      simp only[enc]at hr cz;generalize po zx (ef lx)=X at hr cz;rcases eW with eW|⟨eW,JZ⟩
      .subst eW;simp[cf,h0,h1,GD,KA,KB,hi,AU,hq,mR,cz,eo]
      .subst eW;obtain rfl:i=0:=by omega
       simp[cf,h0,h1,GD,KA,KB,hi,hq,cz,eo]
   .have hz:=nX l m i (by omega) (by omega) (by omega);rw[<-j9]at hz;simp[cf,h0,h1,KA,KB,hi,hz];omega
  .rintro o fr h hn ⟨cf,⟨rfl,hlm,hz,h0,h1⟩|⟨rfl,h2⟩⟩
   .rw[hz];unfold dE;by_cases hc:(l.length:Int)<m.length
    .rcases eW with eW|⟨eW,e'⟩
     .subst eW;simp[cf,h0,h1,hq,mR,show l.length<m.length by omega]
     .omega
    .rcases eW with eW|⟨eW,e'⟩
     .subst eW;simp[cf,h0,h1,hq,mR,show¬l.length<m.length by omega,show¬m.length<l.length by omega]
     .subst eW;simp[cf,h0,h1,hq,e',show l.length=0 by omega]
   .simp[h2]
 .subst hL;have pg:l=[]:=Zl hz;subst pg;simp[f222];refine pQ
   (λi s _=>i=0/\s.length=39/\gt s 0=()/\gt s 1=L'/\gt s 12=(0:Int)/\gt s 13=(0:Int))
   (λo s _=>s.length=39/\o= .exit 0/\gt s 0=()/\gt s 1=L') 0 (by simp) (by simp) ?_ ?_
  .rintro i fr h da ⟨rfl,cf,h0,h1,KA,KB⟩;simp[cf,h0,h1,KA,KB]
  .rintro o fr h hn ⟨cf,rfl,h0,h1⟩;have j9:je [] m=if 0<m.length then-1 else 0:=by cases m<;>simp[je]
   rw[j9];rcases eW with eW|⟨eW,e'⟩
   .subst eW;by_cases zQ:0<m.length
    .simp[cf,h0,h1,mR,zQ]
    .simp[cf,h0,h1,mR,zQ]
   .subst eW;simp[cf,h0,h1,e']
def KC(M:Nat)(v w:V)(b:Bool)(h:Hp)(y1 y2 c0 g c1 c2 c3 N1 D1 N2 D2:Int)(B1 B2:Bool)(hk:∀b h,ch cx (M+1) b 346 [iX v] h=some ((y1:AV),h))(lk:∀b h,ch cx (M+1) b 346 [iX w] h=some ((y2:AV),h))(hc:∀b h,ch cx (M+1) b 98 [y1,y2] h=some ((c0:AV),h))(YE:∀b h,ch cx (M+1) b 347 [iX v] h=some (.tp [kI N1 D1,B1],h))(YF:∀b h,ch cx (M+1) b 347 [iX w] h=some (.tp [kI N2 D2,B2],h))(vh:∀b h,ch cx (M+1) b 348 [kI N1 D1,kI N2 D2] h=some ((g:AV),h))(hs:∀b h,ch cx (M+1) b 99 [v.s,w.s] h=some ((c1:AV),h))(hn:∀b h,ch cx (M+1) b 98 [v.n,w.n] h=some ((c2:AV),h))(hl:∀b h,ch cx (M+1) b 222 [eG v.isNil v.l,eG w.isNil w.l,.fn 221 []] h=some ((c3:AV),h)):
 ch cx (M+2) b 221 [iX v,iX w] h=some (.sc (.int .i64 (if c0=0 then(if y1=2 then g else sN [c1,c2,c3])else c0)),h):=by
 have WY:=mm v w;refine eR f221 [.tmp 4] WY rfl ?_ b h;clear WY;cases v with
 |mk k n d s z l=>
  cases w with
  |mk k' n' d' s' z' l'=>
   simp only[V.n,V.s,V.l,V.isNil]at *;simp only[kI]at YE YF vh;rw[eI]at hk YE|-;rw[eI]at lk YF|-;have hL:(∃r,eG z l= .ls 5 r z)\/eG z l=():=(fI z l).elim (λe=> .inr e.2) (λe=> .inl ⟨_,e⟩);have eW:(∃r,eG z' l'= .ls 5 r z')\/eG z' l'=():=(fI z' l').elim (λe=> .inr e.2) (λe=> .inl ⟨_,e⟩);generalize eG z l=L at hk YE hl hL;generalize eG z' l'=L' at lk YF hl eW;have j9:=λb=>Kz M b [.row [k,n,d,s,L],.row [k',n',d',s',L'],.row [c1,c2,c3]] 2 3 [c1,c2,c3] rfl rfl (by simp)
   generalize sN [c1,c2,c3]=o at j9;by_cases h0:c0=0
   .subst h0;by_cases h2:y1=2
    .subst h2;simp[f221,hk,lk,hc,YE,YF,vh]
    .rcases hL with⟨r,rfl⟩|rfl<;>rcases eW with⟨r',rfl⟩|rfl<;>simp[f221,hk,lk,hc,hs,hn,hl,j9,h2]
   .simp[f221,hk,lk,hc,h0]
def kf{v:V}(h:jo v=true):0<=v.k/\v.k<=8/\(v.k=3\/v.d=0)/\(v.k=4\/v.s=⟨#[]⟩)/\(v.k=4->v.n=0)/\∀x∈v.l,jo x=true:=by
 cases v with
 |mk k n d s z l=>
  simp only[jo,V.k,V.n,V.d,V.s,V.l]at *;rw[oY]at h;simp only[Zh,Yy,Zy]at h;obtain⟨⟨⟨hd,hs⟩,hl⟩,hk⟩:=h;have pR:k=4\/s=⟨#[]⟩:=hs.imp (λh=>h) (iC s ⟨#[]⟩).1;have hP:∀(l:List V)(e:Bool),wO l e=true->∀x∈l,oY x 8=true:=by
   intro l
   induction l with
   |nil=>intro _ _ x hx;cases hx
   |cons y ys ih=>
    intro e he x hx;rw[wO]at he;simp only[Zh]at he;rcases Yw.1 hx with rfl|hx
    .exact G8 (by omega) he.1.2
    .exact ih _ he.2 x hx
  have hLs:∀(l:List V),l.isEmpty=true->∀x∈l,oY x 8=true:=λl hl x hx=>by cases l<;>simp at hl;cases hx
  by_cases h0:k=0
  .subst h0;exact⟨by omega,by omega,hd,pR,by omega,hLs l (by simpa using hl)⟩
  by_cases h1:k=1
  .subst h1;exact⟨by omega,by omega,hd,pR,by omega,hLs l (by simpa using hl)⟩
  by_cases h2:k=2
  .subst h2;exact⟨by omega,by omega,hd,pR,by omega,hLs l (by simpa using hl)⟩
  by_cases h3:k=3
  .subst h3;exact⟨by omega,by omega,hd,pR,by omega,hLs l (by simpa using hl)⟩
  by_cases h4:k=4
  .subst h4;simp at hk;exact⟨by omega,by omega,hd,pR,λ_=>hk.1.1,hLs l (by simpa using hl)⟩
  by_cases h5:k=5
  .subst h5;exact⟨by omega,by omega,hd,pR,by omega,hLs l (by simpa using hl)⟩
  by_cases h6:k=6
  .subst h6;exact⟨by omega,by omega,hd,pR,by omega,hLs l (by simpa using hl)⟩
  by_cases h7:k=7
  .subst h7;simp at hk;exact⟨by omega,by omega,hd,pR,by omega,hP l _ hk.2⟩
  by_cases h8:k=8
  .subst h8;simp at hk;refine⟨by omega,by omega,hd,pR,by omega,λx hx=>?_⟩;have:=hk.2;rw[E2,Yt]at this;exact G8 (by omega) (this x hx)
  simp[h0,h1,h2,h3,h4,h5,h6,h7,h8]at hk
def ou{k:Int}(h0:0<=k)(h8:k<=8):(k=0/\oo k=0/\eg k=0)\/(k=1/\oo k=1/\eg k=1)\/(k=2/\oo k=2/\eg k=2)\/(k=3/\oo k=2/\eg k=2)\/(k=4/\oo k=4/\eg k=3)\/(k=5/\oo k=5/\eg k=4)\/(k=6/\oo k=6/\eg k=5)\/(k=7/\oo k=9/\eg k=7)\/(k=8/\oo k=8/\eg k=6):=by
 have:k=0\/k=1\/k=2\/k=3\/k=4\/k=5\/k=6\/k=7\/k=8:=by omega
 rcases this with rfl|rfl|rfl|rfl|rfl|rfl|rfl|rfl|rfl<;>decide
def KD{a b c d:Int}(h1:a<b↔c<d)(h2:b<a↔d<c):dE a b=dE c d:=by
 unfold dE;simp only[h1,h2]
def YK{v w:V}(hv:jo v=true)(hw:jo w=true):dE (oo v.k) (oo w.k)=dE (eg v.k) (eg w.k):=by
 obtain⟨a1,a2,_⟩:=kf hv;obtain⟨b1,b2,_⟩:=kf hw;have h1:=ou a1 a2;have h2:=ou b1 b2;generalize oo v.k=p1,oo w.k=p2,eg v.k=q1,eg w.k=q2 at *;exact KD (by omega) (by omega)
def YL{v:V}(hv:jo v=true):oo v.k=2↔v.k=2\/v.k=3:=by
 obtain⟨a1,a2,_⟩:=kf hv;have h1:=ou a1 a2;generalize oo v.k=p1 at *;omega
def ym(x:Int):dE x x=0:=by unfold dE;rw[cm (by omega),cm (by omega)]
def OA(x:ByteArray):gJ x x=0:=by unfold gJ;rw[kc];rfl
def OB{v w:V}(hv:jo v=true)(hw:jo w=true)(hc:eg v.k=eg w.k)(hn:¬(v.k=2\/v.k=3)):sO v w=sN [gJ v.s w.s,dE v.n w.n,je v.l w.l]:=by
 obtain⟨a1,a2,a3,a4,a5,_⟩:=kf hv;obtain⟨b1,b2,b3,b4,b5,_⟩:=kf hw;have h1:=ou a1 a2;have h2:=ou b1 b2;have hk:v.k=w.k:=by
  generalize oo v.k=p1,oo w.k=p2,eg v.k=q1,eg w.k=q2 at *;omega
 have hd:v.d=w.d:=by
  have e1:v.d=0:=a3.resolve_left (by omega);have e2:w.d=0:=b3.resolve_left (by omega);rw[e1,e2]
 unfold sO;rw[hk,hd,ym,ym];by_cases h4:v.k=4
 .have e1:=a5 h4;have e2:=b5 (by omega);rw[e1,e2,ym];simp only[sN,if_true]
 .have e1:v.s=⟨#[]⟩:=a4.resolve_left h4;have e2:w.s=⟨#[]⟩:=b4.resolve_left (by omega);rw[e1,e2,OA];simp only[sN,if_true]
def YM{v w:V}(hv:jo v=true)(hw:jo w=true)(h1:v.k=2\/v.k=3)(h3:w.k=2\/w.k=3):ve (lI v) (lJ v) (lI w) (lJ w)=ve v.n (if v.k=2 then 1 else v.d) w.n (if w.k=2 then 1 else w.d):=by
 simp only[lI,lJ,hv,hw,if_true];rcases h1 with e1|e1<;>rcases h3 with e3|e3<;>simp[e1,e3]
def Bd(v w:V):mg v w=if jo v=jo w then(if jo w then(if dE (eg v.k) (eg w.k)=0 then(if v.k=2\/v.k=3 then ve v.n (if v.k=2 then 1 else v.d) w.n (if w.k=2 then 1 else w.d)else sO v w)else dE (eg v.k) (eg w.k))else sO v w)else if jo w then 1 else-1:=by
 cases v;rw[mg];rfl
def Hb :∀(D:Nat)(v w:V),gS v<=D->gS w<=D->jK v->jK w->jo v=true->jo w=true->∀N,Fa (N+2*D+6) v w:=by
 intro D
 induction D with
 |zero=>intro v w h;have:=kS v;omega
 |succ D ih=>
  intro v w dv dw bv bw ov ow N b h;obtain⟨_,_,_,_,_,vl⟩:=kf ov;obtain⟨_,_,_,_,_,wl⟩:=kf ow;have hl:=zS (N+2*D+6) v.isNil w.isNil v.l w.l (lh bv).1 (lh bw).1 (λx hx y hy=>ih x y (ql dv x hx) (ql dw y hy) ((lh bv).2 x hx) ((lh bw).2 y hy) (vl x hx) (wl y hy) N);have nv:=λb h=>rG N (D+1) v dv bv b h
  have nw:=λb h=>rG N (D+1) w dw bw b h
  rw[show N+2*(D+1)+5=N+2*D+6+1 by omega]at nv nw;have:=KC (N+2*D+6) v w b h _ _ _ _ _ _ _ _ _ _ _ _ _ (λb h=>DE _ b v h) (λb h=>DE _ b w h) (λb h=>gT (N+2*D+5) b _ _ h) nv nw
   (λb h=>SV (N+2*D+3) b _ _ _ _ h) (λb h=>kg (N+2*D+5) b _ _ h) (λb h=>gT (N+2*D+5) b _ _ h) hl
  rw[show N+2*(D+1)+6=N+2*D+6+2 by omega];simp only[iX]at this;rw[this,Bd v w,ov,ow];simp only[if_true,YK ov ow,YL ov];by_cases h0:dE (eg v.k) (eg w.k)=0
  .simp only[h0,if_true];have dZ:=h0;unfold dE at dZ;have acY:eg v.k=eg w.k:=by(repeat' split at dZ)<;>omega
   by_cases h1:v.k=2\/v.k=3
   .have h3:w.k=2\/w.k=3:=by
     obtain⟨b1,b2,_⟩:=kf ow;obtain⟨a1,a2,_⟩:=kf ov;have r1:=ou a1 a2;have r2:=ou b1 b2;generalize oo v.k=p1,oo w.k=p2,eg v.k=q1,eg w.k=q2 at *;omega
    simp only[h1,if_true,YM ov ow h1 h3]
   .simp only[h1,if_false,OB ov ow acY h1]
  .simp only[h0,if_false]
end
structure nH {α:Type}(P:α->Prop)(f:α->α->Int):Prop where
 neg:∀a b,P a->P b->f a b= -(f b a)
 tr:∀a b c,P a->P b->P c->f a b<=0->f b c<=0->f a c<=0
def vm{α:Type}(f g:α->α->Int)(a b:α):Int:=if f a b=0 then g a b else f a b
def nH.zeros{α:Type}{P:α->Prop}{f:α->α->Int}(hf:nH P f){a b c:α}(ha:P a)(hb:P b)(hc:P c)(h1:f a b<=0)(h2:f b c<=0):f a c<0\/f a c=0/\f a b=0/\f b c=0:=by
 have h3:=hf.tr a b c ha hb hc h1 h2;by_cases e:f a c=0
 .right;have e1:=hf.neg c a hc ha;have e2:=hf.tr b c a hb hc ha h2 (by omega);have e3:=hf.tr c a b hc ha hb (by omega) h1;have e4:=hf.neg a b ha hb;have e5:=hf.neg b c hb hc;omega
 .left;omega
def Fe{f g:Int}(h:(if f=0 then g else f)<=0):f<=0/\(f=0->g<=0):=by
 by_cases e:f=0
 .rw[cq e]at h;exact⟨by omega,λ_=>h⟩
 .rw[cm e]at h;exact⟨h,λq=>absurd q e⟩
def nH.lex{α:Type}{P:α->Prop}{f g:α->α->Int}(hf:nH P f)(hgn:∀a b,P a->P b->f a b=0->g a b= -(g b a))(hg:∀a b c,P a->P b->P c->f a b=0->f b c=0->f a c=0->g a b<=0->g b c<=0->g a c<=0):nH P (vm f g):={
 neg:=λa b ha hb=>by
  have e:=hf.neg a b ha hb;unfold vm;by_cases h:f a b=0
  .rw[cq h,cq (by omega)];exact hgn a b ha hb h
  .rw[cm h,cm (by omega)];exact e
 tr:=λa b c ha hb hc h1 h2=>by
  unfold vm at *;obtain⟨a1,a2⟩:=Fe h1;obtain⟨b1,b2⟩:=Fe h2;rcases hf.zeros ha hb hc a1 b1 with h|⟨h,h',h''⟩
  .rw[cm (by omega)];omega
  .rw[cq h];exact hg a b c ha hb hc h' h'' h (a2 h') (b2 h'')}
def nH.lex'{α:Type}{P:α->Prop}{f g:α->α->Int}(hf:nH P f)(hg:nH P g):nH P (vm f g):=
 hf.lex (λa b ha hb _=>hg.neg a b ha hb) λa b c ha hb hc _ _ _=>hg.tr a b c ha hb hc
def nH.map{α β:Type}{P:α->Prop}{Q:β->Prop}{f:β->β->Int}(hf:nH Q f)(k:α->β)(h:∀a,P a->Q (k a)):nH P (λa b=>f (k a) (k b)):=
 ⟨λa b ha hb=>hf.neg _ _ (h a ha) (h b hb),λa b c ha hb hc=>hf.tr _ _ _ (h a ha) (h b hb) (h c hc)⟩
def nH.AQ{α:Type}{P Q:α->Prop}{f:α->α->Int}(hf:nH Q f)(h:∀a,P a->Q a):nH P f:=hf.map (λa=>a) h
def qp{x y:Int}:dE x y=0↔x=y:=by unfold dE;(repeat' split)<;>omega
def Ff(P:Int->Prop):nH P dE:=
 ⟨λa b _ _=>by unfold dE;(repeat' split)<;>omega,λa b c _ _ _=>by unfold dE;(repeat' split)<;>omega⟩
def DK{x y:ByteArray}:gJ x y=0↔x=y:=by
 constructor
 .intro h;unfold gJ at h;cases h1:nC x y with
  |true=>rw[h1]at h;cases h
  |
   false=>
   cases h2:fm x y with
   |true=>exact(iC x y).1 h2
   |false=>rw[h1,lg h1 h2]at h;cases h
 .rintro rfl;simp[gJ,kc]
def v8(x y:ByteArray):(gJ x y= -1/\nC x y=true)\/(gJ x y=0/\x=y)\/(gJ x y=1/\nC y x=true):=by
 cases h1:nC x y with
 |true=>left;simp[gJ,h1]
 |
  false=>
  cases h2:fm x y with
  |true=>right;left;exact⟨DK.2 ((iC x y).1 h2),(iC x y).1 h2⟩
  |false=>right;right;have:=lg h1 h2;simp[gJ,h1,this]
def acZ(P:ByteArray->Prop):nH P gJ:=by
 refine⟨λa b _ _=>?_,λa b c _ _ _ h1 h2=>?_⟩
 .rcases v8 a b with⟨e,h⟩|⟨e,rfl⟩|⟨e,h⟩
  .have h':=DL h;rw[e];simp[gJ,h,h']
  .rw[e];rfl
  .rw[e];simp[gJ,h]
 .rcases v8 a b with⟨e,h⟩|⟨e,rfl⟩|⟨e,h⟩
  .rcases v8 b c with⟨e',h'⟩|⟨e',rfl⟩|⟨e',h'⟩
   .have:=qq h h';simp[gJ,this]
   .omega
   .omega
  .exact h2
  .omega
def SW(x:Int):ij (-x)= -(ij x):=by unfold ij;(repeat' split)<;>omega
def YN{x:Int}:ij x<=0↔x<=0:=by unfold ij;(repeat' split)<;>omega
def ac0 :nH (λq:Int × Int=>0<q.2) (λp q=>ij (p.1*q.2-q.1*p.2)):=by
 refine⟨λa b _ _=>?_,λa b c ha hb hc h1 h2=>?_⟩
 .rw[<-SW];congr 1;omega
 .rw[YN]at *;have e1:a.1*b.2*c.2<=b.1*a.2*c.2:=Xg (by omega) (by omega);have e2:b.1*c.2*a.2<=c.1*b.2*a.2:=Xg (by omega) (by omega);have e3:b.1*a.2*c.2=b.1*c.2*a.2:=by rw[Int.mul_assoc,Int.mul_assoc,Int.mul_comm a.2]
  have e4:a.1*b.2*c.2=a.1*c.2*b.2:=by rw[Int.mul_assoc,Int.mul_assoc,Int.mul_comm b.2]
  have e5:c.1*b.2*a.2=c.1*a.2*b.2:=by rw[Int.mul_assoc,Int.mul_assoc,Int.mul_comm b.2]
  have e6:a.1*c.2*b.2<=c.1*a.2*b.2:=by omega
  have:=Int.le_of_mul_le_mul_right e6 hb;omega
def ac1{P:V->Prop}(hf:nH P mg):nH (λl:List V=>∀x∈l,P x) je:=by
 have key:∀(a b:List V),(∀x∈a,P x)->(∀x∈b,P x)->je a b= -(je b a):=by
  intro a
  induction a with
  |nil=>intro b _ _;cases b<;>simp[je]
  |cons x xs ih=>
   intro b ha hb;cases b with
   |nil=>simp[je]
   |cons y ys=>
    have e:=hf.neg x y (ha x (by simp)) (hb y (by simp));simp only[je];by_cases h:mg x y=0
    .rw[cq h,cq (by omega)];exact ih ys (λz hz=>ha z (by simp[hz])) (λz hz=>hb z (by simp[hz]))
    .rw[cm h,cm (by omega)];exact e
 refine⟨λa b ha hb=>key a b ha hb,λa=>?_⟩
 induction a with
 |
  nil=>
  intro b c _ _ _ _ _;cases c<;>simp[je]
 |cons x xs ih=>
  intro b c ha hb hc h1 h2;cases b with
  |nil=>simp[je]at h1
  |cons y ys=>
   cases c with
   |nil=>simp[je]at h2
   |cons z zs=>
    simp only[je]at h1 h2|-;obtain⟨a1,a2⟩:=Fe h1;obtain⟨b1,b2⟩:=Fe h2;rcases hf.zeros (ha x (by simp)) (hb y (by simp)) (hc z (by simp)) a1 b1 with h|⟨h,h',h''⟩
    .rw[cm (by omega)];omega
    .rw[cq h];exact ih ys zs (λq hq=>ha q (by simp[hq])) (λq hq=>hb q (by simp[hq])) (λq hq=>hc q (by simp[hq])) (a2 h') (b2 h'')
def SX(v:V):Int:=if jo v then eg v.k else 100
def MC(v:V):Int × Int:=(fO v.n (if v.k=2 then 1 else v.d),jn v.n (if v.k=2 then 1 else v.d))
def MD(k:Int):0<=eg k/\eg k<=7:=by unfold eg;(repeat' split)<;>omega
def SY{k:Int}:eg k=2↔k=2\/k=3:=by unfold eg;(repeat' split)<;>omega
def YO(v w:V):mg v w=if jo v=jo w then(if jo w then(if dE (eg v.k) (eg w.k)=0 then(if v.k=2\/v.k=3 then ve v.n (if v.k=2 then 1 else v.d) w.n (if w.k=2 then 1 else w.d)else sO v w)else dE (eg v.k) (eg w.k))else sO v w)else if jo w then 1 else-1:=by
 cases v;rw[mg];rfl
def SZ(v w:V):mg v w=vm (λv w=>dE (SX v) (SX w)) (λv w=>if SX v=2 then ij ((MC v).1*(MC w).2-(MC w).1*(MC v).2)else sO v w) v w:=by
 have rt:∀v,jo v=true->SX v=eg v.k:=λv h=>cq h
 have rf:∀v,jo v=false->SX v=100:=λv h=>cm (by rw[h];simp)
 rw[YO];unfold vm;dsimp only;have h1:=MD v.k;have h2:=MD w.k;have h3:=SY (k:=v.k);cases hv:jo v<;>cases hw:jo w
 .simp only[rf v hv,rf w hw,qp.2 rfl,if_true,Ys,if_false];rw[cm (by omega)]
 .simp only[rf v hv,rt w hw,Ys,if_false,if_true];rw[cm (by rw[qp];omega)];unfold dE;rw[cm (by omega),cq (by omega)]
 .simp only[rt v hv,rf w hw,Bool.true_eq_false,Ys,if_false];rw[cm (by rw[qp];omega)];unfold dE;rw[cq (by omega)]
 .simp only[rt v hv,rt w hw,if_true,h3,ve,MC]
def S0(v w:V):sO v w=vm (λv w=>dE v.k w.k) (vm (λv w=>dE v.n w.n) (vm (λv w=>dE v.d w.d) (vm (λv w=>gJ v.s w.s) (λv w=>je v.l w.l)))) v w:=by
 simp only[sO,sN,vm]
 (repeat' split)<;>simp_all
def ac2 :∀D,nH (λv=>gS v<=D) mg:=by
 intro D
 induction D with
 |zero=>exact⟨λa _ h=>by have:=kS a;omega,λa _ _ h=>by have:=kS a;omega⟩
 |succ D ih=>
  have hL:nH (λv:V=>gS v<=D+1) (λv w=>je v.l w.l):=(ac1 ih).map V.l λv hv=>ql hv
  have hF:nH (λv:V=>gS v<=D+1) sO:=by
   have e:sO=vm (λv w=>dE v.k w.k) (vm (λv w=>dE v.n w.n) (vm (λv w=>dE v.d w.d) (vm (λv w=>gJ v.s w.s) (λv w=>je v.l w.l)))):=funext λv=>funext λw=>S0 v w
   rw[e];exact((Ff λ_=>True).map V.k λ_ _=>trivial).lex' (((Ff λ_=>True).map V.n λ_ _=>trivial).lex' (((Ff λ_=>True).map V.d λ_ _=>trivial).lex' (((acZ λ_=>True).map V.s λ_ _=>trivial).lex' hL)))
  have hN:nH (λv:V=>gS v<=D+1) (λv w=>ij ((MC v).1*(MC w).2-(MC w).1*(MC v).2)):=ac0.map MC λv _=>(A9 _ _).2.2
  have e:mg=vm (λv w=>dE (SX v) (SX w)) (λv w=>if SX v=2 then ij ((MC v).1*(MC w).2-(MC w).1*(MC v).2)else sO v w):=funext λv=>funext λw=>SZ v w
  rw[e];refine((Ff λ_=>True).map SX λ_ _=>trivial).lex (λa b ha hb h=>?_) λa b c ha hb hc h1 h2 h3 k1 k2=>?_
  .rw[qp]at h;simp only[<-h];by_cases q:SX a=2
   .rw[cq q,cq q];exact hN.neg a b ha hb
   .rw[cm q,cm q];exact hF.neg a b ha hb
  .rw[qp]at h1 h3;simp only[<-h1]at k2;by_cases q:SX a=2
   .rw[cq q]at k1 k2|-;exact hN.tr a b c ha hb hc k1 k2
   .rw[cm q]at k1 k2|-;exact hF.tr a b c ha hb hc k1 k2
def S4(v w:V):mg v w= -(mg w v):=(ac2 (gS v+gS w)).neg v w (by show gS v<=_;omega) (by show gS w<=_;omega)
structure Pr where
 k:Int
 n:ByteArray
 y:ByteArray
 v:V
section
attribute [local simp] cn eD
def KE(M:Nat)(v w:V)(b:Bool)(h:Hp)(c:Int)(p q:Bool)(hv:∀b h,ch cx (M+1) b 220 [iX v] h=some ((p:AV),h))(hw:∀b h,ch cx (M+1) b 220 [iX w] h=some ((q:AV),h))(ho:p=true->q=true->∀b h,ch cx (M+1) b 221 [iX v,iX w] h=some ((c:AV),h))(hpq:¬(p=false/\q=false)):
 ch cx (M+2) b 125 [iX v,iX w] h=some (.sc (.int .i64 (bif p then(bif q then c else-1)else 1)),h):=by
 have WY:=mm v w;refine eR f125 [.tmp 4] WY rfl ?_ b h;clear WY;cases v with
 |mk k n d s z l=>
  cases w with
  |mk k' n' d' s' z' l'=>
   rw[eI]at hv ho|-;rw[eI]at hw ho|-;generalize eG z l=L at hv ho;generalize eG z' l'=L' at hw ho;cases p<;>cases q<;>simp at hpq
   .simp[f125,hv,hw]
   .simp[f125,hv,hw]
   .have yn:=ho rfl rfl;simp[f125,hv,hw,yn]
def KF(M:Nat)(v w:V)(b:Bool)(h:Hp)(c1 c2 c3 c4 c5:Int)(hv:∀b h,ch cx (M+1) b 220 [iX v] h=some ((false:AV),h))(hw:∀b h,ch cx (M+1) b 220 [iX w] h=some ((false:AV),h))(h1:∀b h,ch cx (M+1) b 98 [v.k,w.k] h=some ((c1:AV),h))(h2:∀b h,ch cx (M+1) b 98 [v.n,w.n] h=some ((c2:AV),h))(h3:∀b h,ch cx (M+1) b 98 [v.d,w.d] h=some ((c3:AV),h))(h4:∀b h,ch cx (M+1) b 99 [v.s,w.s] h=some ((c4:AV),h))(hl:∀b h,ch cx (M+1) b 222 [eG v.isNil v.l,eG w.isNil w.l,.fn 125 []] h=some ((c5:AV),h)):
 ch cx (M+2) b 125 [iX v,iX w] h=some (.sc (.int .i64 (sN [c1,c2,c3,c4,c5])),h):=by
 have WY:=mm v w;refine eR f125 [.tmp 4] WY rfl ?_ b h;clear WY;cases v with
 |mk k n d s z l=>
  cases w with
  |mk k' n' d' s' z' l'=>
   simp only[V.k,V.n,V.d,V.s,V.l,V.isNil]at h1 h2 h3 h4 hl;rw[eI]at hv|-;rw[eI]at hw|-;have hL:(∃r,eG z l= .ls 5 r z)\/eG z l=():=(fI z l).elim (λe=> .inr e.2) (λe=> .inl ⟨_,e⟩);have eW:(∃r,eG z' l'= .ls 5 r z')\/eG z' l'=():=(fI z' l').elim (λe=> .inr e.2) (λe=> .inl ⟨_,e⟩);generalize eG z l=L at hv hl hL;generalize eG z' l'=L' at hw hl eW;have j9:=λb=>Kz M b [.row [k,n,d,s,L],.row [k',n',d',s',L'],.row [c1,c2,c3,c4,c5]] 2 5 [c1,c2,c3,c4,c5] rfl rfl (by simp)
   generalize sN [c1,c2,c3,c4,c5]=o at j9;rcases hL with⟨r,rfl⟩|rfl<;>rcases eW with⟨r',rfl⟩|rfl<;>simp[f125,hv,hw,h1,h2,h3,h4,hl,j9]
def Hc :∀(D:Nat)(v w:V),gS v<=D->gS w<=D->jK v->jK w->∀N,Fb (N+2*D+7) v w:=by
 intro D
 induction D with
 |zero=>intro v w h;have:=kS v;omega
 |succ D ih=>
  intro v w dv dw bv bw N b h;have hl:=zT (N+2*D+7) v.isNil w.isNil v.l w.l (lh bv).1 (lh bw).1 (λx hx y hy=>ih x y (ql dv x hx) (ql dw y hy) ((lh bv).2 x hx) ((lh bw).2 y hy) N);have hv:=λb h=>nY (N+2) (D+1) v dv bv b h
  have hw:=λb h=>nY (N+2) (D+1) w dw bw b h
  rw[show N+2+2*(D+1)+4=N+2*D+7+1 by omega]at hv hw;rw[show N+2*(D+1)+7=N+2*D+7+2 by omega];by_cases hn:jo v=false/\jo w=false
  .rw[hn.1]at hv;rw[hn.2]at hw;have:=KF (N+2*D+7) v w b h _ _ _ _ _ hv hw (λb h=>gT (N+2*D+6) b _ _ h) (λb h=>gT (N+2*D+6) b _ _ h) (λb h=>gT (N+2*D+6) b _ _ h) (λb h=>kg (N+2*D+6) b _ _ h) hl;simp only[iX]at this;rw[this,Bd v w,hn.1,hn.2];rfl
  .have:=KE (N+2*D+7) v w b h (mg v w) (jo v) (jo w) hv hw (λov ow b h=>by
    have:=Hb (D+1) v w dv dw bv bw ov ow N b h;rw[show N+2*(D+1)+6=N+2*D+7+1 by omega]at this;exact this) hn
   simp only[iX]at this;rw[this,Bd v w];cases hp:jo v<;>cases hq:jo w
   .exact absurd ⟨hp,hq⟩ hn
   .rfl
   .rfl
   .simp only[cond_true]
def Fg(p:Pr):LA:=[.sc (.int .i64 p.k),.sc (.string p.n),.sc (.string p.y)]++enc p.v
end
end Go.Proofs.YtmfohnojaginjaaGreatDoor
namespace Go.Proofs.YtmfohnojaginjaaGreatDoor
open Go Go.Ae Go.ChangeShapes Go.WideShapes Go.Proofs.Tryz
def Be :prog.cellsOf 73=5:=by kernel_rfl
def nd :prog.cellsOf 3=1:=by kernel_rfl
def v_ :prog.cellsOf 9=1:=by kernel_rfl
def ac3 :prog.cellsOf 71=1:=by kernel_rfl
def RV(w:World)(cs:List Value)(v:V):Prop:=cs.length=5/\∀(j:Nat)(y:AV),(enc v)[j]?=some y->(cs.getD j undef).oneCell'=true/\Ri w dR (cs.getD j undef) y
def ME{p:Nat->V->Prop}:∀n,(∀i,i<n->∃x,p i x)->∃l:List V,l.length=n/\∀i v,l[i]?=some v->p i v
 |0,_=>⟨[],rfl,by simp⟩
 |
  n+1,h=>by
  obtain⟨l,hl,hp⟩:=ME n λi hi=>h i (by omega)
  obtain⟨x,hx⟩:=h n (by omega);refine⟨l++[x],by simp[hl],λi v hv=>?_⟩;by_cases hi:i<n
  .rw[Zd (by omega)]at hv;exact hp i v hv
  .have dm:=(Za.1 hv).1;simp at dm;obtain rfl:i=n:=by omega
   rw[Zf (by omega),hl]at hv;simp at hv;subst hv;exact hx
def MF{D:Nat}:∀{l:List V},(∀x∈l,gS x<=D)->G6 l<=D
 | [],_=>by simp[G6]
 |
  x::xs,h=>by
  have h1:=h x (by simp);have h2:=MF λy hy=>h y (List.mem_cons_of_mem _ hy)
  rw[G6];omega
def jf{n:Nat}(h:n<=reachBytes):n<=1000000000000000:=by unfold reachBytes at h;omega
def ac4 :prog.bytesOf 73=64:=by kernel_rfl
def C6{H:Type}(a b c d e:DataW H):(DataW.agg [a,b,c,d,e]).weights prog 73=a.weights prog 3++(b.weights prog 3++(c.weights prog 3++(d.weights prog 9++(e.weights prog 71++[])))):=by
 rw[DataW.weights,underlying73];rfl
def Bf{H:Type}(es sp:List (DataW H)):(DataW.slice es sp).weights prog 71=(es.length+sp.length)*64::(DataW.weightsAll prog 73 es++DataW.weightsAll prog 73 sp):=by
 rw[DataW.weights,underlying71,<-ac4]
def tx{H:Type}{e:TypeId}{d:DataW H}{m:Nat}(hm:m∈d.weights prog e):∀{l:List (DataW H)},d∈l->m∈DataW.weightsAll prog e l
 |
  x::l,h=>by
  rw[DataW.weightsAll];rcases Yw.1 h with rfl|h
  .exact List.mem_append_left _ hm
  .exact Zk _ (tx hm h)
def Fits{H:Type}(t:TypeId)(d:DataW H):Prop:=∀m∈d.weights prog t,m<=reachBytes
section
variable {H : Type} {en : TypeId × Value -> H} {w : World} {held : Bool}
def OD{a:Addr}{cap:Nat}{l:List V}(hl:l.length<=cap)(hm:cap<=maxLen)(hp:∀(i:Nat)(v:V),l[i]?=some v->∃cs,w.cells? 0 (a.add (i*5)) 5=some cs/\RV w cs v):Ri w dR (.slice (some a) l.length cap) (.ls 5 (ef l) false):=by
 cases pg:l with
 |nil=>exact .le _ _ _ _ hm (by simp)
 |cons v0 l0=>
  rw[<-pg];obtain⟨XY,u_,_⟩:=hp 0 v0 (by rw[pg];rfl);obtain⟨_,WZ,hg0⟩:=World.cells?_some u_;have h00:=hg0 0 (by omega);rw[Nat.zero_mul,Go.Deep.add_add,Zb (by omega)]at h00;obtain⟨b,o,sp⟩:=a;have h0:w.cell? ⟨b,o,sp⟩=some XY[0]:=h00;unfold World.cell? at h0;cases hb:w.heap[b]? with
  |none=>rw[hb]at h0;cases h0
  |some ob=>
   rw[hb]at h0;cases ob<;>simp only[reduceCtorEq]at h0;rename_i cF t fz;cases sp with
   |some q=>simp at h0
   |
    none=>
    have at':∀k,w.cell? ⟨b,o+k,none⟩=cF[o+k]?:=λk=>by unfold World.cell?;rw[hb];rfl
    have ac5:∀k,(Addr.mk b o none).add k=⟨b,o+k,none⟩:=λk=>by
     unfold Addr.add;by_cases hk:k=0
     .subst hk;simp
     .simp[hk]
    have key:∀(i:Nat)(row:LA)(j:Nat)(x:AV),(ef l)[i]?=some row->row[j]?=some x->cF[o+i*5+j]?=some (cF.getD (o+i*5+j) undef)/\(cF.getD (o+i*5+j) undef).oneCell'=true/\Ri w dR (cF.getD (o+i*5+j) undef) x:=by
     intro i row j x hi hj;rw[gh]at hi;cases hv:l[i]? with
     |none=>rw[hv]at hi;cases hi
     |some v=>
      rw[hv]at hi;simp only[Yx,Zc]at hi;subst hi;have hj5:j<5:=by have:=(Za.1 hj).1;rwa [dB]at this
      obtain⟨cs,hc,hn,hr⟩:=hp i v hv;obtain⟨_,_,hg⟩:=World.cells?_some hc;have h1:=hg j hj5;rw[Go.Deep.add_add,ac5,at',Zb (by omega)]at h1;have e:cF.getD (o+i*5+j) undef=cs.getD j undef:=by
       rw[Zr,Nat.add_assoc,h1,Yl,Zb (by omega)]
      rw[e,Nat.add_assoc,h1,Yl,Zb (by omega)];have:=hr j x hj;rw[Yl,Zb (by omega)]at this;exact⟨rfl,this.1,this.2⟩
    refine .ls b o l.length cap 5 (ef l) false (λi j=>cF.getD (o+i*5+j) undef) cF t fz (λh=>h) hb (dI l) hl hm (by simp) ?_ (λi row j x hi hj=>⟨(key i row j x hi hj).1,(key i row j x hi hj).2.1⟩) (λi row j x hi hj=>(key i row j x hi hj).2.2);intro i row hi;rw[gh]at hi;cases hv:l[i]? with
    |none=>rw[hv]at hi;cases hi
    |some v=>
     rw[hv]at hi;simp only[Yx,Zc]at hi;rw[<-hi,dB]
end
end Go.Proofs.YtmfohnojaginjaaGreatDoor
