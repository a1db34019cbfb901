/- Part of the proof. -/
import Derived.Test.YtmocfjnklfpnbaaGreatDoorP10
import Derived.Deep.Slices
import GoSem.ClaimJoined
set_option linter.all false
set_option maxHeartbeats 8000000
set_option maxRecDepth 100000
namespace Go.Proofs.YtmocfjnklfpnbaaGreatDoor
open Go Go.Ae Go.Proofs.Tryz
section
attribute [local simp] ew cF eY
def sV{f:FuncId}{args ys:LA}{n:Nat}{r:AV}{b:Bool}{h:Hp}(hs:cx.vc f=none)(hi:cx.inl f=false)(ha:args.mapM (da h 8)=some ys)(hc:ys.all calm=true)(hr:sT r=true)(cW:cu cx (n+1) b f ys h=some (r,h)):cu cx (n+1) b f args h=some (r,h):=by
 have e:ys.mapM (da h 8)=some ys:=sW (n:=6) hc;simp only[cu,hs,hi,Yl,if_false,e,hc,Bool.true_or,if_true,ha]at cW|-;split at cW
 .rename_i r0 h0;simp only[Zc,Zg,and_true]at cW;subst cW;simp only[hr,Bool.or_true,if_true]
 .cases cW
def MN{h:Hp}{id:Nat}{xs:List Int}(hx:h[id]?=some (.row (xs.map λx=> .sc (.int .i64 x)))):da h 8 (.sl id 1 0 xs.length false)=some (.ls 1 (xs.map λx=> [.sc (.int .i64 x)]) false):=by
 have e:∀l:List Int,(l.map λx=>AV.sc (.int .i64 x)).mapM (da h 7)=some (l.map λx=>AV.sc (.int .i64 x)):=by
  intro l
  induction l with
  |nil=>rfl
  |cons x l ih=>rw[Yn,Zo,ih];rfl
 have e2:((xs.map λx=>AV.sc (.int .i64 x)).drop 0).take (xs.length*1)=xs.map λx=>AV.sc (.int .i64 x):=by
  rw[Yd,Yy (by simp)]
 have e3:0+xs.length*1<=(xs.map λx=>AV.sc (.int .i64 x)).length:=by simp
 simp only[da,gu,hx,e3,if_true,e2,e,Yw,Zc,AV.ls.injEq,true_and,and_true];apply List.ext_getElem?;intro i;by_cases hi:i<xs.length
 .simp only[Zs,Yz hi,Zb hi,Yw,Nat.mul_one];rw[Zm (by simpa using hi)];simp
 .simp[hi]
def Jp(n:Nat)(b:Bool)(h:Hp)(id k:Nat)(xs:List Int)(hk:k=xs.length)(hx:h[id]?=some (.row (xs.map λx=> .sc (.int .i64 x))))(hl:xs.length<=10^6):cu cx (n+1) b 36 [.sl id 1 0 k false] h=some (.sc (.int .i64 (rj xs)),h):=by
 subst hk;refine sV (ys:=[.ls 1 (xs.map λx=> [.sc (.int .i64 x)]) false]) rfl (by kernel_rfl) ?_ rfl rfl (aaT n b xs false h hl);rw[Zo,MN hx];rfl
def Ee(N:Nat)(v w:V):Prop:=∀b h,cu cx N b 74 [.ag (enc v),.ag (enc w)] h=some (.sc (.int .i64 (kE v w)),h)
def yD(N:Nat)(z z':Bool)(l m:List V)(hl:l.length<=1000000000000000)(hm:m.length<=1000000000000000)(ho:∀x∈l,∀y∈m,Ee N x y)(b:Bool)(h:Hp):
 cu cx (N+1) b 75 [gY z l,gY z' m,.fn 74 []] h=some (.sc (.int .i64 (jz l m)),h):=by
 have hc:[gY z l,gY z' m,.fn 74 []].all calm=true:=by rw[Zn,Zn,lH,lH];rfl
 refine fU f75 [.tmp 6] hc rfl ?_ b h;clear hc;have hL:=nA z l;have je:=nA z' m;generalize gY z l=L at hL;generalize gY z' m=L' at je;have hq:=dS l;have hg:=jA l;have vf:=dS m;have I7:=jA m;generalize fj l=cq at hq hg hL;generalize fj m=rows' at vf I7 je;rcases hL with hL|⟨hL,hz⟩
 .subst hL;simp[f75,hq];refine ve
   (λi s _=>i<=m.length/\jz l m=vy l m i/\s.length=39/\gt s 0= .ls 5 cq z/\gt s 1=L'/\gt s 2= .fn 74 []/\gt s 11= .ls 5 cq z/\gt s 12=l.length/\gt s 13=i)
   (λo s _=>s.length=39/\((o= .exit 0/\l.length<=m.length/\jz l m=eO l.length m.length/\gt s 0= .ls 5 cq z/\gt s 1=L')\/(o= .ret/\gt s 6= .sc (.int .i64 (jz l m))))) l.length (by simp;omega) (by simp[uo]) ?_ ?_
  .rintro i fr h cP ⟨wV,pI,cp,h0,h1,h2,uu,sX,tW⟩;by_cases hi:i<l.length
   .obtain⟨x,hx⟩:=eA hi;have hr:cq[i]?=some (enc x):=by rw[hg,hx];rfl
    have cC:=gA hr
    by_cases hj:i<m.length
    .rcases je with je|⟨je,hz⟩
     .subst je;obtain⟨y,hy⟩:=eA hj;have oL:rows'[i]?=some (enc y):=by rw[I7,hy];rfl
      have rm:=gA oL
      have cW:=ho x (Zi hx) y (Zi hy);unfold Ee at cW;rw[uq hx hy]at pI;have hf:dA .i64 ((i:Int)+1)=((i+1:Nat):Int):=cK (by omega) (by omega);have CC:¬(m.length<=i):=by omega
      generalize kE x y=c at cW pI;cases x with
      |mk k n d s zx lx=>
       cases y with
       |mk k' n' d' s' zy ly=>
        simp only[enc]at hr cC oL rm cW;generalize zT zx (fj lx)=X at hr cC cW;generalize zT zy (fj ly)=Y at oL rm cW;by_cases rO:c=0
        .subst rO;rw[cw rfl]at pI;simp[cp,h0,h1,h2,uu,sX,tW,hi,hj,CC,hq,vf,cC,rm,cW,hf];exact⟨by omega,pI⟩
        .rw[cv rO]at pI;simp[cp,h0,h1,h2,uu,sX,tW,hi,hj,CC,hq,vf,cC,rm,cW,rO,pI]
     .omega
    .have hz:=nz l m i (by omega) (by omega) (by omega);rw[<-pI]at hz;have hz1:jz l m=1:=by rw[hz];unfold eO;rw[cv (by omega),cw (by omega)]
     have CC:m.length<=i:=by omega
     cases x with
     |mk k n d s zx lx=>
      simp only[enc]at hr cC;generalize zT zx (fj lx)=X at hr cC;rcases je with je|⟨je,hz'⟩
      .subst je;simp[cp,h0,h1,uu,sX,tW,hi,CC,hq,vf,cC,hz1]
      .subst je;obtain rfl:i=0:=by omega
       simp[cp,h0,h1,uu,sX,tW,hi,hq,cC,hz1]
   .have hz:=nz l m i (by omega) (by omega) (by omega);rw[<-pI]at hz;simp[cp,h0,h1,sX,tW,hi,hz];omega
  .rintro o fr h hn ⟨cp,⟨rfl,hlm,hz,h0,h1⟩|⟨rfl,h2⟩⟩
   .rw[hz];unfold eO;by_cases hc:(l.length:Int)<m.length
    .rcases je with je|⟨je,e'⟩
     .subst je;simp[cp,h0,h1,hq,vf,show l.length<m.length by omega]
     .omega
    .rcases je with je|⟨je,e'⟩
     .subst je;simp[cp,h0,h1,hq,vf,show¬l.length<m.length by omega,show¬m.length<l.length by omega]
     .subst je;simp[cp,h0,h1,hq,e',show l.length=0 by omega]
   .simp[h2]
 .subst hL;have ki:l=[]:=Zl hz;subst ki;simp[f75];refine ve
   (λi s _=>i=0/\s.length=39/\gt s 0=()/\gt s 1=L'/\gt s 12=(0:Int)/\gt s 13=(0:Int))
   (λo s _=>s.length=39/\o= .exit 0/\gt s 0=()/\gt s 1=L') 0 (by simp) (by simp) ?_ ?_
  .rintro i fr h cP ⟨rfl,cp,h0,h1,sX,tW⟩;simp[cp,h0,h1,sX,tW]
  .rintro o fr h hn ⟨cp,rfl,h0,h1⟩;have pI:jz [] m=if 0<m.length then-1 else 0:=by cases m<;>simp[jz]
   rw[pI];rcases je with je|⟨je,e'⟩
   .subst je;by_cases F2:0<m.length
    .simp[cp,h0,h1,vf,F2]
    .simp[cp,h0,h1,vf,F2]
   .subst je;simp[cp,h0,h1,e']
def Ef(N:Nat)(v w:V):Prop:=∀b h,cu cx N b 39 [.ag (enc v),.ag (enc w)] h=some (.sc (.int .i64 (kE v w)),h)
def yE(N:Nat)(z z':Bool)(l m:List V)(hl:l.length<=1000000000000000)(hm:m.length<=1000000000000000)(ho:∀x∈l,∀y∈m,Ef N x y)(b:Bool)(h:Hp):
 cu cx (N+1) b 75 [gY z l,gY z' m,.fn 39 []] h=some (.sc (.int .i64 (jz l m)),h):=by
 have hc:[gY z l,gY z' m,.fn 39 []].all calm=true:=by rw[Zn,Zn,lH,lH];rfl
 refine fU f75 [.tmp 6] hc rfl ?_ b h;clear hc;have hL:=nA z l;have je:=nA z' m;generalize gY z l=L at hL;generalize gY z' m=L' at je;have hq:=dS l;have hg:=jA l;have vf:=dS m;have I7:=jA m;generalize fj l=cq at hq hg hL;generalize fj m=rows' at vf I7 je;rcases hL with hL|⟨hL,hz⟩
 .subst hL;simp[f75,hq];refine ve
   (λi s _=>i<=m.length/\jz l m=vy l m i/\s.length=39/\gt s 0= .ls 5 cq z/\gt s 1=L'/\gt s 2= .fn 39 []/\gt s 11= .ls 5 cq z/\gt s 12=l.length/\gt s 13=i)
   (λo s _=>s.length=39/\((o= .exit 0/\l.length<=m.length/\jz l m=eO l.length m.length/\gt s 0= .ls 5 cq z/\gt s 1=L')\/(o= .ret/\gt s 6= .sc (.int .i64 (jz l m))))) l.length (by simp;omega) (by simp[uo]) ?_ ?_
  .rintro i fr h cP ⟨wV,pI,cp,h0,h1,h2,uu,sX,tW⟩;by_cases hi:i<l.length
   .obtain⟨x,hx⟩:=eA hi;have hr:cq[i]?=some (enc x):=by rw[hg,hx];rfl
    have cC:=gA hr
    by_cases hj:i<m.length
    .rcases je with je|⟨je,hz⟩
     .subst je;obtain⟨y,hy⟩:=eA hj;have oL:rows'[i]?=some (enc y):=by rw[I7,hy];rfl
      have rm:=gA oL
      have cW:=ho x (Zi hx) y (Zi hy);unfold Ef at cW;rw[uq hx hy]at pI;have hf:dA .i64 ((i:Int)+1)=((i+1:Nat):Int):=cK (by omega) (by omega);have CC:¬(m.length<=i):=by omega
      generalize kE x y=c at cW pI;cases x with
      |mk k n d s zx lx=>
       cases y with
       |mk k' n' d' s' zy ly=>
        simp only[enc]at hr cC oL rm cW;generalize zT zx (fj lx)=X at hr cC cW;generalize zT zy (fj ly)=Y at oL rm cW;by_cases rO:c=0
        .subst rO;rw[cw rfl]at pI;simp[cp,h0,h1,h2,uu,sX,tW,hi,hj,CC,hq,vf,cC,rm,cW,hf];exact⟨by omega,pI⟩
        .rw[cv rO]at pI;simp[cp,h0,h1,h2,uu,sX,tW,hi,hj,CC,hq,vf,cC,rm,cW,rO,pI]
     .omega
    .have hz:=nz l m i (by omega) (by omega) (by omega);rw[<-pI]at hz;have hz1:jz l m=1:=by rw[hz];unfold eO;rw[cv (by omega),cw (by omega)]
     have CC:m.length<=i:=by omega
     cases x with
     |mk k n d s zx lx=>
      simp only[enc]at hr cC;generalize zT zx (fj lx)=X at hr cC;rcases je with je|⟨je,hz'⟩
      .subst je;simp[cp,h0,h1,uu,sX,tW,hi,CC,hq,vf,cC,hz1]
      .subst je;obtain rfl:i=0:=by omega
       simp[cp,h0,h1,uu,sX,tW,hi,hq,cC,hz1]
   .have hz:=nz l m i (by omega) (by omega) (by omega);rw[<-pI]at hz;simp[cp,h0,h1,sX,tW,hi,hz];omega
  .rintro o fr h hn ⟨cp,⟨rfl,hlm,hz,h0,h1⟩|⟨rfl,h2⟩⟩
   .rw[hz];unfold eO;by_cases hc:(l.length:Int)<m.length
    .rcases je with je|⟨je,e'⟩
     .subst je;simp[cp,h0,h1,hq,vf,show l.length<m.length by omega]
     .omega
    .rcases je with je|⟨je,e'⟩
     .subst je;simp[cp,h0,h1,hq,vf,show¬l.length<m.length by omega,show¬m.length<l.length by omega]
     .subst je;simp[cp,h0,h1,hq,e',show l.length=0 by omega]
   .simp[h2]
 .subst hL;have ki:l=[]:=Zl hz;subst ki;simp[f75];refine ve
   (λi s _=>i=0/\s.length=39/\gt s 0=()/\gt s 1=L'/\gt s 12=(0:Int)/\gt s 13=(0:Int))
   (λo s _=>s.length=39/\o= .exit 0/\gt s 0=()/\gt s 1=L') 0 (by simp) (by simp) ?_ ?_
  .rintro i fr h cP ⟨rfl,cp,h0,h1,sX,tW⟩;simp[cp,h0,h1,sX,tW]
  .rintro o fr h hn ⟨cp,rfl,h0,h1⟩;have pI:jz [] m=if 0<m.length then-1 else 0:=by cases m<;>simp[jz]
   rw[pI];rcases je with je|⟨je,e'⟩
   .subst je;by_cases F2:0<m.length
    .simp[cp,h0,h1,vf,F2]
    .simp[cp,h0,h1,vf,F2]
   .subst je;simp[cp,h0,h1,e']
def Jq(M:Nat)(v w:V)(b:Bool)(h:Hp)(y1 y2 c0 g c1 c2 c3 N1 D1 N2 D2:Int)(B1 B2:Bool)(hk:∀b h,cu cx (M+1) b 132 [jq v] h=some ((y1:AV),h))(kD:∀b h,cu cx (M+1) b 132 [jq w] h=some ((y2:AV),h))(hc:∀b h,cu cx (M+1) b 37 [y1,y2] h=some ((c0:AV),h))(Vm:∀b h,cu cx (M+1) b 133 [jq v] h=some (.tp [mE N1 D1,B1],h))(Vn:∀b h,cu cx (M+1) b 133 [jq w] h=some (.tp [mE N2 D2,B2],h))(FD:∀b h,cu cx (M+1) b 134 [mE N1 D1,mE N2 D2] h=some ((g:AV),h))(hs:∀b h,cu cx (M+1) b 38 [v.s,w.s] h=some ((c1:AV),h))(hn:∀b h,cu cx (M+1) b 37 [v.n,w.n] h=some ((c2:AV),h))(hl:∀b h,cu cx (M+1) b 75 [gY v.isNil v.l,gY w.isNil w.l,.fn 74 []] h=some ((c3:AV),h)):
 cu cx (M+2) b 74 [jq v,jq w] h=some (.sc (.int .i64 (if c0=0 then(if y1=2 then g else rj [c1,c2,c3])else c0)),h):=by
 have K3:=l9 v w;refine fU f74 [.tmp 4] K3 rfl ?_ b h;clear K3;cases v with
 |mk k n d s z l=>
  cases w with
  |mk k' n' d' s' z' l'=>
   simp only[V.n,V.s,V.l,V.isNil]at *;simp only[mE]at Vm Vn FD;rw[fJ]at hk Vm|-;rw[fJ]at kD Vn|-;have hL:(∃r,gY z l= .ls 5 r z)\/gY z l=():=(gW z l).elim (λe=> .inr e.2) (λe=> .inl ⟨_,e⟩);have je:(∃r,gY z' l'= .ls 5 r z')\/gY z' l'=():=(gW z' l').elim (λe=> .inr e.2) (λe=> .inl ⟨_,e⟩);generalize gY z l=L at hk Vm hl hL;generalize gY z' l'=L' at kD Vn hl je;have pI:=λb=>Jp M b [.row [k,n,d,s,L],.row [k',n',d',s',L'],.row [c1,c2,c3]] 2 3 [c1,c2,c3] rfl rfl (by simp)
   generalize rj [c1,c2,c3]=o at pI;by_cases h0:c0=0
   .subst h0;by_cases h2:y1=2
    .subst h2;simp[f74,hk,kD,hc,Vm,Vn,FD]
    .rcases hL with⟨r,rfl⟩|rfl<;>rcases je with⟨r',rfl⟩|rfl<;>simp[f74,hk,kD,hc,hs,hn,hl,pI,h2]
   .simp[f74,hk,kD,hc,h0]
def lI{v:V}(h:k_ v=true):0<=v.k/\v.k<=8/\(v.k=3\/v.d=0)/\(v.k=4\/v.s=⟨#[]⟩)/\(v.k=4->v.n=0)/\∀x∈v.l,k_ x=true:=by
 cases v with
 |mk k n d s z l=>
  simp only[k_,V.k,V.n,V.d,V.s,V.l]at *;rw[px]at h;simp only[Zh,Yx,Zy]at h;obtain⟨⟨⟨hd,hs⟩,hl⟩,hk⟩:=h;have yY:k=4\/s=⟨#[]⟩:=hs.imp (λh=>h) (ng s ⟨#[]⟩).1;have hP:∀(l:List V)(e:Bool),vh l e=true->∀x∈l,px x 8=true:=by
   intro l
   induction l with
   |nil=>intro _ _ x hx;cases hx
   |cons y ys ih=>
    intro e he x hx;rw[vh]at he;simp only[Zh]at he;rcases Yv.1 hx with rfl|hx
    .exact F3 (by omega) he.1.2
    .exact ih _ he.2 x hx
  have hLs:∀(l:List V),l.isEmpty=true->∀x∈l,px x 8=true:=λl hl x hx=>by cases l<;>simp at hl;cases hx
  by_cases h0:k=0
  .subst h0;exact⟨by omega,by omega,hd,yY,by omega,hLs l (by simpa using hl)⟩
  by_cases h1:k=1
  .subst h1;exact⟨by omega,by omega,hd,yY,by omega,hLs l (by simpa using hl)⟩
  by_cases h2:k=2
  .subst h2;exact⟨by omega,by omega,hd,yY,by omega,hLs l (by simpa using hl)⟩
  by_cases h3:k=3
  .subst h3;exact⟨by omega,by omega,hd,yY,by omega,hLs l (by simpa using hl)⟩
  by_cases h4:k=4
  .subst h4;simp at hk;exact⟨by omega,by omega,hd,yY,λ_=>hk.1.1,hLs l (by simpa using hl)⟩
  by_cases h5:k=5
  .subst h5;exact⟨by omega,by omega,hd,yY,by omega,hLs l (by simpa using hl)⟩
  by_cases h6:k=6
  .subst h6;exact⟨by omega,by omega,hd,yY,by omega,hLs l (by simpa using hl)⟩
  by_cases h7:k=7
  .subst h7;simp at hk;exact⟨by omega,by omega,hd,yY,by omega,hP l _ hk.2⟩
  by_cases h8:k=8
  .subst h8;simp at hk;refine⟨by omega,by omega,hd,yY,by omega,λx hx=>?_⟩;have:=hk.2;rw[Eg,Yp]at this;exact F3 (by omega) (this x hx)
  simp[h0,h1,h2,h3,h4,h5,h6,h7,h8]at hk
def nR{k:Int}(h0:0<=k)(h8:k<=8):(k=0/\nS k=0/\eZ k=0)\/(k=1/\nS k=1/\eZ k=1)\/(k=2/\nS k=2/\eZ k=2)\/(k=3/\nS k=2/\eZ k=2)\/(k=4/\nS k=4/\eZ k=3)\/(k=5/\nS k=5/\eZ k=4)\/(k=6/\nS k=6/\eZ k=5)\/(k=7/\nS k=9/\eZ k=7)\/(k=8/\nS k=8/\eZ k=6):=by
 have:k=0\/k=1\/k=2\/k=3\/k=4\/k=5\/k=6\/k=7\/k=8:=by omega
 rcases this with rfl|rfl|rfl|rfl|rfl|rfl|rfl|rfl|rfl<;>decide
def Jr{a b c d:Int}(h1:a<b↔c<d)(h2:b<a↔d<c):eO a b=eO c d:=by
 unfold eO;simp only[h1,h2]
def Vt{v w:V}(hv:k_ v=true)(hw:k_ w=true):eO (nS v.k) (nS w.k)=eO (eZ v.k) (eZ w.k):=by
 obtain⟨a1,a2,_⟩:=lI hv;obtain⟨b1,b2,_⟩:=lI hw;have h1:=nR a1 a2;have h2:=nR b1 b2;generalize nS v.k=p1,nS w.k=p2,eZ v.k=q1,eZ w.k=q2 at *;exact Jr (by omega) (by omega)
def Vu{v:V}(hv:k_ v=true):nS v.k=2↔v.k=2\/v.k=3:=by
 obtain⟨a1,a2,_⟩:=lI hv;have h1:=nR a1 a2;generalize nS v.k=p1 at *;omega
def wX(x:Int):eO x x=0:=by unfold eO;rw[cv (by omega),cv (by omega)]
def MO(x:ByteArray):iZ x x=0:=by unfold iZ;rw[l_];rfl
def MP{v w:V}(hv:k_ v=true)(hw:k_ w=true)(hc:eZ v.k=eZ w.k)(hn:¬(v.k=2\/v.k=3)):ri v w=rj [iZ v.s w.s,eO v.n w.n,jz v.l w.l]:=by
 obtain⟨a1,a2,a3,a4,a5,_⟩:=lI hv;obtain⟨b1,b2,b3,b4,b5,_⟩:=lI hw;have h1:=nR a1 a2;have h2:=nR b1 b2;have hk:v.k=w.k:=by
  generalize nS v.k=p1,nS w.k=p2,eZ v.k=q1,eZ w.k=q2 at *;omega
 have hd:v.d=w.d:=by
  have e1:v.d=0:=a3.resolve_left (by omega);have e2:w.d=0:=b3.resolve_left (by omega);rw[e1,e2]
 unfold ri;rw[hk,hd,wX,wX];by_cases h4:v.k=4
 .have e1:=a5 h4;have e2:=b5 (by omega);rw[e1,e2,wX];simp only[rj,if_true]
 .have e1:v.s=⟨#[]⟩:=a4.resolve_left h4;have e2:w.s=⟨#[]⟩:=b4.resolve_left (by omega);rw[e1,e2,MO];simp only[rj,if_true]
def Vv{v w:V}(hv:k_ v=true)(hw:k_ w=true)(h1:v.k=2\/v.k=3)(h3:w.k=2\/w.k=3):wW (pG v) (pH v) (pG w) (pH w)=wW v.n (if v.k=2 then 1 else v.d) w.n (if w.k=2 then 1 else w.d):=by
 simp only[pG,pH,hv,hw,if_true];rcases h1 with e1|e1<;>rcases h3 with e3|e3<;>simp[e1,e3]
def zW(v w:V):kE v w=if k_ v=k_ w then(if k_ w then(if eO (eZ v.k) (eZ w.k)=0 then(if v.k=2\/v.k=3 then wW v.n (if v.k=2 then 1 else v.d) w.n (if w.k=2 then 1 else w.d)else ri v w)else eO (eZ v.k) (eZ w.k))else ri v w)else if k_ w then 1 else-1:=by
 cases v;rw[kE];rfl
def F4 :∀(D:Nat)(v w:V),kj v<=D->kj w<=D->oK v->oK w->k_ v=true->k_ w=true->∀N,Ee (N+2*D+6) v w:=by
 intro D
 induction D with
 |zero=>intro v w h;have:=qq v;omega
 |succ D ih=>
  intro v w dv dw bv bw ov ow N b h;obtain⟨_,_,_,_,_,vl⟩:=lI ov;obtain⟨_,_,_,_,_,wl⟩:=lI ow;have hl:=yD (N+2*D+6) v.isNil w.isNil v.l w.l (pJ bv).1 (pJ bw).1 (λx hx y hy=>ih x y (xS dv x hx) (xS dw y hy) ((pJ bv).2 x hx) ((pJ bw).2 y hy) (vl x hx) (wl y hy) N);have nv:=λb h=>zU N (D+1) v dv bv b h
  have nw:=λb h=>zU N (D+1) w dw bw b h
  rw[show N+2*(D+1)+5=N+2*D+6+1 by omega]at nv nw;have:=Jq (N+2*D+6) v w b h _ _ _ _ _ _ _ _ _ _ _ _ _ (λb h=>CK _ b v h) (λb h=>CK _ b w h) (λb h=>lA (N+2*D+5) b _ _ h) nv nw
   (λb h=>Qj (N+2*D+3) b _ _ _ _ h) (λb h=>oN (N+2*D+5) b _ _ h) (λb h=>lA (N+2*D+5) b _ _ h) hl
  rw[show N+2*(D+1)+6=N+2*D+6+2 by omega];simp only[jq]at this;rw[this,zW v w,ov,ow];simp only[if_true,Vt ov ow,Vu ov];by_cases h0:eO (eZ v.k) (eZ w.k)=0
  .simp only[h0,if_true];have gI:=h0;unfold eO at gI;have aaU:eZ v.k=eZ w.k:=by(repeat' split at gI)<;>omega
   by_cases h1:v.k=2\/v.k=3
   .have h3:w.k=2\/w.k=3:=by
     obtain⟨b1,b2,_⟩:=lI ow;obtain⟨a1,a2,_⟩:=lI ov;have r1:=nR a1 a2;have r2:=nR b1 b2;generalize nS v.k=p1,nS w.k=p2,eZ v.k=q1,eZ w.k=q2 at *;omega
    simp only[h1,if_true,Vv ov ow h1 h3]
   .simp only[h1,if_false,MP ov ow aaU h1]
  .simp only[h0,if_false]
end
structure mF {α:Type}(P:α->Prop)(f:α->α->Int):Prop where
 neg:∀a b,P a->P b->f a b= -(f b a)
 tr:∀a b c,P a->P b->P c->f a b<=0->f b c<=0->f a c<=0
def nT{α:Type}(f g:α->α->Int)(a b:α):Int:=if f a b=0 then g a b else f a b
def mF.zeros{α:Type}{P:α->Prop}{f:α->α->Int}(hf:mF P f){a b c:α}(ha:P a)(hb:P b)(hc:P c)(h1:f a b<=0)(h2:f b c<=0):f a c<0\/f a c=0/\f a b=0/\f b c=0:=by
 have h3:=hf.tr a b c ha hb hc h1 h2;by_cases e:f a c=0
 .right;have e1:=hf.neg c a hc ha;have e2:=hf.tr b c a hb hc ha h2 (by omega);have e3:=hf.tr c a b hc ha hb (by omega) h1;have e4:=hf.neg a b ha hb;have e5:=hf.neg b c hb hc;omega
 .left;omega
def Eh{f g:Int}(h:(if f=0 then g else f)<=0):f<=0/\(f=0->g<=0):=by
 by_cases e:f=0
 .rw[cw e]at h;exact⟨by omega,λ_=>h⟩
 .rw[cv e]at h;exact⟨h,λq=>absurd q e⟩
def mF.lex{α:Type}{P:α->Prop}{f g:α->α->Int}(hf:mF P f)(MQ:∀a b,P a->P b->f a b=0->g a b= -(g b a))(hg:∀a b c,P a->P b->P c->f a b=0->f b c=0->f a c=0->g a b<=0->g b c<=0->g a c<=0):mF P (nT f g):={
 neg:=λa b ha hb=>by
  have e:=hf.neg a b ha hb;unfold nT;by_cases h:f a b=0
  .rw[cw h,cw (by omega)];exact MQ a b ha hb h
  .rw[cv h,cv (by omega)];exact e
 tr:=λa b c ha hb hc h1 h2=>by
  unfold nT at *;obtain⟨a1,a2⟩:=Eh h1;obtain⟨b1,b2⟩:=Eh h2;rcases hf.zeros ha hb hc a1 b1 with h|⟨h,h',h''⟩
  .rw[cv (by omega)];omega
  .rw[cw h];exact hg a b c ha hb hc h' h'' h (a2 h') (b2 h'')}
def mF.lex'{α:Type}{P:α->Prop}{f g:α->α->Int}(hf:mF P f)(hg:mF P g):mF P (nT f g):=
 hf.lex (λa b ha hb _=>hg.neg a b ha hb) λa b c ha hb hc _ _ _=>hg.tr a b c ha hb hc
def mF.map{α β:Type}{P:α->Prop}{Q:β->Prop}{f:β->β->Int}(hf:mF Q f)(k:α->β)(h:∀a,P a->Q (k a)):mF P (λa b=>f (k a) (k b)):=
 ⟨λa b ha hb=>hf.neg _ _ (h a ha) (h b hb),λa b c ha hb hc=>hf.tr _ _ _ (h a ha) (h b hb) (h c hc)⟩
def mF.yz{α:Type}{P Q:α->Prop}{f:α->α->Int}(hf:mF Q f)(h:∀a,P a->Q a):mF P f:=hf.map (λa=>a) h
def pL{x y:Int}:eO x y=0↔x=y:=by unfold eO;(repeat' split)<;>omega
def zX(P:Int->Prop):mF P eO:=
 ⟨λa b _ _=>by unfold eO;(repeat' split)<;>omega,λa b c _ _ _=>by unfold eO;(repeat' split)<;>omega⟩
def MR{x y:ByteArray}:iZ x y=0↔x=y:=by
 constructor
 .intro h;unfold iZ at h;cases h1:nO x y with
  |true=>rw[h1]at h;cases h
  |
   false=>
   cases h2:dn x y with
   |true=>exact(ng x y).1 h2
   |false=>rw[h1,nB h1 h2]at h;cases h
 .rintro rfl;simp[iZ,l_]
def uv(x y:ByteArray):(iZ x y= -1/\nO x y=true)\/(iZ x y=0/\x=y)\/(iZ x y=1/\nO y x=true):=by
 cases h1:nO x y with
 |true=>left;simp[iZ,h1]
 |
  false=>
  cases h2:dn x y with
  |true=>right;left;exact⟨MR.2 ((ng x y).1 h2),(ng x y).1 h2⟩
  |false=>right;right;have:=nB h1 h2;simp[iZ,h1,this]
def Js(P:ByteArray->Prop):mF P iZ:=by
 refine⟨λa b _ _=>?_,λa b c _ _ _ h1 h2=>?_⟩
 .rcases uv a b with⟨e,h⟩|⟨e,rfl⟩|⟨e,h⟩
  .have h':=CL h;rw[e];simp[iZ,h,h']
  .rw[e];rfl
  .rw[e];simp[iZ,h]
 .rcases uv a b with⟨e,h⟩|⟨e,rfl⟩|⟨e,h⟩
  .rcases uv b c with⟨e',h'⟩|⟨e',rfl⟩|⟨e',h'⟩
   .have:=CM h h';simp[iZ,this]
   .omega
   .omega
  .exact h2
  .omega
def Qk(x:Int):jb (-x)= -(jb x):=by unfold jb;(repeat' split)<;>omega
def Vw{x:Int}:jb x<=0↔x<=0:=by unfold jb;(repeat' split)<;>omega
def aaV :mF (λq:Int × Int=>0<q.2) (λp q=>jb (p.1*q.2-q.1*p.2)):=by
 refine⟨λa b _ _=>?_,λa b c ha hb hc h1 h2=>?_⟩
 .rw[<-Qk];congr 1;omega
 .rw[Vw]at *;have e1:a.1*b.2*c.2<=b.1*a.2*c.2:=Xb (by omega) (by omega);have e2:b.1*c.2*a.2<=c.1*b.2*a.2:=Xb (by omega) (by omega);have e3:b.1*a.2*c.2=b.1*c.2*a.2:=by rw[Int.mul_assoc,Int.mul_assoc,Int.mul_comm a.2]
  have e4:a.1*b.2*c.2=a.1*c.2*b.2:=by rw[Int.mul_assoc,Int.mul_assoc,Int.mul_comm b.2]
  have e5:c.1*b.2*a.2=c.1*a.2*b.2:=by rw[Int.mul_assoc,Int.mul_assoc,Int.mul_comm b.2]
  have e6:a.1*c.2*b.2<=c.1*a.2*b.2:=by omega
  have:=Int.le_of_mul_le_mul_right e6 hb;omega
def aaW{P:V->Prop}(hf:mF P kE):mF (λl:List V=>∀x∈l,P x) jz:=by
 have key:∀(a b:List V),(∀x∈a,P x)->(∀x∈b,P x)->jz a b= -(jz b a):=by
  intro a
  induction a with
  |nil=>intro b _ _;cases b<;>simp[jz]
  |cons x xs ih=>
   intro b ha hb;cases b with
   |nil=>simp[jz]
   |cons y ys=>
    have e:=hf.neg x y (ha x (by simp)) (hb y (by simp));simp only[jz];by_cases h:kE x y=0
    .rw[cw h,cw (by omega)];exact ih ys (λz hz=>ha z (by simp[hz])) (λz hz=>hb z (by simp[hz]))
    .rw[cv h,cv (by omega)];exact e
 refine⟨λa b ha hb=>key a b ha hb,λa=>?_⟩
 induction a with
 |
  nil=>
  intro b c _ _ _ _ _;cases c<;>simp[jz]
 |cons x xs ih=>
  intro b c ha hb hc h1 h2;cases b with
  |nil=>simp[jz]at h1
  |cons y ys=>
   cases c with
   |nil=>simp[jz]at h2
   |cons z zs=>
    simp only[jz]at h1 h2|-;obtain⟨a1,a2⟩:=Eh h1;obtain⟨b1,b2⟩:=Eh h2;rcases hf.zeros (ha x (by simp)) (hb y (by simp)) (hc z (by simp)) a1 b1 with h|⟨h,h',h''⟩
    .rw[cv (by omega)];omega
    .rw[cw h];exact ih ys zs (λq hq=>ha q (by simp[hq])) (λq hq=>hb q (by simp[hq])) (λq hq=>hc q (by simp[hq])) (a2 h') (b2 h'')
def Ql(v:V):Int:=if k_ v then eZ v.k else 100
def K4(v:V):Int × Int:=(gD v.n (if v.k=2 then 1 else v.d),jM v.n (if v.k=2 then 1 else v.d))
def K5(k:Int):0<=eZ k/\eZ k<=7:=by unfold eZ;(repeat' split)<;>omega
def Qm{k:Int}:eZ k=2↔k=2\/k=3:=by unfold eZ;(repeat' split)<;>omega
def Vx(v w:V):kE v w=if k_ v=k_ w then(if k_ w then(if eO (eZ v.k) (eZ w.k)=0 then(if v.k=2\/v.k=3 then wW v.n (if v.k=2 then 1 else v.d) w.n (if w.k=2 then 1 else w.d)else ri v w)else eO (eZ v.k) (eZ w.k))else ri v w)else if k_ w then 1 else-1:=by
 cases v;rw[kE];rfl
def Qn(v w:V):kE v w=nT (λv w=>eO (Ql v) (Ql w)) (λv w=>if Ql v=2 then jb ((K4 v).1*(K4 w).2-(K4 w).1*(K4 v).2)else ri v w) v w:=by
 have rt:∀v,k_ v=true->Ql v=eZ v.k:=λv h=>cw h
 have rf:∀v,k_ v=false->Ql v=100:=λv h=>cv (by rw[h];simp)
 rw[Vx];unfold nT;dsimp only;have h1:=K5 v.k;have h2:=K5 w.k;have h3:=Qm (k:=v.k);cases hv:k_ v<;>cases hw:k_ w
 .simp only[rf v hv,rf w hw,pL.2 rfl,if_true,Yl,if_false];rw[cv (by omega)]
 .simp only[rf v hv,rt w hw,Yl,if_false,if_true];rw[cv (by rw[pL];omega)];unfold eO;rw[cv (by omega),cw (by omega)]
 .simp only[rt v hv,rf w hw,Bool.true_eq_false,Yl,if_false];rw[cv (by rw[pL];omega)];unfold eO;rw[cw (by omega)]
 .simp only[rt v hv,rt w hw,if_true,h3,wW,K4]
def Qo(v w:V):ri v w=nT (λv w=>eO v.k w.k) (nT (λv w=>eO v.n w.n) (nT (λv w=>eO v.d w.d) (nT (λv w=>iZ v.s w.s) (λv w=>jz v.l w.l)))) v w:=by
 simp only[ri,rj,nT]
 (repeat' split)<;>simp_all
def Qp :∀D,mF (λv=>kj v<=D) kE:=by
 intro D
 induction D with
 |zero=>exact⟨λa _ h=>by have:=qq a;omega,λa _ _ h=>by have:=qq a;omega⟩
 |succ D ih=>
  have hL:mF (λv:V=>kj v<=D+1) (λv w=>jz v.l w.l):=(aaW ih).map V.l λv hv=>xS hv
  have hF:mF (λv:V=>kj v<=D+1) ri:=by
   have e:ri=nT (λv w=>eO v.k w.k) (nT (λv w=>eO v.n w.n) (nT (λv w=>eO v.d w.d) (nT (λv w=>iZ v.s w.s) (λv w=>jz v.l w.l)))):=funext λv=>funext λw=>Qo v w
   rw[e];exact((zX λ_=>True).map V.k λ_ _=>trivial).lex' (((zX λ_=>True).map V.n λ_ _=>trivial).lex' (((zX λ_=>True).map V.d λ_ _=>trivial).lex' (((Js λ_=>True).map V.s λ_ _=>trivial).lex' hL)))
  have hN:mF (λv:V=>kj v<=D+1) (λv w=>jb ((K4 v).1*(K4 w).2-(K4 w).1*(K4 v).2)):=aaV.map K4 λv _=>(zY _ _).2.2
  have e:kE=nT (λv w=>eO (Ql v) (Ql w)) (λv w=>if Ql v=2 then jb ((K4 v).1*(K4 w).2-(K4 w).1*(K4 v).2)else ri v w):=funext λv=>funext λw=>Qn v w
  rw[e];refine((zX λ_=>True).map Ql λ_ _=>trivial).lex (λa b ha hb h=>?_) λa b c ha hb hc h1 h2 h3 k1 k2=>?_
  .rw[pL]at h;simp only[<-h];by_cases q:Ql a=2
   .rw[cw q,cw q];exact hN.neg a b ha hb
   .rw[cv q,cv q];exact hF.neg a b ha hb
  .rw[pL]at h1 h3;simp only[<-h1]at k2;by_cases q:Ql a=2
   .rw[cw q]at k1 k2|-;exact hN.tr a b c ha hb hc k1 k2
   .rw[cv q]at k1 k2|-;exact hF.tr a b c ha hb hc k1 k2
def Qq(v w:V):kE v w= -(kE w v):=(Qp (kj v+kj w)).neg v w (by show kj v<=_;omega) (by show kj w<=_;omega)
def Vy(u v w:V)(h1:kE u v<=0)(h2:kE v w<=0):kE u w<=0:=
 (Qp (kj u+kj v+kj w)).tr u v w (by show kj u<=_;omega) (by show kj v<=_;omega) (by show kj w<=_;omega) h1 h2
def Qr :mF (λ_:V=>True) kE:=⟨λa b _ _=>Qq a b,λa b c _ _ _=>Vy a b c⟩
structure Pr where
 k:Int
 n:ByteArray
 y:ByteArray
 v:V
def dx(a b:Pr):Int:=rj [eO a.k b.k,iZ a.n b.n,iZ a.y b.y,kE a.v b.v]
def Qs(a b:Pr):dx a b=nT (λa b=>eO a.k b.k) (nT (λa b=>iZ a.n b.n) (nT (λa b=>iZ a.y b.y) (λa b=>kE a.v b.v))) a b:=by
 simp only[dx,rj,nT]
 (repeat' split)<;>simp_all
def pM :mF (λ_:Pr=>True) dx:=by
 have e:dx=nT (λa b=>eO a.k b.k) (nT (λa b=>iZ a.n b.n) (nT (λa b=>iZ a.y b.y) (λa b=>kE a.v b.v))):=funext λv=>funext λw=>Qs v w
 rw[e];exact((zX λ_=>True).map Pr.k λ_ _=>trivial).lex' (((Js λ_=>True).map Pr.n λ_ _=>trivial).lex' (((Js λ_=>True).map Pr.y λ_ _=>trivial).lex' (Qr.map Pr.v λ_ _=>trivial)))
def nU(a b:Pr):dx a b= -(dx b a):=pM.neg a b trivial trivial
def Ei(a b c:Pr)(h1:dx a b<=0)(h2:dx b c<=0):dx a c<=0:=pM.tr a b c trivial trivial trivial h1 h2
section
attribute [local simp] ew cF eY
def Jt(M:Nat)(v w:V)(b:Bool)(h:Hp)(c:Int)(p q:Bool)(hv:∀b h,cu cx (M+1) b 73 [jq v] h=some ((p:AV),h))(hw:∀b h,cu cx (M+1) b 73 [jq w] h=some ((q:AV),h))(ho:p=true->q=true->∀b h,cu cx (M+1) b 74 [jq v,jq w] h=some ((c:AV),h))(hpq:¬(p=false/\q=false)):
 cu cx (M+2) b 39 [jq v,jq w] h=some (.sc (.int .i64 (bif p then(bif q then c else-1)else 1)),h):=by
 have K3:=l9 v w;refine fU f39 [.tmp 4] K3 rfl ?_ b h;clear K3;cases v with
 |mk k n d s z l=>
  cases w with
  |mk k' n' d' s' z' l'=>
   rw[fJ]at hv ho|-;rw[fJ]at hw ho|-;generalize gY z l=L at hv ho;generalize gY z' l'=L' at hw ho;cases p<;>cases q<;>simp at hpq
   .simp[f39,hv,hw]
   .simp[f39,hv,hw]
   .have lV:=ho rfl rfl;simp[f39,hv,hw,lV]
def Ju(M:Nat)(v w:V)(b:Bool)(h:Hp)(c1 c2 c3 c4 c5:Int)(hv:∀b h,cu cx (M+1) b 73 [jq v] h=some ((false:AV),h))(hw:∀b h,cu cx (M+1) b 73 [jq w] h=some ((false:AV),h))(h1:∀b h,cu cx (M+1) b 37 [v.k,w.k] h=some ((c1:AV),h))(h2:∀b h,cu cx (M+1) b 37 [v.n,w.n] h=some ((c2:AV),h))(h3:∀b h,cu cx (M+1) b 37 [v.d,w.d] h=some ((c3:AV),h))(h4:∀b h,cu cx (M+1) b 38 [v.s,w.s] h=some ((c4:AV),h))(hl:∀b h,cu cx (M+1) b 75 [gY v.isNil v.l,gY w.isNil w.l,.fn 39 []] h=some ((c5:AV),h)):
 cu cx (M+2) b 39 [jq v,jq w] h=some (.sc (.int .i64 (rj [c1,c2,c3,c4,c5])),h):=by
 have K3:=l9 v w;refine fU f39 [.tmp 4] K3 rfl ?_ b h;clear K3;cases v with
 |mk k n d s z l=>
  cases w with
  |mk k' n' d' s' z' l'=>
   simp only[V.k,V.n,V.d,V.s,V.l,V.isNil]at h1 h2 h3 h4 hl;rw[fJ]at hv|-;rw[fJ]at hw|-;have hL:(∃r,gY z l= .ls 5 r z)\/gY z l=():=(gW z l).elim (λe=> .inr e.2) (λe=> .inl ⟨_,e⟩);have je:(∃r,gY z' l'= .ls 5 r z')\/gY z' l'=():=(gW z' l').elim (λe=> .inr e.2) (λe=> .inl ⟨_,e⟩);generalize gY z l=L at hv hl hL;generalize gY z' l'=L' at hw hl je;have pI:=λb=>Jp M b [.row [k,n,d,s,L],.row [k',n',d',s',L'],.row [c1,c2,c3,c4,c5]] 2 5 [c1,c2,c3,c4,c5] rfl rfl (by simp)
   generalize rj [c1,c2,c3,c4,c5]=o at pI;rcases hL with⟨r,rfl⟩|rfl<;>rcases je with⟨r',rfl⟩|rfl<;>simp[f39,hv,hw,h1,h2,h3,h4,hl,pI]
def F5 :∀(D:Nat)(v w:V),kj v<=D->kj w<=D->oK v->oK w->∀N,Ef (N+2*D+7) v w:=by
 intro D
 induction D with
 |zero=>intro v w h;have:=qq v;omega
 |succ D ih=>
  intro v w dv dw bv bw N b h;have hl:=yE (N+2*D+7) v.isNil w.isNil v.l w.l (pJ bv).1 (pJ bw).1 (λx hx y hy=>ih x y (xS dv x hx) (xS dw y hy) ((pJ bv).2 x hx) ((pJ bw).2 y hy) N);have hv:=λb h=>pK (N+2) (D+1) v dv bv b h
  have hw:=λb h=>pK (N+2) (D+1) w dw bw b h
  rw[show N+2+2*(D+1)+4=N+2*D+7+1 by omega]at hv hw;rw[show N+2*(D+1)+7=N+2*D+7+2 by omega];by_cases hn:k_ v=false/\k_ w=false
  .rw[hn.1]at hv;rw[hn.2]at hw;have:=Ju (N+2*D+7) v w b h _ _ _ _ _ hv hw (λb h=>lA (N+2*D+6) b _ _ h) (λb h=>lA (N+2*D+6) b _ _ h) (λb h=>lA (N+2*D+6) b _ _ h) (λb h=>oN (N+2*D+6) b _ _ h) hl;simp only[jq]at this;rw[this,zW v w,hn.1,hn.2];rfl
  .have:=Jt (N+2*D+7) v w b h (kE v w) (k_ v) (k_ w) hv hw (λov ow b h=>by
    have:=F4 (D+1) v w dv dw bv bw ov ow N b h;rw[show N+2*(D+1)+6=N+2*D+7+1 by omega]at this;exact this) hn
   simp only[jq]at this;rw[this,zW v w];cases hp:k_ v<;>cases hq:k_ w
   .exact absurd ⟨hp,hq⟩ hn
   .rfl
   .rfl
   .simp only[cond_true]
def eQ(p:Pr):LA:=[.sc (.int .i64 p.k),.sc (.string p.n),.sc (.string p.y)]++enc p.v
def uw(p:Pr):AV:= .ag (eQ p)
def rT(p:Pr):calm (uw p)=true:=by
 cases p with
 |mk k n y v=>
  cases v with
  |mk k' n' d' s' z' l'=>simp only[uw,eQ,enc,calm,zT];cases z' && (fj l').isEmpty<;>rfl
def CN(p q:Pr):[uw p,uw q].all calm=true:=by rw[Zn,Zn,rT,rT];rfl
def Qt(M:Nat)(p q:Pr)(b:Bool)(h:Hp)(c:Int)(ho:∀b h,cu cx (M+2) b 39 [.ag (enc p.v),.ag (enc q.v)] h=some ((c:AV),h)):
 cu cx (M+3) b 14 [uw p,uw q] h=some (.sc (.int .i64 (rj [eO p.k q.k,iZ p.n q.n,iZ p.y q.y,c])),h):=by
 have K3:=CN p q;refine fU f14 [.tmp 4] K3 rfl ?_ b h;clear K3;have h1:=λb h=>lA M b p.k q.k h
 have h2:=λb h=>oN M b p.n q.n h
 have h3:=λb h=>oN M b p.y q.y h
 generalize eO p.k q.k=c1 at h1;generalize iZ p.n q.n=c2 at h2;generalize iZ p.y q.y=c3 at h3;cases p with
 |mk pk pn py v=>
  cases q with
  |mk qk qn qy w=>
   cases v with
   |mk k n d s z l=>
    cases w with
    |mk k' n' d' s' z' l'=>
     have e1:uw ⟨pk,pn,py,.mk k n d s z l⟩= .ag [pk,pn,py,k,n,d,s,gY z l]:=rfl;have e2:uw ⟨qk,qn,qy,.mk k' n' d' s' z' l'⟩= .ag [qk,qn,qy,k',n',d',s',gY z' l']:=rfl;rw[e1,e2];have e3:enc (.mk k n d s z l)=[.sc (.int .i64 k),.sc (.int .i64 n),.sc (.int .i64 d),.sc (.string s),gY z l]:=rfl;have e4:enc (.mk k' n' d' s' z' l')=[.sc (.int .i64 k'),.sc (.int .i64 n'),.sc (.int .i64 d'),.sc (.string s'),gY z' l']:=rfl;simp only[e3,e4]at ho h1 h2 h3;clear e1 e2 e3 e4;generalize gY z l=L,gY z' l'=L' at ho;have pI:=λb=>Jp (M+1) b [.row [pk,pn,py,k,n,d,s,L],.row [qk,qn,qy,k',n',d',s',L'],.row [c1,c2,c3,c]] 2 4 [c1,c2,c3,c] rfl rfl (by simp)
     generalize rj [c1,c2,c3,c]=o at pI;simp[f14,h1,h2,h3,ho,pI]
def Qu(M:Nat)(p q:Pr)(b:Bool)(h:Hp)(c:Int)(ho:∀b h,cu cx (M+1) b 57 [.ag (enc p.v),.ag (enc q.v)] h=some ((c:AV),h)):
 cu cx (M+2) b 24 [uw p,uw q] h=some (.sc (.int .i64 (rj [eO p.k q.k,iZ p.n q.n,iZ p.y q.y,c])),h):=by
 have K3:=CN p q;refine fU f24 [.tmp 4] K3 rfl ?_ b h;clear K3;have h2:=λb h=>CO M b p.n q.n h
 have h3:=λb h=>CO M b p.y q.y h
 generalize iZ p.n q.n=c2 at h2;generalize iZ p.y q.y=c3 at h3;cases p with
 |mk pk pn py v=>
  cases q with
  |mk qk qn qy w=>
   cases v with
   |mk k n d s z l=>
    cases w with
    |mk k' n' d' s' z' l'=>
     have e1:uw ⟨pk,pn,py,.mk k n d s z l⟩= .ag [pk,pn,py,k,n,d,s,gY z l]:=rfl;have e2:uw ⟨qk,qn,qy,.mk k' n' d' s' z' l'⟩= .ag [qk,qn,qy,k',n',d',s',gY z' l']:=rfl;rw[e1,e2];have e3:enc (.mk k n d s z l)=[.sc (.int .i64 k),.sc (.int .i64 n),.sc (.int .i64 d),.sc (.string s),gY z l]:=rfl;have e4:enc (.mk k' n' d' s' z' l')=[.sc (.int .i64 k'),.sc (.int .i64 n'),.sc (.int .i64 d'),.sc (.string s'),gY z' l']:=rfl;simp only[e3,e4]at ho h2 h3|-;clear e1 e2 e3 e4;generalize gY z l=L,gY z' l'=L' at ho;by_cases k1:pk<qk
     .simp[f24,k1,show¬pk=qk by omega,eO,rj]
     by_cases k2:qk<pk
     .simp[f24,k1,k2,show¬pk=qk by omega,eO,rj]
     obtain rfl:pk=qk:=by omega
     by_cases k3:c2=0
     .subst k3;by_cases k4:c3=0
      .subst k4;simp[f24,h2,h3,ho,eO,rj]
      .simp[f24,h2,h3,k4,eO,rj]
     .simp[f24,h2,k3,eO,rj]
end
end Go.Proofs.YtmocfjnklfpnbaaGreatDoor
namespace Go.Proofs.YtmocfjnklfpnbaaGreatDoor
open Go Go.Ae Go.ChangeShapes Go.WideShapes Go.Proofs.Tryz
def Qv :prog.cellsOf 35=5:=by kernel_rfl
def aaX :prog.cellsOf 3=1:=by kernel_rfl
def aaY :prog.cellsOf 9=1:=by kernel_rfl
def RV(w:World)(cs:List Value)(v:V):Prop:=cs.length=5/\∀(j:Nat)(y:AV),(enc v)[j]?=some y->(cs.getD j undef).oneCell'=true/\Ri w eK (cs.getD j undef) y
def K6{p:Nat->V->Prop}:∀n,(∀i,i<n->∃x,p i x)->∃l:List V,l.length=n/\∀i v,l[i]?=some v->p i v
 |0,_=>⟨[],rfl,by simp⟩
 |
  n+1,h=>by
  obtain⟨l,hl,hp⟩:=K6 n λi hi=>h i (by omega)
  obtain⟨x,hx⟩:=h n (by omega);refine⟨l++[x],by simp[hl],λi v hv=>?_⟩;by_cases hi:i<n
  .rw[Zd (by omega)]at hv;exact hp i v hv
  .have du:=(Za.1 hv).1;simp at du;obtain rfl:i=n:=by omega
   rw[Zf (by omega),hl]at hv;simp at hv;subst hv;exact hx
def K7{D:Nat}:∀{l:List V},(∀x∈l,kj x<=D)->F6 l<=D
 | [],_=>by simp[F6]
 |
  x::xs,h=>by
  have h1:=h x (by simp);have h2:=K7 λy hy=>h y (Yr _ hy)
  rw[F6];omega
def vD{n:Nat}(h:n<=reachBytes):n<=1000000000000000:=by unfold reachBytes at h;omega
def aaZ :prog.bytesOf 35=64:=by kernel_rfl
def Cb{H:Type}(a b c d e:DataW H):(DataW.agg [a,b,c,d,e]).weights prog 35=a.weights prog 3++(b.weights prog 3++(c.weights prog 3++(d.weights prog 9++(e.weights prog 33++[])))):=by
 rw[DataW.weights,underlying35];rfl
def zZ{H:Type}(es sp:List (DataW H)):(DataW.slice es sp).weights prog 33=(es.length+sp.length)*64::(DataW.weightsAll prog 35 es++DataW.weightsAll prog 35 sp):=by
 rw[DataW.weights,underlying33,<-aaZ]
def rU{H:Type}{e:TypeId}{d:DataW H}{m:Nat}(hm:m∈d.weights prog e):∀{l:List (DataW H)},d∈l->m∈DataW.weightsAll prog e l
 |
  x::l,h=>by
  rw[DataW.weightsAll];rcases Yv.1 h with rfl|h
  .exact Zx _ hm
  .exact Zk _ (rU hm h)
def Fits{H:Type}(t:TypeId)(d:DataW H):Prop:=∀m∈d.weights prog t,m<=reachBytes
section
variable {H : Type} {en : TypeId × Value -> H} {w : World} {held : Bool}
def MS{a:Addr}{cap:Nat}{l:List V}(hl:l.length<=cap)(hm:cap<=maxLen)(hp:∀(i:Nat)(v:V),l[i]?=some v->∃cs,w.cells? 0 (a.add (i*5)) 5=some cs/\RV w cs v):Ri w eK (.slice (some a) l.length cap) (.ls 5 (fj l) false):=by
 cases ki:l with
 |nil=>exact .le _ _ _ _ hm (by simp)
 |cons v0 l0=>
  rw[<-ki];obtain⟨ZH,rO,_⟩:=hp 0 v0 (by rw[ki];rfl);obtain⟨_,hn0,hg0⟩:=World.cells?_some rO;have h00:=hg0 0 (by omega);rw[Nat.zero_mul,Go.Deep.add_add,Zb (by omega)]at h00;obtain⟨b,o,sp⟩:=a;have h0:w.cell? ⟨b,o,sp⟩=some ZH[0]:=h00;unfold World.cell? at h0;cases hb:w.heap[b]? with
  |none=>rw[hb]at h0;cases h0
  |some ob=>
   rw[hb]at h0;cases ob<;>simp only[reduceCtorEq]at h0;rename_i cV t fz;cases sp with
   |some q=>simp at h0
   |
    none=>
    have at':∀k,w.cell? ⟨b,o+k,none⟩=cV[o+k]?:=λk=>by unfold World.cell?;rw[hb];rfl
    have aa0:∀k,(Addr.mk b o none).add k=⟨b,o+k,none⟩:=λk=>by
     unfold Addr.add;by_cases hk:k=0
     .subst hk;simp
     .simp[hk]
    have key:∀(i:Nat)(row:LA)(j:Nat)(x:AV),(fj l)[i]?=some row->row[j]?=some x->cV[o+i*5+j]?=some (cV.getD (o+i*5+j) undef)/\(cV.getD (o+i*5+j) undef).oneCell'=true/\Ri w eK (cV.getD (o+i*5+j) undef) x:=by
     intro i row j x hi hj;rw[jA]at hi;cases hv:l[i]? with
     |none=>rw[hv]at hi;cases hi
     |some v=>
      rw[hv]at hi;simp only[Yw,Zc]at hi;subst hi;have hj5:j<5:=by have:=(Za.1 hj).1;rwa [jN]at this
      obtain⟨cs,hc,hn,hr⟩:=hp i v hv;obtain⟨_,_,hg⟩:=World.cells?_some hc;have h1:=hg j hj5;rw[Go.Deep.add_add,aa0,at',Zb (by omega)]at h1;have e:cV.getD (o+i*5+j) undef=cs.getD j undef:=by
       rw[Zr,Nat.add_assoc,h1,Yg,Zb (by omega)]
      rw[e,Nat.add_assoc,h1,Yg,Zb (by omega)];have:=hr j x hj;rw[Yg,Zb (by omega)]at this;exact⟨rfl,this.1,this.2⟩
    refine .ls b o l.length cap 5 (fj l) false (λi j=>cV.getD (o+i*5+j) undef) cV t fz (λh=>h) hb (dS l) hl hm (by simp) ?_ (λi row j x hi hj=>⟨(key i row j x hi hj).1,(key i row j x hi hj).2.1⟩) (λi row j x hi hj=>(key i row j x hi hj).2.2);intro i row hi;rw[jA]at hi;cases hv:l[i]? with
    |none=>rw[hv]at hi;cases hi
    |some v=>
     rw[hv]at hi;simp only[Yw,Zc]at hi;rw[<-hi,jN]
end
end Go.Proofs.YtmocfjnklfpnbaaGreatDoor
namespace Go.Proofs.YtmocfjnklfpnbaaGreatDoor
open Go Go.Ae Go.Proofs.Tryz
section
attribute [local simp] ew cF eY
def Small(x:Int):Prop:= -1<=x/\x<=1
end
end Go.Proofs.YtmocfjnklfpnbaaGreatDoor
