/- Part of the proof. -/
import Derived.Test.YtmocfjnklfpnbaaGreatDoorP14
set_option linter.all false
set_option maxHeartbeats 32000000
set_option maxRecDepth 100000
namespace Go.Proofs.YtmocfjnklfpnbaaGreatDoor
open Go Go.Ae Go.Proofs.Tryz
section
attribute [local simp] ew cF eY
def nrI(x:Int):LA:=[.sc (.int .i64 x)]
def UR(l:List Int):List LA:=l.map nrI
def JE(l:List Int):(UR l).length=l.length:=by simp[UR]
def VT(l:List Int)(i:Nat):(UR l)[i]?=(l[i]?).map nrI:=by simp[UR]
def jxI :List Int->Int->Nat->Int
 | [],_,_=> -1
 |y::l,x,i=>if x=y then i else jxI l x (i+1)
def JF(l:List Int)(x:Int)(i:Nat):Int:=jxI (l.drop i) x i
def QX(l:List Int)(x:Int)(i:Nat)(h:l.length<=i):JF l x i= -1:=by unfold JF;rw[Zt h];rfl
def M4{l:List Int}{x:Int}{i:Nat}{c:Int}(h:l[i]?=some c):JF l x i=if x=c then(i:Int)else JF l x (i+1):=by
 obtain⟨k,e⟩:=Za.1 h;unfold JF;rw[Zm k,e];rfl
def VU(n:Nat)(b:Bool)(l:List Int)(z:Bool)(x:Int)(h:Hp)(hl:l.length<=1000000000000000):cu cx (n+1) b 270 [.ls 1 (UR l) z,x] h=some (.sc (.int .i64 (jxI l x 0)),h):=by
 refine fU f270 [.tmp 4] rfl rfl ?_ b h;have hq:=JE l;have hg:=VT l;generalize UR l=cq at hq hg;generalize hd:jxI l x 0=v;have hd0:v=JF l x 0:=hd.symm;simp[f270,hq];refine ve
  (λi s _=>v=JF l x i/\s.length=19/\gt s 0= .ls 1 cq z/\gt s 1=x/\gt s 7=l.length/\gt s 8=i)
  (λo s _=>s.length=19/\((o= .exit 0/\v= -1)\/(o= .ret/\gt s 4=v))) l.length (by simp;omega) (by simp[hd0]) ?_ ?_
 .rintro i fr h cP ⟨ho,cp,h0,h1,h7,h8⟩;have zc:i<=10^15:=by omega
  by_cases hi:i<l.length
  .obtain⟨c,hx⟩:=eA hi;have hr:cq[i]?=some [.sc (.int .i64 c)]:=by rw[hg,hx];rfl
   have cC:=gA hr
   rw[M4 hx]at ho;by_cases hk:x=c
   .rw[cw hk]at ho;simp[cp,h0,h1,h7,h8,hi,hq,cC,hk,ho]
   .rw[cv hk]at ho;simp[cp,h0,h1,h7,h8,hi,hq,cC,hk,cz zc];exact ho
  .have zz:v= -1:=by rw[ho,QX l x i (by omega)]
   simp[cp,h7,h8,hi,zz]
 .rintro o fr h hn ⟨cp,⟨rfl,hz⟩|⟨rfl,h2⟩⟩
  .simp[cp,hz]
  .simp[h2]
def Lg(x:Int):∀(l:List Int)(i:Nat),decide (0<=jxI l x i)=decide (x∈l)
 | [],_=>rfl
 |
  y::l,i=>by
  unfold jxI;by_cases h:x=y
  .subst h;simp
  .rw[cv h,Lg x l (i+1)];simp[h]
def JG(n:Nat)(b:Bool)(l:List Int)(z:Bool)(x:Int)(h:Hp)(hl:l.length<=1000000000000000):cu cx (n+2) b 204 [.ls 1 (UR l) z,x] h=some (.sc (.bool (decide (x∈l))),h):=by
 refine fU f204 [.tmp 4] rfl rfl ?_ b h;have ae:=λb h=>VU n b l z x h hl
 have af:=Lg x l 0;generalize jxI l x 0=r at ae af;generalize decide (x∈l)=w at af;subst af;simp[f204,ae]
end
section
attribute [local simp] ew eY
def adA(n:Nat)(t:Bool)(kind:Int)(r:LA)(K:List Int)(h:Hp)(hK:K.length<=1000000000000000)(h0:h[0]?=some (.row (.sc (.int .i64 kind)::r))):cu cx (n+3) t 203 [.ls 1 (UR K) true,.pt 0 0] h=some (.sc (.bool (decide (kind∈K))),h):=by
 rw[rr (n:=n+2) f203 [.tmp 3]];have fC:=λb=>JG n b K true kind h hK
 generalize decide (kind∈K)=w,UR K=cq at fC|-;simp[f203,h0,fC]
def cL :Code->Code| .seq a _=>a| .block _ a=>a| .cond _ a _=>a| .loop a=>a|c=>c
def cR :Code->Code| .seq _ b=>b| .cond _ _ b=>b|c=>c
end
@[simp] def aky :cx.T 273=some {size:=3,agg:=true,zero:=[.string ⟨#[]⟩,.slice none 0 0,.slice none 0 0],kd:= .struct [(0,1,false),(1,1,false),(2,1,false)]}:=by kernel_rfl
@[simp] def QY :cx.T 270=some {size:=1,agg:=false,zero:=[.slice none 0 0],kd:= .slice 3 true 64 [.string ⟨#[]⟩,.slice none 0 0,.slice none 0 0]}:=by kernel_rfl
@[simp] def akc :j9 cx 270=true:=by kernel_rfl
@[simp] def akE :cx.T 210=some {size:=1,agg:=true,zero:=[.int .i64 0],kd:= .struct [(0,1,false)]}:=by kernel_rfl
@[simp] def aku :cx.T 120=some {size:=3,agg:=true,zero:=[.slice none 0 0,.slice none 0 0,.int .i64 0],kd:= .struct [(0,1,false),(1,1,false),(2,1,false)]}:=by kernel_rfl
@[simp] def QZ :cx.T 118=some {size:=1,agg:=false,zero:=[.slice none 0 0],kd:= .slice 2 true 24 [.string ⟨#[]⟩,.int .i64 0]}:=by kernel_rfl
@[simp] def akw :j9 cx 118=true:=by kernel_rfl
@[simp] def ZV :cx.T 82=some {size:=1,agg:=false,zero:=[.slice none 0 0],kd:= .slice 8 true 104 [.int .i64 0,.string ⟨#[]⟩,.string ⟨#[]⟩,.int .i64 0,.int .i64 0,.int .i64 0,.string ⟨#[]⟩,.slice none 0 0]}:=by kernel_rfl
@[simp] def akt :j9 cx 82=true:=by kernel_rfl
@[simp] def akI :cx.T 124=some {size:=1,agg:=false,zero:=[.slice none 0 0],kd:= .slice 2 true 24 [.string ⟨#[]⟩,.int .i64 0]}:=by kernel_rfl
@[simp] def akq :j9 cx 124=true:=by kernel_rfl
@[simp] def akr :cx.T 28=some {size:=1,agg:=false,zero:=[.int .i64 0],kd:= .BX}:=by kernel_rfl
@[simp] def akj :cx.T 275=some {size:=1,agg:=false,zero:=[.map none],kd:= .BX}:=by kernel_rfl
@[simp] def akF :pd cx 275=true:=by kernel_rfl
@[simp] def akv :cx.T 125=some {size:=1,agg:=false,zero:=[.nilFunc],kd:= .BX}:=by kernel_rfl
section
attribute [local simp] ew eY lY chunk cF calm
def mH(x:Int):Bool:=decide (x< -1)||decide (1000000000000000<x)
def Gw(x:Int):Bool:= !(decide (x=0)||decide (x= -1))
def rY(c:Cp):Bool:=
 (c.opt && !decide (c.kind∈ [1,8])||c.w_ && !decide (c.kind∈ [3,4]))||
 ((decide (0<c.paths.length) && !decide (c.kind∈ [1,5,6])||decide (0<c.eu.length) && !decide (c.kind∈ [1,3]))||
 ((!decide (c.kind∈ [2]) && (!Lf c.e|| !dn c.name ⟨#[]⟩)|| !decide (c.kind∈ [3,4]) && (decide (0<c.items.length)||decide (0<c.order.length)))||
 ((!decide (c.kind∈ [3,4]) && (Gw c.skip||Gw c.limit)||(mH c.skip||mH c.limit))||
 (decide (0<c.sets.length) && !decide (c.kind∈ [7])||decide (0<c.names.length) && !decide (c.kind∈ [8])))))
def GX(eG:Bool->lu)(Y:Code)(w:Bool)(h0:Hp)(r:Option (Out × St)):Prop:=dT [.tmp 2] (jC cx eG (gJ 0 r) Y)=some ((w:AV),h0)
def jc{eG:Bool->lu}{Y:Code}{w:Bool}{h0:Hp}{fr:LA}(h:gt fr 2=w):GX eG Y w h0 (some (.ret,(fr,h0))):=by
 unfold GX gJ jC dT;simp[h]
def SY(w:Bool)(fr:LA):Prop:=fr.length=130/\gt fr 1= .pt 0 0/\gt fr 3= .fn 203 [.pt 0 0]/\gt fr 4=w
def Q0(n D:Nat)(b:Bool)(c:Cp)(h:Hp)(be:ke D c.e):cu cx (n+4) b 135 [.ag (cA c)] h=some (.sc (.bool (rY c)),h):=by
 have dL:[AV.ag (cA c)].all calm=true:=by
  have h0:=dR c.e;simp[cA,calm]at h0|-;exact h0
 refine fU f135 [.tmp 2] dL rfl ?_ b h;have fz:=λb h=>Gt (n+1) D b c.e h be
 have fa:=λm b h=>MZ (n+2) b m h
 have ZW:=λ(K:List Int)b(hK:K.length<=1000000000000000)=>adA n b c.kind (cA c).tail K [.row (cA c)] hK rfl
 have aw:=λb=>ZW [1,8] b (by simp)
 have ay:=λb=>ZW [3,4] b (by simp)
 have av:=λb=>ZW [1,5,6] b (by simp)
 have ax:=λb=>ZW [1,3] b (by simp)
 have af:=λb=>ZW [2] b (by simp)
 have ao:=λb=>ZW [7] b (by simp)
 have aq:=λb=>ZW [8] b (by simp)
 clear ZW;unfold rY Gw;unfold cA at aw ay av ax af ao aq|-;have dH:=cB c.e;have Aq:=iN c.paths;have CX:=cX c.eu;have UT:=iO c.items;have hq4:=iP c.order;have VV:=iQ c.sets;have ZX:=cI c.names;generalize q7 c.paths=r1 at Aq aw ay av ax af ao aq|-;generalize cZ c.eu=r2 at CX aw ay av ax af ao aq|-;generalize xa c.items=r3 at UT aw ay av ax af ao aq|-;generalize yZ c.order=r4 at hq4 aw ay av ax af ao aq|-;generalize y_ c.sets=r5 at VV aw ay av ax af ao aq|-;generalize eE c.names=r6 at ZX aw ay av ax af ao aq|-;generalize decide (c.kind∈ [1,8])=w18 at aw|-;generalize decide (c.kind∈ [3,4])=FI at ay|-;generalize decide (c.kind∈ [1,5,6])=adB at av|-;generalize decide (c.kind∈ [1,3])=w13 at ax|-;generalize decide (c.kind∈ [2])=w2 at af|-;generalize decide (c.kind∈ [7])=w7 at ao|-;generalize decide (c.kind∈ [8])=w8 at aq|-;obtain⟨a0,a1,a2,a3,a4,a5,a6,a7,a8,gC⟩:∃a0 a1 a2 a3 a4 a5 a6 a7 a8,cM c.e=[a0,a1,a2,a3,a4,a5,a6,a7,a8]:=by
  match cM c.e,dH with
  | [a0,a1,a2,a3,a4,a5,a6,a7,a8],_=>exact⟨_,_,_,_,_,_,_,_,_,rfl⟩
 clear dL dH;rw[gC]at fz aw ay av ax af ao aq|-;clear gC;have wL:=fa c.skip;have fa2:=fa c.limit;clear fa;generalize Lf c.e=ze at fz|-;generalize he:dn c.name ⟨#[]⟩=en;generalize(decide (c.skip=0)||decide (c.skip= -1))=s1 at wL|-;generalize(decide (c.limit=0)||decide (c.limit= -1))=s2 at fa2|-;generalize c.paths.length=n1 at Aq|-;generalize c.eu.length=n2 at CX|-;generalize c.items.length=n3 at UT|-;generalize c.order.length=n4 at hq4|-;generalize c.sets.length=n5 at VV|-;generalize c.names.length=n6 at ZX|-;generalize c.kind=kd,c.opt=op,c.w_=ds,c.skip=sk,c.limit=li,c.name=nm at *;simp only[UR,nrI,Yn,Xm]at aw ay av ax af ao aq;generalize hh:([.row (.sc (.int .i64 kd):: .sc (.bool op):: .sc (.bool ds):: .ls 3 r1 false:: .ls 9 r2 false::([a0,a1,a2,a3,a4,a5,a6,a7,a8]++[.sc (.string nm),.ls 10 r3 false,.ls 10 r4 false,.sc (.int .i64 sk),.sc (.int .i64 li),.ls 13 r5 false,.ls 1 r6 false]))]:Hp)=h0 at aw ay av ax af ao aq;simp only[Zv,Zw]at hh;have BO:∀fr,SY FI fr->GX (cu cx (n+3)) (cR (cR (cR (cR ((f135.body).getD .skip))))) (decide (0<n5) && !w7||decide (0<n6) && !w8) h0 (some (.normal,(fr,h0))):=by
  rintro fr ⟨cp,h1,h3,h4⟩;unfold GX;subst hh
  .by_cases e5:0<n5
   .cases w7
    .simp[cR,f135,cp,h1,h3,ao,VV,e5]
    .by_cases e6:0<n6
     .cases w8
      .simp[cR,f135,cp,h1,h3,ao,aq,VV,ZX,e5,e6]
      .simp[cR,f135,cp,h1,h3,ao,aq,VV,ZX,e5,e6]
     .simp[cR,f135,cp,h1,h3,ao,VV,ZX,e5,e6]
   .by_cases e6:0<n6
    .cases w8
     .simp[cR,f135,cp,h1,h3,aq,VV,ZX,e5,e6]
     .simp[cR,f135,cp,h1,h3,aq,VV,ZX,e5,e6]
    .simp[cR,f135,cp,h1,VV,ZX,e5,e6]
 generalize hY:cR (cR (cR (cR ((f135.body).getD .skip))))=Y at BO;have xb:∀X T,(∀fr,SY FI fr->GX (cu cx (n+3)) Y T h0 (dd cx (cu cx (n+3)) X (fr,h0)))->∀fr,SY FI fr->GX (cu cx (n+3)) Y ((!FI && (!s1|| !s2)||(mH sk||mH li))||T) h0 (dd cx (cu cx (n+3)) (.seq (cL (cR (cR (cR (cR (cR (cR (cL (cL (cR (cR (cR ((f135.body).getD .skip))))))))))))) (.cond (.tmp 75) (cL (cR (cR (cR (cR (cR (cR (cR (cL (cL (cR (cR (cR ((f135.body).getD .skip)))))))))))))) X)) (fr,h0)):=by
  rintro X T hX fr ⟨cp,h1,h3,h4⟩;subst hh
  .cases FI
   .cases s1
    .simp[cL,cR,f135,cp,h1,h4,wL,mH];exact jc (by simp[cp])
    .cases s2
     .simp[cL,cR,f135,cp,h1,h4,wL,fa2,mH];exact jc (by simp[cp])
     .by_cases l1:sk< -1
      .simp[cL,cR,f135,cp,h1,h4,wL,fa2,mH,l1];exact jc (by simp[cp])
      .by_cases l2:1000000000000000<sk
       .simp[cL,cR,f135,cp,h1,h4,wL,fa2,mH,l1,l2];exact jc (by simp[cp])
       .by_cases l3:li< -1
        .simp[cL,cR,f135,cp,h1,h4,wL,fa2,mH,l1,l2,l3];exact jc (by simp[cp])
        .by_cases l4:1000000000000000<li
         .simp[cL,cR,f135,cp,h1,h4,wL,fa2,mH,l1,l2,l3,l4];exact jc (by simp[cp])
         .simp[cL,cR,f135,cp,h1,h4,wL,fa2,mH,l1,l2,l3,l4];exact hX _ ⟨by simp[cp],by simp[h1,h3,h4]⟩
   .by_cases l1:sk< -1
    .simp[cL,cR,f135,cp,h1,h4,mH,l1];exact jc (by simp[cp])
    .by_cases l2:1000000000000000<sk
     .simp[cL,cR,f135,cp,h1,h4,mH,l1,l2];exact jc (by simp[cp])
     .by_cases l3:li< -1
      .simp[cL,cR,f135,cp,h1,h4,mH,l1,l2,l3];exact jc (by simp[cp])
      .by_cases l4:1000000000000000<li
       .simp[cL,cR,f135,cp,h1,h4,mH,l1,l2,l3,l4];exact jc (by simp[cp])
       .simp[cL,cR,f135,cp,h1,h4,mH,l1,l2,l3,l4];exact hX _ ⟨by simp[cp],by simp[h1,h3,h4]⟩
 have tJ:∀X T,(∀fr,SY FI fr->GX (cu cx (n+3)) Y T h0 (dd cx (cu cx (n+3)) X (fr,h0)))->∀fr,SY FI fr->GX (cu cx (n+3)) Y ((!w2 && (!ze|| !en)|| !FI && (decide (0<n3)||decide (0<n4)))||T) h0 (dd cx (cu cx (n+3)) (.seq (cL (cR (cR (cR (cR (cL (cL (cR (cR (cR ((f135.body).getD .skip))))))))))) (.cond (.tmp 45) (cL (cR (cR (cR (cR (cR (cL (cL (cR (cR (cR ((f135.body).getD .skip)))))))))))) X)) (fr,h0)):=by
  rintro X T hX fr ⟨cp,h1,h3,h4⟩;subst hh
  .cases w2
   .cases ze
    .simp[cL,cR,f135,cp,h1,h3,af,fz];exact jc (by simp[cp])
    .cases en
     .simp[cL,cR,f135,cp,h1,h3,af,fz,he];exact jc (by simp[cp])
     .cases FI
      .by_cases e3:0<n3
       .simp[cL,cR,f135,cp,h1,h3,h4,af,fz,he,UT,e3];exact jc (by simp[cp])
       .by_cases e4:0<n4
        .simp[cL,cR,f135,cp,h1,h3,h4,af,fz,he,UT,hq4,e3,e4];exact jc (by simp[cp])
        .simp[cL,cR,f135,cp,h1,h3,h4,af,fz,he,UT,hq4,e3,e4];exact hX _ ⟨by simp[cp],by simp[h1,h3,h4]⟩
      .simp[cL,cR,f135,cp,h1,h3,h4,af,fz,he];exact hX _ ⟨by simp[cp],by simp[h1,h3,h4]⟩
   .cases FI
    .by_cases e3:0<n3
     .simp[cL,cR,f135,cp,h1,h3,h4,af,UT,e3];exact jc (by simp[cp])
     .by_cases e4:0<n4
      .simp[cL,cR,f135,cp,h1,h3,h4,af,UT,hq4,e3,e4];exact jc (by simp[cp])
      .simp[cL,cR,f135,cp,h1,h3,h4,af,UT,hq4,e3,e4];exact hX _ ⟨by simp[cp],by simp[h1,h3,h4]⟩
    .simp[cL,cR,f135,cp,h3,h4,af];exact hX _ ⟨by simp[cp],by simp[h1,h3,h4]⟩
 have st2:∀X T,(∀fr,SY FI fr->GX (cu cx (n+3)) Y T h0 (dd cx (cu cx (n+3)) X (fr,h0)))->∀fr,SY FI fr->GX (cu cx (n+3)) Y ((decide (0<n1) && !adB||decide (0<n2) && !w13)||T) h0 (dd cx (cu cx (n+3)) (.seq (cL (cR (cR (cL (cL (cR (cR (cR ((f135.body).getD .skip))))))))) (.cond (.tmp 24) (cL (cR (cR (cR (cL (cL (cR (cR (cR ((f135.body).getD .skip)))))))))) X)) (fr,h0)):=by
  rintro X T hX fr ⟨cp,h1,h3,h4⟩;subst hh
  .by_cases e1:0<n1
   .cases adB
    .simp[cL,cR,f135,cp,h1,h3,av,Aq,e1];exact jc (by simp[cp])
    .by_cases e2:0<n2
     .cases w13
      .simp[cL,cR,f135,cp,h1,h3,av,ax,Aq,CX,e1,e2];exact jc (by simp[cp])
      .simp[cL,cR,f135,cp,h1,h3,av,ax,Aq,CX,e1,e2];exact hX _ ⟨by simp[cp],by simp[h1,h3,h4]⟩
     .simp[cL,cR,f135,cp,h1,h3,av,Aq,CX,e1,e2];exact hX _ ⟨by simp[cp],by simp[h1,h3,h4]⟩
   .by_cases e2:0<n2
    .cases w13
     .simp[cL,cR,f135,cp,h1,h3,ax,Aq,CX,e1,e2];exact jc (by simp[cp])
     .simp[cL,cR,f135,cp,h1,h3,ax,Aq,CX,e1,e2];exact hX _ ⟨by simp[cp],by simp[h1,h3,h4]⟩
    .simp[cL,cR,f135,cp,h1,Aq,CX,e1,e2];exact hX _ ⟨by simp[cp],by simp[h1,h3,h4]⟩
 have st1:∀X T,(∀fr,SY FI fr->GX (cu cx (n+3)) Y T h0 (dd cx (cu cx (n+3)) X (fr,h0)))->∀fr,SY FI fr->GX (cu cx (n+3)) Y ((op && !w18||ds && !FI)||T) h0 (dd cx (cu cx (n+3)) (.seq (cL (cL (cL (cR (cR (cR ((f135.body).getD .skip))))))) (.cond (.tmp 9) (cL (cR (cL (cL (cR (cR (cR ((f135.body).getD .skip)))))))) X)) (fr,h0)):=by
  rintro X T hX fr ⟨cp,h1,h3,h4⟩;subst hh
  .cases op
   .cases ds
    .simp[cL,cR,f135,cp,h1];exact hX _ ⟨by simp[cp],by simp[h1,h3,h4]⟩
    .cases FI
     .simp[cL,cR,f135,cp,h1,h4];exact jc (by simp[cp])
     .simp[cL,cR,f135,cp,h1,h4];exact hX _ ⟨by simp[cp],by simp[h1,h3,h4]⟩
   .cases w18
    .simp[cL,cR,f135,cp,h1,h3,aw];exact jc (by simp[cp])
    .cases ds
     .simp[cL,cR,f135,cp,h1,h3,aw];exact hX _ ⟨by simp[cp],by simp[h1,h3,h4]⟩
     .cases FI
      .simp[cL,cR,f135,cp,h1,h3,h4,aw];exact jc (by simp[cp])
      .simp[cL,cR,f135,cp,h1,h3,h4,aw];exact hX _ ⟨by simp[cp],by simp[h1,h3,h4]⟩
 have go:=st1 _ _ (st2 _ _ (tJ _ _ (xb .skip _ BO)));have hB:(f135.body).getD .skip= .seq (cL ((f135.body).getD .skip)) (.seq (cL (cR ((f135.body).getD .skip))) (.seq (cL (cR (cR ((f135.body).getD .skip)))) (.seq (.block 0 (.seq (cL (cL (cL (cR (cR (cR ((f135.body).getD .skip))))))) (.cond (.tmp 9) (cL (cR (cL (cL (cR (cR (cR ((f135.body).getD .skip)))))))) (.seq (cL (cR (cR (cL (cL (cR (cR (cR ((f135.body).getD .skip))))))))) (.cond (.tmp 24) (cL (cR (cR (cR (cL (cL (cR (cR (cR ((f135.body).getD .skip)))))))))) (.seq (cL (cR (cR (cR (cR (cL (cL (cR (cR (cR ((f135.body).getD .skip))))))))))) (.cond (.tmp 45) (cL (cR (cR (cR (cR (cR (cL (cL (cR (cR (cR ((f135.body).getD .skip)))))))))))) (.seq (cL (cR (cR (cR (cR (cR (cR (cL (cL (cR (cR (cR ((f135.body).getD .skip))))))))))))) (.cond (.tmp 75) (cL (cR (cR (cR (cR (cR (cR (cR (cL (cL (cR (cR (cR ((f135.body).getD .skip)))))))))))))) .skip))))))))) Y))):=by subst hY;kernel_rfl
 obtain⟨FJ,hS,e1⟩:∃FJ,SY FI FJ/\∀Z,dd cx (cu cx (n+3)) (.seq (cL ((f135.body).getD .skip)) (.seq (cL (cR ((f135.body).getD .skip))) (.seq (cL (cR (cR ((f135.body).getD .skip)))) Z))) ([.ag [kd,op,ds,.ls 3 r1 false,.ls 9 r2 false,a0,a1,a2,a3,a4,a5,a6,a7,a8,nm,.ls 10 r3 false,.ls 10 r4 false,sk,li,.ls 13 r5 false,.ls 1 r6 false]]++List.replicate 129 .un,[])=dd cx (cu cx (n+3)) Z (FJ,h0):=by
  subst hh;apply Exists.intro;apply And.intro
  rotate_left
  .intro Z;simp[cL,cR,f135,ay];exact rfl
  .exact⟨by simp,by simp⟩
 have fin:=go FJ hS;unfold GX at fin;show(dT _ (dd cx (cu cx (n+3)) ((f135.body).getD .skip) _)).map Prod.fst=_;rw[hB]
 erw [e1]
 rw[M5,Gx]
 erw [fin]
 rfl
end
section
attribute [local simp] ew cF eY
def Ar(x:Gp):Np:=⟨x.var,x.types,x.props⟩
def c9 :List Np->List Gp->List Np
 | [],_=> []
 |n::ns,[]=>n::c9 ns []
 |n::ns,e::es=>n::Ar e::c9 ns es
def rZ :∀{ns:List Np}{es:List Gp}{i:Nat}{x:Np},ns[i]?=some x->c9 (ns.take (i+1)) es=c9 (ns.take i) es++x::((es[i]?).map Ar).toList
 |n::ns,[],0,x,h=>by cases h;simp[c9]
 |n::ns,e::es,0,x,h=>by cases h;simp[c9]
 |
  n::ns,[],i+1,x,h=>by
  have:=rZ (es:=[]) (i:=i) (show ns[i]?=some x from h);simp only[List.take_succ_cons,c9,this,Zv];simp
 |
  n::ns,e::es,i+1,x,h=>by
  have:=rZ (es:=es) (i:=i) (show ns[i]?=some x from h);simp only[List.take_succ_cons,c9,this,Zv];simp
def qz :∀(ns:List Np)(es:List Gp),(c9 ns es).length<=2*ns.length
 | [],_=>by simp[c9]
 |n::ns,[]=>by have:=qz ns [];simp only[c9,Ys];omega
 |n::ns,e::es=>by have:=qz ns es;simp only[c9,Ys];omega
def Lh(a b:List Np):gZ (a++b)=gZ a++gZ b:=by simp[gZ]
def Ey(l:List Np):(∀r∈gZ l,r.length=3)/\(gZ l).flatten.all l6=true:=
 ⟨λr hr=>by obtain⟨c,_,rfl⟩:=Yf.1 hr;rfl,nW λr hr=>by obtain⟨c,_,rfl⟩:=Yf.1 hr;rfl⟩
def cJ{h:Hp}{j:Nat}{x:eV}(k:Hp)(hj:h[j]?=some x):(h++k)[j]?=some x:=by
 rw[Zd (Za.1 hj).1];exact hj
def ka.grow{h:Hp}{sz:Nat}{cq:List LA}{x:AV}(k:Hp)(hx:ka h sz cq x):ka (h++k) sz cq x:=by
 rcases hx with hx|⟨gE,id,e,ej⟩
 .exact .inl hx
 .exact .inr ⟨gE,id,e,cJ k ej⟩
def Q1(n:Nat)(b:Bool)(p:Tp)(h:Hp)(hl:p.nodes.length<=10^8):cu cx (n+1) b 212 [.ag (dW p)] h=some (.ls 3 (gZ (c9 p.nodes p.cE)) false,h):=by
 refine ZT f212 [.tmp 2] rfl ?_ b h;have Ev:kx 212=3:=by decide
 rw[Ev];obtain⟨vr,ns,es⟩:=p;unfold dW;simp only at hl|-;have hq:=fK ns;have hg:=kV ns;generalize gZ ns=cq at hq hg;have xc:=fL es;have vK:=kW es;generalize nD es=adC at xc vK;simp[f212,hq];refine lpG
  (λi s cD=>i<=ns.length/\s.length=53/\gt s 1= .pt 0 0/\gt s 7= .ls 3 cq false/\gt s 8=ns.length/\gt s 9=i/\cD[0]?=some (.row [vr,.ls 3 cq false,.ls 7 adC false])/\∃y,gt s 3=y/\ka cD 3 (gZ (c9 (ns.take i) es)) y/\∀k m,y= .sl k 3 0 m false->0≠k)
  (λo s cD=>o= .exit 0/\s.length=53/\∃y,gt s 3=y/\ka cD 3 (gZ (c9 ns es)) y) ns.length (by simp;omega) (by exact ⟨by omega,rfl,rfl,rfl,rfl,rfl,rfl,_,rfl,.inl ⟨rfl,rfl⟩,by simp⟩) ?_ ?_
 .rintro i fr hp _ ⟨UQ,cp,h1,h7,h8,h9,hb,y,h3,hy,my⟩;by_cases hi:i<ns.length
  .obtain⟨x,hx⟩:=eA hi;have hr:cq[i]?=some (dD x):=by rw[hg,hx];rfl
   have cC:=gA hr
   have dO:=rZ (es:=es) hx;have hf:dA .i64 ((i:Int)+1)=((i+1:Nat):Int):=cK (by omega) (by omega);have q3:=akN (λv=>hy.np v)
   have iB:(gZ (c9 (ns.take i) es)).length<=900000000:=by rw[fK];have:=qz (ns.take i) es;have:=List.length_take_le i ns;omega
   have hal:=(Ey (c9 (ns.take i) es)).1;obtain⟨id,h4,b1,b2,b3,b4⟩:=iy (t:=270) QY rfl (hp++[.row (dD x)]) (dD x) (gZ (c9 (ns.take i) es)) y (hy.grow _) rfl hal (by omega) (by omega) (by omega);have Li:=b3 0 _ (cJ _ hb) my;have VW:0≠id:=by simp at b4;omega
   have xW:ka h4 3 (gZ (c9 (ns.take i) es)++[dD x]) (.sl id 3 0 ((gZ (c9 (ns.take i) es)).length+1) false):=Ab b2;simp only[Zp,Zv,Zw,Zu,Ys,List.length_nil,Xk]at b1;unfold dD at hr cC b1;by_cases he:i<es.length
   .obtain⟨w,hw⟩:=eA he;have hrw:adC[i]?=some (dE w):=by rw[vK,hw];rfl
    have adD:=gA hrw
    obtain⟨lB,h5,d1,d2,d3,d4⟩:=iy (t:=270) QY rfl h4 (dD (Ar w)) (gZ (c9 (ns.take i) es)++[dD x]) _ xW rfl (λr hr=>by rcases Zz.1 hr with hr|hr;exact hal r hr;simp at hr;subst hr;rfl) (by omega) (by rw[Zu];show _+1<=_;omega) (by omega);have hb3:=d3 0 _ Li (λk m e=>by cases e;exact VW);simp only[Zu,Ys,List.length_nil,Xk]at d1;unfold dD Ar at d1;unfold dE at hrw adD;generalize hFF:gZ (c9 (ns.take i) es)=F at b1 b2 b3 dO xW d1 d2 d3 iB hal;simp[cp,h1,h3,h7,h8,h9,hi,hq,cC,he,xc,adD,q3,b1,Li,d1,hf];refine⟨by omega,hb3,?_,λe=>by have:=(Za.1 Li).1;omega⟩;have key:=Ab (sz:=3) d2;rw[Zu]at key;rw[dO,Lh,hFF,hw];simpa[gZ]using key
   .simp[cp,h1,h3,h7,h8,h9,hi,hq,cC,he,xc,q3,b1,Li,hf];refine⟨by omega,?_,VW⟩;rw[dO,Lh,Xc (by omega)];simpa[gZ]using xW
  .have iJ:i=ns.length:=Yb UQ (Ya hi);subst iJ;rw[Xq]at hy;simp[cp,h8,h9];rw[h3];exact hy
 .rintro o fr hp hn ⟨rfl,cp,y,h3,hy⟩;have jx:=gf (n:=7) (by omega) (Ey _).1 (Ey _).2 hy;have q3:=akN (λv=>hy.np v)
  simp[cp,h3,q3];exact qW ⟨_,jx,kT _ _⟩
end
section
attribute [local simp] ew eY
def cT :Nat->Code->Code
 |0,c=>c
 |n+1,c=>cT n (cR c)
def dy :List Int->Int
 | []=>0
 |a::l=>if a=0 then dy l else a
def uC :∀(a b:List Int),dy (a++b)=if dy a=0 then dy b else dy a
 | [],b=>by simp[dy]
 |
  x::a,b=>by
  rw[Zv,dy,dy,uC a b];by_cases h:x=0
  .rw[cw h,cw h]
  .rw[cv h,cv h,cv h]
def uD(x:Np):Bool:=(!dn x.var ⟨#[]⟩ && !dt x.var)||((x.labels.any λs=> !dt s)||((dX x.props).any λs=> !dt s))
def uE(x:Np):Bool:= !eR x.labels|| !eR (dX x.props)
def eo(l:List Np):List Ep:=l.flatMap λx=>x.props.map (·.e)
def r7(x:Gp):Bool:= !(Am x.dir x.mode x.mn x.mx x.props.length)
def yG(x:Gp):Bool:= !(Gl x.mode x.dir x.types.length)
def Q2(p:Tp)(create agg:Bool):Int:=if agg=true then 9 else if(create && p.cE.any yG)=true then 1 else 0
def t_(l:List Ep):Int:=dy (l.map fM)
def M6(l:List Ep):Bool:=l.any mG
def M7(E:List Ep)(l:List Pp)(j:Nat):List Ep:=E++(l.take j).map (·.e)
def Gy(E:List Ep)(l:List Pp):M7 E l 0=E:=by simp[M7]
def VX(E:List Ep)(l:List Pp):M7 E l l.length=E++l.map (·.e):=by simp[M7]
def Q3(E:List Ep){l:List Pp}{j:Nat}{q:Pp}(h:l[j]?=some q):M7 E l (j+1)=M7 E l j++[q.e]:=by
 unfold M7;rw[Xt,h];simp
def M8(E:List Ep){l:List Pp}{j:Nat}{q:Pp}(h:l[j]?=some q):E++l.map (·.e)=M7 E l j++q.e::(l.drop (j+1)).map (·.e):=by
 obtain⟨k,e⟩:=Za.1 h;have:l=l.take j++q::l.drop (j+1):=by rw[<-e,<-Zm k,List.take_append_drop]
 conv=>lhs;rw[this]
 simp[M7]
def Lj(a b:List Ep):t_ (a++b)=if t_ a=0 then t_ b else t_ a:=by unfold t_;rw[List.map_append,uC]
def Q4{a:List Ep}{q:Ep}(h:t_ a=0):t_ (a++[q])=fM q:=by
 rw[Lj,cw h];unfold t_;rw[Yn,Xm,dy];split
 .rename_i e;exact e.symm
 .rfl
def VY{a b:List Ep}{q:Ep}(h:t_ a=0)(hc:fM q≠0):t_ (a++q::b)=fM q:=by
 rw[Lj,cw h];unfold t_;rw[Yn,dy,cv hc]
def Q5(a:List Ep)(q:Ep):M6 (a++[q])=(M6 a||mG q):=by unfold M6;simp
def vL(p:Tp)(create:Bool)(l:List Np):Int:=if t_ (eo l)=0 then Q2 p create (M6 (eo l))else t_ (eo l)
def ua(p:Tp)(create:Bool):Int:=
 if qZ p=true then 4
 else if((!decide (p.nodes.length=p.cE.length+1))||p.cE.any r7)=true then 1
 else if(!dn p.var ⟨#[]⟩ && !dt p.var)=true then 6
 else if(c9 p.nodes p.cE).any uD=true then 6
 else if(c9 p.nodes p.cE).any uE=true then 26
 else vL p create (c9 p.nodes p.cE)
def bdN(D d:Nat)(x:Np):Prop:=x.labels.length<=10^9/\x.props.length<=10^9/\∀q∈x.props,lE q.e<=d/\ke D q.e
def bdG(D d:Nat)(x:Gp):Prop:=x.types.length<=10^9/\x.props.length<=10^9/\∀q∈x.props,lE q.e<=d/\ke D q.e
def bdT(D d:Nat)(p:Tp):Prop:=(∀x∈p.nodes,bdN D d x)/\(∀x∈p.cE,bdG D d x)/\p.nodes.length<=10^9/\p.cE.length<=10^9
def s9{D d:Nat}:∀{ns:List Np}{es:List Gp},(∀x∈ns,bdN D d x)->(∀x∈es,bdG D d x)->∀x∈c9 ns es,bdN D d x
 | [],_,_,_,x,h=>by simp[c9]at h
 |
  n::ns,[],hn,he,x,h=>by
  rw[c9]at h;rcases Yv.1 h with rfl|h
  .exact hn _ (by simp)
  .exact s9 (λx hx=>hn x (by simp[hx])) he x h
 |
  n::ns,e::es,hn,he,x,h=>by
  rw[c9]at h;rcases Yv.1 h with rfl|h
  .exact hn _ (by simp)
  .rcases Yv.1 h with rfl|h
   .exact he e (by simp)
   .exact s9 (λx hx=>hn x (by simp[hx])) (λx hx=>he x (by simp[hx])) x h
def abb(n:Nat)(b:Bool)(l:List Gp)(h:Hp)(hl:l.length<=1000000000000000):cu cx (n+4) b 209 [.ls 7 (nD l) false,.fn 210 []] h=some (.sc (.bool (l.any r7)),h):=by
 have hex:∃p:LA->Bool,(∀x,p (dE x)=r7 x):=by
  refine⟨λr=>match cu cx (n+2) true 210 [.ag r] []with|some (.sc (.bool q),_)=>q|_=>false,λx=>?_⟩;simp only[Gm n true x [],r7]
 obtain⟨p,hp⟩:=hex;have ae:=QI (n+2) b 210 (nD l) p false h (λr hr=>by obtain⟨x,_,rfl⟩:=Yf.1 hr;rfl) (by rw[fL];exact hl) (λr hr b h=>by
  obtain⟨x,hx,rfl⟩:=Yf.1 hr;rw[hp x];exact Gm n b x h)
 rw[show(nD l).any p=l.any r7 by unfold nD;rw[List.any_map];exact VJ λx _=>hp x]at ae;exact ae
def abd(n:Nat)(b:Bool)(l:List Gp)(h:Hp)(hl:l.length<=1000000000000000):cu cx (n+4) b 209 [.ls 7 (nD l) false,.fn 217 []] h=some (.sc (.bool (l.any yG)),h):=by
 have hex:∃p:LA->Bool,(∀x,p (dE x)=yG x):=by
  refine⟨λr=>match cu cx (n+2) true 217 [.ag r] []with|some (.sc (.bool q),_)=>q|_=>false,λx=>?_⟩;simp only[Gn n true x [],yG]
 obtain⟨p,hp⟩:=hex;have ae:=QI (n+2) b 217 (nD l) p false h (λr hr=>by obtain⟨x,_,rfl⟩:=Yf.1 hr;rfl) (by rw[fL];exact hl) (λr hr b h=>by
  obtain⟨x,hx,rfl⟩:=Yf.1 hr;rw[hp x];exact Gn n b x h)
 rw[show(nD l).any p=l.any yG by unfold nD;rw[List.any_map];exact VJ λx _=>hp x]at ae;exact ae
def adE{call:Bool->lu}(Inv:Nat->St->Prop)(Q:Out->St->Prop)(N:Nat)(hN:N<cx.fuel)(X:Option (Out × St))(c:Code)(fr:LA)(h:Hp)(hX:dd cx call (.loop c) (fr,h)=X)(hI:Inv 0 (fr,h))(step:∀i fr h,i<=N->Inv i (fr,h)->UU Inv Q N i (dd cx call c (fr,h))):∃o cG h',X=some (o,(cG,h'))/\Q o (cG,h'):=by
 subst hX;exact oM (C:=cx) (G:=λr=>∃o cG h',r=some (o,(cG,h'))/\Q o (cG,h')) Inv Q N hN hI step (λo fr h _ hq=>⟨o,fr,h,rfl,hq⟩)
def Lk{P:Prop}{call:Bool->lu}{X:Option (Out × St)}{c:Code}{fr:LA}{h:Hp}(hX:dd cx call (.loop c) (fr,h)=X)(Inv:Nat->St->Prop)(Q:Out->St->Prop)(N:Nat)(hN:N<cx.fuel)(hI:Inv 0 (fr,h))(step:∀i fr h,i<=N->Inv i (fr,h)->UU Inv Q N i (dd cx call c (fr,h)))(fin:∀o cG h',X=some (o,(cG,h'))->Q o (cG,h')->P):P:=by
 obtain⟨o,cG,h',e,hQ⟩:=adE Inv Q N hN X c fr h hX hI step;exact fin o cG h' e hQ
def gk{P:Prop}{call:Bool->FuncId->LA->Hp->Option (AV × Hp)}{X:Option (Out × St)}{c:Code}{fr:LA}{h:Hp}(hX:dd cx call (.loop c) (fr,h)=X)(Inv:Nat->LA->Hp->Prop)(Q:Out->LA->Hp->Prop)(N:Nat)(hN:N<cx.fuel)(hI:Inv 0 fr h)(step:∀i fr h,i<=N->Inv i fr h->UU (λi s=>Inv i s.1 s.2) (λo s=>Q o s.1 s.2) N i (dd cx call c (fr,h)))(fin:∀o cG h',X=some (o,(cG,h'))->Q o cG h'->P):P:=
 Lk hX (λi s=>Inv i s.1 s.2) (λo s=>Q o s.1 s.2) N hN hI step fin
def il{α:Type}{R:List LA}{l:List α}{enc:α->LA}(hg:∀i:Nat,R[i]?=(l[i]?).map enc){i:Nat}(hi:i<l.length):∃x,l[i]?=some x/\R[i]?=some (enc x)/\∀k,R[i]'k=enc x:=by
 have hx:l[i]?=some l[i]:=Zb hi;have hr:R[i]?=some (enc l[i]):=by rw[hg,hx];rfl
 exact⟨_,hx,hr,λk=>by obtain⟨_,e⟩:=Za.1 hr;exact e⟩
def dY{α:Type}{R:List LA}{l:List α}{enc:α->LA}(hg:∀i:Nat,R[i]?=(l[i]?).map enc){i:Nat}(cP:i<=l.length):(∃x,i<l.length/\l[i]?=some x/\R[i]?=some (enc x)/\∀k,R[i]'k=enc x)\/i=l.length:=by
 by_cases hi:i<l.length
 .obtain⟨x,h⟩:=il hg hi;exact .inl ⟨x,hi,h⟩
 .exact .inr (Nat.le_antisymm cP (Nat.le_of_not_lt hi))
noncomputable def nE :Code:=(f138.body).getD .skip
def SP(cr:Bool)(rp:List LA)(row:LA)(fr:LA)(h:Hp):Prop:=fr.length=125/\gt fr 1=cr/\gt fr 2= .pt 0 0/\gt fr 5= .ls 3 rp false/\h[0]?=some (.row row)
def PX(r:Option (Out × St))(v:Int):Prop:=∃h',dT [.tmp 4] r=some ((v:AV),h')
def pf{fr:LA}{h:Hp}{v:Int}(h4:gt fr 4=v):PX (some (.ret,(fr,h))) v:=⟨h,by simp[h4]⟩
def agM(M:Nat)(cr agg w:Bool)(rp rn rg:List LA)(vr:ByteArray)(fr:LA)(h:Hp)(hS:SP cr rp [vr,.ls 3 rn false,.ls 7 rg false] fr h)(jv:gt fr 10=agg)(fm:∀b h,cu cx M b 209 [.ls 7 rg false,.fn 217 []] h=some ((w:AV),h)):PX (M (cT 9 nE) (fr,h)) (if agg=true then 9 else if(cr && w)=true then 1 else 0):=by
 obtain⟨cp,h1,h2,h5,hh⟩:=hS;cases agg
 .cases cr
  .simp[nE,cT,cR,f138,cp,h1,jv];exact pf (by simp[cp])
  .cases w<;>simp[nE,cT,cR,f138,cp,h1,h2,jv,hh,fm]
   .exact pf (by simp[cp])
   .exact pf (by simp[cp])
 .simp[nE,cT,cR,f138,cp,jv];exact pf (by simp[cp])
def qC(a b c x y z:AV):cF [a,b,c] 0 [x,y,z]=[x,y,z]:=rfl
def Gz{l:List Np}{i:Nat}{x:Np}(h:l[i]?=some x):eo (l.take (i+1))=eo (l.take i)++x.props.map (·.e):=by
 unfold eo;rw[Xt,h];simp
def Ez{l:List Np}{i:Nat}{x:Np}(h:l[i]?=some x):eo l=eo (l.take i)++(x.props.map (·.e)++eo (l.drop (i+1))):=by
 obtain⟨k,e⟩:=Za.1 h;have:l=l.take i++x::l.drop (i+1):=by rw[<-e,<-Zm k,List.take_append_drop]
 conv=>lhs;rw[this]
 unfold eo;simp
def agN(M:Nat)(cr:Bool)(l:List Np)(row:LA)(t:Bool->Int)(X:Code)(hl:l.length<=10^9)(hb:∀x∈l,x.props.length<=10^9)(fc:∀x∈l,∀q∈x.props,∀b h,cu cx M b 139 [.ag (cM q.e)] h=some (.sc (.int .i64 (fM q.e)),h))(fh:∀x∈l,∀q∈x.props,∀b h,cu cx M b 145 [.ag (cM q.e)] h=some (.sc (.bool (mG q.e)),h))(hX:∀fr h agg,SP cr (gZ l) row fr h->gt fr 10= .sc (.bool agg)->PX (M X (fr,h)) (t agg))(fr:LA)(h:Hp)(hS:SP cr (gZ l) row fr h):
 PX (M (.seq (cL (cT 7 nE)) (.seq (cL (cT 8 nE)) X)) (fr,h)) (if t_ (eo l)=0 then t (M6 (eo l))else t_ (eo l)):=by
 obtain⟨cp,h1,h2,h5,hh⟩:=hS;have hq:=fK l;have hg:=kV l;generalize gZ l=rp at hq hg hX h5;simp[nE,cT,cR,cL,f138,cp,h5,hq];generalize cU:M (.loop _) _=XX;refine gk cU
  (λi s cD=>SP cr rp row s cD/\gt s 89= .ls 3 rp false/\gt s 90=l.length/\gt s 91=i/\gt s 10= .sc (.bool (M6 (eo (l.take i))))/\t_ (eo (l.take i))=0)
  (λo s cD=>(o= .exit 4/\SP cr rp row s cD/\gt s 10= .sc (.bool (M6 (eo l)))/\t_ (eo l)=0)\/(o= .ret/\gt s 4= .sc (.int .i64 (t_ (eo l)))/\t_ (eo l)≠0))
  l.length (by simp;omega) ⟨⟨by simp[cp],by simp[h1],by simp[h2],by simp[h5],hh⟩,by simp[cp],by simp[cp],by simp[cp],by simp[cp,eo,M6],rfl⟩ ?_ ?_
 rotate_left
 .rintro o cG h' rfl hQ;rcases hQ with⟨rfl,hS,jv,h0⟩|⟨rfl,h4,h0⟩
  .rw[cw h0];simp;exact hX _ _ _ hS jv
  .rw[cv h0];simp;exact pf h4
 .clear cU XX;rintro i fr hp cP ⟨⟨cp,h1,h2,h5,hh⟩,VZ,UW,UX,jv,h0⟩;rcases dY hg cP with⟨x,hi,hx,hr,cC⟩|rfl
  .have dB:=Zi hx;have dO:=Gz hx;have mZ:=Ez hx;have hf:dA .i64 ((i:Int)+1)=((i+1:Nat):Int):=cK (by omega) (by omega);have wM:=dP x.props;have JH:=jf x.props;have ry:=hb x dB;have fcx:=fc x dB;have fhx:=fh x dB;unfold dD at hr cC;generalize jw x.props=V0 at hr cC wM JH;generalize eo (l.take i)=E0 at jv h0 dO mZ;simp[cp,VZ,UW,UX,hi,hq,cC,wM,qC];generalize ZY:M (.loop _) _=YY;refine gk ZY
    (λj s cD=>SP cr rp row s cD/\gt s 89= .ls 3 rp false/\gt s 90=l.length/\gt s 91=i/\gt s 96= .ls 10 V0 false/\gt s 97=x.props.length/\gt s 98=j/\gt s 10= .sc (.bool (M6 (M7 E0 x.props j)))/\t_ (M7 E0 x.props j)=0)
    (λo s cD=>(o= .exit 6/\SP cr rp row s cD/\gt s 89= .ls 3 rp false/\gt s 90=l.length/\gt s 91=i/\gt s 10= .sc (.bool (M6 (E0++x.props.map (·.e))))/\t_ (E0++x.props.map (·.e))=0)\/(o= .ret/\gt s 4= .sc (.int .i64 (t_ (eo l)))/\t_ (eo l)≠0))
    x.props.length (by simp;omega) ⟨⟨by simp[cp],by simp[h1],by simp[h2],by simp[h5],cJ _ hh⟩,by simp[VZ],by simp[UW],by simp[UX],by simp[cp],by simp[cp],by simp[cp],by rw[Gy];simp[jv],by rw[Gy];exact h0⟩ ?_ ?_
   rotate_left
   .rintro o cG h' rfl hQ;rcases hQ with⟨rfl,⟨cp,h1,h2,h5,hh⟩,VZ,UW,UX,jv,h0⟩|⟨rfl,h4,h0⟩
    .simp[cp,UX,hf,hi];rw[dO];exact⟨⟨by simp[cp],by simp[h1],by simp[h2],by simp[h5],hh⟩,VZ,UW,jv,h0⟩
    .simp;exact⟨h4,h0⟩
   .clear ZY YY;rintro j fr hp wV ⟨⟨cp,h1,h2,h5,hh⟩,VZ,UW,UX,h96,h97,h98,jv,h0⟩;by_cases hj:j<x.props.length
    .obtain⟨q,hqx,hrq,Q6⟩:=il JH hj;have hqm:=Zi hqx;have fq:=fcx q hqm;have gq:=fhx q hqm;have hfj:dA .i64 ((j:Int)+1)=((j+1:Nat):Int):=cK (by omega) (by omega);have dH:=cB q.e;have fZ:fM q.e≠0->t_ (eo l)=fM q.e:=λhc=>by
      rw[mZ,<-Zp,M8 E0 hqx,Zp,Zv,VY h0 hc]
     have Ll:=Q4 (q:=q.e) h0;have GA:=Q5 (M7 E0 x.props j) q.e;rw[<-Q3 E0 hqx]at Ll GA;unfold eF at hrq Q6;generalize M6 (M7 E0 x.props j)=ag at jv GA;generalize fM q.e=c at fq fZ Ll;generalize mG q.e=g at gq GA;generalize cM q.e=ev at fq gq hrq Q6 dH;have dJ:ev.take 9=ev:=Yy (by omega);have jT:=qY (ev:= .sc (.string q.key)::ev) (by simp[dH]);by_cases hc:c=0
     .subst hc;cases ag
      .simp[cp,h96,h97,h98,jv,hj,wM,Q6,dH,dJ,jT,fq,gq,hfj];refine⟨⟨by simp[cp],by simp[h1],by simp[h2],by simp[h5],cJ _ hh⟩,VZ,UW,UX,?_,Ll⟩;rw[GA];simp
      .simp[cp,h96,h97,h98,jv,hj,wM,Q6,dH,dJ,jT,fq,hfj];refine⟨⟨by simp[cp],by simp[h1],by simp[h2],by simp[h5],cJ _ hh⟩,VZ,UW,UX,?_,Ll⟩;rw[GA];simp
     .have fZ:=fZ hc;simp[cp,h96,h97,h98,jv,hj,wM,Q6,dH,dJ,jT,fq,hc];exact⟨fZ.symm,λe=>hc (fZ.symm.trans e)⟩
    .have lD:j=x.props.length:=Yb wV (Ya hj);subst lD;rw[VX]at jv h0;simp[cp,h97,h98];exact⟨⟨by simp[cp],by simp[h1],by simp[h2],by simp[h5],hh⟩,VZ,UW,UX,jv,h0⟩
  .rw[Xq]at jv h0;simp[cp,UW,UX];exact⟨⟨by simp[cp],by simp[h1],by simp[h2],by simp[h5],hh⟩,jv,h0⟩
def nY{α:Type}{l:List α}{p:α->Bool}{i:Nat}{x:α}(h:l[i]?=some x):(l.drop i).any p=(p x||(l.drop (i+1)).any p):=by
 obtain⟨k,e⟩:=Za.1 h;rw[Zm k,e,List.any_cons]
def agO(M:Nat)(cr:Bool)(l:List Np)(row:LA)(v:Int)(X:Code)(hl:l.length<=10^9)(FJ:∀x∈l,∀b h,cu cx M b 216 [.ls 1 (eE x.labels) false] h=some (.sc (.bool (eR x.labels)),h))(fk:∀x∈l,∀b h,cu cx M b 215 [.ls 10 (jw x.props) false] h=some (.ls 1 (eE (dX x.props)) false,h))(Lm:∀x∈l,∀b h,cu cx M b 216 [.ls 1 (eE (dX x.props)) false] h=some (.sc (.bool (eR (dX x.props))),h))(hX:∀fr h,SP cr (gZ l) row fr h->PX (M X (fr,h)) v)(fr:LA)(h:Hp)(hS:SP cr (gZ l) row fr h):
 PX (M (.seq (cL (cT 6 nE)) X) (fr,h)) (if l.any uE=true then 26 else v):=by
 obtain⟨cp,h1,h2,h5,hh⟩:=hS;have hq:=fK l;have hg:=kV l;generalize gZ l=rp at hq hg hX h5;generalize hA:l.any uE=A;simp[nE,cT,cR,cL,f138,cp,h5,hq];generalize cU:M (.loop _) _=XX;refine gk cU
  (λi s cD=>SP cr rp row s cD/\gt s 71= .ls 3 rp false/\gt s 72=l.length/\gt s 73=i/\(l.drop i).any uE=A)
  (λo s cD=>(o= .exit 2/\SP cr rp row s cD/\A=false)\/(o= .ret/\gt s 4=(26:Int)/\A=true))
  l.length (by simp;omega) ⟨⟨by simp[cp],by simp[h1],by simp[h2],by simp[h5],hh⟩,by simp[cp],by simp[cp],by simp[cp],hA⟩ ?_ ?_
 .clear cU XX hA;rintro i fr hp cP ⟨⟨cp,h1,h2,h5,hh⟩,h71,h72,h73,hA⟩;rcases dY hg cP with⟨x,hi,hx,hr,cC⟩|rfl
  .have dB:=Zi hx;have hf:dA .i64 ((i:Int)+1)=((i+1:Nat):Int):=cK (by omega) (by omega);rw[nY hx,show uE x=(!eR x.labels|| !eR (dX x.props))from rfl]at hA;have ae:=FJ x dB;have af:=fk x dB;have ah:=Lm x dB;unfold dD at hr cC;generalize eE x.labels=rl at hr cC ae;generalize jw x.props=V0 at hr cC af;generalize eE (dX x.props)=rk at af ah;generalize eR x.labels=w1 at ae hA;generalize eR (dX x.props)=w2 at ah hA;generalize JI:(l.drop (i+1)).any uE=A' at hA;subst hA;cases w1
   .simp[cp,h71,h72,h73,hi,hq,cC,qC,ae]
   .cases w2
    .simp[cp,h71,h72,h73,hi,hq,cC,qC,ae,af,ah]
    .simp[cp,h71,h72,h73,hi,hq,cC,qC,ae,af,ah,hf];exact⟨⟨by simp[cp],by simp[h1],by simp[h2],by simp[h5],cJ _ hh⟩,JI⟩
  .rw[Yc]at hA;subst hA;simp[cp,h72,h73];exact⟨by simp[cp],by simp[h1],by simp[h2],by simp[h5],hh⟩
 .rintro o cG h' rfl hQ;rcases hQ with⟨rfl,hS,rfl⟩|⟨rfl,h4,rfl⟩
  .simp;exact hX _ _ hS
  .simp;exact pf h4
def agP(M:Nat)(cr:Bool)(l:List Np)(row:LA)(v:Int)(X:Code)(hl:l.length<=10^9)(fw:∀x∈l,∀b h,cu cx M b 213 [x.var] h=some (.sc (.bool (dt x.var)),h))(FJ:∀x∈l,∀b h,cu cx M b 214 [.ls 1 (eE x.labels) false] h=some (.sc (.bool (!(x.labels.any λs=> !dt s))),h))(fk:∀x∈l,∀b h,cu cx M b 215 [.ls 10 (jw x.props) false] h=some (.ls 1 (eE (dX x.props)) false,h))(Lm:∀x∈l,∀b h,cu cx M b 214 [.ls 1 (eE (dX x.props)) false] h=some (.sc (.bool (!((dX x.props).any λs=> !dt s))),h))(hX:∀fr h,SP cr (gZ l) row fr h->PX (M X (fr,h)) v)(fr:LA)(h:Hp)(hS:SP cr (gZ l) row fr h):
 PX (M (.seq (cL (cT 5 nE)) X) (fr,h)) (if l.any uD=true then 6 else v):=by
 obtain⟨cp,h1,h2,h5,hh⟩:=hS;have hq:=fK l;have hg:=kV l;generalize gZ l=rp at hq hg hX h5;generalize hA:l.any uD=A;simp[nE,cT,cR,cL,f138,cp,h5,hq];generalize cU:M (.loop _) _=XX;refine gk cU
  (λi s cD=>SP cr rp row s cD/\gt s 42= .ls 3 rp false/\gt s 43=l.length/\gt s 44=i/\(l.drop i).any uD=A)
  (λo s cD=>(o= .exit 0/\SP cr rp row s cD/\A=false)\/(o= .ret/\gt s 4=(6:Int)/\A=true))
  l.length (by simp;omega) ⟨⟨by simp[cp],by simp[h1],by simp[h2],by simp[h5],hh⟩,by simp[cp],by simp[cp],by simp[cp],hA⟩ ?_ ?_
 .clear cU XX hA;rintro i fr hp cP ⟨⟨cp,h1,h2,h5,hh⟩,h42,Z0,Gk,hA⟩;rcases dY hg cP with⟨x,hi,hx,hr,cC⟩|rfl
  .have dB:=Zi hx;have hf:dA .i64 ((i:Int)+1)=((i+1:Nat):Int):=cK (by omega) (by omega);rw[nY hx,show uD x=((!dn x.var ⟨#[]⟩ && !dt x.var)||((x.labels.any λs=> !dt s)||((dX x.props).any λs=> !dt s)))from rfl]at hA;have au:=fw x dB;have ae:=FJ x dB;have af:=fk x dB;have ah:=Lm x dB;unfold dD at hr cC;generalize eE x.labels=rl at hr cC ae;generalize jw x.props=V0 at hr cC af;generalize eE (dX x.props)=rk at af ah;generalize(x.labels.any λs=> !dt s)=w1 at ae hA;generalize((dX x.props).any λs=> !dt s)=w2 at ah hA;generalize dt x.var=w0 at au hA;generalize he:dn x.var ⟨#[]⟩=en,JI:(l.drop (i+1)).any uD=A' at hA;subst hA;cases en
   .cases w0
    .simp[cp,h42,Z0,Gk,hi,hq,cC,qC,he,au]
    .cases w1
     .cases w2
      .simp[cp,h42,Z0,Gk,hi,hq,cC,qC,he,au,ae,af,ah,hf];exact⟨⟨by simp[cp],by simp[h1],by simp[h2],by simp[h5],cJ _ hh⟩,JI⟩
      .simp[cp,h42,Z0,Gk,hi,hq,cC,qC,he,au,ae,af,ah]
     .simp[cp,h42,Z0,Gk,hi,hq,cC,qC,he,au,ae]
   .cases w1
    .cases w2
     .simp[cp,h42,Z0,Gk,hi,hq,cC,qC,he,ae,af,ah,hf];exact⟨⟨by simp[cp],by simp[h1],by simp[h2],by simp[h5],cJ _ hh⟩,JI⟩
     .simp[cp,h42,Z0,Gk,hi,hq,cC,qC,he,ae,af,ah]
    .simp[cp,h42,Z0,Gk,hi,hq,cC,qC,he,ae]
  .rw[Yc]at hA;subst hA;simp[cp,Z0,Gk];exact⟨by simp[cp],by simp[h1],by simp[h2],by simp[h5],hh⟩
 .rintro o cG h' rfl hQ;rcases hQ with⟨rfl,hS,rfl⟩|⟨rfl,h4,rfl⟩
  .simp;exact hX _ _ hS
  .simp;exact pf h4
def SP0(cr:Bool)(row:LA)(fr:LA)(h:Hp):Prop:=fr.length=125/\gt fr 1=cr/\gt fr 2= .pt 0 0/\h[0]?=some (.row row)
def agQ(M:Nat)(cr w:Bool)(vr:ByteArray)(rn re:List LA)(v:Int)(X:Code)(fr:LA)(h:Hp)(hS:SP0 cr [vr,.ls 3 rn false,.ls 7 re false] fr h)(qa qb q:Int)(UY:(rn.length:Int)=qa)(UZ:(re.length:Int)=qb)(hf:dA .i64 (qb+1)=q)(af:∀b h,cu cx M b 209 [.ls 7 re false,.fn 210 []] h=some ((w:AV),h))(hX:∀fr,qa=q->w=false->SP0 cr [vr,.ls 3 rn false,.ls 7 re false] fr h->PX (M X (fr,h)) v):PX (M (.seq (cL (cT 2 nE)) X) (fr,h)) (if qa=q then(if w=true then 1 else v)else 1):=by
 obtain⟨cp,h1,h2,hh⟩:=hS;by_cases c2:qa=q
 .rw[cw c2];have hX:=λfr=>hX fr c2
  cases w
  .simp[nE,cT,cR,cL,f138,cp,h2,hh,UY,UZ,hf,c2,af];exact hX _ rfl ⟨by simp[cp],by simp[h1],by simp[h2],hh⟩
  .simp[nE,cT,cR,cL,f138,cp,h2,hh,UY,UZ,hf,c2,af];exact pf (by simp[cp])
 .rw[cv c2];simp[nE,cT,cR,cL,f138,cp,h2,hh,UY,UZ,hf,c2];exact pf (by simp[cp])
def adF(M:Nat)(cr en w0:Bool)(vr:ByteArray)(rn re rl:List LA)(v:Int)(X:Code)(fr:LA)(h:Hp)(hS:SP0 cr [vr,.ls 3 rn false,.ls 7 re false] fr h)(ak:∀b h,cu cx M b 212 [.ag [vr,.ls 3 rn false,.ls 7 re false]] h=some (.ls 3 rl false,h))(he:dn vr ⟨#[]⟩=en)(ai:∀b h,cu cx M b 213 [vr] h=some ((w0:AV),h))(hX:∀fr,SP cr rl [vr,.ls 3 rn false,.ls 7 re false] fr h->PX (M X (fr,h)) v):PX (M (.seq (cL (cT 3 nE)) (.seq (cL (cT 4 nE)) X)) (fr,h)) (if(!en && !w0)=true then 6 else v):=by
 obtain⟨cp,h1,h2,hh⟩:=hS;cases en
 .cases w0
  .simp[nE,cT,cR,cL,f138,cp,h2,hh,ak,he,ai];exact pf (by simp[cp])
  .simp[nE,cT,cR,cL,f138,cp,h2,hh,ak,he,ai];exact hX _ ⟨by simp[cp],by simp[h1],by simp[h2],by simp[cp],hh⟩
 .simp[nE,cT,cR,cL,f138,cp,h2,hh,ak,he];exact hX _ ⟨by simp[cp],by simp[h1],by simp[h2],by simp[cp],hh⟩
def EA(D d n:Nat)(b:Bool)(p:Tp)(cr:Bool)(h:Hp)(hb:bdT D d p)(hn:2*D+3*d+20<=n):cu cx n b 138 [.ag (dW p),cr] h=some (.sc (.int .i64 (ua p cr)),h):=by
 obtain⟨M,rfl⟩:∃M,n=M+1:=⟨n-1,by omega⟩;obtain⟨M9,V1,Cf,cP⟩:=hb;have dL:[AV.ag (dW p),.sc (.bool cr)].all calm=true:=rfl;refine fU f138 [.tmp 4] dL rfl ?_ b h;obtain⟨k1,e1⟩:∃k,M=k+1:=⟨M-1,by omega⟩;obtain⟨k3,e3⟩:∃k,M=k+3:=⟨M-3,by omega⟩;obtain⟨k4,e4⟩:∃k,M=k+4:=⟨M-4,by omega⟩;obtain⟨k7,e7⟩:∃k,M=k+7:=⟨M-7,by omega⟩;obtain⟨kc,ec⟩:∃k,M=k+2*D+9+d:=⟨M-2*D-9-d,by omega⟩;obtain⟨kh,eh⟩:∃k,M=k+3*d:=⟨M-3*d,by omega⟩;have Pu:=s9 M9 V1;have ae:=λb h=>VR k1 b p h
 rw[<-e1]at ae;have af:=λb h=>abb k4 b p.cE h (by omega)
 have ah:=λb h=>abd k4 b p.cE h (by omega)
 rw[<-e4]at af ah;have ai:=λb h=>oO k3 b p.var h
 rw[<-e3]at ai;have hA:∀fr h,SP cr (gZ (c9 p.nodes p.cE)) [p.var,.ls 3 (gZ p.nodes) false,.ls 7 (nD p.cE) false] fr h->(c9 p.nodes p.cE).length<=10^9->
  PX (M (cT 5 nE) (fr,h)) (if(c9 p.nodes p.cE).any uD=true then 6 else if(c9 p.nodes p.cE).any uE=true then 26 else vL p cr (c9 p.nodes p.cE)):=by
  intro fr h hS oy;rw[show cT 5 nE= .seq (cL (cT 5 nE)) (cT 6 nE) by kernel_rfl];refine agP M cr _ _ _ _ oy (λx hx b h=>by rw[e3];exact oO k3 b x.var h) (λx hx b h=>by rw[e7];exact Gq k7 b x.labels false h (by have:=(Pu x hx).1;omega))
   (λx hx b h=>by rw[e1];exact Ld k1 b x.props false h (Pu x hx).2.1) (λx hx b h=>by rw[e7];exact Gq k7 b (dX x.props) false h (by unfold dX;rw[Yh];have:=(Pu x hx).2.1;omega)) ?_ fr h hS
  intro fr h hS;rw[show cT 6 nE= .seq (cL (cT 6 nE)) (cT 7 nE) by kernel_rfl];refine agO M cr _ _ _ _ oy (λx hx b h=>by rw[e1];exact Gs k1 b x.labels false h (by have:=(Pu x hx).1;omega)) (λx hx b h=>by rw[e1];exact Ld k1 b x.props false h (Pu x hx).2.1)
   (λx hx b h=>by rw[e1];exact Gs k1 b (dX x.props) false h (by unfold dX;rw[Yh];have:=(Pu x hx).2.1;omega)) ?_ fr h hS
  intro fr h hS;rw[show cT 7 nE= .seq (cL (cT 7 nE)) (.seq (cL (cT 8 nE)) (cT 9 nE)) by kernel_rfl];unfold vL Q2;exact agN M cr _ _ (λagg=>if agg=true then 9 else if(cr && p.cE.any yG)=true then 1 else 0) _ oy (λx hx=>(Pu x hx).2.1) (λx hx q hq b h=>by rw[ec];exact qt kc D d b q.e h ((Pu x hx).2.2 q hq).1 ((Pu x hx).2.2 q hq).2)
   (λx hx q hq b h=>by rw[eh];exact CV D d q.e ((Pu x hx).2.2 q hq).1 ((Pu x hx).2.2 q hq).2 kh b h) (λfr h agg hS jv=>agM M cr agg (p.cE.any yG) _ _ _ _ fr h hS jv ah) fr h hS
 show(dT _ (M nE _)).map Prod.fst=_;rw[show nE= .seq (cL (cT 0 nE)) (.seq (cL (cT 1 nE)) (.seq (cL (cT 2 nE)) (.seq (cL (cT 3 nE)) (.seq (cL (cT 4 nE)) (cT 5 nE))))) by kernel_rfl];generalize cT 5 nE=X5 at hA|-;unfold ua;have hl6:qZ p=false->p.cE.length<=6:=λhlg=>by
  unfold qZ at hlg;simp only[Bool.or_eq_false_iff,decide_eq_false_iff_not]at hlg;omega
 have ak:p.nodes.length<=10^8->∀b h,cu cx M b 212 [.ag (dW p)] h=some (.ls 3 (gZ (c9 p.nodes p.cE)) false,h):=λhh b h=>by rw[e1];exact Q1 k1 b p h hh
 have oy:=qz p.nodes p.cE;clear e1 e3 e4 e7 ec eh dL Pu M9 V1;obtain⟨vr,ns,es⟩:=p;unfold dW at ae ak|-;simp only at ae af ai ak hA hl6 Cf cP oy|-;have hq:=fK ns;have xc:=fL es;generalize gZ ns=rn at hq ae ak hA|-;generalize nD es=re at xc ae af ah ak hA|-;generalize qZ ⟨vr,ns,es⟩=lg at ae hl6|-;cases lg
 rotate_left
 .simp[nE,cT,cR,cL,f138,ae]
 have hl6:=hl6 rfl;have ak:=λ(hc:ns.length=es.length+1)=>ak (by omega)
 have V2:ns.length=es.length+1->(c9 ns es).length<=10^9:=λhc=>by omega
 have fH:es.length<=1000000000000000:=by omega
 have UY:(rn.length:Int)=(ns.length:Int):=by rw[hq]
 have UZ:(re.length:Int)=(es.length:Int):=by rw[xc]
 have ta:ns.length=es.length+1↔(ns.length:Int)=((es.length+1:Nat):Int):=by omega
 have hv:(if(!decide (ns.length=es.length+1)||es.any r7)=true then(1:Int)else if(!dn vr ⟨#[]⟩ && !dt vr)=true then 6 else if(c9 ns es).any uD=true then 6 else if(c9 ns es).any uE=true then 26 else vL ⟨vr,ns,es⟩ cr (c9 ns es))=
  if(ns.length:Int)=((es.length+1:Nat):Int)then(if es.any r7=true then 1 else if(!dn vr ⟨#[]⟩ && !dt vr)=true then 6 else if(c9 ns es).any uD=true then 6 else if(c9 ns es).any uE=true then 26 else vL ⟨vr,ns,es⟩ cr (c9 ns es))else 1:=by
  by_cases hc:ns.length=es.length+1
  .rw[cw (ta.1 hc),decide_eq_true hc];rfl
  .rw[cv (λe=>hc (ta.2 e)),decide_eq_false hc];rfl
 rw[cv (by simp),hv];clear hv;have hf:=cz fH;have hZ:∀fr h,SP0 cr [vr,.ls 3 rn false,.ls 7 re false] fr h->PX (M (.seq (cL (cT 2 nE)) (.seq (cL (cT 3 nE)) (.seq (cL (cT 4 nE)) X5))) (fr,h)) (if(ns.length:Int)=((es.length+1:Nat):Int)then(if es.any r7=true then 1 else if(!dn vr ⟨#[]⟩ && !dt vr)=true then 6 else if(c9 ns es).any uD=true then 6 else if(c9 ns es).any uE=true then 26 else vL ⟨vr,ns,es⟩ cr (c9 ns es))else 1):=
  λfr h hS=>agQ M cr (es.any r7) vr rn re _ _ fr h hS _ _ _ UY UZ hf af λfr hc _ hS=>adF M cr _ (dt vr) vr rn re _ _ _ fr h hS (ak (ta.2 hc)) rfl ai λfr hS=>hA fr h hS (V2 (ta.2 hc))
 generalize(Code.seq (cL (cT 2 nE)) (.seq (cL (cT 3 nE)) (.seq (cL (cT 4 nE)) X5)))=Z,(if(ns.length:Int)=((es.length+1:Nat):Int)then _ else _)=V at hZ|-;clear hf ta V2 ak hA UY UZ;simp[nE,cT,cR,cL,f138,ae];exact hZ _ _ ⟨by simp,by simp,by simp,rfl⟩
end
end Go.Proofs.YtmocfjnklfpnbaaGreatDoor
