/- Part of the proof. -/
import Derived.Test.YtmocfjnklfpnbaaGreatDoorP15
set_option linter.all false
set_option maxHeartbeats 32000000
set_option maxRecDepth 100000
namespace Go.Proofs.YtmocfjnklfpnbaaGreatDoor
open Go Go.Ae Go.Proofs.Tryz
section
attribute [local simp] ew eY
def cS(a b:Int):Int:=if a=0 then b else a
def uF(a:Int):cS a 0=a:=by unfold cS;split<;>simp_all
def gG(e:Int)(l:List Int):Int:=l.foldl cS e
def nF(e:Int)(a b:List Int):gG e (a++b)=gG (gG e a) b:=Xu
def jQ(e:Int)(a:Int)(b:List Int):gG e (a::b)=gG (cS e a) b:=rfl
def iL(e:Int):gG e []=e:=rfl
def iz(s:ByteArray):Int:=if dt s=true then 0 else 6
def r8{h:Hp}{id:Nat}{b:eV}(hb:h[id]?=some b):h.set id b=h:=by
 apply List.ext_getElem?;intro j;rw[List.getElem?_set];split
 .rename_i e;subst e;have:=(Za.1 hb).1;rw[cw this,hb]
 .rfl
def dC{h:Hp}{id:Nat}{b c:eV}(hb:h[id]?=some c):(h.set id b)[id]?=some b:=by
 have:=(Za.1 hb).1;rw[List.getElem?_set,cw rfl,cw this]
def d_{h:Hp}{id j:Nat}{b c:eV}(hj:h[j]?=some c)(gE:id≠j):(h.set id b)[j]?=some c:=by
 rw[List.getElem?_set,cv gE];exact hj
def Q7(n:Nat)(t:Bool)(id:Nat)(e0 e:Int)(h:Hp)(h0:h[id]?=some (.row [e0])):cu cx (n+1) t 137 [.pt id 0,e] h=some (.tp [],h.set id (.row [.sc (.int .i64 (cS e0 e))])):=by
 rw[rr (n:=n) f137 []];unfold cS;by_cases c:e0=0
 .subst c;simp[f137,h0,cF,h_]
 .rw[cv c,r8 h0];simp[f137,h0,c,h_]
def V3(n:Nat)(t:Bool)(id:Nat)(e0:Int)(s:ByteArray)(h:Hp)(h0:h[id]?=some (.row [e0])):cu cx (n+4) t 140 [.pt id 0,s] h=some (.tp [],h.set id (.row [.sc (.int .i64 (cS e0 (iz s)))])):=by
 rw[rr (n:=n+3) f140 []];have ae:=λb=>oO n b s h
 have af:=λb=>Q7 (n+2) b id e0 6 h h0
 unfold iz;generalize dt s=w at ae;cases w
 .rw[cv (by simp)];generalize cS e0 6=q at af;generalize n+3=M at ae af;simp[f140,ae,af,h_]
 .rw[cw rfl,uF,r8 h0];generalize n+3=M at ae;simp[f140,ae,h_]
noncomputable def qD :Code:=(f76.body).getD .skip
def ie(kd:Int)(op ds:Bool)(r1 r2:List LA)(a0 a1 a2 a3 a4 a5 a6 a7 a8:AV)(nm:ByteArray)(r3 r4:List LA)(sk li:Int)(r5 r6:List LA):LA:=
 [.sc (.int .i64 kd),.sc (.bool op),.sc (.bool ds),.ls 3 r1 false,.ls 9 r2 false,a0,a1,a2,a3,a4,a5,a6,a7,a8,.sc (.string nm),.ls 10 r3 false,.ls 10 r4 false,.sc (.int .i64 sk),.sc (.int .i64 li),.ls 13 r5 false,.ls 1 r6 false]
def SC(row:LA)(e:Int)(fr:LA)(h:Hp):Prop:=fr.length=115/\gt fr 1= .pt 0 0/\gt fr 3= .pt 1 0/\h[0]?=some (.row row)/\h[1]?=some (.row [e])
def PC(r:Option (Out × St))(v:Int):Prop:=∃h',dT [.tmp 2] r=some ((v:AV),h')
def abe{fr:LA}{h:Hp}{v:Int}(h4:gt fr 2=v):PC (some (.ret,(fr,h))) v:=⟨h,by simp[h4]⟩
def agR{ev:LA}(h:ev.length=3)(a b c:AV):cF [a,b,c] 0 ev=ev:=by
 unfold cF;rw[List.take_zero,Zw,Xk,h];simp
def GB{ev:LA}(h:ev.length=13)(a b c d e f g i j k l m n:AV):cF [a,b,c,d,e,f,g,i,j,k,l,m,n] 0 ev=ev:=by
 unfold cF;rw[List.take_zero,Zw,Xk,h];simp
def iK(e:Ep):∃a0 a1 a2 a3 a4 a5 a6 a7 a8,cM e=[a0,a1,a2,a3,a4,a5,a6,a7,a8]:=by
 have dH:=cB e
 match cM e,dH with
 | [a0,a1,a2,a3,a4,a5,a6,a7,a8],_=>exact⟨_,_,_,_,_,_,_,_,_,rfl⟩
def jX{α:Type}{l:List α}{i:Nat}{x:α}(h:l[i]?=some x):l.take (i+1)=l.take i++[x]:=by rw[Xt,h];rfl
variable (M : Nat) (kd : Int) (op ds : Bool) (r1 r2 : List LA) (a0 a1 a2 a3 a4 a5 a6 a7 a8 : AV) (nm : ByteArray) (r3 r4 : List LA) (sk li : Int) (r5 r6 : List LA)
def agT(l:List Tp)(e0 v:Int)(X:Code)(hl:l.length<=10^9)(hq:r1.length=l.length)(hg:∀i:Nat,r1[i]?=(l[i]?).map dW)(f:∀x∈l,∀b h,cu cx M b 138 [.ag (dW x),.sc (.bool (decide (kd=5)))] h=some (.sc (.int .i64 (ua x (decide (kd=5)))),h))(fa:∀b id e0 e h,h[id]?=some (.row [.sc (.int .i64 e0)])->cu cx M b 137 [.pt id 0,.sc (.int .i64 e)] h=some (.tp [],h.set id (.row [.sc (.int .i64 (cS e0 e))])))(hX:∀fr h,SC (ie kd op ds r1 r2 a0 a1 a2 a3 a4 a5 a6 a7 a8 nm r3 r4 sk li r5 r6) (gG e0 (l.flatMap λx=> [ua x (decide (kd=5))])) fr h->PC (M X (fr,h)) v)(fr:LA)(h:Hp)(hS:SC (ie kd op ds r1 r2 a0 a1 a2 a3 a4 a5 a6 a7 a8 nm r3 r4 sk li r5 r6) e0 fr h):PC (M (.seq (cL (cT 3 qD)) X) (fr,h)) v:=by
 obtain⟨cp,h1,h3,hh,kJ⟩:=hS;generalize cY:ie kd op ds r1 r2 a0 a1 a2 a3 a4 a5 a6 a7 a8 nm r3 r4 sk li r5 r6=row at hh hX;have di:=cY.symm;unfold ie at di;simp[qD,cT,cR,cL,f76,cp,h1,hh,di,hq];generalize cU:M (.loop _) _=XX;generalize hA:(l.flatMap λx=> [ua x (decide (kd=5))])=A at hX;refine gk cU
  (λi s cD=>(∃e,SC row e s cD/\gG e ((l.drop i).flatMap λx=> [ua x (decide (kd=5))])=gG e0 A)/\gt s 31= .ls 3 r1 false/\gt s 32=l.length/\gt s 33=i)
  (λo s cD=>o= .exit 1/\SC row (gG e0 A) s cD)
  l.length (by simp;omega) ⟨⟨e0,⟨by simp[cp],by simp[h1],by simp[h3],hh,kJ⟩,by rw[Yd,hA]⟩,by simp[cp]⟩ ?_ ?_
 .clear cU XX hA hX hh kJ cY;rintro i fr hp cP ⟨⟨e,⟨cp,h1,h3,hh,kJ⟩,hE⟩,Ln,oL,BP⟩;rcases dY hg cP with⟨x,hi,hx,hr,cC⟩|rfl
  .have dB:=Zi hx;have hf:dA .i64 ((i:Int)+1)=((i+1:Nat):Int):=cK (by omega) (by omega);rw[show l.drop i=x::l.drop (i+1) by obtain⟨k,e⟩:=Za.1 hx;rw[Zm k,e],Ym,nF]at hE;have ae:=f x dB;have dH:(dW x).length=3:=rfl;generalize ua x (decide (kd=5))=c at ae hE;generalize dW x=ev at hr cC ae dH;have r9:ev.take 3=ev:=Yy (by omega);have jT:=agR dH;have wL:=λb=>fa b 1 e c (hp++[.row ev]) (cJ _ kJ)
   have vM:=d_ (id:=1) (b:= .row [.sc (.int .i64 (cS e c))]) (cJ [.row ev] hh) (by omega);have tF:=dC (id:=1) (b:= .row [.sc (.int .i64 (cS e c))]) (cJ [.row ev] kJ);have V4:=cJ [.row ev] hh;have Au:∀k,(hp++[eV.row ev])[0]'k= .row row:=λkx=>by obtain⟨_,e⟩:=Za.1 V4;exact e
   rw[jQ,iL]at hE;generalize cS e c=e' at wL hE vM tF;simp[cp,h1,h3,di,Ln,oL,BP,hi,hq,cC,hf,ae,wL,jT,r9,dH,Au];refine⟨_,⟨by simp[cp],by simp[h1],by simp[h3],?_,?_⟩,hE⟩
   .rw[<-di];exact vM
   .exact tF
  .rw[Yc,Xo,iL]at hE;subst hE;simp[cp,oL,BP];exact⟨by simp[cp],by simp[h1],by simp[h3],hh,kJ⟩
 .rintro o cG h' rfl ⟨rfl,hS⟩;simp;exact hX _ _ hS
def agU(l:List Ep)(e0 v:Int)(X:Code)(hl:l.length<=10^9)(hq:r2.length=l.length)(hg:∀i:Nat,r2[i]?=(l[i]?).map cM)(f:∀x∈l,∀b h,cu cx M b 139 [.ag (cM x)] h=some (.sc (.int .i64 (fM x)),h))(fa:∀b id e0 e h,h[id]?=some (.row [.sc (.int .i64 e0)])->cu cx M b 137 [.pt id 0,.sc (.int .i64 e)] h=some (.tp [],h.set id (.row [.sc (.int .i64 (cS e0 e))])))(hX:∀fr h,SC (ie kd op ds r1 r2 a0 a1 a2 a3 a4 a5 a6 a7 a8 nm r3 r4 sk li r5 r6) (gG e0 (l.flatMap λx=> [fM x])) fr h->PC (M X (fr,h)) v)(fr:LA)(h:Hp)(hS:SC (ie kd op ds r1 r2 a0 a1 a2 a3 a4 a5 a6 a7 a8 nm r3 r4 sk li r5 r6) e0 fr h):PC (M (.seq (cL (cT 4 qD)) X) (fr,h)) v:=by
 obtain⟨cp,h1,h3,hh,kJ⟩:=hS;generalize cY:ie kd op ds r1 r2 a0 a1 a2 a3 a4 a5 a6 a7 a8 nm r3 r4 sk li r5 r6=row at hh hX;have di:=cY.symm;unfold ie at di;simp[qD,cT,cR,cL,f76,cp,h1,hh,di,hq];generalize cU:M (.loop _) _=XX;generalize hA:(l.flatMap λx=> [fM x])=A at hX;refine gk cU
  (λi s cD=>(∃e,SC row e s cD/\gG e ((l.drop i).flatMap λx=> [fM x])=gG e0 A)/\gt s 45= .ls 9 r2 false/\gt s 46=l.length/\gt s 47=i)
  (λo s cD=>o= .exit 3/\SC row (gG e0 A) s cD)
  l.length (by simp;omega) ⟨⟨e0,⟨by simp[cp],by simp[h1],by simp[h3],hh,kJ⟩,by rw[Yd,hA]⟩,by simp[cp]⟩ ?_ ?_
 .clear cU XX hA hX hh kJ cY;rintro i fr hp cP ⟨⟨e,⟨cp,h1,h3,hh,kJ⟩,hE⟩,Ln,oL,BP⟩;rcases dY hg cP with⟨x,hi,hx,hr,cC⟩|rfl
  .have dB:=Zi hx;have hf:dA .i64 ((i:Int)+1)=((i+1:Nat):Int):=cK (by omega) (by omega);rw[show l.drop i=x::l.drop (i+1) by obtain⟨k,e⟩:=Za.1 hx;rw[Zm k,e],Ym,nF]at hE;have ae:=f x dB;have dH:(cM x).length=9:=cB x;generalize fM x=c at ae hE;generalize cM x=ev at hr cC ae dH;have r9:ev.take 9=ev:=Yy (by omega);have jT:=rW dH;have wL:=λb=>fa b 1 e c (hp++[.row ev]) (cJ _ kJ)
   have vM:=d_ (id:=1) (b:= .row [.sc (.int .i64 (cS e c))]) (cJ [.row ev] hh) (by omega);have tF:=dC (id:=1) (b:= .row [.sc (.int .i64 (cS e c))]) (cJ [.row ev] kJ);have V4:=cJ [.row ev] hh;have Au:∀k,(hp++[eV.row ev])[0]'k= .row row:=λkx=>by obtain⟨_,e⟩:=Za.1 V4;exact e
   rw[jQ,iL]at hE;generalize cS e c=e' at wL hE vM tF;simp[cp,h3,di,Ln,oL,BP,hi,hq,cC,hf,ae,wL,jT,r9,dH];refine⟨_,⟨by simp[cp],by simp[h1],by simp[h3],?_,?_⟩,hE⟩
   .rw[<-di];exact vM
   .exact tF
  .rw[Yc,Xo,iL]at hE;subst hE;simp[cp,oL,BP];exact⟨by simp[cp],by simp[h1],by simp[h3],hh,kJ⟩
 .rintro o cG h' rfl ⟨rfl,hS⟩;simp;exact hX _ _ hS
def agV(l:List Sp)(e0 v:Int)(X:Code)(hl:l.length<=10^9)(hq:r5.length=l.length)(hg:∀i:Nat,r5[i]?=(l[i]?).map fD)(f:∀x∈l,∀b h,cu cx M b 141 [.ag (fD x)] h=some (.sc (.int .i64 (oA x)),h))(fa:∀b id e0 e h,h[id]?=some (.row [.sc (.int .i64 e0)])->cu cx M b 137 [.pt id 0,.sc (.int .i64 e)] h=some (.tp [],h.set id (.row [.sc (.int .i64 (cS e0 e))])))(hX:∀fr h,SC (ie kd op ds r1 r2 a0 a1 a2 a3 a4 a5 a6 a7 a8 nm r3 r4 sk li r5 r6) (gG e0 (l.flatMap λx=> [oA x])) fr h->PC (M X (fr,h)) v)(fr:LA)(h:Hp)(hS:SC (ie kd op ds r1 r2 a0 a1 a2 a3 a4 a5 a6 a7 a8 nm r3 r4 sk li r5 r6) e0 fr h):PC (M (.seq (cL (cT 8 qD)) X) (fr,h)) v:=by
 obtain⟨cp,h1,h3,hh,kJ⟩:=hS;generalize cY:ie kd op ds r1 r2 a0 a1 a2 a3 a4 a5 a6 a7 a8 nm r3 r4 sk li r5 r6=row at hh hX;have di:=cY.symm;unfold ie at di;simp[qD,cT,cR,cL,f76,cp,h1,hh,di,hq];generalize cU:M (.loop _) _=XX;generalize hA:(l.flatMap λx=> [oA x])=A at hX;refine gk cU
  (λi s cD=>(∃e,SC row e s cD/\gG e ((l.drop i).flatMap λx=> [oA x])=gG e0 A)/\gt s 93= .ls 13 r5 false/\gt s 94=l.length/\gt s 95=i)
  (λo s cD=>o= .exit 9/\SC row (gG e0 A) s cD)
  l.length (by simp;omega) ⟨⟨e0,⟨by simp[cp],by simp[h1],by simp[h3],hh,kJ⟩,by rw[Yd,hA]⟩,by simp[cp]⟩ ?_ ?_
 .clear cU XX hA hX hh kJ cY;rintro i fr hp cP ⟨⟨e,⟨cp,h1,h3,hh,kJ⟩,hE⟩,Ln,oL,BP⟩;rcases dY hg cP with⟨x,hi,hx,hr,cC⟩|rfl
  .have dB:=Zi hx;have hf:dA .i64 ((i:Int)+1)=((i+1:Nat):Int):=cK (by omega) (by omega);rw[show l.drop i=x::l.drop (i+1) by obtain⟨k,e⟩:=Za.1 hx;rw[Zm k,e],Ym,nF]at hE;have ae:=f x dB;have dH:(fD x).length=13:=by simp[fD,cB]
   generalize oA x=c at ae hE;generalize fD x=ev at hr cC ae dH;have r9:ev.take 13=ev:=Yy (by omega);have jT:=GB dH;have wL:=λb=>fa b 1 e c (hp++[.row ev]) (cJ _ kJ)
   have vM:=d_ (id:=1) (b:= .row [.sc (.int .i64 (cS e c))]) (cJ [.row ev] hh) (by omega);have tF:=dC (id:=1) (b:= .row [.sc (.int .i64 (cS e c))]) (cJ [.row ev] kJ);have V4:=cJ [.row ev] hh;have Au:∀k,(hp++[eV.row ev])[0]'k= .row row:=λkx=>by obtain⟨_,e⟩:=Za.1 V4;exact e
   rw[jQ,iL]at hE;generalize cS e c=e' at wL hE vM tF;simp[cp,h3,di,Ln,oL,BP,hi,hq,cC,hf,ae,wL,jT,r9,dH];refine⟨_,⟨by simp[cp],by simp[h1],by simp[h3],?_,?_⟩,hE⟩
   .rw[<-di];exact vM
   .exact tF
  .rw[Yc,Xo,iL]at hE;subst hE;simp[cp,oL,BP];exact⟨by simp[cp],by simp[h1],by simp[h3],hh,kJ⟩
 .rintro o cG h' rfl ⟨rfl,hS⟩;simp;exact hX _ _ hS
def agW(l:List BN)(e0 v:Int)(X:Code)(hl:l.length<=10^9)(hq:r4.length=l.length)(hg:∀i:Nat,r4[i]?=(l[i]?).map js)(f:∀x∈l,∀b h,cu cx M b 139 [.ag (cM x.e)] h=some (.sc (.int .i64 (fM x.e)),h))(fa:∀b id e0 e h,h[id]?=some (.row [.sc (.int .i64 e0)])->cu cx M b 137 [.pt id 0,.sc (.int .i64 e)] h=some (.tp [],h.set id (.row [.sc (.int .i64 (cS e0 e))])))(hX:∀fr h,SC (ie kd op ds r1 r2 a0 a1 a2 a3 a4 a5 a6 a7 a8 nm r3 r4 sk li r5 r6) (gG e0 (l.flatMap λx=> [fM x.e])) fr h->PC (M X (fr,h)) v)(fr:LA)(h:Hp)(hS:SC (ie kd op ds r1 r2 a0 a1 a2 a3 a4 a5 a6 a7 a8 nm r3 r4 sk li r5 r6) e0 fr h):PC (M (.seq (cL (cT 7 qD)) X) (fr,h)) v:=by
 obtain⟨cp,h1,h3,hh,kJ⟩:=hS;generalize cY:ie kd op ds r1 r2 a0 a1 a2 a3 a4 a5 a6 a7 a8 nm r3 r4 sk li r5 r6=row at hh hX;have di:=cY.symm;unfold ie at di;simp[qD,cT,cR,cL,f76,cp,h1,hh,di,hq];generalize cU:M (.loop _) _=XX;generalize hA:(l.flatMap λx=> [fM x.e])=A at hX;refine gk cU
  (λi s cD=>(∃e,SC row e s cD/\gG e ((l.drop i).flatMap λx=> [fM x.e])=gG e0 A)/\gt s 81= .ls 10 r4 false/\gt s 82=l.length/\gt s 83=i)
  (λo s cD=>o= .exit 7/\SC row (gG e0 A) s cD)
  l.length (by simp;omega) ⟨⟨e0,⟨by simp[cp],by simp[h1],by simp[h3],hh,kJ⟩,by rw[Yd,hA]⟩,by simp[cp]⟩ ?_ ?_
 .clear cU XX hA hX hh kJ cY;rintro i fr hp cP ⟨⟨e,⟨cp,h1,h3,hh,kJ⟩,hE⟩,Ln,oL,BP⟩;rcases dY hg cP with⟨x,hi,hx,hr,cC⟩|rfl
  .have dB:=Zi hx;have hf:dA .i64 ((i:Int)+1)=((i+1:Nat):Int):=cK (by omega) (by omega);rw[show l.drop i=x::l.drop (i+1) by obtain⟨k,e⟩:=Za.1 hx;rw[Zm k,e],Ym,nF]at hE;have ae:=f x dB;obtain⟨b0,b1,b2,b3,b4,b5,b6,b7,b8,gC⟩:=iK x.e;generalize fM x.e=c at ae hE;unfold js at hr cC;rw[gC]at hr ae;simp only[gC]at cC;simp only[Zv,Zw]at hr cC;have jT:=qY (ev:=[b0,b1,b2,b3,b4,b5,b6,b7,b8,.sc (.bool x.desc)]) rfl;have wL:=λb=>fa b 1 e c (hp++[.row [b0,b1,b2,b3,b4,b5,b6,b7,b8,x.desc]]) (cJ _ kJ)
   have vM:=d_ (id:=1) (b:= .row [.sc (.int .i64 (cS e c))]) (cJ [.row [b0,b1,b2,b3,b4,b5,b6,b7,b8,x.desc]] hh) (by omega);have tF:=dC (id:=1) (b:= .row [.sc (.int .i64 (cS e c))]) (cJ [.row [b0,b1,b2,b3,b4,b5,b6,b7,b8,x.desc]] kJ);rw[jQ,iL]at hE;generalize cS e c=e' at wL hE vM tF;simp[cp,h3,di,Ln,oL,BP,hi,hq,cC,hf,ae,wL,jT];refine⟨_,⟨by simp[cp],by simp[h1],by simp[h3],?_,?_⟩,hE⟩
   .rw[<-di];exact vM
   .exact tF
  .rw[Yc,Xo,iL]at hE;subst hE;simp[cp,oL,BP];exact⟨by simp[cp],by simp[h1],by simp[h3],hh,kJ⟩
 .rintro o cG h' rfl ⟨rfl,hS⟩;simp;exact hX _ _ hS
def agY(l:List Ip)(e0 v:Int)(X:Code)(hl:l.length<=10^9)(hq:r3.length=l.length)(hg:∀i:Nat,r3[i]?=(l[i]?).map jr)(f:∀x∈l,∀b h,cu cx M b 139 [.ag (cM x.e)] h=some (.sc (.int .i64 (fM x.e)),h))(fa:∀b id e0 e h,h[id]?=some (.row [.sc (.int .i64 e0)])->cu cx M b 137 [.pt id 0,.sc (.int .i64 e)] h=some (.tp [],h.set id (.row [.sc (.int .i64 (cS e0 e))])))(fn:∀b id e0 s h,h[id]?=some (.row [.sc (.int .i64 e0)])->cu cx M b 140 [.pt id 0,.sc (.string s)] h=some (.tp [],h.set id (.row [.sc (.int .i64 (cS e0 (iz s)))])))(hX:∀fr h,SC (ie kd op ds r1 r2 a0 a1 a2 a3 a4 a5 a6 a7 a8 nm r3 r4 sk li r5 r6) (gG e0 (l.flatMap λx=> [fM x.e,iz x.nm])) fr h->PC (M X (fr,h)) v)(fr:LA)(h:Hp)(hS:SC (ie kd op ds r1 r2 a0 a1 a2 a3 a4 a5 a6 a7 a8 nm r3 r4 sk li r5 r6) e0 fr h):PC (M (.seq (cL (cT 6 qD)) X) (fr,h)) v:=by
 obtain⟨cp,h1,h3,hh,kJ⟩:=hS;generalize cY:ie kd op ds r1 r2 a0 a1 a2 a3 a4 a5 a6 a7 a8 nm r3 r4 sk li r5 r6=row at hh hX;have di:=cY.symm;unfold ie at di;simp[qD,cT,cR,cL,f76,cp,h1,hh,di,hq];generalize cU:M (.loop _) _=XX;generalize hA:(l.flatMap λx=> [fM x.e,iz x.nm])=A at hX;refine gk cU
  (λi s cD=>(∃e,SC row e s cD/\gG e ((l.drop i).flatMap λx=> [fM x.e,iz x.nm])=gG e0 A)/\gt s 66= .ls 10 r3 false/\gt s 67=l.length/\gt s 68=i)
  (λo s cD=>o= .exit 5/\SC row (gG e0 A) s cD)
  l.length (by simp;omega) ⟨⟨e0,⟨by simp[cp],by simp[h1],by simp[h3],hh,kJ⟩,by rw[Yd,hA]⟩,by simp[cp]⟩ ?_ ?_
 .clear cU XX hA hX hh kJ cY;rintro i fr hp cP ⟨⟨e,⟨cp,h1,h3,hh,kJ⟩,hE⟩,Ln,oL,BP⟩;rcases dY hg cP with⟨x,hi,hx,hr,cC⟩|rfl
  .have dB:=Zi hx;have hf:dA .i64 ((i:Int)+1)=((i+1:Nat):Int):=cK (by omega) (by omega);rw[show l.drop i=x::l.drop (i+1) by obtain⟨k,e⟩:=Za.1 hx;rw[Zm k,e],Ym,nF]at hE;have ae:=f x dB;obtain⟨b0,b1,b2,b3,b4,b5,b6,b7,b8,gC⟩:=iK x.e;generalize fM x.e=c at ae hE;unfold jr at hr cC;rw[gC]at hr ae;simp only[gC]at cC;simp only[Zv,Zw]at hr cC;have jT:=qY (ev:=[b0,b1,b2,b3,b4,b5,b6,b7,b8,.sc (.string x.nm)]) rfl;have wL:=λb=>fa b 1 e c (hp++[.row [b0,b1,b2,b3,b4,b5,b6,b7,b8,x.nm]]) (cJ _ kJ)
   have vM:=d_ (id:=1) (b:= .row [.sc (.int .i64 (cS e c))]) (cJ [.row [b0,b1,b2,b3,b4,b5,b6,b7,b8,x.nm]] hh) (by omega);have tF:=dC (id:=1) (b:= .row [.sc (.int .i64 (cS e c))]) (cJ [.row [b0,b1,b2,b3,b4,b5,b6,b7,b8,x.nm]] kJ);have Pv:=λb=>fn b 1 (cS e c) x.nm _ tF
   have Ja:=d_ (id:=1) (b:= .row [.sc (.int .i64 (cS (cS e c) (iz x.nm)))]) vM (by omega);have hk3:=dC (id:=1) (b:= .row [.sc (.int .i64 (cS (cS e c) (iz x.nm)))]) tF;have Ev:((hp++[eV.row [b0,b1,b2,b3,b4,b5,b6,b7,b8,x.nm]]).set 1 (.row [.sc (.int .i64 (cS e c))]))[hp.length]?=some (.row [b0,b1,b2,b3,b4,b5,b6,b7,b8,x.nm]):=by
    refine d_ (by simp) ?_;have:=(Za.1 kJ).1;omega
   rw[jQ,jQ,iL]at hE;clear vM tF;have vM:=Ja;have tF:=hk3;clear Ja hk3;generalize cS (cS e c) (iz x.nm)=e' at Pv hE vM tF;generalize cS e c=e1 at wL Pv vM tF Ev;generalize((hp++[eV.row [b0,b1,b2,b3,b4,b5,b6,b7,b8,x.nm]]).set 1 (.row [e1]))=hp2 at wL Pv vM tF Ev;simp[cp,h3,di,Ln,oL,BP,hi,hq,cC,hf,ae,wL,Pv,Ev,jT];refine⟨_,⟨by simp[cp],by simp[h1],by simp[h3],?_,?_⟩,hE⟩
   .rw[<-di];exact vM
   .exact tF
  .rw[Yc,Xo,iL]at hE;subst hE;simp[cp,oL,BP];exact⟨by simp[cp],by simp[h1],by simp[h3],hh,kJ⟩
 .rintro o cG h' rfl ⟨rfl,hS⟩;simp;exact hX _ _ hS
def agZ(l:List ByteArray)(e0 v:Int)(X:Code)(hl:l.length<=10^9)(hq:r6.length=l.length)(hg:∀i:Nat,r6[i]?=(l[i]?).map (λs=> [.sc (.string s)]))(fn:∀b id e0 s h,h[id]?=some (.row [.sc (.int .i64 e0)])->cu cx M b 140 [.pt id 0,.sc (.string s)] h=some (.tp [],h.set id (.row [.sc (.int .i64 (cS e0 (iz s)))])))(hX:∀fr h,SC (ie kd op ds r1 r2 a0 a1 a2 a3 a4 a5 a6 a7 a8 nm r3 r4 sk li r5 r6) (gG e0 (l.flatMap λx=> [iz x])) fr h->PC (M X (fr,h)) v)(fr:LA)(h:Hp)(hS:SC (ie kd op ds r1 r2 a0 a1 a2 a3 a4 a5 a6 a7 a8 nm r3 r4 sk li r5 r6) e0 fr h):PC (M (.seq (cL (cT 9 qD)) X) (fr,h)) v:=by
 obtain⟨cp,h1,h3,hh,kJ⟩:=hS;generalize cY:ie kd op ds r1 r2 a0 a1 a2 a3 a4 a5 a6 a7 a8 nm r3 r4 sk li r5 r6=row at hh hX;have di:=cY.symm;unfold ie at di;simp[qD,cT,cR,cL,f76,cp,h1,hh,di,hq];generalize cU:M (.loop _) _=XX;generalize hA:(l.flatMap λx=> [iz x])=A at hX;refine gk cU
  (λi s cD=>(∃e,SC row e s cD/\gG e ((l.drop i).flatMap λx=> [iz x])=gG e0 A)/\gt s 104= .ls 1 r6 false/\gt s 105=l.length/\gt s 106=i)
  (λo s cD=>o= .exit 11/\SC row (gG e0 A) s cD)
  l.length (by simp;omega) ⟨⟨e0,⟨by simp[cp],by simp[h1],by simp[h3],hh,kJ⟩,by rw[Yd,hA]⟩,by simp[cp]⟩ ?_ ?_
 .clear cU XX hA hX hh kJ cY;rintro i fr hp cP ⟨⟨e,⟨cp,h1,h3,hh,kJ⟩,hE⟩,Ln,oL,BP⟩;rcases dY hg cP with⟨x,hi,hx,hr,cC⟩|rfl
  .have dB:=Zi hx;have hf:dA .i64 ((i:Int)+1)=((i+1:Nat):Int):=cK (by omega) (by omega);rw[show l.drop i=x::l.drop (i+1) by obtain⟨k,e⟩:=Za.1 hx;rw[Zm k,e],Ym,nF]at hE;have Pv:=λb=>fn b 1 e x hp kJ
   have vM:=d_ (id:=1) (b:= .row [.sc (.int .i64 (cS e (iz x)))]) hh (by omega);have tF:=dC (id:=1) (b:= .row [.sc (.int .i64 (cS e (iz x)))]) kJ;rw[jQ,iL]at hE;generalize cS e (iz x)=e' at Pv hE vM tF;simp[cp,h3,di,Ln,oL,BP,hi,hq,cC,hf,Pv];refine⟨_,⟨by simp[cp],by simp[h1],by simp[h3],?_,?_⟩,hE⟩
   .rw[<-di];exact vM
   .exact tF
  .rw[Yc,Xo,iL]at hE;subst hE;simp[cp,oL,BP];exact⟨by simp[cp],by simp[h1],by simp[h3],hh,kJ⟩
 .rintro o cG h' rfl ⟨rfl,hS⟩;simp;exact hX _ _ hS
def adG(e:Int)(fr:LA)(h:Hp)(hS:SC (ie kd op ds r1 r2 a0 a1 a2 a3 a4 a5 a6 a7 a8 nm r3 r4 sk li r5 r6) e fr h):PC (M (cT 10 qD) (fr,h)) e:=by
 obtain⟨cp,h1,h3,hh,kJ⟩:=hS;simp[qD,cT,cR,f76,cp,h3,kJ];exact abe (by simp[cp])
def ag0(e0 c v:Int)(X:Code)(f:kd=2->∀b h,cu cx M b 139 [.ag [a0,a1,a2,a3,a4,a5,a6,a7,a8]] h=some ((c:AV),h))(fa:∀b id e0 e h,h[id]?=some (.row [.sc (.int .i64 e0)])->cu cx M b 137 [.pt id 0,.sc (.int .i64 e)] h=some (.tp [],h.set id (.row [.sc (.int .i64 (cS e0 e))])))(fn:∀b id e0 s h,h[id]?=some (.row [.sc (.int .i64 e0)])->cu cx M b 140 [.pt id 0,.sc (.string s)] h=some (.tp [],h.set id (.row [.sc (.int .i64 (cS e0 (iz s)))])))(hX:∀fr h,SC (ie kd op ds r1 r2 a0 a1 a2 a3 a4 a5 a6 a7 a8 nm r3 r4 sk li r5 r6) (if kd=2 then cS (cS e0 c) (iz nm)else e0) fr h->PC (M X (fr,h)) v)(fr:LA)(h:Hp)(hS:SC (ie kd op ds r1 r2 a0 a1 a2 a3 a4 a5 a6 a7 a8 nm r3 r4 sk li r5 r6) e0 fr h):PC (M (.seq (cL (cT 5 qD)) X) (fr,h)) v:=by
 obtain⟨cp,h1,h3,hh,kJ⟩:=hS;by_cases hk:kd=2
 .rw[cw hk]at hX;have ae:=f hk;have wL:=λb=>fa b 1 e0 c h kJ
  have vM:=d_ (id:=1) (b:= .row [.sc (.int .i64 (cS e0 c))]) hh (by omega);have tF:=dC (id:=1) (b:= .row [.sc (.int .i64 (cS e0 c))]) kJ;have Pv:=λb=>fn b 1 (cS e0 c) nm _ tF
  have Ja:=d_ (id:=1) (b:= .row [.sc (.int .i64 (cS (cS e0 c) (iz nm)))]) vM (by omega);have hk3:=dC (id:=1) (b:= .row [.sc (.int .i64 (cS (cS e0 c) (iz nm)))]) tF;generalize cS (cS e0 c) (iz nm)=e' at Pv Ja hk3 hX;generalize cS e0 c=e1 at wL Pv vM tF Ja hk3;generalize h.set 1 (.row [e1])=hp2 at wL Pv vM tF Ja hk3;generalize cY:ie kd op ds r1 r2 a0 a1 a2 a3 a4 a5 a6 a7 a8 nm r3 r4 sk li r5 r6=row at *;have di:=cY.symm;unfold ie at di;subst di;simp[qD,cT,cR,cL,f76,cp,h1,h3,hh,hk,ae,wL,Pv,vM];exact hX _ _ ⟨by simp[cp],by simp[h1],by simp[h3],Ja,hk3⟩
 .rw[cv hk]at hX;unfold ie at hh;simp[qD,cT,cR,cL,f76,cp,h1,hh,hk];exact hX _ _ ⟨by simp[cp],by simp[h1],by simp[h3],hh,kJ⟩
def oz(D d:Nat)(e:Ep):Prop:=lE e<=d/\ke D e
structure Cg (D d:Nat)(c:Cp):Prop where
 paths:∀p∈c.paths,bdT D d p
 eu:∀e∈c.eu,oz D d e
 e:oz D d c.e
 items:∀x∈c.items,oz D d x.e
 order:∀x∈c.order,oz D d x.e
 sets:∀x∈c.sets,oz D d x.e
 n1:c.paths.length<=10^9
 n2:c.eu.length<=10^9
 n3:c.items.length<=10^9
 n4:c.order.length<=10^9
 n5:c.sets.length<=10^9
 n6:c.names.length<=10^9
def EB(c:Cp):Int:=gG (gG 0 (c.paths.flatMap λx=> [ua x (decide (c.kind=5))])) (c.eu.flatMap λx=> [fM x])
def Lp(c:Cp):Int:=if c.kind=2 then cS (cS (EB c) (fM c.e)) (iz c.name)else EB c
def tc(c:Cp):Int:=gG (gG (gG (gG (Lp c) (c.items.flatMap λx=> [fM x.e,iz x.nm])) (c.order.flatMap λx=> [fM x.e])) (c.sets.flatMap λx=> [oA x])) (c.names.flatMap λx=> [iz x])
def xX(c:Cp):Bool:=Gv c.kind c.paths.length c.eu.length c.items.length c.order.length c.sets.length c.names.length
def iq(c:Cp):Int:=if c.kind<1 then 1 else if 8<c.kind then 1 else if rY c=true then 1 else if xX c=true then 4 else tc c
def Av(D d n:Nat)(b:Bool)(c:Cp)(h:Hp)(hb:Cg D d c)(hn:2*D+3*d+30<=n):cu cx n b 76 [.ag (cA c)] h=some (.sc (.int .i64 (iq c)),h):=by
 obtain⟨M,rfl⟩:∃M,n=M+1:=⟨n-1,by omega⟩;have dL:[AV.ag (cA c)].all calm=true:=by
  have h0:=dR c.e;simp[cA,calm]at h0|-;exact h0
 refine fU f76 [.tmp 2] dL rfl ?_ b h;obtain⟨k1,e1⟩:∃k,M=k+1:=⟨M-1,by omega⟩;obtain⟨k2,e2⟩:∃k,M=k+2:=⟨M-2,by omega⟩;obtain⟨k4,e4⟩:∃k,M=k+4:=⟨M-4,by omega⟩;obtain⟨kc,ec⟩:∃k,M=k+2*D+9+d:=⟨M-2*D-9-d,by omega⟩;obtain⟨ks,es⟩:∃k,M=k+2*D+10+d:=⟨M-2*D-10-d,by omega⟩;have fa:∀b id e0 e h,h[id]?=some (.row [.sc (.int .i64 e0)])->cu cx M b 137 [.pt id 0,.sc (.int .i64 e)] h=some (.tp [],h.set id (.row [.sc (.int .i64 (cS e0 e))])):=λb id e0 e h h0=>by rw[e1];exact Q7 k1 b id e0 e h h0
 have fn:∀b id e0 s h,h[id]?=some (.row [.sc (.int .i64 e0)])->cu cx M b 140 [.pt id 0,.sc (.string s)] h=some (.tp [],h.set id (.row [.sc (.int .i64 (cS e0 (iz s)))])):=λb id e0 s h h0=>by rw[e4];exact V3 k4 b id e0 s h h0
 have fx:∀x:Ep,oz D d x->∀b h,cu cx M b 139 [.ag (cM x)] h=some (.sc (.int .i64 (fM x)),h):=λx hx b h=>by rw[ec];exact qt kc D d b x h hx.1 hx.2
 obtain⟨a0,a1,a2,a3,a4,a5,a6,a7,a8,gC⟩:=iK c.e;have V5:∀fr h,SC (ie c.kind c.opt c.w_ (q7 c.paths) (cZ c.eu) a0 a1 a2 a3 a4 a5 a6 a7 a8 c.name (xa c.items) (yZ c.order) c.skip c.limit (y_ c.sets) (eE c.names)) 0 fr h->PC (M (cT 3 qD) (fr,h)) (tc c):=by
  intro fr h hS;rw[show cT 3 qD= .seq (cL (cT 3 qD)) (.seq (cL (cT 4 qD)) (.seq (cL (cT 5 qD)) (.seq (cL (cT 6 qD)) (.seq (cL (cT 7 qD)) (.seq (cL (cT 8 qD)) (.seq (cL (cT 9 qD)) (cT 10 qD))))))) by kernel_rfl];refine agT M _ _ _ _ _ _ _ _ _ _ _ _ _ _ _ _ _ _ _ _ _ c.paths _ _ _ hb.n1 (iN _) (qu _) (λx hx b h=>EA D d M b x _ h (hb.paths x hx) (by omega)) fa (λfr h hS=>?_) fr h hS;refine agU M _ _ _ _ _ _ _ _ _ _ _ _ _ _ _ _ _ _ _ _ _ c.eu _ _ _ hb.n2 (cX _) (eM _) (λx hx b h=>fx x (hb.eu x hx) b h) fa (λfr h hS=>?_) fr h hS;refine ag0 M _ _ _ _ _ _ _ _ _ _ _ _ _ _ _ _ _ _ _ _ _ _ (fM c.e) _ _ (λ_ b h=>by rw[<-gC];exact fx _ hb.e b h) fa fn (λfr h hS=>?_) fr h hS;refine agY M _ _ _ _ _ _ _ _ _ _ _ _ _ _ _ _ _ _ _ _ _ c.items _ _ _ hb.n3 (iO _) (qv _) (λx hx b h=>fx _ (hb.items x hx) b h) fa fn (λfr h hS=>?_) fr h hS;refine agW M _ _ _ _ _ _ _ _ _ _ _ _ _ _ _ _ _ _ _ _ _ c.order _ _ _ hb.n4 (iP _) (qw _) (λx hx b h=>fx _ (hb.order x hx) b h) fa (λfr h hS=>?_) fr h hS;refine agV M _ _ _ _ _ _ _ _ _ _ _ _ _ _ _ _ _ _ _ _ _ c.sets _ _ _ hb.n5 (iQ _) (qx _) (λx hx b h=>by rw[es];exact Gu ks D d b x h (hb.sets x hx).1 (hb.sets x hx).2) fa (λfr h hS=>?_) fr h hS;refine agZ M _ _ _ _ _ _ _ _ _ _ _ _ _ _ _ _ _ _ _ _ _ c.names _ _ _ hb.n6 (cI _) (iW _) fn (λfr h hS=>?_) fr h hS;exact adG M _ _ _ _ _ _ _ _ _ _ _ _ _ _ _ _ _ _ _ _ _ _ fr h hS
 have ae:=λb h=>Q0 (M-4) D b c h hb.e.2
 have af:=λb h=>JD k2 b c h
 rw[show M-4+4=M by omega]at ae;rw[<-e2]at af;change∀b h,_=some (AV.sc (.bool (xX c)),h)at af;show(dT _ (M qD _)).map Prod.fst=_;rw[show qD= .seq (cL (cT 0 qD)) (.seq (cL (cT 1 qD)) (.seq (cL (cT 2 qD)) (cT 3 qD))) by kernel_rfl];generalize cT 3 qD=X3 at V5|-;unfold iq;generalize tc c=V at V5|-;generalize rY c=w1 at ae|-;generalize xX c=w2 at af|-;clear e1 e2 e4 ec es fa fn fx dL hb hn;unfold cA at ae af|-;rw[gC]at ae af|-;unfold ie at V5;simp only[Zv,Zw]at ae af|-;generalize q7 c.paths=r1,cZ c.eu=r2,xa c.items=r3,yZ c.order=r4,y_ c.sets=r5,eE c.names=r6,c.kind=kd at *;by_cases c1:kd<1
 .rw[cw c1];simp[qD,cT,cR,cL,f76,c1]
 rw[cv c1];by_cases c2:8<kd
 .rw[cw c2];simp[qD,cT,cR,cL,f76,c1,c2]
 rw[cv c2];cases w1
 .cases w2
  .simp[qD,cT,cR,cL,f76,c1,c2,ae,af];exact V5 _ _ ⟨by simp,by simp,by simp,rfl,rfl⟩
  .simp[qD,cT,cR,cL,f76,c1,c2,ae,af]
 .simp[qD,cT,cR,cL,f76,c1,c2,ae]
def m_(l:List Cp):List LA:=l.map cA
def jj(l:List Cp):(m_ l).length=l.length:=by simp[m_]
def oQ(l:List Cp)(i:Nat):(m_ l)[i]?=(l[i]?).map cA:=by simp[m_]
def gL(l:List Cp):LA:=[.ls 21 (m_ l) false]
def Lq(m i:Nat)(kd:Int):Bool:=(!decide (i+1=m) && decide (kd=4))||(decide (i+1=m) && decide (kd<=3))
def pO(m:Nat):List Cp->Nat->Int × Int
 | [],_=>(0,0)
 |c::l,i=>if iq c=0 then(if Lq m i c.kind=true then((i:Int),26)else pO m l (i+1))else((i:Int),iq c)
def fW(l:List Cp):Int × Int:=if l.length=0 then(0,4)else if 12<l.length then(0,4)else pO l.length l 0
def Aw{m i:Nat}{l:List Cp}{c:Cp}(h:l[i]?=some c):pO m (l.drop i) i=if iq c=0 then(if Lq m i c.kind=true then((i:Int),26)else pO m (l.drop (i+1)) (i+1))else((i:Int),iq c):=by
 obtain⟨k,e⟩:=Za.1 h;rw[Zm k,e,pO]
def Z9{ev z:LA}(h:ev.length=21)(hz:z.length=21):cF z 0 ev=ev:=by
 unfold cF;rw[List.take_zero,Zw,Xk,h,Zt (by omega),Yk]
def Q8{ev:LA}(h:ev.length=21)(a0 a1 a2 a3 a4 a5 a6 a7 a8 a9 a10 a11 a12 a13 a14 a15 a16 a17 a18 a19 a20:AV):cF [a0,a1,a2,a3,a4,a5,a6,a7,a8,a9,a10,a11,a12,a13,a14,a15,a16,a17,a18,a19,a20] 0 ev=ev:=Z9 h rfl
def qE(c:Cp):∃tl,cA c= .sc (.int .i64 c.kind)::tl/\tl.length=20:=⟨_,rfl,by simp[cB]⟩
def Q9(D d n:Nat)(b:Bool)(l:List Cp)(h:Hp)(hb:∀c∈l,Cg D d c)(hn:2*D+3*d+40<=n):cu cx n b 40 [.ag (gL l)] h=some (.tp [.sc (.int .i64 (fW l).1),.sc (.int .i64 (fW l).2)],h):=by
 obtain⟨M,rfl⟩:∃M,n=M+1:=⟨n-1,by omega⟩;refine tA (xs:=[.sc (.int .i64 (fW l).1),.sc (.int .i64 (fW l).2)]) f40 [.tmp 2,.tmp 3] rfl rfl ?_ b h;have ae:∀c∈l,∀b h,cu cx M b 76 [.ag (cA c)] h=some (.sc (.int .i64 (iq c)),h):=λc hc b h=>Av D d M b c h (hb c hc) (by omega)
 clear hb hn;unfold fW gL;have hq:=jj l;have hg:=oQ l;generalize m_ l=cq at hq hg;by_cases c0:l.length=0
 .rw[cw c0];simp[f40,hq,c0]
 rw[cv c0];by_cases c12:12<l.length
 .rw[cw c12];have JJ:(12:Int)< (l.length:Int):=by omega
  simp[f40,hq,c0,JJ]
 rw[cv c12];have JJ:¬(12:Int)< (l.length:Int):=by omega
 generalize hT:pO l.length l 0=T;have wN:dA .i64 ((l.length:Int)-1)=((l.length-1:Nat):Int):=by
  rw[cK (by omega) (by omega)];omega
 simp[f40,hq,c0,JJ];generalize cU:M (.loop _) _=XX;refine gk cU
  (λi s cD=>s.length=55/\gt s 1= .pt 0 0/\cD[0]?=some (.row [.ls 21 cq false])/\gt s 19= .ls 21 cq false/\gt s 20=l.length/\gt s 21=i/\pO l.length (l.drop i) i=T)
  (λo s _=>s.length=55/\((o= .exit 0/\T=(0,0))\/(o= .ret/\gt s 2=T.1/\gt s 3=T.2)))
  l.length (by simp;omega) ⟨rfl,rfl,rfl,rfl,rfl,rfl,hT⟩ ?_ ?_
 .clear cU XX hT;rintro i fr hp cP ⟨cp,h1,hh,FE,K8,V6,hT⟩;rcases dY hg cP with⟨x,hi,hx,hr,cC⟩|rfl
  .have dB:=Zi hx;have hf:dA .i64 ((i:Int)+1)=((i+1:Nat):Int):=cK (by omega) (by omega);have fc:=ae x dB;rw[Aw hx]at hT;obtain⟨tl,he,M_⟩:=qE x;rw[he]at hr fc;simp only[he]at cC;have dH:(AV.sc (.int .i64 x.kind)::tl).length=21:=by simp[M_]
   have r9:(AV.sc (.int .i64 x.kind)::tl).take 21=AV.sc (.int .i64 x.kind)::tl:=Yy (by omega);have jT:=Q8 dH;have ag1:tl.take 20=tl:=Yy (by omega);have V4:=cJ [.row (AV.sc (.int .i64 x.kind)::tl)] hh;have Au:∀k,(hp++[eV.row (AV.sc (.int .i64 x.kind)::tl)])[0]'k= .row [.ls 21 cq false]:=λkx=>by obtain⟨_,e⟩:=Za.1 V4;exact e
   have c3i:((i:Int)=((l.length-1:Nat):Int))↔i+1=l.length:=by omega
   unfold Lq at hT;generalize iq x=c at fc hT;generalize x.kind=kd at *;by_cases hc:c=0
   .subst hc;rw[cw rfl]at hT;by_cases c3:i+1=l.length
    .have GD:=(c3i.2 c3).symm;generalize((l.length-1:Nat):Int)=q at wN GD;rw[decide_eq_true c3]at hT;clear c3i;by_cases c4:kd<=3
     .rw[decide_eq_true c4]at hT;subst hT;simp[cp,h1,FE,K8,V6,hi,hq,cC,fc,jT,dH,r9,Au,wN,GD,c4]
     .rw[decide_eq_false c4]at hT;simp[cp,h1,FE,K8,V6,hi,hq,cC,fc,jT,dH,r9,Au,wN,GD,c4,hf];exact hT
    .have GD:¬_:=λe=>c3 (c3i.1 e)
     generalize((l.length-1:Nat):Int)=q at wN GD;rw[decide_eq_false c3]at hT;clear c3i;by_cases c4:kd=4
     .rw[decide_eq_true c4]at hT;subst c4;subst hT;simp[cp,h1,FE,K8,V6,hi,hq,cC,fc,jT,dH,r9,Au,wN,GD]
     .rw[decide_eq_false c4]at hT;simp[cp,h1,FE,K8,V6,hi,hq,cC,fc,jT,dH,r9,Au,wN,GD,c4,hf];exact hT
   .rw[cv hc]at hT;subst hT;simp[cp,FE,K8,V6,hi,hq,cC,fc,jT,dH,r9,hc]
  .rw[Yc,pO]at hT;subst hT;simp[cp,K8,V6]
 .rintro o cG h' rfl ⟨cp,⟨rfl,rfl⟩|⟨rfl,h2,h3⟩⟩
  .simp[cp]
  .simp[h2,h3]
def xd(K:List ByteArray)(s:ByteArray):List ByteArray:=if(K.any λa=>s==a)=true then K else K++[s]
mutual
def uG :Ep->List ByteArray->List ByteArray
 | .mk op _ nm _ ks,K=>pg ks (if op=2 then xd K nm else K)
def pg :List Ep->List ByteArray->List ByteArray
 | [],K=>K
 |x::xs,K=>pg xs (uG x K)
end
def Na{l:List Ep}{i:Nat}{x:Ep}(K:List ByteArray)(h:l[i]?=some x):pg (l.drop i) K=pg (l.drop (i+1)) (uG x K):=by
 obtain⟨k,e⟩:=Za.1 h;rw[Zm k,e,pg]
def zd(K:List ByteArray):List (Value × AV):=K.map λs=>(.string s,.sc (.bool true))
def V7(K:List ByteArray):(zd K).all pe=true:=by unfold zd;simp[pe]
def Q_(s:ByteArray):∀(K:List ByteArray)(i:Nat),((K.any λa=>s==a)=false/\mY s (zd K) i=none)\/((K.any λa=>s==a)=true/\∃j,mY s (zd K) i=some (i+j)/\K[j]?=some s)
 | [],i=> .inl ⟨rfl,rfl⟩
 |
  a::K,i=>by
  simp only[List.any_cons,zd,Yn,mY,P7];cases hs:s==a
  .rcases Q_ s K (i+1)with⟨h1,h2⟩|⟨h1,j,h2,h3⟩
   .exact .inl ⟨by simp[h1],h2⟩
   .exact .inr ⟨by simp[h1],j+1,by rw[cond_false];exact h2.trans (by rw[Nat.add_right_comm];rfl),h3⟩
  .have:=(Go.MapKept.bytes_beq _ _).1 hs;subst this;exact .inr ⟨rfl,0,rfl,rfl⟩
def V8{s:ByteArray}{K:List ByteArray}{j:Nat}(h:K[j]?=some s):(zd K).set j (.string s,.sc (.bool true))=zd K:=by
 apply List.ext_getElem?;intro i;rw[List.getElem?_set];split
 .rename_i e;subst e;have hl:=(Za.1 h).1;rw[cw (by simpa[zd]using hl)];simp[zd,h]
 .rfl
def US(es:List (Value × AV))(h:Hp):Prop:=∃Lr,h[1]?=some (.map es Lr)/\h[2]?=some (.row [.mp 1])/\h[3]?=some (.row [.fn 223 [.pt 2 0,.pt 3 0]])
def abf(D:Nat):∀(d:Nat)(e:Ep),lE e<=d->ke D e->∀(n:Nat)(t:Bool)(h:Hp)(K:List ByteArray),US (zd K) h->
 ∃h',cu cx (n+d) t 223 [.ag (cM e),.pt 2 0,.pt 3 0] h=some (.tp [],h')/\US (zd (uG e K)) h':=by
 intro d
 induction d with
 |zero=>intro e h;have:=jU e;omega
 |succ d ih=>
  rintro e de be n t h K ⟨Lr,g1,g2,g3⟩;rw[show n+(d+1)=n+d+1 by omega];rw[rr (n:=n+d) f223 []];have ho:=λx hx=>ih x (kU de hx) (mQ be hx) n
  obtain⟨op,v,nm,ds,ks⟩:=e;simp only[Ep.ks]at ho;obtain⟨k,n',d',s,l,rfl,hs,qg⟩:=Jz be;rw[jO rfl,uG];have hq:=cX ks;have hg:=eM ks;generalize cZ ks=cq at hq hg|-;generalize fj l=r5;generalize n+d=M at ho|-;have loop:∀(K:List ByteArray)(fr:LA)(h:Hp),fr.length=23->gt fr 1= .pt 2 0->gt fr 2= .pt 3 0->gt fr 13= .ls 9 cq false->gt fr 14= .sc (.int .i64 (ks.length:Nat))->gt fr 15= .sc (.int .i64 (0:Nat))->US (zd K) h->
   ∃h',dT [] (M (cT 3 ((f223.body).getD .skip)) (fr,h))=some (.tp [],h')/\US (zd (pg ks K)) h':=by
   intro K fr h cp h1 h2 tW h14 tH hU;simp[cT,cR,f223];generalize cU:M (.loop _) _=XX,hT:pg ks K=T;refine gk cU
    (λi s cD=>s.length=23/\gt s 1= .pt 2 0/\gt s 2= .pt 3 0/\gt s 13= .ls 9 cq false/\gt s 14=ks.length/\gt s 15=i/\∃K,US (zd K) cD/\pg (ks.drop i) K=T)
    (λo s cD=>o= .exit 0/\US (zd T) cD)
    ks.length (by simp;omega) ⟨cp,h1,h2,tW,h14,tH,K,hU,hT⟩ ?_ ?_
   .clear cU XX hT hU cp h1 h2 tW h14 tH K;rintro i fr hp cP ⟨cp,h1,h2,tW,h14,tH,K,⟨Lr,g1,g2,g3⟩,hT⟩;rcases dY hg cP with⟨x,hi,hx,hr,cC⟩|rfl
    .have dB:=Zi hx;have hf:=cz (Yj cP qg);rw[Na K hx]at hT;have dH:=cB x;obtain⟨h',fu,eU⟩:=ho x dB true (hp++[.row (cM x)]) K ⟨Lr,cJ _ g1,cJ _ g2,cJ _ g3⟩;have k3:=cJ [.row (cM x)] g3;generalize cM x=ev at hr cC fu dH k3;have dJ:ev.take 9=ev:=Yy (by omega);have mZ:=rW dH;simp[cp,h1,h2,tW,h14,tH,hi,hq,cC,dH,dJ,mZ,k3,fu,hf];exact⟨_,eU,hT⟩
    .rw[Yc,pg]at hT;subst hT;simp[cp,h14,tH];exact⟨Lr,g1,g2,g3⟩
   .rintro o cG h' rfl ⟨rfl,eU⟩;simp[h_];exact eU
  show∃h',dT [] (M ((f223.body).getD .skip) _)=_/\_;rw[show(f223.body).getD .skip= .seq (cL (cT 0 ((f223.body).getD .skip))) (.seq (cL (cT 1 ((f223.body).getD .skip))) (.seq (cL (cT 2 ((f223.body).getD .skip))) (cT 3 ((f223.body).getD .skip)))) by kernel_rfl];generalize cT 3 ((f223.body).getD .skip)=Z at loop|-;generalize hB:([.sc (.int .i64 op),.sc (.int .i64 k),.sc (.int .i64 n'),.sc (.int .i64 d'),.sc (.string s),.ls 5 r5 false,.sc (.string nm),.sc (.bool ds),.ls 9 cq false]:LA)=ev;have k1:=cJ [.row ev] g1;have k2:=cJ [.row ev] g2;have k3:=cJ [.row ev] g3;have k2':∀k,(h++[eV.row ev])[2]'k= .row [.mp 1]:=λkx=>by obtain⟨_,e⟩:=Za.1 k2;exact e
  by_cases dq:op=2
  .rw[cw dq];subst dq;have hal:=V7 K;have wN:1< (h++[eV.row ev]).length:=(Za.1 k1).1;have hl3:3<h.length:=(Za.1 g3).1;rcases Q_ nm K 0 with⟨hk,xY⟩|⟨hk,j,xY,hj⟩
   .rw[show xd K nm=K++[nm] by unfold xd;rw[hk];rfl];have hen:zd (K++[nm])=zd K++[(.string nm,.sc (.bool true))]:=by simp[zd]
    have hw:=loop (K++[nm]);rw[hen]at hw;generalize zd K=es at *;have m1:=dC (b:=eV.map (es++[(.string nm,.sc (.bool true))]) (Lr+1)) k1;have m2:=d_ (id:=1) (b:=eV.map (es++[(.string nm,.sc (.bool true))]) (Lr+1)) k2 (by omega);have m3:=d_ (id:=1) (b:=eV.map (es++[(.string nm,.sc (.bool true))]) (Lr+1)) k3 (by omega);have mb:((h++[eV.row ev]).set 1 (.map (es++[(.string nm,.sc (.bool true))]) (Lr+1)))[h.length]?=some (.row ev):=d_ (by simp) (by omega);generalize hH:(h++[eV.row ev]).set 1 (.map (es++[(.string nm,.sc (.bool true))]) (Lr+1))=H at *;subst hB;simp[cL,cT,cR,f223,k1,k2,hal,xY,hH,mb];exact hw _ _ (by simp) (by simp) (by simp) (by simp) (by simp[hq]) (by simp) ⟨_,m1,m2,m3⟩
   .rw[show xd K nm=K by unfold xd;rw[hk];rfl];have kQ:=V8 hj;have hw:=loop K;generalize zd K=es at *;rw[Xk]at xY;have j8:=r8 k1;have mb:(h++[eV.row ev])[h.length]?=some (.row ev):=by simp
    subst hB;simp[cL,cT,cR,f223,k1,k2,hal,xY,kQ,j8];exact hw _ _ (by simp) (by simp) (by simp) (by simp) (by simp[hq]) (by simp) ⟨_,k1,k2,k3⟩
  .rw[cv dq];subst hB;simp[cL,cT,cR,f223,dq];exact loop K _ _ (by simp) (by simp) (by simp) (by simp) (by simp[hq]) (by simp) ⟨_,k1,k2,k3⟩
end
section
attribute [local simp] ew eY cF
def vO(e:Ep):List ByteArray:=oI (uG e [])
mutual
def dc :Ep->Nat
 | .mk _ _ _ _ l=>iA l+1
def iA :List Ep->Nat
 | []=>0
 |x::xs=>dc x+iA xs
end
def Ra(K:List ByteArray)(s:ByteArray):(xd K s).length<=K.length+1:=by
 unfold xd;split<;>simp
mutual
def Ax :∀(e:Ep)(K:List ByteArray),(uG e K).length<=K.length+dc e
 |
  .mk op v nm ds ks,K=>by
  rw[uG,dc];have h1:=GF ks (if op=2 then xd K nm else K);have h2:=Ra K nm;split at h1<;>split<;>first|omega|simp_all
def GF :∀(l:List Ep)(K:List ByteArray),(pg l K).length<=K.length+iA l
 | [],K=>by rw[pg,iA];omega
 |
  x::xs,K=>by
  rw[pg,iA];have h1:=Ax x K;have h2:=GF xs (uG x K);omega
end
def Ay{s:ByteArray}:∀{K:List ByteArray},kZ K=true->(K.any λa=>s==a)=false->kZ (K++[s])=true
 | [],_,_=>rfl
 |
  x::K,h1,h2=>by
  rw[kZ,Zh,Xd]at h1;rw[List.any_cons,Bool.or_eq_false_iff]at h2;rw[Zv,kZ,Ay h1.2 h2.2,List.any_append,h1.1,List.any_cons,List.any_nil];have:(x==s)=false:=by
   rw[Bool.eq_false_iff];intro e;have:=(Go.MapKept.bytes_beq _ _).1 e;subst this;have h3:=h2.1;rw[(Go.MapKept.bytes_beq _ _).2 rfl]at h3;cases h3
  rw[this];rfl
def JK{K:List ByteArray}(s:ByteArray)(h:kZ K=true):kZ (xd K s)=true:=by
 unfold xd;cases hk:(K.any λa=>s==a)
 .rw[cv (by simp)];exact Ay h hk
 .rw[cw rfl];exact h
mutual
def Az :∀(e:Ep)(K:List ByteArray),kZ K=true->kZ (uG e K)=true
 |
  .mk op v nm ds ks,K,h=>by
  rw[uG];apply AA;split
  .exact JK nm h
  .exact h
def AA :∀(l:List Ep)(K:List ByteArray),kZ K=true->kZ (pg l K)=true
 | [],K,h=>by rw[pg];exact h
 |x::xs,K,h=>by rw[pg];exact AA xs _ (Az x K h)
end
mutual
def AB{D:Nat}:∀(e:Ep)(K:List ByteArray),ke D e->(∀s∈K,s.size<=1000000000000000)->∀s∈uG e K,s.size<=1000000000000000
 |
  .mk op v nm ds ks,K,hb,h=>by
  rw[ke]at hb;rw[uG];refine AD ks _ hb.2.2.2 λs hs=>?_
  split at hs
  .unfold xd at hs;split at hs
   .exact h s hs
   .rcases Zz.1 hs with hs|hs
    .exact h s hs
    .have:=List.mem_singleton.1 hs;subst this;exact hb.2.1
  .exact h s hs
def AD{D:Nat}:∀(l:List Ep)(K:List ByteArray),w9 D l->(∀s∈K,s.size<=1000000000000000)->∀s∈pg l K,s.size<=1000000000000000
 | [],K,_,h=>by rw[pg];exact h
 |
  x::xs,K,hb,h=>by
  rw[w9]at hb;rw[pg];exact AD xs _ hb.2 (AB x K hb.1 h)
end
def GG :∀K:List ByteArray,KY (zd K)=some K
 | []=>rfl
 |
  s::K=>by
  have:=GG K;unfold KY at this|-;rw[show zd (s::K)=(.string s,.sc (.bool true))::zd K from rfl,Zo,this];rfl
def GH(n:Nat)(b:Bool)(args:LA)(h:Hp):cu cx (n+1) b 224 args h=qo h 281 args:=by
 have e1:cx.vc 224=some (281,9):=rfl;have e2:cx.inl 224=true:=by kernel_rfl
 simp only[cu,e1,e2,if_true]
def abg(n:Nat)(b:Bool)(id:Nat)(h:Hp):cu cx (n+1) b 225 [.mp id] h=some (.fn 281 [.pt h.length 0],h++[.row [.mp id]]):=by
 rw[rr (n:=n) f225 [.tmp 2]];simp[f225]
def Ls :∀l:List ByteArray,(eE l).flatten=l.map λs=> .sc (.string s)
 | []=>rfl
 |
  s::l=>by
  rw[show eE (s::l)=[.sc (.string s)]::eE l from rfl,List.flatten_cons,Ls l];rfl
def Nb(h:Hp)(V:List ByteArray)(Lr b:Nat)(hb:h[b]?=some (.row [.mp 1]))(hm:h[1]?=some (.map (zd V) Lr))(h1:kZ V=true)(h2:∀s∈V,s.size<=1000000000000000)(h3:V.length<=10^6):
 ∃y k,qo h 281 [.fn 281 [.pt b 0]]=some (y,h++k)/\ka (h++k) 1 (eE (oI V)) y:=by
 have hk:=GG V;have ha:(V.all λs=>decide (s.size<=maxLen))=true:=by
  rw[Yp];intro s hs;have:=h2 s hs;rw[Zy];have:maxLen=9223372036854775807:=rfl;omega
 cases V with
 |
  nil=>
  refine⟨.sc (.slice none 0 0),[],?_,.inl ⟨rfl,rfl⟩⟩;simp only[qo,hb,hm,hk,if_true,Yk]
 |cons s V=>
  refine⟨.sl h.length 1 0 (s::V).length false,[.row ((oI (s::V)).map λs=> .sc (.string s))],?_,.inr ⟨?_,h.length,?_,?_⟩⟩
  .simp only[qo,hb,hm,hk,if_true,h1,ha,Bool.and_true,Bool.not_true,Bool.false_or,Zy];rw[cv (by omega)]
  .intro e;have:=congrArg List.length e;rw[cI,lJ]at this;simp at this
  .rw[cI,lJ]
  .rw[Ls,Zf (by omega)];simp
def V9(D d n:Nat)(b:Bool)(e:Ep)(h:Hp)(he:oz D d e)(hc:dc e<=1000000):cu cx (n+d+2) b 144 [.ag (cM e)] h=some (.ls 1 (eE (vO e)) false,h):=by
 have dL:[AV.ag (cM e)].all calm=true:=by rw[Zn,dR];rfl
 refine ZT (n:=n+d+1) f144 [.tmp 2] dL ?_ b h;have Ev:kx 144=1:=by decide
 rw[Ev];have dH:=cB e;have af:=λb(id:Nat)h=>abg (n+d) b id h
 have ah:=λb args h=>GH (n+d) b args h
 obtain⟨h',ae,Lr,e1,e2,e3⟩:=abf D d e he.1 he.2 (n+1) true [.row (cM e),.map [] 0,.row [.mp 1],.row [.fn 223 [.pt 2 0,.pt 3 0]]] [] ⟨0,rfl,rfl,rfl⟩;have cp:=Ax e [];obtain⟨y,k,ai,hB⟩:=Nb (h'++[.row [.mp 1]]) (uG e []) Lr h'.length (by simp) (cJ _ e1) (Az e [] rfl) (AB e [] he.2 (by simp)) (by simp at cp;omega);have jx:=gf (n:=7) (by omega) (g_ _).1 (g_ _).2 hB;have q3:=akN (λv=>hB.np v)
 rw[show n+1+d=n+d+1 by omega]at ae;unfold vO;generalize n+d+1=M at ae af ah q3|-;generalize cM e=ev at ae dH|-;have dJ:ev.take 9=ev:=Yy (by omega);simp[f144,dH,dJ,ae,e2,af,ah,ai,q3];rw[Zp]at jx;exact qW ⟨_,jx,kT _ _⟩
end
end Go.Proofs.YtmocfjnklfpnbaaGreatDoor
