/- The first error of some checks: the program's list.add and list.need. -/
import Derived.Test.YtmocfjnklfpnbaaGreatDoorP26
set_option linter.all false
set_option maxRecDepth 100000
namespace Go.Proofs.YtmocfjnklfpnbaaGreatDoor
open Go Go.Ae
section
attribute [local simp] aop aopW coldF extF putA ofConst flat scalarOp fastOp binFast intOp strOp guardX Ae.part rowOf szOk natOf lenA cls fillA newsOf isNilC cellX
set_option maxHeartbeats 32000000
def failS (a b:Int):Int:=if a=0 then b else a
theorem failS_zero (a:Int):failS a 0=a:=by unfold failS;split<;>simp_all
def failL (e:Int)(l:List Int):Int:=l.foldl failS e
theorem failL_app (e:Int)(a b:List Int):failL e (a++b)=failL (failL e a) b:=List.foldl_append
theorem failL_cons (e:Int)(a:Int)(b:List Int):failL e (a::b)=failL (failS e a) b:=rfl
theorem failL_nil (e:Int):failL e []=e:=rfl
def needS (s:ByteArray):Int:=if wordS s=true then 0 else 6
theorem set_same {h:Hp}{id:Nat}{b:Blk}(hb:h[id]?=some b):h.set id b=h:=by
 apply List.ext_getElem?;intro j;rw[List.getElem?_set];split
 ·rename_i e;subst e;have:=(Za.1 hb).1;rw[if_pos this,hb]
 ·rfl
theorem get_set_self {h:Hp}{id:Nat}{b c:Blk}(hb:h[id]?=some c):(h.set id b)[id]?=some b:=by
 have:=(Za.1 hb).1;rw[List.getElem?_set,if_pos rfl,if_pos this]
theorem get_set_ne {h:Hp}{id j:Nat}{b c:Blk}(hj:h[j]?=some c)(hne:id≠j):(h.set id b)[j]?=some c:=by
 rw[List.getElem?_set,if_neg hne];exact hj
theorem sy_add (n:Nat)(t:Bool)(id:Nat)(e0 e:Int)(h:Hp)(h0:h[id]?=some (.row [.sc (.int .i64 e0)])):callN cx (n+1) t 137 [.pt id 0,.sc (.int .i64 e)] h=some (.tp [],h.set id (.row [.sc (.int .i64 (failS e0 e))])):=by
 rw[call_inl (n:=n) ⟨Tryz.f137.ntmps,(Tryz.f137.body).getD .skip,[]⟩ rfl (by kernel_rfl) (by kernel_rfl) (by kernel_rfl) (by kernel_rfl) (by simp[Tryz.f137])];unfold failS;by_cases c:e0=0
 ·subst c;simp[Tryz.f137,h0,splice,resR]
 ·rw[if_neg c,set_same h0];simp[Tryz.f137,h0,c,resR]
theorem sy_need (n:Nat)(t:Bool)(id:Nat)(e0:Int)(s:ByteArray)(h:Hp)(h0:h[id]?=some (.row [.sc (.int .i64 e0)])):callN cx (n+4) t 140 [.pt id 0,.sc (.string s)] h=some (.tp [],h.set id (.row [.sc (.int .i64 (failS e0 (needS s)))])):=by
 rw[call_inl (n:=n+3) ⟨Tryz.f140.ntmps,(Tryz.f140.body).getD .skip,[]⟩ rfl (by kernel_rfl) (by kernel_rfl) (by kernel_rfl) (by kernel_rfl) (by simp[Tryz.f140])];have f1:=fun b=>sy_word n b s h
 have f2:=fun b=>sy_add (n+2) b id e0 6 h h0
 unfold needS;generalize wordS s=w at f1;cases w
 ·rw[if_neg (by simp)];generalize failS e0 6=q at f2;generalize n+3=M at f1 f2;simp[Tryz.f140,f1,f2,resR]
 ·rw[if_pos rfl,failS_zero,set_same h0];generalize n+3=M at f1;simp[Tryz.f140,f1,resR]
noncomputable def kCC :Code:=(Tryz.f76.body).getD .skip
def ccR (kd:Int)(op ds:Bool)(r1 r2:List (List AV))(a0 a1 a2 a3 a4 a5 a6 a7 a8:AV)(nm:ByteArray)(r3 r4:List (List AV))(sk li:Int)(r5 r6:List (List AV)):List AV:=
 [.sc (.int .i64 kd),.sc (.bool op),.sc (.bool ds),.ls 3 r1 false,.ls 9 r2 false,a0,a1,a2,a3,a4,a5,a6,a7,a8,.sc (.string nm),.ls 10 r3 false,.ls 10 r4 false,.sc (.int .i64 sk),.sc (.int .i64 li),.ls 13 r5 false,.ls 1 r6 false]
def SC (row:List AV)(e:Int)(fr:List AV)(h:Hp):Prop:=fr.length=115∧gt fr 1= .pt 0 0∧gt fr 3= .pt 1 0∧h[0]?=some (.row row)∧h[1]?=some (.row [.sc (.int .i64 e)])
def PC (r:Option (Out × St))(v:Int):Prop:=∃h',finX [.tmp 2] r=some (.sc (.int .i64 v),h')
theorem PC_ret {fr:List AV}{h:Hp}{v:Int}(h4:gt fr 2= .sc (.int .i64 v)):PC (some (.ret,(fr,h))) v:=⟨h,by simp[h4]⟩
theorem spX3 {ev:List AV}(h:ev.length=3)(a b c:AV):splice [a,b,c] 0 ev=ev:=by
 unfold splice;rw[List.take_zero,Zw,Nat.zero_add,h];simp
theorem spX13 {ev:List AV}(h:ev.length=13)(a b c d e f g i j k l m n:AV):splice [a,b,c,d,e,f,g,i,j,k,l,m,n] 0 ev=ev:=by
 unfold splice;rw[List.take_zero,Zw,Nat.zero_add,h];simp
theorem encX9 (e:Ep):∃a0 a1 a2 a3 a4 a5 a6 a7 a8,encX e=[a0,a1,a2,a3,a4,a5,a6,a7,a8]:=by
 have hev:=encX_length e
 match encX e,hev with
 | [a0,a1,a2,a3,a4,a5,a6,a7,a8],_=>exact⟨_,_,_,_,_,_,_,_,_,rfl⟩
theorem take_snoc {α:Type}{l:List α}{i:Nat}{x:α}(h:l[i]?=some x):l.take (i+1)=l.take i++[x]:=by rw[List.take_add_one,h];rfl
variable (M : Nat) (kd : Int) (op ds : Bool) (r1 r2 : List (List AV)) (a0 a1 a2 a3 a4 a5 a6 a7 a8 : AV) (nm : ByteArray) (r3 r4 : List (List AV)) (sk li : Int) (r5 r6 : List (List AV))
theorem cc_3 (l:List Tp)(e0 v:Int)(X:Code)(hl:l.length≤1000000000)(hq:r1.length=l.length)(hg:∀i:Nat,r1[i]?=(l[i]?).map encTp)
 (f:∀x∈l,∀b h,callN cx M b 138 [.ag (encTp x),.sc (.bool (decide (kd=5)))] h=some (.sc (.int .i64 (pathE x (decide (kd=5)))),h))
 (fa:∀b id e0 e h,h[id]?=some (.row [.sc (.int .i64 e0)])→callN cx M b 137 [.pt id 0,.sc (.int .i64 e)] h=some (.tp [],h.set id (.row [.sc (.int .i64 (failS e0 e))])))
 (hX:∀fr h,SC (ccR kd op ds r1 r2 a0 a1 a2 a3 a4 a5 a6 a7 a8 nm r3 r4 sk li r5 r6) (failL e0 (l.flatMap fun x=> [pathE x (decide (kd=5))])) fr h→PC (exec2 cx (callN cx M) X (fr,h)) v) (fr:List AV) (h:Hp) (hS:SC (ccR kd op ds r1 r2 a0 a1 a2 a3 a4 a5 a6 a7 a8 nm r3 r4 sk li r5 r6) e0 fr h):PC (exec2 cx (callN cx M) (.seq (cL (cT 3 kCC)) X) (fr,h)) v:=by
 obtain⟨hlen,h1,h3,hh,hh1⟩:=hS;generalize hrow:ccR kd op ds r1 r2 a0 a1 a2 a3 a4 a5 a6 a7 a8 nm r3 r4 sk li r5 r6=row at hh hX;have hrow':=hrow.symm;unfold ccR at hrow';simp[kCC,cT,cR,cL,Tryz.f76,hlen,h1,h3,hh,hrow',hq];generalize hXX:exec2 cx (callN cx M) (.loop _) _=XX;generalize hA:(l.flatMap fun x=> [pathE x (decide (kd=5))])=A at hX;refine loopE hXX
  (fun i s=>(∃e,SC row e s.1 s.2∧failL e ((l.drop i).flatMap fun x=> [pathE x (decide (kd=5))])=failL e0 A)∧gt s.1 31= .ls 3 r1 false∧gt s.1 32= .sc (.int .i64 (l.length:Nat))∧gt s.1 33= .sc (.int .i64 (i:Nat)))
  (fun o s=>o= .exit 1∧SC row (failL e0 A) s.1 s.2)
  l.length (by simp;omega) ⟨⟨e0,⟨by simp[hlen],by simp[h1],by simp[h3],hh,hh1⟩,by rw[Yf,hA]⟩,by simp[hlen],by simp[hlen],by simp[hlen]⟩ ?_ ?_
 ·clear hXX XX hA hX hh hh1 hrow;rintro i fr hp hle ⟨⟨e,⟨hlen,h1,h3,hh,hh1⟩,hE⟩,hr1,hr2,hr3⟩;simp only at hlen h1 h3 hh hh1 hE hr1 hr2 hr3;by_cases hi:i<l.length
  ·obtain⟨x,hx,hr,hr'⟩:=row_get hg hi;have hmem:=Zi hx;have hf:fitI .i64 ((i:Int)+1)=((i+1:Nat):Int):=fit_i64 (by omega) (by omega);rw[show l.drop i=x::l.drop (i+1) by obtain⟨k,e⟩:=Za.1 hx;rw[Zm k,e],List.flatMap_cons,failL_app]at hE;have f1:=f x hmem;have hev:(encTp x).length=3:=rfl;generalize pathE x (decide (kd=5))=c at f1 hE;generalize encTp x=ev at hr hr' f1 hev;have hevt:ev.take 3=ev:=List.take_of_length_le (by omega);have hsx:=spX3 hev;have fa1:=fun b=>fa b 1 e c (hp++[.row ev]) (get_app _ hh1)
   have hk0:=get_set_ne (id:=1) (b:= .row [.sc (.int .i64 (failS e c))]) (get_app [.row ev] hh) (by omega);have hk1:=get_set_self (id:=1) (b:= .row [.sc (.int .i64 (failS e c))]) (get_app [.row ev] hh1);have hhg:=get_app [.row ev] hh;have hhg':∀k,(hp++[Blk.row ev])[0]'k= .row row:=fun kx=>by obtain⟨_,e⟩:=Za.1 hhg;exact e
   rw[failL_cons,failL_nil]at hE;generalize failS e c=e' at fa1 hE hk0 hk1;simp[hlen,h1,h3,hh,hrow',hr1,hr2,hr3,hi,hq,hr,hr',hf,f1,fa1,hsx,hevt,hev,hhg,hhg'];refine⟨_,⟨by simp[hlen],by simp[h1],by simp[h3],?_,?_⟩,hE⟩
   ·rw[←hrow'];exact hk0
   ·exact hk1
  ·have hil:i=l.length:=Yc hle (Yb hi);subst hil;rw[Yd,List.flatMap_nil,failL_nil]at hE;subst hE;simp[hlen,hr2,hr3];exact⟨by simp[hlen],by simp[h1],by simp[h3],hh,hh1⟩
 ·rintro o fr' h' rfl ⟨rfl,hS⟩;simp;exact hX _ _ hS
theorem cc_4 (l:List Ep)(e0 v:Int)(X:Code)(hl:l.length≤1000000000)(hq:r2.length=l.length)(hg:∀i:Nat,r2[i]?=(l[i]?).map encX)
 (f:∀x∈l,∀b h,callN cx M b 139 [.ag (encX x)] h=some (.sc (.int .i64 (chkX x)),h))
 (fa:∀b id e0 e h,h[id]?=some (.row [.sc (.int .i64 e0)])→callN cx M b 137 [.pt id 0,.sc (.int .i64 e)] h=some (.tp [],h.set id (.row [.sc (.int .i64 (failS e0 e))])))
 (hX:∀fr h,SC (ccR kd op ds r1 r2 a0 a1 a2 a3 a4 a5 a6 a7 a8 nm r3 r4 sk li r5 r6) (failL e0 (l.flatMap fun x=> [chkX x])) fr h→PC (exec2 cx (callN cx M) X (fr,h)) v) (fr:List AV) (h:Hp) (hS:SC (ccR kd op ds r1 r2 a0 a1 a2 a3 a4 a5 a6 a7 a8 nm r3 r4 sk li r5 r6) e0 fr h):PC (exec2 cx (callN cx M) (.seq (cL (cT 4 kCC)) X) (fr,h)) v:=by
 obtain⟨hlen,h1,h3,hh,hh1⟩:=hS;generalize hrow:ccR kd op ds r1 r2 a0 a1 a2 a3 a4 a5 a6 a7 a8 nm r3 r4 sk li r5 r6=row at hh hX;have hrow':=hrow.symm;unfold ccR at hrow';simp[kCC,cT,cR,cL,Tryz.f76,hlen,h1,h3,hh,hrow',hq];generalize hXX:exec2 cx (callN cx M) (.loop _) _=XX;generalize hA:(l.flatMap fun x=> [chkX x])=A at hX;refine loopE hXX
  (fun i s=>(∃e,SC row e s.1 s.2∧failL e ((l.drop i).flatMap fun x=> [chkX x])=failL e0 A)∧gt s.1 45= .ls 9 r2 false∧gt s.1 46= .sc (.int .i64 (l.length:Nat))∧gt s.1 47= .sc (.int .i64 (i:Nat)))
  (fun o s=>o= .exit 3∧SC row (failL e0 A) s.1 s.2)
  l.length (by simp;omega) ⟨⟨e0,⟨by simp[hlen],by simp[h1],by simp[h3],hh,hh1⟩,by rw[Yf,hA]⟩,by simp[hlen],by simp[hlen],by simp[hlen]⟩ ?_ ?_
 ·clear hXX XX hA hX hh hh1 hrow;rintro i fr hp hle ⟨⟨e,⟨hlen,h1,h3,hh,hh1⟩,hE⟩,hr1,hr2,hr3⟩;simp only at hlen h1 h3 hh hh1 hE hr1 hr2 hr3;by_cases hi:i<l.length
  ·obtain⟨x,hx,hr,hr'⟩:=row_get hg hi;have hmem:=Zi hx;have hf:fitI .i64 ((i:Int)+1)=((i+1:Nat):Int):=fit_i64 (by omega) (by omega);rw[show l.drop i=x::l.drop (i+1) by obtain⟨k,e⟩:=Za.1 hx;rw[Zm k,e],List.flatMap_cons,failL_app]at hE;have f1:=f x hmem;have hev:(encX x).length=9:=encX_length x;generalize chkX x=c at f1 hE;generalize encX x=ev at hr hr' f1 hev;have hevt:ev.take 9=ev:=List.take_of_length_le (by omega);have hsx:=spX9 hev;have fa1:=fun b=>fa b 1 e c (hp++[.row ev]) (get_app _ hh1)
   have hk0:=get_set_ne (id:=1) (b:= .row [.sc (.int .i64 (failS e c))]) (get_app [.row ev] hh) (by omega);have hk1:=get_set_self (id:=1) (b:= .row [.sc (.int .i64 (failS e c))]) (get_app [.row ev] hh1);have hhg:=get_app [.row ev] hh;have hhg':∀k,(hp++[Blk.row ev])[0]'k= .row row:=fun kx=>by obtain⟨_,e⟩:=Za.1 hhg;exact e
   rw[failL_cons,failL_nil]at hE;generalize failS e c=e' at fa1 hE hk0 hk1;simp[hlen,h1,h3,hh,hrow',hr1,hr2,hr3,hi,hq,hr,hr',hf,f1,fa1,hsx,hevt,hev];refine⟨_,⟨by simp[hlen],by simp[h1],by simp[h3],?_,?_⟩,hE⟩
   ·rw[←hrow'];exact hk0
   ·exact hk1
  ·have hil:i=l.length:=Yc hle (Yb hi);subst hil;rw[Yd,List.flatMap_nil,failL_nil]at hE;subst hE;simp[hlen,hr2,hr3];exact⟨by simp[hlen],by simp[h1],by simp[h3],hh,hh1⟩
 ·rintro o fr' h' rfl ⟨rfl,hS⟩;simp;exact hX _ _ hS
theorem cc_8 (l:List Sp)(e0 v:Int)(X:Code)(hl:l.length≤1000000000)(hq:r5.length=l.length)(hg:∀i:Nat,r5[i]?=(l[i]?).map encSp)
 (f:∀x∈l,∀b h,callN cx M b 141 [.ag (encSp x)] h=some (.sc (.int .i64 (setE x)),h))
 (fa:∀b id e0 e h,h[id]?=some (.row [.sc (.int .i64 e0)])→callN cx M b 137 [.pt id 0,.sc (.int .i64 e)] h=some (.tp [],h.set id (.row [.sc (.int .i64 (failS e0 e))])))
 (hX:∀fr h,SC (ccR kd op ds r1 r2 a0 a1 a2 a3 a4 a5 a6 a7 a8 nm r3 r4 sk li r5 r6) (failL e0 (l.flatMap fun x=> [setE x])) fr h→PC (exec2 cx (callN cx M) X (fr,h)) v) (fr:List AV) (h:Hp) (hS:SC (ccR kd op ds r1 r2 a0 a1 a2 a3 a4 a5 a6 a7 a8 nm r3 r4 sk li r5 r6) e0 fr h):PC (exec2 cx (callN cx M) (.seq (cL (cT 8 kCC)) X) (fr,h)) v:=by
 obtain⟨hlen,h1,h3,hh,hh1⟩:=hS;generalize hrow:ccR kd op ds r1 r2 a0 a1 a2 a3 a4 a5 a6 a7 a8 nm r3 r4 sk li r5 r6=row at hh hX;have hrow':=hrow.symm;unfold ccR at hrow';simp[kCC,cT,cR,cL,Tryz.f76,hlen,h1,h3,hh,hrow',hq];generalize hXX:exec2 cx (callN cx M) (.loop _) _=XX;generalize hA:(l.flatMap fun x=> [setE x])=A at hX;refine loopE hXX
  (fun i s=>(∃e,SC row e s.1 s.2∧failL e ((l.drop i).flatMap fun x=> [setE x])=failL e0 A)∧gt s.1 93= .ls 13 r5 false∧gt s.1 94= .sc (.int .i64 (l.length:Nat))∧gt s.1 95= .sc (.int .i64 (i:Nat)))
  (fun o s=>o= .exit 9∧SC row (failL e0 A) s.1 s.2)
  l.length (by simp;omega) ⟨⟨e0,⟨by simp[hlen],by simp[h1],by simp[h3],hh,hh1⟩,by rw[Yf,hA]⟩,by simp[hlen],by simp[hlen],by simp[hlen]⟩ ?_ ?_
 ·clear hXX XX hA hX hh hh1 hrow;rintro i fr hp hle ⟨⟨e,⟨hlen,h1,h3,hh,hh1⟩,hE⟩,hr1,hr2,hr3⟩;simp only at hlen h1 h3 hh hh1 hE hr1 hr2 hr3;by_cases hi:i<l.length
  ·obtain⟨x,hx,hr,hr'⟩:=row_get hg hi;have hmem:=Zi hx;have hf:fitI .i64 ((i:Int)+1)=((i+1:Nat):Int):=fit_i64 (by omega) (by omega);rw[show l.drop i=x::l.drop (i+1) by obtain⟨k,e⟩:=Za.1 hx;rw[Zm k,e],List.flatMap_cons,failL_app]at hE;have f1:=f x hmem;have hev:(encSp x).length=13:=by simp[encSp,encX_length]
   generalize setE x=c at f1 hE;generalize encSp x=ev at hr hr' f1 hev;have hevt:ev.take 13=ev:=List.take_of_length_le (by omega);have hsx:=spX13 hev;have fa1:=fun b=>fa b 1 e c (hp++[.row ev]) (get_app _ hh1)
   have hk0:=get_set_ne (id:=1) (b:= .row [.sc (.int .i64 (failS e c))]) (get_app [.row ev] hh) (by omega);have hk1:=get_set_self (id:=1) (b:= .row [.sc (.int .i64 (failS e c))]) (get_app [.row ev] hh1);have hhg:=get_app [.row ev] hh;have hhg':∀k,(hp++[Blk.row ev])[0]'k= .row row:=fun kx=>by obtain⟨_,e⟩:=Za.1 hhg;exact e
   rw[failL_cons,failL_nil]at hE;generalize failS e c=e' at fa1 hE hk0 hk1;simp[hlen,h1,h3,hh,hrow',hr1,hr2,hr3,hi,hq,hr,hr',hf,f1,fa1,hsx,hevt,hev];refine⟨_,⟨by simp[hlen],by simp[h1],by simp[h3],?_,?_⟩,hE⟩
   ·rw[←hrow'];exact hk0
   ·exact hk1
  ·have hil:i=l.length:=Yc hle (Yb hi);subst hil;rw[Yd,List.flatMap_nil,failL_nil]at hE;subst hE;simp[hlen,hr2,hr3];exact⟨by simp[hlen],by simp[h1],by simp[h3],hh,hh1⟩
 ·rintro o fr' h' rfl ⟨rfl,hS⟩;simp;exact hX _ _ hS
theorem cc_7 (l:List Op')(e0 v:Int)(X:Code)(hl:l.length≤1000000000)(hq:r4.length=l.length)(hg:∀i:Nat,r4[i]?=(l[i]?).map encOp)
 (f:∀x∈l,∀b h,callN cx M b 139 [.ag (encX x.e)] h=some (.sc (.int .i64 (chkX x.e)),h))
 (fa:∀b id e0 e h,h[id]?=some (.row [.sc (.int .i64 e0)])→callN cx M b 137 [.pt id 0,.sc (.int .i64 e)] h=some (.tp [],h.set id (.row [.sc (.int .i64 (failS e0 e))])))
 (hX:∀fr h,SC (ccR kd op ds r1 r2 a0 a1 a2 a3 a4 a5 a6 a7 a8 nm r3 r4 sk li r5 r6) (failL e0 (l.flatMap fun x=> [chkX x.e])) fr h→PC (exec2 cx (callN cx M) X (fr,h)) v) (fr:List AV) (h:Hp) (hS:SC (ccR kd op ds r1 r2 a0 a1 a2 a3 a4 a5 a6 a7 a8 nm r3 r4 sk li r5 r6) e0 fr h):PC (exec2 cx (callN cx M) (.seq (cL (cT 7 kCC)) X) (fr,h)) v:=by
 obtain⟨hlen,h1,h3,hh,hh1⟩:=hS;generalize hrow:ccR kd op ds r1 r2 a0 a1 a2 a3 a4 a5 a6 a7 a8 nm r3 r4 sk li r5 r6=row at hh hX;have hrow':=hrow.symm;unfold ccR at hrow';simp[kCC,cT,cR,cL,Tryz.f76,hlen,h1,h3,hh,hrow',hq];generalize hXX:exec2 cx (callN cx M) (.loop _) _=XX;generalize hA:(l.flatMap fun x=> [chkX x.e])=A at hX;refine loopE hXX
  (fun i s=>(∃e,SC row e s.1 s.2∧failL e ((l.drop i).flatMap fun x=> [chkX x.e])=failL e0 A)∧gt s.1 81= .ls 10 r4 false∧gt s.1 82= .sc (.int .i64 (l.length:Nat))∧gt s.1 83= .sc (.int .i64 (i:Nat)))
  (fun o s=>o= .exit 7∧SC row (failL e0 A) s.1 s.2)
  l.length (by simp;omega) ⟨⟨e0,⟨by simp[hlen],by simp[h1],by simp[h3],hh,hh1⟩,by rw[Yf,hA]⟩,by simp[hlen],by simp[hlen],by simp[hlen]⟩ ?_ ?_
 ·clear hXX XX hA hX hh hh1 hrow;rintro i fr hp hle ⟨⟨e,⟨hlen,h1,h3,hh,hh1⟩,hE⟩,hr1,hr2,hr3⟩;simp only at hlen h1 h3 hh hh1 hE hr1 hr2 hr3;by_cases hi:i<l.length
  ·obtain⟨x,hx,hr,hr'⟩:=row_get hg hi;have hmem:=Zi hx;have hf:fitI .i64 ((i:Int)+1)=((i+1:Nat):Int):=fit_i64 (by omega) (by omega);rw[show l.drop i=x::l.drop (i+1) by obtain⟨k,e⟩:=Za.1 hx;rw[Zm k,e],List.flatMap_cons,failL_app]at hE;have f1:=f x hmem;obtain⟨b0,b1,b2,b3,b4,b5,b6,b7,b8,he9⟩:=encX9 x.e;generalize chkX x.e=c at f1 hE;unfold encOp at hr hr';rw[he9]at hr f1;simp only[he9]at hr';simp only[Zv,Zw]at hr hr';have hsx:=spX10 (ev:=[b0,b1,b2,b3,b4,b5,b6,b7,b8,.sc (.bool x.desc)]) rfl;have fa1:=fun b=>fa b 1 e c (hp++[.row [b0,b1,b2,b3,b4,b5,b6,b7,b8,.sc (.bool x.desc)]]) (get_app _ hh1)
   have hk0:=get_set_ne (id:=1) (b:= .row [.sc (.int .i64 (failS e c))]) (get_app [.row [b0,b1,b2,b3,b4,b5,b6,b7,b8,.sc (.bool x.desc)]] hh) (by omega);have hk1:=get_set_self (id:=1) (b:= .row [.sc (.int .i64 (failS e c))]) (get_app [.row [b0,b1,b2,b3,b4,b5,b6,b7,b8,.sc (.bool x.desc)]] hh1);rw[failL_cons,failL_nil]at hE;generalize failS e c=e' at fa1 hE hk0 hk1;simp[hlen,h1,h3,hh,hrow',hr1,hr2,hr3,hi,hq,hr,hr',hf,f1,fa1,hsx];refine⟨_,⟨by simp[hlen],by simp[h1],by simp[h3],?_,?_⟩,hE⟩
   ·rw[←hrow'];exact hk0
   ·exact hk1
  ·have hil:i=l.length:=Yc hle (Yb hi);subst hil;rw[Yd,List.flatMap_nil,failL_nil]at hE;subst hE;simp[hlen,hr2,hr3];exact⟨by simp[hlen],by simp[h1],by simp[h3],hh,hh1⟩
 ·rintro o fr' h' rfl ⟨rfl,hS⟩;simp;exact hX _ _ hS
theorem cc_6 (l:List Ip)(e0 v:Int)(X:Code)(hl:l.length≤1000000000)(hq:r3.length=l.length)(hg:∀i:Nat,r3[i]?=(l[i]?).map encIp)
 (f:∀x∈l,∀b h,callN cx M b 139 [.ag (encX x.e)] h=some (.sc (.int .i64 (chkX x.e)),h))
 (fa:∀b id e0 e h,h[id]?=some (.row [.sc (.int .i64 e0)])→callN cx M b 137 [.pt id 0,.sc (.int .i64 e)] h=some (.tp [],h.set id (.row [.sc (.int .i64 (failS e0 e))])))
 (fn:∀b id e0 s h,h[id]?=some (.row [.sc (.int .i64 e0)])→callN cx M b 140 [.pt id 0,.sc (.string s)] h=some (.tp [],h.set id (.row [.sc (.int .i64 (failS e0 (needS s)))])))
 (hX:∀fr h,SC (ccR kd op ds r1 r2 a0 a1 a2 a3 a4 a5 a6 a7 a8 nm r3 r4 sk li r5 r6) (failL e0 (l.flatMap fun x=> [chkX x.e,needS x.nm])) fr h→PC (exec2 cx (callN cx M) X (fr,h)) v) (fr:List AV) (h:Hp) (hS:SC (ccR kd op ds r1 r2 a0 a1 a2 a3 a4 a5 a6 a7 a8 nm r3 r4 sk li r5 r6) e0 fr h):PC (exec2 cx (callN cx M) (.seq (cL (cT 6 kCC)) X) (fr,h)) v:=by
 obtain⟨hlen,h1,h3,hh,hh1⟩:=hS;generalize hrow:ccR kd op ds r1 r2 a0 a1 a2 a3 a4 a5 a6 a7 a8 nm r3 r4 sk li r5 r6=row at hh hX;have hrow':=hrow.symm;unfold ccR at hrow';simp[kCC,cT,cR,cL,Tryz.f76,hlen,h1,h3,hh,hrow',hq];generalize hXX:exec2 cx (callN cx M) (.loop _) _=XX;generalize hA:(l.flatMap fun x=> [chkX x.e,needS x.nm])=A at hX;refine loopE hXX
  (fun i s=>(∃e,SC row e s.1 s.2∧failL e ((l.drop i).flatMap fun x=> [chkX x.e,needS x.nm])=failL e0 A)∧gt s.1 66= .ls 10 r3 false∧gt s.1 67= .sc (.int .i64 (l.length:Nat))∧gt s.1 68= .sc (.int .i64 (i:Nat)))
  (fun o s=>o= .exit 5∧SC row (failL e0 A) s.1 s.2)
  l.length (by simp;omega) ⟨⟨e0,⟨by simp[hlen],by simp[h1],by simp[h3],hh,hh1⟩,by rw[Yf,hA]⟩,by simp[hlen],by simp[hlen],by simp[hlen]⟩ ?_ ?_
 ·clear hXX XX hA hX hh hh1 hrow;rintro i fr hp hle ⟨⟨e,⟨hlen,h1,h3,hh,hh1⟩,hE⟩,hr1,hr2,hr3⟩;simp only at hlen h1 h3 hh hh1 hE hr1 hr2 hr3;by_cases hi:i<l.length
  ·obtain⟨x,hx,hr,hr'⟩:=row_get hg hi;have hmem:=Zi hx;have hf:fitI .i64 ((i:Int)+1)=((i+1:Nat):Int):=fit_i64 (by omega) (by omega);rw[show l.drop i=x::l.drop (i+1) by obtain⟨k,e⟩:=Za.1 hx;rw[Zm k,e],List.flatMap_cons,failL_app]at hE;have f1:=f x hmem;obtain⟨b0,b1,b2,b3,b4,b5,b6,b7,b8,he9⟩:=encX9 x.e;generalize chkX x.e=c at f1 hE;unfold encIp at hr hr';rw[he9]at hr f1;simp only[he9]at hr';simp only[Zv,Zw]at hr hr';have hsx:=spX10 (ev:=[b0,b1,b2,b3,b4,b5,b6,b7,b8,.sc (.string x.nm)]) rfl;have fa1:=fun b=>fa b 1 e c (hp++[.row [b0,b1,b2,b3,b4,b5,b6,b7,b8,.sc (.string x.nm)]]) (get_app _ hh1)
   have hk0:=get_set_ne (id:=1) (b:= .row [.sc (.int .i64 (failS e c))]) (get_app [.row [b0,b1,b2,b3,b4,b5,b6,b7,b8,.sc (.string x.nm)]] hh) (by omega);have hk1:=get_set_self (id:=1) (b:= .row [.sc (.int .i64 (failS e c))]) (get_app [.row [b0,b1,b2,b3,b4,b5,b6,b7,b8,.sc (.string x.nm)]] hh1);have fn1:=fun b=>fn b 1 (failS e c) x.nm _ hk1
   have hk2:=get_set_ne (id:=1) (b:= .row [.sc (.int .i64 (failS (failS e c) (needS x.nm)))]) hk0 (by omega);have hk3:=get_set_self (id:=1) (b:= .row [.sc (.int .i64 (failS (failS e c) (needS x.nm)))]) hk1;have hkx:((hp++[Blk.row [b0,b1,b2,b3,b4,b5,b6,b7,b8,.sc (.string x.nm)]]).set 1 (.row [.sc (.int .i64 (failS e c))]))[hp.length]?=some (.row [b0,b1,b2,b3,b4,b5,b6,b7,b8,.sc (.string x.nm)]):=by
    refine get_set_ne (by simp) ?_;have:=(Za.1 hh1).1;omega
   rw[failL_cons,failL_cons,failL_nil]at hE;clear hk0 hk1;have hk0:=hk2;have hk1:=hk3;clear hk2 hk3;generalize failS (failS e c) (needS x.nm)=e' at fn1 hE hk0 hk1;generalize failS e c=e1 at fa1 fn1 hk0 hk1 hkx;generalize((hp++[Blk.row [b0,b1,b2,b3,b4,b5,b6,b7,b8,.sc (.string x.nm)]]).set 1 (.row [.sc (.int .i64 e1)]))=hp2 at fa1 fn1 hk0 hk1 hkx;simp[hlen,h1,h3,hh,hrow',hr1,hr2,hr3,hi,hq,hr,hr',hf,f1,fa1,fn1,hkx,hsx];refine⟨_,⟨by simp[hlen],by simp[h1],by simp[h3],?_,?_⟩,hE⟩
   ·rw[←hrow'];exact hk0
   ·exact hk1
  ·have hil:i=l.length:=Yc hle (Yb hi);subst hil;rw[Yd,List.flatMap_nil,failL_nil]at hE;subst hE;simp[hlen,hr2,hr3];exact⟨by simp[hlen],by simp[h1],by simp[h3],hh,hh1⟩
 ·rintro o fr' h' rfl ⟨rfl,hS⟩;simp;exact hX _ _ hS
theorem cc_9 (l:List ByteArray)(e0 v:Int)(X:Code)(hl:l.length≤1000000000)(hq:r6.length=l.length)(hg:∀i:Nat,r6[i]?=(l[i]?).map (fun s=> [.sc (.string s)]))
 (fn:∀b id e0 s h,h[id]?=some (.row [.sc (.int .i64 e0)])→callN cx M b 140 [.pt id 0,.sc (.string s)] h=some (.tp [],h.set id (.row [.sc (.int .i64 (failS e0 (needS s)))])))
 (hX:∀fr h,SC (ccR kd op ds r1 r2 a0 a1 a2 a3 a4 a5 a6 a7 a8 nm r3 r4 sk li r5 r6) (failL e0 (l.flatMap fun x=> [needS x])) fr h→PC (exec2 cx (callN cx M) X (fr,h)) v) (fr:List AV) (h:Hp) (hS:SC (ccR kd op ds r1 r2 a0 a1 a2 a3 a4 a5 a6 a7 a8 nm r3 r4 sk li r5 r6) e0 fr h):PC (exec2 cx (callN cx M) (.seq (cL (cT 9 kCC)) X) (fr,h)) v:=by
 obtain⟨hlen,h1,h3,hh,hh1⟩:=hS;generalize hrow:ccR kd op ds r1 r2 a0 a1 a2 a3 a4 a5 a6 a7 a8 nm r3 r4 sk li r5 r6=row at hh hX;have hrow':=hrow.symm;unfold ccR at hrow';simp[kCC,cT,cR,cL,Tryz.f76,hlen,h1,h3,hh,hrow',hq];generalize hXX:exec2 cx (callN cx M) (.loop _) _=XX;generalize hA:(l.flatMap fun x=> [needS x])=A at hX;refine loopE hXX
  (fun i s=>(∃e,SC row e s.1 s.2∧failL e ((l.drop i).flatMap fun x=> [needS x])=failL e0 A)∧gt s.1 104= .ls 1 r6 false∧gt s.1 105= .sc (.int .i64 (l.length:Nat))∧gt s.1 106= .sc (.int .i64 (i:Nat)))
  (fun o s=>o= .exit 11∧SC row (failL e0 A) s.1 s.2)
  l.length (by simp;omega) ⟨⟨e0,⟨by simp[hlen],by simp[h1],by simp[h3],hh,hh1⟩,by rw[Yf,hA]⟩,by simp[hlen],by simp[hlen],by simp[hlen]⟩ ?_ ?_
 ·clear hXX XX hA hX hh hh1 hrow;rintro i fr hp hle ⟨⟨e,⟨hlen,h1,h3,hh,hh1⟩,hE⟩,hr1,hr2,hr3⟩;simp only at hlen h1 h3 hh hh1 hE hr1 hr2 hr3;by_cases hi:i<l.length
  ·obtain⟨x,hx,hr,hr'⟩:=row_get hg hi;have hmem:=Zi hx;have hf:fitI .i64 ((i:Int)+1)=((i+1:Nat):Int):=fit_i64 (by omega) (by omega);rw[show l.drop i=x::l.drop (i+1) by obtain⟨k,e⟩:=Za.1 hx;rw[Zm k,e],List.flatMap_cons,failL_app]at hE;have fn1:=fun b=>fn b 1 e x hp hh1
   have hk0:=get_set_ne (id:=1) (b:= .row [.sc (.int .i64 (failS e (needS x)))]) hh (by omega);have hk1:=get_set_self (id:=1) (b:= .row [.sc (.int .i64 (failS e (needS x)))]) hh1;rw[failL_cons,failL_nil]at hE;generalize failS e (needS x)=e' at fn1 hE hk0 hk1;simp[hlen,h1,h3,hh,hrow',hr1,hr2,hr3,hi,hq,hr,hr',hf,fn1];refine⟨_,⟨by simp[hlen],by simp[h1],by simp[h3],?_,?_⟩,hE⟩
   ·rw[←hrow'];exact hk0
   ·exact hk1
  ·have hil:i=l.length:=Yc hle (Yb hi);subst hil;rw[Yd,List.flatMap_nil,failL_nil]at hE;subst hE;simp[hlen,hr2,hr3];exact⟨by simp[hlen],by simp[h1],by simp[h3],hh,hh1⟩
 ·rintro o fr' h' rfl ⟨rfl,hS⟩;simp;exact hX _ _ hS
theorem cc_10 (e:Int)(fr:List AV)(h:Hp)(hS:SC (ccR kd op ds r1 r2 a0 a1 a2 a3 a4 a5 a6 a7 a8 nm r3 r4 sk li r5 r6) e fr h):PC (exec2 cx (callN cx M) (cT 10 kCC) (fr,h)) e:=by
 obtain⟨hlen,h1,h3,hh,hh1⟩:=hS;simp[kCC,cT,cR,cL,Tryz.f76,hlen,h1,h3,hh1];exact PC_ret (by simp[hlen])
theorem cc_5 (e0 c v:Int)(X:Code)
 (f:kd=2→∀b h,callN cx M b 139 [.ag [a0,a1,a2,a3,a4,a5,a6,a7,a8]] h=some (.sc (.int .i64 c),h))
 (fa:∀b id e0 e h,h[id]?=some (.row [.sc (.int .i64 e0)])→callN cx M b 137 [.pt id 0,.sc (.int .i64 e)] h=some (.tp [],h.set id (.row [.sc (.int .i64 (failS e0 e))])))
 (fn:∀b id e0 s h,h[id]?=some (.row [.sc (.int .i64 e0)])→callN cx M b 140 [.pt id 0,.sc (.string s)] h=some (.tp [],h.set id (.row [.sc (.int .i64 (failS e0 (needS s)))])))
 (hX:∀fr h,SC (ccR kd op ds r1 r2 a0 a1 a2 a3 a4 a5 a6 a7 a8 nm r3 r4 sk li r5 r6) (if kd=2 then failS (failS e0 c) (needS nm)else e0) fr h→PC (exec2 cx (callN cx M) X (fr,h)) v) (fr:List AV) (h:Hp) (hS:SC (ccR kd op ds r1 r2 a0 a1 a2 a3 a4 a5 a6 a7 a8 nm r3 r4 sk li r5 r6) e0 fr h):PC (exec2 cx (callN cx M) (.seq (cL (cT 5 kCC)) X) (fr,h)) v:=by
 obtain⟨hlen,h1,h3,hh,hh1⟩:=hS;by_cases hk:kd=2
 ·rw[if_pos hk]at hX;have f1:=f hk;have fa1:=fun b=>fa b 1 e0 c h hh1
  have hk0:=get_set_ne (id:=1) (b:= .row [.sc (.int .i64 (failS e0 c))]) hh (by omega);have hk1:=get_set_self (id:=1) (b:= .row [.sc (.int .i64 (failS e0 c))]) hh1;have fn1:=fun b=>fn b 1 (failS e0 c) nm _ hk1
  have hk2:=get_set_ne (id:=1) (b:= .row [.sc (.int .i64 (failS (failS e0 c) (needS nm)))]) hk0 (by omega);have hk3:=get_set_self (id:=1) (b:= .row [.sc (.int .i64 (failS (failS e0 c) (needS nm)))]) hk1;generalize failS (failS e0 c) (needS nm)=e' at fn1 hk2 hk3 hX;generalize failS e0 c=e1 at fa1 fn1 hk0 hk1 hk2 hk3;generalize h.set 1 (.row [.sc (.int .i64 e1)])=hp2 at fa1 fn1 hk0 hk1 hk2 hk3;generalize hrow:ccR kd op ds r1 r2 a0 a1 a2 a3 a4 a5 a6 a7 a8 nm r3 r4 sk li r5 r6=row at *;have hrow':=hrow.symm;unfold ccR at hrow';subst hrow';simp[kCC,cT,cR,cL,Tryz.f76,hlen,h1,h3,hh,hk,f1,fa1,fn1,hk0];exact hX _ _ ⟨by simp[hlen],by simp[hlen,h1],by simp[hlen,h3],hk2,hk3⟩
 ·rw[if_neg hk]at hX;unfold ccR at hh;simp[kCC,cT,cR,cL,Tryz.f76,hlen,h1,h3,hh,hk];exact hX _ _ ⟨by simp[hlen],by simp[hlen,h1],by simp[hlen,h3],hh,hh1⟩
def okX (D d:Nat)(e:Ep):Prop:=depX e≤d∧bdX D e
structure BdC (D d:Nat)(c:Cp):Prop where
 paths:∀p∈c.paths,bdT D d p
 wher:∀e∈c.wher,okX D d e
 e:okX D d c.e
 items:∀x∈c.items,okX D d x.e
 order:∀x∈c.order,okX D d x.e
 sets:∀x∈c.sets,okX D d x.e
 n1:c.paths.length≤1000000000
 n2:c.wher.length≤1000000000
 n3:c.items.length≤1000000000
 n4:c.order.length≤1000000000
 n5:c.sets.length≤1000000000
 n6:c.names.length≤1000000000
def clauseY (c:Cp):Int:=failL (failL 0 (c.paths.flatMap fun x=> [pathE x (decide (c.kind=5))])) (c.wher.flatMap fun x=> [chkX x])
def clauseZ (c:Cp):Int:=if c.kind=2 then failS (failS (clauseY c) (chkX c.e)) (needS c.name)else clauseY c
def clauseX (c:Cp):Int:=failL (failL (failL (failL (clauseZ c) (c.items.flatMap fun x=> [chkX x.e,needS x.nm])) (c.order.flatMap fun x=> [chkX x.e])) (c.sets.flatMap fun x=> [setE x])) (c.names.flatMap fun x=> [needS x])
def crowB (c:Cp):Bool:=crowC c.kind c.paths.length c.wher.length c.items.length c.order.length c.sets.length c.names.length
def clauseE (c:Cp):Int:=if c.kind<1 then 1 else if 8<c.kind then 1 else if strayC c=true then 1 else if crowB c=true then 4 else clauseX c
theorem sy_CheckClause (D d n:Nat)(b:Bool)(c:Cp)(h:Hp)(hb:BdC D d c)(hn:2*D+3*d+30≤n):callN cx n b 76 [.ag (encCp c)] h=some (.sc (.int .i64 (clauseE c)),h):=by
 obtain⟨M,rfl⟩:∃M,n=M+1:=⟨n-1,by omega⟩;have hcalm:[AV.ag (encCp c)].all calm=true:=by
  have h0:=calm_encX c.e;simp[encCp,calm]at h0⊢;exact h0
 refine pure_calm (n:=M) (r:= .sc (.int .i64 (clauseE c))) ⟨Tryz.f76.ntmps,(Tryz.f76.body).getD .skip,[.tmp 2]⟩ (by kernel_rfl) (by kernel_rfl) rfl (by kernel_rfl) (by simp[Tryz.f76]) hcalm rfl ?_ b h;obtain⟨k1,e1⟩:∃k,M=k+1:=⟨M-1,by omega⟩;obtain⟨k2,e2⟩:∃k,M=k+2:=⟨M-2,by omega⟩;obtain⟨k4,e4⟩:∃k,M=k+4:=⟨M-4,by omega⟩;obtain⟨kc,ec⟩:∃k,M=k+2*D+9+d:=⟨M-2*D-9-d,by omega⟩;obtain⟨ks,es⟩:∃k,M=k+2*D+10+d:=⟨M-2*D-10-d,by omega⟩;have fa:∀b id e0 e h,h[id]?=some (.row [.sc (.int .i64 e0)])→callN cx M b 137 [.pt id 0,.sc (.int .i64 e)] h=some (.tp [],h.set id (.row [.sc (.int .i64 (failS e0 e))])):=fun b id e0 e h h0=>by rw[e1];exact sy_add k1 b id e0 e h h0
 have fn:∀b id e0 s h,h[id]?=some (.row [.sc (.int .i64 e0)])→callN cx M b 140 [.pt id 0,.sc (.string s)] h=some (.tp [],h.set id (.row [.sc (.int .i64 (failS e0 (needS s)))])):=fun b id e0 s h h0=>by rw[e4];exact sy_need k4 b id e0 s h h0
 have fx:∀x:Ep,okX D d x→∀b h,callN cx M b 139 [.ag (encX x)] h=some (.sc (.int .i64 (chkX x)),h):=fun x hx b h=>by rw[ec];exact sy_CheckExpr kc D d b x h hx.1 hx.2
 obtain⟨a0,a1,a2,a3,a4,a5,a6,a7,a8,he9⟩:=encX9 c.e;have hAll:∀fr h,SC (ccR c.kind c.opt c.dist (tpR c.paths) (encXs c.wher) a0 a1 a2 a3 a4 a5 a6 a7 a8 c.name (ipR c.items) (opR c.order) c.skip c.limit (spR c.sets) (tsR c.names)) 0 fr h→PC (exec2 cx (callN cx M) (cT 3 kCC) (fr,h)) (clauseX c):=by
  intro fr h hS;rw[show cT 3 kCC= .seq (cL (cT 3 kCC)) (.seq (cL (cT 4 kCC)) (.seq (cL (cT 5 kCC)) (.seq (cL (cT 6 kCC)) (.seq (cL (cT 7 kCC)) (.seq (cL (cT 8 kCC)) (.seq (cL (cT 9 kCC)) (cT 10 kCC))))))) by kernel_rfl];refine cc_3 M _ _ _ _ _ _ _ _ _ _ _ _ _ _ _ _ _ _ _ _ _ c.paths _ _ _ hb.n1 (tpR_length _) (tpR_get _) (fun x hx b h=>sy_CheckPath D d M b x _ h (hb.paths x hx) (by omega)) fa (fun fr h hS=>?_) fr h hS;refine cc_4 M _ _ _ _ _ _ _ _ _ _ _ _ _ _ _ _ _ _ _ _ _ c.wher _ _ _ hb.n2 (encXs_length _) (encXs_get _) (fun x hx b h=>fx x (hb.wher x hx) b h) fa (fun fr h hS=>?_) fr h hS;refine cc_5 M _ _ _ _ _ _ _ _ _ _ _ _ _ _ _ _ _ _ _ _ _ _ (chkX c.e) _ _ (fun _ b h=>by rw[←he9];exact fx _ hb.e b h) fa fn (fun fr h hS=>?_) fr h hS;refine cc_6 M _ _ _ _ _ _ _ _ _ _ _ _ _ _ _ _ _ _ _ _ _ c.items _ _ _ hb.n3 (ipR_length _) (ipR_get _) (fun x hx b h=>fx _ (hb.items x hx) b h) fa fn (fun fr h hS=>?_) fr h hS;refine cc_7 M _ _ _ _ _ _ _ _ _ _ _ _ _ _ _ _ _ _ _ _ _ c.order _ _ _ hb.n4 (opR_length _) (opR_get _) (fun x hx b h=>fx _ (hb.order x hx) b h) fa (fun fr h hS=>?_) fr h hS;refine cc_8 M _ _ _ _ _ _ _ _ _ _ _ _ _ _ _ _ _ _ _ _ _ c.sets _ _ _ hb.n5 (spR_length _) (spR_get _) (fun x hx b h=>by rw[es];exact sy_checkSet ks D d b x h (hb.sets x hx).1 (hb.sets x hx).2) fa (fun fr h hS=>?_) fr h hS;refine cc_9 M _ _ _ _ _ _ _ _ _ _ _ _ _ _ _ _ _ _ _ _ _ c.names _ _ _ hb.n6 (tsR_length _) (tsR_get _) fn (fun fr h hS=>?_) fr h hS;exact cc_10 M _ _ _ _ _ _ _ _ _ _ _ _ _ _ _ _ _ _ _ _ _ _ fr h hS
 have f1:=fun b h=>sy_stray (M-4) D b c h hb.e.2
 have f2:=fun b h=>sy_crowded k2 b c h
 rw[show M-4+4=M by omega]at f1;rw[←e2]at f2;change∀b h,_=some (AV.sc (.bool (crowB c)),h)at f2;show(finX _ (exec2 cx (callN cx M) kCC _)).map Prod.fst=_;rw[show kCC= .seq (cL (cT 0 kCC)) (.seq (cL (cT 1 kCC)) (.seq (cL (cT 2 kCC)) (cT 3 kCC))) by kernel_rfl];generalize cT 3 kCC=X3 at hAll⊢;unfold clauseE;generalize clauseX c=V at hAll⊢;generalize strayC c=w1 at f1⊢;generalize crowB c=w2 at f2⊢;clear e1 e2 e4 ec es fa fn fx hcalm hb hn;unfold encCp at f1 f2⊢;rw[he9]at f1 f2⊢;unfold ccR at hAll;simp only[Zv,Zw]at f1 f2⊢;generalize tpR c.paths=r1 at *;generalize encXs c.wher=r2 at *;generalize ipR c.items=r3 at *;generalize opR c.order=r4 at *;generalize spR c.sets=r5 at *;generalize tsR c.names=r6 at *;generalize c.kind=kd at *;by_cases c1:kd<1
 ·rw[if_pos c1];simp[kCC,cT,cR,cL,Tryz.f76,c1]
 rw[if_neg c1];by_cases c2:8<kd
 ·rw[if_pos c2];simp[kCC,cT,cR,cL,Tryz.f76,c1,c2]
 rw[if_neg c2];cases w1
 ·cases w2
  ·simp[kCC,cT,cR,cL,Tryz.f76,c1,c2,f1,f2];exact hAll _ _ ⟨by simp,by simp,by simp,rfl,rfl⟩
  ·simp[kCC,cT,cR,cL,Tryz.f76,c1,c2,f1,f2]
 ·simp[kCC,cT,cR,cL,Tryz.f76,c1,c2,f1]
end
end Go.Proofs.YtmocfjnklfpnbaaGreatDoor
