/- Part of the proof. -/
import Derived.Test.YtmfohnojaginjaaGreatDoorP8
import Derived.Test.YtmfohnojaginjaaGreatDoorProg
import Derived.KernelRfl
import Derived.Lib.IndexMore
set_option linter.all false
set_option maxRecDepth 100000
namespace Go.Proofs.YtmfohnojaginjaaGreatDoor
open Go Go.Ae Go.Proofs.Tryz
def ajZ(f:FuncId):Bool:=([72,73,75,76,128,116,117,118,119,120,122,123,134,349,350,354,87,88,200,201,204,205,206,207,208,209,210,211,212,213,214,215,216,217,135,133,136,138,139,140,434,176,179,332,333,335,337,339,340,343,344,399,154,233,234,235,236,238,239,240,241,242,243,277,281,284,292,425,426,427,428,302,429,430,355,357,361,363,364,365,367,369,388,487,185,421,338,410,405,305,407,472,307,471,461,507,394,462,300,395,396,458,460,463,299,457,536,196,420,327,331,197,418,320,424,484,199,328,198,114,330,325,323,321,502,315,191,195,319,37,38,313,190,543,608,41,78,506,318,194,414,84,77,126,535,416,79,537,310,504,303,555,314,480,571,464,599,482,412,534,400,590,413,439]:List Nat).contains f
def WK(o:Oper):Bool:=
 match o.op with
 | .makeSlice t _ _=>t==246 && (o.dst==some 31||o.dst==some 32)
 | .buildSlice t n _=>(t==146 && n==0 && o.dst==some 35)||(t==71 && n==1 && o.dst==some 42)||(t==27 && n==1 && o.dst==some 35)||(t==48 && n==0 && o.dst==some 29)||(t==23 && n==1 && o.dst==some 37)||(t==71 && n==1 && o.dst==some 22)||(t==49 && n==1 && o.dst==some 27)||(t==132 && n==1 && o.dst==some 43)||(t==145 && n==1 && (o.dst==some 13||o.dst==some 48))||(t==475 && n==2 && o.dst==some 60)||(t==246 && (o.dst==some 7||o.dst==some 14||o.dst==some 31||o.dst==some 41||o.dst==some 47||o.dst==some 114||o.dst==some 125))
 | .slice t _ _ (some _) none=>(o.dst==some 25 && (t==102||t==39||t==35||t==48||t==71))||(o.dst==some 22||o.dst==some 31) && (t==48||t==49||t==23||t==24||t==30)
 | .call {callee:= .builtin .append,argTypes,.. }=>o.dst==some 37 && argTypes.toList==[146,146]||o.dst==some 32 && argTypes.toList==[48,48]
 |_=>false
def aey(f:FuncId):Bool:=f==492||f==494
def VW(f:FuncId):Option Nat:=if f=134 then some 1 else if f=135 then some 6 else if f=133 then some 3 else if f=136 then some 5 else if f=399 then some 5 else if f=85 then some 10 else if f=313 then some 5 else none
def WL(f:FuncId):Option (Nat × Nat):=if f=238 then some (1,16)else if f=365 then some (6,80)else if f=235 then some (3,56)else if f=242 then some (5,64)else none
def Mo(f:FuncId)(xs:List AV):Option AV:=
 if f=467 then(match xs with
  | [.sc (.int .i64 n)]=>if-9223372036854775808<=n/\n<=9223372036854775807 then some (.sc (.string ⟨(WI n).toArray⟩))else none
  |_=>none)
 else if f=451 then(match xs with
  | [.sc (.string a),.sc (.string b)]=>if a.size<4294967281 then some (.sc (.bool (Lib.contains a.data.toList b.data.toList)))else none
  |_=>none)
 else match VW f,xs with
  |some sz,[.ls s [] _]=>if s=sz then some (.ls sz [] (sz !=10))else none
  |_,_=>none
def Fs(f:FuncId):Bool:=([54,49,22,29,7,90,51,34,24,8,141,145,146,148,147,91,52,130,50]:List Nat).contains f
def Ps(f:FuncId):Bool:=([401,352,224,226]:List Nat).contains f
def kx(f:FuncId):Nat:=if([85]:List Nat).contains f then 10 else if([244]:List Nat).contains f then 6 else if([370]:List Nat).contains f then 5 else if([]:List Nat).contains f then 2 else if([]:List Nat).contains f then 1 else if([]:List Nat).contains f then 8 else 0
def OW(f:FuncId)(r:AV):AV:=if Fs f then xn r else if Ps f then nfW r else nfX (kx f) r
def jx(f:FuncId):Bool:= !(f==467||f==451||(VW f).isSome||(WL f).isSome||(Fs f||Ps f)||kx f !=0)
def WM(g:Nat):Option (List Value):=if g=0 then some [.int .i64 0,.int .i64 1]else if g=2 then some pow10C else if g=1 then some [.tuple #[]]else none
def tw{f:FuncId}{args:List AV}(h:jx f=true):Mo f args=none:=by
 simp only[jx,Xj,Bool.or_eq_false_iff,Option.isSome_eq_false_iff,Yb,beq_eq_false_iff_ne]at h;unfold Mo;rw[cm h.1.1.1.1.1,cm h.1.1.1.1.2,h.1.1.1.2]
def Bc{f:FuncId}(h:jx f=true):WL f=none:=by
 simp only[jx,Xj,Bool.or_eq_false_iff,Option.isSome_eq_false_iff,Yb,beq_eq_false_iff_ne]at h;exact h.1.1.2
def Nv{f:FuncId}(h:jx f=true)(r:AV):OW f r=r:=by
 simp only[jx,Xj,Bool.or_eq_false_iff,Option.isSome_eq_false_iff,Yb,bne_eq_false_iff_eq]at h;unfold OW;rw[h.1.2.1,h.1.2.2,h.2];rfl
def xo(f:FuncId):Bool:= !(f==467||f==451||(VW f).isSome)
def uH{f:FuncId}{args:List AV}(h:xo f=true):Mo f args=none:=by
 simp only[xo,Xj,Bool.or_eq_false_iff,Option.isSome_eq_false_iff,Yb,beq_eq_false_iff_ne]at h;unfold Mo;rw[cm h.1.1,cm h.1.2,h.2]
def aj0(id:Nat)(ops:Array Oper):Option (Nat × Nat):=bif Nat.beq id 1 && Nat.beq ops.size 11 then(match ops[0]? with|some o=>(bif o.dst==some 10 then some (7,9)else none)|none=>none)else none
def abo(f:FuncId):Bool:=([112,536,35,424]:List Nat).contains f
noncomputable def cx :Cx:={P:=prog,T:=eH prog,G:=WM,F:=λf=>bif Nat.blt f 669 then(bif abo f then none else G4 prog f)else none,inl:=ajZ,ux:=Mo,oW:=λf=>if f=427 then some (487,9)else none,Ss:=λf=>if f=138 then some 228 else none,jI:=WK,ext:=aey,ins:=WL,nf:=OW,thr:=λf=>Nat.beq f 240,two:=aj0,fuel:=1125899906842624}
def gD{f:FuncId}{args:List AV}{n:Nat}{r r':AV}{h':Hp}(fi:Fi)(hF:cx.F f=some fi)(gI:sZ cx fi.body=true)(hs:cx.oW f=none)(hi:cx.inl f=false)(hl:args.length<=fi.ntmps)(hc:args.all dk=true)(hb:dL fi.res (cO cx (ch cx n) fi.body (args++List.replicate (fi.ntmps-args.length) .un,[]))=some (r,h'))(hr:cD h' 8 r=some r')(b:Bool)(h:Hp)(ht:jx f=true:=by decide):ch cx (n+1) b f args h=some (r',h):=
 El hs hi (tw ht) (Nv ht _) hc (by rw[jL hF gI hl];exact hb) hr b h
def Rx{f:FuncId}{args:List AV}{n:Nat}{r:AV}(fi:Fi)(hF:cx.F f=some fi)(gI:sZ cx fi.body=true)(hs:cx.oW f=none)(hi:cx.inl f=false)(hl:args.length<=fi.ntmps)(hc:args.all dk=true)(hr:dk r=true)(hb:(dL fi.res (cO cx (ch cx n) fi.body (args++List.replicate (fi.ntmps-args.length) .un,[]))).map Prod.fst=some r)(b:Bool)(h:Hp)(ht:jx f=true:=by decide):ch cx (n+1) b f args h=some (r,h):=by
 simp only[Ze]at hb;obtain⟨⟨r0,h'⟩,hb,rfl⟩:=hb;exact gD fi hF gI hs hi hl hc hb (rJ (n:=6) hr) b h ht
def gP{f:FuncId}{args:List AV}{n:Nat}(R:AV->Prop)(fi:Fi)(hF:cx.F f=some fi)(gI:sZ cx fi.body=true)(hs:cx.oW f=none)(hi:cx.inl f=false)(hl:args.length<=fi.ntmps)(hc:args.all dk=true)(hb:∃r h',dL fi.res (cO cx (ch cx n) fi.body (args++List.replicate (fi.ntmps-args.length) .un,[]))=some (r,h')/\∃r',cD h' 8 r=some r'/\R r')(ht:jx f=true:=by decide):∃r',R r'/\∀b h,ch cx (n+1) b f args h=some (r',h):=by
 obtain⟨r,h',hb,r',hr,hR⟩:=hb;exact⟨r',hR,λb h=>gD fi hF gI hs hi hl hc hb hr b h ht⟩
def abp{f:FuncId}{args:List AV}{n:Nat}(r0:AV)(fi:Fi)(hF:cx.F f=some fi)(gI:sZ cx fi.body=true)(hs:cx.oW f=none)(hi:cx.inl f=false)(hl:args.length<=fi.ntmps)(hc:args.all dk=true)(hb:∃r h',dL fi.res (cO cx (ch cx n) fi.body (args++List.replicate (fi.ntmps-args.length) .un,[]))=some (r,h')/\∃r',cD h' 8 r=some r'/\nfX (kx f) r'=r0)(ht:(xo f && !Fs f && !Ps f)=true:=by decide)(b:Bool)(h:Hp):ch cx (n+1) b f args h=some (r0,h):=by
 obtain⟨r,h',hb,r',hr,hR⟩:=hb;simp only[Zh,Xj]at ht;have:=mq (C:=cx) hs hi (uH ht.1.1) hc (by rw[jL hF gI hl];exact hb) hr b h;rw[this];show some (OW f r',h)=_;unfold OW;rw[ht.1.2,ht.2];simp[hR]
instance :Coe Int AV:=⟨λx=>.sc (.int .i64 x)⟩
instance :Coe Nat AV:=⟨λx=>.sc (.int .i64 x)⟩
instance :Coe Bool AV:=⟨λx=>.sc (.bool x)⟩
instance :Coe ByteArray AV:=⟨λx=>.sc (.string x)⟩
instance :Coe Unit AV:=⟨λ_=>.sc (.slice none 0 0)⟩
noncomputable instance :CoeFun Nat λ_=>Code->St->Option (Out × St):=⟨λn=>cO cx (ch cx n)⟩
abbrev LA:=List AV
def eR{f:FuncId}{args:List AV}{n:Nat}{r:AV}(fn:Func)(res:List Rv)(hc:args.all dk=true)(hr:dk r=true)(hb:(dL res (cO cx (ch cx n) ((fn.body).getD .skip) (args++List.replicate (fn.ntmps-args.length) .un,[]))).map Prod.fst=some r)(b:Bool)(h:Hp)(ht:jx f=true:=by decide)(hs:cx.oW f=none:=by rfl)(hF:cx.F f=some ⟨fn.ntmps,(fn.body).getD .skip,res⟩:=by kernel_rfl)(gI:sZ cx ((fn.body).getD .skip)=true:=by kernel_rfl)(hi:cx.inl f=false:=by kernel_rfl)(hl:Nat.ble args.length fn.ntmps=true:=by rfl):ch cx (n+1) b f args h=some (r,h):=
 Rx ⟨fn.ntmps,(fn.body).getD .skip,res⟩ hF gI hs hi (Nat.le_of_ble_eq_true hl) hc hr hb b h ht
def PE{f:FuncId}{args:List AV}{n:Nat}{r r':AV}{h':Hp}(fn:Func)(res:List Rv)(hc:args.all dk=true)(hb:dL res (cO cx (ch cx n) ((fn.body).getD .skip) (args++List.replicate (fn.ntmps-args.length) .un,[]))=some (r,h'))(hr:cD h' 8 r=some r')(b:Bool)(h:Hp)(ht:jx f=true:=by decide)(hs:cx.oW f=none:=by rfl)(hF:cx.F f=some ⟨fn.ntmps,(fn.body).getD .skip,res⟩:=by kernel_rfl)(gI:sZ cx ((fn.body).getD .skip)=true:=by kernel_rfl)(hi:cx.inl f=false:=by kernel_rfl)(hl:Nat.ble args.length fn.ntmps=true:=by rfl):ch cx (n+1) b f args h=some (r',h):=
 gD ⟨fn.ntmps,(fn.body).getD .skip,res⟩ hF gI hs hi (Nat.le_of_ble_eq_true hl) hc hb hr b h ht
def kcA{f:FuncId}{args:List AV}{n:Nat}{r0:AV}(fn:Func)(res:List Rv)(hc:args.all dk=true)(hb:∃r h',dL res (cO cx (ch cx n) ((fn.body).getD .skip) (args++List.replicate (fn.ntmps-args.length) .un,[]))=some (r,h')/\∃r',cD h' 8 r=some r'/\nfX (kx f) r'=r0)(b:Bool)(h:Hp)(ht:(xo f&&!Fs f&&!Ps f)=true:=by decide)(hs:cx.oW f=none:=by rfl)(hF:cx.F f=some ⟨fn.ntmps,(fn.body).getD .skip,res⟩:=by kernel_rfl)(gI:sZ cx ((fn.body).getD .skip)=true:=by kernel_rfl)(hi:cx.inl f=false:=by kernel_rfl)(hl:Nat.ble args.length fn.ntmps=true:=by rfl):ch cx (n+1) b f args h=some (r0,h):=
 abp r0 ⟨fn.ntmps,(fn.body).getD .skip,res⟩ hF gI hs hi (Nat.le_of_ble_eq_true hl) hc hb ht b h
def pQ{call:Bool->FuncId->List AV->Hp->Option (AV × Hp)}{c ct:Code}{fr:List AV}{h:Hp}{res:List Rv}{k:Nat}{v:AV}(Inv:Nat->List AV->Hp->Prop)(Q:Out->List AV->Hp->Prop)(N:Nat)(hN:N<cx.fuel)(hI:Inv 0 fr h)(step:∀i fr h,i<=N->Inv i fr h->Py (λi s=>Inv i s.1 s.2) (λo s=>Q o s.1 s.2) N i (cO cx call c (fr,h)))(fin:∀o fr h,o≠ .normal->Q o fr h->∃h',dL res (eX cx call (du k (some (o,(fr,h)))) ct)=some (v,h')):∃h',dL res (eX cx call (du k (cO cx call (.loop c) (fr,h))) ct)=some (v,h'):=
 ej (C:=cx) (G:=λr=>∃h',dL res (eX cx call (du k r) ct)=some (v,h')) (λi s=>Inv i s.1 s.2) (λo s=>Q o s.1 s.2) N hN hI step fin
def lpG{call:Bool->FuncId->List AV->Hp->Option (AV × Hp)}{c ct:Code}{fr:List AV}{h:Hp}{res:List Rv}{k m:Nat}{v:AV}(Inv:Nat->List AV->Hp->Prop)(Q:Out->List AV->Hp->Prop)(N:Nat)(hN:N<cx.fuel)(hI:Inv 0 fr h)(step:∀i fr h,i<=N->Inv i fr h->Py (λi s=>Inv i s.1 s.2) (λo s=>Q o s.1 s.2) N i (cO cx call c (fr,h)))(fin:∀o fr h,o≠ .normal->Q o fr h->∃r0 h',dL res (eX cx call (du k (some (o,(fr,h)))) ct)=some (r0,h')/\∃r',cD h' 8 r0=some r'/\nfX m r'=v):∃r0 h',dL res (eX cx call (du k (cO cx call (.loop c) (fr,h))) ct)=some (r0,h')/\∃r',cD h' 8 r0=some r'/\nfX m r'=v:=
 ej (C:=cx) (G:=λr=>∃r0 h',dL res (eX cx call (du k r) ct)=some (r0,h')/\∃r',cD h' 8 r0=some r'/\nfX m r'=v) (λi s=>Inv i s.1 s.2) (λo s=>Q o s.1 s.2) N hN hI step fin
def eA{α:Type}{l:List α}{i:Nat}(h:i<l.length):∃p,l[i]?=some p:=⟨_,List.getElem?_eq_getElem h⟩
def gA{α:Type}{l:List α}{i:Nat}{x:α}(h:l[i]?=some x):∀k:i<l.length,l[i]'k=x:=λk=>by obtain⟨_,e⟩:=List.getElem?_eq_some_iff.1 h;exact e
def gq{α β:Type}{P:α->β->Prop}{a:α}{b:β}(h:P a b):∃r h',(a=r/\b=h')/\P r h':=⟨_,_,⟨rfl,rfl⟩,h⟩
@[simp] def aif :cx.jI=WK:=rfl
@[simp] def aj6 :cx.ext=aey:=rfl
@[simp] def akA :cx.T 3=some {size:=1,agg:=false,zero:=[.int .i64 (0)],kd:= .GY}:=by kernel_rfl
@[simp] def aku :cx.T 4=some {size:=1,agg:=false,zero:=[.bool false],kd:= .GY}:=by kernel_rfl
@[simp] def agP :cx.T 9=some {size:=1,agg:=false,zero:=[.string ⟨#[]⟩],kd:= .GY}:=by kernel_rfl
@[simp] def ahR :cx.T 246=some {size:=1,agg:=false,zero:=[.slice none 0 0],kd:= .slice 1 false 8 [.int .i64 (0)]}:=by kernel_rfl
@[simp] def acu :cx.T 73=some {size:=5,agg:=true,zero:=[.int .i64 (0),.int .i64 (0),.int .i64 (0),.string ⟨#[]⟩,.slice none 0 0],kd:= .struct [(0,1,false),(1,1,false),(2,1,false),(3,1,false),(4,1,false)]}:=by kernel_rfl
@[simp] def XU :cx.T 71=some {size:=1,agg:=false,zero:=[.slice none 0 0],kd:= .slice 5 true 64 [.int .i64 (0),.int .i64 (0),.int .i64 (0),.string ⟨#[]⟩,.slice none 0 0]}:=by kernel_rfl
@[simp] def aeI :cx.T 152=some {size:=8,agg:=true,zero:=[.int .i64 (0),.string ⟨#[]⟩,.string ⟨#[]⟩,.int .i64 (0),.int .i64 (0),.int .i64 (0),.string ⟨#[]⟩,.slice none 0 0],kd:= .struct [(0,1,false),(1,1,false),(2,1,false),(3,5,true)]}:=by kernel_rfl
@[simp] def abC :cx.T 39=some {size:=1,agg:=false,zero:=[.slice none 0 0],kd:= .slice 8 true 104 [.int .i64 (0),.string ⟨#[]⟩,.string ⟨#[]⟩,.int .i64 (0),.int .i64 (0),.int .i64 (0),.string ⟨#[]⟩,.slice none 0 0]}:=by kernel_rfl
@[simp] def aeP :cx.T 250=some {size:=2,agg:=true,zero:=[.int .i64 (0),.int .i64 (0)],kd:= .struct [(0,1,false),(1,1,false)]}:=by kernel_rfl
@[simp] def ack :cx.T 483=some {size:=3,agg:=true,zero:=[.bool false,.int .u64 (0),.int .u64 (0)],kd:= .struct [(0,1,false),(1,1,false),(2,1,false)]}:=by kernel_rfl
@[simp] def kh :cx.T 48=some {size:=1,agg:=false,zero:=[.slice none 0 0],kd:= .slice 1 false 16 [.string ⟨#[]⟩]}:=by kernel_rfl
@[simp] def ahY :cx.T 21=some {size:=1,agg:=false,zero:=[.int .i32 (0)],kd:= .GY}:=by kernel_rfl
@[simp] def agK :cx.T 296=some {size:=1,agg:=false,zero:=[.int .u64 (0)],kd:= .GY}:=by kernel_rfl
@[simp] def ahU :cx.T 5=some {size:=1,agg:=false,zero:=[.int .u8 (0)],kd:= .GY}:=by kernel_rfl
@[simp] def akE :cx.P.underlying 3=some (.int .i64):=by kernel_rfl
@[simp] def ahe :cx.P.underlying 296=some (.int .u64):=by kernel_rfl
@[simp] def aki :cx.P.underlying 4=some .bool:=by kernel_rfl
@[simp] def agX :isStr cx 9=true:=by kernel_rfl
@[simp] def akm :lf cx 246=true:=by kernel_rfl
@[simp] def ahg :lf cx 71=true:=by kernel_rfl
def cu{n:Int}(h1: -9223372036854775808<=n)(h2:n<=9223372036854775807):cS .i64 n=n:=by
 show(if-9223372036854775808<=n/\n<=9223372036854775807 then n else IntKind.i64.wrap n)=n;rw[cq ⟨h1,h2⟩]
def jX{n:Int}(h1:0<=n)(h2:n<=18446744073709551615):cS .u64 n=n:=by
 show(if 0<=n/\n<=18446744073709551615 then n else IntKind.u64.wrap n)=n;rw[cq ⟨h1,h2⟩]
@[simp] def ahw :cx.fuel=1125899906842624:=rfl
section
attribute [simp] lG zP WK aey rD ofConst kQ gM vQ Ai y8 GZ Mn Ae.part rowOf ka jJ u7 cls nB ju AY
attribute [local simp] cn
def EO :∀l:List UInt8,Op.bytesLess l l=false
 | []=>rfl
 |a::l=>by simp[Op.bytesLess,EO l]
def JT :∀l m:List UInt8,Op.bytesLess l m=false->l≠m->Op.bytesLess m l=true
 | [],[],_,h=>absurd rfl h
 | [],b::m,h,_=>by simp[Op.bytesLess]at h
 |a::l,[],_,_=>by simp[Op.bytesLess]
 |
  a::l,b::m,h,hn=>by
  simp only[Op.bytesLess,Bool.or_eq_false_iff,decide_eq_false_iff_not,Bool.and_eq_false_iff]at h;simp only[Op.bytesLess,Yy,Zy,Zh];by_cases e:a=b
  .subst e;refine .inr ⟨by simp,JT l m ?_ (λq=>hn (by rw[q]))⟩;rcases h.2 with h2|h2
   .simp at h2
   .exact h2
  .left;have h1:=h.1;rw[UInt8.lt_iff_toNat_lt]at h1|-;have:a.toNat≠b.toNat:=λq=>e (UInt8.toNat_inj.1 q)
   omega
def JU :∀l m k:List UInt8,Op.bytesLess l m=true->Op.bytesLess m k=true->Op.bytesLess l k=true
 |_,[],_,h,_=>by simp[Op.bytesLess]at h
 |_,_::_,[],_,h=>by simp[Op.bytesLess]at h
 | [],_::_,_::_,_,_=>by simp[Op.bytesLess]
 |
  a::l,b::m,c::k,h1,h2=>by
  simp only[Op.bytesLess,Yy,Zy,Zh,beq_iff_eq]at h1 h2|-;rw[UInt8.lt_iff_toNat_lt]at *;rcases h1 with h1|⟨rfl,h1⟩<;>rcases h2 with h2|⟨rfl,h2⟩
  .left;omega
  .left;exact h1
  .left;exact h2
  .exact .inr ⟨rfl,JU l m k h1 h2⟩
def iC(x y:ByteArray):fm x y=true↔x=y:=by
 unfold fm;rw[beq_iff_eq];exact⟨λh=>by
  obtain⟨⟨a⟩⟩:=x;obtain⟨⟨b⟩⟩:=y;simp at h;rw[h],λh=>by rw[h]⟩
def kc(x:ByteArray):nC x x=false:=EO _
def lg{x y:ByteArray}(h:nC x y=false)(hn:fm x y=false):nC y x=true:=by
 refine JT _ _ h λq=>?_
 have:fm x y=true:=by unfold fm;rw[beq_iff_eq];exact q
 rw[hn]at this;cases this
def qq{x y z:ByteArray}(h:nC x y=true)(k:nC y z=true):nC x z=true:=JU _ _ _ h k
def DL{x y:ByteArray}(h:nC x y=true):nC y x=false:=by
 cases q:nC y x with
 |false=>rfl
 |true=>have:=qq h q;rw[kc]at this;cases this
def Ry(n:Nat)(b:Bool)(x:Int)(h:Hp):ch cx (n+1) b 156 [.sc (.int .i64 x)] h=some (.sc (.bool false),h):=by
 refine PE (r:= .sc (.bool false)) (h':=[]) f156 [.tmp 2] rfl ?_ rfl b h;simp[f156]
def Rz(n:Nat)(b:Bool)(x:ByteArray)(h:Hp):ch cx (n+1) b 157 [.sc (.string x)] h=some (.sc (.bool false),h):=by
 refine PE (r:= .sc (.bool false)) (h':=[]) f157 [.tmp 2] rfl ?_ rfl b h;simp[f157,fm]
def dE(x y:Int):Int:=if x<y then-1 else if y<x then 1 else 0
def gT(n:Nat)(b:Bool)(x y:Int)(h:Hp):ch cx (n+2) b 98 [.sc (.int .i64 x),.sc (.int .i64 y)] h=some (.sc (.int .i64 (dE x y)),h):=by
 refine PE (r:= .sc (.int .i64 (dE x y))) (h':=[]) f98 [.tmp 4] rfl ?_ rfl b h;simp[f98,Ry];rw[EL];split<;>rename_i h1<;>simp at h1<;>simp[dE,h1];rw[EL];split<;>rename_i h2<;>simp at h2<;>simp[h1,h2];rw[cm (by omega),cm (by omega)]
def gJ(x y:ByteArray):Int:=bif nC x y then-1 else bif nC y x then 1 else 0
def kg(n:Nat)(b:Bool)(x y:ByteArray)(h:Hp):ch cx (n+2) b 99 [.sc (.string x),.sc (.string y)] h=some (.sc (.int .i64 (gJ x y)),h):=by
 refine PE (r:= .sc (.int .i64 (gJ x y))) (h':=[]) f99 [.tmp 4] rfl ?_ rfl b h;simp[f99,Rz];cases h1:nC x y<;>simp[gJ,h1];cases h2:fm x y
 .have h3:nC y x=true:=lg h1 h2;simp[h3]
 .have h3:nC y x=false:=by rw[(iC x y).1 h2];exact kc y
  simp[h3]
def sN :List Int->Int
 | []=>0
 |x::l=>if x=0 then sN l else x
def WN{xs:List Int}{i:Nat}{x:Int}(h:xs[i]?=some x):sN (xs.drop i)=if x=0 then sN (xs.drop (i+1))else x:=by
 obtain⟨hi,rfl⟩:=Za.1 h;rw[Zm hi];rfl
def acX(n:Nat)(b:Bool)(xs:List Int)(z:Bool)(h:Hp)(hl:xs.length<=1000000):ch cx (n+1) b 97 [.ls 1 (xs.map λx=> [.sc (.int .i64 x)]) z] h=some (.sc (.int .i64 (sN xs)),h):=by
 refine PE (r:= .sc (.int .i64 (sN xs))) (h':=[]) f97 [.tmp 2] rfl ?_ rfl b h;simp[f97,u7];refine ej (G:=λx=>dL _ (eX _ _ (du _ x) _)=_)
  (λi s=>sN xs=sN (xs.drop i)/\s.1.length=18/\gt s.1 3= .sc (.int .i64 0)/\gt s.1 6= .ls 1 (xs.map λx=> [.sc (.int .i64 x)]) z/\gt s.1 7= .sc (.int .i64 xs.length)/\gt s.1 8= .sc (.int .i64 i)/\s.2=[])
  (λo s=>s.2=[]/\s.1.length=18/\((o= .exit 0/\sN xs=0/\gt s.1 3= .sc (.int .i64 0))\/(o= .ret/\gt s.1 2= .sc (.int .i64 (sN xs))))) xs.length (by simp;omega) (by simp) ?_ ?_
 .rintro i fr h da ⟨ho,cf,h3,h6,h7,h8,rfl⟩;simp only at cf h3 h6 h7 h8;by_cases hi:i<xs.length
  .have hx:xs[i]?=some xs[i]:=Zb hi;have hd:=WN hx;have hf:cS .i64 ((i:Int)+1)=((i+1:Nat):Int):=cu (by omega) (by omega);by_cases h0:xs[i]=0
   .rw[cq h0]at hd;simp[cf,h3,h6,h7,h8,hi,h0,hf,ho,hd]
   .rw[cm h0]at hd;simp[cf,h3,h6,h7,h8,hi,h0,ho,hd]
  .have hz:sN xs=0:=by rw[ho,Zt (by omega)];rfl
   simp[cf,h3,h7,h8,hi,hz]
 .rintro o fr h hn ⟨rfl,cf,⟨rfl,h0,h3⟩|⟨rfl,h2⟩⟩
  .simp only at cf h3;simp[cf,h3,h0]
  .simp only at h2;simp[h2]
end
section
attribute [local simp] cn eD
def vg(n:Int):Bool:=decide (-1000000000000000<=n) && decide (n<=1000000000000000)
def mM(n:Int):vg n=true↔ -1000000000000000<=n/\n<=1000000000000000:=by simp[vg]
def E_(n:Nat)(b:Bool)(x:Int)(h:Hp):ch cx (n+1) b 431 [.sc (.int .i64 x)] h=some (.sc (.bool (vg x)),h):=by
 refine PE (r:= .sc (.bool (vg x))) (h':=[]) f431 [.tmp 2] rfl ?_ rfl b h;by_cases h1: -1000000000000000<=x<;>simp[f431,h1,vg]
def acT(n:Nat)(b:Bool)(x:Int)(h:Hp):ch cx (n+1) b 376 [.sc (.int .i64 x)] h=some (.sc (.bool (vg x)),h):=by
 refine PE (r:= .sc (.bool (vg x))) (h':=[]) f376 [.tmp 2] rfl ?_ rfl b h;by_cases h1: -1000000000000000<=x<;>simp[f376,h1,vg]
def abq(n:Nat)(b:Bool)(x:Int)(h:Hp)(hx:vg x=true):ch cx (n+1) b 530 [.sc (.int .i64 x)] h=some (.sc (.int .i64 x.natAbs),h):=by
 rw[mM]at hx;refine PE (r:= .sc (.int .i64 x.natAbs)) (h':=[]) f530 [.tmp 2] rfl ?_ rfl b h;have hf:cS .i64 (-x)= -x:=cu (by omega) (by omega);have hm:(if x< -x then-x else x)=(x.natAbs:Int):=by split<;>omega
 simp[f530,hf,hm]
def A_(n:Nat)(b:Bool)(x:Int)(h:Hp)(hx: -9223372036854775807<=x/\x<=9223372036854775807):ch cx (n+1) b 276 [.sc (.int .i64 x)] h=some (.sc (.int .i64 x.natAbs),h):=by
 refine PE (r:= .sc (.int .i64 x.natAbs)) (h':=[]) f276 [.tmp 2] rfl ?_ rfl b h;have hf:cS .i64 (-x)= -x:=cu (by omega) (by omega);by_cases h1:x<0
 .have hm: -x=(x.natAbs:Int):=by omega
  rw[hm]at hf;simp[f276,hf,h1,hm]
 .have hm:(x.natAbs:Int)=x:=by omega
  simp[f276,h1,hm]
def Lm(x y:Int):Int:=(Nat.gcd x.natAbs y.natAbs:Nat)
def abr(n:Nat)(b:Bool)(x y:Int)(h:Hp)(hx:vg x=true)(hy:vg y=true):ch cx (n+2) b 488 [.sc (.int .i64 x),.sc (.int .i64 y)] h=some (.sc (.int .i64 (Lm x y)),h):=by
 refine PE (r:= .sc (.int .i64 (Lm x y))) (h':=[]) f488 [.tmp 4] rfl ?_ rfl b h;simp[f488,E_,abq,hx,hy];rw[mM]at hx hy;refine nV (G:=λx=>dL _ (eX _ _ (du _ x) _)=_)
  (λk s=>∃p q:Nat,k=q/\Nat.gcd p q=Nat.gcd x.natAbs y.natAbs/\p<=1000000000000000/\q<=1000000000000000/\s.1.length=24/\gt s.1 0= .sc (.int .i64 p)/\gt s.1 1= .sc (.int .i64 q)/\s.2=[])
  (λo s=>s.2=[]/\s.1.length=24/\o= .exit 0/\gt s.1 0= .sc (.int .i64 (Nat.gcd x.natAbs y.natAbs))) y.natAbs (by simp;omega) ⟨x.natAbs,y.natAbs,rfl,rfl,by omega,by omega,by simp⟩ ?_ ?_
 .rintro k fr h ⟨p,q,rfl,hg,hp,hq,cf,h0,h1,rfl⟩;simp only at cf h0 h1;by_cases hz:k=0
  .subst hz;rw[Nat.gcd_zero_right]at hg;simp[cf,h0,h1,hg]
  .have hb:¬(k:Int)=0:=by omega
   have hm:((p:Int).tmod (k:Int))=((p % k:Nat):Int):=rfl;have hk:True:=trivial;have h2:Nat.gcd k (p % k)=Nat.gcd x.natAbs y.natAbs:=by rw[<-hg,Nat.gcd_comm p k,Nat.gcd_rec k p,Nat.gcd_comm]
   have h3:p % k<k:=Nat.mod_lt _ (by omega);simp[cf,h0,h1,hz,hm];exact⟨p % k,h3,k,h2,hq,by omega,rfl,rfl⟩
 .rintro o fr h hn ⟨rfl,cf,rfl,h0⟩;simp only at cf h0;simp[cf,h0,Lm]
def abt(n:Nat)(b:Bool)(x y:Nat)(h:Hp)(hx:x<=1000000000000000)(hy:y<=1000000000000000):ch cx (n+1) b 380 [.sc (.int .i64 x),.sc (.int .i64 y)] h=some (.sc (.int .i64 (Nat.gcd x y)),h):=by
 refine PE (r:= .sc (.int .i64 (Nat.gcd x y))) (h':=[]) f380 [.tmp 4] rfl ?_ rfl b h;simp[f380];refine nV (G:=λx=>dL _ (eX _ _ (du _ x) _)=_)
  (λk s=>∃p q:Nat,k=q/\Nat.gcd p q=Nat.gcd x y/\p<=1000000000000000/\q<=1000000000000000/\s.1.length=12/\gt s.1 0= .sc (.int .i64 p)/\gt s.1 1= .sc (.int .i64 q)/\s.2=[])
  (λo s=>s.2=[]/\s.1.length=12/\o= .exit 0/\gt s.1 0= .sc (.int .i64 (Nat.gcd x y))) y (by simp;omega) ⟨x,y,rfl,rfl,by omega,by omega,by simp⟩ ?_ ?_
 .rintro k fr h ⟨p,q,rfl,hg,hp,hq,cf,h0,h1,rfl⟩;simp only at cf h0 h1;by_cases hz:k=0
  .subst hz;rw[Nat.gcd_zero_right]at hg;simp[cf,h0,h1,hg]
  .have hb:¬(k:Int)=0:=by omega
   have hm:((p:Int).tmod (k:Int))=((p % k:Nat):Int):=rfl;have hk:0<k:=by omega
   have h2:Nat.gcd k (p % k)=Nat.gcd x y:=by rw[<-hg,Nat.gcd_comm p k,Nat.gcd_rec k p,Nat.gcd_comm]
   have h3:p % k<k:=Nat.mod_lt _ (by omega);simp[cf,h0,h1,hz,hm,hk];exact⟨p % k,h3,k,h2,hq,by omega,rfl,rfl⟩
 .rintro o fr h hn ⟨rfl,cf,rfl,h0⟩;simp only at cf h0;simp[cf,h0]
def kI(N D:Int):AV:= .ag [.sc (.int .i64 N),.sc (.int .i64 D)]
def fv(N D:Int):Bool:=decide (1<=D) && decide (D<=1000000000000000) && vg N && decide (Lm N D=1)
def aez{N D:Int}(h:fv N D=true):vg N=true/\vg D=true/\1<=D:=by
 simp only[fv,Zh,Zy]at h;exact⟨h.1.2,by rw[mM];omega,h.1.1.1⟩
def vZ(n:Nat)(b:Bool)(N D:Int)(h:Hp):ch cx (n+3) b 432 [kI N D] h=some (.sc (.bool (fv N D)),h):=by
 refine eR f432 [.tmp 2] rfl rfl ?_ b h;by_cases h1:1<=D
 .by_cases h2:D<=1000000000000000
  .cases h3:vg N with
   |false=>simp[f432,kI,h1,h2,E_,h3,fv]
   |
    true=>
    have hD:vg D=true:=by rw[mM];omega
    simp[f432,kI,h1,h2,E_,h3,fv,abr _ _ _ _ _ h3 hD]
  .simp[f432,kI,h1,h2,fv]
 .simp[f432,kI,h1,fv]
def qj(n:Nat)(b:Bool)(N D:Int)(h:Hp):ch cx (n+2) b 272 [kI N D] h=some (.sc (.bool (fv N D)),h):=by
 refine eR f272 [.tmp 2] rfl rfl ?_ b h;by_cases h1:1<=D
 .by_cases h2:D<=1000000000000000
  .by_cases h3: -1000000000000000<=N
   .by_cases h4:N<=1000000000000000
    .obtain⟨d,rfl⟩:∃d:Nat,D=d:=⟨D.toNat,by omega⟩;have h5:d<=1000000000000000:=by omega
     simp[f272,kI,h1,h2,h3,h4,vg,fv,Lm,A_ _ _ N _ ⟨by omega,by omega⟩,abt _ _ N.natAbs d _ (by omega) h5];rfl
    .simp[f272,kI,h1,h2,h3,h4,vg,fv]
   .simp[f272,kI,h1,h2,h3,vg,fv]
  .simp[f272,kI,h1,h2,fv]
 .simp[f272,kI,h1,fv]
def agE(x:Nat):x &&& 4294967295=x % 4294967296:=Nat.and_two_pow_sub_one_eq_mod x 32
def N8{x y:Int}(hx:0<=x)(U1:x<=4294967295)(hy:0<=y)(K8:y<=4294967295):0<=x*y/\x*y<=18446744065119617025:=
 ⟨Int.mul_nonneg hx hy,by have:=Int.mul_le_mul U1 K8 hy (by decide:(0:Int)<=4294967295);omega⟩
def Mul64(n:Nat)(b:Bool)(x y:Int)(h:Hp)(hx:0<=x)(U1:x<=18446744073709551615)(hy:0<=y)(K8:y<=18446744073709551615):
 ch cx (n+1) b 490 [.sc (.int .u64 x),.sc (.int .u64 y)] h=some (.tp [.sc (.int .u64 (x*y/18446744073709551616)),.sc (.int .u64 (x*y % 18446744073709551616))],h):=by
 obtain⟨x0,hx0⟩:∃x0,x0=x % 4294967296:=⟨_,rfl⟩;obtain⟨x1,hx1⟩:∃x1,x1=x/4294967296:=⟨_,rfl⟩;obtain⟨y0,X8⟩:∃y0,y0=y % 4294967296:=⟨_,rfl⟩;obtain⟨y1,Om⟩:∃y1,y1=y/4294967296:=⟨_,rfl⟩;have am:∀z:Int,0<=z->((z.toNat &&& 4294967295:Nat):Int)=z % 4294967296:=λz hz=>by rw[agE];omega
 have b00:=N8 (x:=x0) (y:=y0) (by omega) (by omega) (by omega) (by omega);have b10:=N8 (x:=x1) (y:=y0) (by omega) (by omega) (by omega) (by omega);have b01:=N8 (x:=x0) (y:=y1) (by omega) (by omega) (by omega) (by omega);have b11:=N8 (x:=x1) (y:=y1) (by omega) (by omega) (by omega) (by omega);have exy:x*y=x1*y1*18446744073709551616+(x1*y0+x0*y1)*4294967296+x0*y0:=by
  have ex:x=x1*4294967296+x0:=by omega
  have ey:y=y1*4294967296+y0:=by omega
  rw[ex,ey,Int.add_mul,Int.mul_add,Int.mul_add,Int.add_mul];have e1:x1*4294967296*(y1*4294967296)=x1*y1*18446744073709551616:=by rw[Int.mul_assoc,<-Int.mul_assoc 4294967296,Int.mul_comm 4294967296 y1,Int.mul_assoc y1,<-Int.mul_assoc x1];rfl
  have e2:x1*4294967296*y0=x1*y0*4294967296:=by rw[Int.mul_assoc,Int.mul_comm 4294967296 y0,<-Int.mul_assoc]
  have e3:x0*(y1*4294967296)=x0*y1*4294967296:=by rw[Int.mul_assoc]
  omega
 obtain⟨P,hP⟩:∃P,P=x0*y0:=⟨_,rfl⟩;obtain⟨Q,hQ⟩:∃Q,Q=x1*y0:=⟨_,rfl⟩;obtain⟨R,hR⟩:∃R,R=x0*y1:=⟨_,rfl⟩;obtain⟨S,hS⟩:∃S,S=x1*y1:=⟨_,rfl⟩;rw[<-hP]at b00 exy;rw[<-hQ]at b10 exy;rw[<-hR]at b01 exy;rw[<-hS]at b11 exy;have Dn:S+(Q+P/4294967296)/4294967296+((Q+P/4294967296) % 4294967296+R)/4294967296=x*y/18446744073709551616:=by omega
 have R7:cS .u64 (x*y)=x*y % 18446744073709551616:=by
  rw[mA];simp[IntKind.wrap,IntKind.signed,IntKind.bits]
 have aa:cS .u64 P=P:=jX (by omega) (by omega);have af:cS .u64 Q=Q:=jX (by omega) (by omega);have ah:cS .u64 (Q+P/4294967296)=Q+P/4294967296:=jX (by omega) (by omega);have ai:cS .u64 R=R:=jX (by omega) (by omega);have aj:cS .u64 ((Q+P/4294967296) % 4294967296+R)=(Q+P/4294967296) % 4294967296+R:=jX (by omega) (by omega);have ak:cS .u64 S=S:=jX (by omega) (by omega);have au:cS .u64 (S+(Q+P/4294967296)/4294967296)=S+(Q+P/4294967296)/4294967296:=jX (by omega) (by omega);have az:cS .u64 (S+(Q+P/4294967296)/4294967296+((Q+P/4294967296) % 4294967296+R)/4294967296)=S+(Q+P/4294967296)/4294967296+((Q+P/4294967296) % 4294967296+R)/4294967296:=jX (by omega) (by omega);have a1:=am x hx;have a2:=am y hy;have a3:=am (Q+P/4294967296) (by omega);have p3:0<=Q+P/4294967296:=by omega
 have q3:Q+P/4294967296<=18446744073709551615:=by omega
 rw[<-hx0]at a1;rw[<-X8]at a2;have r:=Dn.symm;refine PE (r:= .tp [.sc (.int .u64 (x*y/18446744073709551616)),.sc (.int .u64 (x*y % 18446744073709551616))]) (h':=[]) f490 [.tmp 4,.tmp 5] rfl ?_ rfl b h;simp[f490,hx,U1,hy,K8,a1,a2,<-hx1,<-Om,<-hP,<-hQ,<-hR,<-hS,aa,af,ah,p3,q3,a3,ai,aj,ak,au,az,R7,r,IntKind.bits]
def EP(n:Nat)(b:Bool)(x:Int)(h:Hp)(hx:vg x=true):ch cx (n+1) b 491 [.sc (.int .i64 x)] h=some (.sc (.int .u64 x.natAbs),h):=by
 rw[mM]at hx;refine eR f491 [.tmp 2] rfl rfl ?_ b h;by_cases h1:x<0
 .have aa:cS .u64 x=x+18446744073709551616:=by
   rw[mA];simp only[IntKind.wrap,IntKind.signed,IntKind.bits,Xi,Ys,if_false];omega
  have af:cS .u64 (-(x+18446744073709551616))=(x.natAbs:Int):=by
   rw[mA];simp only[IntKind.wrap,IntKind.signed,IntKind.bits,Xi,Ys,if_false];omega
  simp[f491,h1,aa,af]
 .have aa:cS .u64 x=x:=jX (by omega) (by omega);have af:x=(x.natAbs:Int):=by omega
  simp[f491,h1,aa];exact af
def wA(g:Bool)(m:Int):AV:= .ag [.sc (.bool g),.sc (.int .u64 (m/18446744073709551616)),.sc (.int .u64 (m % 18446744073709551616))]
def xX(n:Nat)(b:Bool)(x y:Int)(h:Hp)(hx:vg x=true)(hy:vg y=true):
 ch cx (n+2) b 436 [.sc (.int .i64 x),.sc (.int .i64 y)] h=some (wA (decide (x<0) !=decide (y<0)) (x.natAbs*y.natAbs:Nat),h):=by
 have U1:=hx;have K8:=hy;rw[mM]at hx hy;refine eR f436 [.cell 4 3 true] rfl rfl ?_ b h;simp[f436,EP _ _ _ _ U1,EP _ _ _ _ K8,Mul64 _ _ (x.natAbs:Int) (y.natAbs:Int) _ (by omega) (by omega) (by omega) (by omega),wA]
def RD(n:Nat)(b:Bool)(g g':Bool)(x y:Int)(h:Hp):ch cx (n+1) b 493 [wA g x,wA g' y] h=some (.sc (.bool (decide (x<y))),h):=by
 refine eR f493 [.tmp 4] rfl rfl ?_ b h;by_cases h1:x/18446744073709551616<y/18446744073709551616
 .have h0:x<y:=by omega
  simp[f493,wA,h1,h0]
 .by_cases h2:x/18446744073709551616=y/18446744073709551616
  .have h0:(x % 18446744073709551616<y % 18446744073709551616)=(x<y):=propext (by omega);simp[f493,wA,h2,h0]
  .have h0:¬x<y:=by omega
   simp[f493,wA,h1,h2,h0]
def sgW(g:Bool)(m:Int):Int:=if m=0 then 0 else bif g then-1 else 1
def RE(n:Nat)(b:Bool)(g:Bool)(x:Int)(h:Hp)(h0:0<=x)(h1:x<18446744073709551616*18446744073709551616):ch cx (n+1) b 438 [wA g x] h=some (.sc (.int .i64 (sgW g x)),h):=by
 refine eR f438 [.tmp 2] rfl rfl ?_ b h;have a1:0<=x/18446744073709551616:=by omega
 have a2:x/18446744073709551616<=18446744073709551615:=by omega
 have a3:0<=x % 18446744073709551616:=by omega
 have a4:x % 18446744073709551616<=18446744073709551615:=by omega
 by_cases hz:x=0
 .subst hz;simp[f438,wA,sgW]
 .by_cases h2:x/18446744073709551616<=0
  .have h3:¬x % 18446744073709551616<=0:=by omega
   cases g<;>simp[f438,wA,sgW,hz,a1,a2,a3,a4,h2,h3]
  .cases g<;>simp[f438,wA,sgW,hz,a1,a2,a3,a4,h2]
def od{f:FuncId}{fr:List AV}{A B D:Operand}{x y c:Value}(hA:ev cx fr A= .sc x)(hB:ev cx fr B= .sc y)(hD:ev cx fr D= .sc c){d:Option Tmp}{ya:Array TypeId}{t:TypeId}{p:String}{a:Array Edge}{g:Option (Nat × Bool)}{r:Value}{R:AV}(hr:eQ cx.P (callFunc f #[x,y,c])=some (.value r))(hR:AX r=some R):j_ cx (ev cx fr) {dst:=d,op:= .call {callee:= .value (.func f),args:= #[A,B,D],argTypes:=ya},type:=t,pos:=p,after:=a,guard:=g}=some R:=by
 unfold j_;have e:execOp (λx=>vA (ev cx fr x)) {dst:=d,op:= .call {callee:= .value (.func f),args:= #[A,B,D],argTypes:=ya},type:=t,pos:=p,after:=a,guard:=g}=callFunc f #[x,y,c]:=by
  simp[execOp,resolve,Deferred.ofValue,invoke,vA,hA,hB,hD]
 rw[e,hr];simp[wY,Op.operands,Call.operands,y7,hA,hB,hD,hR]
def abu(x y:Int):eQ cx.P (callFunc 492 #[.int .u64 x,.int .u64 y,.int .u64 0])=some (.value (.tuple #[.int .u64 ((x.toNat+y.toNat+0) % 18446744073709551616:Nat),.int .u64 ((x.toNat+y.toNat+0)/18446744073709551616:Nat)])):=by kernel_rfl
def abv(x y:Int):eQ cx.P (callFunc 492 #[.int .u64 x,.int .u64 y,.int .u64 1])=some (.value (.tuple #[.int .u64 ((x.toNat+y.toNat+1) % 18446744073709551616:Nat),.int .u64 ((x.toNat+y.toNat+1)/18446744073709551616:Nat)])):=by kernel_rfl
def abw(x y:Int):eQ cx.P (callFunc 494 #[.int .u64 x,.int .u64 y,.int .u64 0])=some (.value (.tuple #[.int .u64 ((x.toNat+18446744073709551616-y.toNat-0) % 18446744073709551616:Nat),.int .u64 (if x.toNat<y.toNat+0 then 1 else 0:Nat)])):=by kernel_rfl
def abx(x y:Int):eQ cx.P (callFunc 494 #[.int .u64 x,.int .u64 y,.int .u64 1])=some (.value (.tuple #[.int .u64 ((x.toNat+18446744073709551616-y.toNat-1) % 18446744073709551616:Nat),.int .u64 (if x.toNat<y.toNat+1 then 1 else 0:Nat)])):=by kernel_rfl
def acd(x y c:Int)(hx:0<=x)(hy:0<=y)(hc:c=0\/c=1):eQ cx.P (callFunc 492 #[.int .u64 x,.int .u64 y,.int .u64 c])=some (.value (.tuple #[.int .u64 ((x+y+c) % 18446744073709551616),.int .u64 ((x+y+c)/18446744073709551616)])):=by
 rcases hc with rfl|rfl
 .rw[abu,show(((x.toNat+y.toNat+0) % 18446744073709551616:Nat):Int)=(x+y+0) % 18446744073709551616 by omega,show(((x.toNat+y.toNat+0)/18446744073709551616:Nat):Int)=(x+y+0)/18446744073709551616 by omega]
 .rw[abv,show(((x.toNat+y.toNat+1) % 18446744073709551616:Nat):Int)=(x+y+1) % 18446744073709551616 by omega,show(((x.toNat+y.toNat+1)/18446744073709551616:Nat):Int)=(x+y+1)/18446744073709551616 by omega]
def N9(x y c:Int)(hx:0<=x)(hy:0<=y)(K8:y<18446744073709551616)(hc:c=0\/c=1):eQ cx.P (callFunc 494 #[.int .u64 x,.int .u64 y,.int .u64 c])=some (.value (.tuple #[.int .u64 ((x+18446744073709551616-y-c) % 18446744073709551616),.int .u64 (if x<y+c then 1 else 0)])):=by
 rcases hc with rfl|rfl
 .rw[abw,show(((x.toNat+18446744073709551616-y.toNat-0) % 18446744073709551616:Nat):Int)=(x+18446744073709551616-y-0) % 18446744073709551616 by omega,show((if x.toNat<y.toNat+0 then 1 else 0:Nat):Int)=if x<y+0 then 1 else 0 by split<;>split<;>omega]
 .rw[abx,show(((x.toNat+18446744073709551616-y.toNat-1) % 18446744073709551616:Nat):Int)=(x+18446744073709551616-y-1) % 18446744073709551616 by omega,show((if x.toNat<y.toNat+1 then 1 else 0:Nat):Int)=if x<y+1 then 1 else 0 by split<;>split<;>omega]
def plG(g g':Bool)(x y:Int):Bool:=bif g==g' then g else bif decide (x<y)then g' else g
def WO(g g':Bool)(x y:Int):Int:=bif g==g' then x+y else bif decide (x<y)then y-x else x-y
def RH(n:Nat)(b:Bool)(g g':Bool)(x y:Int)(h:Hp)(hx:0<=x)(U1:x<18446744073709551616*9223372036854775808)(hy:0<=y)(K8:y<18446744073709551616*9223372036854775808):
 ch cx (n+2) b 437 [wA g x,wA g' y] h=some (wA (plG g g' x y) (WO g g' x y),h):=by
 refine eR f437 [.cell 4 3 true] rfl rfl ?_ b h;obtain⟨xh,hxh⟩:∃v,v=x/18446744073709551616:=⟨_,rfl⟩;obtain⟨xl,IB⟩:∃v,v=x % 18446744073709551616:=⟨_,rfl⟩;obtain⟨yh,hyh⟩:∃v,v=y/18446744073709551616:=⟨_,rfl⟩;obtain⟨yl,hyl⟩:∃v,v=y % 18446744073709551616:=⟨_,rfl⟩;cases hg:g==g' with
 |
  true=>
  have hc:(xl+yl)/18446744073709551616=0\/(xl+yl)/18446744073709551616=1:=by omega
  simp[f437,wA,plG,WO,hg,<-hxh,<-IB,<-hyh,<-hyl];rw[od ?_ ?_ ?_ (acd xl yl 0 (by omega) (by omega) (.inl rfl)) rfl]
  rotate_left
  .rfl
  .rfl
  .rfl
  simp;rw[od ?_ ?_ ?_ (acd xh yh ((xl+yl)/18446744073709551616) (by omega) (by omega) hc) rfl]
  rotate_left
  .rfl
  .rfl
  .rfl
  have aa:(xl+yl) % 18446744073709551616=(x+y) % 18446744073709551616:=by omega
  have af:(xh+yh+(xl+yl)/18446744073709551616) % 18446744073709551616=(x+y)/18446744073709551616:=by omega
  simp[aa,af]
 |
  false=>
  have hl:=λh=>RD n true g g' x y h
  simp only[wA,<-hxh,<-IB,<-hyh,<-hyl]at hl;by_cases dm:x<y
  .simp only[dm,decide_true]at hl;have hc:(if yl<xl then(1:Int)else 0)=0\/(if yl<xl then(1:Int)else 0)=1:=by split<;>simp
   simp[f437,wA,plG,WO,hg,<-hxh,<-IB,<-hyh,<-hyl,dm,hl];rw[od ?_ ?_ ?_ (N9 yl xl 0 (by omega) (by omega) (by omega) (.inl rfl)) rfl]
   rotate_left
   .rfl
   .rfl
   .rfl
   simp;rw[od ?_ ?_ ?_ (N9 yh xh (if yl<xl then 1 else 0) (by omega) (by omega) (by omega) hc) rfl]
   rotate_left
   .rfl
   .rfl
   .rfl
   have aa:(yl+18446744073709551616-xl) % 18446744073709551616=(y-x) % 18446744073709551616:=by omega
   have af:(yh+18446744073709551616-xh-(if yl<xl then 1 else 0)) % 18446744073709551616=(y-x)/18446744073709551616:=by split<;>omega
   simp[aa,af]
  .simp only[dm,decide_false]at hl;have hc:(if xl<yl then(1:Int)else 0)=0\/(if xl<yl then(1:Int)else 0)=1:=by split<;>simp
   simp[f437,wA,plG,WO,hg,<-hxh,<-IB,<-hyh,<-hyl,dm,hl];rw[od ?_ ?_ ?_ (N9 xl yl 0 (by omega) (by omega) (by omega) (.inl rfl)) rfl]
   rotate_left
   .rfl
   .rfl
   .rfl
   simp;rw[od ?_ ?_ ?_ (N9 xh yh (if xl<yl then 1 else 0) (by omega) (by omega) (by omega) hc) rfl]
   rotate_left
   .rfl
   .rfl
   .rfl
   have aa:(xl+18446744073709551616-yl) % 18446744073709551616=(x-y) % 18446744073709551616:=by omega
   have af:(xh+18446744073709551616-yh-(if xl<yl then 1 else 0)) % 18446744073709551616=(x-y)/18446744073709551616:=by split<;>omega
   simp[aa,af]
def ij(z:Int):Int:=if z<0 then-1 else if 0<z then 1 else 0
def WQ(n1 d1 n2 d2:Int)(h1:0<d1)(h2:0<d2):
 sgW (plG (decide (n1<0) !=decide (d2<0)) (decide (-n2<0) !=decide (d1<0)) (n1.natAbs*d2.natAbs:Nat) ((-n2).natAbs*d1.natAbs:Nat))
  (WO (decide (n1<0) !=decide (d2<0)) (decide (-n2<0) !=decide (d1<0)) (n1.natAbs*d2.natAbs:Nat) ((-n2).natAbs*d1.natAbs:Nat))=ij (n1*d2-n2*d1):=by
 obtain⟨p,hp⟩:∃p,p=n1*d2:=⟨_,rfl⟩;obtain⟨q,hq⟩:∃q,q=n2*d1:=⟨_,rfl⟩;have e1:((n1.natAbs*d2.natAbs:Nat):Int)=(p.natAbs:Int):=by rw[hp,Int.natAbs_mul]
 have e2:(((-n2).natAbs*d1.natAbs:Nat):Int)=(q.natAbs:Int):=by rw[hq,Int.natAbs_mul,Int.natAbs_neg]
 have g1:(n1<0)=(p<0):=propext ⟨λh=>by rw[hp];exact Int.mul_neg_of_neg_of_pos h h2,λh=>by
  rw[hp]at h;apply Classical.byContradiction;intro hn;have:=Int.mul_nonneg (Int.not_lt.1 hn) (Int.le_of_lt h2);omega⟩
 have g2:(-n2<0)=(0<q):=propext ⟨λh=>by rw[hq];exact Int.mul_pos (by omega) h1,λh=>by
  rw[hq]at h;apply Classical.byContradiction;intro hn;have:=Int.mul_nonneg (show 0<= -n2 by omega) (Int.le_of_lt h1);rw[Int.neg_mul]at this;omega⟩
 rw[e1,e2,<-hp,<-hq];have d10:decide (d1<0)=false:=decide_eq_false (by omega);have d20:decide (d2<0)=false:=decide_eq_false (by omega);simp only[g1,g2,d10,d20,Bool.bne_false,sgW,plG,WO,ij];by_cases a:p<0<;>by_cases b:0<q<;>by_cases c:(p.natAbs:Int)<q.natAbs<;>simp[a,b,c]<;>(repeat' split)<;>omega
def WR{g g':Bool}{x y B:Int}(hx:0<=x)(hy:0<=y)(U1:x<=B)(K8:y<=B):0<=WO g g' x y/\WO g g' x y<=2*B:=by
 unfold WO;cases g==g' with
 |true=>simp only[cond_true];omega
 |
  false=>
  by_cases h:x<y
  .simp only[h,decide_true,cond_true,cond_false];omega
  .simp only[h,decide_false,cond_false];omega
def fO(N D:Int):Int:=bif fv N D then N else 0
def jn(N D:Int):Int:=bif fv N D then D else 1
def A9(N D:Int):vg (fO N D)=true/\vg (jn N D)=true/\0<jn N D:=by
 unfold fO jn;cases h:fv N D with
 |true=>obtain⟨h1,h2,h3⟩:=aez h;exact⟨h1,h2,h3⟩
 |false=>exact⟨rfl,rfl,(by decide:(0:Int)<1)⟩
def ve(N1 D1 N2 D2:Int):Int:=ij (fO N1 D1*jn N2 D2-fO N2 D2*jn N1 D1)
def N_{x:Int}(h:vg x=true):vg (-x)=true:=by rw[mM]at *;omega
def JV{x y:Int}(hx:vg x=true)(hy:vg y=true):((x.natAbs*y.natAbs:Nat):Int)<=1000000000000000000000000000000:=by
 rw[mM]at *;have:=Nat.mul_le_mul (show x.natAbs<=1000000000000000 by omega) (show y.natAbs<=1000000000000000 by omega);omega
@[simp] def ahK(fr:List AV):ev cx fr (.global 0)= .rp [.sc (.int .i64 0),.sc (.int .i64 1)] 0:=rfl
@[simp] def aj8{C:Cx}{cal:FuncId->List AV->Hp->Option (AV × Hp)}{ops:Array Oper}(d:Tmp)(rest:List Oper)(fr:List AV)(g:Bool)(m:Int)(h:Hp):vV C cal ops (some d) rest fr (some (wA g m,h))=cp C cal ops rest (fr.set d (wA g m),h):=rfl
def SV(n:Nat)(b:Bool)(N1 D1 N2 D2:Int)(h:Hp):ch cx (n+4) b 348 [kI N1 D1,kI N2 D2] h=some (.sc (.int .i64 (ve N1 D1 N2 D2)),h):=by
 refine eR f348 [.tmp 4] rfl rfl ?_ b h;obtain⟨a1,a2,a3⟩:=A9 N1 D1;obtain⟨b1,b2,b3⟩:=A9 N2 D2;have hm:=WQ (fO N1 D1) (jn N1 D1) (fO N2 D2) (jn N2 D2) a3 b3;have l1:=JV a1 b2;have l2:=JV (N_ b1) a2;have c1:=λh=>xX (n+1) false _ _ h a1 b2
 have c2:=λh=>xX (n+1) false _ _ h (N_ b1) a2
 have c3:=λh=>RH (n+1) false (decide (fO N1 D1<0) !=decide (jn N2 D2<0)) (decide (-fO N2 D2<0) !=decide (jn N1 D1<0)) _ _ h (Int.natCast_nonneg ((fO N1 D1).natAbs*(jn N2 D2).natAbs)) (by omega) (Int.natCast_nonneg ((-fO N2 D2).natAbs*(jn N1 D1).natAbs)) (by omega)
 have c4:=λh=>RE (n+2) false (plG (decide (fO N1 D1<0) !=decide (jn N2 D2<0)) (decide (-fO N2 D2<0) !=decide (jn N1 D1<0)) ((fO N1 D1).natAbs*(jn N2 D2).natAbs:Nat) ((-fO N2 D2).natAbs*(jn N1 D1).natAbs:Nat)) (WO (decide (fO N1 D1<0) !=decide (jn N2 D2<0)) (decide (-fO N2 D2<0) !=decide (jn N1 D1<0)) ((fO N1 D1).natAbs*(jn N2 D2).natAbs:Nat) ((-fO N2 D2).natAbs*(jn N1 D1).natAbs:Nat)) h
  (WR (Int.natCast_nonneg _) (Int.natCast_nonneg _) l1 l2).1 (by have:=(WR (g:=decide (fO N1 D1<0) !=decide (jn N2 D2<0)) (g':=decide (-fO N2 D2<0) !=decide (jn N1 D1<0)) (Int.natCast_nonneg _) (Int.natCast_nonneg _) l1 l2).2;omega)
 rw[hm]at c4;generalize(decide (fO N1 D1<0) !=decide (jn N2 D2<0))=g1 at c1 c3 c4;generalize(decide (-fO N2 D2<0) !=decide (jn N1 D1<0))=g2 at c2 c3 c4;generalize(((fO N1 D1).natAbs*(jn N2 D2).natAbs:Nat):Int)=m1 at c1 c3 c4;generalize(((-fO N2 D2).natAbs*(jn N1 D1).natAbs:Nat):Int)=m2 at c2 c3 c4;generalize plG g1 g2 m1 m2=g3,WO g1 g2 m1 m2=m3 at c3 c4;have hf:cS .i64 (-fO N2 D2)= -fO N2 D2:=by have:=(mM _).1 b1;exact cu (by omega) (by omega)
 cases hA:fv N1 D1<;>cases hB:fv N2 D2<;>simp only[fO,jn,hA,hB,cond_true,cond_false]at c1 c2 c3 c4 hf
 case' false.false=>
  have q:wA g2 m2=wA g1 m1:=by
   have q:=c2 [];rw[Int.neg_zero,c1 []]at q;simp only[Zc,Zg,and_true]at q;exact q.symm
  rw[q]at c3
 all_goals
  have hA':=λn b h=>vZ n b N1 D1 h
  have RY:=λn b h=>vZ n b N2 D2 h
  simp only[kI]at hA' RY
  try simp only[Int.neg_zero]at c2 hf
  simp[f348,kI,hA',RY,hA,hB,c1,c2,c3,c4,hf,ve,fO,jn]
end
end Go.Proofs.YtmfohnojaginjaaGreatDoor
