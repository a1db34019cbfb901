/- Part of the proof. -/
import Derived.Test.YtaibpnppeiigdaaGreatDoorP7
import Derived.Test.YtaibpnppeiigdaaGreatDoorProg
import Derived.KernelRfl
import Derived.Lib.IndexMore
set_option linter.all false
set_option maxRecDepth 100000
namespace Go.Proofs.YtaibpnppeiigdaaGreatDoor
open Go Go.Ae Go.Proofs.Tryz
def akK (f:FuncId):Bool:=([102,53,54,103,101,104,106,107,108,298,253,163,168,169,170,171,173,174,175,176,177,178,227,229,233,235,236,237,239,241,60,111,179,139,67,126,77,182,64,184,127,195]:List Nat).contains f
def XS (o:Oper):Bool:=
 match o.op with
 | .makeSlice t _ _=>t==27 && (o.dst==some 31||o.dst==some 32)
 | .buildSlice t n _=>(t==27 && (n==3 && o.dst==some 47||n==1 && o.dst==some 63))||(t==36 && n==1 && o.dst==some 17)||(t==63 && n==1 && o.dst==some 22)||(t==53 && n==1 && o.dst==some 23)||(t==29 && n==1 && o.dst==some 42)||(t==26 && (n==2 && o.dst==some 155||n==3 && o.dst==some 165))
 | .slice t _ _ (some _) none=>(o.dst==some 22||o.dst==some 31) && (t==28||t==89||t==22||t==23)
 |_=>false
def ae9 (f:FuncId):Bool:=f==329||f==331
def Wz (f:FuncId):Option Nat:=if f=102 then some 1 else if f=103 then some 6 else if f=101 then some 3 else if f=104 then some 5 else if f=253 then some 5 else if f=179 then some 2 else if f=139 then some 1 else none
def GR (f:FuncId):Option (Nat × Nat):=if f=173 then some (1,16)else if f=237 then some (6,80)else if f=170 then some (3,56)else if f=177 then some (5,64)else if f=64 then some (0,0)else if f=184 then some (2,0)else if f=127 then some (1,1)else none
def yR :List (List AV)->Option (List Int)
 | []=>some []
 |
  [.sc (.int .i64 n)]::t=>match yR t with
  |some l=>some (n::l)
  |none=>none
 |_=>none
def uG :∀{cY:List (List AV)} {l:List Int},yR cY=some l->cY=l.map p8
 | [],l,h=>by cases h;rfl
 |
  r::t,l,h=>by
  unfold yR at h;split at h
  .rename_i e;cases e
  .rename_i n t' e;injection e with e1 e2
   subst e1 e2;split at h
   .rename_i l' q;cases h;rw[uG q];rfl
   .cases h
  .cases h
def yn (f:FuncId)(xs:List AV):Option AV:=
 if f=242 then(match xs with
  | [.sc (.int .i64 n)]=>if-9223372036854775808<=n/\n<=9223372036854775807 then some (.sc (.string ⟨(fM n).toArray⟩))else none
  |_=>none)
 else if f=127 then(match xs with
  |
   [.fn g [.rp [.ls 1 cY _] 0]]=>if g=210/\cY.length<=1000000000000 then(match yR cY with
   |some l=>some (EM l)
   |none=>none)else none
  |_=>none)
 else match Wz f,xs with
  |some sz,[.ls s [] _]=>if s=sz then some (.ls sz [] true)else none
  |_,_=>none
def Dw (f:FuncId):Bool:=([91,92,94,93,43,16,25]:List Nat).contains f
def Mr (f:FuncId):Bool:=([56,45,122]:List Nat).contains f
def kx (f:FuncId):Nat:=if([181,95]:List Nat).contains f then 5 else if([44,18,17,129,69,30,57,109,110,55,28,26]:List Nat).contains f then 2 else if([19,48,97,46,96,66]:List Nat).contains f then 1 else if([29,31]:List Nat).contains f then 8 else 0
def LS (f:FuncId)(r:AV):AV:=if Dw f then Ai r else if Mr f then nfW r else wI (kx f) r
def kv (f:FuncId):Bool:= !(f==242||f==127||(Wz f).isSome||(GR f).isSome||(Dw f||Mr f)||kx f !=0)
def XT (g:Nat):Option (List Value):=if g=0 then some [.int .i64 0,.int .i64 1]else if g=1 then some sY else none
def wV {f:FuncId}{args:List AV}(h:kv f=true):yn f args=none:=by
 simp only[kv,Xc,Bool.or_eq_false_iff,Option.isSome_eq_false_iff,Yd,beq_eq_false_iff_ne]at h;unfold yn;rw[db h.1.1.1.1.1,db h.1.1.1.1.2,h.1.1.1.2]
def Bc {f:FuncId}(h:kv f=true):GR f=none:=by
 simp only[kv,Xc,Bool.or_eq_false_iff,Option.isSome_eq_false_iff,Yd,beq_eq_false_iff_ne]at h;exact h.1.1.2
def abN {f:FuncId}(h:kv f=true)(r:AV):LS f r=r:=by
 simp only[kv,Xc,Bool.or_eq_false_iff,Option.isSome_eq_false_iff,Yd,bne_eq_false_iff_eq]at h;unfold LS;rw[h.1.2.1,h.1.2.2,h.2];rfl
def vM (f:FuncId):Bool:= !(f==242||f==127||(Wz f).isSome)
def rv {f:FuncId}{args:List AV}(h:vM f=true):yn f args=none:=by
 simp only[vM,Xc,Bool.or_eq_false_iff,Option.isSome_eq_false_iff,Yd,beq_eq_false_iff_ne]at h;unfold yn;rw[db h.1.1,db h.1.2,h.2]
@[simp] def mvF (t:TypeId):Option Nat:=if t=53 then some 5 else if t=55 then some 1 else none
attribute [simp] mvA mvB
noncomputable def cx :Cx:={P:=prog,T:=f_ prog,G:=XT,F:=λf=>bif Nat.blt f 343 then Pv prog f else none,inl:=akK,tE:=yn,ox:=λ_=>none,Y7:=λf=>if f=106 then some 150 else none,rV:=XS,ext:=ae9,ins:=GR,nf:=LS,thr:=λf=>Nat.beq f 175,mv:=mvF,fuel:=1125899906842624}
def xc {f:FuncId}{args:List AV}{n:Nat}{r r':AV}{h':Hp}(fi:Fi)(hF:cx.F f=some fi)(iG:tv cx fi.body=true)(hs:cx.ox f=none)(hi:cx.inl f=false)(hl:args.length<=fi.ntmps)(hc:args.all d_=true)
 (hb:eQ fi.res (dS cx (cW cx n) fi.body (args++List.replicate (fi.ntmps-args.length) .un,[]))=some (r,h')) (hr:dq h' 8 r=some r') (b:Bool) (h:Hp) (ht:kv f=true:=by decide):cW cx (n+1) b f args h=some (r',h):=
 Sr hs hi (wV ht) (abN ht _) hc (by rw[kh hF iG hl];exact hb) hr b h
def Sw {f:FuncId}{args:List AV}{n:Nat}{r:AV}(fi:Fi)(hF:cx.F f=some fi)(iG:tv cx fi.body=true)(hs:cx.ox f=none)(hi:cx.inl f=false)(hl:args.length<=fi.ntmps)(hc:args.all d_=true)(hr:d_ r=true)
 (hb:(eQ fi.res (dS cx (cW cx n) fi.body (args++List.replicate (fi.ntmps-args.length) .un,[]))).map Prod.fst=some r) (b:Bool) (h:Hp) (ht:kv f=true:=by decide):cW cx (n+1) b f args h=some (r,h):=by
 simp only[Ze]at hb;obtain⟨⟨r0,h'⟩,hb,rfl⟩:=hb;exact xc fi hF iG hs hi hl hc hb (oH (n:=6) hr) b h ht
def iQ {f:FuncId}{args:List AV}{n:Nat}(R:AV->Prop)(fi:Fi)(hF:cx.F f=some fi)(iG:tv cx fi.body=true)(hs:cx.ox f=none)(hi:cx.inl f=false)(hl:args.length<=fi.ntmps)(hc:args.all d_=true)
 (hb:∃r h',eQ fi.res (dS cx (cW cx n) fi.body (args++List.replicate (fi.ntmps-args.length) .un,[]))=some (r,h')/\∃r',dq h' 8 r=some r'/\R r') (ht:kv f=true:=by decide):∃r',R r'/\∀b h,cW cx (n+1) b f args h=some (r',h):=by
 obtain⟨r,h',hb,r',hr,hR⟩:=hb;exact⟨r',hR,λb h=>xc fi hF iG hs hi hl hc hb hr b h ht⟩
def abO {f:FuncId}{args:List AV}{n:Nat}(r0:AV)(fi:Fi)(hF:cx.F f=some fi)(iG:tv cx fi.body=true)(hs:cx.ox f=none)(hi:cx.inl f=false)(hl:args.length<=fi.ntmps)(hc:args.all d_=true)
 (hb:∃r h',eQ fi.res (dS cx (cW cx n) fi.body (args++List.replicate (fi.ntmps-args.length) .un,[]))=some (r,h')/\∃r',dq h' 8 r=some r'/\wI (kx f) r'=r0) (ht:(vM f && !Dw f && !Mr f)=true:=by decide) (b:Bool) (h:Hp):cW cx (n+1) b f args h=some (r0,h):=by
 obtain⟨r,h',hb,r',hr,hR⟩:=hb;simp only[Zh,Xc]at ht;have:=nD (C:=cx) hs hi (rv ht.1.1) hc (by rw[kh hF iG hl];exact hb) hr b h;rw[this];show some (LS f r',h)=_;unfold LS;rw[ht.1.2,ht.2];simp[hR]
@[simp] def alp :cx.mv=mvF:=rfl
instance :Coe Int AV:=⟨λx=>.sc (.int .i64 x)⟩
instance :Coe Nat AV:=⟨λx=>.sc (.int .i64 x)⟩
instance :Coe Bool AV:=⟨λx=>.sc (.bool x)⟩
instance :Coe Unit AV:=⟨λ_=>.sc (.slice none 0 0)⟩
abbrev LA:=List AV
def fZ {f:FuncId}{args:List AV}{n:Nat}{r:AV}(fn:Func)(res:List Rv)(hc:args.all d_=true)(hr:d_ r=true)(hb:(eQ res (dS cx (cW cx n) ((fn.body).getD .skip) (args++List.replicate (fn.ntmps-args.length) .un,[]))).map Prod.fst=some r)(b:Bool)(h:Hp)(ht:kv f=true:=by decide)(hF:cx.F f=some ⟨fn.ntmps,(fn.body).getD .skip,res⟩:=by kernel_rfl)(iG:tv cx ((fn.body).getD .skip)=true:=by kernel_rfl)(hi:cx.inl f=false:=by kernel_rfl)(hl:Nat.ble args.length fn.ntmps=true:=by rfl):cW cx (n+1) b f args h=some (r,h):=
 Sw ⟨fn.ntmps,(fn.body).getD .skip,res⟩ hF iG rfl hi (Nat.le_of_ble_eq_true hl) hc hr hb b h ht
def Q6 {f:FuncId}{args:List AV}{n:Nat}{r r':AV}{h':Hp}(fn:Func)(res:List Rv)(hc:args.all d_=true)(hb:eQ res (dS cx (cW cx n) ((fn.body).getD .skip) (args++List.replicate (fn.ntmps-args.length) .un,[]))=some (r,h'))(hr:dq h' 8 r=some r')(b:Bool)(h:Hp)(ht:kv f=true:=by decide)(hF:cx.F f=some ⟨fn.ntmps,(fn.body).getD .skip,res⟩:=by kernel_rfl)(iG:tv cx ((fn.body).getD .skip)=true:=by kernel_rfl)(hi:cx.inl f=false:=by kernel_rfl)(hl:Nat.ble args.length fn.ntmps=true:=by rfl):cW cx (n+1) b f args h=some (r',h):=
 xc ⟨fn.ntmps,(fn.body).getD .skip,res⟩ hF iG rfl hi (Nat.le_of_ble_eq_true hl) hc hb hr b h ht
def wH {f:FuncId}{args:List AV}{n:Nat}{r0:AV}(fn:Func)(res:List Rv)(hc:args.all d_=true)(hb:∃r h',eQ res (dS cx (cW cx n) ((fn.body).getD .skip) (args++List.replicate (fn.ntmps-args.length) .un,[]))=some (r,h')/\∃r',dq h' 8 r=some r'/\wI (kx f) r'=r0)(b:Bool)(h:Hp)(ht:(vM f&&!Dw f&&!Mr f)=true:=by decide)(hF:cx.F f=some ⟨fn.ntmps,(fn.body).getD .skip,res⟩:=by kernel_rfl)(iG:tv cx ((fn.body).getD .skip)=true:=by kernel_rfl)(hi:cx.inl f=false:=by kernel_rfl)(hl:Nat.ble args.length fn.ntmps=true:=by rfl):cW cx (n+1) b f args h=some (r0,h):=
 abO r0 ⟨fn.ntmps,(fn.body).getD .skip,res⟩ hF iG rfl hi (Nat.le_of_ble_eq_true hl) hc hb ht b h
def lS {call:Bool->FuncId->List AV->Hp->Option (AV × Hp)}{c ct:Code}{fr:List AV}{h:Hp}{res:List Rv}{k:Nat}{v:AV}(Inv:Nat->List AV->Hp->Prop)(Q:Out->List AV->Hp->Prop)(N:Nat)(hN:N<cx.fuel)(hI:Inv 0 fr h)(step:∀i fr h,i<=N->Inv i fr h->YO (λi s=>Inv i s.1 s.2) (λo s=>Q o s.1 s.2) N i (dS cx call c (fr,h)))(fin:∀o fr h,o≠ .normal->Q o fr h->∃h',eQ res (eR cx call (dL k (some (o,(fr,h)))) ct)=some (v,h')):∃h',eQ res (eR cx call (dL k (dS cx call (.loop c) (fr,h))) ct)=some (v,h'):=
 eC (C:=cx) (G:=λr=>∃h',eQ res (eR cx call (dL k r) ct)=some (v,h')) (λi s=>Inv i s.1 s.2) (λo s=>Q o s.1 s.2) N hN hI step fin
def LM {call:Bool->FuncId->List AV->Hp->Option (AV × Hp)}{c ct:Code}{fr:List AV}{h:Hp}{res:List Rv}{k m:Nat}{v:AV}(Inv:Nat->List AV->Hp->Prop)(Q:Out->List AV->Hp->Prop)(N:Nat)(hN:N<cx.fuel)(hI:Inv 0 fr h)(step:∀i fr h,i<=N->Inv i fr h->YO (λi s=>Inv i s.1 s.2) (λo s=>Q o s.1 s.2) N i (dS cx call c (fr,h)))(fin:∀o fr h,o≠ .normal->Q o fr h->∃r0 h',eQ res (eR cx call (dL k (some (o,(fr,h)))) ct)=some (r0,h')/\∃r',dq h' 8 r0=some r'/\wI m r'=v):∃r0 h',eQ res (eR cx call (dL k (dS cx call (.loop c) (fr,h))) ct)=some (r0,h')/\∃r',dq h' 8 r0=some r'/\wI m r'=v:=
 eC (C:=cx) (G:=λr=>∃r0 h',eQ res (eR cx call (dL k r) ct)=some (r0,h')/\∃r',dq h' 8 r0=some r'/\wI m r'=v) (λi s=>Inv i s.1 s.2) (λo s=>Q o s.1 s.2) N hN hI step fin
def eA {α:Type}{l:List α}{i:Nat}(h:i<l.length):∃p,l[i]?=some p:=⟨_,List.getElem?_eq_getElem h⟩
def gA {α:Type}{l:List α}{i:Nat}{x:α}(h:l[i]?=some x):∀k:i<l.length,l[i]'k=x:=λk=>by obtain⟨_,e⟩:=List.getElem?_eq_some_iff.1 h;exact e
def gz {α β:Type}{P:α->β->Prop}{a:α}{b:β}(h:P a b):∃r h',(a=r/\b=h')/\P r h':=⟨_,_,⟨rfl,rfl⟩,h⟩
@[simp] def ajd :cx.rV=XS:=rfl
@[simp] def alj :cx.ext=ae9:=rfl
@[simp] def alr :cx.T 3=some {size:=1,agg:=false,zero:=[.int .i64 (0)],kd:= .Hu}:=by kernel_rfl
@[simp] def akQ :cx.T 4=some {size:=1,agg:=false,zero:=[.bool false],kd:= .Hu}:=by kernel_rfl
@[simp] def ahI :cx.T 9=some {size:=1,agg:=false,zero:=[.string ⟨#[]⟩],kd:= .Hu}:=by kernel_rfl
@[simp] def AQ :cx.T 27=some {size:=1,agg:=false,zero:=[.slice none 0 0],kd:= .slice 1 false 8 [.int .i64 (0)]}:=by kernel_rfl
@[simp] def acR :cx.T 31=some {size:=5,agg:=true,zero:=[.int .i64 (0),.int .i64 (0),.int .i64 (0),.string ⟨#[]⟩,.slice none 0 0],kd:= .struct [(0,1,false),(1,1,false),(2,1,false),(3,1,false),(4,1,false)]}:=by kernel_rfl
@[simp] def YY :cx.T 29=some {size:=1,agg:=false,zero:=[.slice none 0 0],kd:= .slice 5 true 64 [.int .i64 (0),.int .i64 (0),.int .i64 (0),.string ⟨#[]⟩,.slice none 0 0]}:=by kernel_rfl
@[simp] def aft :cx.T 175=some {size:=2,agg:=true,zero:=[.int .i64 (0),.int .i64 (0)],kd:= .struct [(0,1,false),(1,1,false)]}:=by kernel_rfl
@[simp] def ac8 :cx.T 290=some {size:=3,agg:=true,zero:=[.bool false,.int .u64 (0),.int .u64 (0)],kd:= .struct [(0,1,false),(1,1,false),(2,1,false)]}:=by kernel_rfl
@[simp] def kV :cx.T 28=some {size:=1,agg:=false,zero:=[.slice none 0 0],kd:= .slice 1 false 16 [.string ⟨#[]⟩]}:=by kernel_rfl
@[simp] def aim :cx.T 21=some {size:=1,agg:=false,zero:=[.int .i32 (0)],kd:= .Hu}:=by kernel_rfl
@[simp] def ahH :cx.T 226=some {size:=1,agg:=false,zero:=[.int .u64 (0)],kd:= .Hu}:=by kernel_rfl
@[simp] def ah9 :cx.T 5=some {size:=1,agg:=false,zero:=[.int .u8 (0)],kd:= .Hu}:=by kernel_rfl
@[simp] def alu :cx.P.underlying 3=some (.int .i64):=by kernel_rfl
@[simp] def ahM :cx.P.underlying 226=some (.int .u64):=by kernel_rfl
@[simp] def alb :cx.P.underlying 4=some .bool:=by kernel_rfl
@[simp] def ahY :isStr cx 9=true:=by kernel_rfl
@[simp] def akW :nQ cx 27=true:=by kernel_rfl
@[simp] def ahx :nQ cx 29=true:=by kernel_rfl
def dh {n:Int}(h1: -9223372036854775808<=n)(h2:n<=9223372036854775807):dM .i64 n=n:=by
 show(if-9223372036854775808<=n/\n<=9223372036854775807 then n else IntKind.i64.wrap n)=n;rw[dd ⟨h1,h2⟩]
def kG {n:Int}(h1:0<=n)(h2:n<=18446744073709551615):dM .u64 n=n:=by
 show(if 0<=n/\n<=18446744073709551615 then n else IntKind.u64.wrap n)=n;rw[dd ⟨h1,h2⟩]
@[simp] def aiJ :cx.fuel=1125899906842624:=rfl
section
attribute [simp] n0 z7 XS ae9 rX ofConst lG iI vU Aw zh Ny Ae.part gI jL iZ rW cls ni gY A2
attribute [local simp] zi da
def Fb :∀l:List UInt8,Op.bytesLess l l=false
 | []=>rfl
 |a::l=>by simp[Op.bytesLess,Fb l]
def KG :∀l m:List UInt8,Op.bytesLess l m=false->l≠m->Op.bytesLess m l=true
 | [],[],_,h=>absurd rfl h
 | [],b::m,h,_=>by simp[Op.bytesLess]at h
 |a::l,[],_,_=>by simp[Op.bytesLess]
 |
  a::l,b::m,h,hn=>by
  simp only[Op.bytesLess,Bool.or_eq_false_iff,decide_eq_false_iff_not,Bool.and_eq_false_iff]at h;simp only[Op.bytesLess,Bool.or_eq_true,Zz,Zh];by_cases e:a=b
  .subst e;refine .inr ⟨by simp,KG l m ?_ (λq=>hn (by rw[q]))⟩;rcases h.2 with h2|h2
   .simp at h2
   .exact h2
  .left;have h1:=h.1;rw[UInt8.lt_iff_toNat_lt]at h1|-;have:a.toNat≠b.toNat:=λq=>e (UInt8.toNat_inj.1 q)
   omega
def KH :∀l m k:List UInt8,Op.bytesLess l m=true->Op.bytesLess m k=true->Op.bytesLess l k=true
 |_,[],_,h,_=>by simp[Op.bytesLess]at h
 |_,_::_,[],_,h=>by simp[Op.bytesLess]at h
 | [],_::_,_::_,_,_=>by simp[Op.bytesLess]
 |
  a::l,b::m,c::k,h1,h2=>by
  simp only[Op.bytesLess,Bool.or_eq_true,Zz,Zh,beq_iff_eq]at h1 h2|-;rw[UInt8.lt_iff_toNat_lt]at *;rcases h1 with h1|⟨rfl,h1⟩<;>rcases h2 with h2|⟨rfl,h2⟩
  .left;omega
  .left;exact h1
  .left;exact h2
  .exact .inr ⟨rfl,KH l m k h1 h2⟩
def iT (x y:ByteArray):kr x y=true↔x=y:=by
 unfold kr;rw[beq_iff_eq];exact⟨λh=>by
  obtain⟨⟨a⟩⟩:=x;obtain⟨⟨b⟩⟩:=y;simp at h;rw[h],λh=>by rw[h]⟩
def kU (x:ByteArray):nZ x x=false:=Fb _
def nz {x y:ByteArray}(h:nZ x y=false)(hn:kr x y=false):nZ y x=true:=by
 refine KG _ _ h λq=>?_
 have:kr x y=true:=by unfold kr;rw[beq_iff_eq];exact q
 rw[hn]at this;cases this
def q_ {x y z:ByteArray}(h:nZ x y=true)(k:nZ y z=true):nZ x z=true:=KH _ _ _ h k
def D9 {x y:ByteArray}(h:nZ x y=true):nZ y x=false:=by
 cases q:nZ y x with
 |false=>rfl
 |true=>have:=q_ h q;rw[kU]at this;cases this
def Sx (n:Nat)(b:Bool)(x:Int)(h:Hp):cW cx (n+1) b 207 [.sc (.int .i64 x)] h=some (.sc (.bool false),h):=by
 refine Q6 (r:= .sc (.bool false)) (h':=[]) f207 [.tmp 2] rfl ?_ rfl b h;simp[f207]
def Sy (n:Nat)(b:Bool)(x:ByteArray)(h:Hp):cW cx (n+1) b 250 [.sc (.string x)] h=some (.sc (.bool false),h):=by
 refine Q6 (r:= .sc (.bool false)) (h':=[]) f250 [.tmp 2] rfl ?_ rfl b h;simp[f250,kr]
def ej (x y:Int):Int:=if x<y then-1 else if y<x then 1 else 0
def jn (n:Nat)(b:Bool)(x y:Int)(h:Hp):cW cx (n+2) b 125 [.sc (.int .i64 x),.sc (.int .i64 y)] h=some (.sc (.int .i64 (ej x y)),h):=by
 refine Q6 (r:= .sc (.int .i64 (ej x y))) (h':=[]) f125 [.tmp 4] rfl ?_ rfl b h;simp[f125,Sx];rw[E_];split<;>rename_i h1<;>simp at h1<;>simp[ej,h1];rw[E_];split<;>rename_i h2<;>simp at h2<;>simp[h1,h2];rw[db (by omega),db (by omega)]
def kL (x y:ByteArray):Int:=bif nZ x y then-1 else bif nZ y x then 1 else 0
def tN (n:Nat)(b:Bool)(x y:ByteArray)(h:Hp):cW cx (n+2) b 190 [.sc (.string x),.sc (.string y)] h=some (.sc (.int .i64 (kL x y)),h):=by
 refine Q6 (r:= .sc (.int .i64 (kL x y))) (h':=[]) f190 [.tmp 4] rfl ?_ rfl b h;simp[f190,Sy];cases h1:nZ x y<;>simp[kL,h1];cases h2:kr x y
 .have h3:nZ y x=true:=nz h1 h2;simp[h3]
 .have h3:nZ y x=false:=by rw[(iT x y).1 h2];exact kU y
  simp[h3]
def wU :List Int->Int
 | []=>0
 |x::l=>if x=0 then wU l else x
def XU {xs:List Int}{i:Nat}{x:Int}(h:xs[i]?=some x):wU (xs.drop i)=if x=0 then wU (xs.drop (i+1))else x:=by
 obtain⟨hi,rfl⟩:=Za.1 h;rw[Zm hi];rfl
def adm (n:Nat)(b:Bool)(xs:List Int)(z:Bool)(h:Hp)(hl:xs.length<=1000000):cW cx (n+1) b 189 [.ls 1 (xs.map λx=> [.sc (.int .i64 x)]) z] h=some (.sc (.int .i64 (wU xs)),h):=by
 refine Q6 (r:= .sc (.int .i64 (wU xs))) (h':=[]) f189 [.tmp 2] rfl ?_ rfl b h;simp[f189,rW];refine eC (G:=λx=>eQ _ (eR _ _ (dL _ x) _)=_)
  (λi s=>wU xs=wU (xs.drop i)/\s.1.length=18/\gt s.1 3= .sc (.int .i64 0)/\gt s.1 6= .ls 1 (xs.map λx=> [.sc (.int .i64 x)]) z/\gt s.1 7= .sc (.int .i64 xs.length)/\gt s.1 8= .sc (.int .i64 i)/\s.2=[])
  (λo s=>s.2=[]/\s.1.length=18/\((o= .exit 0/\wU xs=0/\gt s.1 3= .sc (.int .i64 0))\/(o= .ret/\gt s.1 2= .sc (.int .i64 (wU xs))))) xs.length (by simp;omega) (by simp) ?_ ?_
 .rintro i fr h eG ⟨ho,cU,h3,h6,h7,h8,rfl⟩;simp only at cU h3 h6 h7 h8;by_cases hi:i<xs.length
  .have hx:xs[i]?=some xs[i]:=Zb hi;have hd:=XU hx;have hf:dM .i64 ((i:Int)+1)=((i+1:Nat):Int):=dh (by omega) (by omega);by_cases h0:xs[i]=0
   .rw[dd h0]at hd;simp[cU,h3,h6,h7,h8,hi,h0,hf,ho,hd]
   .rw[db h0]at hd;simp[cU,h3,h6,h7,h8,hi,h0,ho,hd]
  .have hz:wU xs=0:=by rw[ho,Zt (by omega)];rfl
   simp[cU,h3,h7,h8,hi,hz]
 .rintro o fr h hn ⟨rfl,cU,⟨rfl,h0,h3⟩|⟨rfl,h2⟩⟩
  .simp only at cU h3;simp[cU,h3,h0]
  .simp only at h2;simp[h2]
end
section
attribute [local simp] zi da XM
def vm (n:Int):Bool:=decide (-1000000000000000<=n) && decide (n<=1000000000000000)
def nO (n:Int):vm n=true↔ -1000000000000000<=n/\n<=1000000000000000:=by simp[vm]
def FC (n:Nat)(b:Bool)(x:Int)(h:Hp):cW cx (n+1) b 295 [.sc (.int .i64 x)] h=some (.sc (.bool (vm x)),h):=by
 refine Q6 (r:= .sc (.bool (vm x))) (h':=[]) f295 [.tmp 2] rfl ?_ rfl b h;by_cases h1: -1000000000000000<=x<;>simp[f295,h1,vm]
def adi (n:Nat)(b:Bool)(x:Int)(h:Hp):cW cx (n+1) b 272 [.sc (.int .i64 x)] h=some (.sc (.bool (vm x)),h):=by
 refine Q6 (r:= .sc (.bool (vm x))) (h':=[]) f272 [.tmp 2] rfl ?_ rfl b h;by_cases h1: -1000000000000000<=x<;>simp[f272,h1,vm]
def abP (n:Nat)(b:Bool)(x:Int)(h:Hp)(hx:vm x=true):cW cx (n+1) b 342 [.sc (.int .i64 x)] h=some (.sc (.int .i64 x.natAbs),h):=by
 rw[nO]at hx;refine Q6 (r:= .sc (.int .i64 x.natAbs)) (h':=[]) f342 [.tmp 2] rfl ?_ rfl b h;have hf:dM .i64 (-x)= -x:=dh (by omega) (by omega);have hm:(if x< -x then-x else x)=(x.natAbs:Int):=by split<;>omega
 simp[f342,hf,hm]
def C5 (n:Nat)(b:Bool)(x:Int)(h:Hp)(hx: -9223372036854775807<=x/\x<=9223372036854775807):cW cx (n+1) b 222 [.sc (.int .i64 x)] h=some (.sc (.int .i64 x.natAbs),h):=by
 refine Q6 (r:= .sc (.int .i64 x.natAbs)) (h':=[]) f222 [.tmp 2] rfl ?_ rfl b h;have hf:dM .i64 (-x)= -x:=dh (by omega) (by omega);by_cases h1:x<0
 .have hm: -x=(x.natAbs:Int):=by omega
  rw[hm]at hf;simp[f222,hf,h1,hm]
 .have hm:(x.natAbs:Int)=x:=by omega
  simp[f222,h1,hm]
def FJ (x y:Int):Int:=(Nat.gcd x.natAbs y.natAbs:Nat)
def abQ (n:Nat)(b:Bool)(x y:Int)(h:Hp)(hx:vm x=true)(hy:vm y=true):cW cx (n+2) b 325 [.sc (.int .i64 x),.sc (.int .i64 y)] h=some (.sc (.int .i64 (FJ x y)),h):=by
 refine Q6 (r:= .sc (.int .i64 (FJ x y))) (h':=[]) f325 [.tmp 4] rfl ?_ rfl b h;simp[f325,FC,abP,hx,hy];rw[nO]at hx hy;refine nF (G:=λx=>eQ _ (eR _ _ (dL _ x) _)=_)
  (λk s=>∃p q:Nat,k=q/\Nat.gcd p q=Nat.gcd x.natAbs y.natAbs/\p<=1000000000000000/\q<=1000000000000000/\s.1.length=24/\gt s.1 0= .sc (.int .i64 p)/\gt s.1 1= .sc (.int .i64 q)/\s.2=[])
  (λo s=>s.2=[]/\s.1.length=24/\o= .exit 0/\gt s.1 0= .sc (.int .i64 (Nat.gcd x.natAbs y.natAbs))) y.natAbs (by simp;omega) ⟨x.natAbs,y.natAbs,rfl,rfl,by omega,by omega,by simp⟩ ?_ ?_
 .rintro k fr h ⟨p,q,rfl,hg,hp,hq,cU,h0,h1,rfl⟩;simp only at cU h0 h1;by_cases hz:k=0
  .subst hz;rw[Nat.gcd_zero_right]at hg;simp[cU,h0,h1,hg]
  .have hb:¬(k:Int)=0:=by omega
   have hm:((p:Int).tmod (k:Int))=((p % k:Nat):Int):=rfl;have hk:True:=trivial;have h2:Nat.gcd k (p % k)=Nat.gcd x.natAbs y.natAbs:=by rw[<-hg,Nat.gcd_comm p k,Nat.gcd_rec k p,Nat.gcd_comm]
   have h3:p % k<k:=Nat.mod_lt _ (by omega);simp[cU,h0,h1,hz,hm];exact⟨p % k,h3,k,h2,hq,by omega,rfl,rfl⟩
 .rintro o fr h hn ⟨rfl,cU,rfl,h0⟩;simp only at cU h0;simp[cU,h0,FJ]
def abR (n:Nat)(b:Bool)(x y:Nat)(h:Hp)(hx:x<=1000000000000000)(hy:y<=1000000000000000):cW cx (n+1) b 276 [.sc (.int .i64 x),.sc (.int .i64 y)] h=some (.sc (.int .i64 (Nat.gcd x y)),h):=by
 refine Q6 (r:= .sc (.int .i64 (Nat.gcd x y))) (h':=[]) f276 [.tmp 4] rfl ?_ rfl b h;simp[f276];refine nF (G:=λx=>eQ _ (eR _ _ (dL _ x) _)=_)
  (λk s=>∃p q:Nat,k=q/\Nat.gcd p q=Nat.gcd x y/\p<=1000000000000000/\q<=1000000000000000/\s.1.length=12/\gt s.1 0= .sc (.int .i64 p)/\gt s.1 1= .sc (.int .i64 q)/\s.2=[])
  (λo s=>s.2=[]/\s.1.length=12/\o= .exit 0/\gt s.1 0= .sc (.int .i64 (Nat.gcd x y))) y (by simp;omega) ⟨x,y,rfl,rfl,by omega,by omega,by simp⟩ ?_ ?_
 .rintro k fr h ⟨p,q,rfl,hg,hp,hq,cU,h0,h1,rfl⟩;simp only at cU h0 h1;by_cases hz:k=0
  .subst hz;rw[Nat.gcd_zero_right]at hg;simp[cU,h0,h1,hg]
  .have hb:¬(k:Int)=0:=by omega
   have hm:((p:Int).tmod (k:Int))=((p % k:Nat):Int):=rfl;have hk:0<k:=by omega
   have h2:Nat.gcd k (p % k)=Nat.gcd x y:=by rw[<-hg,Nat.gcd_comm p k,Nat.gcd_rec k p,Nat.gcd_comm]
   have h3:p % k<k:=Nat.mod_lt _ (by omega);simp[cU,h0,h1,hz,hm,hk];exact⟨p % k,h3,k,h2,hq,by omega,rfl,rfl⟩
 .rintro o fr h hn ⟨rfl,cU,rfl,h0⟩;simp only at cU h0;simp[cU,h0]
def lJ (N D:Int):AV:= .ag [.sc (.int .i64 N),.sc (.int .i64 D)]
def fv (N D:Int):Bool:=decide (1<=D) && decide (D<=1000000000000000) && vm N && decide (FJ N D=1)
def afa {N D:Int}(h:fv N D=true):vm N=true/\vm D=true/\1<=D:=by
 simp only[fv,Zh,Zz]at h;exact⟨h.1.2,by rw[nO];omega,h.1.1.1⟩
def vX (n:Nat)(b:Bool)(N D:Int)(h:Hp):cW cx (n+3) b 296 [lJ N D] h=some (.sc (.bool (fv N D)),h):=by
 refine fZ f296 [.tmp 2] rfl rfl ?_ b h;by_cases h1:1<=D
 .by_cases h2:D<=1000000000000000
  .cases h3:vm N with
   |false=>simp[f296,lJ,h1,h2,FC,h3,fv]
   |
    true=>
    have hD:vm D=true:=by rw[nO];omega
    simp[f296,lJ,h1,h2,FC,h3,fv,abQ _ _ _ _ _ h3 hD]
  .simp[f296,lJ,h1,h2,fv]
 .simp[f296,lJ,h1,fv]
def qU (n:Nat)(b:Bool)(N D:Int)(h:Hp):cW cx (n+2) b 218 [lJ N D] h=some (.sc (.bool (fv N D)),h):=by
 refine fZ f218 [.tmp 2] rfl rfl ?_ b h;by_cases h1:1<=D
 .by_cases h2:D<=1000000000000000
  .by_cases h3: -1000000000000000<=N
   .by_cases h4:N<=1000000000000000
    .obtain⟨d,rfl⟩:∃d:Nat,D=d:=⟨D.toNat,by omega⟩;have h5:d<=1000000000000000:=by omega
     simp[f218,lJ,h1,h2,h3,h4,vm,fv,FJ,C5 _ _ N _ ⟨by omega,by omega⟩,abR _ _ N.natAbs d _ (by omega) h5];rfl
    .simp[f218,lJ,h1,h2,h3,h4,vm,fv]
   .simp[f218,lJ,h1,h2,h3,vm,fv]
  .simp[f218,lJ,h1,h2,fv]
 .simp[f218,lJ,h1,fv]
def ahp (x:Nat):x &&& 4294967295=x % 4294967296:=Nat.and_two_pow_sub_one_eq_mod x 32
def Pg {x y:Int}(hx:0<=x)(KY:x<=4294967295)(hy:0<=y)(Gd:y<=4294967295):0<=x*y/\x*y<=18446744065119617025:=
 ⟨Int.mul_nonneg hx hy,by have:=Int.mul_le_mul KY Gd hy (by decide:(0:Int)<=4294967295);omega⟩
def Mul64 (n:Nat)(b:Bool)(x y:Int)(h:Hp)(hx:0<=x)(KY:x<=18446744073709551615)(hy:0<=y)(Gd:y<=18446744073709551615):
 cW cx (n+1) b 327 [.sc (.int .u64 x),.sc (.int .u64 y)] h=some (.tp [.sc (.int .u64 (x*y/18446744073709551616)),.sc (.int .u64 (x*y % 18446744073709551616))],h):=by
 obtain⟨x0,YQ⟩:∃x0,x0=x % 4294967296:=⟨_,rfl⟩;obtain⟨x1,hx1⟩:∃x1,x1=x/4294967296:=⟨_,rfl⟩;obtain⟨y0,hy0⟩:∃y0,y0=y % 4294967296:=⟨_,rfl⟩;obtain⟨y1,Ot⟩:∃y1,y1=y/4294967296:=⟨_,rfl⟩;have am:∀z:Int,0<=z->((z.toNat &&& 4294967295:Nat):Int)=z % 4294967296:=λz hz=>by rw[ahp];omega
 have b00:=Pg (x:=x0) (y:=y0) (by omega) (by omega) (by omega) (by omega);have b10:=Pg (x:=x1) (y:=y0) (by omega) (by omega) (by omega) (by omega);have b01:=Pg (x:=x0) (y:=y1) (by omega) (by omega) (by omega) (by omega);have b11:=Pg (x:=x1) (y:=y1) (by omega) (by omega) (by omega) (by omega);have exy:x*y=x1*y1*18446744073709551616+(x1*y0+x0*y1)*4294967296+x0*y0:=by
  have ex:x=x1*4294967296+x0:=by omega
  have ey:y=y1*4294967296+y0:=by omega
  rw[ex,ey,Int.add_mul,Int.mul_add,Int.mul_add,Int.add_mul];have e1:x1*4294967296*(y1*4294967296)=x1*y1*18446744073709551616:=by rw[Int.mul_assoc,<-Int.mul_assoc 4294967296,Int.mul_comm 4294967296 y1,Int.mul_assoc y1,<-Int.mul_assoc x1];rfl
  have e2:x1*4294967296*y0=x1*y0*4294967296:=by rw[Int.mul_assoc,Int.mul_comm 4294967296 y0,<-Int.mul_assoc]
  have e3:x0*(y1*4294967296)=x0*y1*4294967296:=by rw[Int.mul_assoc]
  omega
 obtain⟨P,hP⟩:∃P,P=x0*y0:=⟨_,rfl⟩;obtain⟨Q,hQ⟩:∃Q,Q=x1*y0:=⟨_,rfl⟩;obtain⟨R,hR⟩:∃R,R=x0*y1:=⟨_,rfl⟩;obtain⟨S,hS⟩:∃S,S=x1*y1:=⟨_,rfl⟩;rw[<-hP]at b00 exy;rw[<-hQ]at b10 exy;rw[<-hR]at b01 exy;rw[<-hS]at b11 exy;have DI:S+(Q+P/4294967296)/4294967296+((Q+P/4294967296) % 4294967296+R)/4294967296=x*y/18446744073709551616:=by omega
 have SL:dM .u64 (x*y)=x*y % 18446744073709551616:=by
  rw[oT];simp[IntKind.wrap,IntKind.signed,IntKind.bits]
 have aa:dM .u64 P=P:=kG (by omega) (by omega);have ae:dM .u64 Q=Q:=kG (by omega) (by omega);have af:dM .u64 (Q+P/4294967296)=Q+P/4294967296:=kG (by omega) (by omega);have ah:dM .u64 R=R:=kG (by omega) (by omega);have ai:dM .u64 ((Q+P/4294967296) % 4294967296+R)=(Q+P/4294967296) % 4294967296+R:=kG (by omega) (by omega);have aj:dM .u64 S=S:=kG (by omega) (by omega);have au:dM .u64 (S+(Q+P/4294967296)/4294967296)=S+(Q+P/4294967296)/4294967296:=kG (by omega) (by omega);have ay:dM .u64 (S+(Q+P/4294967296)/4294967296+((Q+P/4294967296) % 4294967296+R)/4294967296)=S+(Q+P/4294967296)/4294967296+((Q+P/4294967296) % 4294967296+R)/4294967296:=kG (by omega) (by omega);have a1:=am x hx;have a2:=am y hy;have a3:=am (Q+P/4294967296) (by omega);have p3:0<=Q+P/4294967296:=by omega
 have q3:Q+P/4294967296<=18446744073709551615:=by omega
 rw[<-YQ]at a1;rw[<-hy0]at a2;have r:=DI.symm;refine Q6 (r:= .tp [.sc (.int .u64 (x*y/18446744073709551616)),.sc (.int .u64 (x*y % 18446744073709551616))]) (h':=[]) f327 [.tmp 4,.tmp 5] rfl ?_ rfl b h;simp[f327,hx,KY,hy,Gd,a1,a2,<-hx1,<-Ot,<-hP,<-hQ,<-hR,<-hS,aa,ae,af,p3,q3,a3,ah,ai,aj,au,ay,SL,r,IntKind.bits]
def Fc (n:Nat)(b:Bool)(x:Int)(h:Hp)(hx:vm x=true):cW cx (n+1) b 328 [.sc (.int .i64 x)] h=some (.sc (.int .u64 x.natAbs),h):=by
 rw[nO]at hx;refine fZ f328 [.tmp 2] rfl rfl ?_ b h;by_cases h1:x<0
 .have aa:dM .u64 x=x+18446744073709551616:=by
   rw[oT];simp only[IntKind.wrap,IntKind.signed,IntKind.bits,Bool.false_and,Yq,if_false];omega
  have ae:dM .u64 (-(x+18446744073709551616))=(x.natAbs:Int):=by
   rw[oT];simp only[IntKind.wrap,IntKind.signed,IntKind.bits,Bool.false_and,Yq,if_false];omega
  simp[f328,h1,aa,ae]
 .have aa:dM .u64 x=x:=kG (by omega) (by omega);have ae:x=(x.natAbs:Int):=by omega
  simp[f328,h1,aa];exact ae
def wA (g:Bool)(m:Int):AV:= .ag [.sc (.bool g),.sc (.int .u64 (m/18446744073709551616)),.sc (.int .u64 (m % 18446744073709551616))]
def x6 (n:Nat)(b:Bool)(x y:Int)(h:Hp)(hx:vm x=true)(hy:vm y=true):
 cW cx (n+2) b 300 [.sc (.int .i64 x),.sc (.int .i64 y)] h=some (wA (decide (x<0) !=decide (y<0)) (x.natAbs*y.natAbs:Nat),h):=by
 have KY:=hx;have Gd:=hy;rw[nO]at hx hy;refine fZ f300 [.cell 4 3 true] rfl rfl ?_ b h;simp[f300,Fc _ _ _ _ KY,Fc _ _ _ _ Gd,Mul64 _ _ (x.natAbs:Int) (y.natAbs:Int) _ (by omega) (by omega) (by omega) (by omega),wA]
def Sz (n:Nat)(b:Bool)(g g':Bool)(x y:Int)(h:Hp):cW cx (n+1) b 330 [wA g x,wA g' y] h=some (.sc (.bool (decide (x<y))),h):=by
 refine fZ f330 [.tmp 4] rfl rfl ?_ b h;by_cases h1:x/18446744073709551616<y/18446744073709551616
 .have h0:x<y:=by omega
  simp[f330,wA,h1,h0]
 .by_cases h2:x/18446744073709551616=y/18446744073709551616
  .have h0:(x % 18446744073709551616<y % 18446744073709551616)=(x<y):=propext (by omega);simp[f330,wA,h2,h0]
  .have h0:¬x<y:=by omega
   simp[f330,wA,h1,h2,h0]
def sgW (g:Bool)(m:Int):Int:=if m=0 then 0 else bif g then-1 else 1
def SA (n:Nat)(b:Bool)(g:Bool)(x:Int)(h:Hp)(h0:0<=x)(h1:x<18446744073709551616*18446744073709551616):cW cx (n+1) b 302 [wA g x] h=some (.sc (.int .i64 (sgW g x)),h):=by
 refine fZ f302 [.tmp 2] rfl rfl ?_ b h;have a1:0<=x/18446744073709551616:=by omega
 have a2:x/18446744073709551616<=18446744073709551615:=by omega
 have a3:0<=x % 18446744073709551616:=by omega
 have a4:x % 18446744073709551616<=18446744073709551615:=by omega
 by_cases hz:x=0
 .subst hz;simp[f302,wA,sgW]
 .by_cases h2:x/18446744073709551616<=0
  .have h3:¬x % 18446744073709551616<=0:=by omega
   cases g<;>simp[f302,wA,sgW,hz,a1,a2,a3,a4,h2,h3]
  .cases g<;>simp[f302,wA,sgW,hz,a1,a2,a3,a4,h2]
def oX {f:FuncId}{fr:List AV}{A B D:Operand}{x y c:Value}(hA:ev cx fr A= .sc x)(hB:ev cx fr B= .sc y)(hD:ev cx fr D= .sc c){d:Option Tmp}{yD:Array TypeId}{t:TypeId}{p:String}{a:Array Edge}{g:Option (Nat × Bool)}{r:Value}{R:AV}
 (hr:gf cx.P (callFunc f #[x,y,c])=some (.value r)) (hR:A1 r=some R):j4 cx (ev cx fr) {dst:=d,op:= .call {callee:= .value (.func f),args:= #[A,B,D],argTypes:=yD},type:=t,pos:=p,after:=a,guard:=g}=some R:=by
 unfold j4;have e:execOp (λx=>vD (ev cx fr x)) {dst:=d,op:= .call {callee:= .value (.func f),args:= #[A,B,D],argTypes:=yD},type:=t,pos:=p,after:=a,guard:=g}=callFunc f #[x,y,c]:=by
  simp[execOp,resolve,Deferred.ofValue,invoke,vD,hA,hB,hD]
 rw[e,hr];simp[wQ,Op.operands,Call.operands,zg,hA,hB,hD,hR]
def abS (x y:Int):gf cx.P (callFunc 329 #[.int .u64 x,.int .u64 y,.int .u64 0])=some (.value (.tuple #[.int .u64 ((x.toNat+y.toNat+0) % 18446744073709551616:Nat),.int .u64 ((x.toNat+y.toNat+0)/18446744073709551616:Nat)])):=by kernel_rfl
def abT (x y:Int):gf cx.P (callFunc 329 #[.int .u64 x,.int .u64 y,.int .u64 1])=some (.value (.tuple #[.int .u64 ((x.toNat+y.toNat+1) % 18446744073709551616:Nat),.int .u64 ((x.toNat+y.toNat+1)/18446744073709551616:Nat)])):=by kernel_rfl
def abU (x y:Int):gf cx.P (callFunc 331 #[.int .u64 x,.int .u64 y,.int .u64 0])=some (.value (.tuple #[.int .u64 ((x.toNat+18446744073709551616-y.toNat-0) % 18446744073709551616:Nat),.int .u64 (if x.toNat<y.toNat+0 then 1 else 0:Nat)])):=by kernel_rfl
def abV (x y:Int):gf cx.P (callFunc 331 #[.int .u64 x,.int .u64 y,.int .u64 1])=some (.value (.tuple #[.int .u64 ((x.toNat+18446744073709551616-y.toNat-1) % 18446744073709551616:Nat),.int .u64 (if x.toNat<y.toNat+1 then 1 else 0:Nat)])):=by kernel_rfl
def acF (x y c:Int)(hx:0<=x)(hy:0<=y)(hc:c=0\/c=1):gf cx.P (callFunc 329 #[.int .u64 x,.int .u64 y,.int .u64 c])=some (.value (.tuple #[.int .u64 ((x+y+c) % 18446744073709551616),.int .u64 ((x+y+c)/18446744073709551616)])):=by
 rcases hc with rfl|rfl
 .rw[abS,show(((x.toNat+y.toNat+0) % 18446744073709551616:Nat):Int)=(x+y+0) % 18446744073709551616 by omega,show(((x.toNat+y.toNat+0)/18446744073709551616:Nat):Int)=(x+y+0)/18446744073709551616 by omega]
 .rw[abT,show(((x.toNat+y.toNat+1) % 18446744073709551616:Nat):Int)=(x+y+1) % 18446744073709551616 by omega,show(((x.toNat+y.toNat+1)/18446744073709551616:Nat):Int)=(x+y+1)/18446744073709551616 by omega]
def Ph (x y c:Int)(hx:0<=x)(hy:0<=y)(Gd:y<18446744073709551616)(hc:c=0\/c=1):gf cx.P (callFunc 331 #[.int .u64 x,.int .u64 y,.int .u64 c])=some (.value (.tuple #[.int .u64 ((x+18446744073709551616-y-c) % 18446744073709551616),.int .u64 (if x<y+c then 1 else 0)])):=by
 rcases hc with rfl|rfl
 .rw[abU,show(((x.toNat+18446744073709551616-y.toNat-0) % 18446744073709551616:Nat):Int)=(x+18446744073709551616-y-0) % 18446744073709551616 by omega,show((if x.toNat<y.toNat+0 then 1 else 0:Nat):Int)=if x<y+0 then 1 else 0 by split<;>split<;>omega]
 .rw[abV,show(((x.toNat+18446744073709551616-y.toNat-1) % 18446744073709551616:Nat):Int)=(x+18446744073709551616-y-1) % 18446744073709551616 by omega,show((if x.toNat<y.toNat+1 then 1 else 0:Nat):Int)=if x<y+1 then 1 else 0 by split<;>split<;>omega]
def plG (g g':Bool)(x y:Int):Bool:=bif g==g' then g else bif decide (x<y)then g' else g
def XV (g g':Bool)(x y:Int):Int:=bif g==g' then x+y else bif decide (x<y)then y-x else x-y
def SB (n:Nat)(b:Bool)(g g':Bool)(x y:Int)(h:Hp)(hx:0<=x)(KY:x<18446744073709551616*9223372036854775808)(hy:0<=y)(Gd:y<18446744073709551616*9223372036854775808):
 cW cx (n+2) b 301 [wA g x,wA g' y] h=some (wA (plG g g' x y) (XV g g' x y),h):=by
 refine fZ f301 [.cell 4 3 true] rfl rfl ?_ b h;obtain⟨xh,hxh⟩:∃v,v=x/18446744073709551616:=⟨_,rfl⟩;obtain⟨xl,hxl⟩:∃v,v=x % 18446744073709551616:=⟨_,rfl⟩;obtain⟨yh,hyh⟩:∃v,v=y/18446744073709551616:=⟨_,rfl⟩;obtain⟨yl,hyl⟩:∃v,v=y % 18446744073709551616:=⟨_,rfl⟩;cases hg:g==g' with
 |
  true=>
  have hc:(xl+yl)/18446744073709551616=0\/(xl+yl)/18446744073709551616=1:=by omega
  simp[f301,wA,plG,XV,hg,<-hxh,<-hxl,<-hyh,<-hyl];rw[oX ?_ ?_ ?_ (acF xl yl 0 (by omega) (by omega) (.inl rfl)) rfl]
  rotate_left
  .rfl
  .rfl
  .rfl
  simp;rw[oX ?_ ?_ ?_ (acF xh yh ((xl+yl)/18446744073709551616) (by omega) (by omega) hc) rfl]
  rotate_left
  .rfl
  .rfl
  .rfl
  have aa:(xl+yl) % 18446744073709551616=(x+y) % 18446744073709551616:=by omega
  have ae:(xh+yh+(xl+yl)/18446744073709551616) % 18446744073709551616=(x+y)/18446744073709551616:=by omega
  simp[aa,ae]
 |
  false=>
  have hl:=λh=>Sz n true g g' x y h
  simp only[wA,<-hxh,<-hxl,<-hyh,<-hyl]at hl;by_cases dY:x<y
  .simp only[dY,decide_true]at hl;have hc:(if yl<xl then(1:Int)else 0)=0\/(if yl<xl then(1:Int)else 0)=1:=by split<;>simp
   simp[f301,wA,plG,XV,hg,<-hxh,<-hxl,<-hyh,<-hyl,dY,hl];rw[oX ?_ ?_ ?_ (Ph yl xl 0 (by omega) (by omega) (by omega) (.inl rfl)) rfl]
   rotate_left
   .rfl
   .rfl
   .rfl
   simp;rw[oX ?_ ?_ ?_ (Ph yh xh (if yl<xl then 1 else 0) (by omega) (by omega) (by omega) hc) rfl]
   rotate_left
   .rfl
   .rfl
   .rfl
   have aa:(yl+18446744073709551616-xl) % 18446744073709551616=(y-x) % 18446744073709551616:=by omega
   have ae:(yh+18446744073709551616-xh-(if yl<xl then 1 else 0)) % 18446744073709551616=(y-x)/18446744073709551616:=by split<;>omega
   simp[aa,ae]
  .simp only[dY,decide_false]at hl;have hc:(if xl<yl then(1:Int)else 0)=0\/(if xl<yl then(1:Int)else 0)=1:=by split<;>simp
   simp[f301,wA,plG,XV,hg,<-hxh,<-hxl,<-hyh,<-hyl,dY,hl];rw[oX ?_ ?_ ?_ (Ph xl yl 0 (by omega) (by omega) (by omega) (.inl rfl)) rfl]
   rotate_left
   .rfl
   .rfl
   .rfl
   simp;rw[oX ?_ ?_ ?_ (Ph xh yh (if xl<yl then 1 else 0) (by omega) (by omega) (by omega) hc) rfl]
   rotate_left
   .rfl
   .rfl
   .rfl
   have aa:(xl+18446744073709551616-yl) % 18446744073709551616=(x-y) % 18446744073709551616:=by omega
   have ae:(xh+18446744073709551616-yh-(if xl<yl then 1 else 0)) % 18446744073709551616=(x-y)/18446744073709551616:=by split<;>omega
   simp[aa,ae]
def iU (z:Int):Int:=if z<0 then-1 else if 0<z then 1 else 0
def XW (n1 d1 n2 d2:Int)(h1:0<d1)(h2:0<d2):
 sgW (plG (decide (n1<0) !=decide (d2<0)) (decide (-n2<0) !=decide (d1<0)) (n1.natAbs*d2.natAbs:Nat) ((-n2).natAbs*d1.natAbs:Nat))
  (XV (decide (n1<0) !=decide (d2<0)) (decide (-n2<0) !=decide (d1<0)) (n1.natAbs*d2.natAbs:Nat) ((-n2).natAbs*d1.natAbs:Nat))=iU (n1*d2-n2*d1):=by
 obtain⟨p,hp⟩:∃p,p=n1*d2:=⟨_,rfl⟩;obtain⟨q,hq⟩:∃q,q=n2*d1:=⟨_,rfl⟩;have e1:((n1.natAbs*d2.natAbs:Nat):Int)=(p.natAbs:Int):=by rw[hp,Int.natAbs_mul]
 have e2:(((-n2).natAbs*d1.natAbs:Nat):Int)=(q.natAbs:Int):=by rw[hq,Int.natAbs_mul,Int.natAbs_neg]
 have g1:(n1<0)=(p<0):=propext ⟨λh=>by rw[hp];exact Int.mul_neg_of_neg_of_pos h h2,λh=>by
  rw[hp]at h;apply Classical.byContradiction;intro hn;have:=Int.mul_nonneg (Int.not_lt.1 hn) (Int.le_of_lt h2);omega⟩
 have g2:(-n2<0)=(0<q):=propext ⟨λh=>by rw[hq];exact Int.mul_pos (by omega) h1,λh=>by
  rw[hq]at h;apply Classical.byContradiction;intro hn;have:=Int.mul_nonneg (show 0<= -n2 by omega) (Int.le_of_lt h1);rw[Int.neg_mul]at this;omega⟩
 rw[e1,e2,<-hp,<-hq];have d10:decide (d1<0)=false:=decide_eq_false (by omega);have d20:decide (d2<0)=false:=decide_eq_false (by omega);simp only[g1,g2,d10,d20,Bool.bne_false,sgW,plG,XV,iU];by_cases a:p<0<;>by_cases b:0<q<;>by_cases c:(p.natAbs:Int)<q.natAbs<;>simp[a,b,c]<;>(repeat' split)<;>omega
def XX {g g':Bool}{x y B:Int}(hx:0<=x)(hy:0<=y)(KY:x<=B)(Gd:y<=B):0<=XV g g' x y/\XV g g' x y<=2*B:=by
 unfold XV;cases g==g' with
 |true=>simp only[cond_true];omega
 |
  false=>
  by_cases h:x<y
  .simp only[h,decide_true,cond_true,cond_false];omega
  .simp only[h,decide_false,cond_false];omega
def gO (N D:Int):Int:=bif fv N D then N else 0
def jN (N D:Int):Int:=bif fv N D then D else 1
def Bf (N D:Int):vm (gO N D)=true/\vm (jN N D)=true/\0<jN N D:=by
 unfold gO jN;cases h:fv N D with
 |true=>obtain⟨h1,h2,h3⟩:=afa h;exact⟨h1,h2,h3⟩
 |false=>exact⟨rfl,rfl,(by decide:(0:Int)<1)⟩
def tj (N1 D1 N2 D2:Int):Int:=iU (gO N1 D1*jN N2 D2-gO N2 D2*jN N1 D1)
def Pj {x:Int}(h:vm x=true):vm (-x)=true:=by rw[nO]at *;omega
def KI {x y:Int}(hx:vm x=true)(hy:vm y=true):((x.natAbs*y.natAbs:Nat):Int)<=1000000000000000000000000000000:=by
 rw[nO]at *;have:=Nat.mul_le_mul (show x.natAbs<=1000000000000000 by omega) (show y.natAbs<=1000000000000000 by omega);omega
@[simp] def ai3 (fr:List AV):ev cx fr (.global 0)= .rp [.sc (.int .i64 0),.sc (.int .i64 1)] 0:=rfl
@[simp] def ak7 {C:Cx}{cal:FuncId->List AV->Hp->Option (AV × Hp)}{ops:Array Oper}(d:Tmp)(rest:List Oper)(fr:List AV)(g:Bool)(m:Int)(h:Hp):wE C cal ops (some d) rest fr (some (wA g m,h))=dz C cal ops rest (fr.set d (wA g m),h):=rfl
def Tr (n:Nat)(b:Bool)(N1 D1 N2 D2:Int)(h:Hp):cW cx (n+4) b 249 [lJ N1 D1,lJ N2 D2] h=some (.sc (.int .i64 (tj N1 D1 N2 D2)),h):=by
 refine fZ f249 [.tmp 4] rfl rfl ?_ b h;obtain⟨a1,a2,a3⟩:=Bf N1 D1;obtain⟨b1,b2,b3⟩:=Bf N2 D2;have hm:=XW (gO N1 D1) (jN N1 D1) (gO N2 D2) (jN N2 D2) a3 b3;have l1:=KI a1 b2;have l2:=KI (Pj b1) a2;have c1:=λh=>x6 (n+1) false _ _ h a1 b2
 have c2:=λh=>x6 (n+1) false _ _ h (Pj b1) a2
 have c3:=λh=>SB (n+1) false (decide (gO N1 D1<0) !=decide (jN N2 D2<0)) (decide (-gO N2 D2<0) !=decide (jN N1 D1<0)) _ _ h (Int.natCast_nonneg ((gO N1 D1).natAbs*(jN N2 D2).natAbs)) (by omega) (Int.natCast_nonneg ((-gO N2 D2).natAbs*(jN N1 D1).natAbs)) (by omega)
 have c4:=λh=>SA (n+2) false (plG (decide (gO N1 D1<0) !=decide (jN N2 D2<0)) (decide (-gO N2 D2<0) !=decide (jN N1 D1<0)) ((gO N1 D1).natAbs*(jN N2 D2).natAbs:Nat) ((-gO N2 D2).natAbs*(jN N1 D1).natAbs:Nat)) (XV (decide (gO N1 D1<0) !=decide (jN N2 D2<0)) (decide (-gO N2 D2<0) !=decide (jN N1 D1<0)) ((gO N1 D1).natAbs*(jN N2 D2).natAbs:Nat) ((-gO N2 D2).natAbs*(jN N1 D1).natAbs:Nat)) h
  (XX (Int.natCast_nonneg _) (Int.natCast_nonneg _) l1 l2).1 (by have:=(XX (g:=decide (gO N1 D1<0) !=decide (jN N2 D2<0)) (g':=decide (-gO N2 D2<0) !=decide (jN N1 D1<0)) (Int.natCast_nonneg _) (Int.natCast_nonneg _) l1 l2).2;omega)
 rw[hm]at c4;generalize(decide (gO N1 D1<0) !=decide (jN N2 D2<0))=g1 at c1 c3 c4;generalize(decide (-gO N2 D2<0) !=decide (jN N1 D1<0))=g2 at c2 c3 c4;generalize(((gO N1 D1).natAbs*(jN N2 D2).natAbs:Nat):Int)=m1 at c1 c3 c4;generalize(((-gO N2 D2).natAbs*(jN N1 D1).natAbs:Nat):Int)=m2 at c2 c3 c4;generalize plG g1 g2 m1 m2=g3 at c3 c4;generalize XV g1 g2 m1 m2=m3 at c3 c4;have hf:dM .i64 (-gO N2 D2)= -gO N2 D2:=by have:=(nO _).1 b1;exact dh (by omega) (by omega)
 cases hA:fv N1 D1<;>cases hB:fv N2 D2<;>simp only[gO,jN,hA,hB,cond_true,cond_false]at c1 c2 c3 c4 hf
 case' false.false=>
  have q:wA g2 m2=wA g1 m1:=by
   have q:=c2 [];rw[Int.neg_zero,c1 []]at q;simp only[Zc,Zg,and_true]at q;exact q.symm
  rw[q]at c3
 all_goals
  have Og:=λn b h=>vX n b N1 D1 h
  have hB':=λn b h=>vX n b N2 D2 h
  simp only[lJ]at Og hB'
  try simp only[Int.neg_zero]at c2 hf
  simp[f249,lJ,Og,hB',hA,hB,c1,c2,c3,c4,hf,tj,gO,jN]
end
def vl :List Int->Int
 | []=>0
 |d::ds=>d+1000*vl ds
def qd :Nat->Int->List Int
 |0,_=> []
 |n+1,m=>m % 1000::qd n (m/1000)
def DR (ds:List Int):Prop:=∀d∈ds,0<=d/\d<1000
def qA :∀(n:Nat) (m:Int),(qd n m).length=n
 |0,_=>rfl
 |n+1,m=>by simp[qd,qA n]
def Pk :∀{ds:List Int},DR ds->0<=vl ds/\vl ds<1000^ds.length
 | [],_=>by simp[vl]
 |
  d::ds,h=>by
  have h1:=h d (by simp);have h2:=Pk (ds:=ds) λx hx=>h x (by simp[hx])
  simp only[vl,Yw,Int.pow_succ];omega
def Pl :∀{ds:List Int},DR ds->qd ds.length (vl ds)=ds
 | [],_=>rfl
 |
  d::ds,h=>by
  have h1:=h d (by simp);have h2:=Pl (ds:=ds) λx hx=>h x (by simp[hx])
  simp only[vl,Yw,qd];rw[show(d+1000*vl ds) % 1000=d by omega,show(d+1000*vl ds)/1000=vl ds by omega,h2]
def C6 :∀(n:Nat) (m:Int),DR (qd n m)
 |0,_,d,h=>by simp[qd]at h
 |
  n+1,m,d,h=>by
  simp only[qd,Xm]at h;rcases h with rfl|h
  .omega
  .exact C6 n _ d h
def Hb :∀(n:Nat) (m:Int),0<=m->m<1000^n->vl (qd n m)=m
 |0,m,h0,h1=>by simp at h1;simp[qd,vl];omega
 |
  n+1,m,h0,h1=>by
  rw[Int.pow_succ]at h1;simp only[qd,vl];rw[Hb n (m/1000) (by omega) (by omega)];omega
def XY :∀(ds:List Int) (k:Nat) (o x:Int),ds[k]?=some o->vl (ds.set k x)=vl ds+(x-o)*1000^k
 | [],k,o,x,h=>by simp at h
 |
  d::ds,0,o,x,h=>by
  simp at h;subst h;simp[vl];omega
 |
  d::ds,k+1,o,x,h=>by
  simp at h;simp only[List.set_cons_succ,vl,XY ds k o x h,Int.pow_succ]
  grind
def abW {ds:List Int}(h:DR ds)(k:Nat){x:Int}(hx:0<=x/\x<1000):DR (ds.set k x):=by
 intro d hd;rcases List.mem_or_eq_of_mem_set hd with h1|h1
 .exact h d h1
 .rw[h1];exact hx
def XZ :∀n,vl (List.replicate n 0)=0
 |0=>rfl
 |n+1=>by simp[List.replicate_succ,vl,XZ n]
def X0 (p o cy d c s:Int)(hs:s=cy+o+d*(c % 1000)):(s % 1000-o)*p+(s/1000+d*(c/1000))*(p*1000)=(cy+d*c)*p:=by
 have h1:s=1000*(s/1000)+s % 1000:=by omega
 have h2:c=1000*(c/1000)+c % 1000:=by omega
 have h3:d*c=d*(1000*(c/1000))+d*(c % 1000):=by rw[<-Int.mul_add,<-h2]
 generalize s/1000=u at *;generalize s % 1000=v at *;generalize c/1000=e at *;generalize c % 1000=f at *;rw[h3]
 grind
end Go.Proofs.YtaibpnppeiigdaaGreatDoor
