/- The tables of the abstract evaluator for this seat's program. -/
import Derived.Test.YtadaeokidcgdlaaGreatDoorP13
import Derived.Test.YtadaeokidcgdlaaGreatDoorProg
import Derived.KernelRfl
import Derived.Lib.IndexMore
set_option maxRecDepth 100000
set_option linter.unusedSimpArgs false
namespace Go.Proofs.YtadaeokidcgdlaaGreatDoor
open Go Go.Ae
def inlF (f:FuncId):Bool:=([25,26,27,28,46,59,60,61,62,63,65,66,69,75,76,78,83,91,92,108,109,112,113,114,115,116,117,118,119,120,121,122,123,124,125,129,130,132,133,134,135,139,140,158,159,161,162,163,175,182,185,187,188,191,193,196,197,199,200,201,205,206,210,227,232,233,234,235,237,238,239,240,241,242,259,263,266,273,278,279,280,281,283,284,285,300,302,306,308,309,310,312,314,320,325,326,327]:List Nat).contains f
def coldF (o:Oper):Bool:=
 match o.op with
 | .makeSlice t _ _=>t==160 && (o.dst==some 31||o.dst==some 32)
 |
  .buildSlice t n _=>(t==86 && n==0 && o.dst==some 35)||(t==36 && n==1 && o.dst==some 42)||
  (t==27 && n==1 && (o.dst==some 152||o.dst==some 161))||(t==45 && (n==2 && o.dst==some 155||n==3 && o.dst==some 165))
 | .slice t _ _ (some _) none=>(o.dst==some 22||o.dst==some 31) && (t==60||t==80||t==32||t==33)
 | .call {callee:= .builtin .append,argTypes,.. }=>o.dst==some 37 && argTypes.toList==[86,86]
 |_=>false
def extF (f:FuncId):Bool:=f==256||f==258
def clnF (f:FuncId):Option Nat:=if f=75 then some 1 else if f=139 then some 6 else if f=158 then some 3 else if f=159 then some 5 else if f=210 then some 5 else none
def insF (f:FuncId):Option (Nat × Nat):=if f=237 then some (1,16)else if f=310 then some (6,80)else if f=234 then some (3,56)else if f=241 then some (5,64)else none
def tabF (f:FuncId)(xs:List AV):Option AV:=
 if f=342 then(match xs with
  | [.sc (.string a),.sc (.string b)]=>if a.size<4294967281 then some (.sc (.bool (Lib.contains a.data.toList b.data.toList)))else none
  |_=>none)else match clnF f,xs with
  |some sz,[.ls s [] _]=>if s=sz then some (.ls sz [] true)else none
  |_,_=>none
def isNf (f:FuncId):Bool:=([149,150,152,151,85,39,47,33,44]:List Nat).contains f
def isNw (f:FuncId):Bool:=([80,34,36]:List Nat).contains f
def nfF (f:FuncId)(r:AV):AV:=if isNf f then nfR r else if isNw f then nfW r else r
def plainF (f:FuncId):Bool:= !(f==342||(clnF f).isSome||(insF f).isSome||(isNf f||isNw f))
def globF (g:Nat):Option (List Value):=if g=0 then some [.int .i64 0,.int .i64 1]else if g=1 then some [.tuple #[]]else none
theorem tab_none {f:FuncId}{args:List AV}(h:plainF f=true):tabF f args=none:=by
 simp only[plainF,Bool.not_eq_true',Bool.or_eq_false_iff,Option.isSome_eq_false_iff,Yc,beq_eq_false_iff_ne]at h;unfold tabF;rw[if_neg h.1.1.1,h.1.1.2]
theorem ins_none {f:FuncId}(h:plainF f=true):insF f=none:=by
 simp only[plainF,Bool.not_eq_true',Bool.or_eq_false_iff,Option.isSome_eq_false_iff,Yc,beq_eq_false_iff_ne]at h;exact h.1.2
theorem nf_none {f:FuncId}(h:plainF f=true)(r:AV):nfF f r=r:=by
 simp only[plainF,Bool.not_eq_true',Bool.or_eq_false_iff,Option.isSome_eq_false_iff,Yc,beq_eq_false_iff_ne]at h;unfold nfF;rw[h.2.1,h.2.2];rfl
noncomputable def cx :Cx:={P:=Tryz.prog,T:=tiOf Tryz.prog,G:=globF,F:=fun f=>bif Nat.blt f 385 then fiOf Tryz.prog f else none,inl:=inlF,tab:=tabF,srt:=fun f=>if f=280 then some (327,9)else none,rcv:=fun f=>if f=161 then some 215 else none,cold:=coldF,ext:=extF,ins:=insF,nf:=nfF,thr:=fun f=>Nat.beq f 239,fuel:=1125899906842624}
theorem pure_at {f:FuncId}{args:List AV}{n:Nat}{r r':AV}{h':Hp}(fi:Fi)(hF:cx.F f=some fi)(hok:ok2 cx fi.body=true)(hs:cx.srt f=none)(hi:cx.inl f=false)(hl:args.length≤fi.ntmps)(hc:args.all calm=true)
 (hb:finX fi.res (exec2 cx (callN cx n) fi.body (args++List.replicate (fi.ntmps-args.length) .un,[]))=some (r,h')) (hr:snap h' 8 r=some r') (b:Bool) (h:Hp) (ht:plainF f=true:=by decide):callN cx (n+1) b f args h=some (r',h):=
 call_pure hs hi (tab_none ht) (nf_none ht _) hc (by rw[body1_of hF hok hl];exact hb) hr b h
theorem pure_calm {f:FuncId}{args:List AV}{n:Nat}{r:AV}(fi:Fi)(hF:cx.F f=some fi)(hok:ok2 cx fi.body=true)(hs:cx.srt f=none)(hi:cx.inl f=false)(hl:args.length≤fi.ntmps)(hc:args.all calm=true)(hr:calm r=true)
 (hb:(finX fi.res (exec2 cx (callN cx n) fi.body (args++List.replicate (fi.ntmps-args.length) .un,[]))).map Prod.fst=some r) (b:Bool) (h:Hp) (ht:plainF f=true:=by decide):callN cx (n+1) b f args h=some (r,h):=by
 simp only[Ze]at hb;obtain⟨⟨r0,h'⟩,hb,rfl⟩:=hb;exact pure_at fi hF hok hs hi hl hc hb (snap_of_calm (n:=6) hr) b h ht
theorem pure_ex {f:FuncId}{args:List AV}{n:Nat}(R:AV→Prop)(fi:Fi)(hF:cx.F f=some fi)(hok:ok2 cx fi.body=true)(hs:cx.srt f=none)(hi:cx.inl f=false)(hl:args.length≤fi.ntmps)(hc:args.all calm=true)
 (hb:∃r h',finX fi.res (exec2 cx (callN cx n) fi.body (args++List.replicate (fi.ntmps-args.length) .un,[]))=some (r,h')∧∃r',snap h' 8 r=some r'∧R r') (ht:plainF f=true:=by decide):∃r',R r'∧∀b h,callN cx (n+1) b f args h=some (r',h):=by
 obtain⟨r,h',hb,r',hr,hR⟩:=hb;exact⟨r',hR,fun b h=>pure_at fi hF hok hs hi hl hc hb hr b h ht⟩
@[simp] theorem cx_cold :cx.cold=coldF:=rfl
@[simp] theorem cx_ext :cx.ext=extF:=rfl
@[simp] theorem T_int :cx.T 3=some {size:=1,agg:=false,zero:=[.int .i64 (0)],kd:= .prim}:=by kernel_rfl
@[simp] theorem T_bool :cx.T 4=some {size:=1,agg:=false,zero:=[.bool false],kd:= .prim}:=by kernel_rfl
@[simp] theorem T_string :cx.T 9=some {size:=1,agg:=false,zero:=[.string ⟨#[]⟩],kd:= .prim}:=by kernel_rfl
@[simp] theorem T___int :cx.T 160=some {size:=1,agg:=false,zero:=[.slice none 0 0],kd:= .slice 1 false 8 [.int .i64 (0)]}:=by kernel_rfl
@[simp] theorem T_api_Value :cx.T 38=some {size:=5,agg:=true,zero:=[.int .i64 (0),.int .i64 (0),.int .i64 (0),.string ⟨#[]⟩,.slice none 0 0],kd:= .struct [(0,1,false),(1,1,false),(2,1,false),(3,1,false),(4,1,false)]}:=by kernel_rfl
@[simp] theorem T___api_Value :cx.T 36=some {size:=1,agg:=false,zero:=[.slice none 0 0],kd:= .slice 5 true 64 [.int .i64 (0),.int .i64 (0),.int .i64 (0),.string ⟨#[]⟩,.slice none 0 0]}:=by kernel_rfl
@[simp] theorem T_api_Pred :cx.T 40=some {size:=8,agg:=true,zero:=[.int .i64 (0),.string ⟨#[]⟩,.string ⟨#[]⟩,.int .i64 (0),.int .i64 (0),.int .i64 (0),.string ⟨#[]⟩,.slice none 0 0],kd:= .struct [(0,1,false),(1,1,false),(2,1,false),(3,5,true)]}:=by kernel_rfl
@[simp] theorem T___api_Pred :cx.T 27=some {size:=1,agg:=false,zero:=[.slice none 0 0],kd:= .slice 8 true 104 [.int .i64 (0),.string ⟨#[]⟩,.string ⟨#[]⟩,.int .i64 (0),.int .i64 (0),.int .i64 (0),.string ⟨#[]⟩,.slice none 0 0]}:=by kernel_rfl
@[simp] theorem T_api_Frac :cx.T 165=some {size:=2,agg:=true,zero:=[.int .i64 (0),.int .i64 (0)],kd:= .struct [(0,1,false),(1,1,false)]}:=by kernel_rfl
@[simp] theorem T_frac_wide :cx.T 227=some {size:=3,agg:=true,zero:=[.bool false,.int .u64 (0),.int .u64 (0)],kd:= .struct [(0,1,false),(1,1,false),(2,1,false)]}:=by kernel_rfl
@[simp] theorem T___string :cx.T 60=some {size:=1,agg:=false,zero:=[.slice none 0 0],kd:= .slice 1 false 16 [.string ⟨#[]⟩]}:=by kernel_rfl
@[simp] theorem T_int32 :cx.T 21=some {size:=1,agg:=false,zero:=[.int .i32 (0)],kd:= .prim}:=by kernel_rfl
@[simp] theorem T_uint64 :cx.T 191=some {size:=1,agg:=false,zero:=[.int .u64 (0)],kd:= .prim}:=by kernel_rfl
@[simp] theorem T_uint8 :cx.T 5=some {size:=1,agg:=false,zero:=[.int .u8 (0)],kd:= .prim}:=by kernel_rfl
@[simp] theorem U_int :cx.P.underlying 3=some (.int .i64):=by kernel_rfl
@[simp] theorem U_uint64 :cx.P.underlying 191=some (.int .u64):=by kernel_rfl
@[simp] theorem U_bool :cx.P.underlying 4=some .bool:=by kernel_rfl
@[simp] theorem S_string :isStr cx 9=true:=by kernel_rfl
@[simp] theorem L_ints :isSlT cx 160=true:=by kernel_rfl
@[simp] theorem L_values :isSlT cx 36=true:=by kernel_rfl
theorem fit_i64 {n:Int}(h1: -9223372036854775808≤n)(h2:n≤9223372036854775807):fitI .i64 n=n:=by
 show(if-9223372036854775808≤n∧n≤9223372036854775807 then n else IntKind.i64.wrap n)=n;rw[if_pos ⟨h1,h2⟩]
theorem fit_u64 {n:Int}(h1:0≤n)(h2:n≤18446744073709551615):fitI .u64 n=n:=by
 show(if 0≤n∧n≤18446744073709551615 then n else IntKind.u64.wrap n)=n;rw[if_pos ⟨h1,h2⟩]
@[simp] theorem cx_fuel :cx.fuel=1125899906842624:=rfl
section
attribute [local simp] aop aopW coldF extF putA ofConst flat scalarOp fastOp binFast intOp strOp guardX Ae.part rowOf szOk natOf lenA cls fillA splice newsOf isNilC
theorem bl_irrefl :∀l:List UInt8,Op.bytesLess l l=false
 | []=>rfl
 |a::l=>by simp[Op.bytesLess,bl_irrefl l]
theorem bl_total :∀l m:List UInt8,Op.bytesLess l m=false→l≠m→Op.bytesLess m l=true
 | [],[],_,h=>absurd rfl h
 | [],b::m,h,_=>by simp[Op.bytesLess]at h
 |a::l,[],_,_=>by simp[Op.bytesLess]
 |
  a::l,b::m,h,hn=>by
  simp only[Op.bytesLess,Bool.or_eq_false_iff,decide_eq_false_iff_not,Bool.and_eq_false_iff]at h;simp only[Op.bytesLess,Bool.or_eq_true,Zz,Zh];by_cases e:a=b
  ·subst e;refine .inr ⟨by simp,bl_total l m ?_ (fun q=>hn (by rw[q]))⟩;rcases h.2 with h2|h2
   ·simp at h2
   ·exact h2
  ·left;have h1:=h.1;rw[UInt8.lt_iff_toNat_lt]at h1⊢;have:a.toNat≠b.toNat:=fun q=>e (UInt8.toNat_inj.1 q)
   omega
theorem bl_trans :∀l m k:List UInt8,Op.bytesLess l m=true→Op.bytesLess m k=true→Op.bytesLess l k=true
 |_,[],_,h,_=>by simp[Op.bytesLess]at h
 |_,_::_,[],_,h=>by simp[Op.bytesLess]at h
 | [],_::_,_::_,_,_=>by simp[Op.bytesLess]
 |
  a::l,b::m,c::k,h1,h2=>by
  simp only[Op.bytesLess,Bool.or_eq_true,Zz,Zh,beq_iff_eq]at h1 h2⊢;rw[UInt8.lt_iff_toNat_lt]at *;rcases h1 with h1|⟨rfl,h1⟩<;>rcases h2 with h2|⟨rfl,h2⟩
  ·left;omega
  ·left;exact h1
  ·left;exact h2
  ·exact .inr ⟨rfl,bl_trans l m k h1 h2⟩
theorem eqS_iff (x y:ByteArray):eqS x y=true↔x=y:=by
 unfold eqS;rw[beq_iff_eq];exact⟨fun h=>by
  obtain⟨⟨a⟩⟩:=x;obtain⟨⟨b⟩⟩:=y;simp at h;rw[h],fun h=>by rw[h]⟩
theorem ltS_irrefl (x:ByteArray):ltS x x=false:=bl_irrefl _
theorem ltS_total {x y:ByteArray}(h:ltS x y=false)(hn:eqS x y=false):ltS y x=true:=by
 refine bl_total _ _ h fun q=>?_
 have:eqS x y=true:=by unfold eqS;rw[beq_iff_eq];exact q
 rw[hn]at this;cases this
theorem ltS_trans {x y z:ByteArray}(h:ltS x y=true)(k:ltS y z=true):ltS x z=true:=bl_trans _ _ _ h k
theorem ltS_asymm {x y:ByteArray}(h:ltS x y=true):ltS y x=false:=by
 cases q:ltS y x with
 |false=>rfl
 |true=>have:=ltS_trans h q;rw[ltS_irrefl]at this;cases this
theorem isNaN_int (n:Nat)(b:Bool)(x:Int)(h:Hp):callN cx (n+1) b 94 [.sc (.int .i64 x)] h=some (.sc (.bool false),h):=by
 refine pure_at (r:= .sc (.bool false)) (h':=[]) ⟨Tryz.f94.ntmps,(Tryz.f94.body).getD .skip,[.tmp 2]⟩ (by kernel_rfl) (by kernel_rfl) rfl (by kernel_rfl) (by simp[Tryz.f94]) rfl ?_ rfl b h;simp[Tryz.f94]
theorem isNaN_str (n:Nat)(b:Bool)(x:ByteArray)(h:Hp):callN cx (n+1) b 95 [.sc (.string x)] h=some (.sc (.bool false),h):=by
 refine pure_at (r:= .sc (.bool false)) (h':=[]) ⟨Tryz.f95.ntmps,(Tryz.f95.body).getD .skip,[.tmp 2]⟩ (by kernel_rfl) (by kernel_rfl) rfl (by kernel_rfl) (by simp[Tryz.f95]) rfl ?_ rfl b h;simp[Tryz.f95,eqS]
def cmpI (x y:Int):Int:=if x<y then-1 else if y<x then 1 else 0
theorem Compare_int (n:Nat)(b:Bool)(x y:Int)(h:Hp):callN cx (n+2) b 49 [.sc (.int .i64 x),.sc (.int .i64 y)] h=some (.sc (.int .i64 (cmpI x y)),h):=by
 refine pure_at (r:= .sc (.int .i64 (cmpI x y))) (h':=[]) ⟨Tryz.f49.ntmps,(Tryz.f49.body).getD .skip,[.tmp 4]⟩ (by kernel_rfl) (by kernel_rfl) rfl (by kernel_rfl) (by simp[Tryz.f49]) rfl ?_ rfl b h;simp[Tryz.f49,isNaN_int];rw[condX_ite];split<;>rename_i h1<;>simp at h1<;>simp[cmpI,h1];rw[condX_ite];split<;>rename_i h2<;>simp at h2<;>simp[cmpI,h1,h2];rw[if_neg (by omega),if_neg (by omega)]
def cmpS (x y:ByteArray):Int:=bif ltS x y then-1 else bif ltS y x then 1 else 0
theorem Compare_str (n:Nat)(b:Bool)(x y:ByteArray)(h:Hp):callN cx (n+2) b 50 [.sc (.string x),.sc (.string y)] h=some (.sc (.int .i64 (cmpS x y)),h):=by
 refine pure_at (r:= .sc (.int .i64 (cmpS x y))) (h':=[]) ⟨Tryz.f50.ntmps,(Tryz.f50.body).getD .skip,[.tmp 4]⟩ (by kernel_rfl) (by kernel_rfl) rfl (by kernel_rfl) (by simp[Tryz.f50]) rfl ?_ rfl b h;simp[Tryz.f50,isNaN_str];cases h1:ltS x y<;>simp[cmpS,h1];cases h2:eqS x y
 ·have h3:ltS y x=true:=ltS_total h1 h2;simp[h2,h3]
 ·have h3:ltS y x=false:=by rw[(eqS_iff x y).1 h2];exact ltS_irrefl y
  simp[h2,h3]
def orI :List Int→Int
 | []=>0
 |x::l=>if x=0 then orI l else x
theorem orI_drop {xs:List Int}{i:Nat}{x:Int}(h:xs[i]?=some x):orI (xs.drop i)=if x=0 then orI (xs.drop (i+1))else x:=by
 obtain⟨hi,rfl⟩:=Za.1 h;rw[Zm hi];rfl
theorem Or_int (n:Nat)(b:Bool)(xs:List Int)(z:Bool)(h:Hp)(hl:xs.length≤1000000):callN cx (n+1) b 48 [.ls 1 (xs.map fun x=> [.sc (.int .i64 x)]) z] h=some (.sc (.int .i64 (orI xs)),h):=by
 refine pure_at (r:= .sc (.int .i64 (orI xs))) (h':=[]) ⟨Tryz.f48.ntmps,(Tryz.f48.body).getD .skip,[.tmp 2]⟩ (by kernel_rfl) (by kernel_rfl) rfl (by kernel_rfl) (by simp[Tryz.f48]) rfl ?_ rfl b h;simp[Tryz.f48,lenA];refine loop_up (G:=fun x=>finX _ (thenX _ _ (blockX _ x) _)=_)
  (fun i s=>orI xs=orI (xs.drop i)∧s.1.length=18∧gt s.1 3= .sc (.int .i64 0)∧gt s.1 6= .ls 1 (xs.map fun x=> [.sc (.int .i64 x)]) z∧gt s.1 7= .sc (.int .i64 xs.length)∧gt s.1 8= .sc (.int .i64 i)∧s.2=[])
  (fun o s=>s.2=[]∧s.1.length=18∧((o= .exit 0∧orI xs=0∧gt s.1 3= .sc (.int .i64 0))∨(o= .ret∧gt s.1 2= .sc (.int .i64 (orI xs))))) xs.length (by simp;omega) (by simp) ?_ ?_
 ·rintro i fr h hle ⟨ho,hlen,h3,h6,h7,h8,rfl⟩;simp only at hlen h3 h6 h7 h8;by_cases hi:i<xs.length
  ·have hx:xs[i]?=some xs[i]:=Zb hi;have hd:=orI_drop hx;have hf:fitI .i64 ((i:Int)+1)=((i+1:Nat):Int):=fit_i64 (by omega) (by omega);by_cases h0:xs[i]=0
   ·rw[if_pos h0]at hd;simp[hlen,h3,h6,h7,h8,hi,hx,h0,hf,ho,hd]
   ·rw[if_neg h0]at hd;simp[hlen,h3,h6,h7,h8,hi,hx,h0,hf,ho,hd]
  ·have hz:orI xs=0:=by rw[ho,Zt (by omega)];rfl
   simp[hlen,h3,h6,h7,h8,hi,hz]
 ·rintro o fr h hn ⟨rfl,hlen,⟨rfl,h0,h3⟩|⟨rfl,h2⟩⟩
  ·simp only at hlen h3;simp[hlen,h3,h0]
  ·simp only at h2;simp[h2]
end
section
attribute [local simp] aop aopW coldF extF putA ofConst flat scalarOp fastOp binFast intOp strOp guardX Ae.part rowOf szOk natOf lenA cls fillA splice newsOf isNilC cellX
def inR (n:Int):Bool:=decide (-1000000000000000≤n) && decide (n≤1000000000000000)
theorem inR_iff (n:Int):inR n=true↔ -1000000000000000≤n∧n≤1000000000000000:=by simp[inR]
theorem num_In (n:Nat)(b:Bool)(x:Int)(h:Hp):callN cx (n+1) b 172 [.sc (.int .i64 x)] h=some (.sc (.bool (inR x)),h):=by
 refine pure_at (r:= .sc (.bool (inR x))) (h':=[]) ⟨Tryz.f172.ntmps,(Tryz.f172.body).getD .skip,[.tmp 2]⟩ (by kernel_rfl) (by kernel_rfl) rfl (by kernel_rfl) (by simp[Tryz.f172]) rfl ?_ rfl b h;by_cases h1: -1000000000000000≤x<;>simp[Tryz.f172,h1,inR]
theorem r01_In (n:Nat)(b:Bool)(x:Int)(h:Hp):callN cx (n+1) b 244 [.sc (.int .i64 x)] h=some (.sc (.bool (inR x)),h):=by
 refine pure_at (r:= .sc (.bool (inR x))) (h':=[]) ⟨Tryz.f244.ntmps,(Tryz.f244.body).getD .skip,[.tmp 2]⟩ (by kernel_rfl) (by kernel_rfl) rfl (by kernel_rfl) (by simp[Tryz.f244]) rfl ?_ rfl b h;by_cases h1: -1000000000000000≤x<;>simp[Tryz.f244,h1,inR]
theorem num_abs (n:Nat)(b:Bool)(x:Int)(h:Hp)(hx:inR x=true):callN cx (n+1) b 315 [.sc (.int .i64 x)] h=some (.sc (.int .i64 x.natAbs),h):=by
 rw[inR_iff]at hx;refine pure_at (r:= .sc (.int .i64 x.natAbs)) (h':=[]) ⟨Tryz.f315.ntmps,(Tryz.f315.body).getD .skip,[.tmp 2]⟩ (by kernel_rfl) (by kernel_rfl) rfl (by kernel_rfl) (by simp[Tryz.f315]) rfl ?_ rfl b h;have hf:fitI .i64 (-x)= -x:=fit_i64 (by omega) (by omega);have hm:(if x< -x then-x else x)=(x.natAbs:Int):=by split<;>omega
 simp[Tryz.f315,hf,hm]
theorem r03_size (n:Nat)(b:Bool)(x:Int)(h:Hp)(hx: -9223372036854775807≤x∧x≤9223372036854775807):callN cx (n+1) b 171 [.sc (.int .i64 x)] h=some (.sc (.int .i64 x.natAbs),h):=by
 refine pure_at (r:= .sc (.int .i64 x.natAbs)) (h':=[]) ⟨Tryz.f171.ntmps,(Tryz.f171.body).getD .skip,[.tmp 2]⟩ (by kernel_rfl) (by kernel_rfl) rfl (by kernel_rfl) (by simp[Tryz.f171]) rfl ?_ rfl b h;have hf:fitI .i64 (-x)= -x:=fit_i64 (by omega) (by omega);by_cases h1:x<0
 ·have hm: -x=(x.natAbs:Int):=by omega
  rw[hm]at hf;simp[Tryz.f171,hf,h1,hm]
 ·have hm:(x.natAbs:Int)=x:=by omega
  simp[Tryz.f171,h1,hm]
def gcdI (x y:Int):Int:=(Nat.gcd x.natAbs y.natAbs:Nat)
theorem num_Gcd (n:Nat)(b:Bool)(x y:Int)(h:Hp)(hx:inR x=true)(hy:inR y=true):callN cx (n+2) b 252 [.sc (.int .i64 x),.sc (.int .i64 y)] h=some (.sc (.int .i64 (gcdI x y)),h):=by
 refine pure_at (r:= .sc (.int .i64 (gcdI x y))) (h':=[]) ⟨Tryz.f252.ntmps,(Tryz.f252.body).getD .skip,[.tmp 4]⟩ (by kernel_rfl) (by kernel_rfl) rfl (by kernel_rfl) (by simp[Tryz.f252]) rfl ?_ rfl b h;simp[Tryz.f252,num_In,num_abs,hx,hy];rw[inR_iff]at hx hy;refine loop_down (G:=fun x=>finX _ (thenX _ _ (blockX _ x) _)=_)
  (fun k s=>∃p q:Nat,k=q∧Nat.gcd p q=Nat.gcd x.natAbs y.natAbs∧p≤1000000000000000∧q≤1000000000000000∧s.1.length=24∧gt s.1 0= .sc (.int .i64 p)∧gt s.1 1= .sc (.int .i64 q)∧s.2=[])
  (fun o s=>s.2=[]∧s.1.length=24∧o= .exit 0∧gt s.1 0= .sc (.int .i64 (Nat.gcd x.natAbs y.natAbs))) y.natAbs (by simp;omega) ⟨x.natAbs,y.natAbs,rfl,rfl,by omega,by omega,by simp⟩ ?_ ?_
 ·rintro k fr h ⟨p,q,rfl,hg,hp,hq,hlen,h0,h1,rfl⟩;simp only at hlen h0 h1;by_cases hz:k=0
  ·subst hz;rw[Nat.gcd_zero_right]at hg;simp[hlen,h0,h1,hg]
  ·have hb:¬(k:Int)=0:=by omega
   have hm:((p:Int).tmod (k:Int))=((p % k:Nat):Int):=rfl;have hk:True:=trivial;have h2:Nat.gcd k (p % k)=Nat.gcd x.natAbs y.natAbs:=by rw[←hg,Nat.gcd_comm p k,Nat.gcd_rec k p,Nat.gcd_comm]
   have h3:p % k<k:=Nat.mod_lt _ (by omega);simp[hlen,h0,h1,hz,hb,hm,hk];exact⟨p % k,h3,k,h2,hq,by omega,rfl,rfl⟩
 ·rintro o fr h hn ⟨rfl,hlen,rfl,h0⟩;simp only at hlen h0;simp[hlen,h0,gcdI]
theorem r03_gcd (n:Nat)(b:Bool)(x y:Nat)(h:Hp)(hx:x≤1000000000000000)(hy:y≤1000000000000000):callN cx (n+1) b 248 [.sc (.int .i64 x),.sc (.int .i64 y)] h=some (.sc (.int .i64 (Nat.gcd x y)),h):=by
 refine pure_at (r:= .sc (.int .i64 (Nat.gcd x y))) (h':=[]) ⟨Tryz.f248.ntmps,(Tryz.f248.body).getD .skip,[.tmp 4]⟩ (by kernel_rfl) (by kernel_rfl) rfl (by kernel_rfl) (by simp[Tryz.f248]) rfl ?_ rfl b h;simp[Tryz.f248];refine loop_down (G:=fun x=>finX _ (thenX _ _ (blockX _ x) _)=_)
  (fun k s=>∃p q:Nat,k=q∧Nat.gcd p q=Nat.gcd x y∧p≤1000000000000000∧q≤1000000000000000∧s.1.length=12∧gt s.1 0= .sc (.int .i64 p)∧gt s.1 1= .sc (.int .i64 q)∧s.2=[])
  (fun o s=>s.2=[]∧s.1.length=12∧o= .exit 0∧gt s.1 0= .sc (.int .i64 (Nat.gcd x y))) y (by simp;omega) ⟨x,y,rfl,rfl,by omega,by omega,by simp⟩ ?_ ?_
 ·rintro k fr h ⟨p,q,rfl,hg,hp,hq,hlen,h0,h1,rfl⟩;simp only at hlen h0 h1;by_cases hz:k=0
  ·subst hz;rw[Nat.gcd_zero_right]at hg;simp[hlen,h0,h1,hg]
  ·have hb:¬(k:Int)=0:=by omega
   have hm:((p:Int).tmod (k:Int))=((p % k:Nat):Int):=rfl;have hk:0<k:=by omega
   have h2:Nat.gcd k (p % k)=Nat.gcd x y:=by rw[←hg,Nat.gcd_comm p k,Nat.gcd_rec k p,Nat.gcd_comm]
   have h3:p % k<k:=Nat.mod_lt _ (by omega);simp[hlen,h0,h1,hz,hb,hm,hk];exact⟨p % k,h3,k,h2,hq,by omega,rfl,rfl⟩
 ·rintro o fr h hn ⟨rfl,hlen,rfl,h0⟩;simp only at hlen h0;simp[hlen,h0]
def frA (N D:Int):AV:= .ag [.sc (.int .i64 N),.sc (.int .i64 D)]
def fv (N D:Int):Bool:=decide (1≤D) && decide (D≤1000000000000000) && inR N && decide (gcdI N D=1)
theorem fv_inR {N D:Int}(h:fv N D=true):inR N=true∧inR D=true∧1≤D:=by
 simp only[fv,Zh,Zz]at h;exact⟨h.1.2,by rw[inR_iff];omega,h.1.1.1⟩
theorem frac_Valid (n:Nat)(b:Bool)(N D:Int)(h:Hp):callN cx (n+3) b 173 [frA N D] h=some (.sc (.bool (fv N D)),h):=by
 refine pure_calm (r:= .sc (.bool (fv N D))) ⟨Tryz.f173.ntmps,(Tryz.f173.body).getD .skip,[.tmp 2]⟩ (by kernel_rfl) (by kernel_rfl) rfl (by kernel_rfl) (by simp[Tryz.f173]) rfl rfl ?_ b h;by_cases h1:1≤D
 ·by_cases h2:D≤1000000000000000
  ·cases h3:inR N with
   |false=>simp[Tryz.f173,frA,h1,h2,num_In,h3,fv]
   |
    true=>
    have hD:inR D=true:=by rw[inR_iff];omega
    simp[Tryz.f173,frA,h1,h2,num_In,h3,fv,num_Gcd _ _ _ _ _ h3 hD]
  ·simp[Tryz.f173,frA,h1,h2,fv]
 ·simp[Tryz.f173,frA,h1,fv]
theorem r03_Valid (n:Nat)(b:Bool)(N D:Int)(h:Hp):callN cx (n+2) b 167 [frA N D] h=some (.sc (.bool (fv N D)),h):=by
 refine pure_calm (r:= .sc (.bool (fv N D))) ⟨Tryz.f167.ntmps,(Tryz.f167.body).getD .skip,[.tmp 2]⟩ (by kernel_rfl) (by kernel_rfl) rfl (by kernel_rfl) (by simp[Tryz.f167]) rfl rfl ?_ b h;by_cases h1:1≤D
 ·by_cases h2:D≤1000000000000000
  ·by_cases h3: -1000000000000000≤N
   ·by_cases h4:N≤1000000000000000
    ·obtain⟨d,rfl⟩:∃d:Nat,D=d:=⟨D.toNat,by omega⟩;have h5:d≤1000000000000000:=by omega
     simp[Tryz.f167,frA,h1,h2,h3,h4,inR,fv,gcdI,r03_size _ _ N _ ⟨by omega,by omega⟩,r03_gcd _ _ N.natAbs d _ (by omega) h5];rfl
    ·simp[Tryz.f167,frA,h1,h2,h3,h4,inR,fv]
   ·simp[Tryz.f167,frA,h1,h2,h3,inR,fv]
  ·simp[Tryz.f167,frA,h1,h2,fv]
 ·simp[Tryz.f167,frA,h1,fv]
theorem and32 (x:Nat):x &&& 4294967295=x % 4294967296:=Nat.and_two_pow_sub_one_eq_mod x 32
theorem mul32 {x y:Int}(hx:0≤x)(hx':x≤4294967295)(hy:0≤y)(hy':y≤4294967295):0≤x*y∧x*y≤18446744065119617025:=
 ⟨Int.mul_nonneg hx hy,by have:=Int.mul_le_mul hx' hy' hy (by decide:(0:Int)≤4294967295);omega⟩
theorem Mul64 (n:Nat)(b:Bool)(x y:Int)(h:Hp)(hx:0≤x)(hx':x≤18446744073709551615)(hy:0≤y)(hy':y≤18446744073709551615):
 callN cx (n+1) b 254 [.sc (.int .u64 x),.sc (.int .u64 y)] h=some (.tp [.sc (.int .u64 (x*y/18446744073709551616)),.sc (.int .u64 (x*y % 18446744073709551616))],h):=by
 obtain⟨x0,hx0⟩:∃x0,x0=x % 4294967296:=⟨_,rfl⟩;obtain⟨x1,hx1⟩:∃x1,x1=x/4294967296:=⟨_,rfl⟩;obtain⟨y0,hy0⟩:∃y0,y0=y % 4294967296:=⟨_,rfl⟩;obtain⟨y1,hy1⟩:∃y1,y1=y/4294967296:=⟨_,rfl⟩;have am:∀z:Int,0≤z→((z.toNat &&& 4294967295:Nat):Int)=z % 4294967296:=fun z hz=>by rw[and32];omega
 have b00:=mul32 (x:=x0) (y:=y0) (by omega) (by omega) (by omega) (by omega);have b10:=mul32 (x:=x1) (y:=y0) (by omega) (by omega) (by omega) (by omega);have b01:=mul32 (x:=x0) (y:=y1) (by omega) (by omega) (by omega) (by omega);have b11:=mul32 (x:=x1) (y:=y1) (by omega) (by omega) (by omega) (by omega);have exy:x*y=x1*y1*18446744073709551616+(x1*y0+x0*y1)*4294967296+x0*y0:=by
  have ex:x=x1*4294967296+x0:=by omega
  have ey:y=y1*4294967296+y0:=by omega
  rw[ex,ey,Int.add_mul,Int.mul_add,Int.mul_add,Int.add_mul];have e1:x1*4294967296*(y1*4294967296)=x1*y1*18446744073709551616:=by rw[Int.mul_assoc,←Int.mul_assoc 4294967296,Int.mul_comm 4294967296 y1,Int.mul_assoc y1,←Int.mul_assoc x1];rfl
  have e2:x1*4294967296*y0=x1*y0*4294967296:=by rw[Int.mul_assoc,Int.mul_comm 4294967296 y0,←Int.mul_assoc]
  have e3:x0*(y1*4294967296)=x0*y1*4294967296:=by rw[Int.mul_assoc]
  omega
 obtain⟨P,hP⟩:∃P,P=x0*y0:=⟨_,rfl⟩;obtain⟨Q,hQ⟩:∃Q,Q=x1*y0:=⟨_,rfl⟩;obtain⟨R,hR⟩:∃R,R=x0*y1:=⟨_,rfl⟩;obtain⟨S,hS⟩:∃S,S=x1*y1:=⟨_,rfl⟩;rw[←hP]at b00 exy;rw[←hQ]at b10 exy;rw[←hR]at b01 exy;rw[←hS]at b11 exy;have hhi:S+(Q+P/4294967296)/4294967296+((Q+P/4294967296) % 4294967296+R)/4294967296=x*y/18446744073709551616:=by omega
 have hlo:fitI .u64 (x*y)=x*y % 18446744073709551616:=by
  rw[fitI_wrap];simp[IntKind.wrap,IntKind.signed,IntKind.bits]
 have f1:fitI .u64 P=P:=fit_u64 (by omega) (by omega);have f2:fitI .u64 Q=Q:=fit_u64 (by omega) (by omega);have f3:fitI .u64 (Q+P/4294967296)=Q+P/4294967296:=fit_u64 (by omega) (by omega);have f4:fitI .u64 R=R:=fit_u64 (by omega) (by omega);have f5:fitI .u64 ((Q+P/4294967296) % 4294967296+R)=(Q+P/4294967296) % 4294967296+R:=fit_u64 (by omega) (by omega);have f6:fitI .u64 S=S:=fit_u64 (by omega) (by omega);have f7:fitI .u64 (S+(Q+P/4294967296)/4294967296)=S+(Q+P/4294967296)/4294967296:=fit_u64 (by omega) (by omega);have f8:fitI .u64 (S+(Q+P/4294967296)/4294967296+((Q+P/4294967296) % 4294967296+R)/4294967296)=S+(Q+P/4294967296)/4294967296+((Q+P/4294967296) % 4294967296+R)/4294967296:=fit_u64 (by omega) (by omega);have a1:=am x hx;have a2:=am y hy;have a3:=am (Q+P/4294967296) (by omega);have p3:0≤Q+P/4294967296:=by omega
 have q3:Q+P/4294967296≤18446744073709551615:=by omega
 rw[←hx0]at a1;rw[←hy0]at a2;have r:=hhi.symm;refine pure_at (r:= .tp [.sc (.int .u64 (x*y/18446744073709551616)),.sc (.int .u64 (x*y % 18446744073709551616))]) (h':=[]) ⟨Tryz.f254.ntmps,(Tryz.f254.body).getD .skip,[.tmp 4,.tmp 5]⟩ (by kernel_rfl) (by kernel_rfl) rfl (by kernel_rfl) (by simp[Tryz.f254]) rfl ?_ rfl b h;simp[Tryz.f254,hx,hx',hy,hy',a1,a2,←hx1,←hy1,←hP,←hQ,←hR,←hS,f1,f2,f3,p3,q3,a3,f4,f5,f6,f7,f8,hlo,r,IntKind.bits]
end
end Go.Proofs.YtadaeokidcgdlaaGreatDoor
