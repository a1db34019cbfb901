/- What the tables speak of: rows of integers in order; the powers of ten. -/
import Derived.Test.YtiefabpageilbaaGreatDoorP12
import Derived.Lib.ItoaNum
import Derived.Test.YtiefabpageilbaaGreatDoorP14
import Derived.Test.YtiefabpageilbaaGreatDoorProg
import Derived.KernelRfl
import Derived.Lib.IndexMore
set_option linter.all false
set_option maxRecDepth 100000
namespace Go.Proofs
open Go Go.Ae
def rowI (n:Int):List AV:=[.sc (.int .i64 n)]
def insI (x:Int):List Int→List Int
 | []=> [x]
 |y::t=>if x≤y then x::y::t else y::insI x t
def sortI (l:List Int):List Int:=l.foldr insI []
def sortV (l:List Int):AV:=if l=[]then .sc (.slice none 0 0)else .ls 1 ((sortI l).map rowI) false
def pow10C :List Value:=Lib.pow10Tab.map fun z=>Value.int .u64 z
end Go.Proofs
namespace Go.Ae
def digC :Nat→Nat→List UInt8
 |0,u=> [UInt8.ofNat (48+u)]
 |k+1,u=>if u<10 then[UInt8.ofNat (48+u)]else digC k (u/10)++[UInt8.ofNat (48+u % 10)]
def itoaC (n:Int):List UInt8:=if n<0 then 45::digC 20 n.natAbs else digC 20 n.toNat
theorem digC_eq :∀(k u:Nat),u<10^(k+1)→digC k u=Lib.decDigits u
 |0,u,h=>by rw[Lib.decDigits_one (by omega)];rfl
 |
  k+1,u,h=>by
  unfold digC;by_cases q:u<10
  ·rw[if_pos q,Lib.decDigits_one q]
  ·rw[if_neg q,Lib.decDigits,dif_neg q,digC_eq k (u/10) (by rw[Nat.pow_succ]at h;omega)]
theorem itoaC_eq (n:Int)(h0: -9223372036854775808≤n)(h1:n≤9223372036854775807):itoaC n=Lib.itoa n:=by
 unfold itoaC Lib.itoa;split
 ·rw[digC_eq 20 _ (by omega)]
 ·rw[digC_eq 20 _ (by omega)]
def valC (l:List UInt8):Nat:=l.foldl (fun a d=>a*10+(d.toNat-48)) 0
theorem valC_snoc (l:List UInt8)(d:UInt8):valC (l++[d])=valC l*10+(d.toNat-48):=by simp[valC,List.foldl_append]
theorem dig_nat (u:Nat)(h:u<10):(UInt8.ofNat (48+u)).toNat=48+u:=by
 rw[UInt8.toNat_ofNat'];omega
theorem digC_val :∀(k u:Nat),u<10^(k+1)→valC (digC k u)=u
 |
  0,u,h=>by
  unfold digC;have:=dig_nat u (by omega);simp only[valC,List.foldl_cons,List.foldl_nil,this];omega
 |
  k+1,u,h=>by
  unfold digC;by_cases q:u<10
  ·rw[if_pos q];have:=dig_nat u q;simp only[valC,List.foldl_cons,List.foldl_nil,this];omega
  ·rw[if_neg q,valC_snoc,digC_val k (u/10) (by rw[Nat.pow_succ]at h;omega),dig_nat (u % 10) (by omega)];omega
theorem digC_dig :∀(k u:Nat),u<10^(k+1)→∀d∈digC k u,48≤d.toNat∧d.toNat≤57
 |
  0,u,h,d,hd=>by
  unfold digC at hd;rw[List.mem_singleton.1 hd,dig_nat u (by omega)];omega
 |
  k+1,u,h,d,hd=>by
  unfold digC at hd;by_cases q:u<10
  ·rw[if_pos q]at hd;rw[List.mem_singleton.1 hd,dig_nat u q];omega
  ·rw[if_neg q]at hd;rcases List.mem_append.1 hd with e|e
   ·exact digC_dig k (u/10) (by rw[Nat.pow_succ]at h;omega) d e
   ·rw[List.mem_singleton.1 e,dig_nat (u % 10) (by omega)];omega
theorem itoaC_byte (n:Int)(h0: -9223372036854775808≤n)(h1:n≤9223372036854775807):∀d∈itoaC n,d.toNat=45∨48≤d.toNat∧d.toNat≤57:=fun d hd=>by
 unfold itoaC at hd;split at hd
 ·rcases List.mem_cons.1 hd with e|e
  ·left;rw[e];rfl
  ·exact .inr (digC_dig 20 _ (by omega) d e)
 ·exact .inr (digC_dig 20 _ (by omega) d hd)
theorem itoaC_inj {a b:Int}(ha0: -9223372036854775808≤a)(ha1:a≤9223372036854775807)(hb0: -9223372036854775808≤b)(hb1:b≤9223372036854775807)(h:itoaC a=itoaC b):a=b:=by
 have neg:∀(u:Nat) (l:List UInt8),u<10^21→digC 20 u≠45::l:=fun u l hu e=>by
  have:=digC_dig 20 u hu 45 (by rw[e];simp);have h45:(45:UInt8).toNat=45:=rfl;omega
 unfold itoaC at h;split at h
 ·split at h
  ·injection h with _ h
   have:=digC_val 20 a.natAbs (by omega);rw[h,digC_val 20 b.natAbs (by omega)]at this;omega
  ·exact absurd h.symm (neg _ _ (by omega))
 ·split at h
  ·exact absurd h (neg _ _ (by omega))
  ·have:=digC_val 20 a.toNat (by omega);rw[h,digC_val 20 b.toNat (by omega)]at this;omega
theorem cut_at {x y r s:List UInt8}{c:UInt8}(hx:c∉x)(hy:c∉y)(h:x++c::r=y++c::s):x=y∧r=s:=by
 induction x generalizing y with
 |
  nil=>
  cases y with
  |nil=>simp at h;exact⟨rfl,h⟩
  |cons d y=>simp at h;exact absurd (by rw[h.1];simp) hy
 |
  cons a x ih=>
  cases y with
  |nil=>simp at h;exact absurd (by rw[h.1];simp) hx
  |
   cons d y=>
   simp at h;obtain⟨e1,e2⟩:=ih (fun q=>hx (List.mem_cons_of_mem _ q)) (fun q=>hy (List.mem_cons_of_mem _ q)) h.2;exact⟨by rw[h.1,e1],e2⟩
end Go.Ae
namespace Go.Proofs.YtiefabpageilbaaGreatDoor
open Go Go.Ae
def inlF (f:FuncId):Bool:=([112,113,47,361,27,28,156,157,160,161,162,48,46,49,51,52,53,198,165,168,212,213,216,289,72,78,79,80,81,83,84,85,86,87,88,217,221,224,231,270,271,272,273,241,123,125,129,131,132,133,135,137,279,311,18,174,320,298,184,301,295,244,297,338,246,337,326,363,284,327,239,285,286,321,325,328,238,319,398,41,355,253,180,183,64,24,251,179,405,458,362,182,31,397,33,399,249,359,242,416,252,347,427,330,90,449,349,303,396,290,442,304,395]:List Nat).contains f
def coldF (o:Oper):Bool:=
 match o.op with
 | .makeSlice t _ _=>t==227 && (o.dst==some 31||o.dst==some 32)
 | .buildSlice t n _=>(t==143 && n==0 && o.dst==some 35)||(t==27 && n==1 && o.dst==some 42)||(t==40 && n==1 && o.dst==some 39)
 | .slice t _ _ (some _) none=>(o.dst==some 22||o.dst==some 31) && (t==72||t==117||t==50||t==51)
 | .call {callee:= .builtin .append,argTypes,.. }=>o.dst==some 37 && argTypes.toList==[143,143]
 |_=>false
def extF (f:FuncId):Bool:=f==267||f==269
def clnF (f:FuncId):Option Nat:=if f=47 then some 1 else if f=48 then some 6 else if f=46 then some 3 else if f=49 then some 5 else if f=289 then some 5 else if f=184 then some 2 else none
def insF (f:FuncId):Option (Nat × Nat):=if f=83 then some (1,16)else if f=133 then some (6,80)else if f=80 then some (3,56)else if f=87 then some (5,64)else if f=33 then some (2,0)else none
def tabF (f:FuncId)(xs:List AV):Option AV:=
 if f=54 then(match xs with
  | [.sc (.int .i64 n)]=>if-9223372036854775808≤n∧n≤9223372036854775807 then some (.sc (.string ⟨(itoaC n).toArray⟩))else none
  |_=>none)
 else if f=313 then(match xs with
  | [.sc (.string a),.sc (.string b)]=>if a.size<4294967281 then some (.sc (.bool (Lib.contains a.data.toList b.data.toList)))else none
  |_=>none)
 else match clnF f,xs with
  |some sz,[.ls s [] _]=>if s=sz then some (.ls sz [] true)else none
  |_,_=>none
def isNf (f:FuncId):Bool:=([14]:List Nat).contains f
def isNw (f:FuncId):Bool:=([291,10,357,336,323]:List Nat).contains f
def kx (f:FuncId):Nat:=if([30,20]:List Nat).contains f then 5 else if([9,8,42,119,120,66,40,6]:List Nat).contains f then 2 else if([]:List Nat).contains f then 1 else if([]:List Nat).contains f then 8 else 0
def nfF (f:FuncId)(r:AV):AV:=if isNf f then nfR r else if isNw f then nfW r else nfX (kx f) r
def plainF (f:FuncId):Bool:= !(f==54||f==313||(clnF f).isSome||(insF f).isSome||(isNf f||isNw f)||kx f !=0)
def globF (g:Nat):Option (List Value):=if g=0 then some [.int .i64 0,.int .i64 1]else if g=1 then some pow10C else if g=4 then some [.tuple #[]]else none
theorem tab_none {f:FuncId}{args:List AV}(h:plainF f=true):tabF f args=none:=by
 simp only[plainF,Bool.not_eq_true',Bool.or_eq_false_iff,Option.isSome_eq_false_iff,Option.isNone_iff_eq_none,beq_eq_false_iff_ne]at h;unfold tabF;rw[if_neg h.1.1.1.1.1,if_neg h.1.1.1.1.2,h.1.1.1.2]
theorem ins_none {f:FuncId}(h:plainF f=true):insF f=none:=by
 simp only[plainF,Bool.not_eq_true',Bool.or_eq_false_iff,Option.isSome_eq_false_iff,Option.isNone_iff_eq_none,beq_eq_false_iff_ne]at h;exact h.1.1.2
theorem nf_none {f:FuncId}(h:plainF f=true)(r:AV):nfF f r=r:=by
 simp only[plainF,Bool.not_eq_true',Bool.or_eq_false_iff,Option.isSome_eq_false_iff,Option.isNone_iff_eq_none,bne_eq_false_iff_eq]at h;unfold nfF;rw[h.1.2.1,h.1.2.2,h.2];rfl
def tabOk (f:FuncId):Bool:= !(f==54||f==313||(clnF f).isSome)
theorem tab_none' {f:FuncId}{args:List AV}(h:tabOk f=true):tabF f args=none:=by
 simp only[tabOk,Bool.not_eq_true',Bool.or_eq_false_iff,Option.isSome_eq_false_iff,Option.isNone_iff_eq_none,beq_eq_false_iff_ne]at h;unfold tabF;rw[if_neg h.1.1,if_neg h.1.2,h.2]
@[simp] def mvF (t:TypeId):Option Nat:=none
attribute [simp] mvA mvB
def badF (f:FuncId):Bool:=([117,398]:List Nat).contains f
noncomputable def cx :Cx:={P:=Tryz.prog,T:=tiOf Tryz.prog,G:=globF,F:=fun f=>bif Nat.blt f 512 then(bif badF f then none else fiOf Tryz.prog f)else none,inl:=inlF,tab:=tabF,srt:=fun f=>if f=272 then some (311,9)else none,rcv:=fun f=>if f=51 then some 132 else none,cold:=coldF,ext:=extF,ins:=insF,nf:=nfF,thr:=fun f=>Nat.beq f 85,mv:=mvF,fuel:=1125899906842624}
theorem pure_at {f:FuncId}{args:List AV}{n:Nat}{r r':AV}{h':Hp}(fi:Fi)(hF:cx.F f=some fi)(hok:ok2 cx fi.body=true)(hs:cx.srt f=none)(hi:cx.inl f=false)(hl:args.length≤fi.ntmps)(hc:args.all calm=true)
 (hb:finX fi.res (exec2 cx (callN cx n) fi.body (args++List.replicate (fi.ntmps-args.length) .un,[]))=some (r,h')) (hr:snap h' 8 r=some r') (b:Bool) (h:Hp) (ht:plainF f=true:=by decide):callN cx (n+1) b f args h=some (r',h):=
 call_pure hs hi (tab_none ht) (nf_none ht _) hc (by rw[body1_of hF hok hl];exact hb) hr b h
theorem pure_calm {f:FuncId}{args:List AV}{n:Nat}{r:AV}(fi:Fi)(hF:cx.F f=some fi)(hok:ok2 cx fi.body=true)(hs:cx.srt f=none)(hi:cx.inl f=false)(hl:args.length≤fi.ntmps)(hc:args.all calm=true)(hr:calm r=true)
 (hb:(finX fi.res (exec2 cx (callN cx n) fi.body (args++List.replicate (fi.ntmps-args.length) .un,[]))).map Prod.fst=some r) (b:Bool) (h:Hp) (ht:plainF f=true:=by decide):callN cx (n+1) b f args h=some (r,h):=by
 simp only[Ze]at hb;obtain⟨⟨r0,h'⟩,hb,rfl⟩:=hb;exact pure_at fi hF hok hs hi hl hc hb (snap_of_calm (n:=6) hr) b h ht
theorem pure_ex {f:FuncId}{args:List AV}{n:Nat}(R:AV→Prop)(fi:Fi)(hF:cx.F f=some fi)(hok:ok2 cx fi.body=true)(hs:cx.srt f=none)(hi:cx.inl f=false)(hl:args.length≤fi.ntmps)(hc:args.all calm=true)
 (hb:∃r h',finX fi.res (exec2 cx (callN cx n) fi.body (args++List.replicate (fi.ntmps-args.length) .un,[]))=some (r,h')∧∃r',snap h' 8 r=some r'∧R r') (ht:plainF f=true:=by decide):∃r',R r'∧∀b h,callN cx (n+1) b f args h=some (r',h):=by
 obtain⟨r,h',hb,r',hr,hR⟩:=hb;exact⟨r',hR,fun b h=>pure_at fi hF hok hs hi hl hc hb hr b h ht⟩
theorem kx_call {f:FuncId}{args:List AV}{n:Nat}(r0:AV)(fi:Fi)(hF:cx.F f=some fi)(hok:ok2 cx fi.body=true)(hs:cx.srt f=none)(hi:cx.inl f=false)(hl:args.length≤fi.ntmps)(hc:args.all calm=true)
 (hb:∃r h',finX fi.res (exec2 cx (callN cx n) fi.body (args++List.replicate (fi.ntmps-args.length) .un,[]))=some (r,h')∧∃r',snap h' 8 r=some r'∧nfX (kx f) r'=r0) (ht:(tabOk f && !isNf f && !isNw f)=true:=by decide) (b:Bool) (h:Hp):callN cx (n+1) b f args h=some (r0,h):=by
 obtain⟨r,h',hb,r',hr,hR⟩:=hb;simp only[Zh,Bool.not_eq_true']at ht;have:=call_pureN (C:=cx) hs hi (tab_none' ht.1.1) hc (by rw[body1_of hF hok hl];exact hb) hr b h;rw[this];show some (nfF f r',h)=_;unfold nfF;rw[ht.1.2,ht.2];simp[hR]
@[simp] theorem cx_mv :cx.mv=mvF:=rfl
@[simp] theorem cx_cold :cx.cold=coldF:=rfl
@[simp] theorem cx_ext :cx.ext=extF:=rfl
@[simp] theorem T_int :cx.T 3=some {size:=1,agg:=false,zero:=[.int .i64 (0)],kd:= .prim}:=by kernel_rfl
@[simp] theorem T_bool :cx.T 4=some {size:=1,agg:=false,zero:=[.bool false],kd:= .prim}:=by kernel_rfl
@[simp] theorem T_string :cx.T 9=some {size:=1,agg:=false,zero:=[.string ⟨#[]⟩],kd:= .prim}:=by kernel_rfl
@[simp] theorem T___int :cx.T 227=some {size:=1,agg:=false,zero:=[.slice none 0 0],kd:= .slice 1 false 8 [.int .i64 (0)]}:=by kernel_rfl
@[simp] theorem T_api_Value :cx.T 38=some {size:=5,agg:=true,zero:=[.int .i64 (0),.int .i64 (0),.int .i64 (0),.string ⟨#[]⟩,.slice none 0 0],kd:= .struct [(0,1,false),(1,1,false),(2,1,false),(3,1,false),(4,1,false)]}:=by kernel_rfl
@[simp] theorem T___api_Value :cx.T 27=some {size:=1,agg:=false,zero:=[.slice none 0 0],kd:= .slice 5 true 64 [.int .i64 (0),.int .i64 (0),.int .i64 (0),.string ⟨#[]⟩,.slice none 0 0]}:=by kernel_rfl
@[simp] theorem T_api_Frac :cx.T 191=some {size:=2,agg:=true,zero:=[.int .i64 (0),.int .i64 (0)],kd:= .struct [(0,1,false),(1,1,false)]}:=by kernel_rfl
@[simp] theorem T_frac_wide :cx.T 276=some {size:=3,agg:=true,zero:=[.bool false,.int .u64 (0),.int .u64 (0)],kd:= .struct [(0,1,false),(1,1,false),(2,1,false)]}:=by kernel_rfl
@[simp] theorem T___string :cx.T 72=some {size:=1,agg:=false,zero:=[.slice none 0 0],kd:= .slice 1 false 16 [.string ⟨#[]⟩]}:=by kernel_rfl
@[simp] theorem T_int32 :cx.T 21=some {size:=1,agg:=false,zero:=[.int .i32 (0)],kd:= .prim}:=by kernel_rfl
@[simp] theorem T_uint64 :cx.T 184=some {size:=1,agg:=false,zero:=[.int .u64 (0)],kd:= .prim}:=by kernel_rfl
@[simp] theorem T_uint8 :cx.T 5=some {size:=1,agg:=false,zero:=[.int .u8 (0)],kd:= .prim}:=by kernel_rfl
@[simp] theorem U_int :cx.P.underlying 3=some (.int .i64):=by kernel_rfl
@[simp] theorem U_uint64 :cx.P.underlying 184=some (.int .u64):=by kernel_rfl
@[simp] theorem U_bool :cx.P.underlying 4=some .bool:=by kernel_rfl
@[simp] theorem S_string :isStr cx 9=true:=by kernel_rfl
@[simp] theorem L_ints :isSlT cx 227=true:=by kernel_rfl
@[simp] theorem L_values :isSlT cx 27=true:=by kernel_rfl
theorem fit_i64 {n:Int}(h1: -9223372036854775808≤n)(h2:n≤9223372036854775807):fitI .i64 n=n:=by
 show(if-9223372036854775808≤n∧n≤9223372036854775807 then n else IntKind.i64.wrap n)=n;rw[if_pos ⟨h1,h2⟩]
theorem fit_u64 {n:Int}(h1:0≤n)(h2:n≤18446744073709551615):fitI .u64 n=n:=by
 show(if 0≤n∧n≤18446744073709551615 then n else IntKind.u64.wrap n)=n;rw[if_pos ⟨h1,h2⟩]
@[simp] theorem cx_fuel :cx.fuel=1125899906842624:=rfl
end Go.Proofs.YtiefabpageilbaaGreatDoor
