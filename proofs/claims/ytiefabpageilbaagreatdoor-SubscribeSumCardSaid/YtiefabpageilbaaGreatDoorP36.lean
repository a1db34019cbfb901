/- 'slices.Insert': what its operations make of memory, at elements of whatever size. -/
import Derived.Test.YtiefabpageilbaaGreatDoorP14
import Derived.WalkKit
import Derived.Lib.Walk
import Derived.Lib.SliceRun
import Derived.Lib.AppendZerosOnto
import Derived.Lib.Overlaps
import Derived.Laws.Externs
import Derived.Laws.IdiomCopy
import Derived.Shelf.RegionOpenPlain
import Derived.Test.YtiefabpageilbaaGreatDoorP15
set_option linter.all false
set_option maxRecDepth 100000
namespace Go.Ae
open Go
def putC (cur:Array Value)(o:Nat)(vs:List Value):Array Value:=(cur.toList.take o++vs++cur.toList.drop (o+vs.length)).toArray
theorem putC_size {cur:Array Value}{o:Nat}{vs:List Value}(h:o+vs.length≤cur.size):(putC cur o vs).size=cur.size:=by simp[putC];omega
theorem putC_get {cur:Array Value}{o:Nat}{vs:List Value}(h:o+vs.length≤cur.size)(k:Nat):(putC cur o vs)[k]?=if o≤k∧k<o+vs.length then vs[k-o]? else cur[k]?:=by
 unfold putC;rw[List.getElem?_toArray];by_cases h1:k<o
 ·rw[Zp,Zd (by simp;omega),List.getElem?_take,if_pos h1,if_neg (by omega)];simp
 ·by_cases h2:k<o+vs.length
  ·rw[Zp,Zf (by simp;omega),Zd (by simp;omega),if_pos ⟨by omega,h2⟩]
   congr 1
   simp;omega
  ·rw[Zf (by simp;omega),List.getElem?_drop,if_neg (by omega)];rw[Array.getElem?_toList]
   congr 1
   simp;omega
theorem run_copy_k {P:Program}(W:World)(t ty e:TypeId)(ei:TypeInfo)(ht:P.underlying t=some (.slice e))(hi:P.info? e=some ei)(b off len dc sb so n sc:Nat)(vals:List Value)(hl:vals.length=min n len*ei.size)
 (hsrc:∀(j:Nat) (u:Value),vals[j]?=some u→W.cell? ⟨sb,so+j,none⟩=some u) (cur:Array Value) (t0:TypeId) (fz:Nat × Nat) (hb:W.heap[b]?=some (.cells cur t0 fz)) (hf:Fz fz cur) (hfit:off+vals.length≤cur.size) (h1:∀u∈vals,u.oneCell'=true):
 (Builtin.copy_ #[t,t] ty #[.slice (some ⟨b,off,none⟩) len dc,.slice (some ⟨sb,so,none⟩) n sc]).run P W= .ok (.int .i64 (min n len:Nat)) (W.setRow b (putC cur off vals)):=by
 have hst:=run_storeCells_fz P b off t0 fz vals 0 cur W hb (.inl hf.eq) (by omega) h1;have hf0:(Builtin.firstCells ei.size (min n len) (.slice (some ⟨sb,so,none⟩) n sc)).run P W= .ok vals.toArray W:=
  run_firstCells_some (P:=P) W ei.size (min n len) ⟨sb,so,none⟩ n sc vals hl (fun j u hj=>by rw[add_lit];exact hsrc j u hj)
 have hmin:Nat.min n len=min n len:=rfl;simp only[Nat.add_zero]at hst;simp[Builtin.copy_,run_underlying ht,Builtin.lenOf,sizeOf,typeInfo,hi,hmin,hf0,hst,goInt,putC]
def InsQ (w:World)(base:Option Addr)(n cap i sz:Nat)(olds vs:List Value)(e:Ending)(w':World):Prop:=
 ∃(B cap':Nat) (cur':Array Value) (t':TypeId) (fz':Nat × Nat),
  e= .returned (.slice (some ⟨B,0,none⟩) (n+1) cap')∧w'.heap[B]?=some (.cells cur' t' fz')∧Fz fz' cur'∧cap'*sz=cur'.size∧n+1≤cap'∧cap'≤maxLen∧
  (∀(k:Nat) (u:Value),(olds.take (i*sz)++vs++olds.drop (i*sz))[k]?=some u→cur'[k]?=some u)∧
  ((
   w.heap.size≤B∧fz'=(0,0)∧Step w none' w' none')∨(base=some ⟨B,0,none⟩∧0<cap∧w'.os=w.os∧w'.tape=w.tape∧w'.output=w.output∧w'.heap.size=w.heap.size∧w.drawn≤w'.drawn∧(∀b,b≠B→w'.heap[b]?=w.heap[b]?)∧
   ∀(cur:Array Value) (t:TypeId) (fz:Nat × Nat),w.heap[B]?=some (.cells cur t fz)→cur'.size=cur.size))
theorem take_drop_get {olds vs:List Value}{p k:Nat}(hp:p≤olds.length):(olds.take p++vs++olds.drop p)[k]?=if k<p then olds[k]? else if k<p+vs.length then vs[k-p]? else olds[k-vs.length]?:=by
 by_cases h1:k<p
 ·rw[Zp,Zd (by simp;omega),List.getElem?_take,if_pos h1,if_pos h1]
 ·by_cases h2:k<p+vs.length
  ·rw[Zp,Zf (by simp;omega),Zd (by simp;omega),if_neg h1,if_pos h2]
   congr 1
   simp;omega
  ·rw[Zf (by simp;omega),List.getElem?_drop,if_neg h1,if_neg h2]
   congr 1
   simp;omega
theorem insQ_at {w w':World}{b n cap i sz:Nat}{olds vs:List Value}{cur cur':Array Value}{t:TypeId}{fz:Nat × Nat}(hb:w.heap[b]?=some (.cells cur t fz))(hf:Fz fz cur)(hcap:cap*sz=cur.size)(hn:n+1≤cap)(hc:cap≤maxLen)
 (hw:w'.heap[b]?=some (.cells cur' t fz)) (hs:cur'.size=cur.size) (h1:w'.os=w.os) (h2:w'.tape=w.tape) (h3:w'.output=w.output) (h4:w'.heap.size=w.heap.size) (h6:w.drawn≤w'.drawn) (h5:∀k,k≠b→w'.heap[k]?=w.heap[k]?)
 (hg:∀(k:Nat) (u:Value),(olds.take (i*sz)++vs++olds.drop (i*sz))[k]?=some u→cur'[k]?=some u):InsQ w (some ⟨b,0,none⟩) n cap i sz olds vs (.returned (.slice (some ⟨b,0,none⟩) (n+1) cap)) w':=
 ⟨b,cap,cur',t,fz,rfl,hw,hf.imp (fun q=>q) (fun q=>by rw[hs];exact q),by omega,hn,hc,hg,.inr ⟨rfl,by omega,h1,h2,h3,h4,h6,h5,fun c tt ff hh=>by rw[hb]at hh;cases hh;exact hs⟩⟩
theorem insQ_new {w w':World}{base:Option Addr}{n cap cap' i sz:Nat}{olds vs:List Value}{cur':Array Value}{t:TypeId}(hcap:cap'*sz=cur'.size)(hn:n+1≤cap')(hc:cap'≤maxLen)
 (hw:w'.heap[w.heap.size]?=some (.cells cur' t (0,0))) (h1:w'.os=w.os) (h2:w'.tape=w.tape) (h3:w'.output=w.output) (h4:w.heap.size≤w'.heap.size) (h6:w.drawn≤w'.drawn) (h5:∀k,k<w.heap.size→w'.heap[k]?=w.heap[k]?)
 (hg:∀(k:Nat) (u:Value),(olds.take (i*sz)++vs++olds.drop (i*sz))[k]?=some u→cur'[k]?=some u):InsQ w base n cap i sz olds vs (.returned (.slice (some ⟨w.heap.size,0,none⟩) (n+1) cap')) w':=
 ⟨w.heap.size,cap',cur',t,(0,0),rfl,hw,.inl rfl,hcap,hn,hc,hg,.inl ⟨Nat.le_refl _,rfl,⟨h1,h2,h3,h4,fun b hb _=>h5 b hb,fun b c tt ff hb=>⟨c,tt,ff,(h5 b (heap_lt hb)).trans hb,rfl⟩,fun _ _ h=>h,h6⟩⟩⟩
theorem insQ_end {olds vs:List Value}{cur:Array Value}{p:Nat}(hp:p=olds.length)(hfit:p+vs.length≤cur.size)(ho:∀(k:Nat) (u:Value),olds[k]?=some u→cur[k]?=some u)(k:Nat)(u:Value)(h:(olds.take p++vs++olds.drop p)[k]?=some u):(putC cur p vs)[k]?=some u:=by
 rw[take_drop_get (by omega)]at h;rw[putC_get hfit];split at h
 ·rename_i h1;rw[if_neg (by omega)];exact ho k u h
 ·split at h
  ·rename_i h1 h2;rw[if_pos ⟨by omega,h2⟩];exact h
  ·rename_i h1 h2;rw[List.getElem?_eq_none (by omega)]at h;cases h
theorem insQ_shift {olds vs:List Value}{cur:Array Value}{p s:Nat}(hp:p≤olds.length)(hs:s=p+vs.length)(hfit:olds.length+vs.length≤cur.size)(ho:∀(k:Nat) (u:Value),olds[k]?=some u→cur[k]?=some u)(k:Nat)(u:Value)(h:(olds.take p++vs++olds.drop p)[k]?=some u):
 (putC (putC cur s (olds.drop p)) p vs)[k]?=some u:=by
 subst hs;have hd:(olds.drop p).length=olds.length-p:=by simp
 rw[take_drop_get hp]at h;rw[putC_get (by rw[putC_size (by omega)];omega),putC_get (by omega)];split at h
 ·rename_i h1;rw[if_neg (by omega),if_neg (by omega)];exact ho k u h
 ·split at h
  ·rename_i h1 h2;rw[if_pos ⟨by omega,h2⟩];exact h
  ·rename_i h1 h2;have hk:k-vs.length<olds.length:=(Za.1 h).1;rw[if_neg (by omega),if_pos ⟨by omega,by omega⟩,List.getElem?_drop,←h]
   congr 1
   omega
theorem insQ_grow {olds vs:List Value}{cur:Array Value}{p s:Nat}(hp:p≤olds.length)(hs:s=p+vs.length)(hfit:olds.length+vs.length≤cur.size)(ho:∀(k:Nat) (u:Value),k<p→olds[k]?=some u→cur[k]?=some u)(k:Nat)(u:Value)(h:(olds.take p++vs++olds.drop p)[k]?=some u):
 (putC (putC cur p vs) s (olds.drop p))[k]?=some u:=by
 subst hs;have hd:(olds.drop p).length=olds.length-p:=by simp
 rw[take_drop_get hp]at h;rw[putC_get (by rw[putC_size (by omega)];omega),putC_get (by omega)];split at h
 ·rename_i h1;rw[if_neg (by omega),if_neg (by omega)];exact ho k u h1 h
 ·split at h
  ·rename_i h1 h2;rw[if_neg (by omega),if_pos ⟨by omega,h2⟩];exact h
  ·rename_i h1 h2;have hk:k-vs.length<olds.length:=(Za.1 h).1;rw[if_pos ⟨by omega,by omega⟩,List.getElem?_drop,←h]
   congr 1
   omega
theorem wp_copy_eq {P:Program}(w:World){o:Oper}{a:Act}{K:Act→World→Prop}{Q:Exit→Act→World→Prop}(d s:Operand)(t t':TypeId)(ho:o.op= .call {callee:= .builtin .copy,args:= #[d,s],argTypes:= #[t,t']})(v u:Value)(hd:a.eval d=v)(hs:a.eval s=u){v':Value}{w':World}
 (hr:(Builtin.copy_ #[t,t'] o.type #[v,u]).run P w= .ok v' w') (h:K (a.put o.dst v') w'):o.wp P a w K Q:=by
 unfold Oper.wp execOp;simp only[ho,resolve,invoke,builtin,Sem.run_bind,Sem.run_pure,Result.andThen_ok,List.map_toArray,List.map_cons,List.map_nil,hd,hs,hr];exact h
theorem wpList_copy_eq {P:Program}(w:World){ops:Array Oper}{rest:List Oper}{o:Oper}{a:Act}{Q:Exit→Act→World→Prop}(hgd:o.guard=none)(d s:Operand)(t t':TypeId)(ho:o.op= .call {callee:= .builtin .copy,args:= #[d,s],argTypes:= #[t,t']})(v u:Value)(hd:a.eval d=v)(hs:a.eval s=u){v':Value}{w':World}
 (hr:(Builtin.copy_ #[t,t'] o.type #[v,u]).run P w= .ok v' w') (h:wpList P ops Q rest (a.put o.dst v') w'):wpList P ops Q (o::rest) a w:=
 wpList_plain hgd fun _ hK=>wp_copy_eq w d s t t' ho v u hd hs hr (hK _ _ h)
theorem step_copy_eq {P:Program}{ops:Array Oper}{o:Oper}{a:Act}{w:World}{K:Act→World→Prop}{Q:Exit→Act→World→Prop}{E:Prop}(hg:o.guard=none)(d x:Operand)(dT sT:TypeId)(hop:o.op=Op.call {callee:=Callee.builtin Builtin.copy,args:= #[d,x],argTypes:= #[dT,sT]})
 (v u:Value) (hd:a.eval d=v) (hx:a.eval x=u) {v':Value} {w':World} (hr:(Builtin.copy_ #[dT,sT] o.type #[v,u]).run P w= .ok v' w') (hK:K (a.put o.dst v') w'):if Region.wanted o (yielded ops a.tmps)=true then Oper.wp P o a w K Q else E:=by
 rw[if_pos (show Region.wanted o (yielded ops a.tmps)=true by simp[Region.wanted,hg])];exact wp_copy_eq w d x dT sT hop v u hd hx hr hK
end Go.Ae
namespace Go.Proofs.YtiefabpageilbaaGreatDoor
open Go Go.Ae
theorem clnString (base:Option Addr)(c:Nat)(w:World):Calls Tryz.prog 47 #[.slice base 0 c] w fun e w'=>∃a,e= .returned (.slice a 0 0)∧Step w none' w' none':=by
 obtain⟨e,ei,ht,hi,_⟩:∃e ei,Tryz.prog.underlying 72=some (.slice e)∧Tryz.prog.info? e=some ei∧True:=by
  obtain⟨i,hi⟩:∃i,tiOf Tryz.prog 72=some i∧(match i.kd with| .slice .. =>true|_=>false)=true:=by
   cases h:tiOf Tryz.prog 72 with
   |none=>exact absurd h (by
    have:(tiOf Tryz.prog 72).isSome=true:=by kernel_rfl
    intro h';rw[h']at this;cases this)
   |
    some i=>
    refine⟨i,rfl,?_⟩;have:(match tiOf Tryz.prog 72 with|some i=>(match i.kd with| .slice .. =>true|_=>false)|none=>false)=true:=by kernel_rfl
    rw[h]at this;exact this
  obtain⟨hi,hk⟩:=hi;obtain⟨d,info,z,h1,h2,h3,h4,h5,h6,h7,h8,h9⟩:=tiOf_spec hi;split at hk
  ·rename_i s ag b ez hkd;rw[hkd]at h4;obtain⟨e,ei,ed,z',rfl,k1,k2,k3,k4,k5,k6,k7,k8,k9,k10⟩:=kdOf_slice h4;exact⟨e,ei,h1,k1,trivial⟩
  ·cases hk
 have q22:∀(w:World) (a:Option Addr) (n c n' c':Nat),(binOp .eql 72 (.slice a n c) (.slice none n' c')).run Tryz.prog w= .ok (.bool a.isNone) w:=fun w a n c n' c'=>Lib.run_eql_slice_nil w _ _ a n c n' c' ht
 have u1:=run_underlying ht;have hse:∀w,(Go.sizeOf e).run Tryz.prog w= .ok ei.size w:=fun w=>run_size hi w
 go_enter Tryz.func47,Tryz.ntmps47
 cases base with
 |
  none=>
  go_wp2
  go_ret
  exact⟨_,rfl,Step.refl _ _⟩
 |
  some a=>
  go_wp2_with (at_builtin;refine Lib.wpList_append_run _ rfl _ _ _ _ rfl _ _ rfl rfl _ _ (append_zero ht hi _ _ 0 0 c (Nat.le_refl _) _) ?_)
  all_goals
   go_ret
   exact⟨_,rfl,alloc_quiet _ _⟩
theorem clnProp (base:Option Addr)(c:Nat)(w:World):Calls Tryz.prog 48 #[.slice base 0 c] w fun e w'=>∃a,e= .returned (.slice a 0 0)∧Step w none' w' none':=by
 obtain⟨e,ei,ht,hi,_⟩:∃e ei,Tryz.prog.underlying 117=some (.slice e)∧Tryz.prog.info? e=some ei∧True:=by
  obtain⟨i,hi⟩:∃i,tiOf Tryz.prog 117=some i∧(match i.kd with| .slice .. =>true|_=>false)=true:=by
   cases h:tiOf Tryz.prog 117 with
   |none=>exact absurd h (by
    have:(tiOf Tryz.prog 117).isSome=true:=by kernel_rfl
    intro h';rw[h']at this;cases this)
   |
    some i=>
    refine⟨i,rfl,?_⟩;have:(match tiOf Tryz.prog 117 with|some i=>(match i.kd with| .slice .. =>true|_=>false)|none=>false)=true:=by kernel_rfl
    rw[h]at this;exact this
  obtain⟨hi,hk⟩:=hi;obtain⟨d,info,z,h1,h2,h3,h4,h5,h6,h7,h8,h9⟩:=tiOf_spec hi;split at hk
  ·rename_i s ag b ez hkd;rw[hkd]at h4;obtain⟨e,ei,ed,z',rfl,k1,k2,k3,k4,k5,k6,k7,k8,k9,k10⟩:=kdOf_slice h4;exact⟨e,ei,h1,k1,trivial⟩
  ·cases hk
 have q22:∀(w:World) (a:Option Addr) (n c n' c':Nat),(binOp .eql 117 (.slice a n c) (.slice none n' c')).run Tryz.prog w= .ok (.bool a.isNone) w:=fun w a n c n' c'=>Lib.run_eql_slice_nil w _ _ a n c n' c' ht
 have u1:=run_underlying ht;have hse:∀w,(Go.sizeOf e).run Tryz.prog w= .ok ei.size w:=fun w=>run_size hi w
 go_enter Tryz.func48,Tryz.ntmps48
 cases base with
 |
  none=>
  go_wp2
  go_ret
  exact⟨_,rfl,Step.refl _ _⟩
 |
  some a=>
  go_wp2_with (at_builtin;refine Lib.wpList_append_run _ rfl _ _ _ _ rfl _ _ rfl rfl _ _ (append_zero ht hi _ _ 0 0 c (Nat.le_refl _) _) ?_)
  all_goals
   go_ret
   exact⟨_,rfl,alloc_quiet _ _⟩
theorem clnNode (base:Option Addr)(c:Nat)(w:World):Calls Tryz.prog 46 #[.slice base 0 c] w fun e w'=>∃a,e= .returned (.slice a 0 0)∧Step w none' w' none':=by
 obtain⟨e,ei,ht,hi,_⟩:∃e ei,Tryz.prog.underlying 50=some (.slice e)∧Tryz.prog.info? e=some ei∧True:=by
  obtain⟨i,hi⟩:∃i,tiOf Tryz.prog 50=some i∧(match i.kd with| .slice .. =>true|_=>false)=true:=by
   cases h:tiOf Tryz.prog 50 with
   |none=>exact absurd h (by
    have:(tiOf Tryz.prog 50).isSome=true:=by kernel_rfl
    intro h';rw[h']at this;cases this)
   |
    some i=>
    refine⟨i,rfl,?_⟩;have:(match tiOf Tryz.prog 50 with|some i=>(match i.kd with| .slice .. =>true|_=>false)|none=>false)=true:=by kernel_rfl
    rw[h]at this;exact this
  obtain⟨hi,hk⟩:=hi;obtain⟨d,info,z,h1,h2,h3,h4,h5,h6,h7,h8,h9⟩:=tiOf_spec hi;split at hk
  ·rename_i s ag b ez hkd;rw[hkd]at h4;obtain⟨e,ei,ed,z',rfl,k1,k2,k3,k4,k5,k6,k7,k8,k9,k10⟩:=kdOf_slice h4;exact⟨e,ei,h1,k1,trivial⟩
  ·cases hk
 have q22:∀(w:World) (a:Option Addr) (n c n' c':Nat),(binOp .eql 50 (.slice a n c) (.slice none n' c')).run Tryz.prog w= .ok (.bool a.isNone) w:=fun w a n c n' c'=>Lib.run_eql_slice_nil w _ _ a n c n' c' ht
 have u1:=run_underlying ht;have hse:∀w,(Go.sizeOf e).run Tryz.prog w= .ok ei.size w:=fun w=>run_size hi w
 go_enter Tryz.func46,Tryz.ntmps46
 cases base with
 |
  none=>
  go_wp2
  go_ret
  exact⟨_,rfl,Step.refl _ _⟩
 |
  some a=>
  go_wp2_with (at_builtin;refine Lib.wpList_append_run _ rfl _ _ _ _ rfl _ _ rfl rfl _ _ (append_zero ht hi _ _ 0 0 c (Nat.le_refl _) _) ?_)
  all_goals
   go_ret
   exact⟨_,rfl,alloc_quiet _ _⟩
theorem clnEdge (base:Option Addr)(c:Nat)(w:World):Calls Tryz.prog 49 #[.slice base 0 c] w fun e w'=>∃a,e= .returned (.slice a 0 0)∧Step w none' w' none':=by
 obtain⟨e,ei,ht,hi,_⟩:∃e ei,Tryz.prog.underlying 51=some (.slice e)∧Tryz.prog.info? e=some ei∧True:=by
  obtain⟨i,hi⟩:∃i,tiOf Tryz.prog 51=some i∧(match i.kd with| .slice .. =>true|_=>false)=true:=by
   cases h:tiOf Tryz.prog 51 with
   |none=>exact absurd h (by
    have:(tiOf Tryz.prog 51).isSome=true:=by kernel_rfl
    intro h';rw[h']at this;cases this)
   |
    some i=>
    refine⟨i,rfl,?_⟩;have:(match tiOf Tryz.prog 51 with|some i=>(match i.kd with| .slice .. =>true|_=>false)|none=>false)=true:=by kernel_rfl
    rw[h]at this;exact this
  obtain⟨hi,hk⟩:=hi;obtain⟨d,info,z,h1,h2,h3,h4,h5,h6,h7,h8,h9⟩:=tiOf_spec hi;split at hk
  ·rename_i s ag b ez hkd;rw[hkd]at h4;obtain⟨e,ei,ed,z',rfl,k1,k2,k3,k4,k5,k6,k7,k8,k9,k10⟩:=kdOf_slice h4;exact⟨e,ei,h1,k1,trivial⟩
  ·cases hk
 have q22:∀(w:World) (a:Option Addr) (n c n' c':Nat),(binOp .eql 51 (.slice a n c) (.slice none n' c')).run Tryz.prog w= .ok (.bool a.isNone) w:=fun w a n c n' c'=>Lib.run_eql_slice_nil w _ _ a n c n' c' ht
 have u1:=run_underlying ht;have hse:∀w,(Go.sizeOf e).run Tryz.prog w= .ok ei.size w:=fun w=>run_size hi w
 go_enter Tryz.func49,Tryz.ntmps49
 cases base with
 |
  none=>
  go_wp2
  go_ret
  exact⟨_,rfl,Step.refl _ _⟩
 |
  some a=>
  go_wp2_with (at_builtin;refine Lib.wpList_append_run _ rfl _ _ _ _ rfl _ _ rfl rfl _ _ (append_zero ht hi _ _ 0 0 c (Nat.le_refl _) _) ?_)
  all_goals
   go_ret
   exact⟨_,rfl,alloc_quiet _ _⟩
theorem clnValue (base:Option Addr)(c:Nat)(w:World):Calls Tryz.prog 289 #[.slice base 0 c] w fun e w'=>∃a,e= .returned (.slice a 0 0)∧Step w none' w' none':=by
 obtain⟨e,ei,ht,hi,_⟩:∃e ei,Tryz.prog.underlying 27=some (.slice e)∧Tryz.prog.info? e=some ei∧True:=by
  obtain⟨i,hi⟩:∃i,tiOf Tryz.prog 27=some i∧(match i.kd with| .slice .. =>true|_=>false)=true:=by
   cases h:tiOf Tryz.prog 27 with
   |none=>exact absurd h (by
    have:(tiOf Tryz.prog 27).isSome=true:=by kernel_rfl
    intro h';rw[h']at this;cases this)
   |
    some i=>
    refine⟨i,rfl,?_⟩;have:(match tiOf Tryz.prog 27 with|some i=>(match i.kd with| .slice .. =>true|_=>false)|none=>false)=true:=by kernel_rfl
    rw[h]at this;exact this
  obtain⟨hi,hk⟩:=hi;obtain⟨d,info,z,h1,h2,h3,h4,h5,h6,h7,h8,h9⟩:=tiOf_spec hi;split at hk
  ·rename_i s ag b ez hkd;rw[hkd]at h4;obtain⟨e,ei,ed,z',rfl,k1,k2,k3,k4,k5,k6,k7,k8,k9,k10⟩:=kdOf_slice h4;exact⟨e,ei,h1,k1,trivial⟩
  ·cases hk
 have q22:∀(w:World) (a:Option Addr) (n c n' c':Nat),(binOp .eql 27 (.slice a n c) (.slice none n' c')).run Tryz.prog w= .ok (.bool a.isNone) w:=fun w a n c n' c'=>Lib.run_eql_slice_nil w _ _ a n c n' c' ht
 have u1:=run_underlying ht;have hse:∀w,(Go.sizeOf e).run Tryz.prog w= .ok ei.size w:=fun w=>run_size hi w
 go_enter Tryz.func289,Tryz.ntmps289
 cases base with
 |
  none=>
  go_wp2
  go_ret
  exact⟨_,rfl,Step.refl _ _⟩
 |
  some a=>
  go_wp2_with (at_builtin;refine Lib.wpList_append_run _ rfl _ _ _ _ rfl _ _ rfl rfl _ _ (append_zero ht hi _ _ 0 0 c (Nat.le_refl _) _) ?_)
  all_goals
   go_ret
   exact⟨_,rfl,alloc_quiet _ _⟩
theorem clnSigned (base:Option Addr)(c:Nat)(w:World):Calls Tryz.prog 184 #[.slice base 0 c] w fun e w'=>∃a,e= .returned (.slice a 0 0)∧Step w none' w' none':=by
 obtain⟨e,ei,ht,hi,_⟩:∃e ei,Tryz.prog.underlying 24=some (.slice e)∧Tryz.prog.info? e=some ei∧True:=by
  obtain⟨i,hi⟩:∃i,tiOf Tryz.prog 24=some i∧(match i.kd with| .slice .. =>true|_=>false)=true:=by
   cases h:tiOf Tryz.prog 24 with
   |none=>exact absurd h (by
    have:(tiOf Tryz.prog 24).isSome=true:=by kernel_rfl
    intro h';rw[h']at this;cases this)
   |
    some i=>
    refine⟨i,rfl,?_⟩;have:(match tiOf Tryz.prog 24 with|some i=>(match i.kd with| .slice .. =>true|_=>false)|none=>false)=true:=by kernel_rfl
    rw[h]at this;exact this
  obtain⟨hi,hk⟩:=hi;obtain⟨d,info,z,h1,h2,h3,h4,h5,h6,h7,h8,h9⟩:=tiOf_spec hi;split at hk
  ·rename_i s ag b ez hkd;rw[hkd]at h4;obtain⟨e,ei,ed,z',rfl,k1,k2,k3,k4,k5,k6,k7,k8,k9,k10⟩:=kdOf_slice h4;exact⟨e,ei,h1,k1,trivial⟩
  ·cases hk
 have q22:∀(w:World) (a:Option Addr) (n c n' c':Nat),(binOp .eql 24 (.slice a n c) (.slice none n' c')).run Tryz.prog w= .ok (.bool a.isNone) w:=fun w a n c n' c'=>Lib.run_eql_slice_nil w _ _ a n c n' c' ht
 have u1:=run_underlying ht;have hse:∀w,(Go.sizeOf e).run Tryz.prog w= .ok ei.size w:=fun w=>run_size hi w
 go_enter Tryz.func184,Tryz.ntmps184
 cases base with
 |
  none=>
  go_wp2
  go_ret
  exact⟨_,rfl,Step.refl _ _⟩
 |
  some a=>
  go_wp2_with (at_builtin;refine Lib.wpList_append_run _ rfl _ _ _ _ rfl _ _ rfl rfl _ _ (append_zero ht hi _ _ 0 0 c (Nat.le_refl _) _) ?_)
  all_goals
   go_ret
   exact⟨_,rfl,alloc_quiet _ _⟩
theorem cln_ok (f:FuncId)(sz:Nat)(hf:clnF f=some sz)(z:Bool):PureOK cx f [.ls sz [] z] (.ls sz [] true):=by
 intro w X vs hX hG hl hv;obtain⟨b,cap,hvs⟩:∃b cap,vs= #[.slice b 0 cap]:=by
  have hsz:vs.size=1:=hl;have h0:∃b cap,vs.getD 0 undef= .slice b 0 cap:=by
   rcases(hv 0 _ rfl).ls_cases with⟨_,b,cap,hq,_⟩|⟨b,o',cap,us,cur,t0,fz,hq,_⟩
   ·exact⟨_,_,hq⟩
   ·exact⟨_,_,hq⟩
  obtain⟨b,cap,h0⟩:=h0;refine⟨b,cap,?_⟩;apply Array.ext
  ·simpa using hsz
  ·intro i h1 h2;have hi:i=0:=by omega
   subst hi;simpa[h1,Zr]using h0
 subst hvs;have fin:∀{f:FuncId},Calls Tryz.prog f #[.slice b 0 cap] w (fun e w'=>∃a,e= .returned (.slice a 0 0)∧Step w none' w' none')→Calls cx.P f #[.slice b 0 cap] w (fun e w'=>∃v,e= .returned v∧Step w none' w' none'∧Ri w' X v (.ls sz [] true)):=
  fun h=>h.mono fun e w' ⟨a,he,hst⟩=>⟨_,he,hst,.le _ _ _ _ (by simp[maxLen]) (fun _=>rfl)⟩
 unfold clnF at hf;split at hf
 ·rename_i e;subst e;exact⟨⟨_,Tryz.func47,of_decide_eq_true (by kernel_rfl),by kernel_rfl⟩,fin (clnString b cap w)⟩
 split at hf
 ·rename_i e;subst e;exact⟨⟨_,Tryz.func48,of_decide_eq_true (by kernel_rfl),by kernel_rfl⟩,fin (clnProp b cap w)⟩
 split at hf
 ·rename_i e;subst e;exact⟨⟨_,Tryz.func46,of_decide_eq_true (by kernel_rfl),by kernel_rfl⟩,fin (clnNode b cap w)⟩
 split at hf
 ·rename_i e;subst e;exact⟨⟨_,Tryz.func49,of_decide_eq_true (by kernel_rfl),by kernel_rfl⟩,fin (clnEdge b cap w)⟩
 split at hf
 ·rename_i e;subst e;exact⟨⟨_,Tryz.func289,of_decide_eq_true (by kernel_rfl),by kernel_rfl⟩,fin (clnValue b cap w)⟩
 split at hf
 ·rename_i e;subst e;exact⟨⟨_,Tryz.func184,of_decide_eq_true (by kernel_rfl),by kernel_rfl⟩,fin (clnSigned b cap w)⟩
 cases hf
end Go.Proofs.YtiefabpageilbaaGreatDoor
