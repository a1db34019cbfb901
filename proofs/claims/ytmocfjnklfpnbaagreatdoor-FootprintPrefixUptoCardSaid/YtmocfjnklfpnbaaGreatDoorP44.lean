/- 'slices.Clone' of an empty slice, nil or not: an empty slice without room. -/
import Derived.Test.YtmocfjnklfpnbaaGreatDoorP13
import Derived.Test.YtmocfjnklfpnbaaGreatDoorP43
set_option linter.all false
set_option maxRecDepth 100000
namespace Go.Proofs.YtmocfjnklfpnbaaGreatDoor
open Go Go.Ae
theorem clnString (base:Option Addr)(c:Nat)(w:World):Calls Tryz.prog 58 #[.slice base 0 c] w fun e w'=>∃a,e= .returned (.slice a 0 0)∧Step w none' w' none':=by
 obtain⟨e,ei,ht,hi,_⟩:∃e ei,Tryz.prog.underlying 47=some (.slice e)∧Tryz.prog.info? e=some ei∧True:=by
  obtain⟨i,hi⟩:∃i,tiOf Tryz.prog 47=some i∧(match i.kd with| .slice .. =>true|_=>false)=true:=by
   cases h:tiOf Tryz.prog 47 with
   |none=>exact absurd h (by
    have:(tiOf Tryz.prog 47).isSome=true:=by kernel_rfl
    intro h';rw[h']at this;cases this)
   |
    some i=>
    refine⟨i,rfl,?_⟩;have:(match tiOf Tryz.prog 47 with|some i=>(match i.kd with| .slice .. =>true|_=>false)|none=>false)=true:=by kernel_rfl
    rw[h]at this;exact this
  obtain⟨hi,hk⟩:=hi;obtain⟨d,info,z,h1,h2,h3,h4,h5,h6,h7,h8,h9⟩:=tiOf_spec hi;split at hk
  ·rename_i s ag b ez hkd;rw[hkd]at h4;obtain⟨e,ei,ed,z',rfl,k1,k2,k3,k4,k5,k6,k7,k8,k9,k10⟩:=kdOf_slice h4;exact⟨e,ei,h1,k1,trivial⟩
  ·cases hk
 have q22:∀(w:World) (a:Option Addr) (n c n' c':Nat),(binOp .eql 47 (.slice a n c) (.slice none n' c')).run Tryz.prog w= .ok (.bool a.isNone) w:=fun w a n c n' c'=>Lib.run_eql_slice_nil w _ _ a n c n' c' ht
 have u1:=run_underlying ht;have hse:∀w,(Go.sizeOf e).run Tryz.prog w= .ok ei.size w:=fun w=>run_size hi w
 go_enter Tryz.func58,Tryz.ntmps58
 cases base with
 |
  none=>
  go_wp2
  go_ret
  exact⟨_,rfl,Step.refl _ _⟩
 |
  some a=>
  go_wp2_with (at_builtin;refine Lib.wpList_append_run _ rfl _ _ _ _ rfl _ _ rfl rfl _ _ (append_zero ht hi _ _ 0 0 c (Nat.le_refl _) _) ?_)
  all_goals
   go_ret
   exact⟨_,rfl,alloc_quiet _ _⟩
theorem clnProp (base:Option Addr)(c:Nat)(w:World):Calls Tryz.prog 115 #[.slice base 0 c] w fun e w'=>∃a,e= .returned (.slice a 0 0)∧Step w none' w' none':=by
 obtain⟨e,ei,ht,hi,_⟩:∃e ei,Tryz.prog.underlying 67=some (.slice e)∧Tryz.prog.info? e=some ei∧True:=by
  obtain⟨i,hi⟩:∃i,tiOf Tryz.prog 67=some i∧(match i.kd with| .slice .. =>true|_=>false)=true:=by
   cases h:tiOf Tryz.prog 67 with
   |none=>exact absurd h (by
    have:(tiOf Tryz.prog 67).isSome=true:=by kernel_rfl
    intro h';rw[h']at this;cases this)
   |
    some i=>
    refine⟨i,rfl,?_⟩;have:(match tiOf Tryz.prog 67 with|some i=>(match i.kd with| .slice .. =>true|_=>false)|none=>false)=true:=by kernel_rfl
    rw[h]at this;exact this
  obtain⟨hi,hk⟩:=hi;obtain⟨d,info,z,h1,h2,h3,h4,h5,h6,h7,h8,h9⟩:=tiOf_spec hi;split at hk
  ·rename_i s ag b ez hkd;rw[hkd]at h4;obtain⟨e,ei,ed,z',rfl,k1,k2,k3,k4,k5,k6,k7,k8,k9,k10⟩:=kdOf_slice h4;exact⟨e,ei,h1,k1,trivial⟩
  ·cases hk
 have q22:∀(w:World) (a:Option Addr) (n c n' c':Nat),(binOp .eql 67 (.slice a n c) (.slice none n' c')).run Tryz.prog w= .ok (.bool a.isNone) w:=fun w a n c n' c'=>Lib.run_eql_slice_nil w _ _ a n c n' c' ht
 have u1:=run_underlying ht;have hse:∀w,(Go.sizeOf e).run Tryz.prog w= .ok ei.size w:=fun w=>run_size hi w
 go_enter Tryz.func115,Tryz.ntmps115
 cases base with
 |
  none=>
  go_wp2
  go_ret
  exact⟨_,rfl,Step.refl _ _⟩
 |
  some a=>
  go_wp2_with (at_builtin;refine Lib.wpList_append_run _ rfl _ _ _ _ rfl _ _ rfl rfl _ _ (append_zero ht hi _ _ 0 0 c (Nat.le_refl _) _) ?_)
  all_goals
   go_ret
   exact⟨_,rfl,alloc_quiet _ _⟩
theorem clnNode (base:Option Addr)(c:Nat)(w:World):Calls Tryz.prog 125 #[.slice base 0 c] w fun e w'=>∃a,e= .returned (.slice a 0 0)∧Step w none' w' none':=by
 obtain⟨e,ei,ht,hi,_⟩:∃e ei,Tryz.prog.underlying 70=some (.slice e)∧Tryz.prog.info? e=some ei∧True:=by
  obtain⟨i,hi⟩:∃i,tiOf Tryz.prog 70=some i∧(match i.kd with| .slice .. =>true|_=>false)=true:=by
   cases h:tiOf Tryz.prog 70 with
   |none=>exact absurd h (by
    have:(tiOf Tryz.prog 70).isSome=true:=by kernel_rfl
    intro h';rw[h']at this;cases this)
   |
    some i=>
    refine⟨i,rfl,?_⟩;have:(match tiOf Tryz.prog 70 with|some i=>(match i.kd with| .slice .. =>true|_=>false)|none=>false)=true:=by kernel_rfl
    rw[h]at this;exact this
  obtain⟨hi,hk⟩:=hi;obtain⟨d,info,z,h1,h2,h3,h4,h5,h6,h7,h8,h9⟩:=tiOf_spec hi;split at hk
  ·rename_i s ag b ez hkd;rw[hkd]at h4;obtain⟨e,ei,ed,z',rfl,k1,k2,k3,k4,k5,k6,k7,k8,k9,k10⟩:=kdOf_slice h4;exact⟨e,ei,h1,k1,trivial⟩
  ·cases hk
 have q22:∀(w:World) (a:Option Addr) (n c n' c':Nat),(binOp .eql 70 (.slice a n c) (.slice none n' c')).run Tryz.prog w= .ok (.bool a.isNone) w:=fun w a n c n' c'=>Lib.run_eql_slice_nil w _ _ a n c n' c' ht
 have u1:=run_underlying ht;have hse:∀w,(Go.sizeOf e).run Tryz.prog w= .ok ei.size w:=fun w=>run_size hi w
 go_enter Tryz.func125,Tryz.ntmps125
 cases base with
 |
  none=>
  go_wp2
  go_ret
  exact⟨_,rfl,Step.refl _ _⟩
 |
  some a=>
  go_wp2_with (at_builtin;refine Lib.wpList_append_run _ rfl _ _ _ _ rfl _ _ rfl rfl _ _ (append_zero ht hi _ _ 0 0 c (Nat.le_refl _) _) ?_)
  all_goals
   go_ret
   exact⟨_,rfl,alloc_quiet _ _⟩
theorem clnEdge (base:Option Addr)(c:Nat)(w:World):Calls Tryz.prog 126 #[.slice base 0 c] w fun e w'=>∃a,e= .returned (.slice a 0 0)∧Step w none' w' none':=by
 obtain⟨e,ei,ht,hi,_⟩:∃e ei,Tryz.prog.underlying 71=some (.slice e)∧Tryz.prog.info? e=some ei∧True:=by
  obtain⟨i,hi⟩:∃i,tiOf Tryz.prog 71=some i∧(match i.kd with| .slice .. =>true|_=>false)=true:=by
   cases h:tiOf Tryz.prog 71 with
   |none=>exact absurd h (by
    have:(tiOf Tryz.prog 71).isSome=true:=by kernel_rfl
    intro h';rw[h']at this;cases this)
   |
    some i=>
    refine⟨i,rfl,?_⟩;have:(match tiOf Tryz.prog 71 with|some i=>(match i.kd with| .slice .. =>true|_=>false)|none=>false)=true:=by kernel_rfl
    rw[h]at this;exact this
  obtain⟨hi,hk⟩:=hi;obtain⟨d,info,z,h1,h2,h3,h4,h5,h6,h7,h8,h9⟩:=tiOf_spec hi;split at hk
  ·rename_i s ag b ez hkd;rw[hkd]at h4;obtain⟨e,ei,ed,z',rfl,k1,k2,k3,k4,k5,k6,k7,k8,k9,k10⟩:=kdOf_slice h4;exact⟨e,ei,h1,k1,trivial⟩
  ·cases hk
 have q22:∀(w:World) (a:Option Addr) (n c n' c':Nat),(binOp .eql 71 (.slice a n c) (.slice none n' c')).run Tryz.prog w= .ok (.bool a.isNone) w:=fun w a n c n' c'=>Lib.run_eql_slice_nil w _ _ a n c n' c' ht
 have u1:=run_underlying ht;have hse:∀w,(Go.sizeOf e).run Tryz.prog w= .ok ei.size w:=fun w=>run_size hi w
 go_enter Tryz.func126,Tryz.ntmps126
 cases base with
 |
  none=>
  go_wp2
  go_ret
  exact⟨_,rfl,Step.refl _ _⟩
 |
  some a=>
  go_wp2_with (at_builtin;refine Lib.wpList_append_run _ rfl _ _ _ _ rfl _ _ rfl rfl _ _ (append_zero ht hi _ _ 0 0 c (Nat.le_refl _) _) ?_)
  all_goals
   go_ret
   exact⟨_,rfl,alloc_quiet _ _⟩
theorem clnValue (base:Option Addr)(c:Nat)(w:World):Calls Tryz.prog 173 #[.slice base 0 c] w fun e w'=>∃a,e= .returned (.slice a 0 0)∧Step w none' w' none':=by
 obtain⟨e,ei,ht,hi,_⟩:∃e ei,Tryz.prog.underlying 33=some (.slice e)∧Tryz.prog.info? e=some ei∧True:=by
  obtain⟨i,hi⟩:∃i,tiOf Tryz.prog 33=some i∧(match i.kd with| .slice .. =>true|_=>false)=true:=by
   cases h:tiOf Tryz.prog 33 with
   |none=>exact absurd h (by
    have:(tiOf Tryz.prog 33).isSome=true:=by kernel_rfl
    intro h';rw[h']at this;cases this)
   |
    some i=>
    refine⟨i,rfl,?_⟩;have:(match tiOf Tryz.prog 33 with|some i=>(match i.kd with| .slice .. =>true|_=>false)|none=>false)=true:=by kernel_rfl
    rw[h]at this;exact this
  obtain⟨hi,hk⟩:=hi;obtain⟨d,info,z,h1,h2,h3,h4,h5,h6,h7,h8,h9⟩:=tiOf_spec hi;split at hk
  ·rename_i s ag b ez hkd;rw[hkd]at h4;obtain⟨e,ei,ed,z',rfl,k1,k2,k3,k4,k5,k6,k7,k8,k9,k10⟩:=kdOf_slice h4;exact⟨e,ei,h1,k1,trivial⟩
  ·cases hk
 have q22:∀(w:World) (a:Option Addr) (n c n' c':Nat),(binOp .eql 33 (.slice a n c) (.slice none n' c')).run Tryz.prog w= .ok (.bool a.isNone) w:=fun w a n c n' c'=>Lib.run_eql_slice_nil w _ _ a n c n' c' ht
 have u1:=run_underlying ht;have hse:∀w,(Go.sizeOf e).run Tryz.prog w= .ok ei.size w:=fun w=>run_size hi w
 go_enter Tryz.func173,Tryz.ntmps173
 cases base with
 |
  none=>
  go_wp2
  go_ret
  exact⟨_,rfl,Step.refl _ _⟩
 |
  some a=>
  go_wp2_with (at_builtin;refine Lib.wpList_append_run _ rfl _ _ _ _ rfl _ _ rfl rfl _ _ (append_zero ht hi _ _ 0 0 c (Nat.le_refl _) _) ?_)
  all_goals
   go_ret
   exact⟨_,rfl,alloc_quiet _ _⟩
theorem cln_ok (f:FuncId)(sz:Nat)(hf:clnF f=some sz)(z z':Bool):PureOK cx f [.ls sz [] z] (.ls sz [] z'):=by
 intro w X vs hX hG hl hv;obtain⟨b,cap,hvs⟩:∃b cap,vs= #[.slice b 0 cap]:=by
  have hsz:vs.size=1:=hl;have h0:∃b cap,vs.getD 0 undef= .slice b 0 cap:=by
   rcases(hv 0 _ rfl).ls_cases with⟨_,b,cap,hq,_⟩|⟨b,o',cap,us,cur,t0,fz,hq,_⟩
   ·exact⟨_,_,hq⟩
   ·exact⟨_,_,hq⟩
  obtain⟨b,cap,h0⟩:=h0;refine⟨b,cap,?_⟩;apply Array.ext
  ·simpa using hsz
  ·intro i h1 h2;have hi:i=0:=by omega
   subst hi;simpa[h1,Zr]using h0
 subst hvs;have fin:∀{f:FuncId},Calls Tryz.prog f #[.slice b 0 cap] w (fun e w'=>∃a,e= .returned (.slice a 0 0)∧Step w none' w' none')→Calls cx.P f #[.slice b 0 cap] w (fun e w'=>∃v,e= .returned v∧Step w none' w' none'∧Ri w' X v (.ls sz [] z')):=
  fun h=>h.mono fun e w' ⟨a,he,hst⟩=>⟨_,he,hst,.le _ _ _ _ (by simp[maxLen]) (fun _=>rfl)⟩
 unfold clnF at hf;split at hf
 ·rename_i e;subst e;exact⟨⟨_,Tryz.func58,of_decide_eq_true (by kernel_rfl),by kernel_rfl⟩,fin (clnString b cap w)⟩
 split at hf
 ·rename_i e;subst e;exact⟨⟨_,Tryz.func115,of_decide_eq_true (by kernel_rfl),by kernel_rfl⟩,fin (clnProp b cap w)⟩
 split at hf
 ·rename_i e;subst e;exact⟨⟨_,Tryz.func125,of_decide_eq_true (by kernel_rfl),by kernel_rfl⟩,fin (clnNode b cap w)⟩
 split at hf
 ·rename_i e;subst e;exact⟨⟨_,Tryz.func126,of_decide_eq_true (by kernel_rfl),by kernel_rfl⟩,fin (clnEdge b cap w)⟩
 split at hf
 ·rename_i e;subst e;exact⟨⟨_,Tryz.func173,of_decide_eq_true (by kernel_rfl),by kernel_rfl⟩,fin (clnValue b cap w)⟩
 cases hf
end Go.Proofs.YtmocfjnklfpnbaaGreatDoor
namespace Go.Ae
set_option maxHeartbeats 4000000
open Go
def WE (P:Program)(F:FuncId)(T:TypeId):Prop:=∀(w:World) (base:Option Addr) (n cap vb vc:Nat) (r:Value) (W:World) (Q:Ending→World→Prop),n≤cap→cap≤9223372036854775807→n+1≤1000000000000000→
 (∀ty,(Builtin.append_ #[T,T] ty #[.slice base n cap,.slice (some ⟨vb,0,none⟩) 1 vc]).run P w= .ok r W)→Q (.returned r) W→Calls P F #[.slice base n cap,.int .i64 n,.slice (some ⟨vb,0,none⟩) 1 vc] w Q
def WS (P:Program)(F O:FuncId)(T:TypeId)(s:Nat):Prop:=∀(e:TypeId) (ei:TypeInfo) (w W:World) (b n cap i vb vc:Nat) (C:Array Value) (Q:Ending→World→Prop),P.underlying T=some (.slice e)→P.info? e=some ei→ei.size=s→(∀w,(Go.sizeOf e).run P w= .ok s w)→i<n→n+1≤cap→cap≤9223372036854775807→n+1≤1000000000000000→
 (∀lb cb,(callFunc O #[.slice (some ⟨vb,0,none⟩) 1 vc,.slice (some ⟨b,(i+1)*s,none⟩) lb cb]).run P w= .ok (.value (.bool false)) w)→
 (∀ty dc sc,(Builtin.copy_ #[T,T] ty #[.slice (some ⟨b,(i+1)*s,none⟩) (n-i) dc,.slice (some ⟨b,i*s,none⟩) (n+1-i) sc]).run P w.drew= .ok (.int .i64 (min (n+1-i) (n-i):Nat)) W)→
 (∀(W':World),W'.heap=W.heap→∀ty dc,(Builtin.copy_ #[T,T] ty #[.slice (some ⟨b,i*s,none⟩) (n+1-i) dc,.slice (some ⟨vb,0,none⟩) 1 vc]).run P W'= .ok (.int .i64 (min 1 (n+1-i):Nat)) (W'.setRow b C))→
 Q (.returned (.slice (some ⟨b,0,none⟩) (n+1) cap)) (W.setRow b C)→Calls P F #[.slice (some ⟨b,0,none⟩) n cap,.int .i64 i,.slice (some ⟨vb,0,none⟩) 1 vc] w Q
def WG (P:Program)(F:FuncId)(T I:TypeId)(s:Nat):Prop:=∀(e:TypeId) (ei:TypeInfo) (w W:World) (b B cap i vb vc G:Nat) (R S:Array Value) (Q:Ending→World→Prop),P.underlying T=some (.slice e)→P.info? e=some ei→ei.size=s→(∀w,(Go.sizeOf e).run P w= .ok s w)→i<cap→cap≤9223372036854775807→cap+1≤1000000000000000→cap+1≤G→G≤9223372036854775807→
 (∀ty,(Builtin.append_ #[T,I] ty #[.slice (some ⟨b,0,none⟩) i cap,.int .i64 ((cap:Int)+1-(i:Int))]).run P w= .ok (.slice (some ⟨B,0,none⟩) (cap+1) G) W)→
 (∀(W':World),W'.heap=W.heap→∀ty dc,(Builtin.copy_ #[T,T] ty #[.slice (some ⟨B,i*s,none⟩) (cap+1-i) dc,.slice (some ⟨vb,0,none⟩) 1 vc]).run P W'= .ok (.int .i64 (min 1 (cap+1-i):Nat)) (W'.setRow B R))→
 (∀(W':World),W'.heap=(W.setRow B R).heap→∀ty dc sc,(Builtin.copy_ #[T,T] ty #[.slice (some ⟨B,(i+1)*s,none⟩) (cap-i) dc,.slice (some ⟨b,i*s,none⟩) (cap-i) sc]).run P W'= .ok (.int .i64 (min (cap-i) (cap-i):Nat)) (W'.setRow B S))→
 (∀W':World,W'.os=W.os→W'.tape=W.tape→W'.output=W.output→W'.heap=((W.setRow B R).setRow B S).heap→W.drawn≤W'.drawn→Q (.returned (.slice (some ⟨B,0,none⟩) (cap+1) G)) W')→
 Calls P F #[.slice (some ⟨b,0,none⟩) cap cap,.int .i64 i,.slice (some ⟨vb,0,none⟩) 1 vc] w Q
theorem tyG {P:Program}{T:TypeId}{s B:Nat}(h:(match tiOf P T with|some i=>(match i.kd with| .slice s' _ b _=>s'==s && b==B|_=>false)|none=>false)=true):
 ∃e ei z,P.underlying T=some (.slice e)∧P.info? e=some ei∧ei.zero=some z∧ei.size=s∧ei.bytes=B∧z.cells.size=s∧(∀w,(Go.sizeOf e).run P w= .ok s w):=by
 cases hi:tiOf P T with
 |none=>rw[hi]at h;cases h
 |
  some i=>
  rw[hi]at h;obtain⟨d,info,z,h1,h2,h3,h4,h5,h6,h7,h8,h9⟩:=tiOf_spec hi;simp only at h;split at h
  ·rename_i s' ag b ez hkd;rw[hkd]at h4;obtain⟨e,ei,ed,z',rfl,k1,k2,k3,k4,k5,k6,k7,k8,k9,k10⟩:=kdOf_slice h4;simp only[Zh,beq_iff_eq]at h;obtain⟨rfl,rfl⟩:=h;refine⟨e,ei,z',h1,k1,k3,k4.symm,k6.symm,by rw[k9,k4],fun w=>?_⟩;rw[run_size k1,k4]
  ·cases h
theorem insAll {C:Cx}{F O:FuncId}{T I D:TypeId}{s B:Nat}(hs0:0<s)(hb0:0<B)
 (hT:(match tiOf C.P T with|some i=>(match i.kd with| .slice s' _ b _=>s'==s && b==B|_=>false)|none=>false)=true)
 (htn:C.P.underlying I=some (.int .i64)) (hfn:∃fn,C.P.funcs[F]?=some fn∧fn.name≠ "runtime.NumGoroutine" ∧fn.body.isSome=true)
 (hO:∀args w,(callFunc O args).run C.P w=((Extern.SlicesOverlaps.overlaps #[T,T] #[D] args).run C.P w).andThen fun v w'=> .ok (.value v) w')
 (hE:WE C.P F T) (hS:WS C.P F O T s) (hG:WG C.P F T I s):InsOK C F s B:=by
 refine⟨hs0,hb0,hfn,fun w base n cap i vb vc olds vs vcur vt vf ho hv hin hn hc hm hby o1 v1 hvb hvf hvc hb=>?_⟩;change Calls C.P F _ w (InsQ w base n cap i s olds vs);obtain⟨e,ei,z,ht,hi,hz,hs,hbs,hzs,hse⟩:=tyG hT;have hmx:cap≤9223372036854775807:=hc;have hvw:∀(j:Nat) (u:Value),vs[j]?=some u→w.cell? ⟨vb,0+j,none⟩=some u:=fun j u hj=>by rw[cell_at hvb,Nat.zero_add];exact hvc j u hj
 have hvw':∀(j:Nat) (u:Value),vs[j]?=some u→w.cell? ((⟨vb,0,none⟩:Addr).add j)=some u:=fun j u hj=>by rw[add_lit];exact hvw j u hj
 have hv1:vs.length=1*ei.size:=by omega
 by_cases he:i=n
 ·subst he;by_cases hroom:i+1≤cap
  ·rcases hb with⟨h0,h1⟩|⟨b,cur,t,fz,rfl,hne,hbw,hf,hcap,hcell⟩
   ·omega
   have hfit:i*s+vs.length≤cur.size:=by
    have:=Zx s hroom;rw[Nat.add_mul]at this;omega
   have hst:=run_storeCells_fz C.P b (i*s) t fz vs 0 cur w hbw (.inl hf.eq) (by omega) v1;exact hE w _ i cap vb vc _ (w.setRow b (putC cur (i*s) vs)) _ (by omega) hmx hm (fun ty=>append_room ht hi b 0 i cap 1 vc ⟨vb,0,none⟩ vs hv1 hvw' hroom (by rw[hs,Nat.zero_add];exact hst))
    (insQ_at (i:=i) hbw hf hcap hroom hc (setRow_heap w b cur _ t fz hbw) (putC_size hfit) rfl rfl rfl (by simp) (Nat.le_refl _) (fun k hk=>setRow_other w b k _ hk) (insQ_end ho.symm hfit hcell))
  ·have hcg:cap<i+1:=by omega
   have hsrc:Src C.P ei.size T (.slice (some ⟨vb,0,none⟩) 1 vc) 1 vs w:=Src.ofSlice w ht ⟨vb,0,none⟩ 1 vc vs hv1 hvw' v1;have hold:(Builtin.firstCells ei.size i (.slice base i cap)).run C.P w.drew= .ok olds.toArray w.drew:=by
    rcases hb with⟨h0,h1⟩|⟨b,cur,t,fz,rfl,hne,hbw,hf,hcap,hcell⟩
    ·subst h0;have:olds=[]:=Zl (by omega);subst this;cases base<;>simp[Builtin.firstCells,loadCells,loadCellsFrom]
    ·exact run_firstCells_some w.drew ei.size i ⟨b,0,none⟩ i cap olds (by rw[hs];exact ho) (fun j u hj=>by rw[add_lit,Nat.zero_add];exact(cell_at (w:=w.drew) hbw j).trans (hcell j u hj))
   have hge:=grownCap_ge w (i+1) cap e;have hle:=grownCap_le_maxLen w (i+1) cap e (by unfold maxLen;omega);have hrun:∀ty,(Builtin.append_ #[T,T] ty #[.slice base i cap,.slice (some ⟨vb,0,none⟩) 1 vc]).run C.P w=_:=fun ty=>
    run_append_grow_src w T T ty e ei z ht hi hz base i cap olds hold _ 1 vs hsrc hcg (by omega) (by rw[hbs];exact growslice_fits hcg hby)
   generalize grownCap w (i+1) cap e=G at hrun hge hle;have hsz:G*s=((olds++vs).toArray++Builtin.zeroCells z.cells (G-(i+1))).size:=by
    have h2:G=(i+1)+(G-(i+1)):=by omega
    have h3:G*s=(i+1)*s+(G-(i+1))*s:=by rw[←Nat.add_mul,←h2]
    have h4:=Nat.add_mul i 1 s;rw[Array.size_append,List.size_toArray,size_zeroCells,hzs,Zu];omega
   have hgc:∀(k:Nat) (u:Value),(olds.take (i*s)++vs++olds.drop (i*s))[k]?=some u→((olds++vs).toArray++Builtin.zeroCells z.cells (G-(i+1)))[k]?=some u:=fun k u hk=>by
    rw[←ho,List.take_length,Yd,Yk]at hk;rw[Array.getElem?_append_left (by simpa using(Za.1 hk).1),List.getElem?_toArray];exact hk
   exact hE w base i cap vb vc _ _ _ hn hmx hm hrun
    (insQ_new hsz hge hle (alloc_new w.drew _) rfl rfl rfl (by simp[World.alloc]) (Nat.le_succ _) (fun k hk=>by show(w.heap.push _)[k]?=_;simp[Array.getElem?_push,Nat.ne_of_lt hk]) hgc)
 rcases hb with⟨h0,h1⟩|⟨b,cur,t,fz,rfl,hne,hbw,hf,hcap,hcell⟩
 ·omega
 have hlt:i<n:=by omega
 have h10:=Zx s hlt;rw[Nat.succ_mul]at h10;have hdl:(olds.drop (i*s)).length=(n-i)*s:=by rw[List.length_drop,ho,Nat.sub_mul]
 have hdl':(olds.drop (i*s)).length=n*s-i*s:=by rw[List.length_drop,ho]
 have hvl:vcur.size≠0:=by
  have:=(Array.getElem?_eq_some_iff.1 (hvc 0 _ (Zb (by omega)))).1;omega
 have hmv:vs.length=min 1 (n+1-i)*ei.size:=by rw[Nat.min_eq_left (by omega)];omega
 have hi1:(i+1)*s=i*s+s:=Nat.succ_mul i s;by_cases hroom:n+1≤cap
 ·have h9:=Zx s hroom;rw[Nat.add_mul]at h9;have hmn:min (n+1-i) (n-i)=n-i:=by omega
  have hfit1:(i+1)*s+(olds.drop (i*s)).length≤cur.size:=by omega
  have hsz1:=putC_size hfit1;obtain⟨W1,hW1⟩:∃W1,W1=w.drew.setRow b (putC cur ((i+1)*s) (olds.drop (i*s))):=⟨_,rfl⟩;have hW1b:W1.heap[b]?=some (.cells (putC cur ((i+1)*s) (olds.drop (i*s))) t fz):=by rw[hW1];exact setRow_heap w.drew b cur _ t fz hbw
  have hW1v:W1.heap[vb]?=some (.cells vcur vt vf):=by rw[hW1,setRow_other w.drew b vb _ (fun h=>hne h.symm)];exact hvb
  refine hS e ei w W1 b n cap i vb vc (putC (putC cur ((i+1)*s) (olds.drop (i*s))) (i*s) vs) _ ht hi hs hse hlt hroom hmx hm (fun lb cb=>?_) (fun ty dc sc=>?_) (fun W hW ty dc=>?_) ?_
  ·rw[hO,Lib.run_overlaps_apart w T D e ht s hse ⟨vb,0,none⟩ ⟨b,(i+1)*s,none⟩ 1 vc lb cb (fun h=>hne h.symm) vt t vcur.size cur.size (by simp[World.shape?,hvb]) (by simp[World.shape?,hbw]) (by omega) (by simp[World.frozen?,hvb,hvf.eq]) (by simp[World.frozen?,hvb,hvf.eq])];rfl
  ·rw[hW1];exact run_copy_k w.drew T ty e ei ht hi b ((i+1)*s) _ dc b (i*s) _ sc (olds.drop (i*s)) (by rw[hs,hmn];exact hdl) (fun j u hj=>by
    rw[List.getElem?_drop]at hj;exact(cell_at (w:=w.drew) hbw _).trans (hcell _ u hj)) cur t fz hbw hf hfit1 (fun u hu=>o1 u (List.mem_of_mem_drop hu))
  ·exact run_copy_k W T ty e ei ht hi b (i*s) _ dc vb 0 1 vc vs hmv (fun j u hj=>by
    rw[Nat.zero_add];exact(cell_at (by rw[hW];exact hW1v) _).trans (hvc _ u hj)) _ t fz (by rw[hW];exact hW1b) (hf.imp (fun q=>q) fun q=>q.2.elim) (by rw[hsz1];omega) v1
  ·exact insQ_at hbw hf hcap hroom hc (setRow_heap W1 b _ _ t fz hW1b) (by rw[putC_size (by rw[hsz1];omega),hsz1]) (by rw[hW1];rfl) (by rw[hW1];rfl) (by rw[hW1];rfl) (by rw[hW1];simp) (by rw[hW1];exact Nat.le_succ _) (fun k hk=>by rw[setRow_other W1 b k _ hk,hW1,setRow_other w.drew b k _ hk];rfl)
    (insQ_shift (by omega) (by omega) (by omega) hcell)
 have hcn:cap=n:=by omega
 subst hcn;have hkk:(cap:Int)+1-(i:Int)=((cap+1-i:Nat):Int):=by omega
 have hik:i+(cap+1-i)=cap+1:=by omega
 have hold:(Builtin.firstCells ei.size i (.slice (some ⟨b,0,none⟩) i cap)).run C.P w.drew= .ok (olds.take (i*s)).toArray w.drew:=
  run_firstCells_some w.drew ei.size i ⟨b,0,none⟩ i cap (olds.take (i*s)) (by rw[List.length_take,hs,ho];omega) (fun j u hj=>by
   rw[add_lit,Nat.zero_add];rw[List.getElem?_take]at hj;split at hj
   ·exact(cell_at (w:=w.drew) hbw j).trans (hcell j u hj)
   ·cases hj)
 have hrz:∀ty,(Builtin.append_ #[T,I] ty #[.slice (some ⟨b,0,none⟩) i cap,.int .i64 ((cap:Int)+1-(i:Int))]).run C.P w=
  .ok (.slice (some ⟨w.heap.size,0,none⟩) (cap+1) (grownCap w (cap+1) cap e)) (w.drew.alloc (.cells ((olds.take (i*s)).toArray++Builtin.zeroCells z.cells (cap+1-i)++Builtin.zeroCells z.cells (grownCap w (cap+1) cap e-(cap+1))) e)):=fun ty=>by
  have h:=Lib.run_append_grow_zeros w T I ty e ei z .i64 .i64 ht htn hi hz (some ⟨b,0,none⟩) i cap (olds.take (i*s)) hold (cap+1-i) (by omega) (by omega) (by omega) (by omega) (by rw[hbs];have:=Zx B (show cap+1-i≤cap+1 by omega);omega) (by rw[hbs,hik];exact growslice_fits (by omega) hby);rw[hik]at h;rw[hkk];exact h
 have hge:=grownCap_ge w (cap+1) cap e;have hle:=grownCap_le_maxLen w (cap+1) cap e (by unfold maxLen;omega);generalize grownCap w (cap+1) cap e=G at hrz hge hle;obtain⟨ROW,hROW⟩:∃ROW:Array Value,ROW=(olds.take (i*s)).toArray++Builtin.zeroCells z.cells (cap+1-i)++Builtin.zeroCells z.cells (G-(cap+1)):=⟨_,rfl⟩;rw[←hROW]at hrz;have hRs:ROW.size=G*s:=by
  rw[hROW,Array.size_append,Array.size_append,List.size_toArray,size_zeroCells,size_zeroCells,hzs,List.length_take,ho];have e1:G=i+(cap+1-i)+(G-(cap+1)):=by omega
  have e2:G*s=i*s+(cap+1-i)*s+(G-(cap+1))*s:=by rw[←Nat.add_mul,←Nat.add_mul,←e1]
  omega
 have hRg:∀(k:Nat) (u:Value),k<i*s→olds[k]?=some u→ROW[k]?=some u:=fun k u hk hu=>by
  rw[hROW,Array.append_assoc,Array.getElem?_append_left (by simp;omega),List.getElem?_toArray,List.getElem?_take,if_pos hk];exact hu
 have hG1:=Zx s hge;rw[Nat.add_mul]at hG1;have hbl:=heap_lt hbw;have hvbl:=heap_lt hvb;obtain⟨W1,hW1⟩:∃W1,W1=w.drew.alloc (.cells ROW e):=⟨_,rfl⟩;have hW1n:W1.heap[w.heap.size]?=some (.cells ROW e (0,0)):=by rw[hW1];exact alloc_new w.drew _
 have hW1o:∀k,k<w.heap.size→W1.heap[k]?=w.heap[k]?:=fun k hk=>by rw[hW1];show(w.heap.push _)[k]?=_;simp[Array.getElem?_push,Nat.ne_of_lt hk]
 have hW1s:W1.heap.size=w.heap.size+1:=by rw[hW1];show(w.heap.push _).size=_;simp
 have hfit1:i*s+vs.length≤ROW.size:=by omega
 have hsz1:=putC_size hfit1;have hfit2:(i+1)*s+(olds.drop (i*s)).length≤(putC ROW (i*s) vs).size:=by omega
 have hsz2:=putC_size hfit2;have hR2:(W1.setRow w.heap.size (putC ROW (i*s) vs)).heap[w.heap.size]?=some (.cells (putC ROW (i*s) vs) e (0,0)):=setRow_heap W1 _ ROW _ e _ hW1n;refine hG e ei w W1 b w.heap.size cap i vb vc G (putC ROW (i*s) vs) (putC (putC ROW (i*s) vs) ((i+1)*s) (olds.drop (i*s))) _ ht hi hs hse hlt hmx hm hge hle (fun ty=>by rw[hW1];exact hrz ty) (fun W hW ty dc=>?_) (fun W hW ty dc sc=>?_) (fun W' h1 h2 h3 h4 h6=>?_)
 ·exact run_copy_k W T ty e ei ht hi w.heap.size (i*s) _ dc vb 0 1 vc vs hmv (fun j u hj=>by
   rw[Nat.zero_add];exact(cell_at (by rw[hW,hW1o _ hvbl];exact hvb) _).trans (hvc _ u hj)) _ e (0,0) (by rw[hW];exact hW1n) (.inl rfl) hfit1 v1
 ·exact run_copy_k W T ty e ei ht hi w.heap.size ((i+1)*s) _ dc b (i*s) _ sc (olds.drop (i*s)) (by rw[hs,Nat.min_self];exact hdl) (fun j u hj=>by
   rw[List.getElem?_drop]at hj;exact(cell_at (by rw[hW,setRow_other W1 _ b _ (Nat.ne_of_lt hbl),hW1o _ hbl];exact hbw) _).trans (hcell _ u hj)) _ e (0,0) (by rw[hW];exact hR2) (.inl rfl) hfit2 (fun u hu=>o1 u (List.mem_of_mem_drop hu))
 ·exact insQ_new (t:=e) (cur':=putC (putC ROW (i*s) vs) ((i+1)*s) (olds.drop (i*s))) (by omega) hge hle (by rw[h4];exact setRow_heap _ _ _ _ e _ hR2) (by rw[h1,hW1];rfl) (by rw[h2,hW1];rfl) (by rw[h3,hW1];rfl) (by rw[h4];simp;omega) (by rw[hW1]at h6;exact Yj (Nat.le_succ _) h6) (fun k hk=>by rw[h4,setRow_other _ _ k _ (Nat.ne_of_lt hk),setRow_other _ _ k _ (Nat.ne_of_lt hk)];exact hW1o k hk) (insQ_grow (by omega) (by omega) (by omega) hRg)
end Go.Ae
namespace Go.Proofs.YtmocfjnklfpnbaaGreatDoor
set_option maxHeartbeats 4000000
open Go Go.Ae
theorem insstring_e :WE Tryz.prog 189 47:=fun w base n cap vb vc r W Q hn hmx hm hrun fin=>by
 go_enter Tryz.func189,Tryz.ntmps189
 cases base with
 |
  none=>
  go_wp2_with (at_builtin;refine Lib.wpList_append_run _ rfl _ _ _ _ rfl _ _ rfl rfl _ _ (hrun _) ?_)
  all_goals exact fin
 |
  some a=>
  obtain⟨ab,ao,asp⟩:=a
  go_wp2_with (at_builtin;refine Lib.wpList_append_run _ rfl _ _ _ _ rfl _ _ rfl rfl _ _ (hrun _) ?_)
  all_goals exact fin
theorem insstring_s :WS Tryz.prog 189 253 47 1:=fun e ei w W b n cap i vb vc C Q ht hi hs hse hin hroom hmx hm hov hcp1 hcp2 fin=>by
 have hz2:¬((i:Int)=(n:Int)):=by omega
 have hw1:IntKind.i64.wrap ((i:Int)+1)=(i:Int)+1:=by rw[IntKind.wrap_i64];omega
 have hw2:IntKind.i64.wrap ((n:Int)+1)=(n:Int)+1:=by rw[IntKind.wrap_i64];omega
 have hb1:(0:Int)≤(i:Int)+1:=by omega
 have hii:i≤n:=by omega
 have htn:((i:Int)+1).toNat=i+1:=by omega
 have htn':((n:Int)+1).toNat=n+1:=by omega
 have hb2:¬(cap=i+1):=by omega
 have hb3:(i:Int)≤(n:Int)+1:=by omega
 have hb4:¬(cap=i):=by omega
 have u1:=run_underlying ht;have mixed:Tryz.prog.follows .mixedOrders=true:=by kernel_rfl
 go_enter Tryz.func189,Tryz.ntmps189
 simp only[Nat.mul_one]at hov hcp1 hcp2
 go_wp2_with (simp only[hov])
 go_region_law_o (refine step_copy_eq rfl _ _ 47 47 rfl _ _ (by simp[Act.eval,Act.put]) (by simp[Act.eval,Act.put]) (hcp1 _ _ _) ?_)
 go_wp2_with (at_builtin;refine wpList_copy_eq _ rfl _ _ 47 47 rfl _ _ rfl rfl (hcp2 _ rfl _ _) ?_)
 exact fin
theorem insstring_g :WG Tryz.prog 189 47 3 1:=fun e ei w W b B cap i vb vc G R S Q ht hi hs hse hin hmx hm hge hle' hrz hcpA hcpB fin=>by
 have hz2:¬((i:Int)=(cap:Int)):=by omega
 have hw1:IntKind.i64.wrap ((i:Int)+1)=(i:Int)+1:=by rw[IntKind.wrap_i64];omega
 have hw2:IntKind.i64.wrap ((cap:Int)+1)=(cap:Int)+1:=by rw[IntKind.wrap_i64];omega
 have hw3:IntKind.i64.wrap ((cap:Int)+1-(i:Int))=(cap:Int)+1-(i:Int):=by rw[IntKind.wrap_i64];omega
 have hb1:(0:Int)≤(i:Int)+1:=by omega
 have hii:i≤cap:=by omega
 have htn1:((i:Int)+1).toNat=i+1:=by omega
 have hb2:¬(cap=i):=by omega
 have hb3:(i:Int)≤(cap:Int):=by omega
 have hb4:¬(G=i):=by omega
 have hb5:¬(G=i+1):=by omega
 have hz3:(cap:Int)< (cap:Int)+1:=by omega
 have u1:=run_underlying ht;have mixed:Tryz.prog.follows .mixedOrders=true:=by kernel_rfl
 simp only[Nat.mul_one]at hcpA hcpB
 go_enter Tryz.func189,Tryz.ntmps189
 go_wp2_with (first
  |(at_builtin;refine Lib.wpList_append_run _ rfl _ _ _ _ rfl _ _ rfl rfl _ _ (hrz _) ?_)
  |(at_builtin;refine wpList_copy_eq _ rfl _ _ 47 47 rfl _ _ rfl rfl (hcpA _ rfl _ _) ?_))
 go_region_law_o (refine step_copy_eq rfl _ _ 47 47 rfl (.slice (some ⟨B,i+1,none⟩) (cap-i) (G-(i+1))) (.slice (some ⟨b,i,none⟩) (cap-i) (cap-i)) (by simp[Act.eval,Act.put]) (by simp[Act.eval,Act.put]) (hcpB ((W.setRow B R).drew) rfl 3 (G-(i+1)) (cap-i)) ?_)
 go_wp2
 exact fin _ rfl rfl rfl rfl (by first|exact Nat.le_refl _|exact Nat.le_succ _|(show W.drawn≤W.drawn+1+1;omega))
theorem insstring_ok :InsOK cx 189 1 16:=
 insAll (O:=253) (T:=47) (I:=3) (D:=4) (by omega) (by omega) (by kernel_rfl) (by kernel_rfl) ⟨_,Tryz.func189,of_decide_eq_true (by kernel_rfl),by kernel_rfl⟩
  (fun args w=>run_callFunc_extern Tryz.func253 (by kernel_rfl) (by kernel_rfl) (by kernel_rfl) (by kernel_rfl) args w) insstring_e insstring_s insstring_g
end Go.Proofs.YtmocfjnklfpnbaaGreatDoor
