/- The closure that turns a panic of its own type into a result. -/
import Derived.Test.YtiefabpageilbaaGreatDoorP15
import Derived.Recover
import Derived.WalkKit
import Derived.Test.YtiefabpageilbaaGreatDoorTab
import Derived.Test.YtiefabpageilbaaGreatDoorP12
set_option linter.all false
set_option maxRecDepth 100000
namespace Go.Proofs.YtiefabpageilbaaGreatDoor
open Go Go.Ae
theorem rcv_idle (w:World)(p:Nat):CallsD Tryz.prog 51 #[.pointer (some ⟨p,0,none⟩)] .returning w fun e u' w'=>(∃v,e= .returned v)∧u'= .returning∧w'=w:=by
 refine callsD_of_wpS Tryz.func51 rfl fun c₀ cs hu=>?_
 apply wpS_seq;apply wpS_region;simp[wpOpsS,go_sem,recoverD,hu,Tryz.ntmps51,Exit.thenS];apply wpS_seq;apply wpS_region;simp[wpOpsS,go_sem,Exit.thenS];refine wpS_cond (t:=false) (by simp[Act.eval,Array.replicate]) ?_;simp only[Yg,if_false];refine wpS_of_wp (wp_skip ?_);cases c₀
 simp_all [bodyPostS,results,Tryz.results51,Exit.thenS]
theorem as_own (v:Value)(w:World):(Instr.typeAssert (.iface 132 v) 20 132 true).run Tryz.prog w= .ok (.tuple #[v,.bool true]) w:=by kernel_rfl
theorem fro_own (w:World)(p:Nat)(cur:Array Value)(t:TypeId)(fz:Nat × Nat)(hc:w.heap[p]?=some (.cells cur t fz))(hf:Fz fz cur)(h0:0<cur.size):w.frozen? ⟨p,0,none⟩=false:=by
 rcases hf with rfl|hf
 ·simp[World.frozen?,hc]
 ·obtain⟨lo,hi'⟩:=fz;simp only[World.frozen?,hc,Bool.and_eq_false_iff,decide_eq_false_iff_not];left;simp only at hf;omega
set_option maxHeartbeats 1000000 in
theorem rcv_turn (w:World)(p:Nat)(cur:Array Value)(t:TypeId)(fz:Nat × Nat)(hc:w.heap[p]?=some (.cells cur t fz))(hf:Fz fz cur)(h0:0<cur.size)(k:IntKind)(n:Int):
 CallsD Tryz.prog 51 #[.pointer (some ⟨p,0,none⟩)] (.panicking [{v:= .iface 132 (.int k n),recovered:=false}]) w
  (fun e u' w'=>(∃v,e= .returned v)∧u'= .panicking [{v:= .iface 132 (.int k n),recovered:=true}]∧w'=w.setRow p (cur.setIfInBounds 0 (.int k n))):=by
 have hcell:w.cell? ⟨p,0,none⟩=some cur[0]:=by simp[World.cell?,hc,h0]
 have hfro:=fro_own w p cur t fz hc hf h0;have hset:=setCell_eq_setRow w p 0 cur t fz (.int k n) hc;refine callsD_of_wpS Tryz.func51 rfl fun c₀ cs hu=>?_
 rw[show #[Value.pointer (some ⟨p,0,none⟩)]++Array.replicate (Tryz.f51.ntmps- #[Value.pointer (some ⟨p,0,none⟩)].size) undef= #[.pointer (some ⟨p,0,none⟩),undef,undef,undef,undef,undef,undef,undef,undef,undef,undef,undef,undef,undef,undef]from rfl];apply wpS_seq;apply wpS_region;simp[wpOpsS,go_sem,recoverD,hu,Exit.thenS];apply wpS_seq;apply wpS_region;simp[wpOpsS,go_sem,Exit.thenS];refine wpS_cond (t:=true) rfl ?_;simp only[if_true];apply wpS_seq;apply wpS_seq;apply wpS_region;simp[wpOpsS,go_sem,as_own,Exit.thenS];apply wpS_seq;apply wpS_region;simp[wpOpsS,go_sem,Exit.thenS];refine wpS_cond (t:=true) rfl ?_;simp only[if_true];apply wpS_seq;apply wpS_region;simp[wpOpsS,go_sem,hcell,hfro,hset,Exit.thenS];refine wpS_of_wp (wp_ret ?_);cases c₀
 simp_all [bodyPostS,results,Tryz.results51,Exit.thenS]
theorem rcv_ok :RcvOK cx 51 132:=
 ⟨⟨_,Tryz.func51,of_decide_eq_true (by kernel_rfl),by kernel_rfl⟩,rcv_idle,fun w p cur t fz hc hf h0 k n=>rcv_turn w p cur t fz hc hf h0 k n⟩
theorem cx_all :CxAll cx:={
 base:=cx_ok
 rcv:=fun g T h=>by
  have h':(if g=51 then some 132 else none)=some T:=h;split at h'
  ·rename_i e;subst e;cases h';exact rcv_ok
  ·cases h'
 srt:=fun f g kt h=>by
  have h':(if f=272 then some (311,9)else none)=some (g,kt):=h;split at h'
  ·rename_i e;subst e;cases h';exact sort_ok
  ·cases h'
 tab:=tab_ok
 ins:=ins_ok
 sfn:=sfn_ok
 own:=own_ok
 nf:=nf_ok}
end Go.Proofs.YtiefabpageilbaaGreatDoor
namespace Go.Ae
open Go
def addT (C:Cx)(T:FuncId→List AV→Option AV):Cx:={C with tab:=fun f xs=>match T f xs with|some r=>some r|none=>C.tab f xs}
theorem rok_add (C:Cx)(T:FuncId→List AV→Option AV)(ops:Array Oper):rok (addT C T) ops=rok C ops:=rfl
theorem codeOk_add (C:Cx)(T:FuncId→List AV→Option AV):∀c:Code,codeOk (addT C T) c=codeOk C c:=by
 intro c
 induction c with
 |region i ops m=>cases m<;>simp only[codeOk,rok_add]
 |_=>simp_all only[codeOk]
theorem CxAll.more {C:Cx}(h:CxAll C)(T:FuncId→List AV→Option AV)(hT:∀f xs r,T f xs=some r→PureOK C f xs r)(hO:∀f sz,C.ins f≠some (sz,1)):CxAll (addT C T):={
 base:={mixed:=h.base.mixed,types:=h.base.types,funs:=fun f fi hf=>by rw[codeOk_add];exact h.base.funs f fi hf}
 rcv:=fun g T' e=>h.rcv g T' e
 srt:=fun f g kt e=>h.srt f g kt e
 tab:=fun f xs r e=>by
  have e':(match T f xs with|some r=>some r|none=>C.tab f xs)=some r:=e;split at e'
  ·rename_i r' hr;cases e';exact hT f xs _ hr
  ·exact h.tab f xs r e'
 ins:=fun f sz by' e h0 h1=>h.ins f sz by' e h0 h1
 sfn:=fun f sz e=>h.sfn f sz e
 own:=fun f sz e=>absurd e (hO f sz)
 nf:=fun f w X v r e=>h.nf f w X v r e}
theorem pure_of_tab {C:Cx}(hC:CxAll C){n:Nat}{T:FuncId→List AV→Option AV}(hT:∀f xs r,T f xs=some r→xs.all calm=true∧PureOK C f xs r){f:FuncId}{xs:List AV}{h':Hp}{r0 r:AV}
 (hb:body1 C (fun b g ys h=>match T g ys with|some q=>some (q,h)|none=>callN C n b g ys h) f xs []=some (r0,h')) {m:Nat} (hsn:snap h' m r0=some r):PureOK C f xs r:=by
 refine pure_of_body hC.base (fun b g ys h r h' hc w X ρ vs hs hl hv=>?_) (fun g ys h r h' hi hc=>?_) hb hsn
 ·split at hc
  ·rename_i q hq;cases hc;obtain⟨hcalm,hp⟩:=hT g ys _ hq;rw[List.all_eq_true]at hcalm;obtain⟨p1,p2⟩:=hp w (tot X ρ h) vs (fun b hb=>hb.elim (hs.xlt b) fun⟨i,hi,e⟩=>e▸hs.lt hi) hs.glob (by omega) (fun k y hk=>calm_ri (hv k y hk) (hcalm _ (Zi hk)));exact⟨p1,p2.mono fun e w' ⟨v,he,hst,hri⟩=>⟨ρ,ext_quiet hs hst,.inl ⟨v,he,.im hri⟩⟩⟩
  ·exact(callN_sound hC n).1 b g ys h r h' hc w X ρ vs hs hl hv
 ·split at hc
  ·cases hc;rfl
  ·exact(callN_sound hC n).2 g ys h r h' hi hc
def tabL :List (FuncId × List AV × AV)→FuncId→List AV→Option AV
 | [],_,_=>none
 |(g,ys,r)::t,f,xs=>if f=g then(if eqvC xs ys then some r else tabL t f xs)else tabL t f xs
theorem tabL_ok {C:Cx}:∀{L:List (FuncId × List AV × AV)},(∀e∈L,PureOK C e.1 e.2.1 e.2.2)→∀f xs r,tabL L f xs=some r→PureOK C f xs r
 | [],_,f,xs,r,e=>by simp[tabL]at e
 |
  (g,ys,r0)::t,h,f,xs,r,e=>by
  have ht:=tabL_ok (L:=t) (fun x hx=>h x (List.mem_cons_of_mem _ hx)) f xs r;unfold tabL at e;split at e
  ·rename_i hf;split at e
   ·rename_i hx;cases e;have h0:=h _ (List.mem_cons_self ..);rw[hf,eqvC_sound hx];exact h0
   ·exact ht e
  ·exact ht e
noncomputable def runK (C:Cx)(f:FuncId)(xs:List AV):Option AV:=match body1 C (callN C 90) f xs []with
 |some (r0,h')=>(snap h' 8 r0).map (C.nf f)
 |none=>none
theorem runK_ok {C:Cx}(hC:CxAll C){f:FuncId}{xs:List AV}{r:AV}(h:runK C f xs=some r):PureOK C f xs r:=by
 unfold runK at h;split at h
 ·rename_i r0 h' hb;obtain⟨r2,hr2,rfl⟩:=Ze.1 h;have hp:=pure_of_run hC hb hr2;exact fun w X vs h1 h2 h3 h4=>⟨(hp w X vs h1 h2 h3 h4).1,(hp w X vs h1 h2 h3 h4).2.mono fun e w' ⟨v,he,hst,hri⟩=>⟨v,he,hst,hC.nf f w' X v _ hri⟩⟩
 ·cases h
end Go.Ae
