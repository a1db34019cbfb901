/- The closure that turns a panic of its own type into a result. -/
import Derived.Test.YtmocfjnklfpnbaaGreatDoorP13
import Derived.Recover
import Derived.WalkKit
import Derived.Test.YtmocfjnklfpnbaaGreatDoorTab
set_option linter.all false
set_option maxRecDepth 100000
namespace Go.Proofs.YtmocfjnklfpnbaaGreatDoor
open Go Go.Ae
theorem rcv_idle (w:World)(p:Nat):CallsD Tryz.prog 128 #[.pointer (some ⟨p,0,none⟩)] .returning w fun e u' w'=>(∃v,e= .returned v)∧u'= .returning∧w'=w:=by
 refine callsD_of_wpS Tryz.func128 rfl fun c₀ cs hu=>?_
 apply wpS_seq;apply wpS_region;simp[wpOpsS,go_sem,recoverD,hu,Tryz.ntmps128,Exit.thenS];apply wpS_seq;apply wpS_region;simp[wpOpsS,go_sem,Exit.thenS];refine wpS_cond (t:=false) (by simp[Act.eval,Array.replicate]) ?_;simp only[Yl,if_false];refine wpS_of_wp (wp_skip ?_);cases c₀
 simp_all [bodyPostS,results,Tryz.results128,Exit.thenS]
theorem as_own (v:Value)(w:World):(Instr.typeAssert (.iface 203 v) 20 203 true).run Tryz.prog w= .ok (.tuple #[v,.bool true]) w:=by kernel_rfl
theorem fro_own (w:World)(p:Nat)(cur:Array Value)(t:TypeId)(fz:Nat × Nat)(hc:w.heap[p]?=some (.cells cur t fz))(hf:Fz fz cur)(h0:0<cur.size):w.frozen? ⟨p,0,none⟩=false:=by
 rcases hf with rfl|hf
 ·simp[World.frozen?,hc]
 ·obtain⟨lo,hi'⟩:=fz;simp only[World.frozen?,hc,Bool.and_eq_false_iff,decide_eq_false_iff_not];left;simp only at hf;omega
set_option maxHeartbeats 1000000 in
theorem rcv_turn (w:World)(p:Nat)(cur:Array Value)(t:TypeId)(fz:Nat × Nat)(hc:w.heap[p]?=some (.cells cur t fz))(hf:Fz fz cur)(h0:0<cur.size)(k:IntKind)(n:Int):
 CallsD Tryz.prog 128 #[.pointer (some ⟨p,0,none⟩)] (.panicking [{v:= .iface 203 (.int k n),recovered:=false}]) w
  (fun e u' w'=>(∃v,e= .returned v)∧u'= .panicking [{v:= .iface 203 (.int k n),recovered:=true}]∧w'=w.setRow p (cur.setIfInBounds 0 (.int k n))):=by
 have hcell:w.cell? ⟨p,0,none⟩=some cur[0]:=by simp[World.cell?,hc,h0]
 have hfro:=fro_own w p cur t fz hc hf h0;have hset:=setCell_eq_setRow w p 0 cur t fz (.int k n) hc;refine callsD_of_wpS Tryz.func128 rfl fun c₀ cs hu=>?_
 rw[show #[Value.pointer (some ⟨p,0,none⟩)]++Array.replicate (Tryz.f128.ntmps- #[Value.pointer (some ⟨p,0,none⟩)].size) undef= #[.pointer (some ⟨p,0,none⟩),undef,undef,undef,undef,undef,undef,undef,undef,undef,undef,undef,undef,undef,undef]from rfl];apply wpS_seq;apply wpS_region;simp[wpOpsS,go_sem,recoverD,hu,Exit.thenS];apply wpS_seq;apply wpS_region;simp[wpOpsS,go_sem,Exit.thenS];refine wpS_cond (t:=true) rfl ?_;simp only[if_true];apply wpS_seq;apply wpS_seq;apply wpS_region;simp[wpOpsS,go_sem,as_own,Exit.thenS];apply wpS_seq;apply wpS_region;simp[wpOpsS,go_sem,Exit.thenS];refine wpS_cond (t:=true) rfl ?_;simp only[if_true];apply wpS_seq;apply wpS_region;simp[wpOpsS,go_sem,hcell,hfro,hset,Exit.thenS];refine wpS_of_wp (wp_ret ?_);cases c₀
 simp_all [bodyPostS,results,Tryz.results128,Exit.thenS]
theorem rcv_ok :RcvOK cx 128 203:=
 ⟨⟨_,Tryz.func128,of_decide_eq_true (by kernel_rfl),by kernel_rfl⟩,rcv_idle,fun w p cur t fz hc hf h0 k n=>rcv_turn w p cur t fz hc hf h0 k n⟩
theorem cx_all :CxAll cx:={
 base:=cx_ok
 rcv:=fun g T h=>by
  have h':(if g=128 then some 203 else none)=some T:=h;split at h'
  ·rename_i e;subst e;cases h';exact rcv_ok
  ·cases h'
 srt:=fun f g kt h=>by
  have h':(if f=224 then some (281,9)else none)=some (g,kt):=h;split at h'
  ·rename_i e;subst e;cases h';exact sort_ok
  ·cases h'
 tab:=tab_ok
 ins:=ins_ok
 sfn:=sfn_ok
 own:=own_ok
 nf:=nf_ok}
end Go.Proofs.YtmocfjnklfpnbaaGreatDoor
