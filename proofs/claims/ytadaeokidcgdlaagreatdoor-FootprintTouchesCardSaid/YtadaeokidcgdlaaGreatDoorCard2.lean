/- Proved: for every graph, predicate and change the law on what a change touches returns true and leaves its arguments as they were. Its one condition: the listed variable of package frac starts as the program's text lays it. -/
import Derived.Test.YtadaeokidcgdlaaGreatDoorRow2
import Derived.Test.YtadaeokidcgdlaaGreatDoorFacts2
set_option maxRecDepth 100000
namespace Go.Proofs.YtadaeokidcgdlaaGreatDoor
open Go Go.Ae Go.ChangeShapes Go.WideShapes Go.ChangeAt Go.RowKit
noncomputable def laidWorld (os:Os):World:=
 {World.holding Tryz.prog os ⟨#[],#[],[]⟩with heap:=(World.holding Tryz.prog os ⟨#[],#[],[]⟩).heap.modify 0 fun
  | .cells _ t frozen=> .cells #[.int .i64 0,.int .i64 1] t frozen
  |o=>o}
def zeroPred :Value:= .agg #[.int .i64 0,.string ⟨#[]⟩,.string ⟨#[]⟩,.int .i64 0,.int .i64 0,.int .i64 0,.string ⟨#[]⟩,.slice none 0 0]
def zeroData {H:Type}:DataW H:= .agg [.lit (.int .i64 0),.lit (.string []),.lit (.string []),.agg [.lit (.int .i64 0),.lit (.int .i64 0),.lit (.int .i64 0),.lit (.string []),.nil]]
def zeroGraph :Value:= .agg #[.slice none 0 0,.slice none 0 0,.int .i64 0,.int .i64 0]
def zeroGraphData {H:Type}:DataW H:= .agg [.nil,.nil,.lit (.int .i64 0),.lit (.int .i64 0)]
def zeroChange :Value:= .agg #[.int .i64 0,.int .i64 0,.int .i64 0,.int .i64 0,.string ⟨#[]⟩,.int .i64 0,.int .i64 0,.int .i64 0,.string ⟨#[]⟩,.slice none 0 0]
def zeroChangeData {H:Type}:DataW H:= .agg [.lit (.int .i64 0),.lit (.int .i64 0),.lit (.int .i64 0),.lit (.int .i64 0),.lit (.string []),.agg [.lit (.int .i64 0),.lit (.int .i64 0),.lit (.int .i64 0),.lit (.string []),.nil]]
theorem laid_met (os:Os):laidMet Tryz.prog Rows.footprintTouchesRow.laid ((laidWorld os).forCall (fun _ _=>0) ⟨#[],#[zeroGraph,zeroPred,zeroChange],[]⟩).memory:=
 laidMet_of_run' 8 (by kernel_rfl) (by kernel_rfl)
theorem reads (os:Os){H:Type}(enc:TypeId × Value→H):∃places,DataW.whole enc Tryz.prog ((laidWorld os).forCall (fun _ _=>0) ⟨#[],#[zeroGraph,zeroPred,zeroChange],[]⟩).memory Tryz.f4.params.toList Rows.footprintTouchesSpec.vars false #[zeroGraph,zeroPred,zeroChange].toList 8=some ([zeroGraphData,zeroData,zeroChangeData],[],places):=
 ⟨[],by kernel_rfl⟩
theorem lifted (os:Os)(started:os.Started)(H:Type)(enc:TypeId × Value→H)(F:Stop.Interp):
 ReturnsInHanded {} Tryz.checked os 4 .any ((OpenSpec.ofChange Rows.footprintTouchesSpec).preRow enc Tryz.prog Tryz.f4 Rows.footprintTouchesRow.domain false Rows.footprintTouchesRow.laid) (((OpenSpec.ofChange Rows.footprintTouchesSpec).at F).post enc Tryz.prog Tryz.f4 false true false false):=by
 obtain⟨places,hx⟩:=reads os enc;refine returnsInHanded_of_row (C:=Tryz.checked) (s:=OpenSpec.ofChange Rows.footprintTouchesSpec) own started (by kernel_rfl) Tryz.func4
  (witness_row_at (enc:=enc) (C:=Tryz.checked) false (laidWorld os) #[zeroGraph,zeroPred,zeroChange] rfl (by kernel_rfl) (by kernel_rfl) (by kernel_rfl)
   (OpenSpec.preRow_of_cond 8 hx (by kernel_rfl) (fun k hk=>by cases hk) (by kernel_rfl) (laid_met os))) ?_
 intro W base args ds gs before hval hW _ _ hz hL hS _;exact contract H enc W base args ds gs before hval hW hz hL hS
theorem said :Rows.FootprintTouchesSaid:=
 OpenClaim.holds_of_cond 4 Tryz.f4 rfl rfl rfl rfl rfl rfl rfl ⟨rfl,rfl,rfl,rfl,rfl⟩ rfl rfl rfl rfl rfl (by kernel_rfl) Tryz.func4 joined
  (of_decide_eq_true (by kernel_rfl)) (by unfold Func.isWrapper;first|(rw[if_pos (by decide+kernel)];kernel_rfl)|(rw[if_neg (by decide+kernel)];exact⟨rfl,rfl⟩))
  (fun os started H enc _ F=>by rw[OpenClaim.pre_eq_preRow];exact lifted os started H enc F)
theorem plain (f:FuncId)(fn:Func)(hf:Tryz.pinned.checked.prog.funcNamed "graphdb/graphdblaw45.FootprintTouches" =some f)(hfn:Tryz.pinned.checked.prog.funcs[f]?=some fn):
 true=Tryz.pinned.checked.prog.looks []∧∀(j:Nat) t,fn.params[j]?=some t→Tryz.pinned.checked.prog.wantsStandIn t=false:=by
 obtain rfl:f=4:=Option.some.inj ((show Tryz.prog.funcNamed "graphdb/graphdblaw45.FootprintTouches" =some 4 by kernel_rfl).symm.trans hf)|>.symm
 obtain rfl:fn=Tryz.f4:=(Option.some.inj (Tryz.func4.symm.trans hfn)).symm;refine⟨by kernel_rfl,fun j t ht=>?_⟩;rw[Tryz.params4]at ht;have h3:t=35∨t=40∨t=42:=by simpa using Array.mem_of_getElem? ht
 rcases h3 with rfl|rfl|rfl
 ·exact(show Tryz.prog.wantsStandIn 35=false by kernel_rfl)
 ·exact(show Tryz.prog.wantsStandIn 40=false by kernel_rfl)
 ·exact(show Tryz.prog.wantsStandIn 42=false by kernel_rfl)
theorem footprintTouches_card :Rows.FootprintTouchesCardSaid:=
 Claim7.holds_tied_plain_at .later [] _ _ _ _ said (fun _ h=>by cases h) (by kernel_rfl) (fun _ h=>by cases h) footprintTouches_row_tie rfl ⟨rfl,rfl⟩ (by kernel_rfl) rfl plain (by kernel_rfl)
#print axioms footprintTouches_card
end Go.Proofs.YtadaeokidcgdlaaGreatDoor
