/- Proved: for every graph, list of predicates and list of changes the law on whether the changes touch the predicates returns true and leaves its arguments as they were. Its one condition: the listed variable of package frac starts as the program's text lays it. -/
import Derived.Test.YtadaeokidcgdlaaGreatDoorRow3
import Derived.Test.YtadaeokidcgdlaaGreatDoorFacts3
set_option maxRecDepth 100000
namespace Go.Proofs.YtadaeokidcgdlaaGreatDoor
open Go Go.Ae Go.ChangeShapes Go.WideShapes Go.ChangeAt Go.RowKit
noncomputable def laidWorld (os:Os):World:=
 {World.holding Tryz.prog os ⟨#[],#[],[]⟩with heap:=(World.holding Tryz.prog os ⟨#[],#[],[]⟩).heap.modify 0 fun
  | .cells _ t frozen=> .cells #[.int .i64 0,.int .i64 1] t frozen
  |o=>o}
def zeroGraph :Value:= .agg #[.slice none 0 0,.slice none 0 0,.int .i64 0,.int .i64 0]
def zeroGraphData {H:Type}:DataW H:= .agg [.nil,.nil,.lit (.int .i64 0),.lit (.int .i64 0)]
theorem laid_met (os:Os):laidMet Tryz.prog Rows.footprintAnyRow.laid ((laidWorld os).forCall (fun _ _=>0) ⟨#[],#[zeroGraph,.slice none 0 0,.slice none 0 0],[]⟩).memory:=
 laidMet_of_run' 8 (by kernel_rfl) (by kernel_rfl)
theorem reads (os:Os){H:Type}(enc:TypeId × Value→H):∃places,DataW.whole enc Tryz.prog ((laidWorld os).forCall (fun _ _=>0) ⟨#[],#[zeroGraph,.slice none 0 0,.slice none 0 0],[]⟩).memory Tryz.f5.params.toList Rows.footprintAnySpec.vars false #[zeroGraph,.slice none 0 0,.slice none 0 0].toList 8=some ([zeroGraphData,.nil,.nil],[],places):=
 ⟨[],by kernel_rfl⟩
theorem lifted (os:Os)(started:os.Started)(H:Type)(enc:TypeId × Value→H)(F:Stop.Interp):
 ReturnsInHanded {} Tryz.checked os 5 .any ((OpenSpec.ofChange Rows.footprintAnySpec).preRow enc Tryz.prog Tryz.f5 Rows.footprintAnyRow.domain false Rows.footprintAnyRow.laid) (((OpenSpec.ofChange Rows.footprintAnySpec).at F).post enc Tryz.prog Tryz.f5 false true false false):=by
 obtain⟨places,hx⟩:=reads os enc;refine returnsInHanded_of_row (C:=Tryz.checked) (s:=OpenSpec.ofChange Rows.footprintAnySpec) own started (by kernel_rfl) Tryz.func5
  (witness_row_at (enc:=enc) (C:=Tryz.checked) false (laidWorld os) #[zeroGraph,.slice none 0 0,.slice none 0 0] rfl (by kernel_rfl) (by kernel_rfl) (by kernel_rfl)
   (OpenSpec.preRow_of_cond 8 hx (by kernel_rfl) (fun k hk=>by cases hk) (by kernel_rfl) (laid_met os))) ?_
 intro W base args ds gs before hval hW _ _ hz hL hS _;exact contract H enc W base args ds gs before hval hW hz hL hS
theorem said :Rows.FootprintAnySaid:=
 OpenClaim.holds_of_cond 5 Tryz.f5 rfl rfl rfl rfl rfl rfl rfl ⟨rfl,rfl,rfl,rfl,rfl⟩ rfl rfl rfl rfl rfl (by kernel_rfl) Tryz.func5 joined
  (of_decide_eq_true (by kernel_rfl)) (by unfold Func.isWrapper;first|(rw[if_pos (by decide+kernel)];kernel_rfl)|(rw[if_neg (by decide+kernel)];exact⟨rfl,rfl⟩))
  (fun os started H enc _ F=>by rw[OpenClaim.pre_eq_preRow];exact lifted os started H enc F)
theorem plain (f:FuncId)(fn:Func)(hf:Tryz.pinned.checked.prog.funcNamed "graphdb/graphdblaw45.FootprintAny" =some f)(hfn:Tryz.pinned.checked.prog.funcs[f]?=some fn):
 true=Tryz.pinned.checked.prog.looks []∧∀(j:Nat) t,fn.params[j]?=some t→Tryz.pinned.checked.prog.wantsStandIn t=false:=by
 obtain rfl:f=5:=Option.some.inj ((show Tryz.prog.funcNamed "graphdb/graphdblaw45.FootprintAny" =some 5 by kernel_rfl).symm.trans hf)|>.symm
 obtain rfl:fn=Tryz.f5:=(Option.some.inj (Tryz.func5.symm.trans hfn)).symm;refine⟨by kernel_rfl,fun j t ht=>?_⟩;rw[Tryz.params5]at ht;have h3:t=35∨t=27∨t=45:=by simpa using Array.mem_of_getElem? ht
 rcases h3 with rfl|rfl|rfl
 ·exact(show Tryz.prog.wantsStandIn 35=false by kernel_rfl)
 ·exact(show Tryz.prog.wantsStandIn 27=false by kernel_rfl)
 ·exact(show Tryz.prog.wantsStandIn 45=false by kernel_rfl)
theorem footprintAny_card :Rows.FootprintAnyCardSaid:=
 Claim7.holds_tied_plain_at .later [] _ _ _ _ said (fun _ h=>by cases h) (by kernel_rfl) (fun _ h=>by cases h) footprintAny_row_tie rfl ⟨rfl,rfl⟩ (by kernel_rfl) rfl plain (by kernel_rfl)
#print axioms footprintAny_card
end Go.Proofs.YtadaeokidcgdlaaGreatDoor
