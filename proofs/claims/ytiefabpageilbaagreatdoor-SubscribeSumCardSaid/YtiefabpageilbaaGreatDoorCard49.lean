/-
  Proved: for every list of notices and every number of a subscription the law on sums of notices (SubscribeSum) returns true and leaves its arguments as they were. Its one condition: the six listed package-level variables start as the program's text lays them.
-/
import Derived.Test.YtiefabpageilbaaGreatDoorRow49
import Derived.Test.YtiefabpageilbaaGreatDoorFacts49
import Derived.Test.YtiefabpageilbaaGreatDoorGoes
set_option maxRecDepth 100000
namespace Go.Proofs.YtiefabpageilbaaGreatDoor
open Go Go.Ae Go.ChangeShapes Go.WideShapes Go.ChangeAt Go.RowKit

/-- A variable's row. -/
def putRow (g : Nat) (cs : Array Value) (h : Array Obj) : Array Obj := h.modify g fun
  | .cells _ t frozen => .cells cs t frozen
  | o => o
/-- What a datum of numbers lays. -/
def cellD : DataW Unit → List Value
  | .lit (.int k n) => [.int k n]
  | _ => []
def cellD2 : DataW Unit → List Value
  | .agg ps => ps.flatMap cellD
  | d => cellD d
def rowD : DataW Unit → Array Value
  | .agg ps => (ps.flatMap cellD2).toArray
  | _ => #[]
/-- A world for the witness: the settled one, the listed variables holding what their initialisers lay. -/
noncomputable def laidWorld (os : Os) : World :=
  { World.holding Tryz.prog os ⟨#[], #[], []⟩ with heap := (putRow 3 (rowD Rows.laid_math_bits_deBruijn64tab) (putRow 2 (rowD Rows.laid_math_bits_deBruijn32tab) (putRow 1 (rowD Rows.laid_internal_strconv_uint64pow10) (putRow 0 (rowD Rows.laid_graphdb_frac_zero) (putRow 6 (rowD Rows.laid_unicode_utf8_acceptRanges) (putRow 5 (rowD Rows.laid_unicode_utf8_first) (World.holding Tryz.prog os ⟨#[], #[], []⟩).heap)))))) }
theorem laid_met (os : Os) : laidMet Tryz.prog Rows.subscribeSumRow.laid ((laidWorld os).forCall (fun _ _ => 0) ⟨#[], #[.slice none 0 0, .int .i64 0], []⟩).memory :=
  laidMet_of_run' 8 (by kernel_rfl) (by kernel_rfl)
theorem reads (os : Os) {H : Type} (enc : TypeId × Value → H) : ∃ places, DataW.whole enc Tryz.prog ((laidWorld os).forCall (fun _ _ => 0) ⟨#[], #[.slice none 0 0, .int .i64 0], []⟩).memory Tryz.f3.params.toList Rows.subscribeSumSpec.vars false #[.slice none 0 0, .int .i64 0].toList 8 = some ([.nil, .lit (.int .i64 0)], [], places) :=
  ⟨[], by kernel_rfl⟩
theorem lifted (os : Os) (started : os.Started) (H : Type) (enc : TypeId × Value → H) (F : Stop.Interp) :
    ReturnsInHanded {} Tryz.checked os 3 .any ((OpenSpec.ofChange Rows.subscribeSumSpec).preRow enc Tryz.prog Tryz.f3 Rows.subscribeSumRow.domain false Rows.subscribeSumRow.laid) (((OpenSpec.ofChange Rows.subscribeSumSpec).at F).post enc Tryz.prog Tryz.f3 false true false false) := by
  obtain ⟨places, hx⟩ := reads os enc
  refine returnsInHanded_of_row (C := Tryz.checked) (s := OpenSpec.ofChange Rows.subscribeSumSpec) own started (by kernel_rfl) Tryz.func3
    (witness_row_at (enc := enc) (C := Tryz.checked) false (laidWorld os) #[.slice none 0 0, .int .i64 0] rfl (by kernel_rfl) (by kernel_rfl) (by kernel_rfl)
      (OpenSpec.preRow_of_cond 8 hx (by kernel_rfl) (fun k hk => by cases hk) (by kernel_rfl) (laid_met os))) ?_
  intro W base args ds gs before hval hW _ _ hz hL hS _
  exact contract H enc W base args ds gs before hval hW hz hL hS
theorem said : Rows.SubscribeSumSaid :=
  OpenClaim.holds_of_cond 3 Tryz.f3 rfl rfl rfl rfl rfl rfl rfl ⟨rfl, rfl, rfl, rfl, rfl⟩ rfl rfl rfl rfl rfl (by kernel_rfl) Tryz.func3 joined
    (of_decide_eq_true (by kernel_rfl)) (by unfold Func.isWrapper; first | (rw [if_pos (by decide +kernel)]; kernel_rfl) | (rw [if_neg (by decide +kernel)]; exact ⟨rfl, rfl⟩))
    (fun os started H enc _ F => by rw [OpenClaim.pre_eq_preRow]; exact lifted os started H enc F)
/-- No parameter wants a stand-in; the program's own looks are on: what the card asks. -/
theorem plain (f : FuncId) (fn : Func) (hf : Tryz.pinned.checked.prog.funcNamed "graphdb/graphdblaw49.SubscribeSum" = some f) (hfn : Tryz.pinned.checked.prog.funcs[f]? = some fn) :
    true = Tryz.pinned.checked.prog.looks [] ∧ ∀ (j : Nat) t, fn.params[j]? = some t → Tryz.pinned.checked.prog.wantsStandIn t = false := by
  obtain rfl : f = 3 := Option.some.inj ((show Tryz.prog.funcNamed "graphdb/graphdblaw49.SubscribeSum" = some 3 by kernel_rfl).symm.trans hf) |>.symm
  obtain rfl : fn = Tryz.f3 := (Option.some.inj (Tryz.func3.symm.trans hfn)).symm
  refine ⟨by kernel_rfl, fun j t ht => ?_⟩
  rw [Tryz.params3] at ht
  have h3 : t = 22 ∨ t = 3 := by simpa using Array.mem_of_getElem? ht
  rcases h3 with rfl | rfl
  · exact (show Tryz.prog.wantsStandIn 22 = false by kernel_rfl)
  · exact (show Tryz.prog.wantsStandIn 3 = false by kernel_rfl)
theorem subscribeSum_card : Rows.SubscribeSumCardSaid :=
  Claim7.holds_tied_plain_at .later [] _ _ _ _ said (fun _ h => by cases h) (by kernel_rfl) (fun _ h => by cases h) subscribeSum_row_tie rfl ⟨rfl, rfl⟩ (by kernel_rfl) rfl plain goes_row
#print axioms subscribeSum_card
end Go.Proofs.YtiefabpageilbaaGreatDoor
