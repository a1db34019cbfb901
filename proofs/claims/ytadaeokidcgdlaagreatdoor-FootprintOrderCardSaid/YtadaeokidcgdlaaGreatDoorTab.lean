/-
  The tables of the evaluator are what the program says.
-/
import Derived.Test.YtadaeokidcgdlaaGreatDoorSo
import Derived.Test.YtadaeokidcgdlaaGreatDoorKitB
set_option maxRecDepth 100000
namespace Go.Proofs.YtadaeokidcgdlaaGreatDoor
open Go Go.Ae

noncomputable def fnOk (f : Nat) : Bool := match fiOf Tryz.prog f with
  | some fi => codeOk cx fi.body && (match Tryz.prog.funcs[f]? with | some fn => fn.name != "runtime.NumGoroutine" | none => true)
  | none => true
theorem fns_ok : ((List.range 385).all fnOk) = true := by kernel_rfl
theorem cx_ok : CxOk cx := {
  mixed := by kernel_rfl
  types := fun _ _ h => h
  funs := fun f fi h => by
    have h' : (bif Nat.blt f 385 then fiOf Tryz.prog f else none) = some fi := h
    cases hb : Nat.blt f 385 with
    | false => rw [hb] at h'; cases h'
    | true =>
      rw [hb] at h'
      have hlt : f < 385 := by simpa [Nat.blt_eq] using hb
      have hk := List.all_eq_true.1 fns_ok f (List.mem_range.2 hlt)
      unfold fnOk at hk
      simp only [cond_true] at h'
      rw [h'] at hk
      simp only [Bool.and_eq_true] at hk
      refine ⟨h', hk.1, fun fn hfn => ?_⟩
      have h2 := hk.2
      have hfn' : Tryz.prog.funcs[f]? = some fn := hfn
      rw [hfn'] at h2
      simpa using h2 }
theorem tab_ok (f : FuncId) (xs : List AV) (r : AV) (h : cx.tab f xs = some r) : PureOK cx f xs r := by
  have h' : tabF f xs = some r := h
  unfold tabF at h'
  split at h'
  case isFalse => cases h'
  rename_i hf
  subst hf
  split at h'
  case h_2 => cases h'
  rename_i a b
  split at h'
  case isFalse => cases h'
  rename_i hs
  simp only [Option.some.injEq] at h'
  subst h'
  intro w X vs hX hG hl hv
  refine ⟨⟨_, Tryz.func342, of_decide_eq_true (by kernel_rfl), by kernel_rfl⟩, ?_⟩
  have h0 := (hv 0 _ rfl).sc_inv.1
  have h1 := (hv 1 _ rfl).sc_inv.1
  have hvs : vs = #[.string a, .string b] := by
    apply Array.ext
    · simpa using hl
    · intro i h2 h3
      have hi : i = 0 ∨ i = 1 := by simp at h3; omega
      rcases hi with rfl | rfl
      · simpa [h2, Array.getD_eq_getD_getElem?, Array.getElem?_eq_getElem] using h0
      · simpa [h2, Array.getD_eq_getD_getElem?, Array.getElem?_eq_getElem] using h1
  subst hvs
  obtain ⟨_, cur, t, fz, hc, hr⟩ := hG 1 [.tuple #[]] rfl
  obtain ⟨u, hu, _, m, rfl⟩ := hr 0 _ rfl
  have hm : w.cell? ⟨1, 0, none⟩ = some (.int .i64 m) := by
    unfold World.cell?
    rw [hc]
    exact hu
  refine (Tryz.strings_Contains a b m w hs hm).mono ?_
  rintro e w' ⟨rfl, rfl⟩
  exact ⟨_, rfl, Step.refl _ _, .sc _ rfl⟩
end Go.Proofs.YtadaeokidcgdlaaGreatDoor
