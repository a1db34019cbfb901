/-
  Contracts: Valid and Number of the program's values.
-/
import Derived.Test.YtadaeokidcgdlaaGreatDoorFo26
set_option linter.unusedSimpArgs false
set_option maxRecDepth 100000
namespace Go.Proofs.YtadaeokidcgdlaaGreatDoor
open Go Go.Ae
attribute [local simp] aop aopW coldF extF putA ofConst flat scalarOp fastOp binFast intOp strOp guardX Ae.part rowOf szOk natOf lenA cls fillA splice newsOf isNilC cellX

theorem val_Valid (N D : Nat) (v : V) (hd : dep v ≤ D) (hb : bdV v) (b : Bool) (h : Hp) : callN cx (N + 2 * D + 4) b 53 [evV v] h = some (.sc (.bool (okT v)), h) := by
  have hv := fun b h => PVC_all D v hd hb N b 0 h (by omega) (by omega)
  have hc := calm_evV1 v
  refine pure_calm (n := N + 2 * D + 3) (r := .sc (.bool (okT v))) ⟨Tryz.f53.ntmps, (Tryz.f53.body).getD .skip, [.tmp 2]⟩ (by kernel_rfl) (by kernel_rfl) rfl (by kernel_rfl) (by simp [Tryz.f53]) hc rfl ?_ b h
  clear hc
  unfold okT
  simp only [show (8 : Int) - 0 = 8 from rfl] at hv
  generalize okV v 8 = K at hv
  generalize N + 2 * D + 3 = M at hv
  cases v with
  | mk k n d s z l =>
    rw [evV_eq]
    have he : enc (.mk k n d s z l) = [.sc (.int .i64 k), .sc (.int .i64 n), .sc (.int .i64 d), .sc (.string s), evL z l] := rfl
    rw [he] at hv
    generalize evL z l = L at hv
    simp [Tryz.f53, hv]
theorem val_Number (N D : Nat) (v : V) (hd : dep v ≤ D) (hb : bdV v) (b : Bool) (h : Hp) : callN cx (N + 2 * D + 5) b 105 [evV v] h = some (.tp [frA (numN v) (numD v), .sc (.bool (numB v))], h) := by
  have hv := fun b h => val_Valid N D v hd hb b h
  have hc := calm_evV1 v
  have hr : snap [] 8 (.tp [frA (numN v) (numD v), .sc (.bool (numB v))]) = some (.tp [frA (numN v) (numD v), .sc (.bool (numB v))]) := rfl
  clear hr
  suffices H : ( ∃ r, r = AV.tp [frA (numN v) (numD v), .sc (.bool (numB v))] ∧ ∀ b h, callN cx (N + 2 * D + 5) b 105 [evV v] h = some (r, h)) by
    obtain ⟨r, rfl, hr⟩ := H
    exact hr b h
  refine pure_ex (f := 105) (n := N + 2 * D + 4) (args := [evV v]) (fun r => r = .tp [frA (numN v) (numD v), .sc (.bool (numB v))]) ⟨Tryz.f105.ntmps, (Tryz.f105.body).getD .skip, [.cell 2 2 true, .tmp 3]⟩ (by kernel_rfl) (by kernel_rfl) rfl (by kernel_rfl) (by simp [Tryz.f105]) hc ?_
  clear hc
  generalize N + 2 * D + 4 = M at hv
  cases v with
  | mk k n d s z l =>
    unfold numN numD numB
    generalize okT (.mk k n d s z l) = K at hv
    simp only [V.k, V.n, V.d]
    rw [evV_eq] at hv ⊢
    generalize evL z l = L at hv
    cases K
    · by_cases h2 : k = 2
      · subst h2
        simp [Tryz.f105, hv, frA]
        exact ⟨_, _, ⟨rfl, rfl⟩, rfl⟩
      · by_cases h3 : k = 3
        · subst h3
          simp [Tryz.f105, hv, frA]
          exact ⟨_, _, ⟨rfl, rfl⟩, rfl⟩
        · simp [Tryz.f105, hv, frA, h2, h3]
          exact ⟨_, _, ⟨rfl, rfl⟩, rfl⟩
    · by_cases h2 : k = 2
      · subst h2
        simp [Tryz.f105, hv, frA]
        exact ⟨_, _, ⟨rfl, rfl⟩, rfl⟩
      · by_cases h3 : k = 3
        · subst h3
          simp [Tryz.f105, hv, frA]
          exact ⟨_, _, ⟨rfl, rfl⟩, rfl⟩
        · simp [Tryz.f105, hv, frA, h2, h3]
          exact ⟨_, _, ⟨rfl, rfl⟩, rfl⟩
end Go.Proofs.YtadaeokidcgdlaaGreatDoor
