/-
  The law on the order of predicates, run.
-/
import Derived.Test.YtadaeokidcgdlaaGreatDoorFo30
set_option linter.unusedSimpArgs false
set_option maxRecDepth 100000
namespace Go.Proofs.YtadaeokidcgdlaaGreatDoor
open Go Go.Ae
attribute [local simp] aop aopW coldF extF putA ofConst flat scalarOp fastOp binFast intOp strOp guardX Ae.part rowOf szOk natOf lenA cls fillA splice newsOf isNilC cellX

set_option maxHeartbeats 8000000
/-! every comparison is -1, 0 or 1 -/
def Small (x : Int) : Prop := -1 ≤ x ∧ x ≤ 1
theorem cmpI_small (x y : Int) : Small (cmpI x y) := by unfold Small cmpI; (repeat' split) <;> omega
theorem cmpS_small (x y : ByteArray) : Small (cmpS x y) := by unfold Small; rcases cmpS_cases x y with ⟨e, _⟩ | ⟨e, _⟩ | ⟨e, _⟩ <;> rw [e] <;> omega
theorem sgnI_small (x : Int) : Small (sgnI x) := by unfold Small sgnI; (repeat' split) <;> omega
theorem ite_small {c : Prop} [Decidable c] {x y : Int} (hx : Small x) (hy : Small y) : Small (if c then x else y) := by split <;> assumption
theorem ordL_small {P : V → Prop} (h : ∀ a b, P a → Small (ordV a b)) : ∀ (l m : List V), (∀ x ∈ l, P x) → Small (ordL l m)
  | [], m, _ => by cases m <;> simp [ordL, Small]
  | x :: xs, [], _ => by simp [ordL, Small]
  | x :: xs, y :: ys, hl => by
    simp only [ordL]
    exact ite_small (ordL_small h xs ys fun z hz => hl z (by simp [hz])) (h x y (hl x (by simp)))
theorem ordV_small_aux : ∀ (D : Nat) (v w : V), dep v ≤ D → Small (ordV v w) := by
  intro D
  induction D with
  | zero => intro v w h; have := dep_pos v; omega
  | succ D ih =>
    intro v w hv
    have hf : Small (fldV v w) := by
      unfold fldV
      simp only [orI]
      exact ite_small (ite_small (ite_small (ite_small (ite_small (by simp [Small]) (ordL_small (fun a b ha => ih a b ha) v.l w.l (dep_l hv))) (cmpS_small _ _)) (cmpI_small _ _)) (cmpI_small _ _)) (cmpI_small _ _)
    rw [ordV_eq']
    exact ite_small (ite_small (ite_small (ite_small (sgnI_small _) hf) (cmpI_small _ _)) hf) (ite_small (by simp [Small]) (by simp [Small]))
theorem ordV_small (v w : V) : Small (ordV v w) := ordV_small_aux _ v w (Nat.le_refl _)
theorem ordP_small (a b : Pr) : Small (ordP a b) := by
  unfold ordP
  simp only [orI]
  exact ite_small (ite_small (ite_small (ite_small (by simp [Small]) (ordV_small _ _)) (cmpS_small _ _)) (cmpS_small _ _)) (cmpI_small _ _)
/-- A call without arguments, of a function that shares nothing: it looks at no memory. -/
theorem call_none {f : FuncId} {n : Nat} {r : AV} {b : Bool} {h0 : Hp} (hs : cx.srt f = none) (hi : cx.inl f = false) (hcall : callN cx (n + 1) b f [] [] = some (r, h0)) (b' : Bool) (h : Hp) : callN cx (n + 1) b' f [] h = some (r, h) := by
  have e : ∀ h' : Hp, ([] : List AV).mapM (snap h' 8) = some [] := fun _ => rfl
  simp only [callN, hs, hi, Bool.false_eq_true, if_false, e, List.all_nil, Bool.true_or, if_true] at hcall ⊢
  split at hcall
  · rename_i r0 h0'
    simp only [Option.some.injEq, Prod.mk.injEq] at hcall
    obtain ⟨rfl, _⟩ := hcall
    rfl
  · cases hcall
theorem calm_evP3 (p q r : Pr) : [evP p, evP q, evP r].all calm = true := by rw [List.all_cons, List.all_cons, List.all_cons, calm_evP, calm_evP, calm_evP]; rfl
theorem fo_walk (M : Nat) (a b c : Pr) (kab kba kbc kac o : Int)
    (hab : ∀ t h, callN cx M t 18 [evP a, evP b] h = some (.sc (.int .i64 kab), h)) (hba : ∀ t h, callN cx M t 18 [evP b, evP a] h = some (.sc (.int .i64 kba), h))
    (hbc : ∀ t h, callN cx M t 18 [evP b, evP c] h = some (.sc (.int .i64 kbc), h)) (hac : ∀ t h, callN cx M t 18 [evP a, evP c] h = some (.sc (.int .i64 kac), h))
    (hr : ∀ t h, callN cx M t 19 [evP a, evP b] h = some (.sc (.int .i64 kab), h))
    (ho : ∀ t h, callN cx M t 20 [.ag (enc a.v), .ag (enc b.v)] h = some (.sc (.int .i64 o), h))
    (hl : ∀ t h, callN cx M t 9 [] h = some (.sc (.bool true), h))
    (hneg : kab = -kba) (hsm : Small kba) (hz : kab = 0 → a.k = b.k ∧ a.n = b.n ∧ a.y = b.y ∧ o = 0) (htr : kab ≤ 0 → kbc ≤ 0 → kac ≤ 0) :
    ∃ h', finX [.tmp 6] (exec2 cx (callN cx M) ((Tryz.f6.body).getD .skip) ([evP a, evP b, evP c] ++ List.replicate (Tryz.f6.ntmps - 3) .un, [])) = some (.sc (.bool true), h') := by
  have hf : fitI .i64 (-kba) = kab := by rw [hneg]; exact fit_i64 (by unfold Small at hsm; omega) (by unfold Small at hsm; omega)
  cases a with
  | mk pk1 pn1 py1 v1 =>
  cases b with
  | mk pk2 pn2 py2 v2 =>
  cases c with
  | mk pk3 pn3 py3 v3 =>
  cases v1 with
  | mk k1 n1 d1 s1 z1 l1 =>
  cases v2 with
  | mk k2 n2 d2 s2 z2 l2 =>
  cases v3 with
  | mk k3 n3 d3 s3 z3 l3 =>
  have e1 : evP ⟨pk1, pn1, py1, .mk k1 n1 d1 s1 z1 l1⟩ = .ag [.sc (.int .i64 pk1), .sc (.string pn1), .sc (.string py1), .sc (.int .i64 k1), .sc (.int .i64 n1), .sc (.int .i64 d1), .sc (.string s1), evL z1 l1] := rfl
  have e2 : evP ⟨pk2, pn2, py2, .mk k2 n2 d2 s2 z2 l2⟩ = .ag [.sc (.int .i64 pk2), .sc (.string pn2), .sc (.string py2), .sc (.int .i64 k2), .sc (.int .i64 n2), .sc (.int .i64 d2), .sc (.string s2), evL z2 l2] := rfl
  have e3 : evP ⟨pk3, pn3, py3, .mk k3 n3 d3 s3 z3 l3⟩ = .ag [.sc (.int .i64 pk3), .sc (.string pn3), .sc (.string py3), .sc (.int .i64 k3), .sc (.int .i64 n3), .sc (.int .i64 d3), .sc (.string s3), evL z3 l3] := rfl
  have e4 : enc (.mk k1 n1 d1 s1 z1 l1) = [.sc (.int .i64 k1), .sc (.int .i64 n1), .sc (.int .i64 d1), .sc (.string s1), evL z1 l1] := rfl
  have e5 : enc (.mk k2 n2 d2 s2 z2 l2) = [.sc (.int .i64 k2), .sc (.int .i64 n2), .sc (.int .i64 d2), .sc (.string s2), evL z2 l2] := rfl
  simp only [e1, e2, e3, e4, e5] at hab hba hbc hac hr ho ⊢
  simp only at hz
  clear e1 e2 e3 e4 e5 hsm
  generalize evL z1 l1 = L1 at *
  generalize evL z2 l2 = L2 at *
  generalize evL z3 l3 = L3 at *
  by_cases h0 : 0 < kab
  · have h1 : ¬ kab = 0 := by omega
    simp [Tryz.f6, hab, hba, hr, hf, h0, h1, hl]
  · by_cases h1 : kab = 0
    · obtain ⟨rfl, rfl, rfl, rfl⟩ := hz h1
      subst h1
      have hb0 : kba = 0 := by omega
      subst hb0
      have es : ∀ x : ByteArray, eqS x x = true := fun x => (eqS_iff x x).2 rfl
      by_cases h2 : 0 < kbc
      · simp [Tryz.f6, hab, hba, hr, hf, hbc, ho, h2, hl, es, show fitI .i64 0 = 0 from rfl]
      · have h3 : kac ≤ 0 := htr (by omega) (by omega)
        simp [Tryz.f6, hab, hba, hr, hf, hbc, hac, ho, h2, h3, hl, es, show fitI .i64 0 = 0 from rfl]
    · by_cases h2 : 0 < kbc
      · simp [Tryz.f6, hab, hba, hr, hf, h0, h1, hbc, h2, hl]
      · have h3 : kac ≤ 0 := htr (by omega) (by omega)
        simp [Tryz.f6, hab, hba, hr, hf, h0, h1, hbc, hac, h2, h3, hl]
end Go.Proofs.YtadaeokidcgdlaaGreatDoor
