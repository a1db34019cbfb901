/-
  Contracts: the program's order of values; the orders of predicates.
-/
import Derived.Test.YtadaeokidcgdlaaGreatDoorFo29
import Derived.Test.YtadaeokidcgdlaaGreatDoorPl1
set_option linter.unusedSimpArgs false
set_option maxRecDepth 100000
namespace Go.Proofs.YtadaeokidcgdlaaGreatDoor
open Go Go.Ae
attribute [local simp] aop aopW coldF extF putA ofConst flat scalarOp fastOp binFast intOp strOp guardX Ae.part rowOf szOk natOf lenA cls fillA splice newsOf isNilC cellX

set_option maxHeartbeats 8000000
theorem val_Order1 (M : Nat) (v w : V) (b : Bool) (h : Hp) (c : Int) (p q : Bool)
    (hv : ∀ b h, callN cx (M + 1) b 53 [evV v] h = some (.sc (.bool p), h)) (hw : ∀ b h, callN cx (M + 1) b 53 [evV w] h = some (.sc (.bool q), h))
    (ho : p = true → q = true → ∀ b h, callN cx (M + 1) b 54 [evV v, evV w] h = some (.sc (.int .i64 c), h)) (hpq : ¬ (p = false ∧ q = false)) :
    callN cx (M + 2) b 20 [evV v, evV w] h = some (.sc (.int .i64 (bif p then (bif q then c else -1) else 1)), h) := by
  have hca := calm_evV2 v w
  refine pure_calm (r := .sc (.int .i64 (bif p then (bif q then c else -1) else 1))) (n := M + 1) ⟨Tryz.f20.ntmps, (Tryz.f20.body).getD .skip, [.tmp 4]⟩ (by kernel_rfl) (by kernel_rfl) rfl (by kernel_rfl) (by simp [Tryz.f20]) hca rfl ?_ b h
  clear hca
  cases v with
  | mk k n d s z l =>
    cases w with
    | mk k' n' d' s' z' l' =>
      rw [evV_eq] at hv ho ⊢
      rw [evV_eq] at hw ho ⊢
      generalize evL z l = L at hv ho
      generalize evL z' l' = L' at hw ho
      cases p <;> cases q <;> simp at hpq
      · simp [Tryz.f20, hv, hw]
      · simp [Tryz.f20, hv, hw]
      · have ho' := ho rfl rfl
        simp [Tryz.f20, hv, hw, ho']
theorem val_Order2 (M : Nat) (v w : V) (b : Bool) (h : Hp) (c1 c2 c3 c4 c5 : Int)
    (hv : ∀ b h, callN cx (M + 1) b 53 [evV v] h = some (.sc (.bool false), h)) (hw : ∀ b h, callN cx (M + 1) b 53 [evV w] h = some (.sc (.bool false), h))
    (h1 : ∀ b h, callN cx (M + 1) b 49 [.sc (.int .i64 v.k), .sc (.int .i64 w.k)] h = some (.sc (.int .i64 c1), h))
    (h2 : ∀ b h, callN cx (M + 1) b 49 [.sc (.int .i64 v.n), .sc (.int .i64 w.n)] h = some (.sc (.int .i64 c2), h))
    (h3 : ∀ b h, callN cx (M + 1) b 49 [.sc (.int .i64 v.d), .sc (.int .i64 w.d)] h = some (.sc (.int .i64 c3), h))
    (h4 : ∀ b h, callN cx (M + 1) b 50 [.sc (.string v.s), .sc (.string w.s)] h = some (.sc (.int .i64 c4), h))
    (hl : ∀ b h, callN cx (M + 1) b 55 [evL v.isNil v.l, evL w.isNil w.l, .fn 20 []] h = some (.sc (.int .i64 c5), h)) :
    callN cx (M + 2) b 20 [evV v, evV w] h = some (.sc (.int .i64 (orI [c1, c2, c3, c4, c5])), h) := by
  have hca := calm_evV2 v w
  refine pure_calm (r := .sc (.int .i64 (orI [c1, c2, c3, c4, c5]))) (n := M + 1) ⟨Tryz.f20.ntmps, (Tryz.f20.body).getD .skip, [.tmp 4]⟩ (by kernel_rfl) (by kernel_rfl) rfl (by kernel_rfl) (by simp [Tryz.f20]) hca rfl ?_ b h
  clear hca
  cases v with
  | mk k n d s z l =>
    cases w with
    | mk k' n' d' s' z' l' =>
      simp only [V.k, V.n, V.d, V.s, V.l, V.isNil] at h1 h2 h3 h4 hl
      rw [evV_eq] at hv ⊢
      rw [evV_eq] at hw ⊢
      have hL : (∃ r, evL z l = .ls 5 r z) ∨ evL z l = .sc (.slice none 0 0) := (lsV_cases z l).elim (fun e => .inr e.2) (fun e => .inl ⟨_, e⟩)
      have hL' : (∃ r, evL z' l' = .ls 5 r z') ∨ evL z' l' = .sc (.slice none 0 0) := (lsV_cases z' l').elim (fun e => .inr e.2) (fun e => .inl ⟨_, e⟩)
      generalize evL z l = L at hv hl hL
      generalize evL z' l' = L' at hw hl hL'
      have hor := fun b => Or_own M b [.row [.sc (.int .i64 k), .sc (.int .i64 n), .sc (.int .i64 d), .sc (.string s), L], .row [.sc (.int .i64 k'), .sc (.int .i64 n'), .sc (.int .i64 d'), .sc (.string s'), L'], .row [.sc (.int .i64 c1), .sc (.int .i64 c2), .sc (.int .i64 c3), .sc (.int .i64 c4), .sc (.int .i64 c5)]] 2 5 [c1, c2, c3, c4, c5] rfl rfl (by simp)
      generalize orI [c1, c2, c3, c4, c5] = o at hor
      rcases hL with ⟨r, rfl⟩ | rfl <;> rcases hL' with ⟨r', rfl⟩ | rfl <;> simp [Tryz.f20, hv, hw, h1, h2, h3, h4, hl, hor]
theorem C_Order_all : ∀ (D : Nat) (v w : V), dep v ≤ D → dep w ≤ D → bdV v → bdV w → ∀ N, C_Order (N + 2 * D + 7) v w := by
  intro D
  induction D with
  | zero => intro v w h; have := dep_pos v; omega
  | succ D ih =>
    intro v w dv dw bv bw N b h
    have hl := val_lists_Order (N + 2 * D + 7) v.isNil w.isNil v.l w.l (bdV_l bv).1 (bdV_l bw).1 (fun x hx y hy => ih x y (dep_l dv x hx) (dep_l dw y hy) ((bdV_l bv).2 x hx) ((bdV_l bw).2 y hy) N)
    have hv := fun b h => val_Valid (N + 2) (D + 1) v dv bv b h
    have hw := fun b h => val_Valid (N + 2) (D + 1) w dw bw b h
    rw [show N + 2 + 2 * (D + 1) + 4 = N + 2 * D + 7 + 1 by omega] at hv hw
    rw [show N + 2 * (D + 1) + 7 = N + 2 * D + 7 + 2 by omega]
    by_cases hn : okT v = false ∧ okT w = false
    · rw [hn.1] at hv
      rw [hn.2] at hw
      have := val_Order2 (N + 2 * D + 7) v w b h _ _ _ _ _ hv hw (fun b h => Compare_int (N + 2 * D + 6) b _ _ h) (fun b h => Compare_int (N + 2 * D + 6) b _ _ h) (fun b h => Compare_int (N + 2 * D + 6) b _ _ h) (fun b h => Compare_str (N + 2 * D + 6) b _ _ h) hl
      simp only [evV] at this
      rw [this, ordV_eq' v w, hn.1, hn.2]
      rfl
    · have := val_Order1 (N + 2 * D + 7) v w b h (ordV v w) (okT v) (okT w) hv hw (fun ov ow b h => by
        have := C_order_all (D + 1) v w dv dw bv bw ov ow N b h
        rw [show N + 2 * (D + 1) + 6 = N + 2 * D + 7 + 1 by omega] at this
        exact this) hn
      simp only [evV] at this
      rw [this, ordV_eq' v w]
      cases hp : okT v <;> cases hq : okT w
      · exact absurd ⟨hp, hq⟩ hn
      · rfl
      · rfl
      · simp only [cond_true]
def encP (p : Pr) : List AV := [.sc (.int .i64 p.k), .sc (.string p.n), .sc (.string p.y)] ++ enc p.v
def evP (p : Pr) : AV := .ag (encP p)
theorem calm_evP (p : Pr) : calm (evP p) = true := by
  cases p with
  | mk k n y v =>
    cases v with
    | mk k' n' d' s' z' l' => simp only [evP, encP, enc, calm, lsV]; cases z' && (encL l').isEmpty <;> rfl
theorem calm_evP2 (p q : Pr) : [evP p, evP q].all calm = true := by rw [List.all_cons, List.all_cons, calm_evP, calm_evP]; rfl
theorem fp_Order (M : Nat) (p q : Pr) (b : Bool) (h : Hp) (c : Int) (ho : ∀ b h, callN cx (M + 2) b 20 [.ag (enc p.v), .ag (enc q.v)] h = some (.sc (.int .i64 c), h)) :
    callN cx (M + 3) b 18 [evP p, evP q] h = some (.sc (.int .i64 (orI [cmpI p.k q.k, cmpS p.n q.n, cmpS p.y q.y, c])), h) := by
  have hca := calm_evP2 p q
  refine pure_calm (r := .sc (.int .i64 (orI [cmpI p.k q.k, cmpS p.n q.n, cmpS p.y q.y, c]))) (n := M + 2) ⟨Tryz.f18.ntmps, (Tryz.f18.body).getD .skip, [.tmp 4]⟩ (by kernel_rfl) (by kernel_rfl) rfl (by kernel_rfl) (by simp [Tryz.f18]) hca rfl ?_ b h
  clear hca
  have h1 := fun b h => Compare_int M b p.k q.k h
  have h2 := fun b h => Compare_str M b p.n q.n h
  have h3 := fun b h => Compare_str M b p.y q.y h
  generalize cmpI p.k q.k = c1 at h1
  generalize cmpS p.n q.n = c2 at h2
  generalize cmpS p.y q.y = c3 at h3
  cases p with
  | mk pk pn py v =>
    cases q with
    | mk qk qn qy w =>
      cases v with
      | mk k n d s z l =>
        cases w with
        | mk k' n' d' s' z' l' =>
          have e1 : evP ⟨pk, pn, py, .mk k n d s z l⟩ = .ag [.sc (.int .i64 pk), .sc (.string pn), .sc (.string py), .sc (.int .i64 k), .sc (.int .i64 n), .sc (.int .i64 d), .sc (.string s), evL z l] := rfl
          have e2 : evP ⟨qk, qn, qy, .mk k' n' d' s' z' l'⟩ = .ag [.sc (.int .i64 qk), .sc (.string qn), .sc (.string qy), .sc (.int .i64 k'), .sc (.int .i64 n'), .sc (.int .i64 d'), .sc (.string s'), evL z' l'] := rfl
          rw [e1, e2]
          have e3 : enc (.mk k n d s z l) = [.sc (.int .i64 k), .sc (.int .i64 n), .sc (.int .i64 d), .sc (.string s), evL z l] := rfl
          have e4 : enc (.mk k' n' d' s' z' l') = [.sc (.int .i64 k'), .sc (.int .i64 n'), .sc (.int .i64 d'), .sc (.string s'), evL z' l'] := rfl
          simp only [e3, e4] at ho h1 h2 h3
          clear e1 e2 e3 e4
          generalize evL z l = L at ho
          generalize evL z' l' = L' at ho
          have hor := fun b => Or_own (M + 1) b [.row [.sc (.int .i64 pk), .sc (.string pn), .sc (.string py), .sc (.int .i64 k), .sc (.int .i64 n), .sc (.int .i64 d), .sc (.string s), L], .row [.sc (.int .i64 qk), .sc (.string qn), .sc (.string qy), .sc (.int .i64 k'), .sc (.int .i64 n'), .sc (.int .i64 d'), .sc (.string s'), L'], .row [.sc (.int .i64 c1), .sc (.int .i64 c2), .sc (.int .i64 c3), .sc (.int .i64 c)]] 2 4 [c1, c2, c3, c] rfl rfl (by simp)
          generalize orI [c1, c2, c3, c] = o at hor
          simp [Tryz.f18, h1, h2, h3, ho, hor]
theorem rf_Order (M : Nat) (p q : Pr) (b : Bool) (h : Hp) (c : Int) (ho : ∀ b h, callN cx (M + 1) b 52 [.ag (enc p.v), .ag (enc q.v)] h = some (.sc (.int .i64 c), h)) :
    callN cx (M + 2) b 19 [evP p, evP q] h = some (.sc (.int .i64 (orI [cmpI p.k q.k, cmpS p.n q.n, cmpS p.y q.y, c])), h) := by
  have hca := calm_evP2 p q
  refine pure_calm (r := .sc (.int .i64 (orI [cmpI p.k q.k, cmpS p.n q.n, cmpS p.y q.y, c]))) (n := M + 1) ⟨Tryz.f19.ntmps, (Tryz.f19.body).getD .skip, [.tmp 4]⟩ (by kernel_rfl) (by kernel_rfl) rfl (by kernel_rfl) (by simp [Tryz.f19]) hca rfl ?_ b h
  clear hca
  have h2 := fun b h => r45_texts M b p.n q.n h
  have h3 := fun b h => r45_texts M b p.y q.y h
  generalize cmpS p.n q.n = c2 at h2
  generalize cmpS p.y q.y = c3 at h3
  cases p with
  | mk pk pn py v =>
    cases q with
    | mk qk qn qy w =>
      cases v with
      | mk k n d s z l =>
        cases w with
        | mk k' n' d' s' z' l' =>
          have e1 : evP ⟨pk, pn, py, .mk k n d s z l⟩ = .ag [.sc (.int .i64 pk), .sc (.string pn), .sc (.string py), .sc (.int .i64 k), .sc (.int .i64 n), .sc (.int .i64 d), .sc (.string s), evL z l] := rfl
          have e2 : evP ⟨qk, qn, qy, .mk k' n' d' s' z' l'⟩ = .ag [.sc (.int .i64 qk), .sc (.string qn), .sc (.string qy), .sc (.int .i64 k'), .sc (.int .i64 n'), .sc (.int .i64 d'), .sc (.string s'), evL z' l'] := rfl
          rw [e1, e2]
          have e3 : enc (.mk k n d s z l) = [.sc (.int .i64 k), .sc (.int .i64 n), .sc (.int .i64 d), .sc (.string s), evL z l] := rfl
          have e4 : enc (.mk k' n' d' s' z' l') = [.sc (.int .i64 k'), .sc (.int .i64 n'), .sc (.int .i64 d'), .sc (.string s'), evL z' l'] := rfl
          simp only [e3, e4] at ho h2 h3 ⊢
          clear e1 e2 e3 e4
          generalize evL z l = L at ho
          generalize evL z' l' = L' at ho
          by_cases k1 : pk < qk
          · simp [Tryz.f19, k1, show ¬ pk = qk by omega, cmpI, orI]
          by_cases k2 : qk < pk
          · simp [Tryz.f19, k1, k2, show ¬ pk = qk by omega, cmpI, orI]
          obtain rfl : pk = qk := by omega
          by_cases k3 : c2 = 0
          · subst k3
            by_cases k4 : c3 = 0
            · subst k4
              simp [Tryz.f19, h2, h3, ho, cmpI, orI]
            · simp [Tryz.f19, h2, h3, k4, cmpI, orI]
          · simp [Tryz.f19, h2, k3, cmpI, orI]
end Go.Proofs.YtadaeokidcgdlaaGreatDoor
