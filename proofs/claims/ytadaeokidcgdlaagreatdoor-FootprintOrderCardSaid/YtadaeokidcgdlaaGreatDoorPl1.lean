/-
  The plain law: the order of values is a total order.
-/
import Derived.Test.YtadaeokidcgdlaaGreatDoorFoC
set_option linter.unusedSimpArgs false
namespace Go.Proofs.YtadaeokidcgdlaaGreatDoor
open Go Go.Ae

/-- A comparison that turns its sign and is transitive, on what P holds of. -/
structure Cmp3 {α : Type} (P : α → Prop) (f : α → α → Int) : Prop where
  neg : ∀ a b, P a → P b → f a b = -(f b a)
  tr : ∀ a b c, P a → P b → P c → f a b ≤ 0 → f b c ≤ 0 → f a c ≤ 0
theorem Cmp3.self {α : Type} {P : α → Prop} {f : α → α → Int} (h : Cmp3 P f) {a : α} (ha : P a) : f a a = 0 := by have := h.neg a a ha ha; omega
/-- One comparison, then another where the first one sees no difference. -/
def lexI {α : Type} (f g : α → α → Int) (a b : α) : Int := if f a b = 0 then g a b else f a b
theorem Cmp3.zeros {α : Type} {P : α → Prop} {f : α → α → Int} (hf : Cmp3 P f) {a b c : α} (ha : P a) (hb : P b) (hc : P c) (h1 : f a b ≤ 0) (h2 : f b c ≤ 0) : f a c < 0 ∨ f a c = 0 ∧ f a b = 0 ∧ f b c = 0 := by
  have h3 := hf.tr a b c ha hb hc h1 h2
  by_cases e : f a c = 0
  · right
    have e1 := hf.neg c a hc ha
    have e2 := hf.tr b c a hb hc ha h2 (by omega)
    have e3 := hf.tr c a b hc ha hb (by omega) h1
    have e4 := hf.neg a b ha hb
    have e5 := hf.neg b c hb hc
    omega
  · left; omega
theorem lex_le {f g : Int} (h : (if f = 0 then g else f) ≤ 0) : f ≤ 0 ∧ (f = 0 → g ≤ 0) := by
  by_cases e : f = 0
  · rw [if_pos e] at h; exact ⟨by omega, fun _ => h⟩
  · rw [if_neg e] at h; exact ⟨h, fun q => absurd q e⟩
theorem Cmp3.lex {α : Type} {P : α → Prop} {f g : α → α → Int} (hf : Cmp3 P f) (hgn : ∀ a b, P a → P b → f a b = 0 → g a b = -(g b a))
    (hg : ∀ a b c, P a → P b → P c → f a b = 0 → f b c = 0 → f a c = 0 → g a b ≤ 0 → g b c ≤ 0 → g a c ≤ 0) : Cmp3 P (lexI f g) := {
  neg := fun a b ha hb => by
    have e := hf.neg a b ha hb
    unfold lexI
    by_cases h : f a b = 0
    · rw [if_pos h, if_pos (by omega)]; exact hgn a b ha hb h
    · rw [if_neg h, if_neg (by omega)]; exact e
  tr := fun a b c ha hb hc h1 h2 => by
    unfold lexI at *
    obtain ⟨a1, a2⟩ := lex_le h1
    obtain ⟨b1, b2⟩ := lex_le h2
    rcases hf.zeros ha hb hc a1 b1 with h | ⟨h, h', h''⟩
    · rw [if_neg (by omega)]; omega
    · rw [if_pos h]; exact hg a b c ha hb hc h' h'' h (a2 h') (b2 h'') }
theorem Cmp3.lex' {α : Type} {P : α → Prop} {f g : α → α → Int} (hf : Cmp3 P f) (hg : Cmp3 P g) : Cmp3 P (lexI f g) :=
  hf.lex (fun a b ha hb _ => hg.neg a b ha hb) fun a b c ha hb hc _ _ _ => hg.tr a b c ha hb hc
theorem Cmp3.map {α β : Type} {P : α → Prop} {Q : β → Prop} {f : β → β → Int} (hf : Cmp3 Q f) (k : α → β) (h : ∀ a, P a → Q (k a)) : Cmp3 P (fun a b => f (k a) (k b)) :=
  ⟨fun a b ha hb => hf.neg _ _ (h a ha) (h b hb), fun a b c ha hb hc => hf.tr _ _ _ (h a ha) (h b hb) (h c hc)⟩
theorem Cmp3.anti {α : Type} {P Q : α → Prop} {f : α → α → Int} (hf : Cmp3 Q f) (h : ∀ a, P a → Q a) : Cmp3 P f := hf.map (fun a => a) h

theorem cmpI_zero {x y : Int} : cmpI x y = 0 ↔ x = y := by unfold cmpI; (repeat' split) <;> omega
theorem cmpI_3 (P : Int → Prop) : Cmp3 P cmpI :=
  ⟨fun a b _ _ => by unfold cmpI; (repeat' split) <;> omega, fun a b c _ _ _ => by unfold cmpI; (repeat' split) <;> omega⟩
theorem cmpS_zero {x y : ByteArray} : cmpS x y = 0 ↔ x = y := by
  constructor
  · intro h
    unfold cmpS at h
    cases h1 : ltS x y with
    | true => rw [h1] at h; cases h
    | false =>
      cases h2 : eqS x y with
      | true => exact (eqS_iff x y).1 h2
      | false => rw [h1, ltS_total h1 h2] at h; cases h
  · rintro rfl; simp [cmpS, ltS_irrefl]
theorem cmpS_cases (x y : ByteArray) : (cmpS x y = -1 ∧ ltS x y = true) ∨ (cmpS x y = 0 ∧ x = y) ∨ (cmpS x y = 1 ∧ ltS y x = true) := by
  cases h1 : ltS x y with
  | true => left; simp [cmpS, h1]
  | false =>
    cases h2 : eqS x y with
    | true => right; left; exact ⟨cmpS_zero.2 ((eqS_iff x y).1 h2), (eqS_iff x y).1 h2⟩
    | false => right; right; have := ltS_total h1 h2; simp [cmpS, h1, this]
theorem cmpS_3 (P : ByteArray → Prop) : Cmp3 P cmpS := by
  refine ⟨fun a b _ _ => ?_, fun a b c _ _ _ h1 h2 => ?_⟩
  · rcases cmpS_cases a b with ⟨e, h⟩ | ⟨e, rfl⟩ | ⟨e, h⟩
    · have h' := ltS_asymm h; rw [e]; simp [cmpS, h, h']
    · rw [e]; rfl
    · rw [e]; simp [cmpS, h]
  · rcases cmpS_cases a b with ⟨e, h⟩ | ⟨e, rfl⟩ | ⟨e, h⟩
    · rcases cmpS_cases b c with ⟨e', h'⟩ | ⟨e', rfl⟩ | ⟨e', h'⟩
      · have := ltS_trans h h'; simp [cmpS, this]
      · omega
      · omega
    · exact h2
    · omega
theorem sgnI_neg (x : Int) : sgnI (-x) = -(sgnI x) := by unfold sgnI; (repeat' split) <;> omega
theorem sgnI_le {x : Int} : sgnI x ≤ 0 ↔ x ≤ 0 := by unfold sgnI; (repeat' split) <;> omega
/-- Fractions N/D with a positive D. -/
theorem frac_3 : Cmp3 (fun q : Int × Int => 0 < q.2) (fun p q => sgnI (p.1 * q.2 - q.1 * p.2)) := by
  refine ⟨fun a b _ _ => ?_, fun a b c ha hb hc h1 h2 => ?_⟩
  · rw [← sgnI_neg]; congr 1; omega
  · rw [sgnI_le] at *
    have e1 : a.1 * b.2 * c.2 ≤ b.1 * a.2 * c.2 := Int.mul_le_mul_of_nonneg_right (by omega) (by omega)
    have e2 : b.1 * c.2 * a.2 ≤ c.1 * b.2 * a.2 := Int.mul_le_mul_of_nonneg_right (by omega) (by omega)
    have e3 : b.1 * a.2 * c.2 = b.1 * c.2 * a.2 := by rw [Int.mul_assoc, Int.mul_assoc, Int.mul_comm a.2]
    have e4 : a.1 * b.2 * c.2 = a.1 * c.2 * b.2 := by rw [Int.mul_assoc, Int.mul_assoc, Int.mul_comm b.2]
    have e5 : c.1 * b.2 * a.2 = c.1 * a.2 * b.2 := by rw [Int.mul_assoc, Int.mul_assoc, Int.mul_comm b.2]
    have e6 : a.1 * c.2 * b.2 ≤ c.1 * a.2 * b.2 := by omega
    have := Int.le_of_mul_le_mul_right e6 hb
    omega
theorem ordL_3 {P : V → Prop} (hf : Cmp3 P ordV) : Cmp3 (fun l : List V => ∀ x ∈ l, P x) ordL := by
  have key : ∀ (a b : List V), (∀ x ∈ a, P x) → (∀ x ∈ b, P x) → ordL a b = -(ordL b a) := by
    intro a
    induction a with
    | nil => intro b _ _; cases b <;> simp [ordL]
    | cons x xs ih =>
      intro b ha hb
      cases b with
      | nil => simp [ordL]
      | cons y ys =>
        have e := hf.neg x y (ha x (by simp)) (hb y (by simp))
        simp only [ordL]
        by_cases h : ordV x y = 0
        · rw [if_pos h, if_pos (by omega)]
          exact ih ys (fun z hz => ha z (by simp [hz])) (fun z hz => hb z (by simp [hz]))
        · rw [if_neg h, if_neg (by omega)]; exact e
  refine ⟨fun a b ha hb => key a b ha hb, fun a => ?_⟩
  induction a with
  | nil =>
    intro b c _ _ _ _ _
    cases c <;> simp [ordL]
  | cons x xs ih =>
    intro b c ha hb hc h1 h2
    cases b with
    | nil => simp [ordL] at h1
    | cons y ys =>
      cases c with
      | nil => simp [ordL] at h2
      | cons z zs =>
        simp only [ordL] at h1 h2 ⊢
        obtain ⟨a1, a2⟩ := lex_le h1
        obtain ⟨b1, b2⟩ := lex_le h2
        rcases hf.zeros (ha x (by simp)) (hb y (by simp)) (hc z (by simp)) a1 b1 with h | ⟨h, h', h''⟩
        · rw [if_neg (by omega)]; omega
        · rw [if_pos h]
          exact ih ys zs (fun q hq => ha q (by simp [hq])) (fun q hq => hb q (by simp [hq])) (fun q hq => hc q (by simp [hq])) (a2 h') (b2 h'')
/-- The class of a value; what is not valid comes last. -/
def rnk (v : V) : Int := if okT v then clsV v.k else 100
def nmV (v : V) : Int × Int := (nrmN v.n (if v.k = 2 then 1 else v.d), nrmD v.n (if v.k = 2 then 1 else v.d))
theorem clsV_bd (k : Int) : 0 ≤ clsV k ∧ clsV k ≤ 7 := by unfold clsV; (repeat' split) <;> omega
theorem clsV_two {k : Int} : clsV k = 2 ↔ k = 2 ∨ k = 3 := by unfold clsV; (repeat' split) <;> omega
theorem ordV_eq (v w : V) : ordV v w = if okT v = okT w then (if okT w then (if cmpI (clsV v.k) (clsV w.k) = 0 then (if v.k = 2 ∨ v.k = 3 then cmpF v.n (if v.k = 2 then 1 else v.d) w.n (if w.k = 2 then 1 else w.d) else fldV v w) else cmpI (clsV v.k) (clsV w.k)) else fldV v w) else if okT w then 1 else -1 := by
  cases v; rw [ordV]; rfl
theorem ordV_lex (v w : V) : ordV v w = lexI (fun v w => cmpI (rnk v) (rnk w)) (fun v w => if rnk v = 2 then sgnI ((nmV v).1 * (nmV w).2 - (nmV w).1 * (nmV v).2) else fldV v w) v w := by
  have rt : ∀ v, okT v = true → rnk v = clsV v.k := fun v h => if_pos h
  have rf : ∀ v, okT v = false → rnk v = 100 := fun v h => if_neg (by rw [h]; simp)
  rw [ordV_eq]
  unfold lexI
  dsimp only
  have h1 := clsV_bd v.k
  have h2 := clsV_bd w.k
  have h3 := clsV_two (k := v.k)
  cases hv : okT v <;> cases hw : okT w
  · simp only [rf v hv, rf w hw, cmpI_zero.2 rfl, if_true, Bool.false_eq_true, if_false]
    rw [if_neg (by omega)]
  · simp only [rf v hv, rt w hw, Bool.false_eq_true, if_false, if_true]
    rw [if_neg (by rw [cmpI_zero]; omega)]
    unfold cmpI
    rw [if_neg (by omega), if_pos (by omega)]
  · simp only [rt v hv, rf w hw, Bool.true_eq_false, Bool.false_eq_true, if_false]
    rw [if_neg (by rw [cmpI_zero]; omega)]
    unfold cmpI
    rw [if_pos (by omega)]
  · simp only [rt v hv, rt w hw, if_true, h3, cmpF, nmV]
theorem fldV_lex (v w : V) : fldV v w = lexI (fun v w => cmpI v.k w.k) (lexI (fun v w => cmpI v.n w.n) (lexI (fun v w => cmpI v.d w.d) (lexI (fun v w => cmpS v.s w.s) (fun v w => ordL v.l w.l)))) v w := by
  simp only [fldV, orI, lexI]
  (repeat' split) <;> simp_all
theorem ordV_3 : ∀ D, Cmp3 (fun v => dep v ≤ D) ordV := by
  intro D
  induction D with
  | zero => exact ⟨fun a _ h => by have := dep_pos a; omega, fun a _ _ h => by have := dep_pos a; omega⟩
  | succ D ih =>
    have hL : Cmp3 (fun v : V => dep v ≤ D + 1) (fun v w => ordL v.l w.l) := (ordL_3 ih).map V.l fun v hv => dep_l hv
    have hF : Cmp3 (fun v : V => dep v ≤ D + 1) fldV := by
      have e : fldV = lexI (fun v w => cmpI v.k w.k) (lexI (fun v w => cmpI v.n w.n) (lexI (fun v w => cmpI v.d w.d) (lexI (fun v w => cmpS v.s w.s) (fun v w => ordL v.l w.l)))) := funext fun v => funext fun w => fldV_lex v w
      rw [e]
      exact ((cmpI_3 fun _ => True).map V.k fun _ _ => trivial).lex' (((cmpI_3 fun _ => True).map V.n fun _ _ => trivial).lex' (((cmpI_3 fun _ => True).map V.d fun _ _ => trivial).lex' (((cmpS_3 fun _ => True).map V.s fun _ _ => trivial).lex' hL)))
    have hN : Cmp3 (fun v : V => dep v ≤ D + 1) (fun v w => sgnI ((nmV v).1 * (nmV w).2 - (nmV w).1 * (nmV v).2)) := frac_3.map nmV fun v _ => (nrm_ok _ _).2.2
    have e : ordV = lexI (fun v w => cmpI (rnk v) (rnk w)) (fun v w => if rnk v = 2 then sgnI ((nmV v).1 * (nmV w).2 - (nmV w).1 * (nmV v).2) else fldV v w) := funext fun v => funext fun w => ordV_lex v w
    rw [e]
    refine ((cmpI_3 fun _ => True).map rnk fun _ _ => trivial).lex (fun a b ha hb h => ?_) fun a b c ha hb hc h1 h2 h3 k1 k2 => ?_
    · rw [cmpI_zero] at h
      simp only [← h]
      by_cases q : rnk a = 2
      · rw [if_pos q, if_pos q]; exact hN.neg a b ha hb
      · rw [if_neg q, if_neg q]; exact hF.neg a b ha hb
    · rw [cmpI_zero] at h1 h3
      simp only [← h1] at k2
      by_cases q : rnk a = 2
      · rw [if_pos q] at k1 k2 ⊢; exact hN.tr a b c ha hb hc k1 k2
      · rw [if_neg q] at k1 k2 ⊢; exact hF.tr a b c ha hb hc k1 k2
theorem ordV_neg (v w : V) : ordV v w = -(ordV w v) := (ordV_3 (dep v + dep w)).neg v w (by show dep v ≤ _; omega) (by show dep w ≤ _; omega)
theorem ordV_tr (u v w : V) (h1 : ordV u v ≤ 0) (h2 : ordV v w ≤ 0) : ordV u w ≤ 0 :=
  (ordV_3 (dep u + dep v + dep w)).tr u v w (by show dep u ≤ _; omega) (by show dep v ≤ _; omega) (by show dep w ≤ _; omega) h1 h2
theorem ordV_all : Cmp3 (fun _ : V => True) ordV := ⟨fun a b _ _ => ordV_neg a b, fun a b c _ _ _ => ordV_tr a b c⟩
/-- The order of predicates: kind, name, key, value. -/
structure Pr where
  k : Int
  n : ByteArray
  y : ByteArray
  v : V
def ordP (a b : Pr) : Int := orI [cmpI a.k b.k, cmpS a.n b.n, cmpS a.y b.y, ordV a.v b.v]
theorem ordP_lex (a b : Pr) : ordP a b = lexI (fun a b => cmpI a.k b.k) (lexI (fun a b => cmpS a.n b.n) (lexI (fun a b => cmpS a.y b.y) (fun a b => ordV a.v b.v))) a b := by
  simp only [ordP, orI, lexI]
  (repeat' split) <;> simp_all
theorem ordP_all : Cmp3 (fun _ : Pr => True) ordP := by
  have e : ordP = lexI (fun a b => cmpI a.k b.k) (lexI (fun a b => cmpS a.n b.n) (lexI (fun a b => cmpS a.y b.y) (fun a b => ordV a.v b.v))) := funext fun v => funext fun w => ordP_lex v w
  rw [e]
  exact ((cmpI_3 fun _ => True).map Pr.k fun _ _ => trivial).lex' (((cmpS_3 fun _ => True).map Pr.n fun _ _ => trivial).lex' (((cmpS_3 fun _ => True).map Pr.y fun _ _ => trivial).lex' (ordV_all.map Pr.v fun _ _ => trivial)))
theorem ordP_neg (a b : Pr) : ordP a b = -(ordP b a) := ordP_all.neg a b trivial trivial
theorem ordP_tr (a b c : Pr) (h1 : ordP a b ≤ 0) (h2 : ordP b c ≤ 0) : ordP a c ≤ 0 := ordP_all.tr a b c trivial trivial trivial h1 h2
theorem ordP_zero {a b : Pr} (h : ordP a b = 0) : a.k = b.k ∧ a.n = b.n ∧ a.y = b.y ∧ ordV a.v b.v = 0 := by
  simp only [ordP, orI] at h
  by_cases h1 : cmpI a.k b.k = 0
  · by_cases h2 : cmpS a.n b.n = 0
    · by_cases h3 : cmpS a.y b.y = 0
      · by_cases h4 : ordV a.v b.v = 0
        · exact ⟨cmpI_zero.1 h1, cmpS_zero.1 h2, cmpS_zero.1 h3, h4⟩
        · simp [h1, h2, h3, h4] at h
      · simp [h1, h2, h3] at h
    · simp [h1, h2] at h
  · simp [h1] at h
end Go.Proofs.YtadaeokidcgdlaaGreatDoor
