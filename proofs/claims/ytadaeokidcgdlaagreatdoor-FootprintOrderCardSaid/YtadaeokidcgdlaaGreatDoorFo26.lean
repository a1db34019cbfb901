/-
  Contracts: valid of the program's values at lists, and in all.
-/
import Derived.Test.YtadaeokidcgdlaaGreatDoorFo25
set_option linter.unusedSimpArgs false
set_option maxRecDepth 100000
namespace Go.Proofs.YtadaeokidcgdlaaGreatDoor
open Go Go.Ae
attribute [local simp] aop aopW coldF extF putA ofConst flat scalarOp fastOp binFast intOp strOp guardX Ae.part rowOf szOk natOf lenA cls fillA splice newsOf isNilC cellX

set_option maxHeartbeats 8000000
theorem val_validX (M : Nat) (k n d q : Int) (s : ByteArray) (z : Bool) (l : List V) (b : Bool) (h : Hp) (h0 : ¬ k = 0) (h1 : ¬ k = 1) (h2 : ¬ k = 2) (h3 : ¬ k = 3) (h4 : ¬ k = 4) (h5 : ¬ k = 5) (h6 : ¬ k = 6) (h7 : ¬ k = 7) (h8 : ¬ k = 8) : callN cx (M + 1) b 103 [evV (.mk k n d s z l), .sc (.int .i64 q)] h = some (.sc (.bool (okV (.mk k n d s z l) (8 - q))), h) := by
  refine pure_calm (r := .sc (.bool (okV (.mk k n d s z l) (8 - q)))) (n := M) ⟨Tryz.f103.ntmps, (Tryz.f103.body).getD .skip, [.tmp 4]⟩ (by kernel_rfl) (by kernel_rfl) rfl (by kernel_rfl) (by simp [Tryz.f103]) (calm_valid _ _) rfl ?_ b h
  rw [okV_bare, evV_eq]
  have hl := lsV_3 z l
  generalize evL z l = L at hl
  generalize l.isEmpty = E at hl
  by_cases hd : d = 0
  rotate_left
  · simp [Tryz.f103, h0, h1, h2, h3, h4, h5, h6, h7, h8, hd]
  cases hs : eqS s ⟨#[]⟩
  · simp [Tryz.f103, h0, h1, h2, h3, h4, h5, h6, h7, h8, hd, hs]
  rcases hl with ⟨rfl, rfl⟩ | ⟨rfl, rfl⟩ | ⟨rows, rfl, hr, rfl⟩
  rotate_right
  · simp [Tryz.f103, h0, h1, h2, h3, h4, h5, h6, h7, h8, hd, hs, hr]
  all_goals simp [Tryz.f103, h0, h1, h2, h3, h4, h5, h6, h7, h8, hd, hs]
theorem val_valid8 (M : Nat) (n d q : Int) (s : ByteArray) (z : Bool) (l : List V) (b : Bool) (h : Hp) (hq0 : 0 ≤ q) (hq8 : q ≤ 8) (hv : ∀ x ∈ l, PVC M x) : callN cx (M + 1) b 103 [evV (.mk 8 n d s z l), .sc (.int .i64 q)] h = some (.sc (.bool (okV (.mk 8 n d s z l) (8 - q))), h) := by
  refine pure_calm (r := .sc (.bool (okV (.mk 8 n d s z l) (8 - q)))) (n := M) ⟨Tryz.f103.ntmps, (Tryz.f103.body).getD .skip, [.tmp 4]⟩ (by kernel_rfl) (by kernel_rfl) rfl (by kernel_rfl) (by simp [Tryz.f103]) (calm_valid _ _) rfl ?_ b h
  rw [okV_bare, evV_eq]
  unfold bareV
  simp only [V.n, V.d, V.s, V.l]
  by_cases hd : d = 0
  rotate_left
  · simp [Tryz.f103, hd]
  cases hs : eqS s ⟨#[]⟩
  · simp [Tryz.f103, hd, hs]
  by_cases hn : n = 0
  rotate_left
  · simp [Tryz.f103, hd, hs, hn]
  unfold okLst
  have e1 : decide (1 ≤ 8 - q) = !decide (8 ≤ q) := by
    by_cases c : 8 ≤ q
    · rw [decide_eq_true c, decide_eq_false (by omega)]; rfl
    · rw [decide_eq_false c, decide_eq_true (by omega)]; rfl
  rw [e1]
  rcases lsV_cases z l with ⟨rfl, e⟩ | e
  · rw [e]
    by_cases h3 : 8 ≤ q
    · simp [Tryz.f103, hd, hs, hn, h3]
    simp [Tryz.f103, hd, hs, hn, h3, okL]
    refine loop_up (C := cx) (G := fun r => ∃ h', finX _ (thenX _ _ (blockX _ (thenX _ _ (blockX _ r) _)) _) = some (_, h'))
      (fun i s => i = 0 ∧ s.1.length = 142 ∧ gt s.1 121 = .sc (.int .i64 0) ∧ gt s.1 122 = .sc (.int .i64 0))
      (fun o s => s.1.length = 142 ∧ o = .exit 1) 0 (by simp) (by simp) ?_ ?_
    · rintro i fr h hle ⟨rfl, hlen, h121, h122⟩
      simp only at hlen h121 h122
      simp [hlen, h121, h122]
    · rintro o fr h hn ⟨hlen, rfl⟩
      simp only at hlen
      simp [hlen]
  · rw [e]
    have hz := encL_length l
    have hg := encL_get l
    generalize encL l = rows at hz hg
    by_cases h2 : 64 < (l.length : Int)
    · simp [Tryz.f103, hd, hs, hn, hz, h2, show ¬ (l.length : Int) ≤ 64 by omega]
    have h2' : (l.length : Int) ≤ 64 := by omega
    by_cases h3 : 8 ≤ q
    · simp [Tryz.f103, hd, hs, hn, hz, h2, h2', h3]
    simp [Tryz.f103, hd, hs, hn, hz, h2, h2', h3]
    have hf1 : fitI .i64 (q + 1) = q + 1 := fit_i64 (by omega) (by omega)
    have e2 : (8 : Int) - q - 1 = 8 - (q + 1) := by omega
    rw [e2]
    refine loop_up (C := cx) (G := fun r => ∃ h', finX _ (thenX _ _ (blockX _ (thenX _ _ (blockX _ r) _)) _) = some (_, h'))
      (fun i s => okL l (8 - (q + 1)) = okLD l (8 - (q + 1)) i ∧ s.1.length = 142 ∧ gt s.1 1 = .sc (.int .i64 q) ∧ gt s.1 120 = .ls 5 rows z ∧ gt s.1 121 = .sc (.int .i64 l.length) ∧ gt s.1 122 = .sc (.int .i64 i))
      (fun o s => s.1.length = 142 ∧ ((o = .exit 1 ∧ okL l (8 - (q + 1)) = true) ∨ (o = .ret ∧ okL l (8 - (q + 1)) = false ∧ gt s.1 4 = .sc (.bool false)))) l.length (by simp; omega) (by simp [okLD_zero]) ?_ ?_
    · rintro i fr h hle ⟨ho, hlen, h1, h120, h121, h122⟩
      simp only at hlen h1 h120 h121 h122
      by_cases hi : i < l.length
      · obtain ⟨c, hc⟩ : ∃ c, l[i]? = some c := ⟨_, List.getElem?_eq_getElem hi⟩
        have hr : rows[i]? = some (enc c) := by rw [hg, hc]; rfl
        have hr' : ∀ k, rows[i]'k = enc c := fun k => by obtain ⟨_, e⟩ := List.getElem?_eq_some_iff.1 hr; exact e
        have hcv := hv c (List.mem_of_getElem? hc)
        have hcall := fun b h => hcv b (q + 1) h (by omega) (by omega)
        rw [okLD_step hc] at ho
        have hf : fitI .i64 ((i : Int) + 1) = ((i + 1 : Nat) : Int) := fit_i64 (by omega) (by omega)
        generalize okV c (8 - (q + 1)) = K at hcall ho
        cases c with
        | mk k' n' d' s' z' l' =>
          simp only [enc] at hr hr' hcall
          generalize lsV z' (encL l') = L' at hr hr' hcall
          cases K
          · have zz : okL l (8 - (q + 1)) = false := by rw [ho]; rfl
            clear ho
            simp [hlen, h1, h120, h121, h122, hi, hz, hr, hr', hf1, hcall, zz]
          · have zz : okL l (8 - (q + 1)) = okLD l (8 - (q + 1)) (i + 1) := by rw [ho]; rfl
            clear ho
            simp [hlen, h1, h120, h121, h122, hi, hz, hr, hr', hf1, hcall, hf]
            exact zz
      · have zz : okL l (8 - (q + 1)) = true := by rw [ho, okLD_end l _ i (by omega)]
        simp [hlen, h1, h120, h121, h122, hi, hz, zz]
    · rintro o fr h hn ⟨hlen, ⟨rfl, hz⟩ | ⟨rfl, hz, h2⟩⟩
      · simp only at hlen
        simp [hlen, hz]
      · simp only at h2
        simp [h2, hz]
theorem val_valid (N : Nat) (v : V) (hs : v.s.size ≤ 1000000000000000) (hv3 : ∀ x ∈ v.l, PVC (N + 3) x) (hv4 : ∀ x ∈ v.l, PVC (N + 4) x) : PVC (N + 5) v := by
  intro b q h hq0 hq8
  cases v with
  | mk k n d s z l =>
    simp only [V.s, V.l] at hs hv3 hv4
    have g1 := fun b h => num_In (N + 3) b n h
    have g2 := fun b h => frac_Valid (N + 1) b n d h
    have g3 := fun b h => str_IndexFunc (N + 1) b s h hs
    have g4 := fun b h => val_path (N + 3) b z l h hv3
    simp only [frA] at g2
    show callN cx (N + 5) b 103 [evV (.mk k n d s z l), .sc (.int .i64 q)] h = _
    by_cases h0 : k = 0
    · subst h0; exact val_valid0 (N + 4) n d q s z l b h
    by_cases h1 : k = 1
    · subst h1; exact val_valid1 (N + 4) n d q s z l b h
    by_cases h2 : k = 2
    · subst h2; exact val_valid2 (N + 4) n d q s z l b h g1
    by_cases h3 : k = 3
    · subst h3; exact val_valid3 (N + 4) n d q s z l b h g2
    by_cases h4 : k = 4
    · subst h4; exact val_valid4 (N + 4) n d q s z l b h g3
    by_cases h5 : k = 5
    · subst h5; exact val_valid5 (N + 4) n d q s z l b h
    by_cases h6 : k = 6
    · subst h6; exact val_valid6 (N + 4) n d q s z l b h
    by_cases h7 : k = 7
    · subst h7; exact val_valid7 (N + 4) n d q s z l b h g4
    by_cases h8 : k = 8
    · subst h8; exact val_valid8 (N + 4) n d q s z l b h hq0 hq8 hv4
    exact val_validX (N + 4) k n d q s z l b h h0 h1 h2 h3 h4 h5 h6 h7 h8
theorem PVC_all : ∀ (D : Nat) (v : V), dep v ≤ D → bdV v → ∀ N, PVC (N + 2 * D + 3) v := by
  intro D
  induction D with
  | zero => intro v h; have := dep_pos v; omega
  | succ D ih =>
    intro v h hb N
    have hl : ∀ x ∈ v.l, dep x ≤ D ∧ bdV x := fun x hx => ⟨dep_l h x hx, (bdV_l hb).2 x hx⟩
    have hs : v.s.size ≤ 1000000000000000 := by cases v; rw [bdV] at hb; exact hb.1
    have := val_valid (N + 2 * D) v hs (fun x hx => ih x (hl x hx).1 (hl x hx).2 N) (fun x hx => by
      have := ih x (hl x hx).1 (hl x hx).2 (N + 1)
      rwa [show N + 1 + 2 * D + 3 = N + 2 * D + 4 by omega] at this)
    rw [show N + 2 * (D + 1) + 3 = N + 2 * D + 5 by omega]
    exact this
end Go.Proofs.YtadaeokidcgdlaaGreatDoor
