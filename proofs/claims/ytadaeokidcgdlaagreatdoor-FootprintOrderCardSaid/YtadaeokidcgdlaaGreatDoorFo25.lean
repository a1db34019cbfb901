/-
  Contracts: valid of the program's values, all but lists.
-/
import Derived.Test.YtadaeokidcgdlaaGreatDoorFoC
set_option linter.unusedSimpArgs false
set_option maxRecDepth 100000
namespace Go.Proofs.YtadaeokidcgdlaaGreatDoor
open Go Go.Ae
attribute [local simp] aop aopW coldF extF putA ofConst flat scalarOp fastOp binFast intOp strOp guardX Ae.part rowOf szOk natOf lenA cls fillA splice newsOf isNilC cellX

set_option maxHeartbeats 8000000
theorem lsV_3 (z : Bool) (l : List V) : (evL z l = .sc (.slice none 0 0) ∧ l.isEmpty = true) ∨ (evL z l = .ls 5 [] z ∧ l.isEmpty = true) ∨ ∃ rows, evL z l = .ls 5 rows z ∧ 0 < rows.length ∧ l.isEmpty = false := by
  rcases lsV_cases z l with ⟨rfl, e⟩ | e
  · exact .inl ⟨e, rfl⟩
  · cases l with
    | nil => exact .inr (.inl ⟨e, rfl⟩)
    | cons x xs => exact .inr (.inr ⟨_, e, by rw [encL_length]; simp, rfl⟩)
theorem calm_valid (v : V) (q : Int) : [evV v, .sc (.int .i64 q)].all calm = true := by rw [List.all_cons, calm_evV]; rfl
def OkIdx (w : Int) (S : Bool) : Prop := (w < 0) = (S = true)
theorem val_valid0 (M : Nat) (n d q : Int) (s : ByteArray) (z : Bool) (l : List V) (b : Bool) (h : Hp) : callN cx (M + 1) b 103 [evV (.mk 0 n d s z l), .sc (.int .i64 q)] h = some (.sc (.bool (okV (.mk 0 n d s z l) (8 - q))), h) := by
  refine pure_calm (r := .sc (.bool (okV (.mk 0 n d s z l) (8 - q)))) (n := M) ⟨Tryz.f103.ntmps, (Tryz.f103.body).getD .skip, [.tmp 4]⟩ (by kernel_rfl) (by kernel_rfl) rfl (by kernel_rfl) (by simp [Tryz.f103]) (calm_valid _ _) rfl ?_ b h
  rw [okV_bare, evV_eq]
  unfold bareV
  simp only [V.n, V.d, V.s, V.l]
  have hl := lsV_3 z l
  generalize evL z l = L at hl
  generalize l.isEmpty = E at hl
  by_cases hd : d = 0
  rotate_left
  · simp [Tryz.f103, hd]
  cases hs : eqS s ⟨#[]⟩
  · simp [Tryz.f103, hs, hd]
  rcases hl with ⟨rfl, rfl⟩ | ⟨rfl, rfl⟩ | ⟨rows, rfl, hr, rfl⟩
  rotate_right
  · simp [Tryz.f103, hr, hd, hs]
  all_goals
    by_cases hn : n = 0 <;> simp [Tryz.f103, hn, hd, hs]

theorem val_valid1 (M : Nat) (n d q : Int) (s : ByteArray) (z : Bool) (l : List V) (b : Bool) (h : Hp) : callN cx (M + 1) b 103 [evV (.mk 1 n d s z l), .sc (.int .i64 q)] h = some (.sc (.bool (okV (.mk 1 n d s z l) (8 - q))), h) := by
  refine pure_calm (r := .sc (.bool (okV (.mk 1 n d s z l) (8 - q)))) (n := M) ⟨Tryz.f103.ntmps, (Tryz.f103.body).getD .skip, [.tmp 4]⟩ (by kernel_rfl) (by kernel_rfl) rfl (by kernel_rfl) (by simp [Tryz.f103]) (calm_valid _ _) rfl ?_ b h
  rw [okV_bare, evV_eq]
  unfold bareV
  simp only [V.n, V.d, V.s, V.l]
  have hl := lsV_3 z l
  generalize evL z l = L at hl
  generalize l.isEmpty = E at hl
  by_cases hd : d = 0
  rotate_left
  · simp [Tryz.f103, hd]
  cases hs : eqS s ⟨#[]⟩
  · simp [Tryz.f103, hs, hd]
  rcases hl with ⟨rfl, rfl⟩ | ⟨rfl, rfl⟩ | ⟨rows, rfl, hr, rfl⟩
  rotate_right
  · simp [Tryz.f103, hr, hd, hs]
  all_goals
    by_cases hn : n = 0
    · simp [Tryz.f103, hn, hd, hs]
    · simp [Tryz.f103, hn, hd, hs]

theorem val_valid2 (M : Nat) (n d q : Int) (s : ByteArray) (z : Bool) (l : List V) (b : Bool) (h : Hp) (g1 : ∀ b h, callN cx M b 172 [.sc (.int .i64 n)] h = some (.sc (.bool (inR n)), h)) : callN cx (M + 1) b 103 [evV (.mk 2 n d s z l), .sc (.int .i64 q)] h = some (.sc (.bool (okV (.mk 2 n d s z l) (8 - q))), h) := by
  refine pure_calm (r := .sc (.bool (okV (.mk 2 n d s z l) (8 - q)))) (n := M) ⟨Tryz.f103.ntmps, (Tryz.f103.body).getD .skip, [.tmp 4]⟩ (by kernel_rfl) (by kernel_rfl) rfl (by kernel_rfl) (by simp [Tryz.f103]) (calm_valid _ _) rfl ?_ b h
  rw [okV_bare, evV_eq]
  unfold bareV
  simp only [V.n, V.d, V.s, V.l]
  have hl := lsV_3 z l
  generalize evL z l = L at hl
  generalize l.isEmpty = E at hl
  by_cases hd : d = 0
  rotate_left
  · simp [Tryz.f103, hd, g1]
  cases hs : eqS s ⟨#[]⟩
  · simp [Tryz.f103, hs, g1, hd]
  rcases hl with ⟨rfl, rfl⟩ | ⟨rfl, rfl⟩ | ⟨rows, rfl, hr, rfl⟩
  rotate_right
  · simp [Tryz.f103, hr, g1, hd, hs]
  all_goals simp [Tryz.f103, g1, hd, hs]

theorem val_valid3 (M : Nat) (n d q : Int) (s : ByteArray) (z : Bool) (l : List V) (b : Bool) (h : Hp) (g2 : ∀ b h, callN cx M b 173 [.ag [.sc (.int .i64 n), .sc (.int .i64 d)]] h = some (.sc (.bool (fv n d)), h)) : callN cx (M + 1) b 103 [evV (.mk 3 n d s z l), .sc (.int .i64 q)] h = some (.sc (.bool (okV (.mk 3 n d s z l) (8 - q))), h) := by
  refine pure_calm (r := .sc (.bool (okV (.mk 3 n d s z l) (8 - q)))) (n := M) ⟨Tryz.f103.ntmps, (Tryz.f103.body).getD .skip, [.tmp 4]⟩ (by kernel_rfl) (by kernel_rfl) rfl (by kernel_rfl) (by simp [Tryz.f103]) (calm_valid _ _) rfl ?_ b h
  rw [okV_bare, evV_eq]
  unfold bareV
  simp only [V.n, V.d, V.s, V.l]
  have hl := lsV_3 z l
  generalize evL z l = L at hl
  generalize l.isEmpty = E at hl
  cases hs : eqS s ⟨#[]⟩
  · simp [Tryz.f103, hs, g2]
  rcases hl with ⟨rfl, rfl⟩ | ⟨rfl, rfl⟩ | ⟨rows, rfl, hr, rfl⟩
  rotate_right
  · simp [Tryz.f103, hr, g2, hs]
  all_goals
    by_cases hd : 2 ≤ d <;> simp [Tryz.f103, hd, g2, hs]

theorem val_valid4 (M : Nat) (n d q : Int) (s : ByteArray) (z : Bool) (l : List V) (b : Bool) (h : Hp) (g3 : ∀ b h, callN cx M b 174 [.sc (.string s), .fn 175 []] h = some (.sc (.int .i64 (idxD s 0)), h)) : callN cx (M + 1) b 103 [evV (.mk 4 n d s z l), .sc (.int .i64 q)] h = some (.sc (.bool (okV (.mk 4 n d s z l) (8 - q))), h) := by
  refine pure_calm (r := .sc (.bool (okV (.mk 4 n d s z l) (8 - q)))) (n := M) ⟨Tryz.f103.ntmps, (Tryz.f103.body).getD .skip, [.tmp 4]⟩ (by kernel_rfl) (by kernel_rfl) rfl (by kernel_rfl) (by simp [Tryz.f103]) (calm_valid _ _) rfl ?_ b h
  rw [okV_bare, evV_eq]
  unfold bareV
  simp only [V.n, V.d, V.s, V.l]
  have hl := lsV_3 z l
  generalize evL z l = L at hl
  generalize l.isEmpty = E at hl
  by_cases hd : d = 0
  rotate_left
  · simp [Tryz.f103, hd]
  rcases hl with ⟨rfl, rfl⟩ | ⟨rfl, rfl⟩ | ⟨rows, rfl, hr, rfl⟩
  rotate_right
  · simp [Tryz.f103, hr, hd]
  all_goals
    have hw := idx_okS s
    generalize idxD s 0 = w at hw g3
    by_cases hn : n = 0
    · by_cases h1 : (s.size : Int) ≤ 100
      · by_cases h2 : w < 0
        · have h3 : okS s = true := by rw [← hw]; exact h2
          simp [Tryz.f103, hn, h1, h2, h3, g3, hd]
        · have h3 : okS s = false := by cases h4 : okS s with | false => rfl | true => rw [h4] at hw; exact absurd (hw.mpr rfl) h2
          simp [Tryz.f103, hn, h1, h2, h3, g3, hd]
      · simp [Tryz.f103, hn, h1, hd]
    · simp [Tryz.f103, hn, hd]

theorem val_valid5 (M : Nat) (n d q : Int) (s : ByteArray) (z : Bool) (l : List V) (b : Bool) (h : Hp) : callN cx (M + 1) b 103 [evV (.mk 5 n d s z l), .sc (.int .i64 q)] h = some (.sc (.bool (okV (.mk 5 n d s z l) (8 - q))), h) := by
  refine pure_calm (r := .sc (.bool (okV (.mk 5 n d s z l) (8 - q)))) (n := M) ⟨Tryz.f103.ntmps, (Tryz.f103.body).getD .skip, [.tmp 4]⟩ (by kernel_rfl) (by kernel_rfl) rfl (by kernel_rfl) (by simp [Tryz.f103]) (calm_valid _ _) rfl ?_ b h
  rw [okV_bare, evV_eq]
  unfold bareV
  simp only [V.n, V.d, V.s, V.l]
  have hl := lsV_3 z l
  generalize evL z l = L at hl
  generalize l.isEmpty = E at hl
  by_cases hd : d = 0
  rotate_left
  · simp [Tryz.f103, hd]
  cases hs : eqS s ⟨#[]⟩
  · simp [Tryz.f103, hs, hd]
  rcases hl with ⟨rfl, rfl⟩ | ⟨rfl, rfl⟩ | ⟨rows, rfl, hr, rfl⟩
  rotate_right
  · simp [Tryz.f103, hr, hd, hs]
  all_goals
    by_cases hn : 1 ≤ n <;> simp [Tryz.f103, hn, hd, hs]

theorem val_valid6 (M : Nat) (n d q : Int) (s : ByteArray) (z : Bool) (l : List V) (b : Bool) (h : Hp) : callN cx (M + 1) b 103 [evV (.mk 6 n d s z l), .sc (.int .i64 q)] h = some (.sc (.bool (okV (.mk 6 n d s z l) (8 - q))), h) := by
  refine pure_calm (r := .sc (.bool (okV (.mk 6 n d s z l) (8 - q)))) (n := M) ⟨Tryz.f103.ntmps, (Tryz.f103.body).getD .skip, [.tmp 4]⟩ (by kernel_rfl) (by kernel_rfl) rfl (by kernel_rfl) (by simp [Tryz.f103]) (calm_valid _ _) rfl ?_ b h
  rw [okV_bare, evV_eq]
  unfold bareV
  simp only [V.n, V.d, V.s, V.l]
  have hl := lsV_3 z l
  generalize evL z l = L at hl
  generalize l.isEmpty = E at hl
  by_cases hd : d = 0
  rotate_left
  · simp [Tryz.f103, hd]
  cases hs : eqS s ⟨#[]⟩
  · simp [Tryz.f103, hs, hd]
  rcases hl with ⟨rfl, rfl⟩ | ⟨rfl, rfl⟩ | ⟨rows, rfl, hr, rfl⟩
  rotate_right
  · simp [Tryz.f103, hr, hd, hs]
  all_goals
    by_cases hn : 1 ≤ n <;> simp [Tryz.f103, hn, hd, hs]

theorem val_valid7 (M : Nat) (n d q : Int) (s : ByteArray) (z : Bool) (l : List V) (b : Bool) (h : Hp) (g4 : ∀ b h, callN cx M b 176 [evL z l] h = some (.sc (.bool (okPth l)), h)) : callN cx (M + 1) b 103 [evV (.mk 7 n d s z l), .sc (.int .i64 q)] h = some (.sc (.bool (okV (.mk 7 n d s z l) (8 - q))), h) := by
  refine pure_calm (r := .sc (.bool (okV (.mk 7 n d s z l) (8 - q)))) (n := M) ⟨Tryz.f103.ntmps, (Tryz.f103.body).getD .skip, [.tmp 4]⟩ (by kernel_rfl) (by kernel_rfl) rfl (by kernel_rfl) (by simp [Tryz.f103]) (calm_valid _ _) rfl ?_ b h
  rw [okV_bare, evV_eq]
  unfold bareV
  simp only [V.n, V.d, V.s, V.l]
  have hl := lsV_3 z l
  generalize evL z l = L at hl g4
  generalize l.isEmpty = E at hl
  by_cases hd : d = 0
  rotate_left
  · simp [Tryz.f103, hd]
  cases hs : eqS s ⟨#[]⟩
  · simp [Tryz.f103, hs, hd]
  rcases hl with ⟨rfl, rfl⟩ | ⟨rfl, rfl⟩ | ⟨rows, rfl, hr, rfl⟩
  all_goals
    by_cases hn : n = 0 <;> simp [Tryz.f103, hn, g4, hd, hs]

end Go.Proofs.YtadaeokidcgdlaaGreatDoor
