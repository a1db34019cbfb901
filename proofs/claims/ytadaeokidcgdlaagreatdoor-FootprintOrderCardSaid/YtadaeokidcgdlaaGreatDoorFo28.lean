/-
  Contracts: lists of values compared by a function; the first that is not zero.
-/
import Derived.Test.YtadaeokidcgdlaaGreatDoorFo27
set_option linter.unusedSimpArgs false
set_option maxRecDepth 100000
namespace Go.Proofs.YtadaeokidcgdlaaGreatDoor
open Go Go.Ae
attribute [local simp] aop aopW coldF extF putA ofConst flat scalarOp fastOp binFast intOp strOp guardX Ae.part rowOf szOk natOf lenA cls fillA splice newsOf isNilC cellX

set_option maxHeartbeats 8000000
/-- A call that is handed own slices: it sees what they hold. -/
theorem call_snap {f : FuncId} {args ys : List AV} {n : Nat} {r : AV} {b : Bool} {h : Hp} (hs : cx.srt f = none) (hi : cx.inl f = false) (ha : args.mapM (snap h 8) = some ys) (hc : ys.all calm = true) (hr : scalarRes r = true) (hcall : callN cx (n + 1) b f ys h = some (r, h)) : callN cx (n + 1) b f args h = some (r, h) := by
  have e : ys.mapM (snap h 8) = some ys := mapM_calm (n := 6) hc
  simp only [callN, hs, hi, Bool.false_eq_true, if_false, e, hc, Bool.true_or, if_true, ha] at hcall ⊢
  split at hcall
  · rename_i r0 h0
    simp only [Option.some.injEq, Prod.mk.injEq, and_true] at hcall
    subst hcall
    simp only [hr, Bool.or_true, if_true]
  · cases hcall
theorem snap_ints {h : Hp} {id : Nat} {xs : List Int} (hx : h[id]? = some (.row (xs.map fun x => .sc (.int .i64 x)))) : snap h 8 (.sl id 1 0 xs.length false) = some (.ls 1 (xs.map fun x => [.sc (.int .i64 x)]) false) := by
  have e : ∀ l : List Int, (l.map fun x => AV.sc (.int .i64 x)).mapM (snap h 7) = some (l.map fun x => AV.sc (.int .i64 x)) := by
    intro l
    induction l with
    | nil => rfl
    | cons x l ih => rw [List.map_cons, List.mapM_cons, ih]; rfl
  have e2 : ((xs.map fun x => AV.sc (.int .i64 x)).drop 0).take (xs.length * 1) = xs.map fun x => AV.sc (.int .i64 x) := by
    rw [List.drop_zero, List.take_of_length_le (by simp)]
  have e3 : 0 + xs.length * 1 ≤ (xs.map fun x => AV.sc (.int .i64 x)).length := by simp
  simp only [snap, rowOf, hx, e3, if_true, e2, e, Option.map_some, Option.some.injEq, AV.ls.injEq, true_and, and_true]
  apply List.ext_getElem?
  intro i
  by_cases hi : i < xs.length
  · simp only [List.getElem?_map, List.getElem?_range hi, List.getElem?_eq_getElem hi, Option.map_some, Nat.mul_one]
    rw [List.drop_eq_getElem_cons (by simpa using hi)]
    simp
  · simp [hi]
/-- cmp.Or of a slice that was just built. -/
theorem Or_own (n : Nat) (b : Bool) (h : Hp) (id k : Nat) (xs : List Int) (hk : k = xs.length) (hx : h[id]? = some (.row (xs.map fun x => .sc (.int .i64 x)))) (hl : xs.length ≤ 1000000) : callN cx (n + 1) b 48 [.sl id 1 0 k false] h = some (.sc (.int .i64 (orI xs)), h) := by
  subst hk
  refine call_snap (ys := [.ls 1 (xs.map fun x => [.sc (.int .i64 x)]) false]) rfl (by kernel_rfl) ?_ rfl rfl (Or_int n b xs false h hl)
  rw [List.mapM_cons, snap_ints hx]
  rfl
def C_order (N : Nat) (v w : V) : Prop := ∀ b h, callN cx N b 54 [.ag (enc v), .ag (enc w)] h = some (.sc (.int .i64 (ordV v w)), h)
theorem val_lists_order (N : Nat) (z z' : Bool) (l m : List V) (hl : l.length ≤ 1000000000000000) (hm : m.length ≤ 1000000000000000) (ho : ∀ x ∈ l, ∀ y ∈ m, C_order N x y) (b : Bool) (h : Hp) :
    callN cx (N + 1) b 55 [evL z l, evL z' m, .fn 54 []] h = some (.sc (.int .i64 (ordL l m)), h) := by
  have hc : [evL z l, evL z' m, .fn 54 []].all calm = true := by rw [List.all_cons, List.all_cons, calm_evL, calm_evL]; rfl
  refine pure_calm (r := .sc (.int .i64 (ordL l m))) (n := N) ⟨Tryz.f55.ntmps, (Tryz.f55.body).getD .skip, [.tmp 6]⟩ (by kernel_rfl) (by kernel_rfl) rfl (by kernel_rfl) (by simp [Tryz.f55]) hc rfl ?_ b h
  clear hc
  have hL := evL_cases z l
  have hL' := evL_cases z' m
  generalize evL z l = L at hL
  generalize evL z' m = L' at hL'
  have hq := encL_length l
  have hg := encL_get l
  have hq' := encL_length m
  have hg' := encL_get m
  generalize encL l = rows at hq hg hL
  generalize encL m = rows' at hq' hg' hL'
  rcases hL with hL | ⟨hL, hz⟩
  · subst hL
    simp [Tryz.f55, hq]
    refine loop_up (C := cx) (G := fun r => ∃ h', finX _ (thenX _ _ (blockX _ r) _) = some (_, h'))
      (fun i s => i ≤ m.length ∧ ordL l m = ordLD l m i ∧ s.1.length = 39 ∧ gt s.1 0 = .ls 5 rows z ∧ gt s.1 1 = L' ∧ gt s.1 2 = .fn 54 [] ∧ gt s.1 11 = .ls 5 rows z ∧ gt s.1 12 = .sc (.int .i64 l.length) ∧ gt s.1 13 = .sc (.int .i64 i))
      (fun o s => s.1.length = 39 ∧ ((o = .exit 0 ∧ l.length ≤ m.length ∧ ordL l m = cmpI l.length m.length ∧ gt s.1 0 = .ls 5 rows z ∧ gt s.1 1 = L') ∨ (o = .ret ∧ gt s.1 6 = .sc (.int .i64 (ordL l m))))) l.length (by simp; omega) (by simp [ordLD_zero]) ?_ ?_
    · rintro i fr h hle ⟨hle', hor, hlen, h0, h1, h2, h11, h12, h13⟩
      simp only at hlen h0 h1 h2 h11 h12 h13
      by_cases hi : i < l.length
      · obtain ⟨x, hx⟩ : ∃ c, l[i]? = some c := ⟨_, List.getElem?_eq_getElem hi⟩
        have hr : rows[i]? = some (enc x) := by rw [hg, hx]; rfl
        have hr' : ∀ k, rows[i]'k = enc x := fun k => by obtain ⟨_, e⟩ := List.getElem?_eq_some_iff.1 hr; exact e
        by_cases hj : i < m.length
        · rcases hL' with hL' | ⟨hL', hz⟩
          · subst hL'
            obtain ⟨y, hy⟩ : ∃ c, m[i]? = some c := ⟨_, List.getElem?_eq_getElem hj⟩
            have hr2 : rows'[i]? = some (enc y) := by rw [hg', hy]; rfl
            have hr2' : ∀ k, rows'[i]'k = enc y := fun k => by obtain ⟨_, e⟩ := List.getElem?_eq_some_iff.1 hr2; exact e
            have hcall := ho x (List.mem_of_getElem? hx) y (List.mem_of_getElem? hy)
            unfold C_order at hcall
            rw [ordLD_step hx hy] at hor
            have hf : fitI .i64 ((i : Int) + 1) = ((i + 1 : Nat) : Int) := fit_i64 (by omega) (by omega)
            have hj2 : ¬ (m.length ≤ i) := by omega
            generalize ordV x y = c at hcall hor
            cases x with
            | mk k n d s zx lx =>
              cases y with
              | mk k' n' d' s' zy ly =>
                simp only [enc] at hr hr' hr2 hr2' hcall
                generalize lsV zx (encL lx) = X at hr hr' hcall
                generalize lsV zy (encL ly) = Y at hr2 hr2' hcall
                by_cases hc0 : c = 0
                · subst hc0
                  rw [if_pos rfl] at hor
                  simp [hlen, h0, h1, h2, h11, h12, h13, hi, hj, hj2, hq, hq', hr, hr', hr2, hr2', hcall, hf]
                  exact ⟨by omega, hor⟩
                · rw [if_neg hc0] at hor
                  simp [hlen, h0, h1, h2, h11, h12, h13, hi, hj, hj2, hq, hq', hr, hr', hr2, hr2', hcall, hc0, hor]
          · omega
        · have hz := ordLD_end l m i (by omega) (by omega) (by omega)
          rw [← hor] at hz
          have hz1 : ordL l m = 1 := by rw [hz]; unfold cmpI; rw [if_neg (by omega), if_pos (by omega)]
          have hj2 : m.length ≤ i := by omega
          cases x with
          | mk k n d s zx lx =>
            simp only [enc] at hr hr'
            generalize lsV zx (encL lx) = X at hr hr'
            rcases hL' with hL' | ⟨hL', hz'⟩
            · subst hL'; simp [hlen, h0, h1, h2, h11, h12, h13, hi, hj2, hq, hq', hr, hr', hz1]
            · subst hL'
              obtain rfl : i = 0 := by omega
              simp [hlen, h0, h1, h2, h11, h12, h13, hi, hj2, hq, hq', hr, hr', hz1]
      · have hz := ordLD_end l m i (by omega) (by omega) (by omega)
        rw [← hor] at hz
        simp [hlen, h0, h1, h2, h11, h12, h13, hi, hq, hz]
        omega
    · rintro o fr h hn ⟨hlen, ⟨rfl, hlm, hz, h0, h1⟩ | ⟨rfl, h2⟩⟩
      · simp only at hlen h0 h1
        rw [hz]
        unfold cmpI
        by_cases hc : (l.length : Int) < m.length
        · rcases hL' with hL' | ⟨hL', e'⟩
          · subst hL'; simp [hlen, h0, h1, hq, hq', show l.length < m.length by omega]
          · omega
        · rcases hL' with hL' | ⟨hL', e'⟩
          · subst hL'; simp [hlen, h0, h1, hq, hq', show ¬ l.length < m.length by omega, show ¬ m.length < l.length by omega]
          · subst hL'; simp [hlen, h0, h1, hq, e', show l.length = 0 by omega]
      · simp only at h2
        simp [h2]
  · subst hL
    have hl0 : l = [] := List.eq_nil_of_length_eq_zero hz
    subst hl0
    simp [Tryz.f55]
    refine loop_up (C := cx) (G := fun r => ∃ h', finX _ (thenX _ _ (blockX _ r) _) = some (_, h'))
      (fun i s => i = 0 ∧ s.1.length = 39 ∧ gt s.1 0 = .sc (.slice none 0 0) ∧ gt s.1 1 = L' ∧ gt s.1 12 = .sc (.int .i64 0) ∧ gt s.1 13 = .sc (.int .i64 0))
      (fun o s => s.1.length = 39 ∧ o = .exit 0 ∧ gt s.1 0 = .sc (.slice none 0 0) ∧ gt s.1 1 = L') 0 (by simp) (by simp) ?_ ?_
    · rintro i fr h hle ⟨rfl, hlen, h0, h1, h12, h13⟩
      simp only at hlen h0 h1 h12 h13
      simp [hlen, h0, h1, h12, h13]
    · rintro o fr h hn ⟨hlen, rfl, h0, h1⟩
      simp only at hlen h0 h1
      have hor : ordL [] m = if 0 < m.length then -1 else 0 := by cases m <;> simp [ordL]
      rw [hor]
      rcases hL' with hL' | ⟨hL', e'⟩
      · subst hL'
        by_cases hm0 : 0 < m.length
        · simp [hlen, h0, h1, hq', hm0]
        · simp [hlen, h0, h1, hq', hm0]
      · subst hL'; simp [hlen, h0, h1, e']
def C_Order (N : Nat) (v w : V) : Prop := ∀ b h, callN cx N b 20 [.ag (enc v), .ag (enc w)] h = some (.sc (.int .i64 (ordV v w)), h)
theorem val_lists_Order (N : Nat) (z z' : Bool) (l m : List V) (hl : l.length ≤ 1000000000000000) (hm : m.length ≤ 1000000000000000) (ho : ∀ x ∈ l, ∀ y ∈ m, C_Order N x y) (b : Bool) (h : Hp) :
    callN cx (N + 1) b 55 [evL z l, evL z' m, .fn 20 []] h = some (.sc (.int .i64 (ordL l m)), h) := by
  have hc : [evL z l, evL z' m, .fn 20 []].all calm = true := by rw [List.all_cons, List.all_cons, calm_evL, calm_evL]; rfl
  refine pure_calm (r := .sc (.int .i64 (ordL l m))) (n := N) ⟨Tryz.f55.ntmps, (Tryz.f55.body).getD .skip, [.tmp 6]⟩ (by kernel_rfl) (by kernel_rfl) rfl (by kernel_rfl) (by simp [Tryz.f55]) hc rfl ?_ b h
  clear hc
  have hL := evL_cases z l
  have hL' := evL_cases z' m
  generalize evL z l = L at hL
  generalize evL z' m = L' at hL'
  have hq := encL_length l
  have hg := encL_get l
  have hq' := encL_length m
  have hg' := encL_get m
  generalize encL l = rows at hq hg hL
  generalize encL m = rows' at hq' hg' hL'
  rcases hL with hL | ⟨hL, hz⟩
  · subst hL
    simp [Tryz.f55, hq]
    refine loop_up (C := cx) (G := fun r => ∃ h', finX _ (thenX _ _ (blockX _ r) _) = some (_, h'))
      (fun i s => i ≤ m.length ∧ ordL l m = ordLD l m i ∧ s.1.length = 39 ∧ gt s.1 0 = .ls 5 rows z ∧ gt s.1 1 = L' ∧ gt s.1 2 = .fn 20 [] ∧ gt s.1 11 = .ls 5 rows z ∧ gt s.1 12 = .sc (.int .i64 l.length) ∧ gt s.1 13 = .sc (.int .i64 i))
      (fun o s => s.1.length = 39 ∧ ((o = .exit 0 ∧ l.length ≤ m.length ∧ ordL l m = cmpI l.length m.length ∧ gt s.1 0 = .ls 5 rows z ∧ gt s.1 1 = L') ∨ (o = .ret ∧ gt s.1 6 = .sc (.int .i64 (ordL l m))))) l.length (by simp; omega) (by simp [ordLD_zero]) ?_ ?_
    · rintro i fr h hle ⟨hle', hor, hlen, h0, h1, h2, h11, h12, h13⟩
      simp only at hlen h0 h1 h2 h11 h12 h13
      by_cases hi : i < l.length
      · obtain ⟨x, hx⟩ : ∃ c, l[i]? = some c := ⟨_, List.getElem?_eq_getElem hi⟩
        have hr : rows[i]? = some (enc x) := by rw [hg, hx]; rfl
        have hr' : ∀ k, rows[i]'k = enc x := fun k => by obtain ⟨_, e⟩ := List.getElem?_eq_some_iff.1 hr; exact e
        by_cases hj : i < m.length
        · rcases hL' with hL' | ⟨hL', hz⟩
          · subst hL'
            obtain ⟨y, hy⟩ : ∃ c, m[i]? = some c := ⟨_, List.getElem?_eq_getElem hj⟩
            have hr2 : rows'[i]? = some (enc y) := by rw [hg', hy]; rfl
            have hr2' : ∀ k, rows'[i]'k = enc y := fun k => by obtain ⟨_, e⟩ := List.getElem?_eq_some_iff.1 hr2; exact e
            have hcall := ho x (List.mem_of_getElem? hx) y (List.mem_of_getElem? hy)
            unfold C_Order at hcall
            rw [ordLD_step hx hy] at hor
            have hf : fitI .i64 ((i : Int) + 1) = ((i + 1 : Nat) : Int) := fit_i64 (by omega) (by omega)
            have hj2 : ¬ (m.length ≤ i) := by omega
            generalize ordV x y = c at hcall hor
            cases x with
            | mk k n d s zx lx =>
              cases y with
              | mk k' n' d' s' zy ly =>
                simp only [enc] at hr hr' hr2 hr2' hcall
                generalize lsV zx (encL lx) = X at hr hr' hcall
                generalize lsV zy (encL ly) = Y at hr2 hr2' hcall
                by_cases hc0 : c = 0
                · subst hc0
                  rw [if_pos rfl] at hor
                  simp [hlen, h0, h1, h2, h11, h12, h13, hi, hj, hj2, hq, hq', hr, hr', hr2, hr2', hcall, hf]
                  exact ⟨by omega, hor⟩
                · rw [if_neg hc0] at hor
                  simp [hlen, h0, h1, h2, h11, h12, h13, hi, hj, hj2, hq, hq', hr, hr', hr2, hr2', hcall, hc0, hor]
          · omega
        · have hz := ordLD_end l m i (by omega) (by omega) (by omega)
          rw [← hor] at hz
          have hz1 : ordL l m = 1 := by rw [hz]; unfold cmpI; rw [if_neg (by omega), if_pos (by omega)]
          have hj2 : m.length ≤ i := by omega
          cases x with
          | mk k n d s zx lx =>
            simp only [enc] at hr hr'
            generalize lsV zx (encL lx) = X at hr hr'
            rcases hL' with hL' | ⟨hL', hz'⟩
            · subst hL'; simp [hlen, h0, h1, h2, h11, h12, h13, hi, hj2, hq, hq', hr, hr', hz1]
            · subst hL'
              obtain rfl : i = 0 := by omega
              simp [hlen, h0, h1, h2, h11, h12, h13, hi, hj2, hq, hq', hr, hr', hz1]
      · have hz := ordLD_end l m i (by omega) (by omega) (by omega)
        rw [← hor] at hz
        simp [hlen, h0, h1, h2, h11, h12, h13, hi, hq, hz]
        omega
    · rintro o fr h hn ⟨hlen, ⟨rfl, hlm, hz, h0, h1⟩ | ⟨rfl, h2⟩⟩
      · simp only at hlen h0 h1
        rw [hz]
        unfold cmpI
        by_cases hc : (l.length : Int) < m.length
        · rcases hL' with hL' | ⟨hL', e'⟩
          · subst hL'; simp [hlen, h0, h1, hq, hq', show l.length < m.length by omega]
          · omega
        · rcases hL' with hL' | ⟨hL', e'⟩
          · subst hL'; simp [hlen, h0, h1, hq, hq', show ¬ l.length < m.length by omega, show ¬ m.length < l.length by omega]
          · subst hL'; simp [hlen, h0, h1, hq, e', show l.length = 0 by omega]
      · simp only at h2
        simp [h2]
  · subst hL
    have hl0 : l = [] := List.eq_nil_of_length_eq_zero hz
    subst hl0
    simp [Tryz.f55]
    refine loop_up (C := cx) (G := fun r => ∃ h', finX _ (thenX _ _ (blockX _ r) _) = some (_, h'))
      (fun i s => i = 0 ∧ s.1.length = 39 ∧ gt s.1 0 = .sc (.slice none 0 0) ∧ gt s.1 1 = L' ∧ gt s.1 12 = .sc (.int .i64 0) ∧ gt s.1 13 = .sc (.int .i64 0))
      (fun o s => s.1.length = 39 ∧ o = .exit 0 ∧ gt s.1 0 = .sc (.slice none 0 0) ∧ gt s.1 1 = L') 0 (by simp) (by simp) ?_ ?_
    · rintro i fr h hle ⟨rfl, hlen, h0, h1, h12, h13⟩
      simp only at hlen h0 h1 h12 h13
      simp [hlen, h0, h1, h12, h13]
    · rintro o fr h hn ⟨hlen, rfl, h0, h1⟩
      simp only at hlen h0 h1
      have hor : ordL [] m = if 0 < m.length then -1 else 0 := by cases m <;> simp [ordL]
      rw [hor]
      rcases hL' with hL' | ⟨hL', e'⟩
      · subst hL'
        by_cases hm0 : 0 < m.length
        · simp [hlen, h0, h1, hq', hm0]
        · simp [hlen, h0, h1, hq', hm0]
      · subst hL'; simp [hlen, h0, h1, e']
end Go.Proofs.YtadaeokidcgdlaaGreatDoor
