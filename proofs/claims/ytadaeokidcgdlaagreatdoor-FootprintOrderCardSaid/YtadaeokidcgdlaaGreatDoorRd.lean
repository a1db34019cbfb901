/-
  What a world's data read as: values and predicates.
-/
import Derived.Test.YtadaeokidcgdlaaGreatDoorFo30
import Derived.Deep.Slices
import GoSem.ClaimJoined
set_option linter.unusedSimpArgs false
set_option maxRecDepth 100000
namespace Go.Proofs.YtadaeokidcgdlaaGreatDoor
open Go Go.Ae Go.ChangeShapes Go.WideShapes

theorem cellsV : Tryz.prog.cellsOf 38 = 5 := by kernel_rfl
theorem cellsI : Tryz.prog.cellsOf 3 = 1 := by kernel_rfl
theorem cellsS : Tryz.prog.cellsOf 9 = 1 := by kernel_rfl
theorem cellsL : Tryz.prog.cellsOf 36 = 1 := by kernel_rfl
theorem cellsP : Tryz.prog.cellsOf 40 = 8 := by kernel_rfl
/-- The cells cs read as v. -/
def RV (w : World) (cs : List Value) (v : V) : Prop := cs.length = 5 ∧ ∀ (j : Nat) (y : AV), (enc v)[j]? = some y → (cs.getD j undef).oneCell' = true ∧ Ri w none' (cs.getD j undef) y
theorem list_of {p : Nat → V → Prop} : ∀ n, (∀ i, i < n → ∃ x, p i x) → ∃ l : List V, l.length = n ∧ ∀ i v, l[i]? = some v → p i v
  | 0, _ => ⟨[], rfl, by simp⟩
  | n + 1, h => by
    obtain ⟨l, hl, hp⟩ := list_of n fun i hi => h i (by omega)
    obtain ⟨x, hx⟩ := h n (by omega)
    refine ⟨l ++ [x], by simp [hl], fun i v hv => ?_⟩
    by_cases hi : i < n
    · rw [List.getElem?_append_left (by omega)] at hv
      exact hp i v hv
    · have hlt := (List.getElem?_eq_some_iff.1 hv).1
      simp at hlt
      obtain rfl : i = n := by omega
      rw [List.getElem?_append_right (by omega), hl] at hv
      simp at hv
      subst hv
      exact hx
theorem depL_le {D : Nat} : ∀ {l : List V}, (∀ x ∈ l, dep x ≤ D) → depL l ≤ D
  | [], _ => by simp [depL]
  | x :: xs, h => by
    have h1 := h x (by simp)
    have h2 := depL_le fun y hy => h y (List.mem_cons_of_mem _ hy)
    rw [depL]
    omega
theorem bdL_of : ∀ {l : List V}, (∀ x ∈ l, bdV x) → bdL l
  | [], _ => by simp [bdL]
  | x :: xs, h => by
    rw [bdL]
    exact ⟨h x (by simp), bdL_of fun y hy => h y (List.mem_cons_of_mem _ hy)⟩
theorem reach_bd {n : Nat} (h : n ≤ reachBytes) : n ≤ 1000000000000000 := by unfold reachBytes at h; omega
theorem bytesV : Tryz.prog.bytesOf 38 = 64 := by kernel_rfl
theorem weights_value {H : Type} (a b c d e : DataW H) : (DataW.agg [a, b, c, d, e]).weights Tryz.prog 38 = a.weights Tryz.prog 3 ++ (b.weights Tryz.prog 3 ++ (c.weights Tryz.prog 3 ++ (d.weights Tryz.prog 9 ++ (e.weights Tryz.prog 36 ++ [])))) := by
  rw [DataW.weights, Tryz.underlying38]
  rfl
theorem weights_values {H : Type} (es sp : List (DataW H)) : (DataW.slice es sp).weights Tryz.prog 36 = (es.length + sp.length) * 64 :: (DataW.weightsAll Tryz.prog 38 es ++ DataW.weightsAll Tryz.prog 38 sp) := by
  rw [DataW.weights, Tryz.underlying36, ← bytesV]
theorem weights_pred {H : Type} (a b c d : DataW H) : (DataW.agg [a, b, c, d]).weights Tryz.prog 40 = a.weights Tryz.prog 3 ++ (b.weights Tryz.prog 9 ++ (c.weights Tryz.prog 9 ++ (d.weights Tryz.prog 38 ++ []))) := by
  rw [DataW.weights, Tryz.underlying40]
  rfl
theorem weights_mem {H : Type} {e : TypeId} {d : DataW H} {m : Nat} (hm : m ∈ d.weights Tryz.prog e) : ∀ {l : List (DataW H)}, d ∈ l → m ∈ DataW.weightsAll Tryz.prog e l
  | x :: l, h => by
    rw [DataW.weightsAll]
    rcases List.mem_cons.1 h with rfl | h
    · exact List.mem_append_left _ hm
    · exact List.mem_append_right _ (weights_mem hm h)
/-- No string or slice in it is longer than memory. -/
def Fits {H : Type} (t : TypeId) (d : DataW H) : Prop := ∀ m ∈ d.weights Tryz.prog t, m ≤ reachBytes

section
variable {H : Type} {en : TypeId × Value → H} {w : World} {held : Bool}
/-- A slice of values. -/
theorem ri_values {a : Addr} {cap : Nat} {l : List V} (hl : l.length ≤ cap) (hm : cap ≤ maxLen) (hp : ∀ (i : Nat) (v : V), l[i]? = some v → ∃ cs, w.cells? 0 (a.add (i * 5)) 5 = some cs ∧ RV w cs v) : Ri w none' (.slice (some a) l.length cap) (.ls 5 (encL l) false) := by
  cases hl0 : l with
  | nil => exact .le _ _ _ _ hm (by simp)
  | cons v0 l0 =>
    rw [← hl0]
    obtain ⟨cs0, hc0, _⟩ := hp 0 v0 (by rw [hl0]; rfl)
    obtain ⟨_, hn0, hg0⟩ := World.cells?_some hc0
    have h00 := hg0 0 (by omega)
    rw [Nat.zero_mul, Go.Deep.add_add, List.getElem?_eq_getElem (by omega)] at h00
    obtain ⟨b, o, sp⟩ := a
    have h0 : w.cell? ⟨b, o, sp⟩ = some cs0[0] := h00
    unfold World.cell? at h0
    cases hb : w.heap[b]? with
    | none => rw [hb] at h0; cases h0
    | some ob =>
      rw [hb] at h0
      cases ob <;> simp only [reduceCtorEq] at h0
      rename_i cur t fz
      cases sp with
      | some q => simp at h0
      | none =>
        have at' : ∀ k, w.cell? ⟨b, o + k, none⟩ = cur[o + k]? := fun k => by unfold World.cell?; rw [hb]; rfl
        have add' : ∀ k, (Addr.mk b o none).add k = ⟨b, o + k, none⟩ := fun k => by
          unfold Addr.add
          by_cases hk : k = 0
          · subst hk; simp
          · simp [hk]
        have key : ∀ (i : Nat) (row : List AV) (j : Nat) (x : AV), (encL l)[i]? = some row → row[j]? = some x → cur[o + i * 5 + j]? = some (cur.getD (o + i * 5 + j) undef) ∧ (cur.getD (o + i * 5 + j) undef).oneCell' = true ∧ Ri w none' (cur.getD (o + i * 5 + j) undef) x := by
          intro i row j x hi hj
          rw [encL_get] at hi
          cases hv : l[i]? with
          | none => rw [hv] at hi; cases hi
          | some v =>
            rw [hv] at hi
            simp only [Option.map_some, Option.some.injEq] at hi
            subst hi
            have hj5 : j < 5 := by have := (List.getElem?_eq_some_iff.1 hj).1; rwa [enc_length] at this
            obtain ⟨cs, hc, hn, hr⟩ := hp i v hv
            obtain ⟨_, _, hg⟩ := World.cells?_some hc
            have h1 := hg j hj5
            rw [Go.Deep.add_add, add', at', List.getElem?_eq_getElem (by omega)] at h1
            have e : cur.getD (o + i * 5 + j) undef = cs.getD j undef := by
              rw [Array.getD_eq_getD_getElem?, Nat.add_assoc, h1, List.getD_eq_getElem?_getD, List.getElem?_eq_getElem (by omega)]
            rw [e, Nat.add_assoc, h1, List.getD_eq_getElem?_getD, List.getElem?_eq_getElem (by omega)]
            have := hr j x hj
            rw [List.getD_eq_getElem?_getD, List.getElem?_eq_getElem (by omega)] at this
            exact ⟨rfl, this.1, this.2⟩
        refine .ls b o l.length cap 5 (encL l) false (fun i j => cur.getD (o + i * 5 + j) undef) cur t fz (fun h => h) hb (encL_length l) hl hm (by simp) ?_ (fun i row j x hi hj => ⟨(key i row j x hi hj).1, (key i row j x hi hj).2.1⟩) (fun i row j x hi hj => (key i row j x hi hj).2.2)
        intro i row hi
        rw [encL_get] at hi
        cases hv : l[i]? with
        | none => rw [hv] at hi; cases hi
        | some v =>
          rw [hv] at hi
          simp only [Option.map_some, Option.some.injEq] at hi
          rw [← hi, enc_length]

theorem readV : ∀ (fuel : Nat) (cs : List Value) (x : DataW H × List MemPlace), DataW.trod en Tryz.prog w 0 (fun _ => true) held fuel 38 cs = some x → Fits 38 x.1 → ∃ v : V, dep v ≤ fuel ∧ bdV v ∧ RV w cs v := by
  intro fuel
  induction fuel using Nat.strongRecOn with
  | ind fuel ih =>
    intro cs x h hw
    obtain ⟨xs, n, rfl, rfl, hl, hn, hf⟩ := DataW.trod_struct Tryz.underlying38 h
    rw [cellsV] at hl
    have hn5 : xs.length = 5 := hn
    match cs, hl, xs, hn5 with
    | [c0, c1, c2, c3, c4], _, [x0, x1, x2, x3, x4], _ =>
      have h0 := hf 0 _ rfl
      have h1 := hf 1 _ rfl
      have h2 := hf 2 _ rfl
      have h3 := hf 3 _ rfl
      have h4 := hf 4 _ rfl
      clear hf h
      simp only [cellsI, cellsS, cellsL, List.drop_zero, List.drop_succ_cons, List.take_succ_cons, List.take_zero, List.getElem?_cons_zero, List.getElem?_cons_succ] at h0 h1 h2 h3 h4
      obtain ⟨k0, e0, _, _⟩ := DataW.trod_int Tryz.underlying3 h0
      obtain ⟨k1, e1, _, _⟩ := DataW.trod_int Tryz.underlying3 h1
      obtain ⟨k2, e2, _, _⟩ := DataW.trod_int Tryz.underlying3 h2
      obtain ⟨s3, e3, w3, _⟩ := DataW.trod_string Tryz.underlying9 h3
      obtain rfl : c0 = _ := (List.cons.inj e0).1
      obtain rfl : c1 = _ := (List.cons.inj e1).1
      obtain rfl : c2 = _ := (List.cons.inj e2).1
      obtain rfl : c3 = _ := (List.cons.inj e3).1
      have hw' : Fits 38 (DataW.agg [x0.1, x1.1, x2.1, x3.1, x4.1]) := hw
      unfold Fits at hw'
      rw [weights_value] at hw'
      have hs : s3.size ≤ reachBytes := hw' _ (by
        refine List.mem_append_right _ (List.mem_append_right _ (List.mem_append_right _ (List.mem_append_left _ ?_)))
        rw [w3]
        exact List.mem_singleton.2 rfl)
      have hw4 : Fits 36 x4.1 := fun m hm => hw' m (List.mem_append_right _ (List.mem_append_right _ (List.mem_append_right _ (List.mem_append_right _ (List.mem_append_left _ hm)))))
      have fin : ∀ (z : Bool) (l : List V) (D : Nat), (∀ y ∈ l, dep y ≤ D) → D + 1 ≤ n + 1 → (∀ y ∈ l, bdV y) → l.length ≤ reachBytes → c4.oneCell' = true → Ri w none' c4 (evL z l) →
          ∃ v : V, dep v ≤ n + 1 ∧ bdV v ∧ RV w [.int .i64 k0, .int .i64 k1, .int .i64 k2, .string s3, c4] v := by
        intro z l D hd hD hb hll ho hr
        refine ⟨.mk k0 k1 k2 s3 z l, ?_, ?_, rfl, fun j y hj => ?_⟩
        · rw [dep]; have := depL_le hd; omega
        · rw [bdV]; exact ⟨reach_bd hs, reach_bd hll, bdL_of hb⟩
        · match j, hj with
          | 0, hj => cases hj; exact ⟨rfl, .sc _ rfl⟩
          | 1, hj => cases hj; exact ⟨rfl, .sc _ rfl⟩
          | 2, hj => cases hj; exact ⟨rfl, .sc _ rfl⟩
          | 3, hj => cases hj; exact ⟨rfl, .sc _ rfl⟩
          | 4, hj => cases hj; exact ⟨ho, hr⟩
          | _ + 5, hj => simp [enc] at hj
      rcases DataW.trod_slice Tryz.underlying36 h4 with ⟨e, _⟩ | ⟨a, len, cap, elems, rest, m, hm, e, wx, _, hlc, hcm, hel, hq, _⟩
      · obtain rfl : c4 = _ := (List.cons.inj e).1
        exact fin true [] 0 (by simp) (by omega) (by simp) (by simp) rfl (.sc _ rfl)
      · obtain rfl : c4 = _ := (List.cons.inj e).1
        unfold Fits at hw4
        rw [wx, weights_values] at hw4
        have hlen : elems.length ≤ reachBytes := by
          have := hw4 _ (List.mem_cons_self ..)
          simp only [List.length_map] at this
          omega
        obtain ⟨l, hll, hp⟩ := list_of (p := fun i v => dep v ≤ m ∧ bdV v ∧ ∃ cs', w.cells? 0 (a.add (i * 5)) 5 = some cs' ∧ RV w cs' v) len (fun i hi => by
          have h5 := hq i hi
          rw [cellsV, List.getElem?_eq_getElem (by omega)] at h5
          obtain ⟨cs', q1, q2⟩ := Option.bind_eq_some_iff.1 h5
          obtain ⟨v, d1, d2, d3⟩ := ih m (by omega) cs' _ q2 (fun k hk => hw4 k (List.mem_cons_of_mem _ (List.mem_append_left _ (weights_mem hk (List.mem_map.2 ⟨_, List.getElem_mem _, rfl⟩)))))
          exact ⟨v, d1, d2, cs', q1, d3⟩)
        have hmem : ∀ y ∈ l, dep y ≤ m ∧ bdV y := fun y hy => by
          obtain ⟨i, hi⟩ := List.getElem?_of_mem hy
          exact ⟨(hp i y hi).1, (hp i y hi).2.1⟩
        refine fin false l m (fun y hy => (hmem y hy).1) (by omega) (fun y hy => (hmem y hy).2) (by omega) rfl ?_
        have := ri_values (w := w) (a := a) (cap := cap) (l := l) (by omega) hcm (fun i v hv => (hp i v hv).2.2)
        rw [hll] at this
        unfold evL lsV
        simpa using this

/-- A predicate. -/
theorem readP (fuel : Nat) (us : Array Value) (x : DataW H × List MemPlace) (h : DataW.trod en Tryz.prog w 0 (fun _ => true) held fuel 40 us.toList = some x) (hw : Fits 40 x.1) : ∃ p : Pr, dep p.v ≤ fuel ∧ bdV p.v ∧ Ri w none' (.agg us) (evP p) := by
  obtain ⟨xs, n, rfl, rfl, hl, hn, hf⟩ := DataW.trod_struct Tryz.underlying40 h
  rw [cellsP] at hl
  have hn4 : xs.length = 4 := hn
  obtain ⟨us⟩ := us
  simp only at hl hf
  match us, hl, xs, hn4 with
  | [c0, c1, c2, c3, c4, c5, c6, c7], _, [x0, x1, x2, x3], _ =>
    have h0 := hf 0 _ rfl
    have h1 := hf 1 _ rfl
    have h2 := hf 2 _ rfl
    have h3 := hf 3 _ rfl
    clear hf h
    simp only [cellsI, cellsS, cellsV, List.drop_zero, List.drop_succ_cons, List.take_succ_cons, List.take_zero, List.getElem?_cons_zero, List.getElem?_cons_succ] at h0 h1 h2 h3
    obtain ⟨k0, e0, _, _⟩ := DataW.trod_int Tryz.underlying3 h0
    obtain ⟨s1, e1, _, _⟩ := DataW.trod_string Tryz.underlying9 h1
    obtain ⟨s2, e2, _, _⟩ := DataW.trod_string Tryz.underlying9 h2
    have hw' : Fits 40 (DataW.agg [x0.1, x1.1, x2.1, x3.1]) := hw
    unfold Fits at hw'
    rw [weights_pred] at hw'
    obtain ⟨v, d1, d2, _, d3⟩ := readV n _ _ h3 (fun m hm => hw' m (List.mem_append_right _ (List.mem_append_right _ (List.mem_append_right _ (List.mem_append_left _ hm)))))
    obtain rfl : c0 = _ := (List.cons.inj e0).1
    obtain rfl : c1 = _ := (List.cons.inj e1).1
    obtain rfl : c2 = _ := (List.cons.inj e2).1
    have hl5 := enc_length v
    have key : ∀ (j : Nat) (y : AV), (encP ⟨k0, s1, s2, v⟩)[j]? = some y → ((#[.int .i64 k0, .string s1, .string s2, c3, c4, c5, c6, c7] : Array Value).getD j undef).oneCell' = true ∧ Ri w none' ((#[.int .i64 k0, .string s1, .string s2, c3, c4, c5, c6, c7] : Array Value).getD j undef) y := by
      intro j y hj
      have low : j < 8 := by have := (List.getElem?_eq_some_iff.1 hj).1; simp [encP, hl5] at this; omega
      match j, hj, low with
      | 0, hj, _ => cases hj; exact ⟨rfl, .sc _ rfl⟩
      | 1, hj, _ => cases hj; exact ⟨rfl, .sc _ rfl⟩
      | 2, hj, _ => cases hj; exact ⟨rfl, .sc _ rfl⟩
      | 3, hj, _ => exact d3 0 y hj
      | 4, hj, _ => exact d3 1 y hj
      | 5, hj, _ => exact d3 2 y hj
      | 6, hj, _ => exact d3 3 y hj
      | 7, hj, _ => exact d3 4 y hj
      | _ + 8, _, low => omega
    refine ⟨⟨k0, s1, s2, v⟩, by show dep v ≤ n + 1; omega, d2, .ag _ _ (by simp [encP, hl5]) (fun k hk => ?_) (fun k y hy => (key k y hy).2)⟩
    have hk8 : k < (encP ⟨k0, s1, s2, v⟩).length := by simp [encP, hl5]; simpa using hk
    exact (key k _ (List.getElem?_eq_getElem hk8)).1
end
end Go.Proofs.YtadaeokidcgdlaaGreatDoor
