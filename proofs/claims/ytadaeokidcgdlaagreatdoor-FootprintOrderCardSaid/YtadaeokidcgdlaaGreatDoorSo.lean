/-
  The keys of a map in order: the contract of the library's function, out of the kit's.
-/
import Derived.Test.YtadaeokidcgdlaaGreatDoorCx
import Derived.Test.YtadaeokidcgdlaaGreatDoorLay
import Derived.StringKeys
namespace Go.Proofs.YtadaeokidcgdlaaGreatDoor
open Go Go.Ae Go.RowKit Go.Maps Go.Sort Go.Shelf

theorem insert_perm {H : Type} (x : Lit × DataW H) : ∀ l : List (Lit × DataW H), (DataW.insert x l).Perm (x :: l)
  | [] => .refl _
  | y :: r => by
    unfold DataW.insert
    split
    · exact .refl _
    · exact ((insert_perm x r).cons y).trans (.swap x y r)
theorem foldr_perm {H : Type} : ∀ l : List (Lit × DataW H), (l.foldr DataW.insert []).Perm l
  | [] => .refl _
  | x :: l => (insert_perm x _).trans ((foldr_perm l).cons x)
def byt (s : ByteArray) : List UInt8 := s.data.toList
theorem byt_inj {x y : ByteArray} (h : byt x = byt y) : x = y := by
  obtain ⟨⟨a⟩⟩ := x
  obtain ⟨⟨b⟩⟩ := y
  simp [byt] at h
  rw [h]
theorem insS_perm (x : ByteArray) : ∀ l : List ByteArray, (insS x l).Perm (x :: l)
  | [] => .refl _
  | y :: r => by
    unfold insS
    split
    · exact .refl _
    · exact ((insS_perm x r).cons y).trans (.swap x y r)
theorem sortS_perm : ∀ l : List ByteArray, (sortS l).Perm l
  | [] => .refl _
  | x :: l => (insS_perm x _).trans ((sortS_perm l).cons x)
theorem insS_sorted (x : ByteArray) : ∀ l : List ByteArray, l.Pairwise (fun a b => leS a b = true) → (insS x l).Pairwise (fun a b => leS a b = true)
  | [], _ => List.pairwise_singleton _ _
  | y :: r, h => by
    unfold insS
    have h1 := List.pairwise_cons.1 h
    split
    · rename_i hxy
      refine List.pairwise_cons.2 ⟨fun z hz => ?_, h⟩
      rcases List.mem_cons.1 hz with rfl | hz
      · exact hxy
      · have h2 := h1.1 z hz
        simp only [leS, decide_eq_true_eq] at *
        exact List.le_trans hxy h2
    · rename_i hxy
      have hyx : leS y x = true := by
        simp only [leS, decide_eq_true_eq] at *
        exact (List.le_total _ _).resolve_left hxy
      refine List.pairwise_cons.2 ⟨fun z hz => ?_, insS_sorted x r h1.2⟩
      rcases List.mem_cons.1 ((insS_perm x r).mem_iff.1 hz) with rfl | hz
      · exact hyx
      · exact h1.1 z hz
theorem sortS_sorted : ∀ l : List ByteArray, (sortS l).Pairwise (fun a b => leS a b = true)
  | [] => List.Pairwise.nil
  | x :: l => insS_sorted x _ (sortS_sorted l)
theorem sort_eq {ss : List (List UInt8)} {ks : List ByteArray} (h : ss.Perm (ks.map byt)) : ss.mergeSort (fun x y => decide (x ≤ y)) = (sortS ks).map byt := by
  have tr : ∀ a b c : List UInt8, leB a b = true → leB b c = true → leB a c = true := fun a b c h1 h2 => by simp only [leB, decide_eq_true_eq] at *; exact List.le_trans h1 h2
  have to : ∀ a b : List UInt8, (leB a b || leB b a) = true := fun a b => by simp only [leB, Bool.or_eq_true, decide_eq_true_eq]; exact List.le_total a b
  refine List.Perm.eq_of_pairwise (le := fun a b => leB a b = true) (fun a b _ _ h1 h2 => ?_) (List.pairwise_mergeSort tr to ss) ?_ (((List.mergeSort_perm ss leB).trans h).trans ((sortS_perm ks).map byt).symm)
  · simp only [leB, decide_eq_true_eq] at h1 h2
    exact List.le_antisymm h1 h2
  · exact List.pairwise_map.2 (sortS_sorted ks)
theorem below_step {w w' : World} (h : Below w.heap.size w w') : Step w none' w' none' := {
  os := h.os
  tape := h.tape
  output := h.output
  size := h.size
  keep := fun b hb _ => h.block b hb
  row := fun b cur t fz hb => ⟨cur, t, fz, (h.block b (heap_lt hb)).trans hb, rfl⟩
  less := fun _ _ h => h }

set_option maxHeartbeats 1000000 in
theorem sort_ok : SortOK cx 280 327 := by
  refine ⟨⟨_, Tryz.func280, of_decide_eq_true (by kernel_rfl), by kernel_rfl⟩, fun w bx id ms clock ks hcell hid hborn hnd hkeys hknd hksz hlen => ?_⟩
  have hkey : ∀ x ∈ ms.toList, ∃ s : ByteArray, x.key = .string s ∧ s.size ≤ maxLen := fun x hx => by
    have : x.key ∈ ks.map Value.string := by rw [← hkeys]; exact List.mem_map.2 ⟨x, hx, rfl⟩
    obtain ⟨s, hs, e⟩ := List.mem_map.1 this
    exact ⟨s, e.symm, hksz s hs⟩
  have hsize : ms.size = ks.length := by have := congrArg List.length hkeys; simpa using this
  have hrd : ∀ x ∈ ms.toList, ∀ s : ByteArray, x.key = .string s → s.size ≤ maxLen → WideElems.rd cx.P 9 (fun _ => some ((.nil : DataW Unit), [])) x = some (.string s.data.toList, .nil) := fun x _ s e hs => by
    unfold WideElems.rd
    rw [e, WideMaps.keyOf_string_mk (P := cx.P) Tryz.underlying9 hs]
    rfl
  have F : WideElems.Fit cx.P 9 (fun _ => some ((.nil : DataW Unit), [])) ms clock := by
    refine ⟨by unfold maxLen; omega, ⟨hborn, hnd, ?_⟩, fun x hx => ?_⟩
    · rw [hkeys]
      exact List.pairwise_map.2 (hknd.imp fun {a b} hne e => hne (by injection e))
    · obtain ⟨s, e, hs⟩ := hkey x hx
      exact ⟨_, hrd x hx s e hs⟩
  have hown : w.ownsMap cx.P 9 (fun _ => some ((.nil : DataW Unit), [])) id ms.size (.map ((ms.toList.map (WideElems.rg cx.P 9 (fun _ => some ((.nil : DataW Unit), [])))).foldr DataW.insert [])) := ⟨ms, clock, hid, F, Nat.le_refl _, rfl⟩
  have hbx : bx < w.heap.size := by
    unfold World.cell? at hcell
    cases hb : w.heap[bx]? with
    | none => simp [hb] at hcell
    | some o => exact heap_lt hb
  have hstr : (strKeys (.map ((ms.toList.map (WideElems.rg cx.P 9 (fun _ => some ((.nil : DataW Unit), [])))).foldr DataW.insert []) : DataW Unit)).Perm (ks.map byt) := by
    refine ((foldr_perm _).map _).trans (List.Perm.of_eq ?_)
    rw [List.map_map]
    have : (ms.toList.map (·.key)).map (fun v => match v with | .string s => byt s | _ => []) = (ks.map Value.string).map (fun v => match v with | .string s => byt s | _ => []) := by rw [hkeys]
    rw [List.map_map, List.map_map] at this
    refine (List.map_congr_left fun x hx => ?_).trans this
    obtain ⟨s, e, hs⟩ := hkey x hx
    simp only [Function.comp, WideElems.rg_of (hrd x hx s e hs), e]
    rfl
  have hN : Maps.size (.map ((ms.toList.map (WideElems.rg cx.P 9 (fun _ => some ((.nil : DataW Unit), [])))).foldr DataW.insert []) : DataW Unit) = ks.length := by
    show (List.foldr DataW.insert [] _).length = _
    rw [(foldr_perm _).length_eq, List.length_map, ← hsize, Array.length_toList]
  have hseq : SeqGives Fence.wide 2 cx.P 327 #[.pointer (some ⟨bx, 0, none⟩)] encStr (fun ss => ss.Perm (strKeys (.map ((ms.toList.map (WideElems.rg cx.P 9 (fun _ => some ((.nil : DataW Unit), [])))).foldr DataW.insert []) : DataW Unit))) _ w :=
    AnyZ.keys_gives (ρ := Tryz.keys281_ren) { Tryz.keys281 with } Fence.wide _ trivial rfl (by omega) bx id ms.size _ w hbx hcell hown
  have hcall := callsIn_wide.1 (AnyZ.sorted_in Tryz.sorted280 Fence.wide 5 trivial trivial trivial trivial rfl (by omega) (Tryz.sorts280 _) (enters_of Tryz.func326 (by kernel_rfl) rfl) 327 #[.pointer (some ⟨bx, 0, none⟩)] trivial (enters_of Tryz.func327 (by kernel_rfl) rfl) _ _ (by rw [hN]; unfold maxLen; omega) (by rw [hN]; omega) w hseq)
  refine hcall.mono ?_
  rintro e w' ⟨v, ss, rfl, hS, hrow, hnil, hb⟩
  have hp := hS.trans hstr
  have hse := sort_eq hp
  have hl : ss.length = ks.length := by rw [hp.length_eq, List.length_map]
  refine ⟨v, rfl, below_step hb, ?_⟩
  by_cases h0 : ks = []
  · left
    refine ⟨h0, hnil.2 (List.eq_nil_of_length_eq_zero (by rw [hl, h0]; rfl))⟩
  · right
    have hpos : 0 < ks.length := List.length_pos_iff.2 h0
    refine ⟨h0, ?_⟩
    obtain ⟨hlen', hh⟩ := hrow
    rcases hh with ⟨_, hz⟩ | ⟨B, cap, cur, rfl, hB, hcur, c1, c2, c3, c4⟩
    · omega
    · refine ⟨B, cap, cur, _, by rw [hl], hB, hcur, by omega, c2, by omega, fun k s hk => ?_⟩
      rw [hse] at c4
      have hk' : ((((sortS ks).map byt).map encStr))[k]? = some (.string s) := by
        rw [List.map_map, List.getElem?_map, hk]
        show some (encStr (byt s)) = _
        simp [encStr, byt]
      rw [← c4, List.getElem?_take] at hk'
      split at hk'
      · simpa using hk'
      · cases hk'
end Go.Proofs.YtadaeokidcgdlaaGreatDoor
