/-
  Contracts: cmp.Compare, cmp.Or.
-/
import Derived.Test.YtadaeokidcgdlaaGreatDoorTy
set_option linter.unusedSimpArgs false
set_option maxRecDepth 100000
namespace Go.Proofs.YtadaeokidcgdlaaGreatDoor
open Go Go.Ae
attribute [local simp] aop aopW coldF extF putA ofConst flat scalarOp fastOp binFast intOp strOp guardX Ae.part rowOf szOk natOf lenA cls fillA splice newsOf isNilC

/-! strings in order -/
theorem bl_irrefl : ∀ l : List UInt8, Op.bytesLess l l = false
  | [] => rfl
  | a :: l => by simp [Op.bytesLess, bl_irrefl l]
theorem bl_total : ∀ l m : List UInt8, Op.bytesLess l m = false → l ≠ m → Op.bytesLess m l = true
  | [], [], _, h => absurd rfl h
  | [], b :: m, h, _ => by simp [Op.bytesLess] at h
  | a :: l, [], _, _ => by simp [Op.bytesLess]
  | a :: l, b :: m, h, hn => by
    simp only [Op.bytesLess, Bool.or_eq_false_iff, decide_eq_false_iff_not, Bool.and_eq_false_iff] at h
    simp only [Op.bytesLess, Bool.or_eq_true, decide_eq_true_eq, Bool.and_eq_true]
    by_cases e : a = b
    · subst e
      refine .inr ⟨by simp, bl_total l m ?_ (fun q => hn (by rw [q]))⟩
      rcases h.2 with h2 | h2
      · simp at h2
      · exact h2
    · left
      have h1 := h.1
      rw [UInt8.lt_iff_toNat_lt] at h1 ⊢
      have : a.toNat ≠ b.toNat := fun q => e (UInt8.toNat_inj.1 q)
      omega
theorem bl_trans : ∀ l m k : List UInt8, Op.bytesLess l m = true → Op.bytesLess m k = true → Op.bytesLess l k = true
  | _, [], _, h, _ => by simp [Op.bytesLess] at h
  | _, _ :: _, [], _, h => by simp [Op.bytesLess] at h
  | [], _ :: _, _ :: _, _, _ => by simp [Op.bytesLess]
  | a :: l, b :: m, c :: k, h1, h2 => by
    simp only [Op.bytesLess, Bool.or_eq_true, decide_eq_true_eq, Bool.and_eq_true, beq_iff_eq] at h1 h2 ⊢
    rw [UInt8.lt_iff_toNat_lt] at *
    rcases h1 with h1 | ⟨rfl, h1⟩ <;> rcases h2 with h2 | ⟨rfl, h2⟩
    · left; omega
    · left; exact h1
    · left; exact h2
    · exact .inr ⟨rfl, bl_trans l m k h1 h2⟩
theorem eqS_iff (x y : ByteArray) : eqS x y = true ↔ x = y := by
  unfold eqS
  rw [beq_iff_eq]
  exact ⟨fun h => by
    obtain ⟨⟨a⟩⟩ := x
    obtain ⟨⟨b⟩⟩ := y
    simp at h
    rw [h], fun h => by rw [h]⟩
theorem ltS_irrefl (x : ByteArray) : ltS x x = false := bl_irrefl _
theorem ltS_total {x y : ByteArray} (h : ltS x y = false) (hn : eqS x y = false) : ltS y x = true := by
  refine bl_total _ _ h fun q => ?_
  have : eqS x y = true := by unfold eqS; rw [beq_iff_eq]; exact q
  rw [hn] at this; cases this
theorem ltS_trans {x y z : ByteArray} (h : ltS x y = true) (k : ltS y z = true) : ltS x z = true := bl_trans _ _ _ h k
theorem ltS_asymm {x y : ByteArray} (h : ltS x y = true) : ltS y x = false := by
  cases q : ltS y x with
  | false => rfl
  | true => have := ltS_trans h q; rw [ltS_irrefl] at this; cases this

theorem isNaN_int (n : Nat) (b : Bool) (x : Int) (h : Hp) : callN cx (n + 1) b 94 [.sc (.int .i64 x)] h = some (.sc (.bool false), h) := by
  refine pure_at (r := .sc (.bool false)) (h' := []) ⟨Tryz.f94.ntmps, (Tryz.f94.body).getD .skip, [.tmp 2]⟩ (by kernel_rfl) (by kernel_rfl) rfl (by kernel_rfl) (by simp [Tryz.f94]) rfl ?_ rfl b h
  simp [Tryz.f94]
theorem isNaN_str (n : Nat) (b : Bool) (x : ByteArray) (h : Hp) : callN cx (n + 1) b 95 [.sc (.string x)] h = some (.sc (.bool false), h) := by
  refine pure_at (r := .sc (.bool false)) (h' := []) ⟨Tryz.f95.ntmps, (Tryz.f95.body).getD .skip, [.tmp 2]⟩ (by kernel_rfl) (by kernel_rfl) rfl (by kernel_rfl) (by simp [Tryz.f95]) rfl ?_ rfl b h
  simp [Tryz.f95, eqS]

def cmpI (x y : Int) : Int := if x < y then -1 else if y < x then 1 else 0
theorem Compare_int (n : Nat) (b : Bool) (x y : Int) (h : Hp) : callN cx (n + 2) b 49 [.sc (.int .i64 x), .sc (.int .i64 y)] h = some (.sc (.int .i64 (cmpI x y)), h) := by
  refine pure_at (r := .sc (.int .i64 (cmpI x y))) (h' := []) ⟨Tryz.f49.ntmps, (Tryz.f49.body).getD .skip, [.tmp 4]⟩ (by kernel_rfl) (by kernel_rfl) rfl (by kernel_rfl) (by simp [Tryz.f49]) rfl ?_ rfl b h
  simp [Tryz.f49, isNaN_int]
  rw [condX_ite]
  split <;> rename_i h1 <;> simp at h1 <;> simp [cmpI, h1]
  rw [condX_ite]
  split <;> rename_i h2 <;> simp at h2 <;> simp [cmpI, h1, h2]
  rw [if_neg (by omega), if_neg (by omega)]
def cmpS (x y : ByteArray) : Int := bif ltS x y then -1 else bif ltS y x then 1 else 0
theorem Compare_str (n : Nat) (b : Bool) (x y : ByteArray) (h : Hp) : callN cx (n + 2) b 50 [.sc (.string x), .sc (.string y)] h = some (.sc (.int .i64 (cmpS x y)), h) := by
  refine pure_at (r := .sc (.int .i64 (cmpS x y))) (h' := []) ⟨Tryz.f50.ntmps, (Tryz.f50.body).getD .skip, [.tmp 4]⟩ (by kernel_rfl) (by kernel_rfl) rfl (by kernel_rfl) (by simp [Tryz.f50]) rfl ?_ rfl b h
  simp [Tryz.f50, isNaN_str]
  cases h1 : ltS x y <;> simp [cmpS, h1]
  cases h2 : eqS x y
  · have h3 : ltS y x = true := ltS_total h1 h2
    simp [h2, h3]
  · have h3 : ltS y x = false := by rw [(eqS_iff x y).1 h2]; exact ltS_irrefl y
    simp [h2, h3]
def orI : List Int → Int
  | [] => 0
  | x :: l => if x = 0 then orI l else x
theorem orI_drop {xs : List Int} {i : Nat} {x : Int} (h : xs[i]? = some x) : orI (xs.drop i) = if x = 0 then orI (xs.drop (i + 1)) else x := by
  obtain ⟨hi, rfl⟩ := List.getElem?_eq_some_iff.1 h
  rw [List.drop_eq_getElem_cons hi]; rfl
theorem Or_int (n : Nat) (b : Bool) (xs : List Int) (z : Bool) (h : Hp) (hl : xs.length ≤ 1000000) : callN cx (n + 1) b 48 [.ls 1 (xs.map fun x => [.sc (.int .i64 x)]) z] h = some (.sc (.int .i64 (orI xs)), h) := by
  refine pure_at (r := .sc (.int .i64 (orI xs))) (h' := []) ⟨Tryz.f48.ntmps, (Tryz.f48.body).getD .skip, [.tmp 2]⟩ (by kernel_rfl) (by kernel_rfl) rfl (by kernel_rfl) (by simp [Tryz.f48]) rfl ?_ rfl b h
  simp [Tryz.f48, lenA]
  refine loop_up (G := fun x => finX _ (thenX _ _ (blockX _ x) _) = _)
    (fun i s => orI xs = orI (xs.drop i) ∧ s.1.length = 18 ∧ gt s.1 3 = .sc (.int .i64 0) ∧ gt s.1 6 = .ls 1 (xs.map fun x => [.sc (.int .i64 x)]) z ∧ gt s.1 7 = .sc (.int .i64 xs.length) ∧ gt s.1 8 = .sc (.int .i64 i) ∧ s.2 = [])
    (fun o s => s.2 = [] ∧ s.1.length = 18 ∧ ((o = .exit 0 ∧ orI xs = 0 ∧ gt s.1 3 = .sc (.int .i64 0)) ∨ (o = .ret ∧ gt s.1 2 = .sc (.int .i64 (orI xs))))) xs.length (by simp; omega) (by simp) ?_ ?_
  · rintro i fr h hle ⟨ho, hlen, h3, h6, h7, h8, rfl⟩
    simp only at hlen h3 h6 h7 h8
    by_cases hi : i < xs.length
    · have hx : xs[i]? = some xs[i] := List.getElem?_eq_getElem hi
      have hd := orI_drop hx
      have hf : fitI .i64 ((i : Int) + 1) = ((i + 1 : Nat) : Int) := fit_i64 (by omega) (by omega)
      by_cases h0 : xs[i] = 0
      · rw [if_pos h0] at hd
        simp [hlen, h3, h6, h7, h8, hi, hx, h0, hf, ho, hd]
      · rw [if_neg h0] at hd
        simp [hlen, h3, h6, h7, h8, hi, hx, h0, hf, ho, hd]
    · have hz : orI xs = 0 := by rw [ho, List.drop_eq_nil_of_le (by omega)]; rfl
      simp [hlen, h3, h6, h7, h8, hi, hz]
  · rintro o fr h hn ⟨rfl, hlen, ⟨rfl, h0, h3⟩ | ⟨rfl, h2⟩⟩
    · simp only at hlen h3
      simp [hlen, h3, h0]
    · simp only at h2
      simp [h2]
end Go.Proofs.YtadaeokidcgdlaaGreatDoor

/-
  Contracts: num, frac.Valid and their references.
-/
set_option linter.unusedSimpArgs false
set_option maxRecDepth 100000
namespace Go.Proofs.YtadaeokidcgdlaaGreatDoor
open Go Go.Ae
attribute [local simp] aop aopW coldF extF putA ofConst flat scalarOp fastOp binFast intOp strOp guardX Ae.part rowOf szOk natOf lenA cls fillA splice newsOf isNilC cellX

def inR (n : Int) : Bool := decide (-1000000000000000 ≤ n) && decide (n ≤ 1000000000000000)
theorem inR_iff (n : Int) : inR n = true ↔ -1000000000000000 ≤ n ∧ n ≤ 1000000000000000 := by simp [inR]
theorem num_In (n : Nat) (b : Bool) (x : Int) (h : Hp) : callN cx (n + 1) b 172 [.sc (.int .i64 x)] h = some (.sc (.bool (inR x)), h) := by
  refine pure_at (r := .sc (.bool (inR x))) (h' := []) ⟨Tryz.f172.ntmps, (Tryz.f172.body).getD .skip, [.tmp 2]⟩ (by kernel_rfl) (by kernel_rfl) rfl (by kernel_rfl) (by simp [Tryz.f172]) rfl ?_ rfl b h
  by_cases h1 : -1000000000000000 ≤ x <;> simp [Tryz.f172, h1, inR]
theorem r01_In (n : Nat) (b : Bool) (x : Int) (h : Hp) : callN cx (n + 1) b 244 [.sc (.int .i64 x)] h = some (.sc (.bool (inR x)), h) := by
  refine pure_at (r := .sc (.bool (inR x))) (h' := []) ⟨Tryz.f244.ntmps, (Tryz.f244.body).getD .skip, [.tmp 2]⟩ (by kernel_rfl) (by kernel_rfl) rfl (by kernel_rfl) (by simp [Tryz.f244]) rfl ?_ rfl b h
  by_cases h1 : -1000000000000000 ≤ x <;> simp [Tryz.f244, h1, inR]
theorem num_abs (n : Nat) (b : Bool) (x : Int) (h : Hp) (hx : inR x = true) : callN cx (n + 1) b 315 [.sc (.int .i64 x)] h = some (.sc (.int .i64 x.natAbs), h) := by
  rw [inR_iff] at hx
  refine pure_at (r := .sc (.int .i64 x.natAbs)) (h' := []) ⟨Tryz.f315.ntmps, (Tryz.f315.body).getD .skip, [.tmp 2]⟩ (by kernel_rfl) (by kernel_rfl) rfl (by kernel_rfl) (by simp [Tryz.f315]) rfl ?_ rfl b h
  have hf : fitI .i64 (-x) = -x := fit_i64 (by omega) (by omega)
  have hm : (if x < -x then -x else x) = (x.natAbs : Int) := by split <;> omega
  simp [Tryz.f315, hf, hm]
theorem r03_size (n : Nat) (b : Bool) (x : Int) (h : Hp) (hx : -9223372036854775807 ≤ x ∧ x ≤ 9223372036854775807) : callN cx (n + 1) b 171 [.sc (.int .i64 x)] h = some (.sc (.int .i64 x.natAbs), h) := by
  refine pure_at (r := .sc (.int .i64 x.natAbs)) (h' := []) ⟨Tryz.f171.ntmps, (Tryz.f171.body).getD .skip, [.tmp 2]⟩ (by kernel_rfl) (by kernel_rfl) rfl (by kernel_rfl) (by simp [Tryz.f171]) rfl ?_ rfl b h
  have hf : fitI .i64 (-x) = -x := fit_i64 (by omega) (by omega)
  by_cases h1 : x < 0
  · have hm : -x = (x.natAbs : Int) := by omega
    rw [hm] at hf
    simp [Tryz.f171, hf, h1, hm]
  · have hm : (x.natAbs : Int) = x := by omega
    simp [Tryz.f171, h1, hm]
def gcdI (x y : Int) : Int := (Nat.gcd x.natAbs y.natAbs : Nat)
theorem num_Gcd (n : Nat) (b : Bool) (x y : Int) (h : Hp) (hx : inR x = true) (hy : inR y = true) : callN cx (n + 2) b 252 [.sc (.int .i64 x), .sc (.int .i64 y)] h = some (.sc (.int .i64 (gcdI x y)), h) := by
  refine pure_at (r := .sc (.int .i64 (gcdI x y))) (h' := []) ⟨Tryz.f252.ntmps, (Tryz.f252.body).getD .skip, [.tmp 4]⟩ (by kernel_rfl) (by kernel_rfl) rfl (by kernel_rfl) (by simp [Tryz.f252]) rfl ?_ rfl b h
  simp [Tryz.f252, num_In, num_abs, hx, hy]
  rw [inR_iff] at hx hy
  refine loop_down (G := fun x => finX _ (thenX _ _ (blockX _ x) _) = _)
    (fun k s => ∃ p q : Nat, k = q ∧ Nat.gcd p q = Nat.gcd x.natAbs y.natAbs ∧ p ≤ 1000000000000000 ∧ q ≤ 1000000000000000 ∧ s.1.length = 24 ∧ gt s.1 0 = .sc (.int .i64 p) ∧ gt s.1 1 = .sc (.int .i64 q) ∧ s.2 = [])
    (fun o s => s.2 = [] ∧ s.1.length = 24 ∧ o = .exit 0 ∧ gt s.1 0 = .sc (.int .i64 (Nat.gcd x.natAbs y.natAbs))) y.natAbs (by simp; omega) ⟨x.natAbs, y.natAbs, rfl, rfl, by omega, by omega, by simp⟩ ?_ ?_
  · rintro k fr h ⟨p, q, rfl, hg, hp, hq, hlen, h0, h1, rfl⟩
    simp only at hlen h0 h1
    by_cases hz : k = 0
    · subst hz
      rw [Nat.gcd_zero_right] at hg
      simp [hlen, h0, h1, hg]
    · have hb : ¬ (k : Int) = 0 := by omega
      have hm : ((p : Int).tmod (k : Int)) = ((p % k : Nat) : Int) := rfl
      have hk : True := trivial
      have h2 : Nat.gcd k (p % k) = Nat.gcd x.natAbs y.natAbs := by rw [← hg, Nat.gcd_comm p k, Nat.gcd_rec k p, Nat.gcd_comm]
      have h3 : p % k < k := Nat.mod_lt _ (by omega)
      simp [hlen, h0, h1, hz, hb, hm, hk]
      exact ⟨p % k, h3, k, h2, hq, by omega, rfl, rfl⟩
  · rintro o fr h hn ⟨rfl, hlen, rfl, h0⟩
    simp only at hlen h0
    simp [hlen, h0, gcdI]
theorem r03_gcd (n : Nat) (b : Bool) (x y : Nat) (h : Hp) (hx : x ≤ 1000000000000000) (hy : y ≤ 1000000000000000) : callN cx (n + 1) b 248 [.sc (.int .i64 x), .sc (.int .i64 y)] h = some (.sc (.int .i64 (Nat.gcd x y)), h) := by
  refine pure_at (r := .sc (.int .i64 (Nat.gcd x y))) (h' := []) ⟨Tryz.f248.ntmps, (Tryz.f248.body).getD .skip, [.tmp 4]⟩ (by kernel_rfl) (by kernel_rfl) rfl (by kernel_rfl) (by simp [Tryz.f248]) rfl ?_ rfl b h
  simp [Tryz.f248]
  refine loop_down (G := fun x => finX _ (thenX _ _ (blockX _ x) _) = _)
    (fun k s => ∃ p q : Nat, k = q ∧ Nat.gcd p q = Nat.gcd x y ∧ p ≤ 1000000000000000 ∧ q ≤ 1000000000000000 ∧ s.1.length = 12 ∧ gt s.1 0 = .sc (.int .i64 p) ∧ gt s.1 1 = .sc (.int .i64 q) ∧ s.2 = [])
    (fun o s => s.2 = [] ∧ s.1.length = 12 ∧ o = .exit 0 ∧ gt s.1 0 = .sc (.int .i64 (Nat.gcd x y))) y (by simp; omega) ⟨x, y, rfl, rfl, by omega, by omega, by simp⟩ ?_ ?_
  · rintro k fr h ⟨p, q, rfl, hg, hp, hq, hlen, h0, h1, rfl⟩
    simp only at hlen h0 h1
    by_cases hz : k = 0
    · subst hz
      rw [Nat.gcd_zero_right] at hg
      simp [hlen, h0, h1, hg]
    · have hb : ¬ (k : Int) = 0 := by omega
      have hm : ((p : Int).tmod (k : Int)) = ((p % k : Nat) : Int) := rfl
      have hk : 0 < k := by omega
      have h2 : Nat.gcd k (p % k) = Nat.gcd x y := by rw [← hg, Nat.gcd_comm p k, Nat.gcd_rec k p, Nat.gcd_comm]
      have h3 : p % k < k := Nat.mod_lt _ (by omega)
      simp [hlen, h0, h1, hz, hb, hm, hk]
      exact ⟨p % k, h3, k, h2, hq, by omega, rfl, rfl⟩
  · rintro o fr h hn ⟨rfl, hlen, rfl, h0⟩
    simp only at hlen h0
    simp [hlen, h0]
end Go.Proofs.YtadaeokidcgdlaaGreatDoor

/-
  Contracts: frac.Valid, its reference, bits.Mul64.
-/
set_option linter.unusedSimpArgs false
set_option maxRecDepth 100000
namespace Go.Proofs.YtadaeokidcgdlaaGreatDoor
open Go Go.Ae
attribute [local simp] aop aopW coldF extF putA ofConst flat scalarOp fastOp binFast intOp strOp guardX Ae.part rowOf szOk natOf lenA cls fillA splice newsOf isNilC cellX

def frA (N D : Int) : AV := .ag [.sc (.int .i64 N), .sc (.int .i64 D)]
def fv (N D : Int) : Bool := decide (1 ≤ D) && decide (D ≤ 1000000000000000) && inR N && decide (gcdI N D = 1)
theorem fv_inR {N D : Int} (h : fv N D = true) : inR N = true ∧ inR D = true ∧ 1 ≤ D := by
  simp only [fv, Bool.and_eq_true, decide_eq_true_eq] at h
  exact ⟨h.1.2, by rw [inR_iff]; omega, h.1.1.1⟩
theorem frac_Valid (n : Nat) (b : Bool) (N D : Int) (h : Hp) : callN cx (n + 3) b 173 [frA N D] h = some (.sc (.bool (fv N D)), h) := by
  refine pure_calm (r := .sc (.bool (fv N D))) ⟨Tryz.f173.ntmps, (Tryz.f173.body).getD .skip, [.tmp 2]⟩ (by kernel_rfl) (by kernel_rfl) rfl (by kernel_rfl) (by simp [Tryz.f173]) rfl rfl ?_ b h
  by_cases h1 : 1 ≤ D
  · by_cases h2 : D ≤ 1000000000000000
    · cases h3 : inR N with
      | false => simp [Tryz.f173, frA, h1, h2, num_In, h3, fv]
      | true =>
        have hD : inR D = true := by rw [inR_iff]; omega
        simp [Tryz.f173, frA, h1, h2, num_In, h3, fv, num_Gcd _ _ _ _ _ h3 hD]
    · simp [Tryz.f173, frA, h1, h2, fv]
  · simp [Tryz.f173, frA, h1, fv]
theorem r03_Valid (n : Nat) (b : Bool) (N D : Int) (h : Hp) : callN cx (n + 2) b 167 [frA N D] h = some (.sc (.bool (fv N D)), h) := by
  refine pure_calm (r := .sc (.bool (fv N D))) ⟨Tryz.f167.ntmps, (Tryz.f167.body).getD .skip, [.tmp 2]⟩ (by kernel_rfl) (by kernel_rfl) rfl (by kernel_rfl) (by simp [Tryz.f167]) rfl rfl ?_ b h
  by_cases h1 : 1 ≤ D
  · by_cases h2 : D ≤ 1000000000000000
    · by_cases h3 : -1000000000000000 ≤ N
      · by_cases h4 : N ≤ 1000000000000000
        · obtain ⟨d, rfl⟩ : ∃ d : Nat, D = d := ⟨D.toNat, by omega⟩
          have h5 : d ≤ 1000000000000000 := by omega
          simp [Tryz.f167, frA, h1, h2, h3, h4, inR, fv, gcdI, r03_size _ _ N _ ⟨by omega, by omega⟩, r03_gcd _ _ N.natAbs d _ (by omega) h5]
          rfl
        · simp [Tryz.f167, frA, h1, h2, h3, h4, inR, fv]
      · simp [Tryz.f167, frA, h1, h2, h3, inR, fv]
    · simp [Tryz.f167, frA, h1, h2, fv]
  · simp [Tryz.f167, frA, h1, fv]
theorem and32 (x : Nat) : x &&& 4294967295 = x % 4294967296 := Nat.and_two_pow_sub_one_eq_mod x 32
theorem mul32 {x y : Int} (hx : 0 ≤ x) (hx' : x ≤ 4294967295) (hy : 0 ≤ y) (hy' : y ≤ 4294967295) : 0 ≤ x * y ∧ x * y ≤ 18446744065119617025 :=
  ⟨Int.mul_nonneg hx hy, by have := Int.mul_le_mul hx' hy' hy (by decide : (0 : Int) ≤ 4294967295); omega⟩
theorem Mul64 (n : Nat) (b : Bool) (x y : Int) (h : Hp) (hx : 0 ≤ x) (hx' : x ≤ 18446744073709551615) (hy : 0 ≤ y) (hy' : y ≤ 18446744073709551615) :
    callN cx (n + 1) b 254 [.sc (.int .u64 x), .sc (.int .u64 y)] h = some (.tp [.sc (.int .u64 (x * y / 18446744073709551616)), .sc (.int .u64 (x * y % 18446744073709551616))], h) := by
  obtain ⟨x0, hx0⟩ : ∃ x0, x0 = x % 4294967296 := ⟨_, rfl⟩
  obtain ⟨x1, hx1⟩ : ∃ x1, x1 = x / 4294967296 := ⟨_, rfl⟩
  obtain ⟨y0, hy0⟩ : ∃ y0, y0 = y % 4294967296 := ⟨_, rfl⟩
  obtain ⟨y1, hy1⟩ : ∃ y1, y1 = y / 4294967296 := ⟨_, rfl⟩
  have am : ∀ z : Int, 0 ≤ z → ((z.toNat &&& 4294967295 : Nat) : Int) = z % 4294967296 := fun z hz => by rw [and32]; omega
  have b00 := mul32 (x := x0) (y := y0) (by omega) (by omega) (by omega) (by omega)
  have b10 := mul32 (x := x1) (y := y0) (by omega) (by omega) (by omega) (by omega)
  have b01 := mul32 (x := x0) (y := y1) (by omega) (by omega) (by omega) (by omega)
  have b11 := mul32 (x := x1) (y := y1) (by omega) (by omega) (by omega) (by omega)
  have exy : x * y = x1 * y1 * 18446744073709551616 + (x1 * y0 + x0 * y1) * 4294967296 + x0 * y0 := by
    have ex : x = x1 * 4294967296 + x0 := by omega
    have ey : y = y1 * 4294967296 + y0 := by omega
    rw [ex, ey, Int.add_mul, Int.mul_add, Int.mul_add, Int.add_mul]
    have e1 : x1 * 4294967296 * (y1 * 4294967296) = x1 * y1 * 18446744073709551616 := by rw [Int.mul_assoc, ← Int.mul_assoc 4294967296, Int.mul_comm 4294967296 y1, Int.mul_assoc y1, ← Int.mul_assoc x1]; rfl
    have e2 : x1 * 4294967296 * y0 = x1 * y0 * 4294967296 := by rw [Int.mul_assoc, Int.mul_comm 4294967296 y0, ← Int.mul_assoc]
    have e3 : x0 * (y1 * 4294967296) = x0 * y1 * 4294967296 := by rw [Int.mul_assoc]
    omega
  obtain ⟨P, hP⟩ : ∃ P, P = x0 * y0 := ⟨_, rfl⟩
  obtain ⟨Q, hQ⟩ : ∃ Q, Q = x1 * y0 := ⟨_, rfl⟩
  obtain ⟨R, hR⟩ : ∃ R, R = x0 * y1 := ⟨_, rfl⟩
  obtain ⟨S, hS⟩ : ∃ S, S = x1 * y1 := ⟨_, rfl⟩
  rw [← hP] at b00 exy
  rw [← hQ] at b10 exy
  rw [← hR] at b01 exy
  rw [← hS] at b11 exy
  have hhi : S + (Q + P / 4294967296) / 4294967296 + ((Q + P / 4294967296) % 4294967296 + R) / 4294967296 = x * y / 18446744073709551616 := by omega
  have hlo : fitI .u64 (x * y) = x * y % 18446744073709551616 := by
    rw [fitI_wrap]
    simp [IntKind.wrap, IntKind.signed, IntKind.bits]
  have f1 : fitI .u64 P = P := fit_u64 (by omega) (by omega)
  have f2 : fitI .u64 Q = Q := fit_u64 (by omega) (by omega)
  have f3 : fitI .u64 (Q + P / 4294967296) = Q + P / 4294967296 := fit_u64 (by omega) (by omega)
  have f4 : fitI .u64 R = R := fit_u64 (by omega) (by omega)
  have f5 : fitI .u64 ((Q + P / 4294967296) % 4294967296 + R) = (Q + P / 4294967296) % 4294967296 + R := fit_u64 (by omega) (by omega)
  have f6 : fitI .u64 S = S := fit_u64 (by omega) (by omega)
  have f7 : fitI .u64 (S + (Q + P / 4294967296) / 4294967296) = S + (Q + P / 4294967296) / 4294967296 := fit_u64 (by omega) (by omega)
  have f8 : fitI .u64 (S + (Q + P / 4294967296) / 4294967296 + ((Q + P / 4294967296) % 4294967296 + R) / 4294967296) = S + (Q + P / 4294967296) / 4294967296 + ((Q + P / 4294967296) % 4294967296 + R) / 4294967296 := fit_u64 (by omega) (by omega)
  have a1 := am x hx
  have a2 := am y hy
  have a3 := am (Q + P / 4294967296) (by omega)
  have p3 : 0 ≤ Q + P / 4294967296 := by omega
  have q3 : Q + P / 4294967296 ≤ 18446744073709551615 := by omega
  rw [← hx0] at a1
  rw [← hy0] at a2
  have r := hhi.symm
  refine pure_at (r := .tp [.sc (.int .u64 (x * y / 18446744073709551616)), .sc (.int .u64 (x * y % 18446744073709551616))]) (h' := []) ⟨Tryz.f254.ntmps, (Tryz.f254.body).getD .skip, [.tmp 4, .tmp 5]⟩ (by kernel_rfl) (by kernel_rfl) rfl (by kernel_rfl) (by simp [Tryz.f254]) rfl ?_ rfl b h
  simp [Tryz.f254, hx, hx', hy, hy', a1, a2, ← hx1, ← hy1, ← hP, ← hQ, ← hR, ← hS, f1, f2, f3, p3, q3, a3, f4, f5, f6, f7, f8, hlo, r, IntKind.bits]
end Go.Proofs.YtadaeokidcgdlaaGreatDoor

/-
  Contracts: frac's wide numbers.
-/
set_option linter.unusedSimpArgs false
set_option maxRecDepth 100000
namespace Go.Proofs.YtadaeokidcgdlaaGreatDoor
open Go Go.Ae
attribute [local simp] aop aopW coldF extF putA ofConst flat scalarOp fastOp binFast intOp strOp guardX Ae.part rowOf szOk natOf lenA cls fillA splice newsOf isNilC cellX

theorem frac_size (n : Nat) (b : Bool) (x : Int) (h : Hp) (hx : inR x = true) : callN cx (n + 1) b 255 [.sc (.int .i64 x)] h = some (.sc (.int .u64 x.natAbs), h) := by
  rw [inR_iff] at hx
  refine pure_calm (r := .sc (.int .u64 x.natAbs)) ⟨Tryz.f255.ntmps, (Tryz.f255.body).getD .skip, [.tmp 2]⟩ (by kernel_rfl) (by kernel_rfl) rfl (by kernel_rfl) (by simp [Tryz.f255]) rfl rfl ?_ b h
  by_cases h1 : x < 0
  · have f1 : fitI .u64 x = x + 18446744073709551616 := by
      rw [fitI_wrap]
      simp only [IntKind.wrap, IntKind.signed, IntKind.bits, Bool.false_and, Bool.false_eq_true, if_false]
      omega
    have f2 : fitI .u64 (-(x + 18446744073709551616)) = (x.natAbs : Int) := by
      rw [fitI_wrap]
      simp only [IntKind.wrap, IntKind.signed, IntKind.bits, Bool.false_and, Bool.false_eq_true, if_false]
      omega
    simp [Tryz.f255, h1, f1, f2]
  · have f1 : fitI .u64 x = x := fit_u64 (by omega) (by omega)
    have f2 : x = (x.natAbs : Int) := by omega
    simp [Tryz.f255, h1, f1]
    exact f2
/-- A number of up to 128 bits, with its sign. -/
def wA (g : Bool) (m : Int) : AV := .ag [.sc (.bool g), .sc (.int .u64 (m / 18446744073709551616)), .sc (.int .u64 (m % 18446744073709551616))]
theorem frac_product (n : Nat) (b : Bool) (x y : Int) (h : Hp) (hx : inR x = true) (hy : inR y = true) :
    callN cx (n + 2) b 177 [.sc (.int .i64 x), .sc (.int .i64 y)] h = some (wA (decide (x < 0) != decide (y < 0)) (x.natAbs * y.natAbs : Nat), h) := by
  have hx' := hx
  have hy' := hy
  rw [inR_iff] at hx hy
  refine pure_calm (r := wA (decide (x < 0) != decide (y < 0)) (x.natAbs * y.natAbs : Nat)) ⟨Tryz.f177.ntmps, (Tryz.f177.body).getD .skip, [.cell 4 3 true]⟩ (by kernel_rfl) (by kernel_rfl) rfl (by kernel_rfl) (by simp [Tryz.f177]) rfl rfl ?_ b h
  simp [Tryz.f177, frac_size _ _ _ _ hx', frac_size _ _ _ _ hy', Mul64 _ _ (x.natAbs : Int) (y.natAbs : Int) _ (by omega) (by omega) (by omega) (by omega), wA]
theorem wide_less (n : Nat) (b : Bool) (g g' : Bool) (x y : Int) (h : Hp) : callN cx (n + 1) b 257 [wA g x, wA g' y] h = some (.sc (.bool (decide (x < y))), h) := by
  refine pure_calm (r := .sc (.bool (decide (x < y)))) ⟨Tryz.f257.ntmps, (Tryz.f257.body).getD .skip, [.tmp 4]⟩ (by kernel_rfl) (by kernel_rfl) rfl (by kernel_rfl) (by simp [Tryz.f257]) rfl rfl ?_ b h
  have e : x = x / 18446744073709551616 * 18446744073709551616 + x % 18446744073709551616 := by omega
  have e' : y = y / 18446744073709551616 * 18446744073709551616 + y % 18446744073709551616 := by omega
  by_cases h1 : x / 18446744073709551616 < y / 18446744073709551616
  · have h0 : x < y := by omega
    simp [Tryz.f257, wA, h1, h0]
  · by_cases h2 : x / 18446744073709551616 = y / 18446744073709551616
    · have h0 : (x % 18446744073709551616 < y % 18446744073709551616) = (x < y) := propext (by omega)
      simp [Tryz.f257, wA, h2, h0]
    · have h0 : ¬ x < y := by omega
      simp [Tryz.f257, wA, h1, h2, h0]
def sgW (g : Bool) (m : Int) : Int := if m = 0 then 0 else bif g then -1 else 1
theorem wide_sign (n : Nat) (b : Bool) (g : Bool) (x : Int) (h : Hp) (h0 : 0 ≤ x) (h1 : x < 18446744073709551616 * 18446744073709551616) : callN cx (n + 1) b 179 [wA g x] h = some (.sc (.int .i64 (sgW g x)), h) := by
  refine pure_calm (r := .sc (.int .i64 (sgW g x))) ⟨Tryz.f179.ntmps, (Tryz.f179.body).getD .skip, [.tmp 2]⟩ (by kernel_rfl) (by kernel_rfl) rfl (by kernel_rfl) (by simp [Tryz.f179]) rfl rfl ?_ b h
  have a1 : 0 ≤ x / 18446744073709551616 := by omega
  have a2 : x / 18446744073709551616 ≤ 18446744073709551615 := by omega
  have a3 : 0 ≤ x % 18446744073709551616 := by omega
  have a4 : x % 18446744073709551616 ≤ 18446744073709551615 := by omega
  by_cases hz : x = 0
  · subst hz
    simp [Tryz.f179, wA, sgW]
  · by_cases h2 : x / 18446744073709551616 ≤ 0
    · have h3 : ¬ x % 18446744073709551616 ≤ 0 := by omega
      cases g <;> simp [Tryz.f179, wA, sgW, hz, a1, a2, a3, a4, h2, h3]
    · cases g <;> simp [Tryz.f179, wA, sgW, hz, a1, a2, a3, a4, h2]

theorem slow_ext3 {f : FuncId} {fr : List AV} {A B D : Operand} {x y c : Value} (hA : ev cx fr A = .sc x) (hB : ev cx fr B = .sc y) (hD : ev cx fr D = .sc c) {d : Option Tmp} {tys : Array TypeId} {t : TypeId} {p : String} {a : Array Edge} {g : Option (Nat × Bool)} {r : Value} {R : AV}
    (hr : runPure cx.P (callFunc f #[x, y, c]) = some (.value r)) (hR : ofResult r = some R) : slowOp cx (ev cx fr) { dst := d, op := .call { callee := .value (.func f), args := #[A, B, D], argTypes := tys }, type := t, pos := p, after := a, guard := g } = some R := by
  unfold slowOp
  have e : execOp (fun x => detOf (ev cx fr x)) { dst := d, op := .call { callee := .value (.func f), args := #[A, B, D], argTypes := tys }, type := t, pos := p, after := a, guard := g } = callFunc f #[x, y, c] := by
    simp [execOp, resolve, Deferred.ofValue, invoke, detOf, hA, hB, hD]
  rw [e, hr]
  simp [isSelect, Op.operands, Call.operands, isDet, hA, hB, hD, hR]
theorem add64_b (x y : Int) : runPure cx.P (callFunc 256 #[.int .u64 x, .int .u64 y, .int .u64 0]) = some (.value (.tuple #[.int .u64 ((x.toNat + y.toNat + 0) % 18446744073709551616 : Nat), .int .u64 ((x.toNat + y.toNat + 0) / 18446744073709551616 : Nat)])) := by kernel_rfl
theorem add64_c (x y : Int) : runPure cx.P (callFunc 256 #[.int .u64 x, .int .u64 y, .int .u64 1]) = some (.value (.tuple #[.int .u64 ((x.toNat + y.toNat + 1) % 18446744073709551616 : Nat), .int .u64 ((x.toNat + y.toNat + 1) / 18446744073709551616 : Nat)])) := by kernel_rfl
theorem sub64_b (x y : Int) : runPure cx.P (callFunc 258 #[.int .u64 x, .int .u64 y, .int .u64 0]) = some (.value (.tuple #[.int .u64 ((x.toNat + 18446744073709551616 - y.toNat - 0) % 18446744073709551616 : Nat), .int .u64 (if x.toNat < y.toNat + 0 then 1 else 0 : Nat)])) := by kernel_rfl
theorem sub64_c (x y : Int) : runPure cx.P (callFunc 258 #[.int .u64 x, .int .u64 y, .int .u64 1]) = some (.value (.tuple #[.int .u64 ((x.toNat + 18446744073709551616 - y.toNat - 1) % 18446744073709551616 : Nat), .int .u64 (if x.toNat < y.toNat + 1 then 1 else 0 : Nat)])) := by kernel_rfl
theorem add64 (x y c : Int) (hx : 0 ≤ x) (hy : 0 ≤ y) (hc : c = 0 ∨ c = 1) : runPure cx.P (callFunc 256 #[.int .u64 x, .int .u64 y, .int .u64 c]) = some (.value (.tuple #[.int .u64 ((x + y + c) % 18446744073709551616), .int .u64 ((x + y + c) / 18446744073709551616)])) := by
  rcases hc with rfl | rfl
  · rw [add64_b, show (((x.toNat + y.toNat + 0) % 18446744073709551616 : Nat) : Int) = (x + y + 0) % 18446744073709551616 by omega, show (((x.toNat + y.toNat + 0) / 18446744073709551616 : Nat) : Int) = (x + y + 0) / 18446744073709551616 by omega]
  · rw [add64_c, show (((x.toNat + y.toNat + 1) % 18446744073709551616 : Nat) : Int) = (x + y + 1) % 18446744073709551616 by omega, show (((x.toNat + y.toNat + 1) / 18446744073709551616 : Nat) : Int) = (x + y + 1) / 18446744073709551616 by omega]
theorem sub64 (x y c : Int) (hx : 0 ≤ x) (hy : 0 ≤ y) (hy' : y < 18446744073709551616) (hc : c = 0 ∨ c = 1) : runPure cx.P (callFunc 258 #[.int .u64 x, .int .u64 y, .int .u64 c]) = some (.value (.tuple #[.int .u64 ((x + 18446744073709551616 - y - c) % 18446744073709551616), .int .u64 (if x < y + c then 1 else 0)])) := by
  rcases hc with rfl | rfl
  · rw [sub64_b, show (((x.toNat + 18446744073709551616 - y.toNat - 0) % 18446744073709551616 : Nat) : Int) = (x + 18446744073709551616 - y - 0) % 18446744073709551616 by omega, show ((if x.toNat < y.toNat + 0 then 1 else 0 : Nat) : Int) = if x < y + 0 then 1 else 0 by split <;> split <;> omega]
  · rw [sub64_c, show (((x.toNat + 18446744073709551616 - y.toNat - 1) % 18446744073709551616 : Nat) : Int) = (x + 18446744073709551616 - y - 1) % 18446744073709551616 by omega, show ((if x.toNat < y.toNat + 1 then 1 else 0 : Nat) : Int) = if x < y + 1 then 1 else 0 by split <;> split <;> omega]
def plG (g g' : Bool) (x y : Int) : Bool := bif g == g' then g else bif decide (x < y) then g' else g
def plM (g g' : Bool) (x y : Int) : Int := bif g == g' then x + y else bif decide (x < y) then y - x else x - y
theorem wide_plus (n : Nat) (b : Bool) (g g' : Bool) (x y : Int) (h : Hp) (hx : 0 ≤ x) (hx' : x < 18446744073709551616 * 9223372036854775808) (hy : 0 ≤ y) (hy' : y < 18446744073709551616 * 9223372036854775808) :
    callN cx (n + 2) b 178 [wA g x, wA g' y] h = some (wA (plG g g' x y) (plM g g' x y), h) := by
  refine pure_calm (r := wA (plG g g' x y) (plM g g' x y)) ⟨Tryz.f178.ntmps, (Tryz.f178.body).getD .skip, [.cell 4 3 true]⟩ (by kernel_rfl) (by kernel_rfl) rfl (by kernel_rfl) (by simp [Tryz.f178]) rfl rfl ?_ b h
  obtain ⟨xh, hxh⟩ : ∃ v, v = x / 18446744073709551616 := ⟨_, rfl⟩
  obtain ⟨xl, hxl⟩ : ∃ v, v = x % 18446744073709551616 := ⟨_, rfl⟩
  obtain ⟨yh, hyh⟩ : ∃ v, v = y / 18446744073709551616 := ⟨_, rfl⟩
  obtain ⟨yl, hyl⟩ : ∃ v, v = y % 18446744073709551616 := ⟨_, rfl⟩
  cases hg : g == g' with
  | true =>
    have hc : (xl + yl) / 18446744073709551616 = 0 ∨ (xl + yl) / 18446744073709551616 = 1 := by omega
    simp [Tryz.f178, wA, plG, plM, hg, ← hxh, ← hxl, ← hyh, ← hyl]
    rw [slow_ext3 ?_ ?_ ?_ (add64 xl yl 0 (by omega) (by omega) (.inl rfl)) rfl]
    rotate_left
    · rfl
    · rfl
    · rfl
    simp
    rw [slow_ext3 ?_ ?_ ?_ (add64 xh yh ((xl + yl) / 18446744073709551616) (by omega) (by omega) hc) rfl]
    rotate_left
    · rfl
    · rfl
    · rfl
    have f1 : (xl + yl) % 18446744073709551616 = (x + y) % 18446744073709551616 := by omega
    have f2 : (xh + yh + (xl + yl) / 18446744073709551616) % 18446744073709551616 = (x + y) / 18446744073709551616 := by omega
    simp [f1, f2]
  | false =>
    have hl := fun h => wide_less n true g g' x y h
    simp only [wA, ← hxh, ← hxl, ← hyh, ← hyl] at hl
    by_cases hlt : x < y
    · simp only [hlt, decide_true] at hl
      have hc : (if yl < xl then (1 : Int) else 0) = 0 ∨ (if yl < xl then (1 : Int) else 0) = 1 := by split <;> simp
      simp [Tryz.f178, wA, plG, plM, hg, ← hxh, ← hxl, ← hyh, ← hyl, hlt, hl]
      rw [slow_ext3 ?_ ?_ ?_ (sub64 yl xl 0 (by omega) (by omega) (by omega) (.inl rfl)) rfl]
      rotate_left
      · rfl
      · rfl
      · rfl
      simp
      rw [slow_ext3 ?_ ?_ ?_ (sub64 yh xh (if yl < xl then 1 else 0) (by omega) (by omega) (by omega) hc) rfl]
      rotate_left
      · rfl
      · rfl
      · rfl
      have f1 : (yl + 18446744073709551616 - xl) % 18446744073709551616 = (y - x) % 18446744073709551616 := by omega
      have f2 : (yh + 18446744073709551616 - xh - (if yl < xl then 1 else 0)) % 18446744073709551616 = (y - x) / 18446744073709551616 := by split <;> omega
      simp [f1, f2]
    · simp only [hlt, decide_false] at hl
      have hc : (if xl < yl then (1 : Int) else 0) = 0 ∨ (if xl < yl then (1 : Int) else 0) = 1 := by split <;> simp
      simp [Tryz.f178, wA, plG, plM, hg, ← hxh, ← hxl, ← hyh, ← hyl, hlt, hl]
      rw [slow_ext3 ?_ ?_ ?_ (sub64 xl yl 0 (by omega) (by omega) (by omega) (.inl rfl)) rfl]
      rotate_left
      · rfl
      · rfl
      · rfl
      simp
      rw [slow_ext3 ?_ ?_ ?_ (sub64 xh yh (if xl < yl then 1 else 0) (by omega) (by omega) (by omega) hc) rfl]
      rotate_left
      · rfl
      · rfl
      · rfl
      have f1 : (xl + 18446744073709551616 - yl) % 18446744073709551616 = (x - y) % 18446744073709551616 := by omega
      have f2 : (xh + 18446744073709551616 - yh - (if xl < yl then 1 else 0)) % 18446744073709551616 = (x - y) / 18446744073709551616 := by split <;> omega
      simp [f1, f2]
end Go.Proofs.YtadaeokidcgdlaaGreatDoor

/-
  Contracts: frac.Cmp.
-/
set_option linter.unusedSimpArgs false
set_option maxRecDepth 100000
namespace Go.Proofs.YtadaeokidcgdlaaGreatDoor
open Go Go.Ae
attribute [local simp] aop aopW coldF extF putA ofConst flat scalarOp fastOp binFast intOp strOp guardX Ae.part rowOf szOk natOf lenA cls fillA splice newsOf isNilC cellX

def sgnI (z : Int) : Int := if z < 0 then -1 else if 0 < z then 1 else 0
theorem cmp_math (n1 d1 n2 d2 : Int) (h1 : 0 < d1) (h2 : 0 < d2) :
    sgW (plG (decide (n1 < 0) != decide (d2 < 0)) (decide (-n2 < 0) != decide (d1 < 0)) (n1.natAbs * d2.natAbs : Nat) ((-n2).natAbs * d1.natAbs : Nat))
      (plM (decide (n1 < 0) != decide (d2 < 0)) (decide (-n2 < 0) != decide (d1 < 0)) (n1.natAbs * d2.natAbs : Nat) ((-n2).natAbs * d1.natAbs : Nat)) = sgnI (n1 * d2 - n2 * d1) := by
  obtain ⟨p, hp⟩ : ∃ p, p = n1 * d2 := ⟨_, rfl⟩
  obtain ⟨q, hq⟩ : ∃ q, q = n2 * d1 := ⟨_, rfl⟩
  have e1 : ((n1.natAbs * d2.natAbs : Nat) : Int) = (p.natAbs : Int) := by rw [hp, Int.natAbs_mul]
  have e2 : (((-n2).natAbs * d1.natAbs : Nat) : Int) = (q.natAbs : Int) := by rw [hq, Int.natAbs_mul, Int.natAbs_neg]
  have g1 : (n1 < 0) = (p < 0) := propext ⟨fun h => by rw [hp]; exact Int.mul_neg_of_neg_of_pos h h2, fun h => by
    rw [hp] at h
    apply Classical.byContradiction
    intro hn
    have := Int.mul_nonneg (Int.not_lt.1 hn) (Int.le_of_lt h2)
    omega⟩
  have g2 : (-n2 < 0) = (0 < q) := propext ⟨fun h => by rw [hq]; exact Int.mul_pos (by omega) h1, fun h => by
    rw [hq] at h
    apply Classical.byContradiction
    intro hn
    have := Int.mul_nonneg (show 0 ≤ -n2 by omega) (Int.le_of_lt h1)
    rw [Int.neg_mul] at this
    omega⟩
  rw [e1, e2, ← hp, ← hq]
  have d10 : decide (d1 < 0) = false := decide_eq_false (by omega)
  have d20 : decide (d2 < 0) = false := decide_eq_false (by omega)
  simp only [g1, g2, d10, d20, Bool.bne_false, sgW, plG, plM, sgnI]
  by_cases a : p < 0 <;> by_cases b : 0 < q <;> by_cases c : (p.natAbs : Int) < q.natAbs <;> simp [a, b, c] <;> (repeat' split) <;> omega
theorem plM_bd {g g' : Bool} {x y B : Int} (hx : 0 ≤ x) (hy : 0 ≤ y) (hx' : x ≤ B) (hy' : y ≤ B) : 0 ≤ plM g g' x y ∧ plM g g' x y ≤ 2 * B := by
  unfold plM
  cases g == g' with
  | true => simp only [cond_true]; omega
  | false =>
    by_cases h : x < y
    · simp only [h, decide_true, cond_true, cond_false]; omega
    · simp only [h, decide_false, cond_false]; omega
def nrmN (N D : Int) : Int := bif fv N D then N else 0
def nrmD (N D : Int) : Int := bif fv N D then D else 1
theorem nrm_ok (N D : Int) : inR (nrmN N D) = true ∧ inR (nrmD N D) = true ∧ 0 < nrmD N D := by
  unfold nrmN nrmD
  cases h : fv N D with
  | true => obtain ⟨h1, h2, h3⟩ := fv_inR h; exact ⟨h1, h2, h3⟩
  | false => exact ⟨rfl, rfl, (by decide : (0 : Int) < 1)⟩
def cmpF (N1 D1 N2 D2 : Int) : Int := sgnI (nrmN N1 D1 * nrmD N2 D2 - nrmN N2 D2 * nrmD N1 D1)
theorem inR_neg {x : Int} (h : inR x = true) : inR (-x) = true := by rw [inR_iff] at *; omega
theorem mul_le30 {x y : Int} (hx : inR x = true) (hy : inR y = true) : ((x.natAbs * y.natAbs : Nat) : Int) ≤ 1000000000000000000000000000000 := by
  rw [inR_iff] at *
  have := Nat.mul_le_mul (show x.natAbs ≤ 1000000000000000 by omega) (show y.natAbs ≤ 1000000000000000 by omega)
  omega
@[simp] theorem ev_zero (fr : List AV) : ev cx fr (.global 0) = .rp [.sc (.int .i64 0), .sc (.int .i64 1)] 0 := rfl
@[simp] theorem opN_wA {C : Cx} {cal : FuncId → List AV → Hp → Option (AV × Hp)} {ops : Array Oper} (d : Tmp) (rest : List Oper) (fr : List AV) (g : Bool) (m : Int) (h : Hp) : opN C cal ops (some d) rest fr (some (wA g m, h)) = runOps C cal ops rest (fr.set d (wA g m), h) := rfl
theorem frac_Cmp (n : Nat) (b : Bool) (N1 D1 N2 D2 : Int) (h : Hp) : callN cx (n + 4) b 106 [frA N1 D1, frA N2 D2] h = some (.sc (.int .i64 (cmpF N1 D1 N2 D2)), h) := by
  refine pure_calm (r := .sc (.int .i64 (cmpF N1 D1 N2 D2))) ⟨Tryz.f106.ntmps, (Tryz.f106.body).getD .skip, [.tmp 4]⟩ (by kernel_rfl) (by kernel_rfl) rfl (by kernel_rfl) (by simp [Tryz.f106]) rfl rfl ?_ b h
  obtain ⟨a1, a2, a3⟩ := nrm_ok N1 D1
  obtain ⟨b1, b2, b3⟩ := nrm_ok N2 D2
  have hm := cmp_math (nrmN N1 D1) (nrmD N1 D1) (nrmN N2 D2) (nrmD N2 D2) a3 b3
  have l1 := mul_le30 a1 b2
  have l2 := mul_le30 (inR_neg b1) a2
  have c1 := fun h => frac_product (n + 1) false _ _ h a1 b2
  have c2 := fun h => frac_product (n + 1) false _ _ h (inR_neg b1) a2
  have c3 := fun h => wide_plus (n + 1) false (decide (nrmN N1 D1 < 0) != decide (nrmD N2 D2 < 0)) (decide (-nrmN N2 D2 < 0) != decide (nrmD N1 D1 < 0)) _ _ h (Int.natCast_nonneg ((nrmN N1 D1).natAbs * (nrmD N2 D2).natAbs)) (by omega) (Int.natCast_nonneg ((-nrmN N2 D2).natAbs * (nrmD N1 D1).natAbs)) (by omega)
  have c4 := fun h => wide_sign (n + 2) false (plG (decide (nrmN N1 D1 < 0) != decide (nrmD N2 D2 < 0)) (decide (-nrmN N2 D2 < 0) != decide (nrmD N1 D1 < 0)) ((nrmN N1 D1).natAbs * (nrmD N2 D2).natAbs : Nat) ((-nrmN N2 D2).natAbs * (nrmD N1 D1).natAbs : Nat)) (plM (decide (nrmN N1 D1 < 0) != decide (nrmD N2 D2 < 0)) (decide (-nrmN N2 D2 < 0) != decide (nrmD N1 D1 < 0)) ((nrmN N1 D1).natAbs * (nrmD N2 D2).natAbs : Nat) ((-nrmN N2 D2).natAbs * (nrmD N1 D1).natAbs : Nat)) h
    (plM_bd (Int.natCast_nonneg _) (Int.natCast_nonneg _) l1 l2).1 (by have := (plM_bd (g := decide (nrmN N1 D1 < 0) != decide (nrmD N2 D2 < 0)) (g' := decide (-nrmN N2 D2 < 0) != decide (nrmD N1 D1 < 0)) (Int.natCast_nonneg _) (Int.natCast_nonneg _) l1 l2).2; omega)
  rw [hm] at c4
  generalize (decide (nrmN N1 D1 < 0) != decide (nrmD N2 D2 < 0)) = g1 at c1 c3 c4
  generalize (decide (-nrmN N2 D2 < 0) != decide (nrmD N1 D1 < 0)) = g2 at c2 c3 c4
  generalize (((nrmN N1 D1).natAbs * (nrmD N2 D2).natAbs : Nat) : Int) = m1 at c1 c3 c4
  generalize (((-nrmN N2 D2).natAbs * (nrmD N1 D1).natAbs : Nat) : Int) = m2 at c2 c3 c4
  generalize plG g1 g2 m1 m2 = g3 at c3 c4
  generalize plM g1 g2 m1 m2 = m3 at c3 c4
  have hf : fitI .i64 (-nrmN N2 D2) = -nrmN N2 D2 := by have := (inR_iff _).1 b1; exact fit_i64 (by omega) (by omega)
  cases hA : fv N1 D1 <;> cases hB : fv N2 D2 <;> simp only [nrmN, nrmD, hA, hB, cond_true, cond_false] at c1 c2 c3 c4 hf
  case' false.false =>
    have q : wA g2 m2 = wA g1 m1 := by
      have q := c2 []
      rw [Int.neg_zero, c1 []] at q
      simp only [Option.some.injEq, Prod.mk.injEq, and_true] at q
      exact q.symm
    rw [q] at c3
  all_goals
    have hA' := fun n b h => frac_Valid n b N1 D1 h
    have hB' := fun n b h => frac_Valid n b N2 D2 h
    simp only [frA] at hA' hB'
    try simp only [Int.neg_zero] at c2 hf
    simp [Tryz.f106, frA, hA', hB', hA, hB, c1, c2, c3, c4, hf, cmpF, nrmN, nrmD]
end Go.Proofs.YtadaeokidcgdlaaGreatDoor

/-
  Digits in base 1000, in plain Lean.
-/
set_option linter.unusedSimpArgs false
namespace Go.Proofs.YtadaeokidcgdlaaGreatDoor
open Go Go.Ae

def vl : List Int → Int
  | [] => 0
  | d :: ds => d + 1000 * vl ds
def digs : Nat → Int → List Int
  | 0, _ => []
  | n + 1, m => m % 1000 :: digs n (m / 1000)
def dok (ds : List Int) : Prop := ∀ d ∈ ds, 0 ≤ d ∧ d < 1000
theorem digs_length : ∀ (n : Nat) (m : Int), (digs n m).length = n
  | 0, _ => rfl
  | n + 1, m => by simp [digs, digs_length n]
theorem vl_bd : ∀ {ds : List Int}, dok ds → 0 ≤ vl ds ∧ vl ds < 1000 ^ ds.length
  | [], _ => by simp [vl]
  | d :: ds, h => by
    have h1 := h d (by simp)
    have h2 := vl_bd (ds := ds) fun x hx => h x (by simp [hx])
    simp only [vl, List.length_cons, Int.pow_succ]
    omega
theorem digs_vl : ∀ {ds : List Int}, dok ds → digs ds.length (vl ds) = ds
  | [], _ => rfl
  | d :: ds, h => by
    have h1 := h d (by simp)
    have h2 := digs_vl (ds := ds) fun x hx => h x (by simp [hx])
    simp only [vl, List.length_cons, digs]
    rw [show (d + 1000 * vl ds) % 1000 = d by omega, show (d + 1000 * vl ds) / 1000 = vl ds by omega, h2]
theorem digs_dok : ∀ (n : Nat) (m : Int), dok (digs n m)
  | 0, _, d, h => by simp [digs] at h
  | n + 1, m, d, h => by
    simp only [digs, List.mem_cons] at h
    rcases h with rfl | h
    · omega
    · exact digs_dok n _ d h
theorem vl_digs : ∀ (n : Nat) (m : Int), 0 ≤ m → m < 1000 ^ n → vl (digs n m) = m
  | 0, m, h0, h1 => by simp at h1; simp [digs, vl]; omega
  | n + 1, m, h0, h1 => by
    rw [Int.pow_succ] at h1
    simp only [digs, vl]
    rw [vl_digs n (m / 1000) (by omega) (by omega)]
    omega
theorem vl_set : ∀ (ds : List Int) (k : Nat) (o x : Int), ds[k]? = some o → vl (ds.set k x) = vl ds + (x - o) * 1000 ^ k
  | [], k, o, x, h => by simp at h
  | d :: ds, 0, o, x, h => by
    simp at h
    subst h
    simp [vl]
    omega
  | d :: ds, k + 1, o, x, h => by
    simp at h
    simp only [List.set_cons_succ, vl, vl_set ds k o x h, Int.pow_succ]
    grind
theorem dok_set {ds : List Int} (h : dok ds) (k : Nat) {x : Int} (hx : 0 ≤ x ∧ x < 1000) : dok (ds.set k x) := by
  intro d hd
  rcases List.mem_or_eq_of_mem_set hd with h1 | h1
  · exact h d h1
  · rw [h1]; exact hx
theorem vl_rep : ∀ n, vl (List.replicate n 0) = 0
  | 0 => rfl
  | n + 1 => by simp [List.replicate_succ, vl, vl_rep n]
theorem mul_step (p o cy d c s : Int) (hs : s = cy + o + d * (c % 1000)) : (s % 1000 - o) * p + (s / 1000 + d * (c / 1000)) * (p * 1000) = (cy + d * c) * p := by
  have h1 : s = 1000 * (s / 1000) + s % 1000 := by omega
  have h2 : c = 1000 * (c / 1000) + c % 1000 := by omega
  have h3 : d * c = d * (1000 * (c / 1000)) + d * (c % 1000) := by rw [← Int.mul_add, ← h2]
  generalize s / 1000 = u at *
  generalize s % 1000 = v at *
  generalize c / 1000 = e at *
  generalize c % 1000 = f at *
  rw [h3]
  grind
/-- The greater one has the greater digits. -/
theorem digs_cmp : ∀ (n : Nat) (x y : Int), 0 ≤ x → 0 ≤ y → x < 1000 ^ n → y < 1000 ^ n → (digs n x = digs n y → x = y)
  | n, x, y, h1, h2, h3, h4, h => by rw [← vl_digs n x h1 h3, ← vl_digs n y h2 h4, h]
end Go.Proofs.YtadaeokidcgdlaaGreatDoor

/-
  Contracts: the references' wide numbers.
-/
set_option linter.unusedSimpArgs false
set_option maxRecDepth 100000
namespace Go.Proofs.YtadaeokidcgdlaaGreatDoor
open Go Go.Ae
attribute [local simp] aop aopW coldF extF putA ofConst flat scalarOp fastOp binFast intOp strOp guardX Ae.part rowOf szOk natOf lenA cls fillA newsOf isNilC cellX

theorem pow_lt_11 {j : Nat} (h : (1000 : Int) ^ j ≤ 1000000000000000000000000000000) : j < 11 := by
  apply Classical.byContradiction
  intro hn
  have h1 : (1000 : Nat) ^ 11 ≤ 1000 ^ j := Nat.pow_le_pow_right (by decide) (by omega)
  have h2 : ((1000 ^ j : Nat) : Int) = (1000 : Int) ^ j := by simp
  have h3 : ((1000 : Nat) ^ 11) = 1000000000000000000000000000000000 := by decide
  omega
theorem pow_le_of {k i A : Nat} (hk : 0 < k) (h : (k : Int) * 1000 ^ i ≤ A) (hA : A ≤ 1000000000000000) : (1000 : Int) ^ i ≤ 1000000000000000000000000000000 := by
  have h1 : (1 : Int) * 1000 ^ i ≤ k * 1000 ^ i := Int.mul_le_mul_of_nonneg_right (by omega) (Int.pow_nonneg (by decide))
  omega
theorem k_le {k i A : Nat} (h : (k : Int) * 1000 ^ i ≤ A) (hA : A ≤ 1000000000000000) : k ≤ 1000000000000000 := by
  have h2 : ((1000 ^ i : Nat) : Int) = (1000 : Int) ^ i := by simp
  have h3 : 0 < (1000 : Nat) ^ i := Nat.pow_pos (by decide)
  have h1 : (k : Int) * 1 ≤ k * 1000 ^ i := Int.mul_le_mul_of_nonneg_left (by omega) (by omega)
  omega
theorem T_le {k i A B : Nat} {v : Int} (hA : A ≤ 1000000000000000) (hB : B ≤ 1000000000000000) (hv : v + k * B * 1000 ^ i = A * B) : v + ((k % 1000 : Nat) : Int) * B * 1000 ^ i ≤ 1000000000000000000000000000000 := by
  have h1 : ((k % 1000 : Nat) : Int) * B * 1000 ^ i ≤ k * B * 1000 ^ i := Int.mul_le_mul_of_nonneg_right (Int.mul_le_mul_of_nonneg_right (by omega) (by omega)) (Int.pow_nonneg (by decide))
  have h2 : (A : Int) * B ≤ 1000000000000000 * 1000000000000000 := Int.mul_le_mul (by omega) (by omega) (by omega) (by decide)
  omega
def dg (ds : List Int) : List AV := ds.map fun d => .sc (.int .i64 d)
def lsI (ds : List Int) : AV := .ls 1 (ds.map fun d => [.sc (.int .i64 d)]) false
@[simp] theorem dg_length (ds : List Int) : (dg ds).length = ds.length := by simp [dg]
theorem dg_get {ds : List Int} {k : Nat} {o : Int} (h : ds[k]? = some o) : (dg ds)[k]? = some (.sc (.int .i64 o)) := by simp [dg, h]
theorem splice_dg (ds : List Int) (k : Nat) (x : Int) (h : k < ds.length) : splice (dg ds) k [.sc (.int .i64 x)] = dg (ds.set k x) := by
  unfold splice dg
  rw [List.set_eq_take_append_cons_drop, if_pos h]
  simp
theorem snap_sc (h : Hp) (n : Nat) (ds : List Int) : (dg ds).mapM (snap h n) = some (dg ds) := by
  induction ds with
  | nil => rfl
  | cons d ds ih =>
    show List.mapM (snap h n) (AV.sc (.int .i64 d) :: dg ds) = _
    rw [List.mapM_cons, ih]
    cases n <;> rfl
theorem snap_dg (ds : List Int) (k : Bool) (h : Hp) (id : Nat) (hr : rowOf h id = some (dg ds)) : snap h 8 (.sl id 1 0 ds.length k) = some (lsI ds) := by
  simp only [snap, hr]
  rw [if_pos (by simp)]
  have e : List.take (ds.length * 1) (List.drop 0 (dg ds)) = dg ds := by
    rw [List.drop_zero, List.take_of_length_le (by simp)]
  rw [e, snap_sc]
  simp only [Option.map_some, lsI, Option.some.injEq, AV.ls.injEq, true_and, and_true]
  apply List.ext_getElem?
  intro i
  by_cases hi : i < ds.length
  · rw [List.getElem?_map, List.getElem?_range hi, List.getElem?_map, List.getElem?_eq_getElem hi]
    simp [dg, List.drop_eq_getElem_cons, hi]
  · rw [List.getElem?_eq_none (by simp; omega), List.getElem?_eq_none (by simp; omega)]
theorem inner_lt {i j k B d c A : Nat} {cy T : Int} {es : List Int} (hk : 0 < k) (hki : (k : Int) * 1000 ^ i ≤ A) (hA : A ≤ 1000000000000000) (hB : B ≤ 1000000000000000) (hcj : (c : Int) * 1000 ^ j ≤ B * 1000 ^ i) (hoe : dok es)
    (hvl : vl es + (cy + d * c) * 1000 ^ j = T) (hT : T ≤ 1000000000000000000000000000000) (hgo : 0 < c ∨ 0 < cy) : j < 11 := by
  have hvb := vl_bd hoe
  have hpj : (0 : Int) < 1000 ^ j := Int.pow_pos (by decide)
  have hpi : (0 : Int) < 1000 ^ i := Int.pow_pos (by decide)
  have hdc : (0 : Int) ≤ d * c := Int.mul_nonneg (by omega) (by omega)
  apply pow_lt_11
  rcases hgo with hc | hc
  · have q1 : (1 : Int) * 1000 ^ j ≤ c * 1000 ^ j := Int.mul_le_mul_of_nonneg_right (by omega) (Int.le_of_lt hpj)
    have q2 : (B : Int) * 1000 ^ i ≤ 1000000000000000 * 1000 ^ i := Int.mul_le_mul_of_nonneg_right (by omega) (Int.le_of_lt hpi)
    have q3 : (1 : Int) * 1000 ^ i ≤ k * 1000 ^ i := Int.mul_le_mul_of_nonneg_right (by omega) (Int.le_of_lt hpi)
    generalize (1000 : Int) ^ j = u at *
    generalize (1000 : Int) ^ i = v at *
    omega
  · have q1 : (1 : Int) * 1000 ^ j ≤ (cy + d * c) * 1000 ^ j := Int.mul_le_mul_of_nonneg_right (by omega) (Int.le_of_lt hpj)
    omega
theorem inner_fits {d c e f : Nat} {cy o S : Int} (hd : d ≤ 999) (hc : c ≤ 1000000000000000) (ho : 0 ≤ o ∧ o < 1000) (hy0 : 0 ≤ cy) (hy1 : cy ≤ 2000) (he : e = c % 1000) (hf : f = c / 1000) (hS : S = cy + o + d * e) :
    (0 ≤ S ∧ S ≤ 2000000) ∧ S.tmod 1000 = S % 1000 ∧ S.tdiv 1000 = S / 1000 ∧ fitI .i64 (cy + o) = cy + o ∧ fitI .i64 ((d : Int) * e) = d * e ∧ fitI .i64 (cy + o + d * e) = S ∧ fitI .i64 (f : Int) = f ∧ fitI .i64 (S / 1000) = S / 1000 := by
  have hde : (0 : Int) ≤ d * e ∧ (d : Int) * e ≤ 999 * 999 := ⟨Int.mul_nonneg (by omega) (by omega), Int.mul_le_mul (by omega) (by omega) (by omega) (by decide)⟩
  have b : 0 ≤ S ∧ S ≤ 2000000 := by omega
  exact ⟨b, Int.tmod_eq_emod_of_nonneg b.1, Int.tdiv_eq_ediv_of_nonneg b.1, fit_i64 (by omega) (by omega), fit_i64 (by omega) (by omega), by rw [← hS]; exact fit_i64 (by omega) (by omega), fit_i64 (by omega) (by omega), fit_i64 (by omega) (by omega)⟩
theorem inner_next {i j B d c e f q : Nat} {cy T o S : Int} {es : List Int} (hjq : j + q = 14) (hj : j < 11) (hij : i ≤ j) (hes : es.length = 14) (hoe : dok es) (hc15 : c ≤ 1000000000000000) (hcj : (c : Int) * 1000 ^ j ≤ B * 1000 ^ i) (hvl : vl es + (cy + d * c) * 1000 ^ j = T)
    (ho : es[j]? = some o) (he : e = c % 1000) (hf : f = c / 1000) (hS : S = cy + o + d * e) (hSb : 0 ≤ S ∧ S ≤ 2000000) :
    ∃ k', k' < q ∧ ∃ (j' c' : Nat) (cy' : Int) (es' : List Int), j' + k' = 14 ∧ i ≤ j' ∧ es'.length = 14 ∧ dok es' ∧ 0 ≤ cy' ∧ cy' ≤ 2000 ∧ c' ≤ 1000000000000000 ∧ (c' : Int) * 1000 ^ j' ≤ B * 1000 ^ i ∧ vl es' + (cy' + d * c') * 1000 ^ j' = T ∧ (f : Int) = c' ∧ S / 1000 = cy' ∧ (j : Int) + 1 = j' ∧ dg (es.set j (S % 1000)) = dg es' := by
  have hpj : (0 : Int) < 1000 ^ j := Int.pow_pos (by decide)
  have hstep := mul_step (1000 ^ j) o cy d c S (by rw [hS, he]; simp)
  have hset := vl_set es j o (S % 1000) ho
  have hv2 : vl (es.set j (S % 1000)) + (S / 1000 + d * f) * 1000 ^ (j + 1) = T := by
    have hfi : ((f : Nat) : Int) = (c : Int) / 1000 := by rw [hf]; simp
    rw [hset, hfi, Int.pow_succ, ← hvl, ← hstep]
    grind
  have hc2 : (f : Int) * 1000 ^ (j + 1) ≤ B * 1000 ^ i := by
    refine Int.le_trans ?_ hcj
    have e1 : (f : Int) * 1000 ≤ c := by omega
    have := Int.mul_le_mul_of_nonneg_right e1 (Int.le_of_lt hpj)
    rw [Int.pow_succ]
    grind
  clear hstep hset hcj hvl
  exact ⟨q - 1, by omega, j + 1, f, S / 1000, es.set j (S % 1000), by omega, by omega, by simpa using hes, dok_set hoe j (by omega), by omega, by omega, by omega, hc2, hv2, rfl, rfl, by omega, rfl⟩
theorem r03_sign (n : Nat) (b : Bool) (x : Int) (h : Hp) : callN cx (n + 1) b 169 [.sc (.int .i64 x)] h = some (.sc (.int .i64 (sgnI x)), h) := by
  refine pure_calm (r := .sc (.int .i64 (sgnI x))) ⟨Tryz.f169.ntmps, (Tryz.f169.body).getD .skip, [.tmp 2]⟩ (by kernel_rfl) (by kernel_rfl) rfl (by kernel_rfl) (by simp [Tryz.f169]) rfl rfl ?_ b h
  by_cases h1 : x < 0
  · simp [Tryz.f169, h1, sgnI]
  · by_cases h2 : 0 < x <;> simp [Tryz.f169, h1, h2, sgnI]
theorem r03_times (n : Nat) (b : Bool) (A B : Nat) (h : Hp) (hA : A ≤ 1000000000000000) (hB : B ≤ 1000000000000000) :
    callN cx (n + 1) b 170 [.sc (.int .i64 A), .sc (.int .i64 B)] h = some (lsI (digs 14 (A * B)), h) := by
  refine pure_at (r := .sl 0 1 0 14 false) (r' := lsI (digs 14 (A * B))) (h' := [.row (dg (digs 14 (A * B)))]) ⟨Tryz.f170.ntmps, (Tryz.f170.body).getD .skip, [.tmp 4]⟩ (by kernel_rfl) (by kernel_rfl) rfl (by kernel_rfl) (by simp [Tryz.f170]) rfl ?_ ?_ b h
  · have hrep : List.flatMap (fun _ => [AV.sc (Value.int IntKind.i64 0)]) (List.range 14) = dg (List.replicate 14 0) := rfl
    simp [Tryz.f170, show 14 ≤ maxLen from (by unfold maxLen; omega), hrep, -List.reduceReplicate]
    refine loop_down (G := fun x => finX _ (thenX _ _ (blockX _ x) _) = _)
      (fun k s => ∃ (i : Nat) (ds : List Int), ds.length = 14 ∧ dok ds ∧ (k : Int) * 1000 ^ i ≤ A ∧ vl ds + k * B * 1000 ^ i = A * B ∧ s.1.length = 51 ∧ gt s.1 0 = .sc (.int .i64 k) ∧ gt s.1 1 = .sc (.int .i64 B) ∧ gt s.1 5 = .sl 0 1 0 14 false ∧ gt s.1 6 = .sc (.int .i64 i) ∧ s.2 = [.row (dg ds)])
      (fun o s => o = .exit 0 ∧ s.1.length = 51 ∧ gt s.1 5 = .sl 0 1 0 14 false ∧ s.2 = [.row (dg (digs 14 (A * B)))]) A (by simp; omega) ⟨0, List.replicate 14 0, rfl, by intro d hd; have := (List.mem_replicate.1 hd).2; omega, by simp, by rw [vl_rep]; simp, by simp⟩ ?_ ?_
    · rintro k fr h ⟨i, ds, hds, hok, hki, hv, hlen, h0, h1, h5, h6, rfl⟩
      simp only at hlen h0 h1 h5 h6
      by_cases hk : 0 < k
      · obtain ⟨u, hu⟩ : ∃ u, u = k / 1000 := ⟨_, rfl⟩
        obtain ⟨d, hd⟩ : ∃ d, d = k % 1000 := ⟨_, rfl⟩
        have hkA : k ≤ 1000000000000000 := k_le hki hA
        have hd0 : ((k : Int).tmod 1000) = (d : Int) := by rw [hd]; rfl
        have hd1 : ((k : Int).tdiv 1000) = (u : Int) := by rw [hu]; rfl
        have hf1 : fitI .i64 (u : Int) = (u : Int) := fit_i64 (by omega) (by omega)
        simp [hlen, h0, h1, h5, h6, hk, hd0, hd1, hf1]
        have hi15 := pow_le_of hk hki hA
        have hd9 : d ≤ 999 := by omega
        have hul : u < k := by omega
        have hi14 : i ≤ 14 := by have := pow_lt_11 hi15; omega
        have hi14' : i + (14 - i) = 14 := by omega
        have hif : 14 - i < 1125899906842624 := by omega
        have hT : vl ds + (d : Int) * B * 1000 ^ i ≤ 1000000000000000000000000000000 := by rw [hd]; exact T_le hA hB hv
        have e : (k : Int) = 1000 * (u : Int) + (d : Int) := by omega
        have hTe : vl ds + (d : Int) * B * 1000 ^ i + (u : Int) * B * 1000 ^ (i + 1) = A * B := by
          rw [← hv, e, Int.pow_succ]
          grind
        have hki2 : (u : Int) * 1000 ^ (i + 1) ≤ A := by
          refine Int.le_trans ?_ hki
          have e : (u : Int) * 1000 ≤ k := by omega
          have := Int.mul_le_mul_of_nonneg_right e (show (0 : Int) ≤ 1000 ^ i from Int.pow_nonneg (by decide))
          rw [Int.pow_succ]
          grind
        have hfi : fitI .i64 ((i : Int) + 1) = (i : Int) + 1 := by
          have := pow_lt_11 hi15
          exact fit_i64 (by omega) (by omega)
        generalize hTT : vl ds + (d : Int) * B * 1000 ^ i = T at *
        refine loop_down (G := fun x => RoundX _ _ _ (thenX _ _ (blockX _ (blockX _ x)) _))
          (fun q s => ∃ (j c : Nat) (cy : Int) (es : List Int), j + q = 14 ∧ i ≤ j ∧ es.length = 14 ∧ dok es ∧ 0 ≤ cy ∧ cy ≤ 2000 ∧ c ≤ 1000000000000000 ∧ (c : Int) * 1000 ^ j ≤ B * 1000 ^ i ∧ vl es + (cy + d * c) * 1000 ^ j = T ∧
            s.1.length = 51 ∧ gt s.1 0 = .sc (.int .i64 u) ∧ gt s.1 1 = .sc (.int .i64 B) ∧ gt s.1 5 = .sl 0 1 0 14 false ∧ gt s.1 6 = .sc (.int .i64 i) ∧ gt s.1 7 = .sc (.int .i64 d) ∧ gt s.1 8 = .sc (.int .i64 c) ∧ gt s.1 9 = .sc (.int .i64 cy) ∧ gt s.1 10 = .sc (.int .i64 j) ∧ s.2 = [.row (dg es)])
          (fun o s => o = .exit 2 ∧ s.1.length = 51 ∧ gt s.1 0 = .sc (.int .i64 u) ∧ gt s.1 1 = .sc (.int .i64 B) ∧ gt s.1 5 = .sl 0 1 0 14 false ∧ gt s.1 6 = .sc (.int .i64 i) ∧ ∃ es, es.length = 14 ∧ dok es ∧ vl es = T ∧ s.2 = [.row (dg es)]) (14 - i) hif ?_ ?_ ?_
        · refine ⟨i, B, 0, ds, hi14', Nat.le_refl _, hds, hok, Int.le_refl _, (by decide : (0 : Int) ≤ 2000), hB, Int.le_refl _, by rw [← hTT]; simp, ?_⟩
          simp [hlen, h0, h1, h5, h6]
        · rintro q fr h ⟨j, c, cy, es, hjq, hij, hes, hoe, hy0, hy1, hc15, hcj, hvl, hlen, h0, h1, h5, h6, h7, h8, h9, h10, rfl⟩
          simp only at hlen h0 h1 h5 h6 h7 h8 h9 h10
          by_cases hgo : 0 < c ∨ 0 < cy
          · have hj : j < 11 := inner_lt hk hki hA hB hcj hoe hvl hT hgo
            obtain ⟨o, ho⟩ : ∃ o, es[j]? = some o := ⟨es[j]'(by rw [hes]; clear hvl hcj hT hTe hki2 hki hv; omega), List.getElem?_eq_getElem _⟩
            have hob := hoe o (List.mem_of_getElem? ho)
            have hdo := dg_get ho
            obtain ⟨e, he⟩ : ∃ e, e = c % 1000 := ⟨_, rfl⟩
            obtain ⟨f, hf⟩ : ∃ f, f = c / 1000 := ⟨_, rfl⟩
            obtain ⟨S, hS⟩ : ∃ S, S = cy + o + d * e := ⟨_, rfl⟩
            have t0 : ((c : Int).tmod 1000) = (e : Int) := by rw [he]; rfl
            have t1 : ((c : Int).tdiv 1000) = (f : Int) := by rw [hf]; rfl
            obtain ⟨sb, s1, s2, f1, f2, f3, f4, f5⟩ := inner_fits hd9 hc15 hob hy0 hy1 he hf hS
            have fin := inner_next hjq hj hij hes hoe hc15 hcj hvl ho he hf hS sb
            have hj14 : j < 14 := Nat.lt_trans hj (by decide)
            have f6 : fitI .i64 ((j : Int) + 1) = (j : Int) + 1 := by clear hvl hcj hT hTe hki2 hki hv; exact fit_i64 (by omega) (by omega)
            have hj15 : j + 1 ≤ es.length := by rw [hes]; exact hj14
            have hsp := splice_dg es j (S % 1000) hj15
            clear hvl hcj hT hTe hki2 hki hv
            by_cases hc : 0 < c
            · simp [hlen, h0, h1, h5, h6, h7, h8, h9, h10, hc, hj14, hj15, hdo, t0, t1, s1, s2, f1, f2, f3, f4, f5, f6, hsp]
              obtain ⟨k', a1, j', c', cy', es', a2, a3, a4, a5, a6, a7, a8, a9, a10, a11, a12, a13, a14⟩ := fin
              exact ⟨k', a1, j', a2, a3, c', cy', es', a4, a5, a6, a7, a8, a9, a10, a11, a12, a13, a14⟩
            · have hy : 0 < cy := hgo.resolve_left hc
              simp [hlen, h0, h1, h5, h6, h7, h8, h9, h10, hc, hy, hj14, hj15, hdo, t0, t1, s1, s2, f1, f2, f3, f4, f5, f6, hsp]
              obtain ⟨k', a1, j', c', cy', es', a2, a3, a4, a5, a6, a7, a8, a9, a10, a11, a12, a13, a14⟩ := fin
              exact ⟨k', a1, j', a2, a3, c', cy', es', a4, a5, a6, a7, a8, a9, a10, a11, a12, a13, a14⟩
          · have hgo' : ¬ 0 < c ∧ ¬ 0 < cy := not_or.1 hgo
            obtain rfl : c = 0 := Nat.eq_zero_of_not_pos hgo'.1
            obtain rfl : cy = 0 := Int.le_antisymm (Int.not_lt.1 hgo'.2) hy0
            have hvT : vl es = T := by simpa using hvl
            simp [hlen, h0, h1, h5, h6, h7, h8, h9, h10]
            exact ⟨es, hes, hoe, hvT, rfl⟩
        · rintro o fr h hn ⟨rfl, hlen, h0, h1, h5, h6, es, hes, hoe, hvl, rfl⟩
          simp only at hlen h0 h1 h5 h6
          simp [hlen, h0, h1, h5, h6, hfi]
          exact ⟨u, hul, i + 1, es, hes, hoe, hki2, by rw [hvl]; exact hTe, rfl, rfl, rfl⟩
      · obtain rfl : k = 0 := by omega
        have : ds = digs 14 (A * B) := by
          rw [← hv, ← hds]
          simp [digs_vl hok]
        simp [hlen, h0, h1, h5, h6, this]
    · rintro o fr h hn ⟨rfl, hlen, h5, rfl⟩
      simp only at hlen h5
      simp [hlen, h5]
  · have := snap_dg (digs 14 (A * B)) false [.row (dg (digs 14 (A * B)))] 0 rfl
    rwa [digs_length] at this
end Go.Proofs.YtadaeokidcgdlaaGreatDoor

/-
  Contracts: order, plus, minus, sum, Cmp of the reference.
-/
set_option linter.unusedSimpArgs false
set_option maxRecDepth 100000
namespace Go.Proofs.YtadaeokidcgdlaaGreatDoor
open Go Go.Ae
attribute [local simp] aop aopW coldF extF putA ofConst flat scalarOp fastOp binFast intOp strOp guardX Ae.part rowOf szOk natOf lenA cls fillA newsOf isNilC cellX

theorem vl_split : ∀ (ds : List Int) (k : Nat), vl ds = vl (ds.take k) + 1000 ^ k * vl (ds.drop k)
  | [], k => by simp [vl]
  | d :: ds, 0 => by simp [vl]
  | d :: ds, k + 1 => by
    simp only [List.take_succ_cons, List.drop_succ_cons, vl, Int.pow_succ]
    rw [vl_split ds k]
    grind
theorem vl_top {xs ys : List Int} {k : Nat} {x y : Int} (hx : dok xs) (hy : dok ys) (gx : xs[k]? = some x) (gy : ys[k]? = some y) (hd : xs.drop (k + 1) = ys.drop (k + 1)) (hlt : x < y) : vl xs < vl ys := by
  have sx := vl_split xs k
  have sy := vl_split ys k
  obtain ⟨kx, ex⟩ := List.getElem?_eq_some_iff.1 gx
  obtain ⟨ky, ey⟩ := List.getElem?_eq_some_iff.1 gy
  rw [List.drop_eq_getElem_cons kx, ex, hd] at sx
  rw [List.drop_eq_getElem_cons ky, ey] at sy
  simp only [vl] at sx sy
  have bx := vl_bd (ds := xs.take k) fun d h => hx d (List.mem_of_mem_take h)
  have by' := vl_bd (ds := ys.take k) fun d h => hy d (List.mem_of_mem_take h)
  rw [List.length_take, Nat.min_eq_left (by omega)] at bx
  generalize (1000 : Int) ^ k = p at *
  generalize vl (ys.drop (k + 1)) = q at *
  have : p * (x + 1000 * q) + p ≤ p * (y + 1000 * q) := by
    have h1 : p * (x + 1000 * q) + p = p * (x + 1 + 1000 * q) := by grind
    rw [h1]
    exact Int.mul_le_mul_of_nonneg_left (by omega) (by omega)
  omega
theorem r03_order (n : Nat) (b : Bool) (xs ys : List Int) (h : Hp) (hx : dok xs) (hy : dok ys) (lx : xs.length = 14) (ly : ys.length = 14) :
    callN cx (n + 1) b 250 [lsI xs, lsI ys] h = some (.sc (.int .i64 (sgnI (vl xs - vl ys))), h) := by
  refine pure_calm (r := .sc (.int .i64 (sgnI (vl xs - vl ys)))) ⟨Tryz.f250.ntmps, (Tryz.f250.body).getD .skip, [.tmp 4]⟩ (by kernel_rfl) (by kernel_rfl) rfl (by kernel_rfl) (by simp [Tryz.f250]) rfl rfl ?_ b h
  simp [Tryz.f250, lsI, lx, show fitI .i64 13 = 13 from rfl]
  refine loop_down (G := fun x => ∃ h', finX _ (thenX _ _ (blockX _ x) _) = some (_, h'))
    (fun k s => k ≤ 14 ∧ xs.drop k = ys.drop k ∧ s.1.length = 31 ∧ gt s.1 0 = .ls 1 (xs.map fun d => [.sc (.int .i64 d)]) false ∧ gt s.1 1 = .ls 1 (ys.map fun d => [.sc (.int .i64 d)]) false ∧ gt s.1 5 = .sc (.int .i64 (k - 1)))
    (fun o s => s.1.length = 31 ∧ ((o = .exit 0 ∧ xs = ys) ∨ (o = .ret ∧ gt s.1 4 = .sc (.int .i64 (sgnI (vl xs - vl ys)))))) 14 (by simp) ?_ ?_ ?_
  · simp [lx, ly]
    rw [List.drop_eq_nil_of_le (by omega), List.drop_eq_nil_of_le (by omega)]
  · rintro k fr h ⟨hk, hd, hlen, h0, h1, h5⟩
    simp only at hlen h0 h1 h5
    by_cases hz : k = 0
    · subst hz
      simp at hd
      simp [hlen, h0, h1, h5, hd]
    · obtain ⟨j, rfl⟩ : ∃ j, k = j + 1 := ⟨k - 1, by omega⟩
      obtain ⟨x, gx⟩ : ∃ x, xs[j]? = some x := ⟨_, List.getElem?_eq_getElem (by omega)⟩
      obtain ⟨y, gy⟩ : ∃ y, ys[j]? = some y := ⟨_, List.getElem?_eq_getElem (by omega)⟩
      have e5 : (((j + 1 : Nat) : Int) - 1) = j := by omega
      rw [e5] at h5
      have f1 : fitI .i64 ((j : Int) - 1) = (j : Int) - 1 := fit_i64 (by omega) (by omega)
      by_cases hlt : x < y
      · have := vl_top hx hy gx gy hd hlt
        have hs : sgnI (vl xs - vl ys) = -1 := by unfold sgnI; rw [if_pos (by omega)]
        simp [hlen, h0, h1, h5, gx, gy, hlt, hs]
      · by_cases hgt : y < x
        · have := vl_top hy hx gy gx hd.symm hgt
          have hs : sgnI (vl xs - vl ys) = 1 := by unfold sgnI; rw [if_neg (by omega), if_pos (by omega)]
          simp [hlen, h0, h1, h5, gx, gy, hlt, hgt, hs]
        · have hxy : x = y := by omega
          have hd2 : xs.drop j = ys.drop j := by
            obtain ⟨kx, ex⟩ := List.getElem?_eq_some_iff.1 gx
            obtain ⟨ky, ey⟩ := List.getElem?_eq_some_iff.1 gy
            rw [List.drop_eq_getElem_cons kx, List.drop_eq_getElem_cons ky, ex, ey, hd, hxy]
          simp [hlen, h0, h1, h5, gx, gy, hlt, hgt, f1]
          exact ⟨j, by omega, by omega, hd2, rfl⟩
  · rintro o fr h hn ⟨hlen, ⟨rfl, hd⟩ | ⟨rfl, h4⟩⟩
    · simp only at hlen
      simp [hlen, hd, sgnI]
    · simp only at h4
      simp [h4]
theorem r03_plus (n : Nat) (xs ys : List Int) (hx : dok xs) (hy : dok ys) (lx : xs.length = 14) (ly : ys.length = 14) :
    ∃ r, (∃ es, es.length = 14 ∧ r = lsI es) ∧ ∀ b h, callN cx (n + 1) b 249 [lsI xs, lsI ys] h = some (r, h) := by
  refine pure_ex (f := 249) (n := n) (args := [lsI xs, lsI ys]) (fun r => ∃ es, es.length = 14 ∧ r = lsI es) ⟨Tryz.f249.ntmps, (Tryz.f249.body).getD .skip, [.tmp 4]⟩ (by kernel_rfl) (by kernel_rfl) rfl (by kernel_rfl) (by simp [Tryz.f249]) rfl ?_
  have hrep : List.flatMap (fun _ => [AV.sc (Value.int IntKind.i64 0)]) (List.range 14) = dg (List.replicate 14 0) := rfl
  simp [Tryz.f249, lsI, lx, show 14 ≤ maxLen from (by unfold maxLen; omega), hrep, -List.reduceReplicate]
  refine loop_up (C := cx) (G := fun x => ∃ r h', finX _ (thenX _ _ (blockX _ x) _) = some (r, h') ∧ ∃ r', snap h' 8 r = some r' ∧ ∃ es, es.length = 14 ∧ r' = .ls 1 (List.map (fun d => [AV.sc (Value.int IntKind.i64 d)]) es) false)
    (fun i s => ∃ (es : List Int) (cy : Int), es.length = 14 ∧ 0 ≤ cy ∧ cy ≤ 1 ∧ s.1.length = 36 ∧ gt s.1 0 = .ls 1 (xs.map fun d => [.sc (.int .i64 d)]) false ∧ gt s.1 1 = .ls 1 (ys.map fun d => [.sc (.int .i64 d)]) false ∧ gt s.1 5 = .sl 0 1 0 14 false ∧ gt s.1 6 = .sc (.int .i64 cy) ∧ gt s.1 7 = .sc (.int .i64 i) ∧ s.2 = [.row (dg es)])
    (fun o s => o = .exit 0 ∧ s.1.length = 36 ∧ gt s.1 5 = .sl 0 1 0 14 false ∧ ∃ es, es.length = 14 ∧ s.2 = [.row (dg es)]) 14 (by decide) ?_ ?_ ?_
  · exact ⟨List.replicate 14 0, 0, rfl, by decide, by decide, by simp [-List.reduceReplicate]⟩
  · rintro i fr h hle ⟨es, cy, hes, hc0, hc1, hlen, h0, h1, h5, h6, h7, rfl⟩
    simp only at hlen h0 h1 h5 h6 h7
    by_cases hi : i < 14
    · have hi' : (i : Int) < 14 := by omega
      obtain ⟨x, gx⟩ : ∃ x, xs[i]? = some x := ⟨_, List.getElem?_eq_getElem (by omega)⟩
      obtain ⟨y, gy⟩ : ∃ y, ys[i]? = some y := ⟨_, List.getElem?_eq_getElem (by omega)⟩
      have gx' : ∀ h : i < xs.length, xs[i] = x := fun h => by rw [List.getElem?_eq_getElem h] at gx; exact Option.some.inj gx
      have gy' : ∀ h : i < ys.length, ys[i] = y := fun h => by rw [List.getElem?_eq_getElem h] at gy; exact Option.some.inj gy
      have bx := hx x (List.mem_of_getElem? gx)
      have by' := hy y (List.mem_of_getElem? gy)
      have hi2 : i + 1 ≤ es.length := by omega
      have hi3 : i + 1 ≤ 14 := by omega
      have f1 : fitI .i64 (cy + x) = cy + x := fit_i64 (by omega) (by omega)
      have f6 : fitI .i64 ((i : Int) + 1) = (i : Int) + 1 := fit_i64 (by omega) (by omega)
      obtain ⟨S, hS⟩ : ∃ S, S = cy + x + y := ⟨_, rfl⟩
      have f2 : fitI .i64 (cy + x + y) = S := by rw [hS]; exact fit_i64 (by omega) (by omega)
      have s1 : S.tmod 1000 = S % 1000 := Int.tmod_eq_emod_of_nonneg (by omega)
      have s2 : S.tdiv 1000 = S / 1000 := Int.tdiv_eq_ediv_of_nonneg (by omega)
      have f3 : fitI .i64 (S / 1000) = S / 1000 := fit_i64 (by omega) (by omega)
      have hsp := splice_dg es i (S % 1000) hi2
      simp [hlen, h0, h1, h5, h6, h7, hi, hi', gx, gy, gx', gy', f1, f2, s1, s2, f3, f6, hsp, lx, hes, hi2, hi3]
      exact ⟨es.set i (S % 1000), by simpa using hes, S / 1000, by omega, by omega, rfl, rfl⟩
    · have hi' : ¬ (i : Int) < 14 := by omega
      simp [hlen, h0, h1, h5, h6, h7, hi, hi', lx]
      exact ⟨es, hes, rfl⟩
  · rintro o fr h hn ⟨rfl, hlen, h5, es, hes, rfl⟩
    simp only at hlen h5
    have hsn := snap_dg es false [.row (dg es)] 0 rfl
    rw [hes] at hsn
    simp [hlen, h5]
    exact ⟨_, _, ⟨rfl, rfl⟩, _, hsn, es, hes, rfl⟩
theorem r03_minus (n : Nat) (xs ys : List Int) (hx : dok xs) (hy : dok ys) (lx : xs.length = 14) (ly : ys.length = 14) :
    ∃ r, (∃ es, es.length = 14 ∧ r = lsI es) ∧ ∀ b h, callN cx (n + 1) b 251 [lsI xs, lsI ys] h = some (r, h) := by
  refine pure_ex (f := 251) (n := n) (args := [lsI xs, lsI ys]) (fun r => ∃ es, es.length = 14 ∧ r = lsI es) ⟨Tryz.f251.ntmps, (Tryz.f251.body).getD .skip, [.tmp 4]⟩ (by kernel_rfl) (by kernel_rfl) rfl (by kernel_rfl) (by simp [Tryz.f251]) rfl ?_
  have hrep : List.flatMap (fun _ => [AV.sc (Value.int IntKind.i64 0)]) (List.range 14) = dg (List.replicate 14 0) := rfl
  simp [Tryz.f251, lsI, lx, show 14 ≤ maxLen from (by unfold maxLen; omega), hrep, -List.reduceReplicate]
  refine loop_up (C := cx) (G := fun x => ∃ r h', finX _ (thenX _ _ (blockX _ x) _) = some (r, h') ∧ ∃ r', snap h' 8 r = some r' ∧ ∃ es, es.length = 14 ∧ r' = .ls 1 (List.map (fun d => [AV.sc (Value.int IntKind.i64 d)]) es) false)
    (fun i s => ∃ (es : List Int) (cy : Int), es.length = 14 ∧ -1 ≤ cy ∧ cy ≤ 0 ∧ s.1.length = 40 ∧ gt s.1 0 = .ls 1 (xs.map fun d => [.sc (.int .i64 d)]) false ∧ gt s.1 1 = .ls 1 (ys.map fun d => [.sc (.int .i64 d)]) false ∧ gt s.1 5 = .sl 0 1 0 14 false ∧ gt s.1 6 = .sc (.int .i64 cy) ∧ gt s.1 7 = .sc (.int .i64 i) ∧ s.2 = [.row (dg es)])
    (fun o s => o = .exit 0 ∧ s.1.length = 40 ∧ gt s.1 5 = .sl 0 1 0 14 false ∧ ∃ es, es.length = 14 ∧ s.2 = [.row (dg es)]) 14 (by decide) ?_ ?_ ?_
  · exact ⟨List.replicate 14 0, 0, rfl, by decide, by decide, by simp [-List.reduceReplicate]⟩
  · rintro i fr h hle ⟨es, cy, hes, hc0, hc1, hlen, h0, h1, h5, h6, h7, rfl⟩
    simp only at hlen h0 h1 h5 h6 h7
    by_cases hi : i < 14
    · have hi' : (i : Int) < 14 := by omega
      obtain ⟨x, gx⟩ : ∃ x, xs[i]? = some x := ⟨_, List.getElem?_eq_getElem (by omega)⟩
      obtain ⟨y, gy⟩ : ∃ y, ys[i]? = some y := ⟨_, List.getElem?_eq_getElem (by omega)⟩
      have gx' : ∀ h : i < xs.length, xs[i] = x := fun h => by rw [List.getElem?_eq_getElem h] at gx; exact Option.some.inj gx
      have gy' : ∀ h : i < ys.length, ys[i] = y := fun h => by rw [List.getElem?_eq_getElem h] at gy; exact Option.some.inj gy
      have bx := hx x (List.mem_of_getElem? gx)
      have by' := hy y (List.mem_of_getElem? gy)
      have hi2 : i + 1 ≤ es.length := by omega
      have hi3 : i + 1 ≤ 14 := by omega
      have f1 : fitI .i64 (cy + x) = cy + x := fit_i64 (by omega) (by omega)
      have f6 : fitI .i64 ((i : Int) + 1) = (i : Int) + 1 := fit_i64 (by omega) (by omega)
      obtain ⟨S, hS⟩ : ∃ S, S = cy + x - y := ⟨_, rfl⟩
      have f2 : fitI .i64 (cy + x - y) = S := by rw [hS]; exact fit_i64 (by omega) (by omega)
      by_cases hn : S < 0
      · have f3 : fitI .i64 (S + 1000) = S + 1000 := fit_i64 (by omega) (by omega)
        have hsp := splice_dg es i (S + 1000) hi2
        simp [hlen, h0, h1, h5, h6, h7, hi, hi', gx, gy, gx', gy', f1, f2, hn, f3, f6, hsp, lx, hes, hi2, hi3]
        exact ⟨es.set i (S + 1000), by simpa using hes, -1, by decide, by decide, rfl, rfl⟩
      · have hsp := splice_dg es i S hi2
        simp [hlen, h0, h1, h5, h6, h7, hi, hi', gx, gy, gx', gy', f1, f2, hn, f6, hsp, lx, hes, hi2, hi3]
        exact ⟨es.set i S, by simpa using hes, 0, by decide, by decide, rfl, rfl⟩
    · have hi' : ¬ (i : Int) < 14 := by omega
      simp [hlen, h0, h1, h5, h6, h7, hi, hi', lx]
      exact ⟨es, hes, rfl⟩
  · rintro o fr h hn ⟨rfl, hlen, h5, es, hes, rfl⟩
    simp only at hlen h5
    have hsn := snap_dg es false [.row (dg es)] 0 rfl
    rw [hes] at hsn
    simp [hlen, h5]
    exact ⟨_, _, ⟨rfl, rfl⟩, _, hsn, es, hes, rfl⟩
end Go.Proofs.YtadaeokidcgdlaaGreatDoor

/-
  Contracts: sum and Cmp of the reference.
-/
set_option linter.unusedSimpArgs false
set_option maxRecDepth 100000
namespace Go.Proofs.YtadaeokidcgdlaaGreatDoor
open Go Go.Ae
attribute [local simp] aop aopW coldF extF putA ofConst flat scalarOp fastOp binFast intOp strOp guardX Ae.part rowOf szOk natOf lenA cls fillA newsOf isNilC cellX

section
variable {C : Cx} {cal : FuncId → List AV → Hp → Option (AV × Hp)} {ops : Array Oper}
@[simp] theorem opP_lsI (d : Tmp) (rest : List Oper) (fr : List AV) (e : List Int) (h : Hp) : opP C cal ops (some d) rest fr (some (lsI e, h)) = runOpsP C cal ops rest (fr.set d (lsI e), h) := rfl
@[simp] theorem opN_lsI (d : Tmp) (rest : List Oper) (fr : List AV) (e : List Int) (h : Hp) : opN C cal ops (some d) rest fr (some (lsI e, h)) = runOps C cal ops rest (fr.set d (lsI e), h) := rfl
@[simp] theorem snap_lsI (h : Hp) (n : Nat) (e : List Int) : snap h n (lsI e) = some (lsI e) := by cases n <;> rfl
@[simp] theorem snap_scv (h : Hp) (n : Nat) (v : Value) : snap h n (.sc v) = some (.sc v) := by cases n <;> rfl
end
def lsZ : AV := .ls 1 [[.sc (.int .i64 0)], [.sc (.int .i64 0)], [.sc (.int .i64 0)], [.sc (.int .i64 0)], [.sc (.int .i64 0)], [.sc (.int .i64 0)], [.sc (.int .i64 0)], [.sc (.int .i64 0)], [.sc (.int .i64 0)], [.sc (.int .i64 0)], [.sc (.int .i64 0)], [.sc (.int .i64 0)], [.sc (.int .i64 0)], [.sc (.int .i64 0)]] true
theorem plus_zero (n : Nat) (b : Bool) (h : Hp) : callN cx (n + 1) b 249 [lsZ, lsZ] h = some (lsI [0, 0, 0, 0, 0, 0, 0, 0, 0, 0, 0, 0, 0, 0], h) := by
  rw [← callT_eq]
  kernel_rfl
def sumS (an X bn Y : Int) : Int := if an = bn ∨ bn = 0 then an else if an = 0 then bn else if sgnI (X - Y) = 0 then 0 else if 0 < sgnI (X - Y) then an else bn
theorem r03_sum (n : Nat) (an bn : Int) (xs ys : List Int) (hx : dok xs) (hy : dok ys) (lx : xs.length = 14) (ly : ys.length = 14) :
    ∃ r, (∃ es, r = .tp [.sc (.int .i64 (sumS an (vl xs) bn (vl ys))), lsI es]) ∧ ∀ b h, callN cx (n + 2) b 168 [.sc (.int .i64 an), lsI xs, .sc (.int .i64 bn), lsI ys] h = some (r, h) := by
  obtain ⟨_, ⟨e1, _, rfl⟩, hp⟩ := r03_plus n xs ys hx hy lx ly
  obtain ⟨_, ⟨e2, _, rfl⟩, hm⟩ := r03_minus n xs ys hx hy lx ly
  obtain ⟨_, ⟨e3, _, rfl⟩, hm'⟩ := r03_minus n ys xs hy hx ly lx
  have ho := fun b h => r03_order n b xs ys h hx hy lx ly
  refine pure_ex (f := 168) (n := n + 1) (args := [.sc (.int .i64 an), lsI xs, .sc (.int .i64 bn), lsI ys]) (fun r => ∃ es, r = .tp [.sc (.int .i64 (sumS an (vl xs) bn (vl ys))), lsI es]) ⟨Tryz.f168.ntmps, (Tryz.f168.body).getD .skip, [.tmp 8, .tmp 9]⟩ (by kernel_rfl) (by kernel_rfl) rfl (by kernel_rfl) (by simp [Tryz.f168]) rfl ?_
  have hz := fun b h => plus_zero n b h
  have hch : chunk 1 14 (List.flatMap (fun _ => [AV.sc (Value.int IntKind.i64 0)]) (List.range 14)) = [[.sc (.int .i64 0)], [.sc (.int .i64 0)], [.sc (.int .i64 0)], [.sc (.int .i64 0)], [.sc (.int .i64 0)], [.sc (.int .i64 0)], [.sc (.int .i64 0)], [.sc (.int .i64 0)], [.sc (.int .i64 0)], [.sc (.int .i64 0)], [.sc (.int .i64 0)], [.sc (.int .i64 0)], [.sc (.int .i64 0)], [.sc (.int .i64 0)]] := rfl
  simp only [lsZ] at hz
  by_cases h1 : an = bn
  · simp [Tryz.f168, h1, hp, sumS]
    exact ⟨_, _, ⟨rfl, rfl⟩, by simp [snap]; exact ⟨_, rfl⟩⟩
  · by_cases h2 : bn = 0
    · subst h2
      simp [Tryz.f168, h1, hp, sumS]
      exact ⟨_, _, ⟨rfl, rfl⟩, by simp [snap]; exact ⟨_, rfl⟩⟩
    · by_cases h3 : an = 0
      · subst h3
        simp [Tryz.f168, h1, h2, sumS]
        exact ⟨_, _, ⟨rfl, rfl⟩, by simp [snap]; exact ⟨_, rfl⟩⟩
      · by_cases h4 : sgnI (vl xs - vl ys) = 0
        · simp [Tryz.f168, h1, h2, h3, ho, h4, sumS, show 14 ≤ maxLen from (by unfold maxLen; omega), coldA, hch, hz]
          exact ⟨_, _, ⟨rfl, rfl⟩, by simp [snap]; exact ⟨_, rfl⟩⟩
        · by_cases h5 : 0 < sgnI (vl xs - vl ys)
          · simp [Tryz.f168, h1, h2, h3, ho, h4, h5, hm, sumS]
            exact ⟨_, _, ⟨rfl, rfl⟩, by simp [snap]; exact ⟨_, rfl⟩⟩
          · simp [Tryz.f168, h1, h2, h3, ho, h4, h5, hm', sumS]
            exact ⟨_, _, ⟨rfl, rfl⟩, by simp [snap]; exact ⟨_, rfl⟩⟩

theorem cmp_math2 (n1 d1 n2 d2 : Int) (h1 : 0 < d1) (h2 : 0 < d2) : sumS (sgnI n1) (n1.natAbs * d2) (-(sgnI n2)) (n2.natAbs * d1) = sgnI (n1 * d2 - n2 * d1) := by
  have e1 : (n1.natAbs : Int) * d2 = ((n1 * d2).natAbs : Int) := by rw [Int.natAbs_mul]; rw [Int.natCast_mul, Int.natAbs_of_nonneg (Int.le_of_lt h2)]
  have e2 : (n2.natAbs : Int) * d1 = ((n2 * d1).natAbs : Int) := by rw [Int.natAbs_mul]; rw [Int.natCast_mul, Int.natAbs_of_nonneg (Int.le_of_lt h1)]
  have s : ∀ n d : Int, 0 < d → sgnI n = sgnI (n * d) := fun n d hd => by
    unfold sgnI
    by_cases a : n < 0
    · rw [if_pos a, if_pos (Int.mul_neg_of_neg_of_pos a hd)]
    · by_cases b : 0 < n
      · have := Int.mul_pos b hd
        rw [if_neg a, if_pos b, if_neg (by omega), if_pos this]
      · have : n = 0 := by omega
        subst this
        simp
  rw [e1, e2, s n1 d2 h2, s n2 d1 h1]
  generalize n1 * d2 = p
  generalize n2 * d1 = q
  have sg : ∀ x : Int, (x < 0 ∧ sgnI x = -1 ∧ (x.natAbs : Int) = -x) ∨ (x = 0 ∧ sgnI x = 0 ∧ (x.natAbs : Int) = 0) ∨ (0 < x ∧ sgnI x = 1 ∧ (x.natAbs : Int) = x) := fun x => by
    unfold sgnI
    by_cases a : x < 0
    · exact .inl ⟨a, by rw [if_pos a], by omega⟩
    · by_cases b : 0 < x
      · exact .inr (.inr ⟨b, by rw [if_neg a, if_pos b], by omega⟩)
      · exact .inr (.inl ⟨by omega, by rw [if_neg a, if_neg b], by omega⟩)
  rcases sg p with ⟨p1, p2, p3⟩ | ⟨p1, p2, p3⟩ | ⟨p1, p2, p3⟩ <;> rcases sg q with ⟨q1, q2, q3⟩ | ⟨q1, q2, q3⟩ | ⟨q1, q2, q3⟩ <;>
    rcases sg (p - q) with ⟨r1, r2, r3⟩ | ⟨r1, r2, r3⟩ | ⟨r1, r2, r3⟩ <;>
    rcases sg ((p.natAbs : Int) - (q.natAbs : Int)) with ⟨t1, t2, t3⟩ | ⟨t1, t2, t3⟩ | ⟨t1, t2, t3⟩ <;>
    simp only [sumS, p2, q2, r2, t2] <;> first | rfl | decide | omega
theorem r03_Cmp (n : Nat) (b : Bool) (N1 D1 N2 D2 : Int) (h : Hp) : callN cx (n + 3) b 102 [frA N1 D1, frA N2 D2] h = some (.sc (.int .i64 (cmpF N1 D1 N2 D2)), h) := by
  refine pure_calm (r := .sc (.int .i64 (cmpF N1 D1 N2 D2))) ⟨Tryz.f102.ntmps, (Tryz.f102.body).getD .skip, [.tmp 4]⟩ (by kernel_rfl) (by kernel_rfl) rfl (by kernel_rfl) (by simp [Tryz.f102]) rfl rfl ?_ b h
  obtain ⟨a1, a2, a3⟩ := nrm_ok N1 D1
  obtain ⟨b1, b2, b3⟩ := nrm_ok N2 D2
  have hm := cmp_math2 (nrmN N1 D1) (nrmD N1 D1) (nrmN N2 D2) (nrmD N2 D2) a3 b3
  obtain ⟨e1, he1⟩ : ∃ e : Nat, nrmD N1 D1 = e := ⟨(nrmD N1 D1).toNat, by omega⟩
  obtain ⟨e2, he2⟩ : ∃ e : Nat, nrmD N2 D2 = e := ⟨(nrmD N2 D2).toNat, by omega⟩
  rw [inR_iff] at a1 a2 b1 b2
  have l1 : ((nrmN N1 D1).natAbs : Int) * e2 < 1000 ^ 14 := by
    have := Int.mul_le_mul (show ((nrmN N1 D1).natAbs : Int) ≤ 1000000000000000 by omega) (show (e2 : Int) ≤ 1000000000000000 by omega) (by omega) (by decide)
    have q : (1000 : Int) ^ 14 = 1000000000000000000000000000000000000000000 := by decide
    omega
  have l2 : ((nrmN N2 D2).natAbs : Int) * e1 < 1000 ^ 14 := by
    have := Int.mul_le_mul (show ((nrmN N2 D2).natAbs : Int) ≤ 1000000000000000 by omega) (show (e1 : Int) ≤ 1000000000000000 by omega) (by omega) (by decide)
    have q : (1000 : Int) ^ 14 = 1000000000000000000000000000000000000000000 := by decide
    omega
  have c1 := fun h => r03_size (n + 1) false (nrmN N1 D1) h ⟨by omega, by omega⟩
  have c2 := fun h => r03_size (n + 1) false (nrmN N2 D2) h ⟨by omega, by omega⟩
  have c3 := fun h => r03_times (n + 1) false (nrmN N1 D1).natAbs e2 h (by omega) (by omega)
  have c4 := fun h => r03_times (n + 1) false (nrmN N2 D2).natAbs e1 h (by omega) (by omega)
  have s1 := fun h => r03_sign (n + 1) false (nrmN N1 D1) h
  have s2 := fun h => r03_sign (n + 1) false (nrmN N2 D2) h
  obtain ⟨_, ⟨es, rfl⟩, c5⟩ := r03_sum n (sgnI (nrmN N1 D1)) (-(sgnI (nrmN N2 D2))) (digs 14 ((nrmN N1 D1).natAbs * e2)) (digs 14 ((nrmN N2 D2).natAbs * e1)) (digs_dok _ _) (digs_dok _ _) (digs_length _ _) (digs_length _ _)
  rw [vl_digs _ _ (Int.mul_nonneg (by omega) (by omega)) l1, vl_digs _ _ (Int.mul_nonneg (by omega) (by omega)) l2, ← he1, ← he2, hm] at c5
  have hf : fitI .i64 (-(sgnI (nrmN N2 D2))) = -(sgnI (nrmN N2 D2)) := by
    have : -1 ≤ sgnI (nrmN N2 D2) ∧ sgnI (nrmN N2 D2) ≤ 1 := by unfold sgnI; (repeat' split) <;> omega
    exact fit_i64 (by omega) (by omega)
  rw [← he2] at c3
  rw [← he1] at c4
  generalize digs 14 (((nrmN N1 D1).natAbs : Int) * nrmD N2 D2) = w1 at c3 c5
  generalize digs 14 (((nrmN N2 D2).natAbs : Int) * nrmD N1 D1) = w2 at c4 c5
  generalize sgnI (nrmN N1 D1) = g1 at s1 c5
  generalize sgnI (nrmN N2 D2) = g2 at s2 c5 hf
  generalize ((nrmN N1 D1).natAbs : Int) = m1 at c1 c3
  generalize ((nrmN N2 D2).natAbs : Int) = m2 at c2 c4
  cases hA : fv N1 D1 <;> cases hB : fv N2 D2 <;> simp only [nrmN, nrmD, hA, hB, cond_true, cond_false] at c1 c2 c3 c4 c5 s1 s2
  · have e1 : m1 = m2 := by have := (c1 []).symm.trans (c2 []); simpa using this
    subst e1
    have e2 : g1 = g2 := by have := (s1 []).symm.trans (s2 []); simpa using this
    subst e2
    have e3 : lsI w1 = lsI w2 := by have := (c3 []).symm.trans (c4 []); simpa using this
    rw [← e3] at c5
    have hA' := fun b h => r03_Valid n b N1 D1 h
    have hB' := fun b h => r03_Valid n b N2 D2 h
    simp only [frA] at hA' hB'
    simp [splice, Tryz.f102, frA, hA', hB', hA, hB, c1, c3, s1, hf, c5, cmpF, nrmN, nrmD]
  all_goals
    have hA' := fun b h => r03_Valid n b N1 D1 h
    have hB' := fun b h => r03_Valid n b N2 D2 h
    simp only [frA] at hA' hB'
    simp [splice, Tryz.f102, frA, hA', hB', hA, hB, c1, c2, c3, c4, s1, s2, hf, c5, cmpF, nrmN, nrmD]
end Go.Proofs.YtadaeokidcgdlaaGreatDoor
