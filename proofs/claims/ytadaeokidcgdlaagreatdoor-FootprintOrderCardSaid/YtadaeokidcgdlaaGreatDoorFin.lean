/-
  The law on the order of predicates as a contract: it answers true, and turns nothing.
-/
import Derived.Test.YtadaeokidcgdlaaGreatDoorFo31
import Derived.Test.YtadaeokidcgdlaaGreatDoorLive
import Derived.Test.YtadaeokidcgdlaaGreatDoorAll
set_option maxRecDepth 100000
namespace Go.Proofs.YtadaeokidcgdlaaGreatDoor
open Go Go.Ae
theorem fo_pure (a b c : Pr) (ba : bdV a.v) (bb : bdV b.v) (bc : bdV c.v) : PureOK cx 6 [evP a, evP b, evP c] (.sc (.bool true)) := by
  obtain ⟨D, hD⟩ : ∃ D, dep a.v + dep b.v + dep c.v = D := ⟨_, rfl⟩
  have da : dep a.v ≤ D := by omega
  have db : dep b.v ≤ D := by omega
  have dc : dep c.v ≤ D := by omega
  have hfp : ∀ (p q : Pr), dep p.v ≤ D → dep q.v ≤ D → bdV p.v → bdV q.v → ∀ t h, callN cx (3 * D + 100) t 18 [evP p, evP q] h = some (.sc (.int .i64 (ordP p q)), h) := by
    intro p q dp dq bp bq t h
    have := fp_Order (3 * D + 97) p q t h (ordV p.v q.v) (fun b h => by
      have := C_Order_all D p.v q.v dp dq bp bq (D + 92) b h
      rwa [show D + 92 + 2 * D + 7 = 3 * D + 97 + 2 by omega] at this)
    exact this
  have hrf : ∀ t h, callN cx (3 * D + 100) t 19 [evP a, evP b] h = some (.sc (.int .i64 (ordP a b)), h) := by
    intro t h
    have := rf_Order (3 * D + 98) a b t h (ordV a.v b.v) (fun t h => by
      have := OC_all D a.v b.v da db ba bb 93 t h
      rwa [show 93 + 3 * D + 6 = 3 * D + 98 + 1 by omega] at this)
    exact this
  have ho : ∀ t h, callN cx (3 * D + 100) t 20 [.ag (enc a.v), .ag (enc b.v)] h = some (.sc (.int .i64 (ordV a.v b.v)), h) := by
    intro t h
    have := C_Order_all D a.v b.v da db ba bb (D + 93) t h
    rwa [show D + 93 + 2 * D + 7 = 3 * D + 100 by omega] at this
  have hl : ∀ t h, callN cx (3 * D + 100) t 9 [] h = some (.sc (.bool true), h) := fun t h => by
    have := live (3 * D + 10)
    exact call_none (n := 3 * D + 99) rfl (by kernel_rfl) this t h
  obtain ⟨h', hw⟩ := fo_walk (3 * D + 100) a b c _ _ _ _ _ (hfp a b da db ba bb) (hfp b a db da bb ba) (hfp b c db dc bb bc) (hfp a c da dc ba bc) hrf ho hl (ordP_neg a b) (ordP_small b a) (fun h => ordP_zero h) (ordP_tr a b c)
  have hb : body1 cx (callN cx (3 * D + 100)) 6 [evP a, evP b, evP c] [] = some (.sc (.bool true), h') := by
    rw [body1_of (fi := ⟨Tryz.f6.ntmps, (Tryz.f6.body).getD .skip, [.tmp 6]⟩) (by kernel_rfl) (by kernel_rfl) (by simp [Tryz.f6])]
    exact hw
  exact pure_of_run cx_all hb (m := 8) rfl
end Go.Proofs.YtadaeokidcgdlaaGreatDoor
