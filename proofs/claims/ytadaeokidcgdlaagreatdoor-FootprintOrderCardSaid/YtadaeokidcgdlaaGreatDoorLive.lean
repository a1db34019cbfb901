/-
  The chapter's examples, run by the kernel.
-/
import Derived.Test.YtadaeokidcgdlaaGreatDoorCx
set_option maxRecDepth 100000
namespace Go.Proofs.YtadaeokidcgdlaaGreatDoor
open Go Go.Ae
theorem live_T (N : Nat) : callT cx (N + 90) true 9 [] [] = some (.sc (.bool true), []) := by kernel_rfl
theorem live (N : Nat) : callN cx (N + 90) true 9 [] [] = some (.sc (.bool true), []) := by
  rw [← callT_eq]
  exact live_T N
end Go.Proofs.YtadaeokidcgdlaaGreatDoor
