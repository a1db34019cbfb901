/-
  The evaluator's contracts, all.
-/
import Derived.Test.YtadaeokidcgdlaaGreatDoorTab
import Derived.Test.YtadaeokidcgdlaaGreatDoorRcv
namespace Go.Proofs.YtadaeokidcgdlaaGreatDoor
open Go Go.Ae
theorem cx_all : CxAll cx := {
  base := cx_ok
  rcv := fun g T h => by
    have h' : (if g = 161 then some 215 else none) = some T := h
    split at h'
    · rename_i e
      subst e
      cases h'
      exact rcv_ok
    · cases h'
  srt := fun f g kt h => by
    have h' : (if f = 280 then some (327, 9) else none) = some (g, kt) := h
    split at h'
    · rename_i e
      subst e
      cases h'
      exact sort_ok
    · cases h'
  tab := tab_ok }
end Go.Proofs.YtadaeokidcgdlaaGreatDoor
