/-
  DERIVED. GIVEN WITH THE SEED: THE CARDS: each row of YtiefabpageilbaaGreatDoorRows.lean that lists a variable, with what it lists TIED to the program's text (the seventh form; the later family's looks); each row that meets fmt, with fmt's text TOLD by the authors' own Lean function (tested against real Go, not proved from fmt's source: count such statements apart). THE CARD IS WHAT COUNTS. Prove the row's statement (the work); the ties are given (YtiefabpageilbaaGreatDoorTie.lean); close each card by the builder's one call (the guide's Derived/Test/ToyasCard.lean, 'card_holds'). Laid BY PROGRAM, IN A SANDBOX (cutbox-door.mjs). By AI agents, Wed Nov 11 2026. No macro, syntax, notation, axiom, sorry.
-/
import Derived.Test.YtiefabpageilbaaGreatDoorRows
import GoSem.ClaimSeven
namespace Go.Proofs.YtiefabpageilbaaGreatDoor
namespace Rows

/-- THE TIED CARD OF 'graphdblaw49.SubscribeSum'. -/
def subscribeSumCard : Claim7 := { stood := { row := subscribeSumRow, standIns := [], harness := (true, "4eb417c02902d586dae357b4f9835213fa4d6da3bef9b779865e25a30397cffe"), looks := true }, kinds := [], alts := [], laidByText := true, laidKinds := [.data, .data, .data, .data, .data, .pinned], laidTests := true, laidLooks := .later }
def SubscribeSumCardSaid : Prop := Claim7.holds Tryz.pinned (.plain (OpenSpec.ofChange subscribeSumSpec)) subscribeSumCard

/-- THE SECOND FORM's CARD OF 'graphdblaw49.SubscribeSum'. -/
def subscribeSumUptoCard : Claim7 := { stood := { row := subscribeSumUptoRow, standIns := [], harness := (true, "4eb417c02902d586dae357b4f9835213fa4d6da3bef9b779865e25a30397cffe"), looks := true }, kinds := [], alts := [], laidByText := true, laidKinds := [.data, .data, .data, .data, .data, .pinned], laidTests := true, laidLooks := .later }
def SubscribeSumUptoCardSaid : Prop := Claim7.holds Tryz.pinned (.plain (OpenSpec.upto subscribeSumSpec)) subscribeSumUptoCard
end Rows
end Go.Proofs.YtiefabpageilbaaGreatDoor
