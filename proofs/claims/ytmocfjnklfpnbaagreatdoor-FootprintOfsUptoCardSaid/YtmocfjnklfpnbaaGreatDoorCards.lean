/-
  DERIVED. GIVEN WITH THE SEED: THE CARDS: each row of YtmocfjnklfpnbaaGreatDoorRows.lean that lists a variable, with what it lists TIED to the program's text (the seventh form; the later family's looks); each row that meets fmt, with fmt's text TOLD by the authors' own Lean function (tested against real Go, not proved from fmt's source: count such statements apart). THE CARD IS WHAT COUNTS. Prove the row's statement (the work); the ties are given (YtmocfjnklfpnbaaGreatDoorTie.lean); close each card by the builder's one call (the guide's Derived/Test/ToyasCard.lean, 'card_holds'). Laid BY PROGRAM, IN A SANDBOX (cutbox-door.mjs). By AI agents, Wed Nov 11 2026. No macro, syntax, notation, axiom, sorry.
-/
import Derived.Test.YtmocfjnklfpnbaaGreatDoorRows
import GoSem.ClaimSeven
namespace Go.Proofs.YtmocfjnklfpnbaaGreatDoor
namespace Rows

/-- THE TIED CARD OF 'graphdblaw45.FootprintOfs'. -/
def footprintOfsCard : Claim7 := { stood := { row := footprintOfsRow, standIns := [], harness := (true, "7bb60abacaa19c1a1849d803b70be1f6ee079d4f9a9e57003d45b37ec90727f4"), looks := true }, kinds := [], alts := [], laidByText := true, laidKinds := [.data], laidTests := true, laidLooks := .later }
def FootprintOfsCardSaid : Prop := Claim7.holds Tryz.pinned (.plain (OpenSpec.ofChange footprintOfsSpec)) footprintOfsCard

/-- THE TIED CARD OF 'graphdblaw45.FootprintPrefix'. -/
def footprintPrefixCard : Claim7 := { stood := { row := footprintPrefixRow, standIns := [], harness := (true, "7bb60abacaa19c1a1849d803b70be1f6ee079d4f9a9e57003d45b37ec90727f4"), looks := true }, kinds := [], alts := [], laidByText := true, laidKinds := [.data], laidTests := true, laidLooks := .later }
def FootprintPrefixCardSaid : Prop := Claim7.holds Tryz.pinned (.plain (OpenSpec.ofChange footprintPrefixSpec)) footprintPrefixCard

/-- THE SECOND FORM's CARD OF 'graphdblaw45.FootprintOfs'. -/
def footprintOfsUptoCard : Claim7 := { stood := { row := footprintOfsUptoRow, standIns := [], harness := (true, "7bb60abacaa19c1a1849d803b70be1f6ee079d4f9a9e57003d45b37ec90727f4"), looks := true }, kinds := [], alts := [], laidByText := true, laidKinds := [.data], laidTests := true, laidLooks := .later }
def FootprintOfsUptoCardSaid : Prop := Claim7.holds Tryz.pinned (.plain (OpenSpec.upto footprintOfsSpec)) footprintOfsUptoCard

/-- THE SECOND FORM's CARD OF 'graphdblaw45.FootprintPrefix'. -/
def footprintPrefixUptoCard : Claim7 := { stood := { row := footprintPrefixUptoRow, standIns := [], harness := (true, "7bb60abacaa19c1a1849d803b70be1f6ee079d4f9a9e57003d45b37ec90727f4"), looks := true }, kinds := [], alts := [], laidByText := true, laidKinds := [.data], laidTests := true, laidLooks := .later }
def FootprintPrefixUptoCardSaid : Prop := Claim7.holds Tryz.pinned (.plain (OpenSpec.upto footprintPrefixSpec)) footprintPrefixUptoCard
end Rows
end Go.Proofs.YtmocfjnklfpnbaaGreatDoor
