/-
  DERIVED. GIVEN WITH THE SEED: THE CARDS: each row of YtadaeokidcgdlaaGreatDoorRows.lean that lists a variable, with what it lists TIED to the program's text (the seventh form; the later family's looks); each row that meets fmt, with fmt's text TOLD by the authors' own Lean function (tested against real Go, not proved from fmt's source: count such statements apart). THE CARD IS WHAT COUNTS. Prove the row's statement (the work); the ties are given (YtadaeokidcgdlaaGreatDoorTie.lean); close each card by the builder's one call (the guide's Derived/Test/ToyasCard.lean, 'card_holds'). Laid BY PROGRAM, IN A SANDBOX (cutbox-door.mjs). By AI agents, Wed Nov 11 2026. No macro, syntax, notation, axiom, sorry.
-/
import Derived.Test.YtadaeokidcgdlaaGreatDoorRows
import GoSem.ClaimSeven
namespace Go.Proofs.YtadaeokidcgdlaaGreatDoor
namespace Rows

/-- THE TIED CARD OF 'graphdblaw45.FootprintOfs'. -/
def footprintOfsCard : Claim7 := { stood := { row := footprintOfsRow, standIns := [], harness := (true, "d3a6eb01b5295eda9bbed63fde5bb58f5e70527c1a7c2cfe2e48d5ea7ebb9169"), looks := true }, kinds := [], alts := [], laidByText := true, laidKinds := [.data], laidTests := true, laidLooks := .later }
def FootprintOfsCardSaid : Prop := Claim7.holds Tryz.pinned (.plain (OpenSpec.ofChange footprintOfsSpec)) footprintOfsCard

/-- THE TIED CARD OF 'graphdblaw45.FootprintTouches'. -/
def footprintTouchesCard : Claim7 := { stood := { row := footprintTouchesRow, standIns := [], harness := (true, "d3a6eb01b5295eda9bbed63fde5bb58f5e70527c1a7c2cfe2e48d5ea7ebb9169"), looks := true }, kinds := [], alts := [], laidByText := true, laidKinds := [.data], laidTests := true, laidLooks := .later }
def FootprintTouchesCardSaid : Prop := Claim7.holds Tryz.pinned (.plain (OpenSpec.ofChange footprintTouchesSpec)) footprintTouchesCard

/-- THE TIED CARD OF 'graphdblaw45.FootprintAny'. -/
def footprintAnyCard : Claim7 := { stood := { row := footprintAnyRow, standIns := [], harness := (true, "d3a6eb01b5295eda9bbed63fde5bb58f5e70527c1a7c2cfe2e48d5ea7ebb9169"), looks := true }, kinds := [], alts := [], laidByText := true, laidKinds := [.data], laidTests := true, laidLooks := .later }
def FootprintAnyCardSaid : Prop := Claim7.holds Tryz.pinned (.plain (OpenSpec.ofChange footprintAnySpec)) footprintAnyCard

/-- THE TIED CARD OF 'graphdblaw45.FootprintOrder'. -/
def footprintOrderCard : Claim7 := { stood := { row := footprintOrderRow, standIns := [], harness := (true, "d3a6eb01b5295eda9bbed63fde5bb58f5e70527c1a7c2cfe2e48d5ea7ebb9169"), looks := true }, kinds := [], alts := [], laidByText := true, laidKinds := [.data], laidTests := true, laidLooks := .later }
def FootprintOrderCardSaid : Prop := Claim7.holds Tryz.pinned (.plain (OpenSpec.ofChange footprintOrderSpec)) footprintOrderCard

/-- THE TIED CARD OF 'graphdblaw45.FootprintPrefix'. -/
def footprintPrefixCard : Claim7 := { stood := { row := footprintPrefixRow, standIns := [], harness := (true, "d3a6eb01b5295eda9bbed63fde5bb58f5e70527c1a7c2cfe2e48d5ea7ebb9169"), looks := true }, kinds := [], alts := [], laidByText := true, laidKinds := [.data], laidTests := true, laidLooks := .later }
def FootprintPrefixCardSaid : Prop := Claim7.holds Tryz.pinned (.plain (OpenSpec.ofChange footprintPrefixSpec)) footprintPrefixCard

/-- THE SECOND FORM's CARD OF 'graphdblaw45.FootprintOfs'. -/
def footprintOfsUptoCard : Claim7 := { stood := { row := footprintOfsUptoRow, standIns := [], harness := (true, "d3a6eb01b5295eda9bbed63fde5bb58f5e70527c1a7c2cfe2e48d5ea7ebb9169"), looks := true }, kinds := [], alts := [], laidByText := true, laidKinds := [.data], laidTests := true, laidLooks := .later }
def FootprintOfsUptoCardSaid : Prop := Claim7.holds Tryz.pinned (.plain (OpenSpec.upto footprintOfsSpec)) footprintOfsUptoCard

/-- THE SECOND FORM's CARD OF 'graphdblaw45.FootprintTouches'. -/
def footprintTouchesUptoCard : Claim7 := { stood := { row := footprintTouchesUptoRow, standIns := [], harness := (true, "d3a6eb01b5295eda9bbed63fde5bb58f5e70527c1a7c2cfe2e48d5ea7ebb9169"), looks := true }, kinds := [], alts := [], laidByText := true, laidKinds := [.data], laidTests := true, laidLooks := .later }
def FootprintTouchesUptoCardSaid : Prop := Claim7.holds Tryz.pinned (.plain (OpenSpec.upto footprintTouchesSpec)) footprintTouchesUptoCard

/-- THE SECOND FORM's CARD OF 'graphdblaw45.FootprintAny'. -/
def footprintAnyUptoCard : Claim7 := { stood := { row := footprintAnyUptoRow, standIns := [], harness := (true, "d3a6eb01b5295eda9bbed63fde5bb58f5e70527c1a7c2cfe2e48d5ea7ebb9169"), looks := true }, kinds := [], alts := [], laidByText := true, laidKinds := [.data], laidTests := true, laidLooks := .later }
def FootprintAnyUptoCardSaid : Prop := Claim7.holds Tryz.pinned (.plain (OpenSpec.upto footprintAnySpec)) footprintAnyUptoCard

/-- THE SECOND FORM's CARD OF 'graphdblaw45.FootprintOrder'. -/
def footprintOrderUptoCard : Claim7 := { stood := { row := footprintOrderUptoRow, standIns := [], harness := (true, "d3a6eb01b5295eda9bbed63fde5bb58f5e70527c1a7c2cfe2e48d5ea7ebb9169"), looks := true }, kinds := [], alts := [], laidByText := true, laidKinds := [.data], laidTests := true, laidLooks := .later }
def FootprintOrderUptoCardSaid : Prop := Claim7.holds Tryz.pinned (.plain (OpenSpec.upto footprintOrderSpec)) footprintOrderUptoCard

/-- THE SECOND FORM's CARD OF 'graphdblaw45.FootprintPrefix'. -/
def footprintPrefixUptoCard : Claim7 := { stood := { row := footprintPrefixUptoRow, standIns := [], harness := (true, "d3a6eb01b5295eda9bbed63fde5bb58f5e70527c1a7c2cfe2e48d5ea7ebb9169"), looks := true }, kinds := [], alts := [], laidByText := true, laidKinds := [.data], laidTests := true, laidLooks := .later }
def FootprintPrefixUptoCardSaid : Prop := Claim7.holds Tryz.pinned (.plain (OpenSpec.upto footprintPrefixSpec)) footprintPrefixUptoCard
end Rows
end Go.Proofs.YtadaeokidcgdlaaGreatDoor
