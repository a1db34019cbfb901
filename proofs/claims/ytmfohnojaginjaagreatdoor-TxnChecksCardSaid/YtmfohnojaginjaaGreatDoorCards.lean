/-
  DERIVED. GIVEN WITH THE SEED: THE CARDS: each row of YtmfohnojaginjaaGreatDoorRows.lean that lists a variable, with what it lists TIED to the program's text (the seventh form; the later family's looks); each row that meets fmt, with fmt's text TOLD by the authors' own Lean function (tested against real Go, not proved from fmt's source: count such statements apart). THE CARD IS WHAT COUNTS. Prove the row's statement (the work); the ties are given (YtmfohnojaginjaaGreatDoorTie.lean); close each card by the builder's one call (the guide's Derived/Test/ToyasCard.lean, 'card_holds'). Laid BY PROGRAM, IN A SANDBOX (cutbox-door.mjs). By AI agents, Wed Nov 11 2026. No macro, syntax, notation, axiom, sorry.
-/
import Derived.Test.YtmfohnojaginjaaGreatDoorRows
import GoSem.ClaimSeven
namespace Go.Proofs.YtmfohnojaginjaaGreatDoor
namespace Rows

/-- THE TIED CARD OF 'graphdblaw46.TxnChecks'. -/
def txnChecksCard : Claim7 := { stood := { row := txnChecksRow, standIns := [], harness := (true, "2f82cf1d059bb3edea88863a5af50f8f9b7e504f7034858d3a7e052594afa443"), looks := true }, kinds := [], alts := [], laidByText := true, laidKinds := [.data, .data, .data, .data, .pinned, .data], laidTests := true, laidLooks := .later }
def TxnChecksCardSaid : Prop := Claim7.holds Tryz.pinned (.plain (OpenSpec.ofChange txnChecksSpec)) txnChecksCard

/-- THE SECOND FORM's CARD OF 'graphdblaw46.TxnChecks'. -/
def txnChecksUptoCard : Claim7 := { stood := { row := txnChecksUptoRow, standIns := [], harness := (true, "2f82cf1d059bb3edea88863a5af50f8f9b7e504f7034858d3a7e052594afa443"), looks := true }, kinds := [], alts := [], laidByText := true, laidKinds := [.data, .data, .data, .data, .pinned, .data], laidTests := true, laidLooks := .later }
def TxnChecksUptoCardSaid : Prop := Claim7.holds Tryz.pinned (.plain (OpenSpec.upto txnChecksSpec)) txnChecksUptoCard
end Rows
end Go.Proofs.YtmfohnojaginjaaGreatDoor
