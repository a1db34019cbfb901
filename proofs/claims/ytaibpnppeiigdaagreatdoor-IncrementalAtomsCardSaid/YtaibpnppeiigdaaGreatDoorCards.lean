/-
  DERIVED. GIVEN WITH THE SEED: THE CARDS: each row of YtaibpnppeiigdaaGreatDoorRows.lean that lists a variable, with what it lists TIED to the program's text (the seventh form; the later family's looks); each row that meets fmt, with fmt's text TOLD by the authors' own Lean function (tested against real Go, not proved from fmt's source: count such statements apart). THE CARD IS WHAT COUNTS. Prove the row's statement (the work); the ties are given (YtaibpnppeiigdaaGreatDoorTie.lean); close each card by the builder's one call (the guide's Derived/Test/ToyasCard.lean, 'card_holds'). Laid BY PROGRAM, IN A SANDBOX (cutbox-door.mjs). By AI agents, Wed Nov 11 2026. No macro, syntax, notation, axiom, sorry.
-/
import Derived.Test.YtaibpnppeiigdaaGreatDoorRows
import GoSem.ClaimSeven
namespace Go.Proofs.YtaibpnppeiigdaaGreatDoor
namespace Rows

/-- THE TIED CARD OF 'graphdblaw48.IncrementalAtoms'. -/
def incrementalAtomsCard : Claim7 := { stood := { row := incrementalAtomsRow, standIns := [], harness := (true, "68d85e37c2969f2505957fa7383f7b38db97ba503dd9a3534c291d0f36f442a9"), looks := true }, kinds := [], alts := [], laidByText := true, laidKinds := [.data, .data, .data, .data], laidTests := true, laidLooks := .later }
def IncrementalAtomsCardSaid : Prop := Claim7.holds Tryz.pinned (.plain (OpenSpec.ofChange incrementalAtomsSpec)) incrementalAtomsCard

/-- THE TIED CARD OF 'graphdblaw48.IncrementalConjs'. -/
def incrementalConjsCard : Claim7 := { stood := { row := incrementalConjsRow, standIns := [], harness := (true, "68d85e37c2969f2505957fa7383f7b38db97ba503dd9a3534c291d0f36f442a9"), looks := true }, kinds := [], alts := [], laidByText := true, laidKinds := [.data, .data, .data, .data], laidTests := true, laidLooks := .later }
def IncrementalConjsCardSaid : Prop := Claim7.holds Tryz.pinned (.plain (OpenSpec.ofChange incrementalConjsSpec)) incrementalConjsCard

/-- THE TIED CARD OF 'graphdblaw48.IncrementalTuples'. -/
def incrementalTuplesCard : Claim7 := { stood := { row := incrementalTuplesRow, standIns := [], harness := (true, "68d85e37c2969f2505957fa7383f7b38db97ba503dd9a3534c291d0f36f442a9"), looks := true }, kinds := [], alts := [], laidByText := true, laidKinds := [.data, .data, .data, .data], laidTests := true, laidLooks := .later }
def IncrementalTuplesCardSaid : Prop := Claim7.holds Tryz.pinned (.plain (OpenSpec.ofChange incrementalTuplesSpec)) incrementalTuplesCard

/-- THE SECOND FORM's CARD OF 'graphdblaw48.IncrementalAtoms'. -/
def incrementalAtomsUptoCard : Claim7 := { stood := { row := incrementalAtomsUptoRow, standIns := [], harness := (true, "68d85e37c2969f2505957fa7383f7b38db97ba503dd9a3534c291d0f36f442a9"), looks := true }, kinds := [], alts := [], laidByText := true, laidKinds := [.data, .data, .data, .data], laidTests := true, laidLooks := .later }
def IncrementalAtomsUptoCardSaid : Prop := Claim7.holds Tryz.pinned (.plain (OpenSpec.upto incrementalAtomsSpec)) incrementalAtomsUptoCard

/-- THE SECOND FORM's CARD OF 'graphdblaw48.IncrementalConjs'. -/
def incrementalConjsUptoCard : Claim7 := { stood := { row := incrementalConjsUptoRow, standIns := [], harness := (true, "68d85e37c2969f2505957fa7383f7b38db97ba503dd9a3534c291d0f36f442a9"), looks := true }, kinds := [], alts := [], laidByText := true, laidKinds := [.data, .data, .data, .data], laidTests := true, laidLooks := .later }
def IncrementalConjsUptoCardSaid : Prop := Claim7.holds Tryz.pinned (.plain (OpenSpec.upto incrementalConjsSpec)) incrementalConjsUptoCard

/-- THE SECOND FORM's CARD OF 'graphdblaw48.IncrementalTuples'. -/
def incrementalTuplesUptoCard : Claim7 := { stood := { row := incrementalTuplesUptoRow, standIns := [], harness := (true, "68d85e37c2969f2505957fa7383f7b38db97ba503dd9a3534c291d0f36f442a9"), looks := true }, kinds := [], alts := [], laidByText := true, laidKinds := [.data, .data, .data, .data], laidTests := true, laidLooks := .later }
def IncrementalTuplesUptoCardSaid : Prop := Claim7.holds Tryz.pinned (.plain (OpenSpec.upto incrementalTuplesSpec)) incrementalTuplesUptoCard
end Rows
end Go.Proofs.YtaibpnppeiigdaaGreatDoor
