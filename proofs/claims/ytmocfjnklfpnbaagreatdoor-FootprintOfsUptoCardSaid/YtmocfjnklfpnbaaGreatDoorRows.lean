/-
  NARROWER THAN 'FOR EVERY INPUT', by the rows' own cells (each row's printed sentence says how): FootprintOfs: loops, laid · FootprintPrefix: loops, laid.
  DERIVED. THE GIVEN ROWS OF THIS SEAT. 2 by the template 'for every input the law returns true; each argument reads behind the call as it read before'; 0 by the template 'total and deterministic' (their statements: YtmocfjnklfpnbaaGreatDoorTotals.lean).
  GIVEN WITH THE SEED: the statements are not yours to turn. If you find one false, say at which input.
  Laid BY PROGRAM, IN A SANDBOX (cutbox-rows.mjs): the forced cells as the released guide's own fill.sh prints them over the translation cc0f068e2e7152cb… (all of the seat's roots in one cut). By AI agents, Wed Nov 11 2026. No macro, syntax, notation, axiom, sorry.
-/
import Derived.Test.YtmocfjnklfpnbaaGreatDoorChecked
import GoSem.Claim
import GoSem.ClaimJoined
import GoSem.ClaimMapViews
import Derived.JoinedTies
import Derived.KernelRfl
namespace Go.Proofs.YtmocfjnklfpnbaaGreatDoor
/- THE CELL 'sum', in the pinned program and in every row, IS THE sha256 OF THE DUMP (.gsa) THAT YtmocfjnklfpnbaaGreatDoorProg.lean LOADS. Nothing in Lean hashes anything: it is a label: what it is worth is what the hold of that sum in a sandbox is worth. -/
noncomputable def Tryz.pinned : Pinned := { name := "ytmocfjnklfpnbaagreatdoor", sum := "cc0f068e2e7152cb63295b0d8647d8cc4ba1f44faf5e2d4fd52a20e88e43402c", checked := Tryz.checked }
namespace Rows
def none {H : Type} : Left H := { results := [], args := [] }

/- WHAT THE LISTED PACKAGE-LEVEL VARIABLES READ AS WHEN THE CALL BEGINS. Each datum BY PROGRAM (the guide's laid-datum.mjs) off the statement by which the dump's own 'gosem.cut.vars' lays the variable. In a bare row this is a premise. The card (YtmocfjnklfpnbaaGreatDoorCards.lean) ties it to the program's text. -/
def laid_graphdb_frac_zero {H : Type} : DataW H := .agg [.lit (.int .i64 0), .lit (.int .i64 1)]

/-- 'graphdblaw45.FootprintOfs': WHATEVER THE INPUT: true; the input reads as it did. -/
def footprintOfsSpec : ChangeSpec := { name := "footprintOfs", fn := fun _ => fun
  | [d] => { results := [.lit (.bool true)], args := [d] }
  | _ => none }
def footprintOfsRow : OpenClaim := { program := "ytmocfjnklfpnbaagreatdoor", sum := "cc0f068e2e7152cb63295b0d8647d8cc4ba1f44faf5e2d4fd52a20e88e43402c", func := "graphdb/graphdblaw45.FootprintOfs", spec := "footprintOfs", inPlace := ["internal/bytealg.IndexByteString", "internal/bytealg.IndexString", "math/bits.Add64", "math/bits.Sub64", "slices.overlaps[graphdb/api.Node]", "slices.overlaps[string]", "slices.overlaps[graphdb/api.Prop]", "slices.overlaps[graphdb/api.Edge]"], unfollowed := true, recurses := true, named := ["internal/bytealg.MaxLen", "graphdb/frac.zero"], loops := true, apart := false, laid := [("graphdb/frac.zero", laid_graphdb_frac_zero)] }
def FootprintOfsSaid : Prop := footprintOfsRow.holds Tryz.pinned (OpenSpec.ofChange footprintOfsSpec)

/-- ITS FALSE NEIGHBOUR: 'it returns false'. Refute it at one input. -/
def footprintOfsWrong : ChangeSpec := { name := "footprintOfs", fn := fun _ => fun
  | [d] => { results := [.lit (.bool false)], args := [d] }
  | _ => none }
def FootprintOfsWrongFalsely : Prop := footprintOfsRow.holds Tryz.pinned (OpenSpec.ofChange footprintOfsWrong)

/-- 'graphdblaw45.FootprintPrefix': WHATEVER THE INPUT: true; the input reads as it did. -/
def footprintPrefixSpec : ChangeSpec := { name := "footprintPrefix", fn := fun _ => fun
  | [d1, d2] => { results := [.lit (.bool true)], args := [d1, d2] }
  | _ => none }
def footprintPrefixRow : OpenClaim := { program := "ytmocfjnklfpnbaagreatdoor", sum := "cc0f068e2e7152cb63295b0d8647d8cc4ba1f44faf5e2d4fd52a20e88e43402c", func := "graphdb/graphdblaw45.FootprintPrefix", spec := "footprintPrefix", inPlace := ["internal/bytealg.IndexByteString", "internal/bytealg.IndexString", "math/bits.Add64", "math/bits.Sub64", "slices.overlaps[graphdb/api.Node]", "slices.overlaps[string]", "slices.overlaps[graphdb/api.Prop]", "slices.overlaps[graphdb/api.Edge]"], unfollowed := true, recurses := true, named := ["internal/bytealg.MaxLen", "graphdb/frac.zero"], loops := true, apart := false, laid := [("graphdb/frac.zero", laid_graphdb_frac_zero)] }
def FootprintPrefixSaid : Prop := footprintPrefixRow.holds Tryz.pinned (OpenSpec.ofChange footprintPrefixSpec)

/-- ITS FALSE NEIGHBOUR: 'it returns false'. Refute it at one input. -/
def footprintPrefixWrong : ChangeSpec := { name := "footprintPrefix", fn := fun _ => fun
  | [d1, d2] => { results := [.lit (.bool false)], args := [d1, d2] }
  | _ => none }
def FootprintPrefixWrongFalsely : Prop := footprintPrefixRow.holds Tryz.pinned (OpenSpec.ofChange footprintPrefixWrong)

/- THE SECOND FORM. 'bulk': how many values and letters a reading holds, each counted each time it is reached (what is shared counts as often as it is met; a slice's spare places count too). A statement '..UptoSaid' is the law's where the arguments, and the package variables that the reading takes, are together of bulk at most 1048576: NARROWER than '..Said'. Prove '..Said' where nothing that the law and all that it calls make is longer than what came in: it says more and counts as full. Else prove '..UptoSaid'. A law counts once. -/
mutual
def uptoBulk {H : Type} : DataW H → Nat
  | .lit (.string bytes) => bytes.length + 1
  | .lit _ => 1
  | .nil => 1
  | .ptr d => uptoBulk d + 1
  | .slice elems spare => uptoBulkAll elems + uptoBulkAll spare + 1
  | .agg parts => uptoBulkAll parts + 1
  | .iface _ d => uptoBulk d + 1
  | .map entries => uptoBulkEntries entries + 1
  | .held _ => 1
def uptoBulkAll {H : Type} : List (DataW H) → Nat
  | [] => 0
  | d :: r => uptoBulk d + uptoBulkAll r
def uptoBulkEntries {H : Type} : List (Lit × DataW H) → Nat
  | [] => 0
  | x :: r => uptoBulkEntry x + uptoBulkEntries r
def uptoBulkEntry {H : Type} : Lit × DataW H → Nat
  | (.string bytes, d) => bytes.length + uptoBulk d + 1
  | (_, d) => uptoBulk d + 1
 end
def uptoSmall : (H : Type) → List (DataW H) → Bool := fun _ ds => decide (uptoBulkAll ds ≤ 1048576)
def OpenSpec.upto (s : _root_.Go.ChangeSpec) : _root_.Go.OpenSpec := { _root_.Go.OpenSpec.ofChange s with cond := some uptoSmall }

/-- 'graphdblaw45.FootprintOfs', WHERE WHAT IT READS IS OF BULK AT MOST 1048576: true; the input reads as it did. -/
def footprintOfsUptoRow : OpenClaim := { program := "ytmocfjnklfpnbaagreatdoor", sum := "cc0f068e2e7152cb63295b0d8647d8cc4ba1f44faf5e2d4fd52a20e88e43402c", func := "graphdb/graphdblaw45.FootprintOfs", spec := "footprintOfs", inPlace := ["internal/bytealg.IndexByteString", "internal/bytealg.IndexString", "math/bits.Add64", "math/bits.Sub64", "slices.overlaps[graphdb/api.Node]", "slices.overlaps[string]", "slices.overlaps[graphdb/api.Prop]", "slices.overlaps[graphdb/api.Edge]"], unfollowed := true, recurses := true, named := ["internal/bytealg.MaxLen", "graphdb/frac.zero"], loops := true, apart := false, laid := [("graphdb/frac.zero", laid_graphdb_frac_zero)], narrowed := true }
def FootprintOfsUptoSaid : Prop := footprintOfsUptoRow.holds Tryz.pinned (OpenSpec.upto footprintOfsSpec)

/-- 'graphdblaw45.FootprintPrefix', WHERE WHAT IT READS IS OF BULK AT MOST 1048576: true; the input reads as it did. -/
def footprintPrefixUptoRow : OpenClaim := { program := "ytmocfjnklfpnbaagreatdoor", sum := "cc0f068e2e7152cb63295b0d8647d8cc4ba1f44faf5e2d4fd52a20e88e43402c", func := "graphdb/graphdblaw45.FootprintPrefix", spec := "footprintPrefix", inPlace := ["internal/bytealg.IndexByteString", "internal/bytealg.IndexString", "math/bits.Add64", "math/bits.Sub64", "slices.overlaps[graphdb/api.Node]", "slices.overlaps[string]", "slices.overlaps[graphdb/api.Prop]", "slices.overlaps[graphdb/api.Edge]"], unfollowed := true, recurses := true, named := ["internal/bytealg.MaxLen", "graphdb/frac.zero"], loops := true, apart := false, laid := [("graphdb/frac.zero", laid_graphdb_frac_zero)], narrowed := true }
def FootprintPrefixUptoSaid : Prop := footprintPrefixUptoRow.holds Tryz.pinned (OpenSpec.upto footprintPrefixSpec)

end Rows
end Go.Proofs.YtmocfjnklfpnbaaGreatDoor
