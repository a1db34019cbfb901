/-
  NARROWER THAN 'FOR EVERY INPUT', by the rows' own cells (each row's printed sentence says how): FootprintOfs: loops, laid · FootprintTouches: loops, laid · FootprintAny: loops, laid · FootprintOrder: loops, laid · FootprintPrefix: loops, laid.
  DERIVED. THE GIVEN ROWS OF THIS SEAT. 5 by the template 'for every input the law returns true; each argument reads behind the call as it read before'; 0 by the template 'total and deterministic' (their statements: YtadaeokidcgdlaaGreatDoorTotals.lean).
  GIVEN WITH THE SEED: the statements are not yours to turn. If you find one false, say at which input.
  Laid BY PROGRAM, IN A SANDBOX (cutbox-rows.mjs): the forced cells as the released guide's own fill.sh prints them over the translation 5076711196c2cb1e… (all of the seat's roots in one cut). By AI agents, Wed Nov 11 2026. No macro, syntax, notation, axiom, sorry.
-/
import Derived.Test.YtadaeokidcgdlaaGreatDoorChecked
import GoSem.Claim
import GoSem.ClaimJoined
import GoSem.ClaimMapViews
import Derived.JoinedTies
import Derived.KernelRfl
namespace Go.Proofs.YtadaeokidcgdlaaGreatDoor
/- THE CELL 'sum', in the pinned program and in every row, IS THE sha256 OF THE DUMP (.gsa) THAT YtadaeokidcgdlaaGreatDoorProg.lean LOADS. Nothing in Lean hashes anything: it is a label: what it is worth is what the hold of that sum in a sandbox is worth. -/
noncomputable def Tryz.pinned : Pinned := { name := "ytadaeokidcgdlaagreatdoor", sum := "5076711196c2cb1e1a7b0bec7c127cb40cf1c80e281226e46ef1a9a015141542", checked := Tryz.checked }
namespace Rows
def none {H : Type} : Left H := { results := [], args := [] }

/- WHAT THE LISTED PACKAGE-LEVEL VARIABLES READ AS WHEN THE CALL BEGINS. Each datum BY PROGRAM (the guide's laid-datum.mjs) off the statement by which the dump's own 'gosem.cut.vars' lays the variable. In a bare row this is a premise. The card (YtadaeokidcgdlaaGreatDoorCards.lean) ties it to the program's text. -/
def laid_graphdb_frac_zero {H : Type} : DataW H := .agg [.lit (.int .i64 0), .lit (.int .i64 1)]

/-- 'graphdblaw45.FootprintOfs': WHATEVER THE INPUT: true; the input reads as it did. -/
def footprintOfsSpec : ChangeSpec := { name := "footprintOfs", fn := fun _ => fun
  | [d] => { results := [.lit (.bool true)], args := [d] }
  | _ => none }
def footprintOfsRow : OpenClaim := { program := "ytadaeokidcgdlaagreatdoor", sum := "5076711196c2cb1e1a7b0bec7c127cb40cf1c80e281226e46ef1a9a015141542", func := "graphdb/graphdblaw45.FootprintOfs", spec := "footprintOfs", inPlace := ["internal/bytealg.IndexByteString", "internal/bytealg.IndexString", "math/bits.Add64", "math/bits.Sub64", "slices.overlaps[graphdb/api.Node]", "slices.overlaps[string]", "slices.overlaps[graphdb/api.Prop]", "slices.overlaps[graphdb/api.Edge]"], unfollowed := true, recurses := true, named := ["internal/bytealg.MaxLen", "graphdb/frac.zero"], loops := true, apart := false, laid := [("graphdb/frac.zero", laid_graphdb_frac_zero)] }
def FootprintOfsSaid : Prop := footprintOfsRow.holds Tryz.pinned (OpenSpec.ofChange footprintOfsSpec)

/-- ITS FALSE NEIGHBOUR: 'it returns false'. Refute it at one input. -/
def footprintOfsWrong : ChangeSpec := { name := "footprintOfs", fn := fun _ => fun
  | [d] => { results := [.lit (.bool false)], args := [d] }
  | _ => none }
def FootprintOfsWrongFalsely : Prop := footprintOfsRow.holds Tryz.pinned (OpenSpec.ofChange footprintOfsWrong)

/-- 'graphdblaw45.FootprintTouches': WHATEVER THE INPUT: true; the input reads as it did. -/
def footprintTouchesSpec : ChangeSpec := { name := "footprintTouches", fn := fun _ => fun
  | [d1, d2, d3] => { results := [.lit (.bool true)], args := [d1, d2, d3] }
  | _ => none }
def footprintTouchesRow : OpenClaim := { program := "ytadaeokidcgdlaagreatdoor", sum := "5076711196c2cb1e1a7b0bec7c127cb40cf1c80e281226e46ef1a9a015141542", func := "graphdb/graphdblaw45.FootprintTouches", spec := "footprintTouches", inPlace := ["internal/bytealg.IndexByteString", "internal/bytealg.IndexString", "math/bits.Add64", "math/bits.Sub64", "slices.overlaps[graphdb/api.Node]", "slices.overlaps[string]", "slices.overlaps[graphdb/api.Prop]", "slices.overlaps[graphdb/api.Edge]"], unfollowed := true, recurses := true, named := ["internal/bytealg.MaxLen", "graphdb/frac.zero"], loops := true, apart := false, laid := [("graphdb/frac.zero", laid_graphdb_frac_zero)] }
def FootprintTouchesSaid : Prop := footprintTouchesRow.holds Tryz.pinned (OpenSpec.ofChange footprintTouchesSpec)

/-- ITS FALSE NEIGHBOUR: 'it returns false'. Refute it at one input. -/
def footprintTouchesWrong : ChangeSpec := { name := "footprintTouches", fn := fun _ => fun
  | [d1, d2, d3] => { results := [.lit (.bool false)], args := [d1, d2, d3] }
  | _ => none }
def FootprintTouchesWrongFalsely : Prop := footprintTouchesRow.holds Tryz.pinned (OpenSpec.ofChange footprintTouchesWrong)

/-- 'graphdblaw45.FootprintAny': WHATEVER THE INPUT: true; the input reads as it did. -/
def footprintAnySpec : ChangeSpec := { name := "footprintAny", fn := fun _ => fun
  | [d1, d2, d3] => { results := [.lit (.bool true)], args := [d1, d2, d3] }
  | _ => none }
def footprintAnyRow : OpenClaim := { program := "ytadaeokidcgdlaagreatdoor", sum := "5076711196c2cb1e1a7b0bec7c127cb40cf1c80e281226e46ef1a9a015141542", func := "graphdb/graphdblaw45.FootprintAny", spec := "footprintAny", inPlace := ["internal/bytealg.IndexByteString", "internal/bytealg.IndexString", "math/bits.Add64", "math/bits.Sub64", "slices.overlaps[graphdb/api.Node]", "slices.overlaps[string]", "slices.overlaps[graphdb/api.Prop]", "slices.overlaps[graphdb/api.Edge]"], unfollowed := true, recurses := true, named := ["internal/bytealg.MaxLen", "graphdb/frac.zero"], loops := true, apart := false, laid := [("graphdb/frac.zero", laid_graphdb_frac_zero)] }
def FootprintAnySaid : Prop := footprintAnyRow.holds Tryz.pinned (OpenSpec.ofChange footprintAnySpec)

/-- ITS FALSE NEIGHBOUR: 'it returns false'. Refute it at one input. -/
def footprintAnyWrong : ChangeSpec := { name := "footprintAny", fn := fun _ => fun
  | [d1, d2, d3] => { results := [.lit (.bool false)], args := [d1, d2, d3] }
  | _ => none }
def FootprintAnyWrongFalsely : Prop := footprintAnyRow.holds Tryz.pinned (OpenSpec.ofChange footprintAnyWrong)

/-- 'graphdblaw45.FootprintOrder': WHATEVER THE INPUT: true; the input reads as it did. -/
def footprintOrderSpec : ChangeSpec := { name := "footprintOrder", fn := fun _ => fun
  | [d1, d2, d3] => { results := [.lit (.bool true)], args := [d1, d2, d3] }
  | _ => none }
def footprintOrderRow : OpenClaim := { program := "ytadaeokidcgdlaagreatdoor", sum := "5076711196c2cb1e1a7b0bec7c127cb40cf1c80e281226e46ef1a9a015141542", func := "graphdb/graphdblaw45.FootprintOrder", spec := "footprintOrder", inPlace := ["math/bits.Add64", "math/bits.Sub64", "internal/bytealg.IndexByteString", "internal/bytealg.IndexString", "slices.overlaps[graphdb/api.Node]", "slices.overlaps[string]", "slices.overlaps[graphdb/api.Prop]", "slices.overlaps[graphdb/api.Edge]"], unfollowed := true, recurses := true, named := ["graphdb/frac.zero", "internal/bytealg.MaxLen"], loops := true, apart := false, laid := [("graphdb/frac.zero", laid_graphdb_frac_zero)] }
def FootprintOrderSaid : Prop := footprintOrderRow.holds Tryz.pinned (OpenSpec.ofChange footprintOrderSpec)

/-- ITS FALSE NEIGHBOUR: 'it returns false'. Refute it at one input. -/
def footprintOrderWrong : ChangeSpec := { name := "footprintOrder", fn := fun _ => fun
  | [d1, d2, d3] => { results := [.lit (.bool false)], args := [d1, d2, d3] }
  | _ => none }
def FootprintOrderWrongFalsely : Prop := footprintOrderRow.holds Tryz.pinned (OpenSpec.ofChange footprintOrderWrong)

/-- 'graphdblaw45.FootprintPrefix': WHATEVER THE INPUT: true; the input reads as it did. -/
def footprintPrefixSpec : ChangeSpec := { name := "footprintPrefix", fn := fun _ => fun
  | [d1, d2] => { results := [.lit (.bool true)], args := [d1, d2] }
  | _ => none }
def footprintPrefixRow : OpenClaim := { program := "ytadaeokidcgdlaagreatdoor", sum := "5076711196c2cb1e1a7b0bec7c127cb40cf1c80e281226e46ef1a9a015141542", func := "graphdb/graphdblaw45.FootprintPrefix", spec := "footprintPrefix", inPlace := ["internal/bytealg.IndexByteString", "internal/bytealg.IndexString", "math/bits.Add64", "math/bits.Sub64", "slices.overlaps[graphdb/api.Node]", "slices.overlaps[string]", "slices.overlaps[graphdb/api.Prop]", "slices.overlaps[graphdb/api.Edge]"], unfollowed := true, recurses := true, named := ["internal/bytealg.MaxLen", "graphdb/frac.zero"], loops := true, apart := false, laid := [("graphdb/frac.zero", laid_graphdb_frac_zero)] }
def FootprintPrefixSaid : Prop := footprintPrefixRow.holds Tryz.pinned (OpenSpec.ofChange footprintPrefixSpec)

/-- ITS FALSE NEIGHBOUR: 'it returns false'. Refute it at one input. -/
def footprintPrefixWrong : ChangeSpec := { name := "footprintPrefix", fn := fun _ => fun
  | [d1, d2] => { results := [.lit (.bool false)], args := [d1, d2] }
  | _ => none }
def FootprintPrefixWrongFalsely : Prop := footprintPrefixRow.holds Tryz.pinned (OpenSpec.ofChange footprintPrefixWrong)

/- THE SECOND FORM. 'bulk': how many values and letters a reading holds, each counted each time it is reached (what is shared counts as often as it is met; a slice's spare places count too). A statement '..UptoSaid' is the law's where the arguments, and the package variables that the reading takes, are together of bulk at most 1048576: NARROWER than '..Said'. Prove '..Said' where nothing that the law and all that it calls make is longer than what came in: it says more and counts as full. Else prove '..UptoSaid'. A law counts once. -/
mutual
def uptoBulk {H : Type} : DataW H → Nat
  | .lit (.string bytes) => bytes.length + 1
  | .lit _ => 1
  | .nil => 1
  | .ptr d => uptoBulk d + 1
  | .slice elems spare => uptoBulkAll elems + uptoBulkAll spare + 1
  | .agg parts => uptoBulkAll parts + 1
  | .iface _ d => uptoBulk d + 1
  | .map entries => uptoBulkEntries entries + 1
  | .held _ => 1
def uptoBulkAll {H : Type} : List (DataW H) → Nat
  | [] => 0
  | d :: r => uptoBulk d + uptoBulkAll r
def uptoBulkEntries {H : Type} : List (Lit × DataW H) → Nat
  | [] => 0
  | x :: r => uptoBulkEntry x + uptoBulkEntries r
def uptoBulkEntry {H : Type} : Lit × DataW H → Nat
  | (.string bytes, d) => bytes.length + uptoBulk d + 1
  | (_, d) => uptoBulk d + 1
 end
def uptoSmall : (H : Type) → List (DataW H) → Bool := fun _ ds => decide (uptoBulkAll ds ≤ 1048576)
def OpenSpec.upto (s : _root_.Go.ChangeSpec) : _root_.Go.OpenSpec := { _root_.Go.OpenSpec.ofChange s with cond := some uptoSmall }

/-- 'graphdblaw45.FootprintOfs', WHERE WHAT IT READS IS OF BULK AT MOST 1048576: true; the input reads as it did. -/
def footprintOfsUptoRow : OpenClaim := { program := "ytadaeokidcgdlaagreatdoor", sum := "5076711196c2cb1e1a7b0bec7c127cb40cf1c80e281226e46ef1a9a015141542", func := "graphdb/graphdblaw45.FootprintOfs", spec := "footprintOfs", inPlace := ["internal/bytealg.IndexByteString", "internal/bytealg.IndexString", "math/bits.Add64", "math/bits.Sub64", "slices.overlaps[graphdb/api.Node]", "slices.overlaps[string]", "slices.overlaps[graphdb/api.Prop]", "slices.overlaps[graphdb/api.Edge]"], unfollowed := true, recurses := true, named := ["internal/bytealg.MaxLen", "graphdb/frac.zero"], loops := true, apart := false, laid := [("graphdb/frac.zero", laid_graphdb_frac_zero)], narrowed := true }
def FootprintOfsUptoSaid : Prop := footprintOfsUptoRow.holds Tryz.pinned (OpenSpec.upto footprintOfsSpec)

/-- 'graphdblaw45.FootprintTouches', WHERE WHAT IT READS IS OF BULK AT MOST 1048576: true; the input reads as it did. -/
def footprintTouchesUptoRow : OpenClaim := { program := "ytadaeokidcgdlaagreatdoor", sum := "5076711196c2cb1e1a7b0bec7c127cb40cf1c80e281226e46ef1a9a015141542", func := "graphdb/graphdblaw45.FootprintTouches", spec := "footprintTouches", inPlace := ["internal/bytealg.IndexByteString", "internal/bytealg.IndexString", "math/bits.Add64", "math/bits.Sub64", "slices.overlaps[graphdb/api.Node]", "slices.overlaps[string]", "slices.overlaps[graphdb/api.Prop]", "slices.overlaps[graphdb/api.Edge]"], unfollowed := true, recurses := true, named := ["internal/bytealg.MaxLen", "graphdb/frac.zero"], loops := true, apart := false, laid := [("graphdb/frac.zero", laid_graphdb_frac_zero)], narrowed := true }
def FootprintTouchesUptoSaid : Prop := footprintTouchesUptoRow.holds Tryz.pinned (OpenSpec.upto footprintTouchesSpec)

/-- 'graphdblaw45.FootprintAny', WHERE WHAT IT READS IS OF BULK AT MOST 1048576: true; the input reads as it did. -/
def footprintAnyUptoRow : OpenClaim := { program := "ytadaeokidcgdlaagreatdoor", sum := "5076711196c2cb1e1a7b0bec7c127cb40cf1c80e281226e46ef1a9a015141542", func := "graphdb/graphdblaw45.FootprintAny", spec := "footprintAny", inPlace := ["internal/bytealg.IndexByteString", "internal/bytealg.IndexString", "math/bits.Add64", "math/bits.Sub64", "slices.overlaps[graphdb/api.Node]", "slices.overlaps[string]", "slices.overlaps[graphdb/api.Prop]", "slices.overlaps[graphdb/api.Edge]"], unfollowed := true, recurses := true, named := ["internal/bytealg.MaxLen", "graphdb/frac.zero"], loops := true, apart := false, laid := [("graphdb/frac.zero", laid_graphdb_frac_zero)], narrowed := true }
def FootprintAnyUptoSaid : Prop := footprintAnyUptoRow.holds Tryz.pinned (OpenSpec.upto footprintAnySpec)

/-- 'graphdblaw45.FootprintOrder', WHERE WHAT IT READS IS OF BULK AT MOST 1048576: true; the input reads as it did. -/
def footprintOrderUptoRow : OpenClaim := { program := "ytadaeokidcgdlaagreatdoor", sum := "5076711196c2cb1e1a7b0bec7c127cb40cf1c80e281226e46ef1a9a015141542", func := "graphdb/graphdblaw45.FootprintOrder", spec := "footprintOrder", inPlace := ["math/bits.Add64", "math/bits.Sub64", "internal/bytealg.IndexByteString", "internal/bytealg.IndexString", "slices.overlaps[graphdb/api.Node]", "slices.overlaps[string]", "slices.overlaps[graphdb/api.Prop]", "slices.overlaps[graphdb/api.Edge]"], unfollowed := true, recurses := true, named := ["graphdb/frac.zero", "internal/bytealg.MaxLen"], loops := true, apart := false, laid := [("graphdb/frac.zero", laid_graphdb_frac_zero)], narrowed := true }
def FootprintOrderUptoSaid : Prop := footprintOrderUptoRow.holds Tryz.pinned (OpenSpec.upto footprintOrderSpec)

/-- 'graphdblaw45.FootprintPrefix', WHERE WHAT IT READS IS OF BULK AT MOST 1048576: true; the input reads as it did. -/
def footprintPrefixUptoRow : OpenClaim := { program := "ytadaeokidcgdlaagreatdoor", sum := "5076711196c2cb1e1a7b0bec7c127cb40cf1c80e281226e46ef1a9a015141542", func := "graphdb/graphdblaw45.FootprintPrefix", spec := "footprintPrefix", inPlace := ["internal/bytealg.IndexByteString", "internal/bytealg.IndexString", "math/bits.Add64", "math/bits.Sub64", "slices.overlaps[graphdb/api.Node]", "slices.overlaps[string]", "slices.overlaps[graphdb/api.Prop]", "slices.overlaps[graphdb/api.Edge]"], unfollowed := true, recurses := true, named := ["internal/bytealg.MaxLen", "graphdb/frac.zero"], loops := true, apart := false, laid := [("graphdb/frac.zero", laid_graphdb_frac_zero)], narrowed := true }
def FootprintPrefixUptoSaid : Prop := footprintPrefixUptoRow.holds Tryz.pinned (OpenSpec.upto footprintPrefixSpec)

end Rows
end Go.Proofs.YtadaeokidcgdlaaGreatDoor
