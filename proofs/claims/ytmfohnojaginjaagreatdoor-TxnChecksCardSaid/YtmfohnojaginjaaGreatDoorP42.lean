/- Part of the proof. -/
import Derived.Test.YtmfohnojaginjaaGreatDoorTie50
set_option linter.all false
set_option maxRecDepth 100000
namespace Go.Proofs.YtmfohnojaginjaaGreatDoor
open Go Go.Proofs.Tryz
def Rf :Tryz.pinned.checked.prog.pinnedFits "unicode/utf8.first" =true:=by kernel_rfl
def Gp :Tryz.pinned.checked.prog.headLifts.contains "ownunsafe" =false:=by kernel_rfl
def agq :Tryz.pinned.checked.prog.listedFits [("graphdb/frac.zero",Rows.laid_graphdb_frac_zero),("internal/strconv.uint64pow10",Rows.laid_internal_strconv_uint64pow10),("math/bits.deBruijn32tab",Rows.laid_math_bits_deBruijn32tab),("math/bits.deBruijn64tab",Rows.laid_math_bits_deBruijn64tab),("unicode/utf8.first",Rows.laid_unicode_utf8_first),("unicode/utf8.acceptRanges",Rows.laid_unicode_utf8_acceptRanges)]=true:=by
 unfold Program.listedFits;rw[Gp]
 kernel_rfl
def ajJ :prog.laidByTextLater EB [.data,.data,.data,.data,.data] true:=
 Program.laidByTextLater_by_run 400 8 tw1 tw2 tw3 tw4 tw5 tw6 tw7 tw8 tw9
def AM :Rows.txnChecksRow.laidByTextAt .later Tryz.pinned [.data,.data,.data,.data,.pinned,.data] true:=
 OpenClaim.laidByTextAt_pinned rfl rfl ajJ rfl rfl rfl rfl (λy hy _e=>by
  simp only[Rows.txnChecksRow,List.zip_cons_cons,List.zip_nil_right,List.mem_cons,List.mem_nil_iff,or_false]at hy;rcases hy with rfl|rfl|rfl|rfl|rfl|rfl
  .cases _e
  .cases _e
  .cases _e
  .cases _e
  .exact⟨Rf,by kernel_rfl⟩
  .cases _e) agq
end Go.Proofs.YtmfohnojaginjaaGreatDoor
