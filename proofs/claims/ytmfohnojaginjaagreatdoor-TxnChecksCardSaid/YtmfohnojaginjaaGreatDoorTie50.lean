/- Part of the proof. -/
import Derived.Test.YtmfohnojaginjaaGreatDoorRows
import Derived.LaidByTextLater
import Derived.SevenTiedAt
set_option linter.all false
set_option maxRecDepth 100000
namespace Go.Proofs.YtmfohnojaginjaaGreatDoor
open Go Go.Proofs.Tryz
def EB :List (String × DataW Unit):=[("graphdb/frac.zero",Rows.laid_graphdb_frac_zero),("internal/strconv.uint64pow10",Rows.laid_internal_strconv_uint64pow10),("math/bits.deBruijn32tab",Rows.laid_math_bits_deBruijn32tab),("math/bits.deBruijn64tab",Rows.laid_math_bits_deBruijn64tab),("unicode/utf8.acceptRanges",Rows.laid_unicode_utf8_acceptRanges)]
def tw1 :prog.worded (varsWordLater true)=true:=by kernel_rfl
def tw2 :prog.worded (varsWordLater !true)=false:=by kernel_rfl
def tw3 :prog.worded rootWordLater=true:=by kernel_rfl
def tw4 :EB.map (λx=>prog.kindOfLater x.1)=[LaidKind.data,.data,.data,.data,.data].map some:=by kernel_rfl
def tw5 :(prog.funcNamed "gosem.cut.vars").isSome=true:=by kernel_rfl
def tw6 :varsNamedLaterB prog (varsId prog) EB=true:=by kernel_rfl
def tw7 :∀os tape,varsDone prog 400 (varsId prog) os tape=true:=λ_ _=>by kernel_rfl
def tw8 :∀os tape,(DataW.laidRun prog (varsWorld prog 400 (varsId prog) os tape).memory 8 (EB.map (·.1))).map (·.1)=some EB:=λ_ _=>by kernel_rfl
def tw9 :∀os tape,(DataW.laidRun prog (varsWorld prog 400 (varsId prog) os tape).memory 8 (EB.map (·.1))).map (λx=>decide x.2.Nodup && laidRowsB prog (varsWorld prog 400 (varsId prog) os tape).memory x.2)=some true:=λ_ _=>by kernel_rfl
end Go.Proofs.YtmfohnojaginjaaGreatDoor
