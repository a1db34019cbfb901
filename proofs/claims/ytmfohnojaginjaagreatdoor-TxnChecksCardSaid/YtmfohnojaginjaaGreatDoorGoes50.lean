/- Part of the proof. -/
import Derived.Test.YtmfohnojaginjaaGreatDoorRows
import GoSem.ClaimGoes
import Derived.KernelRfl
set_option linter.all false
set_option maxRecDepth 100000
namespace Go.Proofs.YtmfohnojaginjaaGreatDoor
open Go
def Oc(P:Program)(f:FuncId)(h:P.funcs.any Func.goes=false):P.goes f=false:=by
 unfold Program.goes;rw[h,Bool.and_false,Bool.or_false,List.any_eq_false];intro g _;cases hg:P.funcs[g]? with
 |none=>simp
 |some fn=>
  have hm:fn∈P.funcs:=Array.mem_of_getElem? hg;have:=Array.any_eq_false'.1 h fn hm;simpa using this
def XW(c:OpenClaim)(P:Program)(nm:String)(f:FuncId)(hs:c.start= .entering)(hf:c.func=nm)(h1:P.funcNamed nm=some f)(h2:P.goes f=false):false=c.goesBy P:=by
 unfold OpenClaim.goesBy Program.goesAt Program.goesFrom;rw[hs,hf,h1];simp only[Option.any_some,h2,Bool.or_false]
def Sp :Tryz.pinned.checked.prog.funcs.any Func.goes=false:=by kernel_rfl
def Sm :false=Rows.txnChecksRow.goesBy Tryz.pinned.checked.prog:=
 XW Rows.txnChecksRow Tryz.pinned.checked.prog "graphdb/graphdblaw46.TxnChecks" 3 rfl rfl (by kernel_rfl) (Oc Tryz.pinned.checked.prog 3 Sp)
end Go.Proofs.YtmfohnojaginjaaGreatDoor
