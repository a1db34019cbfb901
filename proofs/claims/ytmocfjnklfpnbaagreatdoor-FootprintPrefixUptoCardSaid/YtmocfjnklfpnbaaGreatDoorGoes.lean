/- No body starts a goroutine. -/
import Derived.Test.YtmocfjnklfpnbaaGreatDoorRows
import GoSem.ClaimGoes
import Derived.KernelRfl
set_option linter.all false
set_option maxRecDepth 100000
namespace Go.Proofs.YtmocfjnklfpnbaaGreatDoor
open Go
theorem goes_none (P:Program)(f:FuncId)(h:P.funcs.any Func.goes=false):P.goes f=false:=by
 unfold Program.goes;rw[h,Bool.and_false,Bool.or_false,List.any_eq_false];intro g _;cases hg:P.funcs[g]? with
 |none=>simp
 |
  some fn=>
  have hm:fn∈P.funcs:=Array.mem_of_getElem? hg;have:=Array.any_eq_false'.1 h fn hm;simpa using this
theorem goes_at (c:OpenClaim)(P:Program)(nm:String)(f:FuncId)(hs:c.start= .entering)(hf:c.func=nm)(h1:P.funcNamed nm=some f)(h2:P.goes f=false):false=c.goesBy P:=by
 unfold OpenClaim.goesBy Program.goesAt Program.goesFrom;rw[hs,hf,h1];simp only[Option.any_some,h2,Bool.or_false]
theorem goes_any :Tryz.pinned.checked.prog.funcs.any Func.goes=false:=by kernel_rfl
theorem goes_row :false=Rows.footprintPrefixUptoRow.goesBy Tryz.pinned.checked.prog:=
 goes_at Rows.footprintPrefixUptoRow Tryz.pinned.checked.prog "graphdb/graphdblaw45.FootprintPrefix" 4 rfl rfl (by kernel_rfl) (goes_none Tryz.pinned.checked.prog 4 goes_any)
end Go.Proofs.YtmocfjnklfpnbaaGreatDoor
