/- Part of the proof. -/
import Derived.Test.YtmfohnojaginjaaGreatDoorP36
set_option linter.all false
set_option maxRecDepth 100000
namespace Go.Proofs.YtmfohnojaginjaaGreatDoor
open Go Go.Ae
def afw :runK cx 18 [m6K,cW 1]=some (.tp [m7K,cW 1,cW 0]):=by kernel_rfl
def afx :runK cx 18 [m7K,cW 2]=some (.tp [m8K,cW 0,cW 18]):=by kernel_rfl
end Go.Proofs.YtmfohnojaginjaaGreatDoor
