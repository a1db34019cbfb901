/- Part of the proof. -/
import Derived.Test.YtmfohnojaginjaaGreatDoorP36
set_option linter.all false
set_option maxRecDepth 100000
namespace Go.Proofs.YtmfohnojaginjaaGreatDoor
open Go Go.Ae
def afu :runK cx 15 [m4K,cW 2,Ag]=some (.tp [m5K,t3K,cW 0]):=by kernel_rfl
def afv :runK cx 15 [m5K,cW 2,wW]=some (.tp [m6K,t4K,cW 0]):=by kernel_rfl
end Go.Proofs.YtmfohnojaginjaaGreatDoor
