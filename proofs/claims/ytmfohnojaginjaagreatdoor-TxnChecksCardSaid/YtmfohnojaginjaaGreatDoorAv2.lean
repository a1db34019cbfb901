/- Part of the proof. -/
import Derived.Test.YtmfohnojaginjaaGreatDoorP36
set_option linter.all false
set_option maxRecDepth 100000
namespace Go.Proofs.YtmfohnojaginjaaGreatDoor
open Go Go.Ae
def afs :runK cx 15 [m2K,cW 1,Af]=some (.tp [m3K,t1K,cW 0]):=by kernel_rfl
def aft :runK cx 15 [m3K,cW 1,wV]=some (.tp [m4K,t2K,cW 0]):=by kernel_rfl
end Go.Proofs.YtmfohnojaginjaaGreatDoor
