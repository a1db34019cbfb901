/- Part of the proof. -/
import Derived.Test.YtmfohnojaginjaaGreatDoorAv2
import Derived.Test.YtmfohnojaginjaaGreatDoorAv3
import Derived.Test.YtmfohnojaginjaaGreatDoorAv4
set_option linter.all false
set_option maxRecDepth 100000
namespace Go.Proofs.YtmfohnojaginjaaGreatDoor
open Go Go.Ae
noncomputable def c1 :Cx:=Vv cx (QA [(13,[g0K,gj,cW 0],.tp [m0K,cW 0]),(14,[m0K],.tp [m1K,cW 1,cW 0]),(14,[m1K],.tp [m2K,cW 2,cW 0]),(16,[h_ [65]],Af),(17,[h_ [65]],wV),(16,[h_ [66]],Ag),(17,[h_ [66]],wW),(15,[m2K,cW 1,Af],.tp [m3K,t1K,cW 0]),(15,[m3K,cW 1,wV],.tp [m4K,t2K,cW 0]),(15,[m4K,cW 2,Ag],.tp [m5K,t3K,cW 0]),(15,[m5K,cW 2,wW],.tp [m6K,t4K,cW 0]),(18,[m6K,cW 1],.tp [m7K,cW 1,cW 0]),(18,[m7K,cW 2],.tp [m8K,cW 0,cW 18])])
def ael :pL c1:=kZ.more _ (NL λe he=>by
 simp only[Yw,Qf,or_false]at he;rcases he with rfl|rfl|rfl|rfl|rfl|rfl|rfl|rfl|rfl|rfl|rfl|rfl|rfl
 .exact j8 kZ agl
 .exact j8 kZ ajB
 .exact j8 kZ ajC
 .exact j8 kZ V4
 .exact j8 kZ Q7
 .exact j8 kZ V5
 .exact j8 kZ Q8
 .exact j8 kZ afs
 .exact j8 kZ aft
 .exact j8 kZ afu
 .exact j8 kZ afv
 .exact j8 kZ afw
 .exact j8 kZ afx)
def abb :runK c1 5 []=some (.sc (.bool true)):=by kernel_rfl
def Wf :iG cx 5 [] (.sc (.bool true)):=j8 ael abb
end Go.Proofs.YtmfohnojaginjaaGreatDoor
