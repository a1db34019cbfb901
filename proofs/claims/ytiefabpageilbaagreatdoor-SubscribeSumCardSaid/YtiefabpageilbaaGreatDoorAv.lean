/- The worked examples of the chapter on subscriptions: they hold. -/
import Derived.Test.YtiefabpageilbaaGreatDoorP40
set_option linter.all false
set_option maxRecDepth 100000
namespace Go.Proofs.YtiefabpageilbaaGreatDoor
open Go Go.Ae
def avI (n:Int):AV:= .sc (.int .i64 n)
def avB (b:Bool):AV:= .sc (.bool b)
def avS (l:List UInt8):AV:= .sc (.string ⟨l.toArray⟩)
def avN :AV:= .sc (.slice none 0 0)
def qK :AV:= .ag [.ls 21 [[avI 1,avB false,avB false,.ls 3 [[avS [],.ls 3 [[avS [97],.ls 1 [[avS [65]]] false,avN]] false,avN]] false,avN,avI 0,avI 0,avI 0,avI 0,avS [],avN,avS [],avB false,avN,avS [],avN,avN,avI (-1),avI (-1),avN,avN],[avI 4,avB false,avB false,avN,avN,avI 0,avI 0,avI 0,avI 0,avS [],avN,avS [],avB false,avN,avS [],.ls 10 [[avI 3,avI 0,avI 0,avI 0,avS [],avN,avS [107],avB false,.ls 9 [[avI 2,avI 0,avI 0,avI 0,avS [],avN,avS [97],avB false,avN]] false,avS [107]]] false,avN,avI (-1),avI (-1),avN,avN]] false]
def hubK :AV:= .ag [.ls 2 [[avI 1,.ls 21 [[avI 1,avB false,avB false,.ls 3 [[avS [],.ls 3 [[avS [97],.ls 1 [[avS [65]]] false,avN]] false,avN]] false,avN,avI 0,avI 0,avI 0,avI 0,avS [],avN,avS [],avB false,avN,avS [],avN,avN,avI (-1),avI (-1),avN,avN],[avI 4,avB false,avB false,avN,avN,avI 0,avI 0,avI 0,avI 0,avS [],avN,avS [],avB false,avN,avS [],.ls 10 [[avI 3,avI 0,avI 0,avI 0,avS [],avN,avS [107],avB false,.ls 9 [[avI 2,avI 0,avI 0,avI 0,avS [],avN,avS [97],avB false,avN]] false,avS [107]]] false,avN,avI (-1),avI (-1),avN,avN]] false]] false,avI 2]
def g0K :AV:= .ag [avN,avN,avI 1,avI 1]
def g1K :AV:= .ag [.ls 3 [[avI 1,.ls 1 [[avS [65]]] false,.ls 6 [[avS [107],avI 2,avI 1,avI 0,avS [],.ls 5 [] false]] false]] false,.ls 5 [] false,avI 2,avI 1]
def g2K :AV:= .ag [.ls 3 [[avI 1,.ls 1 [[avS [65]]] false,.ls 6 [[avS [107],avI 2,avI 2,avI 0,avS [],.ls 5 [] false]] false]] false,.ls 5 [] false,avI 2,avI 1]
def l1K :AV:= .ls 10 [[avI 1,avI 1,avI 0,avI 0,avS [],avI 0,avI 0,avI 0,avS [],avN],[avI 3,avI 1,avI 0,avI 0,avS [65],avI 0,avI 0,avI 0,avS [],avN],[avI 5,avI 1,avI 0,avI 0,avS [107],avI 2,avI 1,avI 0,avS [],.ls 5 [] false]] false
def l2K :AV:= .ls 10 [[avI 5,avI 1,avI 0,avI 0,avS [107],avI 2,avI 2,avI 0,avS [],.ls 5 [] false]] false
def l3K :AV:= .ls 10 [[avI 5,avI 1,avI 0,avI 0,avS [115],avI 4,avI 0,avI 0,avS [120],avN]] false
def rrK (rows:AV):AV:= .tp [.ag [.ls 1 [[avS [107]]] false,rows],avI 0]
def r1K :AV:=rrK (.ls 1 [[.ls 5 [[avI 2,avI 1,avI 0,avS [],avN]] false]] false)
def r2K :AV:=rrK (.ls 1 [[.ls 5 [[avI 2,avI 2,avI 0,avS [],avN]] false]] false)
def n1K :AV:= .tp [.ls 2 [[avI 1,.ls 2 [[.ls 5 [[avI 2,avI 1,avI 0,avS [],avN]] false,avI 1]] false]] false,avI 0]
def n2K :AV:= .tp [.ls 2 [[avI 1,.ls 2 [[.ls 5 [[avI 2,avI 1,avI 0,avS [],avN]] false,avI (-1)],[.ls 5 [[avI 2,avI 2,avI 0,avS [],avN]] false,avI 1]] false]] false,avI 0]
theorem cx_ins1 (f:FuncId)(sz:Nat):cx.ins f≠some (sz,1):=fun h=>by
 have h':insF f=some (sz,1):=h;unfold insF at h'
 (repeat' split at h')<;>cases h'
noncomputable def c1 :Cx:=addT cx (tabL [(37,[qK],.tp [.ls 1 [[avS [107]]] false,avI 0,avI 0])])
theorem k_check :runK cx 37 [qK]=some (.tp [.ls 1 [[avS [107]]] false,avI 0,avI 0]):=by kernel_rfl
theorem c1_all :CxAll c1:=cx_all.more _ (tabL_ok fun e he=>by
 obtain rfl:=List.mem_singleton.1 he;exact runK_ok cx_all k_check) cx_ins1
theorem k_r0 :runK c1 39 [g0K,qK]=some (rrK avN):=by kernel_rfl
theorem k_r1 :runK c1 39 [g1K,qK]=some (r1K):=by kernel_rfl
theorem k_r2 :runK c1 39 [g2K,qK]=some (r2K):=by kernel_rfl
theorem k_a1 :runK c1 14 [g0K,l1K]=some (.tp [g1K,avI 3,avI 0]):=by kernel_rfl
theorem k_a2 :runK c1 14 [g1K,l2K]=some (.tp [g2K,avI 1,avI 0]):=by kernel_rfl
noncomputable def c2 :Cx:=addT c1 (tabL [(39,[g0K,qK],rrK avN),(39,[g1K,qK],r1K),(39,[g2K,qK],r2K),(14,[g0K,l1K],.tp [g1K,avI 3,avI 0]),(14,[g1K,l2K],.tp [g2K,avI 1,avI 0])])
theorem c2_all :CxAll c2:=c1_all.more _ (tabL_ok fun e he=>by
 simp only[List.mem_cons,List.not_mem_nil,or_false]at he;rcases he with rfl|rfl|rfl|rfl|rfl
 ·exact runK_ok c1_all k_r0
 ·exact runK_ok c1_all k_r1
 ·exact runK_ok c1_all k_r2
 ·exact runK_ok c1_all k_a1
 ·exact runK_ok c1_all k_a2) cx_ins1
theorem k_n1 :runK c2 13 [hubK,g0K,l1K]=some (n1K):=by kernel_rfl
theorem k_n2 :runK c2 13 [hubK,g1K,l2K]=some (n2K):=by kernel_rfl
theorem k_n3 :runK c2 13 [hubK,g1K,l3K]=some (.tp [avN,avI 0]):=by kernel_rfl
theorem k_add :runK c2 11 [.ag [avN,avI 0],qK]=some (.tp [hubK,avI 1,avI 0]):=by kernel_rfl
noncomputable def c3 :Cx:=addT c2 (tabL [(13,[hubK,g0K,l1K],n1K),(13,[hubK,g1K,l2K],n2K),(13,[hubK,g1K,l3K],.tp [avN,avI 0]),(11,[.ag [avN,avI 0],qK],.tp [hubK,avI 1,avI 0])])
theorem c3_all :CxAll c3:=c2_all.more _ (tabL_ok fun e he=>by
 simp only[List.mem_cons,List.not_mem_nil,or_false]at he;rcases he with rfl|rfl|rfl|rfl
 ·exact runK_ok c2_all k_n1
 ·exact runK_ok c2_all k_n2
 ·exact runK_ok c2_all k_n3
 ·exact runK_ok c2_all k_add) cx_ins1
theorem k_alive :runK c3 4 []=some (.sc (.bool true)):=by kernel_rfl
theorem alive_ok :PureOK cx 4 [] (.sc (.bool true)):=runK_ok c3_all k_alive
end Go.Proofs.YtiefabpageilbaaGreatDoor
