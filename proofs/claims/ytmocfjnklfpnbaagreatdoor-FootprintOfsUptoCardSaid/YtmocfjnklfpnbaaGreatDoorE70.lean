/- Part of the proof. -/
import Derived.Test.YtmocfjnklfpnbaaGreatDoorP7
import Derived.Test.YtmocfjnklfpnbaaGreatDoorP22
set_option linter.all false
set_option maxRecDepth 100000
namespace Go.Proofs.YtmocfjnklfpnbaaGreatDoor
open Go Go.Ae
def vI(n:Int):AV:= .sc (.int .i64 n)
def vB(b:Bool):AV:= .sc (.bool b)
def vS(l:List UInt8):AV:= .sc (.string ⟨l.toArray⟩)
def vN :AV:= .sc (.slice none 0 0)
def q1K :AV:= .ag [.ls 21 [[vI 1,vB false,vB false,.ls 3 [[vS [],.ls 3 [[vS [97],.ls 1 [[vS [65]]] false,.ls 10 [[vS [107],vI 1,vI 2,vI 1,vI 0,vS [],vN,vS [],vB false,vN]] false],[vS [98],vN,vN]] false,.ls 7 [[vS [],.ls 1 [[vS [84]]] false,vI 1,vI 0,vI 0,vI 0,vN]] false]] false,vN,vI 0,vI 0,vI 0,vI 0,vS [],vN,vS [],vB false,vN,vS [],vN,vN,vI 0,vI 0,vN,vN],[vI 4,vB false,vB false,vN,vN,vI 0,vI 0,vI 0,vI 0,vS [],vN,vS [],vB false,vN,vS [],.ls 10 [[vI 3,vI 0,vI 0,vI 0,vS [],vN,vS [109],vB false,.ls 9 [[vI 2,vI 0,vI 0,vI 0,vS [],vN,vS [98],vB false,vN]] false,vS [109]]] false,vN,vI 0,vI 0,vN,vN]] false]
def q2K :AV:= .ag [.ls 21 [[vI 1,vB false,vB false,.ls 3 [[vS [],.ls 3 [[vS [97],.ls 1 [[vS [65]]] false,vN]] false,vN]] false,vN,vI 0,vI 0,vI 0,vI 0,vS [],vN,vS [],vB false,vN,vS [],vN,vN,vI 0,vI 0,vN,vN],[vI 7,vB false,vB false,vN,vN,vI 0,vI 0,vI 0,vI 0,vS [],vN,vS [],vB false,vN,vS [],vN,vN,vI 0,vI 0,.ls 13 [[vS [97],vS [],vS [66],vB false,vI 0,vI 0,vI 0,vI 0,vS [],vN,vS [],vB false,vN]] false,vN]] false]
def q3K :AV:= .ag [.ls 21 [[vI 1,vB false,vB false,.ls 3 [[vS [],.ls 3 [[vS [97],.ls 1 [[vS [65]]] false,.ls 10 [[vS [107],vI 1,vI 2,vI 1,vI 0,vS [],vN,vS [],vB false,vN]] false],[vS [98],vN,vN]] false,.ls 7 [[vS [],.ls 1 [[vS [84]]] false,vI 1,vI 0,vI 0,vI 0,vN]] false]] false,vN,vI 0,vI 0,vI 0,vI 0,vS [],vN,vS [],vB false,vN,vS [],vN,vN,vI 0,vI 0,vN,vN],[vI 7,vB false,vB false,vN,vN,vI 0,vI 0,vI 0,vI 0,vS [],vN,vS [],vB false,vN,vS [],vN,vN,vI 0,vI 0,.ls 13 [[vS [97],vS [],vS [66],vB false,vI 0,vI 0,vI 0,vI 0,vS [],vN,vS [],vB false,vN]] false,vN],[vI 8,vB false,vB false,vN,vN,vI 0,vI 0,vI 0,vI 0,vS [],vN,vS [],vB false,vN,vS [],vN,vN,vI 0,vI 0,vN,.ls 1 [[vS [122]]] false]] false]
def o1K :AV:= .tp [.ls 8 [[vI 1,vS [],vS [],vI 0,vI 0,vI 0,vS [],vN],[vI 3,vS [109],vS [],vI 0,vI 0,vI 0,vS [],vN],[vI 4,vS [65],vS [107],vI 2,vI 1,vI 0,vS [],vN],[vI 5,vS [84],vS [],vI 0,vI 0,vI 0,vS [],vN],[vI 6,vS [109],vS [],vI 0,vI 0,vI 0,vS [],vN]] false,vI 0,vI 0]
def o2K :AV:= .tp [.ls 8 [[vI 1,vS [],vS [],vI 0,vI 0,vI 0,vS [],vN],[vI 2,vS [65],vS [],vI 0,vI 0,vI 0,vS [],vN],[vI 2,vS [66],vS [],vI 0,vI 0,vI 0,vS [],vN]] false,vI 0,vI 0]
def o3K :AV:= .tp [vN,vI 2,vI 6]
noncomputable def Vh :Cx:={cx with ins:=λf=>if f=18 then none else D6 f}
def okK :AV:= .tp [vI 0,vI 0]
def af5 :runK Vh 40 [q1K]=some okK:=by kernel_rfl
def af6 :runK Vh 40 [q2K]=some okK:=by kernel_rfl
def af7 :runK Vh 40 [q3K]=some okK:=by kernel_rfl
noncomputable def cL1 :List (FuncId × LA × AV):=[(40,[q1K],okK),(40,[q2K],okK),(40,[q3K],okK)]
noncomputable def cV1 :Cx:=PZ Vh (I0 cL1)
def af8 :runK cV1 7 [q1K]=some o1K:=by kernel_rfl
def af9 :runK cV1 7 [q2K]=some o2K:=by kernel_rfl
def aga :runK cV1 7 [q3K]=some o3K:=by kernel_rfl
noncomputable def cL2 :List (FuncId × LA × AV):=[(7,[q1K],o1K),(7,[q2K],o2K),(7,[q3K],o3K)]
noncomputable def cV2 :Cx:=PZ cV1 (I0 cL2)
def Vi :runK cV2 6 []=some (vB true):=by kernel_rfl
end Go.Proofs.YtmocfjnklfpnbaaGreatDoor
