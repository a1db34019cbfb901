/- Part of the proof. -/
import Derived.Shelf.LaysM
import Derived.Shelf.Strconv.Itoa3
import Derived.Ground.SlsfProg
import Derived.Shelf.SlSortCmp.Whole1
import Derived.Shelf.SlSortCmp.WholeK
import Derived.Shelf.SlSortCmp.NoneTotal
import Derived.Test.YtaibpnppeiigdaaGreatDoorProg
import Derived.Test.YtaibpnppeiigdaaGreatDoorP6
import Derived.Shelf.SlSortCmp.InsertionK
import Derived.Shelf.SlSortCmp.Kit1
import Derived.Shelf.SlIterI.Sorted
import Derived.Shelf.SortM.Plain
import Derived.Shelf.SortM.SortNone
import Derived.Ground.GgzProg
import Derived.Ground.SlgmProg
import Derived.RangeFuncBox
import Derived.WalkKit
import Derived.OwnWalkIn
import Derived.TacticsInMore
import Derived.LoopNIn
import Derived.LoopIn
import Derived.Calls
import Derived.StepT
import GoSem.Step
set_option linter.all false
def Go.eX {α:Type}{a:Option α}{b c:α}(h:a=some b)(e:b=c:=by kernel_rfl):a=some c:=h.trans (congrArg some e)
namespace Go.Proofs
open Go.Shelf Go.Proofs.Tryz
def Tryz.GJ :Go.Shelf.Ren:=⟨λ|171=>242|243=>286|246=>321|283=>337|284=>338|285=>339|286=>340|129=>206|317=>344|318=>345|319=>346|320=>347|337=>348|338=>349|n=>n,λ|3=>3|9=>9|2=>2|4=>4|171=>319|0=>0|53=>226|37=>321|5=>5|173=>322|212=>326|51=>224|20=>20|213=>327|46=>160|232=>328|233=>329|n=>n,λ|17=>1|18=>2|19=>3|n=>n⟩
def Tryz.Wp :Go.Proofs.LaysM.n171 Tryz.prog Tryz.GJ:={
 mixed:=by kernel_rfl
 f129:=Go.eX Tryz.func206
 f171:=Go.eX Tryz.func242
 f243:=Go.eX Tryz.func286
 f246:=Go.eX Tryz.func321
 f283:=Go.eX Tryz.func337
 f284:=Go.eX Tryz.func338
 f285:=Go.eX Tryz.func339
 f286:=Go.eX Tryz.func340
 f317:=Go.eX Tryz.func344
 f318:=Go.eX Tryz.func345
 f319:=Go.eX Tryz.func346
 f320:=Go.eX Tryz.func347
 f337:=Go.eX Tryz.func348
 f338:=Go.eX Tryz.func349
 t0:=Tryz.underlying0
 a0:=Tryz.isAgg0
 z0:=Tryz.sizeOf0
 v0:=Tryz.zeroValue0
 t2:=Tryz.underlying2
 a2:=Tryz.isAgg2
 z2:=Tryz.sizeOf2
 v2:=Tryz.zeroValue2
 t3:=Tryz.underlying3
 a3:=Tryz.isAgg3
 z3:=Tryz.sizeOf3
 v3:=Tryz.zeroValue3
 t4:=Tryz.underlying4
 a4:=Tryz.isAgg4
 z4:=Tryz.sizeOf4
 v4:=Tryz.zeroValue4
 t5:=Tryz.underlying5
 a5:=Tryz.isAgg5
 z5:=Tryz.sizeOf5
 v5:=Tryz.zeroValue5
 t9:=Tryz.underlying9
 a9:=Tryz.isAgg9
 z9:=Tryz.sizeOf9
 v9:=Tryz.zeroValue9
 t20:=Tryz.underlying20
 a20:=Tryz.isAgg20
 z20:=Tryz.sizeOf20
 v20:=Tryz.zeroValue20
 t37:=Tryz.underlying321
 a37:=Tryz.isAgg321
 z37:=Tryz.sizeOf321
 v37:=Tryz.zeroValue321
 t46:=Tryz.underlying160
 a46:=Tryz.isAgg160
 z46:=Tryz.sizeOf160
 v46:=Tryz.zeroValue160
 t51:=Tryz.underlying224
 a51:=Tryz.isAgg224
 z51:=Tryz.sizeOf224
 v51:=Tryz.zeroValue224
 t53:=Tryz.underlying226
 a53:=Tryz.isAgg226
 z53:=Tryz.sizeOf226
 v53:=Tryz.zeroValue226
 t171:=Tryz.underlying319
 a171:=Tryz.isAgg319
 z171:=Tryz.sizeOf319
 v171:=Tryz.zeroValue319
 t173:=Tryz.underlying322
 a173:=Tryz.isAgg322
 z173:=Tryz.sizeOf322
 v173:=Tryz.zeroValue322
 t212:=Tryz.underlying326
 a212:=Tryz.isAgg326
 z212:=Tryz.sizeOf326
 v212:=Tryz.zeroValue326
 t213:=Tryz.underlying327
 a213:=Tryz.isAgg327
 z213:=Tryz.sizeOf327
 t232:=Tryz.underlying328
 a232:=Tryz.isAgg328
 z232:=Tryz.sizeOf328
 v232:=Tryz.zeroValue328
 t233:=Tryz.underlying329
 a233:=Tryz.isAgg329
 z233:=Tryz.sizeOf329
 v233:=Tryz.zeroValue329
 g17:=by kernel_rfl
 g18:=by kernel_rfl
 g19:=by kernel_rfl
 i0:=by kernel_rfl
 i2:=by kernel_rfl
 i3:=by kernel_rfl
 i4:=by kernel_rfl
 i5:=by kernel_rfl
 i9:=by kernel_rfl
 i20:=by kernel_rfl
 i37:=by kernel_rfl
 i46:=by kernel_rfl
 i51:=by kernel_rfl
 i53:=by kernel_rfl
 i171:=by kernel_rfl
 i173:=by kernel_rfl
 i212:=by kernel_rfl
 i232:=by kernel_rfl
 i233:=by kernel_rfl
 m17:=by kernel_rfl
 m18:=by kernel_rfl
 m19:=by kernel_rfl}
def Tryz.y_ :Go.Shelf.Ren:=⟨λ|6=>64|15=>124|14=>123|28=>205|29=>206|20=>197|21=>198|22=>199|23=>200|24=>201|25=>202|26=>203|27=>204|46=>254|47=>255|48=>256|49=>257|50=>258|57=>304|n=>n,λ|22=>55|24=>27|25=>107|3=>3|39=>160|0=>0|53=>224|55=>226|4=>4|46=>218|45=>217|50=>185|5=>5|9=>9|66=>258|70=>262|76=>294|77=>295|n=>n,λ|n=>n⟩
def Tryz.GK :Go.Proofs.SlLaysF.n6 Tryz.prog Tryz.y_:={
 mixed:=by kernel_rfl
 f6:=⟨Tryz.f64.name,by decide,Go.eX Tryz.func64⟩
 f14:=⟨Tryz.f123.name,by decide,Go.eX Tryz.func123⟩
 f15:=Go.eX Tryz.func124
 f20:=⟨Tryz.f197.name,by decide,Go.eX Tryz.func197⟩
 f21:=⟨Tryz.f198.name,by decide,Go.eX Tryz.func198⟩
 f22:=⟨Tryz.f199.name,by decide,Go.eX Tryz.func199⟩
 f23:=⟨Tryz.f200.name,by decide,Go.eX Tryz.func200⟩
 f24:=⟨Tryz.f201.name,by decide,Go.eX Tryz.func201⟩
 f25:=⟨Tryz.f202.name,by decide,Go.eX Tryz.func202⟩
 f26:=⟨Tryz.f203.name,by decide,Go.eX Tryz.func203⟩
 f27:=⟨Tryz.f204.name,by decide,Go.eX Tryz.func204⟩
 f28:=Go.eX Tryz.func205
 f29:=Go.eX Tryz.func206
 f46:=⟨Tryz.f254.name,by decide,Go.eX Tryz.func254⟩
 f47:=Go.eX Tryz.func255
 f48:=Go.eX Tryz.func256
 f49:=⟨Tryz.f257.name,by decide,Go.eX Tryz.func257⟩
 f50:=⟨Tryz.f258.name,by decide,Go.eX Tryz.func258⟩
 f57:=⟨Tryz.f304.name,by decide,Go.eX Tryz.func304⟩
 t0:=Tryz.underlying0
 a0:=Tryz.isAgg0
 z0:=Tryz.sizeOf0
 v0:=Tryz.zeroValue0
 t3:=Tryz.underlying3
 a3:=Tryz.isAgg3
 z3:=Tryz.sizeOf3
 v3:=Tryz.zeroValue3
 t4:=Tryz.underlying4
 a4:=Tryz.isAgg4
 z4:=Tryz.sizeOf4
 v4:=Tryz.zeroValue4
 t5:=Tryz.underlying5
 a5:=Tryz.isAgg5
 z5:=Tryz.sizeOf5
 v5:=Tryz.zeroValue5
 t9:=Tryz.underlying9
 a9:=Tryz.isAgg9
 z9:=Tryz.sizeOf9
 v9:=Tryz.zeroValue9
 t22:=Tryz.underlying55
 a22:=Tryz.isAgg55
 z22:=Tryz.sizeOf55
 v22:=Tryz.zeroValue55
 a24:=Tryz.isAgg27
 z24:=Tryz.sizeOf27
 t25:=Tryz.underlying107
 a25:=Tryz.isAgg107
 z25:=Tryz.sizeOf107
 v25:=Tryz.zeroValue107
 t39:=Tryz.underlying160
 a39:=Tryz.isAgg160
 z39:=Tryz.sizeOf160
 v39:=Tryz.zeroValue160
 t45:=Tryz.underlying217
 a45:=Tryz.isAgg217
 z45:=Tryz.sizeOf217
 v45:=Tryz.zeroValue217
 t46:=Tryz.underlying218
 a46:=Tryz.isAgg218
 z46:=Tryz.sizeOf218
 v46:=Tryz.zeroValue218
 t50:=Tryz.underlying185
 a50:=Tryz.isAgg185
 z50:=Tryz.sizeOf185
 v50:=Tryz.zeroValue185
 t53:=Tryz.underlying224
 a53:=Tryz.isAgg224
 z53:=Tryz.sizeOf224
 v53:=Tryz.zeroValue224
 t55:=Tryz.underlying226
 a55:=Tryz.isAgg226
 z55:=Tryz.sizeOf226
 v55:=Tryz.zeroValue226
 t66:=Tryz.underlying258
 a66:=Tryz.isAgg258
 z66:=Tryz.sizeOf258
 v66:=Tryz.zeroValue258
 t70:=Tryz.underlying262
 a70:=Tryz.isAgg262
 z70:=Tryz.sizeOf262
 v70:=Tryz.zeroValue262
 t76:=Tryz.underlying294
 a76:=Tryz.isAgg294
 z76:=Tryz.sizeOf294
 v76:=Tryz.zeroValue294
 t77:=Tryz.underlying295
 a77:=Tryz.isAgg295
 z77:=Tryz.sizeOf295
 v77:=Tryz.zeroValue295}
def Tryz.xR :Go.Shelf.Ren:=⟨λ|6=>64|15=>124|14=>123|28=>205|29=>206|20=>197|21=>198|22=>199|23=>200|24=>201|25=>202|26=>203|27=>204|46=>254|47=>255|48=>256|49=>257|50=>258|57=>304|n=>n,λ|22=>55|24=>27|25=>107|3=>3|39=>160|0=>0|53=>224|55=>226|4=>4|46=>218|45=>217|50=>185|5=>5|9=>9|66=>258|70=>262|76=>294|77=>295|n=>n,λ|n=>n⟩
def Tryz.DJ :Go.Proofs.SlLaysF0.n6 Tryz.prog Tryz.xR:={
 mixed:=by kernel_rfl
 f6:=⟨Tryz.f64.name,by decide,Go.eX Tryz.func64⟩
 f14:=⟨Tryz.f123.name,by decide,Go.eX Tryz.func123⟩
 f15:=Go.eX Tryz.func124
 f20:=⟨Tryz.f197.name,by decide,Go.eX Tryz.func197⟩
 f21:=⟨Tryz.f198.name,by decide,Go.eX Tryz.func198⟩
 f22:=⟨Tryz.f199.name,by decide,Go.eX Tryz.func199⟩
 f23:=⟨Tryz.f200.name,by decide,Go.eX Tryz.func200⟩
 f24:=⟨Tryz.f201.name,by decide,Go.eX Tryz.func201⟩
 f25:=⟨Tryz.f202.name,by decide,Go.eX Tryz.func202⟩
 f26:=⟨Tryz.f203.name,by decide,Go.eX Tryz.func203⟩
 f27:=⟨Tryz.f204.name,by decide,Go.eX Tryz.func204⟩
 f28:=Go.eX Tryz.func205
 f29:=Go.eX Tryz.func206
 f46:=⟨Tryz.f254.name,by decide,Go.eX Tryz.func254⟩
 f47:=Go.eX Tryz.func255
 f48:=Go.eX Tryz.func256
 f49:=⟨Tryz.f257.name,by decide,Go.eX Tryz.func257⟩
 f50:=⟨Tryz.f258.name,by decide,Go.eX Tryz.func258⟩
 f57:=⟨Tryz.f304.name,by decide,Go.eX Tryz.func304⟩
 t0:=Tryz.underlying0
 a0:=Tryz.isAgg0
 z0:=Tryz.sizeOf0
 v0:=Tryz.zeroValue0
 t3:=Tryz.underlying3
 a3:=Tryz.isAgg3
 z3:=Tryz.sizeOf3
 v3:=Tryz.zeroValue3
 t4:=Tryz.underlying4
 a4:=Tryz.isAgg4
 z4:=Tryz.sizeOf4
 v4:=Tryz.zeroValue4
 t5:=Tryz.underlying5
 a5:=Tryz.isAgg5
 z5:=Tryz.sizeOf5
 v5:=Tryz.zeroValue5
 t9:=Tryz.underlying9
 a9:=Tryz.isAgg9
 z9:=Tryz.sizeOf9
 v9:=Tryz.zeroValue9
 t22:=Tryz.underlying55
 a22:=Tryz.isAgg55
 z22:=Tryz.sizeOf55
 v22:=Tryz.zeroValue55
 t25:=Tryz.underlying107
 a25:=Tryz.isAgg107
 z25:=Tryz.sizeOf107
 v25:=Tryz.zeroValue107
 t39:=Tryz.underlying160
 a39:=Tryz.isAgg160
 z39:=Tryz.sizeOf160
 v39:=Tryz.zeroValue160
 t45:=Tryz.underlying217
 a45:=Tryz.isAgg217
 z45:=Tryz.sizeOf217
 v45:=Tryz.zeroValue217
 t46:=Tryz.underlying218
 a46:=Tryz.isAgg218
 z46:=Tryz.sizeOf218
 v46:=Tryz.zeroValue218
 t50:=Tryz.underlying185
 a50:=Tryz.isAgg185
 z50:=Tryz.sizeOf185
 v50:=Tryz.zeroValue185
 t53:=Tryz.underlying224
 a53:=Tryz.isAgg224
 z53:=Tryz.sizeOf224
 v53:=Tryz.zeroValue224
 t55:=Tryz.underlying226
 a55:=Tryz.isAgg226
 z55:=Tryz.sizeOf226
 v55:=Tryz.zeroValue226
 t66:=Tryz.underlying258
 a66:=Tryz.isAgg258
 z66:=Tryz.sizeOf258
 v66:=Tryz.zeroValue258
 t70:=Tryz.underlying262
 a70:=Tryz.isAgg262
 z70:=Tryz.sizeOf262
 v70:=Tryz.zeroValue262
 t76:=Tryz.underlying294
 a76:=Tryz.isAgg294
 z76:=Tryz.sizeOf294
 v76:=Tryz.zeroValue294
 t77:=Tryz.underlying295
 a77:=Tryz.isAgg295
 z77:=Tryz.sizeOf295
 v77:=Tryz.zeroValue295}
def Tryz.wu :Go.Shelf.Ren:=⟨λ|6=>184|15=>124|14=>244|28=>205|29=>206|20=>287|21=>288|22=>289|23=>290|24=>291|25=>292|26=>293|27=>294|46=>322|47=>255|48=>256|49=>323|50=>324|57=>341|n=>n,λ|22=>40|24=>65|25=>209|3=>3|39=>160|0=>0|53=>224|55=>226|4=>4|46=>218|45=>217|50=>185|5=>5|9=>9|66=>258|70=>262|76=>294|77=>295|n=>n,λ|n=>n⟩
def Tryz.uB :Go.Proofs.SlLaysF0.n6 Tryz.prog Tryz.wu:={
 mixed:=by kernel_rfl
 f6:=⟨Tryz.f184.name,by decide,Go.eX Tryz.func184⟩
 f14:=⟨Tryz.f244.name,by decide,Go.eX Tryz.func244⟩
 f15:=Go.eX Tryz.func124
 f20:=⟨Tryz.f287.name,by decide,Go.eX Tryz.func287⟩
 f21:=⟨Tryz.f288.name,by decide,Go.eX Tryz.func288⟩
 f22:=⟨Tryz.f289.name,by decide,Go.eX Tryz.func289⟩
 f23:=⟨Tryz.f290.name,by decide,Go.eX Tryz.func290⟩
 f24:=⟨Tryz.f291.name,by decide,Go.eX Tryz.func291⟩
 f25:=⟨Tryz.f292.name,by decide,Go.eX Tryz.func292⟩
 f26:=⟨Tryz.f293.name,by decide,Go.eX Tryz.func293⟩
 f27:=⟨Tryz.f294.name,by decide,Go.eX Tryz.func294⟩
 f28:=Go.eX Tryz.func205
 f29:=Go.eX Tryz.func206
 f46:=⟨Tryz.f322.name,by decide,Go.eX Tryz.func322⟩
 f47:=Go.eX Tryz.func255
 f48:=Go.eX Tryz.func256
 f49:=⟨Tryz.f323.name,by decide,Go.eX Tryz.func323⟩
 f50:=⟨Tryz.f324.name,by decide,Go.eX Tryz.func324⟩
 f57:=⟨Tryz.f341.name,by decide,Go.eX Tryz.func341⟩
 t0:=Tryz.underlying0
 a0:=Tryz.isAgg0
 z0:=Tryz.sizeOf0
 v0:=Tryz.zeroValue0
 t3:=Tryz.underlying3
 a3:=Tryz.isAgg3
 z3:=Tryz.sizeOf3
 v3:=Tryz.zeroValue3
 t4:=Tryz.underlying4
 a4:=Tryz.isAgg4
 z4:=Tryz.sizeOf4
 v4:=Tryz.zeroValue4
 t5:=Tryz.underlying5
 a5:=Tryz.isAgg5
 z5:=Tryz.sizeOf5
 v5:=Tryz.zeroValue5
 t9:=Tryz.underlying9
 a9:=Tryz.isAgg9
 z9:=Tryz.sizeOf9
 v9:=Tryz.zeroValue9
 t22:=Tryz.underlying40
 a22:=Tryz.isAgg40
 z22:=Tryz.sizeOf40
 v22:=Tryz.zeroValue40
 t25:=Tryz.underlying209
 a25:=Tryz.isAgg209
 z25:=Tryz.sizeOf209
 v25:=Tryz.zeroValue209
 t39:=Tryz.underlying160
 a39:=Tryz.isAgg160
 z39:=Tryz.sizeOf160
 v39:=Tryz.zeroValue160
 t45:=Tryz.underlying217
 a45:=Tryz.isAgg217
 z45:=Tryz.sizeOf217
 v45:=Tryz.zeroValue217
 t46:=Tryz.underlying218
 a46:=Tryz.isAgg218
 z46:=Tryz.sizeOf218
 v46:=Tryz.zeroValue218
 t50:=Tryz.underlying185
 a50:=Tryz.isAgg185
 z50:=Tryz.sizeOf185
 v50:=Tryz.zeroValue185
 t53:=Tryz.underlying224
 a53:=Tryz.isAgg224
 z53:=Tryz.sizeOf224
 v53:=Tryz.zeroValue224
 t55:=Tryz.underlying226
 a55:=Tryz.isAgg226
 z55:=Tryz.sizeOf226
 v55:=Tryz.zeroValue226
 t66:=Tryz.underlying258
 a66:=Tryz.isAgg258
 z66:=Tryz.sizeOf258
 v66:=Tryz.zeroValue258
 t70:=Tryz.underlying262
 a70:=Tryz.isAgg262
 z70:=Tryz.sizeOf262
 v70:=Tryz.zeroValue262
 t76:=Tryz.underlying294
 a76:=Tryz.isAgg294
 z76:=Tryz.sizeOf294
 v76:=Tryz.zeroValue294
 t77:=Tryz.underlying295
 a77:=Tryz.isAgg295
 z77:=Tryz.sizeOf295
 v77:=Tryz.zeroValue295}
end Go.Proofs
namespace Go.Ae
open Go Go.Proofs Go.Shelf Go.RowKit Go.Lib Go.Sort
def JQ {α:Type}[Inhabited α]{us:α->List Value}{s:Nat}(hu:∀i,(us i).length=s)(hs:0<s):∀(l:List α) (k:Nat) (u:Value),(l.flatMap us)[k]?=some u->k<l.length*s/\(us l[k/s]!)[k % s]! =u
 | [],k,u,h=>by simp at h
 |
  i::l,k,u,h=>by
  rw[Yu]at h;by_cases hk:k<s
  .rw[Zd (by rw[hu];exact hk)]at h;refine⟨by rw[Yw,Xw];omega,?_⟩;rw[Nat.div_eq_of_lt hk,Nat.mod_eq_of_lt hk];simp[h]
  .rw[Zf (by rw[hu];omega),hu]at h;obtain⟨h1,h2⟩:=JQ hu hs l (k-s) u h;refine⟨by rw[Yw,Xw];omega,?_⟩;have e1:k/s=(k-s)/s+1:=by rw[<-Nat.sub_add_cancel (show s<=k by omega),Nat.add_div_right _ hs];simp
   have e2:k % s=(k-s) % s:=by rw[Nat.mod_eq_sub_mod (by omega)]
   rw[e1,e2];simpa using h2
def Rz {a b:World}(h1:a.heap=b.heap)(h2:a.tape=b.tape)(h3:a.drawn=b.drawn)(h4:a.os=b.os)(h5:a.output=b.output):a=b:=by
 cases a;cases b;simp_all
def RA {W W':World}(h:Step W ef W' ef):W'=grow (W.drewN (W'.drawn-W.drawn)) (W'.heap.extract W.heap.size W'.heap.size):=by
 refine Rz ?_ h.tape ?_ h.os h.output
 .show W'.heap=W.heap++_;apply Array.ext_getElem?;intro k;by_cases hk:k<W.heap.size
  .rw[Xx hk];exact h.keep k hk λq=>q
  .rw[Array.getElem?_append_right (by omega)];by_cases SI:k<W'.heap.size
   .rw[Array.getElem?_extract];have:=h.size;rw[dd (by omega)]
    congr 1;omega
   .rw[Array.getElem?_eq_none (by omega),Array.getElem?_eq_none (by simp;omega)]
 .have:=h.drew;show W'.drawn=W.drawn+(W'.drawn-W.drawn);omega
def abg {α:Type}[Inhabited α](P:Program)(g:Nat)(kk:Nat)(enc:α->List Value)(cf:α->α->Int)(kg off size:Nat)(w:World):Prop:=
 ∀(m:Nat) (os:Array Obj) (dk:Array α),dk.size=size->∀x y:α,
  Calls P g #[wS kk (enc x),wS kk (enc y)] (sortWorldK enc (oA kk) w kg off m dk os) λe w'=>e= .returned (.int .i64 (cf x y))/\∃q os',w'=grow ((sortWorldK enc (oA kk) w kg off m dk os).drewN q) os'
def EV {C:Cx}{f:FuncId}{kk:Nat}(wz:∃fn,C.P.funcs[f]?=some fn/\fn.name≠ "runtime.NumGoroutine" /\fn.body.isSome=true)
 (JR:∀(p:Option Addr) (cap:Nat) (fv:Value) (w:World),Calls C.P f #[.slice p 0 cap,fv] w λe w'=>e= .returned (.tuple #[])/\w'=w)
 (JS:∀(m:Nat) (enc:Fin (m+1)->List Value) (_:∀x,(enc x).length=oA kk) (_:∀x,∀v∈enc x,v.oneCell'=true) (cf:Fin (m+1)->Fin (m+1)->Int) (_:Sort.SWO (ltOf cf)) (g:Nat) (kg off cap:Nat) (d:Array (Fin (m+1))) (w:World)
  (_:∀args w,(callFunc g args).run C.P w= .ok (.enter g args) w) (_:abg C.P g kk enc cf kg off d.size w) (_:HoldsK enc (oA kk) w kg off d) (_:kg<w.heap.size) (_:d.size<4611686018427387904),
  Calls C.P f #[.slice (some ⟨kg,off,none⟩) d.size cap,.func (.func g) #[] #[]] w λe w'=>e= .returned (.tuple #[])/\∃n os,w'=sortWorldK enc (oA kk) w kg off n (Sort.pdq (ltOf cf) d 0 d.size (Lib.bitLen d.size) true true) os):zN C f kk:=by
 have gC:0<oA kk:=by unfold oA;split<;>omega
 refine⟨wz,λw base cap g us hus=>?_,λw m cap kg off dA t fz us cf g bs MR hm lr z6 hbd cU lB fo BK ⟨fn,g1,g2,g3⟩ yx=>?_⟩
 .exact(JR base cap _ w).mono λe w' ⟨he,hw⟩=>⟨he,hw▸Step.refl _ _⟩
 obtain rfl:bs= #[]:=Array.eq_empty_of_size_eq_zero MR;have eg:∀args w,(callFunc g args).run C.P w= .ok (.enter g args) w:=λargs w=>by
  have hb:fn.body.isNone=false:=by cases hq:fn.body<;>simp_all
  simp only[callFunc,Sem.run_bind,run_program,Result.andThen_ok,g1];simp[g2,hb]
 have YS:(Array.ofFn λi:Fin (m+1)=>i).size=m+1:=by simp
 have akh:=z6.eq;have hH:HoldsK us (oA kk) w kg off (Array.ofFn λi:Fin (m+1)=>i):=by
  intro j hj;rw[size_flatK,YS]at hj;have hi:j/oA kk<m+1:=Nat.div_lt_of_lt_mul (by rw[Nat.mul_comm];exact hj);have hr:j % oA kk<oA kk:=Nat.mod_lt _ gC;constructor
  .rw[get_flatK us (oA kk) _ j (by rw[YS];exact hj)];have e:(Array.ofFn λi:Fin (m+1)=>i)[j/oA kk]! =⟨j/oA kk,hi⟩:=by simp[hi]
   rw[e];have hlr:j % oA kk< (us ⟨j/oA kk,hi⟩).length:=by rw[cU];exact hr
   have:=fo ⟨j/oA kk,hi⟩ (j % oA kk) _ (Zb hlr);unfold World.cell?;simp only[lr];have e2:off+j/oA kk*oA kk+j % oA kk=off+j:=by have:=Nat.div_add_mod j (oA kk);rw[Nat.mul_comm]at this;omega
   rw[e2]at this;simpa[hlr]using this
  .unfold World.frozen?;simp[lr,akh]
 have qj:∀(q:Nat) (dk:Array (Fin (m+1))) (os:Array Obj),xS kg w (sortWorldK us (oA kk) w kg off q dk os):=λq dk os=>by
  refine⟨rfl,rfl,rfl,?_,λb hb eW=>?_⟩
  .unfold sortWorldK;rw[Sort.size_grow,size_putRowK];exact Nat.le_add_right _ _
  .show((Sort.mapBlock (Sort.ahead w q) kg _).heap++os)[b]?=_;have MR:b< (Sort.mapBlock (Sort.ahead w q) kg (Sort.putCells id off (flatK us (oA kk) dk))).heap.size:=by simpa[Sort.mapBlock,Sort.ahead]using hb
   rw[Xx MR];simp[Sort.mapBlock,Sort.ahead,Array.getElem?_modify,Ne.symm eW]
 have pS:abg C.P g kk us (λi j=>cf i.1 j.1) kg off (Array.ofFn λi:Fin (m+1)=>i).size w:=λq os dk _ x y=>
  (yx _ x y (qj q dk os)).mono λe W' ⟨he,dD⟩=>⟨he,_,_,RA dD⟩
 have:=JS m us cU lB (λi j=>cf i.1 j.1) BK g kg off cap _ w eg pS hH (fH lr) (by rw[YS];exact hm);rw[YS]at this;refine this.mono ?_;rintro e w' ⟨rfl,n,os,rfl⟩;have Oi:=ph BK;have hD:oz m cf=(Sort.pdq (ltOf λi j:Fin (m+1)=>cf i.1 j.1) (Array.ofFn λi:Fin (m+1)=>i) 0 (m+1) (Lib.bitLen (m+1)) true true).toList:=rfl;have hDs:(Sort.pdq (ltOf λi j:Fin (m+1)=>cf i.1 j.1) (Array.ofFn λi:Fin (m+1)=>i) 0 (m+1) (Lib.bitLen (m+1)) true true).size=m+1:=by
  have:=Oi.length_eq;rw[hD]at this;simpa using this
 refine⟨rfl,Sort.putCells id off (flatK us (oA kk) (Sort.pdq (ltOf λi j:Fin (m+1)=>cf i.1 j.1) (Array.ofFn λi:Fin (m+1)=>i) 0 (m+1) (Lib.bitLen (m+1)) true true)) dA,?_,by simp[Sort.putCells],λk hk=>?_,λk u hu=>?_,qj _ _ _,?_⟩
 .show((Sort.mapBlock (Sort.ahead w n) kg _).heap++os)[kg]?=_;have MR:kg< (Sort.mapBlock (Sort.ahead w n) kg (Sort.putCells id off (flatK us (oA kk) (Sort.pdq (ltOf λi j:Fin (m+1)=>cf i.1 j.1) (Array.ofFn λi:Fin (m+1)=>i) 0 (m+1) (Lib.bitLen (m+1)) true true)))).heap.size:=by simpa[Sort.mapBlock,Sort.ahead]using fH lr
  rw[Xx MR];simp[Sort.mapBlock,Sort.ahead,Array.getElem?_modify,lr,Sort.onCells]
 .simp only[Sort.putCells,Array.getElem?_mapIdx,size_flatK,hDs];cases hq:dA[k]? with
  |none=>rfl
  |some v=>simp only[Xq];rw[db (by omega)]
 .obtain⟨h1,h2⟩:=JQ cU gC _ k u hu;rw[Oi.length_eq,List.length_ofFn]at h1;have hk:off+k<dA.size:=by omega
  simp only[Sort.putCells,Array.getElem?_mapIdx,Xv hk,Xq,size_flatK,hDs];rw[dd (by omega),Nat.add_sub_cancel_left,get_flatK us (oA kk) _ k (by rw[hDs];exact h1)];rw[hD]at h2;have dY:k/oA kk< (Sort.pdq (ltOf λi j:Fin (m+1)=>cf i.1 j.1) (Array.ofFn λi:Fin (m+1)=>i) 0 (m+1) (Lib.bitLen (m+1)) true true).size:=by
   rw[hDs];exact Nat.div_lt_of_lt_mul (by rw[Nat.mul_comm];exact h1)
  rw[getElem!_pos (Sort.pdq (ltOf λi j:Fin (m+1)=>cf i.1 j.1) (Array.ofFn λi:Fin (m+1)=>i) 0 (m+1) (Lib.bitLen (m+1)) true true).toList (k/oA kk) (by simpa using dY)]at h2;rw[getElem!_pos (Sort.pdq (ltOf λi j:Fin (m+1)=>cf i.1 j.1) (Array.ofFn λi:Fin (m+1)=>i) 0 (m+1) (Lib.bitLen (m+1)) true true) (k/oA kk) dY];rw[Array.getElem_toList]at h2;exact congrArg some h2
 .show w.drawn<=w.drawn+n;omega
def Wq {C:Cx}{f:FuncId}{sz:Nat}(gC:0<sz)(wz:∃fn,C.P.funcs[f]?=some fn/\fn.name≠ "runtime.NumGoroutine" /\fn.body.isSome=true)
 (JR:∀(p:Option Addr) (cap:Nat) (fv:Value) (w:World),Calls C.P f #[.slice p 0 cap,fv] w λe w'=>e= .returned (.tuple #[])/\w'=w)
 (JS:∀(m:Nat) (enc:Fin (m+1)->List Value) (_:∀x,(enc x).length=sz) (_:∀x,∀v∈enc x,v.oneCell'=true) (cf:Fin (m+1)->Fin (m+1)->Int) (_:Sort.SWO (ltOf cf)) (g:Nat) (kg off cap:Nat) (d:Array (Fin (m+1))) (w:World)
  (_:∀args w,(callFunc g args).run C.P w= .ok (.enter g args) w) (_:CmpLays C.P g #[] enc sz cf kg off d.size w) (_:HoldsK enc sz w kg off d) (_:kg<w.heap.size) (_:d.size<4611686018427387904),
  Calls C.P f #[.slice (some ⟨kg,off,none⟩) d.size cap,.func (.func g) #[] #[]] w λe w'=>e= .returned (.tuple #[])/\∃n os,w'=sortWorldK enc sz w kg off n (Sort.pdq (ltOf cf) d 0 d.size (Lib.bitLen d.size) true true) os):zN C f sz:=by
 have e0:oA sz=sz:=by unfold oA;rw[db (by omega)]
 have e1:∀vs:List Value,wS sz vs= .agg vs.toArray:=λvs=>by unfold wS;rw[db (by omega)]
 refine EV wz JR λm enc h1 h2 cf h3 g kg off cap d w h4 h5 h6 h7 h8=>?_
 unfold abg at h5;rw[e0]at h1 h6 h5|-;simp only[e1]at h5;exact JS m enc h1 h2 cf h3 g kg off cap d w h4 (λq os dk hs x y=>h5 q os dk hs x y) h6 h7 h8
def RB {α:Type}[Inhabited α](us:α->List Value)(enc:α->Value)(he:∀i,us i=[enc i])(w:World)(kg off q:Nat)(dk:Array α)(os:Array Obj):sortWorldK us 1 w kg off q dk os=sortWorld enc w kg off q dk os:=by
 have e:Sort.putCells id off (flatK us 1 dk)=Sort.putCells enc off dk:=by
  funext c
  apply Array.ext_getElem?;intro k;simp only[Sort.putCells,Array.getElem?_mapIdx,size_flatK,Nat.mul_one];cases c[k]? with
  |none=>rfl
  |
   some v=>
   simp only[Xq];by_cases h:off<=k/\k<off+dk.size
   .rw[dd h,dd h,get_flatK us 1 dk (k-off) (by omega)];simp[he,Nat.mod_one]
   .rw[db h,db h]
 unfold sortWorldK sortWorld;show grow (Sort.mapBlock _ kg (Sort.putCells id off (flatK us 1 dk))) os=grow (Sort.mapBlock _ kg (Sort.putCells enc off dk)) os;rw[e]
def RD {C:Cx}{f:FuncId}(wz:∃fn,C.P.funcs[f]?=some fn/\fn.name≠ "runtime.NumGoroutine" /\fn.body.isSome=true)
 (JR:∀(p:Option Addr) (cap:Nat) (fv:Value) (w:World),Calls C.P f #[.slice p 0 cap,fv] w λe w'=>e= .returned (.tuple #[])/\w'=w)
 (JS:∀(m:Nat) (enc:Fin (m+1)->Value) (_:OneCell enc) (cf:Fin (m+1)->Fin (m+1)->Int) (_:Sort.SWO (ltOf cf)) (g:Nat) (kg off cap:Nat) (d:Array (Fin (m+1))) (w:World)
  (_:∀args w,(callFunc g args).run C.P w= .ok (.enter g args) w) (_:CmpLays1 C.P g #[] enc cf kg off d.size w) (_:Sort.Holds enc w kg off d) (_:kg<w.heap.size) (_:d.size<4611686018427387904),
  Calls C.P f #[.slice (some ⟨kg,off,none⟩) d.size cap,.func (.func g) #[] #[]] w λe w'=>e= .returned (.tuple #[])/\∃n os,w'=sortWorld enc w kg off n (Sort.pdq (ltOf cf) d 0 d.size (Lib.bitLen d.size) true true) os):zN C f 0:=by
 refine EV wz JR λm us h1 h2 cf h3 g kg off cap d w h4 h5 h6 h7 h8=>?_
 have he:∀i,us i=[(us i).headD undef]:=λi=>by
  have:=h1 i
  match us i,this with
  | [v],_=>rfl
 have lB:OneCell λi=>(us i).headD undef:=λi=>h2 i _ (by have:=he i;rw[this];simp)
 have e1:oA 0=1:=rfl;unfold abg at h5;rw[e1]at h5 h6|-;simp only[RB us _ he]at h5|-;refine JS m _ lB cf h3 g kg off cap d w h4 (λq os dk hs x y=>h5 q os dk hs x y) (λj hj=>?_) h7 h8;have:=h6 j (by rw[size_flatK,Nat.mul_one];exact hj);rw[get_flatK us 1 d j (by omega)]at this;have e2:(us d[j/1]!)[j % 1]! =(us d[j]!).headD undef:=by rw[Nat.div_one,Nat.mod_one,he d[j]!];rfl
 rw[e2]at this;exact this
end Go.Ae
namespace Go.Proofs
open Go Go.Ae Go.RowKit Go.Shelf Go.Sort Go.Lib Go.Proofs.Tryz
def abj (C:Cx)(hP:C.P=prog):zN C 64 0:=by
 refine RD ⟨_,by rw[hP];exact func64,of_decide_eq_true (by kernel_rfl),by kernel_rfl⟩ ?_ ?_
 .intro p cap fv w;rw[hP];exact AnyF.slices_SortFunc_none Tryz.DJ p cap fv w
 .intro m enc h1 cf hO g kg off cap d w eg yx hH hblk gC;rw[hP]at eg yx|-;exact Any.slices_SortFunc_eq Tryz.GK enc h1 cf hO g #[] kg off cap d w eg yx hH hblk gC
def RE (C:Cx)(hP:C.P=prog):zN C 184 2:=by
 refine Wq (by omega) ⟨_,by rw[hP];exact func184,of_decide_eq_true (by kernel_rfl),by kernel_rfl⟩ ?_ ?_
 .intro p cap fv w;rw[hP];exact AnyF.slices_SortFunc_none Tryz.uB p cap fv w
 .intro m enc h1 h2 cf hO g kg off cap d w eg yx hH hblk gC;rw[hP]at eg yx|-;exact AnyQ.slices_SortFunc_eq Tryz.uB 2 Tryz.isAgg65 Tryz.sizeOf65 enc h1 h2 cf hO g #[] kg off cap d w eg yx hH hblk gC
end Go.Proofs
namespace Go.Proofs
open Go.Shelf Go.Proofs.Tryz
def Tryz.jY :Go.Shelf.Ren:=⟨λ|6=>127|8=>208|9=>209|11=>259|13=>124|12=>260|23=>205|24=>206|14=>305|15=>306|16=>307|17=>308|18=>309|19=>310|20=>311|21=>312|22=>313|25=>332|26=>255|27=>256|28=>333|29=>334|30=>207|31=>343|n=>n,λ|26=>3|28=>165|24=>27|0=>0|3=>3|37=>160|48=>224|50=>226|4=>4|40=>218|39=>217|45=>185|5=>5|9=>9|51=>258|55=>262|57=>294|58=>295|33=>180|n=>n,λ|n=>n⟩
def Tryz.abk :Go.Proofs.SlLaysZI.n6 Tryz.prog Tryz.jY:={
 mixed:=by kernel_rfl
 f6:=⟨Tryz.f127.name,by decide,Go.eX Tryz.func127⟩
 f8:=⟨Tryz.f208.name,by decide,Go.eX Tryz.func208⟩
 f11:=⟨Tryz.f259.name,by decide,Go.eX Tryz.func259⟩
 t0:=Tryz.underlying0
 a0:=Tryz.isAgg0
 z0:=Tryz.sizeOf0
 v0:=Tryz.zeroValue0
 t24:=Tryz.underlying27
 a24:=Tryz.isAgg27
 z24:=Tryz.sizeOf27
 v24:=Tryz.zeroValue27
 t26:=Tryz.underlying3
 a26:=Tryz.isAgg3
 z26:=Tryz.sizeOf3
 v26:=Tryz.zeroValue3
 t28:=Tryz.underlying165
 a28:=Tryz.isAgg165
 z28:=Tryz.sizeOf165
 v28:=Tryz.zeroValue165
 i26:=by kernel_rfl}
def Tryz.RH :Go.Shelf.Ren:=⟨λ|5=>209|8=>124|7=>260|19=>205|20=>206|10=>305|11=>306|12=>307|13=>308|14=>309|15=>310|16=>311|17=>312|18=>313|30=>332|31=>255|32=>256|33=>333|34=>334|35=>207|40=>343|n=>n,λ|23=>27|25=>3|3=>3|32=>160|22=>27|0=>0|44=>224|46=>226|4=>4|36=>218|35=>217|41=>185|5=>5|9=>9|53=>258|57=>262|63=>294|64=>295|n=>n,λ|n=>n⟩
def Tryz.km :Go.Proofs.SlLaysM.n5 Tryz.prog Tryz.RH:={
 mixed:=by kernel_rfl
 f5:=⟨Tryz.f209.name,by decide,Go.eX Tryz.func209⟩
 f7:=⟨Tryz.f260.name,by decide,Go.eX Tryz.func260⟩
 f8:=Go.eX Tryz.func124
 f10:=⟨Tryz.f305.name,by decide,Go.eX Tryz.func305⟩
 f11:=⟨Tryz.f306.name,by decide,Go.eX Tryz.func306⟩
 f12:=⟨Tryz.f307.name,by decide,Go.eX Tryz.func307⟩
 f13:=⟨Tryz.f308.name,by decide,Go.eX Tryz.func308⟩
 f14:=⟨Tryz.f309.name,by decide,Go.eX Tryz.func309⟩
 f15:=⟨Tryz.f310.name,by decide,Go.eX Tryz.func310⟩
 f16:=⟨Tryz.f311.name,by decide,Go.eX Tryz.func311⟩
 f17:=⟨Tryz.f312.name,by decide,Go.eX Tryz.func312⟩
 f18:=⟨Tryz.f313.name,by decide,Go.eX Tryz.func313⟩
 f19:=Go.eX Tryz.func205
 f20:=Go.eX Tryz.func206
 f30:=⟨Tryz.f332.name,by decide,Go.eX Tryz.func332⟩
 f31:=Go.eX Tryz.func255
 f32:=Go.eX Tryz.func256
 f33:=⟨Tryz.f333.name,by decide,Go.eX Tryz.func333⟩
 f34:=⟨Tryz.f334.name,by decide,Go.eX Tryz.func334⟩
 f35:=⟨Tryz.f207.name,by decide,Go.eX Tryz.func207⟩
 f40:=⟨Tryz.f343.name,by decide,Go.eX Tryz.func343⟩
 t0:=Tryz.underlying0
 a0:=Tryz.isAgg0
 z0:=Tryz.sizeOf0
 v0:=Tryz.zeroValue0
 t3:=Tryz.underlying3
 a3:=Tryz.isAgg3
 z3:=Tryz.sizeOf3
 v3:=Tryz.zeroValue3
 t4:=Tryz.underlying4
 a4:=Tryz.isAgg4
 z4:=Tryz.sizeOf4
 v4:=Tryz.zeroValue4
 t5:=Tryz.underlying5
 a5:=Tryz.isAgg5
 z5:=Tryz.sizeOf5
 v5:=Tryz.zeroValue5
 t9:=Tryz.underlying9
 a9:=Tryz.isAgg9
 z9:=Tryz.sizeOf9
 v9:=Tryz.zeroValue9
 t22:=Tryz.underlying27
 a22:=Tryz.isAgg27
 z22:=Tryz.sizeOf27
 v22:=Tryz.zeroValue27
 t23:=Tryz.underlying27
 a23:=Tryz.isAgg27
 z23:=Tryz.sizeOf27
 v23:=Tryz.zeroValue27
 t25:=Tryz.underlying3
 a25:=Tryz.isAgg3
 z25:=Tryz.sizeOf3
 v25:=Tryz.zeroValue3
 t32:=Tryz.underlying160
 a32:=Tryz.isAgg160
 z32:=Tryz.sizeOf160
 v32:=Tryz.zeroValue160
 t35:=Tryz.underlying217
 a35:=Tryz.isAgg217
 z35:=Tryz.sizeOf217
 v35:=Tryz.zeroValue217
 t36:=Tryz.underlying218
 a36:=Tryz.isAgg218
 z36:=Tryz.sizeOf218
 v36:=Tryz.zeroValue218
 t41:=Tryz.underlying185
 a41:=Tryz.isAgg185
 z41:=Tryz.sizeOf185
 v41:=Tryz.zeroValue185
 t44:=Tryz.underlying224
 a44:=Tryz.isAgg224
 z44:=Tryz.sizeOf224
 v44:=Tryz.zeroValue224
 t46:=Tryz.underlying226
 a46:=Tryz.isAgg226
 z46:=Tryz.sizeOf226
 v46:=Tryz.zeroValue226
 t53:=Tryz.underlying258
 a53:=Tryz.isAgg258
 z53:=Tryz.sizeOf258
 v53:=Tryz.zeroValue258
 t57:=Tryz.underlying262
 a57:=Tryz.isAgg262
 z57:=Tryz.sizeOf262
 v57:=Tryz.zeroValue262
 t63:=Tryz.underlying294
 a63:=Tryz.isAgg294
 z63:=Tryz.sizeOf294
 v63:=Tryz.zeroValue294
 t64:=Tryz.underlying295
 a64:=Tryz.isAgg295
 z64:=Tryz.sizeOf295
 v64:=Tryz.zeroValue295}
end Go.Proofs
namespace Go.Proofs
open Go.RowKit Go.Shelf Go.Sort Go.Proofs.Tryz
attribute [local go_sem] Oper.semAt_some
def l_ {α:Type}(f:Nat->α)(k:Nat):List α:=(List.range k).map f
def MY {α:Type}(f:Nat->α)(k:Nat):l_ f (k+1)=l_ f k++[f k]:=by simp[l_,List.range_succ]
def lF {α:Type}(f:Nat->α)(k:Nat):(l_ f k).length=k:=by simp[l_]
set_option maxRecDepth 100000 in
set_option maxHeartbeats 2000000 in
def MZ (n l Bs bo n₀ b off len cap:Nat)(zs:Nat->Int)(hn:1<=n)(hreach:len*8<=140737488351232)(p:Option Addr)(hb:0<len->b<n₀/\p=some ⟨b,off,none⟩)(J:List Int->World->Prop)(w0 W:World)(hJB:∀pre V,J pre V->Below n₀ w0 V)
 (hY:∀pre x V,J pre V->pre.length<len->YieldAt Fence.wide (n-1) prog l #[.int .i64 x] V λe V'=>e= .returned (.bool true)/\J (pre++[x]) V')
 (hBs:W.cell? ⟨Bs,bo,none⟩=some (.slice p len cap)) (hc:∀j,j<len->w0.cell? ⟨b,off+j,none⟩=some (.int .i64 (zs j))) (h0:J [] W):
 CallsIn Fence.wide n prog 210 #[.func (.yield l) #[] #[],.pointer (some ⟨Bs,bo,none⟩)] W λe W'=>(∃v,e= .returned v)/\J (l_ zs len) W':=by
 refine callsIn_of_wp func210 rfl trivial ?_ rfl;simp only[ntmps210,List.size_toArray,List.length_cons,List.length_nil,Nat.reduceAdd,Nat.reduceSub,Array.replicate_succ,Array.replicate_zero,List.push_toArray,List.append_toArray,List.nil_append,List.cons_append]
 gi_wp2
 gi_loopw [7] (λi wr=>∃k:Nat,k<=len/\i= .int .i64 k/\J (l_ zs k) wr)
  (λi _=>len-(intOf i).toNat)
 case atStart=>exact⟨0,Nat.zero_le _,rfl,h0⟩
 case round=>
  obtain⟨k,hk,rfl,S4⟩:=hrel;have hnx:=hJB _ _ S4;have nM:k<len->wr.cell? ⟨b,off+k,none⟩=some (.int .i64 (zs k)):=λh=>(hnx.cell (p:=⟨b,off+k,none⟩) (hb (by omega)).1).trans (hc k h)
  by_cases dY:k<len
  .obtain⟨fn,tmps,assign,body,hy,hR⟩:=hY _ (zs k) wr S4 (by rw[lF];exact dY);have hcx':=nM dY;obtain rfl:=(hb (by omega)).2
   gi_wp2
   refine hR.mono ?_;rintro e W3 ⟨rfl,hJ3⟩
   gi_wp2
   go_roundw
   case rel=>exact⟨k+1,by omega,by simp,by rw[MY];exact hJ3⟩
   case measure=>simp[intOf];omega
  .obtain rfl:k=len:=by omega
   gi_wp2
   go_end0
   exact⟨⟨_,rfl⟩,S4⟩
set_option maxRecDepth 100000 in
set_option maxHeartbeats 2000000 in
def M0 (n Bs bo b off len cap:Nat)(zs:Nat->Int)(hn:2<=n)(hN:len<=maxLen)(hNb:len*8<=140737488351232)(w:World)(p:Option Addr)(hb:0<len->b<w.heap.size/\p=some ⟨b,off,none⟩)(hBl:Bs<w.heap.size)
 (hBs:w.cell? ⟨Bs,bo,none⟩=some (.slice p len cap)) (hc:∀j,j<len->w.cell? ⟨b,off+j,none⟩=some (.int .i64 (zs j))):
 CallsIn Fence.wide n prog 259 #[.slice none 0 0,.func (.func 210) #[] #[.pointer (some ⟨Bs,bo,none⟩)]] w λe w'=>∃v:Value,e= .returned v/\w'.ownsRow w.heap.size 3 1 v len ((l_ zs len).map encZ)/\(v= .slice none 0 0↔l_ zs len=[])/\Below w.heap.size w w':=by
 have L:SlLaysZI.n11 prog Tryz.jY:={Tryz.abk with};have eg:∀args w,(callFunc 210 args).run prog w= .ok (.enter 210 args) w:=enters_of func210 (by kernel_rfl) rfl;refine callsIn_of_wp_marks func259 rfl trivial ?_ rfl;simp only[ntmps259,List.size_toArray,List.length_cons,List.length_nil,Nat.reduceAdd,Nat.reduceSub,Array.replicate_succ,Array.replicate_zero,List.push_toArray,List.append_toArray,List.nil_append,List.cons_append]
 gi_wp2
 refine wpIn_rangeFunc ?_;intro fn wz;obtain⟨W0,hW0⟩:∃W0,w.alloc (.cells #[.slice none 0 0] 27)=W0:=⟨_,rfl⟩;have KV:W0.heap.size=w.heap.size+1:=by rw[<-hW0];simp
 have wG:W0.heap[w.heap.size]?=some (.cells #[.slice none 0 0] 27 (0,0)):=by rw[<-hW0];exact World.alloc_heap_new w _
 have UL:Below w.heap.size w W0:=by rw[<-hW0];exact(Below.refl _ w).alloc (Nat.le_refl _) _
 rw[hW0];generalize hsv:(Value.func (.func 210) #[] #[.pointer (some ⟨Bs,bo,none⟩)])=sv;obtain⟨W1,Ap⟩:∃W1,(W0.alloc (.deferred (some []))).alloc (.loop (AnyZI.apRec Tryz.jY fn sv w.heap.size W0.heap.size .ready none))=W1:=⟨_,rfl⟩;have hold:∀k,k<W0.heap.size->W1.heap[k]?=W0.heap[k]?:=λk hk=>by
  rw[<-Ap];exact(Below.heap_alloc _ _ k (by simp;omega)).trans (Below.heap_alloc _ _ k hk)
 have Dd:Below w.heap.size w W1:=by rw[<-Ap];exact(UL.alloc UL.size _).alloc (by have:=UL.size;simp;omega) _
 have LN:W1.heap.size=W0.heap.size+2:=by rw[<-Ap];simp
 have hM:AnyZI.ApAt Tryz.jY w fn sv w.heap.size (W0.heap.size+1) W0.heap.size [] W1:=
  ⟨⟨_,(hold w.heap.size (by omega)).trans wG,⟨rfl,.inl ⟨rfl,rfl⟩⟩,by simp⟩,
   by rw[<-Ap];have:=World.alloc_heap_new (W0.alloc (.deferred (some []))) (.loop (AnyZI.apRec Tryz.jY fn sv w.heap.size W0.heap.size .ready none));rwa [World.size_alloc]at this,
   by rw[<-Ap];exact(Below.heap_alloc _ _ _ (by simp)).trans (World.alloc_heap_new W0 _),Dd⟩
 refine⟨W0.heap.size+1,[{target:= .collected W0.heap.size,args:= #[]}],W1,{target:= .fn (.func 210) #[.pointer (some ⟨Bs,bo,none⟩)],args:= #[.func (.yield (W0.heap.size+1)) #[] #[]]},W1,210,
  #[.func (.yield (W0.heap.size+1)) #[] #[]]++ #[.pointer (some ⟨Bs,bo,none⟩)],W1,?_,?_,?_,?_,λ_=>by omega,?_⟩
 .rw[<-Ap];exact run_enterLoop_outer _ _ _ _ _
 .simp[<-hsv,resolve,go_sem]
 .intro f' sw;trivial
 .simp[invoke,go_sem,eg]
 .refine(MZ (n-1) (W0.heap.size+1) Bs bo w.heap.size b off len cap zs (by omega) hNb p hb (AnyZI.ApAt Tryz.jY w fn sv w.heap.size (W0.heap.size+1) W0.heap.size) w W1 (λ_ _ h=>h.below) ?_ ((Dd.cell (p:=⟨Bs,bo,none⟩) hBl).trans hBs) hc hM).mono ?_
  .intro pre x V hJ hl;obtain⟨aa,t1,a1,b1,y1,y2⟩:=AnyZI.apYield L Fence.wide (n-1-1) w fn wz sv w.heap.size (W0.heap.size+1) W0.heap.size (by omega) (by omega) (by omega) (Nat.le_refl _) (by omega) len hN (by omega) pre x V hJ hl;exact⟨aa,t1,a1,b1,y1,y2.mono λe V' ⟨h1,h2,_⟩=>⟨h1,h2⟩⟩
  rintro e W2 ⟨⟨v0,rfl⟩,h2⟩;obtain⟨v,hv,fX,p_⟩:=h2.box;have eW:∀dA,(Obj.cells #[v] 27 (0,0):Obj)≠ .cells dA 3 (0,0):=λdA e=>by cases e
  have vu:=run_endLoop (P:=prog) h2.L (by simp[AnyZI.apRec]);obtain⟨W3,hW3⟩:∃W3,W2.putObj (W0.heap.size+1) (.loop {AnyZI.apRec Tryz.jY fn sv w.heap.size W0.heap.size .ready none with state:= .exhausted})=W3:=⟨_,rfl⟩;rw[hW3]at vu;have hg3:W2.grownBy W3 (some (W0.heap.size+1)):=by rw[<-hW3];exact grownBy_putObj_a _ _ _
  have X9:W3.heap[w.heap.size]?=some (.cells #[v] 27 (0,0)):=by rw[<-hW3];exact(World.putObj_heap_other (by omega)).trans hv
  have hK3:W3.heap[W0.heap.size]?=some (.deferred (some [])):=by rw[<-hW3];exact(World.putObj_heap_other (by omega)).trans h2.K
  have acv:=fX.kept hg3 (ownsRow_ne_a fX h2.L (λdA e=>by cases e));have DD:Below w.heap.size w W3:=h2.below.grown hg3 h2.below.size (λk e=>by cases e;omega);obtain⟨hc3,hf3⟩:=cell_of_box_a X9;clear hW3;refine⟨none,W3,vu,?_⟩
  gi_wp2
  rw[<-KV];refine⟨by simp,.inl ⟨_,_,rfl,run_takeDeferred hK3,?_⟩⟩;refine⟨_,results_tmp rfl _ _ _,v,rfl,?_,p_,DD.grown (grownBy_putObj_a _ _ _) DD.size (λk e=>by cases e;omega)⟩;have:=acv.kept (grownBy_putObj_a W3 W0.heap.size (.deferred none)) (ownsRow_ne_a acv hK3 (λdA e=>by cases e));rw[lF]at this;exact this
set_option maxHeartbeats 1000000 in
def JT (n Bs bo b off len cap:Nat)(zs:Nat->Int)(hn:3<=n)(hN:len<=maxLen)(hNb:len*8<=140737488351232)(w:World)(p:Option Addr)(hb:0<len->b<w.heap.size/\p=some ⟨b,off,none⟩)(hBl:Bs<w.heap.size)
 (hBs:w.cell? ⟨Bs,bo,none⟩=some (.slice p len cap)) (hc:∀j,j<len->w.cell? ⟨b,off+j,none⟩=some (.int .i64 (zs j))):
 CallsIn Fence.wide n prog 208 #[.func (.func 210) #[] #[.pointer (some ⟨Bs,bo,none⟩)]] w λe w'=>∃v:Value,e= .returned v/\w'.ownsRow w.heap.size 3 1 v len ((l_ zs len).map encZ)/\(v= .slice none 0 0↔l_ zs len=[])/\Below w.heap.size w w':=by
 have e11:∀args w,(callFunc 259 args).run prog w= .ok (.enter 259 args) w:=enters_of func259 (by kernel_rfl) rfl;have hf:Fence.wide.fn 259:=trivial;have h1:1<=n:=by omega
 refine callsIn_of_wp func208 rfl trivial ?_ rfl;simp only[ntmps208,List.size_toArray,List.length_cons,List.length_nil,Nat.reduceAdd,Nat.reduceSub,Array.replicate_succ,Array.replicate_zero,List.push_toArray,List.append_toArray,List.nil_append,List.cons_append]
 gi_wp2_with (gi_at_call 259;refine(M0 (n-1) Bs bo b off len cap zs (by omega) hN hNb w p hb hBl hBs hc).mono ?_;rintro e w' ⟨v,rfl,fX,p_,hb⟩)
 go_ret
 exact⟨v,rfl,fX,p_,hb⟩
def aep (m:Nat):AnyZI.SortsIn prog Tryz.jY Fence.wide m:=
 ⟨λkg off cap ss W hH hblk gC=>callsIn_wide.2 (AnyM.slices_Sort_int Tryz.km kg off cap ss W hH hblk gC),
  λp cap W=>callsIn_wide.2 (AnyM.slices_Sort_int_none Tryz.km p cap W)⟩
set_option maxHeartbeats 2000000 in
def abl (Bs bo b off len cap:Nat)(zs:Nat->Int)(hN:len<=maxLen)(hNb:len*8<=140737488351232)(w:World)(p:Option Addr)(hb:0<len->b<w.heap.size/\p=some ⟨b,off,none⟩)(hBl:Bs<w.heap.size)
 (hBs:w.cell? ⟨Bs,bo,none⟩=some (.slice p len cap)) (hc:∀j,j<len->w.cell? ⟨b,off+j,none⟩=some (.int .i64 (zs j))):
 Calls prog 127 #[.func (.func 210) #[] #[.pointer (some ⟨Bs,bo,none⟩)]] w λe w'=>∃v:Value,e= .returned v/\w'.ownsRow w.heap.size 3 1 v len (((l_ zs len).mergeSort λx y=>decide (x<=y)).map encZ)/\(v= .slice none 0 0↔l_ zs len=[])/\Below w.heap.size w w':=by
 refine(callsIn_wide (n:=6)).1 ?_;have e8:∀args w,(callFunc 208 args).run prog w= .ok (.enter 208 args) w:=enters_of func208 (by kernel_rfl) rfl;have e9:∀args w,(callFunc 209 args).run prog w= .ok (.enter 209 args) w:=enters_of func209 (by kernel_rfl) rfl;have hf8:Fence.wide.fn 208:=trivial;have hf9:Fence.wide.fn 209:=trivial;have Bv:=aep 5;refine callsIn_of_wp func127 rfl trivial ?_ rfl;simp only[ntmps127,List.size_toArray,List.length_cons,List.length_nil,Nat.reduceAdd,Nat.reduceSub,Array.replicate_succ,Array.replicate_zero,List.push_toArray,List.append_toArray,List.nil_append,List.cons_append]
 gi_wp2_with (gi_at_call 208;refine(JT 5 Bs bo b off len cap zs (by omega) hN hNb w p hb hBl hBs hc).mono ?_;rintro e W ⟨v,rfl,fX,p_,Hn⟩)
 rcases fX.2 with⟨rfl,hz⟩|⟨gb,gp,dA,rfl,pO,hgb,r1,r2,r3,r4⟩
 .have hss:l_ zs len=[]:=by rw[hz];rfl
  gi_wp2_with (gi_at_call 209;refine(Bv.2 none 0 W).mono ?_;rintro e w' ⟨rfl,rfl⟩)
  go_ret
  exact⟨.slice none 0 0,rfl,by rw[hss]at fX|-;simpa using fX,by simp[hss],Hn⟩
 .have hH:Holds encZ W gb 0 (l_ zs len).toArray:=holds_of_block_i hgb (by simpa[lF]using r4);have EB:gb<W.heap.size:=(Array.getElem?_eq_some_iff.1 hgb).1;have cS:=Bv.1 gb 0 gp (l_ zs len) W hH EB (by rw[lF];omega);rw[lF]at cS
  gi_wp2_with (gi_at_call 209;refine cS.mono ?_;rintro e w' ⟨rfl,nn,os,rfl⟩)
  go_ret
  refine⟨_,rfl,?_,p_,Hn.grown (grownBy_sorted_i _) Hn.size (λj hj=>by cases hj;exact pO)⟩;have hl:((l_ zs len).mergeSort λx y=>decide (x<=y)).length=len:=by simp[lF]
  have:=ownsRow_sorted_i (w:=W) (n:=nn) (os:=os) (ss:=(l_ zs len).mergeSort λx y=>decide (x<=y)) rfl pO hgb (by rw[hl];exact r1) r2 r3;rw[hl]at this;exact this
end Go.Proofs
namespace Go.Ae
open Go
def agZ {α:Type}:Result α->World
 | .ok _ w=>w
 | .halt _ w=>w
def M1 {α:Type}:∀(a:Ask α) (w:World),w.drawn<=(w.ask a).2.drawn
 | .done a,w=>by unfold World.ask;exact Yt _
 |
  .ask what range k,w=>by
  unfold World.ask;simp only;split
  .exact M1 (k 0) w
  .exact Yn (Nat.le_succ _) (M1 (k _) {w with drawn:=w.drawn+1})
def aeq (w:World)(c:Sys):w.drawn<=(w.sys c).2.drawn:=by
 unfold World.sys;have:=M1 (Kernel.perform c w.os) w;split
 .exact Yt _
 .rename_i h;rw[h]at this;exact this
def GL {w w':World}{p:Program}{at_:Addr}{u:TypeId}{a:Addr}{v:Value}{b:Bool}{c:List Addr}(h:w.viewStore p at_ u a v b= .ok (w',c)):w'.drawn=w.drawn:=by
 unfold World.viewStore at h;simp only[bind,Except.bind,pure,Except.pure]at h
 repeat' first
  |(cases h;done)
  |(simp only[Except.ok.injEq,Zg]at h;obtain⟨rfl,_⟩:=h;rfl)
  |split at h
def JU {w w':World}{p:Program}{a:Addr}{v:Value}{b:Bool}{c:List Addr}(h:w.farStore p a v b= .ok (w',c)):w'.drawn=w.drawn:=by
 unfold World.farStore at h;split at h
 .split at h
  .rename_i q;cases h;exact GL q
  .cases h
 .cases h
def RI (w:World)(a:Addr)(n:Nat):(w.freeze a n).drawn=w.drawn:=by
 unfold World.freeze;split<;>rfl
def kA {α:Type}(p:Program):∀(s:Sem α) (w:World),w.drawn<=(agZ (s.run p w)).drawn
 | .pure a,w=>Yt _
 |
  .load m a k,w=>by
  unfold Sem.run;split
  .exact kA p _ w
  .split
   .exact kA p _ w
   .exact Yt _
 |
  .store m a v k,w=>by
  have hn:∀v,w.drawn<=(agZ (match w.cell? a with
   |some _=>if w.frozen? a then Result.halt (.unsupported (.unsafePointer "a write to bytes that a string shares")) w else k.run p (w.setCell a v)
   |
    none=>match w.farStore p a v (m== .atomic)with
    | .ok (w,_)=>k.run p w
    | .error h=> .halt h w)).drawn:=λv=>by
   split
   .split
    .exact Yt _
    .exact kA p k (w.setCell a v)
   .split
    .rename_i h;rw[<-JU h];exact kA p k _
    .exact Yt _
  cases v
  all_goals first
   |exact Yt _
   |(unfold Sem.run;exact hn _)
 | .new o k,w=>kA p (k w.heap.size) {w with heap:=w.heap.push o}
 | .shape r k,w=>kA p (k (w.shape? r)) w
 |
  .freeze a n k,w=>by
  have:=kA p k (w.freeze a n);rw[RI]at this;exact this
 | .frozen a k,w=>kA p (k (w.frozen? a)) w
 |
  .getObj r k,w=>by
  unfold Sem.run;split
  .exact Yt _
  .exact kA p _ w
  .exact Yt _
 |
  .setObj r o k,w=>by
  unfold Sem.run;split
  .exact Yt _
  .exact kA p k {w with heap:=w.heap.setIfInBounds r o}
  .exact Yt _
 |
  .choose q k,w=>by
  unfold Sem.run;split
  .exact kA p _ w
  .exact Yn (Nat.le_succ _) (kA p (k _) {w with drawn:=w.drawn+1})
 | .sys c k,w=>Yn (aeq w c) (kA p (k (w.sys c).1) (w.sys c).2)
 | .program k,w=>kA p (k p) w
 | .mark _ k,w=>kA p k w
 | .halt h,w=>Yt _
def fh {α:Type}{p:Program}{s:Sem α}{w w':World}{a:α}(h:s.run p w= .ok a w'):w.drawn<=w'.drawn:=by
 have:=kA p s w;rw[h]at this;exact this
def run_halt {α:Type}{p:Program}{s:Sem α}{w w':World}{a:Halt}(h:s.run p w= .halt a w'):w.drawn<=w'.drawn:=by
 have:=kA p s w;rw[h]at this;exact this
def qa (w:World):GStep->Prop
 | .go _ w' _=>w.drawn<=w'.drawn
 | .comm _ _ _ _ w' _=>w.drawn<=w'.drawn
 | .spawn _ _ w' _=>w.drawn<=w'.drawn
 | .count _ w' _=>w.drawn<=w'.drawn
 | .timer _ _ w' _=>w.drawn<=w'.drawn
 | .alone _ _ w' _=>w.drawn<=w'.drawn
 | .newcoro _ _ _ w' _=>w.drawn<=w'.drawn
 | .coroswitch _ _ _ w' _=>w.drawn<=w'.drawn
 | .collect _ w' _=>w.drawn<=w'.drawn
 | .watch _ w' _=>w.drawn<=w'.drawn
 | .ended _ _ _=>True
def qa.up {w w':World}{s:GStep}(h:qa w' s)(hw:w.drawn<=w'.drawn):qa w s:=by
 cases s<;>first|trivial|exact Yn hw h
@[simp] def nI {w:World}{s:GStep}(es:Array Event):qa w (GStep.after es s)↔qa w s:=by
 cases s<;>exact Iff.rfl
def M2 (w:World)(fd:Nat)(t:ByteArray)(o:Outcome):qa w (endWith w fd t o):=by
 unfold endWith;simp only
 repeat' first
  |trivial
  |split
def qz (fr:Frame)(m:String)(w:World):qa w (endThrow fr m w):=Yt _
def uC (p:Program)(fr:Frame)(v:Value)(w:World):qa w (endPrinting p fr v w):=by
 unfold endPrinting;simp only
 repeat' first
  |trivial
  |exact qz _ _ _
  |split
def zO (p:Program)(fr:Frame)(cs:List Frame)(d:Option Dying)(m:String)(w:World):qa w (endFatal p fr cs d m w):=by
 unfold endFatal;simp only;generalize(match d,((fr::cs).filter (·.fn<p.funcs.size)).flatMap λf=>match f.mode with| .panicking c=>c|_=> []with
  |none,[]=>_
  |none,e::older=>_
  |some d,[]=>_
  |some _,_::_=>_:Sem (List (ByteArray × String) × List ByteArray))=s
 split
 .rename_i h;exact fh h
 .trivial
 .trivial
def M3 (p:Program)(fr:Frame)(d:Dying)(f:Fatal)(w:World):qa w (writeOn p fr d f w):=by
 unfold writeOn;simp only[Sem.runT_eq];split
 .trivial
 .split
  .rename_i h;simp only[Zg]at h;exact fh h.1
  .rename_i h;simp only[Zg]at h;exact run_halt h.1
  .trivial
  .trivial
def aer (p:Program)(fr:Frame)(d:Dying)(w:World):qa w (die p fr d w):=by
 unfold die;simp only[Sem.runT_eq]
 repeat' first
  |trivial
  |exact M3 _ _ _ _ _
  |exact M2 _ _ _ _
  |exact Yt _
  |(rename_i h;exact fh h)
  |(rename_i h _;exact fh h)
  |(rename_i h _ _;exact fh h)
  |(rename_i h _ _ _;exact fh h)
  |(rename_i h _ _ _ _;exact fh h)
  |(rename_i h _ _ _ _ _;exact fh h)
  |(rename_i h _ _ _ _ _ _;exact fh h)
  |(rename_i h _ _ _ _ _ _ _;exact fh h)
  |(rename_i h _ _ _ _ _ _ _ _;exact fh h)
  |(rename_i h;exact(uC _ _ _ _).up (run_halt h))
  |simp only[nI]
  |split
def JV (p:Program)(fr:Frame)(cs:List Frame)(d:Option Dying)(g:Nat)(w:World):qa w (early p fr cs d g w):=by
 unfold early;simp only
 repeat' first
  |trivial
  |exact Yt _
  |(rename_i h;exact fh h)
  |(rename_i h _;exact fh h)
  |(rename_i h _ _;exact fh h)
  |(rename_i h _ _ _;exact fh h)
  |(rename_i h _ _ _ _;exact fh h)
  |(rename_i h _ _ _ _ _;exact fh h)
  |(rename_i h _ _ _ _ _ _;exact fh h)
  |(rename_i h _ _ _ _ _ _ _;exact fh h)
  |(rename_i h _ _ _ _ _ _ _ _;exact fh h)
  |(rename_i h _ _ _ _;have:=fh h;exact this)
  |simp only[nI]
  |split
def uD (p:Program)(b:Bool)(fr:Frame)(cs:List Frame)(d:Option Dying)(v:Value)(w:World):qa w (doReturn p b fr cs d v w):=by
 unfold doReturn;simp only
 repeat' first
  |trivial
  |exact Yt _
  |split
def Aq (p:Program)(fr:Frame)(cs:List Frame)(d:Option Dying)(df:Deferred)(w:World):qa w (callDeferred p fr cs d df w):=by
 unfold callDeferred;simp only[Sem.runT_eq]
 repeat' first
  |trivial
  |exact Yt _
  |(rename_i h;exact fh h)
  |(rename_i h _;exact fh h)
  |(rename_i h _ _;exact fh h)
  |(rename_i h _ _ _;exact fh h)
  |(rename_i h _ _ _ _;exact fh h)
  |(rename_i h _ _ _ _ _;exact fh h)
  |(rename_i h _ _ _ _ _ _;exact fh h)
  |(rename_i h _ _ _ _ _ _ _;exact fh h)
  |(rename_i h _ _ _ _ _ _ _ _;exact fh h)
  |(rename_i h;exact run_halt h)
  |(rename_i h _;exact run_halt h)
  |(rename_i h _ _;exact run_halt h)
  |(rename_i h;exact(zO _ _ _ _ _ _).up (run_halt h))
  |(rename_i h;exact(qz _ _ _).up (run_halt h))
  |simp only[nI]
  |split
def RJ (p:Program)(b:Bool)(fr:Frame)(cs:List Frame)(d:Option Dying)(w:World):qa w (unwind p b fr cs d w):=by
 unfold unwind;simp only[Sem.runT_eq]
 repeat' first
  |trivial
  |exact Yt _
  |exact Aq _ _ _ _ _ _
  |exact uD _ _ _ _ _ _ _
  |exact uC _ _ _ _
  |(rename_i h;exact fh h)
  |(rename_i h _;exact fh h)
  |(rename_i h _ _;exact fh h)
  |(rename_i h;exact(uD _ _ _ _ _ _ _).up (fh h))
  |simp only[nI]
  |split
def CK (p:Program)(b:Bool)(fr:Frame)(cs:List Frame)(d:Option Dying)(s:Sem Next)(w:World):qa w (stepG.apply p b fr cs d s w):=by
 unfold stepG.apply;have hk:=kA p s w;have h2:(if b=true then s.runT p w #[]else(s.run p w,#[])).1=s.run p w:=by cases b<;>simp[Sem.runT_eq]
 simp only[nI];generalize(if b=true then s.runT p w #[]else(s.run p w,#[]))=re at h2|-;obtain⟨r,es⟩:=re;simp only at h2;subst h2;simp only;generalize s.run p w=r at hk|-;cases r with
 |
  ok a w'=>
  have og:w.drawn<=w'.drawn:=hk;cases a<;>(try simp only)<;>repeat' first
   |exact og
   |exact(qz _ _ _).up og
   |trivial
   |split
 |
  halt a w'=>
  have og:w.drawn<=w'.drawn:=hk;cases a<;>(try simp only)<;>repeat' first
   |exact og
   |exact(qz _ _ _).up og
   |exact(zO _ _ _ _ _ _).up og
   |exact(JV _ _ _ _ _ _).up og
   |trivial
   |(rename_i q;cases q;done)
   |(rename_i q;cases q;exact(JV _ _ _ _ _ _).up og)
   |split
def abm (p:Program)(b:Bool)(fr:Frame)(cs:List Frame)(d:Option Dying)(w:World):qa w (stepG.oper p b fr cs d w):=by
 unfold stepG.oper;split
 .trivial
 .split<;>exact CK _ _ _ _ _ _ _
def abn {α:Type}{w:World}(o:Option α)(a:GStep)(f:α->GStep)(h0:qa w a)(h:∀x,qa w (f x)):qa w (o.elim a f):=by
 cases o<;>first|exact h0|exact h _
def abo (p:Program)(main b:Bool)(fr:Frame)(cs:List Frame)(d:Option Dying)(w:World):qa w (stepG.exec p main b fr cs d w):=by
 unfold stepG.exec;simp only[Sem.runT_eq]
 repeat' first
  |trivial
  |exact Yt _
  |exact CK _ _ _ _ _ _ _
  |exact abm _ _ _ _ _ _
  |(rename_i h;exact(CK _ _ _ _ _ _ _).up (fh h))
  |(rename_i h;exact(uD _ _ _ _ _ _ _).up (fh h))
  |(rename_i h;exact fh h)
  |(rename_i h;exact run_halt h)
  |simp only[nI]
  |refine abn _ _ _ ?_ λ_=>?_
  |split
def Wr (p:Program)(main:Bool)(g:Goroutine)(w:World)(b:Bool):qa w (stepG p main g w b):=by
 obtain⟨fr,callers,status,dying,offers⟩:=g;simp only[stepG];split
 .exact aer _ _ _ _
 .exact abo _ _ _ _ _ _ _
 .exact RJ _ _ _ _ _ _
def GM {rest:Rest}{cs:Array CommCase}{w w':World}(h:waitingAt rest cs w=some w'):w'.drawn=w.drawn:=by
 unfold waitingAt at h;split at h
 .split at h
  .cases h;rfl
  .cases h
 .cases h;rfl
def CL (p:Program)(rest:Rest)(gs:Array Goroutine)(i:Nat)(g:Goroutine)(cases:Array CommCase)(bl:Bool)(sh:CommShape)(w:World)(m':Machine)
 (h:(communicate p rest gs i g cases bl sh w).1= .next m'):w.drawn<=m'.world.drawn:=by
 unfold communicate at h;simp only[]at h
 repeat' first
  |(simp at h;done)
  |(simp only[Stepped.next.injEq]at h;subst h;exact Yt _)
  |(simp only[Stepped.next.injEq]at h;subst h;rename_i q;exact Nat.le_of_eq (GM q).symm)
  |(
   simp only[Stepped.next.injEq]at h;subst h;dsimp only
   repeat' first
    |exact Yt _
    |refine Yn ?_ (fh ‹_›)
    |refine Yn ?_ (run_halt ‹_›)
   done)
  |split at h
def look_ok (p:Program)(gs:Array Goroutine)(rest:Rest)(w:World)(m':Machine)(h:look p gs rest w= .next m'):w.drawn<=m'.world.drawn:=by
 unfold look at h;simp only[]at h
 repeat' first
  |(simp at h;done)
  |(simp only[Stepped.next.injEq]at h;subst h;rename_i q;have:=fh q;exact this)
  |split at h
def Ws (w:World)(c:Nat):(drain w c).2.drawn=w.drawn:=by
 unfold drain;split<;>rfl
def RK (m:Machine)(k:Nat)(t:Timer)(a b:Nat):(retime m k t a b).2.world.drawn=m.world.drawn:=by
 unfold retime;cases t.chan with
 |none=>rfl
 |some c=>exact Ws _ _
def EW {m m':Machine}{k:Nat}{t:Timer}{a b:Nat}{v:Value}(h:retime m k t a b=(v,m')):m'.world.drawn=m.world.drawn:=by
 have:=RK m k t a b;rw[h]at this;exact this
def M4 (m m':Machine)(op:TimerOp)(v:Value)(h:timerOp m op= .ok (v,m')):m'.world.drawn=m.world.drawn:=by
 unfold timerOp at h;split at h
 .split at h
  .simp only[Except.ok.injEq,Zg]at h;rw[<-h.2];rfl
  .split at h
   .split at h
    .cases h
    .simp only[Except.ok.injEq,Zg]at h;rw[<-h.2]
   .cases h
 .unfold timerOp.named at h;split at h
  .simp only[Except.ok.injEq]at h;exact EW h
  .cases h
 .split at h
  .rename_i m2 hm;have e:m2.world.drawn=m.world.drawn:=by
    unfold timerOp.opened at hm;split at hm
    .split at hm
     .cases hm;rfl
     .cases hm
    .cases hm;rfl
   unfold timerOp.named at h;split at h
   .simp only[Except.ok.injEq]at h;rw[<-e];exact EW h
   .cases h
  .cases h
 .simp only[Except.ok.injEq,Zg]at h;rw[<-h.2];rfl
def DK {fr:Frame}{m:String}{w w':World}{g:Goroutine}{es:Array Event}(h:endThrow fr m w= .go g w' es):w'=w:=by
 unfold endThrow dieOf at h;simp only[GStep.go.injEq]at h;exact h.2.1.symm
def abp (p:Program)(m m':Machine)(i:Nat)(b:Bool)(h:(runT p m i b).1= .next m'):m.world.drawn<=m'.world.drawn:=by
 simp only[runT]at h
 revert h
 generalize m.gs.swapAt! _ _=gg
 have hk:=Wr p (i==0) gg.1 m.world b
 revert hk
 generalize stepG p _ gg.1 m.world b=s;intro hk h;cases s<;>simp only[]at h
 all_goals first
  |(simp at h;done)
  |exact Yn hk (CL _ _ _ _ _ _ _ _ _ _ h)
  |exact Yn hk (look_ok _ _ _ _ _ h)
  |(simp only[Stepped.next.injEq]at h;subst h;exact hk)
  |(repeat' first
   |(simp at h;done)
   |(simp only[Stepped.next.injEq]at h;subst h;exact hk)
   |(simp only[Stepped.next.injEq]at h;subst h;rename_i q;exact Yn hk (Nat.le_of_eq (M4 _ _ _ _ q).symm))
   |(simp only[Stepped.next.injEq]at h;subst h;rename_i q;rw[DK q];exact hk)
   |split at h)
def Wt (p:Program)(m m':Machine)(k:Nat)(h:serve p m k= .next m'):m.world.drawn<=m'.world.drawn:=by
 unfold serve at h;simp only[]at h
 repeat' first
  |(simp at h;done)
  |(simp only[Stepped.next.injEq]at h;subst h;exact Yt _)
  |split at h
def JW (n:Nat):Move->Prop
 | .goroutine m _=>n<=m.world.drawn
 | .machine (.next m) _=>n<=m.world.drawn
 | .machine _ _=>True
def CM {n:Nat}{p:Program}{m:Machine}{k:Nat}{ops:Array MemOp}(h:n<=m.world.drawn):JW n (.machine (serve p m k) ops):=by
 cases hs:serve p m k with
 |next m'=>exact Yn h (Wt _ _ _ _ hs)
 |ended o w=>trivial
def CN (p:Program)(m:Machine):JW m.world.drawn (askOn p m):=by
 unfold askOn;simp only[]
 repeat' first
  |trivial
  |(rename_i q;exact CM (fh q))
  |(rename_i q _;exact CM (fh q))
  |(
   simp only[JW]
   repeat' first
    |exact Yt _
    |refine Yn ?_ (fh ‹_›)
    |dsimp only[Machine.advanceTo]
   done)
  |split
def Wu (p:Program)(m:Machine):JW m.world.drawn (ask p m):=by
 unfold ask;have up:∀{a b:Nat} {v:Move},a<=b->JW b v->JW a v:=λ{a b v} h k=>by
  cases v with
  |goroutine m i=>exact Yn h k
  |machine s ops=>cases s<;>first|exact Yn h k|trivial
 split
 .split
  .trivial
  .rename_i q;split
   .rename_i q2;exact up (Yn (fh q) (look_ok _ _ _ _ _ q2)) (CN _ _)
   .rename_i q2;have:∀s:Stepped,(∀m,s≠ .next m)->JW m.world.drawn (.machine s):=λs hs=>by
     cases s with
     |next m=>exact absurd rfl (hs m)
     |ended o w=>trivial
    exact this _ λm' e=>q2 m' e
  .rename_i q;exact up (fh q) (CN _ {m with world:=_})
 .exact CN p m
def abq (p:Program)(m:Machine):JW m.world.drawn (move p m):=by
 unfold move
 repeat' first
  |trivial
  |exact Yt _
  |exact Wu p m
  |exact Wu p {m with rest:={m.rest with slice:=none}}
  |split
def M5 {p:Program}{m m':Machine}(h:step p m= .next m'):m.world.drawn<=m'.world.drawn:=by
 unfold step stepT at h;have hm:=abq p m;cases hv:move p m with
 |
  goroutine m2 i=>
  rw[hv]at h hm;exact Yn hm (abp _ _ _ _ _ h)
 |
  machine s ops=>
  rw[hv]at h hm;simp only at h;subst h;exact hm
def JX {p:Program}{m m':Machine}(h:Steps p m m'):m.world.drawn<=m'.world.drawn:=by
 obtain⟨n,hn⟩:=h
 induction n generalizing m with
 |
  zero=>
  simp only[runN,Stepped.next.injEq]at hn;subst hn;exact Yt _
 |
  succ n ih=>
  unfold runN at hn;cases hs:step p m with
  |
   next m1=>
   rw[hs]at hn;exact Yn (M5 hs) (ih hn)
  |
   ended o w=>
   rw[hs]at hn;cases hn
def JY {P:Program}{f:FuncId}{args:Array Value}{w:World}{R:Ending->World->Prop}(h:Calls P f args w R)(hR:∀w',¬R .outgrown w'):Calls P f args w λe w'=>R e w'/\w.drawn<=w'.drawn:=λcs=>by
 obtain⟨e,w',fr,h1,h2,h3⟩:=h cs;have hs:Steps P (lone (Frame.enter P f args .normal) cs w) (lone fr cs w'):=by
  cases e with
  |outgrown=>exact absurd h1 (hR w')
  |returned v=>exact h2
  |panicked c=>exact h2
 exact⟨e,w',fr,⟨h1,JX hs⟩,h2,h3⟩
end Go.Ae
