/- Part of the proof. -/
import Derived.Shelf.Strings.Search3
import Derived.Shelf.SlIter.Nil
import Derived.Shelf.SlGeneric
import Derived.Shelf.SortM.Plain
import Derived.Shelf.SortM.SortNone
import Derived.Ground.GgzProg
import Derived.Ground.SlgmProg
import Derived.Ground.SlsfProg
import Derived.Shelf.Strconv.Itoa0
import Derived.Shelf.Small.Bits
import Derived.Shelf.SlSortCmp.Whole1
import Derived.Shelf.SlSortCmp.WholeK
import Derived.Shelf.SlSortCmp.NoneTotal
import Derived.Calls
import Derived.StepT
import GoSem.Step
import Derived.StringKeys
import Derived.Test.YtmocfjnklfpnbaaGreatDoorP31
set_option linter.all false
def Go.gU{α:Type}{a:Option α}{b c:α}(h:a=some b)(e:b=c:=by kernel_rfl):a=some c:=h.trans (congrArg some e)
namespace Go.Proofs
open Go.Shelf Go.Proofs.Tryz
def Tryz.lays144_ren :Go.Shelf.Ren:=⟨λ|144=>296|143=>315|219=>329|217=>333|225=>334|224=>335|267=>336|266=>338|314=>339|n=>n,λ|9=>9|4=>4|3=>3|5=>5|46=>131|146=>334|51=>175|n=>n,λ|1=>1|n=>n⟩
def Tryz.lays144 :Go.Proofs.Lays.n144 Tryz.prog Tryz.lays144_ren:={
 mixed:=by kernel_rfl
 f143:=Go.gU Tryz.func315
 f144:=Go.gU Tryz.func296
 f217:=Go.gU Tryz.func333
 f219:=Go.gU Tryz.func329
 f224:=Go.gU Tryz.func335
 f225:=Go.gU Tryz.func334
 f266:=Go.gU Tryz.func338
 f267:=Go.gU Tryz.func336
 f314:=Go.gU Tryz.func339
 t3:=Tryz.underlying3
 a3:=Tryz.isAgg3
 z3:=Tryz.sizeOf3
 v3:=Tryz.zeroValue3
 t4:=Tryz.underlying4
 a4:=Tryz.isAgg4
 z4:=Tryz.sizeOf4
 v4:=Tryz.zeroValue4
 t5:=Tryz.underlying5
 a5:=Tryz.isAgg5
 z5:=Tryz.sizeOf5
 v5:=Tryz.zeroValue5
 t9:=Tryz.underlying9
 a9:=Tryz.isAgg9
 z9:=Tryz.sizeOf9
 v9:=Tryz.zeroValue9
 t46:=Tryz.underlying131
 a46:=Tryz.isAgg131
 z46:=Tryz.sizeOf131
 v46:=Tryz.zeroValue131
 t51:=Tryz.underlying175
 a51:=Tryz.isAgg175
 z51:=Tryz.sizeOf175
 v51:=Tryz.zeroValue175
 t146:=Tryz.underlying334
 a146:=Tryz.isAgg334
 z146:=Tryz.sizeOf334
 v146:=Tryz.zeroValue334
 g1:=by kernel_rfl}
def Tryz.keys225_ren :Go.Shelf.Ren:=⟨λ|7=>225|10=>281|n=>n,λ|23=>275|26=>9|3=>4|28=>278|0=>0|27=>277|33=>141|4=>4|n=>n,λ|n=>n⟩
def Tryz.keys225 :Go.Proofs.SlLaysZ.n7 Tryz.prog Tryz.keys225_ren:={
 mixed:=by kernel_rfl
 f7:=⟨Tryz.f225.name,by decide,Go.gU Tryz.func225⟩
 f10:=⟨Tryz.f281.name,by decide,Go.gU Tryz.func281⟩
 t0:=Tryz.underlying0
 a0:=Tryz.isAgg0
 z0:=Tryz.sizeOf0
 v0:=Tryz.zeroValue0
 t4:=Tryz.underlying4
 a4:=Tryz.isAgg4
 z4:=Tryz.sizeOf4
 v4:=Tryz.zeroValue4
 t23:=Tryz.underlying275
 a23:=Tryz.isAgg275
 z23:=Tryz.sizeOf275
 v23:=Tryz.zeroValue275
 t26:=Tryz.underlying9
 a26:=Tryz.isAgg9
 z26:=Tryz.sizeOf9
 v26:=Tryz.zeroValue9
 t27:=Tryz.underlying277
 a27:=Tryz.isAgg277
 z27:=Tryz.sizeOf277
 v27:=Tryz.zeroValue277
 t28:=Tryz.underlying278
 a28:=Tryz.isAgg278
 z28:=Tryz.sizeOf278
 v28:=Tryz.zeroValue278
 t33:=Tryz.underlying141
 a33:=Tryz.isAgg141
 z33:=Tryz.sizeOf141
 v33:=Tryz.zeroValue141}
def Tryz.sorted224_ren :Go.Shelf.Ren:=⟨λ|6=>224|8=>279|9=>280|11=>300|13=>49|12=>301|23=>95|24=>96|14=>316|15=>317|16=>318|17=>319|18=>320|19=>321|20=>251|21=>322|22=>323|25=>330|26=>153|27=>154|28=>331|29=>332|30=>72|31=>337|n=>n,λ|26=>9|28=>278|24=>47|0=>0|3=>3|37=>131|48=>175|50=>177|4=>4|40=>168|39=>167|45=>172|5=>5|9=>9|51=>223|55=>227|57=>283|58=>284|33=>141|n=>n,λ|n=>n⟩
def Tryz.sorted224 :Go.Proofs.SlLaysZ.n6 Tryz.prog Tryz.sorted224_ren:={
 mixed:=by kernel_rfl
 f6:=⟨Tryz.f224.name,by decide,Go.gU Tryz.func224⟩
 f8:=⟨Tryz.f279.name,by decide,Go.gU Tryz.func279⟩
 f11:=⟨Tryz.f300.name,by decide,Go.gU Tryz.func300⟩
 t0:=Tryz.underlying0
 a0:=Tryz.isAgg0
 z0:=Tryz.sizeOf0
 v0:=Tryz.zeroValue0
 t24:=Tryz.underlying47
 a24:=Tryz.isAgg47
 z24:=Tryz.sizeOf47
 v24:=Tryz.zeroValue47
 t26:=Tryz.underlying9
 a26:=Tryz.isAgg9
 z26:=Tryz.sizeOf9
 v26:=Tryz.zeroValue9
 t28:=Tryz.underlying278
 a28:=Tryz.isAgg278
 z28:=Tryz.sizeOf278
 v28:=Tryz.zeroValue278
 i26:=by kernel_rfl}
def Tryz.sort280_ren :Go.Shelf.Ren:=⟨λ|6=>280|8=>49|9=>301|19=>95|20=>96|21=>316|22=>317|23=>318|24=>319|25=>320|26=>321|27=>251|28=>322|29=>323|36=>330|31=>153|32=>154|37=>331|38=>332|39=>72|41=>337|n=>n,λ|27=>47|29=>9|3=>3|32=>131|26=>47|0=>0|44=>175|46=>177|4=>4|36=>168|35=>167|41=>172|5=>5|9=>9|53=>223|57=>227|63=>283|64=>284|n=>n,λ|n=>n⟩
def Tryz.sort280 :Go.Proofs.SlLaysM.n6 Tryz.prog Tryz.sort280_ren:={
 mixed:=by kernel_rfl
 f6:=⟨Tryz.f280.name,by decide,Go.gU Tryz.func280⟩
 f8:=Go.gU Tryz.func49
 f9:=⟨Tryz.f301.name,by decide,Go.gU Tryz.func301⟩
 f19:=Go.gU Tryz.func95
 f20:=Go.gU Tryz.func96
 f21:=⟨Tryz.f316.name,by decide,Go.gU Tryz.func316⟩
 f22:=⟨Tryz.f317.name,by decide,Go.gU Tryz.func317⟩
 f23:=⟨Tryz.f318.name,by decide,Go.gU Tryz.func318⟩
 f24:=⟨Tryz.f319.name,by decide,Go.gU Tryz.func319⟩
 f25:=⟨Tryz.f320.name,by decide,Go.gU Tryz.func320⟩
 f26:=⟨Tryz.f321.name,by decide,Go.gU Tryz.func321⟩
 f27:=⟨Tryz.f251.name,by decide,Go.gU Tryz.func251⟩
 f28:=⟨Tryz.f322.name,by decide,Go.gU Tryz.func322⟩
 f29:=⟨Tryz.f323.name,by decide,Go.gU Tryz.func323⟩
 f31:=Go.gU Tryz.func153
 f32:=Go.gU Tryz.func154
 f36:=⟨Tryz.f330.name,by decide,Go.gU Tryz.func330⟩
 f37:=⟨Tryz.f331.name,by decide,Go.gU Tryz.func331⟩
 f38:=⟨Tryz.f332.name,by decide,Go.gU Tryz.func332⟩
 f39:=⟨Tryz.f72.name,by decide,Go.gU Tryz.func72⟩
 f41:=⟨Tryz.f337.name,by decide,Go.gU Tryz.func337⟩
 t0:=Tryz.underlying0
 a0:=Tryz.isAgg0
 z0:=Tryz.sizeOf0
 v0:=Tryz.zeroValue0
 t3:=Tryz.underlying3
 a3:=Tryz.isAgg3
 z3:=Tryz.sizeOf3
 v3:=Tryz.zeroValue3
 t4:=Tryz.underlying4
 a4:=Tryz.isAgg4
 z4:=Tryz.sizeOf4
 v4:=Tryz.zeroValue4
 t5:=Tryz.underlying5
 a5:=Tryz.isAgg5
 z5:=Tryz.sizeOf5
 v5:=Tryz.zeroValue5
 t9:=Tryz.underlying9
 a9:=Tryz.isAgg9
 z9:=Tryz.sizeOf9
 v9:=Tryz.zeroValue9
 t26:=Tryz.underlying47
 a26:=Tryz.isAgg47
 z26:=Tryz.sizeOf47
 v26:=Tryz.zeroValue47
 t27:=Tryz.underlying47
 a27:=Tryz.isAgg47
 z27:=Tryz.sizeOf47
 v27:=Tryz.zeroValue47
 t29:=Tryz.underlying9
 a29:=Tryz.isAgg9
 z29:=Tryz.sizeOf9
 v29:=Tryz.zeroValue9
 t32:=Tryz.underlying131
 a32:=Tryz.isAgg131
 z32:=Tryz.sizeOf131
 v32:=Tryz.zeroValue131
 t35:=Tryz.underlying167
 a35:=Tryz.isAgg167
 z35:=Tryz.sizeOf167
 v35:=Tryz.zeroValue167
 t36:=Tryz.underlying168
 a36:=Tryz.isAgg168
 z36:=Tryz.sizeOf168
 v36:=Tryz.zeroValue168
 t41:=Tryz.underlying172
 a41:=Tryz.isAgg172
 z41:=Tryz.sizeOf172
 v41:=Tryz.zeroValue172
 t44:=Tryz.underlying175
 a44:=Tryz.isAgg175
 z44:=Tryz.sizeOf175
 v44:=Tryz.zeroValue175
 t46:=Tryz.underlying177
 a46:=Tryz.isAgg177
 z46:=Tryz.sizeOf177
 v46:=Tryz.zeroValue177
 t53:=Tryz.underlying223
 a53:=Tryz.isAgg223
 z53:=Tryz.sizeOf223
 v53:=Tryz.zeroValue223
 t57:=Tryz.underlying227
 a57:=Tryz.isAgg227
 z57:=Tryz.sizeOf227
 v57:=Tryz.zeroValue227
 t63:=Tryz.underlying283
 a63:=Tryz.isAgg283
 z63:=Tryz.sizeOf283
 v63:=Tryz.zeroValue283
 t64:=Tryz.underlying284
 a64:=Tryz.isAgg284
 z64:=Tryz.sizeOf284
 v64:=Tryz.zeroValue284}
def Tryz.laysSlF014_f48_ren :Go.Shelf.Ren:=⟨λ|14=>48|20=>87|21=>88|22=>89|23=>90|24=>91|25=>92|26=>93|27=>94|46=>152|47=>153|48=>154|49=>155|50=>156|15=>49|57=>229|28=>95|29=>96|n=>n,λ|24=>37|22=>27|3=>3|25=>79|4=>4|0=>0|46=>168|45=>167|50=>172|66=>223|39=>131|55=>177|70=>227|76=>283|77=>284|53=>175|5=>5|9=>9|n=>n,λ|n=>n⟩
def Tryz.laysSlF014_f48 :Go.Proofs.SlLaysF0.n14 Tryz.prog Tryz.laysSlF014_f48_ren:={
 mixed:=by kernel_rfl
 f14:=⟨Tryz.f48.name,by decide,Go.gU Tryz.func48⟩
 f15:=Go.gU Tryz.func49
 f20:=⟨Tryz.f87.name,by decide,Go.gU Tryz.func87⟩
 f21:=⟨Tryz.f88.name,by decide,Go.gU Tryz.func88⟩
 f22:=⟨Tryz.f89.name,by decide,Go.gU Tryz.func89⟩
 f23:=⟨Tryz.f90.name,by decide,Go.gU Tryz.func90⟩
 f24:=⟨Tryz.f91.name,by decide,Go.gU Tryz.func91⟩
 f25:=⟨Tryz.f92.name,by decide,Go.gU Tryz.func92⟩
 f26:=⟨Tryz.f93.name,by decide,Go.gU Tryz.func93⟩
 f27:=⟨Tryz.f94.name,by decide,Go.gU Tryz.func94⟩
 f28:=Go.gU Tryz.func95
 f29:=Go.gU Tryz.func96
 f46:=⟨Tryz.f152.name,by decide,Go.gU Tryz.func152⟩
 f47:=Go.gU Tryz.func153
 f48:=Go.gU Tryz.func154
 f49:=⟨Tryz.f155.name,by decide,Go.gU Tryz.func155⟩
 f50:=⟨Tryz.f156.name,by decide,Go.gU Tryz.func156⟩
 f57:=⟨Tryz.f229.name,by decide,Go.gU Tryz.func229⟩
 t0:=Tryz.underlying0
 a0:=Tryz.isAgg0
 z0:=Tryz.sizeOf0
 v0:=Tryz.zeroValue0
 t3:=Tryz.underlying3
 a3:=Tryz.isAgg3
 z3:=Tryz.sizeOf3
 v3:=Tryz.zeroValue3
 t4:=Tryz.underlying4
 a4:=Tryz.isAgg4
 z4:=Tryz.sizeOf4
 v4:=Tryz.zeroValue4
 t5:=Tryz.underlying5
 a5:=Tryz.isAgg5
 z5:=Tryz.sizeOf5
 v5:=Tryz.zeroValue5
 t9:=Tryz.underlying9
 a9:=Tryz.isAgg9
 z9:=Tryz.sizeOf9
 v9:=Tryz.zeroValue9
 t22:=Tryz.underlying27
 a22:=Tryz.isAgg27
 z22:=Tryz.sizeOf27
 v22:=Tryz.zeroValue27
 t25:=Tryz.underlying79
 a25:=Tryz.isAgg79
 z25:=Tryz.sizeOf79
 v25:=Tryz.zeroValue79
 t39:=Tryz.underlying131
 a39:=Tryz.isAgg131
 z39:=Tryz.sizeOf131
 v39:=Tryz.zeroValue131
 t45:=Tryz.underlying167
 a45:=Tryz.isAgg167
 z45:=Tryz.sizeOf167
 v45:=Tryz.zeroValue167
 t46:=Tryz.underlying168
 a46:=Tryz.isAgg168
 z46:=Tryz.sizeOf168
 v46:=Tryz.zeroValue168
 t50:=Tryz.underlying172
 a50:=Tryz.isAgg172
 z50:=Tryz.sizeOf172
 v50:=Tryz.zeroValue172
 t53:=Tryz.underlying175
 a53:=Tryz.isAgg175
 z53:=Tryz.sizeOf175
 v53:=Tryz.zeroValue175
 t55:=Tryz.underlying177
 a55:=Tryz.isAgg177
 z55:=Tryz.sizeOf177
 v55:=Tryz.zeroValue177
 t66:=Tryz.underlying223
 a66:=Tryz.isAgg223
 z66:=Tryz.sizeOf223
 v66:=Tryz.zeroValue223
 t70:=Tryz.underlying227
 a70:=Tryz.isAgg227
 z70:=Tryz.sizeOf227
 v70:=Tryz.zeroValue227
 t76:=Tryz.underlying283
 a76:=Tryz.isAgg283
 z76:=Tryz.sizeOf283
 v76:=Tryz.zeroValue283
 t77:=Tryz.underlying284
 a77:=Tryz.isAgg284
 z77:=Tryz.sizeOf284
 v77:=Tryz.zeroValue284}
def Tryz.lays125_ren :Go.Shelf.Ren:=⟨λ|125=>49|128=>95|129=>96|n=>n,λ|46=>131|3=>3|51=>175|53=>177|4=>4|5=>5|9=>9|n=>n,λ|n=>n⟩
def Tryz.lays125 :Go.Proofs.Lays.n125 Tryz.prog Tryz.lays125_ren:={
 mixed:=by kernel_rfl
 f125:=Go.gU Tryz.func49
 f128:=Go.gU Tryz.func95
 f129:=Go.gU Tryz.func96
 t3:=Tryz.underlying3
 a3:=Tryz.isAgg3
 z3:=Tryz.sizeOf3
 v3:=Tryz.zeroValue3
 t4:=Tryz.underlying4
 a4:=Tryz.isAgg4
 z4:=Tryz.sizeOf4
 v4:=Tryz.zeroValue4
 t5:=Tryz.underlying5
 a5:=Tryz.isAgg5
 z5:=Tryz.sizeOf5
 v5:=Tryz.zeroValue5
 t9:=Tryz.underlying9
 a9:=Tryz.isAgg9
 z9:=Tryz.sizeOf9
 v9:=Tryz.zeroValue9
 t46:=Tryz.underlying131
 a46:=Tryz.isAgg131
 z46:=Tryz.sizeOf131
 v46:=Tryz.zeroValue131
 t51:=Tryz.underlying175
 a51:=Tryz.isAgg175
 z51:=Tryz.sizeOf175
 v51:=Tryz.zeroValue175
 t53:=Tryz.underlying177
 a53:=Tryz.isAgg177
 z53:=Tryz.sizeOf177
 v53:=Tryz.zeroValue177}
open Go.RowKit Go.Lib in
def Tryz.strings_Contains(s sub:ByteArray)(m:Int)(w:World)(hs:s.size<4294967281)(hm:w.cell? ⟨1,0,none⟩=some (.int .i64 m)):
 Calls Tryz.prog 296 #[.string s,.string sub] w λe w'=>e= .returned (.bool (Lib.contains s.data.toList sub.data.toList))/\w'=w:=Any.strings_Contains Tryz.lays144 s sub m w hs hm
open Go.RowKit Go.Maps Go.Sort in
def Tryz.sorts224(m:Nat):AnyZ.SortsIn Tryz.prog Tryz.sorted224_ren Fence.wide m:=
 ⟨λkm off cap ss W hH hblk ik=>callsIn_wide.2 (AnyM.slices_Sort_string Tryz.sort280 km off cap ss W hH hblk ik),
  λp cap W=>callsIn_wide.2 (AnyM.slices_Sort_string_none Tryz.sort280 p cap W)⟩
open Go.RowKit Go.Lib in
def Tryz.bits_Len(x:Int)(w:World)(h0:0<=x)(h1:x<=18446744073709551615):
 Calls Tryz.prog 49 #[.int .u64 x] w λe w'=>e= .returned (.int .i64 (Lib.bitLen x.toNat))/\w'=w:=Any.bits_Len Tryz.lays125 x w h0 h1
end Go.Proofs
namespace Go.Ae
open Go
def uQ{α:Type}:Result α->World
 | .ok _ w=>w
 | .halt _ w=>w
def Kn{α:Type}:∀(a:Ask α)(w:World),w.drawn<=(w.ask a).2.drawn
 | .done a,w=>by unfold World.ask;exact Yq _
 |
  .ask what range k,w=>by
  unfold World.ask;simp only;split
  .exact Kn (k 0) w
  .exact Yj (Nat.le_succ _) (Kn (k _) {w with drawn:=w.drawn+1})
def acg(w:World)(c:Sys):w.drawn<=(w.sys c).2.drawn:=by
 unfold World.sys;have:=Kn (Kernel.perform c w.os) w;split
 .exact Yq _
 .rename_i h;rw[h]at this;exact this
def Ff{w w':World}{p:Program}{at_:Addr}{u:TypeId}{a:Addr}{v:Value}{b:Bool}{c:List Addr}(h:w.viewStore p at_ u a v b= .ok (w',c)):w'.drawn=w.drawn:=by
 unfold World.viewStore at h;simp only[bind,Except.bind,pure,Except.pure]at h
 repeat' first
  |(cases h;done)
  |(simp only[Except.ok.injEq,Zg]at h;obtain⟨rfl,_⟩:=h;rfl)
  |split at h
def H5{w w':World}{p:Program}{a:Addr}{v:Value}{b:Bool}{c:List Addr}(h:w.farStore p a v b= .ok (w',c)):w'.drawn=w.drawn:=by
 unfold World.farStore at h;split at h
 .split at h
  .rename_i q;cases h;exact Ff q
  .cases h
 .cases h
def Ov(w:World)(a:Addr)(n:Nat):(w.freeze a n).drawn=w.drawn:=by
 unfold World.freeze;split<;>rfl
def j7{α:Type}(p:Program):∀(s:Sem α)(w:World),w.drawn<=(uQ (s.run p w)).drawn
 | .pure a,w=>Yq _
 |
  .load m a k,w=>by
  unfold Sem.run;split
  .exact j7 p _ w
  .split
   .exact j7 p _ w
   .exact Yq _
 |
  .store m a v k,w=>by
  have hn:∀v,w.drawn<=(uQ (match w.cell? a with
   |some _=>if w.frozen? a then Result.halt (.unsupported (.unsafePointer "a write to bytes that a string shares")) w else k.run p (w.setCell a v)
   |
    none=>match w.farStore p a v (m== .atomic)with
    | .ok (w,_)=>k.run p w
    | .error h=> .halt h w)).drawn:=λv=>by
   split
   .split
    .exact Yq _
    .exact j7 p k (w.setCell a v)
   .split
    .rename_i h;rw[<-H5 h];exact j7 p k _
    .exact Yq _
  cases v
  all_goals first
   |exact Yq _
   |(unfold Sem.run;exact hn _)
 | .new o k,w=>j7 p (k w.heap.size) {w with heap:=w.heap.push o}
 | .shape r k,w=>j7 p (k (w.shape? r)) w
 |
  .freeze a n k,w=>by
  have:=j7 p k (w.freeze a n);rw[Ov]at this;exact this
 | .frozen a k,w=>j7 p (k (w.frozen? a)) w
 |
  .getObj r k,w=>by
  unfold Sem.run;split
  .exact Yq _
  .exact j7 p _ w
  .exact Yq _
 |
  .setObj r o k,w=>by
  unfold Sem.run;split
  .exact Yq _
  .exact j7 p k {w with heap:=w.heap.setIfInBounds r o}
  .exact Yq _
 |
  .choose q k,w=>by
  unfold Sem.run;split
  .exact j7 p _ w
  .exact Yj (Nat.le_succ _) (j7 p (k _) {w with drawn:=w.drawn+1})
 | .sys c k,w=>Yj (acg w c) (j7 p (k (w.sys c).1) (w.sys c).2)
 | .program k,w=>j7 p (k p) w
 | .mark _ k,w=>j7 p k w
 | .halt h,w=>Yq _
def er{α:Type}{p:Program}{s:Sem α}{w w':World}{a:α}(h:s.run p w= .ok a w'):w.drawn<=w'.drawn:=by
 have:=j7 p s w;rw[h]at this;exact this
def run_halt{α:Type}{p:Program}{s:Sem α}{w w':World}{a:Halt}(h:s.run p w= .halt a w'):w.drawn<=w'.drawn:=by
 have:=j7 p s w;rw[h]at this;exact this
def oC(w:World):GStep->Prop
 | .go _ w' _=>w.drawn<=w'.drawn
 | .comm _ _ _ _ w' _=>w.drawn<=w'.drawn
 | .spawn _ _ w' _=>w.drawn<=w'.drawn
 | .count _ w' _=>w.drawn<=w'.drawn
 | .timer _ _ w' _=>w.drawn<=w'.drawn
 | .alone _ _ w' _=>w.drawn<=w'.drawn
 | .newcoro _ _ _ w' _=>w.drawn<=w'.drawn
 | .coroswitch _ _ _ w' _=>w.drawn<=w'.drawn
 | .collect _ w' _=>w.drawn<=w'.drawn
 | .watch _ w' _=>w.drawn<=w'.drawn
 | .ended _ _ _=>True
def oC.up{w w':World}{s:GStep}(h:oC w' s)(hw:w.drawn<=w'.drawn):oC w s:=by
 cases s<;>first|trivial|exact Yj hw h
@[simp] def mr{w:World}{s:GStep}(es:Array Event):oC w (GStep.after es s)↔oC w s:=by
 cases s<;>exact Iff.rfl
def Ko(w:World)(fd:Nat)(t:ByteArray)(o:Outcome):oC w (endWith w fd t o):=by
 unfold endWith;simp only
 repeat' first
  |trivial
  |split
def oZ(fr:Frame)(m:String)(w:World):oC w (endThrow fr m w):=Yq _
def sM(p:Program)(fr:Frame)(v:Value)(w:World):oC w (endPrinting p fr v w):=by
 unfold endPrinting;simp only
 repeat' first
  |trivial
  |exact oZ _ _ _
  |split
def ym(p:Program)(fr:Frame)(cs:List Frame)(d:Option Dying)(m:String)(w:World):oC w (endFatal p fr cs d m w):=by
 unfold endFatal;simp only;generalize(match d,((fr::cs).filter (·.fn<p.funcs.size)).flatMap λf=>match f.mode with| .panicking c=>c|_=> []with
  |none,[]=>_
  |none,e::older=>_
  |some d,[]=>_
  |some _,_::_=>_:Sem (List (ByteArray × String) × List ByteArray))=s
 split
 .rename_i h;exact er h
 .trivial
 .trivial
def Kp(p:Program)(fr:Frame)(d:Dying)(f:Fatal)(w:World):oC w (writeOn p fr d f w):=by
 unfold writeOn;simp only[Sem.runT_eq];split
 .trivial
 .split
  .rename_i h;simp only[Zg]at h;exact er h.1
  .rename_i h;simp only[Zg]at h;exact run_halt h.1
  .trivial
  .trivial
def ach(p:Program)(fr:Frame)(d:Dying)(w:World):oC w (die p fr d w):=by
 unfold die;simp only[Sem.runT_eq]
 repeat' first
  |trivial
  |exact Kp _ _ _ _ _
  |exact Ko _ _ _ _
  |exact Yq _
  |(rename_i h;exact er h)
  |(rename_i h _;exact er h)
  |(rename_i h _ _;exact er h)
  |(rename_i h _ _ _;exact er h)
  |(rename_i h _ _ _ _;exact er h)
  |(rename_i h _ _ _ _ _;exact er h)
  |(rename_i h _ _ _ _ _ _;exact er h)
  |(rename_i h _ _ _ _ _ _ _;exact er h)
  |(rename_i h _ _ _ _ _ _ _ _;exact er h)
  |(rename_i h;exact(sM _ _ _ _).up (run_halt h))
  |simp only[mr]
  |split
def H6(p:Program)(fr:Frame)(cs:List Frame)(d:Option Dying)(g:Nat)(w:World):oC w (early p fr cs d g w):=by
 unfold early;simp only
 repeat' first
  |trivial
  |exact Yq _
  |(rename_i h;exact er h)
  |(rename_i h _;exact er h)
  |(rename_i h _ _;exact er h)
  |(rename_i h _ _ _;exact er h)
  |(rename_i h _ _ _ _;exact er h)
  |(rename_i h _ _ _ _ _;exact er h)
  |(rename_i h _ _ _ _ _ _;exact er h)
  |(rename_i h _ _ _ _ _ _ _;exact er h)
  |(rename_i h _ _ _ _ _ _ _ _;exact er h)
  |(rename_i h _ _ _ _;have:=er h;exact this)
  |simp only[mr]
  |split
def sN(p:Program)(b:Bool)(fr:Frame)(cs:List Frame)(d:Option Dying)(v:Value)(w:World):oC w (doReturn p b fr cs d v w):=by
 unfold doReturn;simp only
 repeat' first
  |trivial
  |exact Yq _
  |split
def yU(p:Program)(fr:Frame)(cs:List Frame)(d:Option Dying)(df:Deferred)(w:World):oC w (callDeferred p fr cs d df w):=by
 unfold callDeferred;simp only[Sem.runT_eq]
 repeat' first
  |trivial
  |exact Yq _
  |(rename_i h;exact er h)
  |(rename_i h _;exact er h)
  |(rename_i h _ _;exact er h)
  |(rename_i h _ _ _;exact er h)
  |(rename_i h _ _ _ _;exact er h)
  |(rename_i h _ _ _ _ _;exact er h)
  |(rename_i h _ _ _ _ _ _;exact er h)
  |(rename_i h _ _ _ _ _ _ _;exact er h)
  |(rename_i h _ _ _ _ _ _ _ _;exact er h)
  |(rename_i h;exact run_halt h)
  |(rename_i h _;exact run_halt h)
  |(rename_i h _ _;exact run_halt h)
  |(rename_i h;exact(ym _ _ _ _ _ _).up (run_halt h))
  |(rename_i h;exact(oZ _ _ _).up (run_halt h))
  |simp only[mr]
  |split
def Ow(p:Program)(b:Bool)(fr:Frame)(cs:List Frame)(d:Option Dying)(w:World):oC w (unwind p b fr cs d w):=by
 unfold unwind;simp only[Sem.runT_eq]
 repeat' first
  |trivial
  |exact Yq _
  |exact yU _ _ _ _ _ _
  |exact sN _ _ _ _ _ _ _
  |exact sM _ _ _ _
  |(rename_i h;exact er h)
  |(rename_i h _;exact er h)
  |(rename_i h _ _;exact er h)
  |(rename_i h;exact(sN _ _ _ _ _ _ _).up (er h))
  |simp only[mr]
  |split
def Bq(p:Program)(b:Bool)(fr:Frame)(cs:List Frame)(d:Option Dying)(s:Sem Next)(w:World):oC w (stepG.apply p b fr cs d s w):=by
 unfold stepG.apply;have hk:=j7 p s w;have h2:(if b=true then s.runT p w #[]else(s.run p w,#[])).1=s.run p w:=by cases b<;>simp[Sem.runT_eq]
 simp only[mr];generalize(if b=true then s.runT p w #[]else(s.run p w,#[]))=re at h2|-;obtain⟨r,es⟩:=re;simp only at h2;subst h2;simp only;generalize s.run p w=r at hk|-;cases r with
 |ok a w'=>
  have kD:w.drawn<=w'.drawn:=hk;cases a<;>(try simp only)<;>repeat' first
   |exact kD
   |exact(oZ _ _ _).up kD
   |trivial
   |split
 |halt a w'=>
  have kD:w.drawn<=w'.drawn:=hk;cases a<;>(try simp only)<;>repeat' first
   |exact kD
   |exact(oZ _ _ _).up kD
   |exact(ym _ _ _ _ _ _).up kD
   |exact(H6 _ _ _ _ _ _).up kD
   |trivial
   |(rename_i q;cases q;done)
   |(rename_i q;cases q;exact(H6 _ _ _ _ _ _).up kD)
   |split
def XW(p:Program)(b:Bool)(fr:Frame)(cs:List Frame)(d:Option Dying)(w:World):oC w (stepG.oper p b fr cs d w):=by
 unfold stepG.oper;split
 .trivial
 .split<;>exact Bq _ _ _ _ _ _ _
def XY{α:Type}{w:World}(o:Option α)(a:GStep)(f:α->GStep)(h0:oC w a)(h:∀x,oC w (f x)):oC w (o.elim a f):=by
 cases o<;>first|exact h0|exact h _
def XZ(p:Program)(main b:Bool)(fr:Frame)(cs:List Frame)(d:Option Dying)(w:World):oC w (stepG.exec p main b fr cs d w):=by
 unfold stepG.exec;simp only[Sem.runT_eq]
 repeat' first
  |trivial
  |exact Yq _
  |exact Bq _ _ _ _ _ _ _
  |exact XW _ _ _ _ _ _
  |(rename_i h;exact(Bq _ _ _ _ _ _ _).up (er h))
  |(rename_i h;exact(sN _ _ _ _ _ _ _).up (er h))
  |(rename_i h;exact er h)
  |(rename_i h;exact run_halt h)
  |simp only[mr]
  |refine XY _ _ _ ?_ λ_=>?_
  |split
def Tw(p:Program)(main:Bool)(g:Goroutine)(w:World)(b:Bool):oC w (stepG p main g w b):=by
 obtain⟨fr,callers,status,dying,offers⟩:=g;simp only[stepG];split
 .exact ach _ _ _ _
 .exact XZ _ _ _ _ _ _ _
 .exact Ow _ _ _ _ _ _
def Fg{rest:Rest}{cs:Array CommCase}{w w':World}(h:waitingAt rest cs w=some w'):w'.drawn=w.drawn:=by
 unfold waitingAt at h;split at h
 .split at h
  .cases h;rfl
  .cases h
 .cases h;rfl
def Br(p:Program)(rest:Rest)(gs:Array Goroutine)(i:Nat)(g:Goroutine)(cases:Array CommCase)(bl:Bool)(sh:CommShape)(w:World)(m':Machine)(h:(communicate p rest gs i g cases bl sh w).1= .next m'):w.drawn<=m'.world.drawn:=by
 unfold communicate at h;simp only[]at h
 repeat' first
  |(simp at h;done)
  |(simp only[Stepped.next.injEq]at h;subst h;exact Yq _)
  |(simp only[Stepped.next.injEq]at h;subst h;rename_i q;exact Nat.le_of_eq (Fg q).symm)
  |(
   simp only[Stepped.next.injEq]at h;subst h;dsimp only
   repeat' first
    |exact Yq _
    |refine Yj ?_ (er ‹_›)
    |refine Yj ?_ (run_halt ‹_›)
   done)
  |split at h
def look_ok(p:Program)(gs:Array Goroutine)(rest:Rest)(w:World)(m':Machine)(h:look p gs rest w= .next m'):w.drawn<=m'.world.drawn:=by
 unfold look at h;simp only[]at h
 repeat' first
  |(simp at h;done)
  |(simp only[Stepped.next.injEq]at h;subst h;rename_i q;have:=er q;exact this)
  |split at h
def Tx(w:World)(c:Nat):(drain w c).2.drawn=w.drawn:=by
 unfold drain;split<;>rfl
def Ox(m:Machine)(k:Nat)(t:Timer)(a b:Nat):(retime m k t a b).2.world.drawn=m.world.drawn:=by
 unfold retime;cases t.chan with
 |none=>rfl
 |some c=>exact Tx _ _
def DE{m m':Machine}{k:Nat}{t:Timer}{a b:Nat}{v:Value}(h:retime m k t a b=(v,m')):m'.world.drawn=m.world.drawn:=by
 have:=Ox m k t a b;rw[h]at this;exact this
def Kq(m m':Machine)(op:TimerOp)(v:Value)(h:timerOp m op= .ok (v,m')):m'.world.drawn=m.world.drawn:=by
 unfold timerOp at h;split at h
 .split at h
  .simp only[Except.ok.injEq,Zg]at h;rw[<-h.2];rfl
  .split at h
   .split at h
    .cases h
    .simp only[Except.ok.injEq,Zg]at h;rw[<-h.2]
   .cases h
 .unfold timerOp.named at h;split at h
  .simp only[Except.ok.injEq]at h;exact DE h
  .cases h
 .split at h
  .rename_i m2 hm;have e:m2.world.drawn=m.world.drawn:=by
    unfold timerOp.opened at hm;split at hm
    .split at hm
     .cases hm;rfl
     .cases hm
    .cases hm;rfl
   unfold timerOp.named at h;split at h
   .simp only[Except.ok.injEq]at h;rw[<-e];exact DE h
   .cases h
  .cases h
 .simp only[Except.ok.injEq,Zg]at h;rw[<-h.2];rfl
def Cw{fr:Frame}{m:String}{w w':World}{g:Goroutine}{es:Array Event}(h:endThrow fr m w= .go g w' es):w'=w:=by
 unfold endThrow dieOf at h;simp only[GStep.go.injEq]at h;exact h.2.1.symm
def X0(p:Program)(m m':Machine)(i:Nat)(b:Bool)(h:(runT p m i b).1= .next m'):m.world.drawn<=m'.world.drawn:=by
 simp only[runT]at h
 revert h
 generalize m.gs.swapAt! _ _=gg
 have hk:=Tw p (i==0) gg.1 m.world b
 revert hk
 generalize stepG p _ gg.1 m.world b=s;intro hk h;cases s<;>simp only[]at h
 all_goals first
  |(simp at h;done)
  |exact Yj hk (Br _ _ _ _ _ _ _ _ _ _ h)
  |exact Yj hk (look_ok _ _ _ _ _ h)
  |(simp only[Stepped.next.injEq]at h;subst h;exact hk)
  |(repeat' first
   |(simp at h;done)
   |(simp only[Stepped.next.injEq]at h;subst h;exact hk)
   |(simp only[Stepped.next.injEq]at h;subst h;rename_i q;exact Yj hk (Nat.le_of_eq (Kq _ _ _ _ q).symm))
   |(simp only[Stepped.next.injEq]at h;subst h;rename_i q;rw[Cw q];exact hk)
   |split at h)
def Ty(p:Program)(m m':Machine)(k:Nat)(h:serve p m k= .next m'):m.world.drawn<=m'.world.drawn:=by
 unfold serve at h;simp only[]at h
 repeat' first
  |(simp at h;done)
  |(simp only[Stepped.next.injEq]at h;subst h;exact Yq _)
  |split at h
def H7(n:Nat):Move->Prop
 | .goroutine m _=>n<=m.world.drawn
 | .machine (.next m) _=>n<=m.world.drawn
 | .machine _ _=>True
def Bt{n:Nat}{p:Program}{m:Machine}{k:Nat}{ops:Array MemOp}(h:n<=m.world.drawn):H7 n (.machine (serve p m k) ops):=by
 cases hs:serve p m k with
 |next m'=>exact Yj h (Ty _ _ _ _ hs)
 |ended o w=>trivial
def Bu(p:Program)(m:Machine):H7 m.world.drawn (askOn p m):=by
 unfold askOn;simp only[]
 repeat' first
  |trivial
  |(rename_i q;exact Bt (er q))
  |(rename_i q _;exact Bt (er q))
  |(
   simp only[H7]
   repeat' first
    |exact Yq _
    |refine Yj ?_ (er ‹_›)
    |dsimp only[Machine.advanceTo]
   done)
  |split
def Tz(p:Program)(m:Machine):H7 m.world.drawn (ask p m):=by
 unfold ask;have up:∀{a b:Nat}{v:Move},a<=b->H7 b v->H7 a v:=λ{a b v}h k=>by
  cases v with
  |goroutine m i=>exact Yj h k
  |machine s ops=>cases s<;>first|exact Yj h k|trivial
 split
 .split
  .trivial
  .rename_i q;split
   .rename_i q2;exact up (Yj (er q) (look_ok _ _ _ _ _ q2)) (Bu _ _)
   .rename_i q2;have:∀s:Stepped,(∀m,s≠ .next m)->H7 m.world.drawn (.machine s):=λs hs=>by
     cases s with
     |next m=>exact absurd rfl (hs m)
     |ended o w=>trivial
    exact this _ λm' e=>q2 m' e
  .rename_i q;exact up (er q) (Bu _ {m with world:=_})
 .exact Bu p m
def X1(p:Program)(m:Machine):H7 m.world.drawn (move p m):=by
 unfold move
 repeat' first
  |trivial
  |exact Yq _
  |exact Tz p m
  |exact Tz p {m with rest:={m.rest with slice:=none}}
  |split
def Kr{p:Program}{m m':Machine}(h:step p m= .next m'):m.world.drawn<=m'.world.drawn:=by
 unfold step stepT at h;have hm:=X1 p m;cases hv:move p m with
 |goroutine m2 i=>
  rw[hv]at h hm;exact Yj hm (X0 _ _ _ _ _ h)
 |machine s ops=>
  rw[hv]at h hm;simp only at h;subst h;exact hm
def H8{p:Program}{m m':Machine}(h:Steps p m m'):m.world.drawn<=m'.world.drawn:=by
 obtain⟨n,hn⟩:=h
 induction n generalizing m with
 |
  zero=>
  simp only[runN,Stepped.next.injEq]at hn;subst hn;exact Yq _
 |succ n ih=>
  unfold runN at hn;cases hs:step p m with
  |next m1=>
   rw[hs]at hn;exact Yj (Kr hs) (ih hn)
  |ended o w=>
   rw[hs]at hn;cases hn
def H9{P:Program}{f:FuncId}{args:Array Value}{w:World}{R:Ending->World->Prop}(h:Calls P f args w R)(hR:∀w',¬R .outgrown w'):Calls P f args w λe w'=>R e w'/\w.drawn<=w'.drawn:=λcs=>by
 obtain⟨e,w',fr,h1,h2,h3⟩:=h cs;have hs:Steps P (lone (Frame.enter P f args .normal) cs w) (lone fr cs w'):=by
  cases e with
  |outgrown=>exact absurd h1 (hR w')
  |returned v=>exact h2
  |panicked c=>exact h2
 exact⟨e,w',fr,⟨h1,H8 hs⟩,h2,h3⟩
end Go.Ae
namespace Go.Proofs.YtmocfjnklfpnbaaGreatDoor
open Go Go.Ae Go.RowKit Go.Maps Go.Sort Go.Shelf Go.Proofs.Tryz
def insert_perm{H:Type}(x:Lit × DataW H):∀l:List (Lit × DataW H),(DataW.insert x l).Perm (x::l)
 | []=> .refl _
 |
  y::r=>by
  unfold DataW.insert;split
  .exact .refl _
  .exact((insert_perm x r).cons y).trans (.swap x y r)
def u4{H:Type}:∀l:List (Lit × DataW H),(l.foldr DataW.insert []).Perm l
 | []=> .refl _
 |x::l=>(insert_perm x _).trans ((u4 l).cons x)
def X2(s:ByteArray):List UInt8:=s.data.toList
def xM(x:ByteArray):∀l:List ByteArray,(D_ x l).Perm (x::l)
 | []=> .refl _
 |
  y::r=>by
  unfold D_;split
  .exact .refl _
  .exact((xM x r).cons y).trans (.swap x y r)
def u5 :∀l:List ByteArray,(oI l).Perm l
 | []=> .refl _
 |x::l=>(xM x _).trans ((u5 l).cons x)
def yp(x:ByteArray):∀l:List ByteArray,l.Pairwise (λa b=>leS a b=true)->(D_ x l).Pairwise (λa b=>leS a b=true)
 | [],_=>List.pairwise_singleton _ _
 |
  y::r,h=>by
  unfold D_;have h1:=List.pairwise_cons.1 h;split
  .rename_i hxy;refine List.pairwise_cons.2 ⟨λz hz=>?_,h⟩;rcases Yv.1 hz with rfl|hz
   .exact hxy
   .have h2:=h1.1 z hz;simp only[leS,Zy]at *;exact List.le_trans hxy h2
  .rename_i hxy;have hyx:leS y x=true:=by
    simp only[leS,Zy]at *;exact(List.le_total _ _).resolve_left hxy
   refine List.pairwise_cons.2 ⟨λz hz=>?_,yp x r h1.2⟩;rcases Yv.1 ((xM x r).mem_iff.1 hz)with rfl|hz
   .exact hyx
   .exact h1.1 z hz
def wC :∀l:List ByteArray,(oI l).Pairwise (λa b=>leS a b=true)
 | []=>List.Pairwise.nil
 |x::l=>yp x _ (wC l)
def X4{ss:List (List UInt8)}{ks:List ByteArray}(h:ss.Perm (ks.map X2)):ss.mergeSort (λx y=>decide (x<=y))=(oI ks).map X2:=by
 have tr:∀a b c:List UInt8,leB a b=true->leB b c=true->leB a c=true:=λa b c h1 h2=>by simp only[leB,Zy]at *;exact List.le_trans h1 h2
 have to:∀a b:List UInt8,(leB a b||leB b a)=true:=λa b=>by simp only[leB,Yx,Zy];exact List.le_total a b
 refine List.Perm.eq_of_pairwise (le:=λa b=>leB a b=true) (λa b _ _ h1 h2=>?_) (List.pairwise_mergeSort tr to ss) ?_ (((List.mergeSort_perm ss leB).trans h).trans ((u5 ks).map X2).symm)
 .simp only[leB,Zy]at h1 h2;exact List.le_antisymm h1 h2
 .exact List.pairwise_map.2 (wC ks)
def Ks{w w':World}(h:Below w.heap.size w w')(hd:w.drawn<=w'.drawn):Step w eK w' eK:={
 os:=h.os
 tape:=h.tape
 output:=h.output
 size:=h.size
 keep:=λb hb _=>h.block b hb
 row:=λb cV t fz hb=>⟨cV,t,fz,(h.block b (fI hb)).trans hb,rfl⟩
 less:=λ_ _ h=>h
 drew:=hd}
set_option maxHeartbeats 1000000 in
def X6 :Kt cx 224 281:=by
 refine⟨⟨_,func224,of_decide_eq_true (by kernel_rfl),by kernel_rfl⟩,λw bx id ms clock ks fO ej Mn ZE qc aiQ aiR cp=>?_⟩;have TA:∀x∈ms.toList,∃s:ByteArray,x.key= .string s/\s.size<=maxLen:=λx hx=>by
  have:x.key∈ks.map Value.string:=by rw[<-qc];exact Yf.2 ⟨x,hx,rfl⟩
  obtain⟨s,hs,e⟩:=Yf.1 this;exact⟨s,e.symm,aiR s hs⟩
 have ZF:ms.size=ks.length:=by have:=congrArg List.length qc;simpa using this
 have hrd:∀x∈ms.toList,∀s:ByteArray,x.key= .string s->s.size<=maxLen->WideElems.rd cx.P 9 (λ_=>some ((.nil:DataW Unit),[])) x=some (.string s.data.toList,.nil):=λx _ s e hs=>by
  unfold WideElems.rd;rw[e,WideMaps.keyOf_string_mk (P:=cx.P) underlying9 hs];rfl
 have F:WideElems.Fit cx.P 9 (λ_=>some ((.nil:DataW Unit),[])) ms clock:=by
  refine⟨by unfold maxLen;omega,⟨Mn,ZE,?_⟩,λx hx=>?_⟩
  .rw[qc];exact List.pairwise_map.2 (aiQ.imp λ{a b}gE e=>gE (by injection e))
  .obtain⟨s,e,hs⟩:=TA x hx;exact⟨_,hrd x hx s e hs⟩
 have yA:w.ownsMap cx.P 9 (λ_=>some ((.nil:DataW Unit),[])) id ms.size (.map ((ms.toList.map (WideElems.rg cx.P 9 (λ_=>some ((.nil:DataW Unit),[])))).foldr DataW.insert [])):=⟨ms,clock,ej,F,Yq _,rfl⟩;have ry:bx<w.heap.size:=by
  unfold World.cell? at fO;cases hb:w.heap[bx]? with
  |none=>simp[hb]at fO
  |some o=>exact fI hb
 have aiS:(strKeys (.map ((ms.toList.map (WideElems.rg cx.P 9 (λ_=>some ((.nil:DataW Unit),[])))).foldr DataW.insert []):DataW Unit)).Perm (ks.map X2):=by
  refine((u4 _).map _).trans (List.Perm.of_eq ?_);rw[List.map_map];have:(ms.toList.map (·.key)).map (λv=>match v with| .string s=>X2 s|_=> [])=(ks.map Value.string).map (λv=>match v with| .string s=>X2 s|_=> []):=by rw[qc]
  rw[List.map_map,List.map_map]at this;refine(List.map_congr_left λx hx=>?_).trans this;obtain⟨s,e,hs⟩:=TA x hx;simp only[Function.comp,WideElems.rg_of (hrd x hx s e hs),e];rfl
 have hN:Maps.size (.map ((ms.toList.map (WideElems.rg cx.P 9 (λ_=>some ((.nil:DataW Unit),[])))).foldr DataW.insert []):DataW Unit)=ks.length:=by
  show(List.foldr DataW.insert [] _).length=_;rw[(u4 _).length_eq,Yh,<-ZF,Yu]
 have aiT:SeqGives Fence.wide 2 cx.P 281 #[.pointer (some ⟨bx,0,none⟩)] encStr (λss=>ss.Perm (strKeys (.map ((ms.toList.map (WideElems.rg cx.P 9 (λ_=>some ((.nil:DataW Unit),[])))).foldr DataW.insert []):DataW Unit))) _ w:=
  AnyZ.keys_gives (ρ:=Tryz.keys225_ren) {Tryz.keys225 with} Fence.wide _ trivial rfl (by omega) bx id ms.size _ w ry fO yA
 have cW:=callsIn_wide.1 (AnyZ.sorted_in Tryz.sorted224 Fence.wide 5 trivial trivial trivial trivial rfl (by omega) (Tryz.sorts224 _) (enters_of func280 (by kernel_rfl) rfl) 281 #[.pointer (some ⟨bx,0,none⟩)] trivial (enters_of func281 (by kernel_rfl) rfl) _ _ (by rw[hN];unfold maxLen;omega) (by rw[hN];omega) w aiT);refine(H9 cW (λw' ⟨v,ss,he,_⟩=>by cases he)).mono ?_;rintro e w' ⟨⟨v,ss,rfl,hS,cY,Ku,hb⟩,hd⟩;have hp:=hS.trans aiS;have hse:=X4 hp;have hl:ss.length=ks.length:=by rw[hp.length_eq,Yh]
 refine⟨v,rfl,Ks hb hd,?_⟩;by_cases h0:ks=[]
 .left;refine⟨h0,Ku.2 (Zl (by rw[hl,h0];rfl))⟩
 .right;have vP:0<ks.length:=List.length_pos_iff.2 h0;refine⟨h0,?_⟩;obtain⟨qV,hh⟩:=cY;rcases hh with⟨_,hz⟩|⟨B,cap,cV,rfl,hB,nN,c1,c2,c3,c4⟩
  .omega
  .refine⟨B,cap,cV,_,by rw[hl],hB,nN,by omega,c2,by omega,λk s hk=>?_⟩;rw[hse]at c4;have kD:((((oI ks).map X2).map encStr))[k]?=some (.string s):=by
    rw[List.map_map,Zs,hk];show some (encStr (X2 s))=_;simp[encStr,X2]
   rw[<-c4,Xi]at kD;split at kD
   .simpa using kD
   .cases kD
end Go.Proofs.YtmocfjnklfpnbaaGreatDoor
namespace Go.Proofs.YtmocfjnklfpnbaaGreatDoor
open Go Go.Ae Go.Proofs.Tryz
def u6(x:ByteArray):∀(l:List Ep)(K:List ByteArray),x∈gz l K↔(∃y∈l,x∈kI y)\/x∈K
 | [],K=>by rw[gz];simp
 |
  y::l,K=>by
  rw[gz,u6 x l,Dn];simp only[Yv,exists_eq_or_imp];constructor
  .rintro(h|h|h)
   .exact .inl (.inr h)
   .exact .inl (.inl h)
   .exact .inr h
  .rintro((h|h)|h)
   .exact .inr (.inl h)
   .exact .inl h
   .exact .inr (.inr h)
def TB(x:ByteArray)(K:List ByteArray)(s:ByteArray):x∈xd K s↔x=s\/x∈K:=by
 unfold xd;split
 .rename_i h;constructor
  .exact .inr
  .rintro(rfl|h')
   .obtain⟨a,ha,hb⟩:=List.any_eq_true.1 h;have:=(Go.MapKept.bytes_beq _ _).1 hb;rw[this];exact ha
   .exact h'
 .rw[Zz,List.mem_singleton];exact Or.comm
mutual
def H_(x:ByteArray):∀(e:Ep)(K:List ByteArray),x∈uG e K↔x∈kI e\/x∈K
 |
  .mk op v nm ds ks,K=>by
  rw[uG,kI,Ia x ks,u6];by_cases c:op=2
  .rw[cw c,cw c,TB,A7];simp only[List.not_mem_nil,or_false];exact or_assoc.symm
  .rw[cv c,cv c];simp
def Ia(x:ByteArray):∀(l:List Ep)(K:List ByteArray),x∈pg l K↔(∃y∈l,x∈kI y)\/x∈K
 | [],K=>by rw[pg];simp
 |
  y::l,K=>by
  rw[pg,Ia x l,H_ x y];simp only[Yv,exists_eq_or_imp];constructor
  .rintro(h|h|h)
   .exact .inl (.inr h)
   .exact .inl (.inl h)
   .exact .inr h
  .rintro((h|h)|h)
   .exact .inr (.inl h)
   .exact .inl h
   .exact .inr (.inr h)
end
def DF(x:ByteArray)(e:Ep):x∈vO e↔x∈kI e:=by
 unfold vO;rw[(u5 _).mem_iff,H_];simp
def X7{α:Type}{a b:List α}(p:α->Bool)(h:∀x,x∈a↔x∈b):a.any p=b.any p:=by
 rw[Bool.eq_iff_iff,List.any_eq_true,List.any_eq_true];exact⟨λ⟨x,hx,hp⟩=>⟨x,(h x).1 hx,hp⟩,λ⟨x,hx,hp⟩=>⟨x,(h x).2 hx,hp⟩⟩
def wD(l:gM)(e:Ep)(w:Bool):jH l e w=iM l e w:=by
 unfold jH iM xx Og cS;rw[X7 _ λx=>(DF x e).symm];split
 .rw[cv (by omega)]
 .rw[cw rfl]
def RB(s:Bs)(r:cO):Prop:=s.e=r.e/\s.old=r.old/\(s.e=0->s.now=r.now)
def RB.fail{s:Bs}{r:cO}(h:RB s r)(e:Int):RB (s.fail e) (r.fail e):=by
 refine⟨?_,h.2.1,λh0=>h.2.2 ?_⟩
 .show cS s.e e=cS r.e e;rw[h.1]
 .have:cS s.e e=0:=h0;unfold cS at this;split at this
  .assumption
  .exact this
def zD(s:Bs)(nm:ByteArray)(k:Int):(s.intro nm k).e=if 24<=s.now.length then cS s.e 4 else s.e:=by
 unfold Bs.intro;split<;>rfl
def TC(s:cO)(nm:ByteArray)(k:Int):(s.push nm k).e=s.e:=by unfold cO.push;split<;>rfl
def RB.intro{s:Bs}{r:cO}(h:RB s r)(nm:ByteArray)(k:Int):RB (s.intro nm k) (r.intro nm k):=by
 obtain⟨h1,h2,h3⟩:=h;by_cases h0:s.e=0
 .have hn:=h3 h0;unfold Bs.intro cO.intro cO.push;rw[hn];by_cases c:24<=r.now.length
  .rw[cw c,cw c];have e4:(r.fail 4).e=4:=by show cS r.e 4=4;unfold cS;rw[<-h1,cw h0]
   have e4':(s.fail 4).e=4:=by show cS s.e 4=4;unfold cS;rw[cw h0]
   rw[cv (by rw[e4];omega)];exact⟨by rw[e4,e4'],h2,λq=>by rw[e4']at q;omega⟩
  .rw[cv c,cv c,cw (by rw[<-h1];exact h0)];exact⟨h1,h2,λ_=>rfl⟩
 .have hr:r.e≠0:=by rw[<-h1];exact h0
  have e1:(s.intro nm k).e=s.e:=by
   rw[zD];unfold cS;rw[cv h0];split<;>rfl
  have e2:(r.intro nm k).e=r.e:=by
   unfold cO.intro;rw[TC];split
   .show cS r.e 4=r.e;unfold cS;rw[cv hr]
   .rfl
  exact⟨by rw[e1,e2,h1],by rw[Bs.dU,dU,h2],λq=>by rw[e1]at q;exact absurd q h0⟩
def ES(a b:Int):Prop:=a≠0->b=a
def ES.refl(a:Int):ES a a:=λ_=>rfl
def ES.trans{a b c:Int}(h1:ES a b)(h2:ES b c):ES a c:=λh=>(h2 (by rw[h1 h];exact h)).trans (h1 h)
def dF(a e:Int):ES a (cS a e):=λh=>by unfold cS;rw[cv h]
def RB.stuck{s s':Bs}{r r':cO}(h:RB s r)(h0:s.e≠0)(hs:ES s.e s'.e)(hr:ES r.e r'.e)(os:s'.old=s.old)(or':r'.old=r.old):RB s' r':=by
 have e1:=hs h0;have e2:=hr (by rw[<-h.1];exact h0);exact⟨by rw[e1,e2,h.1],by rw[os,or',h.2.1],λq=>absurd (e1▸q) h0⟩
def nK(s:Bs)(nm:ByteArray)(k:Int):ES s.e (s.intro nm k).e:=λh=>by
 rw[zD];unfold cS;rw[cv h];split<;>rfl
def qd(s:cO)(nm:ByteArray)(k:Int):ES s.e (s.intro nm k).e:=λh=>by
 unfold cO.intro;rw[TC];split
 .exact dF s.e 4 h
 .rfl
def RB.props :∀(l:List Pp){s:Bs}{r:cO},RB s r->RB (s.props l) (r.props l)
 | [],s,r,h=>h
 |
  q::l,s,r,h=>by
  have h1:=h.fail (iM s.old q.e false);have:r.fail (iM s.old q.e false)=r.fail (jH r.old q.e false):=by rw[wD,h.2.1]
  rw[this]at h1;exact RB.props l h1
def TD(s:cO)(x:Np):ES s.e (s.jt x).e:=by
 unfold cO.jt;split
 .exact ES.refl _
 .split
  .exact qd _ _ _
  .unfold cO.node7 cO.node8;split<;>split<;>first
    |exact ES.refl _
    |exact dF s.e 7
    |exact dF s.e 8
    |exact(dF s.e 8).trans (dF _ 7)
def DG(s:Bs)(x:Np)(m:Bool):ES s.e (s.jt x m).e/\(s.jt x m).old=s.old:=by
 unfold Bs.jt;split
 .exact⟨ES.refl _,rfl⟩
 .split
  .exact⟨nK _ _ _,Bs.dU _ _ _⟩
  .split
   .split
    .exact⟨dF _ _,rfl⟩
    .exact⟨ES.refl _,rfl⟩
   .exact⟨dF _ _,rfl⟩
def Fh(s:cO)(x:Np):(s.jt x).old=s.old:=by
 unfold cO.jt;split
 .rfl
 .split
  .exact dU _ _ _
  .unfold cO.node7 cO.node8;split<;>split<;>rfl
def RB.jt{s:Bs}{r:cO}(h:RB s r)(x:Np):RB (s.jt x (decide (r.kd=1))) (r.jt x):=by
 by_cases h0:s.e=0
 .have hn:=h.2.2 h0;unfold Bs.jt cO.jt;rw[hn];by_cases he:dn x.var ⟨#[]⟩=true
  .rw[cw he,cw he];exact h
  .rw[cv he,cv he];by_cases k0:db r.now x.var=0
   .rw[cw k0,cw k0];exact h.intro _ _
   .rw[cv k0,cv k0];unfold cO.node7 cO.node8;by_cases k1:db r.now x.var=1
    .rw[cw k1,cw k1];have hc:((!decide (r.kd=1)) && (decide (0<x.labels.length)||decide (0<x.props.length)))=(!decide (r.kd=1) && decide (0<x.labels.length+x.props.length)):=by
      congr 1
      rw[<-Bool.decide_or];exact decide_eq_decide.2 (by omega)
     rw[hc];split
     .exact h.fail 7
     .exact h
    .rw[cv k1,cv k1];split
     .have h8:=h.fail 8;have e8:(s.fail 8).e≠0:=by show cS s.e 8≠0;unfold cS;rw[cw h0];decide
      exact h8.stuck e8 (ES.refl _) (dF _ 7) rfl rfl
     .exact h.fail 8
 .exact h.stuck h0 (DG s x _).1 (TD r x) (DG s x _).2 (Fh r x)
def RB.node{s:Bs}{r:cO}(h:RB s r)(x:Np):RB (s.node x (decide (r.kd=1))) (r.node x):=(h.jt x).props x.props
def RB.ju{s:Bs}{r:cO}(h:RB s r)(x:Gp):RB (s.ju x (decide (r.kd=1))) (r.ju x):=by
 have esR:ES r.e (r.ju x).e:=by
  unfold cO.ju;split
  .exact ES.refl _
  .split
   .exact qd _ _ _
   .unfold cO.Du cO.Dv;split<;>split<;>first
     |exact ES.refl _
     |exact dF r.e 7
     |exact dF r.e 8
     |exact(dF r.e 7).trans (dF _ 8)
 have oR:(r.ju x).old=r.old:=by
  unfold cO.ju;split
  .rfl
  .split
   .exact dU _ _ _
   .unfold cO.Du cO.Dv;split<;>split<;>rfl
 have sB:ES s.e (s.ju x (decide (r.kd=1))).e/\(s.ju x (decide (r.kd=1))).old=s.old:=by
  unfold Bs.ju;split
  .exact⟨ES.refl _,rfl⟩
  .split
   .split
    .exact⟨nK _ _ _,Bs.dU _ _ _⟩
    .exact⟨nK _ _ _,Bs.dU _ _ _⟩
   .split
    .exact⟨dF _ _,rfl⟩
    .split
     .exact⟨ES.refl _,rfl⟩
     .exact⟨dF _ _,rfl⟩
 by_cases h0:s.e=0
 .have hn:=h.2.2 h0;clear esR oR sB;unfold Bs.ju cO.ju;rw[hn];by_cases he:dn x.var ⟨#[]⟩=true
  .rw[cw he,cw he];exact h
  .rw[cv he,cv he];by_cases k0:db r.now x.var=0
   .rw[cw k0,cw k0];by_cases cm:x.mode=0
    .rw[cw cm,cw cm];exact h.intro _ _
    .rw[cv cm,cv cm];exact h.intro _ _
   .rw[cv k0,cv k0];unfold cO.Du cO.Dv;by_cases c7:(!decide (r.kd=1)|| !decide (x.mode=0))=true
    .rw[cw c7,cw c7];have h7:=h.fail 7;split
     .exact h7
     .have e7:(s.fail 7).e≠0:=by show cS s.e 7≠0;unfold cS;rw[cw h0];decide
      exact h7.stuck e7 (ES.refl _) (dF _ 8) rfl rfl
    .rw[cv c7,cv c7];split
     .exact h
     .exact h.fail 8
 .exact h.stuck h0 sB.1 esR sB.2 oR
def RB.edge{s:Bs}{r:cO}(h:RB s r)(x:Gp):RB (s.edge x (decide (r.kd=1))) (r.edge x):=(h.ju x).props x.props
def RB.elem{s:Bs}{r:cO}(h:RB s r)(nm:ByteArray)(nd:Bool):RB (s.elem nm (!nd)) (r.elem nm nd):=by
 have esR:ES r.e (r.elem nm nd).e:=by
  unfold cO.elem cO.Ds cO.Be;split<;>split<;>first
   |exact ES.refl _
   |exact dF r.e 6
   |exact dF r.e 8
   |exact(dF r.e 6).trans (dF _ 8)
 have oR:(r.elem nm nd).old=r.old:=by
  unfold cO.elem cO.Ds cO.Be;split<;>split<;>rfl
 have sB:ES s.e (s.elem nm (!nd)).e/\(s.elem nm (!nd)).old=s.old:=by
  unfold Bs.elem;split
  .exact⟨dF _ _,rfl⟩
  .split
   .exact⟨ES.refl _,rfl⟩
   .split
    .split
     .exact⟨ES.refl _,rfl⟩
     .exact⟨dF _ _,rfl⟩
    .exact⟨dF _ _,rfl⟩
 by_cases h0:s.e=0
 .have hn:=h.2.2 h0;clear esR oR sB;unfold Bs.elem cO.elem cO.Ds cO.Be;rw[hn];by_cases k0:db r.now nm=0
  .rw[cw k0,cw k0,k0];have h6:=h.fail 6;have e6:(s.fail 6).e≠0:=by show cS s.e 6≠0;unfold cS;rw[cw h0];decide
   split
   .exact h6.stuck e6 (ES.refl _) (dF _ 8) rfl rfl
   .exact h6
  .rw[cv k0,cv k0];by_cases k1:db r.now nm=1
   .rw[cw k1,k1,cv (by simp)];exact h
   .rw[cv k1];by_cases k2:db r.now nm=2
    .rw[cw k2,k2];cases nd
     .rw[cw (show(!false)=true from rfl),cv (by simp)];exact h
     .rw[cv (show¬(!true)=true by simp),cw (by simp)];exact h.fail 8
    .rw[cv k2,cw (by simp[k1,k2])];exact h.fail 8
 .exact h.stuck h0 sB.1 esR sB.2 oR
def RB.jD :∀(ns:List Np)(es:List Gp){s:Bs}{r:cO},RB s r->gQ r->RB (Bs.jD (decide (r.kd=1)) s ns es) (r.jD ns es)
 | [],_,s,r,h,ho=>h
 |
  x::ns,[],s,r,h,ho=>by
  have h1:=h.node x;have k1:=(ho.node x).2.2;have:=RB.jD ns [] h1 (ho.node x).1;rw[k1]at this;exact this
 |
  x::ns,e::es,s,r,h,ho=>by
  have h1:=h.node x;have o1:=ho.node x;have h2:=h1.edge e;have o2:=o1.1.edge e;rw[o1.2.2]at h2;have:=RB.jD ns es h2 o2.1;rw[o2.2.2,o1.2.2]at this;exact this
def RB.path{s:Bs}{r:cO}(h:RB s r)(ho:gQ r)(p:Tp):RB (s.path p r.kd) (r.path p):=by
 have hh:=RB.jD p.nodes p.cE h ho;have oh:=ho.jD p.nodes p.cE;unfold Bs.path cO.path cO.yi;rw[show r.kd=(r.jD p.nodes p.cE).kd from oh.2.2.symm]at *;generalize r.jD p.nodes p.cE=r1 at *;generalize Bs.jD (decide (r1.kd=1)) s p.nodes p.cE=s1 at *;by_cases he:dn p.var ⟨#[]⟩=true
 .rw[cw he,cw he];exact hh
 .rw[cv he,cv he];have es7:∀q:cO,ES q.e (q.wv p.var).e:=λq=>by
   unfold cO.wv;split
   .exact ES.refl _
   .exact dF _ _
  have o7:∀q:cO,(q.wv p.var).old=q.old:=λq=>by unfold cO.wv;split<;>rfl
  by_cases h0:s1.e=0
  .have hn:=hh.2.2 h0;rw[hn];unfold cO.wu;by_cases k5:r1.kd=5
   .rw[cw k5,cw k5];have h8:=hh.fail 8;have e8:(s1.fail 8).e≠0:=by show cS s1.e 8≠0;unfold cS;rw[cw h0];decide
    exact h8.stuck e8 (ES.refl _) ((es7 _).trans (qd _ _ _)) rfl (by rw[dU,o7])
   .rw[cv k5,cv k5];unfold cO.wv;by_cases k0:db r1.now p.var=0
    .rw[cw k0,cw k0];exact hh.intro _ _
    .rw[cv k0,cv k0];have h7:=hh.fail 7;have e7:(s1.fail 7).e≠0:=by show cS s1.e 7≠0;unfold cS;rw[cw h0];decide
     exact h7.stuck e7 (ES.refl _) (qd _ _ _) rfl (by rw[dU])
  .have es8:ES r1.e r1.wu.e:=by
    unfold cO.wu;split
    .exact dF _ _
    .exact ES.refl _
   have o8:r1.wu.old=r1.old:=by unfold cO.wu;split<;>rfl
   refine hh.stuck h0 ?_ ((es8.trans (es7 _)).trans (qd _ _ _)) ?_ (by rw[dU,o7,o8])
   .split
    .exact dF _ _
    .split
     .exact nK _ _ _
     .exact dF _ _
   .split
    .rfl
    .split
     .exact Bs.dU _ _ _
     .rfl
def RB.paths :∀(l:List Tp){s:Bs}{r:cO},RB s r->gQ r->RB (l.foldl (λs p=>s.path p r.kd) s) (r.xE l)
 | [],s,r,h,ho=>h
 |
  p::l,s,r,h,ho=>by
  have h1:=h.path ho p;have o1:=ho.path p;have:=RB.paths l h1 o1.1;rw[o1.2.2]at this;exact this
def RB.chk{s:Bs}{r:cO}(h:RB s r)(e:Ep):RB (s.fail (iM s.now e false)) (r.fail (jH r.now e false)):=by
 by_cases h0:s.e=0
 .rw[wD,h.2.2 h0];exact h.fail _
 .exact h.stuck h0 (dF _ _) (dF _ _) rfl rfl
def RB.i_ :∀(l:List Ep){s:Bs}{r:cO},RB s r->RB (s.i_ l) (r.i_ l)
 | [],s,r,h=>h
 |e::l,s,r,h=>RB.i_ l (h.chk e)
end Go.Proofs.YtmocfjnklfpnbaaGreatDoor
