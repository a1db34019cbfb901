/- The library's contracts at this program: strings.Contains, maps.Keys, slices.Sorted, slices.Sort, the whole of slices.SortFunc's callee, bits.Len (a print of the kit's lay-shelf.mjs, lay-iter.mjs and lay-plain.mjs). -/
import Derived.Shelf.Strings.Search3
import Derived.Shelf.SlIter.Nil
import Derived.Shelf.SlGeneric
import Derived.Shelf.SortM.Plain
import Derived.Shelf.SortM.SortNone
import Derived.Ground.GgzProg
import Derived.Ground.SlgmProg
import Derived.Ground.SlsfProg
import Derived.Shelf.Strconv.Itoa0
import Derived.Shelf.Small.Bits
import Derived.Shelf.SlSortCmp.Whole1
import Derived.Shelf.SlSortCmp.WholeK
import Derived.Shelf.SlSortCmp.NoneTotal
import Derived.Test.YtmocfjnklfpnbaaGreatDoorProg
import Derived.Test.YtmocfjnklfpnbaaGreatDoorP1
import Derived.Calls
import Derived.StepT
import GoSem.Step
set_option linter.all false
namespace Go.Proofs
open Go.Shelf
def Tryz.lays144_ren :Go.Shelf.Ren:=⟨fun|144=>296|143=>315|219=>329|217=>333|225=>334|224=>335|267=>336|266=>338|314=>339|n=>n,fun|9=>9|4=>4|3=>3|5=>5|46=>131|146=>334|51=>175|n=>n,fun|1=>1|n=>n⟩
theorem Tryz.lays144 :Go.Proofs.Lays.n144 Tryz.prog Tryz.lays144_ren:={
 mixed:=by kernel_rfl
 f143:=Tryz.func315.trans (congrArg some (by kernel_rfl))
 f144:=Tryz.func296.trans (congrArg some (by kernel_rfl))
 f217:=Tryz.func333.trans (congrArg some (by kernel_rfl))
 f219:=Tryz.func329.trans (congrArg some (by kernel_rfl))
 f224:=Tryz.func335.trans (congrArg some (by kernel_rfl))
 f225:=Tryz.func334.trans (congrArg some (by kernel_rfl))
 f266:=Tryz.func338.trans (congrArg some (by kernel_rfl))
 f267:=Tryz.func336.trans (congrArg some (by kernel_rfl))
 f314:=Tryz.func339.trans (congrArg some (by kernel_rfl))
 t3:=Tryz.underlying3
 a3:=Tryz.isAgg3
 z3:=Tryz.sizeOf3
 v3:=Tryz.zeroValue3
 t4:=Tryz.underlying4
 a4:=Tryz.isAgg4
 z4:=Tryz.sizeOf4
 v4:=Tryz.zeroValue4
 t5:=Tryz.underlying5
 a5:=Tryz.isAgg5
 z5:=Tryz.sizeOf5
 v5:=Tryz.zeroValue5
 t9:=Tryz.underlying9
 a9:=Tryz.isAgg9
 z9:=Tryz.sizeOf9
 v9:=Tryz.zeroValue9
 t46:=Tryz.underlying131
 a46:=Tryz.isAgg131
 z46:=Tryz.sizeOf131
 v46:=Tryz.zeroValue131
 t51:=Tryz.underlying175
 a51:=Tryz.isAgg175
 z51:=Tryz.sizeOf175
 v51:=Tryz.zeroValue175
 t146:=Tryz.underlying334
 a146:=Tryz.isAgg334
 z146:=Tryz.sizeOf334
 v146:=Tryz.zeroValue334
 g1:=by kernel_rfl}
def Tryz.keys225_ren :Go.Shelf.Ren:=⟨fun|7=>225|10=>281|n=>n,fun|23=>275|26=>9|3=>4|28=>278|0=>0|27=>277|33=>141|4=>4|n=>n,fun|n=>n⟩
theorem Tryz.keys225 :Go.Proofs.SlLaysZ.n7 Tryz.prog Tryz.keys225_ren:={
 mixed:=by kernel_rfl
 f7:=⟨Tryz.f225.name,by decide,Tryz.func225.trans (congrArg some (by kernel_rfl))⟩
 f10:=⟨Tryz.f281.name,by decide,Tryz.func281.trans (congrArg some (by kernel_rfl))⟩
 t0:=Tryz.underlying0
 a0:=Tryz.isAgg0
 z0:=Tryz.sizeOf0
 v0:=Tryz.zeroValue0
 t4:=Tryz.underlying4
 a4:=Tryz.isAgg4
 z4:=Tryz.sizeOf4
 v4:=Tryz.zeroValue4
 t23:=Tryz.underlying275
 a23:=Tryz.isAgg275
 z23:=Tryz.sizeOf275
 v23:=Tryz.zeroValue275
 t26:=Tryz.underlying9
 a26:=Tryz.isAgg9
 z26:=Tryz.sizeOf9
 v26:=Tryz.zeroValue9
 t27:=Tryz.underlying277
 a27:=Tryz.isAgg277
 z27:=Tryz.sizeOf277
 v27:=Tryz.zeroValue277
 t28:=Tryz.underlying278
 a28:=Tryz.isAgg278
 z28:=Tryz.sizeOf278
 v28:=Tryz.zeroValue278
 t33:=Tryz.underlying141
 a33:=Tryz.isAgg141
 z33:=Tryz.sizeOf141
 v33:=Tryz.zeroValue141}
def Tryz.sorted224_ren :Go.Shelf.Ren:=⟨fun|6=>224|8=>279|9=>280|11=>300|13=>49|12=>301|23=>95|24=>96|14=>316|15=>317|16=>318|17=>319|18=>320|19=>321|20=>251|21=>322|22=>323|25=>330|26=>153|27=>154|28=>331|29=>332|30=>72|31=>337|n=>n,fun|26=>9|28=>278|24=>47|0=>0|3=>3|37=>131|48=>175|50=>177|4=>4|40=>168|39=>167|45=>172|5=>5|9=>9|51=>223|55=>227|57=>283|58=>284|33=>141|n=>n,fun|n=>n⟩
theorem Tryz.sorted224 :Go.Proofs.SlLaysZ.n6 Tryz.prog Tryz.sorted224_ren:={
 mixed:=by kernel_rfl
 f6:=⟨Tryz.f224.name,by decide,Tryz.func224.trans (congrArg some (by kernel_rfl))⟩
 f8:=⟨Tryz.f279.name,by decide,Tryz.func279.trans (congrArg some (by kernel_rfl))⟩
 f11:=⟨Tryz.f300.name,by decide,Tryz.func300.trans (congrArg some (by kernel_rfl))⟩
 t0:=Tryz.underlying0
 a0:=Tryz.isAgg0
 z0:=Tryz.sizeOf0
 v0:=Tryz.zeroValue0
 t24:=Tryz.underlying47
 a24:=Tryz.isAgg47
 z24:=Tryz.sizeOf47
 v24:=Tryz.zeroValue47
 t26:=Tryz.underlying9
 a26:=Tryz.isAgg9
 z26:=Tryz.sizeOf9
 v26:=Tryz.zeroValue9
 t28:=Tryz.underlying278
 a28:=Tryz.isAgg278
 z28:=Tryz.sizeOf278
 v28:=Tryz.zeroValue278
 i26:=by kernel_rfl}
def Tryz.sort280_ren :Go.Shelf.Ren:=⟨fun|6=>280|8=>49|9=>301|19=>95|20=>96|21=>316|22=>317|23=>318|24=>319|25=>320|26=>321|27=>251|28=>322|29=>323|36=>330|31=>153|32=>154|37=>331|38=>332|39=>72|41=>337|n=>n,fun|27=>47|29=>9|3=>3|32=>131|26=>47|0=>0|44=>175|46=>177|4=>4|36=>168|35=>167|41=>172|5=>5|9=>9|53=>223|57=>227|63=>283|64=>284|n=>n,fun|n=>n⟩
theorem Tryz.sort280 :Go.Proofs.SlLaysM.n6 Tryz.prog Tryz.sort280_ren:={
 mixed:=by kernel_rfl
 f6:=⟨Tryz.f280.name,by decide,Tryz.func280.trans (congrArg some (by kernel_rfl))⟩
 f8:=Tryz.func49.trans (congrArg some (by kernel_rfl))
 f9:=⟨Tryz.f301.name,by decide,Tryz.func301.trans (congrArg some (by kernel_rfl))⟩
 f19:=Tryz.func95.trans (congrArg some (by kernel_rfl))
 f20:=Tryz.func96.trans (congrArg some (by kernel_rfl))
 f21:=⟨Tryz.f316.name,by decide,Tryz.func316.trans (congrArg some (by kernel_rfl))⟩
 f22:=⟨Tryz.f317.name,by decide,Tryz.func317.trans (congrArg some (by kernel_rfl))⟩
 f23:=⟨Tryz.f318.name,by decide,Tryz.func318.trans (congrArg some (by kernel_rfl))⟩
 f24:=⟨Tryz.f319.name,by decide,Tryz.func319.trans (congrArg some (by kernel_rfl))⟩
 f25:=⟨Tryz.f320.name,by decide,Tryz.func320.trans (congrArg some (by kernel_rfl))⟩
 f26:=⟨Tryz.f321.name,by decide,Tryz.func321.trans (congrArg some (by kernel_rfl))⟩
 f27:=⟨Tryz.f251.name,by decide,Tryz.func251.trans (congrArg some (by kernel_rfl))⟩
 f28:=⟨Tryz.f322.name,by decide,Tryz.func322.trans (congrArg some (by kernel_rfl))⟩
 f29:=⟨Tryz.f323.name,by decide,Tryz.func323.trans (congrArg some (by kernel_rfl))⟩
 f31:=Tryz.func153.trans (congrArg some (by kernel_rfl))
 f32:=Tryz.func154.trans (congrArg some (by kernel_rfl))
 f36:=⟨Tryz.f330.name,by decide,Tryz.func330.trans (congrArg some (by kernel_rfl))⟩
 f37:=⟨Tryz.f331.name,by decide,Tryz.func331.trans (congrArg some (by kernel_rfl))⟩
 f38:=⟨Tryz.f332.name,by decide,Tryz.func332.trans (congrArg some (by kernel_rfl))⟩
 f39:=⟨Tryz.f72.name,by decide,Tryz.func72.trans (congrArg some (by kernel_rfl))⟩
 f41:=⟨Tryz.f337.name,by decide,Tryz.func337.trans (congrArg some (by kernel_rfl))⟩
 t0:=Tryz.underlying0
 a0:=Tryz.isAgg0
 z0:=Tryz.sizeOf0
 v0:=Tryz.zeroValue0
 t3:=Tryz.underlying3
 a3:=Tryz.isAgg3
 z3:=Tryz.sizeOf3
 v3:=Tryz.zeroValue3
 t4:=Tryz.underlying4
 a4:=Tryz.isAgg4
 z4:=Tryz.sizeOf4
 v4:=Tryz.zeroValue4
 t5:=Tryz.underlying5
 a5:=Tryz.isAgg5
 z5:=Tryz.sizeOf5
 v5:=Tryz.zeroValue5
 t9:=Tryz.underlying9
 a9:=Tryz.isAgg9
 z9:=Tryz.sizeOf9
 v9:=Tryz.zeroValue9
 t26:=Tryz.underlying47
 a26:=Tryz.isAgg47
 z26:=Tryz.sizeOf47
 v26:=Tryz.zeroValue47
 t27:=Tryz.underlying47
 a27:=Tryz.isAgg47
 z27:=Tryz.sizeOf47
 v27:=Tryz.zeroValue47
 t29:=Tryz.underlying9
 a29:=Tryz.isAgg9
 z29:=Tryz.sizeOf9
 v29:=Tryz.zeroValue9
 t32:=Tryz.underlying131
 a32:=Tryz.isAgg131
 z32:=Tryz.sizeOf131
 v32:=Tryz.zeroValue131
 t35:=Tryz.underlying167
 a35:=Tryz.isAgg167
 z35:=Tryz.sizeOf167
 v35:=Tryz.zeroValue167
 t36:=Tryz.underlying168
 a36:=Tryz.isAgg168
 z36:=Tryz.sizeOf168
 v36:=Tryz.zeroValue168
 t41:=Tryz.underlying172
 a41:=Tryz.isAgg172
 z41:=Tryz.sizeOf172
 v41:=Tryz.zeroValue172
 t44:=Tryz.underlying175
 a44:=Tryz.isAgg175
 z44:=Tryz.sizeOf175
 v44:=Tryz.zeroValue175
 t46:=Tryz.underlying177
 a46:=Tryz.isAgg177
 z46:=Tryz.sizeOf177
 v46:=Tryz.zeroValue177
 t53:=Tryz.underlying223
 a53:=Tryz.isAgg223
 z53:=Tryz.sizeOf223
 v53:=Tryz.zeroValue223
 t57:=Tryz.underlying227
 a57:=Tryz.isAgg227
 z57:=Tryz.sizeOf227
 v57:=Tryz.zeroValue227
 t63:=Tryz.underlying283
 a63:=Tryz.isAgg283
 z63:=Tryz.sizeOf283
 v63:=Tryz.zeroValue283
 t64:=Tryz.underlying284
 a64:=Tryz.isAgg284
 z64:=Tryz.sizeOf284
 v64:=Tryz.zeroValue284}
def Tryz.laysSlF014_f48_ren :Go.Shelf.Ren:=⟨fun|14=>48|20=>87|21=>88|22=>89|23=>90|24=>91|25=>92|26=>93|27=>94|46=>152|47=>153|48=>154|49=>155|50=>156|15=>49|57=>229|28=>95|29=>96|n=>n,fun|24=>37|22=>27|3=>3|25=>79|4=>4|0=>0|46=>168|45=>167|50=>172|66=>223|39=>131|55=>177|70=>227|76=>283|77=>284|53=>175|5=>5|9=>9|n=>n,fun|n=>n⟩
theorem Tryz.laysSlF014_f48 :Go.Proofs.SlLaysF0.n14 Tryz.prog Tryz.laysSlF014_f48_ren:={
 mixed:=by kernel_rfl
 f14:=⟨Tryz.f48.name,by decide,Tryz.func48.trans (congrArg some (by kernel_rfl))⟩
 f15:=Tryz.func49.trans (congrArg some (by kernel_rfl))
 f20:=⟨Tryz.f87.name,by decide,Tryz.func87.trans (congrArg some (by kernel_rfl))⟩
 f21:=⟨Tryz.f88.name,by decide,Tryz.func88.trans (congrArg some (by kernel_rfl))⟩
 f22:=⟨Tryz.f89.name,by decide,Tryz.func89.trans (congrArg some (by kernel_rfl))⟩
 f23:=⟨Tryz.f90.name,by decide,Tryz.func90.trans (congrArg some (by kernel_rfl))⟩
 f24:=⟨Tryz.f91.name,by decide,Tryz.func91.trans (congrArg some (by kernel_rfl))⟩
 f25:=⟨Tryz.f92.name,by decide,Tryz.func92.trans (congrArg some (by kernel_rfl))⟩
 f26:=⟨Tryz.f93.name,by decide,Tryz.func93.trans (congrArg some (by kernel_rfl))⟩
 f27:=⟨Tryz.f94.name,by decide,Tryz.func94.trans (congrArg some (by kernel_rfl))⟩
 f28:=Tryz.func95.trans (congrArg some (by kernel_rfl))
 f29:=Tryz.func96.trans (congrArg some (by kernel_rfl))
 f46:=⟨Tryz.f152.name,by decide,Tryz.func152.trans (congrArg some (by kernel_rfl))⟩
 f47:=Tryz.func153.trans (congrArg some (by kernel_rfl))
 f48:=Tryz.func154.trans (congrArg some (by kernel_rfl))
 f49:=⟨Tryz.f155.name,by decide,Tryz.func155.trans (congrArg some (by kernel_rfl))⟩
 f50:=⟨Tryz.f156.name,by decide,Tryz.func156.trans (congrArg some (by kernel_rfl))⟩
 f57:=⟨Tryz.f229.name,by decide,Tryz.func229.trans (congrArg some (by kernel_rfl))⟩
 t0:=Tryz.underlying0
 a0:=Tryz.isAgg0
 z0:=Tryz.sizeOf0
 v0:=Tryz.zeroValue0
 t3:=Tryz.underlying3
 a3:=Tryz.isAgg3
 z3:=Tryz.sizeOf3
 v3:=Tryz.zeroValue3
 t4:=Tryz.underlying4
 a4:=Tryz.isAgg4
 z4:=Tryz.sizeOf4
 v4:=Tryz.zeroValue4
 t5:=Tryz.underlying5
 a5:=Tryz.isAgg5
 z5:=Tryz.sizeOf5
 v5:=Tryz.zeroValue5
 t9:=Tryz.underlying9
 a9:=Tryz.isAgg9
 z9:=Tryz.sizeOf9
 v9:=Tryz.zeroValue9
 t22:=Tryz.underlying27
 a22:=Tryz.isAgg27
 z22:=Tryz.sizeOf27
 v22:=Tryz.zeroValue27
 t25:=Tryz.underlying79
 a25:=Tryz.isAgg79
 z25:=Tryz.sizeOf79
 v25:=Tryz.zeroValue79
 t39:=Tryz.underlying131
 a39:=Tryz.isAgg131
 z39:=Tryz.sizeOf131
 v39:=Tryz.zeroValue131
 t45:=Tryz.underlying167
 a45:=Tryz.isAgg167
 z45:=Tryz.sizeOf167
 v45:=Tryz.zeroValue167
 t46:=Tryz.underlying168
 a46:=Tryz.isAgg168
 z46:=Tryz.sizeOf168
 v46:=Tryz.zeroValue168
 t50:=Tryz.underlying172
 a50:=Tryz.isAgg172
 z50:=Tryz.sizeOf172
 v50:=Tryz.zeroValue172
 t53:=Tryz.underlying175
 a53:=Tryz.isAgg175
 z53:=Tryz.sizeOf175
 v53:=Tryz.zeroValue175
 t55:=Tryz.underlying177
 a55:=Tryz.isAgg177
 z55:=Tryz.sizeOf177
 v55:=Tryz.zeroValue177
 t66:=Tryz.underlying223
 a66:=Tryz.isAgg223
 z66:=Tryz.sizeOf223
 v66:=Tryz.zeroValue223
 t70:=Tryz.underlying227
 a70:=Tryz.isAgg227
 z70:=Tryz.sizeOf227
 v70:=Tryz.zeroValue227
 t76:=Tryz.underlying283
 a76:=Tryz.isAgg283
 z76:=Tryz.sizeOf283
 v76:=Tryz.zeroValue283
 t77:=Tryz.underlying284
 a77:=Tryz.isAgg284
 z77:=Tryz.sizeOf284
 v77:=Tryz.zeroValue284}
def Tryz.lays125_ren :Go.Shelf.Ren:=⟨fun|125=>49|128=>95|129=>96|n=>n,fun|46=>131|3=>3|51=>175|53=>177|4=>4|5=>5|9=>9|n=>n,fun|n=>n⟩
theorem Tryz.lays125 :Go.Proofs.Lays.n125 Tryz.prog Tryz.lays125_ren:={
 mixed:=by kernel_rfl
 f125:=Tryz.func49.trans (congrArg some (by kernel_rfl))
 f128:=Tryz.func95.trans (congrArg some (by kernel_rfl))
 f129:=Tryz.func96.trans (congrArg some (by kernel_rfl))
 t3:=Tryz.underlying3
 a3:=Tryz.isAgg3
 z3:=Tryz.sizeOf3
 v3:=Tryz.zeroValue3
 t4:=Tryz.underlying4
 a4:=Tryz.isAgg4
 z4:=Tryz.sizeOf4
 v4:=Tryz.zeroValue4
 t5:=Tryz.underlying5
 a5:=Tryz.isAgg5
 z5:=Tryz.sizeOf5
 v5:=Tryz.zeroValue5
 t9:=Tryz.underlying9
 a9:=Tryz.isAgg9
 z9:=Tryz.sizeOf9
 v9:=Tryz.zeroValue9
 t46:=Tryz.underlying131
 a46:=Tryz.isAgg131
 z46:=Tryz.sizeOf131
 v46:=Tryz.zeroValue131
 t51:=Tryz.underlying175
 a51:=Tryz.isAgg175
 z51:=Tryz.sizeOf175
 v51:=Tryz.zeroValue175
 t53:=Tryz.underlying177
 a53:=Tryz.isAgg177
 z53:=Tryz.sizeOf177
 v53:=Tryz.zeroValue177}
open Go.RowKit Go.Lib in
theorem Tryz.strings_Contains (s sub:ByteArray)(m:Int)(w:World)(hs:s.size<4294967281)(hm:w.cell? ⟨1,0,none⟩=some (.int .i64 m)):
 Calls Tryz.prog 296 #[.string s,.string sub] w fun e w'=>e= .returned (.bool (Lib.contains s.data.toList sub.data.toList))∧w'=w:=Any.strings_Contains Tryz.lays144 s sub m w hs hm
open Go.RowKit Go.Maps Go.Sort in
theorem Tryz.sorts224 (m:Nat):AnyZ.SortsIn Tryz.prog Tryz.sorted224_ren Fence.wide m:=
 ⟨fun blk off cap ss W hH hblk hsz=>callsIn_wide.2 (AnyM.slices_Sort_string Tryz.sort280 blk off cap ss W hH hblk hsz),
  fun p cap W=>callsIn_wide.2 (AnyM.slices_Sort_string_none Tryz.sort280 p cap W)⟩
open Go.RowKit Go.Lib in
theorem Tryz.bits_Len (x:Int)(w:World)(h0:0≤x)(h1:x≤18446744073709551615):
 Calls Tryz.prog 49 #[.int .u64 x] w fun e w'=>e= .returned (.int .i64 (Lib.bitLen x.toNat))∧w'=w:=Any.bits_Len Tryz.lays125 x w h0 h1
end Go.Proofs
namespace Go.Ae
open Go
def resW {α:Type}:Result α→World
 | .ok _ w=>w
 | .halt _ w=>w
theorem ask_le {α:Type}:∀(a:Ask α) (w:World),w.drawn≤(w.ask a).2.drawn
 | .done a,w=>by unfold World.ask;exact Nat.le_refl _
 |
  .ask what range k,w=>by
  unfold World.ask;simp only;split
  ·exact ask_le (k 0) w
  ·exact Yj (Nat.le_succ _) (ask_le (k _) {w with drawn:=w.drawn+1})
theorem sys_le (w:World)(c:Sys):w.drawn≤(w.sys c).2.drawn:=by
 unfold World.sys;have:=ask_le (Kernel.perform c w.os) w;split
 ·exact Nat.le_refl _
 ·rename_i h;rw[h]at this;exact this
theorem viewStore_le {w w':World}{p:Program}{at_:Addr}{u:TypeId}{a:Addr}{v:Value}{b:Bool}{c:List Addr}(h:w.viewStore p at_ u a v b= .ok (w',c)):w'.drawn=w.drawn:=by
 unfold World.viewStore at h;simp only[bind,Except.bind,pure,Except.pure]at h
 repeat' first
  |(cases h;done)
  |(simp only[Except.ok.injEq,Zg]at h;obtain⟨rfl,_⟩:=h;rfl)
  |split at h
theorem farStore_le {w w':World}{p:Program}{a:Addr}{v:Value}{b:Bool}{c:List Addr}(h:w.farStore p a v b= .ok (w',c)):w'.drawn=w.drawn:=by
 unfold World.farStore at h;split at h
 ·split at h
  ·rename_i q;cases h;exact viewStore_le q
  ·cases h
 ·cases h
theorem freeze_le (w:World)(a:Addr)(n:Nat):(w.freeze a n).drawn=w.drawn:=by
 unfold World.freeze;split<;>rfl
theorem run_le {α:Type}(p:Program):∀(s:Sem α) (w:World),w.drawn≤(resW (s.run p w)).drawn
 | .pure a,w=>Nat.le_refl _
 |
  .load m a k,w=>by
  unfold Sem.run;split
  ·exact run_le p _ w
  ·split
   ·exact run_le p _ w
   ·exact Nat.le_refl _
 |
  .store m a v k,w=>by
  have hn:∀v,w.drawn≤(resW (match w.cell? a with
   |some _=>if w.frozen? a then Result.halt (.unsupported (.unsafePointer "a write to bytes that a string shares")) w else k.run p (w.setCell a v)
   |
    none=>match w.farStore p a v (m== .atomic)with
    | .ok (w,_)=>k.run p w
    | .error h=> .halt h w)).drawn:=fun v=>by
   split
   ·split
    ·exact Nat.le_refl _
    ·exact run_le p k (w.setCell a v)
   ·split
    ·rename_i h;rw[←farStore_le h];exact run_le p k _
    ·exact Nat.le_refl _
  cases v
  all_goals first
   |exact Nat.le_refl _
   |(unfold Sem.run;exact hn _)
 | .new o k,w=>run_le p (k w.heap.size) {w with heap:=w.heap.push o}
 | .shape r k,w=>run_le p (k (w.shape? r)) w
 |
  .freeze a n k,w=>by
  have:=run_le p k (w.freeze a n);rw[freeze_le]at this;exact this
 | .frozen a k,w=>run_le p (k (w.frozen? a)) w
 |
  .getObj r k,w=>by
  unfold Sem.run;split
  ·exact Nat.le_refl _
  ·exact run_le p _ w
  ·exact Nat.le_refl _
 |
  .setObj r o k,w=>by
  unfold Sem.run;split
  ·exact Nat.le_refl _
  ·exact run_le p k {w with heap:=w.heap.setIfInBounds r o}
  ·exact Nat.le_refl _
 |
  .choose q k,w=>by
  unfold Sem.run;split
  ·exact run_le p _ w
  ·exact Yj (Nat.le_succ _) (run_le p (k _) {w with drawn:=w.drawn+1})
 | .sys c k,w=>Yj (sys_le w c) (run_le p (k (w.sys c).1) (w.sys c).2)
 | .program k,w=>run_le p (k p) w
 | .mark _ k,w=>run_le p k w
 | .halt h,w=>Nat.le_refl _
theorem run_ok {α:Type}{p:Program}{s:Sem α}{w w':World}{a:α}(h:s.run p w= .ok a w'):w.drawn≤w'.drawn:=by
 have:=run_le p s w;rw[h]at this;exact this
theorem run_halt {α:Type}{p:Program}{s:Sem α}{w w':World}{a:Halt}(h:s.run p w= .halt a w'):w.drawn≤w'.drawn:=by
 have:=run_le p s w;rw[h]at this;exact this
def gsOK (w:World):GStep→Prop
 | .go _ w' _=>w.drawn≤w'.drawn
 | .comm _ _ _ _ w' _=>w.drawn≤w'.drawn
 | .spawn _ _ w' _=>w.drawn≤w'.drawn
 | .count _ w' _=>w.drawn≤w'.drawn
 | .timer _ _ w' _=>w.drawn≤w'.drawn
 | .alone _ _ w' _=>w.drawn≤w'.drawn
 | .newcoro _ _ _ w' _=>w.drawn≤w'.drawn
 | .coroswitch _ _ _ w' _=>w.drawn≤w'.drawn
 | .collect _ w' _=>w.drawn≤w'.drawn
 | .watch _ w' _=>w.drawn≤w'.drawn
 | .ended _ _ _=>True
theorem gsOK.up {w w':World}{s:GStep}(h:gsOK w' s)(hw:w.drawn≤w'.drawn):gsOK w s:=by
 cases s<;>first|trivial|exact Yj hw h
@[simp] theorem gsOK_after {w:World}{s:GStep}(es:Array Event):gsOK w (GStep.after es s)↔gsOK w s:=by
 cases s<;>exact Iff.rfl
theorem endWith_ok (w:World)(fd:Nat)(t:ByteArray)(o:Outcome):gsOK w (endWith w fd t o):=by
 unfold endWith;simp only
 repeat' first
  |trivial
  |split
theorem endThrow_ok (fr:Frame)(m:String)(w:World):gsOK w (endThrow fr m w):=Nat.le_refl _
theorem endPrinting_ok (p:Program)(fr:Frame)(v:Value)(w:World):gsOK w (endPrinting p fr v w):=by
 unfold endPrinting;simp only
 repeat' first
  |trivial
  |exact endThrow_ok _ _ _
  |split
theorem endFatal_ok (p:Program)(fr:Frame)(cs:List Frame)(d:Option Dying)(m:String)(w:World):gsOK w (endFatal p fr cs d m w):=by
 unfold endFatal;simp only;generalize(match d,((fr::cs).filter (·.fn<p.funcs.size)).flatMap fun f=>match f.mode with| .panicking c=>c|_=> []with
  |none,[]=>_
  |none,e::older=>_
  |some d,[]=>_
  |some _,_::_=>_:Sem (List (ByteArray × String) × List ByteArray))=s
 split
 ·rename_i h;exact run_ok h
 ·trivial
 ·trivial
theorem writeOn_ok (p:Program)(fr:Frame)(d:Dying)(f:Fatal)(w:World):gsOK w (writeOn p fr d f w):=by
 unfold writeOn;simp only[Sem.runT_eq];split
 ·trivial
 ·split
  ·rename_i h;simp only[Zg]at h;exact run_ok h.1
  ·rename_i h;simp only[Zg]at h;exact run_halt h.1
  ·trivial
  ·trivial
theorem die_ok (p:Program)(fr:Frame)(d:Dying)(w:World):gsOK w (die p fr d w):=by
 unfold die;simp only[Sem.runT_eq]
 repeat' first
  |trivial
  |exact writeOn_ok _ _ _ _ _
  |exact endWith_ok _ _ _ _
  |exact Nat.le_refl _
  |(rename_i h;exact run_ok h)
  |(rename_i h _;exact run_ok h)
  |(rename_i h _ _;exact run_ok h)
  |(rename_i h _ _ _;exact run_ok h)
  |(rename_i h _ _ _ _;exact run_ok h)
  |(rename_i h _ _ _ _ _;exact run_ok h)
  |(rename_i h _ _ _ _ _ _;exact run_ok h)
  |(rename_i h _ _ _ _ _ _ _;exact run_ok h)
  |(rename_i h _ _ _ _ _ _ _ _;exact run_ok h)
  |(rename_i h;exact(endPrinting_ok _ _ _ _).up (run_halt h))
  |simp only[gsOK_after]
  |split
theorem early_ok (p:Program)(fr:Frame)(cs:List Frame)(d:Option Dying)(g:Nat)(w:World):gsOK w (early p fr cs d g w):=by
 unfold early;simp only
 repeat' first
  |trivial
  |exact Nat.le_refl _
  |(rename_i h;exact run_ok h)
  |(rename_i h _;exact run_ok h)
  |(rename_i h _ _;exact run_ok h)
  |(rename_i h _ _ _;exact run_ok h)
  |(rename_i h _ _ _ _;exact run_ok h)
  |(rename_i h _ _ _ _ _;exact run_ok h)
  |(rename_i h _ _ _ _ _ _;exact run_ok h)
  |(rename_i h _ _ _ _ _ _ _;exact run_ok h)
  |(rename_i h _ _ _ _ _ _ _ _;exact run_ok h)
  |(rename_i h _ _ _ _;have:=run_ok h;exact this)
  |simp only[gsOK_after]
  |split
theorem doReturn_ok (p:Program)(b:Bool)(fr:Frame)(cs:List Frame)(d:Option Dying)(v:Value)(w:World):gsOK w (doReturn p b fr cs d v w):=by
 unfold doReturn;simp only
 repeat' first
  |trivial
  |exact Nat.le_refl _
  |split
theorem callDeferred_ok (p:Program)(fr:Frame)(cs:List Frame)(d:Option Dying)(df:Deferred)(w:World):gsOK w (callDeferred p fr cs d df w):=by
 unfold callDeferred;simp only[Sem.runT_eq]
 repeat' first
  |trivial
  |exact Nat.le_refl _
  |(rename_i h;exact run_ok h)
  |(rename_i h _;exact run_ok h)
  |(rename_i h _ _;exact run_ok h)
  |(rename_i h _ _ _;exact run_ok h)
  |(rename_i h _ _ _ _;exact run_ok h)
  |(rename_i h _ _ _ _ _;exact run_ok h)
  |(rename_i h _ _ _ _ _ _;exact run_ok h)
  |(rename_i h _ _ _ _ _ _ _;exact run_ok h)
  |(rename_i h _ _ _ _ _ _ _ _;exact run_ok h)
  |(rename_i h;exact run_halt h)
  |(rename_i h _;exact run_halt h)
  |(rename_i h _ _;exact run_halt h)
  |(rename_i h;exact(endFatal_ok _ _ _ _ _ _).up (run_halt h))
  |(rename_i h;exact(endThrow_ok _ _ _).up (run_halt h))
  |simp only[gsOK_after]
  |split
theorem unwind_ok (p:Program)(b:Bool)(fr:Frame)(cs:List Frame)(d:Option Dying)(w:World):gsOK w (unwind p b fr cs d w):=by
 unfold unwind;simp only[Sem.runT_eq]
 repeat' first
  |trivial
  |exact Nat.le_refl _
  |exact callDeferred_ok _ _ _ _ _ _
  |exact doReturn_ok _ _ _ _ _ _ _
  |exact endPrinting_ok _ _ _ _
  |(rename_i h;exact run_ok h)
  |(rename_i h _;exact run_ok h)
  |(rename_i h _ _;exact run_ok h)
  |(rename_i h;exact(doReturn_ok _ _ _ _ _ _ _).up (run_ok h))
  |simp only[gsOK_after]
  |split
theorem apply_ok (p:Program)(b:Bool)(fr:Frame)(cs:List Frame)(d:Option Dying)(s:Sem Next)(w:World):gsOK w (stepG.apply p b fr cs d s w):=by
 unfold stepG.apply;have hk:=run_le p s w;have h2:(if b=true then s.runT p w #[]else(s.run p w,#[])).1=s.run p w:=by cases b<;>simp[Sem.runT_eq]
 simp only[gsOK_after];generalize(if b=true then s.runT p w #[]else(s.run p w,#[]))=re at h2⊢;obtain⟨r,es⟩:=re;simp only at h2;subst h2;simp only;generalize s.run p w=r at hk⊢;cases r with
 |
  ok a w'=>
  have hk':w.drawn≤w'.drawn:=hk;cases a<;>(try simp only)<;>repeat' first
   |exact hk'
   |exact(endThrow_ok _ _ _).up hk'
   |trivial
   |split
 |
  halt a w'=>
  have hk':w.drawn≤w'.drawn:=hk;cases a<;>(try simp only)<;>repeat' first
   |exact hk'
   |exact(endThrow_ok _ _ _).up hk'
   |exact(endFatal_ok _ _ _ _ _ _).up hk'
   |exact(early_ok _ _ _ _ _ _).up hk'
   |trivial
   |(rename_i q;cases q;done)
   |(rename_i q;cases q;exact(early_ok _ _ _ _ _ _).up hk')
   |split
theorem oper_ok (p:Program)(b:Bool)(fr:Frame)(cs:List Frame)(d:Option Dying)(w:World):gsOK w (stepG.oper p b fr cs d w):=by
 unfold stepG.oper;split
 ·trivial
 ·split<;>exact apply_ok _ _ _ _ _ _ _
theorem elim_ok {α:Type}{w:World}(o:Option α)(a:GStep)(f:α→GStep)(h0:gsOK w a)(h:∀x,gsOK w (f x)):gsOK w (o.elim a f):=by
 cases o<;>first|exact h0|exact h _
theorem exec_ok (p:Program)(main b:Bool)(fr:Frame)(cs:List Frame)(d:Option Dying)(w:World):gsOK w (stepG.exec p main b fr cs d w):=by
 unfold stepG.exec;simp only[Sem.runT_eq]
 repeat' first
  |trivial
  |exact Nat.le_refl _
  |exact apply_ok _ _ _ _ _ _ _
  |exact oper_ok _ _ _ _ _ _
  |(rename_i h;exact(apply_ok _ _ _ _ _ _ _).up (run_ok h))
  |(rename_i h;exact(doReturn_ok _ _ _ _ _ _ _).up (run_ok h))
  |(rename_i h;exact run_ok h)
  |(rename_i h;exact run_halt h)
  |simp only[gsOK_after]
  |refine elim_ok _ _ _ ?_ fun _=>?_
  |split
theorem stepG_ok (p:Program)(main:Bool)(g:Goroutine)(w:World)(b:Bool):gsOK w (stepG p main g w b):=by
 obtain⟨fr,callers,status,dying,offers⟩:=g;simp only[stepG];split
 ·exact die_ok _ _ _ _
 ·exact exec_ok _ _ _ _ _ _ _
 ·exact unwind_ok _ _ _ _ _ _
theorem waitingAt_ok {rest:Rest}{cs:Array CommCase}{w w':World}(h:waitingAt rest cs w=some w'):w'.drawn=w.drawn:=by
 unfold waitingAt at h;split at h
 ·split at h
  ·cases h;rfl
  ·cases h
 ·cases h;rfl
theorem communicate_ok (p:Program)(rest:Rest)(gs:Array Goroutine)(i:Nat)(g:Goroutine)(cases:Array CommCase)(bl:Bool)(sh:CommShape)(w:World)(m':Machine)
 (h:(communicate p rest gs i g cases bl sh w).1= .next m'):w.drawn≤m'.world.drawn:=by
 unfold communicate at h;simp only[]at h
 repeat' first
  |(simp at h;done)
  |(simp only[Stepped.next.injEq]at h;subst h;exact Nat.le_refl _)
  |(simp only[Stepped.next.injEq]at h;subst h;rename_i q;exact Nat.le_of_eq (waitingAt_ok q).symm)
  |(
   simp only[Stepped.next.injEq]at h;subst h;dsimp only
   repeat' first
    |exact Nat.le_refl _
    |refine Yj ?_ (run_ok ‹_›)
    |refine Yj ?_ (run_halt ‹_›)
   done)
  |split at h
theorem look_ok (p:Program)(gs:Array Goroutine)(rest:Rest)(w:World)(m':Machine)(h:look p gs rest w= .next m'):w.drawn≤m'.world.drawn:=by
 unfold look at h;simp only[]at h
 repeat' first
  |(simp at h;done)
  |(simp only[Stepped.next.injEq]at h;subst h;rename_i q;have:=run_ok q;exact this)
  |split at h
theorem drain_ok (w:World)(c:Nat):(drain w c).2.drawn=w.drawn:=by
 unfold drain;split<;>rfl
theorem retime_ok (m:Machine)(k:Nat)(t:Timer)(a b:Nat):(retime m k t a b).2.world.drawn=m.world.drawn:=by
 unfold retime;cases t.chan with
 |none=>rfl
 |some c=>exact drain_ok _ _
theorem retime_eq {m m':Machine}{k:Nat}{t:Timer}{a b:Nat}{v:Value}(h:retime m k t a b=(v,m')):m'.world.drawn=m.world.drawn:=by
 have:=retime_ok m k t a b;rw[h]at this;exact this
theorem timerOp_ok (m m':Machine)(op:TimerOp)(v:Value)(h:timerOp m op= .ok (v,m')):m'.world.drawn=m.world.drawn:=by
 unfold timerOp at h;split at h
 ·split at h
  ·simp only[Except.ok.injEq,Zg]at h;rw[←h.2];rfl
  ·split at h
   ·split at h
    ·cases h
    ·simp only[Except.ok.injEq,Zg]at h;rw[←h.2]
   ·cases h
 ·unfold timerOp.named at h;split at h
  ·simp only[Except.ok.injEq]at h;exact retime_eq h
  ·cases h
 ·split at h
  ·rename_i m2 hm;have e:m2.world.drawn=m.world.drawn:=by
    unfold timerOp.opened at hm;split at hm
    ·split at hm
     ·cases hm;rfl
     ·cases hm
    ·cases hm;rfl
   unfold timerOp.named at h;split at h
   ·simp only[Except.ok.injEq]at h;rw[←e];exact retime_eq h
   ·cases h
  ·cases h
 ·simp only[Except.ok.injEq,Zg]at h;rw[←h.2];rfl
theorem endThrow_next {fr:Frame}{m:String}{w w':World}{g:Goroutine}{es:Array Event}(h:endThrow fr m w= .go g w' es):w'=w:=by
 unfold endThrow dieOf at h;simp only[GStep.go.injEq]at h;exact h.2.1.symm
theorem runT_ok (p:Program)(m m':Machine)(i:Nat)(b:Bool)(h:(runT p m i b).1= .next m'):m.world.drawn≤m'.world.drawn:=by
 simp only[runT]at h
 revert h
 generalize m.gs.swapAt! _ _=gg
 have hk:=stepG_ok p (i==0) gg.1 m.world b
 revert hk
 generalize stepG p _ gg.1 m.world b=s;intro hk h;cases s<;>simp only[]at h
 all_goals first
  |(simp at h;done)
  |exact Yj hk (communicate_ok _ _ _ _ _ _ _ _ _ _ h)
  |exact Yj hk (look_ok _ _ _ _ _ h)
  |(simp only[Stepped.next.injEq]at h;subst h;exact hk)
  |(repeat' first
   |(simp at h;done)
   |(simp only[Stepped.next.injEq]at h;subst h;exact hk)
   |(simp only[Stepped.next.injEq]at h;subst h;rename_i q;exact Yj hk (Nat.le_of_eq (timerOp_ok _ _ _ _ q).symm))
   |(simp only[Stepped.next.injEq]at h;subst h;rename_i q;rw[endThrow_next q];exact hk)
   |split at h)
theorem serve_ok (p:Program)(m m':Machine)(k:Nat)(h:serve p m k= .next m'):m.world.drawn≤m'.world.drawn:=by
 unfold serve at h;simp only[]at h
 repeat' first
  |(simp at h;done)
  |(simp only[Stepped.next.injEq]at h;subst h;exact Nat.le_refl _)
  |split at h
def mvOK (n:Nat):Move→Prop
 | .goroutine m _=>n≤m.world.drawn
 | .machine (.next m) _=>n≤m.world.drawn
 | .machine _ _=>True
theorem mvOK_serve {n:Nat}{p:Program}{m:Machine}{k:Nat}{ops:Array MemOp}(h:n≤m.world.drawn):mvOK n (.machine (serve p m k) ops):=by
 cases hs:serve p m k with
 |next m'=>exact Yj h (serve_ok _ _ _ _ hs)
 |ended o w=>trivial
theorem askOn_ok (p:Program)(m:Machine):mvOK m.world.drawn (askOn p m):=by
 unfold askOn;simp only[]
 repeat' first
  |trivial
  |(rename_i q;exact mvOK_serve (run_ok q))
  |(rename_i q _;exact mvOK_serve (run_ok q))
  |(
   simp only[mvOK]
   repeat' first
    |exact Nat.le_refl _
    |refine Yj ?_ (run_ok ‹_›)
    |dsimp only[Machine.advanceTo]
   done)
  |split
theorem ask_ok (p:Program)(m:Machine):mvOK m.world.drawn (ask p m):=by
 unfold ask;have up:∀{a b:Nat} {v:Move},a≤b→mvOK b v→mvOK a v:=fun{a b v} h k=>by
  cases v with
  |goroutine m i=>exact Yj h k
  |machine s ops=>cases s<;>first|exact Yj h k|trivial
 split
 ·split
  ·trivial
  ·rename_i q;split
   ·rename_i q2;exact up (Yj (run_ok q) (look_ok _ _ _ _ _ q2)) (askOn_ok _ _)
   ·rename_i q2;have:∀s:Stepped,(∀m,s≠ .next m)→mvOK m.world.drawn (.machine s):=fun s hs=>by
     cases s with
     |next m=>exact absurd rfl (hs m)
     |ended o w=>trivial
    exact this _ fun m' e=>q2 m' e
  ·rename_i q;exact up (run_ok q) (askOn_ok _ {m with world:=_})
 ·exact askOn_ok p m
theorem move_ok (p:Program)(m:Machine):mvOK m.world.drawn (move p m):=by
 unfold move
 repeat' first
  |trivial
  |exact Nat.le_refl _
  |exact ask_ok p m
  |exact ask_ok p {m with rest:={m.rest with slice:=none}}
  |split
theorem step_drawn {p:Program}{m m':Machine}(h:step p m= .next m'):m.world.drawn≤m'.world.drawn:=by
 unfold step stepT at h;have hm:=move_ok p m;cases hv:move p m with
 |
  goroutine m2 i=>
  rw[hv]at h hm;exact Yj hm (runT_ok _ _ _ _ _ h)
 |
  machine s ops=>
  rw[hv]at h hm;simp only at h;subst h;exact hm
theorem steps_drawn {p:Program}{m m':Machine}(h:Steps p m m'):m.world.drawn≤m'.world.drawn:=by
 obtain⟨n,hn⟩:=h
 induction n generalizing m with
 |
  zero=>
  simp only[runN,Stepped.next.injEq]at hn;subst hn;exact Nat.le_refl _
 |
  succ n ih=>
  unfold runN at hn;cases hs:step p m with
  |
   next m1=>
   rw[hs]at hn;exact Yj (step_drawn hs) (ih hn)
  |
   ended o w=>
   rw[hs]at hn;cases hn
theorem calls_drawn {P:Program}{f:FuncId}{args:Array Value}{w:World}{R:Ending→World→Prop}(h:Calls P f args w R)(hR:∀w',¬R .outgrown w'):Calls P f args w fun e w'=>R e w'∧w.drawn≤w'.drawn:=fun cs=>by
 obtain⟨e,w',fr,h1,h2,h3⟩:=h cs;have hs:Steps P (lone (Frame.enter P f args .normal) cs w) (lone fr cs w'):=by
  cases e with
  |outgrown=>exact absurd h1 (hR w')
  |returned v=>exact h2
  |panicked c=>exact h2
 exact⟨e,w',fr,⟨h1,steps_drawn hs⟩,h2,h3⟩
end Go.Ae
