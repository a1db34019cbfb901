/- The row's closed facts, one by one. -/
import Derived.Test.YtiefabpageilbaaGreatDoorRows
import Derived.JoinedOf
import Derived.KernelRfl
set_option linter.all false
set_option maxRecDepth 100000
namespace Go.Proofs.YtiefabpageilbaaGreatDoor
open Go
theorem and_mk {a b:Bool}(h:a=true)(k:b=true):(a && b)=true:=by rw[h,k];rfl
theorem jf1 :(Rows.subscribeSumRow.wf (OpenSpec.ofChange Rows.subscribeSumSpec))=true:=by kernel_rfl
theorem jf2 :(laidOutB Tryz.prog)=true:=by kernel_rfl
theorem jf3 :(mapsRowed Tryz.prog)=true:=by kernel_rfl
theorem jf4 :(Tryz.f3.params.all (Tryz.prog.readableRec ·))=true:=by kernel_rfl
theorem jf5 :(namedTie Tryz.prog Rows.subscribeSumRow.named Rows.subscribeSumSpec.vars)=true:=by kernel_rfl
theorem jf6 :((Rows.subscribeSumRow.stops==[]))=true:=by kernel_rfl
theorem jf7 :((Tryz.prog.stops==[]))=true:=by kernel_rfl
theorem jf8 :((Rows.subscribeSumRow.knobs==[]))=true:=by kernel_rfl
theorem jf9 :((Tryz.prog.stopKnobs==[]))=true:=by kernel_rfl
theorem jf10 :((Rows.subscribeSumRow.inPlace==Tryz.prog.inPlace 3))=true:=by kernel_rfl
theorem jf11 :((Rows.subscribeSumRow.unfollowed==Tryz.prog.unfollowed 3))=true:=by kernel_rfl
theorem jf12 :((Rows.subscribeSumRow.recurses==Tryz.prog.recurses 3))=true:=by kernel_rfl
theorem jf13 :((Rows.subscribeSumRow.named==Tryz.prog.varsNamed 3))=true:=by kernel_rfl
theorem jf14 :((Rows.subscribeSumRow.maps==(Tryz.f3.params.toList++Rows.subscribeSumSpec.plain.varTypes Tryz.prog).any (Tryz.prog.mapsRec ·)))=true:=by kernel_rfl
theorem jf15 :((Rows.subscribeSumRow.ifaces==(Tryz.f3.params.toList++Rows.subscribeSumSpec.plain.varTypes Tryz.prog).any (Tryz.prog.ifacesRec ·)))=true:=by kernel_rfl
theorem jf16 :((Rows.subscribeSumRow.mapsOut==Tryz.prog.mapsAmong Tryz.f3.resultTypes.toList))=true:=by kernel_rfl
theorem jf17 :((Rows.subscribeSumRow.loops==(Tryz.f3.params.toList++Rows.subscribeSumSpec.plain.varTypes Tryz.prog).any (Tryz.prog.loopsFrom ·)))=true:=by kernel_rfl
theorem jf18 :((Rows.subscribeSumRow.wideKeys==(Tryz.f3.params.toList++Rows.subscribeSumSpec.plain.varTypes Tryz.prog++Tryz.f3.resultTypes.toList).any (Tryz.prog.wideKeysFrom ·)))=true:=by kernel_rfl
theorem jf19 :(Rows.subscribeSumSpec.vars.all (Tryz.prog.varReadable ·))=true:=by kernel_rfl
theorem jf20 :(Tryz.f3.resultTypes.all (fun t=>Tryz.prog.readableRec t && decide (t<Tryz.prog.types.size)))=true:=by kernel_rfl
theorem jf21 :((Rows.subscribeSumRow.ifacesOut==Tryz.f3.resultTypes.toList.any (Tryz.prog.ifacesRec ·)))=true:=by kernel_rfl
theorem jf22 :((Rows.subscribeSumRow.loopsOut==Tryz.f3.resultTypes.toList.any (Tryz.prog.loopsFrom ·)))=true:=by kernel_rfl
theorem jf23 :((Rows.subscribeSumRow.plainKeys==Tryz.prog.plainKeys))=true:=by kernel_rfl
theorem jf24 :(Rows.subscribeSumRow.shortTexts.isNone)=true:=by kernel_rfl
theorem jf25 :(Tryz.prog.stopsHeard)=true:=by kernel_rfl
theorem jf26 :(Tryz.prog.mayEnter)=true:=by kernel_rfl
theorem jf27 :((Rows.subscribeSumRow.lifted==Tryz.prog.liftsFinal))=true:=by kernel_rfl
theorem jf28 :((Tryz.prog.make==some Rows.subscribeSumRow.make))=true:=by kernel_rfl
theorem jf29 :((Rows.subscribeSumRow.kinds==(if Rows.subscribeSumRow.domain.isEmpty then[]else Tryz.f3.params.toList.map fun t=>match Tryz.prog.underlying t with|some (.int k)=>some k|_=>none)))=true:=by kernel_rfl
theorem jf30 :((Rows.subscribeSumRow.pinned==Rows.subscribeSumRow.pinnedBy))=true:=by kernel_rfl
theorem jf31 :((Rows.subscribeSumRow.veiled==(Tryz.f3.params.toList++Rows.subscribeSumSpec.plain.varTypes Tryz.prog++Tryz.f3.resultTypes.toList).any (Tryz.prog.veiledRec ·)))=true:=by kernel_rfl
theorem jf32 :(Rows.subscribeSumRow.veiledFits Tryz.prog Tryz.f3.params.toList (Tryz.f3.params.toList++Rows.subscribeSumSpec.plain.varTypes Tryz.prog++Tryz.f3.resultTypes.toList))=true:=by kernel_rfl
theorem joined :joinedFacts Tryz.prog 3 Tryz.f3 Rows.subscribeSumSpec Rows.subscribeSumRow=true:=
 and_mk (and_mk (and_mk (and_mk (and_mk (and_mk (and_mk (and_mk (and_mk (and_mk (and_mk (and_mk (and_mk (and_mk (and_mk (and_mk (and_mk (and_mk (and_mk (and_mk (and_mk (and_mk (and_mk (and_mk (and_mk (and_mk (and_mk (and_mk (and_mk (and_mk (and_mk jf1 jf2) jf3) jf4) jf5) jf6) jf7) jf8) jf9) jf10) jf11) jf12) jf13) jf14) jf15) jf16) jf17) jf18) jf19) jf20) jf21) jf22) jf23) jf24) jf25) jf26) jf27) jf28) jf29) jf30) jf31) jf32
end Go.Proofs.YtiefabpageilbaaGreatDoor
