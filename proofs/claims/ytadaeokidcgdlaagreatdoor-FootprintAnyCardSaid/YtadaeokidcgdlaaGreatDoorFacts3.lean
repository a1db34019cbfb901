/- The row's closed facts, one by one. -/
import Derived.Test.YtadaeokidcgdlaaGreatDoorRows
import Derived.JoinedOf
import Derived.KernelRfl
set_option maxRecDepth 100000
namespace Go.Proofs.YtadaeokidcgdlaaGreatDoor
open Go
theorem and_mk {a b:Bool}(h:a=true)(k:b=true):(a && b)=true:=by rw[h,k];rfl
theorem jf1 :(Rows.footprintAnyRow.wf (OpenSpec.ofChange Rows.footprintAnySpec))=true:=by kernel_rfl
theorem jf2 :(laidOutB Tryz.prog)=true:=by kernel_rfl
theorem jf3 :(mapsRowed Tryz.prog)=true:=by kernel_rfl
theorem jf4 :(Tryz.f5.params.all (Tryz.prog.readableRec ·))=true:=by kernel_rfl
theorem jf5 :(namedTie Tryz.prog Rows.footprintAnyRow.named Rows.footprintAnySpec.vars)=true:=by kernel_rfl
theorem jf6 :((Rows.footprintAnyRow.stops==[]))=true:=by kernel_rfl
theorem jf7 :((Tryz.prog.stops==[]))=true:=by kernel_rfl
theorem jf8 :((Rows.footprintAnyRow.knobs==[]))=true:=by kernel_rfl
theorem jf9 :((Tryz.prog.stopKnobs==[]))=true:=by kernel_rfl
theorem jf10 :((Rows.footprintAnyRow.inPlace==Tryz.prog.inPlace 5))=true:=by kernel_rfl
theorem jf11 :((Rows.footprintAnyRow.unfollowed==Tryz.prog.unfollowed 5))=true:=by kernel_rfl
theorem jf12 :((Rows.footprintAnyRow.recurses==Tryz.prog.recurses 5))=true:=by kernel_rfl
theorem jf13 :((Rows.footprintAnyRow.named==Tryz.prog.varsNamed 5))=true:=by kernel_rfl
theorem jf14 :((Rows.footprintAnyRow.maps==(Tryz.f5.params.toList++Rows.footprintAnySpec.plain.varTypes Tryz.prog).any (Tryz.prog.mapsRec ·)))=true:=by kernel_rfl
theorem jf15 :((Rows.footprintAnyRow.ifaces==(Tryz.f5.params.toList++Rows.footprintAnySpec.plain.varTypes Tryz.prog).any (Tryz.prog.ifacesRec ·)))=true:=by kernel_rfl
theorem jf16 :((Rows.footprintAnyRow.mapsOut==Tryz.prog.mapsAmong Tryz.f5.resultTypes.toList))=true:=by kernel_rfl
theorem jf17 :((Rows.footprintAnyRow.loops==(Tryz.f5.params.toList++Rows.footprintAnySpec.plain.varTypes Tryz.prog).any (Tryz.prog.loopsFrom ·)))=true:=by kernel_rfl
theorem jf18 :((Rows.footprintAnyRow.wideKeys==(Tryz.f5.params.toList++Rows.footprintAnySpec.plain.varTypes Tryz.prog++Tryz.f5.resultTypes.toList).any (Tryz.prog.wideKeysFrom ·)))=true:=by kernel_rfl
theorem jf19 :(Rows.footprintAnySpec.vars.all (Tryz.prog.varReadable ·))=true:=by kernel_rfl
theorem jf20 :(Tryz.f5.resultTypes.all (fun t=>Tryz.prog.readableRec t && decide (t<Tryz.prog.types.size)))=true:=by kernel_rfl
theorem jf21 :((Rows.footprintAnyRow.ifacesOut==Tryz.f5.resultTypes.toList.any (Tryz.prog.ifacesRec ·)))=true:=by kernel_rfl
theorem jf22 :((Rows.footprintAnyRow.loopsOut==Tryz.f5.resultTypes.toList.any (Tryz.prog.loopsFrom ·)))=true:=by kernel_rfl
theorem jf23 :((Rows.footprintAnyRow.plainKeys==Tryz.prog.plainKeys))=true:=by kernel_rfl
theorem jf24 :(Rows.footprintAnyRow.shortTexts.isNone)=true:=by kernel_rfl
theorem jf25 :(Tryz.prog.stopsHeard)=true:=by kernel_rfl
theorem jf26 :(Tryz.prog.mayEnter)=true:=by kernel_rfl
theorem jf27 :((Rows.footprintAnyRow.lifted==Tryz.prog.liftsFinal))=true:=by kernel_rfl
theorem jf28 :((Tryz.prog.make==some Rows.footprintAnyRow.make))=true:=by kernel_rfl
theorem jf29 :((Rows.footprintAnyRow.kinds==(if Rows.footprintAnyRow.domain.isEmpty then[]else Tryz.f5.params.toList.map fun t=>match Tryz.prog.underlying t with|some (.int k)=>some k|_=>none)))=true:=by kernel_rfl
theorem jf30 :((Rows.footprintAnyRow.pinned==Rows.footprintAnyRow.pinnedBy))=true:=by kernel_rfl
theorem jf31 :((Rows.footprintAnyRow.veiled==(Tryz.f5.params.toList++Rows.footprintAnySpec.plain.varTypes Tryz.prog++Tryz.f5.resultTypes.toList).any (Tryz.prog.veiledRec ·)))=true:=by kernel_rfl
theorem jf32 :(Rows.footprintAnyRow.veiledFits Tryz.prog Tryz.f5.params.toList (Tryz.f5.params.toList++Rows.footprintAnySpec.plain.varTypes Tryz.prog++Tryz.f5.resultTypes.toList))=true:=by kernel_rfl
theorem joined :joinedFacts Tryz.prog 5 Tryz.f5 Rows.footprintAnySpec Rows.footprintAnyRow=true:=
 and_mk (and_mk (and_mk (and_mk (and_mk (and_mk (and_mk (and_mk (and_mk (and_mk (and_mk (and_mk (and_mk (and_mk (and_mk (and_mk (and_mk (and_mk (and_mk (and_mk (and_mk (and_mk (and_mk (and_mk (and_mk (and_mk (and_mk (and_mk (and_mk (and_mk (and_mk jf1 jf2) jf3) jf4) jf5) jf6) jf7) jf8) jf9) jf10) jf11) jf12) jf13) jf14) jf15) jf16) jf17) jf18) jf19) jf20) jf21) jf22) jf23) jf24) jf25) jf26) jf27) jf28) jf29) jf30) jf31) jf32
end Go.Proofs.YtadaeokidcgdlaaGreatDoor
