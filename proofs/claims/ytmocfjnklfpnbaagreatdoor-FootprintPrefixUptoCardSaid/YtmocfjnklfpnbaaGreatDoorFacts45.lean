/- The row's closed facts, one by one. -/
import Derived.Test.YtmocfjnklfpnbaaGreatDoorRows
import Derived.JoinedOf
import Derived.KernelRfl
set_option linter.all false
set_option maxRecDepth 100000
namespace Go.Proofs.YtmocfjnklfpnbaaGreatDoor
open Go
theorem and_mk {a b:Bool}(h:a=true)(k:b=true):(a && b)=true:=by rw[h,k];rfl
theorem jf1 :(Rows.footprintPrefixUptoRow.wf (OpenSpec.ofChange (Rows.OpenSpec.upto Rows.footprintPrefixSpec).bare))=true:=by kernel_rfl
theorem jf2 :(laidOutB Tryz.prog)=true:=by kernel_rfl
theorem jf3 :(mapsRowed Tryz.prog)=true:=by kernel_rfl
theorem jf4 :(Tryz.f4.params.all (Tryz.prog.readableRec ·))=true:=by kernel_rfl
theorem jf5 :(namedTie Tryz.prog Rows.footprintPrefixUptoRow.named (Rows.OpenSpec.upto Rows.footprintPrefixSpec).bare.vars)=true:=by kernel_rfl
theorem jf6 :((Rows.footprintPrefixUptoRow.stops==[]))=true:=by kernel_rfl
theorem jf7 :((Tryz.prog.stops==[]))=true:=by kernel_rfl
theorem jf8 :((Rows.footprintPrefixUptoRow.knobs==[]))=true:=by kernel_rfl
theorem jf9 :((Tryz.prog.stopKnobs==[]))=true:=by kernel_rfl
theorem jf10 :((Rows.footprintPrefixUptoRow.inPlace==Tryz.prog.inPlace 4))=true:=by kernel_rfl
theorem jf11 :((Rows.footprintPrefixUptoRow.unfollowed==Tryz.prog.unfollowed 4))=true:=by kernel_rfl
theorem jf12 :((Rows.footprintPrefixUptoRow.recurses==Tryz.prog.recurses 4))=true:=by kernel_rfl
theorem jf13 :((Rows.footprintPrefixUptoRow.named==Tryz.prog.varsNamed 4))=true:=by kernel_rfl
theorem jf14 :((Rows.footprintPrefixUptoRow.maps==(Tryz.f4.params.toList++(Rows.OpenSpec.upto Rows.footprintPrefixSpec).bare.plain.varTypes Tryz.prog).any (Tryz.prog.mapsRec ·)))=true:=by kernel_rfl
theorem jf15 :((Rows.footprintPrefixUptoRow.ifaces==(Tryz.f4.params.toList++(Rows.OpenSpec.upto Rows.footprintPrefixSpec).bare.plain.varTypes Tryz.prog).any (Tryz.prog.ifacesRec ·)))=true:=by kernel_rfl
theorem jf16 :((Rows.footprintPrefixUptoRow.mapsOut==Tryz.prog.mapsAmong Tryz.f4.resultTypes.toList))=true:=by kernel_rfl
theorem jf17 :((Rows.footprintPrefixUptoRow.loops==(Tryz.f4.params.toList++(Rows.OpenSpec.upto Rows.footprintPrefixSpec).bare.plain.varTypes Tryz.prog).any (Tryz.prog.loopsFrom ·)))=true:=by kernel_rfl
theorem jf18 :((Rows.footprintPrefixUptoRow.wideKeys==(Tryz.f4.params.toList++(Rows.OpenSpec.upto Rows.footprintPrefixSpec).bare.plain.varTypes Tryz.prog++Tryz.f4.resultTypes.toList).any (Tryz.prog.wideKeysFrom ·)))=true:=by kernel_rfl
theorem jf19 :((Rows.OpenSpec.upto Rows.footprintPrefixSpec).bare.vars.all (Tryz.prog.varReadable ·))=true:=by kernel_rfl
theorem jf20 :(Tryz.f4.resultTypes.all (fun t=>Tryz.prog.readableRec t && decide (t<Tryz.prog.types.size)))=true:=by kernel_rfl
theorem jf21 :((Rows.footprintPrefixUptoRow.ifacesOut==Tryz.f4.resultTypes.toList.any (Tryz.prog.ifacesRec ·)))=true:=by kernel_rfl
theorem jf22 :((Rows.footprintPrefixUptoRow.loopsOut==Tryz.f4.resultTypes.toList.any (Tryz.prog.loopsFrom ·)))=true:=by kernel_rfl
theorem jf23 :((Rows.footprintPrefixUptoRow.plainKeys==Tryz.prog.plainKeys))=true:=by kernel_rfl
theorem jf24 :(Rows.footprintPrefixUptoRow.shortTexts.isNone)=true:=by kernel_rfl
theorem jf25 :(Tryz.prog.stopsHeard)=true:=by kernel_rfl
theorem jf26 :(Tryz.prog.mayEnter)=true:=by kernel_rfl
theorem jf27 :((Rows.footprintPrefixUptoRow.lifted==Tryz.prog.liftsFinal))=true:=by kernel_rfl
theorem jf28 :((Tryz.prog.make==some Rows.footprintPrefixUptoRow.make))=true:=by kernel_rfl
theorem jf29 :((Rows.footprintPrefixUptoRow.kinds==(if Rows.footprintPrefixUptoRow.domain.isEmpty then[]else Tryz.f4.params.toList.map fun t=>match Tryz.prog.underlying t with|some (.int k)=>some k|_=>none)))=true:=by kernel_rfl
theorem jf30 :((Rows.footprintPrefixUptoRow.pinned==Rows.footprintPrefixUptoRow.pinnedBy))=true:=by kernel_rfl
theorem jf31 :((Rows.footprintPrefixUptoRow.veiled==(Tryz.f4.params.toList++(Rows.OpenSpec.upto Rows.footprintPrefixSpec).bare.plain.varTypes Tryz.prog++Tryz.f4.resultTypes.toList).any (Tryz.prog.veiledRec ·)))=true:=by kernel_rfl
theorem jf32 :(Rows.footprintPrefixUptoRow.veiledFits Tryz.prog Tryz.f4.params.toList (Tryz.f4.params.toList++(Rows.OpenSpec.upto Rows.footprintPrefixSpec).bare.plain.varTypes Tryz.prog++Tryz.f4.resultTypes.toList))=true:=by kernel_rfl
theorem joined :joinedFacts Tryz.prog 4 Tryz.f4 (Rows.OpenSpec.upto Rows.footprintPrefixSpec).bare Rows.footprintPrefixUptoRow=true:=
 and_mk (and_mk (and_mk (and_mk (and_mk (and_mk (and_mk (and_mk (and_mk (and_mk (and_mk (and_mk (and_mk (and_mk (and_mk (and_mk (and_mk (and_mk (and_mk (and_mk (and_mk (and_mk (and_mk (and_mk (and_mk (and_mk (and_mk (and_mk (and_mk (and_mk (and_mk jf1 jf2) jf3) jf4) jf5) jf6) jf7) jf8) jf9) jf10) jf11) jf12) jf13) jf14) jf15) jf16) jf17) jf18) jf19) jf20) jf21) jf22) jf23) jf24) jf25) jf26) jf27) jf28) jf29) jf30) jf31) jf32
end Go.Proofs.YtmocfjnklfpnbaaGreatDoor
