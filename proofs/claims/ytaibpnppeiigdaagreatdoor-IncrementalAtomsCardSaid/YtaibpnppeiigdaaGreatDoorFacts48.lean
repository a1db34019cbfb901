/- Part of the proof. -/
import Derived.Test.YtaibpnppeiigdaaGreatDoorRows
import Derived.JoinedOf
import Derived.KernelRfl
set_option maxRecDepth 100000
namespace Go.Proofs.YtaibpnppeiigdaaGreatDoor
open Go Go.Proofs.Tryz
theorem gJ {a b:Bool}(h:a=true)(k:b=true):(a && b)=true:=by rw[h,k];rfl
theorem jf1 :(Rows.incrementalAtomsRow.wf (OpenSpec.ofChange Rows.incrementalAtomsSpec))=true:=by kernel_rfl
theorem jf2 :(laidOutB prog)=true:=by kernel_rfl
theorem jf3 :(mapsRowed prog)=true:=by kernel_rfl
theorem jf4 :(f3.params.all (prog.readableRec ·))=true:=by kernel_rfl
theorem jf5 :(namedTie prog Rows.incrementalAtomsRow.named Rows.incrementalAtomsSpec.vars)=true:=by kernel_rfl
theorem jf6 :((Rows.incrementalAtomsRow.stops==[]))=true:=by kernel_rfl
theorem jf7 :((prog.stops==[]))=true:=by kernel_rfl
theorem jf8 :((Rows.incrementalAtomsRow.knobs==[]))=true:=by kernel_rfl
theorem jf9 :((prog.stopKnobs==[]))=true:=by kernel_rfl
theorem ajh :((Rows.incrementalAtomsRow.inPlace==prog.inPlace 3))=true:=by kernel_rfl
theorem aji :((Rows.incrementalAtomsRow.unfollowed==prog.unfollowed 3))=true:=by kernel_rfl
theorem ajj :((Rows.incrementalAtomsRow.recurses==prog.recurses 3))=true:=by kernel_rfl
theorem ajk :((Rows.incrementalAtomsRow.named==prog.varsNamed 3))=true:=by kernel_rfl
theorem ajl :((Rows.incrementalAtomsRow.maps==(f3.params.toList++Rows.incrementalAtomsSpec.plain.varTypes prog).any (prog.mapsRec ·)))=true:=by kernel_rfl
theorem ajm :((Rows.incrementalAtomsRow.ifaces==(f3.params.toList++Rows.incrementalAtomsSpec.plain.varTypes prog).any (prog.ifacesRec ·)))=true:=by kernel_rfl
theorem ajn :((Rows.incrementalAtomsRow.mapsOut==prog.mapsAmong f3.resultTypes.toList))=true:=by kernel_rfl
theorem ajo :((Rows.incrementalAtomsRow.loops==(f3.params.toList++Rows.incrementalAtomsSpec.plain.varTypes prog).any (prog.loopsFrom ·)))=true:=by kernel_rfl
theorem ajp :((Rows.incrementalAtomsRow.wideKeys==(f3.params.toList++Rows.incrementalAtomsSpec.plain.varTypes prog++f3.resultTypes.toList).any (prog.wideKeysFrom ·)))=true:=by kernel_rfl
theorem ajq :(Rows.incrementalAtomsSpec.vars.all (prog.varReadable ·))=true:=by kernel_rfl
theorem ajr :(f3.resultTypes.all (λt=>prog.readableRec t && decide (t<prog.types.size)))=true:=by kernel_rfl
theorem ajs :((Rows.incrementalAtomsRow.ifacesOut==f3.resultTypes.toList.any (prog.ifacesRec ·)))=true:=by kernel_rfl
theorem ajt :((Rows.incrementalAtomsRow.loopsOut==f3.resultTypes.toList.any (prog.loopsFrom ·)))=true:=by kernel_rfl
theorem aju :((Rows.incrementalAtomsRow.plainKeys==prog.plainKeys))=true:=by kernel_rfl
theorem ajv :(Rows.incrementalAtomsRow.shortTexts.isNone)=true:=by kernel_rfl
theorem ajw :(prog.stopsHeard)=true:=by kernel_rfl
theorem ajx :(prog.mayEnter)=true:=by kernel_rfl
theorem ajy :((Rows.incrementalAtomsRow.lifted==prog.liftsFinal))=true:=by kernel_rfl
theorem ajz :((prog.make==some Rows.incrementalAtomsRow.make))=true:=by kernel_rfl
theorem ajA :((Rows.incrementalAtomsRow.kinds==(if Rows.incrementalAtomsRow.domain.isEmpty then[]else f3.params.toList.map λt=>match prog.underlying t with|some (.int k)=>some k|_=>none)))=true:=by kernel_rfl
theorem ajB :((Rows.incrementalAtomsRow.pinned==Rows.incrementalAtomsRow.pinnedBy))=true:=by kernel_rfl
theorem ajC :((Rows.incrementalAtomsRow.veiled==(f3.params.toList++Rows.incrementalAtomsSpec.plain.varTypes prog++f3.resultTypes.toList).any (prog.veiledRec ·)))=true:=by kernel_rfl
theorem ajD :(Rows.incrementalAtomsRow.veiledFits prog f3.params.toList (f3.params.toList++Rows.incrementalAtomsSpec.plain.varTypes prog++f3.resultTypes.toList))=true:=by kernel_rfl
theorem ac9 :joinedFacts prog 3 f3 Rows.incrementalAtomsSpec Rows.incrementalAtomsRow=true:=
 gJ (gJ (gJ (gJ (gJ (gJ (gJ (gJ (gJ (gJ (gJ (gJ (gJ (gJ (gJ (gJ (gJ (gJ (gJ (gJ (gJ (gJ (gJ (gJ (gJ (gJ (gJ (gJ (gJ (gJ (gJ jf1 jf2) jf3) jf4) jf5) jf6) jf7) jf8) jf9) ajh) aji) ajj) ajk) ajl) ajm) ajn) ajo) ajp) ajq) ajr) ajs) ajt) aju) ajv) ajw) ajx) ajy) ajz) ajA) ajB) ajC) ajD
end Go.Proofs.YtaibpnppeiigdaaGreatDoor
