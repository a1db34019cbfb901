/- Part of the proof. -/
import Derived.Test.YtmocfjnklfpnbaaGreatDoorRows
import Derived.JoinedOf
import Derived.KernelRfl
set_option maxRecDepth 100000
namespace Go.Proofs.YtmocfjnklfpnbaaGreatDoor
open Go Go.Proofs.Tryz
theorem gd{a b:Bool}(h:a=true)(k:b=true):(a && b)=true:=by rw[h,k];rfl
theorem jf1 :(Rows.footprintOfsUptoRow.wf (OpenSpec.ofChange (Rows.OpenSpec.upto Rows.footprintOfsSpec).bare))=true:=by kernel_rfl
theorem jf2 :(laidOutB prog)=true:=by kernel_rfl
theorem jf3 :(mapsRowed prog)=true:=by kernel_rfl
theorem jf4 :(f3.params.all (prog.readableRec ·))=true:=by kernel_rfl
theorem jf5 :(namedTie prog Rows.footprintOfsUptoRow.named (Rows.OpenSpec.upto Rows.footprintOfsSpec).bare.vars)=true:=by kernel_rfl
theorem jf6 :((Rows.footprintOfsUptoRow.stops==[]))=true:=by kernel_rfl
theorem jf7 :((prog.stops==[]))=true:=by kernel_rfl
theorem jf8 :((Rows.footprintOfsUptoRow.knobs==[]))=true:=by kernel_rfl
theorem jf9 :((prog.stopKnobs==[]))=true:=by kernel_rfl
theorem agb :((Rows.footprintOfsUptoRow.inPlace==prog.inPlace 3))=true:=by kernel_rfl
theorem agc :((Rows.footprintOfsUptoRow.unfollowed==prog.unfollowed 3))=true:=by kernel_rfl
theorem agd :((Rows.footprintOfsUptoRow.recurses==prog.recurses 3))=true:=by kernel_rfl
theorem age :((Rows.footprintOfsUptoRow.named==prog.varsNamed 3))=true:=by kernel_rfl
theorem agf :((Rows.footprintOfsUptoRow.maps==(f3.params.toList++(Rows.OpenSpec.upto Rows.footprintOfsSpec).bare.plain.varTypes prog).any (prog.mapsRec ·)))=true:=by kernel_rfl
theorem agh :((Rows.footprintOfsUptoRow.ifaces==(f3.params.toList++(Rows.OpenSpec.upto Rows.footprintOfsSpec).bare.plain.varTypes prog).any (prog.ifacesRec ·)))=true:=by kernel_rfl
theorem agi :((Rows.footprintOfsUptoRow.mapsOut==prog.mapsAmong f3.resultTypes.toList))=true:=by kernel_rfl
theorem agj :((Rows.footprintOfsUptoRow.loops==(f3.params.toList++(Rows.OpenSpec.upto Rows.footprintOfsSpec).bare.plain.varTypes prog).any (prog.loopsFrom ·)))=true:=by kernel_rfl
theorem agk :((Rows.footprintOfsUptoRow.wideKeys==(f3.params.toList++(Rows.OpenSpec.upto Rows.footprintOfsSpec).bare.plain.varTypes prog++f3.resultTypes.toList).any (prog.wideKeysFrom ·)))=true:=by kernel_rfl
theorem agl :((Rows.OpenSpec.upto Rows.footprintOfsSpec).bare.vars.all (prog.varReadable ·))=true:=by kernel_rfl
theorem agm :(f3.resultTypes.all (λt=>prog.readableRec t && decide (t<prog.types.size)))=true:=by kernel_rfl
theorem agn :((Rows.footprintOfsUptoRow.ifacesOut==f3.resultTypes.toList.any (prog.ifacesRec ·)))=true:=by kernel_rfl
theorem agp :((Rows.footprintOfsUptoRow.loopsOut==f3.resultTypes.toList.any (prog.loopsFrom ·)))=true:=by kernel_rfl
theorem agq :((Rows.footprintOfsUptoRow.plainKeys==prog.plainKeys))=true:=by kernel_rfl
theorem agr :(Rows.footprintOfsUptoRow.shortTexts.isNone)=true:=by kernel_rfl
theorem ags :(prog.stopsHeard)=true:=by kernel_rfl
theorem agt :(prog.mayEnter)=true:=by kernel_rfl
theorem agu :((Rows.footprintOfsUptoRow.lifted==prog.liftsFinal))=true:=by kernel_rfl
theorem agv :((prog.make==some Rows.footprintOfsUptoRow.make))=true:=by kernel_rfl
theorem agw :((Rows.footprintOfsUptoRow.kinds==(if Rows.footprintOfsUptoRow.domain.isEmpty then[]else f3.params.toList.map λt=>match prog.underlying t with|some (.int k)=>some k|_=>none)))=true:=by kernel_rfl
theorem agx :((Rows.footprintOfsUptoRow.pinned==Rows.footprintOfsUptoRow.pinnedBy))=true:=by kernel_rfl
theorem agy :((Rows.footprintOfsUptoRow.veiled==(f3.params.toList++(Rows.OpenSpec.upto Rows.footprintOfsSpec).bare.plain.varTypes prog++f3.resultTypes.toList).any (prog.veiledRec ·)))=true:=by kernel_rfl
theorem agz :(Rows.footprintOfsUptoRow.veiledFits prog f3.params.toList (f3.params.toList++(Rows.OpenSpec.upto Rows.footprintOfsSpec).bare.plain.varTypes prog++f3.resultTypes.toList))=true:=by kernel_rfl
theorem aaK :joinedFacts prog 3 f3 (Rows.OpenSpec.upto Rows.footprintOfsSpec).bare Rows.footprintOfsUptoRow=true:=
 gd (gd (gd (gd (gd (gd (gd (gd (gd (gd (gd (gd (gd (gd (gd (gd (gd (gd (gd (gd (gd (gd (gd (gd (gd (gd (gd (gd (gd (gd (gd jf1 jf2) jf3) jf4) jf5) jf6) jf7) jf8) jf9) agb) agc) agd) age) agf) agh) agi) agj) agk) agl) agm) agn) agp) agq) agr) ags) agt) agu) agv) agw) agx) agy) agz
end Go.Proofs.YtmocfjnklfpnbaaGreatDoor
