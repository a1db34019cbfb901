/- Part of the proof. -/
import Derived.Test.YtmfohnojaginjaaGreatDoorClo50
import Derived.JoinedOf
import Derived.KernelRfl
set_option maxRecDepth 100000
namespace Go.Proofs.YtmfohnojaginjaaGreatDoor
open Go Go.Proofs.Tryz
theorem fD{a b:Bool}(h:a=true)(k:b=true):(a && b)=true:=by rw[h,k];rfl
theorem jf1 :(Rows.txnChecksRow.wf (OpenSpec.ofChange Rows.txnChecksSpec))=true:=by kernel_rfl
theorem jf2 :(laidOutB prog)=true:=by kernel_rfl
theorem jf3 :(mapsRowed prog)=true:=by kernel_rfl
theorem jf4 :(f3.params.all (prog.readableRec ·))=true:=by kernel_rfl
theorem jf5 :(namedTie prog Rows.txnChecksRow.named Rows.txnChecksSpec.vars)=true:=by kernel_rfl
theorem jf6 :((Rows.txnChecksRow.stops==[]))=true:=by kernel_rfl
theorem jf7 :((prog.stops==[]))=true:=by kernel_rfl
theorem jf8 :((Rows.txnChecksRow.knobs==[]))=true:=by kernel_rfl
theorem jf9 :((prog.stopKnobs==[]))=true:=by kernel_rfl
theorem aiu :((Rows.txnChecksRow.inPlace==prog.inPlace 3))=true:=by
 unfold Program.inPlace;rw[ER]
 kernel_rfl
theorem aiv :((Rows.txnChecksRow.unfollowed==prog.unfollowed 3))=true:=by
 unfold Program.unfollowed;rw[ER]
 kernel_rfl
theorem aiw :((Rows.txnChecksRow.recurses==prog.recurses 3))=true:=by
 unfold Program.recurses Program.unfollowed;rw[ER]
 kernel_rfl
theorem aix :((Rows.txnChecksRow.named==prog.varsNamed 3))=true:=by
 unfold Program.varsNamed;rw[ER]
 kernel_rfl
theorem aiy :((Rows.txnChecksRow.maps==(f3.params.toList++Rows.txnChecksSpec.plain.varTypes prog).any (prog.mapsRec ·)))=true:=by kernel_rfl
theorem aiz :((Rows.txnChecksRow.ifaces==(f3.params.toList++Rows.txnChecksSpec.plain.varTypes prog).any (prog.ifacesRec ·)))=true:=by kernel_rfl
theorem aiA :((Rows.txnChecksRow.mapsOut==prog.mapsAmong f3.resultTypes.toList))=true:=by kernel_rfl
theorem aiB :((Rows.txnChecksRow.loops==(f3.params.toList++Rows.txnChecksSpec.plain.varTypes prog).any (prog.loopsFrom ·)))=true:=by kernel_rfl
theorem aiC :((Rows.txnChecksRow.wideKeys==(f3.params.toList++Rows.txnChecksSpec.plain.varTypes prog++f3.resultTypes.toList).any (prog.wideKeysFrom ·)))=true:=by kernel_rfl
theorem aiD :(Rows.txnChecksSpec.vars.all (prog.varReadable ·))=true:=by kernel_rfl
theorem aiE :(f3.resultTypes.all (λt=>prog.readableRec t && decide (t<prog.types.size)))=true:=by kernel_rfl
theorem aiF :((Rows.txnChecksRow.ifacesOut==f3.resultTypes.toList.any (prog.ifacesRec ·)))=true:=by kernel_rfl
theorem aiG :((Rows.txnChecksRow.loopsOut==f3.resultTypes.toList.any (prog.loopsFrom ·)))=true:=by kernel_rfl
theorem aiH :((Rows.txnChecksRow.plainKeys==prog.plainKeys))=true:=by kernel_rfl
theorem aiI :(Rows.txnChecksRow.shortTexts.isNone)=true:=by kernel_rfl
theorem aiJ :(prog.stopsHeard)=true:=by kernel_rfl
theorem aiK :(prog.mayEnter)=true:=by kernel_rfl
theorem aiL :((Rows.txnChecksRow.lifted==prog.liftsFinal))=true:=by kernel_rfl
theorem aiM :((prog.make==some Rows.txnChecksRow.make))=true:=by kernel_rfl
theorem aiN :((Rows.txnChecksRow.kinds==(if Rows.txnChecksRow.domain.isEmpty then[]else f3.params.toList.map λt=>match prog.underlying t with|some (.int k)=>some k|_=>none)))=true:=by kernel_rfl
theorem aiO :((Rows.txnChecksRow.pinned==Rows.txnChecksRow.pinnedBy))=true:=by kernel_rfl
theorem aiP :((Rows.txnChecksRow.veiled==(f3.params.toList++Rows.txnChecksSpec.plain.varTypes prog++f3.resultTypes.toList).any (prog.veiledRec ·)))=true:=by kernel_rfl
theorem aiQ :(Rows.txnChecksRow.veiledFits prog f3.params.toList (f3.params.toList++Rows.txnChecksSpec.plain.varTypes prog++f3.resultTypes.toList))=true:=by kernel_rfl
theorem acK :joinedFacts prog 3 f3 Rows.txnChecksSpec Rows.txnChecksRow=true:=
 fD (fD (fD (fD (fD (fD (fD (fD (fD (fD (fD (fD (fD (fD (fD (fD (fD (fD (fD (fD (fD (fD (fD (fD (fD (fD (fD (fD (fD (fD (fD jf1 jf2) jf3) jf4) jf5) jf6) jf7) jf8) jf9) aiu) aiv) aiw) aix) aiy) aiz) aiA) aiB) aiC) aiD) aiE) aiF) aiG) aiH) aiI) aiJ) aiK) aiL) aiM) aiN) aiO) aiP) aiQ
end Go.Proofs.YtmfohnojaginjaaGreatDoor
