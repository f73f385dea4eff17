/- Part 37: no statement of the seat is proved here. -/
import Derived.Test.YtgdmkmfchcflpaaGreatDoorPe36
set_option linter.unusedVariables false
set_option linter.unusedSimpArgs false
open Go.Proofs.Tryz renaming prog->xE,f3->tM
namespace Go.Proofs.YtgdmkmfchcflpaaGreatDoor
open Go
set_option maxRecDepth 100000
theorem andT{a b:Bool}(h:a=true)(k:b=true):(a&&b)=true:=by rw[h,k];rfl
theorem skeeps_j1:(Rows.serializerKeepsRow.wf (OpenSpec.ofChange Rows.serializerKeepsSpec))=true:=by kernel_rfl
theorem skeeps_j2:(laidOutB xE)=true:=by kernel_rfl
theorem skeeps_j3:(mapsRowed xE)=true:=by kernel_rfl
theorem skeeps_j4:(tM.params.all (xE.readableRec ·))=true:=by kernel_rfl
theorem skeeps_j5:(namedTie xE Rows.serializerKeepsRow.named Rows.serializerKeepsSpec.vars)=true:=by kernel_rfl
theorem skeeps_j6:((Rows.serializerKeepsRow.stops==[]))=true:=by kernel_rfl
theorem skeeps_j7:((xE.stops==[]))=true:=by kernel_rfl
theorem skeeps_j8:((Rows.serializerKeepsRow.knobs==[]))=true:=by kernel_rfl
theorem skeeps_j9:((xE.stopKnobs==[]))=true:=by kernel_rfl
theorem skeeps_j10:((Rows.serializerKeepsRow.inPlace==xE.inPlace 3))=true:=by kernel_rfl
theorem skeeps_j11:((Rows.serializerKeepsRow.unfollowed==xE.unfollowed 3))=true:=by kernel_rfl
theorem skeeps_j12:((Rows.serializerKeepsRow.recurses==xE.recurses 3))=true:=by kernel_rfl
theorem skeeps_j13:((Rows.serializerKeepsRow.named==xE.varsNamed 3))=true:=by kernel_rfl
theorem skeeps_j14:((Rows.serializerKeepsRow.maps==(tM.params.toList++Rows.serializerKeepsSpec.plain.varTypes xE).any (xE.mapsRec ·)))=true:=by kernel_rfl
theorem skeeps_j15:((Rows.serializerKeepsRow.ifaces==(tM.params.toList++Rows.serializerKeepsSpec.plain.varTypes xE).any (xE.ifacesRec ·)))=true:=by kernel_rfl
theorem skeeps_j16:((Rows.serializerKeepsRow.mapsOut==xE.mapsAmong tM.resultTypes.toList))=true:=by kernel_rfl
theorem skeeps_j17:((Rows.serializerKeepsRow.loops==(tM.params.toList++Rows.serializerKeepsSpec.plain.varTypes xE).any (xE.loopsFrom ·)))=true:=by kernel_rfl
theorem skeeps_j18:((Rows.serializerKeepsRow.wideKeys==(tM.params.toList++Rows.serializerKeepsSpec.plain.varTypes xE++tM.resultTypes.toList).any (xE.wideKeysFrom ·)))=true:=by kernel_rfl
theorem skeeps_j19:(Rows.serializerKeepsSpec.vars.all (xE.varReadable ·))=true:=by kernel_rfl
theorem skeeps_j20:(tM.resultTypes.all (λt=>xE.readableRec t&&decide (t<xE.types.size)))=true:=by kernel_rfl
theorem skeeps_j21:((Rows.serializerKeepsRow.ifacesOut==tM.resultTypes.toList.any (xE.ifacesRec ·)))=true:=by kernel_rfl
theorem skeeps_j22:((Rows.serializerKeepsRow.loopsOut==tM.resultTypes.toList.any (xE.loopsFrom ·)))=true:=by kernel_rfl
theorem skeeps_j23:((Rows.serializerKeepsRow.plainKeys==xE.plainKeys))=true:=by kernel_rfl
theorem skeeps_j24:(Rows.serializerKeepsRow.shortTexts.isNone)=true:=by kernel_rfl
theorem skeeps_j25:(xE.stopsHeard)=true:=by kernel_rfl
theorem skeeps_j26:(xE.mayEnter)=true:=by kernel_rfl
theorem skeeps_j27:((Rows.serializerKeepsRow.lifted==xE.liftsFinal))=true:=by kernel_rfl
theorem skeeps_j28:((xE.make==some Rows.serializerKeepsRow.make))=true:=by kernel_rfl
theorem skeeps_j29:((Rows.serializerKeepsRow.kinds==(if Rows.serializerKeepsRow.domain.isEmpty then[]else tM.params.toList.map λt=>match xE.underlying t with|some (.int k)=>some k|_=>none)))=true:=by kernel_rfl
theorem skeeps_j30:((Rows.serializerKeepsRow.pinned==Rows.serializerKeepsRow.pinnedBy))=true:=by kernel_rfl
theorem skeeps_j31:((Rows.serializerKeepsRow.veiled==(tM.params.toList++Rows.serializerKeepsSpec.plain.varTypes xE++tM.resultTypes.toList).any (xE.veiledRec ·)))=true:=by kernel_rfl
theorem skeeps_j32:(Rows.serializerKeepsRow.veiledFits xE tM.params.toList (tM.params.toList++Rows.serializerKeepsSpec.plain.varTypes xE++tM.resultTypes.toList))=true:=by kernel_rfl
theorem skeeps_facts:joinedFacts xE 3 tM Rows.serializerKeepsSpec Rows.serializerKeepsRow=true:=(andT (andT (andT (andT (andT (andT (andT (andT (andT (andT (andT (andT (andT (andT (andT (andT (andT (andT (andT (andT (andT (andT (andT (andT (andT (andT (andT (andT (andT (andT (andT skeeps_j1 skeeps_j2) skeeps_j3) skeeps_j4) skeeps_j5) skeeps_j6) skeeps_j7) skeeps_j8) skeeps_j9) skeeps_j10) skeeps_j11) skeeps_j12) skeeps_j13) skeeps_j14) skeeps_j15) skeeps_j16) skeeps_j17) skeeps_j18) skeeps_j19) skeeps_j20) skeeps_j21) skeeps_j22) skeeps_j23) skeeps_j24) skeeps_j25) skeeps_j26) skeeps_j27) skeeps_j28) skeeps_j29) skeeps_j30) skeeps_j31) skeeps_j32)
end Go.Proofs.YtgdmkmfchcflpaaGreatDoor
