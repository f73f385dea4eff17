/- Part 43: no statement of the seat is proved here. -/
import Derived.Test.YtgdmkmfchcflpaaGreatDoorPe42
set_option linter.unusedVariables false
set_option linter.unusedSimpArgs false
open Go.Proofs.Tryz renaming prog->xE,f7->tR
namespace Go.Proofs.YtgdmkmfchcflpaaGreatDoor
open Go
set_option maxRecDepth 100000
theorem andT{a b:Bool}(h:a=true)(k:b=true):(a&&b)=true:=by rw[h,k];rfl
theorem ssurv_j1:(Rows.serializerSurvivesRow.wf (OpenSpec.ofChange Rows.serializerSurvivesSpec))=true:=by kernel_rfl
theorem ssurv_j2:(laidOutB xE)=true:=by kernel_rfl
theorem ssurv_j3:(mapsRowed xE)=true:=by kernel_rfl
theorem ssurv_j4:(tR.params.all (xE.readableRec ·))=true:=by kernel_rfl
theorem ssurv_j5:(namedTie xE Rows.serializerSurvivesRow.named Rows.serializerSurvivesSpec.vars)=true:=by kernel_rfl
theorem ssurv_j6:((Rows.serializerSurvivesRow.stops==[]))=true:=by kernel_rfl
theorem ssurv_j7:((xE.stops==[]))=true:=by kernel_rfl
theorem ssurv_j8:((Rows.serializerSurvivesRow.knobs==[]))=true:=by kernel_rfl
theorem ssurv_j9:((xE.stopKnobs==[]))=true:=by kernel_rfl
theorem ssurv_j10:((Rows.serializerSurvivesRow.inPlace==xE.inPlace 7))=true:=by kernel_rfl
theorem ssurv_j11:((Rows.serializerSurvivesRow.unfollowed==xE.unfollowed 7))=true:=by kernel_rfl
theorem ssurv_j12:((Rows.serializerSurvivesRow.recurses==xE.recurses 7))=true:=by kernel_rfl
theorem ssurv_j13:((Rows.serializerSurvivesRow.named==xE.varsNamed 7))=true:=by kernel_rfl
theorem ssurv_j14:((Rows.serializerSurvivesRow.maps==(tR.params.toList++Rows.serializerSurvivesSpec.plain.varTypes xE).any (xE.mapsRec ·)))=true:=by kernel_rfl
theorem ssurv_j15:((Rows.serializerSurvivesRow.ifaces==(tR.params.toList++Rows.serializerSurvivesSpec.plain.varTypes xE).any (xE.ifacesRec ·)))=true:=by kernel_rfl
theorem ssurv_j16:((Rows.serializerSurvivesRow.mapsOut==xE.mapsAmong tR.resultTypes.toList))=true:=by kernel_rfl
theorem ssurv_j17:((Rows.serializerSurvivesRow.loops==(tR.params.toList++Rows.serializerSurvivesSpec.plain.varTypes xE).any (xE.loopsFrom ·)))=true:=by kernel_rfl
theorem ssurv_j18:((Rows.serializerSurvivesRow.wideKeys==(tR.params.toList++Rows.serializerSurvivesSpec.plain.varTypes xE++tR.resultTypes.toList).any (xE.wideKeysFrom ·)))=true:=by kernel_rfl
theorem ssurv_j19:(Rows.serializerSurvivesSpec.vars.all (xE.varReadable ·))=true:=by kernel_rfl
theorem ssurv_j20:(tR.resultTypes.all (λt=>xE.readableRec t&&decide (t<xE.types.size)))=true:=by kernel_rfl
theorem ssurv_j21:((Rows.serializerSurvivesRow.ifacesOut==tR.resultTypes.toList.any (xE.ifacesRec ·)))=true:=by kernel_rfl
theorem ssurv_j22:((Rows.serializerSurvivesRow.loopsOut==tR.resultTypes.toList.any (xE.loopsFrom ·)))=true:=by kernel_rfl
theorem ssurv_j23:((Rows.serializerSurvivesRow.plainKeys==xE.plainKeys))=true:=by kernel_rfl
theorem ssurv_j24:(Rows.serializerSurvivesRow.shortTexts.isNone)=true:=by kernel_rfl
theorem ssurv_j25:(xE.stopsHeard)=true:=by kernel_rfl
theorem ssurv_j26:(xE.mayEnter)=true:=by kernel_rfl
theorem ssurv_j27:((Rows.serializerSurvivesRow.lifted==xE.liftsFinal))=true:=by kernel_rfl
theorem ssurv_j28:((xE.make==some Rows.serializerSurvivesRow.make))=true:=by kernel_rfl
theorem ssurv_j29:((Rows.serializerSurvivesRow.kinds==(if Rows.serializerSurvivesRow.domain.isEmpty then[]else tR.params.toList.map λt=>match xE.underlying t with|some (.int k)=>some k|_=>none)))=true:=by kernel_rfl
theorem ssurv_j30:((Rows.serializerSurvivesRow.pinned==Rows.serializerSurvivesRow.pinnedBy))=true:=by kernel_rfl
theorem ssurv_j31:((Rows.serializerSurvivesRow.veiled==(tR.params.toList++Rows.serializerSurvivesSpec.plain.varTypes xE++tR.resultTypes.toList).any (xE.veiledRec ·)))=true:=by kernel_rfl
theorem ssurv_j32:(Rows.serializerSurvivesRow.veiledFits xE tR.params.toList (tR.params.toList++Rows.serializerSurvivesSpec.plain.varTypes xE++tR.resultTypes.toList))=true:=by kernel_rfl
theorem ssurv_facts:joinedFacts xE 7 tR Rows.serializerSurvivesSpec Rows.serializerSurvivesRow=true:=(andT (andT (andT (andT (andT (andT (andT (andT (andT (andT (andT (andT (andT (andT (andT (andT (andT (andT (andT (andT (andT (andT (andT (andT (andT (andT (andT (andT (andT (andT (andT ssurv_j1 ssurv_j2) ssurv_j3) ssurv_j4) ssurv_j5) ssurv_j6) ssurv_j7) ssurv_j8) ssurv_j9) ssurv_j10) ssurv_j11) ssurv_j12) ssurv_j13) ssurv_j14) ssurv_j15) ssurv_j16) ssurv_j17) ssurv_j18) ssurv_j19) ssurv_j20) ssurv_j21) ssurv_j22) ssurv_j23) ssurv_j24) ssurv_j25) ssurv_j26) ssurv_j27) ssurv_j28) ssurv_j29) ssurv_j30) ssurv_j31) ssurv_j32)
end Go.Proofs.YtgdmkmfchcflpaaGreatDoor
