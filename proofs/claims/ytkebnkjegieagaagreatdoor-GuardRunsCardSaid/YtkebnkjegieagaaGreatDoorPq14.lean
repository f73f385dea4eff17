/- Part 14: no statement of the seat is proved here. -/
import Derived.Test.YtkebnkjegieagaaGreatDoorPq13
set_option linter.unusedVariables false
set_option linter.unusedSimpArgs false
open Go.Proofs.Tryz renaming prog->xV,f3->tI
namespace Go.Proofs.YtkebnkjegieagaaGreatDoor
open Go
set_option maxRecDepth 100000
theorem andT{a b:Bool}(h:a=true)(k:b=true):(a&&b)=true:=by rw[h,k];rfl
theorem gruns_j1:(Rows.guardRunsRow.wf (OpenSpec.ofChange Rows.guardRunsSpec))=true:=by kernel_rfl
theorem gruns_j2:(laidOutB xV)=true:=by kernel_rfl
theorem gruns_j3:(mapsRowed xV)=true:=by kernel_rfl
theorem gruns_j4:(tI.params.all (xV.readableRec ·))=true:=by kernel_rfl
theorem gruns_j5:(namedTie xV Rows.guardRunsRow.named Rows.guardRunsSpec.vars)=true:=by kernel_rfl
theorem gruns_j6:((Rows.guardRunsRow.stops==[]))=true:=by kernel_rfl
theorem gruns_j7:((xV.stops==[]))=true:=by kernel_rfl
theorem gruns_j8:((Rows.guardRunsRow.knobs==[]))=true:=by kernel_rfl
theorem gruns_j9:((xV.stopKnobs==[]))=true:=by kernel_rfl
theorem gruns_j10:((Rows.guardRunsRow.inPlace==xV.inPlace 3))=true:=by kernel_rfl
theorem gruns_j11:((Rows.guardRunsRow.unfollowed==xV.unfollowed 3))=true:=by kernel_rfl
theorem gruns_j12:((Rows.guardRunsRow.recurses==xV.recurses 3))=true:=by kernel_rfl
theorem gruns_j13:((Rows.guardRunsRow.named==xV.varsNamed 3))=true:=by kernel_rfl
theorem gruns_j14:((Rows.guardRunsRow.maps==(tI.params.toList++Rows.guardRunsSpec.plain.varTypes xV).any (xV.mapsRec ·)))=true:=by kernel_rfl
theorem gruns_j15:((Rows.guardRunsRow.ifaces==(tI.params.toList++Rows.guardRunsSpec.plain.varTypes xV).any (xV.ifacesRec ·)))=true:=by kernel_rfl
theorem gruns_j16:((Rows.guardRunsRow.mapsOut==xV.mapsAmong tI.resultTypes.toList))=true:=by kernel_rfl
theorem gruns_j17:((Rows.guardRunsRow.loops==(tI.params.toList++Rows.guardRunsSpec.plain.varTypes xV).any (xV.loopsFrom ·)))=true:=by kernel_rfl
theorem gruns_j18:((Rows.guardRunsRow.wideKeys==(tI.params.toList++Rows.guardRunsSpec.plain.varTypes xV++tI.resultTypes.toList).any (xV.wideKeysFrom ·)))=true:=by kernel_rfl
theorem gruns_j19:(Rows.guardRunsSpec.vars.all (xV.varReadable ·))=true:=by kernel_rfl
theorem gruns_j20:(tI.resultTypes.all (λt=>xV.readableRec t&&decide (t<xV.types.size)))=true:=by kernel_rfl
theorem gruns_j21:((Rows.guardRunsRow.ifacesOut==tI.resultTypes.toList.any (xV.ifacesRec ·)))=true:=by kernel_rfl
theorem gruns_j22:((Rows.guardRunsRow.loopsOut==tI.resultTypes.toList.any (xV.loopsFrom ·)))=true:=by kernel_rfl
theorem gruns_j23:((Rows.guardRunsRow.plainKeys==xV.plainKeys))=true:=by kernel_rfl
theorem gruns_j24:(Rows.guardRunsRow.shortTexts.isNone)=true:=by kernel_rfl
theorem gruns_j25:(xV.stopsHeard)=true:=by kernel_rfl
theorem gruns_j26:(xV.mayEnter)=true:=by kernel_rfl
theorem gruns_j27:((Rows.guardRunsRow.lifted==xV.liftsFinal))=true:=by kernel_rfl
theorem gruns_j28:((xV.make==some Rows.guardRunsRow.make))=true:=by kernel_rfl
theorem gruns_j29:((Rows.guardRunsRow.kinds==(if Rows.guardRunsRow.domain.isEmpty then[]else tI.params.toList.map λt=>match xV.underlying t with|some (.int k)=>some k|_=>none)))=true:=by kernel_rfl
theorem gruns_j30:((Rows.guardRunsRow.pinned==Rows.guardRunsRow.pinnedBy))=true:=by kernel_rfl
theorem gruns_j31:((Rows.guardRunsRow.veiled==(tI.params.toList++Rows.guardRunsSpec.plain.varTypes xV++tI.resultTypes.toList).any (xV.veiledRec ·)))=true:=by kernel_rfl
theorem gruns_j32:(Rows.guardRunsRow.veiledFits xV tI.params.toList (tI.params.toList++Rows.guardRunsSpec.plain.varTypes xV++tI.resultTypes.toList))=true:=by kernel_rfl
theorem gruns_facts:joinedFacts xV 3 tI Rows.guardRunsSpec Rows.guardRunsRow=true:=(andT (andT (andT (andT (andT (andT (andT (andT (andT (andT (andT (andT (andT (andT (andT (andT (andT (andT (andT (andT (andT (andT (andT (andT (andT (andT (andT (andT (andT (andT (andT gruns_j1 gruns_j2) gruns_j3) gruns_j4) gruns_j5) gruns_j6) gruns_j7) gruns_j8) gruns_j9) gruns_j10) gruns_j11) gruns_j12) gruns_j13) gruns_j14) gruns_j15) gruns_j16) gruns_j17) gruns_j18) gruns_j19) gruns_j20) gruns_j21) gruns_j22) gruns_j23) gruns_j24) gruns_j25) gruns_j26) gruns_j27) gruns_j28) gruns_j29) gruns_j30) gruns_j31) gruns_j32)
end Go.Proofs.YtkebnkjegieagaaGreatDoor
