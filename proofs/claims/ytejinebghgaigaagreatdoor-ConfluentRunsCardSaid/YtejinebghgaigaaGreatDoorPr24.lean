/- Part 24: no statement of the seat is proved here. -/
import Derived.Test.YtejinebghgaigaaGreatDoorPr17
set_option linter.unusedVariables false
set_option linter.unusedSimpArgs false
open Go.Proofs.Tryz renaming prog->xE,f6->uO
namespace Go.Proofs.YtejinebghgaigaaGreatDoor
open Go
set_option maxRecDepth 100000
theorem Cy{a b:Bool}(h:a=true)(k:b=true):(a&&b)=true:=by rw[h,k];rfl
theorem xmruns_j1:(Rows.confluentRunsRow.wf (OpenSpec.ofChange Rows.confluentRunsSpec))=true:=by kernel_rfl
theorem xmruns_j2:(laidOutB xE)=true:=by kernel_rfl
theorem xmruns_j3:(mapsRowed xE)=true:=by kernel_rfl
theorem xmruns_j4:(uO.params.all (xE.readableRec ·))=true:=by kernel_rfl
theorem xmruns_j5:(namedTie xE Rows.confluentRunsRow.named Rows.confluentRunsSpec.vars)=true:=by kernel_rfl
theorem xmruns_j6:((Rows.confluentRunsRow.stops==[]))=true:=by kernel_rfl
theorem xmruns_j7:((xE.stops==[]))=true:=by kernel_rfl
theorem xmruns_j8:((Rows.confluentRunsRow.knobs==[]))=true:=by kernel_rfl
theorem xmruns_j9:((xE.stopKnobs==[]))=true:=by kernel_rfl
theorem xmruns_j10:((Rows.confluentRunsRow.inPlace==xE.inPlace 6))=true:=by kernel_rfl
theorem xmruns_j11:((Rows.confluentRunsRow.unfollowed==xE.unfollowed 6))=true:=by kernel_rfl
theorem xmruns_j12:((Rows.confluentRunsRow.recurses==xE.recurses 6))=true:=by kernel_rfl
theorem xmruns_j13:((Rows.confluentRunsRow.named==xE.varsNamed 6))=true:=by kernel_rfl
theorem xmruns_j14:((Rows.confluentRunsRow.maps==(uO.params.toList++Rows.confluentRunsSpec.plain.varTypes xE).any (xE.mapsRec ·)))=true:=by kernel_rfl
theorem xmruns_j15:((Rows.confluentRunsRow.ifaces==(uO.params.toList++Rows.confluentRunsSpec.plain.varTypes xE).any (xE.ifacesRec ·)))=true:=by kernel_rfl
theorem xmruns_j16:((Rows.confluentRunsRow.mapsOut==xE.mapsAmong uO.resultTypes.toList))=true:=by kernel_rfl
theorem xmruns_j17:((Rows.confluentRunsRow.loops==(uO.params.toList++Rows.confluentRunsSpec.plain.varTypes xE).any (xE.loopsFrom ·)))=true:=by kernel_rfl
theorem xmruns_j18:((Rows.confluentRunsRow.wideKeys==(uO.params.toList++Rows.confluentRunsSpec.plain.varTypes xE++uO.resultTypes.toList).any (xE.wideKeysFrom ·)))=true:=by kernel_rfl
theorem xmruns_j19:(Rows.confluentRunsSpec.vars.all (xE.varReadable ·))=true:=by kernel_rfl
theorem xmruns_j20:(uO.resultTypes.all (λt=>xE.readableRec t&&decide (t<xE.types.size)))=true:=by kernel_rfl
theorem xmruns_j21:((Rows.confluentRunsRow.ifacesOut==uO.resultTypes.toList.any (xE.ifacesRec ·)))=true:=by kernel_rfl
theorem xmruns_j22:((Rows.confluentRunsRow.loopsOut==uO.resultTypes.toList.any (xE.loopsFrom ·)))=true:=by kernel_rfl
theorem xmruns_j23:((Rows.confluentRunsRow.plainKeys==xE.plainKeys))=true:=by kernel_rfl
theorem xmruns_j24:(Rows.confluentRunsRow.shortTexts.isNone)=true:=by kernel_rfl
theorem xmruns_j25:(xE.stopsHeard)=true:=by kernel_rfl
theorem xmruns_j26:(xE.mayEnter)=true:=by kernel_rfl
theorem xmruns_j27:((Rows.confluentRunsRow.lifted==xE.liftsFinal))=true:=by kernel_rfl
theorem xmruns_j28:((xE.make==some Rows.confluentRunsRow.make))=true:=by kernel_rfl
theorem xmruns_j29:((Rows.confluentRunsRow.kinds==(if Rows.confluentRunsRow.domain.isEmpty then[]else uO.params.toList.map λt=>match xE.underlying t with|some (.int k)=>some k|_=>none)))=true:=by kernel_rfl
theorem xmruns_j30:((Rows.confluentRunsRow.pinned==Rows.confluentRunsRow.pinnedBy))=true:=by kernel_rfl
theorem xmruns_j31:((Rows.confluentRunsRow.veiled==(uO.params.toList++Rows.confluentRunsSpec.plain.varTypes xE++uO.resultTypes.toList).any (xE.veiledRec ·)))=true:=by kernel_rfl
theorem xmruns_j32:(Rows.confluentRunsRow.veiledFits xE uO.params.toList (uO.params.toList++Rows.confluentRunsSpec.plain.varTypes xE++uO.resultTypes.toList))=true:=by kernel_rfl
theorem xmruns_facts:joinedFacts xE 6 uO Rows.confluentRunsSpec Rows.confluentRunsRow=true:=(Cy (Cy (Cy (Cy (Cy (Cy (Cy (Cy (Cy (Cy (Cy (Cy (Cy (Cy (Cy (Cy (Cy (Cy (Cy (Cy (Cy (Cy (Cy (Cy (Cy (Cy (Cy (Cy (Cy (Cy (Cy xmruns_j1 xmruns_j2) xmruns_j3) xmruns_j4) xmruns_j5) xmruns_j6) xmruns_j7) xmruns_j8) xmruns_j9) xmruns_j10) xmruns_j11) xmruns_j12) xmruns_j13) xmruns_j14) xmruns_j15) xmruns_j16) xmruns_j17) xmruns_j18) xmruns_j19) xmruns_j20) xmruns_j21) xmruns_j22) xmruns_j23) xmruns_j24) xmruns_j25) xmruns_j26) xmruns_j27) xmruns_j28) xmruns_j29) xmruns_j30) xmruns_j31) xmruns_j32)
end Go.Proofs.YtejinebghgaigaaGreatDoor
