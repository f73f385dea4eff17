/- Part 27: no statement of the seat is proved here. -/
import Derived.Test.YtejinebghgaigaaGreatDoorPc17
set_option linter.unusedVariables false
set_option linter.unusedSimpArgs false
open Go.Proofs.Tryz renaming prog->xG,f5->uU
namespace Go.Proofs.YtejinebghgaigaaGreatDoor
open Go
set_option maxRecDepth 100000
theorem andT{a b:Bool}(h:a=true)(k:b=true):(a&&b)=true:=by rw[h,k];rfl
theorem xsnaps_j1:(Rows.confluentSnapshotsRow.wf (OpenSpec.ofChange Rows.confluentSnapshotsSpec))=true:=by kernel_rfl
theorem xsnaps_j2:(laidOutB xG)=true:=by kernel_rfl
theorem xsnaps_j3:(mapsRowed xG)=true:=by kernel_rfl
theorem xsnaps_j4:(uU.params.all (xG.readableRec ·))=true:=by kernel_rfl
theorem xsnaps_j5:(namedTie xG Rows.confluentSnapshotsRow.named Rows.confluentSnapshotsSpec.vars)=true:=by kernel_rfl
theorem xsnaps_j6:((Rows.confluentSnapshotsRow.stops==[]))=true:=by kernel_rfl
theorem xsnaps_j7:((xG.stops==[]))=true:=by kernel_rfl
theorem xsnaps_j8:((Rows.confluentSnapshotsRow.knobs==[]))=true:=by kernel_rfl
theorem xsnaps_j9:((xG.stopKnobs==[]))=true:=by kernel_rfl
theorem xsnaps_j10:((Rows.confluentSnapshotsRow.inPlace==xG.inPlace 5))=true:=by kernel_rfl
theorem xsnaps_j11:((Rows.confluentSnapshotsRow.unfollowed==xG.unfollowed 5))=true:=by kernel_rfl
theorem xsnaps_j12:((Rows.confluentSnapshotsRow.recurses==xG.recurses 5))=true:=by kernel_rfl
theorem xsnaps_j13:((Rows.confluentSnapshotsRow.named==xG.varsNamed 5))=true:=by kernel_rfl
theorem xsnaps_j14:((Rows.confluentSnapshotsRow.maps==(uU.params.toList++Rows.confluentSnapshotsSpec.plain.varTypes xG).any (xG.mapsRec ·)))=true:=by kernel_rfl
theorem xsnaps_j15:((Rows.confluentSnapshotsRow.ifaces==(uU.params.toList++Rows.confluentSnapshotsSpec.plain.varTypes xG).any (xG.ifacesRec ·)))=true:=by kernel_rfl
theorem xsnaps_j16:((Rows.confluentSnapshotsRow.mapsOut==xG.mapsAmong uU.resultTypes.toList))=true:=by kernel_rfl
theorem xsnaps_j17:((Rows.confluentSnapshotsRow.loops==(uU.params.toList++Rows.confluentSnapshotsSpec.plain.varTypes xG).any (xG.loopsFrom ·)))=true:=by kernel_rfl
theorem xsnaps_j18:((Rows.confluentSnapshotsRow.wideKeys==(uU.params.toList++Rows.confluentSnapshotsSpec.plain.varTypes xG++uU.resultTypes.toList).any (xG.wideKeysFrom ·)))=true:=by kernel_rfl
theorem xsnaps_j19:(Rows.confluentSnapshotsSpec.vars.all (xG.varReadable ·))=true:=by kernel_rfl
theorem xsnaps_j20:(uU.resultTypes.all (λt=>xG.readableRec t&&decide (t<xG.types.size)))=true:=by kernel_rfl
theorem xsnaps_j21:((Rows.confluentSnapshotsRow.ifacesOut==uU.resultTypes.toList.any (xG.ifacesRec ·)))=true:=by kernel_rfl
theorem xsnaps_j22:((Rows.confluentSnapshotsRow.loopsOut==uU.resultTypes.toList.any (xG.loopsFrom ·)))=true:=by kernel_rfl
theorem xsnaps_j23:((Rows.confluentSnapshotsRow.plainKeys==xG.plainKeys))=true:=by kernel_rfl
theorem xsnaps_j24:(Rows.confluentSnapshotsRow.shortTexts.isNone)=true:=by kernel_rfl
theorem xsnaps_j25:(xG.stopsHeard)=true:=by kernel_rfl
theorem xsnaps_j26:(xG.mayEnter)=true:=by kernel_rfl
theorem xsnaps_j27:((Rows.confluentSnapshotsRow.lifted==xG.liftsFinal))=true:=by kernel_rfl
theorem xsnaps_j28:((xG.make==some Rows.confluentSnapshotsRow.make))=true:=by kernel_rfl
theorem xsnaps_j29:((Rows.confluentSnapshotsRow.kinds==(if Rows.confluentSnapshotsRow.domain.isEmpty then[]else uU.params.toList.map λt=>match xG.underlying t with|some (.int k)=>some k|_=>none)))=true:=by kernel_rfl
theorem xsnaps_j30:((Rows.confluentSnapshotsRow.pinned==Rows.confluentSnapshotsRow.pinnedBy))=true:=by kernel_rfl
theorem xsnaps_j31:((Rows.confluentSnapshotsRow.veiled==(uU.params.toList++Rows.confluentSnapshotsSpec.plain.varTypes xG++uU.resultTypes.toList).any (xG.veiledRec ·)))=true:=by kernel_rfl
theorem xsnaps_j32:(Rows.confluentSnapshotsRow.veiledFits xG uU.params.toList (uU.params.toList++Rows.confluentSnapshotsSpec.plain.varTypes xG++uU.resultTypes.toList))=true:=by kernel_rfl
theorem xsnaps_facts:joinedFacts xG 5 uU Rows.confluentSnapshotsSpec Rows.confluentSnapshotsRow=true:=(andT (andT (andT (andT (andT (andT (andT (andT (andT (andT (andT (andT (andT (andT (andT (andT (andT (andT (andT (andT (andT (andT (andT (andT (andT (andT (andT (andT (andT (andT (andT xsnaps_j1 xsnaps_j2) xsnaps_j3) xsnaps_j4) xsnaps_j5) xsnaps_j6) xsnaps_j7) xsnaps_j8) xsnaps_j9) xsnaps_j10) xsnaps_j11) xsnaps_j12) xsnaps_j13) xsnaps_j14) xsnaps_j15) xsnaps_j16) xsnaps_j17) xsnaps_j18) xsnaps_j19) xsnaps_j20) xsnaps_j21) xsnaps_j22) xsnaps_j23) xsnaps_j24) xsnaps_j25) xsnaps_j26) xsnaps_j27) xsnaps_j28) xsnaps_j29) xsnaps_j30) xsnaps_j31) xsnaps_j32)
end Go.Proofs.YtejinebghgaigaaGreatDoor
