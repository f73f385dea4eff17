/- Part 31: no statement of the seat is proved here. -/
import Derived.Test.YtmdkfdmecbimcaaGreatDoorPd30
set_option linter.unusedVariables false
set_option linter.unusedSimpArgs false
open Go.Proofs.Tryz renaming prog->xS,f3->u7
namespace Go.Proofs.YtmdkfdmecbimcaaGreatDoor
open Go
set_option maxRecDepth 100000
theorem andT{a b:Bool}(h:a=true)(k:b=true):(a&&b)=true:=by rw[h,k];rfl
theorem psnaps_j1:(Rows.persistentSnapshotsRow.wf (OpenSpec.ofChange Rows.persistentSnapshotsSpec))=true:=by kernel_rfl
theorem psnaps_j2:(laidOutB xS)=true:=by kernel_rfl
theorem psnaps_j3:(mapsRowed xS)=true:=by kernel_rfl
theorem psnaps_j4:(u7.params.all (xS.readableRec ·))=true:=by kernel_rfl
theorem psnaps_j5:(namedTie xS Rows.persistentSnapshotsRow.named Rows.persistentSnapshotsSpec.vars)=true:=by kernel_rfl
theorem psnaps_j6:((Rows.persistentSnapshotsRow.stops==[]))=true:=by kernel_rfl
theorem psnaps_j7:((xS.stops==[]))=true:=by kernel_rfl
theorem psnaps_j8:((Rows.persistentSnapshotsRow.knobs==[]))=true:=by kernel_rfl
theorem psnaps_j9:((xS.stopKnobs==[]))=true:=by kernel_rfl
theorem psnaps_j10:((Rows.persistentSnapshotsRow.inPlace==xS.inPlace 3))=true:=by kernel_rfl
theorem psnaps_j11:((Rows.persistentSnapshotsRow.unfollowed==xS.unfollowed 3))=true:=by kernel_rfl
theorem psnaps_j12:((Rows.persistentSnapshotsRow.recurses==xS.recurses 3))=true:=by kernel_rfl
theorem psnaps_j13:((Rows.persistentSnapshotsRow.named==xS.varsNamed 3))=true:=by kernel_rfl
theorem psnaps_j14:((Rows.persistentSnapshotsRow.maps==(u7.params.toList++Rows.persistentSnapshotsSpec.plain.varTypes xS).any (xS.mapsRec ·)))=true:=by kernel_rfl
theorem psnaps_j15:((Rows.persistentSnapshotsRow.ifaces==(u7.params.toList++Rows.persistentSnapshotsSpec.plain.varTypes xS).any (xS.ifacesRec ·)))=true:=by kernel_rfl
theorem psnaps_j16:((Rows.persistentSnapshotsRow.mapsOut==xS.mapsAmong u7.resultTypes.toList))=true:=by kernel_rfl
theorem psnaps_j17:((Rows.persistentSnapshotsRow.loops==(u7.params.toList++Rows.persistentSnapshotsSpec.plain.varTypes xS).any (xS.loopsFrom ·)))=true:=by kernel_rfl
theorem psnaps_j18:((Rows.persistentSnapshotsRow.wideKeys==(u7.params.toList++Rows.persistentSnapshotsSpec.plain.varTypes xS++u7.resultTypes.toList).any (xS.wideKeysFrom ·)))=true:=by kernel_rfl
theorem psnaps_j19:(Rows.persistentSnapshotsSpec.vars.all (xS.varReadable ·))=true:=by kernel_rfl
theorem psnaps_j20:(u7.resultTypes.all (λt=>xS.readableRec t&&decide (t<xS.types.size)))=true:=by kernel_rfl
theorem psnaps_j21:((Rows.persistentSnapshotsRow.ifacesOut==u7.resultTypes.toList.any (xS.ifacesRec ·)))=true:=by kernel_rfl
theorem psnaps_j22:((Rows.persistentSnapshotsRow.loopsOut==u7.resultTypes.toList.any (xS.loopsFrom ·)))=true:=by kernel_rfl
theorem psnaps_j23:((Rows.persistentSnapshotsRow.plainKeys==xS.plainKeys))=true:=by kernel_rfl
theorem psnaps_j24:(Rows.persistentSnapshotsRow.shortTexts.isNone)=true:=by kernel_rfl
theorem psnaps_j25:(xS.stopsHeard)=true:=by kernel_rfl
theorem psnaps_j26:(xS.mayEnter)=true:=by kernel_rfl
theorem psnaps_j27:((Rows.persistentSnapshotsRow.lifted==xS.liftsFinal))=true:=by kernel_rfl
theorem psnaps_j28:((xS.make==some Rows.persistentSnapshotsRow.make))=true:=by kernel_rfl
theorem psnaps_j29:((Rows.persistentSnapshotsRow.kinds==(if Rows.persistentSnapshotsRow.domain.isEmpty then[]else u7.params.toList.map λt=>match xS.underlying t with|some (.int k)=>some k|_=>none)))=true:=by kernel_rfl
theorem psnaps_j30:((Rows.persistentSnapshotsRow.pinned==Rows.persistentSnapshotsRow.pinnedBy))=true:=by kernel_rfl
theorem psnaps_j31:((Rows.persistentSnapshotsRow.veiled==(u7.params.toList++Rows.persistentSnapshotsSpec.plain.varTypes xS++u7.resultTypes.toList).any (xS.veiledRec ·)))=true:=by kernel_rfl
theorem psnaps_j32:(Rows.persistentSnapshotsRow.veiledFits xS u7.params.toList (u7.params.toList++Rows.persistentSnapshotsSpec.plain.varTypes xS++u7.resultTypes.toList))=true:=by kernel_rfl
theorem psnaps_facts:joinedFacts xS 3 u7 Rows.persistentSnapshotsSpec Rows.persistentSnapshotsRow=true:=(andT (andT (andT (andT (andT (andT (andT (andT (andT (andT (andT (andT (andT (andT (andT (andT (andT (andT (andT (andT (andT (andT (andT (andT (andT (andT (andT (andT (andT (andT (andT psnaps_j1 psnaps_j2) psnaps_j3) psnaps_j4) psnaps_j5) psnaps_j6) psnaps_j7) psnaps_j8) psnaps_j9) psnaps_j10) psnaps_j11) psnaps_j12) psnaps_j13) psnaps_j14) psnaps_j15) psnaps_j16) psnaps_j17) psnaps_j18) psnaps_j19) psnaps_j20) psnaps_j21) psnaps_j22) psnaps_j23) psnaps_j24) psnaps_j25) psnaps_j26) psnaps_j27) psnaps_j28) psnaps_j29) psnaps_j30) psnaps_j31) psnaps_j32)
end Go.Proofs.YtmdkfdmecbimcaaGreatDoor
