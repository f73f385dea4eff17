/- Part 37: no statement of the seat is proved here. -/
import Derived.Test.YtmdkfdmecbimcaaGreatDoorPd36
set_option linter.unusedVariables false
set_option linter.unusedSimpArgs false
open Go.Proofs.Tryz renaming prog->xS,f6->tD
namespace Go.Proofs.YtmdkfdmecbimcaaGreatDoor
open Go
set_option maxRecDepth 100000
theorem andT{a b:Bool}(h:a=true)(k:b=true):(a&&b)=true:=by rw[h,k];rfl
theorem pstays_j1:(Rows.persistentStaysRow.wf (OpenSpec.ofChange Rows.persistentStaysSpec))=true:=by kernel_rfl
theorem pstays_j2:(laidOutB xS)=true:=by kernel_rfl
theorem pstays_j3:(mapsRowed xS)=true:=by kernel_rfl
theorem pstays_j4:(tD.params.all (xS.readableRec ·))=true:=by kernel_rfl
theorem pstays_j5:(namedTie xS Rows.persistentStaysRow.named Rows.persistentStaysSpec.vars)=true:=by kernel_rfl
theorem pstays_j6:((Rows.persistentStaysRow.stops==[]))=true:=by kernel_rfl
theorem pstays_j7:((xS.stops==[]))=true:=by kernel_rfl
theorem pstays_j8:((Rows.persistentStaysRow.knobs==[]))=true:=by kernel_rfl
theorem pstays_j9:((xS.stopKnobs==[]))=true:=by kernel_rfl
theorem pstays_j10:((Rows.persistentStaysRow.inPlace==xS.inPlace 6))=true:=by kernel_rfl
theorem pstays_j11:((Rows.persistentStaysRow.unfollowed==xS.unfollowed 6))=true:=by kernel_rfl
theorem pstays_j12:((Rows.persistentStaysRow.recurses==xS.recurses 6))=true:=by kernel_rfl
theorem pstays_j13:((Rows.persistentStaysRow.named==xS.varsNamed 6))=true:=by kernel_rfl
theorem pstays_j14:((Rows.persistentStaysRow.maps==(tD.params.toList++Rows.persistentStaysSpec.plain.varTypes xS).any (xS.mapsRec ·)))=true:=by kernel_rfl
theorem pstays_j15:((Rows.persistentStaysRow.ifaces==(tD.params.toList++Rows.persistentStaysSpec.plain.varTypes xS).any (xS.ifacesRec ·)))=true:=by kernel_rfl
theorem pstays_j16:((Rows.persistentStaysRow.mapsOut==xS.mapsAmong tD.resultTypes.toList))=true:=by kernel_rfl
theorem pstays_j17:((Rows.persistentStaysRow.loops==(tD.params.toList++Rows.persistentStaysSpec.plain.varTypes xS).any (xS.loopsFrom ·)))=true:=by kernel_rfl
theorem pstays_j18:((Rows.persistentStaysRow.wideKeys==(tD.params.toList++Rows.persistentStaysSpec.plain.varTypes xS++tD.resultTypes.toList).any (xS.wideKeysFrom ·)))=true:=by kernel_rfl
theorem pstays_j19:(Rows.persistentStaysSpec.vars.all (xS.varReadable ·))=true:=by kernel_rfl
theorem pstays_j20:(tD.resultTypes.all (λt=>xS.readableRec t&&decide (t<xS.types.size)))=true:=by kernel_rfl
theorem pstays_j21:((Rows.persistentStaysRow.ifacesOut==tD.resultTypes.toList.any (xS.ifacesRec ·)))=true:=by kernel_rfl
theorem pstays_j22:((Rows.persistentStaysRow.loopsOut==tD.resultTypes.toList.any (xS.loopsFrom ·)))=true:=by kernel_rfl
theorem pstays_j23:((Rows.persistentStaysRow.plainKeys==xS.plainKeys))=true:=by kernel_rfl
theorem pstays_j24:(Rows.persistentStaysRow.shortTexts.isNone)=true:=by kernel_rfl
theorem pstays_j25:(xS.stopsHeard)=true:=by kernel_rfl
theorem pstays_j26:(xS.mayEnter)=true:=by kernel_rfl
theorem pstays_j27:((Rows.persistentStaysRow.lifted==xS.liftsFinal))=true:=by kernel_rfl
theorem pstays_j28:((xS.make==some Rows.persistentStaysRow.make))=true:=by kernel_rfl
theorem pstays_j29:((Rows.persistentStaysRow.kinds==(if Rows.persistentStaysRow.domain.isEmpty then[]else tD.params.toList.map λt=>match xS.underlying t with|some (.int k)=>some k|_=>none)))=true:=by kernel_rfl
theorem pstays_j30:((Rows.persistentStaysRow.pinned==Rows.persistentStaysRow.pinnedBy))=true:=by kernel_rfl
theorem pstays_j31:((Rows.persistentStaysRow.veiled==(tD.params.toList++Rows.persistentStaysSpec.plain.varTypes xS++tD.resultTypes.toList).any (xS.veiledRec ·)))=true:=by kernel_rfl
theorem pstays_j32:(Rows.persistentStaysRow.veiledFits xS tD.params.toList (tD.params.toList++Rows.persistentStaysSpec.plain.varTypes xS++tD.resultTypes.toList))=true:=by kernel_rfl
theorem pstays_facts:joinedFacts xS 6 tD Rows.persistentStaysSpec Rows.persistentStaysRow=true:=(andT (andT (andT (andT (andT (andT (andT (andT (andT (andT (andT (andT (andT (andT (andT (andT (andT (andT (andT (andT (andT (andT (andT (andT (andT (andT (andT (andT (andT (andT (andT pstays_j1 pstays_j2) pstays_j3) pstays_j4) pstays_j5) pstays_j6) pstays_j7) pstays_j8) pstays_j9) pstays_j10) pstays_j11) pstays_j12) pstays_j13) pstays_j14) pstays_j15) pstays_j16) pstays_j17) pstays_j18) pstays_j19) pstays_j20) pstays_j21) pstays_j22) pstays_j23) pstays_j24) pstays_j25) pstays_j26) pstays_j27) pstays_j28) pstays_j29) pstays_j30) pstays_j31) pstays_j32)
end Go.Proofs.YtmdkfdmecbimcaaGreatDoor
