/- Part 28: no statement of the seat is proved here. -/
import Derived.Test.YtmdkfdmecbimcaaGreatDoorPd27
set_option linter.unusedVariables false
set_option linter.unusedSimpArgs false
open Go.Proofs.Tryz renaming prog->xS,f4->u3
namespace Go.Proofs.YtmdkfdmecbimcaaGreatDoor
open Go
set_option maxRecDepth 100000
theorem andT{a b:Bool}(h:a=true)(k:b=true):(a&&b)=true:=by rw[h,k];rfl
theorem pcalls_j1:(Rows.persistentCallsRow.wf (OpenSpec.ofChange Rows.persistentCallsSpec))=true:=by kernel_rfl
theorem pcalls_j2:(laidOutB xS)=true:=by kernel_rfl
theorem pcalls_j3:(mapsRowed xS)=true:=by kernel_rfl
theorem pcalls_j4:(u3.params.all (xS.readableRec ·))=true:=by kernel_rfl
theorem pcalls_j5:(namedTie xS Rows.persistentCallsRow.named Rows.persistentCallsSpec.vars)=true:=by kernel_rfl
theorem pcalls_j6:((Rows.persistentCallsRow.stops==[]))=true:=by kernel_rfl
theorem pcalls_j7:((xS.stops==[]))=true:=by kernel_rfl
theorem pcalls_j8:((Rows.persistentCallsRow.knobs==[]))=true:=by kernel_rfl
theorem pcalls_j9:((xS.stopKnobs==[]))=true:=by kernel_rfl
theorem pcalls_j10:((Rows.persistentCallsRow.inPlace==xS.inPlace 4))=true:=by kernel_rfl
theorem pcalls_j11:((Rows.persistentCallsRow.unfollowed==xS.unfollowed 4))=true:=by kernel_rfl
theorem pcalls_j12:((Rows.persistentCallsRow.recurses==xS.recurses 4))=true:=by kernel_rfl
theorem pcalls_j13:((Rows.persistentCallsRow.named==xS.varsNamed 4))=true:=by kernel_rfl
theorem pcalls_j14:((Rows.persistentCallsRow.maps==(u3.params.toList++Rows.persistentCallsSpec.plain.varTypes xS).any (xS.mapsRec ·)))=true:=by kernel_rfl
theorem pcalls_j15:((Rows.persistentCallsRow.ifaces==(u3.params.toList++Rows.persistentCallsSpec.plain.varTypes xS).any (xS.ifacesRec ·)))=true:=by kernel_rfl
theorem pcalls_j16:((Rows.persistentCallsRow.mapsOut==xS.mapsAmong u3.resultTypes.toList))=true:=by kernel_rfl
theorem pcalls_j17:((Rows.persistentCallsRow.loops==(u3.params.toList++Rows.persistentCallsSpec.plain.varTypes xS).any (xS.loopsFrom ·)))=true:=by kernel_rfl
theorem pcalls_j18:((Rows.persistentCallsRow.wideKeys==(u3.params.toList++Rows.persistentCallsSpec.plain.varTypes xS++u3.resultTypes.toList).any (xS.wideKeysFrom ·)))=true:=by kernel_rfl
theorem pcalls_j19:(Rows.persistentCallsSpec.vars.all (xS.varReadable ·))=true:=by kernel_rfl
theorem pcalls_j20:(u3.resultTypes.all (λt=>xS.readableRec t&&decide (t<xS.types.size)))=true:=by kernel_rfl
theorem pcalls_j21:((Rows.persistentCallsRow.ifacesOut==u3.resultTypes.toList.any (xS.ifacesRec ·)))=true:=by kernel_rfl
theorem pcalls_j22:((Rows.persistentCallsRow.loopsOut==u3.resultTypes.toList.any (xS.loopsFrom ·)))=true:=by kernel_rfl
theorem pcalls_j23:((Rows.persistentCallsRow.plainKeys==xS.plainKeys))=true:=by kernel_rfl
theorem pcalls_j24:(Rows.persistentCallsRow.shortTexts.isNone)=true:=by kernel_rfl
theorem pcalls_j25:(xS.stopsHeard)=true:=by kernel_rfl
theorem pcalls_j26:(xS.mayEnter)=true:=by kernel_rfl
theorem pcalls_j27:((Rows.persistentCallsRow.lifted==xS.liftsFinal))=true:=by kernel_rfl
theorem pcalls_j28:((xS.make==some Rows.persistentCallsRow.make))=true:=by kernel_rfl
theorem pcalls_j29:((Rows.persistentCallsRow.kinds==(if Rows.persistentCallsRow.domain.isEmpty then[]else u3.params.toList.map λt=>match xS.underlying t with|some (.int k)=>some k|_=>none)))=true:=by kernel_rfl
theorem pcalls_j30:((Rows.persistentCallsRow.pinned==Rows.persistentCallsRow.pinnedBy))=true:=by kernel_rfl
theorem pcalls_j31:((Rows.persistentCallsRow.veiled==(u3.params.toList++Rows.persistentCallsSpec.plain.varTypes xS++u3.resultTypes.toList).any (xS.veiledRec ·)))=true:=by kernel_rfl
theorem pcalls_j32:(Rows.persistentCallsRow.veiledFits xS u3.params.toList (u3.params.toList++Rows.persistentCallsSpec.plain.varTypes xS++u3.resultTypes.toList))=true:=by kernel_rfl
theorem pcalls_facts:joinedFacts xS 4 u3 Rows.persistentCallsSpec Rows.persistentCallsRow=true:=(andT (andT (andT (andT (andT (andT (andT (andT (andT (andT (andT (andT (andT (andT (andT (andT (andT (andT (andT (andT (andT (andT (andT (andT (andT (andT (andT (andT (andT (andT (andT pcalls_j1 pcalls_j2) pcalls_j3) pcalls_j4) pcalls_j5) pcalls_j6) pcalls_j7) pcalls_j8) pcalls_j9) pcalls_j10) pcalls_j11) pcalls_j12) pcalls_j13) pcalls_j14) pcalls_j15) pcalls_j16) pcalls_j17) pcalls_j18) pcalls_j19) pcalls_j20) pcalls_j21) pcalls_j22) pcalls_j23) pcalls_j24) pcalls_j25) pcalls_j26) pcalls_j27) pcalls_j28) pcalls_j29) pcalls_j30) pcalls_j31) pcalls_j32)
end Go.Proofs.YtmdkfdmecbimcaaGreatDoor
