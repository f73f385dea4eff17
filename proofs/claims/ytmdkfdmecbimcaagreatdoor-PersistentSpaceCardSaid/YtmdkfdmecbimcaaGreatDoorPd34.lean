/- Part 34: no statement of the seat is proved here. -/
import Derived.Test.YtmdkfdmecbimcaaGreatDoorPd33
set_option linter.unusedVariables false
set_option linter.unusedSimpArgs false
open Go.Proofs.Tryz renaming prog->xS,f5->tA
namespace Go.Proofs.YtmdkfdmecbimcaaGreatDoor
open Go
set_option maxRecDepth 100000
theorem andT{a b:Bool}(h:a=true)(k:b=true):(a&&b)=true:=by rw[h,k];rfl
theorem pspace_j1:(Rows.persistentSpaceRow.wf (OpenSpec.ofChange Rows.persistentSpaceSpec))=true:=by kernel_rfl
theorem pspace_j2:(laidOutB xS)=true:=by kernel_rfl
theorem pspace_j3:(mapsRowed xS)=true:=by kernel_rfl
theorem pspace_j4:(tA.params.all (xS.readableRec ·))=true:=by kernel_rfl
theorem pspace_j5:(namedTie xS Rows.persistentSpaceRow.named Rows.persistentSpaceSpec.vars)=true:=by kernel_rfl
theorem pspace_j6:((Rows.persistentSpaceRow.stops==[]))=true:=by kernel_rfl
theorem pspace_j7:((xS.stops==[]))=true:=by kernel_rfl
theorem pspace_j8:((Rows.persistentSpaceRow.knobs==[]))=true:=by kernel_rfl
theorem pspace_j9:((xS.stopKnobs==[]))=true:=by kernel_rfl
theorem pspace_j10:((Rows.persistentSpaceRow.inPlace==xS.inPlace 5))=true:=by kernel_rfl
theorem pspace_j11:((Rows.persistentSpaceRow.unfollowed==xS.unfollowed 5))=true:=by kernel_rfl
theorem pspace_j12:((Rows.persistentSpaceRow.recurses==xS.recurses 5))=true:=by kernel_rfl
theorem pspace_j13:((Rows.persistentSpaceRow.named==xS.varsNamed 5))=true:=by kernel_rfl
theorem pspace_j14:((Rows.persistentSpaceRow.maps==(tA.params.toList++Rows.persistentSpaceSpec.plain.varTypes xS).any (xS.mapsRec ·)))=true:=by kernel_rfl
theorem pspace_j15:((Rows.persistentSpaceRow.ifaces==(tA.params.toList++Rows.persistentSpaceSpec.plain.varTypes xS).any (xS.ifacesRec ·)))=true:=by kernel_rfl
theorem pspace_j16:((Rows.persistentSpaceRow.mapsOut==xS.mapsAmong tA.resultTypes.toList))=true:=by kernel_rfl
theorem pspace_j17:((Rows.persistentSpaceRow.loops==(tA.params.toList++Rows.persistentSpaceSpec.plain.varTypes xS).any (xS.loopsFrom ·)))=true:=by kernel_rfl
theorem pspace_j18:((Rows.persistentSpaceRow.wideKeys==(tA.params.toList++Rows.persistentSpaceSpec.plain.varTypes xS++tA.resultTypes.toList).any (xS.wideKeysFrom ·)))=true:=by kernel_rfl
theorem pspace_j19:(Rows.persistentSpaceSpec.vars.all (xS.varReadable ·))=true:=by kernel_rfl
theorem pspace_j20:(tA.resultTypes.all (λt=>xS.readableRec t&&decide (t<xS.types.size)))=true:=by kernel_rfl
theorem pspace_j21:((Rows.persistentSpaceRow.ifacesOut==tA.resultTypes.toList.any (xS.ifacesRec ·)))=true:=by kernel_rfl
theorem pspace_j22:((Rows.persistentSpaceRow.loopsOut==tA.resultTypes.toList.any (xS.loopsFrom ·)))=true:=by kernel_rfl
theorem pspace_j23:((Rows.persistentSpaceRow.plainKeys==xS.plainKeys))=true:=by kernel_rfl
theorem pspace_j24:(Rows.persistentSpaceRow.shortTexts.isNone)=true:=by kernel_rfl
theorem pspace_j25:(xS.stopsHeard)=true:=by kernel_rfl
theorem pspace_j26:(xS.mayEnter)=true:=by kernel_rfl
theorem pspace_j27:((Rows.persistentSpaceRow.lifted==xS.liftsFinal))=true:=by kernel_rfl
theorem pspace_j28:((xS.make==some Rows.persistentSpaceRow.make))=true:=by kernel_rfl
theorem pspace_j29:((Rows.persistentSpaceRow.kinds==(if Rows.persistentSpaceRow.domain.isEmpty then[]else tA.params.toList.map λt=>match xS.underlying t with|some (.int k)=>some k|_=>none)))=true:=by kernel_rfl
theorem pspace_j30:((Rows.persistentSpaceRow.pinned==Rows.persistentSpaceRow.pinnedBy))=true:=by kernel_rfl
theorem pspace_j31:((Rows.persistentSpaceRow.veiled==(tA.params.toList++Rows.persistentSpaceSpec.plain.varTypes xS++tA.resultTypes.toList).any (xS.veiledRec ·)))=true:=by kernel_rfl
theorem pspace_j32:(Rows.persistentSpaceRow.veiledFits xS tA.params.toList (tA.params.toList++Rows.persistentSpaceSpec.plain.varTypes xS++tA.resultTypes.toList))=true:=by kernel_rfl
theorem pspace_facts:joinedFacts xS 5 tA Rows.persistentSpaceSpec Rows.persistentSpaceRow=true:=(andT (andT (andT (andT (andT (andT (andT (andT (andT (andT (andT (andT (andT (andT (andT (andT (andT (andT (andT (andT (andT (andT (andT (andT (andT (andT (andT (andT (andT (andT (andT pspace_j1 pspace_j2) pspace_j3) pspace_j4) pspace_j5) pspace_j6) pspace_j7) pspace_j8) pspace_j9) pspace_j10) pspace_j11) pspace_j12) pspace_j13) pspace_j14) pspace_j15) pspace_j16) pspace_j17) pspace_j18) pspace_j19) pspace_j20) pspace_j21) pspace_j22) pspace_j23) pspace_j24) pspace_j25) pspace_j26) pspace_j27) pspace_j28) pspace_j29) pspace_j30) pspace_j31) pspace_j32)
end Go.Proofs.YtmdkfdmecbimcaaGreatDoor
