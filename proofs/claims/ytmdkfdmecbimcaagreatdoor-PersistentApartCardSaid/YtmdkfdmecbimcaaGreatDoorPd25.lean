/- Part 25: no statement of the seat is proved here. -/
import Derived.Test.YtmdkfdmecbimcaaGreatDoorPd24
set_option linter.unusedVariables false
set_option linter.unusedSimpArgs false
open Go.Proofs.Tryz renaming prog->xS,f7->ub
namespace Go.Proofs.YtmdkfdmecbimcaaGreatDoor
open Go
set_option maxRecDepth 100000
theorem andT{a b:Bool}(h:a=true)(k:b=true):(a&&b)=true:=by rw[h,k];rfl
theorem papart_j1:(Rows.persistentApartRow.wf (OpenSpec.ofChange Rows.persistentApartSpec))=true:=by kernel_rfl
theorem papart_j2:(laidOutB xS)=true:=by kernel_rfl
theorem papart_j3:(mapsRowed xS)=true:=by kernel_rfl
theorem papart_j4:(ub.params.all (xS.readableRec ·))=true:=by kernel_rfl
theorem papart_j5:(namedTie xS Rows.persistentApartRow.named Rows.persistentApartSpec.vars)=true:=by kernel_rfl
theorem papart_j6:((Rows.persistentApartRow.stops==[]))=true:=by kernel_rfl
theorem papart_j7:((xS.stops==[]))=true:=by kernel_rfl
theorem papart_j8:((Rows.persistentApartRow.knobs==[]))=true:=by kernel_rfl
theorem papart_j9:((xS.stopKnobs==[]))=true:=by kernel_rfl
theorem papart_j10:((Rows.persistentApartRow.inPlace==xS.inPlace 7))=true:=by kernel_rfl
theorem papart_j11:((Rows.persistentApartRow.unfollowed==xS.unfollowed 7))=true:=by kernel_rfl
theorem papart_j12:((Rows.persistentApartRow.recurses==xS.recurses 7))=true:=by kernel_rfl
theorem papart_j13:((Rows.persistentApartRow.named==xS.varsNamed 7))=true:=by kernel_rfl
theorem papart_j14:((Rows.persistentApartRow.maps==(ub.params.toList++Rows.persistentApartSpec.plain.varTypes xS).any (xS.mapsRec ·)))=true:=by kernel_rfl
theorem papart_j15:((Rows.persistentApartRow.ifaces==(ub.params.toList++Rows.persistentApartSpec.plain.varTypes xS).any (xS.ifacesRec ·)))=true:=by kernel_rfl
theorem papart_j16:((Rows.persistentApartRow.mapsOut==xS.mapsAmong ub.resultTypes.toList))=true:=by kernel_rfl
theorem papart_j17:((Rows.persistentApartRow.loops==(ub.params.toList++Rows.persistentApartSpec.plain.varTypes xS).any (xS.loopsFrom ·)))=true:=by kernel_rfl
theorem papart_j18:((Rows.persistentApartRow.wideKeys==(ub.params.toList++Rows.persistentApartSpec.plain.varTypes xS++ub.resultTypes.toList).any (xS.wideKeysFrom ·)))=true:=by kernel_rfl
theorem papart_j19:(Rows.persistentApartSpec.vars.all (xS.varReadable ·))=true:=by kernel_rfl
theorem papart_j20:(ub.resultTypes.all (λt=>xS.readableRec t&&decide (t<xS.types.size)))=true:=by kernel_rfl
theorem papart_j21:((Rows.persistentApartRow.ifacesOut==ub.resultTypes.toList.any (xS.ifacesRec ·)))=true:=by kernel_rfl
theorem papart_j22:((Rows.persistentApartRow.loopsOut==ub.resultTypes.toList.any (xS.loopsFrom ·)))=true:=by kernel_rfl
theorem papart_j23:((Rows.persistentApartRow.plainKeys==xS.plainKeys))=true:=by kernel_rfl
theorem papart_j24:(Rows.persistentApartRow.shortTexts.isNone)=true:=by kernel_rfl
theorem papart_j25:(xS.stopsHeard)=true:=by kernel_rfl
theorem papart_j26:(xS.mayEnter)=true:=by kernel_rfl
theorem papart_j27:((Rows.persistentApartRow.lifted==xS.liftsFinal))=true:=by kernel_rfl
theorem papart_j28:((xS.make==some Rows.persistentApartRow.make))=true:=by kernel_rfl
theorem papart_j29:((Rows.persistentApartRow.kinds==(if Rows.persistentApartRow.domain.isEmpty then[]else ub.params.toList.map λt=>match xS.underlying t with|some (.int k)=>some k|_=>none)))=true:=by kernel_rfl
theorem papart_j30:((Rows.persistentApartRow.pinned==Rows.persistentApartRow.pinnedBy))=true:=by kernel_rfl
theorem papart_j31:((Rows.persistentApartRow.veiled==(ub.params.toList++Rows.persistentApartSpec.plain.varTypes xS++ub.resultTypes.toList).any (xS.veiledRec ·)))=true:=by kernel_rfl
theorem papart_j32:(Rows.persistentApartRow.veiledFits xS ub.params.toList (ub.params.toList++Rows.persistentApartSpec.plain.varTypes xS++ub.resultTypes.toList))=true:=by kernel_rfl
theorem papart_facts:joinedFacts xS 7 ub Rows.persistentApartSpec Rows.persistentApartRow=true:=(andT (andT (andT (andT (andT (andT (andT (andT (andT (andT (andT (andT (andT (andT (andT (andT (andT (andT (andT (andT (andT (andT (andT (andT (andT (andT (andT (andT (andT (andT (andT papart_j1 papart_j2) papart_j3) papart_j4) papart_j5) papart_j6) papart_j7) papart_j8) papart_j9) papart_j10) papart_j11) papart_j12) papart_j13) papart_j14) papart_j15) papart_j16) papart_j17) papart_j18) papart_j19) papart_j20) papart_j21) papart_j22) papart_j23) papart_j24) papart_j25) papart_j26) papart_j27) papart_j28) papart_j29) papart_j30) papart_j31) papart_j32)
end Go.Proofs.YtmdkfdmecbimcaaGreatDoor
