/- Part 30: no statement of the seat is proved here. -/
import Derived.Test.YtejinebghgaigaaGreatDoorPc17
set_option linter.unusedVariables false
set_option linter.unusedSimpArgs false
open Go.Proofs.Tryz renaming prog->xG,f7->uX
namespace Go.Proofs.YtejinebghgaigaaGreatDoor
open Go
set_option maxRecDepth 100000
theorem andT{a b:Bool}(h:a=true)(k:b=true):(a&&b)=true:=by rw[h,k];rfl
theorem xapart_j1:(Rows.confluentApartRow.wf (OpenSpec.ofChange Rows.confluentApartSpec))=true:=by kernel_rfl
theorem xapart_j2:(laidOutB xG)=true:=by kernel_rfl
theorem xapart_j3:(mapsRowed xG)=true:=by kernel_rfl
theorem xapart_j4:(uX.params.all (xG.readableRec ·))=true:=by kernel_rfl
theorem xapart_j5:(namedTie xG Rows.confluentApartRow.named Rows.confluentApartSpec.vars)=true:=by kernel_rfl
theorem xapart_j6:((Rows.confluentApartRow.stops==[]))=true:=by kernel_rfl
theorem xapart_j7:((xG.stops==[]))=true:=by kernel_rfl
theorem xapart_j8:((Rows.confluentApartRow.knobs==[]))=true:=by kernel_rfl
theorem xapart_j9:((xG.stopKnobs==[]))=true:=by kernel_rfl
theorem xapart_j10:((Rows.confluentApartRow.inPlace==xG.inPlace 7))=true:=by kernel_rfl
theorem xapart_j11:((Rows.confluentApartRow.unfollowed==xG.unfollowed 7))=true:=by kernel_rfl
theorem xapart_j12:((Rows.confluentApartRow.recurses==xG.recurses 7))=true:=by kernel_rfl
theorem xapart_j13:((Rows.confluentApartRow.named==xG.varsNamed 7))=true:=by kernel_rfl
theorem xapart_j14:((Rows.confluentApartRow.maps==(uX.params.toList++Rows.confluentApartSpec.plain.varTypes xG).any (xG.mapsRec ·)))=true:=by kernel_rfl
theorem xapart_j15:((Rows.confluentApartRow.ifaces==(uX.params.toList++Rows.confluentApartSpec.plain.varTypes xG).any (xG.ifacesRec ·)))=true:=by kernel_rfl
theorem xapart_j16:((Rows.confluentApartRow.mapsOut==xG.mapsAmong uX.resultTypes.toList))=true:=by kernel_rfl
theorem xapart_j17:((Rows.confluentApartRow.loops==(uX.params.toList++Rows.confluentApartSpec.plain.varTypes xG).any (xG.loopsFrom ·)))=true:=by kernel_rfl
theorem xapart_j18:((Rows.confluentApartRow.wideKeys==(uX.params.toList++Rows.confluentApartSpec.plain.varTypes xG++uX.resultTypes.toList).any (xG.wideKeysFrom ·)))=true:=by kernel_rfl
theorem xapart_j19:(Rows.confluentApartSpec.vars.all (xG.varReadable ·))=true:=by kernel_rfl
theorem xapart_j20:(uX.resultTypes.all (λt=>xG.readableRec t&&decide (t<xG.types.size)))=true:=by kernel_rfl
theorem xapart_j21:((Rows.confluentApartRow.ifacesOut==uX.resultTypes.toList.any (xG.ifacesRec ·)))=true:=by kernel_rfl
theorem xapart_j22:((Rows.confluentApartRow.loopsOut==uX.resultTypes.toList.any (xG.loopsFrom ·)))=true:=by kernel_rfl
theorem xapart_j23:((Rows.confluentApartRow.plainKeys==xG.plainKeys))=true:=by kernel_rfl
theorem xapart_j24:(Rows.confluentApartRow.shortTexts.isNone)=true:=by kernel_rfl
theorem xapart_j25:(xG.stopsHeard)=true:=by kernel_rfl
theorem xapart_j26:(xG.mayEnter)=true:=by kernel_rfl
theorem xapart_j27:((Rows.confluentApartRow.lifted==xG.liftsFinal))=true:=by kernel_rfl
theorem xapart_j28:((xG.make==some Rows.confluentApartRow.make))=true:=by kernel_rfl
theorem xapart_j29:((Rows.confluentApartRow.kinds==(if Rows.confluentApartRow.domain.isEmpty then[]else uX.params.toList.map λt=>match xG.underlying t with|some (.int k)=>some k|_=>none)))=true:=by kernel_rfl
theorem xapart_j30:((Rows.confluentApartRow.pinned==Rows.confluentApartRow.pinnedBy))=true:=by kernel_rfl
theorem xapart_j31:((Rows.confluentApartRow.veiled==(uX.params.toList++Rows.confluentApartSpec.plain.varTypes xG++uX.resultTypes.toList).any (xG.veiledRec ·)))=true:=by kernel_rfl
theorem xapart_j32:(Rows.confluentApartRow.veiledFits xG uX.params.toList (uX.params.toList++Rows.confluentApartSpec.plain.varTypes xG++uX.resultTypes.toList))=true:=by kernel_rfl
theorem xapart_facts:joinedFacts xG 7 uX Rows.confluentApartSpec Rows.confluentApartRow=true:=(andT (andT (andT (andT (andT (andT (andT (andT (andT (andT (andT (andT (andT (andT (andT (andT (andT (andT (andT (andT (andT (andT (andT (andT (andT (andT (andT (andT (andT (andT (andT xapart_j1 xapart_j2) xapart_j3) xapart_j4) xapart_j5) xapart_j6) xapart_j7) xapart_j8) xapart_j9) xapart_j10) xapart_j11) xapart_j12) xapart_j13) xapart_j14) xapart_j15) xapart_j16) xapart_j17) xapart_j18) xapart_j19) xapart_j20) xapart_j21) xapart_j22) xapart_j23) xapart_j24) xapart_j25) xapart_j26) xapart_j27) xapart_j28) xapart_j29) xapart_j30) xapart_j31) xapart_j32)
end Go.Proofs.YtejinebghgaigaaGreatDoor
