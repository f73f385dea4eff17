/- Part 25: no statement of the seat is proved here. -/
import Derived.Test.YtejinebghgaigaaGreatDoorPc17
set_option linter.unusedVariables false
set_option linter.unusedSimpArgs false
open Go.Proofs.Tryz renaming prog->xG,f4->uQ
namespace Go.Proofs.YtejinebghgaigaaGreatDoor
open Go
set_option maxRecDepth 100000
theorem andT{a b:Bool}(h:a=true)(k:b=true):(a&&b)=true:=by rw[h,k];rfl
theorem xplays_j1:(Rows.confluentPlaysRow.wf (OpenSpec.ofChange Rows.confluentPlaysSpec))=true:=by kernel_rfl
theorem xplays_j2:(laidOutB xG)=true:=by kernel_rfl
theorem xplays_j3:(mapsRowed xG)=true:=by kernel_rfl
theorem xplays_j4:(uQ.params.all (xG.readableRec ·))=true:=by kernel_rfl
theorem xplays_j5:(namedTie xG Rows.confluentPlaysRow.named Rows.confluentPlaysSpec.vars)=true:=by kernel_rfl
theorem xplays_j6:((Rows.confluentPlaysRow.stops==[]))=true:=by kernel_rfl
theorem xplays_j7:((xG.stops==[]))=true:=by kernel_rfl
theorem xplays_j8:((Rows.confluentPlaysRow.knobs==[]))=true:=by kernel_rfl
theorem xplays_j9:((xG.stopKnobs==[]))=true:=by kernel_rfl
theorem xplays_j10:((Rows.confluentPlaysRow.inPlace==xG.inPlace 4))=true:=by kernel_rfl
theorem xplays_j11:((Rows.confluentPlaysRow.unfollowed==xG.unfollowed 4))=true:=by kernel_rfl
theorem xplays_j12:((Rows.confluentPlaysRow.recurses==xG.recurses 4))=true:=by kernel_rfl
theorem xplays_j13:((Rows.confluentPlaysRow.named==xG.varsNamed 4))=true:=by kernel_rfl
theorem xplays_j14:((Rows.confluentPlaysRow.maps==(uQ.params.toList++Rows.confluentPlaysSpec.plain.varTypes xG).any (xG.mapsRec ·)))=true:=by kernel_rfl
theorem xplays_j15:((Rows.confluentPlaysRow.ifaces==(uQ.params.toList++Rows.confluentPlaysSpec.plain.varTypes xG).any (xG.ifacesRec ·)))=true:=by kernel_rfl
theorem xplays_j16:((Rows.confluentPlaysRow.mapsOut==xG.mapsAmong uQ.resultTypes.toList))=true:=by kernel_rfl
theorem xplays_j17:((Rows.confluentPlaysRow.loops==(uQ.params.toList++Rows.confluentPlaysSpec.plain.varTypes xG).any (xG.loopsFrom ·)))=true:=by kernel_rfl
theorem xplays_j18:((Rows.confluentPlaysRow.wideKeys==(uQ.params.toList++Rows.confluentPlaysSpec.plain.varTypes xG++uQ.resultTypes.toList).any (xG.wideKeysFrom ·)))=true:=by kernel_rfl
theorem xplays_j19:(Rows.confluentPlaysSpec.vars.all (xG.varReadable ·))=true:=by kernel_rfl
theorem xplays_j20:(uQ.resultTypes.all (λt=>xG.readableRec t&&decide (t<xG.types.size)))=true:=by kernel_rfl
theorem xplays_j21:((Rows.confluentPlaysRow.ifacesOut==uQ.resultTypes.toList.any (xG.ifacesRec ·)))=true:=by kernel_rfl
theorem xplays_j22:((Rows.confluentPlaysRow.loopsOut==uQ.resultTypes.toList.any (xG.loopsFrom ·)))=true:=by kernel_rfl
theorem xplays_j23:((Rows.confluentPlaysRow.plainKeys==xG.plainKeys))=true:=by kernel_rfl
theorem xplays_j24:(Rows.confluentPlaysRow.shortTexts.isNone)=true:=by kernel_rfl
theorem xplays_j25:(xG.stopsHeard)=true:=by kernel_rfl
theorem xplays_j26:(xG.mayEnter)=true:=by kernel_rfl
theorem xplays_j27:((Rows.confluentPlaysRow.lifted==xG.liftsFinal))=true:=by kernel_rfl
theorem xplays_j28:((xG.make==some Rows.confluentPlaysRow.make))=true:=by kernel_rfl
theorem xplays_j29:((Rows.confluentPlaysRow.kinds==(if Rows.confluentPlaysRow.domain.isEmpty then[]else uQ.params.toList.map λt=>match xG.underlying t with|some (.int k)=>some k|_=>none)))=true:=by kernel_rfl
theorem xplays_j30:((Rows.confluentPlaysRow.pinned==Rows.confluentPlaysRow.pinnedBy))=true:=by kernel_rfl
theorem xplays_j31:((Rows.confluentPlaysRow.veiled==(uQ.params.toList++Rows.confluentPlaysSpec.plain.varTypes xG++uQ.resultTypes.toList).any (xG.veiledRec ·)))=true:=by kernel_rfl
theorem xplays_j32:(Rows.confluentPlaysRow.veiledFits xG uQ.params.toList (uQ.params.toList++Rows.confluentPlaysSpec.plain.varTypes xG++uQ.resultTypes.toList))=true:=by kernel_rfl
theorem xplays_facts:joinedFacts xG 4 uQ Rows.confluentPlaysSpec Rows.confluentPlaysRow=true:=(andT (andT (andT (andT (andT (andT (andT (andT (andT (andT (andT (andT (andT (andT (andT (andT (andT (andT (andT (andT (andT (andT (andT (andT (andT (andT (andT (andT (andT (andT (andT xplays_j1 xplays_j2) xplays_j3) xplays_j4) xplays_j5) xplays_j6) xplays_j7) xplays_j8) xplays_j9) xplays_j10) xplays_j11) xplays_j12) xplays_j13) xplays_j14) xplays_j15) xplays_j16) xplays_j17) xplays_j18) xplays_j19) xplays_j20) xplays_j21) xplays_j22) xplays_j23) xplays_j24) xplays_j25) xplays_j26) xplays_j27) xplays_j28) xplays_j29) xplays_j30) xplays_j31) xplays_j32)
end Go.Proofs.YtejinebghgaigaaGreatDoor
