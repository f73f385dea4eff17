/- Part 23: no statement of the seat is proved here. -/
import Derived.Test.YtcebnmieadkjfaaGreatDoorPg18
set_option linter.unusedVariables false
set_option linter.unusedSimpArgs false
open Go.Proofs.Tryz renaming prog->xG,f3->uq
namespace Go.Proofs.YtcebnmieadkjfaaGreatDoor
open Go
set_option maxRecDepth 100000
theorem BT{a b:Bool}(h:a=true)(k:b=true):(a&&b)=true:=by rw[h,k];rfl
theorem gplain_j1:(Rows.guardPlainRow.wf (OpenSpec.ofChange Rows.guardPlainSpec))=true:=by kernel_rfl
theorem gplain_j2:(laidOutB xG)=true:=by kernel_rfl
theorem gplain_j3:(mapsRowed xG)=true:=by kernel_rfl
theorem gplain_j4:(uq.params.all (xG.readableRec ·))=true:=by kernel_rfl
theorem gplain_j5:(namedTie xG Rows.guardPlainRow.named Rows.guardPlainSpec.vars)=true:=by kernel_rfl
theorem gplain_j6:((Rows.guardPlainRow.stops==[]))=true:=by kernel_rfl
theorem gplain_j7:((xG.stops==[]))=true:=by kernel_rfl
theorem gplain_j8:((Rows.guardPlainRow.knobs==[]))=true:=by kernel_rfl
theorem gplain_j9:((xG.stopKnobs==[]))=true:=by kernel_rfl
theorem gplain_j10:((Rows.guardPlainRow.inPlace==xG.inPlace 3))=true:=by kernel_rfl
theorem gplain_j11:((Rows.guardPlainRow.unfollowed==xG.unfollowed 3))=true:=by kernel_rfl
theorem gplain_j12:((Rows.guardPlainRow.recurses==xG.recurses 3))=true:=by kernel_rfl
theorem gplain_j13:((Rows.guardPlainRow.named==xG.varsNamed 3))=true:=by kernel_rfl
theorem gplain_j14:((Rows.guardPlainRow.maps==(uq.params.toList++Rows.guardPlainSpec.plain.varTypes xG).any (xG.mapsRec ·)))=true:=by kernel_rfl
theorem gplain_j15:((Rows.guardPlainRow.ifaces==(uq.params.toList++Rows.guardPlainSpec.plain.varTypes xG).any (xG.ifacesRec ·)))=true:=by kernel_rfl
theorem gplain_j16:((Rows.guardPlainRow.mapsOut==xG.mapsAmong uq.resultTypes.toList))=true:=by kernel_rfl
theorem gplain_j17:((Rows.guardPlainRow.loops==(uq.params.toList++Rows.guardPlainSpec.plain.varTypes xG).any (xG.loopsFrom ·)))=true:=by kernel_rfl
theorem gplain_j18:((Rows.guardPlainRow.wideKeys==(uq.params.toList++Rows.guardPlainSpec.plain.varTypes xG++uq.resultTypes.toList).any (xG.wideKeysFrom ·)))=true:=by kernel_rfl
theorem gplain_j19:(Rows.guardPlainSpec.vars.all (xG.varReadable ·))=true:=by kernel_rfl
theorem gplain_j20:(uq.resultTypes.all (λt=>xG.readableRec t&&decide (t<xG.types.size)))=true:=by kernel_rfl
theorem gplain_j21:((Rows.guardPlainRow.ifacesOut==uq.resultTypes.toList.any (xG.ifacesRec ·)))=true:=by kernel_rfl
theorem gplain_j22:((Rows.guardPlainRow.loopsOut==uq.resultTypes.toList.any (xG.loopsFrom ·)))=true:=by kernel_rfl
theorem gplain_j23:((Rows.guardPlainRow.plainKeys==xG.plainKeys))=true:=by kernel_rfl
theorem gplain_j24:(Rows.guardPlainRow.shortTexts.isNone)=true:=by kernel_rfl
theorem gplain_j25:(xG.stopsHeard)=true:=by kernel_rfl
theorem gplain_j26:(xG.mayEnter)=true:=by kernel_rfl
theorem gplain_j27:((Rows.guardPlainRow.lifted==xG.liftsFinal))=true:=by kernel_rfl
theorem gplain_j28:((xG.make==some Rows.guardPlainRow.make))=true:=by kernel_rfl
theorem gplain_j29:((Rows.guardPlainRow.kinds==(if Rows.guardPlainRow.domain.isEmpty then[]else uq.params.toList.map λt=>match xG.underlying t with|some (.int k)=>some k|_=>none)))=true:=by kernel_rfl
theorem gplain_j30:((Rows.guardPlainRow.pinned==Rows.guardPlainRow.pinnedBy))=true:=by kernel_rfl
theorem gplain_j31:((Rows.guardPlainRow.veiled==(uq.params.toList++Rows.guardPlainSpec.plain.varTypes xG++uq.resultTypes.toList).any (xG.veiledRec ·)))=true:=by kernel_rfl
theorem gplain_j32:(Rows.guardPlainRow.veiledFits xG uq.params.toList (uq.params.toList++Rows.guardPlainSpec.plain.varTypes xG++uq.resultTypes.toList))=true:=by kernel_rfl
theorem gplain_facts:joinedFacts xG 3 uq Rows.guardPlainSpec Rows.guardPlainRow=true:=(BT (BT (BT (BT (BT (BT (BT (BT (BT (BT (BT (BT (BT (BT (BT (BT (BT (BT (BT (BT (BT (BT (BT (BT (BT (BT (BT (BT (BT (BT (BT gplain_j1 gplain_j2) gplain_j3) gplain_j4) gplain_j5) gplain_j6) gplain_j7) gplain_j8) gplain_j9) gplain_j10) gplain_j11) gplain_j12) gplain_j13) gplain_j14) gplain_j15) gplain_j16) gplain_j17) gplain_j18) gplain_j19) gplain_j20) gplain_j21) gplain_j22) gplain_j23) gplain_j24) gplain_j25) gplain_j26) gplain_j27) gplain_j28) gplain_j29) gplain_j30) gplain_j31) gplain_j32)
end Go.Proofs.YtcebnmieadkjfaaGreatDoor
