/- Part 33: no statement of the seat is proved here. -/
import Derived.Test.YtejinebghgaigaaGreatDoorPc17
set_option linter.unusedVariables false
set_option linter.unusedSimpArgs false
open Go.Proofs.Tryz renaming prog->xG,f3->uy
namespace Go.Proofs.YtejinebghgaigaaGreatDoor
open Go
set_option maxRecDepth 100000
theorem andT{a b:Bool}(h:a=true)(k:b=true):(a&&b)=true:=by rw[h,k];rfl
theorem xdoubles_j1:(Rows.confluentDoublesRow.wf (OpenSpec.ofChange Rows.confluentDoublesSpec))=true:=by kernel_rfl
theorem xdoubles_j2:(laidOutB xG)=true:=by kernel_rfl
theorem xdoubles_j3:(mapsRowed xG)=true:=by kernel_rfl
theorem xdoubles_j4:(uy.params.all (xG.readableRec ·))=true:=by kernel_rfl
theorem xdoubles_j5:(namedTie xG Rows.confluentDoublesRow.named Rows.confluentDoublesSpec.vars)=true:=by kernel_rfl
theorem xdoubles_j6:((Rows.confluentDoublesRow.stops==[]))=true:=by kernel_rfl
theorem xdoubles_j7:((xG.stops==[]))=true:=by kernel_rfl
theorem xdoubles_j8:((Rows.confluentDoublesRow.knobs==[]))=true:=by kernel_rfl
theorem xdoubles_j9:((xG.stopKnobs==[]))=true:=by kernel_rfl
theorem xdoubles_j10:((Rows.confluentDoublesRow.inPlace==xG.inPlace 3))=true:=by kernel_rfl
theorem xdoubles_j11:((Rows.confluentDoublesRow.unfollowed==xG.unfollowed 3))=true:=by kernel_rfl
theorem xdoubles_j12:((Rows.confluentDoublesRow.recurses==xG.recurses 3))=true:=by kernel_rfl
theorem xdoubles_j13:((Rows.confluentDoublesRow.named==xG.varsNamed 3))=true:=by kernel_rfl
theorem xdoubles_j14:((Rows.confluentDoublesRow.maps==(uy.params.toList++Rows.confluentDoublesSpec.plain.varTypes xG).any (xG.mapsRec ·)))=true:=by kernel_rfl
theorem xdoubles_j15:((Rows.confluentDoublesRow.ifaces==(uy.params.toList++Rows.confluentDoublesSpec.plain.varTypes xG).any (xG.ifacesRec ·)))=true:=by kernel_rfl
theorem xdoubles_j16:((Rows.confluentDoublesRow.mapsOut==xG.mapsAmong uy.resultTypes.toList))=true:=by kernel_rfl
theorem xdoubles_j17:((Rows.confluentDoublesRow.loops==(uy.params.toList++Rows.confluentDoublesSpec.plain.varTypes xG).any (xG.loopsFrom ·)))=true:=by kernel_rfl
theorem xdoubles_j18:((Rows.confluentDoublesRow.wideKeys==(uy.params.toList++Rows.confluentDoublesSpec.plain.varTypes xG++uy.resultTypes.toList).any (xG.wideKeysFrom ·)))=true:=by kernel_rfl
theorem xdoubles_j19:(Rows.confluentDoublesSpec.vars.all (xG.varReadable ·))=true:=by kernel_rfl
theorem xdoubles_j20:(uy.resultTypes.all (λt=>xG.readableRec t&&decide (t<xG.types.size)))=true:=by kernel_rfl
theorem xdoubles_j21:((Rows.confluentDoublesRow.ifacesOut==uy.resultTypes.toList.any (xG.ifacesRec ·)))=true:=by kernel_rfl
theorem xdoubles_j22:((Rows.confluentDoublesRow.loopsOut==uy.resultTypes.toList.any (xG.loopsFrom ·)))=true:=by kernel_rfl
theorem xdoubles_j23:((Rows.confluentDoublesRow.plainKeys==xG.plainKeys))=true:=by kernel_rfl
theorem xdoubles_j24:(Rows.confluentDoublesRow.shortTexts.isNone)=true:=by kernel_rfl
theorem xdoubles_j25:(xG.stopsHeard)=true:=by kernel_rfl
theorem xdoubles_j26:(xG.mayEnter)=true:=by kernel_rfl
theorem xdoubles_j27:((Rows.confluentDoublesRow.lifted==xG.liftsFinal))=true:=by kernel_rfl
theorem xdoubles_j28:((xG.make==some Rows.confluentDoublesRow.make))=true:=by kernel_rfl
theorem xdoubles_j29:((Rows.confluentDoublesRow.kinds==(if Rows.confluentDoublesRow.domain.isEmpty then[]else uy.params.toList.map λt=>match xG.underlying t with|some (.int k)=>some k|_=>none)))=true:=by kernel_rfl
theorem xdoubles_j30:((Rows.confluentDoublesRow.pinned==Rows.confluentDoublesRow.pinnedBy))=true:=by kernel_rfl
theorem xdoubles_j31:((Rows.confluentDoublesRow.veiled==(uy.params.toList++Rows.confluentDoublesSpec.plain.varTypes xG++uy.resultTypes.toList).any (xG.veiledRec ·)))=true:=by kernel_rfl
theorem xdoubles_j32:(Rows.confluentDoublesRow.veiledFits xG uy.params.toList (uy.params.toList++Rows.confluentDoublesSpec.plain.varTypes xG++uy.resultTypes.toList))=true:=by kernel_rfl
theorem RO:joinedFacts xG 3 uy Rows.confluentDoublesSpec Rows.confluentDoublesRow=true:=(andT (andT (andT (andT (andT (andT (andT (andT (andT (andT (andT (andT (andT (andT (andT (andT (andT (andT (andT (andT (andT (andT (andT (andT (andT (andT (andT (andT (andT (andT (andT xdoubles_j1 xdoubles_j2) xdoubles_j3) xdoubles_j4) xdoubles_j5) xdoubles_j6) xdoubles_j7) xdoubles_j8) xdoubles_j9) xdoubles_j10) xdoubles_j11) xdoubles_j12) xdoubles_j13) xdoubles_j14) xdoubles_j15) xdoubles_j16) xdoubles_j17) xdoubles_j18) xdoubles_j19) xdoubles_j20) xdoubles_j21) xdoubles_j22) xdoubles_j23) xdoubles_j24) xdoubles_j25) xdoubles_j26) xdoubles_j27) xdoubles_j28) xdoubles_j29) xdoubles_j30) xdoubles_j31) xdoubles_j32)
end Go.Proofs.YtejinebghgaigaaGreatDoor
