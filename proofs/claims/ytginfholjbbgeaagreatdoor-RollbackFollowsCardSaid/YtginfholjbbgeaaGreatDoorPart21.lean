/- Part 21 of a proof of a law of this seat: no statement of the seat is proved here. -/
import Derived.Test.YtginfholjbbgeaaGreatDoorPart16
set_option linter.unusedVariables false
set_option linter.unusedSimpArgs false
namespace Go.Proofs.YtginfholjbbgeaaGreatDoor
open Go
set_option maxRecDepth 100000
theorem qFB{a b:Bool}(h:a=true)(k:b=true):(a&&b)=true:=by rw[h,k];rfl
theorem rfollows_j1:(Rows.rollbackFollowsRow.wf (OpenSpec.ofChange Rows.rollbackFollowsSpec))=true:=by kernel_rfl
theorem rfollows_j2:(laidOutB Tryz.prog)=true:=by kernel_rfl
theorem rfollows_j3:(mapsRowed Tryz.prog)=true:=by kernel_rfl
theorem rfollows_j4:(Tryz.f3.params.all (Tryz.prog.readableRec ·))=true:=by kernel_rfl
theorem rfollows_j5:(namedTie Tryz.prog Rows.rollbackFollowsRow.named Rows.rollbackFollowsSpec.vars)=true:=by kernel_rfl
theorem rfollows_j6:((Rows.rollbackFollowsRow.stops==[]))=true:=by kernel_rfl
theorem rfollows_j7:((Tryz.prog.stops==[]))=true:=by kernel_rfl
theorem rfollows_j8:((Rows.rollbackFollowsRow.knobs==[]))=true:=by kernel_rfl
theorem rfollows_j9:((Tryz.prog.stopKnobs==[]))=true:=by kernel_rfl
theorem rfollows_j10:((Rows.rollbackFollowsRow.inPlace==Tryz.prog.inPlace 3))=true:=by kernel_rfl
theorem rfollows_j11:((Rows.rollbackFollowsRow.unfollowed==Tryz.prog.unfollowed 3))=true:=by kernel_rfl
theorem rfollows_j12:((Rows.rollbackFollowsRow.recurses==Tryz.prog.recurses 3))=true:=by kernel_rfl
theorem rfollows_j13:((Rows.rollbackFollowsRow.named==Tryz.prog.varsNamed 3))=true:=by kernel_rfl
theorem rfollows_j14:((Rows.rollbackFollowsRow.maps==(Tryz.f3.params.toList++Rows.rollbackFollowsSpec.plain.varTypes Tryz.prog).any (Tryz.prog.mapsRec ·)))=true:=by kernel_rfl
theorem rfollows_j15:((Rows.rollbackFollowsRow.ifaces==(Tryz.f3.params.toList++Rows.rollbackFollowsSpec.plain.varTypes Tryz.prog).any (Tryz.prog.ifacesRec ·)))=true:=by kernel_rfl
theorem rfollows_j16:((Rows.rollbackFollowsRow.mapsOut==Tryz.prog.mapsAmong Tryz.f3.resultTypes.toList))=true:=by kernel_rfl
theorem rfollows_j17:((Rows.rollbackFollowsRow.loops==(Tryz.f3.params.toList++Rows.rollbackFollowsSpec.plain.varTypes Tryz.prog).any (Tryz.prog.loopsFrom ·)))=true:=by kernel_rfl
theorem rfollows_j18:((Rows.rollbackFollowsRow.wideKeys==(Tryz.f3.params.toList++Rows.rollbackFollowsSpec.plain.varTypes Tryz.prog++Tryz.f3.resultTypes.toList).any (Tryz.prog.wideKeysFrom ·)))=true:=by kernel_rfl
theorem rfollows_j19:(Rows.rollbackFollowsSpec.vars.all (Tryz.prog.varReadable ·))=true:=by kernel_rfl
theorem rfollows_j20:(Tryz.f3.resultTypes.all (fun t=>Tryz.prog.readableRec t&&decide (t<Tryz.prog.types.size)))=true:=by kernel_rfl
theorem rfollows_j21:((Rows.rollbackFollowsRow.ifacesOut==Tryz.f3.resultTypes.toList.any (Tryz.prog.ifacesRec ·)))=true:=by kernel_rfl
theorem rfollows_j22:((Rows.rollbackFollowsRow.loopsOut==Tryz.f3.resultTypes.toList.any (Tryz.prog.loopsFrom ·)))=true:=by kernel_rfl
theorem rfollows_j23:((Rows.rollbackFollowsRow.plainKeys==Tryz.prog.plainKeys))=true:=by kernel_rfl
theorem rfollows_j24:(Rows.rollbackFollowsRow.shortTexts.isNone)=true:=by kernel_rfl
theorem rfollows_j25:(Tryz.prog.stopsHeard)=true:=by kernel_rfl
theorem rfollows_j26:(Tryz.prog.mayEnter)=true:=by kernel_rfl
theorem rfollows_j27:((Rows.rollbackFollowsRow.lifted==Tryz.prog.liftsFinal))=true:=by kernel_rfl
theorem rfollows_j28:((Tryz.prog.make==some Rows.rollbackFollowsRow.make))=true:=by kernel_rfl
theorem rfollows_j29:((Rows.rollbackFollowsRow.kinds==(if Rows.rollbackFollowsRow.domain.isEmpty then [] else Tryz.f3.params.toList.map fun t=>match Tryz.prog.underlying t with|some (.int k)=>some k|_=>none)))=true:=by kernel_rfl
theorem rfollows_j30:((Rows.rollbackFollowsRow.pinned==Rows.rollbackFollowsRow.pinnedBy))=true:=by kernel_rfl
theorem rfollows_j31:((Rows.rollbackFollowsRow.veiled==(Tryz.f3.params.toList++Rows.rollbackFollowsSpec.plain.varTypes Tryz.prog++Tryz.f3.resultTypes.toList).any (Tryz.prog.veiledRec ·)))=true:=by kernel_rfl
theorem rfollows_j32:(Rows.rollbackFollowsRow.veiledFits Tryz.prog Tryz.f3.params.toList (Tryz.f3.params.toList++Rows.rollbackFollowsSpec.plain.varTypes Tryz.prog++Tryz.f3.resultTypes.toList))=true:=by kernel_rfl
theorem qIR:joinedFacts Tryz.prog 3 Tryz.f3 Rows.rollbackFollowsSpec Rows.rollbackFollowsRow=true:=(qFB (qFB (qFB (qFB (qFB (qFB (qFB (qFB (qFB (qFB (qFB (qFB (qFB (qFB (qFB (qFB (qFB (qFB (qFB (qFB (qFB (qFB (qFB (qFB (qFB (qFB (qFB (qFB (qFB (qFB (qFB rfollows_j1 rfollows_j2) rfollows_j3) rfollows_j4) rfollows_j5) rfollows_j6) rfollows_j7) rfollows_j8) rfollows_j9) rfollows_j10) rfollows_j11) rfollows_j12) rfollows_j13) rfollows_j14) rfollows_j15) rfollows_j16) rfollows_j17) rfollows_j18) rfollows_j19) rfollows_j20) rfollows_j21) rfollows_j22) rfollows_j23) rfollows_j24) rfollows_j25) rfollows_j26) rfollows_j27) rfollows_j28) rfollows_j29) rfollows_j30) rfollows_j31) rfollows_j32)
end Go.Proofs.YtginfholjbbgeaaGreatDoor
