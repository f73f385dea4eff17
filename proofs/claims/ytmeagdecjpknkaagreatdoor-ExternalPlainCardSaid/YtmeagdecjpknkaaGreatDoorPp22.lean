/- Part 22 of a proof of a law of this seat: no statement of the seat is proved here. -/
import Derived.Test.YtmeagdecjpknkaaGreatDoorPp16
set_option linter.unusedVariables false
set_option linter.unusedSimpArgs false
namespace Go.Proofs.YtmeagdecjpknkaaGreatDoor
open Go
set_option maxRecDepth 100000
theorem qFH{a b:Bool}(h:a=true)(k:b=true):(a&&b)=true:=by rw[h,k];rfl
theorem xplain_j1:(Rows.externalPlainRow.wf (OpenSpec.ofChange Rows.externalPlainSpec))=true:=by kernel_rfl
theorem xplain_j2:(laidOutB Tryz.prog)=true:=by kernel_rfl
theorem xplain_j3:(mapsRowed Tryz.prog)=true:=by kernel_rfl
theorem xplain_j4:(Tryz.f5.params.all (Tryz.prog.readableRec ·))=true:=by kernel_rfl
theorem xplain_j5:(namedTie Tryz.prog Rows.externalPlainRow.named Rows.externalPlainSpec.vars)=true:=by kernel_rfl
theorem xplain_j6:((Rows.externalPlainRow.stops==[]))=true:=by kernel_rfl
theorem xplain_j7:((Tryz.prog.stops==[]))=true:=by kernel_rfl
theorem xplain_j8:((Rows.externalPlainRow.knobs==[]))=true:=by kernel_rfl
theorem xplain_j9:((Tryz.prog.stopKnobs==[]))=true:=by kernel_rfl
theorem xplain_j10:((Rows.externalPlainRow.inPlace==Tryz.prog.inPlace 5))=true:=by kernel_rfl
theorem xplain_j11:((Rows.externalPlainRow.unfollowed==Tryz.prog.unfollowed 5))=true:=by kernel_rfl
theorem xplain_j12:((Rows.externalPlainRow.recurses==Tryz.prog.recurses 5))=true:=by kernel_rfl
theorem xplain_j13:((Rows.externalPlainRow.named==Tryz.prog.varsNamed 5))=true:=by kernel_rfl
theorem xplain_j14:((Rows.externalPlainRow.maps==(Tryz.f5.params.toList++Rows.externalPlainSpec.plain.varTypes Tryz.prog).any (Tryz.prog.mapsRec ·)))=true:=by kernel_rfl
theorem xplain_j15:((Rows.externalPlainRow.ifaces==(Tryz.f5.params.toList++Rows.externalPlainSpec.plain.varTypes Tryz.prog).any (Tryz.prog.ifacesRec ·)))=true:=by kernel_rfl
theorem xplain_j16:((Rows.externalPlainRow.mapsOut==Tryz.prog.mapsAmong Tryz.f5.resultTypes.toList))=true:=by kernel_rfl
theorem xplain_j17:((Rows.externalPlainRow.loops==(Tryz.f5.params.toList++Rows.externalPlainSpec.plain.varTypes Tryz.prog).any (Tryz.prog.loopsFrom ·)))=true:=by kernel_rfl
theorem xplain_j18:((Rows.externalPlainRow.wideKeys==(Tryz.f5.params.toList++Rows.externalPlainSpec.plain.varTypes Tryz.prog++Tryz.f5.resultTypes.toList).any (Tryz.prog.wideKeysFrom ·)))=true:=by kernel_rfl
theorem xplain_j19:(Rows.externalPlainSpec.vars.all (Tryz.prog.varReadable ·))=true:=by kernel_rfl
theorem xplain_j20:(Tryz.f5.resultTypes.all (fun t=>Tryz.prog.readableRec t&&decide (t<Tryz.prog.types.size)))=true:=by kernel_rfl
theorem xplain_j21:((Rows.externalPlainRow.ifacesOut==Tryz.f5.resultTypes.toList.any (Tryz.prog.ifacesRec ·)))=true:=by kernel_rfl
theorem xplain_j22:((Rows.externalPlainRow.loopsOut==Tryz.f5.resultTypes.toList.any (Tryz.prog.loopsFrom ·)))=true:=by kernel_rfl
theorem xplain_j23:((Rows.externalPlainRow.plainKeys==Tryz.prog.plainKeys))=true:=by kernel_rfl
theorem xplain_j24:(Rows.externalPlainRow.shortTexts.isNone)=true:=by kernel_rfl
theorem xplain_j25:(Tryz.prog.stopsHeard)=true:=by kernel_rfl
theorem xplain_j26:(Tryz.prog.mayEnter)=true:=by kernel_rfl
theorem xplain_j27:((Rows.externalPlainRow.lifted==Tryz.prog.liftsFinal))=true:=by kernel_rfl
theorem xplain_j28:((Tryz.prog.make==some Rows.externalPlainRow.make))=true:=by kernel_rfl
theorem xplain_j29:((Rows.externalPlainRow.kinds==(if Rows.externalPlainRow.domain.isEmpty then [] else Tryz.f5.params.toList.map fun t=>match Tryz.prog.underlying t with|some (.int k)=>some k|_=>none)))=true:=by kernel_rfl
theorem xplain_j30:((Rows.externalPlainRow.pinned==Rows.externalPlainRow.pinnedBy))=true:=by kernel_rfl
theorem xplain_j31:((Rows.externalPlainRow.veiled==(Tryz.f5.params.toList++Rows.externalPlainSpec.plain.varTypes Tryz.prog++Tryz.f5.resultTypes.toList).any (Tryz.prog.veiledRec ·)))=true:=by kernel_rfl
theorem xplain_j32:(Rows.externalPlainRow.veiledFits Tryz.prog Tryz.f5.params.toList (Tryz.f5.params.toList++Rows.externalPlainSpec.plain.varTypes Tryz.prog++Tryz.f5.resultTypes.toList))=true:=by kernel_rfl
theorem xplain_facts:joinedFacts Tryz.prog 5 Tryz.f5 Rows.externalPlainSpec Rows.externalPlainRow=true:=(qFH (qFH (qFH (qFH (qFH (qFH (qFH (qFH (qFH (qFH (qFH (qFH (qFH (qFH (qFH (qFH (qFH (qFH (qFH (qFH (qFH (qFH (qFH (qFH (qFH (qFH (qFH (qFH (qFH (qFH (qFH xplain_j1 xplain_j2) xplain_j3) xplain_j4) xplain_j5) xplain_j6) xplain_j7) xplain_j8) xplain_j9) xplain_j10) xplain_j11) xplain_j12) xplain_j13) xplain_j14) xplain_j15) xplain_j16) xplain_j17) xplain_j18) xplain_j19) xplain_j20) xplain_j21) xplain_j22) xplain_j23) xplain_j24) xplain_j25) xplain_j26) xplain_j27) xplain_j28) xplain_j29) xplain_j30) xplain_j31) xplain_j32)
end Go.Proofs.YtmeagdecjpknkaaGreatDoor
