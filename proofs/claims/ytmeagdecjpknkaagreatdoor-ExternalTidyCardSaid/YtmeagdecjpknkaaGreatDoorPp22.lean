/- Part 22 of a proof of a law of this seat: no statement of the seat is proved here. -/
import Derived.Test.YtmeagdecjpknkaaGreatDoorPp17
set_option linter.unusedVariables false
set_option linter.unusedSimpArgs false
namespace Go.Proofs.YtmeagdecjpknkaaGreatDoor
open Go
set_option maxRecDepth 100000
theorem qFQ{a b:Bool}(h:a=true)(k:b=true):(a&&b)=true:=by rw[h,k];rfl
theorem xtidy_j1:(Rows.externalTidyRow.wf (OpenSpec.ofChange Rows.externalTidySpec))=true:=by kernel_rfl
theorem xtidy_j2:(laidOutB Tryz.prog)=true:=by kernel_rfl
theorem xtidy_j3:(mapsRowed Tryz.prog)=true:=by kernel_rfl
theorem xtidy_j4:(Tryz.f7.params.all (Tryz.prog.readableRec ·))=true:=by kernel_rfl
theorem xtidy_j5:(namedTie Tryz.prog Rows.externalTidyRow.named Rows.externalTidySpec.vars)=true:=by kernel_rfl
theorem xtidy_j6:((Rows.externalTidyRow.stops==[]))=true:=by kernel_rfl
theorem xtidy_j7:((Tryz.prog.stops==[]))=true:=by kernel_rfl
theorem xtidy_j8:((Rows.externalTidyRow.knobs==[]))=true:=by kernel_rfl
theorem xtidy_j9:((Tryz.prog.stopKnobs==[]))=true:=by kernel_rfl
theorem xtidy_j10:((Rows.externalTidyRow.inPlace==Tryz.prog.inPlace 7))=true:=by kernel_rfl
theorem xtidy_j11:((Rows.externalTidyRow.unfollowed==Tryz.prog.unfollowed 7))=true:=by kernel_rfl
theorem xtidy_j12:((Rows.externalTidyRow.recurses==Tryz.prog.recurses 7))=true:=by kernel_rfl
theorem xtidy_j13:((Rows.externalTidyRow.named==Tryz.prog.varsNamed 7))=true:=by kernel_rfl
theorem xtidy_j14:((Rows.externalTidyRow.maps==(Tryz.f7.params.toList++Rows.externalTidySpec.plain.varTypes Tryz.prog).any (Tryz.prog.mapsRec ·)))=true:=by kernel_rfl
theorem xtidy_j15:((Rows.externalTidyRow.ifaces==(Tryz.f7.params.toList++Rows.externalTidySpec.plain.varTypes Tryz.prog).any (Tryz.prog.ifacesRec ·)))=true:=by kernel_rfl
theorem xtidy_j16:((Rows.externalTidyRow.mapsOut==Tryz.prog.mapsAmong Tryz.f7.resultTypes.toList))=true:=by kernel_rfl
theorem xtidy_j17:((Rows.externalTidyRow.loops==(Tryz.f7.params.toList++Rows.externalTidySpec.plain.varTypes Tryz.prog).any (Tryz.prog.loopsFrom ·)))=true:=by kernel_rfl
theorem xtidy_j18:((Rows.externalTidyRow.wideKeys==(Tryz.f7.params.toList++Rows.externalTidySpec.plain.varTypes Tryz.prog++Tryz.f7.resultTypes.toList).any (Tryz.prog.wideKeysFrom ·)))=true:=by kernel_rfl
theorem xtidy_j19:(Rows.externalTidySpec.vars.all (Tryz.prog.varReadable ·))=true:=by kernel_rfl
theorem xtidy_j20:(Tryz.f7.resultTypes.all (fun t=>Tryz.prog.readableRec t&&decide (t<Tryz.prog.types.size)))=true:=by kernel_rfl
theorem xtidy_j21:((Rows.externalTidyRow.ifacesOut==Tryz.f7.resultTypes.toList.any (Tryz.prog.ifacesRec ·)))=true:=by kernel_rfl
theorem xtidy_j22:((Rows.externalTidyRow.loopsOut==Tryz.f7.resultTypes.toList.any (Tryz.prog.loopsFrom ·)))=true:=by kernel_rfl
theorem xtidy_j23:((Rows.externalTidyRow.plainKeys==Tryz.prog.plainKeys))=true:=by kernel_rfl
theorem xtidy_j24:(Rows.externalTidyRow.shortTexts.isNone)=true:=by kernel_rfl
theorem xtidy_j25:(Tryz.prog.stopsHeard)=true:=by kernel_rfl
theorem xtidy_j26:(Tryz.prog.mayEnter)=true:=by kernel_rfl
theorem xtidy_j27:((Rows.externalTidyRow.lifted==Tryz.prog.liftsFinal))=true:=by kernel_rfl
theorem xtidy_j28:((Tryz.prog.make==some Rows.externalTidyRow.make))=true:=by kernel_rfl
theorem xtidy_j29:((Rows.externalTidyRow.kinds==(if Rows.externalTidyRow.domain.isEmpty then [] else Tryz.f7.params.toList.map fun t=>match Tryz.prog.underlying t with|some (.int k)=>some k|_=>none)))=true:=by kernel_rfl
theorem xtidy_j30:((Rows.externalTidyRow.pinned==Rows.externalTidyRow.pinnedBy))=true:=by kernel_rfl
theorem xtidy_j31:((Rows.externalTidyRow.veiled==(Tryz.f7.params.toList++Rows.externalTidySpec.plain.varTypes Tryz.prog++Tryz.f7.resultTypes.toList).any (Tryz.prog.veiledRec ·)))=true:=by kernel_rfl
theorem xtidy_j32:(Rows.externalTidyRow.veiledFits Tryz.prog Tryz.f7.params.toList (Tryz.f7.params.toList++Rows.externalTidySpec.plain.varTypes Tryz.prog++Tryz.f7.resultTypes.toList))=true:=by kernel_rfl
theorem xtidy_facts:joinedFacts Tryz.prog 7 Tryz.f7 Rows.externalTidySpec Rows.externalTidyRow=true:=(qFQ (qFQ (qFQ (qFQ (qFQ (qFQ (qFQ (qFQ (qFQ (qFQ (qFQ (qFQ (qFQ (qFQ (qFQ (qFQ (qFQ (qFQ (qFQ (qFQ (qFQ (qFQ (qFQ (qFQ (qFQ (qFQ (qFQ (qFQ (qFQ (qFQ (qFQ xtidy_j1 xtidy_j2) xtidy_j3) xtidy_j4) xtidy_j5) xtidy_j6) xtidy_j7) xtidy_j8) xtidy_j9) xtidy_j10) xtidy_j11) xtidy_j12) xtidy_j13) xtidy_j14) xtidy_j15) xtidy_j16) xtidy_j17) xtidy_j18) xtidy_j19) xtidy_j20) xtidy_j21) xtidy_j22) xtidy_j23) xtidy_j24) xtidy_j25) xtidy_j26) xtidy_j27) xtidy_j28) xtidy_j29) xtidy_j30) xtidy_j31) xtidy_j32)
end Go.Proofs.YtmeagdecjpknkaaGreatDoor
