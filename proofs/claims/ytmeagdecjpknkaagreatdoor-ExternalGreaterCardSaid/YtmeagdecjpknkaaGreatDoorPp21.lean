/- Part 21 of a proof of a law of this seat: no statement of the seat is proved here. -/
import Derived.Test.YtmeagdecjpknkaaGreatDoorPp16
set_option linter.unusedVariables false
set_option linter.unusedSimpArgs false
namespace Go.Proofs.YtmeagdecjpknkaaGreatDoor
open Go
set_option maxRecDepth 100000
theorem qFu{a b:Bool}(h:a=true)(k:b=true):(a&&b)=true:=by rw[h,k];rfl
theorem xgreater_j1:(Rows.externalGreaterRow.wf (OpenSpec.ofChange Rows.externalGreaterSpec))=true:=by kernel_rfl
theorem xgreater_j2:(laidOutB Tryz.prog)=true:=by kernel_rfl
theorem xgreater_j3:(mapsRowed Tryz.prog)=true:=by kernel_rfl
theorem xgreater_j4:(Tryz.f8.params.all (Tryz.prog.readableRec ·))=true:=by kernel_rfl
theorem xgreater_j5:(namedTie Tryz.prog Rows.externalGreaterRow.named Rows.externalGreaterSpec.vars)=true:=by kernel_rfl
theorem xgreater_j6:((Rows.externalGreaterRow.stops==[]))=true:=by kernel_rfl
theorem xgreater_j7:((Tryz.prog.stops==[]))=true:=by kernel_rfl
theorem xgreater_j8:((Rows.externalGreaterRow.knobs==[]))=true:=by kernel_rfl
theorem xgreater_j9:((Tryz.prog.stopKnobs==[]))=true:=by kernel_rfl
theorem xgreater_j10:((Rows.externalGreaterRow.inPlace==Tryz.prog.inPlace 8))=true:=by kernel_rfl
theorem xgreater_j11:((Rows.externalGreaterRow.unfollowed==Tryz.prog.unfollowed 8))=true:=by kernel_rfl
theorem xgreater_j12:((Rows.externalGreaterRow.recurses==Tryz.prog.recurses 8))=true:=by kernel_rfl
theorem xgreater_j13:((Rows.externalGreaterRow.named==Tryz.prog.varsNamed 8))=true:=by kernel_rfl
theorem xgreater_j14:((Rows.externalGreaterRow.maps==(Tryz.f8.params.toList++Rows.externalGreaterSpec.plain.varTypes Tryz.prog).any (Tryz.prog.mapsRec ·)))=true:=by kernel_rfl
theorem xgreater_j15:((Rows.externalGreaterRow.ifaces==(Tryz.f8.params.toList++Rows.externalGreaterSpec.plain.varTypes Tryz.prog).any (Tryz.prog.ifacesRec ·)))=true:=by kernel_rfl
theorem xgreater_j16:((Rows.externalGreaterRow.mapsOut==Tryz.prog.mapsAmong Tryz.f8.resultTypes.toList))=true:=by kernel_rfl
theorem xgreater_j17:((Rows.externalGreaterRow.loops==(Tryz.f8.params.toList++Rows.externalGreaterSpec.plain.varTypes Tryz.prog).any (Tryz.prog.loopsFrom ·)))=true:=by kernel_rfl
theorem xgreater_j18:((Rows.externalGreaterRow.wideKeys==(Tryz.f8.params.toList++Rows.externalGreaterSpec.plain.varTypes Tryz.prog++Tryz.f8.resultTypes.toList).any (Tryz.prog.wideKeysFrom ·)))=true:=by kernel_rfl
theorem xgreater_j19:(Rows.externalGreaterSpec.vars.all (Tryz.prog.varReadable ·))=true:=by kernel_rfl
theorem xgreater_j20:(Tryz.f8.resultTypes.all (fun t=>Tryz.prog.readableRec t&&decide (t<Tryz.prog.types.size)))=true:=by kernel_rfl
theorem xgreater_j21:((Rows.externalGreaterRow.ifacesOut==Tryz.f8.resultTypes.toList.any (Tryz.prog.ifacesRec ·)))=true:=by kernel_rfl
theorem xgreater_j22:((Rows.externalGreaterRow.loopsOut==Tryz.f8.resultTypes.toList.any (Tryz.prog.loopsFrom ·)))=true:=by kernel_rfl
theorem xgreater_j23:((Rows.externalGreaterRow.plainKeys==Tryz.prog.plainKeys))=true:=by kernel_rfl
theorem xgreater_j24:(Rows.externalGreaterRow.shortTexts.isNone)=true:=by kernel_rfl
theorem xgreater_j25:(Tryz.prog.stopsHeard)=true:=by kernel_rfl
theorem xgreater_j26:(Tryz.prog.mayEnter)=true:=by kernel_rfl
theorem xgreater_j27:((Rows.externalGreaterRow.lifted==Tryz.prog.liftsFinal))=true:=by kernel_rfl
theorem xgreater_j28:((Tryz.prog.make==some Rows.externalGreaterRow.make))=true:=by kernel_rfl
theorem xgreater_j29:((Rows.externalGreaterRow.kinds==(if Rows.externalGreaterRow.domain.isEmpty then [] else Tryz.f8.params.toList.map fun t=>match Tryz.prog.underlying t with|some (.int k)=>some k|_=>none)))=true:=by kernel_rfl
theorem xgreater_j30:((Rows.externalGreaterRow.pinned==Rows.externalGreaterRow.pinnedBy))=true:=by kernel_rfl
theorem xgreater_j31:((Rows.externalGreaterRow.veiled==(Tryz.f8.params.toList++Rows.externalGreaterSpec.plain.varTypes Tryz.prog++Tryz.f8.resultTypes.toList).any (Tryz.prog.veiledRec ·)))=true:=by kernel_rfl
theorem xgreater_j32:(Rows.externalGreaterRow.veiledFits Tryz.prog Tryz.f8.params.toList (Tryz.f8.params.toList++Rows.externalGreaterSpec.plain.varTypes Tryz.prog++Tryz.f8.resultTypes.toList))=true:=by kernel_rfl
theorem qIR:joinedFacts Tryz.prog 8 Tryz.f8 Rows.externalGreaterSpec Rows.externalGreaterRow=true:=(qFu (qFu (qFu (qFu (qFu (qFu (qFu (qFu (qFu (qFu (qFu (qFu (qFu (qFu (qFu (qFu (qFu (qFu (qFu (qFu (qFu (qFu (qFu (qFu (qFu (qFu (qFu (qFu (qFu (qFu (qFu xgreater_j1 xgreater_j2) xgreater_j3) xgreater_j4) xgreater_j5) xgreater_j6) xgreater_j7) xgreater_j8) xgreater_j9) xgreater_j10) xgreater_j11) xgreater_j12) xgreater_j13) xgreater_j14) xgreater_j15) xgreater_j16) xgreater_j17) xgreater_j18) xgreater_j19) xgreater_j20) xgreater_j21) xgreater_j22) xgreater_j23) xgreater_j24) xgreater_j25) xgreater_j26) xgreater_j27) xgreater_j28) xgreater_j29) xgreater_j30) xgreater_j31) xgreater_j32)
end Go.Proofs.YtmeagdecjpknkaaGreatDoor
