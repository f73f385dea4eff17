/- Part 22 of a proof of a law of this seat: no statement of the seat is proved here. -/
import Derived.Test.YtlnbdjekdkodcaaGreatDoorPart21
set_option linter.unusedVariables false
set_option linter.unusedSimpArgs false
namespace Go.Proofs.YtlnbdjekdkodcaaGreatDoor
open Go
set_option maxRecDepth 100000
theorem andT{a b:Bool}(h:a=true)(k:b=true):(a&&b)=true:=by rw[h,k];rfl
theorem etraces_j1:(Rows.evalTracesRow.wf (OpenSpec.ofChange Rows.evalTracesSpec))=true:=by kernel_rfl
theorem etraces_j2:(laidOutB Tryz.prog)=true:=by kernel_rfl
theorem etraces_j3:(mapsRowed Tryz.prog)=true:=by kernel_rfl
theorem etraces_j4:(Tryz.f5.params.all (Tryz.prog.readableRec ·))=true:=by kernel_rfl
theorem etraces_j5:(namedTie Tryz.prog Rows.evalTracesRow.named Rows.evalTracesSpec.vars)=true:=by kernel_rfl
theorem etraces_j6:((Rows.evalTracesRow.stops==[]))=true:=by kernel_rfl
theorem etraces_j7:((Tryz.prog.stops==[]))=true:=by kernel_rfl
theorem etraces_j8:((Rows.evalTracesRow.knobs==[]))=true:=by kernel_rfl
theorem etraces_j9:((Tryz.prog.stopKnobs==[]))=true:=by kernel_rfl
theorem etraces_j10:((Rows.evalTracesRow.inPlace==Tryz.prog.inPlace 5))=true:=by kernel_rfl
theorem etraces_j11:((Rows.evalTracesRow.unfollowed==Tryz.prog.unfollowed 5))=true:=by kernel_rfl
theorem etraces_j12:((Rows.evalTracesRow.recurses==Tryz.prog.recurses 5))=true:=by kernel_rfl
theorem etraces_j13:((Rows.evalTracesRow.named==Tryz.prog.varsNamed 5))=true:=by kernel_rfl
theorem etraces_j14:((Rows.evalTracesRow.maps==(Tryz.f5.params.toList++Rows.evalTracesSpec.plain.varTypes Tryz.prog).any (Tryz.prog.mapsRec ·)))=true:=by kernel_rfl
theorem etraces_j15:((Rows.evalTracesRow.ifaces==(Tryz.f5.params.toList++Rows.evalTracesSpec.plain.varTypes Tryz.prog).any (Tryz.prog.ifacesRec ·)))=true:=by kernel_rfl
theorem etraces_j16:((Rows.evalTracesRow.mapsOut==Tryz.prog.mapsAmong Tryz.f5.resultTypes.toList))=true:=by kernel_rfl
theorem etraces_j17:((Rows.evalTracesRow.loops==(Tryz.f5.params.toList++Rows.evalTracesSpec.plain.varTypes Tryz.prog).any (Tryz.prog.loopsFrom ·)))=true:=by kernel_rfl
theorem etraces_j18:((Rows.evalTracesRow.wideKeys==(Tryz.f5.params.toList++Rows.evalTracesSpec.plain.varTypes Tryz.prog++Tryz.f5.resultTypes.toList).any (Tryz.prog.wideKeysFrom ·)))=true:=by kernel_rfl
theorem etraces_j19:(Rows.evalTracesSpec.vars.all (Tryz.prog.varReadable ·))=true:=by kernel_rfl
theorem etraces_j20:(Tryz.f5.resultTypes.all (fun t=>Tryz.prog.readableRec t&&decide (t<Tryz.prog.types.size)))=true:=by kernel_rfl
theorem etraces_j21:((Rows.evalTracesRow.ifacesOut==Tryz.f5.resultTypes.toList.any (Tryz.prog.ifacesRec ·)))=true:=by kernel_rfl
theorem etraces_j22:((Rows.evalTracesRow.loopsOut==Tryz.f5.resultTypes.toList.any (Tryz.prog.loopsFrom ·)))=true:=by kernel_rfl
theorem etraces_j23:((Rows.evalTracesRow.plainKeys==Tryz.prog.plainKeys))=true:=by kernel_rfl
theorem etraces_j24:(Rows.evalTracesRow.shortTexts.isNone)=true:=by kernel_rfl
theorem etraces_j25:(Tryz.prog.stopsHeard)=true:=by kernel_rfl
theorem etraces_j26:(Tryz.prog.mayEnter)=true:=by kernel_rfl
theorem etraces_j27:((Rows.evalTracesRow.lifted==Tryz.prog.liftsFinal))=true:=by kernel_rfl
theorem etraces_j28:((Tryz.prog.make==some Rows.evalTracesRow.make))=true:=by kernel_rfl
theorem etraces_j29:((Rows.evalTracesRow.kinds==(if Rows.evalTracesRow.domain.isEmpty then [] else Tryz.f5.params.toList.map fun t=>match Tryz.prog.underlying t with|some (.int k)=>some k|_=>none)))=true:=by kernel_rfl
theorem etraces_j30:((Rows.evalTracesRow.pinned==Rows.evalTracesRow.pinnedBy))=true:=by kernel_rfl
theorem etraces_j31:((Rows.evalTracesRow.veiled==(Tryz.f5.params.toList++Rows.evalTracesSpec.plain.varTypes Tryz.prog++Tryz.f5.resultTypes.toList).any (Tryz.prog.veiledRec ·)))=true:=by kernel_rfl
theorem etraces_j32:(Rows.evalTracesRow.veiledFits Tryz.prog Tryz.f5.params.toList (Tryz.f5.params.toList++Rows.evalTracesSpec.plain.varTypes Tryz.prog++Tryz.f5.resultTypes.toList))=true:=by kernel_rfl
theorem qKH:joinedFacts Tryz.prog 5 Tryz.f5 Rows.evalTracesSpec Rows.evalTracesRow=true:=(andT (andT (andT (andT (andT (andT (andT (andT (andT (andT (andT (andT (andT (andT (andT (andT (andT (andT (andT (andT (andT (andT (andT (andT (andT (andT (andT (andT (andT (andT (andT etraces_j1 etraces_j2) etraces_j3) etraces_j4) etraces_j5) etraces_j6) etraces_j7) etraces_j8) etraces_j9) etraces_j10) etraces_j11) etraces_j12) etraces_j13) etraces_j14) etraces_j15) etraces_j16) etraces_j17) etraces_j18) etraces_j19) etraces_j20) etraces_j21) etraces_j22) etraces_j23) etraces_j24) etraces_j25) etraces_j26) etraces_j27) etraces_j28) etraces_j29) etraces_j30) etraces_j31) etraces_j32)
end Go.Proofs.YtlnbdjekdkodcaaGreatDoor
