/- Part 22 of a proof of a law of this seat: no statement of the seat is proved here. -/
import Derived.Test.YtlnbdjekdkodcaaGreatDoorPart21
set_option linter.unusedVariables false
set_option linter.unusedSimpArgs false
namespace Go.Proofs.YtlnbdjekdkodcaaGreatDoor
open Go
set_option maxRecDepth 100000
theorem andT{a b:Bool}(h:a=true)(k:b=true):(a&&b)=true:=by rw[h,k];rfl
theorem escripts_j1:(Rows.evalScriptsRow.wf (OpenSpec.ofChange Rows.evalScriptsSpec))=true:=by kernel_rfl
theorem escripts_j2:(laidOutB Tryz.prog)=true:=by kernel_rfl
theorem escripts_j3:(mapsRowed Tryz.prog)=true:=by kernel_rfl
theorem escripts_j4:(Tryz.f7.params.all (Tryz.prog.readableRec ·))=true:=by kernel_rfl
theorem escripts_j5:(namedTie Tryz.prog Rows.evalScriptsRow.named Rows.evalScriptsSpec.vars)=true:=by kernel_rfl
theorem escripts_j6:((Rows.evalScriptsRow.stops==[]))=true:=by kernel_rfl
theorem escripts_j7:((Tryz.prog.stops==[]))=true:=by kernel_rfl
theorem escripts_j8:((Rows.evalScriptsRow.knobs==[]))=true:=by kernel_rfl
theorem escripts_j9:((Tryz.prog.stopKnobs==[]))=true:=by kernel_rfl
theorem escripts_j10:((Rows.evalScriptsRow.inPlace==Tryz.prog.inPlace 7))=true:=by kernel_rfl
theorem escripts_j11:((Rows.evalScriptsRow.unfollowed==Tryz.prog.unfollowed 7))=true:=by kernel_rfl
theorem escripts_j12:((Rows.evalScriptsRow.recurses==Tryz.prog.recurses 7))=true:=by kernel_rfl
theorem escripts_j13:((Rows.evalScriptsRow.named==Tryz.prog.varsNamed 7))=true:=by kernel_rfl
theorem escripts_j14:((Rows.evalScriptsRow.maps==(Tryz.f7.params.toList++Rows.evalScriptsSpec.plain.varTypes Tryz.prog).any (Tryz.prog.mapsRec ·)))=true:=by kernel_rfl
theorem escripts_j15:((Rows.evalScriptsRow.ifaces==(Tryz.f7.params.toList++Rows.evalScriptsSpec.plain.varTypes Tryz.prog).any (Tryz.prog.ifacesRec ·)))=true:=by kernel_rfl
theorem escripts_j16:((Rows.evalScriptsRow.mapsOut==Tryz.prog.mapsAmong Tryz.f7.resultTypes.toList))=true:=by kernel_rfl
theorem escripts_j17:((Rows.evalScriptsRow.loops==(Tryz.f7.params.toList++Rows.evalScriptsSpec.plain.varTypes Tryz.prog).any (Tryz.prog.loopsFrom ·)))=true:=by kernel_rfl
theorem escripts_j18:((Rows.evalScriptsRow.wideKeys==(Tryz.f7.params.toList++Rows.evalScriptsSpec.plain.varTypes Tryz.prog++Tryz.f7.resultTypes.toList).any (Tryz.prog.wideKeysFrom ·)))=true:=by kernel_rfl
theorem escripts_j19:(Rows.evalScriptsSpec.vars.all (Tryz.prog.varReadable ·))=true:=by kernel_rfl
theorem escripts_j20:(Tryz.f7.resultTypes.all (fun t=>Tryz.prog.readableRec t&&decide (t<Tryz.prog.types.size)))=true:=by kernel_rfl
theorem escripts_j21:((Rows.evalScriptsRow.ifacesOut==Tryz.f7.resultTypes.toList.any (Tryz.prog.ifacesRec ·)))=true:=by kernel_rfl
theorem escripts_j22:((Rows.evalScriptsRow.loopsOut==Tryz.f7.resultTypes.toList.any (Tryz.prog.loopsFrom ·)))=true:=by kernel_rfl
theorem escripts_j23:((Rows.evalScriptsRow.plainKeys==Tryz.prog.plainKeys))=true:=by kernel_rfl
theorem escripts_j24:(Rows.evalScriptsRow.shortTexts.isNone)=true:=by kernel_rfl
theorem escripts_j25:(Tryz.prog.stopsHeard)=true:=by kernel_rfl
theorem escripts_j26:(Tryz.prog.mayEnter)=true:=by kernel_rfl
theorem escripts_j27:((Rows.evalScriptsRow.lifted==Tryz.prog.liftsFinal))=true:=by kernel_rfl
theorem escripts_j28:((Tryz.prog.make==some Rows.evalScriptsRow.make))=true:=by kernel_rfl
theorem escripts_j29:((Rows.evalScriptsRow.kinds==(if Rows.evalScriptsRow.domain.isEmpty then [] else Tryz.f7.params.toList.map fun t=>match Tryz.prog.underlying t with|some (.int k)=>some k|_=>none)))=true:=by kernel_rfl
theorem escripts_j30:((Rows.evalScriptsRow.pinned==Rows.evalScriptsRow.pinnedBy))=true:=by kernel_rfl
theorem escripts_j31:((Rows.evalScriptsRow.veiled==(Tryz.f7.params.toList++Rows.evalScriptsSpec.plain.varTypes Tryz.prog++Tryz.f7.resultTypes.toList).any (Tryz.prog.veiledRec ·)))=true:=by kernel_rfl
theorem escripts_j32:(Rows.evalScriptsRow.veiledFits Tryz.prog Tryz.f7.params.toList (Tryz.f7.params.toList++Rows.evalScriptsSpec.plain.varTypes Tryz.prog++Tryz.f7.resultTypes.toList))=true:=by kernel_rfl
theorem qJh:joinedFacts Tryz.prog 7 Tryz.f7 Rows.evalScriptsSpec Rows.evalScriptsRow=true:=(andT (andT (andT (andT (andT (andT (andT (andT (andT (andT (andT (andT (andT (andT (andT (andT (andT (andT (andT (andT (andT (andT (andT (andT (andT (andT (andT (andT (andT (andT (andT escripts_j1 escripts_j2) escripts_j3) escripts_j4) escripts_j5) escripts_j6) escripts_j7) escripts_j8) escripts_j9) escripts_j10) escripts_j11) escripts_j12) escripts_j13) escripts_j14) escripts_j15) escripts_j16) escripts_j17) escripts_j18) escripts_j19) escripts_j20) escripts_j21) escripts_j22) escripts_j23) escripts_j24) escripts_j25) escripts_j26) escripts_j27) escripts_j28) escripts_j29) escripts_j30) escripts_j31) escripts_j32)
end Go.Proofs.YtlnbdjekdkodcaaGreatDoor
