/- Part 22 of a proof of a law of this seat: no statement of the seat is proved here. -/
import Derived.Test.YtlnbdjekdkodcaaGreatDoorPart21
set_option linter.unusedVariables false
set_option linter.unusedSimpArgs false
namespace Go.Proofs.YtlnbdjekdkodcaaGreatDoor
open Go
set_option maxRecDepth 100000
theorem andT{a b:Bool}(h:a=true)(k:b=true):(a&&b)=true:=by rw[h,k];rfl
theorem eruns_j1:(Rows.evalRunsRow.wf (OpenSpec.ofChange Rows.evalRunsSpec))=true:=by kernel_rfl
theorem eruns_j2:(laidOutB Tryz.prog)=true:=by kernel_rfl
theorem eruns_j3:(mapsRowed Tryz.prog)=true:=by kernel_rfl
theorem eruns_j4:(Tryz.f3.params.all (Tryz.prog.readableRec ·))=true:=by kernel_rfl
theorem eruns_j5:(namedTie Tryz.prog Rows.evalRunsRow.named Rows.evalRunsSpec.vars)=true:=by kernel_rfl
theorem eruns_j6:((Rows.evalRunsRow.stops==[]))=true:=by kernel_rfl
theorem eruns_j7:((Tryz.prog.stops==[]))=true:=by kernel_rfl
theorem eruns_j8:((Rows.evalRunsRow.knobs==[]))=true:=by kernel_rfl
theorem eruns_j9:((Tryz.prog.stopKnobs==[]))=true:=by kernel_rfl
theorem eruns_j10:((Rows.evalRunsRow.inPlace==Tryz.prog.inPlace 3))=true:=by kernel_rfl
theorem eruns_j11:((Rows.evalRunsRow.unfollowed==Tryz.prog.unfollowed 3))=true:=by kernel_rfl
theorem eruns_j12:((Rows.evalRunsRow.recurses==Tryz.prog.recurses 3))=true:=by kernel_rfl
theorem eruns_j13:((Rows.evalRunsRow.named==Tryz.prog.varsNamed 3))=true:=by kernel_rfl
theorem eruns_j14:((Rows.evalRunsRow.maps==(Tryz.f3.params.toList++Rows.evalRunsSpec.plain.varTypes Tryz.prog).any (Tryz.prog.mapsRec ·)))=true:=by kernel_rfl
theorem eruns_j15:((Rows.evalRunsRow.ifaces==(Tryz.f3.params.toList++Rows.evalRunsSpec.plain.varTypes Tryz.prog).any (Tryz.prog.ifacesRec ·)))=true:=by kernel_rfl
theorem eruns_j16:((Rows.evalRunsRow.mapsOut==Tryz.prog.mapsAmong Tryz.f3.resultTypes.toList))=true:=by kernel_rfl
theorem eruns_j17:((Rows.evalRunsRow.loops==(Tryz.f3.params.toList++Rows.evalRunsSpec.plain.varTypes Tryz.prog).any (Tryz.prog.loopsFrom ·)))=true:=by kernel_rfl
theorem eruns_j18:((Rows.evalRunsRow.wideKeys==(Tryz.f3.params.toList++Rows.evalRunsSpec.plain.varTypes Tryz.prog++Tryz.f3.resultTypes.toList).any (Tryz.prog.wideKeysFrom ·)))=true:=by kernel_rfl
theorem eruns_j19:(Rows.evalRunsSpec.vars.all (Tryz.prog.varReadable ·))=true:=by kernel_rfl
theorem eruns_j20:(Tryz.f3.resultTypes.all (fun t=>Tryz.prog.readableRec t&&decide (t<Tryz.prog.types.size)))=true:=by kernel_rfl
theorem eruns_j21:((Rows.evalRunsRow.ifacesOut==Tryz.f3.resultTypes.toList.any (Tryz.prog.ifacesRec ·)))=true:=by kernel_rfl
theorem eruns_j22:((Rows.evalRunsRow.loopsOut==Tryz.f3.resultTypes.toList.any (Tryz.prog.loopsFrom ·)))=true:=by kernel_rfl
theorem eruns_j23:((Rows.evalRunsRow.plainKeys==Tryz.prog.plainKeys))=true:=by kernel_rfl
theorem eruns_j24:(Rows.evalRunsRow.shortTexts.isNone)=true:=by kernel_rfl
theorem eruns_j25:(Tryz.prog.stopsHeard)=true:=by kernel_rfl
theorem eruns_j26:(Tryz.prog.mayEnter)=true:=by kernel_rfl
theorem eruns_j27:((Rows.evalRunsRow.lifted==Tryz.prog.liftsFinal))=true:=by kernel_rfl
theorem eruns_j28:((Tryz.prog.make==some Rows.evalRunsRow.make))=true:=by kernel_rfl
theorem eruns_j29:((Rows.evalRunsRow.kinds==(if Rows.evalRunsRow.domain.isEmpty then [] else Tryz.f3.params.toList.map fun t=>match Tryz.prog.underlying t with|some (.int k)=>some k|_=>none)))=true:=by kernel_rfl
theorem eruns_j30:((Rows.evalRunsRow.pinned==Rows.evalRunsRow.pinnedBy))=true:=by kernel_rfl
theorem eruns_j31:((Rows.evalRunsRow.veiled==(Tryz.f3.params.toList++Rows.evalRunsSpec.plain.varTypes Tryz.prog++Tryz.f3.resultTypes.toList).any (Tryz.prog.veiledRec ·)))=true:=by kernel_rfl
theorem eruns_j32:(Rows.evalRunsRow.veiledFits Tryz.prog Tryz.f3.params.toList (Tryz.f3.params.toList++Rows.evalRunsSpec.plain.varTypes Tryz.prog++Tryz.f3.resultTypes.toList))=true:=by kernel_rfl
theorem eruns_facts:joinedFacts Tryz.prog 3 Tryz.f3 Rows.evalRunsSpec Rows.evalRunsRow=true:=(andT (andT (andT (andT (andT (andT (andT (andT (andT (andT (andT (andT (andT (andT (andT (andT (andT (andT (andT (andT (andT (andT (andT (andT (andT (andT (andT (andT (andT (andT (andT eruns_j1 eruns_j2) eruns_j3) eruns_j4) eruns_j5) eruns_j6) eruns_j7) eruns_j8) eruns_j9) eruns_j10) eruns_j11) eruns_j12) eruns_j13) eruns_j14) eruns_j15) eruns_j16) eruns_j17) eruns_j18) eruns_j19) eruns_j20) eruns_j21) eruns_j22) eruns_j23) eruns_j24) eruns_j25) eruns_j26) eruns_j27) eruns_j28) eruns_j29) eruns_j30) eruns_j31) eruns_j32)
end Go.Proofs.YtlnbdjekdkodcaaGreatDoor
