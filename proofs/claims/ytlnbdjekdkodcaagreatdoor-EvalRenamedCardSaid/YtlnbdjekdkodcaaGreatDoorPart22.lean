/- Part 22 of a proof of a law of this seat: no statement of the seat is proved here. -/
import Derived.Test.YtlnbdjekdkodcaaGreatDoorPart21
set_option linter.unusedVariables false
set_option linter.unusedSimpArgs false
namespace Go.Proofs.YtlnbdjekdkodcaaGreatDoor
open Go
set_option maxRecDepth 100000
theorem andT{a b:Bool}(h:a=true)(k:b=true):(a&&b)=true:=by rw[h,k];rfl
theorem erenamed_j1:(Rows.evalRenamedRow.wf (OpenSpec.ofChange Rows.evalRenamedSpec))=true:=by kernel_rfl
theorem erenamed_j2:(laidOutB Tryz.prog)=true:=by kernel_rfl
theorem erenamed_j3:(mapsRowed Tryz.prog)=true:=by kernel_rfl
theorem erenamed_j4:(Tryz.f8.params.all (Tryz.prog.readableRec ·))=true:=by kernel_rfl
theorem erenamed_j5:(namedTie Tryz.prog Rows.evalRenamedRow.named Rows.evalRenamedSpec.vars)=true:=by kernel_rfl
theorem erenamed_j6:((Rows.evalRenamedRow.stops==[]))=true:=by kernel_rfl
theorem erenamed_j7:((Tryz.prog.stops==[]))=true:=by kernel_rfl
theorem erenamed_j8:((Rows.evalRenamedRow.knobs==[]))=true:=by kernel_rfl
theorem erenamed_j9:((Tryz.prog.stopKnobs==[]))=true:=by kernel_rfl
theorem erenamed_j10:((Rows.evalRenamedRow.inPlace==Tryz.prog.inPlace 8))=true:=by kernel_rfl
theorem erenamed_j11:((Rows.evalRenamedRow.unfollowed==Tryz.prog.unfollowed 8))=true:=by kernel_rfl
theorem erenamed_j12:((Rows.evalRenamedRow.recurses==Tryz.prog.recurses 8))=true:=by kernel_rfl
theorem erenamed_j13:((Rows.evalRenamedRow.named==Tryz.prog.varsNamed 8))=true:=by kernel_rfl
theorem erenamed_j14:((Rows.evalRenamedRow.maps==(Tryz.f8.params.toList++Rows.evalRenamedSpec.plain.varTypes Tryz.prog).any (Tryz.prog.mapsRec ·)))=true:=by kernel_rfl
theorem erenamed_j15:((Rows.evalRenamedRow.ifaces==(Tryz.f8.params.toList++Rows.evalRenamedSpec.plain.varTypes Tryz.prog).any (Tryz.prog.ifacesRec ·)))=true:=by kernel_rfl
theorem erenamed_j16:((Rows.evalRenamedRow.mapsOut==Tryz.prog.mapsAmong Tryz.f8.resultTypes.toList))=true:=by kernel_rfl
theorem erenamed_j17:((Rows.evalRenamedRow.loops==(Tryz.f8.params.toList++Rows.evalRenamedSpec.plain.varTypes Tryz.prog).any (Tryz.prog.loopsFrom ·)))=true:=by kernel_rfl
theorem erenamed_j18:((Rows.evalRenamedRow.wideKeys==(Tryz.f8.params.toList++Rows.evalRenamedSpec.plain.varTypes Tryz.prog++Tryz.f8.resultTypes.toList).any (Tryz.prog.wideKeysFrom ·)))=true:=by kernel_rfl
theorem erenamed_j19:(Rows.evalRenamedSpec.vars.all (Tryz.prog.varReadable ·))=true:=by kernel_rfl
theorem erenamed_j20:(Tryz.f8.resultTypes.all (fun t=>Tryz.prog.readableRec t&&decide (t<Tryz.prog.types.size)))=true:=by kernel_rfl
theorem erenamed_j21:((Rows.evalRenamedRow.ifacesOut==Tryz.f8.resultTypes.toList.any (Tryz.prog.ifacesRec ·)))=true:=by kernel_rfl
theorem erenamed_j22:((Rows.evalRenamedRow.loopsOut==Tryz.f8.resultTypes.toList.any (Tryz.prog.loopsFrom ·)))=true:=by kernel_rfl
theorem erenamed_j23:((Rows.evalRenamedRow.plainKeys==Tryz.prog.plainKeys))=true:=by kernel_rfl
theorem erenamed_j24:(Rows.evalRenamedRow.shortTexts.isNone)=true:=by kernel_rfl
theorem erenamed_j25:(Tryz.prog.stopsHeard)=true:=by kernel_rfl
theorem erenamed_j26:(Tryz.prog.mayEnter)=true:=by kernel_rfl
theorem erenamed_j27:((Rows.evalRenamedRow.lifted==Tryz.prog.liftsFinal))=true:=by kernel_rfl
theorem erenamed_j28:((Tryz.prog.make==some Rows.evalRenamedRow.make))=true:=by kernel_rfl
theorem erenamed_j29:((Rows.evalRenamedRow.kinds==(if Rows.evalRenamedRow.domain.isEmpty then [] else Tryz.f8.params.toList.map fun t=>match Tryz.prog.underlying t with|some (.int k)=>some k|_=>none)))=true:=by kernel_rfl
theorem erenamed_j30:((Rows.evalRenamedRow.pinned==Rows.evalRenamedRow.pinnedBy))=true:=by kernel_rfl
theorem erenamed_j31:((Rows.evalRenamedRow.veiled==(Tryz.f8.params.toList++Rows.evalRenamedSpec.plain.varTypes Tryz.prog++Tryz.f8.resultTypes.toList).any (Tryz.prog.veiledRec ·)))=true:=by kernel_rfl
theorem erenamed_j32:(Rows.evalRenamedRow.veiledFits Tryz.prog Tryz.f8.params.toList (Tryz.f8.params.toList++Rows.evalRenamedSpec.plain.varTypes Tryz.prog++Tryz.f8.resultTypes.toList))=true:=by kernel_rfl
theorem qJi:joinedFacts Tryz.prog 8 Tryz.f8 Rows.evalRenamedSpec Rows.evalRenamedRow=true:=(andT (andT (andT (andT (andT (andT (andT (andT (andT (andT (andT (andT (andT (andT (andT (andT (andT (andT (andT (andT (andT (andT (andT (andT (andT (andT (andT (andT (andT (andT (andT erenamed_j1 erenamed_j2) erenamed_j3) erenamed_j4) erenamed_j5) erenamed_j6) erenamed_j7) erenamed_j8) erenamed_j9) erenamed_j10) erenamed_j11) erenamed_j12) erenamed_j13) erenamed_j14) erenamed_j15) erenamed_j16) erenamed_j17) erenamed_j18) erenamed_j19) erenamed_j20) erenamed_j21) erenamed_j22) erenamed_j23) erenamed_j24) erenamed_j25) erenamed_j26) erenamed_j27) erenamed_j28) erenamed_j29) erenamed_j30) erenamed_j31) erenamed_j32)
end Go.Proofs.YtlnbdjekdkodcaaGreatDoor
