/- Part 21 of a proof of a law of this seat: no statement of the seat is proved here. -/
import Derived.Test.YtmeagdecjpknkaaGreatDoorPp16
set_option linter.unusedVariables false
set_option linter.unusedSimpArgs false
namespace Go.Proofs.YtmeagdecjpknkaaGreatDoor
open Go
set_option maxRecDepth 100000
theorem qFC{a b:Bool}(h:a=true)(k:b=true):(a&&b)=true:=by rw[h,k];rfl
theorem eplaces_j1:(Rows.externalPlacesRow.wf (OpenSpec.ofChange Rows.externalPlacesSpec))=true:=by kernel_rfl
theorem eplaces_j2:(laidOutB Tryz.prog)=true:=by kernel_rfl
theorem eplaces_j3:(mapsRowed Tryz.prog)=true:=by kernel_rfl
theorem eplaces_j4:(Tryz.f3.params.all (Tryz.prog.readableRec ·))=true:=by kernel_rfl
theorem eplaces_j5:(namedTie Tryz.prog Rows.externalPlacesRow.named Rows.externalPlacesSpec.vars)=true:=by kernel_rfl
theorem eplaces_j6:((Rows.externalPlacesRow.stops==[]))=true:=by kernel_rfl
theorem eplaces_j7:((Tryz.prog.stops==[]))=true:=by kernel_rfl
theorem eplaces_j8:((Rows.externalPlacesRow.knobs==[]))=true:=by kernel_rfl
theorem eplaces_j9:((Tryz.prog.stopKnobs==[]))=true:=by kernel_rfl
theorem eplaces_j10:((Rows.externalPlacesRow.inPlace==Tryz.prog.inPlace 3))=true:=by kernel_rfl
theorem eplaces_j11:((Rows.externalPlacesRow.unfollowed==Tryz.prog.unfollowed 3))=true:=by kernel_rfl
theorem eplaces_j12:((Rows.externalPlacesRow.recurses==Tryz.prog.recurses 3))=true:=by kernel_rfl
theorem eplaces_j13:((Rows.externalPlacesRow.named==Tryz.prog.varsNamed 3))=true:=by kernel_rfl
theorem eplaces_j14:((Rows.externalPlacesRow.maps==(Tryz.f3.params.toList++Rows.externalPlacesSpec.plain.varTypes Tryz.prog).any (Tryz.prog.mapsRec ·)))=true:=by kernel_rfl
theorem eplaces_j15:((Rows.externalPlacesRow.ifaces==(Tryz.f3.params.toList++Rows.externalPlacesSpec.plain.varTypes Tryz.prog).any (Tryz.prog.ifacesRec ·)))=true:=by kernel_rfl
theorem eplaces_j16:((Rows.externalPlacesRow.mapsOut==Tryz.prog.mapsAmong Tryz.f3.resultTypes.toList))=true:=by kernel_rfl
theorem eplaces_j17:((Rows.externalPlacesRow.loops==(Tryz.f3.params.toList++Rows.externalPlacesSpec.plain.varTypes Tryz.prog).any (Tryz.prog.loopsFrom ·)))=true:=by kernel_rfl
theorem eplaces_j18:((Rows.externalPlacesRow.wideKeys==(Tryz.f3.params.toList++Rows.externalPlacesSpec.plain.varTypes Tryz.prog++Tryz.f3.resultTypes.toList).any (Tryz.prog.wideKeysFrom ·)))=true:=by kernel_rfl
theorem eplaces_j19:(Rows.externalPlacesSpec.vars.all (Tryz.prog.varReadable ·))=true:=by kernel_rfl
theorem eplaces_j20:(Tryz.f3.resultTypes.all (fun t=>Tryz.prog.readableRec t&&decide (t<Tryz.prog.types.size)))=true:=by kernel_rfl
theorem eplaces_j21:((Rows.externalPlacesRow.ifacesOut==Tryz.f3.resultTypes.toList.any (Tryz.prog.ifacesRec ·)))=true:=by kernel_rfl
theorem eplaces_j22:((Rows.externalPlacesRow.loopsOut==Tryz.f3.resultTypes.toList.any (Tryz.prog.loopsFrom ·)))=true:=by kernel_rfl
theorem eplaces_j23:((Rows.externalPlacesRow.plainKeys==Tryz.prog.plainKeys))=true:=by kernel_rfl
theorem eplaces_j24:(Rows.externalPlacesRow.shortTexts.isNone)=true:=by kernel_rfl
theorem eplaces_j25:(Tryz.prog.stopsHeard)=true:=by kernel_rfl
theorem eplaces_j26:(Tryz.prog.mayEnter)=true:=by kernel_rfl
theorem eplaces_j27:((Rows.externalPlacesRow.lifted==Tryz.prog.liftsFinal))=true:=by kernel_rfl
theorem eplaces_j28:((Tryz.prog.make==some Rows.externalPlacesRow.make))=true:=by kernel_rfl
theorem eplaces_j29:((Rows.externalPlacesRow.kinds==(if Rows.externalPlacesRow.domain.isEmpty then [] else Tryz.f3.params.toList.map fun t=>match Tryz.prog.underlying t with|some (.int k)=>some k|_=>none)))=true:=by kernel_rfl
theorem eplaces_j30:((Rows.externalPlacesRow.pinned==Rows.externalPlacesRow.pinnedBy))=true:=by kernel_rfl
theorem eplaces_j31:((Rows.externalPlacesRow.veiled==(Tryz.f3.params.toList++Rows.externalPlacesSpec.plain.varTypes Tryz.prog++Tryz.f3.resultTypes.toList).any (Tryz.prog.veiledRec ·)))=true:=by kernel_rfl
theorem eplaces_j32:(Rows.externalPlacesRow.veiledFits Tryz.prog Tryz.f3.params.toList (Tryz.f3.params.toList++Rows.externalPlacesSpec.plain.varTypes Tryz.prog++Tryz.f3.resultTypes.toList))=true:=by kernel_rfl
theorem qKQ:joinedFacts Tryz.prog 3 Tryz.f3 Rows.externalPlacesSpec Rows.externalPlacesRow=true:=(qFC (qFC (qFC (qFC (qFC (qFC (qFC (qFC (qFC (qFC (qFC (qFC (qFC (qFC (qFC (qFC (qFC (qFC (qFC (qFC (qFC (qFC (qFC (qFC (qFC (qFC (qFC (qFC (qFC (qFC (qFC eplaces_j1 eplaces_j2) eplaces_j3) eplaces_j4) eplaces_j5) eplaces_j6) eplaces_j7) eplaces_j8) eplaces_j9) eplaces_j10) eplaces_j11) eplaces_j12) eplaces_j13) eplaces_j14) eplaces_j15) eplaces_j16) eplaces_j17) eplaces_j18) eplaces_j19) eplaces_j20) eplaces_j21) eplaces_j22) eplaces_j23) eplaces_j24) eplaces_j25) eplaces_j26) eplaces_j27) eplaces_j28) eplaces_j29) eplaces_j30) eplaces_j31) eplaces_j32)
end Go.Proofs.YtmeagdecjpknkaaGreatDoor
