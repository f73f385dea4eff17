/- Part 21 of a proof of a law of this seat: no statement of the seat is proved here. -/
import Derived.Test.YtginfholjbbgeaaGreatDoorPart17
set_option linter.unusedVariables false
set_option linter.unusedSimpArgs false
namespace Go.Proofs.YtginfholjbbgeaaGreatDoor
open Go
set_option maxRecDepth 100000
theorem qEX{a b:Bool}(h:a=true)(k:b=true):(a&&b)=true:=by rw[h,k];rfl
theorem rturns_j1:(Rows.rollbackTurnsRow.wf (OpenSpec.ofChange Rows.rollbackTurnsSpec))=true:=by kernel_rfl
theorem rturns_j2:(laidOutB Tryz.prog)=true:=by kernel_rfl
theorem rturns_j3:(mapsRowed Tryz.prog)=true:=by kernel_rfl
theorem rturns_j4:(Tryz.f5.params.all (Tryz.prog.readableRec ·))=true:=by kernel_rfl
theorem rturns_j5:(namedTie Tryz.prog Rows.rollbackTurnsRow.named Rows.rollbackTurnsSpec.vars)=true:=by kernel_rfl
theorem rturns_j6:((Rows.rollbackTurnsRow.stops==[]))=true:=by kernel_rfl
theorem rturns_j7:((Tryz.prog.stops==[]))=true:=by kernel_rfl
theorem rturns_j8:((Rows.rollbackTurnsRow.knobs==[]))=true:=by kernel_rfl
theorem rturns_j9:((Tryz.prog.stopKnobs==[]))=true:=by kernel_rfl
theorem rturns_j10:((Rows.rollbackTurnsRow.inPlace==Tryz.prog.inPlace 5))=true:=by kernel_rfl
theorem rturns_j11:((Rows.rollbackTurnsRow.unfollowed==Tryz.prog.unfollowed 5))=true:=by kernel_rfl
theorem rturns_j12:((Rows.rollbackTurnsRow.recurses==Tryz.prog.recurses 5))=true:=by kernel_rfl
theorem rturns_j13:((Rows.rollbackTurnsRow.named==Tryz.prog.varsNamed 5))=true:=by kernel_rfl
theorem rturns_j14:((Rows.rollbackTurnsRow.maps==(Tryz.f5.params.toList++Rows.rollbackTurnsSpec.plain.varTypes Tryz.prog).any (Tryz.prog.mapsRec ·)))=true:=by kernel_rfl
theorem rturns_j15:((Rows.rollbackTurnsRow.ifaces==(Tryz.f5.params.toList++Rows.rollbackTurnsSpec.plain.varTypes Tryz.prog).any (Tryz.prog.ifacesRec ·)))=true:=by kernel_rfl
theorem rturns_j16:((Rows.rollbackTurnsRow.mapsOut==Tryz.prog.mapsAmong Tryz.f5.resultTypes.toList))=true:=by kernel_rfl
theorem rturns_j17:((Rows.rollbackTurnsRow.loops==(Tryz.f5.params.toList++Rows.rollbackTurnsSpec.plain.varTypes Tryz.prog).any (Tryz.prog.loopsFrom ·)))=true:=by kernel_rfl
theorem rturns_j18:((Rows.rollbackTurnsRow.wideKeys==(Tryz.f5.params.toList++Rows.rollbackTurnsSpec.plain.varTypes Tryz.prog++Tryz.f5.resultTypes.toList).any (Tryz.prog.wideKeysFrom ·)))=true:=by kernel_rfl
theorem rturns_j19:(Rows.rollbackTurnsSpec.vars.all (Tryz.prog.varReadable ·))=true:=by kernel_rfl
theorem rturns_j20:(Tryz.f5.resultTypes.all (fun t=>Tryz.prog.readableRec t&&decide (t<Tryz.prog.types.size)))=true:=by kernel_rfl
theorem rturns_j21:((Rows.rollbackTurnsRow.ifacesOut==Tryz.f5.resultTypes.toList.any (Tryz.prog.ifacesRec ·)))=true:=by kernel_rfl
theorem rturns_j22:((Rows.rollbackTurnsRow.loopsOut==Tryz.f5.resultTypes.toList.any (Tryz.prog.loopsFrom ·)))=true:=by kernel_rfl
theorem rturns_j23:((Rows.rollbackTurnsRow.plainKeys==Tryz.prog.plainKeys))=true:=by kernel_rfl
theorem rturns_j24:(Rows.rollbackTurnsRow.shortTexts.isNone)=true:=by kernel_rfl
theorem rturns_j25:(Tryz.prog.stopsHeard)=true:=by kernel_rfl
theorem rturns_j26:(Tryz.prog.mayEnter)=true:=by kernel_rfl
theorem rturns_j27:((Rows.rollbackTurnsRow.lifted==Tryz.prog.liftsFinal))=true:=by kernel_rfl
theorem rturns_j28:((Tryz.prog.make==some Rows.rollbackTurnsRow.make))=true:=by kernel_rfl
theorem rturns_j29:((Rows.rollbackTurnsRow.kinds==(if Rows.rollbackTurnsRow.domain.isEmpty then [] else Tryz.f5.params.toList.map fun t=>match Tryz.prog.underlying t with|some (.int k)=>some k|_=>none)))=true:=by kernel_rfl
theorem rturns_j30:((Rows.rollbackTurnsRow.pinned==Rows.rollbackTurnsRow.pinnedBy))=true:=by kernel_rfl
theorem rturns_j31:((Rows.rollbackTurnsRow.veiled==(Tryz.f5.params.toList++Rows.rollbackTurnsSpec.plain.varTypes Tryz.prog++Tryz.f5.resultTypes.toList).any (Tryz.prog.veiledRec ·)))=true:=by kernel_rfl
theorem rturns_j32:(Rows.rollbackTurnsRow.veiledFits Tryz.prog Tryz.f5.params.toList (Tryz.f5.params.toList++Rows.rollbackTurnsSpec.plain.varTypes Tryz.prog++Tryz.f5.resultTypes.toList))=true:=by kernel_rfl
theorem rturns_facts:joinedFacts Tryz.prog 5 Tryz.f5 Rows.rollbackTurnsSpec Rows.rollbackTurnsRow=true:=(qEX (qEX (qEX (qEX (qEX (qEX (qEX (qEX (qEX (qEX (qEX (qEX (qEX (qEX (qEX (qEX (qEX (qEX (qEX (qEX (qEX (qEX (qEX (qEX (qEX (qEX (qEX (qEX (qEX (qEX (qEX rturns_j1 rturns_j2) rturns_j3) rturns_j4) rturns_j5) rturns_j6) rturns_j7) rturns_j8) rturns_j9) rturns_j10) rturns_j11) rturns_j12) rturns_j13) rturns_j14) rturns_j15) rturns_j16) rturns_j17) rturns_j18) rturns_j19) rturns_j20) rturns_j21) rturns_j22) rturns_j23) rturns_j24) rturns_j25) rturns_j26) rturns_j27) rturns_j28) rturns_j29) rturns_j30) rturns_j31) rturns_j32)
end Go.Proofs.YtginfholjbbgeaaGreatDoor
