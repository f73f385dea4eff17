/- Part 31: no statement of the seat is proved here. -/
import Derived.Test.YtgdmkmfchcflpaaGreatDoorPe30
set_option linter.unusedVariables false
set_option linter.unusedSimpArgs false
open Go.Proofs.Tryz renaming prog->xE,f4->tH
namespace Go.Proofs.YtgdmkmfchcflpaaGreatDoor
open Go
set_option maxRecDepth 100000
theorem andT{a b:Bool}(h:a=true)(k:b=true):(a&&b)=true:=by rw[h,k];rfl
theorem scodes_j1:(Rows.serializerCodesRow.wf (OpenSpec.ofChange Rows.serializerCodesSpec))=true:=by kernel_rfl
theorem scodes_j2:(laidOutB xE)=true:=by kernel_rfl
theorem scodes_j3:(mapsRowed xE)=true:=by kernel_rfl
theorem scodes_j4:(tH.params.all (xE.readableRec ·))=true:=by kernel_rfl
theorem scodes_j5:(namedTie xE Rows.serializerCodesRow.named Rows.serializerCodesSpec.vars)=true:=by kernel_rfl
theorem scodes_j6:((Rows.serializerCodesRow.stops==[]))=true:=by kernel_rfl
theorem scodes_j7:((xE.stops==[]))=true:=by kernel_rfl
theorem scodes_j8:((Rows.serializerCodesRow.knobs==[]))=true:=by kernel_rfl
theorem scodes_j9:((xE.stopKnobs==[]))=true:=by kernel_rfl
theorem scodes_j10:((Rows.serializerCodesRow.inPlace==xE.inPlace 4))=true:=by kernel_rfl
theorem scodes_j11:((Rows.serializerCodesRow.unfollowed==xE.unfollowed 4))=true:=by kernel_rfl
theorem scodes_j12:((Rows.serializerCodesRow.recurses==xE.recurses 4))=true:=by kernel_rfl
theorem scodes_j13:((Rows.serializerCodesRow.named==xE.varsNamed 4))=true:=by kernel_rfl
theorem scodes_j14:((Rows.serializerCodesRow.maps==(tH.params.toList++Rows.serializerCodesSpec.plain.varTypes xE).any (xE.mapsRec ·)))=true:=by kernel_rfl
theorem scodes_j15:((Rows.serializerCodesRow.ifaces==(tH.params.toList++Rows.serializerCodesSpec.plain.varTypes xE).any (xE.ifacesRec ·)))=true:=by kernel_rfl
theorem scodes_j16:((Rows.serializerCodesRow.mapsOut==xE.mapsAmong tH.resultTypes.toList))=true:=by kernel_rfl
theorem scodes_j17:((Rows.serializerCodesRow.loops==(tH.params.toList++Rows.serializerCodesSpec.plain.varTypes xE).any (xE.loopsFrom ·)))=true:=by kernel_rfl
theorem scodes_j18:((Rows.serializerCodesRow.wideKeys==(tH.params.toList++Rows.serializerCodesSpec.plain.varTypes xE++tH.resultTypes.toList).any (xE.wideKeysFrom ·)))=true:=by kernel_rfl
theorem scodes_j19:(Rows.serializerCodesSpec.vars.all (xE.varReadable ·))=true:=by kernel_rfl
theorem scodes_j20:(tH.resultTypes.all (λt=>xE.readableRec t&&decide (t<xE.types.size)))=true:=by kernel_rfl
theorem scodes_j21:((Rows.serializerCodesRow.ifacesOut==tH.resultTypes.toList.any (xE.ifacesRec ·)))=true:=by kernel_rfl
theorem scodes_j22:((Rows.serializerCodesRow.loopsOut==tH.resultTypes.toList.any (xE.loopsFrom ·)))=true:=by kernel_rfl
theorem scodes_j23:((Rows.serializerCodesRow.plainKeys==xE.plainKeys))=true:=by kernel_rfl
theorem scodes_j24:(Rows.serializerCodesRow.shortTexts.isNone)=true:=by kernel_rfl
theorem scodes_j25:(xE.stopsHeard)=true:=by kernel_rfl
theorem scodes_j26:(xE.mayEnter)=true:=by kernel_rfl
theorem scodes_j27:((Rows.serializerCodesRow.lifted==xE.liftsFinal))=true:=by kernel_rfl
theorem scodes_j28:((xE.make==some Rows.serializerCodesRow.make))=true:=by kernel_rfl
theorem scodes_j29:((Rows.serializerCodesRow.kinds==(if Rows.serializerCodesRow.domain.isEmpty then[]else tH.params.toList.map λt=>match xE.underlying t with|some (.int k)=>some k|_=>none)))=true:=by kernel_rfl
theorem scodes_j30:((Rows.serializerCodesRow.pinned==Rows.serializerCodesRow.pinnedBy))=true:=by kernel_rfl
theorem scodes_j31:((Rows.serializerCodesRow.veiled==(tH.params.toList++Rows.serializerCodesSpec.plain.varTypes xE++tH.resultTypes.toList).any (xE.veiledRec ·)))=true:=by kernel_rfl
theorem scodes_j32:(Rows.serializerCodesRow.veiledFits xE tH.params.toList (tH.params.toList++Rows.serializerCodesSpec.plain.varTypes xE++tH.resultTypes.toList))=true:=by kernel_rfl
theorem scodes_facts:joinedFacts xE 4 tH Rows.serializerCodesSpec Rows.serializerCodesRow=true:=(andT (andT (andT (andT (andT (andT (andT (andT (andT (andT (andT (andT (andT (andT (andT (andT (andT (andT (andT (andT (andT (andT (andT (andT (andT (andT (andT (andT (andT (andT (andT scodes_j1 scodes_j2) scodes_j3) scodes_j4) scodes_j5) scodes_j6) scodes_j7) scodes_j8) scodes_j9) scodes_j10) scodes_j11) scodes_j12) scodes_j13) scodes_j14) scodes_j15) scodes_j16) scodes_j17) scodes_j18) scodes_j19) scodes_j20) scodes_j21) scodes_j22) scodes_j23) scodes_j24) scodes_j25) scodes_j26) scodes_j27) scodes_j28) scodes_j29) scodes_j30) scodes_j31) scodes_j32)
end Go.Proofs.YtgdmkmfchcflpaaGreatDoor
