/- Part 34: no statement of the seat is proved here. -/
import Derived.Test.YtgdmkmfchcflpaaGreatDoorPe33
set_option linter.unusedVariables false
set_option linter.unusedSimpArgs false
open Go.Proofs.Tryz renaming prog->xE,f5->tK
namespace Go.Proofs.YtgdmkmfchcflpaaGreatDoor
open Go
set_option maxRecDepth 100000
theorem andT{a b:Bool}(h:a=true)(k:b=true):(a&&b)=true:=by rw[h,k];rfl
theorem sends_j1:(Rows.serializerEndsRow.wf (OpenSpec.ofChange Rows.serializerEndsSpec))=true:=by kernel_rfl
theorem sends_j2:(laidOutB xE)=true:=by kernel_rfl
theorem sends_j3:(mapsRowed xE)=true:=by kernel_rfl
theorem sends_j4:(tK.params.all (xE.readableRec ·))=true:=by kernel_rfl
theorem sends_j5:(namedTie xE Rows.serializerEndsRow.named Rows.serializerEndsSpec.vars)=true:=by kernel_rfl
theorem sends_j6:((Rows.serializerEndsRow.stops==[]))=true:=by kernel_rfl
theorem sends_j7:((xE.stops==[]))=true:=by kernel_rfl
theorem sends_j8:((Rows.serializerEndsRow.knobs==[]))=true:=by kernel_rfl
theorem sends_j9:((xE.stopKnobs==[]))=true:=by kernel_rfl
theorem sends_j10:((Rows.serializerEndsRow.inPlace==xE.inPlace 5))=true:=by kernel_rfl
theorem sends_j11:((Rows.serializerEndsRow.unfollowed==xE.unfollowed 5))=true:=by kernel_rfl
theorem sends_j12:((Rows.serializerEndsRow.recurses==xE.recurses 5))=true:=by kernel_rfl
theorem sends_j13:((Rows.serializerEndsRow.named==xE.varsNamed 5))=true:=by kernel_rfl
theorem sends_j14:((Rows.serializerEndsRow.maps==(tK.params.toList++Rows.serializerEndsSpec.plain.varTypes xE).any (xE.mapsRec ·)))=true:=by kernel_rfl
theorem sends_j15:((Rows.serializerEndsRow.ifaces==(tK.params.toList++Rows.serializerEndsSpec.plain.varTypes xE).any (xE.ifacesRec ·)))=true:=by kernel_rfl
theorem sends_j16:((Rows.serializerEndsRow.mapsOut==xE.mapsAmong tK.resultTypes.toList))=true:=by kernel_rfl
theorem sends_j17:((Rows.serializerEndsRow.loops==(tK.params.toList++Rows.serializerEndsSpec.plain.varTypes xE).any (xE.loopsFrom ·)))=true:=by kernel_rfl
theorem sends_j18:((Rows.serializerEndsRow.wideKeys==(tK.params.toList++Rows.serializerEndsSpec.plain.varTypes xE++tK.resultTypes.toList).any (xE.wideKeysFrom ·)))=true:=by kernel_rfl
theorem sends_j19:(Rows.serializerEndsSpec.vars.all (xE.varReadable ·))=true:=by kernel_rfl
theorem sends_j20:(tK.resultTypes.all (λt=>xE.readableRec t&&decide (t<xE.types.size)))=true:=by kernel_rfl
theorem sends_j21:((Rows.serializerEndsRow.ifacesOut==tK.resultTypes.toList.any (xE.ifacesRec ·)))=true:=by kernel_rfl
theorem sends_j22:((Rows.serializerEndsRow.loopsOut==tK.resultTypes.toList.any (xE.loopsFrom ·)))=true:=by kernel_rfl
theorem sends_j23:((Rows.serializerEndsRow.plainKeys==xE.plainKeys))=true:=by kernel_rfl
theorem sends_j24:(Rows.serializerEndsRow.shortTexts.isNone)=true:=by kernel_rfl
theorem sends_j25:(xE.stopsHeard)=true:=by kernel_rfl
theorem sends_j26:(xE.mayEnter)=true:=by kernel_rfl
theorem sends_j27:((Rows.serializerEndsRow.lifted==xE.liftsFinal))=true:=by kernel_rfl
theorem sends_j28:((xE.make==some Rows.serializerEndsRow.make))=true:=by kernel_rfl
theorem sends_j29:((Rows.serializerEndsRow.kinds==(if Rows.serializerEndsRow.domain.isEmpty then[]else tK.params.toList.map λt=>match xE.underlying t with|some (.int k)=>some k|_=>none)))=true:=by kernel_rfl
theorem sends_j30:((Rows.serializerEndsRow.pinned==Rows.serializerEndsRow.pinnedBy))=true:=by kernel_rfl
theorem sends_j31:((Rows.serializerEndsRow.veiled==(tK.params.toList++Rows.serializerEndsSpec.plain.varTypes xE++tK.resultTypes.toList).any (xE.veiledRec ·)))=true:=by kernel_rfl
theorem sends_j32:(Rows.serializerEndsRow.veiledFits xE tK.params.toList (tK.params.toList++Rows.serializerEndsSpec.plain.varTypes xE++tK.resultTypes.toList))=true:=by kernel_rfl
theorem sends_facts:joinedFacts xE 5 tK Rows.serializerEndsSpec Rows.serializerEndsRow=true:=(andT (andT (andT (andT (andT (andT (andT (andT (andT (andT (andT (andT (andT (andT (andT (andT (andT (andT (andT (andT (andT (andT (andT (andT (andT (andT (andT (andT (andT (andT (andT sends_j1 sends_j2) sends_j3) sends_j4) sends_j5) sends_j6) sends_j7) sends_j8) sends_j9) sends_j10) sends_j11) sends_j12) sends_j13) sends_j14) sends_j15) sends_j16) sends_j17) sends_j18) sends_j19) sends_j20) sends_j21) sends_j22) sends_j23) sends_j24) sends_j25) sends_j26) sends_j27) sends_j28) sends_j29) sends_j30) sends_j31) sends_j32)
end Go.Proofs.YtgdmkmfchcflpaaGreatDoor
