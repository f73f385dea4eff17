/- Part 40: no statement of the seat is proved here. -/
import Derived.Test.YtgdmkmfchcflpaaGreatDoorPe39
set_option linter.unusedVariables false
set_option linter.unusedSimpArgs false
open Go.Proofs.Tryz renaming prog->xE,f6->tO
namespace Go.Proofs.YtgdmkmfchcflpaaGreatDoor
open Go
set_option maxRecDepth 100000
theorem andT{a b:Bool}(h:a=true)(k:b=true):(a&&b)=true:=by rw[h,k];rfl
theorem sshares_j1:(Rows.serializerSharesRow.wf (OpenSpec.ofChange Rows.serializerSharesSpec))=true:=by kernel_rfl
theorem sshares_j2:(laidOutB xE)=true:=by kernel_rfl
theorem sshares_j3:(mapsRowed xE)=true:=by kernel_rfl
theorem sshares_j4:(tO.params.all (xE.readableRec ·))=true:=by kernel_rfl
theorem sshares_j5:(namedTie xE Rows.serializerSharesRow.named Rows.serializerSharesSpec.vars)=true:=by kernel_rfl
theorem sshares_j6:((Rows.serializerSharesRow.stops==[]))=true:=by kernel_rfl
theorem sshares_j7:((xE.stops==[]))=true:=by kernel_rfl
theorem sshares_j8:((Rows.serializerSharesRow.knobs==[]))=true:=by kernel_rfl
theorem sshares_j9:((xE.stopKnobs==[]))=true:=by kernel_rfl
theorem sshares_j10:((Rows.serializerSharesRow.inPlace==xE.inPlace 6))=true:=by kernel_rfl
theorem sshares_j11:((Rows.serializerSharesRow.unfollowed==xE.unfollowed 6))=true:=by kernel_rfl
theorem sshares_j12:((Rows.serializerSharesRow.recurses==xE.recurses 6))=true:=by kernel_rfl
theorem sshares_j13:((Rows.serializerSharesRow.named==xE.varsNamed 6))=true:=by kernel_rfl
theorem sshares_j14:((Rows.serializerSharesRow.maps==(tO.params.toList++Rows.serializerSharesSpec.plain.varTypes xE).any (xE.mapsRec ·)))=true:=by kernel_rfl
theorem sshares_j15:((Rows.serializerSharesRow.ifaces==(tO.params.toList++Rows.serializerSharesSpec.plain.varTypes xE).any (xE.ifacesRec ·)))=true:=by kernel_rfl
theorem sshares_j16:((Rows.serializerSharesRow.mapsOut==xE.mapsAmong tO.resultTypes.toList))=true:=by kernel_rfl
theorem sshares_j17:((Rows.serializerSharesRow.loops==(tO.params.toList++Rows.serializerSharesSpec.plain.varTypes xE).any (xE.loopsFrom ·)))=true:=by kernel_rfl
theorem sshares_j18:((Rows.serializerSharesRow.wideKeys==(tO.params.toList++Rows.serializerSharesSpec.plain.varTypes xE++tO.resultTypes.toList).any (xE.wideKeysFrom ·)))=true:=by kernel_rfl
theorem sshares_j19:(Rows.serializerSharesSpec.vars.all (xE.varReadable ·))=true:=by kernel_rfl
theorem sshares_j20:(tO.resultTypes.all (λt=>xE.readableRec t&&decide (t<xE.types.size)))=true:=by kernel_rfl
theorem sshares_j21:((Rows.serializerSharesRow.ifacesOut==tO.resultTypes.toList.any (xE.ifacesRec ·)))=true:=by kernel_rfl
theorem sshares_j22:((Rows.serializerSharesRow.loopsOut==tO.resultTypes.toList.any (xE.loopsFrom ·)))=true:=by kernel_rfl
theorem sshares_j23:((Rows.serializerSharesRow.plainKeys==xE.plainKeys))=true:=by kernel_rfl
theorem sshares_j24:(Rows.serializerSharesRow.shortTexts.isNone)=true:=by kernel_rfl
theorem sshares_j25:(xE.stopsHeard)=true:=by kernel_rfl
theorem sshares_j26:(xE.mayEnter)=true:=by kernel_rfl
theorem sshares_j27:((Rows.serializerSharesRow.lifted==xE.liftsFinal))=true:=by kernel_rfl
theorem sshares_j28:((xE.make==some Rows.serializerSharesRow.make))=true:=by kernel_rfl
theorem sshares_j29:((Rows.serializerSharesRow.kinds==(if Rows.serializerSharesRow.domain.isEmpty then[]else tO.params.toList.map λt=>match xE.underlying t with|some (.int k)=>some k|_=>none)))=true:=by kernel_rfl
theorem sshares_j30:((Rows.serializerSharesRow.pinned==Rows.serializerSharesRow.pinnedBy))=true:=by kernel_rfl
theorem sshares_j31:((Rows.serializerSharesRow.veiled==(tO.params.toList++Rows.serializerSharesSpec.plain.varTypes xE++tO.resultTypes.toList).any (xE.veiledRec ·)))=true:=by kernel_rfl
theorem sshares_j32:(Rows.serializerSharesRow.veiledFits xE tO.params.toList (tO.params.toList++Rows.serializerSharesSpec.plain.varTypes xE++tO.resultTypes.toList))=true:=by kernel_rfl
theorem PD:joinedFacts xE 6 tO Rows.serializerSharesSpec Rows.serializerSharesRow=true:=(andT (andT (andT (andT (andT (andT (andT (andT (andT (andT (andT (andT (andT (andT (andT (andT (andT (andT (andT (andT (andT (andT (andT (andT (andT (andT (andT (andT (andT (andT (andT sshares_j1 sshares_j2) sshares_j3) sshares_j4) sshares_j5) sshares_j6) sshares_j7) sshares_j8) sshares_j9) sshares_j10) sshares_j11) sshares_j12) sshares_j13) sshares_j14) sshares_j15) sshares_j16) sshares_j17) sshares_j18) sshares_j19) sshares_j20) sshares_j21) sshares_j22) sshares_j23) sshares_j24) sshares_j25) sshares_j26) sshares_j27) sshares_j28) sshares_j29) sshares_j30) sshares_j31) sshares_j32)
end Go.Proofs.YtgdmkmfchcflpaaGreatDoor
