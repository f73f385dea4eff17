/- Part 24: no statement of the seat is proved here. -/
import Derived.Test.YtmeagdecjpknkaaGreatDoorPs17
set_option linter.unusedVariables false
set_option linter.unusedSimpArgs false
open Go.Proofs.Tryz renaming prog->xE,f6->uj
namespace Go.Proofs.YtmeagdecjpknkaaGreatDoor
open Go
set_option maxRecDepth 100000
theorem qGu{a b:Bool}(h:a=true)(k:b=true):(a&&b)=true:=by rw[h,k];rfl
theorem xscripts_j1:(Rows.externalScriptsRow.wf (OpenSpec.ofChange Rows.externalScriptsSpec))=true:=by kernel_rfl
theorem xscripts_j2:(laidOutB xE)=true:=by kernel_rfl
theorem xscripts_j3:(mapsRowed xE)=true:=by kernel_rfl
theorem xscripts_j4:(uj.params.all (xE.readableRec ·))=true:=by kernel_rfl
theorem xscripts_j5:(namedTie xE Rows.externalScriptsRow.named Rows.externalScriptsSpec.vars)=true:=by kernel_rfl
theorem xscripts_j6:((Rows.externalScriptsRow.stops==[]))=true:=by kernel_rfl
theorem xscripts_j7:((xE.stops==[]))=true:=by kernel_rfl
theorem xscripts_j8:((Rows.externalScriptsRow.knobs==[]))=true:=by kernel_rfl
theorem xscripts_j9:((xE.stopKnobs==[]))=true:=by kernel_rfl
theorem xscripts_j10:((Rows.externalScriptsRow.inPlace==xE.inPlace 6))=true:=by kernel_rfl
theorem xscripts_j11:((Rows.externalScriptsRow.unfollowed==xE.unfollowed 6))=true:=by kernel_rfl
theorem xscripts_j12:((Rows.externalScriptsRow.recurses==xE.recurses 6))=true:=by kernel_rfl
theorem xscripts_j13:((Rows.externalScriptsRow.named==xE.varsNamed 6))=true:=by kernel_rfl
theorem xscripts_j14:((Rows.externalScriptsRow.maps==(uj.params.toList++Rows.externalScriptsSpec.plain.varTypes xE).any (xE.mapsRec ·)))=true:=by kernel_rfl
theorem xscripts_j15:((Rows.externalScriptsRow.ifaces==(uj.params.toList++Rows.externalScriptsSpec.plain.varTypes xE).any (xE.ifacesRec ·)))=true:=by kernel_rfl
theorem xscripts_j16:((Rows.externalScriptsRow.mapsOut==xE.mapsAmong uj.resultTypes.toList))=true:=by kernel_rfl
theorem xscripts_j17:((Rows.externalScriptsRow.loops==(uj.params.toList++Rows.externalScriptsSpec.plain.varTypes xE).any (xE.loopsFrom ·)))=true:=by kernel_rfl
theorem xscripts_j18:((Rows.externalScriptsRow.wideKeys==(uj.params.toList++Rows.externalScriptsSpec.plain.varTypes xE++uj.resultTypes.toList).any (xE.wideKeysFrom ·)))=true:=by kernel_rfl
theorem xscripts_j19:(Rows.externalScriptsSpec.vars.all (xE.varReadable ·))=true:=by kernel_rfl
theorem xscripts_j20:(uj.resultTypes.all (λt=>xE.readableRec t&&decide (t<xE.types.size)))=true:=by kernel_rfl
theorem xscripts_j21:((Rows.externalScriptsRow.ifacesOut==uj.resultTypes.toList.any (xE.ifacesRec ·)))=true:=by kernel_rfl
theorem xscripts_j22:((Rows.externalScriptsRow.loopsOut==uj.resultTypes.toList.any (xE.loopsFrom ·)))=true:=by kernel_rfl
theorem xscripts_j23:((Rows.externalScriptsRow.plainKeys==xE.plainKeys))=true:=by kernel_rfl
theorem xscripts_j24:(Rows.externalScriptsRow.shortTexts.isNone)=true:=by kernel_rfl
theorem xscripts_j25:(xE.stopsHeard)=true:=by kernel_rfl
theorem xscripts_j26:(xE.mayEnter)=true:=by kernel_rfl
theorem xscripts_j27:((Rows.externalScriptsRow.lifted==xE.liftsFinal))=true:=by kernel_rfl
theorem xscripts_j28:((xE.make==some Rows.externalScriptsRow.make))=true:=by kernel_rfl
theorem xscripts_j29:((Rows.externalScriptsRow.kinds==(if Rows.externalScriptsRow.domain.isEmpty then[]else uj.params.toList.map λt=>match xE.underlying t with|some (.int k)=>some k|_=>none)))=true:=by kernel_rfl
theorem xscripts_j30:((Rows.externalScriptsRow.pinned==Rows.externalScriptsRow.pinnedBy))=true:=by kernel_rfl
theorem xscripts_j31:((Rows.externalScriptsRow.veiled==(uj.params.toList++Rows.externalScriptsSpec.plain.varTypes xE++uj.resultTypes.toList).any (xE.veiledRec ·)))=true:=by kernel_rfl
theorem xscripts_j32:(Rows.externalScriptsRow.veiledFits xE uj.params.toList (uj.params.toList++Rows.externalScriptsSpec.plain.varTypes xE++uj.resultTypes.toList))=true:=by kernel_rfl
theorem qKh:joinedFacts xE 6 uj Rows.externalScriptsSpec Rows.externalScriptsRow=true:=(qGu (qGu (qGu (qGu (qGu (qGu (qGu (qGu (qGu (qGu (qGu (qGu (qGu (qGu (qGu (qGu (qGu (qGu (qGu (qGu (qGu (qGu (qGu (qGu (qGu (qGu (qGu (qGu (qGu (qGu (qGu xscripts_j1 xscripts_j2) xscripts_j3) xscripts_j4) xscripts_j5) xscripts_j6) xscripts_j7) xscripts_j8) xscripts_j9) xscripts_j10) xscripts_j11) xscripts_j12) xscripts_j13) xscripts_j14) xscripts_j15) xscripts_j16) xscripts_j17) xscripts_j18) xscripts_j19) xscripts_j20) xscripts_j21) xscripts_j22) xscripts_j23) xscripts_j24) xscripts_j25) xscripts_j26) xscripts_j27) xscripts_j28) xscripts_j29) xscripts_j30) xscripts_j31) xscripts_j32)
end Go.Proofs.YtmeagdecjpknkaaGreatDoor
