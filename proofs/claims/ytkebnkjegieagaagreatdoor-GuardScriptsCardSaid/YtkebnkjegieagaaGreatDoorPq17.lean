/- Part 17: no statement of the seat is proved here. -/
import Derived.Test.YtkebnkjegieagaaGreatDoorPq16
set_option linter.unusedVariables false
set_option linter.unusedSimpArgs false
open Go.Proofs.Tryz renaming prog->xV,f4->tO
namespace Go.Proofs.YtkebnkjegieagaaGreatDoor
open Go
set_option maxRecDepth 100000
theorem andT{a b:Bool}(h:a=true)(k:b=true):(a&&b)=true:=by rw[h,k];rfl
theorem gscr_j1:(Rows.guardScriptsRow.wf (OpenSpec.ofChange Rows.guardScriptsSpec))=true:=by kernel_rfl
theorem gscr_j2:(laidOutB xV)=true:=by kernel_rfl
theorem gscr_j3:(mapsRowed xV)=true:=by kernel_rfl
theorem gscr_j4:(tO.params.all (xV.readableRec ·))=true:=by kernel_rfl
theorem gscr_j5:(namedTie xV Rows.guardScriptsRow.named Rows.guardScriptsSpec.vars)=true:=by kernel_rfl
theorem gscr_j6:((Rows.guardScriptsRow.stops==[]))=true:=by kernel_rfl
theorem gscr_j7:((xV.stops==[]))=true:=by kernel_rfl
theorem gscr_j8:((Rows.guardScriptsRow.knobs==[]))=true:=by kernel_rfl
theorem gscr_j9:((xV.stopKnobs==[]))=true:=by kernel_rfl
theorem gscr_j10:((Rows.guardScriptsRow.inPlace==xV.inPlace 4))=true:=by kernel_rfl
theorem gscr_j11:((Rows.guardScriptsRow.unfollowed==xV.unfollowed 4))=true:=by kernel_rfl
theorem gscr_j12:((Rows.guardScriptsRow.recurses==xV.recurses 4))=true:=by kernel_rfl
theorem gscr_j13:((Rows.guardScriptsRow.named==xV.varsNamed 4))=true:=by kernel_rfl
theorem gscr_j14:((Rows.guardScriptsRow.maps==(tO.params.toList++Rows.guardScriptsSpec.plain.varTypes xV).any (xV.mapsRec ·)))=true:=by kernel_rfl
theorem gscr_j15:((Rows.guardScriptsRow.ifaces==(tO.params.toList++Rows.guardScriptsSpec.plain.varTypes xV).any (xV.ifacesRec ·)))=true:=by kernel_rfl
theorem gscr_j16:((Rows.guardScriptsRow.mapsOut==xV.mapsAmong tO.resultTypes.toList))=true:=by kernel_rfl
theorem gscr_j17:((Rows.guardScriptsRow.loops==(tO.params.toList++Rows.guardScriptsSpec.plain.varTypes xV).any (xV.loopsFrom ·)))=true:=by kernel_rfl
theorem gscr_j18:((Rows.guardScriptsRow.wideKeys==(tO.params.toList++Rows.guardScriptsSpec.plain.varTypes xV++tO.resultTypes.toList).any (xV.wideKeysFrom ·)))=true:=by kernel_rfl
theorem gscr_j19:(Rows.guardScriptsSpec.vars.all (xV.varReadable ·))=true:=by kernel_rfl
theorem gscr_j20:(tO.resultTypes.all (λt=>xV.readableRec t&&decide (t<xV.types.size)))=true:=by kernel_rfl
theorem gscr_j21:((Rows.guardScriptsRow.ifacesOut==tO.resultTypes.toList.any (xV.ifacesRec ·)))=true:=by kernel_rfl
theorem gscr_j22:((Rows.guardScriptsRow.loopsOut==tO.resultTypes.toList.any (xV.loopsFrom ·)))=true:=by kernel_rfl
theorem gscr_j23:((Rows.guardScriptsRow.plainKeys==xV.plainKeys))=true:=by kernel_rfl
theorem gscr_j24:(Rows.guardScriptsRow.shortTexts.isNone)=true:=by kernel_rfl
theorem gscr_j25:(xV.stopsHeard)=true:=by kernel_rfl
theorem gscr_j26:(xV.mayEnter)=true:=by kernel_rfl
theorem gscr_j27:((Rows.guardScriptsRow.lifted==xV.liftsFinal))=true:=by kernel_rfl
theorem gscr_j28:((xV.make==some Rows.guardScriptsRow.make))=true:=by kernel_rfl
theorem gscr_j29:((Rows.guardScriptsRow.kinds==(if Rows.guardScriptsRow.domain.isEmpty then[]else tO.params.toList.map λt=>match xV.underlying t with|some (.int k)=>some k|_=>none)))=true:=by kernel_rfl
theorem gscr_j30:((Rows.guardScriptsRow.pinned==Rows.guardScriptsRow.pinnedBy))=true:=by kernel_rfl
theorem gscr_j31:((Rows.guardScriptsRow.veiled==(tO.params.toList++Rows.guardScriptsSpec.plain.varTypes xV++tO.resultTypes.toList).any (xV.veiledRec ·)))=true:=by kernel_rfl
theorem gscr_j32:(Rows.guardScriptsRow.veiledFits xV tO.params.toList (tO.params.toList++Rows.guardScriptsSpec.plain.varTypes xV++tO.resultTypes.toList))=true:=by kernel_rfl
theorem gscr_facts:joinedFacts xV 4 tO Rows.guardScriptsSpec Rows.guardScriptsRow=true:=(andT (andT (andT (andT (andT (andT (andT (andT (andT (andT (andT (andT (andT (andT (andT (andT (andT (andT (andT (andT (andT (andT (andT (andT (andT (andT (andT (andT (andT (andT (andT gscr_j1 gscr_j2) gscr_j3) gscr_j4) gscr_j5) gscr_j6) gscr_j7) gscr_j8) gscr_j9) gscr_j10) gscr_j11) gscr_j12) gscr_j13) gscr_j14) gscr_j15) gscr_j16) gscr_j17) gscr_j18) gscr_j19) gscr_j20) gscr_j21) gscr_j22) gscr_j23) gscr_j24) gscr_j25) gscr_j26) gscr_j27) gscr_j28) gscr_j29) gscr_j30) gscr_j31) gscr_j32)
end Go.Proofs.YtkebnkjegieagaaGreatDoor
