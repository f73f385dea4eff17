/- Proved here: the card of ExternalRuns, as it is given, with no condition beyond those of the statement itself. -/
import Derived.Test.YtmeagdecjpknkaaGreatDoorPr23
set_option linter.unusedVariables false
set_option linter.unusedSimpArgs false
open Option.some renaming inj->vP
open Go.Proofs.Tryz renaming prog->xD
namespace Go.Proofs.YtmeagdecjpknkaaGreatDoor
open Go Go.Sx Go.Proofs Go.ChangeShapes Go.WideShapes Go.ChangeAt Go.RowKit Go.ChangeMaps
theorem xruns_card:Rows.ExternalRunsCardSaid:=
 Claim7.holds_tied_plain_at .later [] [.listed,.data] true (true, "99e446f510d6d5fdedf0a2dd7c0fcbc4cb61f4f1aa15e0f86652079d8e99abc7") true
  xruns_holds (λ_ h=>by cases h) (by as_aux_lemma=>kernel_rfl) (λ_ h=>by cases h) externalRuns_row_tie rfl ⟨rfl,rfl⟩ (by as_aux_lemma=>kernel_rfl) rfl
  (λf fn g k=>by
   obtain rfl:f=4:=vP ((show xD.funcNamed Rows.externalRunsRow.func=some 4 by kernel_rfl).symm.trans g)|>.symm;obtain rfl:fn=Tryz.f4:=(vP (Tryz.func4.symm.trans k)).symm;exact⟨by as_aux_lemma=>kernel_rfl,λj t u=>by
    have hm:t∈Tryz.f4.params.toList:=by
     rw[Array.mem_toList_iff];exact Array.mem_of_getElem? (by simpa using u)
    rw[Tryz.params4]at hm;simp only[List.mem_cons,List.not_mem_nil,or_false]at hm;rcases hm with rfl|rfl|rfl|rfl|rfl|rfl|rfl;·exact(show xD.wantsStandIn 30=false by as_aux_lemma=>kernel_rfl)
    ·exact(show xD.wantsStandIn 34=false by as_aux_lemma=>kernel_rfl)
    ·exact(show xD.wantsStandIn 31=false by as_aux_lemma=>kernel_rfl)
    ·exact(show xD.wantsStandIn 3=false by as_aux_lemma=>kernel_rfl)
    ·exact(show xD.wantsStandIn 3=false by as_aux_lemma=>kernel_rfl)
    ·exact(show xD.wantsStandIn 49=false by as_aux_lemma=>kernel_rfl)
    ·exact(show xD.wantsStandIn 3=false by as_aux_lemma=>kernel_rfl)⟩)
  (by as_aux_lemma=>kernel_rfl)
end Go.Proofs.YtmeagdecjpknkaaGreatDoor
