/- Proved here: the card of RollbackFollows, as it is given, with no condition beyond those of the statement itself. -/
import Derived.Test.YtginfholjbbgeaaGreatDoorPart16
import Derived.Test.YtginfholjbbgeaaGreatDoorPart20
import Derived.Test.YtginfholjbbgeaaGreatDoorPart21
import Derived.ChangeMaps5
import Derived.Test.YtginfholjbbgeaaGreatDoorCards
import Derived.Test.YtginfholjbbgeaaGreatDoorTie
set_option linter.unusedVariables false
set_option linter.unusedSimpArgs false
namespace Go.Proofs.YtginfholjbbgeaaGreatDoor
open Go Go.Sx Go.Proofs Go.ChangeShapes Go.WideShapes Go.ChangeAt Go.RowKit Go.ChangeMaps
set_option maxRecDepth 100000 in
theorem rfollows_lifted(os:Os)(started:os.Started)(H:Type)(enc:TypeId×Value->H) :
  ReturnsInHanded {} Tryz.checked os 3 .any (fun w args=>(Rows.rollbackFollowsSpec.pre enc Tryz.prog Tryz.f3 [] false w args/\laidMetH Tryz.prog laid0 w)/\sizedMet enc Tryz.prog Tryz.f3 (OpenSpec.ofChange Rows.rollbackFollowsSpec) false w args)
   (Rows.rollbackFollowsSpec.post enc Tryz.prog Tryz.f3 false true false false):=by
 refine returnsInHanded_of_change_and (C:=Tryz.checked) (X:=fun w _=>laidMetH Tryz.prog laid0 w) (fun _ _ _ hh h=>h.of_heap hh) Tryz.own started (by kernel_rfl) Tryz.func3
  (wit (C:=Tryz.checked) (os:=os) (enc:=enc) (X:=fun w _=>laidMetH Tryz.prog laid0 w) (laidWorld os) #[.agg #[.string ByteArray.empty,.slice none 0 0,.slice none 0 0,.slice none 0 0,.slice none 0 0,.slice none 0 0,.slice none 0 0,.slice none 0 0],.agg #[.slice none 0 0,.slice none 0 0],.slice none 0 0] 8 rfl (by kernel_rfl) (by kernel_rfl) (by kernel_rfl) (by kernel_rfl) (by kernel_rfl) (qHb.2 (qKm os _))) ?_
 intro W base args ds gs before hval0 hW _ _ hL _
 have hW':=hW
 obtain⟨p,q,hA0,hV0,rfl,hfz,hnd⟩:=hW
 have hA:DataW.TrodAll enc Tryz.prog W 0 (fun _=>true) true Tryz.f3.params.toList args.toList ds p:=hA0
 have hV:DataW.TrodVars enc Tryz.prog W (fun _=>true) [] gs q:=hV0
 rw[Tryz.params3]at hA
 have hA':=hA
 obtain⟨v0,v1,v2,d0,d1,d2,p0,p1,p2,rfl,rfl,rfl,h0,h1,h2⟩:=trodAll_three hA
 obtain⟨rfl,rfl⟩:gs=[]/\q=[]:=by
  cases gs with
  | nil=>exact⟨rfl,hV⟩
  | cons g r=>exact absurd hV (by intro h;cases h)
 obtain⟨x0,rfl,k0⟩:=desc_of h0
 obtain⟨x1,rfl,k1⟩:=mem_of h1
 obtain⟨x2,y2,rfl,k2,kk2⟩:=stps_of (hval0 2 35 v2 (by kernel_rfl) rfl) h2
 haveI:=tab_laid (qHb.1 hL)
 have hlt:=hW'.lt
 rw[List.append_nil]at hlt
 refine(qCO (same_old (c3 k0 k1 k2 kk2)) ?_:Calls Tryz.prog _ #[x0.v,x1.v,x2.v] W _)
 rintro e W' ⟨rfl,h1,h2,h3,hold⟩
 refine⟨_,rfl,_,_,_,[],p0++p1++p2,[],hW',?_,?_,rfl,kept h1 h2 hold _,fun h=>by cases h⟩
 ·exact trodAll_mk1 (shut_bool Tryz.underlying4 true)
 ·exact again_all hold (ts:=[30,34,35]) (by
   intro t ht
   simp only[List.mem_cons,List.not_mem_nil,or_false]at ht
   rcases ht with rfl|rfl|rfl
   ·exact⟨by kernel_rfl,of_decide_eq_true (by kernel_rfl)⟩
   ·exact⟨by kernel_rfl,of_decide_eq_true (by kernel_rfl)⟩
   ·exact⟨by kernel_rfl,of_decide_eq_true (by kernel_rfl)⟩) hA' hlt
theorem rfollows_holds:Rows.RollbackFollowsSaid :=
 OpenClaim.holds_of_wide 3 Tryz.f3 rfl rfl rfl rfl rfl rfl rfl ⟨rfl,rfl,rfl,rfl,rfl⟩ rfl rfl rfl rfl rfl (by kernel_rfl) Tryz.func3 qIR
  (of_decide_eq_true (by kernel_rfl)) (by unfold Func.isWrapper;first | (rw[if_pos (by decide +kernel)];kernel_rfl) | (rw[if_neg (by decide +kernel)];exact⟨rfl,rfl⟩))
  (fun os started H enc _=>rfollows_lifted os started H enc)
theorem rfollows_card:Rows.RollbackFollowsCardSaid :=
 Claim7.holds_tied_plain_at .later [] [.listed,.data] true (true, "8a34b34c9555a74b4ad7b6e16f2445f87ac74f55192dd3ae28995b84c1f8d283") true
  rfollows_holds (fun _ h=>by cases h) (by kernel_rfl) (fun _ h=>by cases h) rollbackFollows_row_tie rfl ⟨rfl,rfl⟩ (by kernel_rfl) rfl
  (fun f fn hf hfn=>by
   obtain rfl:f=3:=Option.some.inj ((show Tryz.prog.funcNamed Rows.rollbackFollowsRow.func=some 3 by kernel_rfl).symm.trans hf) |>.symm
   obtain rfl:fn=Tryz.f3:=(Option.some.inj (Tryz.func3.symm.trans hfn)).symm
   exact⟨by kernel_rfl,fun j t ht=>by
    have hm:t∈Tryz.f3.params.toList:=by
     rw[Array.mem_toList_iff];exact Array.mem_of_getElem? (by simpa using ht)
    rw[Tryz.params3]at hm
    simp only[List.mem_cons,List.not_mem_nil,or_false]at hm
    rcases hm with rfl|rfl|rfl
    ·exact(show Tryz.prog.wantsStandIn 30=false by kernel_rfl)
    ·exact(show Tryz.prog.wantsStandIn 34=false by kernel_rfl)
    ·exact(show Tryz.prog.wantsStandIn 35=false by kernel_rfl)⟩)
  (by kernel_rfl)
end Go.Proofs.YtginfholjbbgeaaGreatDoor
