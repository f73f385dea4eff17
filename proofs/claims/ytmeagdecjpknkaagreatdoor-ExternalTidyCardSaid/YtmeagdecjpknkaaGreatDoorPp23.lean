/- Proved here: the card of ExternalTidy, as it is given, with no condition beyond those of the statement itself. -/
import Derived.Test.YtmeagdecjpknkaaGreatDoorPp17
import Derived.Test.YtmeagdecjpknkaaGreatDoorPp21
import Derived.Test.YtmeagdecjpknkaaGreatDoorPp22
import Derived.ChangeMaps5
import Derived.Test.YtmeagdecjpknkaaGreatDoorCards
import Derived.Test.YtmeagdecjpknkaaGreatDoorTie
set_option linter.unusedVariables false
set_option linter.unusedSimpArgs false
namespace Go.Proofs.YtmeagdecjpknkaaGreatDoor
open Go Go.Sx Go.Proofs Go.ChangeShapes Go.WideShapes Go.ChangeAt Go.RowKit Go.ChangeMaps
set_option maxRecDepth 100000 in
theorem xtidy_lifted(os:Os)(started:os.Started)(H:Type)(enc:TypeId×Value->H) :
  ReturnsInHanded {} Tryz.checked os 7 .any (fun w args=>(Rows.externalTidySpec.pre enc Tryz.prog Tryz.f7 [] false w args/\laidMetH Tryz.prog laid0 w)/\sizedMet enc Tryz.prog Tryz.f7 (OpenSpec.ofChange Rows.externalTidySpec) false w args)
   (Rows.externalTidySpec.post enc Tryz.prog Tryz.f7 false true false false):=by
 refine returnsInHanded_of_change_and (C:=Tryz.checked) (X:=fun w _=>laidMetH Tryz.prog laid0 w) (fun _ _ _ hh h=>h.of_heap hh) Tryz.own started (by kernel_rfl) Tryz.func7
  (wit (C:=Tryz.checked) (os:=os) (enc:=enc) (X:=fun w _=>laidMetH Tryz.prog laid0 w) (laidWorld os) #[.agg #[.string ByteArray.empty,.slice none 0 0,.slice none 0 0,.slice none 0 0,.slice none 0 0,.slice none 0 0,.slice none 0 0,.slice none 0 0],.slice none 0 0,.int .i64 0,.int .i64 0,.int .i64 0] 8 rfl (by kernel_rfl) (by kernel_rfl) (by kernel_rfl) (by kernel_rfl) (by kernel_rfl) (qHy.2 (qLg os _))) ?_
 intro W base args ds gs before hval0 hW _ _ hL _
 have hW':=hW
 obtain⟨p,q,hA0,hV0,rfl,hfz,hnd⟩:=hW
 have hA:DataW.TrodAll enc Tryz.prog W 0 (fun _=>true) true Tryz.f7.params.toList args.toList ds p:=hA0
 have hV:DataW.TrodVars enc Tryz.prog W (fun _=>true) [] gs q:=hV0
 rw[Tryz.params7]at hA
 have hA':=hA
 obtain⟨v0,v1,v2,v3,v4,d0,d1,d2,d3,d4,p0,p1,p2,p3,p4,rfl,rfl,rfl,h0,h1,h2,h3,h4⟩:=trodAll_five hA
 obtain⟨rfl,rfl⟩:gs=[]/\q=[]:=by
  cases gs with
  | nil=>exact⟨rfl,hV⟩
  | cons g r=>exact absurd hV (by intro h;cases h)
 obtain⟨x0,rfl,k0⟩:=desc_of h0
 obtain⟨x1,y1,rfl,k1⟩:=cls_of (hval0 1 71 v1 (by kernel_rfl) rfl) h1
 obtain⟨x2,rfl,-,-,k2⟩:=open_int Tryz.underlying3 (hval0 2 3 v2 (by kernel_rfl) rfl) h2
 obtain⟨x3,rfl,-,-,k3⟩:=open_int Tryz.underlying3 (hval0 3 3 v3 (by kernel_rfl) rfl) h3
 obtain⟨x4,rfl,-,-,k4⟩:=open_int Tryz.underlying3 (hval0 4 3 v4 (by kernel_rfl) rfl) h4
 haveI:=tab_laid (qHy.1 hL)
 have hlt:=hW'.lt
 rw[List.append_nil]at hlt
 refine(qCS (same_old (c7 k0 k1)) ?_:Calls Tryz.prog _ #[x0.v,x1.v,.int .i64 x2,.int .i64 x3,.int .i64 x4] W _)
 rintro e W' ⟨rfl,h1,h2,h3,hold⟩
 refine⟨_,rfl,_,_,_,[],p0++(p1++(p2++(p3++p4))),[],hW',?_,?_,rfl,kept h1 h2 hold _,fun h=>by cases h⟩
 ·exact trodAll_mk1 (shut_bool Tryz.underlying4 true)
 ·exact again_all hold (ts:=[30,71,3,3,3]) (by
   intro t ht
   simp only[List.mem_cons,List.not_mem_nil,or_false]at ht
   rcases ht with rfl|rfl|rfl|rfl|rfl
   ·exact⟨by kernel_rfl,of_decide_eq_true (by kernel_rfl)⟩
   ·exact⟨by kernel_rfl,of_decide_eq_true (by kernel_rfl)⟩
   ·exact⟨by kernel_rfl,of_decide_eq_true (by kernel_rfl)⟩
   ·exact⟨by kernel_rfl,of_decide_eq_true (by kernel_rfl)⟩
   ·exact⟨by kernel_rfl,of_decide_eq_true (by kernel_rfl)⟩) hA' hlt
theorem xtidy_holds:Rows.ExternalTidySaid :=
 OpenClaim.holds_of_wide 7 Tryz.f7 rfl rfl rfl rfl rfl rfl rfl ⟨rfl,rfl,rfl,rfl,rfl⟩ rfl rfl rfl rfl rfl (by kernel_rfl) Tryz.func7 xtidy_facts
  (of_decide_eq_true (by kernel_rfl)) (by unfold Func.isWrapper;first | (rw[if_pos (by decide +kernel)];kernel_rfl) | (rw[if_neg (by decide +kernel)];exact⟨rfl,rfl⟩))
  (fun os started H enc _=>xtidy_lifted os started H enc)
theorem xtidy_card:Rows.ExternalTidyCardSaid :=
 Claim7.holds_tied_plain_at .later [] [.listed,.data] true (true, "99e446f510d6d5fdedf0a2dd7c0fcbc4cb61f4f1aa15e0f86652079d8e99abc7") true
  xtidy_holds (fun _ h=>by cases h) (by as_aux_lemma=>kernel_rfl) (fun _ h=>by cases h) externalTidy_row_tie rfl ⟨rfl,rfl⟩ (by as_aux_lemma=>kernel_rfl) rfl
  (fun f fn hf hfn=>by
   obtain rfl:f=7:=Option.some.inj ((show Tryz.prog.funcNamed Rows.externalTidyRow.func=some 7 by kernel_rfl).symm.trans hf) |>.symm
   obtain rfl:fn=Tryz.f7:=(Option.some.inj (Tryz.func7.symm.trans hfn)).symm
   exact⟨by as_aux_lemma=>kernel_rfl,fun j t ht=>by
    have hm:t∈Tryz.f7.params.toList:=by
     rw[Array.mem_toList_iff];exact Array.mem_of_getElem? (by simpa using ht)
    rw[Tryz.params7]at hm
    simp only[List.mem_cons,List.not_mem_nil,or_false]at hm
    rcases hm with rfl|rfl|rfl|rfl|rfl
    ·exact(show Tryz.prog.wantsStandIn 30=false by as_aux_lemma=>kernel_rfl)
    ·exact(show Tryz.prog.wantsStandIn 71=false by as_aux_lemma=>kernel_rfl)
    ·exact(show Tryz.prog.wantsStandIn 3=false by as_aux_lemma=>kernel_rfl)
    ·exact(show Tryz.prog.wantsStandIn 3=false by as_aux_lemma=>kernel_rfl)
    ·exact(show Tryz.prog.wantsStandIn 3=false by as_aux_lemma=>kernel_rfl)⟩)
  (by as_aux_lemma=>kernel_rfl)
end Go.Proofs.YtmeagdecjpknkaaGreatDoor
