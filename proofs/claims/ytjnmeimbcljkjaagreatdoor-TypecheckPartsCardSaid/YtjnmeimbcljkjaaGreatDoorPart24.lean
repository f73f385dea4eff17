/- Proved here: the card of TypecheckParts, as it is given, with no condition beyond those of the statement itself. -/
import Derived.Test.YtjnmeimbcljkjaaGreatDoorPart22
import Derived.Test.YtjnmeimbcljkjaaGreatDoorPart21
import Derived.ChangeMaps5
import Derived.Test.YtjnmeimbcljkjaaGreatDoorPart23
import Derived.Test.YtjnmeimbcljkjaaGreatDoorCards
import Derived.Test.YtjnmeimbcljkjaaGreatDoorTie
set_option linter.unusedVariables false
set_option linter.unusedSimpArgs false
namespace Go.Proofs.YtjnmeimbcljkjaaGreatDoor
open Go Go.Sx Go.Proofs Go.ChangeShapes Go.WideShapes Go.ChangeAt Go.RowKit Go.ChangeMaps
set_option maxRecDepth 100000 in
theorem parts_lifted (os : Os) (started : os.Started) (H : Type) (enc : TypeId × Value → H) :
    ReturnsInHanded {} Tryz.checked os 8 .any (fun w args => (Rows.typecheckPartsSpec.pre enc Tryz.prog Tryz.f8 [] false w args ∧ laidMetH Tryz.prog laid0 w) ∧ sizedMet enc Tryz.prog Tryz.f8 (OpenSpec.ofChange Rows.typecheckPartsSpec) false w args)
      (Rows.typecheckPartsSpec.post enc Tryz.prog Tryz.f8 false true false false) := by
  refine returnsInHanded_of_change_and (C := Tryz.checked) (X := fun w _ => laidMetH Tryz.prog laid0 w) (fun _ _ _ hh h => h.of_heap hh) Tryz.own started (by kernel_rfl) Tryz.func8
    (wit (C := Tryz.checked) (os := os) (enc := enc) (X := fun w _ => laidMetH Tryz.prog laid0 w) (laidWorld os) #[.agg #[.string ByteArray.empty, .slice none 0 0, .slice none 0 0, .slice none 0 0, .slice none 0 0, .slice none 0 0, .slice none 0 0, .slice none 0 0], .string ByteArray.empty, .string ByteArray.empty, .agg #[.int .i64 0, .int .i64 0, .string ByteArray.empty, .slice none 0 0], .int .u8 0] 8 rfl (by kernel_rfl) (by kernel_rfl) (by kernel_rfl) (by kernel_rfl) (by kernel_rfl) (laidMetH_iff.2 (laidWorld_met os _))) ?_
  intro W base args ds gs before hval0 hW _ _ hL _
  have hW' := hW
  obtain ⟨p, q, hA0, hV0, rfl, hfz, hnd⟩ := hW
  have hA : DataW.TrodAll enc Tryz.prog W 0 (fun _ => true) true Tryz.f8.params.toList args.toList ds p := hA0
  have hV : DataW.TrodVars enc Tryz.prog W (fun _ => true) [] gs q := hV0
  rw [Tryz.params8] at hA
  have hA' := hA
  obtain ⟨v0, v1, v2, v3, v4, d0, d1, d2, d3, d4, p0, p1, p2, p3, p4, rfl, rfl, rfl, h0, h1, h2, h3, h4⟩ := trodAll_five hA
  obtain ⟨rfl, rfl⟩ : gs = [] ∧ q = [] := by
    cases gs with
    | nil => exact ⟨rfl, hV⟩
    | cons g r => exact absurd hV (by intro h; cases h)
  obtain ⟨x0, rfl, k0⟩ := desc_of h0
  obtain ⟨x1, rfl, -⟩ := open_string Tryz.underlying9 (hval0 1 9 v1 (by kernel_rfl) rfl) h1
  obtain ⟨x2, rfl, -⟩ := open_string Tryz.underlying9 (hval0 2 9 v2 (by kernel_rfl) rfl) h2
  obtain ⟨x3, rfl, k3⟩ := expr_of h3
  obtain ⟨x4, rfl, -, -, k4⟩ := open_int Tryz.underlying5 (hval0 4 5 v4 (by kernel_rfl) rfl) h4
  haveI := tab_laid (laidMetH_iff.1 hL)
  have hlt := hW'.lt
  rw [List.append_nil] at hlt
  refine (calls_mono (same_old (cParts k0 k3 (u8R k4))) ?_ : Calls Tryz.prog _ #[x0.v, .string x1, .string x2, x3.v, .int .u8 x4] W _)
  rintro e W' ⟨rfl, h1, h2, h3, hold⟩
  refine ⟨_, rfl, _, _, _, [], p0 ++ (p1 ++ (p2 ++ (p3 ++ p4))), [], hW', ?_, ?_, rfl, kept h1 h2 hold _, fun h => by cases h⟩
  · exact trodAll_mk1 (shut_bool Tryz.underlying4 true)
  · exact again_all hold (ts := [30, 9, 9, 40, 5]) (by
      intro t ht
      simp only [List.mem_cons, List.not_mem_nil, or_false] at ht
      rcases ht with rfl | rfl | rfl | rfl | rfl
      · exact ⟨by kernel_rfl, of_decide_eq_true (by kernel_rfl)⟩
      · exact ⟨by kernel_rfl, of_decide_eq_true (by kernel_rfl)⟩
      · exact ⟨by kernel_rfl, of_decide_eq_true (by kernel_rfl)⟩
      · exact ⟨by kernel_rfl, of_decide_eq_true (by kernel_rfl)⟩
      · exact ⟨by kernel_rfl, of_decide_eq_true (by kernel_rfl)⟩) hA' hlt
theorem parts_holds : Rows.TypecheckPartsSaid :=
  OpenClaim.holds_of_wide 8 Tryz.f8 rfl rfl rfl rfl rfl rfl rfl ⟨rfl, rfl, rfl, rfl, rfl⟩ rfl rfl rfl rfl rfl (by kernel_rfl) Tryz.func8 (by kernel_rfl)
    (of_decide_eq_true (by kernel_rfl)) (by unfold Func.isWrapper; first | (rw [if_pos (by decide +kernel)]; kernel_rfl) | (rw [if_neg (by decide +kernel)]; exact ⟨rfl, rfl⟩))
    (fun os started H enc _ => parts_lifted os started H enc)
theorem parts_card : Rows.TypecheckPartsCardSaid :=
  Claim7.holds_tied_plain_at .later [] [.listed, .data] true (true, "9d1f30e800623809e43fe6bcff0b0c9c520e8f6b7a3ee806e5d4159c35b5c072") false
    parts_holds (fun _ h => by cases h) (by kernel_rfl) (fun _ h => by cases h) typecheckParts_row_tie rfl ⟨rfl, rfl⟩ (by kernel_rfl) rfl
    (fun f fn hf hfn => by
      obtain rfl : f = 8 := Option.some.inj ((show Tryz.prog.funcNamed Rows.typecheckPartsRow.func = some 8 by kernel_rfl).symm.trans hf) |>.symm
      obtain rfl : fn = Tryz.f8 := (Option.some.inj (Tryz.func8.symm.trans hfn)).symm
      exact ⟨by kernel_rfl, fun j t ht => by
        have hm : t ∈ Tryz.f8.params.toList := by
          rw [Array.mem_toList_iff]; exact Array.mem_of_getElem? (by simpa using ht)
        rw [Tryz.params8] at hm
        simp only [List.mem_cons, List.not_mem_nil, or_false] at hm
        rcases hm with rfl | rfl | rfl | rfl | rfl
        · exact (show Tryz.prog.wantsStandIn 30 = false by kernel_rfl)
        · exact (show Tryz.prog.wantsStandIn 9 = false by kernel_rfl)
        · exact (show Tryz.prog.wantsStandIn 9 = false by kernel_rfl)
        · exact (show Tryz.prog.wantsStandIn 40 = false by kernel_rfl)
        · exact (show Tryz.prog.wantsStandIn 5 = false by kernel_rfl)⟩)
    (by kernel_rfl)
end Go.Proofs.YtjnmeimbcljkjaaGreatDoor
