/- Proved here: the card of InvariantLists, as it is given, with no condition beyond those of the statement itself. -/
import Derived.Test.YtnoompnjibfbfaaGreatDoorPart18
import Derived.ChangeMaps5
import Derived.Test.YtnoompnjibfbfaaGreatDoorPart17
import Derived.Test.YtnoompnjibfbfaaGreatDoorCards
import Derived.Test.YtnoompnjibfbfaaGreatDoorTie
set_option linter.unusedVariables false
set_option linter.unusedSimpArgs false
namespace Go.Proofs.YtnoompnjibfbfaaGreatDoor
open Go Go.Sx Go.Proofs Go.ChangeShapes Go.WideShapes Go.ChangeAt Go.RowKit Go.ChangeMaps
theorem ints_of {H : Type} {enc : TypeId × Value → H} {W : World} {v : Value} {d0 : DataW H} {p : List MemPlace} (hv : ∃ a len cap, v = .slice a len cap) (h : DataW.Trod enc Tryz.prog W 0 (fun _ => true) true 31 v d0 p) : ∃ (s : Sl) (xs : List Int), v = s.v ∧ RowsAt (heapM W) s 1 (xs.map intRow) ∧ ∀ x ∈ xs, inI x := by
  obtain ⟨a, len, cap, rfl⟩ := hv
  obtain ⟨fuel, h⟩ := h
  obtain ⟨s, xs, e, h1, h2⟩ := rd_slice (row := intRow) (ok := inI) Tryz.underlying31 cl3 (by decide) (fun _ => rfl) (fun m' _ cs x hx => by
    obtain ⟨n, rfl, hn⟩ := rd_int Tryz.underlying3 hx
    exact ⟨n, rfl, hn⟩) h
  refine ⟨s, xs, ?_, h1, h2⟩
  have e : [Value.slice a len cap] = [.slice s.p s.n s.c] := e
  exact (List.cons.inj e).1
set_option maxRecDepth 100000 in
theorem lists_lifted (os : Os) (started : os.Started) (H : Type) (enc : TypeId × Value → H) :
    ReturnsInHanded {} Tryz.checked os 5 .any (fun w args => (Rows.invariantListsSpec.pre enc Tryz.prog Tryz.f5 [] false w args ∧ laidMetH Tryz.prog laid0 w) ∧ sizedMet enc Tryz.prog Tryz.f5 (OpenSpec.ofChange Rows.invariantListsSpec) false w args)
      (Rows.invariantListsSpec.post enc Tryz.prog Tryz.f5 false true false false) := by
  refine returnsInHanded_of_change_and (C := Tryz.checked) (X := fun w _ => laidMetH Tryz.prog laid0 w) (fun _ _ _ hh h => h.of_heap hh) Tryz.own started (by kernel_rfl) Tryz.func5
    (wit (C := Tryz.checked) (os := os) (enc := enc) (X := fun w _ => laidMetH Tryz.prog laid0 w) (laidWorld os) #[.slice none 0 0, .int .u8 0] 8 rfl (by kernel_rfl) (by kernel_rfl) (by kernel_rfl) (by kernel_rfl) (by kernel_rfl) (laidMetH_iff.2 (laidWorld_met os _))) ?_
  intro W base args ds gs before hval0 hW _ _ hL _
  have hW' := hW
  obtain ⟨p, q, hA0, hV0, rfl, hfz, hnd⟩ := hW
  have hA : DataW.TrodAll enc Tryz.prog W 0 (fun _ => true) true Tryz.f5.params.toList args.toList ds p := hA0
  have hV : DataW.TrodVars enc Tryz.prog W (fun _ => true) [] gs q := hV0
  rw [Tryz.params5] at hA
  have hA' := hA
  obtain ⟨v0, v1, d0, d1, p0, p1, rfl, rfl, rfl, h0, h1⟩ := trodAll_two hA
  obtain ⟨rfl, rfl⟩ : gs = [] ∧ q = [] := by
    cases gs with
    | nil => exact ⟨rfl, hV⟩
    | cons g r => exact absurd hV (by intro h; cases h)
  obtain ⟨s, xs, rfl, hr, hI⟩ := ints_of (okWide_slice Tryz.underlying31 (hval0 0 31 v0 (by kernel_rfl) rfl)) h0
  obtain ⟨x1, rfl, -, -, k1⟩ := open_int Tryz.underlying5 (hval0 1 5 v1 (by kernel_rfl) rfl) h1
  haveI := tab_laid (laidMetH_iff.1 hL)
  have hlt := hW'.lt
  rw [List.append_nil] at hlt
  refine (calls_mono (same_old (c5 hr hI (u8R k1))) ?_ : Calls Tryz.prog _ #[s.v, .int .u8 x1] W _)
  rintro e W' ⟨rfl, h1, h2, h3, hold⟩
  refine ⟨_, rfl, _, _, _, [], p0 ++ p1, [], hW', ?_, ?_, rfl, kept h1 h2 hold _, fun h => by cases h⟩
  · exact trodAll_mk1 (shut_bool Tryz.underlying4 true)
  · exact again_all hold (ts := [31, 5]) (by
      intro t ht
      simp only [List.mem_cons, List.not_mem_nil, or_false] at ht
      rcases ht with rfl | rfl
      · exact ⟨by kernel_rfl, of_decide_eq_true (by kernel_rfl)⟩
      · exact ⟨by kernel_rfl, of_decide_eq_true (by kernel_rfl)⟩) hA' hlt
theorem lists_holds : Rows.InvariantListsSaid :=
  OpenClaim.holds_of_wide 5 Tryz.f5 rfl rfl rfl rfl rfl rfl rfl ⟨rfl, rfl, rfl, rfl, rfl⟩ rfl rfl rfl rfl rfl (by kernel_rfl) Tryz.func5 (by kernel_rfl)
    (of_decide_eq_true (by kernel_rfl)) (by unfold Func.isWrapper; first | (rw [if_pos (by decide +kernel)]; kernel_rfl) | (rw [if_neg (by decide +kernel)]; exact ⟨rfl, rfl⟩))
    (fun os started H enc _ => lists_lifted os started H enc)
theorem lists_card : Rows.InvariantListsCardSaid :=
  Claim7.holds_tied_plain_at .later [] [.listed, .data] true (true, "10bbb982ba03098cd0a081cca9579fae35aa2e0dabaeb76ad56d839499cac84f") true
    lists_holds (fun _ h => by cases h) (by kernel_rfl) (fun _ h => by cases h) invariantLists_row_tie rfl ⟨rfl, rfl⟩ (by kernel_rfl) rfl
    (fun f fn hf hfn => by
      obtain rfl : f = 5 := Option.some.inj ((show Tryz.prog.funcNamed Rows.invariantListsRow.func = some 5 by kernel_rfl).symm.trans hf) |>.symm
      obtain rfl : fn = Tryz.f5 := (Option.some.inj (Tryz.func5.symm.trans hfn)).symm
      exact ⟨by kernel_rfl, fun j t ht => by
        have hm : t ∈ Tryz.f5.params.toList := by
          rw [Array.mem_toList_iff]; exact Array.mem_of_getElem? (by simpa using ht)
        rw [Tryz.params5] at hm
        simp only [List.mem_cons, List.not_mem_nil, or_false] at hm
        rcases hm with rfl | rfl
        · exact (show Tryz.prog.wantsStandIn 31 = false by kernel_rfl)
        · exact (show Tryz.prog.wantsStandIn 5 = false by kernel_rfl)⟩)
    (by kernel_rfl)
end Go.Proofs.YtnoompnjibfbfaaGreatDoor
