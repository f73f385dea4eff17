/- Part 18 of a proof of a law of this seat: no statement of the seat is proved here. -/
import Derived.Test.YtnoompnjibfbfaaGreatDoorPart17
set_option linter.unusedVariables false
set_option linter.unusedSimpArgs false
namespace Go.Proofs.YtnoompnjibfbfaaGreatDoor
open Go Go.Sx Go.Proofs Go.ChangeShapes Go.WideShapes Go.ChangeAt Go.RowKit
abbrev laid0 : List (String × DataW Unit) := [("unicode.White_Space", Rows.laid_unicode_White_Space), ("strings.asciiSpace", Rows.laid_strings_asciiSpace)]
theorem noHandles : (laid0.filter fun x => x.2.handleName?.isSome) = [] := by kernel_rfl
theorem laidMetH_iff {w : World} : laidMetH Tryz.prog laid0 w ↔ laidMet Tryz.prog laid0 w := by
  unfold laidMetH
  rw [noHandles]
theorem tab_laid {W : World} (h : laidMet Tryz.prog laid0 W) : Tab (heapM W) := by
  obtain ⟨ps, h1, h2, h3⟩ := h
  obtain ⟨g, t, cs, fuel, p, q, hg, ht, hvar, hd, hrest, hps⟩ := h1
  obtain ⟨g', t', cs', fuel', p', q', hg', ht', hvar', hd', hrest', hps'⟩ := hrest
  refine tab_of ?_
  unfold Lib.TabIs
  rw [hvar']
  have hgg : g' = 0 := Option.some.inj (hg'.symm.trans (show Tryz.prog.globalNamed "strings.asciiSpace" = some 0 by kernel_rfl))
  subst hgg
  have htt : t' = 300 := Option.some.inj (ht'.symm.trans (show (Tryz.prog.globals[0]?).map (·.type) = some 300 by kernel_rfl))
  subst htt
  have hdat : (Rows.laid_strings_asciiSpace : DataW Unit) = Lib.tabData .u8 Lib.asciiSpaceTab := by kernel_rfl
  rw [hdat] at hd'
  rw [← Lib.cells_of_tab (n := 256) (e := 5) Tryz.underlying300 Tryz.underlying5 (by kernel_rfl) (by kernel_rfl) hd']
theorem kept {W W' : World} (h1 : W'.os = W.os) (h2 : W'.output = W.output) (hold : ∀ b, b < W.heap.size → W'.heap[b]? = W.heap[b]?) (may : MemPlace → Prop) : W.keptBut W' may := by
  refine ⟨h1, h2, fun i hi => ?_⟩
  rw [hold i hi]
  split <;> simp_all
theorem again_arg {H : Type} {enc : TypeId × Value → H} {t : TypeId} (hr : Tryz.prog.readableRec t = true) (hrow : t < Tryz.prog.types.size) {W W' : World} {v : Value} {d : DataW H} {ps : List MemPlace} (h : DataW.Trod enc Tryz.prog W 0 (fun _ => true) true t v d ps)
    (hold : ∀ b, b < W.heap.size → W'.heap[b]? = W.heap[b]?) (hlt : ∀ x ∈ ps, x.block < W.heap.size) : DataW.Trod enc Tryz.prog W' 0 (fun b => decide (b < W.heap.size)) true t v d ps :=
  WideElems.Trod_stays Tryz.laidOut hr hrow h (fun x hx => by
    have := hlt x hx
    cases x with
    | cell b o => exact World.cell?_of_block (w := W) (hold b this)
    | map b => exact hold b this) (fun x hx => by simpa using hlt x hx)
theorem wit {C : Checked} {os : Os} {f : FuncId} {fn : Func} {s : ChangeSpec} {conds : List PathCond} {apart : Bool} {X : World → Array Value → Prop} {H : Type} {enc : TypeId × Value → H} (w0 : World) (args : Array Value) (fuel : Nat) (hos : w0.os = os)
    (hv : (w0.forCall (fun _ _ => 0) ⟨#[], args, []⟩).variablesRefB C.prog = true)
    (hr : ((w0.forCall (fun _ _ => 0) ⟨#[], args, []⟩).heap.toList.drop C.prog.globals.size).take ((begin C.prog (fun _ _ => 0) default).world.heap.size - C.prog.globals.size) =
      (begin C.prog (fun _ _ => 0) default).world.heap.toList.drop C.prog.globals.size)
    (hok : Input.okWideB C.prog (w0.forCall (fun _ _ => 0) ⟨#[], args, []⟩) f ⟨#[], args, []⟩ = true)
    (hpre : s.preB enc C.prog fn conds apart (w0.forCall (fun _ _ => 0) ⟨#[], args, []⟩).memory args fuel = true)
    (hsz : s.sizedB enc C.prog fn apart (w0.forCall (fun _ _ => 0) ⟨#[], args, []⟩).memory args fuel = true)
    (hx : X (w0.forCall (fun _ _ => 0) ⟨#[], args, []⟩).memory args) :
    ∃ (w : World) (tape : Tape) (i : Input), w.os = os ∧ (w.forCall tape i).Shaped C.prog ∧ i.vars = [] ∧ Input.okWide C.prog (w.forCall tape i) .any w.heap.size f i ∧
      ((s.pre enc C.prog fn conds apart (w.forCall tape i).memory i.args ∧ X (w.forCall tape i).memory i.args) ∧ sizedMet enc C.prog fn (OpenSpec.ofChange s) apart (w.forCall tape i).memory i.args) ∧ ({} : Assume).holds C.prog (lone (Frame.enter C.prog f i.args .normal) [] (w.forCall tape i)) :=
  ⟨w0, fun _ _ => 0, ⟨#[], args, []⟩, hos, World.shaped_of_RefB hv hr, (Input.okWide_of_okWideB (base := 0) hok).1, (Input.okWide_of_okWideB hok).2, ⟨⟨ChangeSpec.pre_of_preB hpre, hx⟩, sizedMet_of_sizedB hsz⟩, by
    first | exact ⟨trivial, trivial⟩ | simp [Assume.holds]⟩
theorem again_all {H : Type} {enc : TypeId × Value → H} {W W' : World} (hold : ∀ b, b < W.heap.size → W'.heap[b]? = W.heap[b]?) : ∀ {ts : List TypeId} {vs : List Value} {ds : List (DataW H)} {ps : List MemPlace}, (∀ t ∈ ts, Tryz.prog.readableRec t = true ∧ t < Tryz.prog.types.size) →
    DataW.TrodAll enc Tryz.prog W 0 (fun _ => true) true ts vs ds ps → (∀ x ∈ ps, x.block < W.heap.size) → DataW.TrodAll enc Tryz.prog W' 0 (fun b => decide (b < W.heap.size)) true ts vs ds ps
  | [], _, _, _, _, h, _ => by
    obtain ⟨rfl, rfl, rfl⟩ := trodAll_nil h
    exact trodAll_mk0
  | t :: ts, _, _, _, hr, h, hlt => by
    obtain ⟨v, vs, d, ds, p, q, rfl, rfl, rfl, h1, h2⟩ := trodAll_cons h
    exact ⟨p, q, again_arg (hr t (by simp)).1 (hr t (by simp)).2 h1 hold (fun x hx => hlt x (List.mem_append_left _ hx)), again_all hold (fun u hu => hr u (by simp [hu])) h2 (fun x hx => hlt x (List.mem_append_right _ hx)), rfl⟩
theorem u8R {n : Int} (h : (Lit.int .u8 n).wf = true) : 0 ≤ n ∧ n ≤ 255 := by
  simp only [Lit.wf, Bool.and_eq_true, decide_eq_true_eq] at h
  exact ⟨h.1, h.2⟩
end Go.Proofs.YtnoompnjibfbfaaGreatDoor
