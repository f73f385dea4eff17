/- Part 20 of a proof of a law of this seat: no statement of the seat is proved here. -/
import Derived.Test.YtnoompnjibfbfaaGreatDoorPart19
set_option linter.unusedVariables false
set_option linter.unusedSimpArgs false
namespace Go.Proofs
open Go Go.Sx
attribute [local irreducible] Go.Sx.Tri
section
variable {V0 V V1 V2 V' : Mem} {d : Ds} {m : Mm} {p : Nat} {sn : List qCs} {f x : Int} {s : Sl}
theorem c42 (h : RM V0 d m p V sn f s) {v : Int} : PP 42 [pv p, .int .i64 v] V (.tuple #[.int .i64 (if f = 0 then v else 0), .int .i64 f]) := by
 refine x42 ?_
 unfold w42
 refine ⟨nn, nn, f, h.cell 11 1 (by decide), fun h0 => ?_, fun h0 => ⟨nn, nn, f, h.cell 11 1 (by decide), ?_, nn, nn, ?_⟩⟩
 ·have h0 : f = 0 := h0
  rw [if_pos h0, h0]; exact ⟨rfl, rfl⟩
 ·rw [rowp_add0 V (sa p) 11 1]; exact h.cell 11 1 (by decide)
 ·rw [if_neg (show ¬ f = 0 from h0)]; exact ⟨rfl, rfl⟩
theorem refNew (G : qBP d m) (hd : Ds.Ok V d) (hm : Mm.Ok V m) (hp : V p = none) : RSt V d m p /\ RK V d m p (V.set p (.cells (rrow d m ⟨none, 0, 0⟩ 0).toArray 94 (0, 0))) [] ⟨none, 0, 0⟩ :=
 ⟨⟨G, hd, hm, hp⟩, ⟨Mem.set_same _ _ _, Own.nil (Mem.sub_new hp _) _ _⟩, (fun _ h => by simp at h), by
  unfold unR
  simp only [List.length_nil, Nat.zero_add]
  exact List.length_filter_le _ _⟩
theorem refTail {f : FuncId} {args : Array Value} {g : Nat -> Rs} {Q : Int -> Int -> Mem -> Prop} (H : Tri Tryz.prog f args V1 (qBi V d m p [] g)) (hQ : ∀ rs V3, V.sub V3 -> Out d m (fun _ _ => False) g rs -> Q (valRs rs) (errRs rs) V3) :
  Tri Tryz.prog f args V1 fun e V4 => ∃ v, e = .returned (.int .i64 v) /\ Tri Tryz.prog 42 #[pv p, .int .i64 v] V4 fun e V5 => ∃ v2 v3, e = .returned (.tuple #[.int .i64 v2, .int .i64 v3]) /\ Q v2 v3 V5 := by
 refine Tri.mono H ?_
 rintro _ V4 ⟨v, rs, rfl, ho, hres⟩
 have ho := ho.imp (B' := fun _ _ => False) fun a b ⟨pr, hpr, _⟩ => by simp at hpr
 refine ⟨v, rfl, ?_⟩
 rcases hres with ⟨a, ext, s1, rfl, rfl, -, K1⟩ | ⟨c, sn1, s1, rfl, hc, h1, -⟩
 ·exact (c42 K1.rm).call ⟨_, _, rfl, by rw [if_pos rfl]; exact hQ _ _ K1.rm.own.sub ho⟩
 ·exact (c42 h1).call ⟨_, _, rfl, by rw [if_neg hc]; exact hQ _ _ h1.own.sub ho⟩
theorem qIf.eq {nm : ByteArray} {v w v' w' : Int} (H : qIf d m nm x v w) (H' : qIf d m nm x v' w') : v = v' /\ w = w' := by
 cases H <;> cases H' <;> first | exact ⟨rfl, rfl⟩ | contradiction | omega | skip
 ·rename_i h1 h2 h3 h4 h5 h6 h7 h8 rs h9
  rcases h8 with h8 | h8
  ·exact absurd h8 h4.1
  ·exact absurd h8 h4.2
 ·rename_i h1 h2 h3 h4 rs h9 h5 h6 h7 h8
  rcases h4 with h4 | h4
  ·exact absurd h4 h8.1
  ·exact absurd h4 h8.2
 ·rename_i h1 h2 h3 h4 rs h9 h5 h6 h7 h8 rs' h10
  rw [Out.unique (qEi _ x) h9 h10]; exact ⟨rfl, rfl⟩
theorem c13 (hd : Ds.Ok V d) (hm : Mm.Ok V m) {name : ByteArray} {x : Int} : Tri Tryz.prog 13 #[d.v, m.v, .string name, .int .i64 x] V fun e V' => V' = V /\ ∃ v f, e = .returned (.tuple #[.int .i64 v, .int .i64 f]) /\ qIf d m name x v f := by
 refine Tri.less ?_
 refine x13 ?_
 unfold w13
 have ret : ∀ {V1 : Mem} {v f : Int}, V.sub V1 -> qIf d m name x v f -> ∃ W, (W = V /\ ∃ v' f', Ending.returned (.tuple #[.int .i64 v, .int .i64 f]) = .returned (.tuple #[.int .i64 v', .int .i64 f']) /\ qIf d m name x v' f') /\ W.sub V1 := fun hs hp => ⟨V, ⟨rfl, _, _, rfl, hp⟩, hs⟩
 have sr := Mem.sub.refl V
 have hnn := hm.nodes.n_eq
 refine (c14 hd hm).call ⟨_, rfl, fun hg => ?_, fun hg => ?_⟩
 rotate_left
 ·have hg : ¬ (if gB d m = true then (0 : Int) else 1) = 0 := hg
  have hb : ¬ gB d m = true := fun h => hg (if_pos h)
  rw [if_neg hb]; exact ret sr (.arg fun h => hb (gB_iff.2 h))
 have G : qBP d m := gB_iff.1 (by
  have hg : (if gB d m = true then (0 : Int) else 1) = 0 := hg
  by_cases h : gB d m = true
  ·exact h
  ·rw [if_neg h] at hg; cases hg)
 refine ⟨fun h1 => ret sr (.range G fun k => absurd k.1 (by have h1 : x < 0 := h1; omega)), fun h1 => ⟨fun h2 => ret sr (.range G fun k => absurd k.2 (by have h2 : (m.ns.n : Int) < x := h2; omega)), fun h2 => (c32 hd).call ⟨_, rfl, fun h3 => ?_, fun h3 => ?_⟩⟩⟩
 ·have h1 : ¬ x < 0 := h1
  have h2 : ¬ (m.ns.n : Int) < x := h2
  exact ret sr (.name G ⟨by omega, by omega⟩ h3)
 have h1 : 0 <= x /\ x <= (m.nodes.length : Int) := by
  have h1 : ¬ x < 0 := h1
  have h2 : ¬ (m.ns.n : Int) < x := h2
  omega
 obtain ⟨i, ms, hi, hms, hmem, -⟩ := mIdx_at h3
 obtain ⟨c1, c2⟩ := (qDk G.chk).1 ms hmem
 have hname := qBO G.valid c1
 have hty : tyM d (qFu d name) = ms.ty := by unfold tyM; rw [hi, Int.toNat_natCast, hms]; rfl
 have hil := (List.getElem?_eq_some_iff.1 hms).1
 have hn := hd.measures.n_eq
 rw [hi]
 have go : ∀ {x' : Int} {b : Nat}, x' = x -> V b = none -> qBf d m ms.ty x -> (x = 0 ∨ qIZ d m x = tyM d (qFu d name)) -> Tri Tryz.prog 43 #[pv b, .int .i64 i, .int .i64 x'] (V.set b (.cells (rrow d m ⟨none, 0, 0⟩ 0).toArray 94 (0, 0))) fun e V4 => ∃ v, e = .returned (.int .i64 v) /\
   Tri Tryz.prog 42 #[pv b, .int .i64 v] V4 fun e V5 => ∃ v2 v3, e = .returned (.tuple #[.int .i64 v2, .int .i64 v3]) /\ ∃ W, (W = V /\ ∃ v' f', Ending.returned (.tuple #[.int .i64 v2, .int .i64 v3]) = .returned (.tuple #[.int .i64 v', .int .i64 f']) /\ qIf d m name x v' f') /\ W.sub V5 := fun {x' b} e hb hx ht => by
  subst e
  obtain ⟨S, K⟩ := refNew G hd hm hb
  exact refTail (measAllR _ V S i ms x' _ [] ⟨none, 0, 0⟩ hms hx K (Nat.le_refl _)) fun rs V3 hs ho => ret hs (.val G h1 (by omega) ht rs (by rw [hi]; exact ho))
 obtain ⟨y, -, hy, -, hl, hp, hz, hrow⟩ := hd.measures.get (i := i) (by omega)
 rw [hms] at hy; cases hy
 refine ⟨fun h0 b hb => go rfl hb (by rw [show x = 0 from h0]; unfold qBf; rw [if_neg (qBt hname qHu)]; exact qFB hname) (.inl h0), fun h0 => ⟨hp, hz, by omega, qAd hp, _, _, _, _, _, _, _, hrow, (c31 G hd hm h1).call ⟨_, rfl, qDd (j := 1) (m := 1) hrow (by decide) (by decide), qAd hp, hp, hz, by omega, fun h4 b hb => ?_, fun h4 => ?_⟩⟩⟩
 ·have h4 : qIZ d m x = ms.ty := h4
  have h0 : ¬ x = 0 := h0
  refine go rfl hb ?_ (.inr (h4.trans hty.symm))
  rcases qJc G h1.1 h1.2 with ⟨-, h⟩ | ⟨-, -, h⟩
  ·exact absurd h h0
  ·unfold qBf; rw [if_neg (qBt hname qHu), <- h4]; exact h
 ·exact ret sr (.type G h1 (by omega) ⟨h0, fun h => h4 (h.trans hty)⟩)
theorem c3 [Tab V] (hd : Ds.Ok V d) (hm : Mm.Ok V m) {name : ByteArray} {x : Int} : PP 3 [d.v, m.v, .string name, .int .i64 x] V (.bool true) := by
 refine x3 ?_
 unfold w3
 refine c10.call ⟨_, rfl, fun _ => Tri.mono (largeC hd hm) ?_, fun h => absurd rfl h⟩
 rintro _ _ ⟨rfl, b, rfl⟩
 refine ⟨_, rfl, fun _ => ⟨rfl, rfl⟩, fun _ => ⟨fun _ => ⟨rfl, rfl⟩, fun _ => Tri.mono (c12 hd hm) ?_⟩⟩
 rintro _ _ ⟨rfl, v, w, rfl, H⟩
 refine ⟨_, _, rfl, Tri.mono (c13 hd hm) ?_⟩
 rintro _ _ ⟨rfl, v', w', rfl, H'⟩
 obtain ⟨rfl, rfl⟩ := H.eq H'
 exact ⟨_, _, rfl, fun _ => ⟨by rw [decide_eq_true rfl], rfl⟩, fun h => absurd rfl h⟩
end
end Go.Proofs
namespace Go.Proofs.YtnoompnjibfbfaaGreatDoor
open Go
set_option maxRecDepth 100000
theorem qEK {a b : Bool} (h : a = true) (k : b = true) : (a && b) = true := by rw [h, k]; rfl
theorem measures_j1 : (Rows.invariantMeasuresRow.wf (OpenSpec.ofChange Rows.invariantMeasuresSpec)) = true := by kernel_rfl
theorem measures_j2 : (laidOutB Tryz.prog) = true := by kernel_rfl
theorem measures_j3 : (mapsRowed Tryz.prog) = true := by kernel_rfl
theorem measures_j4 : (Tryz.f3.params.all (Tryz.prog.readableRec ·)) = true := by kernel_rfl
theorem measures_j5 : (namedTie Tryz.prog Rows.invariantMeasuresRow.named Rows.invariantMeasuresSpec.vars) = true := by kernel_rfl
theorem measures_j6 : ((Rows.invariantMeasuresRow.stops == [])) = true := by kernel_rfl
theorem measures_j7 : ((Tryz.prog.stops == [])) = true := by kernel_rfl
theorem measures_j8 : ((Rows.invariantMeasuresRow.knobs == [])) = true := by kernel_rfl
theorem measures_j9 : ((Tryz.prog.stopKnobs == [])) = true := by kernel_rfl
theorem measures_j10 : ((Rows.invariantMeasuresRow.inPlace == Tryz.prog.inPlace 3)) = true := by kernel_rfl
theorem measures_j11 : ((Rows.invariantMeasuresRow.unfollowed == Tryz.prog.unfollowed 3)) = true := by kernel_rfl
theorem measures_j12 : ((Rows.invariantMeasuresRow.recurses == Tryz.prog.recurses 3)) = true := by kernel_rfl
theorem measures_j13 : ((Rows.invariantMeasuresRow.named == Tryz.prog.varsNamed 3)) = true := by kernel_rfl
theorem measures_j14 : ((Rows.invariantMeasuresRow.maps == (Tryz.f3.params.toList ++ Rows.invariantMeasuresSpec.plain.varTypes Tryz.prog).any (Tryz.prog.mapsRec ·))) = true := by kernel_rfl
theorem measures_j15 : ((Rows.invariantMeasuresRow.ifaces == (Tryz.f3.params.toList ++ Rows.invariantMeasuresSpec.plain.varTypes Tryz.prog).any (Tryz.prog.ifacesRec ·))) = true := by kernel_rfl
theorem measures_j16 : ((Rows.invariantMeasuresRow.mapsOut == Tryz.prog.mapsAmong Tryz.f3.resultTypes.toList)) = true := by kernel_rfl
theorem measures_j17 : ((Rows.invariantMeasuresRow.loops == (Tryz.f3.params.toList ++ Rows.invariantMeasuresSpec.plain.varTypes Tryz.prog).any (Tryz.prog.loopsFrom ·))) = true := by kernel_rfl
theorem measures_j18 : ((Rows.invariantMeasuresRow.wideKeys == (Tryz.f3.params.toList ++ Rows.invariantMeasuresSpec.plain.varTypes Tryz.prog ++ Tryz.f3.resultTypes.toList).any (Tryz.prog.wideKeysFrom ·))) = true := by kernel_rfl
theorem measures_j19 : (Rows.invariantMeasuresSpec.vars.all (Tryz.prog.varReadable ·)) = true := by kernel_rfl
theorem measures_j20 : (Tryz.f3.resultTypes.all (fun t => Tryz.prog.readableRec t && decide (t < Tryz.prog.types.size))) = true := by kernel_rfl
theorem measures_j21 : ((Rows.invariantMeasuresRow.ifacesOut == Tryz.f3.resultTypes.toList.any (Tryz.prog.ifacesRec ·))) = true := by kernel_rfl
theorem measures_j22 : ((Rows.invariantMeasuresRow.loopsOut == Tryz.f3.resultTypes.toList.any (Tryz.prog.loopsFrom ·))) = true := by kernel_rfl
theorem measures_j23 : ((Rows.invariantMeasuresRow.plainKeys == Tryz.prog.plainKeys)) = true := by kernel_rfl
theorem measures_j24 : (Rows.invariantMeasuresRow.shortTexts.isNone) = true := by kernel_rfl
theorem measures_j25 : (Tryz.prog.stopsHeard) = true := by kernel_rfl
theorem measures_j26 : (Tryz.prog.mayEnter) = true := by kernel_rfl
theorem measures_j27 : ((Rows.invariantMeasuresRow.lifted == Tryz.prog.liftsFinal)) = true := by kernel_rfl
theorem measures_j28 : ((Tryz.prog.make == some Rows.invariantMeasuresRow.make)) = true := by kernel_rfl
theorem measures_j29 : ((Rows.invariantMeasuresRow.kinds == (if Rows.invariantMeasuresRow.domain.isEmpty then [] else Tryz.f3.params.toList.map fun t => match Tryz.prog.underlying t with | some (.int k) => some k | _ => none))) = true := by kernel_rfl
theorem measures_j30 : ((Rows.invariantMeasuresRow.pinned == Rows.invariantMeasuresRow.pinnedBy)) = true := by kernel_rfl
theorem measures_j31 : ((Rows.invariantMeasuresRow.veiled == (Tryz.f3.params.toList ++ Rows.invariantMeasuresSpec.plain.varTypes Tryz.prog ++ Tryz.f3.resultTypes.toList).any (Tryz.prog.veiledRec ·))) = true := by kernel_rfl
theorem measures_j32 : (Rows.invariantMeasuresRow.veiledFits Tryz.prog Tryz.f3.params.toList (Tryz.f3.params.toList ++ Rows.invariantMeasuresSpec.plain.varTypes Tryz.prog ++ Tryz.f3.resultTypes.toList)) = true := by kernel_rfl
theorem qHX : joinedFacts Tryz.prog 3 Tryz.f3 Rows.invariantMeasuresSpec Rows.invariantMeasuresRow = true := (qEK (qEK (qEK (qEK (qEK (qEK (qEK (qEK (qEK (qEK (qEK (qEK (qEK (qEK (qEK (qEK (qEK (qEK (qEK (qEK (qEK (qEK (qEK (qEK (qEK (qEK (qEK (qEK (qEK (qEK (qEK measures_j1 measures_j2) measures_j3) measures_j4) measures_j5) measures_j6) measures_j7) measures_j8) measures_j9) measures_j10) measures_j11) measures_j12) measures_j13) measures_j14) measures_j15) measures_j16) measures_j17) measures_j18) measures_j19) measures_j20) measures_j21) measures_j22) measures_j23) measures_j24) measures_j25) measures_j26) measures_j27) measures_j28) measures_j29) measures_j30) measures_j31) measures_j32)
end Go.Proofs.YtnoompnjibfbfaaGreatDoor
