/- Part 20 of a proof of a law of this seat: no statement of the seat is proved here. -/
import Derived.Test.YtnoompnjibfbfaaGreatDoorPart19
import Derived.Test.YtnoompnjibfbfaaGreatDoorPart18
set_option linter.unusedVariables false
set_option linter.unusedSimpArgs false
namespace Go.Proofs
open Go Go.Sx
attribute [local irreducible] Go.Sx.Tri
section
variable {V0 V V1 V2 V' : Mem} {d : Ds} {m : Mm} {x : Int} {nm : ByteArray}
inductive HolP (d : Ds) (m : Mm) (nm : ByteArray) (x : Int) : Bool -> Int -> Prop where
 | arg (h : ¬ qBl d m) : HolP d m nm x false 1
 | range (h : qBl d m) (h1 : ¬ (0 <= x /\ x <= (m.nodes.length : Int))) : HolP d m nm x false 2
 | name (h : qBl d m) (h1 : 0 <= x /\ x <= (m.nodes.length : Int)) (h2 : iIdx d nm < 0) : HolP d m nm x false 9
 | type (h : qBl d m) (h1 : 0 <= x /\ x <= (m.nodes.length : Int)) (i : Nat) (v : Iv) (h2 : iIdx d nm = i) (h3 : d.invs[i]? = some v) (h4 : ¬ qHV d m x = v.ty) : HolP d m nm x false 11
 | val (h : qBl d m) (h1 : 0 <= x /\ x <= (m.nodes.length : Int)) (i : Nat) (v : Iv) (h2 : iIdx d nm = i) (h3 : d.invs[i]? = some v) (h4 : qHV d m x = v.ty) : HolP d m nm x (qIb d m v.x x) 0
theorem HolP.eq {b b' : Bool} {f f' : Int} (H : HolP d m nm x b f) (H' : HolP d m nm x b' f') : b = b' /\ f = f' := by
 have same : ∀ {i j : Nat} {v w : Iv}, iIdx d nm = i -> d.invs[i]? = some v -> iIdx d nm = j -> d.invs[j]? = some w -> v = w := fun {i j v w} h1 h2 h3 h4 => by
  have : i = j := by omega
  subst this
  rw [h2] at h4; cases h4; rfl
 cases H with
 | arg h => cases H' with
  | arg k => exact ⟨rfl, rfl⟩
  | _ k => exact absurd k h
 | range h h1 => cases H' with
  | arg k => exact absurd h k
  | range k k1 => exact ⟨rfl, rfl⟩
  | name k k1 => exact absurd k1 h1
  | type k k1 => exact absurd k1 h1
  | val k k1 => exact absurd k1 h1
 | name h h1 h2 => cases H' with
  | arg k => exact absurd h k
  | range k k1 => exact absurd h1 k1
  | name k k1 => exact ⟨rfl, rfl⟩
  | type k k1 i v k2 => omega
  | val k k1 i v k2 => omega
 | type h h1 i v h2 h3 h4 => cases H' with
  | arg k => exact absurd h k
  | range k k1 => exact absurd h1 k1
  | name k k1 k2 => omega
  | type k k1 j w k2 k3 k4 => exact ⟨rfl, rfl⟩
  | val k k1 j w k2 k3 k4 => obtain rfl := same h2 h3 k2 k3; exact absurd k4 h4
 | val h h1 i v h2 h3 h4 => cases H' with
  | arg k => exact absurd h k
  | range k k1 => exact absurd h1 k1
  | name k k1 k2 => omega
  | type k k1 j w k2 k3 k4 => obtain rfl := same h2 h3 k2 k3; exact absurd h4 k4
  | val k k1 j w k2 k3 k4 => obtain rfl := same h2 h3 k2 k3; exact ⟨rfl, rfl⟩
theorem iIdx_at (h : ¬ iIdx d nm < 0) : ∃ (i : Nat) (v : Iv), iIdx d nm = i /\ d.invs[i]? = some v /\ v ∈ d.invs := by
 unfold iIdx at h ⊢
 rcases qAG (fun t : Iv => decide (t.name = nm)) d.invs with ⟨h1, -, -⟩ | ⟨i, x, h1, h2, h3, h4, h5, -⟩
 ·rw [h1] at h; exact absurd (by decide) h
 ·exact ⟨i, x, h1, h2, List.mem_of_getElem? h2⟩
theorem c55 {b t : Nat} (hb : V b = some (cell (.string nm) t)) {v : Iv} : PP 55 [v.v, pv b] V (.bool (decide (v.name = nm))) := by
 refine x55 ?_
 unfold w55
 exact ⟨_, qBs hb, rfl, rfl⟩
theorem c25 [Tab V] (hd : Ds.Ok V d) (hm : Mm.Ok V m) : Tri Tryz.prog 25 #[d.v, m.v, .string nm, .int .i64 x] V fun e V' => V' = V /\ ∃ b f, e = .returned (.tuple #[.bool b, .int .i64 f]) /\ HolP d m nm x b f := by
 refine Tri.less ?_
 refine x25 ?_
 unfold w25
 have ret : ∀ {V1 : Mem} {b : Bool} {f : Int}, V.sub V1 -> HolP d m nm x b f -> ∃ W, (W = V /\ ∃ b' f', Ending.returned (.tuple #[.bool b, .int .i64 f]) = .returned (.tuple #[.bool b', .int .i64 f']) /\ HolP d m nm x b' f') /\ W.sub V1 := fun hs hp => ⟨V, ⟨rfl, _, _, rfl, hp⟩, hs⟩
 refine Tri.mono (c35 hd hm) ?_
 rintro _ V1 (⟨p, kb, bb, rfl, S, M⟩ | ⟨hG, rfl, hs⟩)
 rotate_left
 ·exact ⟨_, _, rfl, fun h => absurd h (by decide), fun _ => ret hs (.arg hG)⟩
 refine ⟨_, _, rfl, fun _ => (c36 S M).call ⟨_, rfl, fun h1 b hb => ?_, fun h1 => ret M.sub (.range S.good fun k => h1 (decide_eq_true k))⟩, fun h => absurd rfl h⟩
 have h1 : 0 <= x /\ x <= (m.nodes.length : Int) := of_decide_eq_true h1
 have s2 := Mem.sub_new hb (cell (.string nm) 9)
 have M2 := M.grow s2
 have hd2 := hd.sub M2.sub
 refine (c54 (first := []) (caps := [pv b]) hd2.invs Tryz.call55 (fun t => decide (t.name = nm)) (fun v _ => c55 mss)).call ⟨_, rfl, fun h2 => ret M2.sub (.name S.good h1 h2), fun h2 => ?_⟩
 obtain ⟨i, v, hi, hv, hmem⟩ := iIdx_at h2
 have hi' : qIN (fun t : Iv => decide (t.name = nm)) d.invs = (i : Int) := hi
 rw [hi']
 have hil := (List.getElem?_eq_some_iff.1 hv).1
 have hn := hd2.invs.n_eq
 obtain ⟨y, -, hy, -, hl, hp, hz, hrow⟩ := hd2.invs.get (i := i) (by omega)
 rw [hv] at hy; cases hy
 refine ⟨hp, hz, by omega, qAc hp, _, _, _, _, _, _, hrow, (c38 S M2 h1).call ⟨_, rfl, qCG (j := 1) (m := 1) hrow (by decide) (by decide), qAc hp, hp, hz, by omega, fun h3 => ?_, fun h3 => ret M2.sub (.type S.good h1 i v hi hv h3)⟩⟩
 have h3 : qHV d m x = v.ty := h3
 refine ⟨hp, hz, by omega, _, _, _, _, _, _, hrow, Tri.mono (c50 S M2 (fun _ _ h => by cases h) hmem (qJs S.good h1 h3)) ?_⟩
 rintro _ V5 ⟨rfl, -, kn', M5, -⟩
 exact ⟨_, rfl, ret M5.sub (.val S.good h1 i v hi hv h3)⟩
theorem c53 (G : qBl d m) (hd : Ds.Ok V d) (hm : Mm.Ok V m) {v : Iv} (hv : v ∈ d.invs) (hT : This d m v.ty x) : Tri Tryz.prog 53 #[d.v, m.v, v.v, .int .i64 x] V fun e V' => V.sub V' /\ e = .returned (.bool (qIb d m v.x x)) := by
 refine x53 ?_
 unfold w53
 obtain ⟨-, c2⟩ := (qDk G.chk).2 v hv
 refine Tri.mono (c66 G hd hm (ivB_parts ((qBh G.valid).2.2.2 v hv)).2.2 (hd.invsOk v hv) c2 hT) ?_
 rintro _ V1 ⟨hs, rs, rfl, ho⟩
 have hh := qHx ho
 refine ⟨_, _, rfl, fun h0 => ⟨hs, ?_⟩, fun h0 => ⟨hs, ?_⟩⟩
 ·rw [hh]
  cases rs with
  | ok a => show Ending.returned (.bool (decide (a = 1))) = _; rw [show decide (Rs.ok a = .ok 1) = decide (a = 1) by simp]
  | bad c => rw [show decide (Rs.bad c = .ok 1) = false by simp]; rfl
 ·rw [hh]
  cases rs with
  | ok a => exact absurd rfl h0
  | bad c => rw [show decide (Rs.bad c = .ok 1) = false by simp]
theorem c26 (hd : Ds.Ok V d) (hm : Mm.Ok V m) : Tri Tryz.prog 26 #[d.v, m.v, .string nm, .int .i64 x] V fun e V' => V.sub V' /\ ∃ b f, e = .returned (.tuple #[.bool b, .int .i64 f]) /\ HolP d m nm x b f := by
 refine x26 ?_
 unfold w26
 have ret : ∀ {V1 : Mem} {b : Bool} {f : Int}, V.sub V1 -> HolP d m nm x b f -> V.sub V1 /\ ∃ b' f', Ending.returned (.tuple #[.bool b, .int .i64 f]) = .returned (.tuple #[.bool b', .int .i64 f']) /\ HolP d m nm x b' f' := fun hs hp => ⟨hs, _, _, rfl, hp⟩
 have sr := Mem.sub.refl V
 have hnn := hm.nodes.n_eq
 refine (c14 hd hm).call ⟨_, rfl, fun hg => ?_, fun hg => ?_⟩
 rotate_left
 ·have hg : ¬ (if gB d m = true then (0 : Int) else 1) = 0 := hg
  have hb : ¬ gB d m = true := fun h => hg (if_pos h)
  rw [if_neg hb]; exact ret sr (.arg fun h => hb (gB_iff.2 h))
 have G : qBl d m := gB_iff.1 (by
  have hg : (if gB d m = true then (0 : Int) else 1) = 0 := hg
  by_cases h : gB d m = true
  ·exact h
  ·rw [if_neg h] at hg; cases hg)
 refine ⟨fun h1 => ret sr (.range G fun k => absurd k.1 (by have h1 : x < 0 := h1; omega)), fun h1 => ⟨fun h2 => ret sr (.range G fun k => absurd k.2 (by have h2 : (m.ns.n : Int) < x := h2; omega)), fun h2 => ?_⟩⟩
 have h1 : 0 <= x /\ x <= (m.nodes.length : Int) := by
  have h1 : ¬ x < 0 := h1
  have h2 : ¬ (m.ns.n : Int) < x := h2
  omega
 refine (c56 hd).call ⟨_, rfl, fun h3 => ret sr (.name G h1 h3), fun h3 => ?_⟩
 obtain ⟨i, v, hi, hv, hmem⟩ := iIdx_at h3
 rw [hi]
 have hil := (List.getElem?_eq_some_iff.1 hv).1
 have hn := hd.invs.n_eq
 obtain ⟨y, -, hy, -, hl, hp, hz, hrow⟩ := hd.invs.get (i := i) (by omega)
 rw [hv] at hy; cases hy
 refine ⟨hp, hz, by omega, qAc hp, _, _, _, _, _, _, hrow, (c31 G hd hm h1).call ⟨_, rfl, qCG (j := 1) (m := 1) hrow (by decide) (by decide), qAc hp, hp, hz, by omega, fun h4 => ?_, fun h4 => ret sr (.type G h1 i v hi hv h4)⟩⟩
 have h4 : qHV d m x = v.ty := h4
 refine ⟨hp, hz, by omega, _, _, _, _, _, _, hrow, Tri.mono (c53 G hd hm hmem (qJs G h1 h4)) ?_⟩
 rintro _ V5 ⟨hs, rfl⟩
 exact ⟨_, rfl, ret hs (.val G h1 i v hi hv h4)⟩
theorem c7 [Tab V] (hd : Ds.Ok V d) (hm : Mm.Ok V m) : PP 7 [d.v, m.v, .string nm, .int .i64 x] V (.bool true) := by
 refine Pur.mk (x7 ?_)
 unfold w7
 refine c10.call ⟨_, rfl, fun _ => Tri.mono (largeC hd hm) ?_, fun h => absurd rfl h⟩
 rintro _ _ ⟨rfl, b, rfl⟩
 refine ⟨_, rfl, fun _ => ⟨rfl, Mem.sub.refl _⟩, fun _ => ⟨fun _ => ⟨rfl, Mem.sub.refl _⟩, fun _ => Tri.mono (c25 hd hm) ?_⟩⟩
 rintro _ _ ⟨rfl, v, w, rfl, H⟩
 refine ⟨_, _, rfl, Tri.mono (c26 hd hm) ?_⟩
 rintro _ V5 ⟨hs, v', w', rfl, H'⟩
 obtain ⟨rfl, rfl⟩ := H.eq H'
 exact ⟨_, _, rfl, fun _ => ⟨by rw [decide_eq_true rfl], hs⟩, fun h => absurd (beq_self_eq_true _) h⟩
end
end Go.Proofs
namespace Go.Proofs.YtnoompnjibfbfaaGreatDoor
open Go
set_option maxRecDepth 100000
theorem qEJ {a b : Bool} (h : a = true) (k : b = true) : (a && b) = true := by rw [h, k]; rfl
theorem iholds_j1 : (Rows.invariantHoldsRow.wf (OpenSpec.ofChange Rows.invariantHoldsSpec)) = true := by kernel_rfl
theorem iholds_j2 : (laidOutB Tryz.prog) = true := by kernel_rfl
theorem iholds_j3 : (mapsRowed Tryz.prog) = true := by kernel_rfl
theorem iholds_j4 : (Tryz.f7.params.all (Tryz.prog.readableRec ·)) = true := by kernel_rfl
theorem iholds_j5 : (namedTie Tryz.prog Rows.invariantHoldsRow.named Rows.invariantHoldsSpec.vars) = true := by kernel_rfl
theorem iholds_j6 : ((Rows.invariantHoldsRow.stops == [])) = true := by kernel_rfl
theorem iholds_j7 : ((Tryz.prog.stops == [])) = true := by kernel_rfl
theorem iholds_j8 : ((Rows.invariantHoldsRow.knobs == [])) = true := by kernel_rfl
theorem iholds_j9 : ((Tryz.prog.stopKnobs == [])) = true := by kernel_rfl
theorem iholds_j10 : ((Rows.invariantHoldsRow.inPlace == Tryz.prog.inPlace 7)) = true := by kernel_rfl
theorem iholds_j11 : ((Rows.invariantHoldsRow.unfollowed == Tryz.prog.unfollowed 7)) = true := by kernel_rfl
theorem iholds_j12 : ((Rows.invariantHoldsRow.recurses == Tryz.prog.recurses 7)) = true := by kernel_rfl
theorem iholds_j13 : ((Rows.invariantHoldsRow.named == Tryz.prog.varsNamed 7)) = true := by kernel_rfl
theorem iholds_j14 : ((Rows.invariantHoldsRow.maps == (Tryz.f7.params.toList ++ Rows.invariantHoldsSpec.plain.varTypes Tryz.prog).any (Tryz.prog.mapsRec ·))) = true := by kernel_rfl
theorem iholds_j15 : ((Rows.invariantHoldsRow.ifaces == (Tryz.f7.params.toList ++ Rows.invariantHoldsSpec.plain.varTypes Tryz.prog).any (Tryz.prog.ifacesRec ·))) = true := by kernel_rfl
theorem iholds_j16 : ((Rows.invariantHoldsRow.mapsOut == Tryz.prog.mapsAmong Tryz.f7.resultTypes.toList)) = true := by kernel_rfl
theorem iholds_j17 : ((Rows.invariantHoldsRow.loops == (Tryz.f7.params.toList ++ Rows.invariantHoldsSpec.plain.varTypes Tryz.prog).any (Tryz.prog.loopsFrom ·))) = true := by kernel_rfl
theorem iholds_j18 : ((Rows.invariantHoldsRow.wideKeys == (Tryz.f7.params.toList ++ Rows.invariantHoldsSpec.plain.varTypes Tryz.prog ++ Tryz.f7.resultTypes.toList).any (Tryz.prog.wideKeysFrom ·))) = true := by kernel_rfl
theorem iholds_j19 : (Rows.invariantHoldsSpec.vars.all (Tryz.prog.varReadable ·)) = true := by kernel_rfl
theorem iholds_j20 : (Tryz.f7.resultTypes.all (fun t => Tryz.prog.readableRec t && decide (t < Tryz.prog.types.size))) = true := by kernel_rfl
theorem iholds_j21 : ((Rows.invariantHoldsRow.ifacesOut == Tryz.f7.resultTypes.toList.any (Tryz.prog.ifacesRec ·))) = true := by kernel_rfl
theorem iholds_j22 : ((Rows.invariantHoldsRow.loopsOut == Tryz.f7.resultTypes.toList.any (Tryz.prog.loopsFrom ·))) = true := by kernel_rfl
theorem iholds_j23 : ((Rows.invariantHoldsRow.plainKeys == Tryz.prog.plainKeys)) = true := by kernel_rfl
theorem iholds_j24 : (Rows.invariantHoldsRow.shortTexts.isNone) = true := by kernel_rfl
theorem iholds_j25 : (Tryz.prog.stopsHeard) = true := by kernel_rfl
theorem iholds_j26 : (Tryz.prog.mayEnter) = true := by kernel_rfl
theorem iholds_j27 : ((Rows.invariantHoldsRow.lifted == Tryz.prog.liftsFinal)) = true := by kernel_rfl
theorem iholds_j28 : ((Tryz.prog.make == some Rows.invariantHoldsRow.make)) = true := by kernel_rfl
theorem iholds_j29 : ((Rows.invariantHoldsRow.kinds == (if Rows.invariantHoldsRow.domain.isEmpty then [] else Tryz.f7.params.toList.map fun t => match Tryz.prog.underlying t with | some (.int k) => some k | _ => none))) = true := by kernel_rfl
theorem iholds_j30 : ((Rows.invariantHoldsRow.pinned == Rows.invariantHoldsRow.pinnedBy)) = true := by kernel_rfl
theorem iholds_j31 : ((Rows.invariantHoldsRow.veiled == (Tryz.f7.params.toList ++ Rows.invariantHoldsSpec.plain.varTypes Tryz.prog ++ Tryz.f7.resultTypes.toList).any (Tryz.prog.veiledRec ·))) = true := by kernel_rfl
theorem iholds_j32 : (Rows.invariantHoldsRow.veiledFits Tryz.prog Tryz.f7.params.toList (Tryz.f7.params.toList ++ Rows.invariantHoldsSpec.plain.varTypes Tryz.prog ++ Tryz.f7.resultTypes.toList)) = true := by kernel_rfl
theorem iholds_facts : joinedFacts Tryz.prog 7 Tryz.f7 Rows.invariantHoldsSpec Rows.invariantHoldsRow = true := (qEJ (qEJ (qEJ (qEJ (qEJ (qEJ (qEJ (qEJ (qEJ (qEJ (qEJ (qEJ (qEJ (qEJ (qEJ (qEJ (qEJ (qEJ (qEJ (qEJ (qEJ (qEJ (qEJ (qEJ (qEJ (qEJ (qEJ (qEJ (qEJ (qEJ (qEJ iholds_j1 iholds_j2) iholds_j3) iholds_j4) iholds_j5) iholds_j6) iholds_j7) iholds_j8) iholds_j9) iholds_j10) iholds_j11) iholds_j12) iholds_j13) iholds_j14) iholds_j15) iholds_j16) iholds_j17) iholds_j18) iholds_j19) iholds_j20) iholds_j21) iholds_j22) iholds_j23) iholds_j24) iholds_j25) iholds_j26) iholds_j27) iholds_j28) iholds_j29) iholds_j30) iholds_j31) iholds_j32)
end Go.Proofs.YtnoompnjibfbfaaGreatDoor
