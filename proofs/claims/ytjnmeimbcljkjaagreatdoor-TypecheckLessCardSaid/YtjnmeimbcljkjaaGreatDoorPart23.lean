/- Part 23 of a proof of a law of this seat: no statement of the seat is proved here. -/
import Derived.Test.YtjnmeimbcljkjaaGreatDoorPart22
set_option linter.unusedVariables false
set_option linter.unusedSimpArgs false
namespace Go.Proofs
open Go Go.Sx
attribute [local irreducible] Go.Sx.Tri
section
variable {V : Mem} {d : Ds}
theorem Good.of (h : wellT d = true) : Good d := ⟨(wellT_iff.1 h).1, (wellT_iff.1 h).2⟩
theorem Good.well (h : Good d) : wellT d = true := wellT_iff.2 ⟨h.valid, h.chk⟩
theorem c22 [Tab V] (hd : Ds.Ok V d) : PP 22 [d.v] V (.bool (wellT d)) := by
  refine x22 (v0 := d.name) (v1 := d.ts) (v2 := d.gs) (v3 := d.ps) (v4 := d.ms) (v5 := d.is) (v6 := d.qs) (v7 := d.bs) ?_
  unfold w22
  refine (c12 scopeC newC hd).call ?_
  by_cases hv : validD d = true
  · rw [if_pos hv]
    cases hc : chkT d with
    | none =>
      rw [wellT_iff.2 ⟨hv, hc⟩]
      exact ⟨_, _, _, rfl, fun _ => ⟨fun _ => ⟨rfl, rfl⟩, fun h => absurd rfl h⟩, fun h => absurd rfl h⟩
    | some r =>
      have hw : wellT d = false := by
        cases h : wellT d with
        | false => rfl
        | true => have := (wellT_iff.1 h).2; rw [hc] at this; cases this
      rw [hw]
      refine ⟨_, _, _, rfl, fun _ => ⟨fun _ => ⟨?_, rfl⟩, fun _ => ⟨rfl, rfl⟩⟩, fun _ => ⟨rfl, rfl⟩⟩
      rw [show decide ((fltR (some r)).2.2 = 0) = false from decide_eq_false (chk_err d r hc)]
  · rw [if_neg hv]
    have hw : wellT d = false := by
      cases h : wellT d with
      | false => rfl
      | true => exact absurd (wellT_iff.1 h).1 hv
    rw [hw]
    exact ⟨_, _, _, rfl, fun _ => ⟨fun _ => ⟨rfl, rfl⟩, fun h => absurd rfl h⟩, fun h => absurd rfl h⟩
theorem okI {sl : Sl} {l : List Iv} (h : Ds.Ok V d) (r : RowsAt V sl 6 (l.map Iv.row)) (k : ∀ p ∈ l, E.Ok V p.x) : Ds.Ok V (setI d sl l) := ⟨h.types, h.typesOk, h.globals, h.procs, h.procsOk, h.measures, h.measuresOk, r, k, h.pots, h.potsOk, h.bounds, h.boundsOk⟩
theorem okQ {sl : Sl} {l : List Po} (h : Ds.Ok V d) (r : RowsAt V sl 5 (l.map Po.row)) (k : ∀ p ∈ l, E.Ok V p.x) : Ds.Ok V (setQ d sl l) := ⟨h.types, h.typesOk, h.globals, h.procs, h.procsOk, h.measures, h.measuresOk, h.invs, h.invsOk, r, k, h.bounds, h.boundsOk⟩
theorem okB {sl : Sl} {l : List Bd} (h : Ds.Ok V d) (r : RowsAt V sl 5 (l.map Bd.row)) (k : ∀ p ∈ l, E.Ok V p.x) : Ds.Ok V (setB d sl l) := ⟨h.types, h.typesOk, h.globals, h.procs, h.procsOk, h.measures, h.measuresOk, h.invs, h.invsOk, h.pots, h.potsOk, r, k⟩
theorem okT (h : Ds.Ok V d) : Ds.Ok V (noTypes d) := ⟨RowsAt.nil, fun _ hx => absurd hx List.not_mem_nil, h.globals, h.procs, h.procsOk, h.measures, h.measuresOk, h.invs, h.invsOk, h.pots, h.potsOk, h.bounds, h.boundsOk⟩
def usedF (f : Fld) : Bool := decide (f.ty ≠ sInt ∧ f.ty ≠ sBool)
theorem c27 {f : Fld} : PP 27 [f.v] V (.bool (usedF f)) := by
  refine x27 (v0 := f.name) (v1 := f.ty) ?_
  unfold w27 usedF
  refine ⟨fun h => ⟨?_, rfl⟩, fun h => ⟨?_, rfl⟩⟩
  · rw [decide_eq_false fun k => k.1 h]
  · by_cases h2 : f.ty = sBool
    · rw [decide_eq_false (fun k : f.ty ≠ sInt ∧ f.ty ≠ sBool => k.2 h2), show decide (f.ty = strB [98, 111, 111, 108]) = true from decide_eq_true h2]; rfl
    · rw [decide_eq_true (show f.ty ≠ sInt ∧ f.ty ≠ sBool from ⟨h, h2⟩), show decide (f.ty = strB [98, 111, 111, 108]) = false from decide_eq_false h2]; rfl
theorem c29 {x : Iv} : PP 29 [x.v] V (.bool (decide (x.name = sTruth))) := by
  refine x29 (v0 := x.name) (v1 := x.ty) (v2 := x.x.op) (v3 := x.x.n) (v4 := x.x.s) (v5 := x.x.l) ?_
  unfold w29
  exact ⟨rfl, rfl⟩
theorem truthRows {b : Nat} {V : Mem} (h : V b = some (.cells #[.string (strB [116, 114, 117, 116, 104]), .string (strB []), .int .i64 2, .int .i64 1, .string (strB []), .slice none 0 0] 58 (0, 0))) : RowsAt V ⟨some ⟨b, 0, none⟩, 1, 1⟩ 6 ([truth].map Iv.row) :=
  RowsAt.cells (xs := [truth]) (row := Iv.row) h rfl (fun _ => rfl) rfl (by simp)
theorem cLess [hT : Tab V] (hd : Ds.Ok V d) {k1 k2 k3 : Int} (h1 : 0 ≤ k1 ∧ k1 ≤ 255) (h2 : 0 ≤ k2 ∧ k2 ≤ 255) (h3 : 0 ≤ k3 ∧ k3 ≤ 255) : PP 5 [d.v, .int .u8 k1, .int .u8 k2, .int .u8 k3] V (.bool true) := by
  refine Pur.mk (x5 (v0 := d.name) (v1 := d.ts) (v2 := d.gs) (v3 := d.ps) (v4 := d.ms) (v5 := d.is) (v6 := d.qs) (v7 := d.bs) ?_)
  unfold w5
  refine (awakeC V).call ⟨_, rfl, fun _ => Tri.mono (c11 hd) ?_, fun h => absurd rfl h⟩
  rintro _ V1 ⟨ok, rfl, e1⟩
  obtain rfl : V = V1 := e1.symm
  refine ⟨ok, rfl, fun _ => (c22 hd).call ⟨_, rfl, fun hw => ?_, fun _ => awakeAt (Mem.sub.refl _)⟩, fun _ => awakeAt (Mem.sub.refl _)⟩
  have good := Good.of hw
  obtain ⟨-, -, -, -, -, a6, a7, a8, -⟩ := valid_iff.1 good.valid
  refine Tri.mono (c23 hd.invs (by omega) h1) ?_
  rintro _ V1 ⟨s1, y1, rfl, m1, r1, q1⟩
  refine ⟨s1, rfl, Tri.mono (c24 (hd.pots.sub m1) (by omega) h2) ?_⟩
  rintro _ V2 ⟨s2, y2, rfl, m2, r2, q2⟩
  refine ⟨s2, rfl, Tri.mono (c25 (hd.bounds.sub (m1.trans m2)) (by omega) h3) ?_⟩
  rintro _ V3 ⟨s3, y3, rfl, m3, r3, q3⟩
  have hm : V.sub V3 := m1.trans (m2.trans m3)
  have hd3 := hd.sub hm
  haveI hT3 : Tab V3 := hT.sub hm
  have o1 := okI hd3 (r1.sub (m2.trans m3)) fun p hp => hd3.invsOk p (q1.subset hp)
  have o2 := okQ hd3 (r2.sub m3) fun p hp => hd3.potsOk p (q2.subset hp)
  have o3 := okB hd3 r3 fun p hp => hd3.boundsOk p (q3.subset hp)
  refine ⟨s3, rfl, (c22 o1).call ⟨_, rfl, fun _ => ?_, fun h => absurd (good.lessInv q1).well h⟩⟩
  refine (c22 o2).call ⟨_, rfl, fun _ => ?_, fun h => absurd (good.pot q2).well h⟩
  refine (c22 o3).call ⟨_, rfl, fun _ => ?_, fun h => absurd (good.bound q3).well h⟩
  clear o1 o2 o3 r1 r2 r3
  refine (c26 (first := []) (caps := []) hd3.globals Tryz.call27 usedF (fun f _ => c27)).call ⟨_, rfl, fun hu => (c22 (okT hd3)).call ⟨_, rfl, fun h => absurd (Good.of h) (noTypes_bad hu), fun _ => ?_⟩, fun _ => ?_⟩
  · refine ⟨fun _ => ⟨rfl, hm⟩, fun hlen => (c28 (first := []) (caps := []) hd3.invs Tryz.call29 (fun i => decide (i.name = sTruth)) (fun x _ => c29)).call ⟨_, rfl, fun _ => ⟨rfl, hm⟩, fun hn => ?_⟩⟩
    have hin := hd.invs.n_eq
    refine Tri.mono (c30 hd3.invs (by omega)) ?_
    rintro _ V4 ⟨s4, rfl, o4⟩
    refine ⟨s4, rfl, fun b hb => ?_⟩
    refine app26 (s := s4) (u := ⟨some ⟨b, 0, none⟩, 1, 1⟩) (xs := d.invs) (ys := [truth]) rfl rfl (o4.new hb _) (truthRows (Mem.set_same _ _ _)) (by simp; omega) fun s5 V5 o5 => ⟨s5, rfl, ?_⟩
    have hm5 : V.sub V5 := hm.trans o5.sub
    haveI hT5 : Tab V5 := hT.sub hm5
    have hd5 := hd.sub hm5
    refine (c22 (okI hd5 (o5.rows (fun _ => rfl) (by decide)) fun p hp => ?_)).call ⟨_, rfl, ?_, hm5⟩
    · rcases List.mem_append.1 hp with hp | hp
      · exact hd5.invsOk p hp
      · rw [List.mem_singleton.1 hp]; exact leafOk (by decide) (by decide)
    · rw [(good.truth (sl := s5) (by omega) (by simpa using hn)).well]
  · refine ⟨fun _ => ⟨rfl, hm⟩, fun hlen => (c28 (first := []) (caps := []) hd3.invs Tryz.call29 (fun i => decide (i.name = sTruth)) (fun x _ => c29)).call ⟨_, rfl, fun _ => ⟨rfl, hm⟩, fun hn => ?_⟩⟩
    have hin := hd.invs.n_eq
    refine Tri.mono (c30 hd3.invs (by omega)) ?_
    rintro _ V4 ⟨s4, rfl, o4⟩
    refine ⟨s4, rfl, fun b hb => ?_⟩
    refine app26 (s := s4) (u := ⟨some ⟨b, 0, none⟩, 1, 1⟩) (xs := d.invs) (ys := [truth]) rfl rfl (o4.new hb _) (truthRows (Mem.set_same _ _ _)) (by simp; omega) fun s5 V5 o5 => ⟨s5, rfl, ?_⟩
    have hm5 : V.sub V5 := hm.trans o5.sub
    haveI hT5 : Tab V5 := hT.sub hm5
    have hd5 := hd.sub hm5
    refine (c22 (okI hd5 (o5.rows (fun _ => rfl) (by decide)) fun p hp => ?_)).call ⟨_, rfl, ?_, hm5⟩
    · rcases List.mem_append.1 hp with hp | hp
      · exact hd5.invsOk p hp
      · rw [List.mem_singleton.1 hp]; exact leafOk (by decide) (by decide)
    · rw [(good.truth (sl := s5) (by omega) (by simpa using hn)).well]
end
end Go.Proofs
