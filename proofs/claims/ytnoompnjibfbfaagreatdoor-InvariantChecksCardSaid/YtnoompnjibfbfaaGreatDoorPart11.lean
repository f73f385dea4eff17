/- Part 11 of a proof of a law of this seat: no statement of the seat is proved here. -/
import Derived.Test.YtnoompnjibfbfaaGreatDoorPart10
set_option linter.unusedVariables false
set_option linter.unusedSimpArgs false
namespace Go.Proofs
open Go Go.Sx
attribute [local irreducible] Go.Sx.Tri
structure qJd (d : Ds) : Prop where
 small : Small d
 ms : ∀ m ∈ d.measures, okE 1 m.x = true
 is : ∀ m ∈ d.invs, okE 1 m.x = true
 qs : ∀ m ∈ d.pots, okE 1 m.x = true
 bs : ∀ m ∈ d.bounds, okE 1 m.x = true
 ps : ∀ p ∈ d.procs, qIF 1 p.body = true /\ qGv p.body <= 200
theorem qEW {e : E} (h : qBx e = true) : okE 1 e = true := by
 unfold qBx at h; exact (of_decide_eq_true h).1
theorem vparts {d : Ds} (h : qAQ d = true) : qJd d := by
 unfold qAQ qIi at h
 simp only [Bool.and_eq_true, decide_eq_true_eq, List.all_eq_true] at h
 obtain ⟨⟨⟨⟨⟨⟨⟨-, -⟩, hg⟩, -⟩, -⟩, -⟩, hp⟩, ⟨⟨hm, hi⟩, hq⟩, hb⟩ := h
 have fl : ∀ {l : List Fld} {n : Int}, qEg l n = true -> n <= 100 -> l.length <= 1000 := fun h h' => by
  unfold qEg at h
  rw [Bool.and_eq_true, decide_eq_true_eq] at h
  omega
 refine ⟨⟨fl hg (by omega), fun p hpp => ?_⟩, fun m hmm => ?_, fun m hmm => ?_, fun m hmm => ?_, fun m hmm => ?_, fun p hpp => ?_⟩
 ·have := hp p hpp
  unfold prB at this
  simp only [Bool.and_eq_true] at this
  exact ⟨fl this.1.1.1.2 (by omega), fl this.1.1.2 (by omega)⟩
 ·have := hm m hmm
  unfold msB at this
  simp only [Bool.and_eq_true] at this
  exact qEW this.2
 ·have := hi m hmm
  unfold ivB at this
  simp only [Bool.and_eq_true] at this
  exact qEW this.2
 ·have := hq m hmm
  unfold poB at this
  simp only [Bool.and_eq_true] at this
  exact qEW this.2
 ·have := hb m hmm
  unfold bdB at this
  simp only [Bool.and_eq_true] at this
  exact qEW this.2
 ·have := hp p hpp
  unfold prB at this
  simp only [Bool.and_eq_true] at this
  have := this.2
  unfold qEF at this
  exact of_decide_eq_true this
theorem qCH {α β : Type} {f : Nat -> α -> Option β} {b : β} : ∀ {i : Nat} {xs : List α}, qAf f i xs = some b -> ∃ j x, x ∈ xs /\ f j x = some b
 | _, [], h => by cases h
 | i, x :: xs, h => by
  cases hx : f i x with
  | some c => rw [qAe hx] at h; cases h; exact ⟨i, x, by simp, hx⟩
  | none =>
   rw [qAh hx] at h
   obtain ⟨j, y, hy, e⟩ := qCH h
   exact ⟨j, y, by simp [hy], e⟩
def Bad (r : Flt) : Prop := r.2.2 ≠ 0 /\ r.2.1 = -1
theorem qGf {P : Flt -> Prop} {a b : Option Flt} (ha : ∀ r, a = some r -> P r) (hb : ∀ r, b = some r -> P r) : ∀ r, a.or b = some r -> P r := fun r h => by
 cases a with
 | none => exact hb r (by simpa using h)
 | some x => exact ha r (by simpa using h)
theorem qGV (d : Ds) : ∀ r, qGW d = some r -> Bad r := by
 refine qGf (fun r h => ?_) (qGf (fun r h => ?_) (fun r h => ?_)) <;> obtain ⟨j, x, hx, e⟩ := qCH h
 ·split at e
  ·cases e; exact ⟨by simp, rfl⟩
  ·cases e
 ·split at e
  ·rename_i h'; cases e; exact ⟨h', rfl⟩
  ·cases e
 ·split at e
  ·rename_i h'; cases e; exact ⟨h', rfl⟩
  ·cases e
theorem qHF (d : Ds) : ∀ r, qGo d = some r -> Bad r := fun r h => by
 obtain ⟨j, x, hx, e⟩ := qCH h
 split at e
 ·cases e; exact ⟨by simp, rfl⟩
 ·split at e
  ·rename_i h'; cases e; exact ⟨h', rfl⟩
  ·split at e
   ·cases e; exact ⟨by simp, rfl⟩
   ·cases e
theorem qJG (d : Ds) : ∀ r, qEf d = some r -> Bad r := by
 refine qGf (fun r h => ?_) (qGf (fun r h => ?_) (qGf (fun r h => ?_) (fun r h => ?_))) <;> obtain ⟨j, x, hx, e⟩ := qCH h
 ·split at e
  ·cases e; exact ⟨by simp, rfl⟩
  ·split at e
   ·cases e; exact ⟨by simp, rfl⟩
   ·cases e
 ·split at e
  ·cases e; exact ⟨by simp, rfl⟩
  ·split at e
   ·cases e; exact ⟨by simp, rfl⟩
   ·cases e
 ·split at e
  ·cases e; exact ⟨by simp, rfl⟩
  ·cases e
 ·split at e
  ·cases e; exact ⟨by simp, rfl⟩
  ·split at e
   ·cases e; exact ⟨by simp, rfl⟩
   ·cases e
theorem qJL (d : Ds) : ∀ r, qGB d = some r -> Bad r := by
 refine qGf (fun r h => ?_) (qGf (fun r h => ?_) (qGf (fun r h => ?_) (fun r h => ?_))) <;> obtain ⟨j, x, hx, e⟩ := qCH h <;> split at e
 all_goals first | (cases e; done) | (rename_i h'; cases e; exact ⟨h', rfl⟩)
theorem qHS {d : Ds} (hform : qEf d = none) : ∀ g ∈ d.bounds, ∃ p, qFd d g.proc = some p := by
 have h4 : form4 d = none := by
  unfold qEf at hform
  cases h : form4 d with
  | none => rfl
  | some r => rw [h] at hform; simp at hform
 have aux : ∀ (l : List Bd) (i : Nat), qAf (fun i b => if (qFd d b.proc).isNone = true then some ((b.proc, -1, 9) : Flt) else if (d.bounds.take i).any (fun g => decide (g.proc = b.proc)) = true then some (b.proc, -1, 10) else none) i l = none -> ∀ g ∈ l, ∃ p, qFd d g.proc = some p := by
  intro l
  induction l with
  | nil => intro i _ g hg; exact absurd hg List.not_mem_nil
  | cons y l ih =>
   intro i h g hg
   cases hy : qFd d y.proc with
   | none => rw [qAe (b := (y.proc, -1, 9)) (if_pos (by rw [hy]; rfl))] at h; cases h
   | some p =>
    rcases List.mem_cons.1 hg with rfl | hg
    ·exact ⟨p, hy⟩
    ·by_cases ht : (d.bounds.take i).any (fun g => decide (g.proc = y.proc)) = true
     ·rw [qAe (b := (y.proc, -1, 10)) ((if_neg (by rw [hy]; simp)).trans (if_pos ht))] at h; cases h
     ·rw [qAh ((if_neg (by rw [hy]; simp)).trans (if_neg ht))] at h
      exact ih _ h g hg
 exact aux d.bounds 0 h4
theorem qDW {V : Mem} {p : Option Addr} {off n j m : Nat} {vs : List Value} (h : V.rowp p off n = some vs) (hj : 0 < j) (hl : j + m <= n) : V.rowp (qAa (qAa p off) j) 0 m = some ((vs.drop j).take m) := by
 cases p with
 | none => cases h
 | some a =>
  have e : ((a.add off).add j).add 0 = ⟨a.block, a.off + off + j, none⟩ := by
   unfold Addr.add
   by_cases h1 : off = 0 <;> simp [h1, show ¬ j = 0 by omega]
  have e0 : (a.add off).off = a.off + off /\ (a.add off).block = a.block := by
   unfold Addr.add
   by_cases h1 : off = 0 <;> simp [h1]
  show V.row (((a.add off).add j).add 0) m = _
  have h : V.row (a.add off) n = some vs := h
  rw [e]
  unfold Mem.row at h ⊢
  rw [e0.2] at h
  split at h
  ·rename_i c x y hb
   simp only [hb]
   split at h
   ·rename_i hc
    rw [e0.1] at hc h
    cases h
    rw [if_pos ⟨rfl, by omega⟩, List.drop_take, List.take_take, List.drop_drop, Nat.min_eq_left (by omega)]
   ·cases h
  ·cases h
section
variable {V : Mem} {d : Ds}
theorem c130 (hd : Ds.Ok V d) (hv : qJd d) (hform : qEf d = none) : PP 130 [d.v] V (f2 (qGB d)) := by
 refine Pur.mk (x130 ?_)
 unfold w130 qGB
 have hg := hv.small.1
 have key : ∀ {X : Option Flt} (V2 : Mem) (s : ByteArray) (n : Int), V.sub V2 -> X = some (s, -1, n) -> (Ending.returned (.tuple #[.string s, .int .i64 n]) = Ending.returned (f2 X) /\ V.sub V2) := fun V2 s n h2 h => by rw [h]; exact ⟨rfl, h2⟩
 unfold exp1
 generalize hf1 : (fun (_ : Nat) (m : Ms) => if qBa d (qAk d m.ty) m.x qAP ≠ 0 then some ((m.name, -1, qBa d (qAk d m.ty) m.x qAP) : Flt) else none) = F1
 refine qDA d.measures.length (fun k V1 => V.sub V1 /\ qAf F1 0 d.measures = qAf F1 k (d.measures.drop k)) ⟨Mem.sub.refl _, rfl⟩ ?_
 rintro k b c V1 J hi ⟨hV, ha⟩ hJ
 have hd1 := hd.sub hV
 refine ⟨fun hk => ?_, fun hk => ?_⟩
 ·obtain ⟨g, hm, hx, hdr, hl, hp, hz, hrow⟩ := hd1.measures.get hk
  rw [hdr] at ha
  have hq := qAc (n := k * 7) hp
  refine ⟨hp, hz, hk, hq, _, _, _, _, _, _, _, hrow, hp, hz, hk, hq, _, _, _, _, _, _, _, hrow, Tri.mono (qDX hd1 hg) ?_⟩
  rintro _ V2 ⟨s', rfl, h12, hsc⟩
  have hrow2 := h12.rowp hrow
  refine ⟨s', false, rfl, qDW (j := 3) (m := 4) hrow2 (by decide) (by decide), hq, hp, hz, hk, (c189 (sc := qAk d g.ty) (e := g.x) (hd1.sub h12) hsc ((hd1.sub h12).measuresOk g hm).x (hv.ms g hm)).call ⟨_, rfl, fun h => ⟨hd1.measures.succ hk, hJ hl _ _ _ ⟨hV.trans h12, ?_⟩⟩, fun h => ⟨hp, hz, hk, hq, _, _, _, _, _, _, _, hrow2, key _ _ _ (hV.trans h12) ?_⟩⟩⟩
  ·rw [ha, qAh (by rw [<- hf1]; exact if_neg fun e => e h)]
  ·rw [ha, qAe (b := (g.name, -1, qBa d (qAk d g.ty) g.x qAP)) (by rw [<- hf1]; exact if_pos h)]; rfl
 rw [(hd1.measures.done hk).1, qAf] at ha
 rw [ha, Option.none_or]
 unfold exp2
 generalize hf2 : (fun (_ : Nat) (m : Iv) => if qBa d (qAk d m.ty) m.x qAt ≠ 0 then some ((m.name, -1, qBa d (qAk d m.ty) m.x qAt) : Flt) else none) = F2
 refine qDA d.invs.length (fun k V1 => V.sub V1 /\ qAf F2 0 d.invs = qAf F2 k (d.invs.drop k)) ⟨hV, rfl⟩ ?_
 rintro k b c V1 J hi ⟨hV, ha⟩ hJ
 have hd1 := hd.sub hV
 refine ⟨fun hk => ?_, fun hk => ?_⟩
 ·obtain ⟨g, hm, hx, hdr, hl, hp, hz, hrow⟩ := hd1.invs.get hk
  rw [hdr] at ha
  have hq := qAc (n := k * 6) hp
  refine ⟨hp, hz, hk, hq, _, _, _, _, _, _, hrow, hp, hz, hk, hq, _, _, _, _, _, _, hrow, Tri.mono (qDX hd1 hg) ?_⟩
  rintro _ V2 ⟨s', rfl, h12, hsc⟩
  have hrow2 := h12.rowp hrow
  refine ⟨s', false, rfl, qDW (j := 2) (m := 4) hrow2 (by decide) (by decide), hq, hp, hz, hk, (c189 (sc := qAk d g.ty) (e := g.x) (hd1.sub h12) hsc ((hd1.sub h12).invsOk g hm) (hv.is g hm)).call ⟨_, rfl, fun h => ⟨hd1.invs.succ hk, hJ hl _ _ _ ⟨hV.trans h12, ?_⟩⟩, fun h => ⟨hp, hz, hk, hq, _, _, _, _, _, _, hrow2, key _ _ _ (hV.trans h12) ?_⟩⟩⟩
  ·rw [ha, qAh (by rw [<- hf2]; exact if_neg fun e => e h)]
  ·rw [ha, qAe (b := (g.name, -1, qBa d (qAk d g.ty) g.x qAt)) (by rw [<- hf2]; exact if_pos h)]; rfl
 rw [(hd1.invs.done hk).1, qAf] at ha
 rw [ha, Option.none_or]
 unfold exp3
 generalize hf3 : (fun (_ : Nat) (m : Po) => if qBa d (qAk d m.ty) m.x qAP ≠ 0 then some ((sPot, -1, qBa d (qAk d m.ty) m.x qAP) : Flt) else none) = F3
 refine qDA d.pots.length (fun k V1 => V.sub V1 /\ qAf F3 0 d.pots = qAf F3 k (d.pots.drop k)) ⟨hV, rfl⟩ ?_
 rintro k b c V1 J hi ⟨hV, ha⟩ hJ
 have hd1 := hd.sub hV
 refine ⟨fun hk => ?_, fun hk => ?_⟩
 ·obtain ⟨g, hm, hx, hdr, hl, hp, hz, hrow⟩ := hd1.pots.get hk
  rw [hdr] at ha
  have hq := qAc (n := k * 5) hp
  refine ⟨hp, hz, hk, hq, _, _, _, _, _, hrow, hp, hz, hk, hq, _, _, _, _, _, hrow, Tri.mono (qDX hd1 hg) ?_⟩
  rintro _ V2 ⟨s', rfl, h12, hsc⟩
  have hrow2 := h12.rowp hrow
  refine ⟨s', false, rfl, qDW (j := 1) (m := 4) hrow2 (by decide) (by decide), hq, hp, hz, hk, (c189 (sc := qAk d g.ty) (e := g.x) (hd1.sub h12) hsc ((hd1.sub h12).potsOk g hm) (hv.qs g hm)).call ⟨_, rfl, fun h => ⟨hd1.pots.succ hk, hJ hl _ _ _ ⟨hV.trans h12, ?_⟩⟩, fun h => key _ _ _ (hV.trans h12) ?_⟩⟩
  ·rw [ha, qAh (by rw [<- hf3]; exact if_neg fun e => e h)]
  ·rw [ha, qAe (b := (sPot, -1, qBa d (qAk d g.ty) g.x qAP)) (by rw [<- hf3]; exact if_pos h)]; rfl
 rw [(hd1.pots.done hk).1, qAf] at ha
 rw [ha, Option.none_or]
 have hpr := qHS hform
 unfold exp4
 generalize hf4 : (fun (_ : Nat) (m : Bd) => if qBa d (qBl d ((qFd d m.proc).getD prD)) m.x qAP ≠ 0 then some ((m.proc, -1, qBa d (qBl d ((qFd d m.proc).getD prD)) m.x qAP) : Flt) else none) = F4
 refine qDA d.bounds.length (fun k V1 => V.sub V1 /\ qAf F4 0 d.bounds = qAf F4 k (d.bounds.drop k)) ⟨hV, rfl⟩ ?_
 rintro k b c V1 J hi ⟨hV, ha⟩ hJ
 have hd1 := hd.sub hV
 refine ⟨fun hk => ?_, fun hk => ?_⟩
 ·obtain ⟨g, hm, hx, hdr, hl, hp, hz, hrow⟩ := hd1.bounds.get hk
  rw [hdr] at ha
  have hq := qAc (n := k * 5) hp
  obtain ⟨p, hpp⟩ := hpr g hm
  rcases qAI (fun t : Pr => decide (t.name = g.proc)) d.procs with ⟨i1, i2, i3⟩ | ⟨i, x, i1, i2, i3, i4, i5, i6, i7, _⟩
  ·unfold qFd at hpp; rw [i2] at hpp; cases hpp
  have hxp : qFd d g.proc = some x := i3
  refine ⟨hp, hz, hk, hq, _, _, _, _, _, hrow, (c186 hd1).call ⟨_, rfl, ?_⟩⟩
  rw [i1]
  have hpn := hd1.procs.n_eq
  have hilt : (i : Int) < (d.ps.n : Int) := by omega
  obtain ⟨y, hmy, hxy, hdy, hly, hpy, hzy, hrowy⟩ := hd1.procs.get hilt
  rw [i2] at hxy
  cases hxy
  refine ⟨hpy, hzy, hilt, _, _, _, _, _, hrowy, hp, hz, hk, hq, _, _, _, _, _, hrow, Tri.mono (refInBound hd1 (hd1.procsOk x i6) hg (hv.small.2 x i6)) ?_⟩
  rintro _ V2 ⟨s', rfl, h12, hsc⟩
  have hrow2 := h12.rowp hrow
  have hget : (qFd d g.proc).getD prD = x := by rw [hxp]; rfl
  refine ⟨s', false, rfl, qDW (j := 1) (m := 4) hrow2 (by decide) (by decide), hq, hp, hz, hk, (c189 (sc := qBl d x) (e := g.x) (hd1.sub h12) hsc ((hd1.sub h12).boundsOk g hm) (hv.bs g hm)).call ⟨_, rfl, fun h => ⟨hd1.bounds.succ hk, hJ hl _ _ _ ⟨hV.trans h12, ?_⟩⟩, fun h => ⟨hp, hz, hk, hq, _, _, _, _, _, hrow2, key _ _ _ (hV.trans h12) ?_⟩⟩⟩
  ·rw [ha, qAh (by rw [<- hf4]; exact if_neg fun e => e (by rw [hget]; exact h))]
  ·rw [ha, qAe (b := (g.proc, -1, qBa d (qBl d x) g.x qAP)) (by rw [<- hf4]; exact (if_pos (by rw [hget]; exact h)).trans (by rw [hget]))]; try rfl
 rw [(hd1.bounds.done hk).1, qAf] at ha
 rw [ha]
 exact ⟨rfl, hV⟩
def f3 (o : Option Flt) : Value := .tuple #[.string (fltR o).1, .int .i64 (fltR o).2.1, .int .i64 (fltR o).2.2]
theorem c79 (hd : Ds.Ok V d) (hv : qJd d) : PP 79 [d.v] V (f3 (qIZ d)) := by
 refine x79 ?_
 unfold w79 qIZ
 have bad : ∀ {a b : Option Flt}, (∀ r, a = some r -> Bad r) -> ¬ ((fltR a).2.2 = 0) -> (Ending.returned (.tuple #[.string (fltR a).1, .int .i64 (-1), .int .i64 (fltR a).2.2]) = Ending.returned (f3 (a.or b)) /\ V = V) := fun {a b} hb h => by
  cases a with
  | none => exact absurd rfl h
  | some r =>
   have := hb r rfl
   unfold f3 fltR
   simp only [Option.some_or, Option.getD_some]
   rw [this.2]; exact ⟨by first | rfl | trivial, by first | rfl | trivial⟩
 have good : ∀ {a : Option Flt}, (∀ r, a = some r -> Bad r) -> (fltR a).2.2 = 0 -> a = none := fun {a} hb h => by
  cases a with
  | none => rfl
  | some r => exact absurd h (hb r rfl).1
 refine (c126 hd).call ⟨_, _, rfl, fun h => ?_, fun h => bad (qGV d) h⟩
 rw [good (qGV d) h, Option.none_or]
 refine (c127 hd hv.small).call ⟨_, _, rfl, fun h => ?_, fun h => bad (qHF d) h⟩
 rw [good (qHF d) h, Option.none_or]
 refine (c128 hd).call ⟨_, _, rfl, fun h => ?_, fun h => bad (qJG d) h⟩
 have hform := good (qJG d) h
 rw [hform, Option.none_or]
 unfold qDM
 generalize hf1 : (fun (_ : Nat) (p : Pr) => if (qBK d (qAL d p) p.result 0 p.body).2 ≠ 0 then some ((p.name, (qBK d (qAL d p) p.result 0 p.body).1, (qBK d (qAL d p) p.result 0 p.body).2) : Flt) else none) = F1
 refine loop4s (mk := .string) (mc := .int .i64) (md := .int .i64) (qAi []) 0 0 qFo d.procs.length (fun k _ V1 => V = V1 /\ qAf F1 0 d.procs = qAf F1 k (d.procs.drop k)) ⟨rfl, rfl⟩ ?_
 rintro k b c c' V1 J hi ⟨rfl, ha⟩ hJ
 refine ⟨fun hk => ?_, fun hk => ?_⟩
 ·obtain ⟨g, hm, hx, hdr, hl, hp, hz, hrow⟩ := hd.procs.get hk
  rw [hdr] at ha
  have hq := qAc (n := k * 5) hp
  have hgo := hd.procsOk g hm
  obtain ⟨hs1, hs2⟩ := hv.ps g hm
  refine ⟨hp, hz, hk, _, _, _, _, _, hrow, hp, hz, hk, hq, _, _, _, _, _, hrow, (refStmts hd hgo hv.small.1 (hv.small.2 g hm) g.body g.bs 0 1 hgo.body hgo.stmts hs1 (by omega) (by omega)).call ⟨_, _, rfl, fun h => ⟨hd.procs.succ hk, hJ hl _ _ _ _ ⟨rfl, ?_⟩⟩, fun h => ⟨hp, hz, hk, hq, _, _, _, _, _, hrow, ?_⟩⟩⟩
  ·rw [ha, qAh (by rw [<- hf1]; exact if_neg fun e => e h)]
  ·rw [ha, qAe (b := (g.name, (qBK d (qAL d g) g.result 0 g.body).1, (qBK d (qAL d g) g.result 0 g.body).2)) (by rw [<- hf1]; exact if_pos h)]
   exact ⟨rfl, rfl⟩
 rw [(hd.procs.done hk).1, qAf] at ha
 rw [ha, Option.none_or]
 refine (c130 hd hv hform).call ⟨_, _, rfl, fun h => ?_, fun h => ?_⟩
 ·rw [good (qJL d) h]; exact ⟨rfl, rfl⟩
 ·have := bad (b := none) (qJL d) h
  rw [Option.or_none] at this
  exact this
def wellT (d : Ds) : Bool := qAQ d && decide ((fltR (qIZ d)).2.2 = 0)
theorem c45 (hd : Ds.Ok V d) : PP 45 [d.v] V (.bool (wellT d)) := by
 refine x45 ?_
 unfold w45 wellT
 refine (c44 hd).call ⟨_, rfl, fun h => (c79 hd (vparts h)).call ⟨_, _, _, rfl, ?_⟩, fun h => ?_⟩
 ·rw [h]; exact ⟨rfl, rfl⟩
 ·rw [eq_false_of_ne_true h]; exact ⟨rfl, rfl⟩
end
structure qBC (V : Mem) (c : Option Addr) (d : Ds) : Prop where
 at_ : ∃ cb mt mp t, c = some ⟨cb, 0, none⟩ /\ V cb = some (.cells (d.row ++ [Value.map (some mt), Value.map (some mp)]).toArray t (0, 0)) /\ qBe V mt (fun k => (tyOf d k).map Ty.v) /\ qBe V mp (fun k => (qFd d k).map Pr.v)
 ok : Ds.Ok V d
theorem qBC.sub {V V' : Mem} {c : Option Addr} {d : Ds} (h : qBC V c d) (hs : V.sub V') : qBC V' c d := by
 obtain ⟨cb, mt, mp, t, h1, h2, h3, h4⟩ := h.at_
 exact ⟨⟨cb, mt, mp, t, h1, hs _ _ h2, h3.sub hs, h4.sub hs⟩, h.ok.sub hs⟩
theorem qBC.nn {V : Mem} {c : Option Addr} {d : Ds} (h : qBC V c d) : ¬ (c = none) := by
 obtain ⟨cb, mt, mp, t, h1, h2, h3, h4⟩ := h.at_
 rw [h1]; simp
theorem qBC.cell {V : Mem} {c : Option Addr} {d : Ds} (h : qBC V c d) {i : Nat} {v : Value} (hv : (d.row)[i]? = some v) : V.rowp c (i * 1) 1 = some [v] := by
 obtain ⟨cb, mt, mp, t, h1, h2, h3, h4⟩ := h.at_
 rw [h1, Nat.mul_one]
 have hi := (List.getElem?_eq_some_iff.1 hv).1
 have h8 : d.row.length = 8 := rfl
 rw [qAg h2 i 1 (by simp; omega)]
 have : (d.row ++ [Value.map (some mt), Value.map (some mp)])[i]? = some v := by rw [List.getElem?_append_left hi]; exact hv
 have hl : i < (d.row ++ [Value.map (some mt), Value.map (some mp)]).length := by rw [List.length_append]; omega
 show some (((d.row ++ [Value.map (some mt), Value.map (some mp)]).drop i).take 1) = _
 rw [List.drop_eq_getElem_cons hl, (List.getElem?_eq_some_iff.1 this).2]
 rfl
theorem qBC.types {V : Mem} {c : Option Addr} {d : Ds} (h : qBC V c d) : ∃ mt, V.rowp c 8 1 = some [.map (some mt)] /\ qBe V mt (fun k => (tyOf d k).map Ty.v) := by
 obtain ⟨cb, mt, mp, t, h1, h2, h3, h4⟩ := h.at_
 exact ⟨mt, by rw [h1, qAg h2 8 1 (by simp [Ds.row])]; rfl, h3⟩
theorem qBC.procs {V : Mem} {c : Option Addr} {d : Ds} (h : qBC V c d) : ∃ mt, V.rowp c 9 1 = some [.map (some mt)] /\ qBe V mt (fun k => (qFd d k).map Pr.v) := by
 obtain ⟨cb, mt, mp, t, h1, h2, h3, h4⟩ := h.at_
 exact ⟨mp, by rw [h1, qAg h2 9 1 (by simp [Ds.row])]; rfl, h4⟩
def qBH (l : List Fld) (k : ByteArray) : Option ByteArray := (l.find? fun f => decide (f.name = k)).map (·.ty)
theorem qIp (l : List Fld) (k : ByteArray) : qBJ l k = (qBH l k).getD sE := by
 induction l with
 | nil => rfl
 | cons f l ih =>
  unfold qBH qBJ
  rw [List.find?_cons]
  by_cases h : f.name = k
  ·rw [if_pos h, decide_eq_true h]; rfl
  ·rw [if_neg h, decide_eq_false h]; exact ih
def NE (l : List Fld) : Prop := ∀ f ∈ l, f.ty ≠ sE
theorem NE.some {l : List Fld} (h : NE l) {k t : ByteArray} (hv : qBH l k = some t) : t ≠ sE := by
 unfold qBH at hv
 obtain ⟨f, hf, rfl⟩ := Option.map_eq_some_iff.1 hv
 exact h f (List.mem_of_find?_eq_some hf)
structure qGC (V : Mem) (m : Option Nat) (sc : Sc) : Prop where
 at_ : ∃ mb, m = some mb /\ qBe V mb (fun k => (qBH sc.vars k).map Value.string)
 ne : NE sc.vars
theorem qGC.sub {V V' : Mem} {m : Option Nat} {sc : Sc} (h : qGC V m sc) (hs : V.sub V') : qGC V' m sc := by
 obtain ⟨mb, h1, h2⟩ := h.at_
 exact ⟨⟨mb, h1, h2.sub hs⟩, h.ne⟩
def sV (c : Option Addr) (m : Option Nat) (sc : Sc) : Value := .agg #[.pointer c, .map m, .bool sc.body]
structure VNe (d : Ds) : Prop where
 types : ∀ t ∈ d.types, NE t.fields
 globals : NE d.globals
 params : ∀ p ∈ d.procs, NE p.params /\ NE p.locals
theorem typB_ne {s : ByteArray} (h : typB s = true) : s ≠ sE := by
 intro e
 subst e
 have : typB sE = false := by
  unfold typB qAz
  have h1 : ¬ (sE = qAP) := by decide
  have h2 : ¬ (sE = qAt) := by decide
  rw [decide_eq_false h1, decide_eq_false h2, decide_eq_false (fun h => h.1 rfl)]
  rfl
 rw [this] at h; cases h
theorem qJI {l : List Fld} {n : Int} (h : qEg l n = true) : NE l := fun f hf => by
 unfold qEg at h
 rw [Bool.and_eq_true] at h
 have := List.all_eq_true.1 h.2 f hf
 unfold fldB at this
 rw [Bool.and_eq_true] at this
 exact typB_ne this.2
theorem vne {d : Ds} (h : qAQ d = true) : VNe d := by
 unfold qAQ at h
 simp only [Bool.and_eq_true, decide_eq_true_eq, List.all_eq_true] at h
 obtain ⟨⟨⟨⟨⟨⟨⟨-, -⟩, hg⟩, -⟩, -⟩, ht⟩, hp⟩, -⟩ := h
 refine ⟨fun t htt => ?_, qJI hg, fun p hpp => ?_⟩
 ·have := ht t htt
  unfold tyB at this
  rw [Bool.and_eq_true] at this
  exact qJI this.2
 ·have := hp p hpp
  unfold prB at this
  simp only [Bool.and_eq_true] at this
  exact ⟨qJI this.1.1.1.2, qJI this.1.1.2⟩
theorem zero101 (w : World) : (zeroValue 101).run Tryz.prog w = .ok (.agg #[.string ByteArray.empty, .slice none 0 0]) w := by kernel_rfl
theorem zero146 (w : World) : (zeroValue 146).run Tryz.prog w = .ok (.agg #[.string ByteArray.empty, .slice none 0 0, .string ByteArray.empty, .slice none 0 0, .slice none 0 0]) w := by kernel_rfl
theorem zero9 (w : World) : (zeroValue 9).run Tryz.prog w = .ok (.string ByteArray.empty) w := by kernel_rfl
theorem tyOf_node (d : Ds) (s : ByteArray) : (tyOf d s).isSome = qAN d s := by
 unfold tyOf qAN
 rcases qAI (fun t : Ty => decide (t.name = s)) d.types with ⟨h1, h2, h3⟩ | ⟨i, x, h1, h2, h3, h4, h5, h6, h7, _⟩
 ·rw [h2, h3]; rfl
 ·rw [h3, h7]; rfl
theorem tyOf_mem {d : Ds} {s : ByteArray} {t : Ty} (h : tyOf d s = some t) : t ∈ d.types := List.mem_of_find?_eq_some h
theorem qJs {d : Ds} {s : ByteArray} {t : Pr} (h : qFd d s = some t) : t ∈ d.procs := List.mem_of_find?_eq_some h
section
variable {V : Mem} {d : Ds} {c : Option Addr} {m : Option Nat} {sc : Sc}
theorem c88 (h : qBC V c d) {s : ByteArray} : PP 88 [.pointer c, .string s] V (.bool (qAN d s)) := by
 refine x88 ?_
 unfold w88
 obtain ⟨mt, h1, h2⟩ := h.types
 refine ⟨h.nn, h.nn, _, h1, qBv.str Tryz.underlying207 Tryz.underlying9 zero101 h2 ?_⟩
 rw [<- tyOf_node]
 cases ht : tyOf d s with
 | none => exact ⟨_, ⟨none, 0, 0⟩, _, rfl, rfl, rfl⟩
 | some t => exact ⟨_, t.fs, _, rfl, rfl, rfl⟩
theorem c220 (h : qBC V c d) {s : ByteArray} : PP 220 [.pointer c, .string s] V (.bool (known d s)) := by
 refine x220 ?_
 unfold w220
 refine ⟨fun h1 => ?_, fun h1 => ⟨fun h2 => ?_, fun h2 => (c88 h).call ⟨_, rfl, ?_⟩⟩⟩ <;> simp [known, qAP, qAt, *]
theorem c194 (h : qBC V c d) {s t : ByteArray} : PP 194 [.pointer c, .string s, .string t] V (.bool (qFD d s t)) := by
 refine x194 ?_
 unfold w194 qFD sNil
 refine ⟨fun h1 => ?_, fun h1 => ⟨fun h2 => (c88 h).call ⟨_, rfl, ?_⟩, fun h2 => ?_⟩⟩
 ·rw [decide_eq_true h1]; exact ⟨rfl, rfl⟩
 ·rw [decide_eq_false h1, decide_eq_true h2]; exact ⟨rfl, rfl⟩
 ·rw [decide_eq_false h1, decide_eq_false h2]; exact ⟨rfl, rfl⟩
theorem c198 (h : qBC V c d) (hv : VNe d) {s t : ByteArray} : PP 198 [.pointer c, .string s, .string t] V (.tuple #[.string (qCO d s t).1, .int .i64 (qCO d s t).2]) := by
 refine x198 ?_
 unfold w198
 obtain ⟨mt, h1, h2⟩ := h.types
 refine ⟨h.nn, h.nn, _, h1, qBv.str Tryz.underlying207 Tryz.underlying9 zero101 h2 ?_⟩
 unfold qCO
 cases ht : tyOf d s with
 | none => exact ⟨_, ⟨none, 0, 0⟩, _, rfl, fun h => absurd h (by simp), fun _ => ⟨rfl, rfl⟩⟩
 | some ty =>
  refine ⟨_, ty.fs, _, rfl, fun _ => ?_, fun h => absurd rfl h⟩
  have hr := (h.ok.typesOk ty (tyOf_mem ht)).fields
  have hne := hv.types ty (tyOf_mem ht)
  simp only
  refine qDA ty.fields.length (fun i V1 => V = V1 /\ qBJ ty.fields t = qBJ (ty.fields.drop i) t) ⟨rfl, rfl⟩ ?_
  rintro i b c V1 J hi ⟨rfl, ha⟩ hJ
  refine ⟨fun hlt => ?_, fun hge => ?_⟩
  ·obtain ⟨x, hm, hx, hdr, hl, hp, hz, hrow⟩ := hr.get hlt
   rw [hdr, qBJ] at ha
   refine ⟨hp, hz, hlt, _, _, hrow, fun he => ?_, fun he => ⟨hr.succ hlt, hJ hl _ _ _ ⟨rfl, ?_⟩⟩⟩
   ·rw [if_pos he] at ha
    rw [ha, if_neg (hne x hm)]; exact ⟨rfl, rfl⟩
   ·rw [ha, if_neg he]
  ·rw [(hr.done hge).1, qBJ] at ha
   rw [ha, if_pos rfl]; exact ⟨rfl, rfl⟩
theorem c239 {b : Nat} {s : ByteArray} {t : Nat} (hb : V b = some (cell (.string s) t)) {x : Ms} : PP 239 [x.v, pv b] V (.bool (decide (x.name = s))) := by
 refine x239 ?_
 unfold w239
 exact ⟨_, qBt hb, rfl, rfl⟩
def IdC {α : Type} (f : FuncId) (row : α -> List Value) (v : α -> Value) (sz : Nat) : Prop := ∀ {V : Mem} {l : Sl} {xs : List α} {g : Nat} {first caps : List Value} (h : qAd V l sz (xs.map row)) (hg : qGt g) (p : α -> Bool) (hp : ∀ x ∈ xs, PP g (first ++ [v x] ++ caps) V (.bool (p x))), PP f [l.v, .func (.func g) first.toArray caps.toArray] V (.int .i64 (qJC p xs))
theorem idC {α : Type} {f : FuncId} {row : α -> List Value} {v : α -> Value} {sz : Nat} (H : IdxP f row v sz) : IdC f row v sz := by
 intro V l xs g first caps h hg p hp
 refine Tri.mono (H hg (fun i V1 => V = V1 /\ qAG (fun y => !p y) xs i) (fun i V1 => V = V1 /\ ∃ x, xs[i]? = some x /\ p x = true /\ qAG (fun y => !p y) xs i) (fun i V1 hs => hs.1 ▸ h) ⟨rfl, qAG.zero _ _⟩ ?_) ?_
 ·rintro i x V1 hx ⟨rfl, hs⟩
  have hm : x ∈ xs := List.mem_of_getElem? hx
  exact (hp x hm).callv ⟨_, rfl, fun hb => ⟨rfl, x, hx, hb, hs⟩, fun hb => ⟨rfl, qBz hs hx hb⟩⟩
 ·rintro e V' (⟨i, rfl, rfl, x, hx, hb, hs⟩ | ⟨rfl, rfl, hs⟩)
  ·rw [qBV hs hx hb]; exact ⟨rfl, rfl⟩
  ·rw [qCr hs (Nat.le_refl _)]; exact ⟨rfl, rfl⟩
theorem idxMs : IdC 70 Ms.row Ms.v 7 := idC g70
theorem c193 (h : qBC V c d) {s : ByteArray} {l : Sl} {xs : List ByteArray} (hl : qAd V l 1 (xs.map qAV)) : PP 193 [sV c m sc, .string s, l.v] V (.tuple #[.string (qIf d s xs).1, .int .i64 (qIf d s xs).2]) := by
 refine Pur.mk (x193 ?_)
 unfold w193
 refine ⟨h.nn, h.nn, qAc h.nn, d.ms, h.cell (i := 4) rfl, fun b hb => ?_⟩
 have hs := Mem.sub_new hb (cell (.string s) 9)
 have h1 := h.sub hs
 have hl1 := hl.sub hs
 refine (idxMs (l := d.ms) (first := []) (caps := [pv b]) h1.ok.measures Tryz.call239 (fun t => decide (t.name = s)) (fun x _ => c239 mss)).call ⟨_, rfl, ?_⟩
 unfold qIf meOf
 have key : ∀ {X : ByteArray × Int} (a : ByteArray) (n : Int), X = (a, n) -> (Ending.returned (.tuple #[.string a, .int .i64 n]) = Ending.returned (.tuple #[.string X.1, .int .i64 X.2]) /\ V.sub (V.set b (cell (.string s) 9))) := fun a n h => by rw [h]; exact ⟨rfl, hs⟩
 rcases qAI (fun t : Ms => decide (t.name = s)) d.measures with ⟨h1, h2, h3⟩ | ⟨i, x, i1, i2, i3, i4, i5, i6, i7, _⟩
 ·rw [h1, h2]; exact ⟨fun _ => key _ _ rfl, fun h => absurd h (by decide)⟩
 ·rw [i1, i3]
  have hn := h1.ok.measures.n_eq
  have hlt : (i : Int) < (d.ms.n : Int) := by omega
  obtain ⟨y, hm, hx, hdr, hll, hp, hz, hrow⟩ := h1.ok.measures.get hlt
  rw [i2] at hx
  cases hx
  have e1 := hl1.n_eq
  refine ⟨fun h => absurd h (by omega), fun _ => ⟨fun he => ?_, fun he => key _ _ (if_pos (by omega))⟩⟩
  obtain ⟨a1, a2, a3⟩ := qDN hl1 (i := 0) (by omega)
  have e2 : ¬ (xs.length ≠ 1) := by omega
  refine ⟨a1, by omega, by omega, _, a3, h.nn, h.nn, qAc h.nn, d.ms, h1.cell (i := 4) rfl, hp, hz, hlt, qAc hp, _, _, _, _, _, _, _, hrow, (c194 h1).call ⟨_, rfl, fun hf => key _ _ ?_, fun hf => key _ _ ?_⟩⟩
  ·simp only [e2, if_false]; unfold qDc; rw [if_pos hf]; rfl
  ·simp only [e2, if_false]; unfold qDc; rw [if_neg hf]; rfl
theorem c197 {b : Nat} {s : ByteArray} {t : Nat} (hb : V b = some (cell (.string s) t)) {x : ByteArray} : PP 197 [strV x, pv b] V (.bool (!decide (x = s))) := by
 refine x197 ?_
 unfold w197
 exact ⟨_, qBt hb, rfl, rfl⟩
theorem c195 {b t : Nat} {l : Sl} {xs : List ByteArray} (hb : V b = some (cell (.slice l.p l.n l.c) t)) (hl : qAd V l 1 (xs.map qAV)) {s r : ByteArray} :
  PP 195 [.string s, .string r, pv b] V (.tuple #[.string (qDc (allT xs s) r).1, .int .i64 (qDc (allT xs s) r).2]) := by
 refine Pur.mk (x195 ?_)
 unfold w195
 refine ⟨l, qBt hb, fun b1 hb1 => ?_⟩
 have hs := Mem.sub_new hb1 (cell (.string s) 9)
 refine (c196 (l := l) (first := []) (caps := [pv b1]) (hl.sub hs) Tryz.call197 (fun x => !decide (x = s)) (fun x _ => c197 mss)).call ⟨_, rfl, fun h => ?_, fun h => ?_⟩
 ·rw [List.any_eq_not_all_not] at h
  have : allT xs s = false := by unfold allT; simpa using h
  rw [this]; exact ⟨rfl, hs⟩
 ·rw [List.any_eq_not_all_not] at h
  have : allT xs s = true := by unfold allT; simpa using h
  rw [this]; exact ⟨rfl, hs⟩
end
theorem fits_first {d : Ds} {a b : ByteArray} (h : qFD d a b = true) : (if a = sNil then b else a) = b := by
 unfold qFD at h
 split
 ·rfl
 ·rename_i hn
  rw [decide_eq_false hn, Bool.false_and, Bool.or_false] at h
  exact of_decide_eq_true h
theorem fits_second {d : Ds} {a b : ByteArray} (h : ¬ qFD d a b = true) (h2 : qFD d b a = true) : (if a = sNil then b else a) = a := by
 split
 ·rename_i hn
  unfold qFD at h h2
  by_cases e : b = a
  ·exact e
  ·rw [decide_eq_false e, Bool.false_or, Bool.and_eq_true] at h2
   exact absurd (by rw [hn, of_decide_eq_true h2.1]; simp) h
 ·rfl
def qEO (d : Ds) (sc : Sc) (s : ByteArray) (l : List ByteArray) : ByteArray × Int := if sc.body = true then qJQ d s l else qIf d s l
theorem measT_ne {d : Ds} {s : ByteArray} {l : List ByteArray} (h : (qIf d s l).2 = 0) : (qIf d s l).1 ≠ sE := by
 unfold qIf at h ⊢
 split at h
 ·exact absurd h (by decide)
 ·split at h
  ·exact absurd h (by decide)
  ·rename_i h'
   simp only [if_neg h']
   unfold qDc at h ⊢
   split at h
   ·rename_i h2; rw [if_pos h2]; simp only; decide
   ·exact absurd h (by decide)
theorem callE_raw (d : Ds) (sc : Sc) (s : ByteArray) (l : List ByteArray) : qIk d sc s l = if (qEO d sc s l).2 = 0 /\ (qEO d sc s l).1 = sE then (sE, 11) else qEO d sc s l := by
 unfold qIk qEO
 by_cases hb : sc.body = true
 ·simp only [if_pos hb]
 ·simp only [if_neg hb]
  split
  ·rename_i h; exact absurd h.2 (measT_ne h.1)
  ·rfl
section
variable {V : Mem} {d : Ds} {c : Option Addr} {m : Option Nat} {sc : Sc}
def ImpE (V : Mem) (d : Ds) (c : Option Addr) (m : Option Nat) (sc : Sc) (e : E) : Prop := ∀ V1, V.sub V1 -> PP 90 [sV c m sc, e.v] V1 (.tuple #[.string (qAy d sc e).1, .int .i64 (qAy d sc e).2])
def rawT (d : Ds) (sc : Sc) (e : E) : ByteArray × Int := if (partsT d sc [] e.k).2 ≠ 0 then (sE, (partsT d sc [] e.k).2) else qEO d sc e.s (partsT d sc [] e.k).1
theorem impCall (h : qBC V c d) (e : E) (he : E.Ok V e) (hlen : (e.k.length : Int) <= 6) (hk : ∀ x ∈ e.k, ImpE V d c m sc x) :
  PP 139 [sV c m sc, e.v] V (.tuple #[.string (rawT d sc e).1, .int .i64 (rawT d sc e).2]) := by
 have hr := he.rows
 refine Pur.mk (x139 ?_)
 unfold w139 rawT
 refine loop4s (mk := .string) (mc := .int .i64) (md := fun s : Sl => .slice s.p s.n s.c) (qAi []) 0 ⟨none, 0, 0⟩ qDn e.k.length (fun i s V1 => ∃ acc, Own V V1 9 1 s (acc.flatMap qAV) /\ partsT d sc [] e.k = partsT d sc acc (e.k.drop i) /\ acc.length = i) ⟨[], Own.nil (Mem.sub.refl _) _ _, rfl, rfl⟩ ?_
 rintro i b b' s V1 J hi ⟨acc, hown, hp, hlen'⟩ hJ
 have hr1 := hr.sub hown.sub
 refine ⟨fun hlt => ?_, fun hge => ?_⟩
 ·obtain ⟨x, hm, hx, hdr, hl, hpp, hz, hrow⟩ := hr1.get hlt
  rw [hdr, qBR] at hp
  refine ⟨hpp, hz, hlt, _, _, _, _, hrow, (hk x hm V1 hown.sub).call ⟨_, _, rfl, fun h0 => ?_, fun h0 => ?_⟩⟩
  ·intro b1 hb1
   rw [if_neg (fun h => h h0)] at hp
   refine app174 (s := s) (u := ⟨some ⟨b1, 0, none⟩, 1, 1⟩) (xs := acc) (ys := [(qAy d sc x).1]) rfl rfl (hown.new hb1 _) (qHp mss) (by simp; omega) fun s' V' ho => ⟨s', rfl, hr1.succ hlt, hJ hl _ _ _ _ ⟨_, ho, hp, by simp [hlen']⟩⟩
  ·rw [if_pos h0] at hp
   rw [hp]
   simp only [ne_eq, h0, not_false_eq_true, if_true]
   exact ⟨by trivial, hown.sub⟩
 ·rw [(hr1.done hge).1, qCi] at hp
  rw [hp]
  simp only [ne_eq, not_true_eq_false, if_false]
  have hrows := ownS hown
  have h1 := h.sub hown.sub
  have key : ∀ {X : ByteArray × Int} (a : ByteArray) (n : Int), X = (a, n) -> (Ending.returned (.tuple #[.string a, .int .i64 n]) = Ending.returned (.tuple #[.string X.1, .int .i64 X.2]) /\ V.sub V1) := fun a n h => by rw [h]; exact ⟨rfl, hown.sub⟩
  unfold qEO
  refine ⟨fun hb => ?_, fun hb => ?_⟩
  ·rw [if_pos hb]
   obtain ⟨mt, q1, q2⟩ := h1.procs
   refine ⟨h.nn, h.nn, _, q1, qBv.str Tryz.underlying208 Tryz.underlying9 zero146 q2 ?_⟩
   unfold qJQ
   cases hpr : qFd d e.s with
   | none => exact ⟨_, ⟨none, 0, 0⟩, _, ⟨none, 0, 0⟩, ⟨none, 0, 0⟩, _, rfl, fun h => absurd h (by simp), fun _ => key _ _ rfl⟩
   | some p =>
    have hox := h1.ok.procsOk p (qJs hpr)
    have e1 := hrows.n_eq
    have e2 := hox.params.n_eq
    refine ⟨_, p.ps, _, p.ls, p.bs, _, rfl, fun _ => ⟨fun he => ?_, fun he => key _ _ (if_pos (by omega))⟩, fun h => absurd rfl h⟩
    have hle : acc.length = p.params.length := by omega
    simp only [hle, ne_eq, not_true_eq_false, if_false]
    refine qDA acc.length (fun i V2 => V1 = V2 /\ qED d acc p.params = qED d (acc.drop i) (p.params.drop i)) ⟨rfl, rfl⟩ ?_
    rintro j b c' V2 J hi ⟨rfl, ha⟩ hJ
    refine ⟨fun hlt => ?_, fun hge => ?_⟩
    ·obtain ⟨y, hm', hx', hdr', hl', hp', hz', hrow'⟩ := hrows.get hlt
     obtain ⟨f, hmf, hxf, hdf, hlf, hpf, hzf, hrowf⟩ := hox.params.get (i := j) (by omega)
     rw [hdr', hdf, qED] at ha
     refine ⟨hp', hz', hlt, _, hrow', hpf, hzf, by omega, qAc hpf, _, _, hrowf, (c194 h1).call ⟨_, rfl, fun hb => ⟨hrows.succ hlt, hJ hl' _ _ _ ⟨rfl, ?_⟩⟩, fun hb => key _ _ ?_⟩⟩
     ·rw [ha, hb, Bool.true_and]
     ·rw [eq_false_of_ne_true hb, Bool.false_and] at ha; rw [ha]; rfl
    ·rw [(hrows.done hge).1, qIT] at ha
     exact key _ _ (by rw [ha]; rfl)
  ·rw [if_neg hb]
   exact (c193 h1 hrows).call ⟨_, _, rfl, key _ _ rfl⟩
theorem impNode (h : qBC V c d) (hv : VNe d) (hs : qGC V m sc) {e : E} {l : Sl} {xs : List ByteArray} (hl : qAd V l 1 (xs.map qAV)) (hlen : xs.length = e.k.length) (hok : qDb e.op e.n e.s e.k.length = true) (h7 : e.op ≠ 7) :
  PP 140 [sV c m sc, e.v, l.v] V (.tuple #[.string (qHr d sc e.op e.s xs).1, .int .i64 (qHr d sc e.op e.s xs).2]) := by
 have har := arity hok
 refine Pur.mk (x140 ?_)
 unfold w140
 generalize hX : qHr d sc e.op e.s xs = X
 have key : ∀ {V1 : Mem} (a : ByteArray) (n : Int), V.sub V1 -> X = (a, n) -> (Ending.returned (.tuple #[.string a, .int .i64 n]) = Ending.returned (.tuple #[.string X.1, .int .i64 X.2]) /\ V.sub V1) := fun a n h1 h => by rw [h]; exact ⟨rfl, h1⟩
 have rf := Mem.sub.refl V
 have cFits := fun a b => c194 h (s := a) (t := b)
 have at0 := fun h : 0 < xs.length => qDN hl h
 have at1 := fun h : 1 < xs.length => qDN hl h
 have at2 := fun h : 2 < xs.length => qDN hl h
 have call : ∀ (s r : ByteArray), X = qDc (allT xs s) r -> qAn [(.slice l.p l.n l.c)] 174 V fun v8 V1 =>
   Tri Tryz.prog 195 #[(.string s), (.string r), (.pointer (qAa v8 0))] V1 fun z V2 => ∃ v9 : ByteArray, ∃ v10 : Int, z = .returned (.tuple #[(.string v9), (.int .i64 v10)]) /\ (Ending.returned (.tuple #[(.string v9), (.int .i64 v10)]) = Ending.returned (.tuple #[.string X.1, .int .i64 X.2]) /\ V.sub V2) := fun s r hx b hb => by
  have h1 := Mem.sub_new hb (cell (.slice l.p l.n l.c) 174)
  exact (c195 (l := l) mss (hl.sub h1)).call ⟨_, _, rfl, key _ _ h1 (by rw [hx])⟩
 unfold qHr at hX
 refine ⟨fun o1 => key _ _ rf ?_, fun o1 => ⟨fun o2 => key _ _ rf ?_, fun o2 => ⟨fun o3 => key _ _ rf ?_, fun o3 => ⟨fun o4 => ?_, fun o4 => ⟨fun o5 => ?_, fun o5 => ⟨fun o6 => ?_, fun o6 => ⟨fun o14 => ?_, fun o14 => ⟨fun o15 => ?_, fun o15 => ⟨fun o16 => call _ _ ?_, fun o16 => ⟨fun o17 => call _ _ ?_, fun o17 => ⟨fun o18 => call _ _ ?_, fun o18 => ⟨fun o19 => call _ _ ?_, fun o19 => ⟨fun o20 => call _ _ ?_, fun o20 => ⟨fun o21 => ?_, fun o21 => call _ _ ?_⟩⟩⟩⟩⟩⟩⟩⟩⟩⟩⟩⟩⟩⟩
 ·rw [<- hX, if_pos o1]; rfl
 ·rw [<- hX, if_neg o1, if_pos o2]; rfl
 ·rw [<- hX, if_neg o1, if_neg o2, if_pos o3]; rfl
 ·rw [if_neg o1, if_neg o2, if_neg o3, if_pos o4, qIp] at hX
  obtain ⟨mb, rfl, hmap⟩ := hs.at_
  refine qBv.str Tryz.underlying163 Tryz.underlying9 zero9 hmap ?_
  cases hvv : qBH sc.vars e.s with
  | none =>
   rw [hvv, Option.getD_none] at hX
   exact ⟨_, _, rfl, fun h => absurd h (by simp), fun _ => key _ _ rf (by rw [<- hX, if_pos rfl]; rfl)⟩
  | some t =>
   rw [hvv, Option.getD_some] at hX
   exact ⟨t, _, rfl, fun _ => key _ _ rf (by rw [<- hX, if_neg (hs.ne.some hvv)]), fun h => absurd rfl h⟩
 ·rw [if_neg o1, if_neg o2, if_neg o3, if_neg o4, if_pos o5] at hX
  obtain ⟨a1, a2, a3⟩ := at0 (by have := har.1 o5; omega)
  exact ⟨a1, by omega, a2, _, a3, (c198 h hv).call ⟨_, _, rfl, key _ _ rf (by rw [<- hX])⟩⟩
 ·rw [if_neg o1, if_neg o2, if_neg o3, if_neg o4, if_neg o5, if_pos o6] at hX
  refine ⟨fun hb => (c88 h).call ⟨_, rfl, fun hn => key _ _ rf ?_, fun hn => key _ _ rf ?_⟩, fun hb => key _ _ rf ?_⟩
  ·rw [<- hX, if_neg (by rw [hb]; simp), if_neg (by rw [hn]; simp)]
  ·rw [<- hX, if_neg (by rw [hb]; simp), if_pos (eq_false_of_ne_true hn)]; rfl
  ·rw [<- hX, if_pos (eq_false_of_ne_true hb)]; rfl
 iterate 2
  ·rw [if_neg o1, if_neg o2, if_neg o3, if_neg o4, if_neg o5, if_neg o6, if_neg h7, if_pos (by omega)] at hX
   obtain ⟨a1, a2, a3⟩ := at0 (by have := har.2.1 (by omega); omega)
   obtain ⟨b1, b2, b3⟩ := at1 (by have := har.2.1 (by omega); omega)
   refine ⟨a1, by omega, a2, _, a3, b1, by omega, b2, _, b3, (cFits _ _).call ⟨_, rfl, fun h => key _ _ rf ?_, fun h => ⟨b1, by omega, b2, _, b3, a1, by omega, a2, _, a3, (cFits _ _).call ⟨_, rfl, fun h2 => key _ _ rf ?_, fun h2 => key _ _ rf ?_⟩⟩⟩⟩
   ·rw [<- hX, h]; rfl
   ·rw [<- hX, h2, Bool.or_true]; rfl
   ·rw [<- hX, eq_false_of_ne_true h, eq_false_of_ne_true h2]; rfl
 iterate 2
  ·rw [if_neg o1, if_neg o2, if_neg o3, if_neg o4, if_neg o5, if_neg o6, if_neg h7, if_neg (by omega), if_pos (by omega)] at hX
   exact hX.symm
 iterate 3
  ·rw [if_neg o1, if_neg o2, if_neg o3, if_neg o4, if_neg o5, if_neg o6, if_neg h7, if_neg (by omega), if_neg (by omega), if_pos (by omega)] at hX
   exact hX.symm
 ·rw [if_neg o1, if_neg o2, if_neg o3, if_neg o4, if_neg o5, if_neg o6, if_neg h7, if_neg (by omega), if_neg (by omega), if_neg (by omega), if_pos o21] at hX
  obtain ⟨a1, a2, a3⟩ := at0 (by have := har.2.2.1 o21; omega)
  obtain ⟨b1, b2, b3⟩ := at1 (by have := har.2.2.1 o21; omega)
  obtain ⟨c1, c2, c3⟩ := at2 (by have := har.2.2.1 o21; omega)
  refine ⟨a1, by omega, a2, _, a3, fun h0 => ⟨b1, by omega, b2, _, b3, c1, by omega, c2, _, c3, (cFits _ _).call ⟨_, rfl, fun h => ⟨c1, by omega, c2, _, c3, key _ _ rf ?_⟩, fun h => ⟨c1, by omega, c2, _, c3, b1, by omega, b2, _, b3, (cFits _ _).call ⟨_, rfl, fun h2 => ⟨b1, by omega, b2, _, b3, key _ _ rf ?_⟩, fun h2 => key _ _ rf ?_⟩⟩⟩⟩, fun h0 => key _ _ rf ?_⟩
  ·rw [<- hX, decide_eq_true (show xs.getD 0 sE = qAt from h0), h, fits_first h]; rfl
  ·rw [<- hX, decide_eq_true (show xs.getD 0 sE = qAt from h0), h2, Bool.or_true, fits_second h h2]; rfl
  ·rw [<- hX, decide_eq_true (show xs.getD 0 sE = qAt from h0), eq_false_of_ne_true h, eq_false_of_ne_true h2]; rfl
  ·rw [<- hX, decide_eq_false (show ¬ xs.getD 0 sE = qAt from h0)]; rfl
 ·rw [if_neg o1, if_neg o2, if_neg o3, if_neg o4, if_neg o5, if_neg o6, if_neg h7, if_neg (by omega), if_neg (by omega), if_neg (by omega), if_neg o21] at hX
  exact hX.symm
theorem impExpr (h : qBC V c d) (hv : VNe d) (hs : qGC V m sc) : ∀ (e : E), E.Ok V e -> ∀ dd, okE dd e = true -> ImpE V d c m sc e := by
 intro e
 induction e using E.ind with
 | h e ih =>
 intro he dd hok V1 hV
 have har := arity (qFf hok)
 have hk : ∀ x ∈ e.k, ImpE V1 d c m sc x := fun x hx V2 h2 => ih x hx (he.kids x hx) (dd + 1) (qGF hok x hx) V2 (hV.trans h2)
 have h1 := h.sub hV
 refine Pur.mk (x90 ?_)
 unfold w90
 have hlen := qFN d sc e.k []
 refine ⟨fun o7 => (impCall h1 e (he.sub hV) har.2.2.2 hk).call ⟨_, _, rfl, ?_⟩, fun o7 => ?_⟩
 ·have hex : qAy d sc e = if (rawT d sc e).2 = 0 /\ (rawT d sc e).1 = sE then (sE, 11) else rawT d sc e := by
   rw [qGN]
   unfold rawT
   by_cases h0 : (partsT d sc [] e.k).2 ≠ 0
   ·rw [if_pos h0, if_pos h0, if_neg (fun h => h0 h.1)]
   ·rw [if_neg h0, if_neg h0]
    unfold qHr
    rw [if_neg (by omega), if_neg (by omega), if_neg (by omega), if_neg (by omega), if_neg (by omega), if_neg (by omega), if_pos o7, callE_raw]
  rw [hex]
  refine ⟨fun h0 => ⟨fun h2 => ?_, fun h2 => ?_⟩, fun h0 => ?_⟩
  ·rw [if_pos ⟨h0, h2⟩]; exact ⟨rfl, Mem.sub.refl _⟩
  ·rw [if_neg (fun h => h2 h.2)]; exact ⟨rfl, Mem.sub.refl _⟩
  ·rw [if_neg (fun h => h0 h.1)]; exact ⟨rfl, Mem.sub.refl _⟩
 ·rw [qGN]
  have hr := (he.sub hV).rows
  refine loop4s (mk := .string) (mc := .int .i64) (md := fun s : Sl => .slice s.p s.n s.c) (qAi []) 0 ⟨none, 0, 0⟩ qDn e.k.length (fun i s V2 => ∃ acc, Own V1 V2 9 1 s (acc.flatMap qAV) /\ partsT d sc [] e.k = partsT d sc acc (e.k.drop i) /\ acc.length = i) ⟨[], Own.nil (Mem.sub.refl _) _ _, rfl, rfl⟩ ?_
  rintro i b b' s V2 J hi ⟨acc, hown, hp, hlen'⟩ hJ
  have hr1 := hr.sub hown.sub
  refine ⟨fun hlt => ?_, fun hge => ?_⟩
  ·obtain ⟨x, hm, hx, hdr, hl, hpp, hz, hrow⟩ := hr1.get hlt
   rw [hdr, qBR] at hp
   refine ⟨hpp, hz, hlt, _, _, _, _, hrow, (hk x hm V2 hown.sub).call ⟨_, _, rfl, fun h0 => ?_, fun h0 => ?_⟩⟩
   ·intro b1 hb1
    rw [if_neg (fun h => h h0)] at hp
    refine app174 (s := s) (u := ⟨some ⟨b1, 0, none⟩, 1, 1⟩) (xs := acc) (ys := [(qAy d sc x).1]) rfl rfl (hown.new hb1 _) (qHp mss) (by simp; omega) fun s' V' ho => ⟨s', rfl, hr1.succ hlt, hJ hl _ _ _ _ ⟨_, ho, hp, by simp [hlen']⟩⟩
   ·rw [if_pos h0] at hp
    rw [hp]
    simp only [ne_eq, h0, not_false_eq_true, if_true]
    exact ⟨by trivial, hown.sub⟩
  ·have hge' := (hr1.done hge).2
   rw [(hr1.done hge).1, qCi] at hp
   rw [hp]
   simp only [ne_eq, not_true_eq_false, if_false]
   refine (impNode (h1.sub hown.sub) hv ((hs.sub hV).sub hown.sub) (ownS hown) (by omega) (qFf hok) o7).call ⟨_, _, rfl, rfl, hown.sub⟩
end
theorem qGe {c k : Nat} {p : Option Addr} : (if (c : Int) = (0 : Int) then p else qAa p ((0 : Int).toNat * k)) = p := by
 have : qAa p ((0 : Int).toNat * k) = p := by
  rw [show (0 : Int).toNat * k = 0 by simp]
  cases p with
  | none => rfl
  | some a => show some (a.add 0) = _; unfold Addr.add; rw [if_pos rfl]
 split
 ·rfl
 ·exact this
theorem sub0 {n : Nat} : ((n : Int) - (0 : Int)).toNat = n := by omega
theorem qAd.pre {α : Type} {V : Mem} {l : Sl} {sz : Nat} {row : α -> List Value} {xs : List α} (h : qAd V l sz (xs.map row)) {i : Nat} (hi : i <= xs.length) : qAd V ⟨l.p, i, l.c⟩ sz ((xs.take i).map row) := by
 have hn := h.n_eq
 have hc := h.cap
 refine ⟨by simp [hi], by show i <= l.c; omega, h.fit, fun r hr => h.size r ?_, fun j r hj => h.at_ j r ?_⟩
 ·rw [List.map_take] at hr; exact List.mem_of_mem_take hr
 ·rw [List.map_take, List.getElem?_take] at hj
  split at hj
  ·exact hj
  ·cases hj
theorem qBM {V : Mem} {p : Option Addr} {off n : Nat} {vs : List Value} (h : V.rowp p off n = some vs) : V.rowp (qAa p off) 0 n = some vs := by
 cases p with
 | none => cases h
 | some a =>
  have : (a.add off).add 0 = a.add off := by rw [qER]; rfl
  show V.row ((a.add off).add 0) n = _
  rw [this]; exact h
theorem c216 {V : Mem} {x : Ty} : PP 216 [x.v] V (.string x.name) := by
 refine x216 ?_
 exact ⟨rfl, rfl⟩
theorem c246 {V : Mem} {b1 b2 b3 t1 t2 t3 i : Nat} {l : Sl} {xs : List Ty} {x y : Ty} (h1 : V b1 = some (cell (.func (.func 216) #[] #[]) t1)) (h2 : V b2 = some (cell (.slice l.p l.n l.c) t2)) (h3 : V b3 = some (cell (.int .i64 i) t3))
  (hr : qAd V l 2 (xs.map Ty.row)) (hy : xs[i]? = some y) : PP 246 [x.v, pv b1, pv b2, pv b3] V (.bool (decide (x.name = y.name))) := by
 refine x246 ?_
 unfold w246
 have hn := hr.n_eq
 have hil := (List.getElem?_eq_some_iff.1 hy).1
 have hlt : (i : Int) < (l.n : Int) := by omega
 obtain ⟨y', hm, hx, hdr, hl, hp, hz, hrow⟩ := hr.get hlt
 rw [hy] at hx
 cases hx
 exact ⟨.func (.func 216) #[] #[], rfl, qBt h1, .func (.func 216) #[] #[], rfl, qBt h1, l, qBt h2, _, qBt h3, hp, hz, hlt, _, _, hrow, _, _, _, rfl, Tryz.call216, (c216 (x := x)).callv (first := []) (caps := []) ⟨_, rfl, qBM hrow, hp, hz, hlt, qBt h3, qBt h2, qBt h1, _, _, _, rfl, Tryz.call216, (c216 (x := y)).callv (first := []) (caps := []) ⟨_, rfl, rfl, rfl⟩⟩⟩
theorem c215 {V : Mem} {l : Sl} {xs : List Ty} {i : Nat} {y : Ty} (hr : qAd V l 2 (xs.map Ty.row)) (hy : xs[i]? = some y) : PP 215 [l.v, .int .i64 i, .func (.func 216) #[] #[]] V (.bool ((xs.take i).any fun g => decide (g.name = y.name))) := by
 refine Pur.mk (x215 (a := l) (c := .func (.func 216) #[] #[]) ?_)
 unfold w215
 have hn := hr.n_eq
 have hc := hr.cap
 have hil := (List.getElem?_eq_some_iff.1 hy).1
 refine ⟨⟨by omega, by omega, by omega⟩, fun b1 hb1 b2 hb2 b3 hb3 => ?_⟩
 have s := (Mem.sub_new hb1 _).trans ((Mem.sub_new hb2 _).trans (Mem.sub_new hb3 (cell (.int .i64 i) 3)))
 simp only [qGe, sub0]
 refine (c155 (l := ⟨l.p, i, l.c⟩) (first := []) (caps := [pv b1, pv b2, pv b3]) (qAd.pre (hr.sub s) (by omega)) Tryz.call246 (fun g => decide (g.name = y.name)) (fun x _ => c246 ((Mem.sub_new hb3 _) _ _ ((Mem.sub_new hb2 _) _ _ mss)) ((Mem.sub_new hb3 _) _ _ mss) mss (hr.sub s) hy)).call ⟨_, rfl, rfl, s⟩
theorem c219 {V : Mem} {x : Fld} : PP 219 [x.v] V (.string x.name) := by
 refine x219 ?_
 exact ⟨rfl, rfl⟩
theorem c248 {V : Mem} {b1 b2 b3 t1 t2 t3 i : Nat} {l : Sl} {xs : List Fld} {x y : Fld} (h1 : V b1 = some (cell (.func (.func 219) #[] #[]) t1)) (h2 : V b2 = some (cell (.slice l.p l.n l.c) t2)) (h3 : V b3 = some (cell (.int .i64 i) t3))
  (hr : qAd V l 2 (xs.map Fld.row)) (hy : xs[i]? = some y) : PP 248 [x.v, pv b1, pv b2, pv b3] V (.bool (decide (x.name = y.name))) := by
 refine x248 ?_
 unfold w248
 have hn := hr.n_eq
 have hil := (List.getElem?_eq_some_iff.1 hy).1
 have hlt : (i : Int) < (l.n : Int) := by omega
 obtain ⟨y', hm, hx, hdr, hl, hp, hz, hrow⟩ := hr.get hlt
 rw [hy] at hx
 cases hx
 exact ⟨.func (.func 219) #[] #[], rfl, qBt h1, .func (.func 219) #[] #[], rfl, qBt h1, l, qBt h2, _, qBt h3, hp, hz, hlt, _, _, hrow, _, _, _, rfl, Tryz.call219, (c219 (x := x)).callv (first := []) (caps := []) ⟨_, rfl, qBM hrow, hp, hz, hlt, qBt h3, qBt h2, qBt h1, _, _, _, rfl, Tryz.call219, (c219 (x := y)).callv (first := []) (caps := []) ⟨_, rfl, rfl, rfl⟩⟩⟩
theorem c218 {V : Mem} {l : Sl} {xs : List Fld} {i : Nat} {y : Fld} (hr : qAd V l 2 (xs.map Fld.row)) (hy : xs[i]? = some y) : PP 218 [l.v, .int .i64 i, .func (.func 219) #[] #[]] V (.bool ((xs.take i).any fun g => decide (g.name = y.name))) := by
 refine Pur.mk (x218 (a := l) (c := .func (.func 219) #[] #[]) ?_)
 unfold w218
 have hn := hr.n_eq
 have hc := hr.cap
 have hil := (List.getElem?_eq_some_iff.1 hy).1
 refine ⟨⟨by omega, by omega, by omega⟩, fun b1 hb1 b2 hb2 b3 hb3 => ?_⟩
 have s := (Mem.sub_new hb1 _).trans ((Mem.sub_new hb2 _).trans (Mem.sub_new hb3 (cell (.int .i64 i) 3)))
 simp only [qGe, sub0]
 refine (c168 (l := ⟨l.p, i, l.c⟩) (first := []) (caps := [pv b1, pv b2, pv b3]) (qAd.pre (hr.sub s) (by omega)) Tryz.call248 (fun g => decide (g.name = y.name)) (fun x _ => c248 ((Mem.sub_new hb3 _) _ _ ((Mem.sub_new hb2 _) _ _ mss)) ((Mem.sub_new hb3 _) _ _ mss) mss (hr.sub s) hy)).call ⟨_, rfl, rfl, s⟩
theorem c222 {V : Mem} {x : Pr} : PP 222 [x.v] V (.string x.name) := by
 refine x222 ?_
 exact ⟨rfl, rfl⟩
theorem c249 {V : Mem} {b1 b2 b3 t1 t2 t3 i : Nat} {l : Sl} {xs : List Pr} {x y : Pr} (h1 : V b1 = some (cell (.func (.func 222) #[] #[]) t1)) (h2 : V b2 = some (cell (.slice l.p l.n l.c) t2)) (h3 : V b3 = some (cell (.int .i64 i) t3))
  (hr : qAd V l 5 (xs.map Pr.row)) (hy : xs[i]? = some y) : PP 249 [x.v, pv b1, pv b2, pv b3] V (.bool (decide (x.name = y.name))) := by
 refine x249 ?_
 unfold w249
 have hn := hr.n_eq
 have hil := (List.getElem?_eq_some_iff.1 hy).1
 have hlt : (i : Int) < (l.n : Int) := by omega
 obtain ⟨y', hm, hx, hdr, hl, hp, hz, hrow⟩ := hr.get hlt
 rw [hy] at hx
 cases hx
 exact ⟨.func (.func 222) #[] #[], rfl, qBt h1, .func (.func 222) #[] #[], rfl, qBt h1, l, qBt h2, _, qBt h3, hp, hz, hlt, _, _, _, _, _, hrow, _, _, _, rfl, Tryz.call222, (c222 (x := x)).callv (first := []) (caps := []) ⟨_, rfl, qBM hrow, hp, hz, hlt, qBt h3, qBt h2, qBt h1, _, _, _, rfl, Tryz.call222, (c222 (x := y)).callv (first := []) (caps := []) ⟨_, rfl, rfl, rfl⟩⟩⟩
theorem c221 {V : Mem} {l : Sl} {xs : List Pr} {i : Nat} {y : Pr} (hr : qAd V l 5 (xs.map Pr.row)) (hy : xs[i]? = some y) : PP 221 [l.v, .int .i64 i, .func (.func 222) #[] #[]] V (.bool ((xs.take i).any fun g => decide (g.name = y.name))) := by
 refine Pur.mk (x221 (a := l) (c := .func (.func 222) #[] #[]) ?_)
 unfold w221
 have hn := hr.n_eq
 have hc := hr.cap
 have hil := (List.getElem?_eq_some_iff.1 hy).1
 refine ⟨⟨by omega, by omega, by omega⟩, fun b1 hb1 b2 hb2 b3 hb3 => ?_⟩
 have s := (Mem.sub_new hb1 _).trans ((Mem.sub_new hb2 _).trans (Mem.sub_new hb3 (cell (.int .i64 i) 3)))
 simp only [qGe, sub0]
 refine (c157 (l := ⟨l.p, i, l.c⟩) (first := []) (caps := [pv b1, pv b2, pv b3]) (qAd.pre (hr.sub s) (by omega)) Tryz.call249 (fun g => decide (g.name = y.name)) (fun x _ => c249 ((Mem.sub_new hb3 _) _ _ ((Mem.sub_new hb2 _) _ _ mss)) ((Mem.sub_new hb3 _) _ _ mss) mss (hr.sub s) hy)).call ⟨_, rfl, rfl, s⟩
theorem c225 {V : Mem} {x : Ms} : PP 225 [x.v] V (.string x.name) := by
 refine x225 ?_
 exact ⟨rfl, rfl⟩
theorem c252 {V : Mem} {b1 b2 b3 t1 t2 t3 i : Nat} {l : Sl} {xs : List Ms} {x y : Ms} (h1 : V b1 = some (cell (.func (.func 225) #[] #[]) t1)) (h2 : V b2 = some (cell (.slice l.p l.n l.c) t2)) (h3 : V b3 = some (cell (.int .i64 i) t3))
  (hr : qAd V l 7 (xs.map Ms.row)) (hy : xs[i]? = some y) : PP 252 [x.v, pv b1, pv b2, pv b3] V (.bool (decide (x.name = y.name))) := by
 refine x252 ?_
 unfold w252
 have hn := hr.n_eq
 have hil := (List.getElem?_eq_some_iff.1 hy).1
 have hlt : (i : Int) < (l.n : Int) := by omega
 obtain ⟨y', hm, hx, hdr, hl, hp, hz, hrow⟩ := hr.get hlt
 rw [hy] at hx
 cases hx
 exact ⟨.func (.func 225) #[] #[], rfl, qBt h1, .func (.func 225) #[] #[], rfl, qBt h1, l, qBt h2, _, qBt h3, hp, hz, hlt, _, _, _, _, _, _, _, hrow, _, _, _, rfl, Tryz.call225, (c225 (x := x)).callv (first := []) (caps := []) ⟨_, rfl, qBM hrow, hp, hz, hlt, qBt h3, qBt h2, qBt h1, _, _, _, rfl, Tryz.call225, (c225 (x := y)).callv (first := []) (caps := []) ⟨_, rfl, rfl, rfl⟩⟩⟩
theorem c224 {V : Mem} {l : Sl} {xs : List Ms} {i : Nat} {y : Ms} (hr : qAd V l 7 (xs.map Ms.row)) (hy : xs[i]? = some y) : PP 224 [l.v, .int .i64 i, .func (.func 225) #[] #[]] V (.bool ((xs.take i).any fun g => decide (g.name = y.name))) := by
 refine Pur.mk (x224 (a := l) (c := .func (.func 225) #[] #[]) ?_)
 unfold w224
 have hn := hr.n_eq
 have hc := hr.cap
 have hil := (List.getElem?_eq_some_iff.1 hy).1
 refine ⟨⟨by omega, by omega, by omega⟩, fun b1 hb1 b2 hb2 b3 hb3 => ?_⟩
 have s := (Mem.sub_new hb1 _).trans ((Mem.sub_new hb2 _).trans (Mem.sub_new hb3 (cell (.int .i64 i) 3)))
 simp only [qGe, sub0]
 refine (c251 (l := ⟨l.p, i, l.c⟩) (first := []) (caps := [pv b1, pv b2, pv b3]) (qAd.pre (hr.sub s) (by omega)) Tryz.call252 (fun g => decide (g.name = y.name)) (fun x _ => c252 ((Mem.sub_new hb3 _) _ _ ((Mem.sub_new hb2 _) _ _ mss)) ((Mem.sub_new hb3 _) _ _ mss) mss (hr.sub s) hy)).call ⟨_, rfl, rfl, s⟩
theorem c227 {V : Mem} {x : Iv} : PP 227 [x.v] V (.string x.name) := by
 refine x227 ?_
 exact ⟨rfl, rfl⟩
theorem c254 {V : Mem} {b1 b2 b3 t1 t2 t3 i : Nat} {l : Sl} {xs : List Iv} {x y : Iv} (h1 : V b1 = some (cell (.func (.func 227) #[] #[]) t1)) (h2 : V b2 = some (cell (.slice l.p l.n l.c) t2)) (h3 : V b3 = some (cell (.int .i64 i) t3))
  (hr : qAd V l 6 (xs.map Iv.row)) (hy : xs[i]? = some y) : PP 254 [x.v, pv b1, pv b2, pv b3] V (.bool (decide (x.name = y.name))) := by
 refine x254 ?_
 unfold w254
 have hn := hr.n_eq
 have hil := (List.getElem?_eq_some_iff.1 hy).1
 have hlt : (i : Int) < (l.n : Int) := by omega
 obtain ⟨y', hm, hx, hdr, hl, hp, hz, hrow⟩ := hr.get hlt
 rw [hy] at hx
 cases hx
 exact ⟨.func (.func 227) #[] #[], rfl, qBt h1, .func (.func 227) #[] #[], rfl, qBt h1, l, qBt h2, _, qBt h3, hp, hz, hlt, _, _, _, _, _, _, hrow, _, _, _, rfl, Tryz.call227, (c227 (x := x)).callv (first := []) (caps := []) ⟨_, rfl, qBM hrow, hp, hz, hlt, qBt h3, qBt h2, qBt h1, _, _, _, rfl, Tryz.call227, (c227 (x := y)).callv (first := []) (caps := []) ⟨_, rfl, rfl, rfl⟩⟩⟩
theorem c226 {V : Mem} {l : Sl} {xs : List Iv} {i : Nat} {y : Iv} (hr : qAd V l 6 (xs.map Iv.row)) (hy : xs[i]? = some y) : PP 226 [l.v, .int .i64 i, .func (.func 227) #[] #[]] V (.bool ((xs.take i).any fun g => decide (g.name = y.name))) := by
 refine Pur.mk (x226 (a := l) (c := .func (.func 227) #[] #[]) ?_)
 unfold w226
 have hn := hr.n_eq
 have hc := hr.cap
 have hil := (List.getElem?_eq_some_iff.1 hy).1
 refine ⟨⟨by omega, by omega, by omega⟩, fun b1 hb1 b2 hb2 b3 hb3 => ?_⟩
 have s := (Mem.sub_new hb1 _).trans ((Mem.sub_new hb2 _).trans (Mem.sub_new hb3 (cell (.int .i64 i) 3)))
 simp only [qGe, sub0]
 refine (c253 (l := ⟨l.p, i, l.c⟩) (first := []) (caps := [pv b1, pv b2, pv b3]) (qAd.pre (hr.sub s) (by omega)) Tryz.call254 (fun g => decide (g.name = y.name)) (fun x _ => c254 ((Mem.sub_new hb3 _) _ _ ((Mem.sub_new hb2 _) _ _ mss)) ((Mem.sub_new hb3 _) _ _ mss) mss (hr.sub s) hy)).call ⟨_, rfl, rfl, s⟩
theorem c229 {V : Mem} {x : Bd} : PP 229 [x.v] V (.string x.proc) := by
 refine x229 ?_
 exact ⟨rfl, rfl⟩
theorem c255 {V : Mem} {b1 b2 b3 t1 t2 t3 i : Nat} {l : Sl} {xs : List Bd} {x y : Bd} (h1 : V b1 = some (cell (.func (.func 229) #[] #[]) t1)) (h2 : V b2 = some (cell (.slice l.p l.n l.c) t2)) (h3 : V b3 = some (cell (.int .i64 i) t3))
  (hr : qAd V l 5 (xs.map Bd.row)) (hy : xs[i]? = some y) : PP 255 [x.v, pv b1, pv b2, pv b3] V (.bool (decide (x.proc = y.proc))) := by
 refine x255 ?_
 unfold w255
 have hn := hr.n_eq
 have hil := (List.getElem?_eq_some_iff.1 hy).1
 have hlt : (i : Int) < (l.n : Int) := by omega
 obtain ⟨y', hm, hx, hdr, hl, hp, hz, hrow⟩ := hr.get hlt
 rw [hy] at hx
 cases hx
 exact ⟨.func (.func 229) #[] #[], rfl, qBt h1, .func (.func 229) #[] #[], rfl, qBt h1, l, qBt h2, _, qBt h3, hp, hz, hlt, _, _, _, _, _, hrow, _, _, _, rfl, Tryz.call229, (c229 (x := x)).callv (first := []) (caps := []) ⟨_, rfl, qBM hrow, hp, hz, hlt, qBt h3, qBt h2, qBt h1, _, _, _, rfl, Tryz.call229, (c229 (x := y)).callv (first := []) (caps := []) ⟨_, rfl, rfl, rfl⟩⟩⟩
theorem c228 {V : Mem} {l : Sl} {xs : List Bd} {i : Nat} {y : Bd} (hr : qAd V l 5 (xs.map Bd.row)) (hy : xs[i]? = some y) : PP 228 [l.v, .int .i64 i, .func (.func 229) #[] #[]] V (.bool ((xs.take i).any fun g => decide (g.proc = y.proc))) := by
 refine Pur.mk (x228 (a := l) (c := .func (.func 229) #[] #[]) ?_)
 unfold w228
 have hn := hr.n_eq
 have hc := hr.cap
 have hil := (List.getElem?_eq_some_iff.1 hy).1
 refine ⟨⟨by omega, by omega, by omega⟩, fun b1 hb1 b2 hb2 b3 hb3 => ?_⟩
 have s := (Mem.sub_new hb1 _).trans ((Mem.sub_new hb2 _).trans (Mem.sub_new hb3 (cell (.int .i64 i) 3)))
 simp only [qGe, sub0]
 refine (c208 (l := ⟨l.p, i, l.c⟩) (first := []) (caps := [pv b1, pv b2, pv b3]) (qAd.pre (hr.sub s) (by omega)) Tryz.call255 (fun g => decide (g.proc = y.proc)) (fun x _ => c255 ((Mem.sub_new hb3 _) _ _ ((Mem.sub_new hb2 _) _ _ mss)) ((Mem.sub_new hb3 _) _ _ mss) mss (hr.sub s) hy)).call ⟨_, rfl, rfl, s⟩
end Go.Proofs
namespace Go.Proofs
open Go Go.Sx
theorem wrap_id {n : Nat} (h : n <= 2147483648) : IntKind.wrap .i64 (n : Int) = n := qEb ⟨by show (-9223372036854775808 : Int) <= n; omega, by show (n : Int) <= 9223372036854775807; omega⟩
theorem qGx {P : Program} (w : World) (t u ty e : TypeId) (i : TypeInfo) (z : Value) (ht : P.underlying t = some (.slice e)) (hu : P.underlying u = some (.int .i64)) (hi : P.info? e = some i) (hz : i.zero = some z)
  (n : Nat) (h0 : 0 < n) (hn : n <= 2147483648) (hb : i.bytes <= 65536) (hs : 0 < i.size) :
  (Builtin.append_ #[t, u] ty #[.slice none 0 0, .int .i64 n]).run P w =
   .ok (.slice (some ⟨w.heap.size, 0, none⟩) n (grownCap w n 0 e)) (w.drew.alloc (.cells (Builtin.zeroCells z.cells n ++ Builtin.zeroCells z.cells (grownCap w n 0 e - n)) e)) := by
 have hn' : n ≠ 0 := by omega
 have h63' : ¬ (9223372036854775807 < (n : Int)) := by omega
 have hbm : n * i.bytes <= 281474976710656 := Nat.le_trans (Nat.mul_le_mul hn hb) (by decide)
 have h48' : ¬ (281474976710656 < Builtin.nextslicecap n 0 * i.bytes) := by rw [nextslicecap_zero h0]; omega
 have h48i : ¬ (281474976710656 < (n : Int) * (i.bytes : Int)) := by omega
 have hlt : ¬ ((n : Int) < 0) := by omega
 have hsz : i.size ≠ 0 := by omega
 simp [Builtin.append_, run_underlying ht, run_underlying hu, sizeOf, typeInfo, zeroValue, hi, hz, hn', h63', h48', h48i, hlt, hsz, wrap_id hn, asInt, asIntOf, Question.forced, run_firstCells_none, newRow, grownCap]
 exact fun h => absurd h (Nat.ne_of_gt (Nat.mul_pos h0 hs))
theorem qAo.appendZ {P : Program} {V0 V : Mem} {t u e ty : TypeId} {i : TypeInfo} {z : Value} {sz : Nat} (ht : P.underlying t = some (.slice e)) (hu : P.underlying u = some (.int .i64)) (hi : P.info? e = some i) (hz : i.zero = some z) (hsize : i.size = sz) (hzs : z.cells.size = sz) (hsz : 0 < sz) (hby : i.bytes <= 65536)
  {x y : Operand} {vals : Operand -> Value} {n : Nat} (hx : vals x = .slice none 0 0) (hy : vals y = .int .i64 n) (h0 : 0 < n) (hn : n <= 2147483648) (hV : V0.sub V) {q : Value -> Mem -> Prop}
  (hq : ∀ b c V', Own V0 V' e sz ⟨some ⟨b, 0, none⟩, 0, c⟩ [] -> n <= c -> c <= 9223372036854775807 -> q (.slice (sa b) n c) V') :
  qAo P (.call { callee := .builtin .append, args := #[x, y], argTypes := #[t, u] }) ty vals V q := by
 intro w hw
 subst hsize
 have hr := qGx (P := P) w t u ty e i z ht hu hi hz n h0 hn hby hsz
 obtain ⟨hnone, hf⟩ := Frm.new hw (.cells (Builtin.zeroCells z.cells n ++ Builtin.zeroCells z.cells (grownCap w n 0 e - n)) e)
 have hge := grownCap_ge w n 0 e
 have hle := grownCap_le_maxLen w n 0 e (by simp only [maxLen]; omega)
 refine ⟨_, _, _, ?_, hf, hq w.heap.size (grownCap w n 0 e) _ ⟨Mem.sub.new hV hnone _, by simp, .inr ⟨w.heap.size, _, rfl, ?_, Mem.set_same _ _ _, Nat.zero_le _, hle, ?_, by simp⟩⟩ hge (by simp only [maxLen] at hle; omega)⟩
 ·unfold execOp
  simp only [resolve, invoke, builtin, Sem.run_bind, Sem.run_pure, Result.andThen_ok, List.map_toArray, List.map_cons, List.map_nil, hx, hy, hr]
 ·cases h : V0 w.heap.size with
  | none => rfl
  | some x => rw [hV _ _ h] at hnone; cases hnone
 ·simp only [Array.size_append, size_zeroCells, hzs, <- Nat.add_mul]
  congr 1
  show _ = grownCap w n 0 e
  omega
section
variable {V : Mem}
theorem growF {V0 : Mem} (hV : V0.sub V) {n : Nat} (hn : n <= 1000000) : Tri Tryz.prog 250 #[.slice none 0 0, .int .i64 n] V fun r V' => ∃ s : Sl, r = .returned (.slice s.p s.n s.c) /\ Own V0 V' 110 2 s [] := by
 refine x250 (a := ⟨none, 0, 0⟩) ?_
 unfold w250
 refine ⟨fun h => absurd h (by omega), fun _ => ⟨⟨by simp, by simp⟩, ⟨by simp <;> omega, by simp <;> omega⟩, fun h => ⟨⟨by simp, by simp, by simp⟩, ?_⟩, fun h => ⟨⟨none, 0, 0⟩, rfl, Own.nil hV _ _⟩⟩⟩
 have hi : Tryz.prog.info? 110 = some (ti 110) := by kernel_rfl
 have hz : (ti 110).zero = some ((ti 110).zero.getD undef) := by kernel_rfl
 have h1 : (ti 110).size = 2 := by kernel_rfl
 have h2 : ((ti 110).zero.getD undef).cells.size = 2 := by kernel_rfl
 have h3 : (ti 110).bytes <= 65536 := by rw [show (ti 110).bytes = 32 by kernel_rfl]; omega
 refine qAo.appendZ (n := n) Tryz.underlying23 Tryz.underlying3 hi hz h1 h2 (by decide) h3 rfl ?_ (by simp at h; omega) (by omega) hV fun b c V' ho hc hc2 => ⟨⟨some ⟨b, 0, none⟩, n, c⟩, rfl, ⟨by simp, by simp, by simp⟩, ?_⟩
 ·show Value.int .i64 ((n : Int) - (((0 : Nat) : Int) - ((0 : Nat) : Int))) = _
  congr 1 <;> omega
 ·simp only [qGe]
  exact ⟨⟨some ⟨b, 0, none⟩, 0, c⟩, by simp, ho⟩
theorem concatF {l : Sl} {ls : List (Sl × List Fld)} (h : qAd V l 1 (ls.map fun x => [x.1.v])) (hls : ∀ x ∈ ls, qAd V x.1 2 (x.2.map Fld.row)) (hlen : ls.length <= 100) (hle : ∀ x ∈ ls, x.2.length <= 1000) :
  Tri Tryz.prog 223 #[.slice l.p l.n l.c] V fun r V' => ∃ s : Sl, r = .returned (.slice s.p s.n s.c) /\ V.sub V' /\ qAd V' s 2 ((ls.flatMap (·.2)).map Fld.row) := by
 refine x223 ?_
 unfold w223
 have hn := h.n_eq
 refine qEB (mk := .int .i64) qFo ls.length (fun i n V1 => V = V1 /\ 0 <= n /\ n <= 1000 * i) ⟨rfl, by omega, by omega⟩ ?_
 rintro i n V1 J hi ⟨rfl, h0, hb⟩ hJ
 refine ⟨fun hlt => ?_, fun hge => ?_⟩
 ·obtain ⟨x, hm, hx, hdr, hl, hp, hz, hrow⟩ := h.get hlt
  have e1 := (hls x hm).n_eq
  have e2 := hle x hm
  exact ⟨hp, hz, hlt, x.1, hrow, ⟨by omega, by omega⟩, fun hneg => absurd hneg (by omega), fun _ => ⟨h.succ hlt, hJ hl _ _ ⟨rfl, by omega, by omega⟩⟩⟩
 ·obtain ⟨k, rfl⟩ := Int.eq_ofNat_of_zero_le h0
  refine Tri.mono (growF (Mem.sub.refl V) (n := k) (by omega)) ?_
  rintro _ V1 ⟨s, rfl, ho⟩
  refine ⟨s, rfl, ?_⟩
  refine qEB (mk := fun s : Sl => .slice s.p s.n s.c) (b0 := s) qDn ls.length (fun i s V2 => Own V V2 110 2 s (((ls.take i).flatMap (·.2)).flatMap Fld.row) /\ ((ls.take i).flatMap (·.2)).length <= 1000 * i) ⟨ho, by simp⟩ ?_
  rintro i s V2 J hi ⟨ho, hb⟩ hJ
  have h2 := h.sub ho.sub
  refine ⟨fun hlt => ?_, fun hge => ?_⟩
  ·obtain ⟨x, hm, hx, hdr, hl, hp, hz, hrow⟩ := h2.get hlt
   have e2 := hle x hm
   refine ⟨hp, hz, hlt, x.1, hrow, ?_⟩
   refine qHV (s := s) (u := x.1) (xs := (ls.take i).flatMap (·.2)) (ys := x.2) rfl rfl ho ((hls x hm).sub ho.sub) (by omega) fun s' V' ho' => ⟨s', rfl, h2.succ hlt, hJ hl _ _ ?_⟩
   have ht : (ls.take (i + 1)).flatMap (·.2) = (ls.take i).flatMap (·.2) ++ x.2 := by
    rw [List.take_add_one, hx, List.flatMap_append]
    simp
   rw [ht]
   exact ⟨ho', by rw [List.length_append]; omega⟩
  ·have := (h2.done hge).2
   rw [List.take_of_length_le this] at ho
   exact ⟨s, rfl, ho.sub, ownF ho⟩
end
end Go.Proofs
namespace Go.Proofs
open Go Go.Sx
attribute [local irreducible] Go.Sx.Tri
section
variable {V : Mem} {d : Ds} {c : Option Addr} {m : Option Nat} {sc : Sc}
theorem c256 (h : qBC V c d) (hv : VNe d) (hs : qGC V m sc) (hbody : sc.body = true) {x : S} (hx : S.Ok V x) (hsh : qCf x.op x.s x.es x.ls.length x.xs.length = true) {res : ByteArray} :
  PP 256 [sV c m sc, x.v, .string res] V (.int .i64 (qEZ d sc res x.op x.s x.es)) := by
 obtain ⟨a6, a134, a2, a5, alen, aok⟩ := qHd hsh
 rw [S.v_eq]
 refine Pur.mk (x256 ?_)
 unfold w256
 have hf := qFq hx
 refine ⟨fun o6 => ?_, fun o6 => ?_⟩
 ·obtain ⟨e0, he0, -⟩ := a6 o6
  rcases hf with ⟨h', -⟩ | ⟨e0', r, he, hn, hp0, hp2, hrow⟩
  ·rw [he0] at h'; cases h'
  ·rw [he0] at he
   cases he
   have hok := aok e0 (by rw [he0]; simp)
   have hoe := hx.eOk e0 (by rw [he0]; simp)
   have hk : ∀ y ∈ e0.k, ImpE V d c m sc y := fun y hy => impExpr h hv hs y (hoe.kids y hy) 2 (qGF hok y hy)
   refine ⟨hp0, by omega, by omega, _, _, _, _, hrow, (impCall h e0 hoe (arity (qFf hok)).2.2.2 hk).call ⟨_, _, rfl, ?_⟩⟩
   unfold qEZ rawT qEO
   rw [if_pos o6, he0]
   simp only [if_pos hbody]
   split
   ·exact ⟨rfl, Mem.sub.refl _⟩
   ·exact ⟨rfl, Mem.sub.refl _⟩
 ·unfold qEZ
  rw [if_neg o6]
  have hr := hx.eRows
  refine qGi (mk := .int .i64) (mc := fun s : Sl => .slice s.p s.n s.c) 0 ⟨none, 0, 0⟩ qDn x.es.length (fun i s V2 => ∃ acc, Own V V2 9 1 s (acc.flatMap qAV) /\ partsT d sc [] x.es = partsT d sc acc (x.es.drop i) /\ acc.length = i) ⟨[], Own.nil (Mem.sub.refl _) _ _, rfl, rfl⟩ ?_
  rintro i b s V2 J hi ⟨acc, hown, hpt, hlen'⟩ hJ
  have hr1 := hr.sub hown.sub
  refine ⟨fun hlt => ?_, fun hge => ?_⟩
  ·obtain ⟨y, hm, hxy, hdr, hl, hpp, hz, hrow⟩ := hr1.get hlt
   rw [hdr, qBR] at hpt
   refine ⟨hpp, hz, hlt, _, _, _, _, hrow, (impExpr h hv hs y (hx.eOk y hm) 1 (aok y hm) V2 hown.sub).call ⟨_, _, rfl, fun h0 => ?_, fun h0 => ?_⟩⟩
   ·intro b1 hb1
    rw [if_neg (fun h => h h0)] at hpt
    refine app174 (s := s) (u := ⟨some ⟨b1, 0, none⟩, 1, 1⟩) (xs := acc) (ys := [(qAy d sc y).1]) rfl rfl (hown.new hb1 _) (qHp mss) (by first | omega | (simp; omega)) fun s' V' ho => ⟨s', rfl, hr1.succ hlt, hJ hl _ _ _ ⟨_, ho, hpt, by simp [hlen']⟩⟩
   ·rw [if_pos h0] at hpt
    rw [hpt]
    simp only [h0, ne_eq, not_false_eq_true, if_true]
    exact ⟨by trivial, hown.sub⟩
  ·have hge' := (hr1.done hge).2
   rw [(hr1.done hge).1, qCi] at hpt
   rw [hpt]
   simp only [ne_eq, not_true_eq_false, if_false]
   have hrows := ownS hown
   have hal : acc.length = x.es.length := by omega
   have hsub := hown.sub
   have h2 := h.sub hown.sub
   have sln := hrows.n_eq
   have at0 := fun h : 0 < acc.length => qDN hrows h
   have at1 := fun h : 1 < acc.length => qDN hrows h
   have key : ∀ X n : Int, X = n -> (Ending.returned (.int .i64 n) = Ending.returned (.int .i64 X) /\ V.sub V2) := fun X n h => by rw [h]; exact ⟨rfl, hsub⟩
   refine ⟨fun o1 => ?_, fun o1 => ⟨fun o2 => ?_, fun o2 => ⟨fun o3 => ?_, fun o3 => ⟨fun o4 => ?_, fun o4 => ⟨fun o5 => ?_, fun o5 => key _ _ ?_⟩⟩⟩⟩⟩
   ·obtain ⟨b1, b2, b3⟩ := at0 (by have := a134 (by omega); omega)
    obtain ⟨mb, rfl, hmap⟩ := (hs.sub hown.sub).at_
    rw [if_pos o1, qIp]
    refine qBv.str Tryz.underlying163 Tryz.underlying9 zero9 hmap ?_
    cases hvv : qBH sc.vars x.s with
    | none =>
     rw [Option.getD_none]
     exact ⟨_, _, rfl, fun h => absurd h (by simp), fun _ => key _ _ (if_pos rfl)⟩
    | some t =>
     rw [Option.getD_some]
     refine ⟨t, _, rfl, fun _ => ⟨b1, by omega, b2, _, b3, (c194 h2).call ⟨_, rfl, fun hb => key _ _ ?_, fun hb => key _ _ ?_⟩⟩, fun h => absurd rfl h⟩
     ·rw [if_neg (hs.ne.some hvv), if_pos hb]
     ·rw [if_neg (hs.ne.some hvv), if_neg hb]
   ·obtain ⟨b1, b2, b3⟩ := at0 (by have := a2 o2; omega)
    obtain ⟨c1, c2, c3⟩ := at1 (by have := a2 o2; omega)
    rw [if_neg o1, if_pos o2]
    refine ⟨b1, by omega, b2, _, b3, (c198 h2 hv).call ⟨_, _, rfl, fun hb => ⟨c1, by omega, c2, _, c3, (c194 h2).call ⟨_, rfl, fun hc => key _ _ ?_, fun hc => key _ _ ?_⟩⟩, fun hb => key _ _ ?_⟩⟩
    ·rw [if_neg (fun h => h hb), if_pos hc]
    ·rw [if_neg (fun h => h hb), if_neg hc]
    ·rw [if_pos hb]
   ·obtain ⟨b1, b2, b3⟩ := at0 (by have := a134 (by omega); omega)
    rw [if_neg o1, if_neg o2, if_pos (Or.inl o3)]
    exact ⟨b1, by omega, b2, _, b3, fun h => key _ _ (by rw [if_pos (show _ = qAt from h)]), fun h => key _ _ (by rw [if_neg (show ¬ _ = qAt from h)])⟩
   ·obtain ⟨b1, b2, b3⟩ := at0 (by have := a134 (by omega); omega)
    rw [if_neg o1, if_neg o2, if_pos (Or.inr o4)]
    exact ⟨b1, by omega, b2, _, b3, fun h => key _ _ (by rw [if_pos (show _ = qAt from h)]), fun h => key _ _ (by rw [if_neg (show ¬ _ = qAt from h)])⟩
   ·have h5 := a5 o5
    rw [if_neg o1, if_neg o2, if_neg (by omega), if_pos o5]
    refine ⟨fun hn => ?_, fun hn => ?_⟩
    ·have h0 : acc.length = 0 := by omega
     rw [if_pos h0]
     exact ⟨fun he => key _ _ (by rw [if_pos (show res = sE from he)]), fun he => key _ _ (by rw [if_neg (show ¬ res = sE from he)])⟩
    ·have h0 : ¬ acc.length = 0 := by omega
     obtain ⟨b1, b2, b3⟩ := at0 (by omega)
     rw [if_neg h0]
     refine ⟨fun he => key _ _ (by rw [if_neg (fun h => h.1 (show res = sE from he))]), fun he => ⟨b1, by omega, b2, _, b3, (c194 h2).call ⟨_, rfl, fun hb => key _ _ ?_, fun hb => key _ _ ?_⟩⟩⟩
     ·rw [if_pos ⟨show ¬ res = sE from he, hb⟩]
     ·rw [if_neg (fun h => hb h.2)]
   ·rw [if_neg o1, if_neg o2, if_neg (by omega), if_neg o5]
def qID (r : Int × Int) : Int := if r.2 = 0 then 0 else r.1
def Cnt (V : Mem) (b t : Nat) (a : Int) (V1 : Mem) : Prop := (V.set b (cell (.int .i64 a) t)).sub V1
theorem Cnt.st {b t : Nat} {a k : Int} {V1 : Mem} (h : Cnt V b t a V1) : Cnt V b t k (V1.set b (cell (.int .i64 k) t)) := fun q o hq => by
 by_cases e : q = b
 ·subst e; rw [Mem.set_same] at hq ⊢; exact hq
 ·rw [Mem.set_ne e] at hq ⊢
  exact h q o (by rw [Mem.set_ne e]; exact hq)
theorem Cnt.call {b t : Nat} {a k : Int} {V1 V2 : Mem} (h : Cnt V b t a V1) (h2 : Cnt V1 b t k V2) : Cnt V b t k V2 := (Cnt.st h).trans h2
theorem Cnt.cell {b t : Nat} {a : Int} {V1 : Mem} (h : Cnt V b t a V1) : V1 b = some (Sx.cell (.int .i64 a) t) := h _ _ mss
theorem Cnt.base {V0 : Mem} {b t : Nat} {a : Int} {V1 : Mem} (h : Cnt V b t a V1) (h0 : V0.sub V) (hb : V0 b = none) : V0.sub V1 := (h0.set hb _).trans h
theorem Cnt.other {b t q : Nat} {a : Int} {V1 : Mem} {o : Obj} (h : Cnt V b t a V1) (hq : V q = some o) (hn : q ≠ b) : V1 q = some o := h _ _ (by rw [Mem.set_ne hn]; exact hq)
def ImpS (V0 : Mem) (d : Ds) (c : Option Addr) (m : Option Nat) (sc : Sc) (res : ByteArray) (b t : Nat) (l : List S) : Prop := ∀ (V : Mem) (sl : Sl) (n dd : Int), V0.sub V -> V b = some (cell (.int .i64 n) t) -> qAd V0 sl 5 (l.map S.row) -> (∀ x ∈ l, S.Ok V0 x) -> qIF dd l = true -> 0 <= n -> n + qGv l <= 1000 ->
 Tri Tryz.prog 231 #[sV c m sc, .slice sl.p sl.n sl.c, .string res, pv b] V fun r V' => r = .returned (.tuple #[.int .i64 (qID (qBK d sc res n l)), .int .i64 (qBK d sc res n l).2]) /\ ∃ n', Cnt V b t n' V' /\ ((qBK d sc res n l).2 = 0 -> n' = (qBK d sc res n l).1)
theorem impStep {V0 : Mem} {b t : Nat} {res : ByteArray} (hb : V0 b = none) (h : qBC V0 c d) (hv : VNe d) (hs : qGC V0 m sc) (hbody : sc.body = true) {l : List S} (hk : ∀ x ∈ l, ImpS V0 d c m sc res b t x.ls /\ ImpS V0 d c m sc res b t x.xs) : ImpS V0 d c m sc res b t l := by
 intro V sl n dd hV hcell hr hok hokS hn0 hn1
 refine x231 ?_
 unfold w231
 refine qDA l.length (fun i V1 => ∃ a, Cnt V b t a V1 /\ 0 <= a /\ a + qGv (l.drop i) <= 1000 /\ qBK d sc res n l = qBK d sc res a (l.drop i)) ⟨n, by unfold Cnt; rw [Mem.set_eq hcell]; exact Mem.sub.refl _, hn0, hn1, rfl⟩ ?_
 rintro i b' c' V1 J hi ⟨a, hV1, ha0, ha1, he⟩ hJ
 have hV01 := hV1.base hV hb
 have hcell1 := hV1.cell
 have bad : ∀ {V2 : Mem} (p e k : Int), Cnt V b t k V2 -> e ≠ 0 -> qBK d sc res n l = (p, e) -> (Ending.returned (.tuple #[.int .i64 p, .int .i64 e]) = Ending.returned (.tuple #[.int .i64 (qID (qBK d sc res n l)), .int .i64 (qBK d sc res n l).2]) /\ ∃ n', Cnt V b t n' V2 /\ ((qBK d sc res n l).2 = 0 -> n' = (qBK d sc res n l).1)) := fun {V2} p e k h1 h2 h3 => by
  rw [h3]
  unfold qID
  rw [if_neg h2]
  exact ⟨rfl, k, h1, fun h => absurd h h2⟩
 refine ⟨fun hlt => ?_, fun hge => ?_⟩
 ·obtain ⟨x, hm, hx, hdr, hl, hpp, hz, hrow⟩ := (hr.sub hV01).get hlt
  have hrow := S.row_get hrow
  have hox := hok x hm
  obtain ⟨hsh, hk1, hk2⟩ := okS_shape (qJu hokS x hm)
  rw [hdr, qGY, szS_eq] at ha1
  rw [hdr, qHa, stT_eq] at he
  have hC := Cnt.st (k := a + 1) hV1
  have hW2 := hC.base hV hb
  have cs := c256 (h.sub hW2) hv (hs.sub hW2) hbody (hox.sub hW2) hsh (res := res)
  rw [S.v_eq] at cs
  refine ⟨hpp, hz, hlt, _, _, _, _, _, hrow, by simp, _, qBt hcell1, by simp, _, qBt hcell1, ⟨by omega, by omega⟩, by simp, StT.cell hcell1 (cs.call ⟨_, rfl, fun h0 => ?_, fun h0 => ?_⟩)⟩
  ·have e1 : ¬ (qEZ d sc res x.op x.s x.es ≠ 0) := fun h => h h0
   rw [if_neg e1] at he
   intro b1 hb1
   have hbb : b1 ≠ b := fun e => by subst e; rw [Mem.set_same] at hb1; cases hb1
   have hC2 : Cnt V b t (a + 1) _ := Mem.sub.new hC hb1 (.cells #[.slice x.ll.p x.ll.n x.ll.c, .slice x.xl.p x.xl.n x.xl.c] 144 (0, 0))
   have hn1' := qGZ d sc res (a + 1) x.ls
   refine qDA 2 (fun j V2 => ∃ k, Cnt V b t k V2 /\ V2 b1 = some (.cells #[.slice x.ll.p x.ll.n x.ll.c, .slice x.xl.p x.xl.n x.xl.c] 144 (0, 0)) /\ ((j = 0 /\ k = a + 1) ∨ (j = 1 /\ (qBK d sc res (a + 1) x.ls).2 = 0 /\ k = (qBK d sc res (a + 1) x.ls).1) ∨ (j = 2 /\ (qBK d sc res (a + 1) x.ls).2 = 0 /\ (qBK d sc res (qBK d sc res (a + 1) x.ls).1 x.xs).2 = 0 /\ k = (qBK d sc res (qBK d sc res (a + 1) x.ls).1 x.xs).1))) ⟨a + 1, hC2, Mem.set_same _ _ _, .inl ⟨rfl, rfl⟩⟩ ?_
   rintro j b'' c'' V2 J1 hj ⟨k, hk2', hb1V, hst⟩ hJ1
   have hV02 := hk2'.base hV hb
   refine ⟨fun hj2 => ?_, fun hj2 => ?_⟩
   ·rcases hst with ⟨rfl, rfl⟩ | ⟨rfl, hz1, rfl⟩ | ⟨rfl, -⟩
    ·refine ⟨by simp [qAa], by omega, by omega, x.ll, qAg hb1V 0 1 (by simp), Tri.mono ((hk x hm).1 V2 x.ll (a + 1) (dd + 1) hV02 hk2'.cell hox.lRows hox.lOk hk1 (by omega) (by omega)) ?_⟩
     rintro _ V3 ⟨rfl, n', hn', hn2⟩
     refine ⟨_, _, rfl, fun h3 => ?_, fun h3 => ?_⟩
     ·have := hn2 h3
      subst this
      exact ⟨⟨by omega, by omega⟩, hJ1 (by omega) _ _ _ ⟨_, hk2'.call hn', hn'.other hb1V hbb, .inr (.inl ⟨rfl, h3, rfl⟩)⟩⟩
     ·have e2 : (qBK d sc res (a + 1) x.ls).2 ≠ 0 := h3
      rw [if_pos e2, if_pos e2] at he
      refine bad _ _ _ (hk2'.call hn') e2 ?_
      rw [he]; unfold qID; rw [if_neg e2]
    ·have e2 : ¬ (qBK d sc res (a + 1) x.ls).2 ≠ 0 := fun h => h hz1
     rw [if_neg e2] at he
     have hn1' := hn1' hz1
     refine ⟨by simp [qAa], by omega, by omega, x.xl, qAg hb1V 1 1 (by simp), Tri.mono ((hk x hm).2 V2 x.xl _ (dd + 1) hV02 hk2'.cell hox.xRows hox.xOk hk2 (by omega) (by omega)) ?_⟩
     rintro _ V3 ⟨rfl, n', hn', hn2⟩
     refine ⟨_, _, rfl, fun h3 => ?_, fun h3 => ?_⟩
     ·have := hn2 h3
      subst this
      exact ⟨⟨by omega, by omega⟩, hJ1 (by omega) _ _ _ ⟨_, hk2'.call hn', hn'.other hb1V hbb, .inr (.inr ⟨rfl, hz1, h3, rfl⟩)⟩⟩
     ·have e3 : (qBK d sc res (qBK d sc res (a + 1) x.ls).1 x.xs).2 ≠ 0 := h3
      rw [if_pos e3] at he
      refine bad _ _ _ (hk2'.call hn') e3 ?_
      rw [he]; unfold qID; rw [if_neg e3]
    ·omega
   ·rcases hst with ⟨rfl, -⟩ | ⟨rfl, -⟩ | ⟨rfl, hz1, hz2, rfl⟩
    ·omega
    ·omega
    ·have e2 : ¬ (qBK d sc res (a + 1) x.ls).2 ≠ 0 := fun h => h hz1
     have e3 : ¬ (qBK d sc res (qBK d sc res (a + 1) x.ls).1 x.xs).2 ≠ 0 := fun h => h hz2
     rw [if_neg e2, if_neg e3] at he
     have hn1' := hn1' hz1
     have hn2' := qGZ d sc res _ x.xs hz2
     exact ⟨(hr.sub hV01).succ hlt, hJ hl _ _ _ ⟨_, hk2', by omega, by omega, he⟩⟩
  ·have e1 : qEZ d sc res x.op x.s x.es ≠ 0 := h0
   rw [if_pos e1, if_pos e1] at he
   exact bad _ _ _ hC e1 he
 ·rw [((hr.sub hV01).done hge).1, stsT_nil] at he
  rw [he]
  exact ⟨rfl, a, hV1, fun _ => rfl⟩
theorem impStmts {V0 : Mem} {b t : Nat} {res : ByteArray} (hb : V0 b = none) (h : qBC V0 c d) (hv : VNe d) (hs : qGC V0 m sc) (hbody : sc.body = true) (l : List S) : ImpS V0 d c m sc res b t l := by
 have hS : ∀ s : S, ImpS V0 d c m sc res b t s.ls /\ ImpS V0 d c m sc res b t s.xs := by
  intro s
  induction s using S.ind with
  | h s i1 i2 => exact ⟨impStep hb h hv hs hbody i1, impStep hb h hv hs hbody i2⟩
 exact impStep hb h hv hs hbody fun x _ => hS x
theorem c247 {b t : Nat} {f x : Fld} (hb : V b = some (.cells #[.string f.name, .string f.ty] t (0, 0))) : PP 247 [x.v, pv b] V (.bool (decide (x.name = f.name))) := by
 refine x247 ?_
 unfold w247
 exact ⟨by simp, _, qAg hb 0 1 (by simp), rfl, rfl⟩
theorem c217 (h : qBC V c d) {l : Sl} {xs : List Fld} (hl : qAd V l 2 (xs.map Fld.row)) : PP 217 [.pointer c, l.v] V (.int .i64 (qCS d xs)) := by
 refine Pur.mk (x217 ?_)
 unfold w217 qCS
 generalize hf : (fun i f => if qFP d xs i f ≠ 0 then some (qFP d xs i f) else none) = fn
 refine qAA xs.length (fun k V1 => V.sub V1 /\ qAf fn 0 xs = qAf fn k (xs.drop k)) ⟨Mem.sub.refl _, rfl⟩ ?_
 rintro k b V1 J hi ⟨hV, ha⟩ hJ
 have hl1 := hl.sub hV
 refine ⟨fun hk => ?_, fun hk => ?_⟩
 ·obtain ⟨g, hmg, hxg, hdg, hlg, hpg, hzg, hrowg⟩ := hl1.get hk
  rw [hdg] at ha
  have hc := hl1.cap
  refine ⟨hpg, hzg, hk, _, _, hrowg, ⟨by omega, by omega, by omega⟩, fun b1 hb1 => ?_⟩
  have s1 := Mem.sub_new hb1 (.cells #[.string g.name, .string g.ty] 110 (0, 0))
  have hV2 := hV.trans s1
  simp only [qGe, sub0]
  have key : ∀ X n : Int, X = n -> (Ending.returned (.int .i64 n) = Ending.returned (.int .i64 X) /\ V.sub (V1.set b1 (.cells #[.string g.name, .string g.ty] 110 (0, 0)))) := fun X n h => by rw [h]; exact ⟨rfl, hV2⟩
  refine (c168 (l := ⟨l.p, k, l.c⟩) (first := []) (caps := [pv b1]) (qAd.pre (hl.sub hV2) (by omega)) Tryz.call247 (fun x => decide (x.name = g.name)) (fun x _ => c247 (f := g) mss)).call ⟨_, rfl, fun h1 => ?_, fun h1 => ⟨by simp [qAa], _, qAg mss 1 1 (by simp), (c220 (h.sub hV2)).call ⟨_, rfl, fun h2 => ?_, fun h2 => ?_⟩⟩⟩
  ·have e : qFP d xs k g = 10 := by unfold qFP; rw [if_pos h1]
   rw [ha, qAe (b := 10) (by rw [<- hf]; exact (if_pos (by rw [e]; decide)).trans (by rw [e]))]
   exact key _ _ rfl
  ·have e : qFP d xs k g = 0 := by unfold qFP; rw [if_neg h1, if_pos h2]
   exact ⟨hl1.succ hk, hJ hlg _ _ ⟨hV2, by rw [ha, qAh (by rw [<- hf]; exact if_neg fun h => h e)]⟩⟩
  ·have e : qFP d xs k g = 9 := by unfold qFP; rw [if_neg h1, if_neg h2]
   rw [ha, qAe (b := 9) (by rw [<- hf]; exact (if_pos (by rw [e]; decide)).trans (by rw [e]))]
   exact key _ _ rfl
 ·rw [(hl1.done hk).1, qAf] at ha
  rw [ha]; exact ⟨rfl, hV⟩
def FltAt (V : Mem) (p : Option Addr) (o : Option Flt) : Prop := match o with
 | none => p = none
 | some r => ∃ b t, p = some ⟨b, 0, none⟩ /\ V b = some (.cells #[.string r.1, .int .i64 r.2.1, .int .i64 r.2.2] t (0, 0))
def FltC (f : FuncId) (args : List Value) (V : Mem) (o : Option Flt) : Prop := Tri Tryz.prog f args.toArray V fun r V' => ∃ p, r = .returned (.pointer p) /\ V.sub V' /\ FltAt V' p o
theorem c232 (h : qBC V c d) (hv : VNe d) (hs : qGC V m sc) {e : E} (he : E.Ok V e) (hok : okE 1 e = true) {s t : ByteArray} :
  FltC 232 [sV c m sc, .string s, e.v, .string t] V (if qBa d sc e t ≠ 0 then some (s, -1, qBa d sc e t) else none) := by
 refine x232 ?_
 unfold w232 qBa
 refine (impExpr h hv hs e he 1 hok V (Mem.sub.refl _)).call ⟨_, _, rfl, fun h0 => ⟨fun h1 => ?_, fun h1 => fun b hb => ?_⟩, fun h0 => fun b hb => ?_⟩
 ·simp only [h0, h1, ne_eq, not_true_eq_false, if_false, if_true]; exact ⟨_, rfl, Mem.sub.refl _, rfl⟩
 ·simp only [h0, h1, ne_eq, not_true_eq_false, if_false]; exact ⟨_, rfl, Mem.sub_new hb _, b, _, rfl, Mem.set_same _ _ _⟩
 ·simp only [h0, ne_eq, not_false_eq_true, if_true]; exact ⟨_, rfl, Mem.sub_new hb _, b, _, rfl, Mem.set_same _ _ _⟩
end
end Go.Proofs
