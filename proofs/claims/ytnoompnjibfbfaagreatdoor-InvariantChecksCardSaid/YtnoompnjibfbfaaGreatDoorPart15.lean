/- Part 15 of a proof of a law of this seat: no statement of the seat is proved here. -/
import Derived.Test.YtnoompnjibfbfaaGreatDoorPart14
import Derived.Test.YtnoompnjibfbfaaGreatDoorPart13
import Derived.Test.YtnoompnjibfbfaaGreatDoorPart12
set_option linter.unusedVariables false
set_option linter.unusedSimpArgs false
namespace Go.Proofs
open Go Go.Sx
attribute [local irreducible] Go.Sx.Tri
structure NI (V : Mem) (d : Ds) (cb mt mp p1 p3 : Nat) (f g : ByteArray -> Option Value) (V1 : Mem) : Prop where
 sub : V.sub V1
 nt : V mt = none
 np : V mp = none
 ne : mt ≠ mp
 ck : V1 cb = some (.cells (d.row ++ [Value.map (some mt), Value.map (some mp)]).toArray 210 (0, 0))
 b1 : V1 p1 = some (.cells d.row.toArray 30 (0, 0))
 b3 : V1 p3 = some (cell (pv cb) 160)
 mapT : qBe V1 mt f
 mapP : qBe V1 mp g
section
variable {V V1 : Mem} {d : Ds} {cb mt mp p1 p3 : Nat} {f g f' g' : ByteArray -> Option Value}
theorem NI.fresh (h : NI V d cb mt mp p1 p3 f g V1) {b : Nat} (hb : V1 b = none) (o : Obj) : NI V d cb mt mp p1 p3 f g (V1.set b o) :=
 have hs := Mem.sub_new hb o
 ⟨h.sub.trans hs, h.nt, h.np, h.ne, hs _ _ h.ck, hs _ _ h.b1, hs _ _ h.b3, h.mapT.sub hs, h.mapP.sub hs⟩
theorem qDZ {V : Mem} {b m : Nat} {c : Array Value} {t : Nat} {fr : Nat × Nat} {f : ByteArray -> Option Value} (h : V b = some (.cells c t fr)) (hm : qBe V m f) : b ≠ m := fun e => by
 obtain ⟨es, cl, hm, -, -⟩ := hm.at_
 rw [e, hm] at h; cases h
theorem NI.upT (h : NI V d cb mt mp p1 p3 f g V1) {o : Obj} (ho : qBe (V1.set mt o) mt f') : NI V d cb mt mp p1 p3 f' g (V1.set mt o) :=
 ⟨h.sub.set h.nt o, h.nt, h.np, h.ne, by rw [Mem.set_ne (qDZ h.ck h.mapT)]; exact h.ck, by rw [Mem.set_ne (qDZ h.b1 h.mapT)]; exact h.b1, by rw [Mem.set_ne (qDZ h.b3 h.mapT)]; exact h.b3, ho, h.mapP.set (Ne.symm h.ne)⟩
theorem NI.upP (h : NI V d cb mt mp p1 p3 f g V1) {o : Obj} (ho : qBe (V1.set mp o) mp g') : NI V d cb mt mp p1 p3 f g' (V1.set mp o) :=
 ⟨h.sub.set h.np o, h.nt, h.np, h.ne, by rw [Mem.set_ne (qDZ h.ck h.mapP)]; exact h.ck, by rw [Mem.set_ne (qDZ h.b1 h.mapP)]; exact h.b1, by rw [Mem.set_ne (qDZ h.b3 h.mapP)]; exact h.b3, h.mapT.set h.ne, ho⟩
theorem NI.cg (h : NI V d cb mt mp p1 p3 f g V1) (e1 : ∀ k, f k = f' k) (e2 : ∀ k, g k = g' k) : NI V d cb mt mp p1 p3 f' g' V1 := ⟨h.sub, h.nt, h.np, h.ne, h.ck, h.b1, h.b3, h.mapT.congr e1, h.mapP.congr e2⟩
theorem newRoundT (h : NI V d cb mt mp p1 p3 f g V1) {bx : Nat} {v : Value} {ty : Nat} (hbx : V1 bx = some (cell v ty)) (x : Ty) (V2 : Mem) (b : Nat) (hb : V1 b = none) (e2 : V2 = V1.set b (.cells x.row.toArray 101 (0, 0))) :
  Seg Tryz.prog 38 c110c [(3, pv p3), (5, pv b)] [] V2 fun _ V3 => NI V d cb mt mp p1 p3 (fun k => if k = x.name then some x.v else f k) g V3 /\ V3 bx = some (cell v ty) := by
 subst e2
 have h2 := h.fresh hb (.cells x.row.toArray 101 (0, 0))
 have hbx2 := Mem.sub_new hb (.cells x.row.toArray 101 (0, 0)) _ _ hbx
 refine s110c ?_
 unfold w110c
 refine ⟨_, qBt h2.b3, by simp, by simp, some mt, qAg h2.ck 8 1 (by simp [Ds.row]), by simp, x.name, qAg mss 0 1 (by simp [Ty.row]), x.name, x.fs, qAg mss 0 2 (by simp [Ty.row]), ?_⟩
 exact qGr.str Tryz.underlying207 Tryz.underlying9 h2.mapT fun o ho => ⟨_, rfl, h2.upT ho, by rw [Mem.set_ne (qDZ hbx2 h2.mapT)]; exact hbx2⟩
theorem newRoundP (h : NI V d cb mt mp p1 p3 f g V1) {bx : Nat} {v : Value} {ty : Nat} (hbx : V1 bx = some (cell v ty)) (x : Pr) (V2 : Mem) (b : Nat) (hb : V1 b = none) (e2 : V2 = V1.set b (.cells x.row.toArray 146 (0, 0))) :
  Seg Tryz.prog 38 c110f [(3, pv p3), (7, pv b)] [] V2 fun _ V3 => NI V d cb mt mp p1 p3 f (fun k => if k = x.name then some x.v else g k) V3 /\ V3 bx = some (cell v ty) := by
 subst e2
 have h2 := h.fresh hb (.cells x.row.toArray 146 (0, 0))
 have hbx2 := Mem.sub_new hb (.cells x.row.toArray 146 (0, 0)) _ _ hbx
 refine s110f ?_
 unfold w110f
 refine ⟨_, qBt h2.b3, by simp, by simp, some mp, qAg h2.ck 9 1 (by simp [Ds.row]), by simp, x.name, qAg mss 0 1 (by simp [Pr.row]), x.name, x.ps, x.result, x.ls, x.bs, qAg mss 0 5 (by simp [Pr.row]), ?_⟩
 exact qGr.str Tryz.underlying208 Tryz.underlying9 h2.mapP fun o ho => ⟨_, rfl, h2.upP ho, by rw [Mem.set_ne (qDZ hbx2 h2.mapP)]; exact hbx2⟩
theorem newAssignT (x : Ty) : Seg Tryz.prog 38 c110b [(3, pv p3), (17, Ty.v x)] [3, 5] V1 fun vs V2 => ∃ b, V1 b = none /\ V2 = V1.set b (.cells x.row.toArray 101 (0, 0)) /\ vs = [pv p3, pv b] := by
 refine s110b (b := x.name) (c := x.fs) ?_
 unfold w110b
 exact fun b hb => ⟨_, rfl, b, hb, rfl, rfl⟩
theorem newAssignP (x : Pr) : Seg Tryz.prog 38 c110e [(3, pv p3), (29, Pr.v x)] [3, 7] V1 fun vs V2 => ∃ b, V1 b = none /\ V2 = V1.set b (.cells x.row.toArray 146 (0, 0)) /\ vs = [pv p3, pv b] := by
 refine s110e (b := x.name) (c := x.ps) (d := x.result) (g := x.ls) (i := x.bs) ?_
 unfold w110e
 exact fun b hb => ⟨_, rfl, b, hb, rfl, rfl⟩
end
theorem qJE {N : Nat} {a : Act} {p q r : Nat} {l : List (Nat × Value)} {vr u z : Value} (hH : Has N a l) (hr : l.lookup r = some vr) (hp : r ≠ p) (hq : r ≠ q) (hlt : q < N) : Has N { tmps := (#[p, q].zip #[u, z]).foldl (fun t (p, v) => t.setIfInBounds p v) a.tmps, defers := [] } [(r, vr), (q, z)] := by
 refine ⟨by rw [qJg]; simpa using hH.1, fun s v hs => ?_⟩
 rw [qJg]
 simp only [List.lookup_cons] at hs
 split at hs
 ·rename_i e; simp only [beq_iff_eq] at e; subst e; cases hs
  rw [qGJ hq, qGJ hp]; exact hH.get hr
 ·split at hs
  ·rename_i e; simp only [beq_iff_eq] at e; subst e; cases hs
   exact getD_same (by simp [hH.1, hlt])
  ·cases hs
theorem mark_keep {V V1 : Mem} {w w1 : World} {D : Nat} (h : Frm V w V1 w1) (hn : V D = none) (hW : w.heap[D]? = some (.deferred (some []))) : w1.heap[D]? = some (.deferred (some [])) /\ V1 D = none := by
 have hlt := (Array.getElem?_eq_some_iff.1 hW).1
 refine ⟨(h.old D hlt hn).trans hW, ?_⟩
 cases hc : V1 D with
 | none => rfl
 | some o =>
  rcases h.dom D (by rw [hc]; simp) with h | h
  ·exact absurd hn h
  ·omega
theorem find_drop {α : Type} {l : List α} {nm : α -> ByteArray} {vv : α -> Value} {k : Nat} {x : α} (hx : l[k]? = some x) (y : ByteArray) :
  (if y = nm x then some (vv x) else ((l.drop (l.length - (l.length - 1 - k))).find? fun t => decide (nm t = y)).map vv) = ((l.drop (l.length - (l.length - k))).find? fun t => decide (nm t = y)).map vv := by
 have hk := (List.getElem?_eq_some_iff.1 hx).1
 rw [show l.length - (l.length - 1 - k) = k + 1 by omega, show l.length - (l.length - k) = k by omega]
 have e3 : l.drop k = x :: l.drop (k + 1) := by
  rw [List.drop_eq_getElem_cons hk]; rw [(List.getElem?_eq_some_iff.1 hx).2]
 rw [e3, List.find?_cons]
 by_cases e : y = nm x
 ·rw [if_pos e, decide_eq_true e.symm]; rfl
 ·rw [if_neg e, decide_eq_false (fun h => e h.symm)]
theorem newC : NewC := by
 intro V d hd
 refine qGa (c := qAl Tryz.f110) Tryz.func110 (by kernel_rfl) ?_
 intro w hV
 rw [show flat (qAl Tryz.f110) = c110a ++ ([.block 0 (.rangeFunc (.tmp 15) #[16, 17] ((qCy (qAl Tryz.f110) [3, 0, 0, 0]).getD 0 .skip) ((qCy (qAl Tryz.f110) [3, 0, 0, 1]).getD 0 .skip))] ++
  (c110d ++ ([.block 2 (.rangeFunc (.tmp 27) #[28, 29] ((qCy (qAl Tryz.f110) [5, 0, 0, 0]).getD 0 .skip) ((qCy (qAl Tryz.f110) [5, 0, 0, 1]).getD 0 .skip))] ++ (c110g ++ [.ret])))) from by kernel_rfl]
 have hA : Seg Tryz.prog 38 c110a [(0, d.v)] [1, 3, 15] V fun vs V1 => ∃ cb mt mp p1 p3 bx,
   vs = [pv p1, pv p3, .func (.func 213) #[] #[pv bx]] /\ NI V d cb mt mp p1 p3 (fun _ => none) (fun _ => none) V1 /\ V1 bx = some (cell (.slice d.ts.p d.ts.n d.ts.c) 22) := by
  refine s110a (a := d.name) (b := d.ts) (c := d.gs) (d := d.ps) (g := d.ms) (i := d.is) (j := d.qs) (k := d.bs) ?_
  unfold w110a
  refine qAo.makeMap fun mt hmt => ⟨some mt, rfl, qAo.makeMap fun mp hmp => ⟨some mp, rfl, ?_⟩⟩
  refine Tri.mono c160 ?_
  rintro _ V2 ⟨bx, hbx, rfl, rfl⟩
  refine ⟨.func (.func 213) #[] #[pv bx], rfl, rfl, fun p1 hp1 cb hcb p3 hp3 => ⟨_, rfl, cb, mt, mp, p1, p3, bx, rfl, ?_, ?_⟩⟩
  all_goals
   have s1 := Mem.sub_new hmt (.map #[] 0)
   have s2 := Mem.sub_new hmp (.map #[] 0)
   have s3 := Mem.sub_new hbx (cell (.slice d.ts.p d.ts.n d.ts.c) 22)
   have s4 := Mem.sub_new hp1 (.cells d.row.toArray 30 (0, 0))
   have s5 := Mem.sub_new hcb (.cells (d.row ++ [Value.map (some mt), Value.map (some mp)]).toArray 210 (0, 0))
   have s6 := Mem.sub_new hp3 (cell (pv cb) 160)
  ·have nmp : mt ≠ mp := fun e => by rw [<- e, Mem.set_same] at hmp; cases hmp
   refine ⟨s1.trans (s2.trans (s3.trans (s4.trans (s5.trans s6)))), hmt, ?_, nmp, s6 _ _ mss, (s5.trans s6) _ _ mss, Mem.set_same _ _ _, (qBe.made V mt).sub (s2.trans (s3.trans (s4.trans (s5.trans s6)))), (qBe.made (V.set mt (.map #[] 0)) mp).sub (s3.trans (s4.trans (s5.trans s6)))⟩
   cases hv : V mp with
   | none => rfl
   | some o => have := s1 _ _ hv; rw [hmp] at this; cases this
  ·exact (s4.trans (s5.trans s6)) _ _ mss
 refine hA.step hV (qGI (args := [d.v]) (N := 38) (by simp)) ?_
 rintro a1 w1 vs V1 hd1 hH1 ⟨cb, mt, mp, p1, p3, bx, rfl, hN1, hbx1⟩ hF1
 show Code.wpIn (qAs none) 0 Tryz.prog _ _ a1 w1
 refine wpIn_block ?_
 have hit := fun fn lp D hlp => it213 (V := V1) (fn' := fn) (tmps := a1.tmps) (ps := #[16, 17]) (assign := (qCy (qAl Tryz.f110) [3, 0, 0, 0]).getD 0 .skip) (body := (qCy (qAl Tryz.f110) [3, 0, 0, 1]).getD 0 .skip) (D := D) (l := lp) (bx := bx) (s := d.ts) (xs := d.types)
  (J := fun i V2 => NI V d cb mt mp p1 p3 (fun y => ((d.types.drop (d.types.length - i)).find? fun t => decide (t.name = y)).map Ty.v) (fun _ => none) V2 /\ V2 bx = some (cell (.slice d.ts.p d.ts.n d.ts.c) 22)) rfl (fun i V2 hj _ => ⟨hj.2, hd.types.sub hj.1.sub⟩) (fun k x hx V2 hj hl2 w2 hw2 => by
   refine qFI (N := 38) (insA := [(3, pv p3), (17, Ty.v x)]) (outsA := [3, 5]) hl2 hw2 (qJE (u := .int .i64 k) (z := Ty.v x) (p := 16) (q := 17) (r := 3) hH1 rfl (by decide) (by decide) (by decide)).1 (qJE (p := 16) (q := 17) (r := 3) hH1 rfl (by decide) (by decide) (by decide)).2 (newAssignT x) (fun vs V3 hvs => ?_)
   obtain ⟨b, hb, e2, rfl⟩ := hvs
   exact (newRoundT hj.1 hj.2 x V3 b hb e2).mono fun _ V4 h4 => ⟨h4.1.cg (find_drop (nm := Ty.name) (vv := Ty.v) hx) fun _ => rfl, h4.2⟩)
  ⟨by simpa using hN1, hbx1⟩ hlp
 refine qFM (Φ := fun V2 => NI V d cb mt mp p1 p3 (fun y => (tyOf d y).map Ty.v) (fun _ => none) V2) hF1.le (hH1.get (s := 15) rfl) Tryz.call213 (fun fn lp D hlp => Tri.mono (hit fn lp D hlp) fun e V' h => ?_) ?_
 ·obtain ⟨h1, V2, h2, h3, h4⟩ := h
  exact ⟨h1, V2, h2, h3, by simpa [tyOf] using h4.1⟩
 intro D V2 W hD hF2 hn2 hW hN2
 show wpL none 0 Tryz.prog _ (c110d ++ _) _ W
 have hS : Seg Tryz.prog 38 c110d [(1, pv p1), (3, pv p3)] [3, 27] V2 fun vs V3 => ∃ bx, vs = [pv p3, .func (.func 214) #[] #[pv bx]] /\ NI V d cb mt mp p1 p3 (fun y => (tyOf d y).map Ty.v) (fun _ => none) V3 /\ V3 bx = some (cell (.slice d.ps.p d.ps.n d.ps.c) 24) := by
  refine s110d ?_
  unfold w110d
  refine ⟨by simp, d.ps, qAg hN2.b1 3 1 (by simp [Ds.row]), ?_⟩
  refine Tri.mono c161 ?_
  rintro _ V3 ⟨bx, hbx, rfl, rfl⟩
  exact ⟨.func (.func 214) #[] #[pv bx], rfl, rfl, _, rfl, bx, rfl, hN2.fresh hbx _, Mem.set_same _ _ _⟩
 refine hS.step hF2.le ⟨hH1.1, fun s v hs => hH1.2 s v ?_⟩ ?_
 ·simp only [List.zip_cons_cons, List.lookup_cons] at hs ⊢
  repeat' (split at hs <;> first | exact hs | skip)
  all_goals first | exact hs | (cases hs)
 rintro a3 w3 vs V3 hd3 hH3 ⟨bx2, rfl, hN3, hbx3⟩ hF3
 show Code.wpIn (qAs none) 0 Tryz.prog _ _ a3 w3
 refine wpIn_block ?_
 have hit2 := fun fn lp D hlp => it214 (V := V3) (fn' := fn) (tmps := a3.tmps) (ps := #[28, 29]) (assign := (qCy (qAl Tryz.f110) [5, 0, 0, 0]).getD 0 .skip) (body := (qCy (qAl Tryz.f110) [5, 0, 0, 1]).getD 0 .skip) (D := D) (l := lp) (bx := bx2) (s := d.ps) (xs := d.procs)
  (J := fun i V2 => NI V d cb mt mp p1 p3 (fun y => (tyOf d y).map Ty.v) (fun y => ((d.procs.drop (d.procs.length - i)).find? fun t => decide (t.name = y)).map Pr.v) V2 /\ V2 bx2 = some (cell (.slice d.ps.p d.ps.n d.ps.c) 24)) rfl (fun i V2 hj _ => ⟨hj.2, hd.procs.sub hj.1.sub⟩) (fun k x hx V2 hj hl2 w2 hw2 => by
   refine qFI (N := 38) (insA := [(3, pv p3), (29, Pr.v x)]) (outsA := [3, 7]) hl2 hw2 (qJE (u := .int .i64 k) (z := Pr.v x) (p := 28) (q := 29) (r := 3) hH3 rfl (by decide) (by decide) (by decide)).1 (qJE (p := 28) (q := 29) (r := 3) hH3 rfl (by decide) (by decide) (by decide)).2 (newAssignP x) (fun vs V3 hvs => ?_)
   obtain ⟨b, hb, e2, rfl⟩ := hvs
   exact (newRoundP hj.1 hj.2 x V3 b hb e2).mono fun _ V4 h4 => ⟨h4.1.cg (fun _ => rfl) (find_drop (nm := Pr.name) (vv := Pr.v) hx), h4.2⟩)
  ⟨by simpa using hN3, hbx3⟩ hlp
 refine qFM (Φ := fun V2 => NI V d cb mt mp p1 p3 (fun y => (tyOf d y).map Ty.v) (fun y => (qFd d y).map Pr.v) V2) hF3.le (hH3.get (s := 27) rfl) Tryz.call214 (fun fn lp D hlp => Tri.mono (hit2 fn lp D hlp) fun e V' h => ?_) ?_
 ·obtain ⟨h1, V2, h2, h3, h4⟩ := h
  exact ⟨h1, V2, h2, h3, by simpa [qFd] using h4.1⟩
 intro D2 V4 W4 hD2 hF4 hn4 hW4 hN4
 show wpL none 0 Tryz.prog _ (c110g ++ _) _ W4
 have hS2 : Seg Tryz.prog 38 c110g [(3, pv p3)] [2] V4 fun vs V5 => V5 = V4 /\ vs = [pv cb] := by
  refine s110g ?_
  unfold w110g
  exact ⟨_, qBt hN4.b3, _, rfl, rfl, rfl⟩
 refine hS2.step hF4.le ⟨hH3.1, fun s v hs => hH3.2 s v ?_⟩ ?_
 ·simp only [List.zip_cons_cons, List.lookup_cons] at hs ⊢
  repeat' (split at hs <;> first | exact hs | skip)
  all_goals first | exact hs | (cases hs)
 rintro a5 w5 vs V5 hd5 hH5 ⟨rfl, rfl⟩ hF5
 show Code.wpIn (qAs none) 0 Tryz.prog .ret _ a5 w5
 refine wpIn_ret ?_
 obtain ⟨g1, g2, g3, g4⟩ := qEM hF1 hF2 hD hn2 hW hF3
 obtain ⟨k1, k2, k3, k4⟩ := qEM g1 hF4 hD2 hn4 hW4 hF5
 obtain ⟨m1, m2⟩ := mark_keep (hF4.trans hF5) g4 g3
 have hDlt : D < w3.heap.size := (Array.getElem?_eq_some_iff.1 g3).1
 refine ⟨.inr rfl, [D2, D], ?_, by simp; omega, _, k1, fun D' hD' => ?_, _, fun w6 hw6 => results_tmp (t := 2) (by kernel_rfl) _ _ _, some ⟨cb, 0, none⟩, by rw [hH5.get rfl], hN4.sub, ?_⟩
 ·rw [hd5]; simp [hd3, hd1]
 ·simp only [List.mem_cons, List.not_mem_nil, or_false] at hD'
  rcases hD' with rfl | rfl
  ·exact ⟨k2, k3, k4⟩
  ·exact ⟨g2, m1, m2⟩
 ·exact ⟨⟨cb, mt, mp, 210, rfl, hN4.ck, hN4.mapT, hN4.mapP⟩, hd.sub hN4.sub⟩
section
variable {P : Program} {V : Mem} {ty : Nat} {vals : Operand -> Value}
theorem qAo.shr {t u : TypeId} {x : Operand} {k kk : IntKind} {n c : Int} (hx : vals x = .int k n) (hy : vals (.const (.int kk c)) = .int kk c) (hc : ¬ c < 0) {q : Value -> Mem -> Prop} (hq : q (.int k (n.fdiv (2 ^ (min c.toNat k.bits)))) V) : qAo P (.binOp .shr t x (.const (.int kk c)) u) ty vals V q := by
 intro w hw
 refine ⟨_, w, V, ?_, Frm.refl hw, hq⟩
 unfold execOp
 simp [hx, hy, binOp, Op.shift, hc, eqGuard]
theorem qAo.max2 {a b : Operand} {ts : Array TypeId} {n1 n2 : Int} (h1 : vals a = .int .i64 n1) (h2 : vals b = .int .i64 n2) {q : Value -> Mem -> Prop} (hq : q (.int .i64 (if n1 < n2 then n2 else n1)) V) : qAo P (.call { callee := .builtin .max, args := #[a, b], argTypes := ts }) ty vals V q := by
 intro w hw
 refine ⟨_, w, V, ?_, Frm.refl hw, hq⟩
 unfold execOp
 simp only [resolve, invoke, builtin, Sem.run_bind, Sem.run_pure, Result.andThen_ok, List.map_toArray, List.map_cons, List.map_nil, h1, h2]
 simp [Builtin.max_, Builtin.max2]
theorem qAo.min2 {a b : Operand} {ts : Array TypeId} {n1 n2 : Int} (h1 : vals a = .int .i64 n1) (h2 : vals b = .int .i64 n2) {q : Value -> Mem -> Prop} (hq : q (.int .i64 (if n2 < n1 then n2 else n1)) V) : qAo P (.call { callee := .builtin .min, args := #[a, b], argTypes := ts }) ty vals V q := by
 intro w hw
 refine ⟨_, w, V, ?_, Frm.refl hw, hq⟩
 unfold execOp
 simp only [resolve, invoke, builtin, Sem.run_bind, Sem.run_pure, Result.andThen_ok, List.map_toArray, List.map_cons, List.map_nil, h1, h2]
 simp [Builtin.min_, Builtin.min2]
theorem qAo.iface {t : TypeId} {ts : Array Field} {x : Operand} {v : Value} (ht : P.underlying t = some (.struct ts)) (hx : vals x = v) {q : Value -> Mem -> Prop} (hq : q (.iface t v) V) : qAo P (.makeInterface t x) ty vals V q := by
 intro w hw
 refine ⟨_, w, V, ?_, Frm.refl hw, hq⟩
 unfold execOp
 simp [hx, Instr.makeInterface, run_underlying ht, Sem.run_bind]
end
def fltV (e : Int) : Value := .iface 133 (.agg #[.int .i64 e])
theorem qAo.fault {ty : Nat} {vals : Operand -> Value} {V : Mem} {x : Operand} {e : Int} (hx : vals x = .agg #[.int .i64 e]) {q : Value -> Mem -> Prop} (hq : q (fltV e) V) : qAo Tryz.prog (.makeInterface 133 x) ty vals V q :=
 qAo.iface Tryz.underlying133 hx hq
def fltC (e : Int) : Ending := .panicked [{ v := fltV e, recovered := false }]
theorem qAo.pan {ty : Nat} {vals : Operand -> Value} {V : Mem} {x : Operand} {e : Int} (hx : vals x = .agg #[.int .i64 e]) {R : Ending -> Mem -> Prop} (h : R (fltC e) V) :
  qAo Tryz.prog (.makeInterface 133 x) ty vals V fun y V1 => ∃ v, K.r.ok v /\ y = v /\ ∃ t x, K.cast .r v = .iface t x /\ R (.panicked [{ v := .iface t x, recovered := false }]) V1 :=
 qAo.fault hx ⟨fltV e, (rfl : K.cast .r (fltV e) = fltV e), rfl, _, _, rfl, h⟩
def resR : Rs -> Ending
 | .ok v => .returned (.int .i64 v)
 | .bad e => fltC e
def RB (r : Rs) (V : Mem) : Ending -> Mem -> Prop := fun e V' => e = resR r /\ V' = V
section
variable {V : Mem}
theorem c94 {n : Int} : Tri Tryz.prog 94 #[.int .i64 n] V (RB (big n) V) := by
 refine x94 ?_
 unfold w94
 have bad : ¬ (-1099511627776 <= n /\ n <= 1099511627776) -> RB (big n) V (fltC 5) V := fun h => by unfold big; rw [if_neg h]; exact ⟨rfl, rfl⟩
 refine ⟨fun h => qAo.pan rfl ((bad (by omega))), fun h1 => ⟨fun h => qAo.pan rfl ((bad (by omega))), fun h2 => ?_⟩⟩
 unfold big; rw [if_pos (by omega)]; exact ⟨rfl, rfl⟩
theorem c147 {b : Bool} : PP 147 [.bool b] V (.int .i64 (trI b)) := by
 refine x147 ?_
 unfold w147
 refine ⟨fun h => ?_, fun h => ?_⟩
 ·rw [show b = true from h]; exact ⟨rfl, rfl⟩
 ·rw [show b = false by simpa using h]; exact ⟨rfl, rfl⟩
theorem c201 {n : Int} (h : -1099511627776 <= n /\ n <= 1099511627776) : PP 201 [.int .i64 n] V (.int .u64 (n.natAbs : Int)) := by
 refine x201 ?_
 unfold w201
 refine ⟨⟨by omega, by omega⟩, qAo.max2 rfl rfl ⟨_, rfl, ?_⟩⟩
 have e : (if n < 0 - n then 0 - n else n) = (n.natAbs : Int) := by split <;> omega
 rw [e]
 exact ⟨K.inR_iff.2 (by simp [IntKind.min, IntKind.max, IntKind.signed, IntKind.bits]; omega), rfl, rfl⟩
theorem qGM {n : Nat} {k : Nat} : ((n : Int)).fdiv (2 ^ k) = ((n / 2 ^ k : Nat) : Int) := by
 rw [show ((2 : Int) ^ k) = ((2 ^ k : Nat) : Int) by simp]; rw [Int.fdiv_eq_ediv_of_nonneg _ (Int.natCast_nonneg _)]; simp
theorem wrapU (n : Nat) : IntKind.wrap .u64 (n : Int) = ((n % 18446744073709551616 : Nat) : Int) := by
 simp [IntKind.wrap, IntKind.bits, IntKind.signed]
theorem maskU (n : Nat) : Go.bits .and .u64 (n : Int) 4294967295 = ((n % 4294967296 : Nat) : Int) := by
 unfold Go.bits
 have e : (BitVec.ofInt IntKind.u64.bits (n : Int) &&& BitVec.ofInt IntKind.u64.bits 4294967295).toNat = n % 4294967296 := by
  show (BitVec.ofInt 64 (n : Int) &&& BitVec.ofInt 64 4294967295).toNat = n % 4294967296
  have h1 : BitVec.ofInt 64 (n : Int) = BitVec.ofNat 64 n := by simp
  have h2 : BitVec.ofInt 64 4294967295 = BitVec.ofNat 64 4294967295 := by decide
  rw [h1, h2, BitVec.toNat_and, BitVec.toNat_ofNat, BitVec.toNat_ofNat, show 4294967295 % 2 ^ 64 = 2 ^ 32 - 1 by decide, Nat.and_two_pow_sub_one_eq_mod]
  omega
 simp only [e]
 rw [wrapU]
 congr 1
 omega
theorem inU (n : Nat) (h : n < 18446744073709551616) : K.inR .u64 (n : Int) := K.inR_iff.2 (by simp [IntKind.min, IntKind.max, IntKind.signed, IntKind.bits]; omega)
theorem c202 {a b : Nat} (ha : a <= 1099511627776) (hb : b <= 1099511627776) : PP 202 [.int .u64 a, .int .u64 b] V (.tuple #[.int .u64 ((a * b / 18446744073709551616 : Nat) : Int), .int .u64 ((a * b % 18446744073709551616 : Nat) : Int)]) := by
 refine x202 ?_
 unfold w202
 obtain ⟨x0, x1, h1, h2, h3, h4⟩ : ∃ x0 x1 : Nat, a % 4294967296 = x0 /\ a / 4294967296 = x1 /\ x0 < 4294967296 /\ x1 <= 256 := ⟨_, _, rfl, rfl, by omega, by omega⟩
 obtain ⟨y0, y1, k1, k2, k3, k4⟩ : ∃ y0 y1 : Nat, b % 4294967296 = y0 /\ b / 4294967296 = y1 /\ y0 < 4294967296 /\ y1 <= 256 := ⟨_, _, rfl, rfl, by omega, by omega⟩
 have p00 : x0 * y0 <= 4294967295 * 4294967295 := Nat.mul_le_mul (by omega) (by omega)
 have p10 : x1 * y0 <= 256 * 4294967295 := Nat.mul_le_mul (by omega) (by omega)
 have p01 : x0 * y1 <= 4294967295 * 256 := Nat.mul_le_mul (by omega) (by omega)
 have p11 : x1 * y1 <= 256 * 256 := Nat.mul_le_mul (by omega) (by omega)
 have pab : a * b = x1 * y1 * 18446744073709551616 + (x1 * y0 + x0 * y1) * 4294967296 + x0 * y0 := by
  have e1 : a = x1 * 4294967296 + x0 := by omega
  have e2 : b = y1 * 4294967296 + y0 := by omega
  rw [e1, e2]
  grind
 have ma := maskU a
 have mb := maskU b
 rw [h1] at ma
 rw [k1] at mb
 have shr : ∀ (n : Nat), (n : Int).fdiv (2 ^ (min (32 : Int).toNat IntKind.u64.bits)) = ((n / 4294967296 : Nat) : Int) := fun n => by
  rw [show min (32 : Int).toNat IntKind.u64.bits = 32 from rfl, qGM]
 have wr : ∀ {n : Nat}, n < 18446744073709551616 -> IntKind.wrap .u64 (n : Int) = (n : Int) := fun {n} h => by rw [wrapU, Nat.mod_eq_of_lt h]
 refine qAo.shr rfl rfl (by decide) ⟨_, rfl, qAo.shr rfl rfl (by decide) ⟨_, rfl, ?_⟩⟩
 rw [shr, shr, ma, mb, h2, k2]
 simp only [<- Int.natCast_mul]
 rw [wr (n := x0 * y0) (by omega), wr (n := x1 * y0) (by omega), wr (n := x0 * y1) (by omega), wr (n := x1 * y1) (by omega), wrapU]
 refine qAo.shr rfl rfl (by decide) ⟨_, rfl, ?_⟩
 rw [shr, <- Int.natCast_add, maskU]
 refine ⟨inU _ (by omega), qAo.shr rfl rfl (by decide) ⟨_, rfl, ?_⟩⟩
 rw [shr, <- Int.natCast_add, <- Int.natCast_add]
 refine ⟨inU _ (by omega), inU _ (by omega), qAo.shr rfl rfl (by decide) ⟨_, rfl, ?_⟩⟩
 rw [shr, <- Int.natCast_add]
 refine ⟨inU _ (by omega), ?_, rfl⟩
 have e : x1 * y1 + (x1 * y0 + x0 * y0 / 4294967296) / 4294967296 + ((x1 * y0 + x0 * y0 / 4294967296) % 4294967296 + x0 * y1) / 4294967296 = a * b / 18446744073709551616 := by
  rw [pab]
  omega
 rw [e]
theorem mul_abs {a b : Int} : (a.natAbs * b.natAbs : Nat) = (a * b).natAbs := (Int.natAbs_mul a b).symm
theorem c146 {a b : Int} (ha : -1099511627776 <= a /\ a <= 1099511627776) (hb : -1099511627776 <= b /\ b <= 1099511627776) : Tri Tryz.prog 146 #[.int .i64 a, .int .i64 b] V (RB (big (a * b)) V) := by
 refine x146 ?_
 unfold w146
 have bad : ¬ (-1099511627776 <= a * b /\ a * b <= 1099511627776) -> RB (big (a * b)) V (fltC 5) V := fun h => by unfold big; rw [if_neg h]; exact ⟨rfl, rfl⟩
 have hm := mul_abs (a := a) (b := b)
 refine (c201 ha).call ⟨_, rfl, (c201 hb).call ⟨_, rfl, (c202 (a := a.natAbs) (b := b.natAbs) (by omega) (by omega)).call ⟨_, _, rfl, ?_⟩⟩⟩
 rw [hm]
 refine ⟨fun h1 => ⟨fun h2 => qAo.pan rfl ((bad (by omega))), fun h2 => ⟨⟨by omega, by omega⟩, ?_⟩⟩, fun h1 => qAo.pan rfl ((bad (by omega)))⟩
 unfold big; rw [if_pos (by omega)]; exact ⟨rfl, rfl⟩
theorem c96 {op a b : Int} (ha : -1099511627776 <= a /\ a <= 1099511627776) (hb : -1099511627776 <= b /\ b <= 1099511627776) : Tri Tryz.prog 96 #[.int .i64 op, .int .i64 a, .int .i64 b] V (RB (qCz op a b) V) := by
 refine x96 ?_
 unfold w96 qCz
 have out : ∀ {r : Rs} {e : Ending} {V' : Mem}, RB r V e V' -> (∃ v, e = .returned (.int .i64 v) /\ RB r V (.returned (.int .i64 v)) V') ∨ ∃ ch, e = .panicked ch /\ RB r V e V' := by
  rintro r e V' ⟨rfl, rfl⟩
  cases r with
  | ok v => exact .inl ⟨v, rfl, rfl, rfl⟩
  | bad e => exact .inr ⟨_, rfl, rfl, rfl⟩
 have tr : ∀ {b : Bool} {r : Rs}, r = .ok (trI b) -> Tri Tryz.prog 147 #[.bool b] V fun e V' => ∃ v, e = .returned (.int .i64 v) /\ RB r V (.returned (.int .i64 v)) V' := fun h => c147.call ⟨_, rfl, by rw [h]; exact ⟨rfl, rfl⟩⟩
 refine ⟨fun h => ?_, fun h1 => ?_⟩
 ·rw [if_pos h]; exact ⟨⟨by omega, by omega⟩, Tri.mono c94 fun _ _ => out⟩
 rw [if_neg (show ¬ op = 9 from h1)]
 refine ⟨fun h => ?_, fun h2 => ?_⟩
 ·rw [if_pos h]; exact ⟨⟨by omega, by omega⟩, Tri.mono c94 fun _ _ => out⟩
 rw [if_neg (show ¬ op = 10 from h2)]
 refine ⟨fun h => ?_, fun h3 => ?_⟩
 ·rw [if_pos h]; exact Tri.mono (c146 ha hb) fun _ _ => out
 rw [if_neg (show ¬ op = 11 from h3)]
 refine ⟨fun h => ?_, fun h4 => ?_⟩
 ·rw [if_pos h]; exact qAo.max2 rfl rfl ⟨_, rfl, rfl, rfl⟩
 rw [if_neg (show ¬ op = 22 from h4)]
 refine ⟨fun h => ?_, fun h5 => ?_⟩
 ·rw [if_pos h]; exact qAo.min2 rfl rfl ⟨_, rfl, rfl, rfl⟩
 rw [if_neg (show ¬ op = 23 from h5)]
 refine ⟨fun h => ?_, fun h6 => ?_⟩
 ·rw [if_pos h]; exact tr rfl
 rw [if_neg (show ¬ op = 14 from h6)]
 refine ⟨fun h => ?_, fun h7 => ?_⟩
 ·rw [if_pos h]; exact tr rfl
 rw [if_neg (show ¬ op = 15 from h7)]
 refine ⟨fun h => ?_, fun h8 => ?_⟩
 ·rw [if_pos h]; exact tr rfl
 rw [if_neg (show ¬ op = 16 from h8)]
 refine ⟨fun h => ?_, fun h9 => ?_⟩
 ·rw [if_pos h]; exact tr rfl
 rw [if_neg (show ¬ op = 17 from h9)]
 refine ⟨fun h => ?_, fun h10 => ?_⟩
 ·rw [if_pos h]; exact qAo.pan rfl ⟨rfl, rfl⟩
 rw [if_neg (show ¬ b = 0 from h10)]
 refine ⟨fun h => ?_, fun h11 => ?_⟩
 ·rw [if_pos h]
  have hd := qJi (b := b) ha
  have hw : IntKind.wrap .i64 (a.tdiv b) = a.tdiv b := qEb ⟨by simp [IntKind.min, IntKind.signed, IntKind.bits]; omega, by simp [IntKind.max, IntKind.signed, IntKind.bits]; omega⟩
  have hbig : Rs.ok (a.tdiv b) = big (a.tdiv b) := by unfold big; rw [if_pos hd]
  rw [hw, hbig]
  exact ⟨h10, Tri.mono c94 fun _ _ => out⟩
 ·rw [if_neg (show ¬ op = 12 from h11)]
  exact ⟨h10, rfl, rfl⟩
end
abbrev qHC : ByteArray := qAi [0, 1, 2, 2, 3, 3, 3, 3, 4, 4, 4, 4, 4, 4, 4, 4, 5, 5, 5, 5, 5, 5, 5, 5, 5, 5, 5, 5, 5, 5, 5, 5, 6, 6, 6, 6, 6, 6, 6, 6, 6, 6, 6, 6, 6, 6, 6, 6, 6, 6, 6, 6, 6, 6, 6, 6, 6, 6, 6, 6, 6, 6, 6, 6, 7, 7, 7, 7, 7, 7, 7, 7, 7, 7, 7, 7, 7, 7, 7, 7, 7, 7, 7, 7, 7, 7, 7, 7, 7, 7, 7, 7, 7, 7, 7, 7, 7, 7, 7, 7, 7, 7, 7, 7, 7, 7, 7, 7, 7, 7, 7, 7, 7, 7, 7, 7, 7, 7, 7, 7, 7, 7, 7, 7, 7, 7, 7, 7, 8, 8, 8, 8, 8, 8, 8, 8, 8, 8, 8, 8, 8, 8, 8, 8, 8, 8, 8, 8, 8, 8, 8, 8, 8, 8, 8, 8, 8, 8, 8, 8, 8, 8, 8, 8, 8, 8, 8, 8, 8, 8, 8, 8, 8, 8, 8, 8, 8, 8, 8, 8, 8, 8, 8, 8, 8, 8, 8, 8, 8, 8, 8, 8, 8, 8, 8, 8, 8, 8, 8, 8, 8, 8, 8, 8, 8, 8, 8, 8, 8, 8, 8, 8, 8, 8, 8, 8, 8, 8, 8, 8, 8, 8, 8, 8, 8, 8, 8, 8, 8, 8, 8, 8, 8, 8, 8, 8, 8, 8, 8, 8, 8, 8, 8, 8, 8, 8, 8, 8, 8, 8, 8, 8, 8, 8, 8, 8]
def qIP (n : Nat) : Int := if n = 0 then 0 else (Nat.log2 n : Int) + 1
theorem lenTab_at {n : Nat} (h : n < 256) : qAU qHC (n : Int) = qIP n := by
 have : ((List.range 256).all fun n => decide (qAU qHC (n : Int) = qIP n)) = true := by kernel_rfl
 exact of_decide_eq_true (List.all_eq_true.1 this n (List.mem_range.2 h))
theorem log2_shift {n k : Nat} (h : 2 ^ k <= n) : Nat.log2 n = k + Nat.log2 (n / 2 ^ k) := by
 have hp : 0 < 2 ^ k := Nat.two_pow_pos k
 have h0 : n / 2 ^ k ≠ 0 := by
  have := (Nat.le_div_iff_mul_le hp).2 (by rw [Nat.one_mul]; exact h : 1 * 2 ^ k <= n)
  omega
 have hn : n ≠ 0 := by omega
 have key : ∀ j, j <= Nat.log2 (n / 2 ^ k) ↔ k + j <= Nat.log2 n := fun j => by
  rw [Nat.le_log2 h0, Nat.le_log2 hn, Nat.le_div_iff_mul_le hp, <- Nat.pow_add, Nat.add_comm]
 have h1 := (key (Nat.log2 (n / 2 ^ k))).1 (Nat.le_refl _)
 have h2 : k <= Nat.log2 n := (Nat.le_log2 hn).2 h
 have h3 := (key (Nat.log2 n - k)).2 (by omega)
 omega
theorem qDm {n k : Nat} (h : 2 ^ k <= n) : qIP n = k + qIP (n / 2 ^ k) := by
 have hp : 0 < 2 ^ k := Nat.two_pow_pos k
 have h0 : n / 2 ^ k ≠ 0 := by
  have := (Nat.le_div_iff_mul_le hp).2 (by rw [Nat.one_mul]; exact h : 1 * 2 ^ k <= n)
  omega
 unfold qIP
 rw [if_neg (by omega), if_neg h0, log2_shift h]
 omega
theorem lenN_small {n : Nat} (h : n < 256) : 0 <= qIP n /\ qIP n <= 8 := by
 unfold qIP
 split
 ·omega
 ·rename_i h0
  have : Nat.log2 n < 8 := (Nat.log2_lt h0).2 h
  omega
section
variable {V : Mem}
theorem c145 {n : Nat} (hn : n <= 1099511627776) : PP 145 [.int .u64 n] V (.int .i64 (qIP n)) := by
 refine x145 ?_
 unfold w145
 have shr : ∀ (k : Nat) (c : Int), min c.toNat IntKind.u64.bits = k -> (n : Int).fdiv (2 ^ (min c.toNat IntKind.u64.bits)) = ((n / 2 ^ k : Nat) : Int) := fun k c h => by rw [h, qGM]
 have leaf : ∀ (k c : Nat), k < 256 -> c <= 64 -> qIP n = c + qIP k -> ∀ v : Int, v = (k : Int) -> ∀ c' : Int, c' = (c : Int) -> K.inR .u8 v /\ (0 <= v /\ v < (qHC.size : Int)) /\ IR (qAU qHC v) /\ IR (c' + qAU qHC v) /\ (rV (uI (c' + qAU qHC v)) = Ending.returned (.int .i64 (qIP n)) /\ V = V) := by
  rintro k c h1 h2 h3 _ rfl _ rfl
  have h4 := lenN_small h1
  have hs : qHC.size = 256 := by kernel_rfl
  rw [lenTab_at h1, hs, h3]
  exact ⟨⟨by omega, by omega⟩, ⟨by omega, by omega⟩, ⟨by omega, by omega⟩, ⟨by omega, by omega⟩, rfl, rfl⟩
 refine ⟨fun h1 => qAo.shr rfl rfl (by decide) ⟨_, rfl, ?_⟩, fun h1 => ⟨fun h2 => qAo.shr rfl rfl (by decide) ⟨_, rfl, ⟨by omega, by omega⟩, ?_⟩, fun h2 => ⟨fun h3 => qAo.shr rfl rfl (by decide) ⟨_, rfl, ⟨by omega, by omega⟩, ?_⟩, fun h3 => ?_⟩⟩⟩
 ·rw [shr 32 _ rfl]
  have e := qDm (n := n) (k := 32) (by omega)
  have hb : n / 2 ^ 32 <= 256 := by omega
  refine ⟨fun h => by omega, fun _ => ⟨fun h2 => qAo.shr rfl rfl (by decide) ⟨_, rfl, ⟨by omega, by omega⟩, ?_⟩, fun h2 => leaf _ 32 (by omega) (by omega) (by omega) _ rfl _ rfl⟩⟩
  have e2 := qDm (n := n / 2 ^ 32) (k := 8) (by omega)
  have : ((n / 2 ^ 32 : Nat) : Int).fdiv (2 ^ (min (8 : Int).toNat IntKind.u64.bits)) = ((n / 2 ^ 32 / 2 ^ 8 : Nat) : Int) := by
   rw [show min (8 : Int).toNat IntKind.u64.bits = 8 from rfl, qGM]
  rw [this]
  exact leaf _ 40 (by omega) (by omega) (by omega) _ rfl _ rfl
 ·rw [shr 16 _ rfl]
  have e := qDm (n := n) (k := 16) (by omega)
  refine ⟨fun h => qAo.shr rfl rfl (by decide) ⟨_, rfl, ⟨by omega, by omega⟩, ?_⟩, fun h => leaf _ 16 (by omega) (by omega) (by omega) _ rfl _ rfl⟩
  have e2 := qDm (n := n / 2 ^ 16) (k := 8) (by omega)
  have : ((n / 2 ^ 16 : Nat) : Int).fdiv (2 ^ (min (8 : Int).toNat IntKind.u64.bits)) = ((n / 2 ^ 16 / 2 ^ 8 : Nat) : Int) := by
   rw [show min (8 : Int).toNat IntKind.u64.bits = 8 from rfl, qGM]
  rw [this]
  exact leaf _ 24 (by omega) (by omega) (by omega) _ rfl _ rfl
 ·rw [shr 8 _ rfl]
  have e := qDm (n := n) (k := 8) (by omega)
  exact leaf _ 8 (by omega) (by omega) (by omega) _ rfl _ rfl
 ·exact leaf _ 0 (by omega) (by omega) (by omega) _ rfl _ rfl
theorem c95 {n : Nat} (hn : n <= 1099511627776) : PP 95 [.int .u64 n] V (.int .i64 (qIP n)) := by
 refine x95 ?_
 unfold w95
 exact (c145 hn).call ⟨_, rfl, rfl, rfl⟩
end
theorem lenN_log {n : Nat} : max 0 (qIP n - 1) = (Nat.log2 n : Int) := by
 unfold qIP
 split
 ·rename_i h; subst h; rfl
 ·omega
end Go.Proofs
namespace Go.Proofs
open Go Go.Sx
def qIY (k : Int × Int) : Value := .agg #[.int .i64 k.1, .int .i64 k.2]
theorem encK_inj (a b : Int × Int) (h : qIY a = qIY b) : a = b := by
 obtain ⟨a1, a2⟩ := a
 obtain ⟨b1, b2⟩ := b
 unfold qIY at h
 simpa using h
theorem qJo (a b : Int × Int) (w : World) : (Op.equal 136 (qIY a) (qIY b)).run Tryz.prog w = .ok (decide (a = b)) w := by
 obtain ⟨a1, a2⟩ := a
 obtain ⟨b1, b2⟩ := b
 have hst : Tryz.prog.stoodInHeld 136 = false := by kernel_rfl
 have p0 : ∀ (x y : Int), (part 3 #[.int .i64 x, .int .i64 y] 0).run Tryz.prog w = .ok (.int .i64 x) w := fun x y => by simp [part, Sem.run_bind, Tryz.isAgg3]
 have p1 : ∀ (x y : Int), (part 3 #[.int .i64 x, .int .i64 y] 1).run Tryz.prog w = .ok (.int .i64 y) w := fun x y => by simp [part, Sem.run_bind, Tryz.isAgg3]
 have e : ∀ (n : Nat) (x y : Int), (Op.equalIn (n + 1) 3 (.int .i64 x) (.int .i64 y)).run Tryz.prog w = .ok (x == y) w := fun n x y => by
  rw [Op.equalIn]; simp [Sem.run_bind, run_underlying Tryz.underlying3]
 rw [qBO, Op.equalIn]
 simp only [Sem.run_bind, run_underlying Tryz.underlying136, Result.andThen_ok, qIY, run_program, hst]
 by_cases h1 : a1 = b1 <;> by_cases h2 : a2 = b2 <;> simp [<- Array.forIn_toList, Sem.run_bind, p0, p1, e 9998, h1, h2]
open Classical in
theorem qIw (k : Int × Int) (w : World) : ∀ (es : List MapEntry) (i : Nat), (∀ e ∈ es, ∃ a, e.key = qIY a) -> (Instr.findAsking 136 (qIY k) es i).run Tryz.prog w = .ok ((es.findIdx? fun e => decide (e.key = qIY k)).bind fun j => (es[j]?).map fun e => (i + j, e.val)) w
 | [], i, _ => by rw [Instr.findAsking]; rfl
 | e :: es, i, h => by
  obtain ⟨a, ha⟩ := h e (by simp)
  have ih := qIw k w es (i + 1) fun x hx => h x (by simp [hx])
  rw [Instr.findAsking]
  simp only [Sem.run_bind, ha, qJo, Result.andThen_ok, List.findIdx?_cons]
  by_cases hk : k = a
  ·subst hk; simp
  ·have hk' : ¬ qIY a = qIY k := fun e => hk (encK_inj _ _ e).symm
   simp only [hk, hk', decide_false, Bool.false_eq_true, if_false, ih]
   cases h' : List.findIdx? (fun e : MapEntry => decide (e.key = qIY k)) es with
   | none => simp
   | some j => simp [Nat.add_assoc, Nat.add_comm 1 j]
theorem findNow_key (k : Value) : ∀ (es : List MapEntry) fs (i : Nat), Instr.findNow (.struct fs) k es i = some none /\ es = [] ∨ Instr.findNow (.struct fs) k es i = none
 | [], fs, i => .inl ⟨rfl, rfl⟩
 | e :: es, fs, i => .inr (by rw [Instr.findNow]; simp [Instr.sameNow])
open Classical in
theorem keyOf : KeyOf Tryz.prog 136 qIY where
 inj := encK_inj
 find := fun a es w h => by
  unfold Instr.findKey
  simp only [Sem.run_bind, run_underlying Tryz.underlying136, Result.andThen_ok]
  rcases findNow_key (qIY a) es _ 0 with ⟨h1, rfl⟩ | h1
  ·rw [h1]; rfl
  ·rw [h1]
   have := qIw a w es 0 h
   simp only [Nat.zero_add] at this
   exact this
 check := fun b a w => by
  have p0 : ∀ (x y : Int), (part 3 #[.int .i64 x, .int .i64 y] 0).run Tryz.prog w = .ok (.int .i64 x) w := fun x y => by simp [part, Sem.run_bind, Tryz.isAgg3]
  have p1 : ∀ (x y : Int), (part 3 #[.int .i64 x, .int .i64 y] 1).run Tryz.prog w = .ok (.int .i64 y) w := fun x y => by simp [part, Sem.run_bind, Tryz.isAgg3]
  have c : ∀ (n : Nat) (x : Int), (Instr.checkKey b (n + 1) 3 (.int .i64 x)).run Tryz.prog w = .ok () w := fun n x => by
   rw [Instr.checkKey]; simp [Sem.run_bind, run_underlying Tryz.underlying3]
  rw [show (10000 : Nat) = 9999 + 1 from rfl, Instr.checkKey]
  simp [Sem.run_bind, run_underlying Tryz.underlying136, qIY, <- Array.forIn_toList, p0, p1, c 9998]
 stays := fun a w => by
  have h : Instr.sameBits 10000 (qIY a) (qIY a) = true := by
   unfold qIY
   rw [show (10000 : Nat) = 9998 + 1 + 1 from rfl]
   simp [Instr.sameBits]
  unfold Instr.keyThatStays
  rw [if_pos h]; rfl
end Go.Proofs
namespace Go.Proofs
open Go Go.Sx
attribute [local irreducible] Go.Sx.Tri
theorem qDi {V : Mem} {b : Nat} {c : Array Value} {t : Nat} {fr : Nat × Nat} (h : V b = some (.cells c t fr)) (j off n : Nat) (hl : j + off + n <= c.size) : V.rowp (qAa (sa b) j) off n = some ((c.toList.drop (j + off)).take n) := by
 have := qAg h (j + off) n hl
 rw [<- this]
 show V.row (((⟨b, 0, none⟩ : Addr).add j).add off) n = V.row ((⟨b, 0, none⟩ : Addr).add (j + off)) n
 rw [qER]
theorem c141 : IdC 141 Fld.row Fld.v 2 := idC g141
def mrow (d : Ds) (m : Mm) (kb bb : Nat) : List Value := [Go.Sx.vS d.name, d.ts.v, d.gs.v, d.ps.v, d.ms.v, d.is.v, d.qs.v, d.bs.v, m.gs.v, m.ns.v, .map (some kb), .map (some bb)]
structure qDP (V0 : Mem) (d : Ds) (m : Mm) (p kb bb : Nat) (V : Mem) (kn : Int × Int -> Option Int) (bz : Int × Int -> Bool) : Prop where
 sub : V0.sub V
 at_ : V p = some (.cells (mrow d m kb bb).toArray 129 (0, 0))
 known : qES qIY V kb fun k => (kn k).map (Value.int .i64)
 busy : qES qIY V bb fun k => if bz k then some (.bool true) else none
structure qHZ (V0 : Mem) (d : Ds) (m : Mm) (p kb bb : Nat) : Prop where
 good : qBF d m
 ds : Ds.Ok V0 d
 mm : Mm.Ok V0 m
 p0 : V0 p = none
 k0 : V0 kb = none
 b0 : V0 bb = none
 pk : p ≠ kb
 pb : p ≠ bb
 kb : kb ≠ bb
def qIa (kb bb : Nat) (V V' : Mem) : Prop := ∀ c o, c ≠ kb -> c ≠ bb -> V c = some o -> V' c = some o
theorem qIa.refl {kb bb : Nat} (V : Mem) : qIa kb bb V V := fun _ _ _ _ h => h
theorem qIa.trans {kb bb : Nat} {V V' V'' : Mem} (h : qIa kb bb V V') (k : qIa kb bb V' V'') : qIa kb bb V V'' := fun c o h1 h2 h3 => k c o h1 h2 (h c o h1 h2 h3)
theorem qIa.of_sub {kb bb : Nat} {V V' : Mem} (h : V.sub V') : qIa kb bb V V' := fun c o _ _ h3 => h c o h3
section
variable {V0 V V' : Mem} {d : Ds} {m : Mm} {p kb bb : Nat} {kn : Int × Int -> Option Int} {bz : Int × Int -> Bool}
theorem qDP.grow (h : qDP V0 d m p kb bb V kn bz) (hs : V.sub V') : qDP V0 d m p kb bb V' kn bz := ⟨h.sub.trans hs, hs _ _ h.at_, h.known.sub hs, h.busy.sub hs⟩
theorem qDP.cell (h : qDP V0 d m p kb bb V kn bz) (i n : Nat) (hi : i + n <= 12) : V.rowp (sa p) i n = some (((mrow d m kb bb).drop i).take n) := qAg h.at_ i n hi
theorem qDP.cell' (h : qDP V0 d m p kb bb V kn bz) (j i n : Nat) (hi : j + i + n <= 12) : V.rowp (qAa (sa p) j) i n = some (((mrow d m kb bb).drop (j + i)).take n) := qDi h.at_ j i n hi
theorem nn {p : Addr} : ¬ (some p : Option Addr) = none := nofun
theorem pnn {p : Addr} {n : Nat} : ¬ qAa (some p) n = none := nofun
theorem c36 (S : qHZ V0 d m p kb bb) (h : qDP V0 d m p kb bb V kn bz) {x : Int} : PP 36 [pv p, .int .i64 x] V (.bool (decide (0 <= x /\ x <= (m.nodes.length : Int)))) := by
 refine x36 ?_
 unfold w36
 have hn := S.mm.nodes.n_eq
 refine ⟨fun h1 => ⟨nn, nn, pnn, m.ns, h.cell 9 1 (by decide), ?_⟩, fun h1 => ?_⟩
 ·have : (decide (x <= (m.ns.n : Int))) = decide (0 <= x /\ x <= (m.nodes.length : Int)) := by rw [decide_eq_decide]; omega
  rw [this]; exact ⟨rfl, rfl⟩
 ·rw [decide_eq_false (fun k => h1 k.1)]; exact ⟨rfl, rfl⟩
theorem c71 {b t : Nat} {s : ByteArray} (hb : V b = some (cell (.string s) t)) {x : Ms} : PP 71 [x.v, pv b] V (.bool (decide (x.name = s))) := by
 refine x71 ?_
 unfold w71
 exact ⟨_, qBt hb, rfl, rfl⟩
theorem c37 (S : qHZ V0 d m p kb bb) (h : qDP V0 d m p kb bb V kn bz) {s : ByteArray} : PP 37 [pv p, .string s] V (.int .i64 (qGh d s)) := by
 refine Pur.mk (x37 ?_)
 unfold w37
 refine ⟨nn, nn, pnn, d.ms, h.cell 4 1 (by decide), fun b hb => ?_⟩
 have hs := Mem.sub_new hb (cell (.string s) 9)
 exact (idxMs (first := []) (caps := [pv b]) (S.ds.sub (h.sub.trans hs)).measures Tryz.call71 (fun t => decide (t.name = s)) (fun x _ => c71 mss)).call ⟨_, rfl, rfl, hs⟩
theorem c142 {b t : Nat} {s : ByteArray} (hb : V b = some (cell (.string s) t)) {x : Fld} : PP 142 [x.v, pv b] V (.bool (decide (x.name = s))) := by
 refine x142 ?_
 unfold w142
 exact ⟨_, qBt hb, rfl, rfl⟩
theorem c200 {b t : Nat} {s : ByteArray} (hb : V b = some (cell (.string s) t)) {x : Fld} : PP 200 [x.v, pv b] V (.bool (decide (x.name = s))) := by
 refine x200 ?_
 unfold w200
 exact ⟨_, qBt hb, rfl, rfl⟩
theorem c199 {i : Int} : PP 199 [.int .i64 i] V (.tuple #[.int .i64 (if i < 0 then 0 else i), .int .i64 (if i < 0 then 12 else 0)]) := by
 refine x199 ?_
 unfold w199
 refine ⟨fun h => ?_, fun h => ?_⟩
 ·rw [if_pos h, if_pos h]; exact ⟨rfl, rfl⟩
 ·rw [if_neg h, if_neg h]; exact ⟨rfl, rfl⟩
theorem c143 {t : Ty} (h : Ty.Ok V t) {s : ByteArray} : PP 143 [t.v, .string s] V (.tuple #[.int .i64 (if qIh t.fields s < 0 then 0 else qIh t.fields s), .int .i64 (if qIh t.fields s < 0 then 12 else 0)]) := by
 refine Pur.mk (x143 ?_)
 unfold w143
 intro b hb
 have hs := Mem.sub_new hb (cell (.string s) 9)
 refine (c141 (first := []) (caps := [pv b]) (h.sub hs).fields Tryz.call200 (fun t => decide (t.name = s)) (fun x _ => c200 mss)).call ⟨_, rfl, c199.call ⟨_, _, rfl, rfl, hs⟩⟩
theorem c92 (S : qHZ V0 d m p kb bb) (h : qDP V0 d m p kb bb V kn bz) {T s t : ByteArray} {x : Int} (hT : This d m T x) (ht : qBJ (qAk d T).vars s = t) (hne : t ≠ sE) : PP 92 [pv p, .string s, .int .i64 x] V (.int .i64 (varV d m x s)) := by
 refine Pur.mk (x92 ?_)
 unfold w92
 refine ⟨fun h1 => ?_, fun h1 => ⟨nn, nn, pnn, m.gs, h.cell 8 1 (by decide), nn, nn, pnn, d.gs, h.cell 2 1 (by decide), fun b hb => ?_⟩⟩
 ·unfold varV; rw [if_pos (show s = qBG from h1)]; exact ⟨rfl, Mem.sub.refl _⟩
 have hs := Mem.sub_new hb (cell (.string s) 9)
 have hv := h.sub.trans hs
 refine (c141 (first := []) (caps := [pv b]) (S.ds.sub hv).globals Tryz.call142 (fun t => decide (t.name = s)) (fun x _ => c142 mss)).call ⟨_, rfl, (h.grow hs).cell' 8 0 1 (by decide), pnn, nn, nn, ?_⟩
 rcases var_ok S.good hT ht hne with ⟨g, -⟩ | ⟨-, i, f, v, g1, g2, g3, g4, g5, -⟩
 ·exact absurd g h1
 have g1 : qJC (fun t : Fld => decide (t.name = s)) d.globals = (i : Int) := g1
 rw [g1]
 have hl := (List.getElem?_eq_some_iff.1 g3).1
 have hgl := (S.mm.sub hv).globals
 have hn := hgl.n_eq
 obtain ⟨y, hym, hy, -, hl2, hp2, hz2, hrow2⟩ := hgl.get (i := i) (by omega)
 rw [g3] at hy; cases hy
 refine ⟨hp2, hz2, by omega, _, hrow2, ?_, hs⟩
 show Ending.returned (.int .i64 v) = _
 rw [g5]
theorem c93 (S : qHZ V0 d m p kb bb) (h : qDP V0 d m p kb bb V kn bz) {t s ty : ByteArray} (ht : qCO d t s = (ty, 0)) {a : Int} (ha : qBk d m t a) : Tri Tryz.prog 93 #[pv p, .int .i64 a, .string s] V (RB (qEs d m a s) V) := by
 refine Tri.mono (x93 (R := RB (qEs d m a s) V) ?_) fun _ _ h => h
 unfold w93
 refine ⟨fun h0 => qAo.pan rfl ?_, fun h0 => ?_⟩
 ·unfold qEs; rw [if_pos h0]; exact ⟨rfl, rfl⟩
 obtain ⟨n, i, j, tt, f, v, b1, b2, b3, b4, b5, b6, b7, b8, b9, b10, -, b12, -⟩ := fld_ok S.good ht ha h0
 obtain ⟨q, rfl⟩ : ∃ q : Nat, a = (q : Int) + 1 := ⟨(a - 1).toNat, by omega⟩
 rw [show ((q : Int) + 1 - 1) = (q : Int) by omega] at *
 have hm1 := S.mm.sub h.sub
 have hd1 := S.ds.sub h.sub
 have hnn := hm1.nodes.n_eq
 obtain ⟨y, hym, hy, -, hl2, hp2, hz2, hrow2⟩ := hm1.nodes.get (i := q) (by omega)
 rw [Int.toNat_natCast] at b1
 rw [b1] at hy; cases hy
 have htn := hd1.types.n_eq
 have hjl := (List.getElem?_eq_some_iff.1 b6).1
 obtain ⟨z, hzm, hz, -, hl3, hp3, hz3, hrow3⟩ := hd1.types.get (i := j) (by omega)
 rw [b6] at hz; cases hz
 have hI : IR ((q : Int)) := ⟨by omega, by have := (hm1.nodes.succ (i := q) (by omega)).2; omega⟩
 refine ⟨nn, nn, pnn, m.ns, h.cell 9 1 (by decide), hI, hp2, hz2, by omega, _, _, hrow2, nn, nn, pnn, d.ts, h.cell 1 1 (by decide), ?_⟩
 rw [b5]
 refine ⟨hp3, hz3, by omega, _, _, hrow3, (c143 (hd1.typesOk tt hzm)).call ⟨_, _, rfl, ?_⟩⟩
 rw [b8, if_neg (by omega)]
 have hv := (hm1.nodesOk n hym).rows
 have hvn := hv.n_eq
 have hil := (List.getElem?_eq_some_iff.1 b10).1
 obtain ⟨u, hum, hu, -, hl4, hp4, hz4, hrow4⟩ := hv.get (i := i) (by omega)
 rw [b10] at hu; cases hu
 refine ⟨hp4, hz4, by omega, _, hrow4, ?_, rfl⟩
 rw [b12]; rfl
def qIc (d : Ds) (m : Mm) (x : Int) : ByteArray := if x = 0 then sE else ((m.nodes[(x - 1).toNat]?).bind fun n => (d.types[n.ty.toNat]?).map (·.name)).getD sE
theorem node_at (G : qBF d m) {x : Int} (h1 : 1 <= x) (h2 : x <= (m.nodes.length : Int)) : ∃ (q j : Nat) (n : Nd) (tt : Ty), x = (q : Int) + 1 /\ m.nodes[q]? = some n /\ n.ty = (j : Int) /\ d.types[j]? = some tt /\ qIc d m x = tt.name := by
 obtain ⟨q, rfl⟩ : ∃ q : Nat, x = (q : Int) + 1 := ⟨(x - 1).toNat, by omega⟩
 have hq : m.nodes[q]? = some (m.nodes[q]'(by omega)) := List.getElem?_eq_getElem _
 obtain ⟨-, -, p3, -⟩ := qAq G.mem
 obtain ⟨c1, c2⟩ := of_decide_eq_true (p3 _ (List.mem_of_getElem? hq))
 obtain ⟨j, hj⟩ : ∃ j : Nat, (m.nodes[q]'(by omega)).ty = (j : Int) := ⟨_, (Int.toNat_of_nonneg c1).symm⟩
 have ht : d.types[j]? = some (d.types[j]'(by omega)) := List.getElem?_eq_getElem _
 refine ⟨q, j, _, _, rfl, hq, hj, ht, ?_⟩
 unfold qIc
 rw [if_neg (by omega), show ((q : Int) + 1 - 1).toNat = q by omega, hq, Option.bind_some, hj, Int.toNat_natCast, ht]; rfl
theorem c38 (S : qHZ V0 d m p kb bb) (h : qDP V0 d m p kb bb V kn bz) {x : Int} (hx : 0 <= x /\ x <= (m.nodes.length : Int)) : PP 38 [pv p, .int .i64 x] V (.string (qIc d m x)) := by
 refine x38 ?_
 unfold w38
 refine ⟨fun h0 => ?_, fun h0 => ?_⟩
 ·unfold qIc; rw [if_pos h0]; exact ⟨rfl, rfl⟩
 have h0 : ¬ x = 0 := h0
 obtain ⟨q, j, n, tt, rfl, b1, b5, b6, b7⟩ := node_at S.good (x := x) (by omega) hx.2
 rw [show ((q : Int) + 1 - 1) = (q : Int) by omega]
 have hm1 := S.mm.sub h.sub
 have hd1 := S.ds.sub h.sub
 have hnn := hm1.nodes.n_eq
 obtain ⟨y, hym, hy, -, hl2, hp2, hz2, hrow2⟩ := hm1.nodes.get (i := q) (by omega)
 rw [b1] at hy; cases hy
 have htn := hd1.types.n_eq
 have hjl := (List.getElem?_eq_some_iff.1 b6).1
 obtain ⟨z, hzm, hz, -, hl3, hp3, hz3, hrow3⟩ := hd1.types.get (i := j) (by omega)
 rw [b6] at hz; cases hz
 have hI : IR ((q : Int)) := ⟨by omega, by have := (hm1.nodes.succ (i := q) (by omega)).2; omega⟩
 refine ⟨nn, nn, pnn, d.ts, h.cell 1 1 (by decide), nn, nn, pnn, m.ns, h.cell 9 1 (by decide), hI, hp2, hz2, by omega, qAc hp2, _, _, hrow2, ?_⟩
 rw [b5]
 refine ⟨hp3, hz3, by omega, qAc hp3, _, _, hrow3, ?_, rfl⟩
 rw [b7]
theorem this_typ (G : qBF d m) {x : Int} (h1 : 0 <= x) (h2 : x <= (m.nodes.length : Int)) : This d m (qIc d m x) x := by
 by_cases h0 : x = 0
 ·left; unfold qIc; rw [if_pos h0]; exact ⟨rfl, h0⟩
 ·right
  obtain ⟨q, j, n, tt, rfl, b1, b5, b6, b7⟩ := node_at G (x := x) (by omega) h2
  have hmem := List.mem_of_getElem? b6
  have hnode : qAN d tt.name = true := List.any_eq_true.2 ⟨tt, hmem, decide_eq_true rfl⟩
  have hname := qBW G.valid hnode
  refine ⟨b7 ▸ hnode, h0, ?_⟩
  rw [b7]
  unfold qAR
  rw [if_neg (qBI hname kwInt), if_neg (qBI hname kwBool)]
  refine decide_eq_true (.inr ⟨by omega, by omega, ?_⟩)
  rw [show ((q : Int) + 1 - 1).toNat = q by omega, b1]
  show some n.ty = _
  rw [b5, (qEL (qAq G.mem).1).2.1 j tt b6]
end
theorem g234 : IdxP 234 Nd.row Nd.v 2 := by
 intro V l xs g first caps hg St Hit hrows h0 hp
 refine x234 (a := l) (b := .func (.func g) first.toArray caps.toArray) ?_
 unfold w234
 refine qAA xs.length St h0 ?_
 intro i b V1 J hi hs hJ
 have h := hrows i V1 hs
 refine ⟨fun hlt => ?_, fun hge => ?_⟩
 ·obtain ⟨x, hm, hx, hd, hl, hp0, hz, hrow⟩ := h.get hlt
  refine ⟨hp0, hz, hlt, _, _, hrow, g, _, _, rfl, hg, Tri.mono (hp i x V1 hx hs) ?_⟩
  rintro e V2 ⟨b, rfl, h1, h2⟩
  exact ⟨b, rfl, fun hb => .inl ⟨i, rfl, h1 hb⟩, fun hb => ⟨h.succ hlt, hJ hl _ _ (h2 (by simpa using hb))⟩⟩
 ·have e : i = xs.length := by have := (h.done hge).2; omega
  exact .inr ⟨rfl, e ▸ hs⟩
theorem g173 : ConP 173 Nd.row Nd.v 2 := conG g234 x173
theorem c173 : ConC 173 Nd.row Nd.v 2 := conC g173
theorem qGP (w : World) : (zeroValue 3).run Tryz.prog w = .ok (.int .i64 0) w := by kernel_rfl
def pmap (d : Ds) (i : Nat) (k : ByteArray) : Option Value := if 0 <= qEd d k /\ qEd d k < (i : Int) then some (.int .i64 (qEd d k)) else none
def tmap (d : Ds) (k : ByteArray) : Option Value := if qAN d k = true then some (.int .i64 (qEd d k)) else none
section
variable {V : Mem} {d : Ds} {m : Mm} {b : Nat}
theorem idxT_le {i : Nat} {x : Ty} (hx : d.types[i]? = some x) : 0 <= qEd d x.name /\ qEd d x.name <= (i : Int) := by
 unfold qEd
 rcases qAI (fun t : Ty => decide (t.name = x.name)) d.types with ⟨-, -, h⟩ | ⟨j, y, h1, h2, -, h4, -, -, -, h5⟩
 ·have := List.any_eq_false.1 h x (List.mem_of_getElem? hx)
  exact absurd (decide_eq_true rfl) this
 ·rw [h1]
  refine ⟨by omega, ?_⟩
  have hji : ¬ i < j := fun hlt => by
   have := List.any_eq_false.1 h5 x (List.mem_take_iff_getElem.2 ⟨i, by have := (List.getElem?_eq_some_iff.1 hx).1; omega, (List.getElem?_eq_some_iff.1 hx).2⟩)
   exact this (decide_eq_true rfl)
  omega
theorem idxT_at {k : ByteArray} {i : Nat} (h : qEd d k = (i : Int)) : ∃ x, d.types[i]? = some x /\ x.name = k := by
 unfold qEd at h
 rcases qAI (fun t : Ty => decide (t.name = k)) d.types with ⟨h1, -⟩ | ⟨j, y, h1, h2, -, h4, h5, -⟩
 ·rw [h1] at h; omega
 ·rw [h1] at h
  obtain rfl : j = i := by omega
  exact ⟨y, h2, of_decide_eq_true h5⟩
theorem pmap_all {k : ByteArray} (i : Nat) (hi : d.types.length <= i) : pmap d i k = tmap d k := by
 unfold pmap tmap
 rcases qFT d k with ⟨h1, h2⟩ | ⟨h1, h2⟩
 ·rw [if_neg (by omega), if_neg (by rw [h2]; decide)]
 ·obtain ⟨j, hj⟩ : ∃ j : Nat, qEd d k = (j : Int) := ⟨(qEd d k).toNat, by omega⟩
  obtain ⟨x, hx, -⟩ := idxT_at hj
  have := (List.getElem?_eq_some_iff.1 hx).1
  rw [if_pos ⟨h1, by omega⟩, if_pos h2]
theorem c170 {s : ByteArray} : PP 170 [.string s] V (.bool (decide (s = qAP) || decide (s = qAt))) := by
 refine x170 ?_
 unfold w170
 refine ⟨fun h => ⟨by rw [decide_eq_true (show s = qAP from h)]; rfl, rfl⟩, fun h => ⟨by rw [decide_eq_false (show ¬ s = qAP from h)]; rfl, rfl⟩⟩
theorem c171 {s : ByteArray} (h : qBe V b (tmap d)) : PP 171 [.map (some b), .string s] V (.bool (qAN d s)) := by
 refine x171 ?_
 unfold w171
 refine qBv.str Tryz.underlying197 Tryz.underlying9 qGP h ?_
 unfold tmap
 cases hn : qAN d s with
 | true => exact ⟨_, _, rfl, rfl, rfl⟩
 | false => exact ⟨_, _, rfl, rfl, rfl⟩
theorem c169 {p t : Nat} (hp : V p = some (cell (.map (some b)) t)) (h : qBe V b (tmap d)) {f : Fld} : PP 169 [f.v, pv p] V (.bool (!known d f.ty)) := by
 refine x169 ?_
 unfold w169
 refine c170.call ⟨_, rfl, fun h1 => ?_, fun h1 => ⟨some b, qBt hp, (c171 h).call ⟨_, rfl, ?_, rfl⟩⟩⟩
 ·unfold known; rw [h1]; exact ⟨rfl, rfl⟩
 ·unfold known; rw [show (decide (f.ty = qAP) || decide (f.ty = qAt)) = false by simpa using h1]; rfl
theorem c167 {p t : Nat} (hp : V p = some (cell (.map (some b)) t)) (h : qBe V b (tmap d)) {l : Sl} {xs : List Fld} (hr : qAd V l 2 (xs.map Fld.row)) : PP 167 [l.v, pv p] V (.bool (qCe d xs)) := by
 refine x167 ?_
 unfold w167
 refine (c168 (first := []) (caps := [pv p]) hr Tryz.call169 (fun f => !known d f.ty) (fun f _ => c169 hp h)).call ⟨_, rfl, ?_, rfl⟩
 unfold qCe
 rw [List.all_eq_not_any_not]
theorem c172 {p q t t2 : Nat} (hp : V p = some (cell (.map (some b)) t)) (hq : V q = some (cell (.func (.func 167) #[] #[pv p]) t2)) (h : qBe V b (tmap d)) {y : Ty} (hy : Ty.Ok V y) :
  PP 172 [y.v, pv q] V (.bool (!qCe d y.fields)) := by
 refine x172 ?_
 unfold w172
 exact ⟨.func (.func 167) #[] #[pv p], rfl, qBt hq, 167, _, _, rfl, Tryz.call167, (c167 hp h hy.fields).callv (first := []) (caps := [pv p]) ⟨_, rfl, rfl, rfl⟩⟩
theorem qCj : hasT d = true ↔ qAQ d = true /\ qCe d d.globals = true /\ (∀ (i : Nat) (x : Ty), d.types[i]? = some x -> qEd d x.name = (i : Int)) /\ ∀ x ∈ d.types, qCe d x.fields = true := by
 unfold hasT
 rw [Bool.and_eq_true, Bool.and_eq_true, qCE, and_assoc]
 refine and_congr_right fun _ => and_congr_right fun _ => ⟨fun h => ⟨fun i x hx => ?_, fun x hx => ?_⟩, fun h i x hx => ?_⟩
 ·have := h i x hx
  rw [Bool.and_eq_true, decide_eq_true_eq] at this
  exact this.1
 ·obtain ⟨i, hi, rfl⟩ := List.mem_iff_getElem.1 hx
  have := h i _ (List.getElem?_eq_getElem hi)
  rw [Bool.and_eq_true] at this
  exact this.2
 ·rw [Bool.and_eq_true, decide_eq_true_eq]
  exact ⟨h.1 i x hx, h.2 x (List.mem_of_getElem? hx)⟩
def TyM (V' : Mem) (d : Ds) (mo : Option Nat) : Prop := (hasT d = true /\ ∃ b, mo = some b /\ qBe V' b (tmap d)) ∨ (¬ hasT d = true /\ mo = none)
theorem c112 [Tab V] (h : Ds.Ok V d) : Tri Tryz.prog 112 #[d.v] V fun r V' => ∃ mo, r = .returned (.map mo) /\ V.sub V' /\ TyM V' d mo := by
 refine x112 ?_
 unfold w112
 have no : ∀ {V1 : Mem}, V.sub V1 -> ¬ hasT d = true -> (∃ mo, Ending.returned (.map none) = .returned (.map mo) /\ V.sub V1 /\ TyM V1 d mo) := fun hs k => ⟨none, rfl, hs, .inr ⟨k, rfl⟩⟩
 refine (c109 h).call ⟨_, rfl, fun hv => ?_, fun hv => no (Mem.sub.refl _) fun k => hv (qCj.1 k).1⟩
 refine qAo.makeMap fun b hb => ⟨some b, rfl, ?_⟩
 have hs : ∀ o, V.sub (V.set b o) := fun o => Mem.sub_new hb _
 refine qAA (mk := .map) (b0 := none) d.types.length (fun i V1 => (∃ o, V1 = V.set b o) /\ qBe V1 b (pmap d i) /\ ∀ (j : Nat) (x : Ty), j < i -> d.types[j]? = some x -> qEd d x.name = (j : Int)) ⟨⟨_, rfl⟩, (qBe.made V b).congr fun k => ?_, fun _ _ h => absurd h (Nat.not_lt_zero _)⟩ ?_
 ·unfold pmap; rw [if_neg (by omega)]
 rintro i b1 _ J hi ⟨⟨o, rfl⟩, hm, hd⟩ hJ
 have hd1 := h.sub (hs o)
 refine ⟨fun hlt => ?_, fun hge => ?_⟩
 ·obtain ⟨x, hxm, hx, hdr, hl, hp, hz, hrow⟩ := hd1.types.get hlt
  have hle := idxT_le hx
  refine ⟨hp, hz, hlt, _, _, hrow, qBv.str Tryz.underlying197 Tryz.underlying9 qGP hm ?_⟩
  by_cases hlo : qEd d x.name < (i : Int)
  ·have e : pmap d i x.name = some (.int .i64 (qEd d x.name)) := by unfold pmap; rw [if_pos ⟨hle.1, hlo⟩]
   rw [e]
   refine ⟨_, _, rfl, fun _ => no (hs o) fun k => ?_, fun k => absurd rfl k⟩
   have := (qCj.1 k).2.2.1 i x hx
   omega
  ·have e : pmap d i x.name = none := by unfold pmap; rw [if_neg fun k => hlo k.2]
   rw [e]
   refine ⟨0, false, rfl, (fun k => by cases k), fun _ => qGr.str Tryz.underlying197 Tryz.underlying9 hm fun o2 ho2 => ⟨hd1.types.succ hlt, hJ hl _ _ ⟨⟨o2, by rw [Mem.set_set]⟩, ho2.congr fun k => ?_, fun j y hj hy => ?_⟩⟩⟩
   ·by_cases hk : k = x.name
    ·subst hk
     rw [if_pos rfl]
     unfold pmap
     rw [if_pos ⟨hle.1, by omega⟩, show qEd d x.name = (i : Int) by omega]
    ·rw [if_neg hk]
     unfold pmap
     by_cases hki : qEd d k = (i : Int)
     ·obtain ⟨y, hy, hyk⟩ := idxT_at hki
      rw [hx] at hy; cases hy
      exact absurd hyk.symm hk
     ·by_cases hc : 0 <= qEd d k /\ qEd d k < (i : Int)
      ·rw [if_pos hc, if_pos ⟨hc.1, by omega⟩]
      ·rw [if_neg hc, if_neg fun c => hc ⟨c.1, by omega⟩]
   ·rcases Nat.lt_succ_iff_lt_or_eq.1 hj with hj | rfl
    ·exact hd j y hj hy
    ·rw [hx] at hy; cases hy; omega
 ·have hlen := (hd1.types.done hge).2
  have hm' : qBe (V.set b o) b (tmap d) := hm.congr fun k => pmap_all i hlen
  have hdist : ∀ (j : Nat) (x : Ty), d.types[j]? = some x -> qEd d x.name = (j : Int) := fun j x hx => hd j x (by have := (List.getElem?_eq_some_iff.1 hx).1; omega) hx
  intro p hp
  have s1 := Mem.sub_new hp (cell (.map (some b)) 197)
  have hpp := Mem.set_same (V.set b o) p (cell (.map (some b)) 197)
  have hm1 := hm'.sub s1
  have hd2 := hd1.sub s1
  refine (c167 hpp hm1 hd2.globals).call ⟨_, rfl, fun hg => fun q hq => ?_, fun hg => no ((hs o).trans s1) fun k => hg (qCj.1 k).2.1⟩
  have s2 := Mem.sub_new hq (cell (.func (.func 167) #[] #[pv p]) 184)
  have hqq := Mem.set_same ((V.set b o).set p (cell (.map (some b)) 197)) q (cell (.func (.func 167) #[] #[pv p]) 184)
  have hd3 := hd2.sub s2
  refine (c155 (first := []) (caps := [pv q]) hd3.types Tryz.call172 (fun y => !qCe d y.fields) (fun y hy => c172 (s2 _ _ hpp) hqq (hm1.sub s2) (hd3.typesOk y hy))).call ⟨_, rfl, fun ha => no ((hs o).trans (s1.trans s2)) fun k => ?_, fun ha => ⟨_, qBt (s2 _ _ hpp), some b, rfl, (hs o).trans (s1.trans s2), .inl ⟨qCj.2 ⟨hv, hg, hdist, fun x hx => ?_⟩, b, rfl, hm1.sub s2⟩⟩⟩
  ·obtain ⟨y, hy, hyt⟩ := List.any_eq_true.1 ha
   have := (qCj.1 k).2.2.2 y hy
   rw [this] at hyt; cases hyt
  ·have := List.any_eq_false.1 ((Bool.not_eq_true _).mp ha) x hx
   simpa using this
theorem c235 {mo : Option Nat} (ht : TyM V d mo) (hT : hasT d = true) (hm : Mm.Ok V m) {typ : ByteArray} (hk : known d typ = true) {v : Int} : PP 235 [.map mo, m.v, .string typ, .int .i64 v] V (.bool (qAR d m typ v)) := by
 refine x235 ?_
 unfold w235
 have hn := hm.nodes.n_eq
 obtain ⟨b, rfl, hb⟩ : ∃ b, mo = some b /\ qBe V b (tmap d) := by
  rcases ht with ⟨-, h⟩ | ⟨h, -⟩
  ·exact h
  ·exact absurd hT h
 have ret : ∀ {x y : Bool}, x = y -> Ending.returned (.bool x) = .returned (.bool y) /\ V = V := fun h => by rw [h]; exact ⟨rfl, rfl⟩
 refine ⟨fun h1 => ?_, fun h1 => ⟨fun h2 => ?_, fun h2 => ?_⟩⟩
 ·unfold qAR; rw [if_pos (show typ = qAP from h1)]
  refine ⟨fun h3 => ret ?_, fun h3 => ret ?_⟩
  ·rw [decide_eq_decide]; exact ⟨fun h => ⟨h3, h⟩, fun h => h.2⟩
  ·exact (decide_eq_false fun h => h3 h.1).symm
 ·unfold qAR; rw [if_neg (show ¬ typ = qAP from h1), if_pos (show typ = qAt from h2)]
  refine ⟨fun h3 => ret (decide_eq_true (.inl h3)).symm, fun h3 => ret ?_⟩
  rw [decide_eq_decide]; exact ⟨.inr, fun h => h.resolve_left h3⟩
 ·unfold qAR; rw [if_neg (show ¬ typ = qAP from h1), if_neg (show ¬ typ = qAt from h2)]
  refine ⟨fun h3 => ret (decide_eq_true (.inl h3)).symm, fun h3 => ⟨fun h4 => ⟨fun h5 => ?_, fun h5 => ret ?_⟩, fun h4 => ret ?_⟩⟩
  ·obtain ⟨i, rfl⟩ : ∃ i : Nat, v = (i : Int) + 1 := ⟨(v - 1).toNat, by omega⟩
   have e1 : ((i : Int) + 1 - 1).toNat = i := by omega
   obtain ⟨x, hxm, hx, -, hl, hp, hz, hrow⟩ := hm.nodes.get (i := i) (by omega)
   have hq := qAc (n := i * 2) hp
   have hr : IR ((i : Int) + 1 - 1) := ⟨by omega, by have := (hm.nodes.succ (i := i) (by omega)).2; omega⟩
   have hnode : qAN d typ = true := by
    unfold known at hk
    rw [decide_eq_false (show ¬ typ = qAP from h1), decide_eq_false (show ¬ typ = qAt from h2)] at hk
    simpa using hk
   rw [e1]
   refine ⟨hr, hp, by omega, by omega, hq, _, _, hrow, qBv.str1 Tryz.underlying197 Tryz.underlying9 qGP hb ?_⟩
   unfold tmap
   rw [if_pos hnode]
   refine ⟨_, rfl, qIx (k := 1) hrow (by decide), hq, hp, by omega, by omega, hr, ret ?_⟩
   rw [decide_eq_decide, hx]
   constructor
   ·intro h; exact .inr ⟨by omega, by omega, by rw [<- h]; rfl⟩
   ·rintro (h | ⟨-, -, h⟩)
    ·exact absurd h h3
    ·simpa using h
  ·exact (decide_eq_false (by omega)).symm
  ·exact (decide_eq_false (by omega)).symm
theorem c175 {mo : Option Nat} (ht : TyM V d mo) (hT : hasT d = true) (hm : Mm.Ok V m) {l : Sl} {xs : List Fld} (hr : qAd V l 2 (xs.map Fld.row)) (hk : qCe d xs = true) {s : Sl} {vs : List Int} (hv : qAd V s 1 (vs.map qAH)) : PP 175 [.map mo, m.v, l.v, s.v] V (.bool (qAC d m xs vs)) := by
 refine x175 ?_
 unfold w175
 have h1 := hr.n_eq
 have h2 := hv.n_eq
 refine ⟨fun he => ?_, fun he => ?_⟩
 ·refine qAA (mk := .bool) (b0 := false) vs.length (fun i V1 => V = V1 /\ AllI (fun i v => qAR d m (tyAt xs i) v) vs i) ⟨rfl, AllI.zero⟩ ?_
  rintro i b V1 J hi ⟨rfl, ha⟩ hJ
  refine ⟨fun hlt => ?_, fun hge => ?_⟩
  ·obtain ⟨x, hxm, hx, -, hl, hp, hz, hrow⟩ := hr.get hlt
   obtain ⟨y, hym, hy, -, hl2, hp2, hz2, hrow2⟩ := hv.get (i := i) (by omega)
   have hty : tyAt xs i = x.ty := by unfold tyAt; rw [hx]; rfl
   have hkx : known d x.ty = true := List.all_eq_true.1 hk x hxm
   refine ⟨hp, hz, hlt, _, _, hrow, hp2, hz2, by omega, _, hrow2, (c235 ht hT hm hkx).call ⟨_, rfl, fun h3 => ⟨hr.succ hlt, hJ hl2 _ _ ⟨rfl, ha.succ hy (by rw [hty]; exact h3)⟩⟩, fun h3 => ?_⟩⟩
   unfold qAC
   rw [qFW hy (by rw [hty]; exact h3), Bool.and_false]; exact ⟨rfl, rfl⟩
  ·unfold qAC
   rw [ha.all (by omega), decide_eq_true (by omega)]; exact ⟨rfl, rfl⟩
 ·unfold qAC
  rw [decide_eq_false (by omega)]; exact ⟨rfl, rfl⟩
theorem c174 (h : Ds.Ok V d) {p t : Nat} (hp : V p = some (.cells d.row.toArray t (0, 0))) {n : Nd} : PP 174 [n.v, pv p] V (.bool (!qDl d n)) := by
 refine x174 ?_
 unfold w174
 have hn := h.types.n_eq
 refine ⟨fun h1 => ?_, fun h1 => ⟨by simp, _, qAg hp 1 1 (by simp [Ds.row]), ?_⟩⟩
 ·unfold qDl; rw [decide_eq_false (by omega)]; exact ⟨rfl, rfl⟩
 ·refine ⟨?_, rfl⟩
  show Ending.returned (Value.bool _) = _
  unfold qDl
  rw [<- decide_not]
  congr 2
  rw [decide_eq_decide]
  show ((d.ts.n : Int) <= n.ty) ↔ _
  omega
theorem c176 (h : Ds.Ok V d) (hm : Mm.Ok V m) {mo : Option Nat} (ht : TyM V d mo) (hT : hasT d = true) {p q r t t2 t3 : Nat} (hp : V p = some (cell (.map mo) t)) (hq : V q = some (.cells m.row.toArray t2 (0, 0))) (hr : V r = some (.cells d.row.toArray t3 (0, 0))) {n : Nd} (hn : n ∈ m.nodes) (hty : qDl d n = true) :
  PP 176 [n.v, pv p, pv q, pv r] V (.bool (!qAC d m (qAK d n.ty) n.f)) := by
 refine x176 ?_
 unfold w176
 obtain ⟨h1, h2⟩ := of_decide_eq_true hty
 have hlen := h.types.n_eq
 obtain ⟨i, hi⟩ : ∃ i : Nat, n.ty = (i : Int) := ⟨n.ty.toNat, by omega⟩
 obtain ⟨x, hxm, hx, -, hl, hp1, hz, hrow⟩ := h.types.get (i := i) (by omega)
 have hf := qCl hx hi
 rw [hf]
 refine ⟨_, qBt hp, _, _, qAg hq 0 2 (by simp [Mm.row]), by simp, _, qAg hr 1 1 (by simp [Ds.row]), hp1, h1, by omega, ?_⟩
 rw [hi]
 refine ⟨qAc hp1, _, _, hrow, (c175 ht hT hm (h.typesOk x hxm).fields ((qCj.1 hT).2.2.2 x hxm) (hm.nodesOk n hn).rows).call ⟨_, rfl, rfl, rfl⟩⟩
theorem c113 (h : Ds.Ok V d) (hm : Mm.Ok V m) {mo : Option Nat} (ht : TyM V d mo) : Pur Tryz.prog 113 [.map mo, d.v, m.v] V (.bool (qAY d m)) := by
 refine Pur.mk ?_
 refine x113 ?_
 unfold w113
 have hn := hm.nodes.n_eq
 rcases ht with ⟨hT, b, rfl, hb⟩ | ⟨hT, rfl⟩
 rotate_left
 ·refine ⟨fun _ => ?_, fun k => absurd rfl k⟩
  unfold qAY; rw [(Bool.not_eq_true _).mp hT]; exact ⟨rfl, Mem.sub.refl _⟩
 refine ⟨(fun k => by cases k), fun _ => ⟨fun h1 => ?_, fun h1 => ?_⟩⟩
 ·unfold qAY; rw [decide_eq_false (by omega : ¬ m.nodes.length <= 4096)]; simp only [Bool.and_false, Bool.false_and]; exact ⟨trivial, Mem.sub.refl _⟩
 intro p hp
 have s1 := Mem.sub_new hp (.cells d.row.toArray 30 (0, 0))
 have hpp := Mem.set_same V p (.cells d.row.toArray 30 (0, 0))
 have hm1 := hm.sub s1
 refine (c173 (first := []) (caps := [pv p]) hm1.nodes Tryz.call174 (fun n => !qDl d n) (fun n hn => c174 (h.sub s1) hpp)).call ⟨_, rfl, fun h2 => ?_, fun h2 => ?_⟩
 ·unfold qAY
  have : m.nodes.all (qDl d) = false := by
   rw [List.all_eq_not_any_not, h2]; rfl
  rw [this]; simp only [Bool.and_false, Bool.false_and]; exact ⟨trivial, s1⟩
 have hall : m.nodes.all (qDl d) = true := by
  rw [List.all_eq_not_any_not, (Bool.not_eq_true _).mp h2]; rfl
 have ht1 : TyM (V.set p (.cells d.row.toArray 30 (0, 0))) d (some b) := .inl ⟨hT, b, rfl, hb.sub s1⟩
 have hd1 := h.sub s1
 refine ⟨nofun, _, qAg hpp 2 1 (by simp [Ds.row]), (c175 ht1 hT hm1 hd1.globals (qCj.1 hT).2.1 hm1.globals).call ⟨_, rfl, fun h3 => ?_, fun h3 => ?_⟩⟩
 rotate_left
 ·unfold qAY
  rw [(Bool.not_eq_true _).mp h3]; simp only [Bool.and_false, Bool.false_and]; exact ⟨trivial, s1⟩
 intro q hq
 have s2 := Mem.sub_new hq (cell (.map (some b)) 197)
 intro r hr
 have s3 := Mem.sub_new hr (.cells m.row.toArray 34 (0, 0))
 have s23 := s2.trans s3
 refine (c173 (first := []) (caps := [pv q, pv r, pv p]) (hm1.sub s23).nodes Tryz.call176 (fun n => !qAC d m (qAK d n.ty) n.f) (fun n hn => ?_)).call ⟨_, rfl, ?_, s1.trans s23⟩
 ·refine c176 (hd1.sub s23) (hm1.sub s23) (mo := some b) (.inl ⟨hT, b, rfl, (hb.sub s1).sub s23⟩) hT (s3 _ _ mss) mss (s23 _ _ hpp) hn (List.all_eq_true.1 hall n hn)
 ·show Ending.returned (Value.bool _) = _
  congr 2
  unfold qAY
  rw [hT, decide_eq_true (show m.nodes.length <= 4096 by omega), hall, show qAC d m d.globals m.globals = true from h3, List.all_eq_not_any_not]
  simp
theorem c69 [Tab V] (h : Ds.Ok V d) (hm : Mm.Ok V m) : Pur Tryz.prog 69 [d.v, m.v] V (.bool (qAY d m)) := by
 refine Pur.mk ?_
 refine x69 ?_
 unfold w69
 refine Tri.mono (c112 h) ?_
 rintro _ V' ⟨mo, rfl, hs, ht⟩
 exact ⟨mo, rfl, (c113 (h.sub hs) (hm.sub hs) ht).call ⟨_, rfl, rfl, hs⟩⟩
end
def KnOk (d : Ds) (m : Mm) (kn : Int × Int -> Option Int) : Prop := ∀ k v, kn k = some v -> ∃ n, evM d m n k.1 k.2 = .ok v
def BzP (bz : Int × Int -> Bool) : Int -> Int -> Prop := fun a b => bz (a, b) = true
def qJt (d : Ds) (m : Mm) : List (Int × Int) := (List.range d.measures.length).flatMap fun (i : Nat) => (List.range (m.nodes.length + 1)).map fun (x : Nat) => ((i : Int), (x : Int))
def qEX (d : Ds) (m : Mm) (kn : Int × Int -> Option Int) (bz : Int × Int -> Bool) : Nat := ((qJt d m).filter fun k => (kn k).isNone && !bz k).length
theorem qEh {α : Type} {p q : α -> Bool} : ∀ {l : List α}, (∀ a ∈ l, q a = true -> p a = true) -> (l.filter q).length <= (l.filter p).length
 | [], _ => Nat.le_refl _
 | a :: l, h => by
  have ih := qEh (l := l) fun x hx => h x (List.mem_cons_of_mem _ hx)
  have ha := h a List.mem_cons_self
  rw [List.filter_cons, List.filter_cons]
  cases hq : q a with
  | true => rw [ha hq]; simpa using ih
  | false =>
   cases hp : p a with
   | true => simp; omega
   | false => simpa using ih
theorem qFr {α : Type} {p q : α -> Bool} : ∀ {l : List α}, (∀ a ∈ l, q a = true -> p a = true) -> ∀ a ∈ l, p a = true -> q a = false -> (l.filter q).length < (l.filter p).length
 | [], _, a, ha, _, _ => by cases ha
 | b :: l, h, a, ha, hp, hq => by
  have h' : ∀ x ∈ l, q x = true -> p x = true := fun x hx => h x (List.mem_cons_of_mem _ hx)
  rw [List.filter_cons, List.filter_cons]
  rcases List.mem_cons.1 ha with rfl | hm
  ·rw [hp, hq]
   have := qEh h'
   simp; omega
  ·have ih := qFr h' a hm hp hq
   have hb := h b List.mem_cons_self
   cases hqb : q b with
   | true => rw [hb hqb]; simpa using ih
   | false =>
    cases hpb : p b with
    | true => simp; omega
    | false => simpa using ih
theorem mem_pairs {d : Ds} {m : Mm} {i x : Nat} (hi : i < d.measures.length) (hx : x <= m.nodes.length) : ((i : Int), (x : Int)) ∈ qJt d m := by
 unfold qJt
 rw [List.mem_flatMap]
 exact ⟨i, List.mem_range.2 hi, List.mem_map.2 ⟨x, List.mem_range.2 (by omega), rfl⟩⟩
theorem unseen_le {d : Ds} {m : Mm} {kn kn' : Int × Int -> Option Int} {bz : Int × Int -> Bool} (h : ∀ k, kn k ≠ none -> kn' k ≠ none) : qEX d m kn' bz <= qEX d m kn bz := by
 refine qEh fun a _ ha => ?_
 simp only [Bool.and_eq_true, Option.isNone_iff_eq_none] at ha ⊢
 refine ⟨?_, ha.2⟩
 cases hk : kn a with
 | none => rfl
 | some v => exact absurd ha.1 (h a (by rw [hk]; simp))
structure qCw (V0 : Mem) (d : Ds) (m : Mm) (p kb bb : Nat) (V : Mem) (kn : Int × Int -> Option Int) (bz : Int × Int -> Bool) (g : Nat -> Rs) (rs : Rs) (V' : Mem) : Prop where
 out : Out d m (BzP bz) g rs
 keep : qIa kb bb V V'
 mach : ∃ kn' bz', qDP V0 d m p kb bb V' kn' bz' /\ KnOk d m kn' /\ ∀ v, rs = .ok v -> bz' = bz /\ ∀ k, kn k ≠ none -> kn' k ≠ none
def qDT (V0 : Mem) (d : Ds) (m : Mm) (p kb bb : Nat) (V : Mem) (kn : Int × Int -> Option Int) (bz : Int × Int -> Bool) (g : Nat -> Rs) : Ending -> Mem -> Prop := fun r V' => ∃ rs, r = resR rs /\ qCw V0 d m p kb bb V kn bz g rs V'
section
variable {V0 V V1 V2 : Mem} {d : Ds} {m : Mm} {p kb bb : Nat} {kn kn' : Int × Int -> Option Int} {bz : Int × Int -> Bool} {g G : Nat -> Rs} {h : Nat -> Int -> Rs} {rs : Rs}
theorem qCw.ok_parts {a : Int} (H : qCw V0 d m p kb bb V kn bz g (.ok a) V1) : ∃ kn', qDP V0 d m p kb bb V1 kn' bz /\ KnOk d m kn' /\ (∀ k, kn k ≠ none -> kn' k ≠ none) /\ ∃ n, g n = .ok a := by
 obtain ⟨kn', bz', h1, h2, h3⟩ := H.mach
 obtain ⟨rfl, h4⟩ := h3 a rfl
 exact ⟨kn', h1, h2, h4, H.out⟩
theorem qCw.pure (M : qDP V0 d m p kb bb V kn bz) (K : KnOk d m kn) (o : Out d m (BzP bz) g rs) : qCw V0 d m p kb bb V kn bz g rs V := ⟨o, qIa.refl V, kn, bz, M, K, fun _ _ => ⟨rfl, fun _ h => h⟩⟩
theorem qCw.bad {e : Int} (H : qCw V0 d m p kb bb V1 kn bz g (.bad e) V2) (hs : V.sub V1) (hG : ∀ n, G n = (g n).bind (h n)) : qCw V0 d m p kb bb V kn bz G (.bad e) V2 :=
 ⟨(Out.bindBad (h := h) H.out).congr fun n => (hG n).symm, (qIa.of_sub hs).trans H.keep, by
  obtain ⟨a, b, h1, h2, -⟩ := H.mach
  exact ⟨a, b, h1, h2, nofun⟩⟩
theorem qCw.seq {V3 : Mem} {a : Int} (H : qCw V0 d m p kb bb V1 kn bz g (.ok a) V2) (hs : V.sub V1) (hG : ∀ n, G n = (g n).bind (h n)) (mg : Mono g) (mh : Mono fun n => h n a) (hk : ∀ k, kn k ≠ none -> kn' k ≠ none) (H2 : qCw V0 d m p kb bb V2 kn' bz (fun n => h n a) rs V3) : qCw V0 d m p kb bb V kn bz G rs V3 :=
 ⟨(Out.bindOk mg mh H.out H2.out).congr fun n => (hG n).symm, ((qIa.of_sub hs).trans H.keep).trans H2.keep, by
  obtain ⟨x, y, h1, h2, h3⟩ := H2.mach
  exact ⟨x, y, h1, h2, fun v hv => ⟨(h3 v hv).1, fun k hk' => (h3 v hv).2 k (hk k hk')⟩⟩⟩
theorem qDT.split {f : FuncId} {args : Array Value} {K : Int -> Mem -> Prop} {R : Ending -> Mem -> Prop} (H : Tri Tryz.prog f args V (qDT V0 d m p kb bb V kn bz g)) (hb : ∀ e V', qCw V0 d m p kb bb V kn bz g (.bad e) V' -> R (fltC e) V') (ho : ∀ a V', qCw V0 d m p kb bb V kn bz g (.ok a) V' -> K a V') :
  Tri Tryz.prog f args V fun e V' => (∃ v, e = .returned (.int .i64 v) /\ K v V') ∨ ∃ ch, e = .panicked ch /\ R e V' :=
 Tri.mono H fun e V' ⟨rs, he, hp⟩ => by
  subst he
  cases rs with
  | ok a => exact .inl ⟨a, rfl, ho a V' hp⟩
  | bad e => exact .inr ⟨_, rfl, hb e V' hp⟩
theorem RB.split {f : FuncId} {args : Array Value} {K : Int -> Mem -> Prop} {R : Ending -> Mem -> Prop} (H : Tri Tryz.prog f args V (RB rs V)) (hb : ∀ e, rs = .bad e -> R (fltC e) V) (ho : ∀ a, rs = .ok a -> K a V) :
  Tri Tryz.prog f args V fun e V' => (∃ v, e = .returned (.int .i64 v) /\ K v V') ∨ ∃ ch, e = .panicked ch /\ R e V' :=
 Tri.mono H fun e V' he => by
  obtain ⟨rfl, rfl⟩ := he
  cases rs with
  | ok a => exact .inl ⟨a, rfl, ho a rfl⟩
  | bad e => exact .inr ⟨_, rfl, hb e rfl⟩
variable (V0 d m p kb bb) in
def ExprC (N : Nat) : Prop := ∀ (e : E) (T t : ByteArray) (x : Int) V kn bz, VE e -> E.Ok V0 e -> qAy d (qAk d T) e = (t, 0) -> This d m T x -> qDP V0 d m p kb bb V kn bz -> KnOk d m kn -> qEX d m kn bz <= N ->
 Tri Tryz.prog 62 #[pv p, e.v, .int .i64 x] V (qDT V0 d m p kb bb V kn bz fun n => evE d m (evM d m n) x e)
variable (V0 d m p kb bb) in
def MeasC (N : Nat) : Prop := ∀ (i : Nat) (ms : Ms) (x : Int) V kn bz, d.measures[i]? = some ms -> qBk d m ms.ty x -> qDP V0 d m p kb bb V kn bz -> KnOk d m kn -> qEX d m kn bz <= N ->
 Tri Tryz.prog 41 #[pv p, .int .i64 i, .int .i64 x] V (qDT V0 d m p kb bb V kn bz fun n => evM d m n i x)
theorem zeroBool (w : World) : (zeroValue 4).run Tryz.prog w = .ok (.bool false) w := by kernel_rfl
open Classical in
theorem measC (S : qHZ V0 d m p kb bb) (N : Nat) (ih : ∀ N', N' < N -> ExprC V0 d m p kb bb N') : MeasC V0 d m p kb bb N := by
 intro i ms x V kn bz hms hx M K hN
 refine Tri.mono (x41 (R := qDT V0 d m p kb bb V kn bz fun n => evM d m n i x) ?_) fun _ _ h => h
 unfold w41
 have hd := S.ds.sub M.sub
 have hil := (List.getElem?_eq_some_iff.1 hms).1
 have hn := hd.measures.n_eq
 have hmem := List.mem_of_getElem? hms
 obtain ⟨y, -, hy, -, hl, hp, hz, hrow⟩ := hd.measures.get (i := i) (by omega)
 rw [hms] at hy; cases hy
 refine ⟨nn, nn, pnn, d.ms, M.cell 4 1 (by decide), hp, hz, by omega, _, _, _, _, _, _, _, hrow, fun h0 => ?_, fun h0 => ⟨nn, nn, _, M.cell 10 1 (by decide), qBv.key2 (k := ((i : Int), x)) keyOf Tryz.underlying126 qGP M.known ?_⟩⟩
 ·refine ⟨.ok ms.nil, rfl, .pure M K ⟨0, ?_⟩⟩
  show evM d m 0 i x = .ok ms.nil
  unfold evM nilM
  rw [if_pos h0, Int.toNat_natCast, hms]; rfl
 have h0 : ¬ x = 0 := h0
 cases hkn : kn ((i : Int), x) with
 | some v =>
  refine ⟨v, true, rfl, fun _ => ?_, fun k => absurd rfl k⟩
  exact ⟨.ok v, rfl, .pure M K (K _ _ hkn)⟩
 | none =>
  refine ⟨0, false, rfl, (fun k => by cases k), fun _ => ⟨nn, nn, _, M.cell 11 1 (by decide), qBv.key1 (k := ((i : Int), x)) keyOf Tryz.underlying127 zeroBool M.busy ?_⟩⟩
  cases hbz : bz ((i : Int), x) with
  | true =>
   refine ⟨true, rfl, fun _ => qAo.pan rfl ?_, fun k => absurd rfl k⟩
   exact ⟨.bad 16, rfl, .pure M K (.inr ⟨rfl, .inr ⟨i, x, hbz, fun _ h => h⟩⟩)⟩
  | false =>
   refine ⟨false, rfl, (fun k => by cases k), fun _ => ⟨nn, nn, _, M.cell 11 1 (by decide), qGr.key (k := ((i : Int), x)) keyOf Tryz.underlying127 M.busy fun o ho => ?_⟩⟩
   obtain ⟨c1, c2⟩ := (qDp S.good.chk).1 ms hmem
   have hname := qBW S.good.valid c1
   have hx' : qAR d m ms.ty x = true := by
    unfold qBk at hx
    rw [if_neg (qBI hname qJA)] at hx
    exact hx
   obtain ⟨r1, r2, -⟩ := qFJ hname hx' h0
   obtain ⟨bz1, hbz1⟩ : ∃ bz1 : Int × Int -> Bool, bz1 = fun k => bz k || decide (k = ((i : Int), x)) := ⟨_, rfl⟩
   have M1 : qDP V0 d m p kb bb (V.set bb o) kn bz1 := ⟨M.sub.set S.b0 o, by rw [Mem.set_ne S.pb]; exact M.at_, M.known.set S.kb, ho.congr fun k => by
    rw [hbz1]
    by_cases hk : k = ((i : Int), x) <;> simp [hk]⟩
   have hlt : qEX d m kn bz1 < qEX d m kn bz := by
    obtain ⟨q, rfl⟩ : ∃ q : Nat, x = (q : Int) := ⟨x.toNat, by omega⟩
    refine qFr (fun a _ ha => ?_) ((i : Int), (q : Int)) (mem_pairs hil (by omega)) (by simp [hkn, hbz]) (by simp [hbz1])
    rw [hbz1] at ha
    simp only [Bool.and_eq_true, Bool.not_eq_true', Bool.or_eq_false_iff] at ha ⊢
    exact ⟨ha.1, ha.2.1⟩
   have hKeep1 : qIa kb bb V (V.set bb o) := fun c o' _ h2 h3 => by rw [Mem.set_ne h2]; exact h3
   have hB : ∀ a b, BzP bz1 a b -> BzP bz a b ∨ (a = (i : Int) /\ b = x) := fun a b h => by
    unfold BzP at h ⊢
    rw [hbz1] at h
    simpa using h
   have hOut : ∀ {r : Rs}, Out d m (BzP bz1) (fun n => evE d m (evM d m n) x ms.x) r -> Out d m (BzP bz) (fun n => evM d m n i x) r := fun {r} h => by
    refine Out.measure h0 (by rw [Int.toNat_natCast]; exact hms) ?_
    cases r with
    | ok v => exact h
    | bad e =>
     rcases h with h | ⟨h1, h | ⟨a, b, h2, h3⟩⟩
     ·exact .inl h
     ·exact .inr ⟨h1, .inl h⟩
     ·exact .inr ⟨h1, .inr ⟨a, b, hB a b h2, h3⟩⟩
   refine qDT.split (ih (qEX d m kn bz1) (by omega) ms.x ms.ty qAP x _ kn bz1 (qFh ((qBj S.good.valid).2.2.1 ms hmem)).2.2 (S.ds.measuresOk ms hmem).x c2 (.inr ⟨c1, h0, hx'⟩) M1 K (Nat.le_refl _)) (fun e V2 H => ?_) fun v V2 H => ?_
   ·obtain ⟨kn', bz', q1, q2, -⟩ := H.mach
    exact ⟨.bad e, rfl, hOut H.out, hKeep1.trans H.keep, kn', bz', q1, q2, nofun⟩
   ·obtain ⟨kn', M2, K2, hsub, n2, hn2⟩ := H.ok_parts
    refine ⟨nn, nn, _, M2.cell 11 1 (by decide), qAo.delete (k := ((i : Int), x)) keyOf Tryz.underlying127 M2.busy rfl rfl fun o2 ho2 => ⟨rfl, ?_⟩⟩
    have M3 : qDP V0 d m p kb bb (V2.set bb o2) kn' bz := ⟨M2.sub.set S.b0 o2, by rw [Mem.set_ne S.pb]; exact M2.at_, M2.known.set S.kb, ho2.congr fun k => by
     rw [hbz1]
     by_cases hk : k = ((i : Int), x)
     ·rw [hk, if_pos rfl, if_neg (by rw [hbz]; decide)]
     ·simp [hk]⟩
    refine ⟨nn, nn, _, M3.cell 10 1 (by decide), qGr.key (k := ((i : Int), x)) keyOf Tryz.underlying126 M3.known fun o3 ho3 => ?_⟩
    have hOk : ∃ n, evM d m n i x = .ok v := hOut H.out
    refine ⟨.ok v, rfl, hOk, fun c o' h1 h2 h3 => ?_, fun k => if k = ((i : Int), x) then some v else kn' k, bz, ⟨M3.sub.set S.k0 o3, by rw [Mem.set_ne S.pk]; exact M3.at_, ho3.congr fun k => ?_, M3.busy.set (fun e => S.kb e.symm)⟩, fun k w hk => ?_, fun _ _ => ⟨rfl, fun k hk => ?_⟩⟩
    ·rw [Mem.set_ne h1, Mem.set_ne h2]
     exact H.keep c o' h1 h2 (hKeep1 c o' h1 h2 h3)
    ·by_cases hk : k = ((i : Int), x) <;> simp [hk]
    ·have hk : (if k = ((i : Int), x) then some v else kn' k) = some w := hk
     by_cases hk' : k = ((i : Int), x)
     ·rw [if_pos hk'] at hk; cases hk; rw [hk']; exact hOk
     ·rw [if_neg hk'] at hk; exact K2 k w hk
    ·by_cases hk' : k = ((i : Int), x)
     ·simp [hk']
     ·simp only [hk', if_false]; exact hsub k hk
end
end Go.Proofs
