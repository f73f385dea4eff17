/- Part 19 of a proof of a law of this seat: no statement of the seat is proved here. -/
import Derived.Test.YtnoompnjibfbfaaGreatDoorPart18
import Derived.Test.YtnoompnjibfbfaaGreatDoorPart17
set_option linter.unusedVariables false
set_option linter.unusedSimpArgs false
namespace Go.Proofs
open Go Go.Sx
attribute [local irreducible] Go.Sx.Tri
section
variable {V : Mem} {d : Ds} {m : Mm}
def RI (V : Mem) : Ending -> Mem -> Prop := fun e V' => V = V' /\ ∃ r : Int, e = .returned (.int .i64 r) /\ -1 <= r /\ r <= 2000
def RY (V : Mem) : Ending -> Mem -> Prop := fun e V' => V = V' /\ ∃ b : Bool, e = .returned (.bool b)
theorem RI.mk {r : Int} (h : -1 <= r /\ r <= 2000) : RI V (.returned (.int .i64 r)) V := ⟨rfl, r, rfl, h⟩
theorem RY.mk {b : Bool} : RY V (.returned (.bool b)) V := ⟨rfl, b, rfl⟩
theorem leftC : ∀ (k : Nat), k <= 65 -> ∀ (e : E) (n : Int), E.Ok V e -> -1 <= n -> n <= 2000 -> Tri Tryz.prog 108 #[e.v, .int .i64 k, .int .i64 n] V (RI V) := by
 intro k
 induction k with
 | zero =>
  intro _ e n he h1 h2
  refine Tri.mono (x108 (R := RI V) ?_) fun _ _ h => h
  unfold w108
  exact ⟨fun _ => .mk ⟨by omega, by omega⟩, fun _ => ⟨fun _ => .mk ⟨by omega, by omega⟩, fun h => absurd rfl h⟩⟩
 | succ k ih =>
  intro hk e n he h1 h2
  refine Tri.mono (x108 (R := RI V) ?_) fun _ _ h => h
  unfold w108
  refine ⟨fun _ => .mk ⟨by omega, by omega⟩, fun h3 => ⟨fun _ => .mk ⟨by omega, by omega⟩, fun _ => ⟨fun _ => .mk ⟨by omega, by omega⟩, fun _ => ⟨⟨by omega, by omega⟩, ?_⟩⟩⟩⟩
  have h3 : ¬ n <= 0 := h3
  refine qEB (mk := .int .i64) (b0 := n - 1) qFo e.k.length (fun i a V1 => V = V1 /\ -1 <= a /\ a <= 2000) ⟨rfl, by omega, by omega⟩ ?_
  rintro i a V1 J hi ⟨rfl, ha1, ha2⟩ hJ
  refine qEk (fun _ => .mk ⟨ha1, ha2⟩) (fun hlt hn => ?_)
  obtain ⟨x, hxm, hx, -, hil, hp, hz, hrow⟩ := he.rows.get hlt
  refine ⟨hp, hz, hlt, _, _, _, _, hrow, ⟨by omega, by omega⟩, ?_⟩
  rw [show ((k + 1 : Nat) : Int) - 1 = (k : Int) by omega]
  refine Tri.mono (ih (by omega) x a (he.kids x hxm) ha1 ha2) ?_
  rintro _ _ ⟨rfl, r, rfl, h4⟩
  exact ⟨_, rfl, he.rows.succ hlt, hJ hil _ _ ⟨rfl, h4⟩⟩
theorem leftAllC : ∀ (k : Nat), k <= 65 -> ∀ (s : Sl) (xs : List S) (n : Int), qAd V s 5 (xs.map S.row) -> (∀ x ∈ xs, S.Ok V x) -> -1 <= n -> n <= 2000 -> Tri Tryz.prog 107 #[s.v, .int .i64 k, .int .i64 n] V (RI V) := by
 intro k
 induction k with
 | zero =>
  intro _ s xs n hr ho h1 h2
  refine Tri.mono (x107 (R := RI V) ?_) fun _ _ h => h
  unfold w107
  exact ⟨fun _ => .mk ⟨by omega, by omega⟩, fun h => absurd rfl h⟩
 | succ k ih =>
  intro hk s xs n hr ho h1 h2
  refine Tri.mono (x107 (R := RI V) ?_) fun _ _ h => h
  unfold w107
  refine ⟨fun _ => .mk ⟨by omega, by omega⟩, fun _ => ?_⟩
  refine qGi (mk := .int .i64) (mc := .int .i64) 0 n qFo xs.length (fun i a V1 => V = V1 /\ -1 <= a /\ a <= 2000) ⟨rfl, h1, h2⟩ ?_
  rintro i b a V1 J hi ⟨rfl, ha1, ha2⟩ hJ
  refine qEk (fun _ => .mk ⟨ha1, ha2⟩) (fun hlt hn => ?_)
  have hn : 0 <= a := hn
  obtain ⟨x, hxm, hx, -, hil, hp, hz, hrow⟩ := hr.get hlt
  have hxo := ho x hxm
  cases x with
  | mk op sn el es ll ls xl xs' =>
  cases hxo with
  | mk he hes hl hls hxr hxs hop =>
  have hq := qAc (n := i * 5) hp
  have hsucc := hr.succ hlt
  refine ⟨⟨by omega, by omega⟩, hp, hz, hlt, hq, _, _, _, _, _, hrow, fun _ => .mk ⟨by omega, by omega⟩, fun _ => ?_⟩
  refine qEB (mk := .int .i64) (b0 := a - 1) qFo es.length (fun j c V2 => V = V2 /\ -1 <= c /\ c <= 2000) ⟨rfl, by omega, by omega⟩ ?_
  rintro j c V2 J1 hj ⟨rfl, hc1, hc2⟩ hJ1
  have ek : ((k + 1 : Nat) : Int) - 1 = (k : Int) := by omega
  refine ⟨hp, hz, hlt, hq, _, _, _, _, _, hrow, qEk (fun _ => ⟨fun hc => ⟨hp, hz, hlt, hq, _, _, _, _, _, hrow, ⟨by omega, by omega⟩, ?_⟩, fun hc => ⟨fun h => absurd h hc, fun _ => ⟨hsucc, hJ hil _ _ _ ⟨rfl, hc1, hc2⟩⟩⟩⟩) (fun hlt2 hc => ?_)⟩
  ·rw [ek]
   refine Tri.mono (ih (by omega) ll ls c hl hls hc1 hc2) ?_
   rintro _ _ ⟨rfl, r, rfl, h3⟩
   refine ⟨_, rfl, fun hr0 => ⟨hp, hz, hlt, hq, _, _, _, _, _, hrow, ⟨by omega, by omega⟩, Tri.mono (ih (by omega) xl xs' r hxr hxs h3.1 h3.2) ?_⟩, fun _ => ⟨hsucc, hJ hil _ _ _ ⟨rfl, h3⟩⟩⟩
   rintro _ _ ⟨rfl, r2, rfl, h4⟩
   exact ⟨_, rfl, hsucc, hJ hil _ _ _ ⟨rfl, h4⟩⟩
  ·obtain ⟨y, hym, hy, -, hjl, hpy, hzy, hrowy⟩ := he.get hlt2
   refine ⟨hp, hz, hlt, hq, _, _, _, _, _, hrow, hpy, hzy, hlt2, _, _, _, _, hrowy, Tri.mono (leftC 65 (by omega) y c (hes y hym) hc1 hc2) ?_⟩
   rintro _ _ ⟨rfl, r, rfl, h3⟩
   exact ⟨_, rfl, he.succ hlt2, hJ1 hjl _ _ ⟨rfl, h3⟩⟩
theorem wideC {l : Sl} {xs : List Fld} (hr : qAd V l 2 (xs.map Fld.row)) : Tri Tryz.prog 106 #[l.v] V (RY V) := by
 refine Tri.mono (x106 (R := RY V) ?_) fun _ _ h => h
 unfold w106
 refine ⟨fun _ => .mk, fun _ => qAA (mk := .bool) (b0 := false) xs.length (fun i V1 => V = V1) rfl ?_⟩
 rintro i b V1 J hi rfl hJ
 refine ⟨fun hlt => ?_, fun _ => .mk⟩
 obtain ⟨x, hxm, hx, -, hil, hp, hz, hrow⟩ := hr.get hlt
 have hq := qAc (n := i * 2) hp
 exact ⟨hp, hz, hlt, hq, _, _, hrow, fun _ => .mk, fun _ => ⟨hp, hz, hlt, hq, _, _, hrow, fun _ => .mk, fun _ => ⟨hr.succ hlt, hJ hil _ _ rfl⟩⟩⟩
theorem overC (hd : Ds.Ok V d) {n : Int} (h1 : -1 <= n) (h2 : n <= 2000) : Tri Tryz.prog 67 #[d.v, .int .i64 n] V (RY V) := by
 refine Tri.mono (x67 (R := RY V) ?_) fun _ _ h => h
 unfold w67
 refine ⟨fun _ => .mk, fun _ => ⟨fun _ => .mk, fun _ => ⟨fun _ => .mk, fun _ => ⟨fun _ => .mk, fun _ => ⟨fun _ => .mk, fun _ => ⟨fun _ => .mk, fun _ => ⟨fun _ => .mk, fun _ => Tri.mono (wideC hd.globals) ?_⟩⟩⟩⟩⟩⟩⟩
 rintro _ _ ⟨rfl, b, rfl⟩
 refine ⟨_, rfl, fun _ => .mk, fun _ => qAA (mk := .bool) (b0 := false) d.types.length (fun i V1 => V = V1) rfl ?_⟩
 rintro i b V1 J hi rfl hJ
 refine ⟨fun hlt => ?_, fun _ => ?_⟩
 ·obtain ⟨x, hxm, hx, -, hil, hp, hz, hrow⟩ := hd.types.get hlt
  have hq := qAc (n := i * 2) hp
  refine ⟨hp, hz, hlt, hq, _, _, hrow, fun _ => .mk, fun _ => ⟨hp, hz, hlt, hq, _, _, hrow, Tri.mono (wideC (hd.typesOk x hxm).fields) ?_⟩⟩
  rintro _ _ ⟨rfl, b, rfl⟩
  exact ⟨_, rfl, fun _ => .mk, fun _ => ⟨hd.types.succ hlt, hJ hil _ _ rfl⟩⟩
 refine qGi (mk := .bool) (mc := .int .i64) b n qFo d.procs.length (fun i a V1 => V = V1 /\ -1 <= a /\ a <= 2000) ⟨rfl, h1, h2⟩ ?_
 rintro i b a V1 J hi ⟨rfl, ha1, ha2⟩ hJ
 refine qEk (fun _ => ?_) (fun hlt hn => ?_)
 rotate_left
 ·obtain ⟨x, hxm, hx, -, hil, hp, hz, hrow⟩ := hd.procs.get hlt
  have ho := hd.procsOk x hxm
  refine ⟨hp, hz, hlt, _, _, _, _, _, hrow, fun _ => .mk, fun _ => ⟨fun _ => .mk, fun _ => Tri.mono (wideC ho.params) ?_⟩⟩
  rintro _ _ ⟨rfl, b1, rfl⟩
  refine ⟨_, rfl, fun _ => .mk, fun _ => Tri.mono (wideC ho.locals) ?_⟩
  rintro _ _ ⟨rfl, b2, rfl⟩
  refine ⟨_, rfl, fun _ => .mk, fun _ => Tri.mono (leftAllC 65 (by omega) x.bs x.body a ho.body ho.stmts ha1 ha2) ?_⟩
  rintro _ _ ⟨rfl, r, rfl, h3⟩
  exact ⟨_, rfl, hd.procs.succ hlt, hJ hil _ _ _ ⟨rfl, h3⟩⟩
 refine qGi (mk := .bool) (mc := .int .i64) b a qFo d.measures.length (fun i a V1 => V = V1 /\ -1 <= a /\ a <= 2000) ⟨rfl, ha1, ha2⟩ ?_
 clear hJ
 rintro i b a V1 J hi ⟨rfl, ha1, ha2⟩ hJ
 refine qEk (fun _ => ?_) (fun hlt hn => ?_)
 rotate_left
 ·obtain ⟨x, hxm, hx, -, hil, hp, hz, hrow⟩ := hd.measures.get hlt
  have hq := qAc (n := i * 7) hp
  refine ⟨hp, hz, hlt, hq, _, _, _, _, _, _, _, hrow, fun _ => .mk, fun _ => ⟨hp, hz, hlt, hq, _, _, _, _, _, _, _, hrow, fun _ => .mk, fun _ => ⟨hp, hz, hlt, hq, _, _, _, _, _, _, _, hrow, Tri.mono (leftC 65 (by omega) x.x a (hd.measuresOk x hxm).x ha1 ha2) ?_⟩⟩⟩
  rintro _ _ ⟨rfl, r, rfl, h3⟩
  exact ⟨_, rfl, hd.measures.succ hlt, hJ hil _ _ _ ⟨rfl, h3⟩⟩
 refine qGi (mk := .bool) (mc := .int .i64) b a qFo d.invs.length (fun i a V1 => V = V1 /\ -1 <= a /\ a <= 2000) ⟨rfl, ha1, ha2⟩ ?_
 clear hJ
 rintro i b a V1 J hi ⟨rfl, ha1, ha2⟩ hJ
 refine qEk (fun _ => ?_) (fun hlt hn => ?_)
 rotate_left
 ·obtain ⟨x, hxm, hx, -, hil, hp, hz, hrow⟩ := hd.invs.get hlt
  have hq := qAc (n := i * 6) hp
  refine ⟨hp, hz, hlt, hq, _, _, _, _, _, _, hrow, fun _ => .mk, fun _ => ⟨hp, hz, hlt, hq, _, _, _, _, _, _, hrow, fun _ => .mk, fun _ => ⟨hp, hz, hlt, hq, _, _, _, _, _, _, hrow, Tri.mono (leftC 65 (by omega) x.x a (hd.invsOk x hxm) ha1 ha2) ?_⟩⟩⟩
  rintro _ _ ⟨rfl, r, rfl, h3⟩
  exact ⟨_, rfl, hd.invs.succ hlt, hJ hil _ _ _ ⟨rfl, h3⟩⟩
 refine qGi (mk := .bool) (mc := .int .i64) b a qFo d.pots.length (fun i a V1 => V = V1 /\ -1 <= a /\ a <= 2000) ⟨rfl, ha1, ha2⟩ ?_
 clear hJ
 rintro i b a V1 J hi ⟨rfl, ha1, ha2⟩ hJ
 refine qEk (fun _ => ?_) (fun hlt hn => ?_)
 rotate_left
 ·obtain ⟨x, hxm, hx, -, hil, hp, hz, hrow⟩ := hd.pots.get hlt
  have hq := qAc (n := i * 5) hp
  refine ⟨hp, hz, hlt, hq, _, _, _, _, _, hrow, fun _ => .mk, fun _ => ⟨hp, hz, hlt, hq, _, _, _, _, _, hrow, Tri.mono (leftC 65 (by omega) x.x a (hd.potsOk x hxm) ha1 ha2) ?_⟩⟩
  rintro _ _ ⟨rfl, r, rfl, h3⟩
  exact ⟨_, rfl, hd.pots.succ hlt, hJ hil _ _ _ ⟨rfl, h3⟩⟩
 refine qGi (mk := .bool) (mc := .int .i64) b a qFo d.bounds.length (fun i a V1 => V = V1 /\ -1 <= a /\ a <= 2000) ⟨rfl, ha1, ha2⟩ ?_
 clear hJ
 rintro i b a V1 J hi ⟨rfl, ha1, ha2⟩ hJ
 refine qEk (fun _ => .mk) (fun hlt hn => ?_)
 obtain ⟨x, hxm, hx, -, hil, hp, hz, hrow⟩ := hd.bounds.get hlt
 have hq := qAc (n := i * 5) hp
 refine ⟨hp, hz, hlt, hq, _, _, _, _, _, hrow, fun _ => .mk, fun _ => ⟨hp, hz, hlt, hq, _, _, _, _, _, hrow, Tri.mono (leftC 65 (by omega) x.x a (hd.boundsOk x hxm) ha1 ha2) ?_⟩⟩
 rintro _ _ ⟨rfl, r, rfl, h3⟩
 exact ⟨_, rfl, hd.bounds.succ hlt, hJ hil _ _ _ ⟨rfl, h3⟩⟩
theorem greatC (hd : Ds.Ok V d) : Tri Tryz.prog 33 #[d.v] V (RY V) := by
 refine Tri.mono (x33 (R := RY V) ?_) fun _ _ h => h
 unfold w33
 refine Tri.mono (overC hd (n := 2000) (by omega) (by omega)) ?_
 rintro _ _ ⟨rfl, b, rfl⟩
 exact ⟨_, rfl, .mk⟩
theorem manyC (hm : Mm.Ok V m) : Tri Tryz.prog 34 #[m.v] V (RY V) := by
 refine Tri.mono (x34 (R := RY V) ?_) fun _ _ h => h
 unfold w34
 refine ⟨fun _ => .mk, fun _ => ⟨fun _ => .mk, fun _ => qAA (mk := .bool) (b0 := false) m.nodes.length (fun i V1 => V = V1) rfl ?_⟩⟩
 rintro i b V1 J hi rfl hJ
 refine ⟨fun hlt => ?_, fun _ => .mk⟩
 obtain ⟨x, hxm, hx, -, hil, hp, hz, hrow⟩ := hm.nodes.get hlt
 exact ⟨hp, hz, hlt, qAc hp, _, _, hrow, fun _ => .mk, fun _ => ⟨hm.nodes.succ hlt, hJ hil _ _ rfl⟩⟩
theorem largeC (hd : Ds.Ok V d) (hm : Mm.Ok V m) : Tri Tryz.prog 11 #[d.v, m.v] V (RY V) := by
 refine Tri.mono (x11 (R := RY V) ?_) fun _ _ h => h
 unfold w11
 refine Tri.mono (greatC hd) ?_
 rintro _ _ ⟨rfl, b, rfl⟩
 refine ⟨_, rfl, fun _ => .mk, fun _ => Tri.mono (manyC hm) ?_⟩
 rintro _ _ ⟨rfl, b, rfl⟩
 exact ⟨_, rfl, .mk⟩
end
section
variable {V : Mem} {d : Ds} {m : Mm}
def gB (d : Ds) (m : Mm) : Bool := qAQ d && wellT d && qAY d m
theorem gB_iff : gB d m = true ↔ qBF d m := by
 unfold gB wellT
 simp only [Bool.and_eq_true, decide_eq_true_eq]
 constructor
 ·rintro ⟨⟨h1, -, h2⟩, h3⟩; exact ⟨h1, chk_zero h2, h3⟩
 ·rintro h; exact ⟨⟨h.valid, h.valid, by rw [h.chk]; rfl⟩, h.mem⟩
theorem c14 (hd : Ds.Ok V d) (hm : Mm.Ok V m) : PP 14 [d.v, m.v] V (.int .i64 (if gB d m = true then 0 else 1)) := by
 refine x14 ?_
 unfold w14
 refine (c44 hd).call ⟨_, rfl, fun h1 => (c45 hd).call ⟨_, rfl, fun h2 => (c46 hd hm).call ⟨_, rfl, fun h3 => ?_, fun h3 => ?_⟩, fun h2 => ?_⟩, fun h1 => ?_⟩
 ·rw [if_pos (by unfold gB; rw [show qAQ d = true from h1, show wellT d = true from h2, show qAY d m = true from h3]; rfl)]; exact ⟨rfl, rfl⟩
 ·rw [if_neg (by unfold gB; rw [(Bool.not_eq_true _).mp h3, Bool.and_false]; decide)]; exact ⟨rfl, rfl⟩
 ·rw [if_neg (by unfold gB; rw [(Bool.not_eq_true _).mp h2, Bool.and_false, Bool.false_and]; decide)]; exact ⟨rfl, rfl⟩
 ·rw [if_neg (by unfold gB; rw [(Bool.not_eq_true _).mp h1, Bool.false_and, Bool.false_and]; decide)]; exact ⟨rfl, rfl⟩
theorem c31 (G : qBF d m) (hd : Ds.Ok V d) (hm : Mm.Ok V m) {x : Int} (hx : 0 <= x /\ x <= (m.nodes.length : Int)) : PP 31 [d.v, m.v, .int .i64 x] V (.string (qIc d m x)) := by
 refine x31 ?_
 unfold w31
 refine ⟨fun h0 => ?_, fun h0 => ?_⟩
 ·unfold qIc; rw [if_pos h0]; exact ⟨rfl, rfl⟩
 have h0 : ¬ x = 0 := h0
 obtain ⟨q, j, n, tt, rfl, b1, b5, b6, b7⟩ := node_at G (x := x) (by omega) hx.2
 rw [show ((q : Int) + 1 - 1) = (q : Int) by omega]
 have hnn := hm.nodes.n_eq
 obtain ⟨y, hym, hy, -, hl2, hp2, hz2, hrow2⟩ := hm.nodes.get (i := q) (by omega)
 rw [b1] at hy; cases hy
 have htn := hd.types.n_eq
 have hjl := (List.getElem?_eq_some_iff.1 b6).1
 obtain ⟨z, hzm, hz, -, hl3, hp3, hz3, hrow3⟩ := hd.types.get (i := j) (by omega)
 rw [b6] at hz; cases hz
 have hI : IR ((q : Int)) := ⟨by omega, by have := (hm.nodes.succ (i := q) (by omega)).2; omega⟩
 refine ⟨hI, hp2, hz2, by omega, qAc hp2, _, _, hrow2, ?_⟩
 rw [b5]
 refine ⟨hp3, hz3, by omega, qAc hp3, _, _, hrow3, ?_, rfl⟩
 rw [b7]
theorem c32 (hd : Ds.Ok V d) {s : ByteArray} : PP 32 [d.v, .string s] V (.int .i64 (qGh d s)) := by
 refine x32 ?_
 unfold w32
 refine qAA (mk := .int .i64) (b0 := 0) d.measures.length (fun i V1 => V = V1 /\ qAG (fun y : Ms => !decide (y.name = s)) d.measures i) ⟨rfl, qAG.zero _ _⟩ ?_
 rintro i b V1 J hi ⟨rfl, ha⟩ hJ
 refine ⟨fun hlt => ?_, fun hge => ?_⟩
 ·obtain ⟨x, hxm, hx, -, hil, hp, hz, hrow⟩ := hd.measures.get hlt
  refine ⟨hp, hz, hlt, qAc hp, _, _, _, _, _, _, _, hrow, fun h => ?_, fun h => ⟨hd.measures.succ hlt, hJ hil _ _ ⟨rfl, qBz ha hx (decide_eq_false h)⟩⟩⟩
  unfold qGh
  rw [qBV ha hx (decide_eq_true h)]; exact ⟨rfl, rfl⟩
 ·unfold qGh
  rw [qCr ha (hd.measures.done hge).2]; exact ⟨rfl, rfl⟩
end
section
variable {V : Mem} {d : Ds} {m : Mm}
end
end Go.Proofs
namespace Go.Proofs.YtnoompnjibfbfaaGreatDoor
open Go Go.Sx Go.Proofs Go.ChangeShapes Go.WideShapes Go.ChangeAt Go.RowKit
section
variable {H : Type} {enc : TypeId × Value -> H} {w : World}
theorem cl31 : Tryz.prog.cellsOf 31 = 1 := by kernel_rfl
theorem clNd : Tryz.prog.cellsOf 99 = 2 := by kernel_rfl
theorem clNds : Tryz.prog.cellsOf 32 = 1 := by kernel_rfl
theorem clMm : Tryz.prog.cellsOf 34 = 2 := by kernel_rfl
theorem gInts {m : Nat} {v : Value} (h : ∃ y, TR enc w m 31 [v] = some y) : ∃ (s : Sl) (xs : List Int), v = .slice s.p s.n s.c /\ qAd (qBh w) s 1 (xs.map qAH) /\ ∀ x ∈ xs, inI x :=
 gSl (row := qAH) (ok := inI) Tryz.underlying31 cl3 (by decide) (fun _ => rfl) (fun m' _ cs x hx => by
  obtain ⟨n, rfl, hn⟩ := rd_int Tryz.underlying3 hx
  exact ⟨n, rfl, hn⟩) h
theorem rdNd {n : Nat} {cs : List Value} {x : DataW H × List MemPlace} (h : TR enc w n 99 cs = some x) : ∃ f : Nd, Nd.row f = cs /\ Nd.Ok (qBh w) f := by
 obtain ⟨hl, m, -, hs⟩ := qBo Tryz.underlying99 h
 obtain ⟨a, b, rfl⟩ := len2 (hl.trans clNd)
 obtain ⟨t, rfl, ht⟩ := gI (at1 (hs 0 _ rfl) cl3 rfl)
 obtain ⟨l, k, rfl, hr, hk⟩ := gInts (at1 (hs 1 _ rfl) cl31 rfl)
 exact ⟨⟨t, l, k⟩, rfl, ⟨hr, ht, hk⟩⟩
theorem rdMm {n : Nat} {cs : List Value} {x : DataW H × List MemPlace} (h : TR enc w n 34 cs = some x) : ∃ m : Mm, m.row = cs /\ Mm.Ok (qBh w) m := by
 obtain ⟨hl, m, -, hs⟩ := qBo Tryz.underlying34 h
 obtain ⟨a, b, rfl⟩ := len2 (hl.trans clMm)
 obtain ⟨l1, k1, rfl, h1, o1⟩ := gInts (at1 (hs 0 _ rfl) cl31 rfl)
 obtain ⟨l2, k2, rfl, h2, o2⟩ := gSl (row := Nd.row) (ok := Nd.Ok (qBh w)) Tryz.underlying32 clNd (by decide) (fun _ => rfl) (fun _ _ _ _ => rdNd) (at1 (hs 1 _ rfl) clNds rfl)
 exact ⟨⟨l1, k1, l2, k2⟩, rfl, ⟨h1, o1, h2, o2⟩⟩
end
theorem mem_of {H : Type} {enc : TypeId × Value -> H} {W : World} {v : Value} {d0 : DataW H} {p : List MemPlace} (h : DataW.Trod enc Tryz.prog W 0 (fun _ => true) true 34 v d0 p) : ∃ m : Mm, v = m.v /\ Mm.Ok (qBh W) m := by
 obtain ⟨fuel, h⟩ := h
 obtain ⟨m, hm, hok⟩ := rdMm h
 refine ⟨m, ?_, hok⟩
 have hl : v.cells.toList.length = 2 := by rw [<- hm]; rfl
 cases v with
 | agg cs =>
  have : cs.toList = m.row := hm.symm
  show Value.agg cs = .agg m.row.toArray
  rw [<- this]
 | _ => simp [Value.cells] at hl
end Go.Proofs.YtnoompnjibfbfaaGreatDoor
namespace Go.Proofs
open Go Go.Sx
section
variable {d : Ds} {m c : Mm} {O : List Int}
structure Cl (d : Ds) (m : Mm) (a b : Sr) : Prop where
 sub : ∀ x ∈ a.order, x ∈ b.order
 shut : ∀ x ∈ b.order, x ∈ a.order ∨ ∀ y ∈ qDa d m x, y ∈ b.order
 dup : a.order.Nodup -> b.order.Nodup
 rng : (∀ x ∈ a.order, 1 <= x /\ x <= (m.nodes.length : Int)) -> ∀ x ∈ b.order, 1 <= x /\ x <= (m.nodes.length : Int)
 cap : a.order.length + unS m a <= m.nodes.length -> b.order.length + unS m b <= m.nodes.length
theorem Cl.trans {a b e : Sr} (h : Cl d m a b) (k : Cl d m b e) : Cl d m a e := ⟨fun x hx => k.sub x (h.sub x hx), fun x hx => by
 rcases k.shut x hx with hx | hx
 ·rcases h.shut x hx with hx | hx
  ·exact .inl hx
  ·exact .inr fun y hy => k.sub y (hx y hy)
 ·exact .inr hx, fun n => k.dup (h.dup n), fun r => k.rng (h.rng r), fun r => k.cap (h.cap r)⟩
theorem tgt_mem {l : List Fld} {vs : List Int} {y : Int} : y ∈ tgt l vs ↔ ∃ (i : Nat) (f : Fld), l[i]? = some f /\ vs[i]? = some y /\ qCL f.ty = false /\ y ≠ 0 := by
 unfold tgt qDR
 simp only [List.mem_map, List.mem_filter, Bool.and_eq_true, Bool.not_eq_true', decide_eq_true_eq, Prod.exists, exists_eq_right]
 constructor
 ·rintro ⟨f, h, h1, h2⟩
  obtain ⟨i, hi⟩ := List.mem_iff_getElem?.1 h
  rw [List.getElem?_zip_eq_some] at hi
  exact ⟨i, f, hi.1, hi.2, h1, h2⟩
 ·rintro ⟨i, f, h, h1, h2, h3⟩
  exact ⟨f, List.mem_iff_getElem?.2 ⟨i, List.getElem?_zip_eq_some.2 ⟨h, h1⟩⟩, h2, h3⟩
theorem tgt_in (hv : qAY d m = true) : (∀ y ∈ tgt d.globals m.globals, 1 <= y /\ y <= (m.nodes.length : Int)) /\ ∀ n, ∀ y ∈ qDa d m n, 1 <= y /\ y <= (m.nodes.length : Int) := by
 obtain ⟨-, -, -, p4, p5⟩ := qAq hv
 refine ⟨fun y hy => ?_, fun n y hy => ?_⟩
 ·obtain ⟨i, f, h1, h2, h3, h4⟩ := tgt_mem.1 hy
  exact ref_in p4 h1 h2 h3 h4
 ·unfold qDa at hy
  split at hy
  ·rename_i x hx
   obtain ⟨i, f, h1, h2, h3, h4⟩ := tgt_mem.1 hy
   exact ref_in (p5 x (List.mem_of_getElem? hx)) h1 h2 h3 h4
  ·cases hy
theorem qJH {f : Nat} (H : ∀ st n, 1 <= n /\ n <= (m.nodes.length : Int) -> unS m st < f -> Cl d m st (qDK d m f st n) /\ n ∈ (qDK d m f st n).order) :
  ∀ (l : List Int) (s : Sr), (∀ y ∈ l, 1 <= y /\ y <= (m.nodes.length : Int)) -> unS m s < f -> Cl d m s (l.foldl (qDK d m f) s) /\ ∀ y ∈ l, y ∈ (l.foldl (qDK d m f) s).order
 | [], s, _, _ => ⟨⟨fun _ h => h, fun _ h => .inl h, fun h => h, fun h => h, fun h => h⟩, fun _ h => by cases h⟩
 | a :: l, s, hl, hs => by
  obtain ⟨c1, c2⟩ := H s a (hl a List.mem_cons_self) hs
  obtain ⟨e1, e2⟩ := qJH H l (qDK d m f s a) (fun y hy => hl y (List.mem_cons_of_mem _ hy)) (by have := unS_le (m := m) c1.sub; omega)
  refine ⟨c1.trans e1, fun y hy => ?_⟩
  rcases List.mem_cons.1 hy with rfl | hy
  ·exact e1.sub _ c2
  ·exact e2 y hy
theorem ent_cl (hv : qAY d m = true) : ∀ (f : Nat) (st : Sr) (n : Int), 1 <= n /\ n <= (m.nodes.length : Int) -> unS m st < f -> Cl d m st (qDK d m f st n) /\ n ∈ (qDK d m f st n).order
 | 0, _, _, _, h => absurd h (Nat.not_lt_zero _)
 | f + 1, st, n, hn, hf => by
  rw [qDK]
  split
  ·rename_i h; exact ⟨⟨fun _ h => h, fun _ h => .inl h, fun h => h, fun h => h, fun h => h⟩, h⟩
  ·rename_i hno
   have hlt := unS_lt hn hno (a := st.again)
   obtain ⟨c1, c2⟩ := qJH (ent_cl hv f) (qDa d m n) ⟨st.order ++ [n], st.again⟩ (fun y hy => (tgt_in hv).2 n y hy) (by omega)
   have hm : n ∈ (⟨st.order ++ [n], st.again⟩ : Sr).order := by simp
   refine ⟨⟨fun x hx => c1.sub x (List.mem_append_left _ hx), fun x hx => ?_, fun h => c1.dup ?_, fun h => c1.rng fun x hx => ?_, fun h => c1.cap ?_⟩, c1.sub n hm⟩
   ·rcases c1.shut x hx with h | h
    ·rcases List.mem_append.1 h with h | h
     ·exact .inl h
     ·rw [List.mem_singleton.1 h]; exact .inr c2
    ·exact .inr h
   ·show (st.order ++ [n]).Nodup
    rw [List.nodup_append]
    refine ⟨h, by simp, fun a ha b hb e => hno ?_⟩
    rw [<- List.mem_singleton.1 hb, <- e]; exact ha
   ·rcases List.mem_append.1 hx with hx | hx
    ·exact h x hx
    ·rw [List.mem_singleton.1 hx]; exact hn
   ·show (st.order ++ [n]).length + _ <= _
    rw [List.length_append, List.length_singleton]; omega
structure Rch (d : Ds) (m : Mm) (O : List Int) : Prop where
 dup : O.Nodup
 rng : ∀ x ∈ O, 1 <= x /\ x <= (m.nodes.length : Int)
 glob : ∀ y ∈ tgt d.globals m.globals, y ∈ O
 shut : ∀ x ∈ O, ∀ y ∈ qDa d m x, y ∈ O
 cap : O.length <= m.nodes.length
theorem unS_zero : unS m ⟨[], 0⟩ <= m.nodes.length := by
 unfold unS
 have := List.length_filter_le (fun i : Nat => !decide (((i : Int) + 1) ∈ (⟨[], 0⟩ : Sr).order)) (List.range m.nodes.length)
 rw [List.length_range] at this
 exact this
theorem reach_ok (hv : qAY d m = true) : Rch d m (qBN d m).order := by
 have hu := unS_zero (m := m)
 obtain ⟨c1, c2⟩ := qJH (ent_cl hv (m.nodes.length + 1)) (tgt d.globals m.globals) ⟨[], 0⟩ (tgt_in hv).1 (by omega)
 refine ⟨c1.dup List.nodup_nil, c1.rng (fun x hx => by cases hx), c2, fun x hx => ?_, ?_⟩
 ·rcases c1.shut x hx with h | h
  ·cases h
  ·exact h
 ·have := c1.cap (by show 0 + _ <= _; omega)
  exact Nat.le_trans (Nat.le_add_right _ _) this
def posI (l : List Int) (x : Int) : Int := qJC (fun y => decide (y = x)) l
end
end Go.Proofs
namespace Go.Proofs
open Go Go.Sx
section
variable {d : Ds} {m c : Mm} {O : List Int}
end
end Go.Proofs
namespace Go.Proofs
open Go Go.Sx
attribute [local irreducible] Go.Sx.Tri
structure qCF where
 k : Int
 x : Int
 v : Int
 kn : Bool
def qCF.row (p : qCF) : List Value := [.int .i64 p.k, .int .i64 p.x, .int .i64 p.v, .bool p.kn]
def rrow (d : Ds) (m : Mm) (s : Sl) (f : Int) : List Value := [Go.Sx.vS d.name, d.ts.v, d.gs.v, d.ps.v, d.ms.v, d.is.v, d.qs.v, d.bs.v, m.gs.v, m.ns.v, s.v, .int .i64 f]
theorem app92 : AppP 92 139 4 qCF.row := appG Tryz.underlying92 (by kernel_rfl) (by kernel_rfl) (by kernel_rfl) (by kernel_rfl) (by kernel_rfl) (by decide) (by intro _; rfl) fun x u hu => by simp only [qCF.row, List.mem_cons, List.not_mem_nil, or_false] at hu; rcases hu with rfl | rfl | rfl | rfl <;> rfl
structure RM (V0 : Mem) (d : Ds) (m : Mm) (p : Nat) (V : Mem) (sn : List qCF) (f : Int) (s : Sl) : Prop where
 at_ : V p = some (.cells (rrow d m s f).toArray 94 (0, 0))
 own : Sx.Own V0 V 139 4 s (sn.flatMap qCF.row)
structure RSt (V0 : Mem) (d : Ds) (m : Mm) (p : Nat) : Prop where
 good : qBF d m
 ds : Ds.Ok V0 d
 mm : Mm.Ok V0 m
 p0 : V0 p = none
def qDS (V0 : Mem) (d : Ds) (m : Mm) (p : Nat) (sn : List qCF) (s : Sl) (rs : Rs) (V : Mem) : Ending -> Mem -> Prop := fun e V' => ∃ v, e = .returned (.int .i64 v) /\ ((∃ a, rs = .ok a /\ v = a /\ V = V') ∨ ∃ c, rs = .bad c /\ c ≠ 0 /\ RM V0 d m p V' sn c s)
section
variable {V0 V : Mem} {d : Ds} {m : Mm} {p : Nat} {sn : List qCF} {f : Int} {s : Sl}
theorem RM.cell (h : RM V0 d m p V sn f s) (i n : Nat) (hi : i + n <= 12) : V.rowp (sa p) i n = some (((rrow d m s f).drop i).take n) := qAg h.at_ i n hi
theorem RM.notB (h : RM V0 d m p V sn f s) : ¬ Blk s p := h.own.apart fun cur hc => by rw [h.at_] at hc; cases hc
theorem c73 (S : RSt V0 d m p) (h : RM V0 d m p V sn 0 s) {c : Int} : Tri Tryz.prog 73 #[pv p, .int .i64 c] V fun e V' => e = .returned (.int .i64 0) /\ RM V0 d m p V' sn c s := by
 refine x73 ?_
 unfold w73
 refine ⟨nn, nn, _, h.cell 11 1 (by decide), fun _ => ⟨nn, nn, StT.at2 (off := 11) h.at_ (by simp [rrow]) ⟨rfl, ?_, h.own.put h.notB S.p0 _⟩⟩, fun k => absurd rfl k⟩
 rw [Mem.set_same]; rfl
theorem qDS.ok {a : Int} : qDS V0 d m p sn s (.ok a) V (.returned (.int .i64 a)) V := ⟨a, rfl, .inl ⟨a, rfl, rfl, rfl⟩⟩
theorem failP (S : RSt V0 d m p) (h : RM V0 d m p V sn 0 s) {c : Int} (hc : c ≠ 0) {rs : Rs} (hr : rs = .bad c) : Tri Tryz.prog 73 #[pv p, .int .i64 c] V fun e V1 => ∃ v2, e = .returned (.int .i64 v2) /\ qDS V0 d m p sn s rs V (.returned (.int .i64 v2)) V1 := by
 refine Tri.mono (c73 S h) ?_
 rintro _ V1 ⟨rfl, h1⟩
 exact ⟨0, rfl, 0, rfl, .inr ⟨c, hr, hc, h1⟩⟩
theorem c117 (S : RSt V0 d m p) (h : RM V0 d m p V sn 0 s) {n : Int} : Tri Tryz.prog 117 #[pv p, .int .i64 n] V (qDS V0 d m p sn s (big n) V) := by
 refine Tri.mono (x117 (R := qDS V0 d m p sn s (big n) V) ?_) fun _ _ h => h
 unfold w117
 refine ⟨fun h1 => failP S h (by decide) ?_, fun h1 => ⟨fun h2 => failP S h (by decide) ?_, fun h2 => ?_⟩⟩
 ·have h1 : n < -1099511627776 := h1
  unfold big; rw [if_neg (by omega)]
 ·have h2 : 1099511627776 < n := h2
  unfold big; rw [if_neg (by omega)]
 ·have h1 : ¬ n < -1099511627776 := h1
  have h2 : ¬ 1099511627776 < n := h2
  have : big n = .ok n := by unfold big; rw [if_pos (by omega)]
  rw [this]; exact .ok
theorem qII {a b : Int} (hb : 0 < b) : (1099511627776 : Int).tdiv b < a ↔ 1099511627776 < a * b := by
 rw [Int.tdiv_eq_ediv_of_nonneg (by decide)]
 exact Int.ediv_lt_iff_lt_mul hb
theorem c179 {b : Bool} : PP 179 [.bool b] V (.int .i64 (trI b)) := by
 refine x179 ?_
 unfold w179
 refine ⟨fun h => ?_, fun h => ?_⟩
 ·rw [show b = true from h]; exact ⟨rfl, rfl⟩
 ·rw [show b = false by simpa using h]; exact ⟨rfl, rfl⟩
theorem wrap_div {b : Int} (hb : 0 < b) : IntKind.wrap .i64 ((1099511627776 : Int).tdiv b) = (1099511627776 : Int).tdiv b := by
 have h1 := qJi (a := 1099511627776) (b := b) (by omega)
 exact qEb ⟨by simp [IntKind.min, IntKind.signed, IntKind.bits]; omega, by simp [IntKind.max, IntKind.signed, IntKind.bits]; omega⟩
theorem c178 (S : RSt V0 d m p) (h : RM V0 d m p V sn 0 s) {a b : Int} (ha : -1099511627776 <= a /\ a <= 1099511627776) (hb : -1099511627776 <= b /\ b <= 1099511627776) : Tri Tryz.prog 178 #[pv p, .int .i64 a, .int .i64 b] V (qDS V0 d m p sn s (big (a * b)) V) := by
 refine Tri.mono (x178 (R := qDS V0 d m p sn s (big (a * b)) V) ?_) fun _ _ h => h
 unfold w178
 have zero : b = 0 -> IR (a * b) /\ qDS V0 d m p sn s (big (a * b)) V (.returned (.int .i64 (a * b))) V := fun e => by
  have : big (a * b) = .ok (a * b) := by rw [e]; unfold big; rw [if_pos (by omega)]
  rw [this]
  exact ⟨by rw [e]; exact ⟨by omega, by omega⟩, .ok⟩
 have key : ∀ x y : Int, 0 <= x -> 0 < y -> x * y = ((a * b).natAbs : Int) -> (¬ y = 0 /\ Br ((IntKind.wrap .i64 ((1099511627776 : Int).tdiv y)) < x)
   (Tri Tryz.prog 73 #[pv p, .int .i64 5] V fun e V1 => ∃ v3, e = .returned (.int .i64 v3) /\ qDS V0 d m p sn s (big (a * b)) V (.returned (.int .i64 v3)) V1)
   (IR (a * b) /\ qDS V0 d m p sn s (big (a * b)) V (.returned (.int .i64 (a * b))) V)) := fun x y hx hy hxy => by
  refine ⟨by omega, ?_⟩
  rw [wrap_div hy]
  refine ⟨fun h1 => failP S h (by decide) ?_, fun h1 => ?_⟩
  ·have h1 := (qII hy).1 h1
   unfold big; rw [if_neg (by omega)]
  ·have h1 : ¬ 1099511627776 < x * y := fun k => h1 ((qII hy).2 k)
   have : big (a * b) = .ok (a * b) := by unfold big; rw [if_pos (by omega)]
   rw [this]
   exact ⟨⟨by omega, by omega⟩, .ok⟩
 have ab : ∀ x y : Int, x = a.natAbs -> y = b.natAbs -> x * y = ((a * b).natAbs : Int) := fun x y h1 h2 => by rw [h1, h2, <- Int.natCast_mul, mul_abs]
 refine ⟨fun h1 => ⟨⟨by omega, by omega⟩, fun h2 => ⟨⟨by omega, by omega⟩, fun h3 => ?_, fun h3 => ?_⟩, fun h2 => ⟨fun h3 => zero h3, fun h3 => ?_⟩⟩, fun h1 => ⟨fun h2 => ⟨⟨by omega, by omega⟩, fun h3 => ?_, fun h3 => ?_⟩, fun h2 => ⟨fun h3 => zero h3, fun h3 => ?_⟩⟩⟩
 ·have h2 : b < 0 := h2
  have h3 : 0 - b = 0 := h3
  omega
 ·have h1 : a < 0 := h1
  have h2 : b < 0 := h2
  exact key (0 - a) (0 - b) (by omega) (by omega) (ab _ _ (by omega) (by omega))
 ·have h1 : a < 0 := h1
  have h2 : ¬ b < 0 := h2
  have h3 : ¬ b = 0 := h3
  exact key (0 - a) b (by omega) (by omega) (ab _ _ (by omega) (by omega))
 ·have h2 : b < 0 := h2
  have h3 : 0 - b = 0 := h3
  omega
 ·have h1 : ¬ a < 0 := h1
  have h2 : b < 0 := h2
  exact key a (0 - b) (by omega) (by omega) (ab _ _ (by omega) (by omega))
 ·have h1 : ¬ a < 0 := h1
  have h2 : ¬ b < 0 := h2
  have h3 : ¬ b = 0 := h3
  exact key a b (by omega) (by omega) (ab _ _ (by omega) (by omega))
theorem pureV {f : FuncId} {args : Array Value} {rs : Rs} (H : Tri Tryz.prog f args V (qDS V0 d m p sn s rs V)) {rs' : Rs} (e : rs = rs') : Tri Tryz.prog f args V fun e V1 => ∃ v, e = .returned (.int .i64 v) /\ qDS V0 d m p sn s rs' V (.returned (.int .i64 v)) V1 :=
 Tri.mono H fun e' V1 ⟨v, he, h⟩ => ⟨v, he, v, rfl, by rw [<- e]; exact h⟩
theorem c119 (S : RSt V0 d m p) (h : RM V0 d m p V sn 0 s) {op a b : Int} (ha : -1099511627776 <= a /\ a <= 1099511627776) (hb : -1099511627776 <= b /\ b <= 1099511627776) : Tri Tryz.prog 119 #[pv p, .int .i64 op, .int .i64 a, .int .i64 b] V (qDS V0 d m p sn s (qCz op a b) V) := by
 refine Tri.mono (x119 (R := qDS V0 d m p sn s (qCz op a b) V) ?_) fun _ _ h => h
 unfold w119
 have tr : ∀ {b' : Bool} {r : Rs}, r = .ok (trI b') -> Tri Tryz.prog 179 #[.bool b'] V fun e V' => ∃ v, e = .returned (.int .i64 v) /\ qDS V0 d m p sn s r V (.returned (.int .i64 v)) V' := fun h => c179.call ⟨_, rfl, by rw [h]; exact .ok⟩
 have ne : ∀ {x y : Int}, ¬ x = y -> (x = y) = False := fun h => by simp [h]
 refine ⟨fun h1 => ⟨⟨by omega, by omega⟩, pureV (c117 S h) ?_⟩, fun h1 => ⟨fun h2 => ⟨⟨by omega, by omega⟩, pureV (c117 S h) ?_⟩, fun h2 => ⟨fun h3 => pureV (c178 S h ha hb) ?_, fun h3 => ⟨fun h4 => tr ?_, fun h4 => ⟨fun h5 => tr ?_, fun h5 => ⟨fun h6 => tr ?_, fun h6 => ⟨fun h7 => tr ?_, fun h7 => ⟨fun h8 => ⟨fun h9 => ?_, fun h9 => ?_⟩, fun h8 => ⟨fun h9 => ⟨fun h10 => ?_, fun h10 => ?_⟩, fun h9 => ⟨fun h10 => failP S h (by decide) ?_, fun h10 => ⟨fun h11 => ⟨h10, ?_⟩, fun h11 => ⟨h10, ?_⟩⟩⟩⟩⟩⟩⟩⟩⟩⟩⟩⟩
 ·rw [show op = 9 from h1]; rfl
 ·rw [show op = 10 from h2]; rfl
 ·rw [show op = 11 from h3]; rfl
 ·rw [show op = 14 from h4]; rfl
 ·rw [show op = 15 from h5]; rfl
 ·rw [show op = 16 from h6]; rfl
 ·rw [show op = 17 from h7]; rfl
 ·have : qCz op a b = .ok b := by rw [show op = 22 from h8]; show Rs.ok (if a < b then b else a) = _; rw [if_pos h9]
  rw [this]; exact .ok
 ·have : qCz op a b = .ok a := by rw [show op = 22 from h8]; show Rs.ok (if a < b then b else a) = _; rw [if_neg h9]
  rw [this]; exact .ok
 ·have : qCz op a b = .ok b := by rw [show op = 23 from h9]; show Rs.ok (if b < a then b else a) = _; rw [if_pos h10]
  rw [this]; exact .ok
 ·have : qCz op a b = .ok a := by rw [show op = 23 from h9]; show Rs.ok (if b < a then b else a) = _; rw [if_neg h10]
  rw [this]; exact .ok
 ·unfold qCz
  rw [if_neg (show ¬ op = 9 from h1), if_neg (show ¬ op = 10 from h2), if_neg (show ¬ op = 11 from h3), if_neg (show ¬ op = 22 from h8), if_neg (show ¬ op = 23 from h9), if_neg (show ¬ op = 14 from h4), if_neg (show ¬ op = 15 from h5), if_neg (show ¬ op = 16 from h6), if_neg (show ¬ op = 17 from h7), if_pos (show b = 0 from h10)]
 ·have : qCz op a b = .ok (a.tdiv b) := by
   unfold qCz
   rw [if_neg (show ¬ op = 9 from h1), if_neg (show ¬ op = 10 from h2), if_neg (show ¬ op = 11 from h3), if_neg (show ¬ op = 22 from h8), if_neg (show ¬ op = 23 from h9), if_neg (show ¬ op = 14 from h4), if_neg (show ¬ op = 15 from h5), if_neg (show ¬ op = 16 from h6), if_neg (show ¬ op = 17 from h7), if_neg (show ¬ b = 0 from h10), if_pos (show op = 12 from h11)]
  have hd := qJi (b := b) ha
  have hw : IntKind.wrap .i64 (a.tdiv b) = a.tdiv b := qEb ⟨by simp [IntKind.min, IntKind.signed, IntKind.bits]; omega, by simp [IntKind.max, IntKind.signed, IntKind.bits]; omega⟩
  rw [this, hw]; exact .ok
 ·have : qCz op a b = .ok (a.tmod b) := by
   unfold qCz
   rw [if_neg (show ¬ op = 9 from h1), if_neg (show ¬ op = 10 from h2), if_neg (show ¬ op = 11 from h3), if_neg (show ¬ op = 22 from h8), if_neg (show ¬ op = 23 from h9), if_neg (show ¬ op = 14 from h4), if_neg (show ¬ op = 15 from h5), if_neg (show ¬ op = 16 from h6), if_neg (show ¬ op = 17 from h7), if_neg (show ¬ b = 0 from h10), if_neg (show ¬ op = 12 from h11)]
  rw [this]; exact .ok
end
section
variable {V0 V : Mem} {d : Ds} {m : Mm} {p : Nat} {sn : List qCF} {f : Int} {s : Sl}
theorem c114 (S : RSt V0 d m p) (h : RM V0 d m p V sn f s) {T nm t : ByteArray} {x : Int} (hT : This d m T x) (ht : qBJ (qAk d T).vars nm = t) (hne : t ≠ sE) : PP 114 [pv p, .string nm, .int .i64 x] V (.int .i64 (varV d m x nm)) := by
 refine x114 ?_
 unfold w114
 have hdg := (S.ds.sub h.own.sub).globals
 have hmg := (S.mm.sub h.own.sub).globals
 refine ⟨fun h1 => ?_, fun h1 => ?_⟩
 ·unfold varV; rw [if_pos (show nm = qBG from h1)]; exact ⟨rfl, rfl⟩
 have h1 : ¬ nm = qBG := h1
 rcases var_ok S.good hT ht hne with ⟨g, -⟩ | ⟨-, i, g, v, g1, g2, g3, g4, g5, -⟩
 ·exact absurd g h1
 refine qAA (mk := .int .i64) (b0 := 0) d.globals.length (fun j V1 => V = V1 /\ qAG (fun y : Fld => !decide (y.name = nm)) d.globals j) ⟨rfl, qAG.zero _ _⟩ ?_
 rintro j b V1 J hj ⟨rfl, ha⟩ hJ
 refine ⟨nn, nn, pnn, d.gs, h.cell 2 1 (by decide), fun hlt => ?_, fun hge => ?_⟩
 ·obtain ⟨y, hym, hy, -, hjl, hp, hz, hrow⟩ := hdg.get hlt
  refine ⟨nn, nn, pnn, d.gs, h.cell 2 1 (by decide), hp, hz, hlt, qAc hp, _, _, hrow, fun hE => ?_, fun hE => ⟨hdg.succ hlt, hJ hjl _ _ ⟨rfl, qBz ha hy (decide_eq_false hE)⟩⟩⟩
  have e : qIh d.globals nm = (j : Int) := by unfold qIh; exact qBV ha hy (decide_eq_true hE)
  have ij : i = j := by omega
  subst ij
  have hlen := hmg.n_eq
  have hil := (List.getElem?_eq_some_iff.1 g3).1
  obtain ⟨u, hum, hu, -, hul, hpu, hzu, hrowu⟩ := hmg.get (i := i) (by omega)
  rw [g3] at hu; cases hu
  refine ⟨nn, nn, pnn, m.gs, h.cell 8 1 (by decide), hpu, hzu, by omega, _, hrowu, ?_⟩
  rw [g5]; exact ⟨rfl, rfl⟩
 ·have hd := (hdg.done hge).2
  have e : qIh d.globals nm = -1 := by unfold qIh; exact qCr ha hd
  omega
theorem c118 {a : Int} (ha : a <= 1099511627776) : PP 118 [.int .i64 a] V (.int .i64 (qHz a)) := by
 refine x118 ?_
 unfold w118
 have small : ∀ v : Int, v <= 1 -> qHz v = 0 := fun v hv => by
  unfold qHz
  have : v.toNat = 0 ∨ v.toNat = 1 := by omega
  rcases this with h | h <;> rw [h] <;> decide
 have step : ∀ v : Int, 1 < v -> qHz v = qHz (v.tdiv 2) + 1 := fun v hv => by
  unfold qHz
  have e : (v.tdiv 2).toNat = v.toNat / 2 := by rw [Int.tdiv_eq_ediv_of_nonneg (by omega)]; omega
  rw [e, Nat.log2_def, if_pos (by omega)]
  simp
 have lim : qHz a <= 64 := by
  unfold qHz
  by_cases h0 : a.toNat = 0
  ·rw [h0]; decide
  ·have := (Nat.log2_lt h0).2 (show a.toNat < 2 ^ 64 by omega)
   omega
 have pos : ∀ v : Int, 0 <= qHz v := fun v => by unfold qHz; omega
 refine ⟨fun n xs V1 => ∃ v c : Int, xs = [.int .i64 v, .int .i64 c] /\ n = v.toNat /\ V = V1 /\ v <= a /\ 0 <= c /\ c + qHz v = qHz a, a.toNat, ⟨a, 0, rfl, rfl, rfl, Int.le_refl _, Int.le_refl _, by omega⟩, ?_⟩
 rintro n V1 v c ⟨v', c', hx, rfl, rfl, hva, hc, hl⟩ J hJ
 simp only [List.cons.injEq, Value.int.injEq, true_and, and_true] at hx
 obtain ⟨rfl, rfl⟩ := hx
 refine ⟨fun hv => ?_, fun hv => ?_⟩
 ·have hv : 1 < v := hv
  have hw : IntKind.wrap .i64 (v.tdiv 2) = v.tdiv 2 := by
   rw [Int.tdiv_eq_ediv_of_nonneg (by omega)]
   exact qEb ⟨by simp [IntKind.min, IntKind.signed, IntKind.bits]; omega, by simp [IntKind.max, IntKind.signed, IntKind.bits]; omega⟩
  have hs := step v hv
  have hp := pos (v.tdiv 2)
  have hle : v.tdiv 2 < v /\ 0 <= v.tdiv 2 := by rw [Int.tdiv_eq_ediv_of_nonneg (by omega)]; omega
  refine ⟨by decide, ⟨by omega, by omega⟩, ?_⟩
  rw [hw]
  exact hJ (v.tdiv 2).toNat _ _ (by omega) ⟨v.tdiv 2, c + 1, rfl, rfl, rfl, by omega, by omega, by omega⟩
 ·have hv : ¬ 1 < v := hv
  have := small v (by omega)
  rw [show c = qHz a by omega]; exact ⟨rfl, rfl⟩
end
def BzL (sn : List qCF) : Int -> Int -> Prop := fun a b => ∃ pr ∈ sn, pr.k = a /\ pr.x = b /\ pr.kn = false
def KnL (d : Ds) (m : Mm) (sn : List qCF) : Prop := ∀ pr ∈ sn, pr.kn = true -> ∃ n, evM d m n pr.k pr.x = .ok pr.v
def AllK (ext : List qCF) : Prop := ∀ pr ∈ ext, pr.kn = true
def unR (d : Ds) (m : Mm) (sn : List qCF) : Nat := ((qJt d m).filter fun k => !sn.any fun pr => decide (pr.k = k.1 /\ pr.x = k.2)).length
structure RK (V0 : Mem) (d : Ds) (m : Mm) (p : Nat) (V : Mem) (sn : List qCF) (s : Sl) : Prop where
 rm : RM V0 d m p V sn 0 s
 kn : KnL d m sn
 cap : sn.length + unR d m sn <= (qJt d m).length
def qBi (V0 : Mem) (d : Ds) (m : Mm) (p : Nat) (sn : List qCF) (g : Nat -> Rs) : Ending -> Mem -> Prop := fun e V' => ∃ v rs, e = .returned (.int .i64 v) /\ Out d m (BzL sn) g rs /\
 ((∃ a ext s', rs = .ok a /\ v = a /\ AllK ext /\ RK V0 d m p V' (sn ++ ext) s') ∨ ∃ c sn' s', rs = .bad c /\ c ≠ 0 /\ RM V0 d m p V' sn' c s' /\ sn.length <= sn'.length)
theorem qFQ {α : Type} (f : α -> α) : ∀ (A : List α) (b : α) (C : List α), (A ++ b :: C).modify A.length f = A ++ f b :: C
 | [], b, C => rfl
 | a :: A, b, C => by
  show (a :: (A ++ b :: C)).modify (A.length + 1) f = _
  rw [List.modify_succ_cons, qFQ f A b C]; rfl
theorem set_v : ∀ (L : List qCF) (j : Nat) (v : Int), (L.flatMap qCF.row).set (j * 4 + 2) (.int .i64 v) = (L.modify j fun q => { q with v := v }).flatMap qCF.row
 | [], j, v => by cases j <;> rfl
 | a :: L, 0, v => by simp [qCF.row]
 | a :: L, j + 1, v => by
  rw [List.flatMap_cons, List.modify_succ_cons, List.flatMap_cons, <- set_v L j v, show (j + 1) * 4 + 2 = (qCF.row a).length + (j * 4 + 2) by simp [qCF.row]; omega, List.set_append_right _ _ (by omega), Nat.add_sub_cancel_left]
theorem set_kn : ∀ (L : List qCF) (j : Nat), (L.flatMap qCF.row).set (j * 4 + 3) (.bool true) = (L.modify j fun q => { q with kn := true }).flatMap qCF.row
 | [], j => by cases j <;> rfl
 | a :: L, 0 => by simp [qCF.row]
 | a :: L, j + 1 => by
  rw [List.flatMap_cons, List.modify_succ_cons, List.flatMap_cons, <- set_kn L j, show (j + 1) * 4 + 3 = (qCF.row a).length + (j * 4 + 3) by simp [qCF.row]; omega, List.set_append_right _ _ (by omega), Nat.add_sub_cancel_left]
theorem qDw {α : Type} : ∀ (l : List α) (i : Nat) (v : α), i < l.length -> l.take i ++ [v] ++ l.drop (i + 1) = l.set i v
 | [], i, v, h => by simp at h
 | a :: l, 0, v, _ => by simp
 | a :: l, i + 1, v, h => by
  have := qDw l i v (by simpa using h)
  simp only [List.take_succ_cons, List.drop_succ_cons, List.set_cons_succ, List.cons_append, <- this]
section
variable {V0 V V1 : Mem} {d : Ds} {m : Mm} {p : Nat} {sn : List qCF} {f : Int} {s : Sl}
theorem Own.store {e : TypeId} {sz : Nat} {vs : List Value} (h : Sx.Own V0 V e sz s vs) {i : Nat} (hi : i < vs.length) {v : Value} {q : Mem -> Prop} (hq : ∀ V', Sx.Own V0 V' e sz s (vs.set i v) -> (∀ c, ¬ Blk s c -> V' c = V c) -> q V') : StT (qAa s.p i) 0 [v] V q := by
 rcases h.cases0 with ⟨h1, h2, h3⟩ | ⟨hc, g, cur, h1, h2, h3, h4, h5, h6, h7⟩
 ·rw [h3] at hi; simp at hi
 have hlen := h.len
 have hle : s.n * sz <= s.c * sz := Nat.mul_le_mul_right _ h4
 rw [h1]
 refine StT.at2 (off := i) h3 (by simp; omega) (hq _ ⟨h.sub.set h2 _, by simpa using hlen, .inr ⟨g, _, h1, h2, Mem.set_same _ _ _, h4, h5, ?_, ?_⟩⟩ fun c hc' => ?_)
 ·have : (cur.toList.take i ++ [v] ++ cur.toList.drop (i + [v].length)) = cur.toList.set i v := qDw _ _ _ (by simp; omega)
  rw [this]; simp [h6]
 ·have : (cur.toList.take i ++ [v] ++ cur.toList.drop (i + [v].length)) = cur.toList.set i v := qDw _ _ _ (by simp; omega)
  rw [this]
  show (cur.toList.set i v).take (s.n * sz) = vs.set i v
  rw [List.take_set, h7]
 ·rw [Mem.set_ne]
  rintro rfl
  exact hc' ⟨hc, h1⟩
theorem bz_ext {ext : List qCF} (h : AllK ext) (a b : Int) (hb : BzL (sn ++ ext) a b) : BzL sn a b := by
 obtain ⟨pr, hm, h1, h2, h3⟩ := hb
 rcases List.mem_append.1 hm with hm | hm
 ·exact ⟨pr, hm, h1, h2, h3⟩
 ·rw [h pr hm] at h3; cases h3
theorem unR_le {a b : List qCF} (h : ∀ pr ∈ a, ∃ q ∈ b, q.k = pr.k /\ q.x = pr.x) : unR d m b <= unR d m a := by
 unfold unR
 refine qEh fun k _ hk => ?_
 simp only [Bool.not_eq_true', List.any_eq_false, decide_eq_true_eq] at hk ⊢
 rintro pr hpr ⟨h1, h2⟩
 obtain ⟨q, hq, g1, g2⟩ := h pr hpr
 exact hk q hq ⟨g1.trans h1, g2.trans h2⟩
theorem unR_lt {q : qCF} (hq : (q.k, q.x) ∈ qJt d m) (h : ∀ pr ∈ sn, ¬ (pr.k = q.k /\ pr.x = q.x)) : unR d m (sn ++ [q]) < unR d m sn := by
 unfold unR
 refine qFr (fun k _ hk => ?_) (q.k, q.x) hq ?_ (by simp)
 ·simp only [Bool.not_eq_true', List.any_eq_false, decide_eq_true_eq] at hk ⊢
  exact fun pr hpr => hk pr (List.mem_append_left _ hpr)
 ·simp only [Bool.not_eq_true', List.any_eq_false, decide_eq_true_eq]
  exact h
theorem unR_ext {ext : List qCF} : unR d m (sn ++ ext) <= unR d m sn := unR_le fun pr h => ⟨pr, List.mem_append_left _ h, rfl, rfl⟩
theorem qBi.ofPure {rs : Rs} {g : Nat -> Rs} (K : RK V0 d m p V sn s) (o : Out d m (BzL sn) g rs) {e : Ending} {V' : Mem} (h : qDS V0 d m p sn s rs V e V') : qBi V0 d m p sn g e V' := by
 obtain ⟨v, he, h⟩ := h
 refine ⟨v, rs, he, o, ?_⟩
 rcases h with ⟨a, rfl, h1, rfl⟩ | ⟨c, rfl, h1, h2⟩
 ·exact .inl ⟨a, [], s, rfl, h1, (fun _ h => by simp at h), by rw [List.append_nil]; exact K⟩
 ·exact .inr ⟨c, sn, s, rfl, h1, h2, Nat.le_refl _⟩
theorem qBi.seq {g : Nat -> Rs} {h : Nat -> Int -> Rs} {G : Nat -> Rs} {a : Int} {ext : List qCF} (ho : Out d m (BzL sn) g (.ok a)) (hx : AllK ext) (hG : ∀ n, G n = (g n).bind (h n)) (mg : Mono g) (mh : Mono fun n => h n a) {r : Ending} {V' : Mem} (H : qBi V0 d m p (sn ++ ext) (fun n => h n a) r V') : qBi V0 d m p sn G r V' := by
 obtain ⟨v, rs, h1, h2, h3⟩ := H
 refine ⟨v, rs, h1, (Out.bindOk mg mh ho (h2.imp (bz_ext hx))).congr fun n => (hG n).symm, ?_⟩
 rcases h3 with ⟨b, ext2, s', g1, g2, g3, g4⟩ | ⟨c, sn', s', g1, g2, g3, g4⟩
 ·refine .inl ⟨b, ext ++ ext2, s', g1, g2, fun pr hpr => ?_, by rw [<- List.append_assoc]; exact g4⟩
  rcases List.mem_append.1 hpr with hpr | hpr
  ·exact hx pr hpr
  ·exact g3 pr hpr
 ·exact .inr ⟨c, sn', s', g1, g2, g3, by rw [List.length_append] at g4; omega⟩
variable (d m p) in
def ExprR (N : Nat) : Prop := ∀ V0, RSt V0 d m p -> ∀ (e : E) (T t : ByteArray) (x : Int) V sn s, VE e -> E.Ok V0 e -> qAy d (qAk d T) e = (t, 0) -> This d m T x -> RK V0 d m p V sn s -> unR d m sn <= N ->
 Tri Tryz.prog 74 #[pv p, e.v, .int .i64 x] V (qBi V0 d m p sn fun n => evE d m (evM d m n) x e)
variable (d m p) in
def MeasR (N : Nat) : Prop := ∀ V0, RSt V0 d m p -> ∀ (i : Nat) (ms : Ms) (x : Int) V sn s, d.measures[i]? = some ms -> qBk d m ms.ty x -> RK V0 d m p V sn s -> unR d m sn <= N ->
 Tri Tryz.prog 43 #[pv p, .int .i64 i, .int .i64 x] V (qBi V0 d m p sn fun n => evM d m n i x)
theorem pairs_len (G : qBF d m) : (qJt d m).length <= 60000 := by
 have h1 : d.measures.length <= 12 := by
  have := G.valid
  unfold qAQ at this
  simp only [Bool.and_eq_true] at this
  obtain ⟨⟨⟨⟨_, hL⟩, -⟩, -⟩, -⟩ := this
  unfold qIg at hL
  have := of_decide_eq_true hL
  omega
 have h2 := (qAq G.mem).2.1
 have key : ∀ l : List Nat, (l.flatMap fun (i : Nat) => (List.range (m.nodes.length + 1)).map fun (x : Nat) => ((i : Int), (x : Int))).length = l.length * (m.nodes.length + 1) := fun l => by
  induction l with
  | nil => simp
  | cons a l ih => rw [List.flatMap_cons, List.length_append, ih, List.length_map, List.length_range, List.length_cons, Nat.add_mul]; omega
 unfold qJt
 rw [key, List.length_range]
 have : d.measures.length * (m.nodes.length + 1) <= 12 * 4097 := Nat.mul_le_mul h1 (by omega)
 omega
theorem Own.rowsP (h : Sx.Own V0 V 139 4 s (sn.flatMap qCF.row)) : qAd V s 4 (sn.map qCF.row) := h.rows (fun _ => rfl) (by decide)
theorem measRef (N : Nat) (ih : ∀ N', N' < N -> ExprR d m p N') : MeasR d m p N := by
  intro V0 S i ms x V sn s hms hx K hN
  have h := K.rm
  refine Tri.mono (x43 (R := qBi V0 d m p sn fun n => evM d m n i x) ?_) fun _ _ h => h
  unfold w43
  have hd := S.ds.sub h.own.sub
  have hil := (List.getElem?_eq_some_iff.1 hms).1
  have hn := hd.measures.n_eq
  have hmem := List.mem_of_getElem? hms
  obtain ⟨y, -, hy, -, hl, hp, hz, hrow⟩ := hd.measures.get (i := i) (by omega)
  rw [hms] at hy; cases hy
  refine ⟨fun h0 => ⟨nn, nn, pnn, d.ms, h.cell 4 1 (by decide), hp, hz, by omega, qAc hp, _, _, _, _, _, _, _, hrow, ?_⟩, fun h0 => ?_⟩
  · refine qBi.ofPure K (show Out d m (BzL sn) _ (Rs.ok ms.nil) from ⟨0, ?_⟩) .ok
    show evM d m 0 i x = .ok ms.nil
    unfold evM nilM
    rw [if_pos h0, Int.toNat_natCast, hms]; rfl
  have h0 : ¬ x = 0 := h0
  have hrows := Own.rowsP h.own
  refine qAA (mk := .int .i64) (b0 := 0) sn.length (fun j V1 => V = V1 /\ ∀ j' pr, j' < j -> sn[j']? = some pr -> ¬ (pr.k = (i : Int) /\ pr.x = x)) ⟨rfl, fun _ _ h => absurd h (Nat.not_lt_zero _)⟩ ?_
  rintro j b V1 J hj ⟨rfl, hno⟩ hJ
  refine ⟨nn, nn, s, h.cell 10 1 (by decide), fun hlt => ?_, fun hge => ?_⟩
  · obtain ⟨pr, hpm, hpr, -, hjl, hps, hzs, hrowp⟩ := hrows.get hlt
    have skip : ¬ (pr.k = (i : Int) /\ pr.x = x) -> (IR ((j : Int) + 1) /\ J [.int .i64 b, .int .i64 ((j : Int) + 1)] V) := fun hne => ⟨hrows.succ hlt, hJ hjl _ _ ⟨rfl, fun j' q hj' hq => by
      rcases Nat.lt_succ_iff_lt_or_eq.1 hj' with h' | rfl
      · exact hno j' q h' hq
      · rw [hpr] at hq; cases hq; exact hne⟩⟩
    have hq := qAc (n := j * 4) hps
    refine ⟨nn, nn, s, h.cell 10 1 (by decide), hps, hzs, hlt, hq, _, _, _, _, hrowp, fun hk => ⟨nn, nn, s, h.cell 10 1 (by decide), hps, hzs, hlt, hq, _, _, _, _, hrowp, fun hx' => ⟨nn, nn, s, h.cell 10 1 (by decide), hps, hzs, hlt, hq, _, _, _, _, hrowp, fun hkn => ⟨nn, nn, s, h.cell 10 1 (by decide), hps, hzs, hlt, hq, _, _, _, _, hrowp, ?_⟩, fun hkn => ?_⟩, fun hx' => skip fun k => hx' k.2⟩, fun hk => skip fun k => hk k.1⟩
    · have hk : pr.k = (i : Int) := hk
      have hx' : pr.x = x := hx'
      obtain ⟨n, hn⟩ := K.kn pr hpm hkn
      rw [hk, hx'] at hn
      exact qBi.ofPure K (show Out d m (BzL sn) _ (Rs.ok pr.v) from ⟨n, hn⟩) .ok
    · have hk : pr.k = (i : Int) := hk
      have hx' : pr.x = x := hx'
      refine Tri.mono (failP S h (c := 16) (by decide) (rs := .bad 16) rfl) ?_
      rintro e V2 ⟨v2, rfl, hpu⟩
      exact ⟨v2, rfl, qBi.ofPure K (show Out d m (BzL sn) (fun n => evM d m n i x) (Rs.bad 16) from .inr ⟨rfl, .inr ⟨i, x, ⟨pr, hpm, hk, hx', (Bool.not_eq_true _).mp hkn⟩, fun _ h => h⟩⟩) hpu⟩
  · have hdone := (hrows.done hge).2
    have hnone : ∀ pr ∈ sn, ¬ (pr.k = (i : Int) /\ pr.x = x) := fun pr hpr => by
      obtain ⟨j', hj', rfl⟩ := List.mem_iff_getElem.1 hpr
      exact hno j' _ (by omega) (List.getElem?_eq_getElem hj')
    obtain ⟨c1, c2⟩ := (qDp S.good.chk).1 ms hmem
    have hname := qBW S.good.valid c1
    have hx' : qAR d m ms.ty x = true := by
      unfold qBk at hx
      rw [if_neg (qBI hname qJA)] at hx
      exact hx
    obtain ⟨r1, r2, -⟩ := qFJ hname hx' h0
    obtain ⟨pq, hpq⟩ : ∃ pq : qCF, pq = ⟨i, x, 0, false⟩ := ⟨_, rfl⟩
    have hinp : (pq.k, pq.x) ∈ qJt d m := by
      obtain ⟨q, rfl⟩ : ∃ q : Nat, x = (q : Int) := ⟨x.toNat, by omega⟩
      rw [hpq]; exact mem_pairs hil (by omega)
    have hult : unR d m (sn ++ [pq]) < unR d m sn := unR_lt hinp (by rw [hpq]; exact hnone)
    have hcap := K.cap
    have hpl := pairs_len S.good
    have hsn := h.own.n_eq (fun _ => rfl) (by decide)
    refine ⟨nn, nn, s, h.cell 10 1 (by decide), nn, nn, s, h.cell 10 1 (by decide), fun tb htb => ?_⟩
    have htp : tb ≠ p := fun e => by rw [e, h.at_] at htb; cases htb
    refine app92 (s := s) (u := ⟨some ⟨tb, 0, none⟩, 1, 1⟩) (xs := sn) (ys := [pq]) rfl rfl ((h.own.but).new htb (.cells #[.int .i64 i, .int .i64 x, .int .i64 0, .bool false] 139 (0, 0))) (qAd.cells (xs := [pq]) (row := qCF.row) mss (by rw [hpq]; rfl) (fun _ => rfl) rfl (by simp)) (by simp; omega) fun s2 V2 ho2 => ⟨s2, rfl, nn, nn, ?_⟩
    have hp2 : V2 p = some (.cells (rrow d m s 0).toArray 94 (0, 0)) := ho2.sub _ _ (Mem.but_at h.at_ h.notB)
    have ho3 : Sx.Own V0 V2 139 4 s2 ((sn ++ [pq]).flatMap qCF.row) := ho2.narrow h.own.sub_but
    have hnb2 : ¬ Blk s2 p := ho3.apart fun cur hc => by rw [hp2] at hc; cases hc
    refine StT.at2 (off := 10) hp2 (by simp [rrow]) ?_
    obtain ⟨V3, hV3⟩ : ∃ V3, V3 = V2.set p (.cells (rrow d m s2 0).toArray 94 (0, 0)) := ⟨_, rfl⟩
    have hgoal : V2.set p (.cells ((rrow d m s 0).toArray.toList.take 10 ++ [uL s2] ++ (rrow d m s 0).toArray.toList.drop (10 + [uL s2].length)).toArray 94 (0, 0)) = V3 := hV3.symm
    have K3 : RK V0 d m p V3 (sn ++ [pq]) s2 := by
      refine ⟨⟨by rw [hV3, Mem.set_same], by rw [hV3]; exact ho3.put hnb2 S.p0 _⟩, fun pr hpr hk => ?_, by rw [List.length_append, List.length_singleton]; omega⟩
      rcases List.mem_append.1 hpr with hpr | hpr
      · exact K.kn pr hpr hk
      · rw [List.mem_singleton.1 hpr, hpq] at hk; cases hk
    show ¬ _ /\ _
    rw [hgoal]
    have hd3 := S.ds.sub K3.rm.own.sub
    obtain ⟨y, -, hy, -, hl3, hp3, hz3, hrow3⟩ := hd3.measures.get (i := i) (by omega)
    rw [hms] at hy; cases hy
    refine ⟨nn, nn, pnn, d.ms, K3.rm.cell 4 1 (by decide), hp3, hz3, by omega, qAc hp3, _, _, _, _, _, _, _, hrow3, Tri.mono (ih (unR d m (sn ++ [pq])) (by omega) V0 S ms.x ms.ty qAP x V3 (sn ++ [pq]) s2 (qFh ((qBj S.good.valid).2.2.1 ms hmem)).2.2 (S.ds.measuresOk ms hmem).x c2 (.inr ⟨c1, h0, hx'⟩) K3 (Nat.le_refl _)) ?_⟩
    rintro _ V5 ⟨v, rs, rfl, hout, hres⟩
    have hout2 : Out d m (BzL sn) (fun n => evM d m n i x) rs := Out.measure h0 (by rw [Int.toNat_natCast]; exact hms) (hout.imp fun a b hb => by
      obtain ⟨pr, hpr, g1, g2, g3⟩ := hb
      rcases List.mem_append.1 hpr with hpr | hpr
      · exact .inl ⟨pr, hpr, g1, g2, g3⟩
      · rw [List.mem_singleton.1 hpr, hpq] at g1 g2; exact .inr ⟨g1.symm, g2.symm⟩)
    have store : ∀ {sn5 : List qCF} {f5 : Int} {s5 : Sl}, RM V0 d m p V5 sn5 f5 s5 -> sn.length < sn5.length -> (∀ V', RM V0 d m p V' ((sn5.modify sn.length fun q => { q with v := v }).modify sn.length fun q => { q with kn := true }) f5 s5 -> qBi V0 d m p sn (fun n => evM d m n i x) (.returned (.int .i64 v)) V') ->
        (¬ (some (⟨p, 0, none⟩ : Addr)) = none /\ ¬ (some (⟨p, 0, none⟩ : Addr)) = none /\ ∃ v19, V5.rowp (sa p) ((10 : Int).toNat * 1) 1 = some [uL v19] /\
         ¬ v19.p = none /\ 0 <= (s.n : Int) /\ (s.n : Int) < (v19.n : Int) /\ ¬ (qAa v19.p ((s.n : Int).toNat * 4)) = none /\ StT (qAa (qAa v19.p ((s.n : Int).toNat * 4)) 2) 0 [uI v] V5 fun V6 =>
         ¬ (some (⟨p, 0, none⟩ : Addr)) = none /\ ¬ (some (⟨p, 0, none⟩ : Addr)) = none /\ ∃ v20, V6.rowp (sa p) ((10 : Int).toNat * 1) 1 = some [uL v20] /\
         ¬ v20.p = none /\ 0 <= (s.n : Int) /\ (s.n : Int) < (v20.n : Int) /\ ¬ (qAa v20.p ((s.n : Int).toNat * 4)) = none /\ StT (qAa (qAa v20.p ((s.n : Int).toNat * 4)) 3) 0 [uB true] V6 fun V7 =>
         qBi V0 d m p sn (fun n => evM d m n i x) (.returned (.int .i64 v)) V7) := fun {sn5 f5 s5} h5 hlt5 fin => by
      have hr5 := Own.rowsP h5.own
      have n5 := hr5.n_eq
      obtain ⟨z, -, -, -, -, hps, hzs, -⟩ := hr5.get (i := s.n) (by omega)
      have e1 : ((s.n : Int)).toNat = sn.length := by omega
      have pa : ∀ (q : Option Addr) (a b : Nat), qAa (qAa q a) b = qAa q (a + b) := fun q a b => by
        cases q with
        | none => rfl
        | some q => show some ((q.add a).add b) = some (q.add (a + b)); rw [qER]
      rw [e1]
      refine ⟨nn, nn, s5, h5.cell 10 1 (by decide), hps, hzs, by omega, qAc hps, ?_⟩
      rw [pa]
      refine Own.store h5.own (by rw [qCN (row := qCF.row) (sz := 4) (fun _ => rfl)]; omega) fun V6 ho6 hk6 => ?_
      rw [set_v] at ho6
      have h6 : RM V0 d m p V6 (sn5.modify sn.length fun q => { q with v := v }) f5 s5 := ⟨by rw [hk6 p h5.notB]; exact h5.at_, ho6⟩
      refine ⟨nn, nn, s5, h6.cell 10 1 (by decide), hps, hzs, by omega, qAc hps, ?_⟩
      rw [pa]
      refine Own.store h6.own (by rw [qCN (row := qCF.row) (sz := 4) (fun _ => rfl), List.length_modify]; omega) fun V7 ho7 hk7 => ?_
      rw [set_kn] at ho7
      exact fin V7 ⟨by rw [hk7 p h6.notB]; exact h6.at_, ho7⟩
    refine ⟨v, rfl, ?_⟩
    rcases hres with ⟨a, ext, s5, rfl, rfl, hx5, K5⟩ | ⟨c, sn5, s5, rfl, hc, h5, hle5⟩
    · refine store K5.rm (by simp) fun V' h' => ⟨v, .ok v, rfl, hout2, .inl ⟨v, ⟨i, x, v, true⟩ :: ext, s5, rfl, rfl, ?_, ?_⟩⟩
      · intro pr hpr
        rcases List.mem_cons.1 hpr with rfl | hpr
        · rfl
        · exact hx5 pr hpr
      · have e1 : sn ++ [pq] ++ ext = sn ++ pq :: ext := by simp
        rw [e1] at h' K5
        rw [qFQ, qFQ, hpq] at h'
        have kc := K5.cap
        refine ⟨h', fun pr hpr hk => ?_, ?_⟩
        · rcases List.mem_append.1 hpr with hpr | hpr
          · exact K.kn pr hpr hk
          · rcases List.mem_cons.1 hpr with rfl | hpr
            · exact hout2
            · exact K5.kn pr (List.mem_append_right _ (List.mem_cons_of_mem _ hpr)) hk
        · have hu : unR d m (sn ++ ⟨i, x, v, true⟩ :: ext) <= unR d m (sn ++ pq :: ext) := unR_le fun pr hpr => by
            rcases List.mem_append.1 hpr with hpr | hpr
            · exact ⟨pr, List.mem_append_left _ hpr, rfl, rfl⟩
            · rcases List.mem_cons.1 hpr with rfl | hpr
              · exact ⟨⟨i, x, v, true⟩, by simp, by rw [hpq], by rw [hpq]⟩
              · exact ⟨pr, List.mem_append_right _ (List.mem_cons_of_mem _ hpr), rfl, rfl⟩
          simp only [List.length_append, List.length_cons] at kc ⊢
          omega
    · rw [List.length_append, List.length_singleton] at hle5
      refine store h5 (by omega) fun V' h' => ⟨v, .bad c, rfl, hout2, .inr ⟨c, _, s5, rfl, hc, h', by simp only [List.length_modify]; omega⟩⟩
end
open Classical in
noncomputable def Mem.wo (V : Mem) (p : Nat) (s : Sl) : Mem := fun c => if c = p ∨ Blk s c then none else V c
section
variable {V0 V V1 V2 V' : Mem} {d : Ds} {m : Mm} {p : Nat} {sn : List qCF} {f x : Int} {s : Sl}
theorem wo_sub (V : Mem) (p : Nat) (s : Sl) : (Mem.wo V p s).sub V := fun c o h => by
 unfold Mem.wo at h
 split at h
 ·cases h
 ·exact h
theorem wo_at {c : Nat} {o : Obj} (h : V c = some o) (h1 : c ≠ p) (h2 : ¬ Blk s c) : Mem.wo V p s c = some o := by
 unfold Mem.wo
 rw [if_neg]
 ·exact h
 ·rintro (h | h)
  ·exact h1 h
  ·exact h2 h
theorem RM.subwo (S : RSt V0 d m p) (h : RM V0 d m p V sn f s) : V0.sub (Mem.wo V p s) := fun c o hc => wo_at (h.own.sub _ _ hc) (fun e => by rw [e, S.p0] at hc; cases hc) (h.own.apart0 hc)
theorem RM.wo (h : RM V0 d m p V sn f s) : RM (Mem.wo V p s) d m p V sn f s := ⟨h.at_, wo_sub V p s, h.own.len, by
 rcases h.own.cases0 with h1 | ⟨hc, g, cur, h1, h2, h3⟩
 ·exact .inl h1
 ·refine .inr ⟨g, cur, h1, ?_, h3⟩
  unfold Mem.wo
  rw [if_pos (.inr ⟨hc, h1⟩)]⟩
theorem RSt.wo (S : RSt V0 d m p) (h : RM V0 d m p V sn f s) : RSt (Mem.wo V p s) d m p := ⟨S.good, S.ds.sub (h.subwo S), S.mm.sub (h.subwo S), by unfold Mem.wo; rw [if_pos (.inl rfl)]⟩
theorem RM.narrow (h : RM V1 d m p V sn f s) (hs : V0.sub V1) : RM V0 d m p V sn f s := ⟨h.at_, h.own.narrow hs⟩
theorem RK.wo (h : RK V0 d m p V sn s) : RK (Mem.wo V p s) d m p V sn s := ⟨h.rm.wo, h.kn, h.cap⟩
theorem RK.narrow (h : RK V1 d m p V sn s) (hs : V0.sub V1) : RK V0 d m p V sn s := ⟨h.rm.narrow hs, h.kn, h.cap⟩
theorem Own.move {e : TypeId} {sz : Nat} {l : Sl} {vs : List Value} (h : Sx.Own V0 V e sz l vs) (hs : V0.sub V') (hk : ∀ g cur, V g = some (.cells cur e (0, 0)) -> V' g = some (.cells cur e (0, 0))) : Sx.Own V0 V' e sz l vs := ⟨hs, h.len, by
 rcases h.at_ with h1 | ⟨g, cur, h1, h2, h3, h4⟩
 ·exact .inl h1
 ·exact .inr ⟨g, cur, h1, h2, hk g cur h3, h4⟩⟩
def KeepN (V V' : Mem) : Prop := ∀ g cur t, t ≠ 3 -> V g = some (.cells cur t (0, 0)) -> V' g = some (.cells cur t (0, 0))
theorem RM.keep (h : RM V0 d m p V sn f s) (hs : V0.sub V') (hk : KeepN V V') : RM V0 d m p V' sn f s := ⟨hk _ _ _ (by decide) h.at_, Own.move h.own hs fun g cur hg => hk g cur _ (by decide) hg⟩
theorem RK.keep (h : RK V0 d m p V sn s) (hs : V0.sub V') (hk : KeepN V V') : RK V0 d m p V' sn s := ⟨h.rm.keep hs hk, h.kn, h.cap⟩
theorem exprF (h : RM V0 d m p V sn f s) (hf : f ≠ 0) {e : E} : PP 74 [pv p, e.v, .int .i64 x] V (.int .i64 0) := by
 refine x74 ?_
 unfold w74
 exact ⟨nn, nn, f, h.cell 11 1 (by decide), fun h0 => absurd h0 hf, fun _ => ⟨rfl, rfl⟩⟩
def ArgSt (V0 : Mem) (d : Ds) (m : Mm) (p : Nat) (sn : List qCF) (x : Int) (k : List E) (i : Nat) (V1 : Mem) (l : Sl) : Prop := ∃ vals : List Int, vals.length = i /\ Sx.Own V0 V1 3 1 l (vals.flatMap qAH) /\
  ((∃ (ext : List qCF) (s' : Sl), AllK ext /\ RK V0 d m p V1 (sn ++ ext) s' /\ ∀ (j : Nat) (a : Int), vals[j]? = some a -> ∃ q : E, k[j]? = some q /\ Out d m (BzL sn) (fun n => evE d m (evM d m n) x q) (.ok a)) ∨
   ∃ (c : Int) (sn' : List qCF) (s' : Sl) (j : Nat) (q : E), c ≠ 0 /\ RM V0 d m p V1 sn' c s' /\ sn.length <= sn'.length /\ k[j]? = some q /\ Out d m (BzL sn) (fun n => evE d m (evM d m n) x q) (.bad c) /\ ∀ j' : Nat, j' < j -> ∃ (q' : E) (a : Int), k[j']? = some q' /\ Out d m (BzL sn) (fun n => evE d m (evM d m n) x q') (.ok a))
theorem qCG {N : Nat} {k : List E} {el : Sl} (S : RSt V0 d m p) (hr : qAd V0 el 4 (k.map E.row)) (hok : ∀ a ∈ k, E.Ok V0 a) (hlen : k.length <= 1000)
  (hk : ∀ a ∈ k, ∀ V0, RSt V0 d m p -> ∀ V sn s, E.Ok V0 a -> RK V0 d m p V sn s -> unR d m sn <= N -> Tri Tryz.prog 74 #[pv p, a.v, .int .i64 x] V (qBi V0 d m p sn fun n => evE d m (evM d m n) x a))
  (K : RK V0 d m p V sn s) (hN : unR d m sn <= N) {X : Sl -> Mem -> Prop} (hX : ∀ l V1, ArgSt V0 d m p sn x k k.length V1 l -> X l V1) :
  ∃ (I : Nat -> List Value -> Mem -> Prop) (n0 : Nat), I n0 [.slice none 0 0, uI 0] V /\ ∀ n V1, ∀ (v7 : Sl) (v8 : Int), I n [uL v7, uI v8] V1 -> ∀ J0 : List Value -> Mem -> Prop, (∀ m ys V'', m < n -> I m ys V'' -> J0 ys V'') ->
   Br (v8 < (el.n : Int))
   (¬ el.p = none /\ 0 <= v8 /\ v8 < (el.n : Int) /\ ∃ v9 v10 v11 v12, V1.rowp el.p (v8.toNat * 4) 4 = some [uI v9, uI v10, uS v11, uL v12] /\
   TT 74 #[uP (sa p), uA #[uI v9, uI v10, uS v11, uL v12], uI x] V1 fun e V2 => ∃ v13, e = rV (uI v13) /\
   qAn [uI v13] 3 V2 fun v14 V3 =>
   qAo Tryz.prog (.call { callee := (.builtin .append), args := #[(.tmp 44), (.tmp 53)], argTypes := #[31, 31] }) 31 (gv [(44, uL v7), (53, .slice (qAa v14 0) (1 : Int).toNat (1 : Int).toNat)]) V3 fun y V4 => ∃ v15, y = uL v15 /\
   IR (v8 + 1) /\ J0 [uL v15, uI (v8 + 1)] V4)
   (X v7 V1) := by
 refine qEB (mk := fun s : Sl => .slice s.p s.n s.c) (b0 := ⟨none, 0, 0⟩) qDn k.length (fun i l V1 => ArgSt V0 d m p sn x k i V1 l) ⟨[], rfl, Own.nil K.rm.own.sub _ _, .inl ⟨[], s, (fun _ h => by simp at h), by rw [List.append_nil]; exact K, fun j a h => by simp at h⟩⟩ ?_
 rintro i l V1 J hi ⟨vals, hvl, hol, hst⟩ hJ
 have hr1 := hr.sub hol.sub
 refine ⟨fun hlt => ?_, fun hge => ?_⟩
 ·obtain ⟨y, hym, hy, -, hil, hp, hz, hrow⟩ := hr1.get hlt
  refine ⟨hp, hz, hlt, _, _, _, _, hrow, ?_⟩
  have fin : ∀ {V2 : Mem} {v : Int}, Sx.Own V0 V2 3 1 l (vals.flatMap qAH) -> (∀ V4 l', V0.sub V4 -> KeepN V2 V4 -> Sx.Own V0 V4 3 1 l' ((vals ++ [v]).flatMap qAH) -> ArgSt V0 d m p sn x k (i + 1) V4 l') ->
    qAn [uI v] 3 V2 fun v14 V3 =>
    qAo Tryz.prog (.call { callee := (.builtin .append), args := #[(.tmp 44), (.tmp 53)], argTypes := #[31, 31] }) 31 (gv [(44, uL l), (53, .slice (qAa v14 0) (1 : Int).toNat (1 : Int).toNat)]) V3 fun y V4 => ∃ v15, y = uL v15 /\
    IR ((i : Int) + 1) /\ J [uL v15, uI ((i : Int) + 1)] V4 := fun {V2 v} ho2 hfin tb htb => by
   have hnew := ho2.new htb (.cells #[.int .i64 v] 3 (0, 0))
   refine app31 (s := l) (u := ⟨some ⟨tb, 0, none⟩, 1, 1⟩) (xs := vals) (ys := [v]) rfl rfl hnew.but (qHq mss) (by simp; omega) fun l' V4 ho4 => ⟨l', rfl, hr1.succ hlt, hJ hil _ _ (hfin V4 l' (hnew.sub_but.trans ho4.sub) (fun g cur t ht hg => ?_) (ho4.narrow hnew.sub_but))⟩
   have h3 := Mem.sub_new htb (.cells #[.int .i64 v] 3 (0, 0)) _ _ hg
   refine ho4.sub _ _ (Mem.but_at h3 (hnew.apart fun cur' hc => ?_))
   rw [h3] at hc
   simp only [Option.some.injEq, Obj.cells.injEq] at hc
   exact ht hc.2.1
  rcases hst with ⟨ext, s1, hx, K1, hv⟩ | ⟨c, sn1, s1, j, q, hc, h1, hle, hq, hqo, hjs⟩
  ·have S1 := S.wo K1.rm
   have hsw := K1.rm.subwo S
   refine Tri.mono (hk y hym (Mem.wo V1 p s1) S1 V1 (sn ++ ext) s1 ((hok y hym).sub hsw) K1.wo (Nat.le_trans unR_ext hN)) ?_
   rintro _ V2 ⟨v, rs, rfl, ho, hres⟩
   have ho' := ho.imp (bz_ext hx)
   have hwo2 : (Mem.wo V1 p s1).sub V2 := by
    rcases hres with ⟨a, ext2, s2, -, -, -, K2⟩ | ⟨c, sn2, s2, -, -, h2, -⟩
    ·exact K2.rm.own.sub
    ·exact h2.own.sub
   have hol2 : Sx.Own V0 V2 3 1 l (vals.flatMap qAH) := Own.move hol (hsw.trans hwo2) fun g cur hg => hwo2 _ _ (wo_at hg (fun e => by rw [e, K1.rm.at_] at hg; cases hg) (K1.rm.own.apart fun cur' hc => by rw [hg] at hc; cases hc))
   refine ⟨v, rfl, fin hol2 fun V4 l' hs4 hk4 ho4 => ⟨vals ++ [v], by simp [hvl], ho4, ?_⟩⟩
   rcases hres with ⟨a, ext2, s2, rfl, rfl, hx2, K2⟩ | ⟨c, sn2, s2, rfl, hc, h2, hle⟩
   ·refine .inl ⟨ext ++ ext2, s2, fun pr hpr => ?_, ?_, fun j b hb => ?_⟩
    ·rcases List.mem_append.1 hpr with hpr | hpr
     ·exact hx pr hpr
     ·exact hx2 pr hpr
    ·rw [<- List.append_assoc]; exact (K2.narrow hsw).keep hs4 hk4
    ·by_cases hj : j < i
     ·rw [List.getElem?_append_left (by omega)] at hb; exact hv j b hb
     ·rw [List.getElem?_append_right (by omega)] at hb
      have : j = i := by
       have := (List.getElem?_eq_some_iff.1 hb).1
       simp at this; omega
      subst this
      rw [hvl, Nat.sub_self] at hb
      cases hb
      exact ⟨y, hy, ho'⟩
   ·refine .inr ⟨c, sn2, s2, i, y, hc, (h2.narrow hsw).keep hs4 hk4, by rw [List.length_append] at hle; omega, hy, ho', fun j' hj' => ?_⟩
    have hb : vals[j']? = some (vals[j']'(by omega)) := List.getElem?_eq_getElem _
    obtain ⟨q, h3, h4⟩ := hv j' _ hb
    exact ⟨q, _, h3, h4⟩
  ·refine (exprF h1 hc).call ⟨0, rfl, fin hol fun V4 l' hs4 hk4 ho4 => ⟨vals ++ [0], by simp [hvl], ho4, .inr ⟨c, sn1, s1, j, q, hc, h1.keep hs4 hk4, hle, hq, hqo, hjs⟩⟩⟩
 ·have hd := (hr1.done hge).2
  have : i = k.length := by omega
  subst this
  exact hX l V1 ⟨vals, hvl, hol, hst⟩
end
section
variable {V0 V V1 V2 V' : Mem} {d : Ds} {m : Mm} {p : Nat} {sn : List qCF} {f x : Int} {s : Sl}
theorem c177 {l : List Fld} {fl : Sl} (hr : qAd V fl 2 (l.map Fld.row)) {nm : ByteArray} : PP 177 [fl.v, .string nm] V (.int .i64 (qIh l nm)) := by
 refine x177 ?_
 unfold w177
 refine qAA (mk := .int .i64) (b0 := 0) l.length (fun i V1 => V = V1 /\ qAG (fun y : Fld => !decide (y.name = nm)) l i) ⟨rfl, qAG.zero _ _⟩ ?_
 rintro i b V1 J hi ⟨rfl, ha⟩ hJ
 refine ⟨fun hlt => ?_, fun hge => ?_⟩
 ·obtain ⟨x, hxm, hx, -, hil, hp, hz, hrow⟩ := hr.get hlt
  refine ⟨hp, hz, hlt, qAc hp, _, _, hrow, fun h => ?_, fun h => ⟨hr.succ hlt, hJ hil _ _ ⟨rfl, qBz ha hx (decide_eq_false h)⟩⟩⟩
  unfold qIh
  rw [qBV ha hx (decide_eq_true h)]; exact ⟨rfl, rfl⟩
 ·unfold qIh
  rw [qCr ha (hr.done hge).2]; exact ⟨rfl, rfl⟩
theorem c116 (S : RSt V0 d m p) (h : RM V0 d m p V sn 0 s) {t nm ty : ByteArray} (ht : qCO d t nm = (ty, 0)) {a : Int} (ha : qBk d m t a) : Tri Tryz.prog 116 #[pv p, .int .i64 a, .string nm] V (qDS V0 d m p sn s (qEs d m a nm) V) := by
 refine Tri.mono (x116 (R := qDS V0 d m p sn s (qEs d m a nm) V) ?_) fun _ _ h => h
 unfold w116
 refine ⟨fun h0 => failP S h (by decide) ?_, fun h0 => ?_⟩
 ·unfold qEs; rw [if_pos h0]
 obtain ⟨n, i, j, tt, f, v, b1, b2, b3, b4, b5, b6, b7, b8, b9, b10, -, b12, -⟩ := fld_ok S.good ht ha h0
 obtain ⟨q, rfl⟩ : ∃ q : Nat, a = (q : Int) + 1 := ⟨(a - 1).toNat, by omega⟩
 rw [show ((q : Int) + 1 - 1) = (q : Int) by omega] at *
 have hm1 := S.mm.sub h.own.sub
 have hd1 := S.ds.sub h.own.sub
 have hnn := hm1.nodes.n_eq
 obtain ⟨y, hym, hy, -, hl2, hp2, hz2, hrow2⟩ := hm1.nodes.get (i := q) (by omega)
 rw [Int.toNat_natCast] at b1
 rw [b1] at hy; cases hy
 have htn := hd1.types.n_eq
 have hjl := (List.getElem?_eq_some_iff.1 b6).1
 obtain ⟨z, hzm, hz, -, hl3, hp3, hz3, hrow3⟩ := hd1.types.get (i := j) (by omega)
 rw [b6] at hz; cases hz
 have hI : IR ((q : Int)) := ⟨by omega, by have := (hm1.nodes.succ (i := q) (by omega)).2; omega⟩
 refine ⟨nn, nn, pnn, m.ns, h.cell 9 1 (by decide), hI, hp2, hz2, by omega, _, _, hrow2, nn, nn, pnn, d.ts, h.cell 1 1 (by decide), ?_⟩
 rw [b5]
 refine ⟨hp3, hz3, by omega, qAc hp3, _, _, hrow3, (c177 (hd1.typesOk tt hzm).fields).call ⟨_, rfl, ?_⟩⟩
 rw [b8]
 have hv := (hm1.nodesOk n hym).rows
 have hvn := hv.n_eq
 have hil := (List.getElem?_eq_some_iff.1 b10).1
 obtain ⟨u, hum, hu, -, hl4, hp4, hz4, hrow4⟩ := hv.get (i := i) (by omega)
 rw [b10] at hu; cases hu
 refine ⟨hp4, hz4, by omega, _, hrow4, ?_⟩
 rw [b12]; exact .ok
theorem zeroK {k : List E} {el : Sl} (hr : qAd V el 4 (k.map E.row)) {i : Nat} {a : E} (h : k[i]? = some a) : ¬ el.p = none /\ (0 : Int) <= (i : Int) /\ (i : Int) < (el.n : Int) /\ V.rowp el.p (((i : Nat) : Int).toNat * 4) 4 = some a.row := by
 have hn := hr.n_eq
 have hl := (List.getElem?_eq_some_iff.1 h).1
 obtain ⟨y, -, hy, -, -, hp, hz, hrow⟩ := hr.get (i := i) (by omega)
 rw [h] at hy; cases hy
 exact ⟨hp, hz, by omega, hrow⟩
theorem zeroV {k : List Int} {el : Sl} (hr : qAd V el 1 (k.map qAH)) {i : Nat} {a : Int} (h : k[i]? = some a) : ¬ el.p = none /\ (0 : Int) <= (i : Int) /\ (i : Int) < (el.n : Int) /\ V.rowp el.p (((i : Nat) : Int).toNat * 1) 1 = some (qAH a) := by
 have hn := hr.n_eq
 have hl := (List.getElem?_eq_some_iff.1 h).1
 obtain ⟨y, -, hy, -, -, hp, hz, hrow⟩ := hr.get (i := i) (by omega)
 rw [h] at hy; cases hy
 exact ⟨hp, hz, by omega, hrow⟩
variable (V0 d m p) in
def KidR (N : Nat) (x : Int) (a : E) : Prop := ∀ V sn s, RK V0 d m p V sn s -> unR d m sn <= N -> Tri Tryz.prog 74 #[pv p, a.v, .int .i64 x] V (qBi V0 d m p sn fun n => evE d m (evM d m n) x a)
theorem lazyR (S : RSt V0 d m p) {e : E} (he : E.Ok V0 e) {N : Nat} {G : Nat -> Rs} (K : RK V0 d m p V sn s) (hN : unR d m sn <= N) {a : E} (h0 : e.k[0]? = some a) (k0 : KidR V0 d m p N x a) {h : Nat -> Int -> Rs} (hG : ∀ n, G n = (evE d m (evM d m n) x a).bind (h n))
    (hb : ∀ w, (∃ n, evE d m (evM d m n) x a = .ok w) -> w = 0 ∨ w = 1)
    (hw : ∀ w, w = 0 ∨ w = 1 -> (¬ e.op = 21 /\ ((decide (w = 1)) == (decide (e.op = 19))) = false /\ ∀ n, h n w = .ok w) ∨ ∃ (j : Nat) (b : E), e.k[j]? = some b /\ KidR V0 d m p N x b /\ (∀ n, h n w = evE d m (evM d m n) x b) /\ (e.op = 21 -> (w = 1 /\ j = 1) ∨ (w = 0 /\ j = 2)) /\ (¬ e.op = 21 -> ((decide (w = 1)) == (decide (e.op = 19))) = true /\ j = 1)) :
    Tri Tryz.prog 115 #[pv p, e.v, .int .i64 x] V (qBi V0 d m p sn G) := by
  refine Tri.mono (x115 (R := qBi V0 d m p sn G) ?_) fun _ _ h => h
  unfold w115
  obtain ⟨q1, q2, q3, q4⟩ := zeroK (he.rows.sub K.rm.own.sub) h0
  refine ⟨q1, q2, q3, _, _, _, _, q4, Tri.mono (k0 V sn s K hN) ?_⟩
  rintro _ V1 ⟨w, rs, rfl, hout, hres⟩
  refine ⟨w, rfl, ?_⟩
  rcases hres with ⟨a', ext, s1, rfl, rfl, hx, K1⟩ | ⟨c, sn1, s1, rfl, hc, h1, hle⟩
  · have hbw := hb w hout
    have goOn : ∀ {j : Nat} {b : E}, e.k[j]? = some b -> KidR V0 d m p N x b -> (∀ n, h n w = evE d m (evM d m n) x b) ->
        (¬ e.l.p = none /\ (0 : Int) <= (j : Int) /\ (j : Int) < (e.l.n : Int) /\ ∃ v12 v13 v14 v15, V1.rowp e.l.p (((j : Nat) : Int).toNat * 4) 4 = some [uI v12, uI v13, uS v14, uL v15] /\
         TT 74 #[uP (sa p), uA #[uI v12, uI v13, uS v14, uL v15], uI x] V1 fun e V2 => ∃ v16, e = rV (uI v16) /\ qBi V0 d m p sn G (rV (uI v16)) V2) := fun {j b} hj kb hh => by
      obtain ⟨r1, r2, r3, r4⟩ := zeroK (he.rows.sub K1.rm.own.sub) hj
      refine ⟨r1, r2, r3, _, _, _, _, r4, Tri.mono (kb V1 (sn ++ ext) s1 K1 (Nat.le_trans unR_ext hN)) ?_⟩
      intro r V2 H
      obtain ⟨v, rs2, rfl, g⟩ := H
      have hE : (fun n => h n w) = fun n => evE d m (evM d m n) x b := funext hh
      exact ⟨v, rfl, qBi.seq (h := h) hout hx hG (qAr x a) (by rw [hE]; exact qAr x b) (by rw [hE]; exact ⟨v, rs2, rfl, g⟩)⟩
    refine ⟨nn, nn, 0, K1.rm.cell 11 1 (by decide), qAu rfl ?_⟩
    rcases hw w hbw with ⟨g1, g2, g3⟩ | ⟨j, b, g1, g2, g3, g4, g5⟩
    · refine qAD g1 (qAD (by rw [g2]; decide) ?_)
      have hE : (fun n => h n w) = fun _ => .ok w := funext g3
      refine qBi.seq (h := h) hout hx hG (qAr x a) (by rw [hE]; exact qEo _) ?_
      rw [hE]
      exact qBi.ofPure K1 (Out.const _) .ok
    · by_cases h21 : e.op = 21
      · refine qAu h21 ?_
        rcases g4 h21 with ⟨rfl, rfl⟩ | ⟨rfl, rfl⟩
        · exact qAu rfl (goOn g1 g2 g3)
        · exact qAD (by decide) (goOn g1 g2 g3)
      · obtain ⟨g6, rfl⟩ := g5 h21
        exact qAD h21 (qAu g6 (goOn g1 g2 g3))
  · exact ⟨nn, nn, c, h1.cell 11 1 (by decide), qAD hc ⟨0, .bad c, rfl, (Out.bindBad (h := h) hout).congr fun n => (hG n).symm, .inr ⟨c, sn1, s1, rfl, hc, h1, hle⟩⟩⟩
end
section
variable {V0 V V1 V2 V' : Mem} {d : Ds} {m : Mm} {p : Nat} {sn : List qCF} {f x : Int} {s : Sl}
theorem exprRef (N : Nat) (ih : ∀ N', N' < N -> ExprR d m p N') : ExprR d m p N := by
 have hM := measRef N ih
 suffices H : ∀ e : E, ∀ V0, RSt V0 d m p -> ∀ (T t : ByteArray) (x : Int) V sn s, VE e -> E.Ok V0 e -> qAy d (qAk d T) e = (t, 0) -> This d m T x -> RK V0 d m p V sn s -> unR d m sn <= N ->
   Tri Tryz.prog 74 #[pv p, e.v, .int .i64 x] V (qBi V0 d m p sn fun n => evE d m (evM d m n) x e) from fun V0 S e T t x V sn s => H e V0 S T t x V sn s
 intro e
 induction e using E.ind with
 | h e ihk =>
 intro V0 S T t x V sn s hv he ht hT K hN
 obtain ⟨G, hG⟩ : ∃ G : Nat -> Rs, G = fun n => evE d m (evM d m n) x e := ⟨_, rfl⟩
 rw [<- hG]
 have hGn : ∀ n, G n = qIj d m (evM d m n) x e.op e.n e.s (e.k.map (evE d m (evM d m n) x)) := fun n => by rw [hG]; exact qIX _ _ _
 have hty := (qGX ht).1
 have kid : ∀ a ∈ e.k, ∀ V0, RSt V0 d m p -> ∀ V sn s, E.Ok V0 a -> RK V0 d m p V sn s -> unR d m sn <= N -> Tri Tryz.prog 74 #[pv p, a.v, .int .i64 x] V (qBi V0 d m p sn fun n => evE d m (evM d m n) x a) :=
  fun a ha V0 S V sn s hok K hN => ihk a ha V0 S T _ x V sn s (hv.kids a ha) hok (qDx rfl (hty a ha)) hT K hN
 have kid0 : ∀ {i : Nat} {a : E}, e.k[i]? = some a -> KidR V0 d m p N x a := fun ha V sn s K hN => kid _ (List.mem_of_getElem? ha) V0 S V sn s (he.kids _ (List.mem_of_getElem? ha)) K hN
 have val : ∀ {a : E} {u : ByteArray} {w : Int}, a ∈ e.k -> qAy d (qAk d T) a = (u, 0) -> (∃ n, evE d m (evM d m n) x a = .ok w) -> qBk d m u w := fun hm hu ⟨n, hn⟩ => sound S.good hT (hv.kids _ hm) hu hn
 have con : ∀ (r : Rs), Mono fun _ => r := qEo
 have bad : ∀ {c : Int} {V1 : Mem} {sn1 : List qCF} {s1 : Sl}, c ≠ 0 -> RM V0 d m p V1 sn1 c s1 -> sn.length <= sn1.length -> Out d m (BzL sn) G (.bad c) -> qBi V0 d m p sn G (.returned (.int .i64 0)) V1 := fun hc h1 hle ho => ⟨0, .bad _, rfl, ho, .inr ⟨_, _, _, rfl, hc, h1, hle⟩⟩
 have one : ∀ {a : E} {h : Nat -> Int -> Rs}, e.k = [a] -> (∀ n, G n = (evE d m (evM d m n) x a).bind (h n)) -> ∀ {X : Sl -> Mem -> Prop}, (∀ l V1 w ext s1, qAd V1 l 1 ([w].map qAH) -> AllK ext -> RK V0 d m p V1 (sn ++ ext) s1 -> (∃ n, evE d m (evM d m n) x a = .ok w) ->
   (∀ {r V2}, qBi V0 d m p (sn ++ ext) (fun n => h n w) r V2 -> Mono (fun n => h n w) -> qBi V0 d m p sn G r V2) -> X l V1) -> (∀ l V1 c sn1 s1, c ≠ 0 -> RM V0 d m p V1 sn1 c s1 -> qBi V0 d m p sn G (.returned (.int .i64 0)) V1 -> X l V1) -> ∀ l V1, ArgSt V0 d m p sn x e.k e.k.length V1 l -> X l V1 := by
  intro a h hk hG' X hgood hbad l V1 hA
  obtain ⟨vals, hvl, hol, hst⟩ := hA
  rw [hk] at hvl hst
  obtain ⟨w, rfl⟩ : ∃ w, vals = [w] := list1 (by rw [hvl]; rfl)
  rcases hst with ⟨ext, s1, hx, K1, hvv⟩ | ⟨c, sn1, s1, j, q, hc, h1, hle, hq, hqo, hjs⟩
  ·obtain ⟨q, hq, hqo⟩ := hvv 0 w rfl
   cases hq
   exact hgood l V1 w ext s1 (hol.rows (fun _ => rfl) (by decide)) hx K1 hqo fun H mh => qBi.seq (h := h) hqo hx hG' (qAr x a) mh H
  ·have : j = 0 := by have := (List.getElem?_eq_some_iff.1 hq).1; simp at this; omega
   subst this
   cases hq
   exact hbad l V1 c sn1 s1 hc h1 (bad hc h1 hle ((Out.bindBad (h := h) hqo).congr fun n => (hG' n).symm))
 have hkl : ∀ {a : E}, e.k = [a] -> e.k.length <= 1000 := fun h => by rw [h]; simp
 refine Tri.mono (x74 (R := qBi V0 d m p sn G) ?_) fun _ _ h => h
 have two : ∀ {a b : E} {u w' : ByteArray}, (9 <= e.op /\ e.op <= 23 /\ e.op ≠ 18 /\ e.op ≠ 19 /\ e.op ≠ 20 /\ e.op ≠ 21) -> e.k = [a, b] -> qAy d (qAk d T) a = (u, 0) -> qAy d (qAk d T) b = (w', 0) -> w74 (sa p) e.op e.n e.s e.l x V (qBi V0 d m p sn G) := by
  intro a b u w' h hk ha hb
  unfold w74
  have h0 : e.k[0]? = some a := by rw [hk]; rfl
  have h1 : e.k[1]? = some b := by rw [hk]; rfl
  have hG' : ∀ n, G n = (evE d m (evM d m n) x a).bind fun w => (evE d m (evM d m n) x b).bind fun z => qCz e.op w z := fun n => by rw [hGn, qEi h, qBf h0, qBf h1]
  refine ⟨nn, nn, 0, K.rm.cell 11 1 (by decide), qAu rfl (qAD (by omega) (qAD (by omega) (qAD (by omega) (qAD (by omega) (qAD (by omega) (qAD (by omega) (qAD (by omega) ?_)))))))⟩
  refine qCG S he.rows he.kids (by rw [hk]; simp) kid K hN fun l V1 hA => ?_
  obtain ⟨vals, hvl, hol, hst⟩ := hA
  rw [hk] at hvl hst
  obtain ⟨w, z, rfl⟩ : ∃ w z, vals = [w, z] := list2 (by rw [hvl]; rfl)
  have mh : ∀ w, Mono fun n => (evE d m (evM d m n) x b).bind fun z => qCz e.op w z := fun w n n' hn => Rs.le.bind (qAr x b n n' hn) fun _ => .inr rfl
  rcases hst with ⟨ext, s1, hx, K1, hvv⟩ | ⟨c, sn1, s1, j, q, hc, h2, hle, hq, hqo, hjs⟩
  ·obtain ⟨q, hq, hqo⟩ := hvv 0 w rfl
   cases hq
   obtain ⟨q, hq, hqo2⟩ := hvv 1 z rfl
   cases hq
   have hr : qAd V1 l 1 ([w, z].map qAH) := hol.rows (fun _ => rfl) (by decide)
   obtain ⟨p1, p2, p3, p4⟩ := zeroV hr (i := 0) rfl
   obtain ⟨r1, r2, r3, r4⟩ := zeroV hr (i := 1) rfl
   have hva := qDv S.good (val (List.mem_of_getElem? h0) ha hqo)
   have hvb := qDv S.good (val (List.mem_of_getElem? h1) hb hqo2)
   refine ⟨nn, nn, 0, K1.rm.cell 11 1 (by decide), qAu rfl (qAD (by omega) (qAD (by omega) (qAD (by omega) (qAD (by omega) (qAD (by omega) ⟨p1, p2, p3, w, p4, r1, r2, r3, z, r4, Tri.mono (c119 S K1.rm hva hvb) ?_⟩)))))⟩
   rintro _ V2 ⟨v, rfl, hpu⟩
   have o1 : Out d m (BzL sn) (fun n => (evE d m (evM d m n) x b).bind fun z => qCz e.op w z) (qCz e.op w z) := Out.bindOk (qAr x b) (con _) hqo2 (Out.const _)
   have o2 : Out d m (BzL (sn ++ ext)) (fun n => (evE d m (evM d m n) x b).bind fun z => qCz e.op w z) (qCz e.op w z) := o1.imp fun a b ⟨pr, hpr, g⟩ => ⟨pr, List.mem_append_left _ hpr, g⟩
   exact ⟨v, rfl, qBi.seq (h := fun n w => (evE d m (evM d m n) x b).bind fun z => qCz e.op w z) hqo hx hG' (qAr x a) (mh w) (qBi.ofPure K1 o2 ⟨v, rfl, hpu⟩)⟩
  ·refine ⟨nn, nn, c, h2.cell 11 1 (by decide), qAD hc (bad hc h2 hle ?_)⟩
   have hj : j = 0 ∨ j = 1 := by have := (List.getElem?_eq_some_iff.1 hq).1; simp at this; omega
   rcases hj with rfl | rfl
   ·cases hq
    exact (Out.bindBad (h := fun n w => (evE d m (evM d m n) x b).bind fun z => qCz e.op w z) hqo).congr fun n => (hG' n).symm
   ·cases hq
    obtain ⟨q', a', hq', ho'⟩ := hjs 0 (by omega)
    cases hq'
    exact (Out.bindOk (h := fun n w => (evE d m (evM d m n) x b).bind fun z => qCz e.op w z) (qAr x a) (mh a') ho' (Out.bindBad (h := fun _ z => qCz e.op a' z) hqo)).congr fun n => (hG' n).symm
 have lz : ∀ {h : Nat -> Int -> Rs} {a : E}, e.k[0]? = some a -> qAy d (qAk d T) a = (qAt, 0) -> (∀ n, G n = (evE d m (evM d m n) x a).bind (h n)) ->
   (∀ w, w = 0 ∨ w = 1 -> (¬ e.op = 21 /\ ((decide (w = 1)) == (decide (e.op = 19))) = false /\ ∀ n, h n w = .ok w) ∨ ∃ (j : Nat) (b : E), e.k[j]? = some b /\ KidR V0 d m p N x b /\ (∀ n, h n w = evE d m (evM d m n) x b) /\ (e.op = 21 -> (w = 1 /\ j = 1) ∨ (w = 0 /\ j = 2)) /\ (¬ e.op = 21 -> ((decide (w = 1)) == (decide (e.op = 19))) = true /\ j = 1)) ->
   TT 115 #[uP (sa p), uA #[uI e.op, uI e.n, uS e.s, uL e.l], uI x] V fun r V1 => ∃ v7, r = rV (uI v7) /\ qBi V0 d m p sn G (rV (uI v7)) V1 := fun {h a} h0 ha hG' hw =>
  Tri.mono (lazyR S he K hN h0 (kid0 h0) hG' (fun w hw => qBs.1 (val (List.mem_of_getElem? h0) ha hw)) hw) fun r V1 H => by
   obtain ⟨v, rs, rfl, g⟩ := H
   exact ⟨v, rfl, v, rs, rfl, g⟩
 unfold w74
 have pure : ∀ {v : Int}, (∀ n, G n = .ok v) -> qBi V0 d m p sn G (.returned (.int .i64 v)) V := fun {v} h => qBi.ofPure K (rs := .ok v) ⟨0, h 0⟩ .ok
 cases kind (d := d) (sc := qAk d T) rfl hv ht with
 | int h hn =>
  refine ⟨nn, nn, 0, K.rm.cell 11 1 (by decide), qAu rfl ?_⟩
  exact qAu h (pure fun n => (hGn n).trans (comb1 (.inl h)))
 | bool h hn =>
  refine ⟨nn, nn, 0, K.rm.cell 11 1 (by decide), qAu rfl ?_⟩
  repeat refine qAD (h ▸ (by decide)) ?_
  exact qAu h (pure fun n => (hGn n).trans (comb1 (.inr h)))
 | nil h hn =>
  refine ⟨nn, nn, 0, K.rm.cell 11 1 (by decide), qAu rfl ?_⟩
  repeat refine qAD (h ▸ (by decide)) ?_
  refine qAu h ?_
  have hn : e.n = 0 := hn
  rw [hn]
  exact pure fun n => (hGn n).trans (comb3 h)
 | var h hl hne =>
  refine ⟨nn, nn, 0, K.rm.cell 11 1 (by decide), qAu rfl ?_⟩
  repeat refine qAD (h ▸ (by decide)) ?_
  exact qAu h ((c114 S K.rm hT hl hne).call ⟨_, rfl, pure fun n => (hGn n).trans (comb4 h)⟩)
 | @fld _ u a h hk ha hf =>
  refine ⟨nn, nn, 0, K.rm.cell 11 1 (by decide), qAu rfl ?_⟩
  have h0 : e.k[0]? = some a := by rw [hk]; rfl
  repeat refine qAD (h ▸ (by decide)) ?_
  refine qCG S he.rows he.kids (hkl hk) kid K hN (one (h := fun n w => qEs d m w e.s) hk (fun n => by rw [hGn, comb5 h, qBf h0]) (fun l V1 w ext s1 hr hx K1 hw fin => ?_) fun l V1 c sn1 s1 hc h1 H => ⟨nn, nn, c, h1.cell 11 1 (by decide), qAD hc H⟩)
  obtain ⟨p1, p2, p3, p4⟩ := zeroV hr (i := 0) rfl
  refine ⟨nn, nn, 0, K1.rm.cell 11 1 (by decide), qAu rfl (qAu h ⟨p1, p2, p3, w, p4, Tri.mono (c116 S K1.rm hf (val (List.mem_of_getElem? h0) ha hw)) ?_⟩)⟩
  rintro _ V2 ⟨v, rfl, hpu⟩
  exact ⟨v, rfl, fin (qBi.ofPure K1 (Out.const _) ⟨v, rfl, hpu⟩) (con _)⟩
 | @call u a ms i h hk ha hi hms hf =>
  refine ⟨nn, nn, 0, K.rm.cell 11 1 (by decide), qAu rfl ?_⟩
  have h0 : e.k[0]? = some a := by rw [hk]; rfl
  repeat refine qAD (h ▸ (by decide)) ?_
  refine qCG S he.rows he.kids (hkl hk) kid K hN (one (h := fun n w => evM d m n i w) hk (fun n => by rw [hGn, comb7 h, qBf h0, hi]) (fun l V1 w ext s1 hr hx K1 hw fin => ?_) fun l V1 c sn1 s1 hc h1 H => ⟨nn, nn, c, h1.cell 11 1 (by decide), qAD hc H⟩)
  obtain ⟨p1, p2, p3, p4⟩ := zeroV hr (i := 0) rfl
  refine ⟨nn, nn, 0, K1.rm.cell 11 1 (by decide), qAu rfl ?_⟩
  repeat refine qAD (h ▸ (by decide)) ?_
  refine qAu h ⟨nn, nn, _, _, _, _, _, _, _, _, K1.rm.cell 0 8 (by decide), p1, p2, p3, w, p4, (c32 (S.ds.sub K1.rm.own.sub)).call ⟨_, rfl, qBM p4, p1, p2, p3, ?_⟩⟩
  rw [hi]
  refine Tri.mono (hM V0 S i ms w V1 (sn ++ ext) s1 hms (qDh S.good.valid hf (val (List.mem_of_getElem? h0) ha hw)) K1 (Nat.le_trans unR_ext hN)) ?_
  rintro _ V2 ⟨v, rs, rfl, g⟩
  exact ⟨v, rfl, fin ⟨v, rs, rfl, g⟩ (qFi i w)⟩
 | @neg a h hk ha =>
  refine ⟨nn, nn, 0, K.rm.cell 11 1 (by decide), qAu rfl ?_⟩
  have h0 : e.k[0]? = some a := by rw [hk]; rfl
  repeat refine qAD (h ▸ (by decide)) ?_
  refine qCG S he.rows he.kids (hkl hk) kid K hN (one (h := fun n w => big (-w)) hk (fun n => by rw [hGn, comb8 h, qBf h0]) (fun l V1 w ext s1 hr hx K1 hw fin => ?_) fun l V1 c sn1 s1 hc h1 H => ⟨nn, nn, c, h1.cell 11 1 (by decide), qAD hc H⟩)
  obtain ⟨p1, p2, p3, p4⟩ := zeroV hr (i := 0) rfl
  have hval := qBn.1 (val (List.mem_of_getElem? h0) ha hw)
  refine ⟨nn, nn, 0, K1.rm.cell 11 1 (by decide), qAu rfl ?_⟩
  repeat refine qAD (h ▸ (by decide)) ?_
  refine qAu h ⟨p1, p2, p3, w, p4, ⟨by omega, by omega⟩, Tri.mono (c117 S K1.rm) ?_⟩
  rintro _ V2 ⟨v, rfl, hpu⟩
  rw [Int.zero_sub] at hpu
  exact ⟨v, rfl, fin (qBi.ofPure K1 (Out.const _) ⟨v, rfl, hpu⟩) (con _)⟩
 | @not a h hk ha =>
  refine ⟨nn, nn, 0, K.rm.cell 11 1 (by decide), qAu rfl ?_⟩
  have h0 : e.k[0]? = some a := by rw [hk]; rfl
  repeat refine qAD (h ▸ (by decide)) ?_
  refine qCG S he.rows he.kids (hkl hk) kid K hN (one (h := fun n w => .ok (1 - w)) hk (fun n => by rw [hGn, comb18 h, qBf h0]) (fun l V1 w ext s1 hr hx K1 hw fin => ?_) fun l V1 c sn1 s1 hc h1 H => ⟨nn, nn, c, h1.cell 11 1 (by decide), qAD hc H⟩)
  obtain ⟨p1, p2, p3, p4⟩ := zeroV hr (i := 0) rfl
  have hval := qBs.1 (val (List.mem_of_getElem? h0) ha hw)
  refine ⟨nn, nn, 0, K1.rm.cell 11 1 (by decide), qAu rfl ?_⟩
  repeat refine qAD (h ▸ (by decide)) ?_
  exact qAu h ⟨p1, p2, p3, w, p4, ⟨by omega, by omega⟩, fin (qBi.ofPure K1 (Out.const _) .ok) (con _)⟩
 | @log a h hk ha =>
  refine ⟨nn, nn, 0, K.rm.cell 11 1 (by decide), qAu rfl ?_⟩
  have h0 : e.k[0]? = some a := by rw [hk]; rfl
  repeat refine qAD (h ▸ (by decide)) ?_
  refine qCG S he.rows he.kids (hkl hk) kid K hN (one (h := fun n w => .ok (qHz w)) hk (fun n => by rw [hGn, comb24 h, qBf h0]) (fun l V1 w ext s1 hr hx K1 hw fin => ?_) fun l V1 c sn1 s1 hc h1 H => ⟨nn, nn, c, h1.cell 11 1 (by decide), qAD hc H⟩)
  obtain ⟨p1, p2, p3, p4⟩ := zeroV hr (i := 0) rfl
  have hval := qBn.1 (val (List.mem_of_getElem? h0) ha hw)
  refine ⟨nn, nn, 0, K1.rm.cell 11 1 (by decide), qAu rfl ?_⟩
  repeat refine qAD (h ▸ (by decide)) ?_
  exact qAu h ⟨p1, p2, p3, w, p4, (c118 (by omega)).call ⟨_, rfl, fin (qBi.ofPure K1 (Out.const _) .ok) (con _)⟩⟩
 | @and a b h hk ha hb =>
  refine ⟨nn, nn, 0, K.rm.cell 11 1 (by decide), qAu rfl ?_⟩
  have h0 : e.k[0]? = some a := by rw [hk]; rfl
  have h1 : e.k[1]? = some b := by rw [hk]; rfl
  repeat refine qAD (h ▸ (by decide)) ?_
  refine qAu h (lz (h := fun n w => if w = 0 then .ok 0 else evE d m (evM d m n) x b) h0 ha (fun n => by rw [hGn, comb19 h, qBf h0, qBf h1]) fun w hw => ?_)
  rcases hw with rfl | rfl
  ·exact .inl ⟨by omega, by rw [h]; decide, fun n => if_pos rfl⟩
  ·exact .inr ⟨1, b, h1, kid0 h1, fun n => if_neg (by decide), fun k => absurd (h.symm.trans k) (by decide), fun _ => ⟨by rw [h]; decide, rfl⟩⟩
 | @or a b h hk ha hb =>
  refine ⟨nn, nn, 0, K.rm.cell 11 1 (by decide), qAu rfl ?_⟩
  have h0 : e.k[0]? = some a := by rw [hk]; rfl
  have h1 : e.k[1]? = some b := by rw [hk]; rfl
  repeat refine qAD (h ▸ (by decide)) ?_
  refine qAu h (lz (h := fun n w => if w = 0 then evE d m (evM d m n) x b else .ok 1) h0 ha (fun n => by rw [hGn, comb20 h, qBf h0, qBf h1]) fun w hw => ?_)
  rcases hw with rfl | rfl
  ·exact .inr ⟨1, b, h1, kid0 h1, fun n => if_pos rfl, fun k => absurd (h.symm.trans k) (by decide), fun _ => ⟨by rw [h]; decide, rfl⟩⟩
  ·exact .inl ⟨by omega, by rw [h]; decide, fun n => if_neg (by decide)⟩
 | @cond a b c _ u w' h hk ha hb hc hu hw =>
  refine ⟨nn, nn, 0, K.rm.cell 11 1 (by decide), qAu rfl ?_⟩
  have h0 : e.k[0]? = some a := by rw [hk]; rfl
  have h1 : e.k[1]? = some b := by rw [hk]; rfl
  have h2 : e.k[2]? = some c := by rw [hk]; rfl
  repeat refine qAD (h ▸ (by decide)) ?_
  refine qAu h (lz (h := fun n w => if w = 0 then evE d m (evM d m n) x c else evE d m (evM d m n) x b) h0 ha (fun n => by rw [hGn, comb21 h, qBf h0, qBf h1, qBf h2]) fun w hw => ?_)
  rcases hw with rfl | rfl
  ·exact .inr ⟨2, c, h2, kid0 h2, fun n => if_pos rfl, fun _ => .inr ⟨rfl, rfl⟩, fun k => absurd h k⟩
  ·exact .inr ⟨1, b, h1, kid0 h1, fun n => if_neg (by decide), fun _ => .inl ⟨rfl, rfl⟩, fun k => absurd h k⟩
 | eq h hk ha hb => exact two (by omega) hk ha hb
 | cmp h hk ha hb => exact two (by omega) hk ha hb
 | ari h hk ha hb => exact two (by omega) hk ha hb
theorem exprAllR : ∀ N, ExprR d m p N := fun N => Nat.strongRecOn N fun N ih => exprRef N ih
end
section
variable {V0 V V1 V2 V' : Mem} {d : Ds} {m : Mm} {p : Nat} {sn : List qCF} {f x : Int} {s : Sl}
theorem c42 (h : RM V0 d m p V sn f s) {v : Int} : PP 42 [pv p, .int .i64 v] V (.tuple #[.int .i64 (if f = 0 then v else 0), .int .i64 f]) := by
 refine x42 ?_
 unfold w42
 refine ⟨nn, nn, f, h.cell 11 1 (by decide), fun h0 => ?_, fun h0 => ⟨nn, nn, f, h.cell 11 1 (by decide), ?_, nn, nn, ?_⟩⟩
 ·have h0 : f = 0 := h0
  rw [if_pos h0, h0]; exact ⟨rfl, rfl⟩
 ·rw [rowp_add0 V (sa p) 11 1]; exact h.cell 11 1 (by decide)
 ·rw [if_neg (show ¬ f = 0 from h0)]; exact ⟨rfl, rfl⟩
theorem refNew (G : qBF d m) (hd : Ds.Ok V d) (hm : Mm.Ok V m) (hp : V p = none) : RSt V d m p /\ RK V d m p (V.set p (.cells (rrow d m ⟨none, 0, 0⟩ 0).toArray 94 (0, 0))) [] ⟨none, 0, 0⟩ :=
 ⟨⟨G, hd, hm, hp⟩, ⟨Mem.set_same _ _ _, Own.nil (Mem.sub_new hp _) _ _⟩, (fun _ h => by simp at h), by
  unfold unR
  simp only [List.length_nil, Nat.zero_add]
  exact List.length_filter_le _ _⟩
theorem refTail {f : FuncId} {args : Array Value} {g : Nat -> Rs} {Q : Int -> Int -> Mem -> Prop} (H : Tri Tryz.prog f args V1 (qBi V d m p [] g)) (hQ : ∀ rs V3, V.sub V3 -> Out d m (fun _ _ => False) g rs -> Q (valRs rs) (errRs rs) V3) :
  Tri Tryz.prog f args V1 fun e V4 => ∃ v, e = .returned (.int .i64 v) /\ Tri Tryz.prog 42 #[pv p, .int .i64 v] V4 fun e V5 => ∃ v2 v3, e = .returned (.tuple #[.int .i64 v2, .int .i64 v3]) /\ Q v2 v3 V5 := by
 refine Tri.mono H ?_
 rintro _ V4 ⟨v, rs, rfl, ho, hres⟩
 have ho := ho.imp (B' := fun _ _ => False) fun a b ⟨pr, hpr, _⟩ => by simp at hpr
 refine ⟨v, rfl, ?_⟩
 rcases hres with ⟨a, ext, s1, rfl, rfl, -, K1⟩ | ⟨c, sn1, s1, rfl, hc, h1, -⟩
 ·exact (c42 K1.rm).call ⟨_, _, rfl, by rw [if_pos rfl]; exact hQ _ _ K1.rm.own.sub ho⟩
 ·exact (c42 h1).call ⟨_, _, rfl, by rw [if_neg hc]; exact hQ _ _ h1.own.sub ho⟩
end
section
variable {V0 V V1 V2 V' : Mem} {d : Ds} {m : Mm} {p : Nat} {x : Int}
theorem c66 (G : qBF d m) (hd : Ds.Ok V d) (hm : Mm.Ok V m) {e : E} {T t : ByteArray} (hv : VE e) (he : E.Ok V e) (ht : qAy d (qAk d T) e = (t, 0)) (hT : This d m T x) :
  Tri Tryz.prog 66 #[d.v, m.v, e.v, .int .i64 x] V fun r V' => V.sub V' /\ ∃ rs, r = .returned (.tuple #[.int .i64 (valRs rs), .int .i64 (errRs rs)]) /\ Out d m (fun _ _ => False) (fun n => evE d m (evM d m n) x e) rs := by
 refine x66 ?_
 unfold w66
 intro b hb
 obtain ⟨S, K⟩ := refNew G hd hm hb
 exact refTail (exprAllR _ V S e T t x _ [] ⟨none, 0, 0⟩ hv he ht hT K (Nat.le_refl _)) fun rs V3 hs ho => ⟨hs, rs, rfl, ho⟩
end
end Go.Proofs
