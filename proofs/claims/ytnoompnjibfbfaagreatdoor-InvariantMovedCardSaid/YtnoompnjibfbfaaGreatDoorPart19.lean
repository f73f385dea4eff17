/- Part 19 of a proof of a law of this seat: no statement of the seat is proved here. -/
import Derived.Test.YtnoompnjibfbfaaGreatDoorPart18
import Derived.Test.YtnoompnjibfbfaaGreatDoorPart17
set_option linter.unusedVariables false
set_option linter.unusedSimpArgs false
namespace Go.Proofs
open Go Go.Sx
attribute [local irreducible] Go.Sx.Tri
section
variable {V : Mem} {d : Ds} {m : Mm}
def RI (V : Mem) : Ending -> Mem -> Prop := fun e V' => V = V' /\ ∃ r : Int, e = .returned (.int .i64 r) /\ -1 <= r /\ r <= 2000
def RY (V : Mem) : Ending -> Mem -> Prop := fun e V' => V = V' /\ ∃ b : Bool, e = .returned (.bool b)
theorem RI.mk {r : Int} (h : -1 <= r /\ r <= 2000) : RI V (.returned (.int .i64 r)) V := ⟨rfl, r, rfl, h⟩
theorem RY.mk {b : Bool} : RY V (.returned (.bool b)) V := ⟨rfl, b, rfl⟩
theorem leftC : ∀ (k : Nat), k <= 65 -> ∀ (e : E) (n : Int), E.Ok V e -> -1 <= n -> n <= 2000 -> Tri Tryz.prog 108 #[e.v, .int .i64 k, .int .i64 n] V (RI V) := by
 intro k
 induction k with
 | zero =>
  intro _ e n he h1 h2
  refine Tri.mono (x108 (R := RI V) ?_) fun _ _ h => h
  unfold w108
  exact ⟨fun _ => .mk ⟨by omega, by omega⟩, fun _ => ⟨fun _ => .mk ⟨by omega, by omega⟩, fun h => absurd rfl h⟩⟩
 | succ k ih =>
  intro hk e n he h1 h2
  refine Tri.mono (x108 (R := RI V) ?_) fun _ _ h => h
  unfold w108
  refine ⟨fun _ => .mk ⟨by omega, by omega⟩, fun h3 => ⟨fun _ => .mk ⟨by omega, by omega⟩, fun _ => ⟨fun _ => .mk ⟨by omega, by omega⟩, fun _ => ⟨⟨by omega, by omega⟩, ?_⟩⟩⟩⟩
  have h3 : ¬ n <= 0 := h3
  refine qGd (mk := .int .i64) (b0 := n - 1) qFg e.k.length (fun i a V1 => V = V1 /\ -1 <= a /\ a <= 2000) ⟨rfl, by omega, by omega⟩ ?_
  rintro i a V1 J hi ⟨rfl, ha1, ha2⟩ hJ
  refine qEc (fun _ => .mk ⟨ha1, ha2⟩) (fun hlt hn => ?_)
  obtain ⟨x, hxm, hx, -, hil, hp, hz, hrow⟩ := he.rows.get hlt
  refine ⟨hp, hz, hlt, _, _, _, _, hrow, ⟨by omega, by omega⟩, ?_⟩
  rw [show ((k + 1 : Nat) : Int) - 1 = (k : Int) by omega]
  refine Tri.mono (ih (by omega) x a (he.kids x hxm) ha1 ha2) ?_
  rintro _ _ ⟨rfl, r, rfl, h4⟩
  exact ⟨_, rfl, he.rows.succ hlt, hJ hil _ _ ⟨rfl, h4⟩⟩
theorem leftAllC : ∀ (k : Nat), k <= 65 -> ∀ (s : Sl) (xs : List S) (n : Int), qAd V s 5 (xs.map S.row) -> (∀ x ∈ xs, S.Ok V x) -> -1 <= n -> n <= 2000 -> Tri Tryz.prog 107 #[s.v, .int .i64 k, .int .i64 n] V (RI V) := by
 intro k
 induction k with
 | zero =>
  intro _ s xs n hr ho h1 h2
  refine Tri.mono (x107 (R := RI V) ?_) fun _ _ h => h
  unfold w107
  exact ⟨fun _ => .mk ⟨by omega, by omega⟩, fun h => absurd rfl h⟩
 | succ k ih =>
  intro hk s xs n hr ho h1 h2
  refine Tri.mono (x107 (R := RI V) ?_) fun _ _ h => h
  unfold w107
  refine ⟨fun _ => .mk ⟨by omega, by omega⟩, fun _ => ?_⟩
  refine qGc (mk := .int .i64) (mc := .int .i64) 0 n qFg xs.length (fun i a V1 => V = V1 /\ -1 <= a /\ a <= 2000) ⟨rfl, h1, h2⟩ ?_
  rintro i b a V1 J hi ⟨rfl, ha1, ha2⟩ hJ
  refine qEc (fun _ => .mk ⟨ha1, ha2⟩) (fun hlt hn => ?_)
  have hn : 0 <= a := hn
  obtain ⟨x, hxm, hx, -, hil, hp, hz, hrow⟩ := hr.get hlt
  have hxo := ho x hxm
  cases x with
  | mk op sn el es ll ls xl xs' =>
  cases hxo with
  | mk he hes hl hls hxr hxs hop =>
  have hq := qAc (n := i * 5) hp
  have hsucc := hr.succ hlt
  refine ⟨⟨by omega, by omega⟩, hp, hz, hlt, hq, _, _, _, _, _, hrow, fun _ => .mk ⟨by omega, by omega⟩, fun _ => ?_⟩
  refine qGd (mk := .int .i64) (b0 := a - 1) qFg es.length (fun j c V2 => V = V2 /\ -1 <= c /\ c <= 2000) ⟨rfl, by omega, by omega⟩ ?_
  rintro j c V2 J1 hj ⟨rfl, hc1, hc2⟩ hJ1
  have ek : ((k + 1 : Nat) : Int) - 1 = (k : Int) := by omega
  refine ⟨hp, hz, hlt, hq, _, _, _, _, _, hrow, qEc (fun _ => ⟨fun hc => ⟨hp, hz, hlt, hq, _, _, _, _, _, hrow, ⟨by omega, by omega⟩, ?_⟩, fun hc => ⟨fun h => absurd h hc, fun _ => ⟨hsucc, hJ hil _ _ _ ⟨rfl, hc1, hc2⟩⟩⟩⟩) (fun hlt2 hc => ?_)⟩
  ·rw [ek]
   refine Tri.mono (ih (by omega) ll ls c hl hls hc1 hc2) ?_
   rintro _ _ ⟨rfl, r, rfl, h3⟩
   refine ⟨_, rfl, fun hr0 => ⟨hp, hz, hlt, hq, _, _, _, _, _, hrow, ⟨by omega, by omega⟩, Tri.mono (ih (by omega) xl xs' r hxr hxs h3.1 h3.2) ?_⟩, fun _ => ⟨hsucc, hJ hil _ _ _ ⟨rfl, h3⟩⟩⟩
   rintro _ _ ⟨rfl, r2, rfl, h4⟩
   exact ⟨_, rfl, hsucc, hJ hil _ _ _ ⟨rfl, h4⟩⟩
  ·obtain ⟨y, hym, hy, -, hjl, hpy, hzy, hrowy⟩ := he.get hlt2
   refine ⟨hp, hz, hlt, hq, _, _, _, _, _, hrow, hpy, hzy, hlt2, _, _, _, _, hrowy, Tri.mono (leftC 65 (by omega) y c (hes y hym) hc1 hc2) ?_⟩
   rintro _ _ ⟨rfl, r, rfl, h3⟩
   exact ⟨_, rfl, he.succ hlt2, hJ1 hjl _ _ ⟨rfl, h3⟩⟩
theorem wideC {l : Sl} {xs : List Fld} (hr : qAd V l 2 (xs.map Fld.row)) : Tri Tryz.prog 106 #[l.v] V (RY V) := by
 refine Tri.mono (x106 (R := RY V) ?_) fun _ _ h => h
 unfold w106
 refine ⟨fun _ => .mk, fun _ => qAD (mk := .bool) (b0 := false) xs.length (fun i V1 => V = V1) rfl ?_⟩
 rintro i b V1 J hi rfl hJ
 refine ⟨fun hlt => ?_, fun _ => .mk⟩
 obtain ⟨x, hxm, hx, -, hil, hp, hz, hrow⟩ := hr.get hlt
 have hq := qAc (n := i * 2) hp
 exact ⟨hp, hz, hlt, hq, _, _, hrow, fun _ => .mk, fun _ => ⟨hp, hz, hlt, hq, _, _, hrow, fun _ => .mk, fun _ => ⟨hr.succ hlt, hJ hil _ _ rfl⟩⟩⟩
theorem overC (hd : Ds.Ok V d) {n : Int} (h1 : -1 <= n) (h2 : n <= 2000) : Tri Tryz.prog 67 #[d.v, .int .i64 n] V (RY V) := by
 refine Tri.mono (x67 (R := RY V) ?_) fun _ _ h => h
 unfold w67
 refine ⟨fun _ => .mk, fun _ => ⟨fun _ => .mk, fun _ => ⟨fun _ => .mk, fun _ => ⟨fun _ => .mk, fun _ => ⟨fun _ => .mk, fun _ => ⟨fun _ => .mk, fun _ => ⟨fun _ => .mk, fun _ => Tri.mono (wideC hd.globals) ?_⟩⟩⟩⟩⟩⟩⟩
 rintro _ _ ⟨rfl, b, rfl⟩
 refine ⟨_, rfl, fun _ => .mk, fun _ => qAD (mk := .bool) (b0 := false) d.types.length (fun i V1 => V = V1) rfl ?_⟩
 rintro i b V1 J hi rfl hJ
 refine ⟨fun hlt => ?_, fun _ => ?_⟩
 ·obtain ⟨x, hxm, hx, -, hil, hp, hz, hrow⟩ := hd.types.get hlt
  have hq := qAc (n := i * 2) hp
  refine ⟨hp, hz, hlt, hq, _, _, hrow, fun _ => .mk, fun _ => ⟨hp, hz, hlt, hq, _, _, hrow, Tri.mono (wideC (hd.typesOk x hxm).fields) ?_⟩⟩
  rintro _ _ ⟨rfl, b, rfl⟩
  exact ⟨_, rfl, fun _ => .mk, fun _ => ⟨hd.types.succ hlt, hJ hil _ _ rfl⟩⟩
 refine qGc (mk := .bool) (mc := .int .i64) b n qFg d.procs.length (fun i a V1 => V = V1 /\ -1 <= a /\ a <= 2000) ⟨rfl, h1, h2⟩ ?_
 rintro i b a V1 J hi ⟨rfl, ha1, ha2⟩ hJ
 refine qEc (fun _ => ?_) (fun hlt hn => ?_)
 rotate_left
 ·obtain ⟨x, hxm, hx, -, hil, hp, hz, hrow⟩ := hd.procs.get hlt
  have ho := hd.procsOk x hxm
  refine ⟨hp, hz, hlt, _, _, _, _, _, hrow, fun _ => .mk, fun _ => ⟨fun _ => .mk, fun _ => Tri.mono (wideC ho.params) ?_⟩⟩
  rintro _ _ ⟨rfl, b1, rfl⟩
  refine ⟨_, rfl, fun _ => .mk, fun _ => Tri.mono (wideC ho.locals) ?_⟩
  rintro _ _ ⟨rfl, b2, rfl⟩
  refine ⟨_, rfl, fun _ => .mk, fun _ => Tri.mono (leftAllC 65 (by omega) x.bs x.body a ho.body ho.stmts ha1 ha2) ?_⟩
  rintro _ _ ⟨rfl, r, rfl, h3⟩
  exact ⟨_, rfl, hd.procs.succ hlt, hJ hil _ _ _ ⟨rfl, h3⟩⟩
 refine qGc (mk := .bool) (mc := .int .i64) b a qFg d.measures.length (fun i a V1 => V = V1 /\ -1 <= a /\ a <= 2000) ⟨rfl, ha1, ha2⟩ ?_
 clear hJ
 rintro i b a V1 J hi ⟨rfl, ha1, ha2⟩ hJ
 refine qEc (fun _ => ?_) (fun hlt hn => ?_)
 rotate_left
 ·obtain ⟨x, hxm, hx, -, hil, hp, hz, hrow⟩ := hd.measures.get hlt
  have hq := qAc (n := i * 7) hp
  refine ⟨hp, hz, hlt, hq, _, _, _, _, _, _, _, hrow, fun _ => .mk, fun _ => ⟨hp, hz, hlt, hq, _, _, _, _, _, _, _, hrow, fun _ => .mk, fun _ => ⟨hp, hz, hlt, hq, _, _, _, _, _, _, _, hrow, Tri.mono (leftC 65 (by omega) x.x a (hd.measuresOk x hxm).x ha1 ha2) ?_⟩⟩⟩
  rintro _ _ ⟨rfl, r, rfl, h3⟩
  exact ⟨_, rfl, hd.measures.succ hlt, hJ hil _ _ _ ⟨rfl, h3⟩⟩
 refine qGc (mk := .bool) (mc := .int .i64) b a qFg d.invs.length (fun i a V1 => V = V1 /\ -1 <= a /\ a <= 2000) ⟨rfl, ha1, ha2⟩ ?_
 clear hJ
 rintro i b a V1 J hi ⟨rfl, ha1, ha2⟩ hJ
 refine qEc (fun _ => ?_) (fun hlt hn => ?_)
 rotate_left
 ·obtain ⟨x, hxm, hx, -, hil, hp, hz, hrow⟩ := hd.invs.get hlt
  have hq := qAc (n := i * 6) hp
  refine ⟨hp, hz, hlt, hq, _, _, _, _, _, _, hrow, fun _ => .mk, fun _ => ⟨hp, hz, hlt, hq, _, _, _, _, _, _, hrow, fun _ => .mk, fun _ => ⟨hp, hz, hlt, hq, _, _, _, _, _, _, hrow, Tri.mono (leftC 65 (by omega) x.x a (hd.invsOk x hxm) ha1 ha2) ?_⟩⟩⟩
  rintro _ _ ⟨rfl, r, rfl, h3⟩
  exact ⟨_, rfl, hd.invs.succ hlt, hJ hil _ _ _ ⟨rfl, h3⟩⟩
 refine qGc (mk := .bool) (mc := .int .i64) b a qFg d.pots.length (fun i a V1 => V = V1 /\ -1 <= a /\ a <= 2000) ⟨rfl, ha1, ha2⟩ ?_
 clear hJ
 rintro i b a V1 J hi ⟨rfl, ha1, ha2⟩ hJ
 refine qEc (fun _ => ?_) (fun hlt hn => ?_)
 rotate_left
 ·obtain ⟨x, hxm, hx, -, hil, hp, hz, hrow⟩ := hd.pots.get hlt
  have hq := qAc (n := i * 5) hp
  refine ⟨hp, hz, hlt, hq, _, _, _, _, _, hrow, fun _ => .mk, fun _ => ⟨hp, hz, hlt, hq, _, _, _, _, _, hrow, Tri.mono (leftC 65 (by omega) x.x a (hd.potsOk x hxm) ha1 ha2) ?_⟩⟩
  rintro _ _ ⟨rfl, r, rfl, h3⟩
  exact ⟨_, rfl, hd.pots.succ hlt, hJ hil _ _ _ ⟨rfl, h3⟩⟩
 refine qGc (mk := .bool) (mc := .int .i64) b a qFg d.bounds.length (fun i a V1 => V = V1 /\ -1 <= a /\ a <= 2000) ⟨rfl, ha1, ha2⟩ ?_
 clear hJ
 rintro i b a V1 J hi ⟨rfl, ha1, ha2⟩ hJ
 refine qEc (fun _ => .mk) (fun hlt hn => ?_)
 obtain ⟨x, hxm, hx, -, hil, hp, hz, hrow⟩ := hd.bounds.get hlt
 have hq := qAc (n := i * 5) hp
 refine ⟨hp, hz, hlt, hq, _, _, _, _, _, hrow, fun _ => .mk, fun _ => ⟨hp, hz, hlt, hq, _, _, _, _, _, hrow, Tri.mono (leftC 65 (by omega) x.x a (hd.boundsOk x hxm) ha1 ha2) ?_⟩⟩
 rintro _ _ ⟨rfl, r, rfl, h3⟩
 exact ⟨_, rfl, hd.bounds.succ hlt, hJ hil _ _ _ ⟨rfl, h3⟩⟩
theorem greatC (hd : Ds.Ok V d) : Tri Tryz.prog 33 #[d.v] V (RY V) := by
 refine Tri.mono (x33 (R := RY V) ?_) fun _ _ h => h
 unfold w33
 refine Tri.mono (overC hd (n := 2000) (by omega) (by omega)) ?_
 rintro _ _ ⟨rfl, b, rfl⟩
 exact ⟨_, rfl, .mk⟩
theorem manyC (hm : Mm.Ok V m) : Tri Tryz.prog 34 #[m.v] V (RY V) := by
 refine Tri.mono (x34 (R := RY V) ?_) fun _ _ h => h
 unfold w34
 refine ⟨fun _ => .mk, fun _ => ⟨fun _ => .mk, fun _ => qAD (mk := .bool) (b0 := false) m.nodes.length (fun i V1 => V = V1) rfl ?_⟩⟩
 rintro i b V1 J hi rfl hJ
 refine ⟨fun hlt => ?_, fun _ => .mk⟩
 obtain ⟨x, hxm, hx, -, hil, hp, hz, hrow⟩ := hm.nodes.get hlt
 exact ⟨hp, hz, hlt, qAc hp, _, _, hrow, fun _ => .mk, fun _ => ⟨hm.nodes.succ hlt, hJ hil _ _ rfl⟩⟩
theorem largeC (hd : Ds.Ok V d) (hm : Mm.Ok V m) : Tri Tryz.prog 11 #[d.v, m.v] V (RY V) := by
 refine Tri.mono (x11 (R := RY V) ?_) fun _ _ h => h
 unfold w11
 refine Tri.mono (greatC hd) ?_
 rintro _ _ ⟨rfl, b, rfl⟩
 refine ⟨_, rfl, fun _ => .mk, fun _ => Tri.mono (manyC hm) ?_⟩
 rintro _ _ ⟨rfl, b, rfl⟩
 exact ⟨_, rfl, .mk⟩
end
section
variable {V : Mem} {d : Ds} {m : Mm}
def gB (d : Ds) (m : Mm) : Bool := qAG d && wellT d && qAV d m
theorem gB_iff : gB d m = true ↔ qBP d m := by
 unfold gB wellT
 simp only [Bool.and_eq_true, decide_eq_true_eq]
 constructor
 ·rintro ⟨⟨h1, -, h2⟩, h3⟩; exact ⟨h1, chk_zero h2, h3⟩
 ·rintro h; exact ⟨⟨h.valid, h.valid, by rw [h.chk]; rfl⟩, h.mem⟩
theorem c14 (hd : Ds.Ok V d) (hm : Mm.Ok V m) : PP 14 [d.v, m.v] V (.int .i64 (if gB d m = true then 0 else 1)) := by
 refine x14 ?_
 unfold w14
 refine (c44 hd).call ⟨_, rfl, fun h1 => (c45 hd).call ⟨_, rfl, fun h2 => (c46 hd hm).call ⟨_, rfl, fun h3 => ?_, fun h3 => ?_⟩, fun h2 => ?_⟩, fun h1 => ?_⟩
 ·rw [if_pos (by unfold gB; rw [show qAG d = true from h1, show wellT d = true from h2, show qAV d m = true from h3]; rfl)]; exact ⟨rfl, rfl⟩
 ·rw [if_neg (by unfold gB; rw [(Bool.not_eq_true _).mp h3, Bool.and_false]; decide)]; exact ⟨rfl, rfl⟩
 ·rw [if_neg (by unfold gB; rw [(Bool.not_eq_true _).mp h2, Bool.and_false, Bool.false_and]; decide)]; exact ⟨rfl, rfl⟩
 ·rw [if_neg (by unfold gB; rw [(Bool.not_eq_true _).mp h1, Bool.false_and, Bool.false_and]; decide)]; exact ⟨rfl, rfl⟩
end
section
variable {V : Mem} {d : Ds} {m : Mm}
end
end Go.Proofs
namespace Go.Proofs.YtnoompnjibfbfaaGreatDoor
open Go Go.Sx Go.Proofs Go.ChangeShapes Go.WideShapes Go.ChangeAt Go.RowKit
section
variable {H : Type} {enc : TypeId × Value -> H} {w : World}
theorem cl31 : Tryz.prog.cellsOf 31 = 1 := by kernel_rfl
theorem clNd : Tryz.prog.cellsOf 99 = 2 := by kernel_rfl
theorem clNds : Tryz.prog.cellsOf 32 = 1 := by kernel_rfl
theorem clMm : Tryz.prog.cellsOf 34 = 2 := by kernel_rfl
theorem gInts {m : Nat} {v : Value} (h : ∃ y, TR enc w m 31 [v] = some y) : ∃ (s : Sl) (xs : List Int), v = .slice s.p s.n s.c /\ qAd (qBi w) s 1 (xs.map qAL) /\ ∀ x ∈ xs, inI x :=
 gSl (row := qAL) (ok := inI) Tryz.underlying31 cl3 (by decide) (fun _ => rfl) (fun m' _ cs x hx => by
  obtain ⟨n, rfl, hn⟩ := rd_int Tryz.underlying3 hx
  exact ⟨n, rfl, hn⟩) h
theorem rdNd {n : Nat} {cs : List Value} {x : DataW H × List MemPlace} (h : TR enc w n 99 cs = some x) : ∃ f : Nd, Nd.row f = cs /\ Nd.Ok (qBi w) f := by
 obtain ⟨hl, m, -, hs⟩ := qBn Tryz.underlying99 h
 obtain ⟨a, b, rfl⟩ := len2 (hl.trans clNd)
 obtain ⟨t, rfl, ht⟩ := gI (at1 (hs 0 _ rfl) cl3 rfl)
 obtain ⟨l, k, rfl, hr, hk⟩ := gInts (at1 (hs 1 _ rfl) cl31 rfl)
 exact ⟨⟨t, l, k⟩, rfl, ⟨hr, ht, hk⟩⟩
theorem rdMm {n : Nat} {cs : List Value} {x : DataW H × List MemPlace} (h : TR enc w n 34 cs = some x) : ∃ m : Mm, m.row = cs /\ Mm.Ok (qBi w) m := by
 obtain ⟨hl, m, -, hs⟩ := qBn Tryz.underlying34 h
 obtain ⟨a, b, rfl⟩ := len2 (hl.trans clMm)
 obtain ⟨l1, k1, rfl, h1, o1⟩ := gInts (at1 (hs 0 _ rfl) cl31 rfl)
 obtain ⟨l2, k2, rfl, h2, o2⟩ := gSl (row := Nd.row) (ok := Nd.Ok (qBi w)) Tryz.underlying32 clNd (by decide) (fun _ => rfl) (fun _ _ _ _ => rdNd) (at1 (hs 1 _ rfl) clNds rfl)
 exact ⟨⟨l1, k1, l2, k2⟩, rfl, ⟨h1, o1, h2, o2⟩⟩
end
theorem mem_of {H : Type} {enc : TypeId × Value -> H} {W : World} {v : Value} {d0 : DataW H} {p : List MemPlace} (h : DataW.Trod enc Tryz.prog W 0 (fun _ => true) true 34 v d0 p) : ∃ m : Mm, v = m.v /\ Mm.Ok (qBi W) m := by
 obtain ⟨fuel, h⟩ := h
 obtain ⟨m, hm, hok⟩ := rdMm h
 refine ⟨m, ?_, hok⟩
 have hl : v.cells.toList.length = 2 := by rw [<- hm]; rfl
 cases v with
 | agg cs =>
  have : cs.toList = m.row := hm.symm
  show Value.agg cs = .agg m.row.toArray
  rw [<- this]
 | _ => simp [Value.cells] at hl
end Go.Proofs.YtnoompnjibfbfaaGreatDoor
namespace Go.Proofs
open Go Go.Sx
section
variable {d : Ds} {m c : Mm} {O : List Int}
structure Cl (d : Ds) (m : Mm) (a b : Sr) : Prop where
 sub : ∀ x ∈ a.order, x ∈ b.order
 shut : ∀ x ∈ b.order, x ∈ a.order ∨ ∀ y ∈ nodeTgt d m x, y ∈ b.order
 dup : a.order.Nodup -> b.order.Nodup
 rng : (∀ x ∈ a.order, 1 <= x /\ x <= (m.nodes.length : Int)) -> ∀ x ∈ b.order, 1 <= x /\ x <= (m.nodes.length : Int)
 cap : a.order.length + unS m a <= m.nodes.length -> b.order.length + unS m b <= m.nodes.length
theorem Cl.trans {a b e : Sr} (h : Cl d m a b) (k : Cl d m b e) : Cl d m a e := ⟨fun x hx => k.sub x (h.sub x hx), fun x hx => by
 rcases k.shut x hx with hx | hx
 ·rcases h.shut x hx with hx | hx
  ·exact .inl hx
  ·exact .inr fun y hy => k.sub y (hx y hy)
 ·exact .inr hx, fun n => k.dup (h.dup n), fun r => k.rng (h.rng r), fun r => k.cap (h.cap r)⟩
theorem qFy {l : List Fld} {vs : List Int} {y : Int} : y ∈ tgt l vs ↔ ∃ (i : Nat) (f : Fld), l[i]? = some f /\ vs[i]? = some y /\ qAn f.ty = false /\ y ≠ 0 := by
 unfold tgt qDk
 simp only [List.mem_map, List.mem_filter, Bool.and_eq_true, Bool.not_eq_true', decide_eq_true_eq, Prod.exists, exists_eq_right]
 constructor
 ·rintro ⟨f, h, h1, h2⟩
  obtain ⟨i, hi⟩ := List.mem_iff_getElem?.1 h
  rw [List.getElem?_zip_eq_some] at hi
  exact ⟨i, f, hi.1, hi.2, h1, h2⟩
 ·rintro ⟨i, f, h, h1, h2, h3⟩
  exact ⟨f, List.mem_iff_getElem?.2 ⟨i, List.getElem?_zip_eq_some.2 ⟨h, h1⟩⟩, h2, h3⟩
theorem tgt_in (hv : qAV d m = true) : (∀ y ∈ tgt d.globals m.globals, 1 <= y /\ y <= (m.nodes.length : Int)) /\ ∀ n, ∀ y ∈ nodeTgt d m n, 1 <= y /\ y <= (m.nodes.length : Int) := by
 obtain ⟨-, -, -, p4, p5⟩ := qAp hv
 refine ⟨fun y hy => ?_, fun n y hy => ?_⟩
 ·obtain ⟨i, f, h1, h2, h3, h4⟩ := qFy.1 hy
  exact ref_in p4 h1 h2 h3 h4
 ·unfold nodeTgt at hy
  split at hy
  ·rename_i x hx
   obtain ⟨i, f, h1, h2, h3, h4⟩ := qFy.1 hy
   exact ref_in (p5 x (List.mem_of_getElem? hx)) h1 h2 h3 h4
  ·cases hy
theorem qJG {f : Nat} (H : ∀ st n, 1 <= n /\ n <= (m.nodes.length : Int) -> unS m st < f -> Cl d m st (qCw d m f st n) /\ n ∈ (qCw d m f st n).order) :
  ∀ (l : List Int) (s : Sr), (∀ y ∈ l, 1 <= y /\ y <= (m.nodes.length : Int)) -> unS m s < f -> Cl d m s (l.foldl (qCw d m f) s) /\ ∀ y ∈ l, y ∈ (l.foldl (qCw d m f) s).order
 | [], s, _, _ => ⟨⟨fun _ h => h, fun _ h => .inl h, fun h => h, fun h => h, fun h => h⟩, fun _ h => by cases h⟩
 | a :: l, s, hl, hs => by
  obtain ⟨c1, c2⟩ := H s a (hl a List.mem_cons_self) hs
  obtain ⟨e1, e2⟩ := qJG H l (qCw d m f s a) (fun y hy => hl y (List.mem_cons_of_mem _ hy)) (by have := unS_le (m := m) c1.sub; omega)
  refine ⟨c1.trans e1, fun y hy => ?_⟩
  rcases List.mem_cons.1 hy with rfl | hy
  ·exact e1.sub _ c2
  ·exact e2 y hy
theorem ent_cl (hv : qAV d m = true) : ∀ (f : Nat) (st : Sr) (n : Int), 1 <= n /\ n <= (m.nodes.length : Int) -> unS m st < f -> Cl d m st (qCw d m f st n) /\ n ∈ (qCw d m f st n).order
 | 0, _, _, _, h => absurd h (Nat.not_lt_zero _)
 | f + 1, st, n, hn, hf => by
  rw [qCw]
  split
  ·rename_i h; exact ⟨⟨fun _ h => h, fun _ h => .inl h, fun h => h, fun h => h, fun h => h⟩, h⟩
  ·rename_i hno
   have hlt := unS_lt hn hno (a := st.again)
   obtain ⟨c1, c2⟩ := qJG (ent_cl hv f) (nodeTgt d m n) ⟨st.order ++ [n], st.again⟩ (fun y hy => (tgt_in hv).2 n y hy) (by omega)
   have hm : n ∈ (⟨st.order ++ [n], st.again⟩ : Sr).order := by simp
   refine ⟨⟨fun x hx => c1.sub x (List.mem_append_left _ hx), fun x hx => ?_, fun h => c1.dup ?_, fun h => c1.rng fun x hx => ?_, fun h => c1.cap ?_⟩, c1.sub n hm⟩
   ·rcases c1.shut x hx with h | h
    ·rcases List.mem_append.1 h with h | h
     ·exact .inl h
     ·rw [List.mem_singleton.1 h]; exact .inr c2
    ·exact .inr h
   ·show (st.order ++ [n]).Nodup
    rw [List.nodup_append]
    refine ⟨h, by simp, fun a ha b hb e => hno ?_⟩
    rw [<- List.mem_singleton.1 hb, <- e]; exact ha
   ·rcases List.mem_append.1 hx with hx | hx
    ·exact h x hx
    ·rw [List.mem_singleton.1 hx]; exact hn
   ·show (st.order ++ [n]).length + _ <= _
    rw [List.length_append, List.length_singleton]; omega
structure Rch (d : Ds) (m : Mm) (O : List Int) : Prop where
 dup : O.Nodup
 rng : ∀ x ∈ O, 1 <= x /\ x <= (m.nodes.length : Int)
 glob : ∀ y ∈ tgt d.globals m.globals, y ∈ O
 shut : ∀ x ∈ O, ∀ y ∈ nodeTgt d m x, y ∈ O
 cap : O.length <= m.nodes.length
theorem qGA : unS m ⟨[], 0⟩ <= m.nodes.length := by
 unfold unS
 have := List.length_filter_le (fun i : Nat => !decide (((i : Int) + 1) ∈ (⟨[], 0⟩ : Sr).order)) (List.range m.nodes.length)
 rw [List.length_range] at this
 exact this
theorem reach_ok (hv : qAV d m = true) : Rch d m (qAO d m).order := by
 have hu := qGA (m := m)
 obtain ⟨c1, c2⟩ := qJG (ent_cl hv (m.nodes.length + 1)) (tgt d.globals m.globals) ⟨[], 0⟩ (tgt_in hv).1 (by omega)
 refine ⟨c1.dup List.nodup_nil, c1.rng (fun x hx => by cases hx), c2, fun x hx => ?_, ?_⟩
 ·rcases c1.shut x hx with h | h
  ·cases h
  ·exact h
 ·have := c1.cap (by show 0 + _ <= _; omega)
  exact Nat.le_trans (Nat.le_add_right _ _) this
def posI (l : List Int) (x : Int) : Int := qJB (fun y => decide (y = x)) l
def rho (O : List Int) (x : Int) : Int := if x = 0 then 0 else posI O x + 1
def qHm (O : List Int) (l : List Fld) (vs : List Int) : List Int := (l.zip vs).map fun x => if qAn x.1.ty = true then x.2 else rho O x.2
structure IsCan (d : Ds) (m c : Mm) (O : List Int) : Prop where
 globals : c.globals = qHm O d.globals m.globals
 len : c.nodes.length = O.length
 at_ : ∀ (i : Nat) n x, O[i]? = some n -> m.nodes[(n - 1).toNat]? = some x -> ∃ s, c.nodes[i]? = some ⟨x.ty, s, qHm O (qAw d x.ty) x.f⟩
theorem pos_at (h : O.Nodup) {i : Nat} {x : Int} (hx : O[i]? = some x) : posI O x = i := by
 unfold posI
 rcases qAC (fun y => decide (y = x)) O with ⟨-, -, h1⟩ | ⟨j, y, h1, h2, -, h3, h4, -⟩
 ·rw [List.any_eq_false] at h1
  exact absurd (decide_eq_true rfl) (h1 x (List.mem_of_getElem? hx))
 ·have e : y = x := of_decide_eq_true h4
  subst e
  rw [h1, (List.getElem?_inj h3 h).1 (h2.trans hx.symm)]
theorem pos_mem (h : O.Nodup) {x : Int} (hx : x ∈ O) : ∃ i : Nat, O[i]? = some x /\ posI O x = i /\ i < O.length := by
 obtain ⟨i, hi⟩ := List.mem_iff_getElem?.1 hx
 exact ⟨i, hi, pos_at h hi, (List.getElem?_eq_some_iff.1 hi).1⟩
theorem qDR (R : Rch d m O) {x : Int} (hx : x ∈ O) : ∃ i : Nat, O[i]? = some x /\ rho O x = (i : Int) + 1 /\ i < O.length := by
 obtain ⟨i, h1, h2, h3⟩ := pos_mem R.dup hx
 have := R.rng x hx
 exact ⟨i, h1, by unfold rho; rw [if_neg (by omega), h2], h3⟩
theorem qBK : rho O 0 = 0 := by unfold rho; rw [if_pos rfl]
theorem rho_inj (R : Rch d m O) {x y : Int} (hx : x = 0 ∨ x ∈ O) (hy : y = 0 ∨ y ∈ O) (h : rho O x = rho O y) : x = y := by
 rcases hx with rfl | hx
 ·rcases hy with rfl | hy
  ·rfl
  ·obtain ⟨i, -, h2, -⟩ := qDR R hy
   rw [qBK] at h; omega
 ·obtain ⟨i, h1, h2, -⟩ := qDR R hx
  rcases hy with rfl | hy
  ·rw [qBK] at h; omega
  ·obtain ⟨j, k1, k2, -⟩ := qDR R hy
   have : i = j := by omega
   subst this
   rw [h1] at k1; cases k1; rfl
theorem ren_at {l : List Fld} {vs : List Int} {i : Nat} {f : Fld} {v : Int} (hf : l[i]? = some f) (hv : vs[i]? = some v) : (qHm O l vs)[i]? = some (if qAn f.ty = true then v else rho O v) := by
 have hz : (l.zip vs)[i]? = some (f, v) := List.getElem?_zip_eq_some.2 ⟨hf, hv⟩
 unfold qHm
 rw [List.getElem?_map, hz]; rfl
theorem ren_tgt (R : Rch d m O) : ∀ (l : List Fld) (vs : List Int), (∀ y ∈ tgt l vs, y ∈ O) -> tgt l (qHm O l vs) = (tgt l vs).map (rho O)
 | [], vs, _ => rfl
 | f :: l, [], _ => rfl
 | f :: l, v :: vs, h => by
  have e : ∀ w ws, tgt (f :: l) (w :: ws) = (if qDk (f, w) = true then [w] else []) ++ tgt l ws := fun w ws => by
   unfold tgt
   rw [List.zip_cons_cons, List.filter_cons]
   split <;> rfl
  have er : qHm O (f :: l) (v :: vs) = (if qAn f.ty = true then v else rho O v) :: qHm O l vs := rfl
  rw [e] at h
  have ih := ren_tgt R l vs fun y hy => h y (List.mem_append_right _ hy)
  rw [er, e, e, ih, List.map_append]
  congr 1
  unfold qDk at h ⊢
  by_cases hp : qAn f.ty = true
  ·simp [hp]
  ·have hp' : qAn f.ty = false := by simpa using hp
   by_cases h0 : v = 0
   ·subst h0; simp [hp', qBK]
   ·have hm : v ∈ O := h v (List.mem_append_left _ (by simp [hp', h0]))
    obtain ⟨i, -, h2, -⟩ := qDR R hm
    have : rho O v ≠ 0 := by omega
    simp [hp', h0, this]
structure Ren (d : Ds) (m c : Mm) (O : List Int) : Prop where
 good : qBP d m
 rch : Rch d m O
 can : IsCan d m c O
theorem Ren.node (H : Ren d m c O) {x : Int} (hx : x ∈ O) : ∃ (i : Nat) (n : Nd) (s : Sl), O[i]? = some x /\ rho O x = (i : Int) + 1 /\ i < O.length /\ m.nodes[(x - 1).toNat]? = some n /\ n ∈ m.nodes /\ c.nodes[(rho O x - 1).toNat]? = some ⟨n.ty, s, qHm O (qAw d n.ty) n.f⟩ := by
 obtain ⟨i, h1, h2, h3⟩ := qDR H.rch hx
 have hr := H.rch.rng x hx
 have hl : (x - 1).toNat < m.nodes.length := by omega
 obtain ⟨s, hs⟩ := H.can.at_ i x _ h1 (List.getElem?_eq_getElem hl)
 refine ⟨i, _, s, h1, h2, h3, List.getElem?_eq_getElem hl, List.getElem_mem _, ?_⟩
 rw [h2, show ((i : Int) + 1 - 1).toNat = i by omega]; exact hs
theorem Ren.nodeTgt (H : Ren d m c O) {x : Int} (hx : x ∈ O) : nodeTgt d c (rho O x) = (nodeTgt d m x).map (rho O) := by
 obtain ⟨i, n, s, -, -, -, h1, -, h2⟩ := H.node hx
 have hs := H.rch.shut x hx
 unfold Proofs.nodeTgt at hs ⊢
 rw [h1] at hs ⊢
 rw [h2]
 exact ren_tgt H.rch _ _ hs
theorem qJF (H : Ren d m c O) {f f' : Nat} (E : ∀ (st st' : Sr) (n : Int), n ∈ O -> (∀ x ∈ st.order, x ∈ O) -> st'.order = st.order.map (rho O) -> unS m st < f -> unS c st' < f' -> (qCw d c f' st' (rho O n)).order = (qCw d m f st n).order.map (rho O) /\ ∀ x ∈ (qCw d m f st n).order, x ∈ O) :
  ∀ (l : List Int) (st st' : Sr), (∀ y ∈ l, y ∈ O) -> (∀ x ∈ st.order, x ∈ O) -> st'.order = st.order.map (rho O) -> unS m st < f -> unS c st' < f' -> ((l.map (rho O)).foldl (qCw d c f') st').order = (l.foldl (qCw d m f) st).order.map (rho O) /\ ∀ x ∈ (l.foldl (qCw d m f) st).order, x ∈ O
 | [], st, st', _, h2, h3, _, _ => ⟨h3, h2⟩
 | a :: l, st, st', h1, h2, h3, h4, h5 => by
  obtain ⟨e1, e2⟩ := E st st' a (h1 a List.mem_cons_self) h2 h3 h4 h5
  have u1 := unS_le (m := m) (qGN d m f st a)
  have u2 := unS_le (m := c) (qGN d c f' st' (rho O a))
  exact qJF H E l _ _ (fun y hy => h1 y (List.mem_cons_of_mem _ hy)) e2 e1 (by omega) (by omega)
theorem ent_sim (H : Ren d m c O) : ∀ (f f' : Nat) (st st' : Sr) (n : Int), n ∈ O -> (∀ x ∈ st.order, x ∈ O) -> st'.order = st.order.map (rho O) -> unS m st < f -> unS c st' < f' -> (qCw d c f' st' (rho O n)).order = (qCw d m f st n).order.map (rho O) /\ ∀ x ∈ (qCw d m f st n).order, x ∈ O
 | 0, _, _, _, _, _, _, _, h, _ => absurd h (Nat.not_lt_zero _)
 | _ + 1, 0, _, _, _, _, _, _, _, h => absurd h (Nat.not_lt_zero _)
 | f + 1, f' + 1, st, st', n, hn, h2, h3, h4, h5 => by
  rw [qCw, qCw, H.nodeTgt hn]
  by_cases hin : n ∈ st.order
  ·rw [if_pos hin, if_pos (by rw [h3]; exact List.mem_map_of_mem hin)]
   exact ⟨h3, h2⟩
  ·have hno : ¬ rho O n ∈ st'.order := by
    rw [h3, List.mem_map]
    rintro ⟨x, hx, e⟩
    rw [rho_inj H.rch (.inr (h2 x hx)) (.inr hn) e] at hx
    exact hin hx
   rw [if_neg hin, if_neg hno]
   obtain ⟨i, -, e1, e2⟩ := qDR H.rch hn
   have hl := H.can.len
   have l1 := unS_lt (H.rch.rng n hn) hin (a := st.again)
   have l2 := unS_lt (m := c) (n := rho O n) (by omega) hno (a := st'.again)
   refine qJF H (ent_sim H f f') _ _ _ (H.rch.shut n hn) (fun x hx => ?_) ?_ (by omega) (by omega)
   ·rcases List.mem_append.1 hx with hx | hx
    ·exact h2 x hx
    ·rw [List.mem_singleton.1 hx]; exact hn
   ·show st'.order ++ [rho O n] = (st.order ++ [n]).map (rho O)
    rw [h3, List.map_append]; rfl
theorem reach_sim (H : Ren d m c O) (hO : O = (qAO d m).order) : (qAO d c).order = O.map (rho O) := by
 have u1 := qGA (m := m)
 have u2 := qGA (m := c)
 have := (qJF H (ent_sim H (m.nodes.length + 1) (c.nodes.length + 1)) (tgt d.globals m.globals) ⟨[], 0⟩ ⟨[], 0⟩ H.rch.glob (fun _ h => by cases h) rfl (by omega) (by omega)).1
 rw [<- ren_tgt H.rch _ _ H.rch.glob, <- H.can.globals] at this
 rw [hO] at this ⊢
 exact this
theorem qGD {t : ByteArray} (h : t = qAM ∨ t = qAs) : qAn t = true := by
 unfold qAn
 rcases h with rfl | rfl <;> simp
theorem plain_not {t : ByteArray} (h : qAn t = false) : t ≠ qAM /\ t ≠ qAs := by
 unfold qAn at h
 simpa using h
theorem ren_right (H : Ren d m c O) {t : ByteArray} {v : Int} (h : qAI d m t v = true) (hv : qAn t = false -> v = 0 ∨ v ∈ O) : qAI d c t (if qAn t = true then v else rho O v) = true := by
 cases hp : qAn t with
 | true =>
  rw [if_pos rfl]
  unfold qAn at hp
  unfold qAI at h ⊢
  by_cases h1 : t = qAM
  ·rw [if_pos h1] at h ⊢; exact h
  ·rw [if_neg h1] at h ⊢
   have h2 : t = qAs := by simpa [h1] using hp
   rw [if_pos h2] at h ⊢; exact h
 | false =>
  rw [if_neg (by decide)]
  obtain ⟨h1, h2⟩ := plain_not hp
  unfold qAI at h ⊢
  rw [if_neg h1, if_neg h2, decide_eq_true_eq] at h ⊢
  rcases hv hp with rfl | hm
  ·exact .inl qBK
  ·obtain ⟨i, n, s, -, e1, e2, e3, -, e4⟩ := H.node hm
   have hr := H.rch.rng v hm
   rw [e4]
   rw [e3] at h
   have hl := H.can.len
   refine .inr ⟨by omega, by omega, ?_⟩
   rcases h with h | h
   ·omega
   ·exact h.2.2
theorem qIA (H : Ren d m c O) {l : List Fld} {vs : List Int} (h : qAu d m l vs = true) (ht : ∀ y ∈ tgt l vs, y ∈ O) : qAu d c l (qHm O l vs) = true := by
 unfold qAu at h ⊢
 rw [Bool.and_eq_true, decide_eq_true_eq, qCn] at h ⊢
 obtain ⟨h1, h2⟩ := h
 refine ⟨by unfold qHm; rw [List.length_map, List.length_zip]; omega, fun j x hx => ?_⟩
 have hj := (List.getElem?_eq_some_iff.1 hx).1
 have hj' : j < vs.length := by unfold qHm at hj; rw [List.length_map, List.length_zip] at hj; omega
 obtain ⟨v, hv⟩ : ∃ v, vs[j]? = some v := ⟨_, List.getElem?_eq_getElem hj'⟩
 obtain ⟨f, hf⟩ : ∃ f, l[j]? = some f := ⟨_, List.getElem?_eq_getElem (by omega)⟩
 rw [ren_at hf hv] at hx
 have hr := h2 j v hv
 have ety : tyAt l j = f.ty := by unfold tyAt; rw [hf]; rfl
 rw [ety] at hr ⊢
 rw [<- Option.some.inj hx]
 refine ren_right H hr fun hp => ?_
 by_cases h0 : v = 0
 ·exact .inl h0
 ·exact .inr (ht v (qFy.2 ⟨j, f, hf, hv, hp, h0⟩))
theorem ren_tgtN (H : Ren d m c O) {x : Int} (hx : x ∈ O) {n : Nd} (hn : m.nodes[(x - 1).toNat]? = some n) : ∀ y ∈ tgt (qAw d n.ty) n.f, y ∈ O := by
 have := H.rch.shut x hx
 unfold Proofs.nodeTgt at this
 rw [hn] at this
 exact this
theorem ren_good (H : Ren d m c O) : qBP d c := by
 refine ⟨H.good.valid, H.good.chk, ?_⟩
 obtain ⟨p1, p2, p3, p4, p5⟩ := qAp H.good.mem
 have hl := H.can.len
 have hc := H.rch.cap
 have nd : ∀ n ∈ c.nodes, ∃ x ∈ m.nodes, n.ty = x.ty /\ qAu d c (qAw d n.ty) n.f = true := fun n hn => by
  obtain ⟨i, hi⟩ := List.mem_iff_getElem?.1 hn
  have hil := (List.getElem?_eq_some_iff.1 hi).1
  have hx : O[i]? = some (O[i]'(by omega)) := List.getElem?_eq_getElem _
  have hm := List.mem_of_getElem? hx
  have hr := H.rch.rng _ hm
  have hxm := List.getElem?_eq_getElem (l := m.nodes) (i := ((O[i]'(by omega)) - 1).toNat) (by omega)
  obtain ⟨s, hs⟩ := H.can.at_ i _ _ hx hxm
  rw [hi] at hs
  cases hs
  exact ⟨_, List.getElem_mem _, rfl, qIA H (p5 _ (List.getElem_mem _)) (ren_tgtN H hm hxm)⟩
 unfold qAV
 simp only [Bool.and_eq_true, List.all_eq_true, decide_eq_true_eq]
 refine ⟨⟨⟨⟨p1, by omega⟩, fun n hn => ?_⟩, ?_⟩, fun n hn => ?_⟩
 ·obtain ⟨x, hx, e, -⟩ := nd n hn
  have := p3 x hx
  unfold qCR at this ⊢
  rw [e]; exact this
 ·rw [H.can.globals]; exact qIA H p4 H.rch.glob
 ·obtain ⟨x, hx, e, h⟩ := nd n hn
  exact h
end
end Go.Proofs
namespace Go.Proofs
open Go Go.Sx
section
variable {d : Ds} {m c : Mm} {O : List Int}
def roT (O : List Int) (t : ByteArray) (v : Int) : Int := if qAn t = true then v else rho O v
def VO (O : List Int) (t : ByteArray) (v : Int) : Prop := qAn t = false -> v = 0 ∨ v ∈ O
def Rs.map (f : Int -> Int) : Rs -> Rs
 | .ok v => .ok (f v)
 | .bad e => .bad e
theorem qGC {t : ByteArray} (h : qAn t = true) (r : Rs) : r.map (roT O t) = r := by
 cases r with
 | ok v => show Rs.ok (roT O t v) = _; unfold roT; rw [if_pos h]
 | bad e => rfl
theorem pInt : qAn qAM = true := qGD (.inl rfl)
theorem qFG : qAn qAs = true := qGD (.inr rfl)
theorem qDi (hv : qAG d = true) {t : ByteArray} (h : qAK d t = true) : qAn t = false := by
 have hn := qBx hv h
 unfold qAn
 rw [decide_eq_false (qBk hn kwInt), decide_eq_false (qBk hn kwBool)]; rfl
theorem nil_plain : qAn sNil = false := by kernel_rfl
theorem qEj (hv : qAG d = true) {a b : ByteArray} (h : qEG d a b = true) : qAn a = qAn b := by
 unfold qEG at h
 simp only [Bool.or_eq_true, Bool.and_eq_true, decide_eq_true_eq] at h
 rcases h with rfl | ⟨rfl, h⟩
 ·rfl
 ·rw [qDi hv h, nil_plain]
theorem qJr {a b : ByteArray} (h : qAn a = qAn b) : roT O a = roT O b := by
 funext v; unfold roT; rw [h]
theorem VO_same {a b : ByteArray} (h : qAn a = qAn b) {v : Int} (k : VO O a v) : VO O b v := fun hb => k (h.trans hb)
theorem eq_plain (hv : qAG d = true) {sc : Sc} {e : E} {t : ByteArray} (ht : qAz d sc e = (t, 0)) (h : e.op = 14 ∨ e.op = 15) {a b : E} (hk : e.k = [a, b]) : qAn (qAz d sc a).1 = qAn (qAz d sc b).1 := by
 obtain ⟨-, hn⟩ := qGX ht
 unfold qGu at hn
 rw [if_neg (by omega), if_neg (by omega), if_neg (by omega), if_neg (by omega), if_neg (by omega), if_neg (by omega), if_neg (by omega), if_pos h, hk] at hn
 have := (qCS hn).1
 rw [Bool.or_eq_true] at this
 rcases this with h | h
 ·exact qEj hv h
 ·exact (qEj hv h).symm
theorem bind2_map {r q : Rs} {f g : Int -> Int} {op : Int} (h : ∀ a b, r = .ok a -> q = .ok b -> qEq op (f a) (g b) = qEq op a b) : ((r.map f).bind fun p => (q.map g).bind fun s => qEq op p s) = r.bind fun p => q.bind fun s => qEq op p s := by
 cases r with
 | bad e => rfl
 | ok a => cases q with
  | bad e => rfl
  | ok b => exact h a b rfl rfl
theorem ren_var (H : Ren d m c O) {T s t : ByteArray} {x : Int} (hT : This d m T x) (hx : x = 0 ∨ x ∈ O) (ht : qBF (qAk d T).vars s = t) (hne : t ≠ sE) : varV d c (rho O x) s = roT O t (varV d m x s) /\ VO O t (varV d m x s) := by
 rcases var_ok H.good hT ht hne with ⟨h1, -, rfl⟩ | ⟨h1, i, f, v, h2, h3, h4, -, h6, rfl⟩
 ·have : qAn T = false := by
   rcases hT with ⟨rfl, -⟩ | ⟨h, -⟩
   ·exact absurd rfl hne
   ·exact qDi H.good.valid h
  unfold varV
  rw [if_pos h1, if_pos h1]
  exact ⟨by unfold roT; rw [this]; rfl, fun _ => hx⟩
 ·rw [h6]
  unfold varV
  rw [if_neg h1, h2, H.can.globals, Int.toNat_natCast, ren_at h3 h4]
  refine ⟨rfl, fun hp => ?_⟩
  by_cases h0 : v = 0
  ·exact .inl h0
  ·exact .inr (H.rch.glob v (qFy.2 ⟨i, f, h3, h4, hp, h0⟩))
theorem ren_fld (H : Ren d m c O) {u s t : ByteArray} (ht : qCv d u s = (t, 0)) {a : Int} (ha : qAZ d m u a) (hO : VO O u a) : qDJ d c (roT O u a) s = (qDJ d m a s).map (roT O t) /\ ∀ v, qDJ d m a s = .ok v -> VO O t v := by
 have hu : qAn u = false := by
  unfold qCv at ht
  cases hty : tyOf d u with
  | none => rw [hty] at ht; simp at ht
  | some tt => obtain ⟨_, _, _, _, h⟩ := tyOf_idx hty; exact qDi H.good.valid h
 have e : roT O u a = rho O a := by unfold roT; rw [hu]; rfl
 rw [e]
 by_cases h0 : a = 0
 ·subst h0
  rw [qBK]
  have : qDJ d m 0 s = .bad 17 := by unfold qDJ; rw [if_pos rfl]
  have k : qDJ d c 0 s = .bad 17 := by unfold qDJ; rw [if_pos rfl]
  rw [this, k]
  exact ⟨rfl, fun v h => by cases h⟩
 ·have hm : a ∈ O := (hO hu).resolve_left h0
  obtain ⟨n, i, j, tt, f, v, b1, b2, b3, b4, b5, b6, b7, b8, b9, b10, b11, b12, b13⟩ := fld_ok H.good ht ha h0
  obtain ⟨q, n', s', -, e1, e2, e3, -, e4⟩ := H.node hm
  rw [b1] at e3; cases e3
  have hfo : qAw d n.ty = tt.fields := qBz b6 b5
  rw [b12]
  unfold qDJ
  rw [if_neg (by omega), e4]
  simp only
  rw [hfo, b8, Int.toNat_natCast, ren_at b9 b10, b13]
  refine ⟨rfl, fun w hw hp => ?_⟩
  cases hw
  by_cases h0 : v = 0
  ·exact .inl h0
  ·refine .inr (ren_tgtN H hm b1 v (qFy.2 ⟨i, f, ?_, b10, by rw [b13]; exact hp, h0⟩))
   rw [hfo]; exact b9
theorem ren_E (H : Ren d m c O) {F F' : Int -> Int -> Rs} (hS : ∀ (i : Nat) ms x v, d.measures[i]? = some ms -> qAZ d m ms.ty x -> F i x = .ok v -> qAZ d m qAM v)
  (hF : ∀ (i : Nat) ms x, d.measures[i]? = some ms -> qAZ d m ms.ty x -> VO O ms.ty x -> F' i (roT O ms.ty x) = F i x) {T : ByteArray} {x : Int} (hT : This d m T x) (hx : x = 0 ∨ x ∈ O) :
  ∀ (e : E) (t : ByteArray), VE e -> qAz d (qAk d T) e = (t, 0) -> evE d c F' (rho O x) e = (evE d m F x e).map (roT O t) /\ ∀ v, evE d m F x e = .ok v -> VO O t v := by
 intro e
 induction e using E.ind with
 | h e ih =>
 intro t hv ht
 have G := H.good
 have at_ : ∀ {F : Int -> Int -> Rs} {m : Mm} {x : Int} {i : Nat} {a : E}, e.k[i]? = some a -> qDs (e.k.map (evE d m F x)) i = evE d m F x a := fun h => qHE h
 have I : ∀ {i : Nat} {a : E} {u : ByteArray}, e.k[i]? = some a -> qAz d (qAk d T) a = (u, 0) -> evE d c F' (rho O x) a = (evE d m F x a).map (roT O u) /\ ∀ v, evE d m F x a = .ok v -> VO O u v := fun h ha => ih _ (List.mem_of_getElem? h) _ (hv.kids _ (List.mem_of_getElem? h)) ha
 have S : ∀ {i : Nat} {a : E} {u : ByteArray} {w : Int}, e.k[i]? = some a -> qAz d (qAk d T) a = (u, 0) -> evE d m F x a = .ok w -> qAZ d m u w := fun h ha hw => qFz G hS hT _ _ _ (hv.kids _ (List.mem_of_getElem? h)) ha hw
 have P : ∀ {i : Nat} {a : E} {u : ByteArray}, e.k[i]? = some a -> qAz d (qAk d T) a = (u, 0) -> qAn u = true -> evE d c F' (rho O x) a = evE d m F x a := fun h ha hp => by rw [(I h ha).1, qGC hp]
 have pl : ∀ {u : ByteArray}, qAn u = true -> evE d c F' (rho O x) e = evE d m F x e -> evE d c F' (rho O x) e = (evE d m F x e).map (roT O u) /\ ∀ v, evE d m F x e = .ok v -> VO O u v := fun hp h => by
  rw [qGC hp]; exact ⟨h, fun v _ k => by rw [hp] at k; cases k⟩
 cases kind (d := d) (sc := qAk d T) rfl hv ht with
 | int h hn => exact pl pInt (by rw [qAH, qAH, qJO (.inl h), qJO (.inl h)])
 | bool h hn => exact pl qFG (by rw [qAH, qAH, qJO (.inr h), qJO (.inr h)])
 | nil h hn =>
  rw [qAH, qAH, comb3 h, comb3 h]
  refine ⟨?_, fun v hv _ => .inl (by injection hv with h; exact h.symm)⟩
  show Rs.ok 0 = Rs.ok (roT O sNil 0)
  unfold roT; rw [nil_plain, qBK]; rfl
 | var h hl hne =>
  rw [qAH, qAH, comb4 h, comb4 h]
  obtain ⟨h1, h2⟩ := ren_var H hT hx hl hne
  exact ⟨by rw [h1]; rfl, fun v hv => by injection hv with h; rw [<- h]; exact h2⟩
 | @fld _ u a h hk ha hf =>
  have h0 : e.k[0]? = some a := by rw [hk]; rfl
  rw [qAH, qAH, comb5 h, comb5 h, at_ h0, at_ h0, (I h0 ha).1]
  cases hr : evE d m F x a with
  | bad w => exact ⟨rfl, fun v h => by cases h⟩
  | ok w => exact ren_fld H hf (S h0 ha hr) ((I h0 ha).2 w hr)
 | @call u a ms i h hk ha hi hms hf =>
  have h0 : e.k[0]? = some a := by rw [hk]; rfl
  refine pl pInt ?_
  have hp := qEj G.valid hf
  rw [qAH, qAH, comb7 h, comb7 h, at_ h0, at_ h0, (I h0 ha).1, hi]
  cases hr : evE d m F x a with
  | bad w => rfl
  | ok w =>
   show F' i (roT O u w) = F i w
   rw [qJr hp]
   exact hF i ms w hms (qDe G.valid hf (S h0 ha hr)) (VO_same hp ((I h0 ha).2 w hr))
 | @neg a h hk ha =>
  have h0 : e.k[0]? = some a := by rw [hk]; rfl
  exact pl pInt (by rw [qAH, qAH, comb8 h, comb8 h, at_ h0, at_ h0, P h0 ha pInt])
 | @not a h hk ha =>
  have h0 : e.k[0]? = some a := by rw [hk]; rfl
  exact pl qFG (by rw [qAH, qAH, comb18 h, comb18 h, at_ h0, at_ h0, P h0 ha qFG])
 | @log a h hk ha =>
  have h0 : e.k[0]? = some a := by rw [hk]; rfl
  exact pl pInt (by rw [qAH, qAH, comb24 h, comb24 h, at_ h0, at_ h0, P h0 ha pInt])
 | @and a b h hk ha hb =>
  have h0 : e.k[0]? = some a := by rw [hk]; rfl
  have h1 : e.k[1]? = some b := by rw [hk]; rfl
  exact pl qFG (by rw [qAH, qAH, comb19 h, comb19 h, at_ h0, at_ h0, at_ h1, at_ h1, P h0 ha qFG, P h1 hb qFG])
 | @or a b h hk ha hb =>
  have h0 : e.k[0]? = some a := by rw [hk]; rfl
  have h1 : e.k[1]? = some b := by rw [hk]; rfl
  exact pl qFG (by rw [qAH, qAH, comb20 h, comb20 h, at_ h0, at_ h0, at_ h1, at_ h1, P h0 ha qFG, P h1 hb qFG])
 | @cond a b q _ u w h hk ha hb hc hu hw =>
  have h0 : e.k[0]? = some a := by rw [hk]; rfl
  have h1 : e.k[1]? = some b := by rw [hk]; rfl
  have h2 : e.k[2]? = some q := by rw [hk]; rfl
  have same : ∀ {z : ByteArray}, z = t ∨ qEG d z t = true -> qAn z = qAn t := fun h => by
   rcases h with rfl | h
   ·rfl
   ·exact qEj G.valid h
  obtain ⟨b1, b2⟩ := I h1 hb
  obtain ⟨c1, c2⟩ := I h2 hc
  rw [qJr (same hu)] at b1
  rw [qJr (same hw)] at c1
  rw [qAH, qAH, comb21 h, comb21 h, at_ h0, at_ h0, at_ h1, at_ h1, at_ h2, at_ h2, P h0 ha qFG, b1, c1]
  cases hr : evE d m F x a with
  | bad y => exact ⟨rfl, fun v h => by cases h⟩
  | ok y =>
   show (if y = 0 then _ else _) = Rs.map (roT O t) (if y = 0 then _ else _) /\ ∀ v, (if y = 0 then _ else _) = Rs.ok v -> _
   by_cases hy : y = 0
   ·simp only [hy, if_true]; exact ⟨trivial, fun v hv => VO_same (same hw) (c2 v hv)⟩
   ·simp only [hy, if_false]; exact ⟨trivial, fun v hv => VO_same (same hu) (b2 v hv)⟩
 | @eq a b u w h hk ha hb =>
  have h0 : e.k[0]? = some a := by rw [hk]; rfl
  have h1 : e.k[1]? = some b := by rw [hk]; rfl
  have hp := eq_plain G.valid ht h hk
  rw [ha, hb] at hp
  obtain ⟨a1, a2⟩ := I h0 ha
  obtain ⟨b1, b2⟩ := I h1 hb
  refine pl qFG ?_
  rw [qAH, qAH, qCj (by omega), qCj (by omega), at_ h0, at_ h0, at_ h1, at_ h1, a1, b1]
  refine bind2_map fun p q hp1 hq1 => ?_
  have hp2 : qAn u = qAn w := hp
  cases hu : qAn u with
  | true => unfold roT; rw [if_pos hu, if_pos (hp2 ▸ hu)]
  | false =>
   have hw : qAn w = false := hp2.symm.trans hu
   have e1 : roT O u p = rho O p := by unfold roT; rw [hu]; rfl
   have e2 : roT O w q = rho O q := by unfold roT; rw [hw]; rfl
   have hiff : (rho O p = rho O q) = (p = q) := propext ⟨rho_inj H.rch (a2 p hp1 hu) (b2 q hq1 hw), fun h => by rw [h]⟩
   rw [e1, e2]
   rcases h with h | h
   ·rw [h]; show Rs.ok (trI (decide (rho O p = rho O q))) = Rs.ok (trI (decide (p = q))); simp only [hiff]
   ·rw [h]; show Rs.ok (trI (!decide (rho O p = rho O q))) = Rs.ok (trI (!decide (p = q))); simp only [hiff]
 | @cmp a b h hk ha hb =>
  have h0 : e.k[0]? = some a := by rw [hk]; rfl
  have h1 : e.k[1]? = some b := by rw [hk]; rfl
  exact pl qFG (by rw [qAH, qAH, qCj (by omega), qCj (by omega), at_ h0, at_ h0, at_ h1, at_ h1, P h0 ha pInt, P h1 hb pInt])
 | @ari a b h hk ha hb =>
  have h0 : e.k[0]? = some a := by rw [hk]; rfl
  have h1 : e.k[1]? = some b := by rw [hk]; rfl
  exact pl pInt (by rw [qAH, qAH, qCj (by omega), qCj (by omega), at_ h0, at_ h0, at_ h1, at_ h1, P h0 ha pInt, P h1 hb pInt])
theorem ren_zero (R : Rch d m O) {x : Int} (hx : x = 0 ∨ x ∈ O) : rho O x = 0 ↔ x = 0 := ⟨fun h => rho_inj R hx (.inl rfl) (h.trans qBK.symm), fun h => by rw [h, qBK]⟩
theorem ren_M (H : Ren d m c O) : ∀ (n : Nat) (i : Nat) ms x, d.measures[i]? = some ms -> qAZ d m ms.ty x -> VO O ms.ty x -> evM d c n i (roT O ms.ty x) = evM d m n i x
 | n, i, ms, x, hms, hx, hO => by
  have hmem := List.mem_of_getElem? hms
  obtain ⟨c1, c2⟩ := (qCL H.good.chk).1 ms hmem
  have hp := qDi H.good.valid c1
  have hxO := hO hp
  have hz := ren_zero H.rch hxO
  have e : roT O ms.ty x = rho O x := by unfold roT; rw [hp]; rfl
  rw [e]
  match n with
  | 0 =>
   rw [evM, evM]
   by_cases h0 : x = 0
   ·rw [if_pos h0, if_pos (hz.2 h0)]
   ·rw [if_neg h0, if_neg fun h => h0 (hz.1 h)]
  | n + 1 =>
   rw [evM, evM]
   by_cases h0 : x = 0
   ·rw [if_pos h0, if_pos (hz.2 h0)]
   ·rw [if_neg h0, if_neg fun h => h0 (hz.1 h), Int.toNat_natCast, hms]
    have hT : This d m ms.ty x := .inr ⟨c1, h0, by
     unfold qAZ at hx
     rw [if_neg (qBk (qBx H.good.valid c1) qIh)] at hx
     exact hx⟩
    have := (ren_E H (sound_M H.good n) (ren_M H n) hT hxO ms.x qAM (qEZ ((qBj H.good.valid).2.2.1 ms hmem)).2.2 c2).1
    rw [qGC pInt] at this
    exact this
theorem ren_typ (H : Ren d m c O) {x : Int} (hx : x = 0 ∨ x ∈ O) : qId d c (rho O x) = qId d m x := by
 rcases hx with rfl | hx
 ·rw [qBK]; unfold qId; rw [if_pos rfl, if_pos rfl]
 ·obtain ⟨i, n, s, -, e1, e2, e3, -, e4⟩ := H.node hx
  have := H.rch.rng x hx
  unfold qId
  rw [if_neg (show ¬ x = 0 by omega), if_neg (show ¬ rho O x = 0 by omega), e3, e4]; rfl
theorem ren_hold (H : Ren d m c O) {v : Iv} (hv : v ∈ d.invs) {x : Int} (hx : x = 0 ∨ x ∈ O) (hT : This d m v.ty x) : qHF d c v.x (rho O x) = qHF d m v.x x := by
 obtain ⟨-, c2⟩ := (qCL H.good.chk).2 v hv
 have e : ∀ n, evE d c (evM d c n) (rho O x) v.x = evE d m (evM d m n) x v.x := fun n => by
  have := (ren_E H (sound_M H.good n) (ren_M H n) hT hx v.x qAs (ivB_parts ((qBj H.good.valid).2.2.2 v hv)).2.2 c2).1
  rw [qGC qFG] at this
  exact this
 have e' : (∃ n, evE d c (evM d c n) (rho O x) v.x = .ok 1) = ∃ n, evE d m (evM d m n) x v.x = .ok 1 := propext ⟨fun ⟨n, h⟩ => ⟨n, (e n).symm.trans h⟩, fun ⟨n, h⟩ => ⟨n, (e n).trans h⟩⟩
 unfold qHF
 rw [decide_eq_decide, e']
theorem ren_bad (H : Ren d m c O) {v : Iv} (hv : v ∈ d.invs) {x : Int} (hx : x = 0 ∨ x ∈ O) (hr : 0 <= x /\ x <= (m.nodes.length : Int)) : badB d c v (rho O x) = badB d m v x := by
 unfold badB
 rw [ren_typ H hx]
 by_cases h : qId d m x = v.ty
 ·rw [ren_hold H hv hx (nodes_ty H.good hr h)]
 ·rw [decide_eq_false h]; rfl
theorem ren_all (H : Ren d m c O) (hO : O = (qAO d m).order) : allP d c = (allP d m).map fun y => (y.1, rho O y.2) := by
 have one : ∀ v ∈ d.invs, ∀ l : List Int, (∀ x ∈ l, x = 0 ∨ x ∈ O) -> qCB d c v (l.map (rho O)) = (qCB d m v l).map fun y => (y.1, rho O y.2) := fun v hv l hl => by
  unfold qCB
  rw [List.filter_map, List.map_map, List.map_map]
  have : l.filter (badB d c v ∘ rho O) = l.filter (badB d m v) := List.filter_congr fun x hx => by
   refine ren_bad H hv (hl x hx) ?_
   rcases hl x hx with h | h
   ·omega
   ·have := H.rch.rng x h; omega
  rw [this]; rfl
 have fm : ∀ (l : List Iv) (f g : Iv -> List (ByteArray × Int)), (∀ v ∈ l, f v = g v) -> l.flatMap f = l.flatMap g := fun l f g h => by
  induction l with
  | nil => rfl
  | cons a l ih => rw [List.flatMap_cons, List.flatMap_cons, h a List.mem_cons_self, ih fun v hv => h v (List.mem_cons_of_mem _ hv)]
 unfold allP
 rw [List.map_flatMap]
 refine fm _ _ _ fun v hv => ?_
 unfold qBg
 by_cases hE : v.ty = sE
 ·rw [if_pos hE, if_pos hE]
  have := one v hv [0] (by simp)
  rw [<- this, List.map_cons, qBK]; rfl
 ·rw [if_neg hE, if_neg hE, reach_sim H hO, <- hO]
  exact one v hv O fun x hx => .inr hx
theorem ren_mea (H : Ren d m c O) {nm : ByteArray} {x v f v' f' : Int} (hx : x ∈ O) (M : MeaP d m nm x v f) (M' : MeaP d c nm (rho O x) v' f') : v = v' /\ f = f' := by
 have G' := ren_good H
 obtain ⟨i, -, e1, e2⟩ := qDR H.rch hx
 have hr := H.rch.rng x hx
 have hl := H.can.len
 have ht := ren_typ H (.inr hx)
 cases M' with
 | arg k => exact absurd G' k
 | range k k1 => exact absurd ⟨by omega, by omega⟩ k1
 | name k k1 k2 => cases M with
  | arg h => exact absurd H.good h
  | range h h1 => exact absurd ⟨by omega, by omega⟩ h1
  | name => exact ⟨rfl, rfl⟩
  | type h h1 h2 => omega
  | val h h1 h2 => omega
 | type k k1 k2 k3 => cases M with
  | arg h => exact absurd H.good h
  | range h h1 => exact absurd ⟨by omega, by omega⟩ h1
  | name h h1 h2 => omega
  | type => exact ⟨rfl, rfl⟩
  | val h h1 h2 h3 =>
   rcases h3 with h3 | h3
   ·omega
   ·exact absurd (ht.trans h3) k3.2
 | val k k1 k2 k3 rs k4 => cases M with
  | arg h => exact absurd H.good h
  | range h h1 => exact absurd ⟨by omega, by omega⟩ h1
  | name h h1 h2 => omega
  | type h h1 h2 h3 =>
   rcases k3 with k3 | k3
   ·omega
   ·exact absurd (ht.symm.trans k3) h3.2
  | val h h1 h2 h3 rs' h4 =>
   obtain ⟨j, ms, hj, hms, hmem, -⟩ := mIdx_at (d := d) (name := nm) (by omega)
   have hty : tyM d (qFJ d nm) = ms.ty := by unfold tyM; rw [hj, Int.toNat_natCast, hms]; rfl
   have h3 : qId d m x = ms.ty := by
    rcases h3 with h3 | h3
    ·omega
    ·exact h3.trans hty
   obtain ⟨c1, -⟩ := (qCL H.good.chk).1 ms hmem
   have hp := qDi H.good.valid c1
   have hval : qAZ d m ms.ty x := by
    rcases qJj H.good (x := x) (by omega) (by omega) with ⟨-, h⟩ | ⟨-, -, h⟩
    ·omega
    ·unfold qAZ; rw [if_neg (qBk (qBx H.good.valid c1) qIh), <- h3]; exact h
   have e : ∀ n, evM d c n (qFJ d nm) (rho O x) = evM d m n (qFJ d nm) x := fun n => by
    have := ren_M H n j ms x hms hval fun _ => .inr hx
    rw [show roT O ms.ty x = rho O x by unfold roT; rw [hp]; rfl] at this
    rw [hj]; exact this
   have k4' : Out d m (fun _ _ => False) (fun n => evM d m n (qFJ d nm) x) rs := by
    have := k4.congr e
    cases rs with
    | ok a => exact this
    | bad a =>
     rcases this with h | ⟨h, h' | ⟨_, _, h', -⟩⟩
     ·exact .inl h
     ·exact .inr ⟨h, .inl h'⟩
     ·exact h'.elim
   rw [Out.unique (qFa _ x) h4 k4']; exact ⟨rfl, rfl⟩
end
end Go.Proofs
namespace Go.Proofs
open Go Go.Sx
attribute [local irreducible] Go.Sx.Tri
structure Pair where
 k : Int
 x : Int
 v : Int
 kn : Bool
section
variable {V0 V : Mem} {d : Ds} {m : Mm} {p : Nat} {sn : List Pair} {f : Int} {s : Sl}
end
section
variable {V0 V : Mem} {d : Ds} {m : Mm} {p : Nat} {sn : List Pair} {f : Int} {s : Sl}
end
section
variable {V0 V V1 : Mem} {d : Ds} {m : Mm} {p : Nat} {sn : List Pair} {f : Int} {s : Sl}
end
section
variable {V0 V V1 V2 V' : Mem} {d : Ds} {m : Mm} {p : Nat} {sn : List Pair} {f x : Int} {s : Sl}
theorem Own.move {e : TypeId} {sz : Nat} {l : Sl} {vs : List Value} (h : Sx.Own V0 V e sz l vs) (hs : V0.sub V') (hk : ∀ g cur, V g = some (.cells cur e (0, 0)) -> V' g = some (.cells cur e (0, 0))) : Sx.Own V0 V' e sz l vs := ⟨hs, h.len, by
 rcases h.at_ with h1 | ⟨g, cur, h1, h2, h3, h4⟩
 ·exact .inl h1
 ·exact .inr ⟨g, cur, h1, h2, hk g cur h3, h4⟩⟩
end
section
variable {V0 V V1 V2 V' : Mem} {d : Ds} {m : Mm} {p : Nat} {sn : List Pair} {f x : Int} {s : Sl}
end
section
variable {V0 V V1 V2 V' : Mem} {d : Ds} {m : Mm} {p : Nat} {sn : List Pair} {f x : Int} {s : Sl}
end
section
variable {V0 V V1 V2 V' : Mem} {d : Ds} {m : Mm} {p : Nat} {sn : List Pair} {f x : Int} {s : Sl}
end
section
variable {V0 V V1 V2 V' : Mem} {d : Ds} {m : Mm} {p : Nat} {x : Int}
end
section
variable {V0 V V1 V2 V' : Mem} {d : Ds} {m : Mm} {x : Int} {nm : ByteArray}
end
theorem loop3b {V : Mem} {β γ : Type} {mk : β -> Value} {mc : γ -> Value} {B : β -> γ -> Int -> Mem -> (List Value -> Mem -> Prop) -> Prop} {b0 : β} {c0 : γ} (ib : ∀ x y, mk x = mk y -> x = y) (ic : ∀ x y, mc x = mc y -> x = y) (len : Nat) (St : Nat -> β -> γ -> Mem -> Prop) (h0 : St 0 b0 c0 V)
  (step : ∀ (i : Nat) (b : β) (c : γ) V1 J, i <= len -> St i b c V1 -> (i < len -> ∀ b' c' V2, St (i + 1) b' c' V2 -> J [mk b', mc c', .int .i64 ((i : Int) + 1)] V2) -> B b c (i : Int) V1 J) :
  ∃ (I : Nat -> List Value -> Mem -> Prop) (n0 : Nat), I n0 [mk b0, mc c0, .int .i64 0] V /\ ∀ n V1, ∀ b : β, ∀ c : γ, ∀ v : Int, I n [mk b, mc c, .int .i64 v] V1 -> ∀ J : List Value -> Mem -> Prop, (∀ m ys V'', m < n -> I m ys V'' -> J ys V'') -> B b c v V1 J := by
 refine ⟨LI len fun i xs V => ∃ b c, xs = [mk b, mc c, .int .i64 i] /\ St i b c V, len, LI.start ⟨b0, c0, rfl, h0⟩, ?_⟩
 rintro n V1 b c v ⟨i, rfl, hi, b', c', hx, hs⟩ J hJ
 simp only [List.cons.injEq, Value.int.injEq, true_and, and_true] at hx
 obtain ⟨hb, hc, rfl⟩ := hx
 cases ib _ _ hb; cases ic _ _ hc
 exact step i b c V1 J hi hs fun hlt b' c' V2 h2 => LI.next hJ hlt ⟨b', c', rfl, h2⟩
section
variable {V0 V : Mem} {d : Ds} {m : Mm}
theorem c82 {s : Sl} {l : List Int} (h : qAd V s 1 (l.map qAL)) {x : Int} : PP 82 [s.v, .int .i64 x] V (.int .i64 (posI l x)) := by
 refine x82 ?_
 unfold w82
 refine qAD (mk := .int .i64) (b0 := 0) l.length (fun j V1 => V = V1 /\ qAQ (fun y : Int => !decide (y = x)) l j) ⟨rfl, qAQ.zero _ _⟩ ?_
 rintro j b V1 J hj ⟨rfl, ha⟩ hJ
 refine ⟨fun hlt => ?_, fun hge => ?_⟩
 ·obtain ⟨y, hym, hy, -, hjl, hp, hz, hrow⟩ := h.get hlt
  refine ⟨hp, hz, hlt, _, hrow, fun hE => ?_, fun hE => ⟨h.succ hlt, hJ hjl _ _ ⟨rfl, qCG ha hy (decide_eq_false hE)⟩⟩⟩
  have e : posI l x = (j : Int) := by unfold posI; exact qDm ha hy (decide_eq_true hE)
  rw [e]; exact ⟨rfl, rfl⟩
 ·have e : posI l x = -1 := by unfold posI; exact qDY ha (h.done hge).2
  rw [e]; exact ⟨rfl, rfl⟩
theorem pos_neg {l : List Int} {x : Int} : ¬ (0 <= posI l x) ↔ ¬ x ∈ l := by
 unfold posI
 rcases qAC (fun y => decide (y = x)) l with ⟨h1, -, h2⟩ | ⟨i, y, h1, h2, -, h3, h4, -⟩
 ·rw [h1]
  refine ⟨fun _ hx => ?_, fun _ => by decide⟩
  rw [List.any_eq_false] at h2
  exact absurd (decide_eq_true rfl) (h2 x hx)
 ·rw [h1]
  have e : y = x := of_decide_eq_true h4
  exact ⟨fun h => absurd (Int.natCast_nonneg _) h, fun h => absurd (e ▸ List.mem_of_getElem? h2) h⟩
theorem tgtI_in {xs : List Fld} {vs : List Int} (h : qAu d m xs vs = true) {i : Nat} : ∀ y ∈ tgtI xs vs i, 1 <= y /\ y <= (m.nodes.length : Int) := fun y hy => by
 have : y ∈ tgt xs vs := by
  unfold tgtI at hy; unfold tgt
  obtain ⟨a, ha, rfl⟩ := List.mem_map.1 hy
  obtain ⟨h1, h2⟩ := List.mem_filter.1 ha
  exact List.mem_map.2 ⟨a, List.mem_filter.2 ⟨List.mem_of_mem_take h1, h2⟩, rfl⟩
 obtain ⟨j, f, h1, h2, h3, h4⟩ := qFy.1 this
 exact ref_in h h1 h2 h3 h4
def LookRP (V0 : Mem) (st : Sr) : Ending -> Mem -> Prop := fun e V' => ∃ s : Sl, e = .returned (.agg #[s.v, .int .i64 st.again]) /\ Sx.Own V0 V' 3 1 s (st.order.flatMap qAL)
variable (V0 d m) in
def LookRC (N : Nat) : Prop := ∀ (st : Sr) (f : Nat) V (s l q : Sl) (xs : List Fld) (vs : List Int), unS m st <= N -> unS m st < f -> st.order.length + unS m st <= m.nodes.length -> qAd V0 l 2 (xs.map Fld.row) -> qAd V0 q 1 (vs.map qAL) -> qAu d m xs vs = true -> Sx.Own V0 V 3 1 s (st.order.flatMap qAL) ->
 Tri Tryz.prog 47 #[d.v, m.v, .agg #[s.v, .int .i64 st.again], l.v, q.v] V (LookRP V0 (lookP d m f st xs vs))
theorem lookRC (hmv : qAV d m = true) (hd : Ds.Ok V0 d) (hm : Mm.Ok V0 m) (N : Nat) (ih : ∀ N', N' < N -> LookRC V0 d m N') : LookRC V0 d m N := by
 intro st f V s l q xs vs hN hf hcap hl hq hv ho
 refine Tri.mono (x47 (R := LookRP V0 (lookP d m f st xs vs)) ?_) fun _ _ h => h
 unfold w47
 have hlen : xs.length = vs.length := by
  unfold qAu at hv
  rw [Bool.and_eq_true, decide_eq_true_eq] at hv
  exact hv.1
 have m4 := (qAp hmv).2.1
 refine loop3b (mk := fun s : Sl => .slice s.p s.n s.c) (mc := .int .i64) (b0 := s) (c0 := st.again) qDl qFg xs.length (fun i s1 a V1 => a = ((tgtI xs vs i).foldl (qCw d m f) st).again /\ Sx.Own V0 V1 3 1 s1 (((tgtI xs vs i).foldl (qCw d m f) st).order.flatMap qAL)) ⟨rfl, ho⟩ ?_
 rintro i s1 a V1 J hi ⟨rfl, h1⟩ hJ
 obtain ⟨sti, hsti⟩ : ∃ sti, sti = (tgtI xs vs i).foldl (qCw d m f) st := ⟨_, rfl⟩
 rw [<- hsti] at h1 ⊢
 have hu : unS m sti <= unS m st := by rw [hsti]; exact unS_le fun z hz => foldP_sub d m f z _ _ hz
 have hcl : Cl d m st sti := by rw [hsti]; exact (qJG (ent_cl hmv f) (tgtI xs vs i) st (tgtI_in hv) hf).1
 have hcap1 := hcl.cap hcap
 have hl1 := hl.sub h1.sub
 have hq1 := hq.sub h1.sub
 refine ⟨fun hlt => ?_, fun hge => ?_⟩
 ·obtain ⟨x, hxm, hx, -, hil, hp, hz, hrow⟩ := hl1.get hlt
  have n1 := hl1.n_eq
  have n2 := hq1.n_eq
  obtain ⟨y, hym, hy, -, hjl, hpy, hzy, hrowy⟩ := hq1.get (i := i) (by omega)
  have same : qDk (x, y) = false -> J [.slice s1.p s1.n s1.c, .int .i64 sti.again, .int .i64 ((i : Int) + 1)] V1 := fun hr => by
   refine hJ hil s1 sti.again V1 ?_
   rw [qEQ hx hy, hr, if_neg (by decide), List.append_nil, <- hsti]; exact ⟨rfl, h1⟩
  have pl : qAn x.ty = true -> qDk (x, y) = false := fun h => by unfold qDk; rw [show qAn x.ty = true from h]; rfl
  refine ⟨hpy, hzy, by omega, _, hrowy, hp, hz, hlt, qAc hp, _, _, hrow, fun h2 => ⟨hl1.succ hlt, same (pl ?_)⟩, fun h2 => ⟨hp, hz, hlt, qAc hp, _, _, hrow, fun h3 => ⟨hl1.succ hlt, same (pl ?_)⟩, fun h3 => ⟨fun h4 => ⟨hl1.succ hlt, same ?_⟩, fun h4 => ?_⟩⟩⟩
  ·have h2 : x.ty = qAM := h2
   unfold qAn; simp [h2]
  ·have h3 : x.ty = qAs := h3
   unfold qAn; simp [h3]
  ·have h4 : y = 0 := h4
   unfold qDk; rw [h4]; simp
  have hpl : qAn x.ty = false := by
   have h2 : ¬ x.ty = qAM := h2
   have h3 : ¬ x.ty = qAs := h3
   unfold qAn; simp [h2, h3]
  have h4 : ¬ y = 0 := h4
  have hr : qDk (x, y) = true := by unfold qDk; rw [hpl, decide_eq_true h4]; rfl
  have hy1 := ref_in hv hx hy hpl h4
  have next : ∀ (s' : Sl) V2, Sx.Own V0 V2 3 1 s' ((qCw d m f sti y).order.flatMap qAL) -> J [.slice s'.p s'.n s'.c, .int .i64 (qCw d m f sti y).again, .int .i64 ((i : Int) + 1)] V2 := fun s' V2 h => by
   refine hJ hil s' _ V2 ?_
   rw [qEQ hx hy, hr, if_pos rfl, List.foldl_append, List.foldl_cons, List.foldl_nil, <- hsti]
   exact ⟨rfl, h⟩
  obtain ⟨f, rfl⟩ : ∃ f', f = f' + 1 := ⟨f - 1, by omega⟩
  refine (c82 (h1.rows (fun _ => rfl) (by decide))).call ⟨_, rfl, fun h5 => ?_, fun h5 => ?_⟩
  ·have hin : y ∈ sti.order := Classical.not_not.1 fun h => pos_neg.2 h h5
   have e : qCw d m (f + 1) sti y = ⟨sti.order, if sti.again = 0 then y else sti.again⟩ := by unfold qCw; rw [if_pos hin]
   rw [e] at next
   refine ⟨fun h6 => ⟨hl1.succ hlt, ?_⟩, fun h6 => ⟨hl1.succ hlt, ?_⟩⟩
   ·have h6 : sti.again = 0 := h6
    rw [if_pos h6] at next
    exact next s1 V1 h1
   ·have h6 : ¬ sti.again = 0 := h6
    rw [if_neg h6] at next
    exact next s1 V1 h1
  ·have hin : ¬ y ∈ sti.order := pos_neg.1 h5
   have hlt2 := unS_lt (st := sti) hy1 hin (a := sti.again)
   intro tb htb
   refine app31 (s := s1) (u := ⟨some ⟨tb, 0, none⟩, 1, 1⟩) (xs := sti.order) (ys := [y]) rfl rfl (h1.but.new htb (.cells #[.int .i64 y] 3 (0, 0))) (qHs mss) (by simp; omega) fun o2 V2 ho2 => ⟨o2, rfl, ?_⟩
   have ho3 : Sx.Own V0 V2 3 1 o2 ((sti.order ++ [y]).flatMap qAL) := ho2.narrow h1.sub_but
   obtain ⟨k, rfl⟩ : ∃ k : Nat, y = (k : Int) + 1 := ⟨(y - 1).toNat, by omega⟩
   have hmm := hm.sub ho3.sub
   have hdd := hd.sub ho3.sub
   have hnn := hmm.nodes.n_eq
   obtain ⟨z, hzm, hz', -, hl2, hpx, hzx, hrowx⟩ := hmm.nodes.get (i := k) (by omega)
   obtain ⟨c1, c2⟩ := of_decide_eq_true ((qAp hmv).2.2.1 z hzm)
   obtain ⟨j, hj⟩ : ∃ j : Nat, z.ty = (j : Int) := ⟨_, (Int.toNat_of_nonneg c1).symm⟩
   have htn := hdd.types.n_eq
   obtain ⟨t, htm, ht, -, hl3, hpt3, hzt, hrowt⟩ := hdd.types.get (i := j) (by omega)
   have hI : IR ((k : Int)) := ⟨by omega, by have := (hmm.nodes.succ (i := k) (by omega)).2; omega⟩
   have hfo := qBz ht hj
   have hvals := (qAp hmv).2.2.2.2 z hzm
   rw [hfo] at hvals
   rw [show ((k : Int) + 1 - 1) = (k : Int) by omega]
   refine ⟨hI, hpx, hzx, by omega, qAc hpx, _, _, hrowx, ?_⟩
   rw [hj]
   refine ⟨hpt3, hzt, by omega, qAc hpt3, _, _, hrowt, hI, hpx, hzx, by omega, qAc hpx, _, _, hrowx, ?_⟩
   refine Tri.mono (ih (unS m ⟨sti.order ++ [(k : Int) + 1], sti.again⟩) (by omega) ⟨sti.order ++ [(k : Int) + 1], sti.again⟩ f V2 o2 t.fs z.sl t.fields z.f (Nat.le_refl _) (by omega) ?_ (hd.typesOk t htm).fields (hm.nodesOk z hzm).rows hvals ho3) ?_
   ·show (sti.order ++ [(k : Int) + 1]).length + _ <= _
    rw [List.length_append, List.length_singleton]; omega
   rintro _ V5 ⟨s5, rfl, h6⟩
   have e : qCw d m (f + 1) sti ((k : Int) + 1) = lookP d m f ⟨sti.order ++ [(k : Int) + 1], sti.again⟩ t.fields z.f := by
    rw [qCw, if_neg hin]
    unfold nodeTgt lookP
    rw [show ((k : Int) + 1 - 1).toNat = k by omega, hz']
    show (tgt (qAw d z.ty) z.f).foldl _ _ = _
    rw [hfo]
   rw [<- e] at h6 ⊢
   exact ⟨_, _, rfl, hl1.succ hlt, next s5 V5 h6⟩
 ·have hdn := (hl1.done hge).2
  rw [tgtI_all hdn] at hsti
  have e : lookP d m f st xs vs = sti := hsti.symm
  rw [e]
  exact ⟨s1, rfl, h1⟩
theorem c15 (hmv : qAV d m = true) (hd : Ds.Ok V d) (hm : Mm.Ok V m) : Tri Tryz.prog 15 #[d.v, m.v] V (LookRP V (qAO d m)) := by
 refine Tri.mono (x15 (R := LookRP V (qAO d m)) ?_) fun _ _ h => h
 unfold w15
 have hu := qGA (m := m)
 have all : ∀ N, LookRC V d m N := fun N => Nat.strongRecOn N fun N ih => lookRC hmv hd hm N ih
 refine Tri.mono (all m.nodes.length ⟨[], 0⟩ (m.nodes.length + 1) V ⟨none, 0, 0⟩ d.gs m.gs d.globals m.globals hu (by omega) (by show 0 + _ <= _; omega) hd.globals hm.globals (qAp hmv).2.2.2.1 (Own.nil (Mem.sub.refl V) _ _)) ?_
 rintro _ V2 ⟨s, rfl, h⟩
 exact ⟨_, _, rfl, s, rfl, h⟩
end
theorem Own.grow {V0 V V' : Mem} {e : TypeId} {sz : Nat} {s : Sl} {vs : List Value} (h : Sx.Own V0 V e sz s vs) (hs : V.sub V') : Sx.Own V0 V' e sz s vs := Own.move h (h.sub.trans hs) fun _ _ k => hs _ _ k
section
variable {V0 V : Mem} {d : Ds} {m : Mm}
end
section
variable {V : Mem} {d : Ds} {m : Mm}
end
section
variable {V : Mem} {d : Ds} {m : Mm}
theorem renL_len {O : List Int} {xs : List Fld} {vs : List Int} (h : xs.length = vs.length) : (qHm O xs vs).length = xs.length := by
 unfold qHm; rw [List.length_map, List.length_zip]; omega
theorem c48 {l q o : Sl} {xs : List Fld} {vs O : List Int} (hl : qAd V l 2 (xs.map Fld.row)) (hq : qAd V q 1 (vs.map qAL)) (ho : qAd V o 1 (O.map qAL)) (hO : O.length <= 4096) (he : xs.length = vs.length) (hb : xs.length <= 4096) :
  Tri Tryz.prog 48 #[l.v, q.v, o.v] V fun e V' => ∃ s : Sl, e = .returned (.slice s.p s.n s.c) /\ Sx.Own V V' 3 1 s ((qHm O xs vs).flatMap qAL) := by
 refine x48 ?_
 unfold w48
 have hrl := renL_len (O := O) he
 refine qGd (mk := fun s : Sl => .slice s.p s.n s.c) (b0 := ⟨none, 0, 0⟩) qDl xs.length (fun i s V1 => Sx.Own V V1 3 1 s (((qHm O xs vs).take i).flatMap qAL)) (Own.nil (Mem.sub.refl _) _ _) ?_
 rintro i s V1 J hi h1 hJ
 have hl1 := hl.sub h1.sub
 have hq1 := hq.sub h1.sub
 refine ⟨fun hlt => ?_, fun hge => ?_⟩
 ·obtain ⟨x, hxm, hx, -, hil, hp, hz, hrow⟩ := hl1.get hlt
  have n2 := hq1.n_eq
  obtain ⟨y, hym, hy, -, hjl, hpy, hzy, hrowy⟩ := hq1.get (i := i) (by omega)
  have hre := ren_at (O := O) hx hy
  have add : ∀ {w z : Int} {V2 : Mem} {ty : Nat} {a b : Operand} {vals : Operand -> Value}, V1 = V2 -> w = (if qAn x.ty = true then y else rho O y) -> z = w -> ∀ tb, V2 tb = none -> vals a = .slice s.p s.n s.c -> vals b = .slice (sa tb) 1 1 ->
    qAq Tryz.prog (.call { callee := .builtin .append, args := #[a, b], argTypes := #[31, 31] }) ty vals (V2.set tb (.cells #[.int .i64 z] 3 (0, 0))) fun x V3 => ∃ v9 : Sl, x = uL v9 /\ IR ((i : Int) + 1) /\ J [uL v9, uI ((i : Int) + 1)] V3 := fun {w z V2 ty a b vals} e hw hz tb htb ha hb => by
   subst e; subst hz
   refine app31 (s := s) (u := ⟨some ⟨tb, 0, none⟩, 1, 1⟩) (xs := (qHm O xs vs).take i) (ys := [z]) ha hb (h1.but.new htb (.cells #[.int .i64 z] 3 (0, 0))) (qHs mss) (by rw [List.length_take]; simp; omega) fun o2 V3 ho2 => ⟨o2, rfl, hl1.succ hlt, hJ hil _ _ ?_⟩
   rw [List.take_add_one, hre, <- hw]
   exact ho2.narrow h1.sub_but
  have pl : ∀ {c : Bool}, qAn x.ty = c -> (if qAn x.ty = true then y else rho O y) = if c = true then y else rho O y := fun h => by rw [h]
  refine ⟨hpy, hzy, by omega, _, hrowy, hp, hz, hlt, qAc hp, _, _, hrow, fun h2 tb htb => add rfl (by rw [pl (qGD (.inl h2))]; rfl) rfl tb htb rfl rfl, fun h2 => ⟨hp, hz, hlt, qAc hp, _, _, hrow, fun h3 tb htb => add rfl (by rw [pl (qGD (.inr h3))]; rfl) rfl tb htb rfl rfl, fun h3 => ?_⟩⟩
  have hpl : qAn x.ty = false := by
   have h2 : ¬ x.ty = qAM := h2
   have h3 : ¬ x.ty = qAs := h3
   unfold qAn; simp [h2, h3]
  refine ⟨fun h4 tb htb => add rfl ?_ rfl tb htb rfl rfl, fun h4 => ?_⟩
  ·have h4 : y = 0 := h4
   rw [pl hpl, h4]; exact (qBK (O := O)).symm
  ·refine (c82 (ho.sub h1.sub)).call ⟨_, rfl, ?_, fun tb htb => add rfl ?_ rfl tb htb rfl rfl⟩
   ·unfold posI
    rcases qAC (fun z => decide (z = y)) O with ⟨e, -⟩ | ⟨j, _, e, -, -, e2, -⟩
    ·rw [e]; exact ⟨by omega, by omega⟩
    ·rw [e]; exact ⟨by omega, by omega⟩
   ·have h4 : ¬ y = 0 := h4
    rw [pl hpl]; unfold rho; rw [if_neg h4]; rfl
 ·have hd := (hl1.done hge).2
  rw [List.take_of_length_le (by omega)] at h1
  exact ⟨s, rfl, h1⟩
theorem lens_of (h : qAG d = true) : d.globals.length <= 8 /\ ∀ t ∈ d.types, t.fields.length <= 12 := by
 unfold qAG at h
 simp only [Bool.and_eq_true, List.all_eq_true] at h
 obtain ⟨⟨⟨⟨⟨h1, h2⟩, -⟩, hT⟩, -⟩, hF⟩ := h
 have hg := h1.2
 unfold qDB at hg
 rw [Bool.and_eq_true, decide_eq_true_eq] at hg
 refine ⟨by have := hg.1; omega, fun t ht => ?_⟩
 have := hT t ht
 unfold tyB qDB at this
 simp only [Bool.and_eq_true, decide_eq_true_eq] at this
 have := this.2.1
 omega
theorem qIq {l : List Fld} {vs : List Int} (h : qAu d m l vs = true) : l.length = vs.length := by
 unfold qAu at h
 rw [Bool.and_eq_true, decide_eq_true_eq] at h
 exact h.1
structure CanAt (d : Ds) (m : Mm) (V2 V : Mem) (s : Sl) (i : Nat) (nd : List Nd) : Prop where
 len : nd.length = i
 at_ : ∀ (j : Nat) n x, j < i -> (qAO d m).order[j]? = some n -> m.nodes[(n - 1).toNat]? = some x -> ∃ s, nd[j]? = some ⟨x.ty, s, qHm (qAO d m).order (qAw d x.ty) x.f⟩
 mem : ∃ W, V2.sub W /\ Sx.Own W V 99 2 s (nd.flatMap Nd.row) /\ ∀ n ∈ nd, Nd.Ok W n
theorem ren_in {O : List Int} {xs : List Fld} {vs : List Int} (hO : O.length <= 4096) (h : ∀ v ∈ vs, inI v) : ∀ v ∈ qHm O xs vs, inI v := fun v hv => by
 unfold qHm at hv
 obtain ⟨⟨a, b⟩, hab, rfl⟩ := List.mem_map.1 hv
 have hb := h b (List.of_mem_zip hab).2
 show inI (if _ then b else rho O b)
 split
 ·exact hb
 ·unfold rho
  split
  ·exact ⟨by omega, by omega⟩
  ·unfold posI
   rcases qAC (fun z => decide (z = b)) O with ⟨e, -⟩ | ⟨j, _, e, -, -, e2, -⟩
   ·rw [e]; exact ⟨by decide, by decide⟩
   ·rw [e]; exact ⟨by show (-9223372036854775808 : Int) <= (j : Int) + 1; omega, by show (j : Int) + 1 <= (9223372036854775807 : Int); omega⟩
theorem c16 (G : qBP d m) (hd : Ds.Ok V d) (hm : Mm.Ok V m) : Tri Tryz.prog 16 #[d.v, m.v] V fun e V' => V.sub V' /\ ∃ c : Mm, e = .returned (.agg #[c.gs.v, c.ns.v]) /\ Mm.Ok V' c /\ IsCan d m c (qAO d m).order := by
 refine x16 ?_
 unfold w16
 refine Tri.mono (c15 G.mem hd hm) ?_
 rintro _ V1 ⟨o, rfl, ho⟩
 have R := reach_ok G.mem
 obtain ⟨p1, p2, p3, p4, p5⟩ := qAp G.mem
 obtain ⟨l1, l2⟩ := lens_of G.valid
 have hcap := R.cap
 have hoR := ho.rows (fun _ => rfl) (by decide)
 refine ⟨o, _, rfl, Tri.mono (c48 (hd.globals.sub ho.sub) (hm.globals.sub ho.sub) hoR (by omega) (qIq p4) (by omega)) ?_⟩
 rintro _ V2 ⟨gs, rfl, hg⟩
 refine ⟨gs, rfl, ?_⟩
 have hgR := hg.rows (fun _ => rfl) (by decide)
 refine loop3b (mk := fun s : Sl => .slice s.p s.n s.c) (mc := fun s : Sl => .slice s.p s.n s.c) (b0 := gs) (c0 := ⟨none, 0, 0⟩) qDl qDl (qAO d m).order.length (fun i b c V3 => b = gs /\ ∃ nd, CanAt d m V2 V3 c i nd) ⟨rfl, [], rfl, (fun _ _ _ h => by omega), V2, Mem.sub.refl _, Own.nil (Mem.sub.refl _) _ _, (fun _ h => by cases h)⟩ ?_
 rintro i b s V3 J hi ⟨rfl, nd, C⟩ hJ
 obtain ⟨W, hW, hown, hnd⟩ := C.mem
 have s03 : V.sub V3 := ((ho.sub.trans hg.sub).trans hW).trans hown.sub
 have hd3 := hd.sub s03
 have hm3 := hm.sub s03
 have ho3 := hoR.sub ((hg.sub.trans hW).trans hown.sub)
 refine ⟨fun hlt => ?_, fun hge => ?_⟩
 ·obtain ⟨n, hnm, hn, -, hil, hp, hz, hrow⟩ := ho3.get hlt
  have hr := R.rng n hnm
  obtain ⟨k, rfl⟩ : ∃ k : Nat, n = (k : Int) + 1 := ⟨(n - 1).toNat, by omega⟩
  have hnn := hm3.nodes.n_eq
  obtain ⟨z, hzm, hz', -, hl2, hpx, hzx, hrowx⟩ := hm3.nodes.get (i := k) (by omega)
  obtain ⟨c1, c2⟩ := of_decide_eq_true (p3 z hzm)
  obtain ⟨j, hj⟩ : ∃ j : Nat, z.ty = (j : Int) := ⟨_, (Int.toNat_of_nonneg c1).symm⟩
  have htn := hd3.types.n_eq
  obtain ⟨t, htm, ht, -, hl3, hpt3, hzt, hrowt⟩ := hd3.types.get (i := j) (by omega)
  have hI : IR ((k : Int)) := ⟨by omega, by have := (hm3.nodes.succ (i := k) (by omega)).2; omega⟩
  have hfo := qBz ht hj
  have hvals := p5 z hzm
  rw [hfo] at hvals
  refine ⟨hp, hz, hlt, _, hrow, ?_⟩
  rw [show ((k : Int) + 1 - 1) = (k : Int) by omega]
  refine ⟨hI, hpx, hzx, by omega, _, _, hrowx, ?_⟩
  rw [hj]
  refine ⟨hpt3, hzt, by omega, qAc hpt3, _, _, hrowt, Tri.mono (c48 (hd3.typesOk t htm).fields (hm3.nodesOk z hzm).rows ho3 (by omega) (qIq hvals) (by have := l2 t htm; omega)) ?_⟩
  rintro _ V4 ⟨fs, rfl, hf⟩
  refine ⟨fs, rfl, fun tb htb => ?_⟩
  have ho4 := Own.grow hown hf.sub
  have hfR := hf.rows (fun _ => rfl) (by decide)
  obtain ⟨nn, hnn'⟩ : ∃ nn : Nd, nn = ⟨(j : Int), fs, qHm (qAO d m).order t.fields z.f⟩ := ⟨_, rfl⟩
  have hblk : qAd (V4.but s) fs 1 ((qHm (qAO d m).order t.fields z.f).map qAL) := by
   have : Sx.Own (fun _ => none) (V4.but s) 3 1 fs ((qHm (qAO d m).order t.fields z.f).flatMap qAL) := ⟨(fun _ _ h => by cases h), hf.len, by
    rcases hf.at_ with h | ⟨g, cur, a, b, c, dd⟩
    ·exact .inl h
    ·exact .inr ⟨g, cur, a, rfl, Mem.but_at c (hown.apartN b), dd⟩⟩
   exact this.rows (fun _ => rfl) (by decide)
  have hn2 : Nd.Ok (V4.but s) nn := by
   rw [hnn']
   exact ⟨hblk, ⟨by show -9223372036854775808 <= (j : Int); omega, by show (j : Int) <= 9223372036854775807; have := (hd3.types.succ (i := j) (by omega)).2; omega⟩, ren_in (by omega) (hm3.nodesOk z hzm).vals⟩
  have hlen : nd.length <= 4096 := by rw [C.len]; omega
  refine app32 (s := s) (u := ⟨some ⟨tb, 0, none⟩, 1, 1⟩) (xs := nd) (ys := [nn]) rfl rfl (ho4.but.new htb (.cells #[uI (j : Int), uL fs] 99 (0, 0))) (qAd.cells (xs := [nn]) (row := Nd.row) mss (by rw [hnn']; simp [Nd.row, Sl.v]) (fun _ => rfl) rfl (by simp)) (by simp; omega) fun o2 V5 ho2 => ⟨o2, rfl, ho3.succ hlt, hJ hil _ _ _ ⟨rfl, nd ++ [nn], by rw [List.length_append, C.len]; rfl, fun q w x hq hw hx => ?_, V4.but s, hW.trans ho4.sub_but, ho2, fun w hw => ?_⟩⟩
  ·by_cases hqi : q < i
   ·obtain ⟨sl, hs⟩ := C.at_ q w x hqi hw hx
    exact ⟨sl, by rw [List.getElem?_append_left (by rw [C.len]; exact hqi)]; exact hs⟩
   ·have : q = i := by omega
    subst this
    rw [hn] at hw; cases hw
    rw [show ((k : Int) + 1 - 1).toNat = k by omega, hz'] at hx; cases hx
    refine ⟨fs, ?_⟩
    rw [<- C.len, List.getElem?_concat_length, hnn', hfo, hj]
  ·rcases List.mem_append.1 hw with hw | hw
   ·exact (hnd w hw).sub ho4.sub_but
   ·rw [List.mem_singleton.1 hw]; exact hn2
 ·have hdn := (ho3.done hge).2
  have hi' : i = (qAO d m).order.length := by omega
  refine ⟨s03, ⟨b, qHm (qAO d m).order d.globals m.globals, s, nd⟩, rfl, ⟨hgR.sub (hW.trans hown.sub), ren_in (by omega) hm.gIn, hown.rows (fun _ => rfl) (by decide), fun n hn => (hnd n hn).sub hown.sub⟩, rfl, by rw [<- hi']; exact C.len, fun j n x hj hx => C.at_ j n x (by rw [hi']; exact (List.getElem?_eq_some_iff.1 hj).1) hj hx⟩
end
section
variable {V : Mem} {d : Ds} {m : Mm}
theorem all_in {y : ByteArray × Int} (h : y ∈ allP d m) : y.2 = 0 ∨ y.2 ∈ (qAO d m).order := by
 unfold allP at h
 obtain ⟨v, -, h⟩ := List.mem_flatMap.1 h
 unfold qCB at h
 obtain ⟨n, hn, rfl⟩ := List.mem_map.1 h
 have hn := (List.mem_filter.1 hn).1
 unfold qBg at hn
 split at hn
 ·exact .inl (List.mem_singleton.1 hn)
 ·exact .inr hn
theorem c4 [Tab V] (hd : Ds.Ok V d) (hm : Mm.Ok V m) {nm : ByteArray} : PP 4 [d.v, m.v, .string nm] V (.bool true) := by
 refine Pur.mk (x4 ?_)
 unfold w4
 refine c10.call ⟨_, rfl, fun _ => Tri.mono (largeC hd hm) ?_, fun h => absurd rfl h⟩
 rintro _ V2 ⟨hV2, b, rfl⟩
 subst hV2
 have rf := Mem.sub.refl V
 refine ⟨_, rfl, fun _ => ⟨rfl, rf⟩, fun _ => ⟨fun _ => ⟨rfl, rf⟩, fun _ => (c14 hd hm).call ⟨_, rfl, fun hg => ?_, fun _ => ⟨rfl, rf⟩⟩⟩⟩
 have G : qBP d m := gB_iff.1 (by
  have hg : (if gB d m = true then (0 : Int) else 1) = 0 := hg
  by_cases h : gB d m = true
  ·exact h
  ·rw [if_neg h] at hg; cases hg)
 refine Tri.mono (c15 G.mem hd hm) ?_
 rintro _ V4 ⟨o, rfl, ho⟩
 have R := reach_ok G.mem
 have hoR := ho.rows (fun _ => rfl) (by decide)
 refine ⟨o, _, rfl, Tri.mono (c16 G (hd.sub ho.sub) (hm.sub ho.sub)) ?_⟩
 rintro _ V5 ⟨s5, c, rfl, hc, I⟩
 have H : Ren d m c (qAO d m).order := ⟨G, R, I⟩
 have t5 := ho.sub.trans s5
 haveI : Tab V5 := Tab.sub (V := V) inferInstance t5
 refine ⟨c.gs, c.ns, rfl, Tri.mono (c17 (hd.sub t5) (hm.sub t5)) ?_⟩
 rintro _ V6 ⟨s6, ⟨-, a, rfl, ha⟩ | ⟨hG, -⟩⟩
 rotate_left
 ·exact absurd G hG
 haveI : Tab V6 := Tab.sub (V := V5) inferInstance s6
 refine ⟨a, _, rfl, Tri.mono (c17 (hd.sub (t5.trans s6)) (hc.sub s6)) ?_⟩
 rintro _ V7 ⟨s7, ⟨-, b7, rfl, hb⟩ | ⟨hG, -⟩⟩
 rotate_left
 ·exact absurd (ren_good H) hG
 haveI : Tab V7 := Tab.sub (V := V6) inferInstance s7
 have t7 := (t5.trans s6).trans s7
 have hall := ren_all H rfl
 have ha7 := ha.sub s7
 have ho7 := hoR.sub ((s5.trans s6).trans s7)
 have na := ha7.n_eq
 have nb := hb.n_eq
 have no := ho7.n_eq
 have hl : (allP d c).length = (allP d m).length := by rw [hall, List.length_map]
 refine ⟨b7, _, rfl, fun _ => ⟨fun _ => ⟨fun _ => ?_, fun h => absurd (by omega) h⟩, fun h => absurd rfl h⟩, fun h => absurd rfl h⟩
 refine qAD (mk := .bool) (b0 := false) (allP d c).length (fun _ V1 => V7 = V1) rfl ?_
 rintro i bb V8 J hi rfl hJ
 refine ⟨fun hlt => ?_, fun hge => ?_⟩
 ·obtain ⟨y, hym, hy, -, hil, hp, hz, hrow⟩ := hb.get hlt
  obtain ⟨x, hxm, hx, -, hjl, hp2, hz2, hrow2⟩ := ha7.get (i := i) (by omega)
  have e : y = (x.1, rho (qAO d m).order x.2) := by
   rw [hall, List.getElem?_map, hx] at hy
   exact (Option.some.inj hy).symm
  subst e
  have next : IR ((i : Int) + 1) /\ J [uB bb, uI ((i : Int) + 1)] V7 := ⟨hb.succ hlt, hJ hil _ _ rfl⟩
  have hq2 := qAc (n := i * 2) hp2
  rcases all_in hxm with h0 | hmem
  ·have e0 : rho (qAO d m).order x.2 = 0 := by rw [h0]; exact qBK
   rw [e0] at hrow
   exact ⟨hp, hz, hlt, x.1, 0, hrow, fun h => absurd h (by decide), fun _ => ⟨fun h => absurd h (by omega), fun _ => ⟨hp2, hz2, by omega, hq2, _, _, hrow2, fun _ => ⟨fun _ => ⟨hp2, hz2, by omega, hq2, _, _, hrow2, fun _ => ⟨fun h => absurd h (by decide), fun _ => next⟩, fun h => absurd h0 h⟩, fun h => absurd rfl h⟩, fun h => absurd rfl h⟩⟩⟩
  ·obtain ⟨k, k1, k2, k3⟩ := qDR R hmem
   rw [k2] at hrow
   obtain ⟨q, -, hq, -, -, hpo, hzo, hrowo⟩ := ho7.get (i := k) (by omega)
   rw [k1] at hq; cases hq
   refine ⟨hp, hz, hlt, x.1, (k : Int) + 1, hrow, fun h => absurd h (by omega), fun _ => ⟨fun h => absurd h (by omega), fun _ => ⟨hp2, hz2, by omega, hq2, _, _, hrow2, fun _ => ⟨fun h => absurd h (by omega), fun _ => ⟨fun _ => ?_, fun h => absurd (by omega) h⟩⟩, fun h => absurd rfl h⟩⟩⟩
   rw [show ((k : Int) + 1 - 1) = (k : Int) by omega]
   have hcap := R.cap
   have := (qAp G.mem).2.1
   exact ⟨⟨by omega, by omega⟩, hpo, hzo, by omega, _, hrowo, hp2, hz2, by omega, hq2, _, _, hrow2, fun _ => next, fun h => absurd rfl h⟩
 ·refine qAD (mk := .bool) (b0 := bb) (qAO d m).order.length (fun _ V1 => V7 = V1) rfl ?_
  rintro j bb2 V9 J2 hj rfl hJ2
  refine ⟨fun hlt => ?_, fun hge => ⟨rfl, t7⟩⟩
  obtain ⟨n, hnm, hn, -, hil, hp, hz, hrow⟩ := ho7.get hlt
  have hrho : rho (qAO d m).order n = (j : Int) + 1 := by
   have hr := R.rng n hnm
   unfold rho
   rw [if_neg (by omega), pos_at R.dup hn]
  refine ⟨hp, hz, hlt, _, hrow, Tri.mono (c12 (hd.sub t7) (hm.sub t7)) ?_⟩
  rintro _ _ ⟨rfl, v, f, rfl, M⟩
  have hI := ho7.succ hlt
  refine ⟨_, _, rfl, hI, Tri.mono (c12 (hd.sub t7) (hc.sub (s6.trans s7))) ?_⟩
  rintro _ _ ⟨rfl, v', f', rfl, M'⟩
  rw [<- hrho] at M'
  obtain ⟨rfl, rfl⟩ := ren_mea H hnm M M'
  exact ⟨_, _, rfl, fun _ => ⟨fun _ => ⟨hI, hJ2 hil _ _ rfl⟩, fun h => absurd rfl h⟩, fun h => absurd rfl h⟩
end
end Go.Proofs
namespace Go.Proofs.YtnoompnjibfbfaaGreatDoor
open Go
set_option maxRecDepth 100000
theorem qEJ {a b : Bool} (h : a = true) (k : b = true) : (a && b) = true := by rw [h, k]; rfl
theorem imoved_j1 : (Rows.invariantMovedRow.wf (OpenSpec.ofChange Rows.invariantMovedSpec)) = true := by kernel_rfl
theorem imoved_j2 : (laidOutB Tryz.prog) = true := by kernel_rfl
theorem imoved_j3 : (mapsRowed Tryz.prog) = true := by kernel_rfl
theorem imoved_j4 : (Tryz.f4.params.all (Tryz.prog.readableRec ·)) = true := by kernel_rfl
theorem imoved_j5 : (namedTie Tryz.prog Rows.invariantMovedRow.named Rows.invariantMovedSpec.vars) = true := by kernel_rfl
theorem imoved_j6 : ((Rows.invariantMovedRow.stops == [])) = true := by kernel_rfl
theorem imoved_j7 : ((Tryz.prog.stops == [])) = true := by kernel_rfl
theorem imoved_j8 : ((Rows.invariantMovedRow.knobs == [])) = true := by kernel_rfl
theorem imoved_j9 : ((Tryz.prog.stopKnobs == [])) = true := by kernel_rfl
theorem imoved_j10 : ((Rows.invariantMovedRow.inPlace == Tryz.prog.inPlace 4)) = true := by kernel_rfl
theorem imoved_j11 : ((Rows.invariantMovedRow.unfollowed == Tryz.prog.unfollowed 4)) = true := by kernel_rfl
theorem imoved_j12 : ((Rows.invariantMovedRow.recurses == Tryz.prog.recurses 4)) = true := by kernel_rfl
theorem imoved_j13 : ((Rows.invariantMovedRow.named == Tryz.prog.varsNamed 4)) = true := by kernel_rfl
theorem imoved_j14 : ((Rows.invariantMovedRow.maps == (Tryz.f4.params.toList ++ Rows.invariantMovedSpec.plain.varTypes Tryz.prog).any (Tryz.prog.mapsRec ·))) = true := by kernel_rfl
theorem imoved_j15 : ((Rows.invariantMovedRow.ifaces == (Tryz.f4.params.toList ++ Rows.invariantMovedSpec.plain.varTypes Tryz.prog).any (Tryz.prog.ifacesRec ·))) = true := by kernel_rfl
theorem imoved_j16 : ((Rows.invariantMovedRow.mapsOut == Tryz.prog.mapsAmong Tryz.f4.resultTypes.toList)) = true := by kernel_rfl
theorem imoved_j17 : ((Rows.invariantMovedRow.loops == (Tryz.f4.params.toList ++ Rows.invariantMovedSpec.plain.varTypes Tryz.prog).any (Tryz.prog.loopsFrom ·))) = true := by kernel_rfl
theorem imoved_j18 : ((Rows.invariantMovedRow.wideKeys == (Tryz.f4.params.toList ++ Rows.invariantMovedSpec.plain.varTypes Tryz.prog ++ Tryz.f4.resultTypes.toList).any (Tryz.prog.wideKeysFrom ·))) = true := by kernel_rfl
theorem imoved_j19 : (Rows.invariantMovedSpec.vars.all (Tryz.prog.varReadable ·)) = true := by kernel_rfl
theorem imoved_j20 : (Tryz.f4.resultTypes.all (fun t => Tryz.prog.readableRec t && decide (t < Tryz.prog.types.size))) = true := by kernel_rfl
theorem imoved_j21 : ((Rows.invariantMovedRow.ifacesOut == Tryz.f4.resultTypes.toList.any (Tryz.prog.ifacesRec ·))) = true := by kernel_rfl
theorem imoved_j22 : ((Rows.invariantMovedRow.loopsOut == Tryz.f4.resultTypes.toList.any (Tryz.prog.loopsFrom ·))) = true := by kernel_rfl
theorem imoved_j23 : ((Rows.invariantMovedRow.plainKeys == Tryz.prog.plainKeys)) = true := by kernel_rfl
theorem imoved_j24 : (Rows.invariantMovedRow.shortTexts.isNone) = true := by kernel_rfl
theorem imoved_j25 : (Tryz.prog.stopsHeard) = true := by kernel_rfl
theorem imoved_j26 : (Tryz.prog.mayEnter) = true := by kernel_rfl
theorem imoved_j27 : ((Rows.invariantMovedRow.lifted == Tryz.prog.liftsFinal)) = true := by kernel_rfl
theorem imoved_j28 : ((Tryz.prog.make == some Rows.invariantMovedRow.make)) = true := by kernel_rfl
theorem imoved_j29 : ((Rows.invariantMovedRow.kinds == (if Rows.invariantMovedRow.domain.isEmpty then [] else Tryz.f4.params.toList.map fun t => match Tryz.prog.underlying t with | some (.int k) => some k | _ => none))) = true := by kernel_rfl
theorem imoved_j30 : ((Rows.invariantMovedRow.pinned == Rows.invariantMovedRow.pinnedBy)) = true := by kernel_rfl
theorem imoved_j31 : ((Rows.invariantMovedRow.veiled == (Tryz.f4.params.toList ++ Rows.invariantMovedSpec.plain.varTypes Tryz.prog ++ Tryz.f4.resultTypes.toList).any (Tryz.prog.veiledRec ·))) = true := by kernel_rfl
theorem imoved_j32 : (Rows.invariantMovedRow.veiledFits Tryz.prog Tryz.f4.params.toList (Tryz.f4.params.toList ++ Rows.invariantMovedSpec.plain.varTypes Tryz.prog ++ Tryz.f4.resultTypes.toList)) = true := by kernel_rfl
theorem imoved_facts : joinedFacts Tryz.prog 4 Tryz.f4 Rows.invariantMovedSpec Rows.invariantMovedRow = true := (qEJ (qEJ (qEJ (qEJ (qEJ (qEJ (qEJ (qEJ (qEJ (qEJ (qEJ (qEJ (qEJ (qEJ (qEJ (qEJ (qEJ (qEJ (qEJ (qEJ (qEJ (qEJ (qEJ (qEJ (qEJ (qEJ (qEJ (qEJ (qEJ (qEJ (qEJ imoved_j1 imoved_j2) imoved_j3) imoved_j4) imoved_j5) imoved_j6) imoved_j7) imoved_j8) imoved_j9) imoved_j10) imoved_j11) imoved_j12) imoved_j13) imoved_j14) imoved_j15) imoved_j16) imoved_j17) imoved_j18) imoved_j19) imoved_j20) imoved_j21) imoved_j22) imoved_j23) imoved_j24) imoved_j25) imoved_j26) imoved_j27) imoved_j28) imoved_j29) imoved_j30) imoved_j31) imoved_j32)
end Go.Proofs.YtnoompnjibfbfaaGreatDoor
