/- Part 13 of a proof of a law of this seat: no statement of the seat is proved here. -/
import Derived.Test.YtnoompnjibfbfaaGreatDoorPart12
import Derived.Test.YtnoompnjibfbfaaGreatDoorPart04
import Derived.OrdersIn
import Derived.OwnWalkIn
import Derived.RangeFuncRecord
set_option linter.unusedVariables false
set_option linter.unusedSimpArgs false
namespace Go.Proofs
open Go Go.Sx
attribute [local irreducible] Go.Sx.Tri
def intRow (n : Int) : List Value := [.int .i64 n]
def inI (n : Int) : Prop := -9223372036854775808 <= n /\ n <= 9223372036854775807
structure Nd where
 ty : Int
 sl : Sl
 f : List Int
def Nd.row (n : Nd) : List Value := [.int .i64 n.ty, n.sl.v]
def Nd.v (n : Nd) : Value := .agg n.row.toArray
structure Nd.Ok (V : Mem) (n : Nd) : Prop where
 rows : RowsAt V n.sl 1 (n.f.map intRow)
 tyIn : inI n.ty
 vals : ∀ x ∈ n.f, inI x
structure Mm where
 gs : Sl
 globals : List Int
 ns : Sl
 nodes : List Nd
def Mm.row (m : Mm) : List Value := [m.gs.v, m.ns.v]
def Mm.v (m : Mm) : Value := .agg m.row.toArray
structure Mm.Ok (V : Mem) (m : Mm) : Prop where
 globals : RowsAt V m.gs 1 (m.globals.map intRow)
 gIn : ∀ x ∈ m.globals, inI x
 nodes : RowsAt V m.ns 2 (m.nodes.map Nd.row)
 nodesOk : ∀ n ∈ m.nodes, Nd.Ok V n
theorem Nd.Ok.sub {V V' : Mem} {n : Nd} (h : Nd.Ok V n) (hs : V.sub V') : Nd.Ok V' n := ⟨h.rows.sub hs, h.tyIn, h.vals⟩
theorem Mm.Ok.sub {V V' : Mem} {m : Mm} (h : Mm.Ok V m) (hs : V.sub V') : Mm.Ok V' m := ⟨h.globals.sub hs, h.gIn, h.nodes.sub hs, fun n hn => (h.nodesOk n hn).sub hs⟩
def allI {α : Type} (p : Nat -> α -> Bool) (xs : List α) : Bool := xs.zipIdx.all fun x => p x.2 x.1
def AllI {α : Type} (p : Nat -> α -> Bool) (xs : List α) (i : Nat) : Prop := ∀ j x, j < i -> xs[j]? = some x -> p j x = true
theorem AllI.zero {α : Type} {p : Nat -> α -> Bool} {xs : List α} : AllI p xs 0 := fun _ _ h => absurd h (Nat.not_lt_zero _)
theorem AllI.succ {α : Type} {p : Nat -> α -> Bool} {xs : List α} {i : Nat} {x : α} (h : AllI p xs i) (hx : xs[i]? = some x) (hp : p i x = true) : AllI p xs (i + 1) := fun j y hj hy => by
 rcases Nat.lt_succ_iff_lt_or_eq.1 hj with h' | rfl
 ·exact h j y h' hy
 ·rw [hx] at hy; cases hy; exact hp
theorem allI_iff {α : Type} {p : Nat -> α -> Bool} {xs : List α} : allI p xs = true ↔ ∀ j x, xs[j]? = some x -> p j x = true := by
 unfold allI
 rw [List.all_eq_true]
 constructor
 ·intro h j x hx
  exact h (x, j) (by rw [List.mem_zipIdx_iff_getElem?]; exact hx)
 ·rintro h ⟨x, j⟩ hx
  rw [List.mem_zipIdx_iff_getElem?] at hx
  exact h j x hx
theorem AllI.all {α : Type} {p : Nat -> α -> Bool} {xs : List α} {i : Nat} (h : AllI p xs i) (hi : xs.length <= i) : allI p xs = true :=
 allI_iff.2 fun j x hx => h j x (by have := (List.getElem?_eq_some_iff.1 hx).1; omega) hx
theorem allI_false {α : Type} {p : Nat -> α -> Bool} {xs : List α} {j : Nat} {x : α} (hx : xs[j]? = some x) (hp : ¬ p j x = true) : allI p xs = false := by
 cases h : allI p xs with
 | false => rfl
 | true => exact absurd (allI_iff.1 h j x hx) hp
def idxT (d : Ds) (s : ByteArray) : Int := idxI (fun t => decide (t.name = s)) d.types
def typedB (d : Ds) (l : List Fld) : Bool := l.all fun f => known d f.ty
def hasT (d : Ds) : Bool := validD d && typedB d d.globals && allI (fun i t => decide (idxT d t.name = (i : Int)) && typedB d t.fields) d.types
def fieldsOf (d : Ds) (t : Int) : List Fld := ((d.types[t.toNat]?).map (·.fields)).getD []
def tyAt (l : List Fld) (i : Nat) : ByteArray := ((l[i]?).map (·.ty)).getD sE
def rightB (d : Ds) (m : Mm) (typ : ByteArray) (v : Int) : Bool :=
 if typ = sInt then decide (-1099511627776 <= v /\ v <= 1099511627776) else if typ = sBool then decide (v = 0 ∨ v = 1)
 else decide (v = 0 ∨ (1 <= v /\ v <= (m.nodes.length : Int) /\ (m.nodes[(v - 1).toNat]?).map (·.ty) = some (idxT d typ)))
def valuesB (d : Ds) (m : Mm) (l : List Fld) (vs : List Int) : Bool := decide (l.length = vs.length) && allI (fun i v => rightB d m (tyAt l i) v) vs
def nodeTy (d : Ds) (n : Nd) : Bool := decide (0 <= n.ty /\ n.ty < (d.types.length : Int))
def validM (d : Ds) (m : Mm) : Bool := hasT d && decide (m.nodes.length <= 4096) && m.nodes.all (nodeTy d) && valuesB d m d.globals m.globals && m.nodes.all fun n => valuesB d m (fieldsOf d n.ty) n.f
theorem row_take {V : Mem} {a : Addr} {n k : Nat} {vs : List Value} (h : V.row a n = some vs) (hk : k <= n) : V.row a k = some (vs.take k) := by
 unfold Mem.row at h ⊢
 split at h
 ·rename_i c x y hb
  split at h
  ·rename_i hc
   simp only [Option.some.injEq] at h
   rw [if_pos ⟨hc.1, by omega⟩, <- h, List.take_take, Nat.min_eq_left hk]
  ·cases h
 ·cases h
theorem rowp_first {V : Mem} {p : Option Addr} {off n k : Nat} {vs : List Value} (h : V.rowp p off n = some vs) (hk : k <= n) : V.rowp (ptrAdd (ptrAdd p off) 0) 0 k = some (vs.take k) := by
 cases p with
 | none => cases h
 | some a =>
  have h0 : ((a.add off).add 0).add 0 = a.add off := by rw [add_add, add_add]; rfl
  show V.row (((a.add off).add 0).add 0) k = _
  rw [h0]
  exact row_take h hk
section
variable {V : Mem} {d : Ds} {m : Mm}
theorem isNode_idx (d : Ds) (s : ByteArray) : (idxT d s < 0 /\ isNode d s = false) ∨ (0 <= idxT d s /\ isNode d s = true) := by
 unfold idxT isNode
 rcases idx_cases (fun t : Ty => decide (t.name = s)) d.types with ⟨h1, -, h2⟩ | ⟨i, x, h1, -, -, -, -, -, h2, -⟩
 ·left; rw [h1]; exact ⟨by decide, h2⟩
 ·right; rw [h1]; exact ⟨by omega, h2⟩
theorem c131 (h : Ds.Ok V d) {l : Sl} {xs : List Fld} (hr : RowsAt V l 2 (xs.map Fld.row)) : PP 131 [d.v, l.v] V (.bool (typedB d xs)) := by
 refine x131 (v0 := d.name) (v1 := d.ts) (v2 := d.gs) (v3 := d.ps) (v4 := d.ms) (v5 := d.is) (v6 := d.qs) (v7 := d.bs) (v8 := l) ?_
 unfold w131
 refine loop2 (mk := .bool) (b0 := false) xs.length (fun i V1 => V = V1 /\ AllTo (fun f => known d f.ty) xs i) ⟨rfl, AllTo.zero _ _⟩ ?_
 rintro i b V1 J hi ⟨rfl, ha⟩ hJ
 refine ⟨fun hlt => ?_, fun hge => ?_⟩
 ·obtain ⟨x, hm, hx, hdr, hl, hp, hz, hrow⟩ := hr.get hlt
  have hq := ptrAdd_ne (n := i * 2) hp
  have go : known d x.ty = true -> IR ((i : Int) + 1) /\ J [.bool b, .int .i64 ((i : Int) + 1)] V := fun hk => ⟨hr.succ hlt, hJ hl _ _ ⟨rfl, ha.succ hx hk⟩⟩
  refine ⟨hp, hz, hlt, hq, _, _, hrow, fun h1 => go (by unfold known; rw [decide_eq_true (show x.ty = sInt from h1)]; rfl), fun h1 => ⟨hp, hz, hlt, hq, _, _, hrow, fun h2 => go (by unfold known; rw [decide_eq_true (show x.ty = sBool from h2)]; simp), fun h2 => ⟨hp, hz, hlt, hq, _, _, hrow, (c132 h).call ⟨_, rfl, fun h3 => ?_, fun h3 => go ?_⟩⟩⟩⟩
  ·rcases isNode_idx d x.ty with ⟨-, k⟩ | ⟨k, -⟩
   ·have : known d x.ty = false := by unfold known; rw [decide_eq_false (show ¬ x.ty = sInt from h1), decide_eq_false (show ¬ x.ty = sBool from h2), k]; rfl
    unfold typedB
    rw [all_false hm (by rw [this]; decide)]; exact ⟨rfl, rfl⟩
   ·exact absurd h3 (by show ¬ idxT d x.ty < 0; omega)
  ·rcases isNode_idx d x.ty with ⟨k, -⟩ | ⟨-, k⟩
   ·exact absurd (show idxT d x.ty < 0 from k) h3
   ·unfold known; rw [k]; simp
 ·unfold typedB
  rw [ha.all (hr.done hge).2]; exact ⟨rfl, rfl⟩
theorem c80 (h : Ds.Ok V d) : PP 80 [d.v] V (.bool (hasT d)) := by
 refine x80 (v0 := d.name) (v1 := d.ts) (v2 := d.gs) (v3 := d.ps) (v4 := d.ms) (v5 := d.is) (v6 := d.qs) (v7 := d.bs) ?_
 unfold w80 hasT
 refine (c44 h).call ⟨_, rfl, fun hv => (c131 h h.globals).call ⟨_, rfl, fun ht => ?_, fun ht => ?_⟩, fun hv => ?_⟩
 ·rw [hv, ht, Bool.true_and, Bool.true_and]
  refine loop2 (mk := .bool) (b0 := false) d.types.length (fun i V1 => V = V1 /\ AllI (fun i t => decide (idxT d t.name = (i : Int)) && typedB d t.fields) d.types i) ⟨rfl, AllI.zero⟩ ?_
  rintro i b V1 J hi ⟨rfl, ha⟩ hJ
  refine ⟨fun hlt => ?_, fun hge => ?_⟩
  ·obtain ⟨x, hm, hx, hdr, hl, hp, hz, hrow⟩ := h.types.get hlt
   have hq := ptrAdd_ne (n := i * 2) hp
   refine ⟨hp, hz, hlt, hq, _, _, hrow, (c132 h).call ⟨_, rfl, fun h1 => ⟨hp, hz, hlt, hq, _, _, hrow, (c131 h (h.typesOk x hm).fields).call ⟨_, rfl, fun h2 => ⟨h.types.succ hlt, hJ hl _ _ ⟨rfl, ha.succ hx ?_⟩⟩, fun h2 => ?_⟩⟩, fun h1 => ?_⟩⟩
   ·rw [h2, decide_eq_true (show idxT d x.name = (i : Int) from h1)]; rfl
   ·rw [allI_false hx (by rw [Bool.and_eq_true]; exact fun k => h2 k.2)]; exact ⟨rfl, rfl⟩
   ·rw [allI_false hx (by rw [Bool.and_eq_true, decide_eq_true_eq]; exact fun k => h1 k.1)]; exact ⟨rfl, rfl⟩
  ·rw [ha.all (h.types.done hge).2]; exact ⟨rfl, rfl⟩
 ·rw [show typedB d d.globals = false by simpa using ht]; simp
 ·rw [show validD d = false by simpa using hv]; simp
theorem c81 (h : Ds.Ok V d) (hm : Mm.Ok V m) {s : ByteArray} {v : Int} (hv : inI v) : PP 81 [d.v, m.v, .string s, .int .i64 v] V (.bool (rightB d m s v)) := by
 refine x81 (v0 := d.name) (v1 := d.ts) (v2 := d.gs) (v3 := d.ps) (v4 := d.ms) (v5 := d.is) (v6 := d.qs) (v7 := d.bs) (v8 := m.gs) (v9 := m.ns) (v10 := s) (v11 := v) ?_
 unfold w81 rightB
 have hn := hm.nodes.n_eq
 have fin : ∀ {a b : Bool}, a = b -> (Ending.returned (.bool a) = Ending.returned (.bool b) /\ V = V) := fun e => ⟨by rw [e], rfl⟩
 refine ⟨fun h1 => ?_, fun h1 => ⟨fun h2 => ?_, fun h2 => ?_⟩⟩
 ·rw [if_pos (show s = sInt from h1)]
  refine ⟨fun h3 => fin ?_, fun h3 => fin ?_⟩
  ·exact decide_eq_decide.2 ⟨fun k => ⟨h3, k⟩, fun k => k.2⟩
  ·exact (decide_eq_false fun k => h3 k.1).symm
 ·rw [if_neg (show ¬ s = sInt from h1), if_pos (show s = sBool from h2)]
  refine ⟨fun h3 => fin ?_, fun h3 => fin ?_⟩
  ·exact (decide_eq_true (.inl h3)).symm
  ·exact decide_eq_decide.2 ⟨fun k => .inr k, fun k => k.resolve_left h3⟩
 ·rw [if_neg (show ¬ s = sInt from h1), if_neg (show ¬ s = sBool from h2)]
  refine ⟨fun h3 => fin (decide_eq_true (.inl h3)).symm, fun h3 => ⟨fun h4 => ⟨fun h5 => ?_, fun h5 => fin ?_⟩, fun h4 => fin ?_⟩⟩
  ·obtain ⟨i, rfl⟩ : ∃ i : Nat, v = (i : Int) + 1 := ⟨(v - 1).toNat, by omega⟩
   have e : ((i : Int) + 1 - 1) = (i : Int) := by omega
   have hv2 := hv.2
   rw [e]
   obtain ⟨x, hxm, hx, hdr, hl, hp, hz, hrow⟩ := hm.nodes.get (i := i) (by omega)
   have hq := ptrAdd_ne (n := i * 2) hp
   refine ⟨⟨by omega, by omega⟩, hp, by omega, by omega, hq, _, _, hrow, (c132 h).call ⟨_, rfl, ?_, hq, hp, by omega, by omega, ⟨by omega, by omega⟩, fin ?_⟩⟩
   ·exact rowp_first (k := 1) hrow (by decide)
   ·refine decide_eq_decide.2 ⟨fun k => .inr ⟨h4, by omega, ?_⟩, fun k => ?_⟩
    ·show Option.map (·.ty) (m.nodes[((i : Int)).toNat]?) = _
     rw [Int.toNat_natCast, hx]; exact congrArg some k
    ·rcases k with k | ⟨-, -, k⟩
     ·exact absurd k h3
     ·rw [show ((i : Int)).toNat = i from rfl, hx] at k
      exact Option.some.inj k
  ·exact (decide_eq_false fun k => k.elim h3 fun k => h5 (by omega)).symm
  ·exact (decide_eq_false fun k => k.elim h3 fun k => h4 k.1).symm
theorem fieldsOf_at {t : Int} {x : Ty} {k : Nat} (hx : d.types[k]? = some x) (ht : t = (k : Int)) : fieldsOf d t = x.fields := by
 subst ht
 unfold fieldsOf
 rw [Int.toNat_natCast, hx]; rfl
theorem c46 (h : Ds.Ok V d) (hm : Mm.Ok V m) : PP 46 [d.v, m.v] V (.bool (validM d m)) := by
 refine x46 (v0 := d.name) (v1 := d.ts) (v2 := d.gs) (v3 := d.ps) (v4 := d.ms) (v5 := d.is) (v6 := d.qs) (v7 := d.bs) (v8 := m.gs) (v9 := m.ns) ?_
 unfold w46
 have hn := hm.nodes.n_eq
 have hg := hm.globals.n_eq
 have hdg := h.globals.n_eq
 have hdt := h.types.n_eq
 have no : ∀ {V1 : Mem}, V = V1 -> ¬ validM d m = true -> (Ending.returned (.bool false) = Ending.returned (.bool (validM d m)) /\ V1 = V) := fun e k => ⟨by rw [show validM d m = false by simpa using k], e.symm⟩
 have parts : validM d m = true ↔ hasT d = true /\ m.nodes.length <= 4096 /\ (∀ n ∈ m.nodes, nodeTy d n = true) /\ valuesB d m d.globals m.globals = true /\ ∀ n ∈ m.nodes, valuesB d m (fieldsOf d n.ty) n.f = true := by
  unfold validM
  simp only [Bool.and_eq_true, decide_eq_true_eq, List.all_eq_true, and_assoc]
 refine (c80 h).call ⟨_, rfl, fun ht => ⟨fun hl => ⟨fun hbig => no rfl fun k => ?_, fun hbig => ?_⟩, fun hl => no rfl fun k => ?_⟩, fun ht => no rfl fun k => ht (parts.1 k).1⟩
 ·have := (parts.1 k).2.1; omega
 ·let PA : Nd -> Bool := fun n => nodeTy d n && decide ((fieldsOf d n.ty).length = n.f.length)
  refine loop2 (mk := .bool) (b0 := false) m.nodes.length (fun i V1 => V = V1 /\ AllTo PA m.nodes i) ⟨rfl, AllTo.zero _ _⟩ ?_
  rintro i b V1 J hi ⟨rfl, ha⟩ hJ
  refine ⟨fun hlt => ?_, fun hge => ?_⟩
  ·obtain ⟨x, hxm, hx, hdr, hll, hp, hz, hrow⟩ := hm.nodes.get hlt
   have hq := ptrAdd_ne (n := i * 2) hp
   have hnx := (hm.nodesOk x hxm).rows.n_eq
   refine ⟨hp, hz, hlt, hq, _, _, hrow, fun h1 => no rfl fun k => ?_, fun h1 => ⟨fun h2 => no rfl fun k => ?_, fun h2 => ?_⟩⟩
   ·have := (parts.1 k).2.2.1 x hxm
    exact absurd (of_decide_eq_true this).1 (by omega)
   ·have := (parts.1 k).2.2.1 x hxm
    exact absurd (of_decide_eq_true this).2 (by omega)
   ·obtain ⟨t, ht'⟩ : ∃ t : Nat, x.ty = (t : Int) := ⟨x.ty.toNat, by omega⟩
    obtain ⟨y, hym, hy, -, -, hyp, hyz, hyrow⟩ := h.types.get (i := t) (by omega)
    have hfn := (h.typesOk y hym).fields.n_eq
    have hfo := fieldsOf_at hy ht'
    have h1' : (0 : Int) <= x.ty := by omega
    rw [ht'] at h1 h2 ⊢
    refine ⟨hp, hz, hlt, hq, _, _, hrow, hyp, by omega, by omega, ptrAdd_ne hyp, _, _, hyrow, fun h3 => ⟨hm.nodes.succ hlt, hJ hll _ _ ⟨rfl, ha.succ hx ?_⟩⟩, fun h3 => no rfl fun k => ?_⟩
    ·show (nodeTy d x && decide ((fieldsOf d x.ty).length = x.f.length)) = true
     rw [Bool.and_eq_true]
     exact ⟨decide_eq_true ⟨h1', by rw [ht']; omega⟩, decide_eq_true (by rw [hfo]; omega)⟩
    ·have := (parts.1 k).2.2.2.2 x hxm
     unfold valuesB at this
     rw [Bool.and_eq_true, decide_eq_true_eq, hfo] at this
     exact h3 (by omega)
  have hA := ha.all (hm.nodes.done hge).2
  rw [List.all_eq_true] at hA
  clear hJ ha hge hi
  refine loop2 (mk := .bool) (b0 := b) m.globals.length (fun i V1 => V = V1 /\ AllI (fun i v => rightB d m (tyAt d.globals i) v) m.globals i) ⟨rfl, AllI.zero⟩ ?_
  rintro i b1 V1 J hi ⟨rfl, ha⟩ hJ
  refine ⟨fun hlt => ?_, fun hge => ?_⟩
  ·obtain ⟨x, hxm, hx, hdr, hll, hp, hz, hrow⟩ := hm.globals.get hlt
   obtain ⟨f, hfm, hf, -, -, hfp, hfz, hfrow⟩ := h.globals.get (i := i) (by omega)
   have hty : tyAt d.globals i = f.ty := by unfold tyAt; rw [hf]; rfl
   refine ⟨hfp, hfz, by omega, ptrAdd_ne hfp, _, _, hfrow, hp, hz, hlt, _, hrow, (c81 h hm (hm.gIn x hxm)).call ⟨_, rfl, fun h1 => ⟨hm.globals.succ hlt, hJ hll _ _ ⟨rfl, ha.succ hx (by rw [hty]; exact h1)⟩⟩, fun h1 => no rfl fun k => ?_⟩⟩
   have := (parts.1 k).2.2.2.1
   unfold valuesB at this
   rw [Bool.and_eq_true] at this
   have := allI_iff.1 this.2 i x hx
   rw [hty] at this
   exact h1 this
  have hG := ha.all (hm.globals.done hge).2
  clear hJ ha hge hi
  refine loop2 (mk := .bool) (b0 := b1) m.nodes.length (fun i V1 => V = V1 /\ AllTo (fun n => valuesB d m (fieldsOf d n.ty) n.f) m.nodes i) ⟨rfl, AllTo.zero _ _⟩ ?_
  rintro i b2 V1 J hi ⟨rfl, ha⟩ hJ
  refine ⟨fun hlt => ?_, fun hge => ?_⟩
  ·obtain ⟨x, hxm, hx, hdr, hll, hp, hz, hrow⟩ := hm.nodes.get hlt
   have hq := ptrAdd_ne (n := i * 2) hp
   have hxo := hm.nodesOk x hxm
   have hPx := hA x hxm
   rw [Bool.and_eq_true, decide_eq_true_eq] at hPx
   obtain ⟨hP1, hP2⟩ := hPx
   have hP1 := of_decide_eq_true hP1
   obtain ⟨t, ht'⟩ : ∃ t : Nat, x.ty = (t : Int) := ⟨x.ty.toNat, by omega⟩
   obtain ⟨y, hym, hy, -, -, hyp, hyz, hyrow⟩ := h.types.get (i := t) (by omega)
   have hyo := (h.typesOk y hym).fields
   have hfo := fieldsOf_at hy ht'
   refine ⟨hp, hz, hlt, hq, _, _, hrow, hyp, by rw [ht']; omega, by rw [ht']; omega, ptrAdd_ne hyp, _, _, by rw [ht']; exact hyrow, ?_⟩
   rw [hfo] at hP2
   have hxn := hxo.rows.n_eq
   have hyn := hyo.n_eq
   refine loop2 (mk := .bool) (b0 := b2) y.fields.length (fun j V1 => V = V1 /\ AllI (fun i v => rightB d m (tyAt y.fields i) v) x.f j) ⟨rfl, AllI.zero⟩ ?_
   rintro j b3 V1 J1 hj ⟨rfl, ha1⟩ hJ1
   refine ⟨fun hlt1 => ?_, fun hge1 => ⟨hm.nodes.succ hlt, hJ hll _ _ ⟨rfl, ha.succ hx ?_⟩⟩⟩
   ·obtain ⟨f, hfm, hf, -, hfl, hfp, hfz, hfrow⟩ := hyo.get hlt1
    obtain ⟨z, hzm, hzx, -, -, hzp, hzz, hzrow⟩ := hxo.rows.get (i := j) (by omega)
    have hty : tyAt y.fields j = f.ty := by unfold tyAt; rw [hf]; rfl
    refine ⟨hfp, hfz, hlt1, ptrAdd_ne hfp, _, _, hfrow, hp, hz, hlt, hq, _, _, hrow, hzp, hzz, by omega, _, hzrow, (c81 h hm (hxo.vals z hzm)).call ⟨_, rfl, fun h1 => ⟨hyo.succ hlt1, hJ1 hfl _ _ ⟨rfl, ha1.succ hzx (by rw [hty]; exact h1)⟩⟩, fun h1 => no rfl fun k => ?_⟩⟩
    have := (parts.1 k).2.2.2.2 x hxm
    unfold valuesB at this
    rw [Bool.and_eq_true, hfo] at this
    have := allI_iff.1 this.2 j z hzx
    rw [hty] at this
    exact h1 this
   ·have := (hyo.done hge1).2
    unfold valuesB
    rw [hfo, ha1.all (by omega), decide_eq_true hP2]; rfl
  ·have hN := ha.all (hm.nodes.done hge).2
   rw [List.all_eq_true] at hN
   have : validM d m = true := parts.2 ⟨ht, by omega, fun n hn' => (Bool.and_eq_true _ _ ▸ hA n hn').1, by unfold valuesB; rw [hG, decide_eq_true (by omega)]; rfl, hN⟩
   rw [this]; exact ⟨rfl, rfl⟩
 ·have := (parts.1 k).2.2.2.1
  unfold valuesB at this
  rw [Bool.and_eq_true, decide_eq_true_eq] at this
  exact hl (by omega)
end
end Go.Proofs
namespace Go.Proofs
open Go Go.Sx
inductive Rs where
 | ok (v : Int)
 | bad (e : Int)
deriving DecidableEq
def Rs.bind : Rs -> (Int -> Rs) -> Rs
 | .ok v, f => f v
 | .bad e, _ => .bad e
def big (n : Int) : Rs := if -1099511627776 <= n /\ n <= 1099511627776 then .ok n else .bad 5
def trI (b : Bool) : Int := if b then 1 else 0
def twoV (op a b : Int) : Rs :=
 if op = 9 then big (a + b) else if op = 10 then big (a - b) else if op = 11 then big (a * b)
 else if op = 22 then .ok (if a < b then b else a) else if op = 23 then .ok (if b < a then b else a)
 else if op = 14 then .ok (trI (decide (a = b))) else if op = 15 then .ok (trI (!decide (a = b))) else if op = 16 then .ok (trI (decide (a < b))) else if op = 17 then .ok (trI (decide (a <= b)))
 else if b = 0 then .bad 18 else if op = 12 then .ok (a.tdiv b) else .ok (a.tmod b)
def idxF (l : List Fld) (s : ByteArray) : Int := idxI (fun f => decide (f.name = s)) l
def mIdx (d : Ds) (s : ByteArray) : Int := idxI (fun x => decide (x.name = s)) d.measures
def varV (d : Ds) (m : Mm) (x : Int) (s : ByteArray) : Int := if s = sThisF then x else (m.globals[(idxF d.globals s).toNat]?).getD 0
def fldV (d : Ds) (m : Mm) (a : Int) (s : ByteArray) : Rs :=
 if a = 0 then .bad 17 else match m.nodes[(a - 1).toNat]? with
  | none => .bad 0
  | some n => .ok ((n.f[(idxF (fieldsOf d n.ty) s).toNat]?).getD 0)
def logV (a : Int) : Int := (Nat.log2 a.toNat : Int)
def kidR (rs : List Rs) (i : Nat) : Rs := rs.getD i (.bad 0)
section
variable (d : Ds) (m : Mm)
def comb (F : Int -> Int -> Rs) (x op n : Int) (s : ByteArray) (rs : List Rs) : Rs :=
 if op = 1 ∨ op = 2 then .ok n else if op = 3 then .ok 0 else if op = 4 then .ok (varV d m x s)
 else if op = 5 then (kidR rs 0).bind fun a => fldV d m a s
 else if op = 7 then (kidR rs 0).bind fun a => F (mIdx d s) a
 else if op = 8 then (kidR rs 0).bind fun a => big (-a)
 else if op = 18 then (kidR rs 0).bind fun a => .ok (1 - a)
 else if op = 24 then (kidR rs 0).bind fun a => .ok (logV a)
 else if op = 19 then (kidR rs 0).bind fun a => if a = 0 then .ok 0 else kidR rs 1
 else if op = 20 then (kidR rs 0).bind fun a => if a = 0 then kidR rs 1 else .ok 1
 else if op = 21 then (kidR rs 0).bind fun a => if a = 0 then kidR rs 2 else kidR rs 1
 else (kidR rs 0).bind fun a => (kidR rs 1).bind fun b => twoV op a b
mutual
def evE (F : Int -> Int -> Rs) (x : Int) : E -> Rs
 | .mk op n s _ k => comb d m F x op n s (evEs F x k)
def evEs (F : Int -> Int -> Rs) (x : Int) : List E -> List Rs
 | [] => []
 | e :: es => evE F x e :: evEs F x es
end
def nilM (k : Int) : Int := ((d.measures[k.toNat]?).map (·.nil)).getD 0
def evM : Nat -> Int -> Int -> Rs
 | 0, k, x => if x = 0 then .ok (nilM d k) else .bad 16
 | n + 1, k, x => if x = 0 then .ok (nilM d k) else match d.measures[k.toNat]? with | some ms => evE d m (evM n) x ms.x | none => .bad 0
end
variable {d : Ds} {m : Mm}
theorem evEs_map (F : Int -> Int -> Rs) (x : Int) : ∀ k : List E, evEs d m F x k = k.map (evE d m F x)
 | [] => by unfold evEs; rfl
 | e :: es => by unfold evEs; rw [evEs_map F x es]; rfl
theorem evE_eq (F : Int -> Int -> Rs) (x : Int) (e : E) : evE d m F x e = comb d m F x e.op e.n e.s (e.k.map (evE d m F x)) := by
 cases e; unfold evE; rw [evEs_map]; rfl
def Rs.le (a b : Rs) : Prop := a = .bad 16 ∨ a = b
theorem Rs.le.trans {a b c : Rs} (h : Rs.le a b) (k : Rs.le b c) : Rs.le a c := by
 rcases h with h | rfl
 ·exact .inl h
 ·exact k
theorem Rs.le.bind {a b : Rs} {f g : Int -> Rs} (h : Rs.le a b) (k : ∀ v, Rs.le (f v) (g v)) : Rs.le (a.bind f) (b.bind g) := by
 rcases h with rfl | rfl
 ·exact .inl rfl
 ·cases a with
  | ok v => exact k v
  | bad e => exact .inr rfl
theorem kid_le {k : List E} {f g : E -> Rs} (h : ∀ e ∈ k, Rs.le (f e) (g e)) (i : Nat) : Rs.le (kidR (k.map f) i) (kidR (k.map g) i) := by
 unfold kidR
 rw [List.getD_eq_getElem?_getD, List.getD_eq_getElem?_getD, List.getElem?_map, List.getElem?_map]
 cases hk : k[i]? with
 | none => exact .inr rfl
 | some e => exact h e (List.mem_of_getElem? hk)
theorem comb_le {F G : Int -> Int -> Rs} (hF : ∀ k x, Rs.le (F k x) (G k x)) {x op n : Int} {s : ByteArray} {rs qs : List Rs} (h : ∀ i, Rs.le (kidR rs i) (kidR qs i)) : Rs.le (comb d m F x op n s rs) (comb d m G x op n s qs) := by
 have it : ∀ {c : Prop} [Decidable c] {a b a' b' : Rs}, Rs.le a a' -> Rs.le b b' -> Rs.le (if c then a else b) (if c then a' else b') := fun {c} _ {a b a' b'} h1 h2 => by by_cases hc : c <;> simp only [hc, if_true, if_false] <;> assumption
 have rf : ∀ {a : Rs}, Rs.le a a := .inr rfl
 unfold comb
 exact it rf (it rf (it rf (it (Rs.le.bind (h 0) fun _ => rf) (it (Rs.le.bind (h 0) fun _ => hF _ _) (it (Rs.le.bind (h 0) fun _ => rf) (it (Rs.le.bind (h 0) fun _ => rf) (it (Rs.le.bind (h 0) fun _ => rf)
  (it (Rs.le.bind (h 0) fun _ => it rf (h 1)) (it (Rs.le.bind (h 0) fun _ => it (h 1) rf) (it (Rs.le.bind (h 0) fun _ => it (h 2) (h 1)) (Rs.le.bind (h 0) fun _ => Rs.le.bind (h 1) fun _ => rf)))))))))))
theorem evE_le {F G : Int -> Int -> Rs} (hF : ∀ k x, Rs.le (F k x) (G k x)) (x : Int) (e : E) : Rs.le (evE d m F x e) (evE d m G x e) := by
 induction e using E.ind with
 | h e ih =>
 rw [evE_eq, evE_eq]
 exact comb_le hF (kid_le ih)
theorem evM_le : ∀ (n : Nat) (k x : Int), Rs.le (evM d m n k x) (evM d m (n + 1) k x)
 | 0, k, x => by
  unfold evM
  by_cases h : x = 0
  ·rw [if_pos h, if_pos h]; exact .inr rfl
  ·rw [if_neg h]; exact .inl rfl
 | n + 1, k, x => by
  rw [evM, evM]
  by_cases h : x = 0
  ·rw [if_pos h, if_pos h]; exact .inr rfl
  ·rw [if_neg h, if_neg h]
   cases d.measures[k.toNat]? with
   | none => exact .inr rfl
   | some ms => exact evE_le (evM_le n) x ms.x
theorem evM_mono {n n' : Nat} (h : n <= n') (k x : Int) : Rs.le (evM d m n k x) (evM d m n' k x) := by
 induction h with
 | refl => exact .inr rfl
 | step _ ih => exact ih.trans (evM_le _ k x)
def Mono (g : Nat -> Rs) : Prop := ∀ n n', n <= n' -> Rs.le (g n) (g n')
theorem mono_evE (x : Int) (e : E) : Mono fun n => evE d m (evM d m n) x e := fun _ _ h => evE_le (evM_mono h) x e
theorem mono_evM (k x : Int) : Mono fun n => evM d m n k x := fun _ _ h => evM_mono h k x
theorem mono_const (r : Rs) : Mono fun _ => r := fun _ _ _ => .inr rfl
def Out (d : Ds) (m : Mm) (B : Int -> Int -> Prop) (g : Nat -> Rs) : Rs -> Prop
 | .ok v => ∃ n, g n = .ok v
 | .bad e => (e ≠ 16 /\ ∃ n, g n = .bad e) ∨ (e = 16 /\ ((∀ n, g n = .bad 16) ∨ ∃ k x, B k x /\ ∀ n, evM d m n k x = .bad 16 -> g n = .bad 16))
theorem Out.const (B : Int -> Int -> Prop) {r : Rs} : Out d m B (fun _ => r) r := by
 cases r with
 | ok v => exact ⟨0, rfl⟩
 | bad e =>
  by_cases h : e = 16
  ·subst h; exact .inr ⟨rfl, .inl fun _ => rfl⟩
  ·exact .inl ⟨h, 0, rfl⟩
theorem Out.congr {B : Int -> Int -> Prop} {g g' : Nat -> Rs} {r : Rs} (h : Out d m B g r) (e : ∀ n, g n = g' n) : Out d m B g' r := by
 have : g = g' := funext e
 rw [<- this]; exact h
theorem Out.bindBad {B : Int -> Int -> Prop} {g : Nat -> Rs} {h : Nat -> Int -> Rs} {e : Int} (k : Out d m B g (.bad e)) : Out d m B (fun n => (g n).bind (h n)) (.bad e) := by
 rcases k with ⟨k1, n, k2⟩ | ⟨rfl, k⟩
 ·exact .inl ⟨k1, n, by show (g n).bind (h n) = _; rw [k2]; rfl⟩
 ·refine .inr ⟨rfl, ?_⟩
  rcases k with k | ⟨a, b, k1, k2⟩
  ·exact .inl fun n => by show (g n).bind (h n) = _; rw [k n]; rfl
  ·exact .inr ⟨a, b, k1, fun n hn => by show (g n).bind (h n) = _; rw [k2 n hn]; rfl⟩
theorem Out.bindOk {B : Int -> Int -> Prop} {g : Nat -> Rs} {h : Nat -> Int -> Rs} {v : Int} {r : Rs} (hg : Mono g) (hh : Mono fun n => h n v) (k : Out d m B g (.ok v)) (k2 : Out d m B (fun n => h n v) r) : Out d m B (fun n => (g n).bind (h n)) r := by
 obtain ⟨n1, k1⟩ := k
 have low : ∀ n, h n v = .bad 16 -> (g n).bind (h n) = .bad 16 := fun n hn => by
  rcases hg n (max n n1) (by omega) with h1 | h1
  ·rw [h1]; rfl
  ·rcases hg n1 (max n n1) (by omega) with h2 | h2
   ·rw [k1] at h2; cases h2
   ·rw [h1, <- h2, k1]; exact hn
 have up : ∀ n r', h n v = r' -> r' ≠ .bad 16 -> ∃ n, (g n).bind (h n) = r' := fun n r' hn hr => by
  refine ⟨max n n1, ?_⟩
  rcases hg n1 (max n n1) (by omega) with h2 | h2
  ·rw [k1] at h2; cases h2
  ·rw [<- h2, k1]
   rcases hh n (max n n1) (by omega) with h3 | h3
   ·exact absurd (hn.symm.trans h3) hr
   ·exact h3.symm.trans hn
 cases r with
 | ok w => obtain ⟨n, hn⟩ := k2; exact up n _ hn nofun
 | bad e =>
  rcases k2 with ⟨h1, n, h2⟩ | ⟨rfl, h1⟩
  ·exact .inl ⟨h1, up n _ h2 (fun c => h1 (by cases c; rfl))⟩
  ·refine .inr ⟨rfl, ?_⟩
   rcases h1 with h1 | ⟨a, b, h1, h2⟩
   ·exact .inl fun n => low n (h1 n)
   ·exact .inr ⟨a, b, h1, fun n hn => low n (h2 n hn)⟩
theorem Out.measure {B : Int -> Int -> Prop} {k x : Int} {ms : Ms} (hx : x ≠ 0) (hk : d.measures[k.toNat]? = some ms) {r : Rs} (h : Out d m (fun a b => B a b ∨ (a = k /\ b = x)) (fun n => evE d m (evM d m n) x ms.x) r) : Out d m B (fun n => evM d m n k x) r := by
 have suc : ∀ n, evM d m (n + 1) k x = evE d m (evM d m n) x ms.x := fun n => by rw [evM, if_neg hx, hk]
 have zero : evM d m 0 k x = .bad 16 := by rw [evM, if_neg hx]
 cases r with
 | ok v => obtain ⟨n, h⟩ := h; exact ⟨n + 1, (suc n).trans h⟩
 | bad e =>
  rcases h with ⟨h1, n, h2⟩ | ⟨rfl, h⟩
  ·exact .inl ⟨h1, n + 1, (suc n).trans h2⟩
  ·refine .inr ⟨rfl, ?_⟩
   rcases h with h | ⟨a, b, h1, h2⟩
   ·exact .inl fun n => by cases n with | zero => exact zero | succ n => exact (suc n).trans (h n)
   ·rcases h1 with h1 | ⟨rfl, rfl⟩
    ·refine .inr ⟨a, b, h1, fun n hn => ?_⟩
     cases n with
     | zero => exact zero
     | succ n =>
      refine (suc n).trans (h2 n ?_)
      rcases evM_le (d := d) (m := m) n a b with g | g
      ·exact g
      ·exact g.trans hn
    ·refine .inl fun n => ?_
     induction n with
     | zero => exact zero
     | succ n ih => exact (suc n).trans (h2 n ih)
theorem Out.unique {g : Nat -> Rs} (hg : Mono g) {r r' : Rs} (h : Out d m (fun _ _ => False) g r) (h' : Out d m (fun _ _ => False) g r') : r = r' := by
 have key : ∀ {r : Rs}, Out d m (fun _ _ => False) g r -> (r ≠ .bad 16 /\ ∃ n, g n = r) ∨ (r = .bad 16 /\ ∀ n, g n = .bad 16) := fun {r} h => by
  cases r with
  | ok v => exact .inl ⟨nofun, h⟩
  | bad e =>
   rcases h with ⟨h1, h2⟩ | ⟨rfl, h⟩
   ·exact .inl ⟨fun c => h1 (by cases c; rfl), h2⟩
   ·rcases h with h | ⟨_, _, h, _⟩
    ·exact .inr ⟨rfl, h⟩
    ·exact h.elim
 rcases key h with ⟨h1, n, h2⟩ | ⟨h1, h2⟩ <;> rcases key h' with ⟨k1, l, k2⟩ | ⟨k1, k2⟩
 ·have e1 := hg n (max n l) (by omega)
  have e2 := hg l (max n l) (by omega)
  rcases e1 with e1 | e1
  ·exact absurd (h2.symm.trans e1) h1
  ·rcases e2 with e2 | e2
   ·exact absurd (k2.symm.trans e2) k1
   ·rw [<- h2, <- k2, e1, e2]
 ·exact absurd (h2.symm.trans (k2 n)) h1
 ·exact absurd (k2.symm.trans (h2 l)) k1
 ·rw [h1, k1]
section
variable {F : Int -> Int -> Rs} {x op n : Int} {s : ByteArray} {rs : List Rs}
theorem comb1 (h : op = 1 ∨ op = 2) : comb d m F x op n s rs = .ok n := by rcases h with rfl | rfl <;> rfl
theorem comb3 (h : op = 3) : comb d m F x op n s rs = .ok 0 := by subst h; rfl
theorem comb4 (h : op = 4) : comb d m F x op n s rs = .ok (varV d m x s) := by subst h; rfl
theorem comb5 (h : op = 5) : comb d m F x op n s rs = (kidR rs 0).bind fun a => fldV d m a s := by subst h; rfl
theorem comb7 (h : op = 7) : comb d m F x op n s rs = (kidR rs 0).bind fun a => F (mIdx d s) a := by subst h; rfl
theorem comb8 (h : op = 8) : comb d m F x op n s rs = (kidR rs 0).bind fun a => big (-a) := by subst h; rfl
theorem comb18 (h : op = 18) : comb d m F x op n s rs = (kidR rs 0).bind fun a => .ok (1 - a) := by subst h; rfl
theorem comb24 (h : op = 24) : comb d m F x op n s rs = (kidR rs 0).bind fun a => .ok (logV a) := by subst h; rfl
theorem comb19 (h : op = 19) : comb d m F x op n s rs = (kidR rs 0).bind fun a => if a = 0 then .ok 0 else kidR rs 1 := by subst h; rfl
theorem comb20 (h : op = 20) : comb d m F x op n s rs = (kidR rs 0).bind fun a => if a = 0 then kidR rs 1 else .ok 1 := by subst h; rfl
theorem comb21 (h : op = 21) : comb d m F x op n s rs = (kidR rs 0).bind fun a => if a = 0 then kidR rs 2 else kidR rs 1 := by subst h; rfl
theorem combTwo (h : 9 <= op /\ op <= 23 /\ op ≠ 18 /\ op ≠ 19 /\ op ≠ 20 /\ op ≠ 21) : comb d m F x op n s rs = (kidR rs 0).bind fun a => (kidR rs 1).bind fun b => twoV op a b := by
 unfold comb
 rw [if_neg (by omega), if_neg (by omega), if_neg (by omega), if_neg (by omega), if_neg (by omega), if_neg (by omega), if_neg (by omega), if_neg (by omega), if_neg (by omega), if_neg (by omega), if_neg (by omega)]
end
end Go.Proofs
namespace Go.Proofs
open Go Go.Sx
structure GoodD (d : Ds) (m : Mm) : Prop where
 valid : validD d = true
 chk : chkT d = none
 mem : validM d m = true
def VE (e : E) : Prop := ∃ k, okE k e = true
theorem VE.of_valid {e : E} (h : validE e = true) : VE e := ⟨1, (of_decide_eq_true h).1⟩
theorem okE_eq (k : Int) (e : E) : okE k e = (decide (k <= 60) && nodeB e.op e.n e.s e.k.length && okEs (k + 1) e.k) := by cases e; unfold okE; rfl
theorem okEs_all {k : Int} : ∀ {l : List E}, okEs k l = true -> ∀ x ∈ l, okE k x = true
 | [], _, x, hx => by cases hx
 | e :: l, h, x, hx => by
  unfold okEs at h
  rw [Bool.and_eq_true] at h
  rcases List.mem_cons.1 hx with rfl | hx
  ·exact h.1
  ·exact okEs_all h.2 x hx
theorem VE.node {e : E} (h : VE e) : nodeB e.op e.n e.s e.k.length = true := by
 obtain ⟨k, h⟩ := h
 rw [okE_eq, Bool.and_eq_true, Bool.and_eq_true] at h
 exact h.1.2
theorem VE.kids {e : E} (h : VE e) : ∀ x ∈ e.k, VE x := by
 obtain ⟨k, h⟩ := h
 rw [okE_eq, Bool.and_eq_true] at h
 exact fun x hx => ⟨_, okEs_all h.2 x hx⟩
theorem partsT_map (d : Ds) (sc : Sc) : ∀ (k : List E) (acc : List ByteArray), (partsT d sc acc k).2 = 0 -> (∀ x ∈ k, (exprT d sc x).2 = 0) /\ (partsT d sc acc k).1 = acc ++ k.map fun x => (exprT d sc x).1
 | [], acc, _ => by rw [partsT_nil]; simp
 | x :: xs, acc, h => by
  rw [partsT_cons] at h ⊢
  split at h
  ·rename_i h'; exact absurd h h'
  ·rename_i h'
   rw [if_neg h']
   obtain ⟨h1, h2⟩ := partsT_map d sc xs _ h
   refine ⟨List.forall_mem_cons.2 ⟨by simpa using h', h1⟩, ?_⟩
   rw [h2]; simp
theorem typed_parts {d : Ds} {sc : Sc} {e : E} {t : ByteArray} (h : exprT d sc e = (t, 0)) : (∀ x ∈ e.k, (exprT d sc x).2 = 0) /\ nodeT d sc e.op e.s (e.k.map fun x => (exprT d sc x).1) = (t, 0) := by
 rw [exprT_eq] at h
 split at h
 ·rename_i h'
  simp only [Prod.mk.injEq] at h
  exact absurd h.2 h'
 ·rename_i h'
  have h' : (partsT d sc [] e.k).2 = 0 := by simpa using h'
  obtain ⟨h1, h2⟩ := partsT_map d sc e.k [] h'
  rw [h2, List.nil_append] at h
  exact ⟨h1, h⟩
theorem arityB {op n : Int} {s : ByteArray} {l : Int} (h : nodeB op n s l = true) : partsN op ≠ -2 /\ (0 <= partsN op -> l = partsN op) /\ nmB op s = true /\ numB op n = true := by
 unfold nodeB at h
 rw [Bool.and_eq_true, Bool.and_eq_true, decide_eq_true_eq] at h
 exact ⟨h.1.1.1, h.1.1.2.1, h.1.2, h.2⟩
theorem list1 {α : Type} {k : List α} (h : (k.length : Int) = 1) : ∃ a, k = [a] := by
 match k, h with
 | [a], _ => exact ⟨a, rfl⟩
 | [], h => simp at h
 | _ :: _ :: _, h => simp at h; omega
theorem list2 {α : Type} {k : List α} (h : (k.length : Int) = 2) : ∃ a b, k = [a, b] := by
 match k, h with
 | [a, b], _ => exact ⟨a, b, rfl⟩
 | [], h => simp at h
 | [_], h => simp at h
 | _ :: _ :: _ :: _, h => simp at h; omega
theorem list3 {α : Type} {k : List α} (h : (k.length : Int) = 3) : ∃ a b c, k = [a, b, c] := by
 match k, h with
 | [a, b, c], _ => exact ⟨a, b, c, rfl⟩
 | [], h => simp at h
 | [_], h => simp at h
 | [_, _], h => simp at h
 | _ :: _ :: _ :: _ :: _, h => simp at h; omega
theorem name_kw {s : ByteArray} (h : isName s = true) : isKw s = false := by
 unfold isName at h
 rw [Bool.and_eq_true] at h
 simpa using h.2
theorem name_ne {s t : ByteArray} (h : isName s = true) (ht : isKw t = true) : s ≠ t := fun e => by rw [e] at h; rw [name_kw h] at ht; cases ht
theorem kwNil : isKw sNil = true := by kernel_rfl
theorem kwInt : isKw sInt = true := by kernel_rfl
theorem kwBool : isKw sBool = true := by kernel_rfl
theorem kwThis : isKw sThisF = true := by kernel_rfl
theorem name_E {s : ByteArray} (h : isName s = true) : s ≠ sE := fun e => by
 rw [e] at h
 have : isName sE = false := by unfold isName; rw [decide_eq_false (fun c => c.1 (by kernel_rfl))]; rfl
 rw [this] at h; cases h
section
variable {d : Ds} {m : Mm}
theorem validD_types (h : validD d = true) : (∀ t ∈ d.types, isName t.name = true) /\ (∀ f ∈ d.globals, isName f.name = true) /\ (∀ x ∈ d.measures, msB x = true) /\ (∀ x ∈ d.invs, ivB x = true) := by
 unfold validD at h
 simp only [Bool.and_eq_true] at h
 obtain ⟨⟨⟨⟨⟨h1, h2⟩, -⟩, hT⟩, -⟩, hF⟩ := h
 unfold formB at hF
 simp only [Bool.and_eq_true, List.all_eq_true] at hF hT
 refine ⟨fun t ht => ?_, fun f hf => ?_, hF.1.1.1, hF.1.1.2⟩
 ·have := hT t ht
  unfold tyB at this
  rw [Bool.and_eq_true] at this
  exact this.1
 ·have hg := h1.2
  unfold fldsB at hg
  simp only [Bool.and_eq_true, List.all_eq_true] at hg
  have := hg.2 f hf
  unfold fldB at this
  rw [Bool.and_eq_true] at this
  exact this.1
theorem node_name (h : validD d = true) {s : ByteArray} (hs : isNode d s = true) : isName s = true := by
 obtain ⟨t, ht, e⟩ := List.any_eq_true.1 hs
 rw [<- of_decide_eq_true e]
 exact (validD_types h).1 t ht
def valOk (d : Ds) (m : Mm) (t : ByteArray) (v : Int) : Prop := if t = sNil then v = 0 else rightB d m t v = true
theorem sNil_ne : sNil ≠ sInt /\ sNil ≠ sBool /\ sInt ≠ sNil /\ sBool ≠ sNil /\ sInt ≠ sBool /\ sBool ≠ sInt := by
 refine ⟨of_decide_eq_false ?_, of_decide_eq_false ?_, of_decide_eq_false ?_, of_decide_eq_false ?_, of_decide_eq_false ?_, of_decide_eq_false ?_⟩ <;> kernel_rfl
theorem valOk_int {v : Int} : valOk d m sInt v ↔ -1099511627776 <= v /\ v <= 1099511627776 := by
 unfold valOk rightB
 rw [if_neg sNil_ne.2.2.1, if_pos rfl, decide_eq_true_eq]
theorem valOk_bool {v : Int} : valOk d m sBool v ↔ v = 0 ∨ v = 1 := by
 unfold valOk rightB
 rw [if_neg sNil_ne.2.2.2.1, if_neg sNil_ne.2.2.2.2.2, if_pos rfl, decide_eq_true_eq]
theorem valOk_known (h : validD d = true) {t : ByteArray} (ht : known d t = true) {v : Int} : valOk d m t v ↔ rightB d m t v = true := by
 unfold valOk
 rw [if_neg]
 intro e
 subst e
 unfold known at ht
 rw [decide_eq_false sNil_ne.1, decide_eq_false sNil_ne.2.1] at ht
 exact name_ne (node_name h (by simpa using ht)) kwNil rfl
theorem right_zero {t : ByteArray} (h : isName t = true) : rightB d m t 0 = true := by
 unfold rightB
 rw [if_neg (name_ne h kwInt), if_neg (name_ne h kwBool)]
 exact decide_eq_true (.inl rfl)
theorem valOk_fits (h : validD d = true) {a b : ByteArray} (hf : fits d a b = true) {v : Int} (hv : valOk d m a v) : valOk d m b v := by
 unfold fits at hf
 simp only [Bool.or_eq_true, Bool.and_eq_true, decide_eq_true_eq] at hf
 rcases hf with rfl | ⟨rfl, hb⟩
 ·exact hv
 ·have hn := node_name h hb
  unfold valOk at hv ⊢
  rw [if_pos rfl] at hv
  rw [if_neg (name_ne hn kwNil), hv]
  exact right_zero hn
def This (d : Ds) (m : Mm) (T : ByteArray) (x : Int) : Prop := (T = sE /\ x = 0) ∨ (isNode d T = true /\ x ≠ 0 /\ rightB d m T x = true)
theorem lookF_find : ∀ (l : List Fld) (s : ByteArray), lookF l s = ((l.find? fun f => decide (f.name = s)).map (·.ty)).getD sE
 | [], _ => rfl
 | f :: l, s => by
  unfold lookF
  rw [List.find?_cons]
  by_cases h : f.name = s
  ·rw [if_pos h, decide_eq_true h]; rfl
  ·rw [if_neg h, decide_eq_false h, lookF_find l s]
theorem lookF_idx (l : List Fld) (s : ByteArray) : (lookF l s = sE /\ idxF l s = -1) ∨ ∃ (i : Nat) (f : Fld), idxF l s = i /\ l[i]? = some f /\ lookF l s = f.ty /\ f.name = s := by
 rw [lookF_find]
 unfold idxF
 rcases idx_cases (fun f : Fld => decide (f.name = s)) l with ⟨h1, h2, -⟩ | ⟨i, x, h1, h2, h3, -, h5, -⟩
 ·exact .inl ⟨by rw [h2]; rfl, h1⟩
 ·exact .inr ⟨i, x, h1, h2, by rw [h3]; rfl, of_decide_eq_true h5⟩
theorem hasT_parts' (h : hasT d = true) : typedB d d.globals = true /\ (∀ (i : Nat) (x : Ty), d.types[i]? = some x -> idxT d x.name = (i : Int)) /\ ∀ x ∈ d.types, typedB d x.fields = true := by
 unfold hasT at h
 rw [Bool.and_eq_true, Bool.and_eq_true, allI_iff] at h
 obtain ⟨⟨-, h1⟩, h2⟩ := h
 refine ⟨h1, fun i x hx => ?_, fun x hx => ?_⟩
 ·have := h2 i x hx
  rw [Bool.and_eq_true, decide_eq_true_eq] at this
  exact this.1
 ·obtain ⟨i, hi, rfl⟩ := List.mem_iff_getElem.1 hx
  have := h2 i _ (List.getElem?_eq_getElem hi)
  rw [Bool.and_eq_true] at this
  exact this.2
theorem validM_parts (h : validM d m = true) : hasT d = true /\ m.nodes.length <= 4096 /\ (∀ n ∈ m.nodes, nodeTy d n = true) /\ valuesB d m d.globals m.globals = true /\ ∀ n ∈ m.nodes, valuesB d m (fieldsOf d n.ty) n.f = true := by
 unfold validM at h
 simp only [Bool.and_eq_true, List.all_eq_true, decide_eq_true_eq] at h
 exact ⟨h.1.1.1.1, h.1.1.1.2, h.1.1.2, h.1.2, h.2⟩
theorem values_at {l : List Fld} {vs : List Int} (h : valuesB d m l vs = true) {i : Nat} {f : Fld} (hi : l[i]? = some f) : ∃ v, vs[i]? = some v /\ rightB d m f.ty v = true := by
 unfold valuesB at h
 rw [Bool.and_eq_true, decide_eq_true_eq, allI_iff] at h
 have hl := (List.getElem?_eq_some_iff.1 hi).1
 have hv : vs[i]? = some (vs[i]'(by omega)) := List.getElem?_eq_getElem _
 refine ⟨_, hv, ?_⟩
 have := h.2 i _ hv
 unfold tyAt at this
 rw [hi] at this
 exact this
theorem right_node {t : ByteArray} (hn : isName t = true) {a : Int} (h : rightB d m t a = true) (h0 : a ≠ 0) : 1 <= a /\ a <= (m.nodes.length : Int) /\ ∃ n, m.nodes[(a - 1).toNat]? = some n /\ n ∈ m.nodes /\ n.ty = idxT d t := by
 unfold rightB at h
 rw [if_neg (name_ne hn kwInt), if_neg (name_ne hn kwBool), decide_eq_true_eq] at h
 rcases h with h | ⟨h1, h2, h3⟩
 ·exact absurd h h0
 ·refine ⟨h1, h2, ?_⟩
  cases hx : m.nodes[(a - 1).toNat]? with
  | none => rw [hx] at h3; cases h3
  | some n => rw [hx] at h3; exact ⟨n, rfl, List.mem_of_getElem? hx, by simpa using h3⟩
theorem tyOf_idx {s : ByteArray} {t : Ty} (h : tyOf d s = some t) : ∃ i : Nat, idxT d s = (i : Int) /\ d.types[i]? = some t /\ t.name = s /\ isNode d s = true := by
 unfold tyOf at h
 unfold idxT isNode
 rcases idx_cases (fun t : Ty => decide (t.name = s)) d.types with ⟨-, h2, -⟩ | ⟨i, x, h1, h2, h3, -, h5, -, h7, -⟩
 ·rw [h2] at h; cases h
 ·rw [h3] at h; cases h; exact ⟨i, h1, h2, of_decide_eq_true h5, h7⟩
theorem fld_ok (G : GoodD d m) {t s ty : ByteArray} (ht : fieldT d t s = (ty, 0)) {a : Int} (ha : valOk d m t a) (h0 : a ≠ 0) :
  ∃ (n : Nd) (i j : Nat) (tt : Ty) (f : Fld) (v : Int), m.nodes[(a - 1).toNat]? = some n /\ n ∈ m.nodes /\ 1 <= a /\ a <= (m.nodes.length : Int) /\ n.ty = (j : Int) /\ d.types[j]? = some tt /\ tt ∈ d.types /\ idxF tt.fields s = i /\ tt.fields[i]? = some f /\ n.f[i]? = some v /\ valOk d m ty v /\ fldV d m a s = .ok v := by
 unfold fieldT at ht
 cases hty : tyOf d t with
 | none => rw [hty] at ht; simp at ht
 | some tt =>
  rw [hty] at ht
  simp only at ht
  split at ht
  ·simp at ht
  ·rename_i hl
   simp only [Prod.mk.injEq, and_true] at ht
   obtain ⟨j, hj, hj2, rfl, hnode⟩ := tyOf_idx hty
   have hname := node_name G.valid hnode
   have ha' : rightB d m tt.name a = true := by
    unfold valOk at ha; rw [if_neg (name_ne hname kwNil)] at ha; exact ha
   obtain ⟨b1, b2, n, b3, b4, b5⟩ := right_node hname ha' h0
   rcases lookF_idx tt.fields s with ⟨c1, -⟩ | ⟨i, f, c1, c2, c3, c4⟩
   ·exact absurd c1 hl
   ·have hfo : fieldsOf d n.ty = tt.fields := fieldsOf_at hj2 (b5.trans hj)
    obtain ⟨p1, -, -, -, p5⟩ := validM_parts G.mem
    have hv := p5 n b4
    rw [hfo] at hv
    obtain ⟨v, hv1, hv2⟩ := values_at hv c2
    have hmem := List.mem_of_getElem? hj2
    have hkn : known d f.ty = true := List.all_eq_true.1 ((hasT_parts' p1).2.2 tt hmem) f (List.mem_of_getElem? c2)
    refine ⟨n, i, j, tt, f, v, b3, b4, b1, b2, b5.trans hj, hj2, hmem, c1, c2, hv1, ?_, ?_⟩
    ·rw [<- ht, c3]; exact (valOk_known G.valid hkn).2 hv2
    ·unfold fldV
     rw [if_neg h0, b3]
     simp only
     rw [hfo, c1, Int.toNat_natCast, hv1]; rfl
theorem var_ok (G : GoodD d m) {T s t : ByteArray} {x : Int} (hT : This d m T x) (ht : lookF (inFormS d T).vars s = t) (hne : t ≠ sE) :
  (s = sThisF /\ valOk d m t x) ∨ (s ≠ sThisF /\ ∃ (i : Nat) (f : Fld) (v : Int), idxF d.globals s = i /\ d.globals[i]? = some f /\ m.globals[i]? = some v /\ valOk d m t v /\ varV d m x s = v) := by
 obtain ⟨p1, -, -, p4, -⟩ := validM_parts G.mem
 unfold inFormS at ht
 by_cases hs : s = sThisF
 ·left
  refine ⟨hs, ?_⟩
  rcases hT with ⟨rfl, rfl⟩ | ⟨h1, h2, h3⟩
  ·rw [if_pos rfl, List.nil_append, hs] at ht
   rcases lookF_idx d.globals sThisF with ⟨c1, -⟩ | ⟨i, f, -, c2, -, c4⟩
   ·exact absurd (ht.symm.trans c1) hne
   ·have := (validD_types G.valid).2.1 f (List.mem_of_getElem? c2)
    rw [c4] at this
    exact absurd rfl (name_ne this kwThis)
  ·have hname := node_name G.valid h1
   rw [if_neg (name_E hname), hs] at ht
   simp only [List.singleton_append, lookF, if_true] at ht
   rw [<- ht]
   unfold valOk
   rw [if_neg (name_ne hname kwNil)]; exact h3
 ·right
  refine ⟨hs, ?_⟩
  have ht' : lookF d.globals s = t := by
   rw [<- ht]
   split
   ·rfl
   ·simp only [List.singleton_append]
    rw [lookF, if_neg fun e => hs e.symm]
  rcases lookF_idx d.globals s with ⟨c1, -⟩ | ⟨i, f, c1, c2, c3, -⟩
  ·exact absurd (ht'.symm.trans c1) hne
  ·obtain ⟨v, hv1, hv2⟩ := values_at p4 c2
   have hkn : known d f.ty = true := List.all_eq_true.1 (hasT_parts' p1).1 f (List.mem_of_getElem? c2)
   refine ⟨i, f, v, c1, c2, hv1, ?_, ?_⟩
   ·rw [<- ht', c3]; exact (valOk_known G.valid hkn).2 hv2
   ·unfold varV
    rw [if_neg hs, c1, Int.toNat_natCast, hv1]; rfl
theorem firstE_all {α β : Type} {f : Nat -> α -> Option β} : ∀ {l : List α} {i : Nat}, firstE f i l = none -> ∀ j x, l[j]? = some x -> f (i + j) x = none
 | [], _, _, j, x, hx => by simp at hx
 | y :: l, i, h, j, x, hx => by
  unfold firstE at h
  cases hy : f i y with
  | some b => rw [hy] at h; cases h
  | none =>
   rw [hy] at h
   cases j with
   | zero => simp at hx; subst hx; exact hy
   | succ j => rw [show i + (j + 1) = i + 1 + j by omega]; exact firstE_all h j x (by simpa using hx)
theorem or_none {α : Type} {a b : Option α} (h : a.or b = none) : a = none /\ b = none := by
 cases a with
 | none => exact ⟨rfl, by simpa using h⟩
 | some x => simp at h
theorem chk_parts (h : chkT d = none) : (∀ x ∈ d.measures, isNode d x.ty = true /\ exprT d (inFormS d x.ty) x.x = (sInt, 0)) /\ (∀ x ∈ d.invs, (x.ty = sE ∨ isNode d x.ty = true) /\ exprT d (inFormS d x.ty) x.x = (sBool, 0)) := by
 unfold chkT at h
 obtain ⟨-, h⟩ := or_none h
 obtain ⟨-, h⟩ := or_none h
 obtain ⟨hf, h⟩ := or_none h
 obtain ⟨-, h⟩ := or_none h
 unfold formT at hf
 obtain ⟨f1, hf⟩ := or_none hf
 obtain ⟨f2, -⟩ := or_none hf
 unfold expsT at h
 obtain ⟨e1, h⟩ := or_none h
 obtain ⟨e2, -⟩ := or_none h
 have want : ∀ {sc : Sc} {e : E} {t : ByteArray}, wantT d sc e t = 0 -> exprT d sc e = (t, 0) := fun {sc e t} h => by
  unfold wantT at h
  split at h
  ·rename_i h'; exact absurd h h'
  ·rename_i h'
   split at h
   ·rename_i h2
    exact Prod.ext h2 (by simpa using h')
   ·cases h
 refine ⟨fun x hx => ?_, fun x hx => ?_⟩
 ·obtain ⟨i, hi, rfl⟩ := List.mem_iff_getElem.1 hx
  have a1 := firstE_all f1 i _ (List.getElem?_eq_getElem hi)
  have a2 := firstE_all e1 i _ (List.getElem?_eq_getElem hi)
  constructor
  ·split at a1
   ·cases a1
   ·split at a1
    ·cases a1
    ·rename_i h; simpa using h
  ·split at a2
   ·cases a2
   ·rename_i h; exact want (by simpa using h)
 ·obtain ⟨i, hi, rfl⟩ := List.mem_iff_getElem.1 hx
  have a1 := firstE_all f2 i _ (List.getElem?_eq_getElem hi)
  have a2 := firstE_all e2 i _ (List.getElem?_eq_getElem hi)
  constructor
  ·split at a1
   ·cases a1
   ·split at a1
    ·cases a1
    ·rename_i h
     by_cases hs : d.invs[i].ty = sE
     ·exact .inl hs
     ·right
      cases hn : isNode d d.invs[i].ty with
      | true => rfl
      | false => exact absurd ⟨hs, hn⟩ h
  ·split at a2
   ·cases a2
   ·rename_i h; exact want (by simpa using h)
end
end Go.Proofs
namespace Go.Proofs
open Go Go.Sx
section
variable {d : Ds} {m : Mm}
theorem kidR_at {f : E -> Rs} {k : List E} {i : Nat} {e : E} (h : k[i]? = some e) : kidR (k.map f) i = f e := by
 unfold kidR
 rw [List.getD_eq_getElem?_getD, List.getElem?_map, h]; rfl
theorem bind_ok {r : Rs} {f : Int -> Rs} {v : Int} (h : r.bind f = .ok v) : ∃ a, r = .ok a /\ f a = .ok v := by
 cases r with
 | ok a => exact ⟨a, rfl, h⟩
 | bad e => cases h
theorem big_ok {n v : Int} (h : big n = .ok v) : v = n /\ -1099511627776 <= v /\ v <= 1099511627776 := by
 unfold big at h
 split at h
 ·cases h; rename_i h1; exact ⟨rfl, h1⟩
 ·cases h
theorem trI_b (b : Bool) : trI b = 0 ∨ trI b = 1 := by cases b <;> simp [trI]
theorem needT_ok {ok : Bool} {t t' : ByteArray} (h : needT ok t = (t', 0)) : ok = true /\ t = t' := by
 unfold needT at h
 split at h
 ·rename_i h1; simp only [Prod.mk.injEq, and_true] at h; exact ⟨h1, h⟩
 ·simp at h
theorem tdiv_in {a b : Int} (ha : -1099511627776 <= a /\ a <= 1099511627776) : -1099511627776 <= a.tdiv b /\ a.tdiv b <= 1099511627776 := by
 have := Int.natAbs_tdiv_le_natAbs a b
 omega
theorem tmod_in {a b : Int} (ha : -1099511627776 <= a /\ a <= 1099511627776) : -1099511627776 <= a.tmod b /\ a.tmod b <= 1099511627776 := by
 have h1 := Int.natAbs_tmod a b
 have := Nat.mod_le a.natAbs b.natAbs
 omega
theorem log_in {a : Int} (ha : a <= 1099511627776) : 0 <= logV a /\ logV a <= 1099511627776 := by
 unfold logV
 have : Nat.log2 a.toNat <= a.toNat := Nat.log2_le_self _
 omega
inductive Kind (d : Ds) (sc : Sc) (e : E) : ByteArray -> Prop where
 | int (h : e.op = 1) (hn : 0 <= e.n /\ e.n <= 1099511627776) : Kind d sc e sInt
 | bool (h : e.op = 2) (hn : e.n = 0 ∨ e.n = 1) : Kind d sc e sBool
 | nil (h : e.op = 3) (hn : e.n = 0) : Kind d sc e sNil
 | var {t} (h : e.op = 4) (hl : lookF sc.vars e.s = t) (hne : t ≠ sE) : Kind d sc e t
 | fld {t u} {a : E} (h : e.op = 5) (hk : e.k = [a]) (ha : exprT d sc a = (u, 0)) (ht : fieldT d u e.s = (t, 0)) : Kind d sc e t
 | call {u} {a : E} {ms : Ms} {i : Nat} (h : e.op = 7) (hk : e.k = [a]) (ha : exprT d sc a = (u, 0)) (hi : mIdx d e.s = i) (hms : d.measures[i]? = some ms) (hf : fits d u ms.ty = true) : Kind d sc e sInt
 | neg {a : E} (h : e.op = 8) (hk : e.k = [a]) (ha : exprT d sc a = (sInt, 0)) : Kind d sc e sInt
 | not {a : E} (h : e.op = 18) (hk : e.k = [a]) (ha : exprT d sc a = (sBool, 0)) : Kind d sc e sBool
 | log {a : E} (h : e.op = 24) (hk : e.k = [a]) (ha : exprT d sc a = (sInt, 0)) : Kind d sc e sInt
 | and {a b : E} (h : e.op = 19) (hk : e.k = [a, b]) (ha : exprT d sc a = (sBool, 0)) (hb : exprT d sc b = (sBool, 0)) : Kind d sc e sBool
 | or {a b : E} (h : e.op = 20) (hk : e.k = [a, b]) (ha : exprT d sc a = (sBool, 0)) (hb : exprT d sc b = (sBool, 0)) : Kind d sc e sBool
 | cond {a b c : E} {t u w} (h : e.op = 21) (hk : e.k = [a, b, c]) (ha : exprT d sc a = (sBool, 0)) (hb : exprT d sc b = (u, 0)) (hc : exprT d sc c = (w, 0)) (hu : u = t ∨ fits d u t = true) (hw : w = t ∨ fits d w t = true) : Kind d sc e t
 | eq {a b : E} {u w} (h : e.op = 14 ∨ e.op = 15) (hk : e.k = [a, b]) (ha : exprT d sc a = (u, 0)) (hb : exprT d sc b = (w, 0)) : Kind d sc e sBool
 | cmp {a b : E} (h : e.op = 16 ∨ e.op = 17) (hk : e.k = [a, b]) (ha : exprT d sc a = (sInt, 0)) (hb : exprT d sc b = (sInt, 0)) : Kind d sc e sBool
 | ari {a b : E} (h : e.op = 9 ∨ e.op = 10 ∨ e.op = 11 ∨ e.op = 12 ∨ e.op = 13 ∨ e.op = 22 ∨ e.op = 23) (hk : e.k = [a, b]) (ha : exprT d sc a = (sInt, 0)) (hb : exprT d sc b = (sInt, 0)) : Kind d sc e sInt
theorem allT1 {t u : ByteArray} (h : allT [t] u = true) : t = u := by simpa [allT] using h
theorem allT2 {t t' u : ByteArray} (h : allT [t, t'] u = true) : t = u /\ t' = u := by simpa [allT] using h
theorem pairE {p : ByteArray × Int} {t : ByteArray} (h1 : p.1 = t) (h2 : p.2 = 0) : p = (t, 0) := Prod.ext h1 h2
theorem kind {sc : Sc} (hsc : sc.body = false) {e : E} {t : ByteArray} (hv : VE e) (ht : exprT d sc e = (t, 0)) : Kind d sc e t := by
 obtain ⟨hk, hn⟩ := typed_parts ht
 obtain ⟨a1, a2, a3, a4⟩ := arityB hv.node
 unfold nodeT at hn
 unfold numB at a4
 have one : partsN e.op = 1 -> ∃ a, e.k = [a] := fun h => list1 ((a2 (by omega)).trans h)
 have two : partsN e.op = 2 -> ∃ a b, e.k = [a, b] := fun h => list2 ((a2 (by omega)).trans h)
 have three : partsN e.op = 3 -> ∃ a b c, e.k = [a, b, c] := fun h => list3 ((a2 (by omega)).trans h)
 by_cases h1 : e.op = 1
 ·rw [if_pos h1] at hn a4
  cases hn; exact .int h1 (of_decide_eq_true a4)
 rw [if_neg h1] at hn a4
 by_cases h2 : e.op = 2
 ·rw [if_pos h2] at hn a4
  cases hn; exact .bool h2 (of_decide_eq_true a4)
 rw [if_neg h2] at hn a4
 have a4 : e.n = 0 := of_decide_eq_true a4
 by_cases h3 : e.op = 3
 ·rw [if_pos h3] at hn
  cases hn; exact .nil h3 a4
 rw [if_neg h3] at hn
 by_cases h4 : e.op = 4
 ·rw [if_pos h4] at hn
  split at hn
  ·simp at hn
  ·rename_i hne
   simp only [Prod.mk.injEq, and_true] at hn
   exact .var h4 hn (hn ▸ hne)
 rw [if_neg h4] at hn
 by_cases h5 : e.op = 5
 ·obtain ⟨a, ha⟩ := one (by rw [h5]; rfl)
  rw [if_pos h5, ha] at hn
  rw [ha] at hk
  exact .fld h5 ha (pairE rfl (hk a (by simp))) hn
 rw [if_neg h5] at hn
 by_cases h6 : e.op = 6
 ·rw [if_pos h6, if_pos hsc] at hn
  simp at hn
 rw [if_neg h6] at hn
 by_cases h7 : e.op = 7
 ·rw [if_pos h7] at hn
  unfold callE at hn
  rw [if_neg (by rw [hsc]; decide)] at hn
  unfold measT meOf at hn
  unfold mIdx at *
  rcases idx_cases (fun x : Ms => decide (x.name = e.s)) d.measures with ⟨-, q2, -⟩ | ⟨i, ms, q1, q2, q3, -⟩
  ·rw [q2] at hn; simp at hn
  ·rw [q3] at hn
   simp only at hn
   split at hn
   ·simp at hn
   ·rename_i hl
    obtain ⟨a, ha⟩ : ∃ a, e.k = [a] := list1 (by simp at hl; omega)
    rw [ha] at hn hk
    obtain ⟨b1, rfl⟩ := needT_ok hn
    exact .call h7 ha (pairE rfl (hk a (by simp))) q1 q2 (by simpa using b1)
 rw [if_neg h7] at hn
 by_cases h14 : e.op = 14 ∨ e.op = 15
 ·obtain ⟨a, b, hab⟩ := two (by rcases h14 with h | h <;> (rw [h]; rfl))
  rw [if_pos h14] at hn
  rw [hab] at hk
  obtain ⟨-, rfl⟩ := needT_ok hn
  exact .eq h14 hab (pairE rfl (hk a (by simp))) (pairE rfl (hk b (by simp)))
 rw [if_neg h14] at hn
 by_cases h16 : e.op = 16 ∨ e.op = 17
 ·obtain ⟨a, b, hab⟩ := two (by rcases h16 with h | h <;> (rw [h]; rfl))
  rw [if_pos h16, hab] at hn
  rw [hab] at hk
  obtain ⟨g, rfl⟩ := needT_ok hn
  obtain ⟨g1, g2⟩ := allT2 g
  exact .cmp h16 hab (pairE g1 (hk a (by simp))) (pairE g2 (hk b (by simp)))
 rw [if_neg h16] at hn
 by_cases h18 : e.op = 18 ∨ e.op = 19 ∨ e.op = 20
 ·rw [if_pos h18] at hn
  rcases h18 with h | h
  ·obtain ⟨a, ha⟩ := one (by rw [h]; rfl)
   rw [ha] at hn hk
   obtain ⟨g, rfl⟩ := needT_ok hn
   exact .not h ha (pairE (allT1 g) (hk a (by simp)))
  ·obtain ⟨a, b, hab⟩ := two (by rcases h with h | h <;> (rw [h]; rfl))
   rw [hab] at hn hk
   obtain ⟨g, rfl⟩ := needT_ok hn
   obtain ⟨g1, g2⟩ := allT2 g
   rcases h with h | h
   ·exact .and h hab (pairE g1 (hk a (by simp))) (pairE g2 (hk b (by simp)))
   ·exact .or h hab (pairE g1 (hk a (by simp))) (pairE g2 (hk b (by simp)))
 rw [if_neg h18] at hn
 by_cases h21 : e.op = 21
 ·obtain ⟨a, b, c, habc⟩ := three (by rw [h21]; rfl)
  rw [if_pos h21, habc] at hn
  rw [habc] at hk
  obtain ⟨g, g2⟩ := needT_ok hn
  simp only [List.map_cons, List.map_nil, List.getD_cons_zero, List.getD_cons_succ, Bool.and_eq_true, decide_eq_true_eq, Bool.or_eq_true] at g g2
  refine .cond h21 habc (pairE g.1 (hk a (by simp))) (pairE rfl (hk b (by simp))) (pairE rfl (hk c (by simp))) ?_ ?_
  ·split at g2
   ·rename_i g3
    subst g2
    rcases g.2 with g | g
    ·exact .inr g
    ·unfold fits at g ⊢
     simp only [Bool.or_eq_true, decide_eq_true_eq, Bool.and_eq_true] at g ⊢
     rcases g with g | g
     ·exact .inl g.symm
     ·exact .inl (g3.trans g.1.symm)
   ·exact .inl g2
  ·split at g2
   ·exact .inl g2
   ·rename_i g3
    subst g2
    rcases g.2 with g | g
    ·unfold fits at g ⊢
     simp only [Bool.or_eq_true, decide_eq_true_eq, Bool.and_eq_true] at g ⊢
     rcases g with g | g
     ·exact .inl g.symm
     ·exact absurd g.1 g3
    ·exact .inr g
 rw [if_neg h21] at hn
 obtain ⟨g, rfl⟩ := needT_ok hn
 have hop : e.op = 8 ∨ e.op = 24 ∨ (e.op = 9 ∨ e.op = 10 ∨ e.op = 11 ∨ e.op = 12 ∨ e.op = 13 ∨ e.op = 22 ∨ e.op = 23) := by
  unfold partsN at a1
  grind
 rcases hop with h | h | h
 ·obtain ⟨a, ha⟩ := one (by rw [h]; rfl)
  rw [ha] at g hk
  exact .neg h ha (pairE (allT1 g) (hk a (by simp)))
 ·obtain ⟨a, ha⟩ := one (by rw [h]; rfl)
  rw [ha] at g hk
  exact .log h ha (pairE (allT1 g) (hk a (by simp)))
 ·obtain ⟨a, b, hab⟩ := two (by rcases h with h | h | h | h | h | h | h <;> (rw [h]; rfl))
  rw [hab] at g hk
  obtain ⟨g1, g2⟩ := allT2 g
  exact .ari h hab (pairE g1 (hk a (by simp))) (pairE g2 (hk b (by simp)))
theorem two_ok {op a b v : Int} (h : op = 9 ∨ op = 10 ∨ op = 11 ∨ op = 12 ∨ op = 13 ∨ op = 22 ∨ op = 23) (ha : -1099511627776 <= a /\ a <= 1099511627776) (hb : -1099511627776 <= b /\ b <= 1099511627776) (hv : twoV op a b = .ok v) : -1099511627776 <= v /\ v <= 1099511627776 := by
 unfold twoV at hv
 split at hv
 ·exact (big_ok hv).2
 split at hv
 ·exact (big_ok hv).2
 split at hv
 ·exact (big_ok hv).2
 split at hv
 ·cases hv; split <;> assumption
 split at hv
 ·cases hv; split <;> assumption
 repeat' (split at hv; (first | omega | cases hv))
 ·exact tdiv_in ha
 ·cases hv; exact tmod_in ha
theorem twoB_ok {op a b v : Int} (h : op = 14 ∨ op = 15 ∨ op = 16 ∨ op = 17) (hv : twoV op a b = .ok v) : v = 0 ∨ v = 1 := by
 rcases h with rfl | rfl | rfl | rfl
 ·have : trI (decide (a = b)) = v := by injection hv
  rw [<- this]; exact trI_b _
 ·have : trI (!decide (a = b)) = v := by injection hv
  rw [<- this]; exact trI_b _
 ·have : trI (decide (a < b)) = v := by injection hv
  rw [<- this]; exact trI_b _
 ·have : trI (decide (a <= b)) = v := by injection hv
  rw [<- this]; exact trI_b _
theorem sound_comb (G : GoodD d m) {F : Int -> Int -> Rs} (hF : ∀ (i : Nat) ms x v, d.measures[i]? = some ms -> valOk d m ms.ty x -> F i x = .ok v -> valOk d m sInt v) {T : ByteArray} {x : Int} (hT : This d m T x) :
  ∀ (e : E) (t : ByteArray) (v : Int), VE e -> exprT d (inFormS d T) e = (t, 0) -> evE d m F x e = .ok v -> valOk d m t v := by
 intro e
 induction e using E.ind with
 | h e ih =>
 intro t v hv ht he
 rw [evE_eq] at he
 have k0 : ∀ {a : E} {l : List E}, e.k = a :: l -> kidR (e.k.map (evE d m F x)) 0 = evE d m F x a := fun h => kidR_at (by rw [h]; rfl)
 have k1 : ∀ {a b : E} {l : List E}, e.k = a :: b :: l -> kidR (e.k.map (evE d m F x)) 1 = evE d m F x b := fun h => kidR_at (by rw [h]; rfl)
 have k2 : ∀ {a b c : E} {l : List E}, e.k = a :: b :: c :: l -> kidR (e.k.map (evE d m F x)) 2 = evE d m F x c := fun h => kidR_at (by rw [h]; rfl)
 have mem0 : ∀ {a : E} {l : List E}, e.k = a :: l -> a ∈ e.k := fun h => by rw [h]; simp
 have mem1 : ∀ {a b : E} {l : List E}, e.k = a :: b :: l -> b ∈ e.k := fun h => by rw [h]; simp
 have mem2 : ∀ {a b c : E} {l : List E}, e.k = a :: b :: c :: l -> c ∈ e.k := fun h => by rw [h]; simp
 have I : ∀ {a : E} {u : ByteArray} {w : Int}, a ∈ e.k -> exprT d (inFormS d T) a = (u, 0) -> evE d m F x a = .ok w -> valOk d m u w := fun hm ha hw => ih _ hm _ _ (hv.kids _ hm) ha hw
 cases kind (d := d) (sc := inFormS d T) rfl hv ht with
 | int h hn =>
  rw [comb1 (.inl h)] at he
  injection he with he
  rw [valOk_int]; omega
 | bool h hn =>
  rw [comb1 (.inr h)] at he
  injection he with he
  rw [valOk_bool]; omega
 | nil h hn =>
  rw [comb3 h] at he
  injection he with he
  unfold valOk; rw [if_pos rfl]; exact he.symm
 | var h hl hne =>
  rw [comb4 h] at he
  injection he with he
  rcases var_ok G hT hl hne with ⟨h1, h2⟩ | ⟨h1, i, f, v', h2, h3, h4, h5, h6⟩
  ·unfold varV at he; rw [if_pos h1] at he; rw [<- he]; exact h2
  ·rw [<- he, h6]; exact h5
 | fld h hk ha hf =>
  rw [comb5 h, k0 hk] at he
  obtain ⟨a, h1, h2⟩ := bind_ok he
  have hav := I (mem0 hk) ha h1
  by_cases h0 : a = 0
  ·unfold fldV at h2; rw [if_pos h0] at h2; cases h2
  ·obtain ⟨_, _, _, _, _, w, -, -, -, -, -, -, -, -, -, -, g1, g2⟩ := fld_ok G hf hav h0
   rw [g2] at h2; cases h2; exact g1
 | call h hk ha hi hms hf =>
  rw [comb7 h, k0 hk, hi] at he
  obtain ⟨a, h1, h2⟩ := bind_ok he
  exact hF _ _ _ _ hms (valOk_fits G.valid hf (I (mem0 hk) ha h1)) h2
 | neg h hk ha =>
  rw [comb8 h, k0 hk] at he
  obtain ⟨a, h1, h2⟩ := bind_ok he
  rw [valOk_int]; exact (big_ok h2).2
 | not h hk ha =>
  rw [comb18 h, k0 hk] at he
  obtain ⟨a, h1, h2⟩ := bind_ok he
  cases h2
  have := valOk_bool.1 (I (mem0 hk) ha h1)
  rw [valOk_bool]; omega
 | log h hk ha =>
  rw [comb24 h, k0 hk] at he
  obtain ⟨a, h1, h2⟩ := bind_ok he
  cases h2
  have := valOk_int.1 (I (mem0 hk) ha h1)
  have := log_in (a := a) this.2
  rw [valOk_int]; omega
 | and h hk ha hb =>
  rw [comb19 h, k0 hk, k1 hk] at he
  obtain ⟨a, h1, h2⟩ := bind_ok he
  split at h2
  ·cases h2; rw [valOk_bool]; exact .inl rfl
  ·exact I (mem1 hk) hb h2
 | or h hk ha hb =>
  rw [comb20 h, k0 hk, k1 hk] at he
  obtain ⟨a, h1, h2⟩ := bind_ok he
  split at h2
  ·exact I (mem1 hk) hb h2
  ·cases h2; rw [valOk_bool]; exact .inr rfl
 | cond h hk ha hb hc hu hw =>
  rw [comb21 h, k0 hk, k1 hk, k2 hk] at he
  obtain ⟨a, h1, h2⟩ := bind_ok he
  split at h2
  ·have := I (mem2 hk) hc h2
   rcases hw with rfl | hw
   ·exact this
   ·exact valOk_fits G.valid hw this
  ·have := I (mem1 hk) hb h2
   rcases hu with rfl | hu
   ·exact this
   ·exact valOk_fits G.valid hu this
 | eq h hk ha hb =>
  rw [combTwo (by omega), k0 hk, k1 hk] at he
  obtain ⟨a, h1, h2⟩ := bind_ok he
  obtain ⟨b, h3, h4⟩ := bind_ok h2
  rw [valOk_bool]; exact twoB_ok (by omega) h4
 | cmp h hk ha hb =>
  rw [combTwo (by omega), k0 hk, k1 hk] at he
  obtain ⟨a, h1, h2⟩ := bind_ok he
  obtain ⟨b, h3, h4⟩ := bind_ok h2
  rw [valOk_bool]; exact twoB_ok (by omega) h4
 | ari h hk ha hb =>
  rw [combTwo (by omega), k0 hk, k1 hk] at he
  obtain ⟨a, h1, h2⟩ := bind_ok he
  obtain ⟨b, h3, h4⟩ := bind_ok h2
  rw [valOk_int]; exact two_ok h (valOk_int.1 (I (mem0 hk) ha h1)) (valOk_int.1 (I (mem1 hk) hb h3)) h4
theorem msB_parts {x : Ms} (h : msB x = true) : isName x.ty = true /\ (-1099511627776 <= x.nil /\ x.nil <= 1099511627776) /\ VE x.x := by
 unfold msB at h
 simp only [Bool.and_eq_true, decide_eq_true_eq] at h
 exact ⟨h.1.1.2, h.1.2, VE.of_valid h.2⟩
theorem sound_M (G : GoodD d m) : ∀ (n : Nat) (i : Nat) ms x v, d.measures[i]? = some ms -> valOk d m ms.ty x -> evM d m n i x = .ok v -> valOk d m sInt v := by
 intro n
 have hnil : ∀ (i : Nat) ms, d.measures[i]? = some ms -> valOk d m sInt (nilM d i) := fun i ms h => by
  rw [valOk_int]
  unfold nilM
  rw [Int.toNat_natCast, h]
  exact (msB_parts ((validD_types G.valid).2.2.1 ms (List.mem_of_getElem? h))).2.1
 induction n with
 | zero =>
  intro i ms x v hms hx hv
  unfold evM at hv
  split at hv
  ·cases hv; exact hnil i ms hms
  ·cases hv
 | succ n ih =>
  intro i ms x v hms hx hv
  rw [evM] at hv
  split at hv
  ·cases hv; exact hnil i ms hms
  ·rename_i h0
   rw [Int.toNat_natCast, hms] at hv
   simp only at hv
   have hmem := List.mem_of_getElem? hms
   obtain ⟨c1, c2⟩ := (chk_parts G.chk).1 ms hmem
   have hT : This d m ms.ty x := .inr ⟨c1, h0, by
    unfold valOk at hx
    rw [if_neg (name_ne (node_name G.valid c1) kwNil)] at hx
    exact hx⟩
   exact sound_comb G ih hT ms.x sInt v (msB_parts ((validD_types G.valid).2.2.1 ms hmem)).2.2 c2 hv
theorem sound (G : GoodD d m) {T : ByteArray} {x : Int} (hT : This d m T x) {e : E} {t : ByteArray} {v : Int} (hv : VE e) (ht : exprT d (inFormS d T) e = (t, 0)) {n : Nat} (he : evE d m (evM d m n) x e = .ok v) : valOk d m t v :=
 sound_comb G (sound_M G n) hT e t v hv ht he
end
end Go.Proofs
namespace Go.Sx
open Go
def wideR (r : Option Nat) : Fence := { Fence.wide with round := r }
section
variable {P : Program} {r : Option Nat} {n : Nat}
theorem callsIn_wideR {f : FuncId} {args : Array Value} {w : World} {R : Ending -> World -> Prop} : CallsIn (wideR r) n P f args w R ↔ Calls P f args w R := callsIn_wide (n := n)
theorem rowsIn_wideR {row : String} {args : Array Value} {w : World} {R : Value -> World -> Prop} (h : Rows P row args w R) : RowsIn (wideR r) n P row args w R := fun c cs _ =>
 let ⟨v, w', q, s⟩ := h c cs
 ⟨v, w', q, stepsIn_wide.2 s⟩
theorem wpIn_of_wp {o : Oper} {a : Act} {w : World} {next : Act -> World -> Prop} {Q : Exit -> Act -> World -> Prop} (hd : ∀ c, o.op ≠ .defer c) (h : o.wp P a w next Q) : o.wpIn (wideR r) n P a w next Q := by
 refine ⟨fun _ _ => trivial, ?_⟩
 rw [Oper.semAt_eq _ _ _ hd]
 unfold Oper.wp at h
 revert h
 generalize (execOp a.eval o).run P w = res
 intro h
 cases res with
 | ok x w' =>
  cases x with
  | enter f args => exact ⟨fun h => by simp [wideR, Fence.wide] at h, callsIn_wideR.2 h⟩
  | row row args => exact ⟨fun h => by simp [wideR, Fence.wide] at h, rowsIn_wideR h⟩
  | value v => exact h
  | skip => exact h
  | defer d => exact h
  | _ => exact h.elim
 | halt x w' => cases x <;> first | exact h | exact h.elim
def opNoDefer : Op -> Bool
 | .defer _ => false
 | _ => true
theorem opNoDefer_spec {o : Op} (h : opNoDefer o = true) : ∀ c, o ≠ .defer c := fun c e => by subst e; cases h
def noDefer : Code -> Bool
 | .region _ ops _ => ops.all fun o => opNoDefer o.op
 | .seq x y => noDefer x && noDefer y
 | .block _ b => noDefer b
 | .cond _ x y => noDefer x && noDefer y
 | .loop b => noDefer b
 | _ => true
theorem wpOpsIn_of_wpList {ops : Array Oper} {Q : Exit -> Act -> World -> Prop} (hno : ¬ LetsOut Q) (hd : ∀ o ∈ ops, ∀ c, o.op ≠ .defer c) (l : List Oper) : ∀ k, (∀ j, j < l.length -> l[j]? = ops[k + j]?) -> ∀ a w, wpList P ops Q l a w ->
  wpOpsIn (wideR r) n P ops Q (List.range' k l.length) a w := by
 induction l with
 | nil => intro k _ a w h; simpa [wpOpsIn, wpList] using h
 | cons o l ih =>
  intro k h a w hw
  have h0 : ops[k]? = some o := by simpa using (h 0 (by simp)).symm
  have ih' := ih (k + 1) (fun j hj => by have := h (j + 1) (by simpa using hj); simpa [Nat.add_assoc, Nat.add_comm 1 j] using this)
  simp only [List.length_cons, List.range'_succ, wpOpsIn, h0]
  simp only [wpList] at hw
  split
  ·rename_i hy
   rw [if_pos hy] at hw
   rcases hw with hw | ⟨_, hw⟩
   ·exact wpIn_of_wp (hd o (Array.mem_of_getElem? h0)) (Oper.wp_mono (fun a w h => ih' a w h) hw)
   ·exact (hno hw).elim
  ·rename_i hy
   rw [if_neg hy] at hw
   exact ⟨fun _ _ => trivial, ih' _ _ hw⟩
theorem wpAnyIn_of_wpAny {ops : Array Oper} {Q : Exit -> Act -> World -> Prop} (hno : ¬ LetsOut Q) (hd : ∀ o ∈ ops, ∀ c, o.op ≠ .defer c) {md : Region.Mode} : ∀ fuel listed a w, wpAny P md ops Q fuel listed a w ->
  wpAnyIn (wideR r) n P md ops Q fuel listed a w := by
 intro fuel
 induction fuel with
 | zero => exact fun _ _ _ h => h
 | succ fuel ih =>
  rintro listed a w ⟨h1, h2⟩
  refine ⟨h1, fun i hi => ?_⟩
  have := h2 i hi
  unfold wpOp at this
  unfold wpOpIn
  split
  ·rename_i ho
   simp only [ho] at this
   exact ih _ _ _ this
  ·rename_i o ho
   simp only [ho] at this
   split
   ·rename_i hy
    rw [if_pos hy] at this
    rcases this with hw | ⟨_, hw⟩
    ·exact wpIn_of_wp (hd o (Array.mem_of_getElem? ho)) (Oper.wp_mono (fun a w h => ih _ a w h) hw)
    ·exact (hno hw).elim
   ·rename_i hy
    rw [if_neg hy] at this
    exact ⟨fun _ _ => trivial, ih _ _ _ this⟩
end
open Classical in
theorem wpIn_loop_rel {P : Program} {F : Fence} {n₀ : Nat} {c : Code} {Q : Exit -> Act -> World -> Prop} {a : Act} {w : World} (Inv : Nat -> Act -> World -> Prop) (h0 : ∃ n, Inv n a w)
  (round : ∀ n a w, Inv n a w -> c.wpIn F n₀ P (Exit.then (fun a' w' => ∃ n', n' < n /\ Inv n' a' w') Q) a w) : (Code.loop c).wpIn F n₀ P Q a w := by
 let m : Act -> World -> Nat := fun a w => if h : ∃ n, Inv n a w then Classical.choose (exists_min _ h) else 0
 have hm : ∀ a w (h : ∃ n, Inv n a w), Inv (m a w) a w /\ ∀ k, Inv k a w -> m a w <= k := fun a w h => by
  have e : m a w = Classical.choose (exists_min _ h) := by simp only [m, dif_pos h]
  rw [e]; exact Classical.choose_spec (exists_min _ h)
 refine wpIn_loop (fun a w => ∃ n, Inv n a w) m h0 fun a w hI => ?_
 obtain ⟨h1, h2⟩ := hm a w hI
 refine wpIn_mono (round _ a w h1) (fun e a' w' q => ?_)
 cases e with
 | normal =>
  obtain ⟨n', h3, h4⟩ := q
  exact ⟨⟨n', h4⟩, Nat.lt_of_le_of_lt ((hm a' w' ⟨n', h4⟩).2 n' h4) h3⟩
 | _ => exact q
section
variable {all : Array Oper} {k : St -> Tr} {Q : Exit -> Act -> World -> Prop}
variable {P : Program} {R : Ending -> Mem -> Prop} {V0 : Mem} {w0 : World} {L : List (List Value -> Mem -> Prop)} {ρ0 : List Value} {fs : List Nat} {H : Hint}
theorem region_draw_any (hcalls : CallsOk P fs) {st : St} {a : Act} {w : World} (hQ : PanOk R V0 w0 a.defers Q) (h : Goes P R noO V0 w0 H.N L ρ0 a.tmps w st (exRegionDraw P fs H all st k))
  (hlo : LetsOut (fun (_ : Exit) (_ : Act) (_ : World) => False) -> LetsOut Q)
  (hk : ∀ st' a' w', a'.defers = a.defers -> Goes P R noO V0 w0 H.N L ρ0 a'.tmps w' st' (k st') -> Q .normal a' w') : wpAny P .any all Q all.size (Array.replicate all.size false) a { w with drawn := w.drawn + 1 } := by
 unfold exRegionDraw at h
 simp only at h
 obtain ⟨β, ρ, V, hp, hr, hD⟩ := h
 split at hD
 case isFalse => exact hD.elim
 rename_i hc
 simp only [Bool.and_eq_true, List.all_eq_true] at hc
 obtain ⟨hc1, hc2⟩ := hc
 obtain ⟨hok, h2, h3, h4, h5⟩ := drawOk_spec hc1
 have hrep : ∀ j d, j < all.size -> (Array.replicate all.size false).getD j d = false := fun j d hj => by simp [Array.getD, hj]
 refine (any_sound hcalls hok (fun i o ho => hc2 o (by have := Array.mem_of_getElem? ho; simpa using this)) hQ hlo hk all.size (List.range all.size) (orderGo all (masksOf all.toList []) all.size 0) [] st _ a _ a [] noO (fun x => x) ?_ rfl List.nodup_range (by simp) fun j => ?_)
 ·exact
  {lsize := by simp
   closed := fun j oj hj hl => by
    rw [hrep j _ (Array.getElem?_eq_some_iff.1 hj).1] at hl; cases hl
   chain := h5
   nd := h3
   bound := h4
   unl := fun j hj _ => .inr (nodup_all h3 h4 h2 hj)
   pu := fun j hj => by cases hj
   ru := fun j hj => .inl (hrep j _ (h4 j hj))
   boi := fun i hi j hj hl => by rw [hrep i _ (h4 i hi)] at hl; cases hl
   fsize := rfl
   fdef := rfl
   fill := fun s _ => rfl
   goes := ⟨_, β, ρ, V, hp, hr.drawn _, hD⟩ }
 ·rw [List.mem_range]
  constructor
  ·exact fun h => ⟨h, hrep j _ h⟩
  ·exact fun h => h.1
end
section
variable {P : Program} {R : Ending -> Mem -> Prop} {O V0 : Mem} {w0 : World} {fs : List Nat} {H : Hint}
theorem noOut (Q : Exit -> Act -> World -> Prop) : ¬ LetsOut (fun e a' w' => e ≠ .outgrown /\ Q e a' w') := fun ⟨_, _, h⟩ => h.1 rfl
theorem nd1 {x y : Bool} (h : (x && y) = true) : x = true := by cases x <;> simp_all
theorem nd2 {x y : Bool} (h : (x && y) = true) : y = true := by cases x <;> simp_all
theorem ndOps {id : Nat} {ops : Array Oper} {d : Bool} (h : noDefer (.region id ops d) = true) : ∀ o ∈ ops, opNoDefer o.op = true := by
 simp only [noDefer, Array.all_eq_true'] at h
 exact h
theorem ex_sound_in {r : Option Nat} {n₀ : Nat} (hcalls : CallsOk P fs) (hm : P.follows .mixedOrders = true) : ∀ (c : Code), noDefer c = true -> ∀ (L : List (List Value -> Mem -> Prop)) (ρ0 : List Value) (st : St) (k : Ex -> St -> Tr) (a : Act) (w : World) (Q : Exit -> Act -> World -> Prop),
  PanOk R V0 w0 a.defers Q -> Goes P R noO V0 w0 H.N L ρ0 a.tmps w st (ex P fs H c st k) ->
  (∀ e st' a' w' L', L <+: L' -> a'.defers = a.defers -> Goes P R noO V0 w0 H.N L' ρ0 a'.tmps w' st' (k e st') -> Q e.toExit a' w') -> c.wpIn (wideR r) n₀ P Q a w := by
 intro c
 induction c with
 | skip => intro nd L ρ0 st k a w Q hQ h hk; exact wpIn_skip (hk .normal st a w L (List.prefix_refl _) rfl h)
 | ret => intro nd L ρ0 st k a w Q hQ h hk; exact wpIn_ret (hk .ret st a w L (List.prefix_refl _) rfl h)
 | exit id => intro nd L ρ0 st k a w Q hQ h hk; exact wpIn_exit (hk (.exit id) st a w L (List.prefix_refl _) rfl h)
 | seq x y ihx ihy =>
  intro nd L ρ0 st k a w Q hQ h hk
  refine wpIn_seq (ihx (nd1 nd) L ρ0 st _ a w _ hQ h fun e st' a' w' L' hL hd hg => ?_)
  cases e with
  | normal => exact ihy (nd2 nd) L' ρ0 st' k a' w' Q (by rw [hd]; exact hQ) hg fun e st'' a'' w'' L'' hL' hd' hg' => hk e st'' a'' w'' L'' (hL.trans hL') (hd'.trans hd) hg'
  | exit i => exact hk (.exit i) st' a' w' L' hL hd hg
  | ret => exact hk .ret st' a' w' L' hL hd hg
 | block id b ih =>
  intro nd L ρ0 st k a w Q hQ h hk
  refine wpIn_block (ih nd L ρ0 st _ a w _ hQ h fun e st' a' w' L' hL hd hg => ?_)
  cases e with
  | normal => exact hk .normal st' a' w' L' hL hd hg
  | exit i =>
   simp only at hg
   show (if i = id then Q .normal a' w' else Q (.exit i) a' w')
   split
   ·rename_i e; rw [if_pos e] at hg; exact hk .normal st' a' w' L' hL hd hg
   ·rename_i e; rw [if_neg e] at hg; exact hk (.exit i) st' a' w' L' hL hd hg
  | ret => exact hk .ret st' a' w' L' hL hd hg
 | cond c x y ihx ihy =>
  intro nd L ρ0 st k a w Q hQ h hk
  obtain ⟨β, ρ, V, hp, hr, hD⟩ := h
  simp only [ex] at hD
  split at hD
  ·rename_i v hv
   have he : a.eval c = .bool v := opT_ev hr hv
   cases v with
   | true => exact wpIn_cond_true he (ihx (nd1 nd) L ρ0 st k a w Q hQ ⟨β, ρ, V, hp, hr, hD⟩ hk)
   | false => exact wpIn_cond_false he (ihy (nd2 nd) L ρ0 st k a w Q hQ ⟨β, ρ, V, hp, hr, hD⟩ hk)
  ·rename_i t _ ht
   split at hD
   ·rename_i hc
    obtain ⟨hc1, hc2⟩ := hc
    obtain ⟨b, hb⟩ := kind_b (ρ := ρ) (β := β) hc1
    have he : a.eval c = .bool b := (opT_ev hr ht).trans hb
    have hfr := (T.ev_free (β := id) (β' := β) (ρ := ρ) t hc2).1
    split at hD
    ·rename_i d
     simp only [D, hfr, hb, asB] at hD
     have hlearn : Rel noO V0 w0 H.N β (st.now d (.bool b)) ρ V a.tmps w := hr.now (t := t) ht (by rw [hb]; rfl)
     cases b with
     | true => exact wpIn_cond_true he (ihx (nd1 nd) L ρ0 _ k a w Q hQ ⟨β, ρ, V, hp.now _ _, hlearn, hD.1 rfl⟩ hk)
     | false => exact wpIn_cond_false he (ihy (nd2 nd) L ρ0 _ k a w Q hQ ⟨β, ρ, V, hp.now _ _, hlearn, hD.2 rfl⟩ hk)
    ·simp only [D, hfr, hb, asB] at hD
     cases b with
     | true => exact wpIn_cond_true he (ihx (nd1 nd) L ρ0 _ k a w Q hQ ⟨β, ρ, V, hp, hr, hD.1 rfl⟩ hk)
     | false => exact wpIn_cond_false he (ihy (nd2 nd) L ρ0 _ k a w Q hQ ⟨β, ρ, V, hp, hr, hD.2 rfl⟩ hk)
   ·exact hD.elim
  ·exact hD.elim
 | region id ops draw =>
  intro nd L ρ0 st k a w Q hQ h hk
  cases draw with
  | true =>
   refine wpIn_mono (wpIn_region_any (Q := fun e a' w' => e ≠ .outgrown /\ Q e a' w') hm (wpAnyIn_of_wpAny (noOut Q) (fun o ho => opNoDefer_spec (ndOps nd o ho)) _ _ _ _ (region_draw_any hcalls (fun ch a' w' hd hR => ⟨by simp, hQ ch a' w' hd hR⟩) h (fun ⟨_, _, h⟩ => h.elim) fun st' a' w' hd hg => ⟨by simp, hk .normal st' a' w' L (List.prefix_refl _) hd hg⟩))) fun e a w h => h.2
  | false =>
   refine wpIn_mono (wpIn_region (Q := fun e a' w' => e ≠ .outgrown /\ Q e a' w') ?_) fun e a w h => h.2
   rw [List.range_eq_range', <- Array.length_toList]
   exact wpOpsIn_of_wpList (noOut Q) (fun o ho => opNoDefer_spec (ndOps nd o ho)) _ _ (fun j _ => by simp) _ _ (exOps_sound hcalls ops.toList st a w (fun ch a' w' hd hR => ⟨by simp, hQ ch a' w' hd hR⟩) h fun st' a' w' hd hg => ⟨by simp, hk .normal st' a' w' L (List.prefix_refl _) hd hg⟩)
 | loop b ih =>
  intro nd L ρ0 st k a w Q hQ h hk
  obtain ⟨β, ρ, V, hp, hr, hD⟩ := h
  simp only [ex, exLoop] at hD
  generalize dedup (writes b) = ws at hD
  generalize (((firstRegion b).bind fun i => H.loops.lookup i).getD []) = hint at hD
  obtain ⟨st', t, hg, hfree, β', ρ', V', hp', hr', hD'⟩ := pubT_sound _ _ _ _ ⟨β, ρ, V, hp, hr, hD⟩
  split at hD'
  case isFalse => exact hD'.elim
  rename_i hw
  split at hD'
  ·exact hD'.elim
  ·rename_i st1 bs hgb
   split at hD'
   ·exact hD'.elim
   ·rename_i init hinit
    split at hD'
    case isFalse => exact hD'.elim
    rename_i hok
    simp only [D] at hD'
    obtain ⟨I, μ, hI, hround⟩ := hD'
    obtain ⟨hrh, hsh⟩ := head_rel hw hr'.nv (List.prefix_refl _) hgb hinit hok hr'
    let Inv : Nat -> Act -> World -> Prop := fun n a' w' => ∃ β xs V', Shaped (bs.flatMap (·.2.2) ++ (genSlots ws st1).2.flatMap (·.2.2)) xs /\ I xs V' /\ μ xs V' = n /\
     Rel noO V0 w0 H.N β { (genSlots ws st1).1 with depth := st'.depth + 1 } (ρ' ++ xs) V' a'.tmps w' /\ a'.defers = a.defers
    refine wpIn_loop_rel Inv ⟨_, β', init.evs ρ' id, V', hsh, hI, rfl, hrh, rfl⟩ ?_
    rintro n a1 w1 ⟨β1, xs, V1, hsh1, hI1, rfl, hr1, hd1⟩
    have hDb := hround xs V1 hsh1 hI1
    refine ih nd (L ++ [fun ys V'' => I ys V'' /\ μ ys V'' < μ xs V1]) ρ' _ _ a1 w1 _ (by rw [hd1]; exact hQ) ⟨β1, ρ' ++ xs, V1, ⟨List.prefix_append _ _, ?_⟩, hr1, hDb⟩ ?_
    ·simp [hp'.2]
    ·intro e st2 a2 w2 L2 hL2 hd2 hg2
     cases e with
     | normal =>
      obtain ⟨β2, ρ2, V2, hp2, hr2, hD2⟩ := hg2
      simp only at hD2
      split at hD2
      ·rename_i vs hvs
       split at hD2
       ·rename_i hok2
        simp only [D] at hD2
        obtain ⟨J, hJ, hJ2⟩ := hD2
        have hlvl : L2[st'.depth]? = some (fun ys V'' => I ys V'' /\ μ ys V'' < μ xs V1) := by
         obtain ⟨σ, rfl⟩ := hL2
         rw [<- hp'.2, List.getElem?_append_left (by simp), List.getElem?_append_right (Nat.le_refl _)]
         simp
        rw [hlvl] at hJ
        simp only [Option.some.injEq] at hJ
        subst hJ
        obtain ⟨hrh2, hsh2⟩ := head_rel hw hr'.nv hp2.1 hgb hvs hok2 hr2
        exact ⟨_, hJ2.2, β2, vs.evs ρ2 id, V2, hsh2, hJ2.1, rfl, hrh2, hd2.trans hd1⟩
       ·exact hD2.elim
      ·exact hD2.elim
     | exit i => exact hk (.exit i) st2 a2 w2 L2 ((List.prefix_append _ _).trans hL2) (hd2.trans hd1) (hg2.weak hp'.1)
     | ret => exact hk .ret st2 a2 w2 L2 ((List.prefix_append _ _).trans hL2) (hd2.trans hd1) (hg2.weak hp'.1)
 | rangeFunc _ _ _ _ _ _ => intro nd L ρ0 st k a w Q hQ h hk; obtain ⟨β, ρ, V, hp, hr, hD⟩ := h; exact hD.elim
 | scope _ _ => intro nd L ρ0 st k a w Q hQ h hk; obtain ⟨β, ρ, V, hp, hr, hD⟩ := h; exact hD.elim
 | label _ => intro nd L ρ0 st k a w Q hQ h hk; obtain ⟨β, ρ, V, hp, hr, hD⟩ := h; exact hD.elim
 | goto _ => intro nd L ρ0 st k a w Q hQ h hk; obtain ⟨β, ρ, V, hp, hr, hD⟩ := h; exact hD.elim
 | refuse _ => intro nd L ρ0 st k a w Q hQ h hk; obtain ⟨β, ρ, V, hp, hr, hD⟩ := h; exact hD.elim
end
section
variable {P : Program} {fs : List Nat} {H : Hint}
def wpL (r : Option Nat) (n : Nat) (P : Program) (Q : Exit -> Act -> World -> Prop) : List Code -> Act -> World -> Prop
 | [], a, w => Q .normal a w
 | c :: cs, a, w => c.wpIn (wideR r) n P (Exit.then (wpL r n P Q cs) Q) a w
def flat : Code -> List Code
 | .seq x y => flat x ++ flat y
 | c => [c]
theorem wpL_append {r : Option Nat} {n : Nat} {Q : Exit -> Act -> World -> Prop} {l2 : List Code} : ∀ {l1 : List Code} {a : Act} {w : World}, wpL r n P (Exit.then (wpL r n P Q l2) Q) l1 a w -> wpL r n P Q (l1 ++ l2) a w
 | [], _, _, h => h
 | c :: cs, a, w, h => by
  refine wpIn_mono (show c.wpIn (wideR r) n P _ a w from h) fun e a' w' he => ?_
  cases e with
  | normal => exact wpL_append he
  | _ => exact he
theorem wpL_mono {r : Option Nat} {n : Nat} {Q Q' : Exit -> Act -> World -> Prop} (hq : ∀ e a w, Q e a w -> Q' e a w) : ∀ {l : List Code} {a : Act} {w : World}, wpL r n P Q l a w -> wpL r n P Q' l a w
 | [], _, _, h => hq _ _ _ h
 | c :: cs, a, w, h => by
  refine wpIn_mono (show c.wpIn (wideR r) n P _ a w from h) fun e a' w' he => ?_
  cases e with
  | normal => exact wpL_mono hq he
  | _ => exact hq _ _ _ he
theorem wpL_append' {r : Option Nat} {n : Nat} {Q : Exit -> Act -> World -> Prop} {l2 : List Code} : ∀ {l1 : List Code} {a : Act} {w : World}, wpL r n P Q (l1 ++ l2) a w -> wpL r n P (Exit.then (wpL r n P Q l2) Q) l1 a w
 | [], _, _, h => h
 | c :: cs, a, w, h => by
  refine wpIn_mono (show c.wpIn (wideR r) n P _ a w from h) fun e a' w' he => ?_
  cases e with
  | normal => exact wpL_append' he
  | _ => exact he
theorem wpIn_flat {r : Option Nat} {n : Nat} : ∀ {c : Code} {Q : Exit -> Act -> World -> Prop} {a : Act} {w : World}, wpL r n P Q (flat c) a w -> c.wpIn (wideR r) n P Q a w := by
 intro c
 induction c with
 | seq x y ihx ihy =>
  intro Q a w h
  refine wpIn_seq (ihx ?_)
  refine wpL_mono (fun e a w he => ?_) (wpL_append' h)
  cases e with
  | normal => exact ihy he
  | _ => exact he
 | _ =>
  intro Q a w h
  refine wpIn_mono (show Code.wpIn (wideR r) n P _ _ a w from h) fun e a' w' he => ?_
  cases e with
  | normal => exact he
  | _ => exact he
def Seg (P : Program) (N : Nat) (cs : List Code) (ins : List (Nat × Value)) (outs : List Nat) (V : Mem) (R : List Value -> Mem -> Prop) : Prop :=
 ∀ r n a w, V.le w -> a.tmps.size = N -> (∀ s v, ins.lookup s = some v -> a.tmps.getD s undef = v) ->
  wpL r n P (fun e a' w' => e = .normal /\ a'.defers = a.defers /\ a'.tmps.size = N /\ ∃ vs V', (∀ s v, (outs.zip vs).lookup s = some v -> a'.tmps.getD s undef = v) /\ R vs V' /\ Frm V w V' w') cs a w
theorem Seg.mono {N : Nat} {cs : List Code} {ins : List (Nat × Value)} {outs : List Nat} {V : Mem} {R R' : List Value -> Mem -> Prop} (h : Seg P N cs ins outs V R) (hr : ∀ vs V', R vs V' -> R' vs V') : Seg P N cs ins outs V R' :=
 fun r n a w hV hN hs => wpL_mono (fun _ _ _ ⟨h1, h2, h3, vs, V', h4, h5, h6⟩ => ⟨h1, h2, h3, vs, V', h4, hr _ _ h5, h6⟩) (h r n a w hV hN hs)
def exL (P : Program) (fs : List Nat) (H : Hint) : List Code -> St -> (Ex -> St -> Tr) -> Tr
 | [], st, k => k .normal st
 | c :: cs, st, k => ex P fs H c st fun e st => match e with | .normal => exL P fs H cs st k | e => k e st
def segT (P : Program) (fs : List Nat) (H : Hint) (cs : List Code) (slots : List (Nat × T)) (nv : Nat) (outs : List Nat) : Tr :=
 if (slots.all fun x => x.2.wf nv 0) /\ cs.all noDefer then
  exL P fs H cs { slots, boxes := [], nv, nb := 0, depth := 0 } fun e st =>
   match e with
   | .normal => pubT (st.nb + 2) st (fun st => (getAll st outs).map T.tup) fun _ t => .ret t
   | _ => .bad 60 0
 else .bad 61 0
theorem exL_sound {R : Ending -> Mem -> Prop} {V0 : Mem} {w0 : World} {r : Option Nat} {n : Nat} (hcalls : CallsOk P fs) (hm : P.follows .mixedOrders = true) {k : Ex -> St -> Tr} {Q : Exit -> Act -> World -> Prop} {ρ0 : List Value} : ∀ {cs : List Code} {L : List (List Value -> Mem -> Prop)} {st : St} {a : Act} {w : World},
  PanOk R V0 w0 a.defers Q -> Goes P R noO V0 w0 H.N L ρ0 a.tmps w st (exL P fs H cs st k) -> cs.all noDefer = true ->
  (∀ e st' a' w' L', L <+: L' -> a'.defers = a.defers -> Goes P R noO V0 w0 H.N L' ρ0 a'.tmps w' st' (k e st') -> Q e.toExit a' w') -> wpL r n P Q cs a w
 | [], L, st, a, w, _, h, _, hk => hk .normal st a w L (List.prefix_refl _) rfl h
 | c :: cs, L, st, a, w, hQ, h, hnd, hk => by
  simp only [List.all_cons, Bool.and_eq_true] at hnd
  refine ex_sound_in hcalls hm c hnd.1 L ρ0 st _ a w _ hQ h fun e st' a' w' L' hL hd hg => ?_
  cases e with
  | normal => exact exL_sound hcalls hm (by rw [hd]; exact hQ) hg hnd.2 fun e st'' a'' w'' L'' hL' hd' hg' => hk e st'' a'' w'' L'' (hL.trans hL') (hd'.trans hd) hg'
  | exit i => exact hk (.exit i) st' a' w' L' hL hd hg
  | ret => exact hk .ret st' a' w' L' hL hd hg
end
section
variable {P : Program} {fs : List Nat} {H : Hint}
theorem lookup_zip_map {f : T -> Value} : ∀ {l : List Nat} {ts : List T} {s : Nat} {v : Value}, (l.zip (ts.map f)).lookup s = some v -> ∃ t, (l.zip ts).lookup s = some t /\ f t = v /\ s ∈ l
 | [], _, s, v, h => by simp at h
 | x :: xs, [], s, v, h => by simp at h
 | x :: xs, t :: ts, s, v, h => by
  simp only [List.map_cons, List.zip_cons_cons, List.lookup_cons] at h ⊢
  by_cases e : s = x
  ·subst e
   simp only [beq_self_eq_true, Option.some.injEq] at h ⊢
   exact ⟨t, rfl, h, by simp⟩
  ·have : (s == x) = false := by simpa using e
   rw [this] at h ⊢
   obtain ⟨t', h1, h2, h3⟩ := lookup_zip_map h
   exact ⟨t', h1, h2, by simp [h3]⟩
theorem lookup_map_snd {f : T -> Value} : ∀ {l : List (Nat × T)} {s : Nat} {t : T}, l.lookup s = some t -> (l.map fun x => (x.1, f x.2)).lookup s = some (f t)
 | [], s, t, h => by simp at h
 | (x, u) :: xs, s, t, h => by
  simp only [List.map_cons, List.lookup_cons] at h ⊢
  split at h
  ·rename_i e
   simp only [Option.some.injEq] at h; subst h; rfl
  ·exact lookup_map_snd h
theorem seg_sound (hcalls : CallsOk P fs) (hm : P.follows .mixedOrders = true) {N : Nat} {cs : List Code} {slots : List (Nat × T)} {nv : Nat} {outs : List Nat} {t : Tr} (ht : segT P fs { H with N := N } cs slots nv outs = t) (ρ : List Value) (hn : ρ.length = nv)
  {ins : List (Nat × Value)} (hins : ins = slots.map fun x => (x.1, x.2.ev ρ id)) {V : Mem} {R : List Value -> Mem -> Prop} {q : Prop} (hq : q = DT P {} (fun e V' => ∃ vs : List Value, e = .returned (.tuple vs.toArray) /\ R vs V') t [] ρ V) (h : q) :
  Seg P N cs ins outs V R := by
 intro r n a w hV hN hs
 subst hq hins ht
 have hD := D_of_DT _ _ _ _ h
 unfold segT at hD
 split at hD
 case isFalse => exact hD.elim
 rename_i hw
 obtain ⟨hwf, hnd⟩ := hw
 refine exL_sound (L := []) (ρ0 := ρ) (V0 := V) (w0 := w) hcalls hm (fun _ _ _ _ h => by obtain ⟨_, ⟨_, h, _⟩, _⟩ := h; cases h) ⟨id, ρ, V, ⟨List.prefix_refl _, rfl⟩, ?_, hD⟩ hnd ?_
 ·exact
   {nv := hn
    size := hN
    slots := fun s t hg => by
     have hl := get_lookup hg
     exact hs s _ (lookup_map_snd (f := fun t => t.ev ρ id) hl)
    frm := Frm.refl hV
    boxes := fun i cs ty hi => by simp [St.box] at hi
    hid := fun b o hb => by cases hb
    inj := fun i j hi _ _ => by simp [St.box] at hi }
 ·intro e st' a' w' L' _ hd hg
  cases e with
  | exit j => obtain ⟨β, ρ2, V2, hp, hr, hD⟩ := hg; exact hD.elim
  | ret => obtain ⟨β, ρ2, V2, hp, hr, hD⟩ := hg; exact hD.elim
  | normal =>
   obtain ⟨st2, t2, hg2, hfree, β, ρ2, V2, hp, hr, hD⟩ := pubT_sound _ _ _ _ hg
   simp only [Option.map_eq_some_iff] at hg2
   obtain ⟨x, hx, rfl⟩ := hg2
   simp only [D] at hD
   obtain ⟨vs, h1, h2⟩ := hD
   simp only [T.ev, Ending.returned.injEq, Value.tuple.injEq] at h1
   have h1' : T.evs ρ2 id x = vs := by simpa using congrArg Array.toList h1
   refine ⟨rfl, hd, hr.size, vs, V2, fun s v hsv => ?_, h2, hr.frm⟩
   rw [<- h1', evs_toList] at hsv
   obtain ⟨t, g1, g2, g3⟩ := lookup_zip_map hsv
   obtain ⟨y, g4, g5⟩ := getAll_some hx s g3
   have g6 := getAll_lookup hx s g3
   rw [g1, g4] at g6
   simp only [Option.some.injEq] at g6; subst g6
   rw [hr.slots s t g4, <- g2]
   have hf : t.firstBox = none := free_mem (by simpa [T.firstBox] using hfree) g5
   exact (T.ev_free t hf).1
end
end Go.Sx
