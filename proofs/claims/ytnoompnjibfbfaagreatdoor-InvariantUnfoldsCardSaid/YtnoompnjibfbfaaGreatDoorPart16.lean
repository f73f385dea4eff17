/- Part 16 of a proof of a law of this seat: no statement of the seat is proved here. -/
import Derived.Test.YtnoompnjibfbfaaGreatDoorPart13
import Derived.Test.YtnoompnjibfbfaaGreatDoorPart15
import Derived.Test.YtnoompnjibfbfaaGreatDoorPart14
import Derived.DefersIn
import Derived.RecoverIn
set_option linter.unusedVariables false
set_option linter.unusedSimpArgs false
namespace Go.Proofs
open Go Go.Sx
attribute [local irreducible] Go.Sx.Tri
theorem g234 {V : Mem} {l : Sl} {xs : List Nd} {g : Nat} {first caps : List Value} (hg : CallOk g) (St Hit : Nat -> Mem -> Prop) (hrows : ∀ i V1, St i V1 -> RowsAt V1 l 2 (xs.map Nd.row)) (h0 : St 0 V)
  (hp : ∀ i x V1, xs[i]? = some x -> St i V1 -> Tri Tryz.prog g (first.toArray ++ #[Nd.v x] ++ caps.toArray) V1 fun e V2 => ∃ b : Bool, e = .returned (.bool b) /\ (b = true -> Hit i V2) /\ (b = false -> St (i + 1) V2)) :
  Tri Tryz.prog 234 #[l.v, .func (.func g) first.toArray caps.toArray] V fun e V' => (∃ i : Nat, e = .returned (.int .i64 i) /\ Hit i V') ∨ (e = .returned (.int .i64 (-1)) /\ St xs.length V') := by
 refine x234 (v0 := l) (v1 := .func (.func g) first.toArray caps.toArray) ?_
 unfold w234
 refine loop2 xs.length St h0 ?_
 intro i b V1 J hi hs hJ
 have h := hrows i V1 hs
 refine ⟨fun hlt => ?_, fun hge => ?_⟩
 ·obtain ⟨x, hm, hx, hd, hl, hp0, hz, hrow⟩ := h.get hlt
  refine ⟨hp0, hz, hlt, _, _, hrow, g, _, _, rfl, hg, Tri.mono (hp i x V1 hx hs) ?_⟩
  rintro e V2 ⟨b, rfl, h1, h2⟩
  exact ⟨b, rfl, fun hb => .inl ⟨i, rfl, h1 hb⟩, fun hb => ⟨h.succ hlt, hJ hl _ _ (h2 (by simpa using hb))⟩⟩
 ·have := (h.done hge).2
  have e : i = xs.length := by omega
  subst e
  exact .inr ⟨rfl, hs⟩
theorem g173 {V : Mem} {l : Sl} {xs : List Nd} {g : Nat} {first caps : List Value} (hg : CallOk g) (St Hit : Nat -> Mem -> Prop) (hrows : ∀ i V1, St i V1 -> RowsAt V1 l 2 (xs.map Nd.row)) (h0 : St 0 V)
  (hp : ∀ i x V1, xs[i]? = some x -> St i V1 -> Tri Tryz.prog g (first.toArray ++ #[Nd.v x] ++ caps.toArray) V1 fun e V2 => ∃ b : Bool, e = .returned (.bool b) /\ (b = true -> Hit i V2) /\ (b = false -> St (i + 1) V2)) :
  Tri Tryz.prog 173 #[l.v, .func (.func g) first.toArray caps.toArray] V fun e V' => (∃ i : Nat, e = .returned (.bool true) /\ Hit i V') ∨ (e = .returned (.bool false) /\ St xs.length V') := by
 refine x173 (v0 := l) (v1 := .func (.func g) first.toArray caps.toArray) ?_
 unfold w173
 refine Tri.mono (g234 hg St Hit hrows h0 hp) ?_
 rintro e V' (⟨i, rfl, h⟩ | ⟨rfl, h⟩)
 ·refine ⟨_, rfl, .inl ⟨i, ?_, h⟩⟩
  have : (0 : Int) <= (i : Int) := by omega
  simp [this]
 ·exact ⟨_, rfl, .inr ⟨rfl, h⟩⟩
theorem c173 {V : Mem} {l : Sl} {xs : List Nd} {g : Nat} {first caps : List Value} (h : RowsAt V l 2 (xs.map Nd.row)) (hg : CallOk g) (p : Nd -> Bool) (hp : ∀ x ∈ xs, PP g (first ++ [Nd.v x] ++ caps) V (.bool (p x))) :
  PP 173 [l.v, .func (.func g) first.toArray caps.toArray] V (.bool (xs.any p)) := by
 refine Tri.mono (g173 hg (fun i V1 => V1 = V /\ ∀ j x, j < i -> xs[j]? = some x -> p x = false) (fun i V1 => V1 = V /\ ∃ x ∈ xs, p x = true) (fun i V1 hs => hs.1 ▸ h) ⟨rfl, fun j x hj => absurd hj (Nat.not_lt_zero _)⟩ ?_) ?_
 ·rintro i x _ hx ⟨rfl, hs⟩
  have hm : x ∈ xs := List.mem_of_getElem? hx
  have := (hp x hm).callv (q := fun e V2 => ∃ b : Bool, e = .returned (.bool b) /\ (b = true -> V2 = _ /\ ∃ x ∈ xs, p x = true) /\ (b = false -> V2 = _ /\ ∀ j x, j < i + 1 -> xs[j]? = some x -> p x = false)) ⟨_, rfl, fun hb => ⟨rfl, x, hm, hb⟩, fun hb => ⟨rfl, fun j y hj hy => by
   rcases Nat.lt_succ_iff_lt_or_eq.1 hj with h' | rfl
   ·exact hs j y h' hy
   ·rw [hx] at hy; cases hy; exact hb⟩⟩
  exact this
 ·rintro e V' (⟨i, rfl, rfl, x, hm, hx⟩ | ⟨rfl, rfl, hs⟩)
  ·rw [List.any_eq_true.2 ⟨x, hm, hx⟩]; exact ⟨rfl, rfl⟩
  ·have : xs.any p = false := List.any_eq_false.2 fun x hm hx => by
    obtain ⟨j, hj, rfl⟩ := List.mem_iff_getElem.1 hm
    rw [hs j _ hj (List.getElem?_eq_getElem hj)] at hx; cases hx
   rw [this]; exact ⟨rfl, rfl⟩
theorem zeroInt (w : World) : (zeroValue 3).run Tryz.prog w = .ok (.int .i64 0) w := by kernel_rfl
def pmap (d : Ds) (i : Nat) (k : ByteArray) : Option Value := if 0 <= idxT d k /\ idxT d k < (i : Int) then some (.int .i64 (idxT d k)) else none
def tmap (d : Ds) (k : ByteArray) : Option Value := if isNode d k = true then some (.int .i64 (idxT d k)) else none
section
variable {V : Mem} {d : Ds} {m : Mm} {b : Nat}
theorem idxT_le {i : Nat} {x : Ty} (hx : d.types[i]? = some x) : 0 <= idxT d x.name /\ idxT d x.name <= (i : Int) := by
 unfold idxT
 rcases idx_cases (fun t : Ty => decide (t.name = x.name)) d.types with ⟨-, -, h⟩ | ⟨j, y, h1, h2, -, h4, -, -, -, h5⟩
 ·have := List.any_eq_false.1 h x (List.mem_of_getElem? hx)
  exact absurd (decide_eq_true rfl) this
 ·rw [h1]
  refine ⟨by omega, ?_⟩
  have hji : ¬ i < j := fun hlt => by
   have := List.any_eq_false.1 h5 x (List.mem_take_iff_getElem.2 ⟨i, by have := (List.getElem?_eq_some_iff.1 hx).1; omega, (List.getElem?_eq_some_iff.1 hx).2⟩)
   exact this (decide_eq_true rfl)
  omega
theorem idxT_at {k : ByteArray} {i : Nat} (h : idxT d k = (i : Int)) : ∃ x, d.types[i]? = some x /\ x.name = k := by
 unfold idxT at h
 rcases idx_cases (fun t : Ty => decide (t.name = k)) d.types with ⟨h1, -⟩ | ⟨j, y, h1, h2, -, h4, h5, -⟩
 ·rw [h1] at h; omega
 ·rw [h1] at h
  obtain rfl : j = i := by omega
  exact ⟨y, h2, of_decide_eq_true h5⟩
theorem pmap_all {k : ByteArray} (i : Nat) (hi : d.types.length <= i) : pmap d i k = tmap d k := by
 unfold pmap tmap
 rcases isNode_idx d k with ⟨h1, h2⟩ | ⟨h1, h2⟩
 ·rw [if_neg (by omega), if_neg (by rw [h2]; decide)]
 ·obtain ⟨j, hj⟩ : ∃ j : Nat, idxT d k = (j : Int) := ⟨(idxT d k).toNat, by omega⟩
  obtain ⟨x, hx, -⟩ := idxT_at hj
  have := (List.getElem?_eq_some_iff.1 hx).1
  rw [if_pos ⟨h1, by omega⟩, if_pos h2]
theorem c170 {s : ByteArray} : PP 170 [.string s] V (.bool (decide (s = sInt) || decide (s = sBool))) := by
 refine x170 (v0 := s) ?_
 unfold w170
 refine ⟨fun h => ⟨by rw [decide_eq_true (show s = sInt from h)]; rfl, rfl⟩, fun h => ⟨by rw [decide_eq_false (show ¬ s = sInt from h)]; rfl, rfl⟩⟩
theorem c171 {s : ByteArray} (h : MapAt V b (tmap d)) : PP 171 [.map (some b), .string s] V (.bool (isNode d s)) := by
 refine x171 (v0 := some b) (v1 := s) ?_
 unfold w171
 refine LookK.str Tryz.underlying197 Tryz.underlying9 zeroInt h ?_
 unfold tmap
 cases hn : isNode d s with
 | true => exact ⟨_, _, rfl, rfl, rfl⟩
 | false => exact ⟨_, _, rfl, rfl, rfl⟩
theorem c169 {p t : Nat} (hp : V p = some (cell (.map (some b)) t)) (h : MapAt V b (tmap d)) {f : Fld} : PP 169 [f.v, .pointer (some ⟨p, 0, none⟩)] V (.bool (!known d f.ty)) := by
 refine x169 (v0 := f.name) (v1 := f.ty) (v2 := some ⟨p, 0, none⟩) ?_
 unfold w169
 refine c170.call ⟨_, rfl, fun h1 => ?_, fun h1 => ⟨some b, row1 hp, (c171 h).call ⟨_, rfl, ?_, rfl⟩⟩⟩
 ·unfold known; rw [h1]; exact ⟨rfl, rfl⟩
 ·unfold known; rw [show (decide (f.ty = sInt) || decide (f.ty = sBool)) = false by simpa using h1]; rfl
theorem c167 {p t : Nat} (hp : V p = some (cell (.map (some b)) t)) (h : MapAt V b (tmap d)) {l : Sl} {xs : List Fld} (hr : RowsAt V l 2 (xs.map Fld.row)) : PP 167 [l.v, .pointer (some ⟨p, 0, none⟩)] V (.bool (typedB d xs)) := by
 refine x167 (v0 := l) (v1 := some ⟨p, 0, none⟩) ?_
 unfold w167
 refine (c168 (first := []) (caps := [.pointer (some ⟨p, 0, none⟩)]) hr Tryz.call169 (fun f => !known d f.ty) (fun f _ => c169 hp h)).call ⟨_, rfl, ?_, rfl⟩
 unfold typedB
 rw [List.all_eq_not_any_not]
theorem c172 {p q t t2 : Nat} (hp : V p = some (cell (.map (some b)) t)) (hq : V q = some (cell (.func (.func 167) #[] #[.pointer (some ⟨p, 0, none⟩)]) t2)) (h : MapAt V b (tmap d)) {y : Ty} (hy : Ty.Ok V y) :
  PP 172 [y.v, .pointer (some ⟨q, 0, none⟩)] V (.bool (!typedB d y.fields)) := by
 refine x172 (v0 := y.name) (v1 := y.fs) (v2 := some ⟨q, 0, none⟩) ?_
 unfold w172
 exact ⟨.func (.func 167) #[] #[.pointer (some ⟨p, 0, none⟩)], rfl, row1 hq, 167, _, _, rfl, Tryz.call167, (c167 hp h hy.fields).callv (first := []) (caps := [.pointer (some ⟨p, 0, none⟩)]) ⟨_, rfl, rfl, rfl⟩⟩
theorem hasT_parts : hasT d = true ↔ validD d = true /\ typedB d d.globals = true /\ (∀ (i : Nat) (x : Ty), d.types[i]? = some x -> idxT d x.name = (i : Int)) /\ ∀ x ∈ d.types, typedB d x.fields = true := by
 unfold hasT
 rw [Bool.and_eq_true, Bool.and_eq_true, allI_iff, and_assoc]
 refine and_congr_right fun _ => and_congr_right fun _ => ⟨fun h => ⟨fun i x hx => ?_, fun x hx => ?_⟩, fun h i x hx => ?_⟩
 ·have := h i x hx
  rw [Bool.and_eq_true, decide_eq_true_eq] at this
  exact this.1
 ·obtain ⟨i, hi, rfl⟩ := List.mem_iff_getElem.1 hx
  have := h i _ (List.getElem?_eq_getElem hi)
  rw [Bool.and_eq_true] at this
  exact this.2
 ·rw [Bool.and_eq_true, decide_eq_true_eq]
  exact ⟨h.1 i x hx, h.2 x (List.mem_of_getElem? hx)⟩
def TyM (V' : Mem) (d : Ds) (mo : Option Nat) : Prop := (hasT d = true /\ ∃ b, mo = some b /\ MapAt V' b (tmap d)) ∨ (¬ hasT d = true /\ mo = none)
theorem c112 [Tab V] (h : Ds.Ok V d) : Tri Tryz.prog 112 #[d.v] V fun r V' => ∃ mo, r = .returned (.map mo) /\ V.sub V' /\ TyM V' d mo := by
 refine x112 (v0 := d.name) (v1 := d.ts) (v2 := d.gs) (v3 := d.ps) (v4 := d.ms) (v5 := d.is) (v6 := d.qs) (v7 := d.bs) ?_
 unfold w112
 have no : ∀ {V1 : Mem}, V.sub V1 -> ¬ hasT d = true -> (∃ mo, Ending.returned (.map none) = .returned (.map mo) /\ V.sub V1 /\ TyM V1 d mo) := fun hs k => ⟨none, rfl, hs, .inr ⟨k, rfl⟩⟩
 refine (c109 h).call ⟨_, rfl, fun hv => ?_, fun hv => no (Mem.sub.refl _) fun k => hv (hasT_parts.1 k).1⟩
 refine GenK.makeMap fun b hb => ⟨some b, rfl, ?_⟩
 have hs : ∀ o, V.sub (V.set b o) := fun o => Mem.sub_new hb _
 refine loop2 (mk := .map) (b0 := none) d.types.length (fun i V1 => (∃ o, V1 = V.set b o) /\ MapAt V1 b (pmap d i) /\ ∀ (j : Nat) (x : Ty), j < i -> d.types[j]? = some x -> idxT d x.name = (j : Int)) ⟨⟨_, rfl⟩, (MapAt.made V b).congr fun k => ?_, fun _ _ h => absurd h (Nat.not_lt_zero _)⟩ ?_
 ·unfold pmap; rw [if_neg (by omega)]
 rintro i b1 _ J hi ⟨⟨o, rfl⟩, hm, hd⟩ hJ
 have hd1 := h.sub (hs o)
 refine ⟨fun hlt => ?_, fun hge => ?_⟩
 ·obtain ⟨x, hxm, hx, hdr, hl, hp, hz, hrow⟩ := hd1.types.get hlt
  have hle := idxT_le hx
  refine ⟨hp, hz, hlt, _, _, hrow, LookK.str Tryz.underlying197 Tryz.underlying9 zeroInt hm ?_⟩
  by_cases hlo : idxT d x.name < (i : Int)
  ·have e : pmap d i x.name = some (.int .i64 (idxT d x.name)) := by unfold pmap; rw [if_pos ⟨hle.1, hlo⟩]
   rw [e]
   refine ⟨_, _, rfl, fun _ => no (hs o) fun k => ?_, fun k => absurd rfl k⟩
   have := (hasT_parts.1 k).2.2.1 i x hx
   omega
  ·have e : pmap d i x.name = none := by unfold pmap; rw [if_neg fun k => hlo k.2]
   rw [e]
   refine ⟨0, false, rfl, (fun k => by cases k), fun _ => UpdK.str Tryz.underlying197 Tryz.underlying9 hm fun o2 ho2 => ⟨hd1.types.succ hlt, hJ hl _ _ ⟨⟨o2, by rw [Mem.set_set]⟩, ho2.congr fun k => ?_, fun j y hj hy => ?_⟩⟩⟩
   ·by_cases hk : k = x.name
    ·subst hk
     rw [if_pos rfl]
     unfold pmap
     rw [if_pos ⟨hle.1, by omega⟩, show idxT d x.name = (i : Int) by omega]
    ·rw [if_neg hk]
     unfold pmap
     by_cases hki : idxT d k = (i : Int)
     ·obtain ⟨y, hy, hyk⟩ := idxT_at hki
      rw [hx] at hy; cases hy
      exact absurd hyk.symm hk
     ·by_cases hc : 0 <= idxT d k /\ idxT d k < (i : Int)
      ·rw [if_pos hc, if_pos ⟨hc.1, by omega⟩]
      ·rw [if_neg hc, if_neg fun c => hc ⟨c.1, by omega⟩]
   ·rcases Nat.lt_succ_iff_lt_or_eq.1 hj with hj | rfl
    ·exact hd j y hj hy
    ·rw [hx] at hy; cases hy; omega
 ·have hlen := (hd1.types.done hge).2
  have hm' : MapAt (V.set b o) b (tmap d) := hm.congr fun k => pmap_all i hlen
  have hdist : ∀ (j : Nat) (x : Ty), d.types[j]? = some x -> idxT d x.name = (j : Int) := fun j x hx => hd j x (by have := (List.getElem?_eq_some_iff.1 hx).1; omega) hx
  intro p hp
  have s1 := Mem.sub_new hp (cell (.map (some b)) 197)
  have hpp := Mem.set_same (V.set b o) p (cell (.map (some b)) 197)
  have hm1 := hm'.sub s1
  have hd2 := hd1.sub s1
  refine (c167 hpp hm1 hd2.globals).call ⟨_, rfl, fun hg => fun q hq => ?_, fun hg => no ((hs o).trans s1) fun k => hg (hasT_parts.1 k).2.1⟩
  have s2 := Mem.sub_new hq (cell (.func (.func 167) #[] #[.pointer (some ⟨p, 0, none⟩)]) 184)
  have hqq := Mem.set_same ((V.set b o).set p (cell (.map (some b)) 197)) q (cell (.func (.func 167) #[] #[.pointer (some ⟨p, 0, none⟩)]) 184)
  have hd3 := hd2.sub s2
  refine (c155 (first := []) (caps := [.pointer (some ⟨q, 0, none⟩)]) hd3.types Tryz.call172 (fun y => !typedB d y.fields) (fun y hy => c172 (s2 _ _ hpp) hqq (hm1.sub s2) (hd3.typesOk y hy))).call ⟨_, rfl, fun ha => no ((hs o).trans (s1.trans s2)) fun k => ?_, fun ha => ⟨_, row1 (s2 _ _ hpp), some b, rfl, (hs o).trans (s1.trans s2), .inl ⟨hasT_parts.2 ⟨hv, hg, hdist, fun x hx => ?_⟩, b, rfl, hm1.sub s2⟩⟩⟩
  ·obtain ⟨y, hy, hyt⟩ := List.any_eq_true.1 ha
   have := (hasT_parts.1 k).2.2.2 y hy
   rw [this] at hyt; cases hyt
  ·have := List.any_eq_false.1 ((Bool.not_eq_true _).mp ha) x hx
   simpa using this
theorem c235 {mo : Option Nat} (ht : TyM V d mo) (hT : hasT d = true) (hm : Mm.Ok V m) {typ : ByteArray} (hk : known d typ = true) {v : Int} : PP 235 [.map mo, m.v, .string typ, .int .i64 v] V (.bool (rightB d m typ v)) := by
 refine x235 (v0 := mo) (v1 := m.gs) (v2 := m.ns) (v3 := typ) (v4 := v) ?_
 unfold w235
 have hn := hm.nodes.n_eq
 obtain ⟨b, rfl, hb⟩ : ∃ b, mo = some b /\ MapAt V b (tmap d) := by
  rcases ht with ⟨-, h⟩ | ⟨h, -⟩
  ·exact h
  ·exact absurd hT h
 have ret : ∀ {x y : Bool}, x = y -> Ending.returned (.bool x) = .returned (.bool y) /\ V = V := fun h => by rw [h]; exact ⟨rfl, rfl⟩
 refine ⟨fun h1 => ?_, fun h1 => ⟨fun h2 => ?_, fun h2 => ?_⟩⟩
 ·unfold rightB; rw [if_pos (show typ = sInt from h1)]
  refine ⟨fun h3 => ret ?_, fun h3 => ret ?_⟩
  ·rw [decide_eq_decide]; exact ⟨fun h => ⟨h3, h⟩, fun h => h.2⟩
  ·exact (decide_eq_false fun h => h3 h.1).symm
 ·unfold rightB; rw [if_neg (show ¬ typ = sInt from h1), if_pos (show typ = sBool from h2)]
  refine ⟨fun h3 => ret (decide_eq_true (.inl h3)).symm, fun h3 => ret ?_⟩
  rw [decide_eq_decide]; exact ⟨.inr, fun h => h.resolve_left h3⟩
 ·unfold rightB; rw [if_neg (show ¬ typ = sInt from h1), if_neg (show ¬ typ = sBool from h2)]
  refine ⟨fun h3 => ret (decide_eq_true (.inl h3)).symm, fun h3 => ⟨fun h4 => ⟨fun h5 => ?_, fun h5 => ret ?_⟩, fun h4 => ret ?_⟩⟩
  ·obtain ⟨i, rfl⟩ : ∃ i : Nat, v = (i : Int) + 1 := ⟨(v - 1).toNat, by omega⟩
   have e1 : ((i : Int) + 1 - 1).toNat = i := by omega
   obtain ⟨x, hxm, hx, -, hl, hp, hz, hrow⟩ := hm.nodes.get (i := i) (by omega)
   have hq := ptrAdd_ne (n := i * 2) hp
   have hr : IR ((i : Int) + 1 - 1) := ⟨by omega, by have := (hm.nodes.succ (i := i) (by omega)).2; omega⟩
   have hnode : isNode d typ = true := by
    unfold known at hk
    rw [decide_eq_false (show ¬ typ = sInt from h1), decide_eq_false (show ¬ typ = sBool from h2)] at hk
    simpa using hk
   rw [e1]
   refine ⟨hr, hp, by omega, by omega, hq, _, _, hrow, LookK.str1 Tryz.underlying197 Tryz.underlying9 zeroInt hb ?_⟩
   unfold tmap
   rw [if_pos hnode]
   refine ⟨_, rfl, rowp_first (k := 1) hrow (by decide), hq, hp, by omega, by omega, hr, ret ?_⟩
   rw [decide_eq_decide, hx]
   constructor
   ·intro h; exact .inr ⟨by omega, by omega, by rw [<- h]; rfl⟩
   ·rintro (h | ⟨-, -, h⟩)
    ·exact absurd h h3
    ·simpa using h
  ·exact (decide_eq_false (by omega)).symm
  ·exact (decide_eq_false (by omega)).symm
theorem c175 {mo : Option Nat} (ht : TyM V d mo) (hT : hasT d = true) (hm : Mm.Ok V m) {l : Sl} {xs : List Fld} (hr : RowsAt V l 2 (xs.map Fld.row)) (hk : typedB d xs = true) {s : Sl} {vs : List Int} (hv : RowsAt V s 1 (vs.map intRow)) : PP 175 [.map mo, m.v, l.v, s.v] V (.bool (valuesB d m xs vs)) := by
 refine x175 (v0 := mo) (v1 := m.gs) (v2 := m.ns) (v3 := l) (v4 := s) ?_
 unfold w175
 have h1 := hr.n_eq
 have h2 := hv.n_eq
 refine ⟨fun he => ?_, fun he => ?_⟩
 ·refine loop2 (mk := .bool) (b0 := false) vs.length (fun i V1 => V = V1 /\ AllI (fun i v => rightB d m (tyAt xs i) v) vs i) ⟨rfl, AllI.zero⟩ ?_
  rintro i b V1 J hi ⟨rfl, ha⟩ hJ
  refine ⟨fun hlt => ?_, fun hge => ?_⟩
  ·obtain ⟨x, hxm, hx, -, hl, hp, hz, hrow⟩ := hr.get hlt
   obtain ⟨y, hym, hy, -, hl2, hp2, hz2, hrow2⟩ := hv.get (i := i) (by omega)
   have hty : tyAt xs i = x.ty := by unfold tyAt; rw [hx]; rfl
   have hkx : known d x.ty = true := List.all_eq_true.1 hk x hxm
   refine ⟨hp, hz, hlt, _, _, hrow, hp2, hz2, by omega, _, hrow2, (c235 ht hT hm hkx).call ⟨_, rfl, fun h3 => ⟨hr.succ hlt, hJ hl2 _ _ ⟨rfl, ha.succ hy (by rw [hty]; exact h3)⟩⟩, fun h3 => ?_⟩⟩
   unfold valuesB
   rw [allI_false hy (by rw [hty]; exact h3), Bool.and_false]; exact ⟨rfl, rfl⟩
  ·unfold valuesB
   rw [ha.all (by omega), decide_eq_true (by omega)]; exact ⟨rfl, rfl⟩
 ·unfold valuesB
  rw [decide_eq_false (by omega)]; exact ⟨rfl, rfl⟩
theorem c174 (h : Ds.Ok V d) {p t : Nat} (hp : V p = some (.cells d.row.toArray t (0, 0))) {n : Nd} : PP 174 [n.v, .pointer (some ⟨p, 0, none⟩)] V (.bool (!nodeTy d n)) := by
 refine x174 (v0 := n.ty) (v1 := n.sl) (v2 := some ⟨p, 0, none⟩) ?_
 unfold w174
 have hn := h.types.n_eq
 refine ⟨fun h1 => ?_, fun h1 => ⟨by simp, _, row_cells hp 1 1 (by simp [Ds.row]), ?_⟩⟩
 ·unfold nodeTy; rw [decide_eq_false (by omega)]; exact ⟨rfl, rfl⟩
 ·refine ⟨?_, rfl⟩
  show Ending.returned (Value.bool _) = _
  unfold nodeTy
  rw [<- decide_not]
  congr 2
  rw [decide_eq_decide]
  show ((d.ts.n : Int) <= n.ty) ↔ _
  omega
theorem c176 (h : Ds.Ok V d) (hm : Mm.Ok V m) {mo : Option Nat} (ht : TyM V d mo) (hT : hasT d = true) {p q r t t2 t3 : Nat} (hp : V p = some (cell (.map mo) t)) (hq : V q = some (.cells m.row.toArray t2 (0, 0))) (hr : V r = some (.cells d.row.toArray t3 (0, 0))) {n : Nd} (hn : n ∈ m.nodes) (hty : nodeTy d n = true) :
  PP 176 [n.v, .pointer (some ⟨p, 0, none⟩), .pointer (some ⟨q, 0, none⟩), .pointer (some ⟨r, 0, none⟩)] V (.bool (!valuesB d m (fieldsOf d n.ty) n.f)) := by
 refine x176 (v0 := n.ty) (v1 := n.sl) (v2 := some ⟨p, 0, none⟩) (v3 := some ⟨q, 0, none⟩) (v4 := some ⟨r, 0, none⟩) ?_
 unfold w176
 obtain ⟨h1, h2⟩ := of_decide_eq_true hty
 have hlen := h.types.n_eq
 obtain ⟨i, hi⟩ : ∃ i : Nat, n.ty = (i : Int) := ⟨n.ty.toNat, by omega⟩
 obtain ⟨x, hxm, hx, -, hl, hp1, hz, hrow⟩ := h.types.get (i := i) (by omega)
 have hf := fieldsOf_at hx hi
 rw [hf]
 refine ⟨_, row1 hp, _, _, row_cells hq 0 2 (by simp [Mm.row]), by simp, _, row_cells hr 1 1 (by simp [Ds.row]), hp1, h1, by omega, ?_⟩
 rw [hi]
 refine ⟨ptrAdd_ne hp1, _, _, hrow, (c175 ht hT hm (h.typesOk x hxm).fields ((hasT_parts.1 hT).2.2.2 x hxm) (hm.nodesOk n hn).rows).call ⟨_, rfl, rfl, rfl⟩⟩
theorem c113 (h : Ds.Ok V d) (hm : Mm.Ok V m) {mo : Option Nat} (ht : TyM V d mo) : Pur Tryz.prog 113 [.map mo, d.v, m.v] V (.bool (validM d m)) := by
 refine Pur.mk ?_
 refine x113 (v0 := mo) (v1 := d.name) (v2 := d.ts) (v3 := d.gs) (v4 := d.ps) (v5 := d.ms) (v6 := d.is) (v7 := d.qs) (v8 := d.bs) (v9 := m.gs) (v10 := m.ns) ?_
 unfold w113
 have hn := hm.nodes.n_eq
 rcases ht with ⟨hT, b, rfl, hb⟩ | ⟨hT, rfl⟩
 rotate_left
 ·refine ⟨fun _ => ?_, fun k => absurd rfl k⟩
  unfold validM; rw [(Bool.not_eq_true _).mp hT]; exact ⟨rfl, Mem.sub.refl _⟩
 refine ⟨(fun k => by cases k), fun _ => ⟨fun h1 => ?_, fun h1 => ?_⟩⟩
 ·unfold validM; rw [decide_eq_false (by omega : ¬ m.nodes.length <= 4096)]; simp only [Bool.and_false, Bool.false_and]; exact ⟨trivial, Mem.sub.refl _⟩
 intro p hp
 have s1 := Mem.sub_new hp (.cells d.row.toArray 30 (0, 0))
 have hpp := Mem.set_same V p (.cells d.row.toArray 30 (0, 0))
 have hm1 := hm.sub s1
 refine (c173 (first := []) (caps := [.pointer (some ⟨p, 0, none⟩)]) hm1.nodes Tryz.call174 (fun n => !nodeTy d n) (fun n hn => c174 (h.sub s1) hpp)).call ⟨_, rfl, fun h2 => ?_, fun h2 => ?_⟩
 ·unfold validM
  have : m.nodes.all (nodeTy d) = false := by
   rw [List.all_eq_not_any_not, h2]; rfl
  rw [this]; simp only [Bool.and_false, Bool.false_and]; exact ⟨trivial, s1⟩
 have hall : m.nodes.all (nodeTy d) = true := by
  rw [List.all_eq_not_any_not, (Bool.not_eq_true _).mp h2]; rfl
 have ht1 : TyM (V.set p (.cells d.row.toArray 30 (0, 0))) d (some b) := .inl ⟨hT, b, rfl, hb.sub s1⟩
 have hd1 := h.sub s1
 refine ⟨nofun, _, row_cells hpp 2 1 (by simp [Ds.row]), (c175 ht1 hT hm1 hd1.globals (hasT_parts.1 hT).2.1 hm1.globals).call ⟨_, rfl, fun h3 => ?_, fun h3 => ?_⟩⟩
 rotate_left
 ·unfold validM
  rw [(Bool.not_eq_true _).mp h3]; simp only [Bool.and_false, Bool.false_and]; exact ⟨trivial, s1⟩
 intro q hq
 have s2 := Mem.sub_new hq (cell (.map (some b)) 197)
 intro r hr
 have s3 := Mem.sub_new hr (.cells m.row.toArray 34 (0, 0))
 have s23 := s2.trans s3
 refine (c173 (first := []) (caps := [.pointer (some ⟨q, 0, none⟩), .pointer (some ⟨r, 0, none⟩), .pointer (some ⟨p, 0, none⟩)]) (hm1.sub s23).nodes Tryz.call176 (fun n => !valuesB d m (fieldsOf d n.ty) n.f) (fun n hn => ?_)).call ⟨_, rfl, ?_, s1.trans s23⟩
 ·refine c176 (hd1.sub s23) (hm1.sub s23) (mo := some b) (.inl ⟨hT, b, rfl, (hb.sub s1).sub s23⟩) hT (s3 _ _ (Mem.set_same _ _ _)) (Mem.set_same _ _ _) (s23 _ _ hpp) hn (List.all_eq_true.1 hall n hn)
 ·show Ending.returned (Value.bool _) = _
  congr 2
  unfold validM
  rw [hT, decide_eq_true (show m.nodes.length <= 4096 by omega), hall, show valuesB d m d.globals m.globals = true from h3, List.all_eq_not_any_not]
  simp
theorem c69 [Tab V] (h : Ds.Ok V d) (hm : Mm.Ok V m) : Pur Tryz.prog 69 [d.v, m.v] V (.bool (validM d m)) := by
 refine Pur.mk ?_
 refine x69 (v0 := d.name) (v1 := d.ts) (v2 := d.gs) (v3 := d.ps) (v4 := d.ms) (v5 := d.is) (v6 := d.qs) (v7 := d.bs) (v8 := m.gs) (v9 := m.ns) ?_
 unfold w69
 refine Tri.mono (c112 h) ?_
 rintro _ V' ⟨mo, rfl, hs, ht⟩
 exact ⟨mo, rfl, (c113 (h.sub hs) (hm.sub hs) ht).call ⟨_, rfl, rfl, hs⟩⟩
end
def KnOk (d : Ds) (m : Mm) (kn : Int × Int -> Option Int) : Prop := ∀ k v, kn k = some v -> ∃ n, evM d m n k.1 k.2 = .ok v
def BzP (bz : Int × Int -> Bool) : Int -> Int -> Prop := fun a b => bz (a, b) = true
def pairs (d : Ds) (m : Mm) : List (Int × Int) := (List.range d.measures.length).flatMap fun (i : Nat) => (List.range (m.nodes.length + 1)).map fun (x : Nat) => ((i : Int), (x : Int))
def unseen (d : Ds) (m : Mm) (kn : Int × Int -> Option Int) (bz : Int × Int -> Bool) : Nat := ((pairs d m).filter fun k => (kn k).isNone && !bz k).length
theorem filter_le {α : Type} {p q : α -> Bool} : ∀ {l : List α}, (∀ a ∈ l, q a = true -> p a = true) -> (l.filter q).length <= (l.filter p).length
 | [], _ => Nat.le_refl _
 | a :: l, h => by
  have ih := filter_le (l := l) fun x hx => h x (List.mem_cons_of_mem _ hx)
  have ha := h a List.mem_cons_self
  rw [List.filter_cons, List.filter_cons]
  cases hq : q a with
  | true => rw [ha hq]; simpa using ih
  | false =>
   cases hp : p a with
   | true => simp; omega
   | false => simpa using ih
theorem filter_lt {α : Type} {p q : α -> Bool} : ∀ {l : List α}, (∀ a ∈ l, q a = true -> p a = true) -> ∀ a ∈ l, p a = true -> q a = false -> (l.filter q).length < (l.filter p).length
 | [], _, a, ha, _, _ => by cases ha
 | b :: l, h, a, ha, hp, hq => by
  have h' : ∀ x ∈ l, q x = true -> p x = true := fun x hx => h x (List.mem_cons_of_mem _ hx)
  rw [List.filter_cons, List.filter_cons]
  rcases List.mem_cons.1 ha with rfl | hm
  ·rw [hp, hq]
   have := filter_le h'
   simp; omega
  ·have ih := filter_lt h' a hm hp hq
   have hb := h b List.mem_cons_self
   cases hqb : q b with
   | true => rw [hb hqb]; simpa using ih
   | false =>
    cases hpb : p b with
    | true => simp; omega
    | false => simpa using ih
theorem mem_pairs {d : Ds} {m : Mm} {i x : Nat} (hi : i < d.measures.length) (hx : x <= m.nodes.length) : ((i : Int), (x : Int)) ∈ pairs d m := by
 unfold pairs
 rw [List.mem_flatMap]
 exact ⟨i, List.mem_range.2 hi, List.mem_map.2 ⟨x, List.mem_range.2 (by omega), rfl⟩⟩
theorem unseen_le {d : Ds} {m : Mm} {kn kn' : Int × Int -> Option Int} {bz : Int × Int -> Bool} (h : ∀ k, kn k ≠ none -> kn' k ≠ none) : unseen d m kn' bz <= unseen d m kn bz := by
 refine filter_le fun a _ ha => ?_
 simp only [Bool.and_eq_true, Option.isNone_iff_eq_none] at ha ⊢
 refine ⟨?_, ha.2⟩
 cases hk : kn a with
 | none => rfl
 | some v => exact absurd ha.1 (h a (by rw [hk]; simp))
structure PostR (V0 : Mem) (d : Ds) (m : Mm) (p kb bb : Nat) (V : Mem) (kn : Int × Int -> Option Int) (bz : Int × Int -> Bool) (g : Nat -> Rs) (rs : Rs) (V' : Mem) : Prop where
 out : Out d m (BzP bz) g rs
 keep : Keep kb bb V V'
 mach : ∃ kn' bz', Mach V0 d m p kb bb V' kn' bz' /\ KnOk d m kn' /\ ∀ v, rs = .ok v -> bz' = bz /\ ∀ k, kn k ≠ none -> kn' k ≠ none
def Post (V0 : Mem) (d : Ds) (m : Mm) (p kb bb : Nat) (V : Mem) (kn : Int × Int -> Option Int) (bz : Int × Int -> Bool) (g : Nat -> Rs) : Ending -> Mem -> Prop := fun r V' => ∃ rs, r = resR rs /\ PostR V0 d m p kb bb V kn bz g rs V'
section
variable {V0 V V1 V2 : Mem} {d : Ds} {m : Mm} {p kb bb : Nat} {kn kn' : Int × Int -> Option Int} {bz : Int × Int -> Bool} {g G : Nat -> Rs} {h : Nat -> Int -> Rs} {rs : Rs}
theorem PostR.ok_parts {a : Int} (H : PostR V0 d m p kb bb V kn bz g (.ok a) V1) : ∃ kn', Mach V0 d m p kb bb V1 kn' bz /\ KnOk d m kn' /\ (∀ k, kn k ≠ none -> kn' k ≠ none) /\ ∃ n, g n = .ok a := by
 obtain ⟨kn', bz', h1, h2, h3⟩ := H.mach
 obtain ⟨rfl, h4⟩ := h3 a rfl
 exact ⟨kn', h1, h2, h4, H.out⟩
theorem PostR.pure (M : Mach V0 d m p kb bb V kn bz) (K : KnOk d m kn) (o : Out d m (BzP bz) g rs) : PostR V0 d m p kb bb V kn bz g rs V := ⟨o, Keep.refl V, kn, bz, M, K, fun _ _ => ⟨rfl, fun _ h => h⟩⟩
theorem PostR.bad {e : Int} (H : PostR V0 d m p kb bb V1 kn bz g (.bad e) V2) (hs : V.sub V1) (hG : ∀ n, G n = (g n).bind (h n)) : PostR V0 d m p kb bb V kn bz G (.bad e) V2 :=
 ⟨(Out.bindBad (h := h) H.out).congr fun n => (hG n).symm, (Keep.of_sub hs).trans H.keep, by
  obtain ⟨a, b, h1, h2, -⟩ := H.mach
  exact ⟨a, b, h1, h2, nofun⟩⟩
theorem PostR.seq {V3 : Mem} {a : Int} (H : PostR V0 d m p kb bb V1 kn bz g (.ok a) V2) (hs : V.sub V1) (hG : ∀ n, G n = (g n).bind (h n)) (mg : Mono g) (mh : Mono fun n => h n a) (hk : ∀ k, kn k ≠ none -> kn' k ≠ none) (H2 : PostR V0 d m p kb bb V2 kn' bz (fun n => h n a) rs V3) : PostR V0 d m p kb bb V kn bz G rs V3 :=
 ⟨(Out.bindOk mg mh H.out H2.out).congr fun n => (hG n).symm, ((Keep.of_sub hs).trans H.keep).trans H2.keep, by
  obtain ⟨x, y, h1, h2, h3⟩ := H2.mach
  exact ⟨x, y, h1, h2, fun v hv => ⟨(h3 v hv).1, fun k hk' => (h3 v hv).2 k (hk k hk')⟩⟩⟩
theorem Post.split {f : FuncId} {args : Array Value} {K : Int -> Mem -> Prop} {R : Ending -> Mem -> Prop} (H : Tri Tryz.prog f args V (Post V0 d m p kb bb V kn bz g)) (hb : ∀ e V', PostR V0 d m p kb bb V kn bz g (.bad e) V' -> R (fltC e) V') (ho : ∀ a V', PostR V0 d m p kb bb V kn bz g (.ok a) V' -> K a V') :
  Tri Tryz.prog f args V fun e V' => (∃ v, e = .returned (.int .i64 v) /\ K v V') ∨ ∃ ch, e = .panicked ch /\ R e V' :=
 Tri.mono H fun e V' ⟨rs, he, hp⟩ => by
  subst he
  cases rs with
  | ok a => exact .inl ⟨a, rfl, ho a V' hp⟩
  | bad e => exact .inr ⟨_, rfl, hb e V' hp⟩
theorem RB.split {f : FuncId} {args : Array Value} {K : Int -> Mem -> Prop} {R : Ending -> Mem -> Prop} (H : Tri Tryz.prog f args V (RB rs V)) (hb : ∀ e, rs = .bad e -> R (fltC e) V) (ho : ∀ a, rs = .ok a -> K a V) :
  Tri Tryz.prog f args V fun e V' => (∃ v, e = .returned (.int .i64 v) /\ K v V') ∨ ∃ ch, e = .panicked ch /\ R e V' :=
 Tri.mono H fun e V' he => by
  obtain ⟨rfl, rfl⟩ := he
  cases rs with
  | ok a => exact .inl ⟨a, rfl, ho a rfl⟩
  | bad e => exact .inr ⟨_, rfl, hb e rfl⟩
variable (V0 d m p kb bb) in
def ExprC (N : Nat) : Prop := ∀ (e : E) (T t : ByteArray) (x : Int) V kn bz, VE e -> E.Ok V0 e -> exprT d (inFormS d T) e = (t, 0) -> This d m T x -> Mach V0 d m p kb bb V kn bz -> KnOk d m kn -> unseen d m kn bz <= N ->
 Tri Tryz.prog 62 #[.pointer (some ⟨p, 0, none⟩), e.v, .int .i64 x] V (Post V0 d m p kb bb V kn bz fun n => evE d m (evM d m n) x e)
variable (V0 d m p kb bb) in
def MeasC (N : Nat) : Prop := ∀ (i : Nat) (ms : Ms) (x : Int) V kn bz, d.measures[i]? = some ms -> valOk d m ms.ty x -> Mach V0 d m p kb bb V kn bz -> KnOk d m kn -> unseen d m kn bz <= N ->
 Tri Tryz.prog 41 #[.pointer (some ⟨p, 0, none⟩), .int .i64 i, .int .i64 x] V (Post V0 d m p kb bb V kn bz fun n => evM d m n i x)
theorem zeroBool (w : World) : (zeroValue 4).run Tryz.prog w = .ok (.bool false) w := by kernel_rfl
open Classical in
theorem measC (S : Stat V0 d m p kb bb) (N : Nat) (ih : ∀ N', N' < N -> ExprC V0 d m p kb bb N') : MeasC V0 d m p kb bb N := by
 intro i ms x V kn bz hms hx M K hN
 refine Tri.mono (x41 (v0 := some ⟨p, 0, none⟩) (v1 := i) (v2 := x) (R := Post V0 d m p kb bb V kn bz fun n => evM d m n i x) ?_) fun _ _ h => h
 unfold w41
 have hd := S.ds.sub M.sub
 have hil := (List.getElem?_eq_some_iff.1 hms).1
 have hn := hd.measures.n_eq
 have hmem := List.mem_of_getElem? hms
 obtain ⟨y, -, hy, -, hl, hp, hz, hrow⟩ := hd.measures.get (i := i) (by omega)
 rw [hms] at hy; cases hy
 refine ⟨nn, nn, pnn, d.ms, M.cell 4 1 (by decide), hp, hz, by omega, _, _, _, _, _, _, _, hrow, fun h0 => ?_, fun h0 => ⟨nn, nn, _, M.cell 10 1 (by decide), LookK.key2 (k := ((i : Int), x)) keyOf Tryz.underlying126 zeroInt M.known ?_⟩⟩
 ·refine ⟨.ok ms.nil, rfl, .pure M K ⟨0, ?_⟩⟩
  show evM d m 0 i x = .ok ms.nil
  unfold evM nilM
  rw [if_pos h0, Int.toNat_natCast, hms]; rfl
 have h0 : ¬ x = 0 := h0
 cases hkn : kn ((i : Int), x) with
 | some v =>
  refine ⟨v, true, rfl, fun _ => ?_, fun k => absurd rfl k⟩
  exact ⟨.ok v, rfl, .pure M K (K _ _ hkn)⟩
 | none =>
  refine ⟨0, false, rfl, (fun k => by cases k), fun _ => ⟨nn, nn, _, M.cell 11 1 (by decide), LookK.key1 (k := ((i : Int), x)) keyOf Tryz.underlying127 zeroBool M.busy ?_⟩⟩
  cases hbz : bz ((i : Int), x) with
  | true =>
   refine ⟨true, rfl, fun _ => GenK.pan rfl ?_, fun k => absurd rfl k⟩
   exact ⟨.bad 16, rfl, .pure M K (.inr ⟨rfl, .inr ⟨i, x, hbz, fun _ h => h⟩⟩)⟩
  | false =>
   refine ⟨false, rfl, (fun k => by cases k), fun _ => ⟨nn, nn, _, M.cell 11 1 (by decide), UpdK.key (k := ((i : Int), x)) keyOf Tryz.underlying127 M.busy fun o ho => ?_⟩⟩
   obtain ⟨c1, c2⟩ := (chk_parts S.good.chk).1 ms hmem
   have hname := node_name S.good.valid c1
   have hx' : rightB d m ms.ty x = true := by
    unfold valOk at hx
    rw [if_neg (name_ne hname kwNil)] at hx
    exact hx
   obtain ⟨r1, r2, -⟩ := right_node hname hx' h0
   obtain ⟨bz1, hbz1⟩ : ∃ bz1 : Int × Int -> Bool, bz1 = fun k => bz k || decide (k = ((i : Int), x)) := ⟨_, rfl⟩
   have M1 : Mach V0 d m p kb bb (V.set bb o) kn bz1 := ⟨M.sub.set S.b0 o, by rw [Mem.set_ne S.pb]; exact M.at_, M.known.set S.kb, ho.congr fun k => by
    rw [hbz1]
    by_cases hk : k = ((i : Int), x) <;> simp [hk]⟩
   have hlt : unseen d m kn bz1 < unseen d m kn bz := by
    obtain ⟨q, rfl⟩ : ∃ q : Nat, x = (q : Int) := ⟨x.toNat, by omega⟩
    refine filter_lt (fun a _ ha => ?_) ((i : Int), (q : Int)) (mem_pairs hil (by omega)) (by simp [hkn, hbz]) (by simp [hbz1])
    rw [hbz1] at ha
    simp only [Bool.and_eq_true, Bool.not_eq_true', Bool.or_eq_false_iff] at ha ⊢
    exact ⟨ha.1, ha.2.1⟩
   have hKeep1 : Keep kb bb V (V.set bb o) := fun c o' _ h2 h3 => by rw [Mem.set_ne h2]; exact h3
   have hB : ∀ a b, BzP bz1 a b -> BzP bz a b ∨ (a = (i : Int) /\ b = x) := fun a b h => by
    unfold BzP at h ⊢
    rw [hbz1] at h
    simpa using h
   have hOut : ∀ {r : Rs}, Out d m (BzP bz1) (fun n => evE d m (evM d m n) x ms.x) r -> Out d m (BzP bz) (fun n => evM d m n i x) r := fun {r} h => by
    refine Out.measure h0 (by rw [Int.toNat_natCast]; exact hms) ?_
    cases r with
    | ok v => exact h
    | bad e =>
     rcases h with h | ⟨h1, h | ⟨a, b, h2, h3⟩⟩
     ·exact .inl h
     ·exact .inr ⟨h1, .inl h⟩
     ·exact .inr ⟨h1, .inr ⟨a, b, hB a b h2, h3⟩⟩
   refine Post.split (ih (unseen d m kn bz1) (by omega) ms.x ms.ty sInt x _ kn bz1 (msB_parts ((validD_types S.good.valid).2.2.1 ms hmem)).2.2 (S.ds.measuresOk ms hmem).x c2 (.inr ⟨c1, h0, hx'⟩) M1 K (Nat.le_refl _)) (fun e V2 H => ?_) fun v V2 H => ?_
   ·obtain ⟨kn', bz', q1, q2, -⟩ := H.mach
    exact ⟨.bad e, rfl, hOut H.out, hKeep1.trans H.keep, kn', bz', q1, q2, nofun⟩
   ·obtain ⟨kn', M2, K2, hsub, n2, hn2⟩ := H.ok_parts
    refine ⟨nn, nn, _, M2.cell 11 1 (by decide), GenK.delete (k := ((i : Int), x)) keyOf Tryz.underlying127 M2.busy rfl rfl fun o2 ho2 => ⟨rfl, ?_⟩⟩
    have M3 : Mach V0 d m p kb bb (V2.set bb o2) kn' bz := ⟨M2.sub.set S.b0 o2, by rw [Mem.set_ne S.pb]; exact M2.at_, M2.known.set S.kb, ho2.congr fun k => by
     rw [hbz1]
     by_cases hk : k = ((i : Int), x)
     ·rw [hk, if_pos rfl, if_neg (by rw [hbz]; decide)]
     ·simp [hk]⟩
    refine ⟨nn, nn, _, M3.cell 10 1 (by decide), UpdK.key (k := ((i : Int), x)) keyOf Tryz.underlying126 M3.known fun o3 ho3 => ?_⟩
    have hOk : ∃ n, evM d m n i x = .ok v := hOut H.out
    refine ⟨.ok v, rfl, hOk, fun c o' h1 h2 h3 => ?_, fun k => if k = ((i : Int), x) then some v else kn' k, bz, ⟨M3.sub.set S.k0 o3, by rw [Mem.set_ne S.pk]; exact M3.at_, ho3.congr fun k => ?_, M3.busy.set (fun e => S.kb e.symm)⟩, fun k w hk => ?_, fun _ _ => ⟨rfl, fun k hk => ?_⟩⟩
    ·rw [Mem.set_ne h1, Mem.set_ne h2]
     exact H.keep c o' h1 h2 (hKeep1 c o' h1 h2 h3)
    ·by_cases hk : k = ((i : Int), x) <;> simp [hk]
    ·have hk : (if k = ((i : Int), x) then some v else kn' k) = some w := hk
     by_cases hk' : k = ((i : Int), x)
     ·rw [if_pos hk'] at hk; cases hk; rw [hk']; exact hOk
     ·rw [if_neg hk'] at hk; exact K2 k w hk
    ·by_cases hk' : k = ((i : Int), x)
     ·simp [hk']
     ·simp only [hk', if_false]; exact hsub k hk
end
section
variable {V0 V V1 V2 V3 : Mem} {d : Ds} {m : Mm} {p kb bb : Nat} {kn : Int × Int -> Option Int} {bz : Int × Int -> Bool} {b6 b7 b8 : Nat} {e : E} {x : Int} {T : ByteArray}
structure Bx (p kb bb : Nat) (V : Mem) (b6 b7 b8 : Nat) (e : E) (x : Int) : Prop where
 h6 : ∃ t, V b6 = some (cell (.pointer (some ⟨p, 0, none⟩)) t)
 h7 : ∃ t, V b7 = some (.cells e.row.toArray t (0, 0))
 h8 : ∃ t, V b8 = some (cell (.int .i64 x) t)
 ne : b6 ≠ kb /\ b6 ≠ bb /\ b7 ≠ kb /\ b7 ≠ bb /\ b8 ≠ kb /\ b8 ≠ bb
theorem Bx.keep (h : Bx p kb bb V b6 b7 b8 e x) (k : Keep kb bb V V1) : Bx p kb bb V1 b6 b7 b8 e x := by
 obtain ⟨⟨t6, h6⟩, ⟨t7, h7⟩, ⟨t8, h8⟩, n1, n2, n3, n4, n5, n6⟩ := h
 exact ⟨⟨t6, k _ _ n1 n2 h6⟩, ⟨t7, k _ _ n3 n4 h7⟩, ⟨t8, k _ _ n5 n6 h8⟩, n1, n2, n3, n4, n5, n6⟩
theorem MapV.some {α : Type} {enc : α -> Value} {b : Nat} {f : α -> Option Value} (h : MapV enc V b f) : V b ≠ none := by
 obtain ⟨es, c, h1, -⟩ := h.at_
 rw [h1]; simp
theorem ne_of {b c : Nat} (h : V b = none) (k : V c ≠ none) : b ≠ c := fun e => k (e ▸ h)
theorem Bx.make (M : Mach V0 d m p kb bb V kn bz) {t6 t7 t8 : Nat} (h6 : V b6 = none) (h7 : (V.set b6 (cell (.pointer (some ⟨p, 0, none⟩)) t6)) b7 = none) (h8 : ((V.set b6 (cell (.pointer (some ⟨p, 0, none⟩)) t6)).set b7 (.cells e.row.toArray t7 (0, 0))) b8 = none) :
  Bx p kb bb (((V.set b6 (cell (.pointer (some ⟨p, 0, none⟩)) t6)).set b7 (.cells e.row.toArray t7 (0, 0))).set b8 (cell (.int .i64 x) t8)) b6 b7 b8 e x /\ V.sub (((V.set b6 (cell (.pointer (some ⟨p, 0, none⟩)) t6)).set b7 (.cells e.row.toArray t7 (0, 0))).set b8 (cell (.int .i64 x) t8)) := by
 have s6 := Mem.sub_new h6 (cell (.pointer (some ⟨p, 0, none⟩)) t6)
 have s7 := Mem.sub_new h7 (.cells e.row.toArray t7 (0, 0))
 have s8 := Mem.sub_new h8 (cell (.int .i64 x) t8)
 have k1 := MapV.some M.known
 have k2 := MapV.some M.busy
 have up : ∀ {c : Nat}, V c ≠ none -> (V.set b6 (cell (.pointer (some ⟨p, 0, none⟩)) t6)) c ≠ none /\ ((V.set b6 (cell (.pointer (some ⟨p, 0, none⟩)) t6)).set b7 (.cells e.row.toArray t7 (0, 0))) c ≠ none := fun {c} h => by
  cases hc : V c with
  | none => exact absurd hc h
  | some o => exact ⟨by rw [s6 _ _ hc]; simp, by rw [s7 _ _ (s6 _ _ hc)]; simp⟩
 exact ⟨⟨⟨t6, s8 _ _ (s7 _ _ (Mem.set_same _ _ _))⟩, ⟨t7, s8 _ _ (Mem.set_same _ _ _)⟩, ⟨t8, Mem.set_same _ _ _⟩, ne_of h6 k1, ne_of h6 k2, ne_of h7 (up k1).1, ne_of h7 (up k2).1, ne_of h8 (up k1).2, ne_of h8 (up k2).2⟩, (s6.trans s7).trans s8⟩
theorem c91 (M : Mach V0 d m p kb bb V kn bz) (he : E.Ok V0 e) (B : Bx p kb bb V b6 b7 b8 e x) {i : Nat} {a : E} (ha : e.k[i]? = some a) {R : Ending -> Mem -> Prop}
  (H : Tri Tryz.prog 62 #[.pointer (some ⟨p, 0, none⟩), a.v, .int .i64 x] V R) (hR : ∀ r V', R r V' -> ∃ rs, r = resR rs) : Tri Tryz.prog 91 #[.int .i64 i, .pointer (some ⟨b6, 0, none⟩), .pointer (some ⟨b7, 0, none⟩), .pointer (some ⟨b8, 0, none⟩)] V R := by
 refine Tri.mono (x91 (v0 := i) (v1 := some ⟨b6, 0, none⟩) (v2 := some ⟨b7, 0, none⟩) (v3 := some ⟨b8, 0, none⟩) (R := R) ?_) fun _ _ h => h
 unfold w91
 obtain ⟨⟨t6, h6⟩, ⟨t7, h7⟩, ⟨t8, h8⟩, -⟩ := B
 have hr := (he.sub M.sub).rows
 have hn := hr.n_eq
 have hl := (List.getElem?_eq_some_iff.1 ha).1
 obtain ⟨y, -, hy, -, hl2, hp, hz, hrow⟩ := hr.get (i := i) (by omega)
 rw [ha] at hy; cases hy
 refine ⟨_, row1 h6, nn, e.l, row_cells h7 3 1 (by simp [E.row]), hp, hz, by omega, _, _, _, _, hrow, _, row1 h8, Tri.mono H fun r V' h => ?_⟩
 obtain ⟨rs, rfl⟩ := hR r V' h
 cases rs with
 | ok v => exact .inl ⟨v, rfl, h⟩
 | bad f => exact .inr ⟨_, rfl, h⟩
theorem Post.res {g : Nat -> Rs} {r : Ending} (h : Post V0 d m p kb bb V kn bz g r V1) : ∃ rs, r = resR rs := by
 obtain ⟨rs, h, -⟩ := h; exact ⟨rs, h⟩
theorem kid_eq {F : Int -> Int -> Rs} {i : Nat} {a : E} (h : e.k[i]? = some a) : kidR (e.k.map (evE d m F x)) i = evE d m F x a := kidR_at h
theorem valOk_range (G : GoodD d m) {t : ByteArray} {v : Int} (h : valOk d m t v) : -1099511627776 <= v /\ v <= 1099511627776 := by
 unfold valOk at h
 split at h
 ·omega
 ·unfold rightB at h
  have hl := (validM_parts G.mem).2.1
  split at h
  ·exact of_decide_eq_true h
  ·split at h
   ·have := of_decide_eq_true h; omega
   ·have := of_decide_eq_true h; omega
theorem br_no {c a b : Prop} (h : ¬ c) (hb : b) : Br c a b := ⟨fun k => absurd k h, fun _ => hb⟩
theorem br_yes {c a b : Prop} (h : c) (ha : a) : Br c a b := ⟨fun _ => ha, fun k => absurd h k⟩
theorem exprC (S : Stat V0 d m p kb bb) (N : Nat) (ih : ∀ N', N' < N -> ExprC V0 d m p kb bb N') : ExprC V0 d m p kb bb N := by
 have hM := measC S N ih
 intro e
 induction e using E.ind with
 | h e ihk =>
 intro T t x V kn bz hv he ht hT M K hN
 obtain ⟨G, hG⟩ : ∃ G : Nat -> Rs, G = fun n => evE d m (evM d m n) x e := ⟨_, rfl⟩
 rw [<- hG]
 have hGn : ∀ n, G n = comb d m (evM d m n) x e.op e.n e.s (e.k.map (evE d m (evM d m n) x)) := fun n => by rw [hG]; exact evE_eq _ _ _
 have kid : ∀ {i : Nat} {a : E} {u : ByteArray} {V1 : Mem} {kn1 : Int × Int -> Option Int} {b6 b7 b8 : Nat}, e.k[i]? = some a -> exprT d (inFormS d T) a = (u, 0) -> Bx p kb bb V1 b6 b7 b8 e x -> Mach V0 d m p kb bb V1 kn1 bz -> KnOk d m kn1 -> (∀ k, kn k ≠ none -> kn1 k ≠ none) ->
   Tri Tryz.prog 91 #[.int .i64 i, .pointer (some ⟨b6, 0, none⟩), .pointer (some ⟨b7, 0, none⟩), .pointer (some ⟨b8, 0, none⟩)] V1 (Post V0 d m p kb bb V1 kn1 bz fun n => evE d m (evM d m n) x a) := fun {i a u V1 kn1 b6 b7 b8} ha hu B M1 K1 hk => by
  have hm : a ∈ e.k := List.mem_of_getElem? ha
  exact c91 M1 he B ha (ihk a hm T u x V1 kn1 bz (hv.kids a hm) (he.kids a hm) hu hT M1 K1 (Nat.le_trans (unseen_le hk) hN)) fun _ _ => Post.res
 have val : ∀ {a : E} {u : ByteArray} {w : Int}, a ∈ e.k -> exprT d (inFormS d T) a = (u, 0) -> (∃ n, evE d m (evM d m n) x a = .ok w) -> valOk d m u w := fun hm hu ⟨n, hn⟩ => sound S.good hT (hv.kids _ hm) hu hn
 refine Tri.mono (x62 (v0 := some ⟨p, 0, none⟩) (v1 := e.op) (v2 := e.n) (v3 := e.s) (v4 := e.l) (v5 := x) (R := Post V0 d m p kb bb V kn bz G) ?_) fun _ _ h => h
 have two : ∀ {a b : E} {u w' : ByteArray}, (9 <= e.op /\ e.op <= 23 /\ e.op ≠ 18 /\ e.op ≠ 19 /\ e.op ≠ 20 /\ e.op ≠ 21) -> e.k = [a, b] -> exprT d (inFormS d T) a = (u, 0) -> exprT d (inFormS d T) b = (w', 0) -> w62 (some ⟨p, 0, none⟩) e.op e.n e.s e.l x V (Post V0 d m p kb bb V kn bz G) := by
  intro a b u w' h hk ha hb
  unfold w62
  have h0 : e.k[0]? = some a := by rw [hk]; rfl
  have h1 : e.k[1]? = some b := by rw [hk]; rfl
  have hG' : ∀ n, G n = (evE d m (evM d m n) x a).bind fun w => (evE d m (evM d m n) x b).bind fun z => twoV e.op w z := fun n => by rw [hGn, combTwo h, kid_eq h0, kid_eq h1]
  refine br_no (by omega) (br_no (by omega) (br_no (by omega) (br_no (by omega) (br_no (by omega) (br_no (by omega) (br_no (by omega) (br_no (by omega) (br_no (by omega) (br_no (by omega) (br_no (by omega) (br_no (by omega) ?_)))))))))))
  intro b6 h6 b7 h7 b8 h8
  obtain ⟨B, hs⟩ := Bx.make (e := e) (x := x) M h6 h7 h8
  refine Post.split (kid h0 ha B (M.grow hs) K fun _ h => h) (fun f V4 H => ⟨_, rfl, H.bad (h := fun n w => (evE d m (evM d m n) x b).bind fun z => twoV e.op w z) hs hG'⟩) fun w V4 H => ?_
  obtain ⟨kn4, M4, K4, hk4, hw⟩ := H.ok_parts
  have B4 := B.keep H.keep
  obtain ⟨t7, g7⟩ := B4.h7
  have mh : Mono fun n => (evE d m (evM d m n) x b).bind fun z => twoV e.op w z := fun n n' hn => Rs.le.bind (mono_evE x b n n' hn) fun _ => .inr rfl
  have seq : ∀ {rs V5}, PostR V0 d m p kb bb V4 kn4 bz (fun n => (evE d m (evM d m n) x b).bind fun z => twoV e.op w z) rs V5 -> PostR V0 d m p kb bb V kn bz G rs V5 := fun h => H.seq (h := fun n w => (evE d m (evM d m n) x b).bind fun z => twoV e.op w z) hs hG' (mono_evE x a) mh hk4 h
  refine ⟨nn, e.op, row_cells g7 0 1 (by simp [E.row]), Post.split (kid h1 hb B4 M4 K4 hk4) (fun f V5 H5 => ⟨_, rfl, seq (H5.bad (Mem.sub.refl _) fun _ => rfl)⟩) fun z V5 H5 => ?_⟩
  obtain ⟨kn5, M5, K5, hk5, hz⟩ := H5.ok_parts
  obtain ⟨t7', g7'⟩ := (B4.keep H5.keep).h7
  have hva := valOk_range S.good (val (List.mem_of_getElem? h0) ha hw)
  have hvb := valOk_range S.good (val (List.mem_of_getElem? h1) hb hz)
  have done : ∀ rs, rs = twoV e.op w z -> PostR V0 d m p kb bb V kn bz G rs V5 := fun rs hr => seq (H5.seq (h := fun _ z => twoV e.op w z) (Mem.sub.refl _) (fun _ => rfl) (mono_evE x b) (mono_const _) hk5 (.pure M5 K5 (by rw [hr]; exact Out.const _)))
  exact ⟨row_cells' g7' 0 0 1 (by simp [E.row]), nn, RB.split (c96 hva hvb) (fun f hf => ⟨.bad f, rfl, done _ hf.symm⟩) fun w2 hw2 => ⟨.ok w2, rfl, done _ hw2.symm⟩⟩
 unfold w62
 have pure : ∀ {v : Int}, (∀ n, G n = .ok v) -> Post V0 d m p kb bb V kn bz G (.returned (.int .i64 v)) V := fun {v} h => ⟨.ok v, rfl, .pure M K ⟨0, h 0⟩⟩
 have con : ∀ (r : Rs), Mono fun _ => r := mono_const
 cases kind (d := d) (sc := inFormS d T) rfl hv ht with
 | int h hn =>
  refine ⟨fun _ => pure fun n => (hGn n).trans (comb1 (.inl h)), fun k => absurd h k⟩
 | bool h hn =>
  refine ⟨fun k => absurd (h.symm.trans k) (by decide), fun _ => ⟨fun _ => pure fun n => (hGn n).trans (comb1 (.inr h)), fun k => absurd h k⟩⟩
 | nil h hn =>
  repeat refine br_no (h ▸ (by decide)) ?_
  exact br_yes h (pure fun n => (hGn n).trans (comb3 h))
 | var h hl hne =>
  have fin : TT 92 #[.pointer (some ⟨p, 0, none⟩), .string e.s, .int .i64 x] V fun r V1 => ∃ v6, r = .returned (.int .i64 v6) /\ Post V0 d m p kb bb V kn bz G (.returned (.int .i64 v6)) V1 := (c92 S M hT hl hne).call ⟨_, rfl, pure fun n => (hGn n).trans (comb4 h)⟩
  repeat refine br_no (h ▸ (by decide)) ?_
  exact br_yes h fin
 | @fld _ u a h hk ha hf =>
  have h0 : e.k[0]? = some a := by rw [hk]; rfl
  have hG' : ∀ n, G n = (evE d m (evM d m n) x a).bind fun w => fldV d m w e.s := fun n => by rw [hGn, comb5 h, kid_eq h0]
  repeat refine br_no (h ▸ (by decide)) ?_
  refine br_yes h ?_
  intro b6 h6 b7 h7 b8 h8
  obtain ⟨B, hs⟩ := Bx.make (e := e) (x := x) M h6 h7 h8
  refine Post.split (kid h0 ha B (M.grow hs) K fun _ h => h) (fun f V4 H => ⟨_, rfl, H.bad hs hG'⟩) fun w V4 H => ?_
  obtain ⟨kn4, M4, K4, hk4, hw⟩ := H.ok_parts
  have B4 := B.keep H.keep
  obtain ⟨⟨t6, g6⟩, ⟨t7, g7⟩, -⟩ := B4
  have hval := val (List.mem_of_getElem? h0) ha hw
  have done : ∀ rs, rs = fldV d m w e.s -> PostR V0 d m p kb bb V kn bz G rs V4 := fun rs hr => H.seq hs hG' (mono_evE x a) (con _) hk4 (.pure M4 K4 (by rw [hr]; exact Out.const _))
  refine ⟨row_cells' g7 2 0 1 (by simp [E.row]), nn, row_cells' g6 0 0 1 (by simp), RB.split (c93 S M4 hf hval) (fun f hf => ⟨.bad f, rfl, done _ hf.symm⟩) fun w2 hw2 => ⟨.ok w2, rfl, done _ hw2.symm⟩⟩
 | @call u a ms i h hk ha hi hms hf =>
  have h0 : e.k[0]? = some a := by rw [hk]; rfl
  have hG' : ∀ n, G n = (evE d m (evM d m n) x a).bind fun w => evM d m n i w := fun n => by rw [hGn, comb7 h, kid_eq h0, hi]
  repeat refine br_no (h ▸ (by decide)) ?_
  refine br_yes h ?_
  refine (c37 S M).call ⟨_, rfl, ?_⟩
  rw [hi]
  intro b6 h6 b7 h7 b8 h8
  obtain ⟨B, hs⟩ := Bx.make (e := e) (x := x) M h6 h7 h8
  refine Post.split (kid h0 ha B (M.grow hs) K fun _ h => h) (fun f V4 H => ⟨_, rfl, H.bad (h := fun n w => evM d m n i w) hs hG'⟩) fun w V4 H => ?_
  obtain ⟨kn4, M4, K4, hk4, hw⟩ := H.ok_parts
  obtain ⟨⟨t6, g6⟩, -⟩ := B.keep H.keep
  have hval := valOk_fits S.good.valid hf (val (List.mem_of_getElem? h0) ha hw)
  refine ⟨row_cells' g6 0 0 1 (by simp), Post.split (hM i ms w V4 kn4 bz hms hval M4 K4 (Nat.le_trans (unseen_le hk4) hN)) (fun f V5 H5 => ⟨_, rfl, H.seq hs hG' (mono_evE x a) (mono_evM i w) hk4 H5⟩) fun w2 V5 H5 => ⟨.ok w2, rfl, H.seq hs hG' (mono_evE x a) (mono_evM i w) hk4 H5⟩⟩
 | @neg a h hk ha =>
  have h0 : e.k[0]? = some a := by rw [hk]; rfl
  have hG' : ∀ n, G n = (evE d m (evM d m n) x a).bind fun w => big (-w) := fun n => by rw [hGn, comb8 h, kid_eq h0]
  repeat refine br_no (h ▸ (by decide)) ?_
  refine br_yes h ?_
  intro b6 h6 b7 h7 b8 h8
  obtain ⟨B, hs⟩ := Bx.make (e := e) (x := x) M h6 h7 h8
  refine Post.split (kid h0 ha B (M.grow hs) K fun _ h => h) (fun f V4 H => ⟨_, rfl, H.bad hs hG'⟩) fun w V4 H => ?_
  obtain ⟨kn4, M4, K4, hk4, hw⟩ := H.ok_parts
  have hval := valOk_int.1 (val (List.mem_of_getElem? h0) ha hw)
  have done : ∀ rs, rs = big (0 - w) -> PostR V0 d m p kb bb V kn bz G rs V4 := fun rs hr => H.seq hs hG' (mono_evE x a) (con _) hk4 (.pure M4 K4 (by rw [hr, Int.zero_sub]; exact Out.const _))
  refine ⟨⟨by omega, by omega⟩, RB.split c94 (fun f hf => ⟨.bad f, rfl, done _ hf.symm⟩) fun w2 hw2 => ⟨.ok w2, rfl, done _ hw2.symm⟩⟩
 | @not a h hk ha =>
  have h0 : e.k[0]? = some a := by rw [hk]; rfl
  have hG' : ∀ n, G n = (evE d m (evM d m n) x a).bind fun w => .ok (1 - w) := fun n => by rw [hGn, comb18 h, kid_eq h0]
  repeat refine br_no (h ▸ (by decide)) ?_
  refine br_yes h ?_
  intro b6 h6 b7 h7 b8 h8
  obtain ⟨B, hs⟩ := Bx.make (e := e) (x := x) M h6 h7 h8
  refine Post.split (kid h0 ha B (M.grow hs) K fun _ h => h) (fun f V4 H => ⟨_, rfl, H.bad hs hG'⟩) fun w V4 H => ?_
  obtain ⟨kn4, M4, K4, hk4, hw⟩ := H.ok_parts
  have hval := valOk_bool.1 (val (List.mem_of_getElem? h0) ha hw)
  exact ⟨⟨by omega, by omega⟩, .ok (1 - w), rfl, H.seq hs hG' (mono_evE x a) (con _) hk4 (.pure M4 K4 (Out.const _))⟩
 | @log a h hk ha =>
  have h0 : e.k[0]? = some a := by rw [hk]; rfl
  have hG' : ∀ n, G n = (evE d m (evM d m n) x a).bind fun w => .ok (logV w) := fun n => by rw [hGn, comb24 h, kid_eq h0]
  repeat refine br_no (h ▸ (by decide)) ?_
  refine br_yes h ?_
  intro b6 h6 b7 h7 b8 h8
  obtain ⟨B, hs⟩ := Bx.make (e := e) (x := x) M h6 h7 h8
  refine Post.split (kid h0 ha B (M.grow hs) K fun _ h => h) (fun f V4 H => ⟨_, rfl, H.bad hs hG'⟩) fun w V4 H => ?_
  obtain ⟨kn4, M4, K4, hk4, hw⟩ := H.ok_parts
  have hval := valOk_int.1 (val (List.mem_of_getElem? h0) ha hw)
  refine GenK.max2 rfl rfl ⟨_, rfl, ?_⟩
  rw [show (if (0 : Int) < w then w else 0) = (w.toNat : Int) by split <;> omega]
  have hb : Nat.log2 w.toNat < 64 ∨ w.toNat = 0 := by
   by_cases h : w.toNat = 0
   ·exact .inr h
   ·exact .inl ((Nat.log2_lt h).2 (by omega))
  have hlen : 0 <= lenN w.toNat /\ lenN w.toNat <= 64 := by
   unfold lenN
   rcases hb with h | h
   ·split <;> omega
   ·rw [if_pos h]; omega
  refine ⟨inU _ (by omega), (c95 (by omega)).call ⟨_, rfl, ⟨by omega, by omega⟩, GenK.max2 rfl rfl ⟨_, rfl, ?_⟩⟩⟩
  have hlog := lenN_log (n := w.toNat)
  rw [show (if (0 : Int) < lenN w.toNat - 1 then lenN w.toNat - 1 else 0) = logV w by unfold logV; rw [<- hlog]; split <;> omega]
  exact ⟨.ok (logV w), rfl, H.seq hs hG' (mono_evE x a) (con _) hk4 (.pure M4 K4 (Out.const _))⟩
 | @and a b h hk ha hb =>
  have h0 : e.k[0]? = some a := by rw [hk]; rfl
  have h1 : e.k[1]? = some b := by rw [hk]; rfl
  have hG' : ∀ n, G n = (evE d m (evM d m n) x a).bind fun w => if w = 0 then .ok 0 else evE d m (evM d m n) x b := fun n => by rw [hGn, comb19 h, kid_eq h0, kid_eq h1]
  repeat refine br_no (h ▸ (by decide)) ?_
  refine br_yes h ?_
  intro b6 h6 b7 h7 b8 h8
  obtain ⟨B, hs⟩ := Bx.make (e := e) (x := x) M h6 h7 h8
  refine Post.split (kid h0 ha B (M.grow hs) K fun _ h => h) (fun f V4 H => ⟨_, rfl, H.bad (h := fun n w => if w = 0 then .ok 0 else evE d m (evM d m n) x b) hs hG'⟩) fun w V4 H => ?_
  obtain ⟨kn4, M4, K4, hk4, hw⟩ := H.ok_parts
  have seq : ∀ {rs V5}, PostR V0 d m p kb bb V4 kn4 bz (fun n => if w = 0 then .ok 0 else evE d m (evM d m n) x b) rs V5 -> Mono (fun n => if w = 0 then .ok 0 else evE d m (evM d m n) x b) -> PostR V0 d m p kb bb V kn bz G rs V5 := fun h mh => H.seq (h := fun n w => if w = 0 then .ok 0 else evE d m (evM d m n) x b) hs hG' (mono_evE x a) mh hk4 h
  refine ⟨fun hz => ?_, fun hz => ?_⟩
  ·have hz : w = 0 := hz
   simp only [hz, if_true] at seq
   exact ⟨.ok 0, rfl, seq (.pure M4 K4 (Out.const _)) (con _)⟩
  ·have hz : ¬ w = 0 := hz
   simp only [hz, if_false] at seq
   exact Post.split (kid h1 hb (B.keep H.keep) M4 K4 hk4) (fun f V5 H5 => ⟨_, rfl, seq H5 (mono_evE x b)⟩) fun w2 V5 H5 => ⟨.ok w2, rfl, seq H5 (mono_evE x b)⟩
 | @or a b h hk ha hb =>
  have h0 : e.k[0]? = some a := by rw [hk]; rfl
  have h1 : e.k[1]? = some b := by rw [hk]; rfl
  have hG' : ∀ n, G n = (evE d m (evM d m n) x a).bind fun w => if w = 0 then evE d m (evM d m n) x b else .ok 1 := fun n => by rw [hGn, comb20 h, kid_eq h0, kid_eq h1]
  repeat refine br_no (h ▸ (by decide)) ?_
  refine br_yes h ?_
  intro b6 h6 b7 h7 b8 h8
  obtain ⟨B, hs⟩ := Bx.make (e := e) (x := x) M h6 h7 h8
  refine Post.split (kid h0 ha B (M.grow hs) K fun _ h => h) (fun f V4 H => ⟨_, rfl, H.bad (h := fun n w => if w = 0 then evE d m (evM d m n) x b else .ok 1) hs hG'⟩) fun w V4 H => ?_
  obtain ⟨kn4, M4, K4, hk4, hw⟩ := H.ok_parts
  have seq : ∀ {rs V5}, PostR V0 d m p kb bb V4 kn4 bz (fun n => if w = 0 then evE d m (evM d m n) x b else .ok 1) rs V5 -> Mono (fun n => if w = 0 then evE d m (evM d m n) x b else .ok 1) -> PostR V0 d m p kb bb V kn bz G rs V5 := fun h mh => H.seq (h := fun n w => if w = 0 then evE d m (evM d m n) x b else .ok 1) hs hG' (mono_evE x a) mh hk4 h
  refine ⟨fun hz => ?_, fun hz => ?_⟩
  ·have hz : w = 0 := hz
   simp only [hz, if_true] at seq
   exact Post.split (kid h1 hb (B.keep H.keep) M4 K4 hk4) (fun f V5 H5 => ⟨_, rfl, seq H5 (mono_evE x b)⟩) fun w2 V5 H5 => ⟨.ok w2, rfl, seq H5 (mono_evE x b)⟩
  ·have hz : ¬ w = 0 := hz
   simp only [hz, if_false] at seq
   exact ⟨.ok 1, rfl, seq (.pure M4 K4 (Out.const _)) (con _)⟩
 | @cond a b c _ u w' h hk ha hb hc hu hw =>
  have h0 : e.k[0]? = some a := by rw [hk]; rfl
  have h1 : e.k[1]? = some b := by rw [hk]; rfl
  have h2 : e.k[2]? = some c := by rw [hk]; rfl
  have hG' : ∀ n, G n = (evE d m (evM d m n) x a).bind fun w => if w = 0 then evE d m (evM d m n) x c else evE d m (evM d m n) x b := fun n => by rw [hGn, comb21 h, kid_eq h0, kid_eq h1, kid_eq h2]
  repeat refine br_no (h ▸ (by decide)) ?_
  refine br_yes h ?_
  intro b6 h6 b7 h7 b8 h8
  obtain ⟨B, hs⟩ := Bx.make (e := e) (x := x) M h6 h7 h8
  refine Post.split (kid h0 ha B (M.grow hs) K fun _ h => h) (fun f V4 H => ⟨_, rfl, H.bad (h := fun n w => if w = 0 then evE d m (evM d m n) x c else evE d m (evM d m n) x b) hs hG'⟩) fun w V4 H => ?_
  obtain ⟨kn4, M4, K4, hk4, hw⟩ := H.ok_parts
  have seq : ∀ {rs V5}, PostR V0 d m p kb bb V4 kn4 bz (fun n => if w = 0 then evE d m (evM d m n) x c else evE d m (evM d m n) x b) rs V5 -> Mono (fun n => if w = 0 then evE d m (evM d m n) x c else evE d m (evM d m n) x b) -> PostR V0 d m p kb bb V kn bz G rs V5 := fun h mh => H.seq (h := fun n w => if w = 0 then evE d m (evM d m n) x c else evE d m (evM d m n) x b) hs hG' (mono_evE x a) mh hk4 h
  refine ⟨fun hz => ?_, fun hz => ?_⟩
  ·have hz : w = 0 := hz
   simp only [hz, if_true] at seq
   exact Post.split (kid h2 hc (B.keep H.keep) M4 K4 hk4) (fun f V5 H5 => ⟨_, rfl, seq H5 (mono_evE x c)⟩) fun w2 V5 H5 => ⟨.ok w2, rfl, seq H5 (mono_evE x c)⟩
  ·have hz : ¬ w = 0 := hz
   simp only [hz, if_false] at seq
   exact Post.split (kid h1 hb (B.keep H.keep) M4 K4 hk4) (fun f V5 H5 => ⟨_, rfl, seq H5 (mono_evE x b)⟩) fun w2 V5 H5 => ⟨.ok w2, rfl, seq H5 (mono_evE x b)⟩
 | eq h hk ha hb => exact two (by omega) hk ha hb
 | cmp h hk ha hb => exact two (by omega) hk ha hb
 | ari h hk ha hb => exact two (by omega) hk ha hb
theorem exprAll (S : Stat V0 d m p kb bb) : ∀ N, ExprC V0 d m p kb bb N := fun N => Nat.strongRecOn N fun N ih => exprC S N ih
theorem measAll (S : Stat V0 d m p kb bb) : ∀ N, MeasC V0 d m p kb bb N := fun N => measC S N fun N' _ => exprAll S N'
end
end Go.Proofs
namespace Go.Sx
open Go
section
variable {P : Program} {n : Nat} {ops : Array Oper} {i : Nat} {o : Oper} {rest : List Nat} {Q : Exit -> Act -> World -> Prop} {a : Act} {w : World}
theorem wanted_none (hg : o.guard = none) : Region.wanted o (yielded ops a.tmps) = true := by simp [Region.wanted, hg]
theorem step_value {v : Value} (ho : ops[i]? = some o) (hg : o.guard = none) (hrun : (execOp a.eval o).run P w = .ok (.value v) w) (k : wpOpsIn (wideR none) n P ops Q rest (a.put o.dst v) w) : wpOpsIn (wideR none) n P ops Q (i :: rest) a w := by
 rw [wpOpsIn_cons]
 unfold wpOpIn
 simp only [ho]
 rw [if_pos (wanted_none hg)]
 refine ⟨fun _ _ => trivial, ?_⟩
 show Oper.uponIn _ _ _ _ _ _ _ ((execOp a.eval o).run P w)
 rw [hrun]; exact k
theorem step_defer {d : Deferred} (ho : ops[i]? = some o) (hg : o.guard = none) (hrun : (execOp a.eval o).run P w = .ok (.defer d) w) (k : wpOpsIn (wideR none) n P ops Q rest (({ a with defers := d :: a.defers } : Act).put o.dst undef) w) : wpOpsIn (wideR none) n P ops Q (i :: rest) a w := by
 rw [wpOpsIn_cons]
 unfold wpOpIn
 simp only [ho]
 rw [if_pos (wanted_none hg)]
 refine ⟨fun _ _ => trivial, ?_⟩
 show Oper.uponIn _ _ _ _ _ _ _ ((execOp a.eval o).run P w)
 rw [hrun]; exact k
theorem step_call {f : FuncId} {args : Array Value} {V : Mem} {R : Ending -> Mem -> Prop} (ho : ops[i]? = some o) (hg : o.guard = none) (hrun : (execOp a.eval o).run P w = .ok (.enter f args) w) (hV : V.le w) (H : Tri P f args V R)
  (hp : ∀ ch V' w', R (.panicked ch) V' -> Frm V w V' w' -> Q (.panic ch) a w') (hr : ∀ v V' w', R (.returned v) V' -> Frm V w V' w' -> wpOpsIn (wideR none) n P ops Q rest (a.put o.dst v) w') (hn : ∀ V', ¬ R .outgrown V') : wpOpsIn (wideR none) n P ops Q (i :: rest) a w := by
 rw [wpOpsIn_cons]
 unfold wpOpIn
 simp only [ho]
 rw [if_pos (wanted_none hg)]
 refine ⟨fun _ _ => trivial, ?_⟩
 show Oper.uponIn _ _ _ _ _ _ _ ((execOp a.eval o).run P w)
 rw [hrun]
 refine ⟨fun h => by simp [wideR, Fence.wide] at h, callsIn_wideR.2 (calls_mono (H w hV) ?_)⟩
 rintro e w' ⟨V', hR, hF⟩
 cases e with
 | returned v => exact hr v V' w' hR hF
 | panicked ch => exact hp ch V' w' hR hF
 | outgrown => exact (hn V' hR).elim
theorem run_callv {c : Call} {fv : Operand} {f : FuncId} {first caps args : Array Value} (hop : o.op = .call c) (hc : c.callee = .value fv) (hf : a.eval fv = .func (.func f) first caps) (hargs : c.args.map a.eval = args) (hk : ∀ args w, (callFunc f args).run P w = .ok (.enter f args) w) :
  (execOp a.eval o).run P w = .ok (.enter f (first ++ args ++ caps)) w := by
 unfold execOp
 simp only [hop, resolve, hc, hf, hargs, Deferred.ofValue, Sem.run_bind, Sem.run_pure, Result.andThen_ok, invoke]
 simp [hk]
def Rec (u : FrameMode) (v : Value) (u' : FrameMode) : Prop :=
 match u with
 | .panicking ({ v := v', recovered := false, goexit := false } :: older) => v = v' /\ u' = .panicking ({ v := v', recovered := true } :: older)
 | _ => v = .nilIface /\ u' = u
theorem calls_recover {f : FuncId} {fn : Func} {x y : Code} {id : Nat} {o0 o1 : Oper} {args : Array Value} {u : FrameMode} {R : Ending -> FrameMode -> World -> Prop} {at0 : Array TypeId} {t3 t6 : Nat} (hf : P.funcs[f]? = some fn) (hb : fn.body = some (.seq x y)) (hx : x = .region id #[o0, o1] false)
  (h0 : o0.op = .call { callee := .builtin .recover, args := #[], argTypes := at0 }) (d0 : o0.dst = some t6) (g0 : o0.guard = none) (h1 : o1.op = .assign (.tmp t6)) (d1 : o1.dst = some t3) (g1 : o1.guard = none) (h6 : t6 < fn.ntmps) (hd : args.size <= fn.ntmps)
  (H : ∀ (v : Value) (u' : FrameMode), Rec u v u' ->
   y.wpIn (wideR none) n P (fun e a' w' => (e = .normal ∨ e = .ret) /\ a'.defers = [] /\ ∃ v, (results fn a'.tmps).run P w' = .ok v w' /\ R (.returned v) u' w') ((({ tmps := args ++ Array.replicate (fn.ntmps - args.size) undef, defers := [] } : Act).put (some t6) v).put (some t3) v) w) :
  CallsDIn (wideR none) n P f args u w R := by
 refine callsDIn_of_wpSIn hf hb trivial fun c₀ cs hu => ?_
 refine wpSIn_seq ?_
 subst hx
 refine wpSIn_region ?_
 have hr0 : ∀ a : Act, (execOp a.eval o0).run P w = .ok .recover w := fun a => by
  unfold execOp
  simp [h0, resolve, invoke, builtin]
 have hr1 : ∀ a : Act, (execOp a.eval o1).run P w = .ok (.value (a.eval (.tmp t6))) w := fun a => by
  unfold execOp
  simp [h1]
 have go : ∀ (v : Value) (u' : FrameMode) (cs' : List Frame), Rec u v u' -> cs' = { c₀ with mode := u' } :: cs ->
   wpOpsSIn (wideR none) n P #[o0, o1] (Exit.thenS (Code.wpSIn (wideR none) n P y (bodyPostS P fn c₀ cs R)) (bodyPostS P fn c₀ cs R)) [1] (({ tmps := args ++ Array.replicate (fn.ntmps - args.size) undef, defers := [] } : Act).put o0.dst v) cs' w := fun v u' cs' hv hcs => by
  rw [wpOpsSIn.eq_2]
  simp only [List.getElem?_toArray, List.getElem?_cons_succ, List.getElem?_cons_zero]
  refine ⟨fun _ _ => trivial, ?_⟩
  have hw := wanted_none (ops := #[o0, o1]) (a := (({ tmps := args ++ Array.replicate (fn.ntmps - args.size) undef, defers := [] } : Act).put o0.dst v)) g1
  rw [if_pos hw, hr1]
  simp only
  rw [wpOpsSIn.eq_1]
  show Code.wpSIn (wideR none) n P y (bodyPostS P fn c₀ cs R) _ cs' w
  have e : (({ tmps := args ++ Array.replicate (fn.ntmps - args.size) undef, defers := [] } : Act).put o0.dst v).eval (.tmp t6) = v := by
   rw [d0]
   exact getD_put_eq (a := { tmps := args ++ Array.replicate (fn.ntmps - args.size) undef, defers := [] }) (v := v) (by simp; omega)
  rw [e, d0, d1]
  refine wpSIn_of_wpIn rfl (wpIn_mono (H v u' hv) ?_)
  rintro e a' w' ⟨he, h1, v', h2, h3⟩
  rcases he with rfl | rfl
  ·exact ⟨h1, u', hcs, v', h2, h3⟩
  ·exact ⟨h1, u', hcs, v', h2, h3⟩
 show wpOpsSIn _ _ _ _ _ [0, 1] _ _ _
 rw [wpOpsSIn.eq_2]
 simp only [List.getElem?_toArray, List.getElem?_cons_zero]
 refine ⟨fun _ _ => trivial, ?_⟩
 have hw := wanted_none (ops := #[o0, o1]) (a := ({ tmps := args ++ Array.replicate (fn.ntmps - args.size) undef, defers := [] } : Act)) g0
 simp only at hw
 rw [if_pos hw, hr0]
 simp only
 unfold recoverD
 split
 ·rename_i v cs' hrec
  simp only at hrec
  split at hrec
  ·rename_i v' older hm
   simp only [Option.some.injEq, Prod.mk.injEq] at hrec
   obtain ⟨rfl, rfl⟩ := hrec
   rw [hu] at hm
   exact go _ _ _ (by unfold Rec; rw [hm]; exact ⟨rfl, rfl⟩) rfl
  ·cases hrec
 ·rename_i hrec
  simp only at hrec
  split at hrec
  ·cases hrec
  ·rename_i hm
   refine go _ u _ ?_ (by cases c₀; simp only at hu; subst hu; rfl)
   rw [hu] at hm
   unfold Rec
   split
   ·exact absurd rfl (hm _ _)
   ·exact ⟨rfl, rfl⟩
end
end Go.Sx
namespace Go.Proofs
open Go Go.Sx
attribute [local irreducible] Go.Sx.Tri
theorem GenK.neqNil {V : Mem} {x : Operand} {t : TypeId} {v : Value} {ty : Nat} {vals : Operand -> Value} (hx : vals x = .iface t v) (hy : vals (.const .nilIface) = .nilIface) {q : Value -> Mem -> Prop} (hq : q (.bool true) V) : GenK Tryz.prog (.binOp .neq 20 x (.const .nilIface) 20) ty vals V q := by
 intro w hw
 refine ⟨_, w, V, ?_, Frm.refl hw, hq⟩
 have he : (Op.equal 20 (.iface t v) .nilIface).run Tryz.prog w = .ok false w := by
  rw [equal_def, Op.equalIn]; simp [Sem.run_bind, run_underlying Tryz.underlying20]
 unfold execOp
 simp [hx, hy, binOp, eqGuard, Sem.run_bind, he]
theorem GenK.eqNilNil {V : Mem} {x : Operand} {ty : Nat} {vals : Operand -> Value} (hx : vals x = .nilIface) (hy : vals (.const .nilIface) = .nilIface) {q : Value -> Mem -> Prop} (hq : q (.bool false) V) : GenK Tryz.prog (.binOp .neq 20 x (.const .nilIface) 20) ty vals V q := by
 intro w hw
 refine ⟨_, w, V, ?_, Frm.refl hw, hq⟩
 have he : (Op.equal 20 .nilIface .nilIface).run Tryz.prog w = .ok true w := by
  rw [equal_def, Op.equalIn]; simp [Sem.run_bind, run_underlying Tryz.underlying20]
 unfold execOp
 simp [hx, hy, binOp, eqGuard, Sem.run_bind, he]
theorem GenK.assertOk {P : Program} {V : Mem} {x : Operand} {t u : TypeId} {ts : Array Field} {v : Value} {ty : Nat} {vals : Operand -> Value} (ht : P.underlying t = some (.struct ts)) (hx : vals x = .iface t v) {q : Value -> Mem -> Prop} (hq : q (.tuple #[v, .bool true]) V) : GenK P (.typeAssert x u t true) ty vals V q := by
 intro w hw
 refine ⟨_, w, V, ?_, Frm.refl hw, hq⟩
 unfold execOp
 simp [hx, Instr.typeAssert, Sem.run_bind, run_underlying ht]
theorem GenK.clear {P : Program} {V : Mem} {x : Operand} {t k e : TypeId} {b : Nat} {α : Type} {enc : α -> Value} {f : α -> Option Value} {ty : Nat} {vals : Operand -> Value} (ht : P.underlying t = some (.map k e)) (hx : vals x = .map (some b)) (hm : MapV enc V b f) {q : Value -> Mem -> Prop}
  (hq : ∀ o, MapV enc (V.set b o) b (fun _ => none) -> q (.tuple #[]) (V.set b o)) : GenK P (.call { callee := .builtin .clear, args := #[x], argTypes := #[t] }) ty vals V q := by
 intro w hw
 obtain ⟨es, c, h1, h2, hd, h3⟩ := hm.at_
 refine ⟨_, _, V.set b (.map #[] c), ?_, Frm.put hw h1, hq _ ⟨#[], c, Mem.set_same _ _ _, by simp, by simp, by simp [lookV]⟩⟩
 unfold execOp
 simp only [resolve, invoke, builtin, Sem.run_bind, Sem.run_pure, Result.andThen_ok, List.map_toArray, List.map_cons, List.map_nil, hx, Builtin.clear_]
 simp [Sem.run_bind, run_underlying ht, MapKept.run_getObj_map (hw _ _ h1), MapKept.run_setObj_map _ (hw _ _ h1)]
noncomputable def dOp : Oper := { dst := none, op := .move (.tmp 0), type := 0, pos := "", after := #[], guard := none }
noncomputable def tryX : Code := match bodyOf Tryz.f72 with | .seq x _ => x | c => c
noncomputable def tryY : Code := match bodyOf Tryz.f72 with | .seq _ y => y | c => c
theorem tryBody : (Tryz.f72).body = some (.seq tryX tryY) := by kernel_rfl
theorem tryX_eq : tryX = .region 0 #[(opsOf tryX).getD 0 dOp, (opsOf tryX).getD 1 dOp] false := by kernel_rfl
def valRs : Rs -> Int | .ok v => v | .bad _ => 0
def errRs : Rs -> Int | .ok _ => 0 | .bad e => e
section
variable {V0 V : Mem} {d : Ds} {m : Mm} {p kb bb : Nat} {kn : Int × Int -> Option Int} {bz : Int × Int -> Bool}
structure TryM (V0 : Mem) (d : Ds) (m : Mm) (p kb bb b2 b4 b5 : Nat) (V : Mem) (kn : Int × Int -> Option Int) (bz : Int × Int -> Bool) (x4 x5 : Int) : Prop where
 mach : Mach V0 d m p kb bb V kn bz
 c2 : ∃ t, V b2 = some (cell (.pointer (some ⟨p, 0, none⟩)) t)
 c4 : ∃ t, V b4 = some (cell (.int .i64 x4) t)
 c5 : ∃ t, V b5 = some (cell (.int .i64 x5) t)
theorem tryLate (S : Stat V0 d m p kb bb) {b2 b4 b5 : Nat} {x4 x5 : Int} (T : TryM V0 d m p kb bb b2 b4 b5 V kn bz x4 x5) (n4 : b4 ≠ b5 /\ b4 ≠ b2 /\ b5 ≠ b2 /\ b4 ≠ p /\ b5 ≠ p /\ b4 ≠ kb /\ b5 ≠ kb /\ b4 ≠ bb /\ b5 ≠ bb /\ V0 b4 = none /\ V0 b5 = none /\ b2 ≠ bb) {e : Int} :
  Seg Tryz.prog 23 c72a [(0, .pointer (some ⟨b4, 0, none⟩)), (1, .pointer (some ⟨b5, 0, none⟩)), (2, .pointer (some ⟨b2, 0, none⟩)), (3, fltV e)] [] V fun _ V' => TryM V0 d m p kb bb b2 b4 b5 V' kn (fun _ => false) 0 e /\ ∀ c o, c ≠ b4 -> c ≠ b5 -> c ≠ bb -> V c = some o -> V' c = some o := by
 obtain ⟨n45, n42, n52, n4p, n5p, n4k, n5k, n4b, n5b, v4, v5, n2b⟩ := n4
 obtain ⟨M, ⟨t2, c2⟩, ⟨t4, c4⟩, ⟨t5, c5⟩⟩ := T
 refine s72a (v3 := fltV e) ?_
 unfold w72a
 refine GenK.neqNil rfl rfl ⟨true, rfl, fun _ => ?_, fun k => absurd rfl k⟩
 refine GenK.assertOk Tryz.underlying133 rfl ⟨e, true, rfl, fun _ => ?_, fun k => absurd rfl k⟩
 refine StT.cell c4 (StT.cell (by rw [Mem.set_ne n45.symm]; exact c5) ?_)
 have M1 : Mach V0 d m p kb bb ((V.set b4 (cell (.int .i64 0) t4)).set b5 (cell (.int .i64 e) t5)) kn bz :=
  ⟨(M.sub.set v4 _).set v5 _, by rw [Mem.set_ne n5p.symm, Mem.set_ne n4p.symm]; exact M.at_, (M.known.set n4k.symm).set n5k.symm, (M.busy.set n4b.symm).set n5b.symm⟩
 refine ⟨_, row1 (by rw [Mem.set_ne n52.symm, Mem.set_ne n42.symm]; exact c2), nn, nn, _, M1.cell 11 1 (by decide), GenK.clear Tryz.underlying127 rfl M1.busy fun o ho => ⟨rfl, _, rfl, ?_, ?_⟩⟩
 ·refine ⟨⟨M1.sub.set S.b0 o, by rw [Mem.set_ne S.pb]; exact M1.at_, M1.known.set S.kb, ho.congr fun _ => rfl⟩, ⟨t2, ?_⟩, ⟨t4, ?_⟩, ⟨t5, ?_⟩⟩
  ·rw [Mem.set_ne n2b, Mem.set_ne n52.symm, Mem.set_ne n42.symm]; exact c2
  ·rw [Mem.set_ne n4b, Mem.set_ne n45]; exact Mem.set_same _ _ _
  ·rw [Mem.set_ne n5b]; exact Mem.set_same _ _ _
 ·intro c o' h1 h2 h3 h4
  rw [Mem.set_ne h3, Mem.set_ne h2, Mem.set_ne h1]; exact h4
end
noncomputable def tryR1 : Code := (flat (bodyOf Tryz.f39)).getD 1 .skip
noncomputable def tryR2 : Code := (flat (bodyOf Tryz.f39)).getD 2 .skip
theorem try_flat : flat (bodyOf Tryz.f39) = c39a ++ [tryR1, tryR2, .ret] := by kernel_rfl
theorem tryR1_eq : tryR1 = .region 1 #[(opsOf tryR1).getD 0 dOp, (opsOf tryR1).getD 1 dOp] false := by kernel_rfl
theorem tryR2_eq : tryR2 = .region 2 c39b false := by kernel_rfl
theorem tryR2_size : (c39b).size = 4 := by kernel_rfl
theorem tryY_flat : flat tryY = c72a := by kernel_rfl
section
variable {V0 V : Mem} {d : Ds} {m : Mm} {p kb bb : Nat} {kn : Int × Int -> Option Int} {g : Nat -> Rs}
theorem run_makeFunc {P : Program} {a : Act} {o : Oper} {f : Fn} {first caps : Array Operand} {w : World} (ho : o.op = .makeFunc f first caps) : (execOp a.eval o).run P w = .ok (.value (.func f (first.map a.eval) (caps.map a.eval))) w := by
 unfold execOp
 simp [ho, Instr.makeFunc]
theorem run_move {P : Program} {a : Act} {o : Oper} {x : Operand} {w : World} (ho : o.op = .move x) : (execOp a.eval o).run P w = .ok (.value (a.eval x)) w := by
 unfold execOp
 simp [ho]
theorem run_deferv {P : Program} {a : Act} {o : Oper} {c : Call} {fv : Operand} {f : Fn} {first caps : Array Value} {w : World} (hop : o.op = .defer c) (hc : c.callee = .value fv) (hf : a.eval fv = .func f first caps) (hargs : c.args.map a.eval = #[]) :
  (execOp a.eval o).run P w = .ok (.defer { target := .fn f caps, args := first ++ #[] }) w := by
 unfold execOp
 simp [hop, resolve, hc, hf, hargs, Deferred.ofValue]
theorem has_put {N : Nat} {a : Act} {l : List (Nat × Value)} (h : Has N a l) {t : Nat} {v : Value} (ht : t < N) : Has N (a.put (some t) v) ((t, v) :: l) := by
 refine ⟨by simp [Act.put, h.1], fun s u hs => ?_⟩
 rw [List.lookup_cons] at hs
 by_cases e : s = t
 ·subst e
  simp only [beq_self_eq_true] at hs
  cases hs
  simp [Act.put, Array.getD_eq_getD_getElem?, h.1, ht]
 ·have e' : (s == t) = false := by simpa using e
  rw [e'] at hs
  have := h.2 s u hs
  rw [<- this]
  simp [Act.put, Array.getD_eq_getD_getElem?, Array.getElem?_setIfInBounds_ne (Ne.symm e)]
theorem cell1 {b : Nat} {x : Int} {t : Nat} {w : World} (h : w.heap[b]? = some (cell (.int .i64 x) t)) {T : TypeId} (hT : partT Tryz.prog T (.cons (.var (.i .i64) 0) .nil) 0 = some (.var (.i .i64) 0)) : (loadVar T ⟨b, 0, none⟩).run Tryz.prog w = .ok (.int .i64 x) w :=
 run_load_cells (P := Tryz.prog) (t := T) (cs := .cons (.var (.i .i64) 0) .nil) (x := .var (.i .i64) 0) (ρ := [.int .i64 x]) (β := id) (o := 0) h hT
theorem results_try {tmps : Array Value} {b4 b5 : Nat} {x4 x5 : Int} {t4 t5 : Nat} {w : World} (h4 : tmps.getD 4 undef = .pointer (some ⟨b4, 0, none⟩)) (h5 : tmps.getD 5 undef = .pointer (some ⟨b5, 0, none⟩)) (c4 : w.heap[b4]? = some (cell (.int .i64 x4) t4)) (c5 : w.heap[b5]? = some (cell (.int .i64 x5) t5)) :
  (results Tryz.f39 tmps).run Tryz.prog w = .ok (.tuple #[.int .i64 x4, .int .i64 x5]) w := by
 have hr : Tryz.f39.results = #[.cell 4 3, .cell 5 37] := by kernel_rfl
 unfold results
 rw [hr]
 have e4 : asAddr (tmps.getD 4 undef) = pure ⟨b4, 0, none⟩ := by rw [h4]; rfl
 have e5 : asAddr (tmps.getD 5 undef) = pure ⟨b5, 0, none⟩ := by rw [h5]; rfl
 simp only [List.mapM_toArray, List.mapM_cons, List.mapM_nil, Sem.run_bind, Sem.run_map, Sem.run_pure, Result.andThen_ok, e4, e5, cell1 c4 (T := 3) (by kernel_rfl), cell1 c5 (T := 37) (by kernel_rfl)]
 rfl
theorem results_late {tmps : Array Value} {w : World} : (results Tryz.f72 tmps).run Tryz.prog w = .ok (.tuple #[]) w := by
 have hr : Tryz.f72.results = #[] := by kernel_rfl
 unfold results
 rw [hr]
 simp
theorem tryNil {a b c : Option Addr} : Seg Tryz.prog 23 c72a [(0, .pointer a), (1, .pointer b), (2, .pointer c), (3, .nilIface)] [] V fun _ V' => V' = V := by
 refine s72a (v3 := .nilIface) ?_
 unfold w72a
 exact GenK.eqNilNil rfl rfl ⟨false, rfl, (fun k => by cases k), fun _ => ⟨_, rfl, rfl⟩⟩
theorem lateC (S : Stat V0 d m p kb bb) {b2 b4 b5 : Nat} {x4 x5 : Int} {bz : Int × Int -> Bool} {V1 : Mem} (T : TryM V0 d m p kb bb b2 b4 b5 V1 kn bz x4 x5) (n4 : b4 ≠ b5 /\ b4 ≠ b2 /\ b5 ≠ b2 /\ b4 ≠ p /\ b5 ≠ p /\ b4 ≠ kb /\ b5 ≠ kb /\ b4 ≠ bb /\ b5 ≠ bb /\ V0 b4 = none /\ V0 b5 = none /\ b2 ≠ bb) {w : World} (hw : V1.le w) {u : FrameMode} {n : Nat} (hu : u = .returning ∨ ∃ c, u = .panicking [{ v := fltV c, recovered := false }]) :
  CallsDIn (wideR none) n Tryz.prog 72 #[.pointer (some ⟨b4, 0, none⟩), .pointer (some ⟨b5, 0, none⟩), .pointer (some ⟨b2, 0, none⟩)] u w fun e u' w' => (∃ v, e = .returned v) /\ ∃ V2, Frm V1 w V2 w' /\
   ((u = .returning /\ u' = .returning /\ V2 = V1) ∨ ∃ c, u = .panicking [{ v := fltV c, recovered := false }] /\ u' = .panicking [{ v := fltV c, recovered := true }] /\ TryM V0 d m p kb bb b2 b4 b5 V2 kn (fun _ => false) 0 c /\ ∀ c o, c ≠ b4 -> c ≠ b5 -> c ≠ bb -> V1 c = some o -> V2 c = some o) := by
 refine calls_recover (fn := Tryz.f72) (at0 := #[]) (t3 := 3) (t6 := 6) Tryz.func72 tryBody tryX_eq (by kernel_rfl) (by kernel_rfl) (by kernel_rfl) (by kernel_rfl) (by kernel_rfl) (by kernel_rfl) (by rw [show Tryz.f72.ntmps = 23 by kernel_rfl]; decide) (by rw [show Tryz.f72.ntmps = 23 by kernel_rfl]; simp) ?_
 intro v u' hrec
 refine wpIn_flat ?_
 rw [tryY_flat]
 have h0 := has_put (has_put (has_init (args := [.pointer (some ⟨b4, 0, none⟩), .pointer (some ⟨b5, 0, none⟩), .pointer (some ⟨b2, 0, none⟩)]) (N := 23) (by simp)) (t := 6) (v := v) (by decide)) (t := 3) (v := v) (by decide)
 have hH : Has 23 _ [(0, .pointer (some ⟨b4, 0, none⟩)), (1, .pointer (some ⟨b5, 0, none⟩)), (2, .pointer (some ⟨b2, 0, none⟩)), (3, v)] := ⟨h0.1, fun s x hs => by
  simp only [List.lookup_cons] at hs
  repeat' split at hs
  all_goals first
   | (rename_i e; simp only [beq_iff_eq] at e; subst e; cases hs; exact h0.get rfl)
   | cases hs⟩
 rcases hu with rfl | ⟨c, rfl⟩
 ·obtain ⟨rfl, rfl⟩ : v = .nilIface /\ u' = .returning := hrec
  refine wpL_mono ?_ (tryNil (V := V1) none n _ w hw hH.1 hH.2)
  rintro e a' w' ⟨rfl, h1, -, vs, V', -, rfl, h5⟩
  exact ⟨.inl rfl, h1, _, results_late, ⟨_, rfl⟩, V', h5, .inl ⟨rfl, rfl, rfl⟩⟩
 ·obtain ⟨rfl, rfl⟩ : v = fltV c /\ u' = .panicking [{ v := fltV c, recovered := true }] := by
   obtain ⟨h1, h2⟩ := hrec
   exact ⟨h1, h2⟩
  refine wpL_mono ?_ (tryLate S T n4 (e := c) none n _ w hw hH.1 hH.2)
  rintro e a' w' ⟨rfl, h1, -, vs, V', -, h4, h5⟩
  exact ⟨.inl rfl, h1, _, results_late, ⟨_, rfl⟩, V', h5, .inr ⟨c, rfl, rfl, h4.1, h4.2⟩⟩
theorem Out.imp {B B' : Int -> Int -> Prop} {r : Rs} (h : Out d m B g r) (k : ∀ a b, B a b -> B' a b) : Out d m B' g r := by
 cases r with
 | ok v => exact h
 | bad e =>
  rcases h with h | ⟨h1, h | ⟨a, b, h2, h3⟩⟩
  ·exact .inl h
  ·exact .inr ⟨h1, .inl h⟩
  ·exact .inr ⟨h1, .inr ⟨a, b, k a b h2, h3⟩⟩
theorem callsD_mono {F : Fence} {n : Nat} {P : Program} {f : FuncId} {args : Array Value} {u : FrameMode} {w : World} {R R' : Ending -> FrameMode -> World -> Prop} (h : CallsDIn F n P f args u w R) (k : ∀ e u' w', R e u' w' -> R' e u' w') : CallsDIn F n P f args u w R' :=
 ⟨h.1, fun c cs h1 h2 => let ⟨e, u', w', fr, a, b⟩ := h.2 c cs h1 h2; ⟨e, u', w', fr, k _ _ _ a, b⟩⟩
structure TryR (V0 : Mem) (d : Ds) (m : Mm) (p kb bb : Nat) (V : Mem) (g : Nat -> Rs) (rs : Rs) (V' : Mem) : Prop where
 out : Out d m (fun _ _ => False) g rs
 keep : Keep kb bb V V'
 mach : ∃ kn', Mach V0 d m p kb bb V' kn' (fun _ => false) /\ KnOk d m kn'
def TryP (V0 : Mem) (d : Ds) (m : Mm) (p kb bb : Nat) (V : Mem) (g : Nat -> Rs) : Ending -> Mem -> Prop := fun e V' => ∃ rs, e = .returned (.tuple #[.int .i64 (valRs rs), .int .i64 (errRs rs)]) /\ TryR V0 d m p kb bb V g rs V'
theorem tryC (S : Stat V0 d m p kb bb) (M : Mach V0 d m p kb bb V kn (fun _ => false)) {f : Nat} {caps : List Value} (hf : CallOk f) (H : ∀ V1, V.sub V1 -> Tri Tryz.prog f caps.toArray V1 (Post V0 d m p kb bb V1 kn (fun _ => false) g)) :
  Tri Tryz.prog 39 #[.pointer (some ⟨p, 0, none⟩), .func (.func f) #[] caps.toArray] V (TryP V0 d m p kb bb V g) := by
 unfold Go.Sx.Tri
 intro w hV
 refine (callsIn_wide (n := 0)).1 (callsIn_of_wp_defers (F := wideR none) Tryz.func39 (c := bodyOf Tryz.f39) (by kernel_rfl) trivial (wpIn_flat ?_) rfl)
 rw [try_flat]
 have hA : Seg Tryz.prog 9 c39a [(0, .pointer (some ⟨p, 0, none⟩)), (1, .func (.func f) #[] caps.toArray)] [1, 2, 4, 5] V fun vs V1 => ∃ b2 b4 b5, vs = [.func (.func f) #[] caps.toArray, .pointer (some ⟨b2, 0, none⟩), .pointer (some ⟨b4, 0, none⟩), .pointer (some ⟨b5, 0, none⟩)] /\
   V b2 = none /\ (V.set b2 (cell (.pointer (some ⟨p, 0, none⟩)) 83)) b4 = none /\ ((V.set b2 (cell (.pointer (some ⟨p, 0, none⟩)) 83)).set b4 (cell (.int .i64 0) 3)) b5 = none /\
   V1 = (((V.set b2 (cell (.pointer (some ⟨p, 0, none⟩)) 83)).set b4 (cell (.int .i64 0) 3)).set b5 (cell (.int .i64 0) 37)) := by
  refine s39a (v0 := some ⟨p, 0, none⟩) (v1 := .func (.func f) #[] caps.toArray) ?_
  unfold w39a
  intro b2 h2 b4 h4 b5 h5
  exact ⟨_, rfl, b2, b4, b5, rfl, h2, h4, h5, rfl⟩
 refine hA.step hV (has_init (args := [.pointer (some ⟨p, 0, none⟩), .func (.func f) #[] caps.toArray]) (N := 9) (by simp)) ?_
 rintro a1 w1 vs V1 hd1 hH1 ⟨b2, b4, b5, rfl, h2, h4, h5, hV1⟩ hF1
 have n42 : b4 ≠ b2 := fun e => by rw [e, Mem.set_same] at h4; cases h4
 have n54 : b5 ≠ b4 := fun e => by rw [e, Mem.set_same] at h5; cases h5
 have n52 : b5 ≠ b2 := fun e => by rw [e, Mem.set_ne n42.symm, Mem.set_same] at h5; cases h5
 rw [Mem.set_ne n42] at h4
 rw [Mem.set_ne n54, Mem.set_ne n52] at h5
 have s1 : V.sub V1 := by
  rw [hV1]
  refine ((Mem.sub.refl V).set h2 _).set h4 _ |>.set h5 _
 have M1 := M.grow s1
 have nat : ∀ {b : Nat}, V b = none -> b ≠ p /\ b ≠ kb /\ b ≠ bb /\ V0 b = none := fun {b} hb => by
  obtain ⟨e1, c1, k1, -⟩ := M.known.at_
  obtain ⟨e2, c2, k2, -⟩ := M.busy.at_
  refine ⟨fun e => ?_, fun e => ?_, fun e => ?_, ?_⟩
  ·subst e; rw [M.at_] at hb; cases hb
  ·subst e; rw [k1] at hb; cases hb
  ·subst e; rw [k2] at hb; cases hb
  ·cases h0 : V0 b with
   | none => rfl
   | some o => rw [M.sub _ _ h0] at hb; cases hb
 obtain ⟨-, a3', a4, -⟩ := nat h2
 obtain ⟨q2, q3, q4, q5⟩ := nat h4
 obtain ⟨r2, r3, r4, r5⟩ := nat h5
 have n4 : b4 ≠ b5 /\ b4 ≠ b2 /\ b5 ≠ b2 /\ b4 ≠ p /\ b5 ≠ p /\ b4 ≠ kb /\ b5 ≠ kb /\ b4 ≠ bb /\ b5 ≠ bb /\ V0 b4 = none /\ V0 b5 = none /\ b2 ≠ bb := ⟨n54.symm, n42, n52, q2, r2, q3, r3, q4, r4, q5, r5, a4⟩
 have e2 : V1 b2 = some (cell (.pointer (some ⟨p, 0, none⟩)) 83) := by rw [hV1, Mem.set_ne n52.symm, Mem.set_ne n42.symm, Mem.set_same]
 have e4 : V1 b4 = some (cell (.int .i64 0) 3) := by rw [hV1, Mem.set_ne n54.symm, Mem.set_same]
 have e5 : V1 b5 = some (cell (.int .i64 0) 37) := by rw [hV1, Mem.set_same]
 show Code.wpIn (wideR none) 0 Tryz.prog tryR1 _ a1 w1
 rw [tryR1_eq]
 refine wpIn_region ?_
 show wpOpsIn _ _ _ _ _ [0, 1] _ _
 refine Go.Sx.step_value (o := (opsOf tryR1).getD 0 dOp) rfl (by kernel_rfl) (run_makeFunc (f := .func 72) (first := #[]) (caps := #[.tmp 4, .tmp 5, .tmp 2]) (by kernel_rfl)) ?_
 have g2 : a1.eval (.tmp 2) = .pointer (some ⟨b2, 0, none⟩) := hH1.get rfl
 have g4 : a1.eval (.tmp 4) = .pointer (some ⟨b4, 0, none⟩) := hH1.get rfl
 have g5 : a1.eval (.tmp 5) = .pointer (some ⟨b5, 0, none⟩) := hH1.get rfl
 have hd0 : ((opsOf tryR1).getD 0 dOp).dst = some 6 := by kernel_rfl
 have hd1' : ((opsOf tryR1).getD 1 dOp).dst = none := by kernel_rfl
 rw [hd0, show (#[Operand.tmp 4, .tmp 5, .tmp 2].map a1.eval) = #[.pointer (some ⟨b4, 0, none⟩), .pointer (some ⟨b5, 0, none⟩), .pointer (some ⟨b2, 0, none⟩)] by simp [g2, g4, g5], show ((#[] : Array Operand).map a1.eval) = #[] by simp]
 have hH2 := has_put hH1 (t := 6) (v := .func (.func 72) #[] #[.pointer (some ⟨b4, 0, none⟩), .pointer (some ⟨b5, 0, none⟩), .pointer (some ⟨b2, 0, none⟩)]) (by decide)
 refine Go.Sx.step_defer (o := (opsOf tryR1).getD 1 dOp) rfl (by kernel_rfl) (run_deferv (c := { callee := .value (.tmp 6), args := #[], argTypes := #[] }) (fv := .tmp 6) (f := .func 72) (first := #[]) (by kernel_rfl) rfl (hH2.get rfl) (by simp)) ?_
 rw [hd1']
 show Code.wpIn (wideR none) 0 Tryz.prog tryR2 _ _ w1
 rw [tryR2_eq]
 refine wpIn_region ?_
 rw [tryR2_size]
 show wpOpsIn _ _ _ _ _ [0, 1, 2, 3] _ _
 have i0 : (c39b)[0]? = some ((c39b).getD 0 dOp) := by kernel_rfl
 have i1 : (c39b)[1]? = some ((c39b).getD 1 dOp) := by kernel_rfl
 have d0 : ((c39b).getD 0 dOp).dst = some 7 := by kernel_rfl
 have d1 : ((c39b).getD 1 dOp).dst = some 8 := by kernel_rfl
 refine Go.Sx.step_value i0 (by kernel_rfl) (run_move (x := .tmp 1) (by kernel_rfl)) ?_
 rw [d0]
 suffices key : ∀ a3 : Act, a3.defers = [{ target := .fn (.func 72) #[.pointer (some ⟨b4, 0, none⟩), .pointer (some ⟨b5, 0, none⟩), .pointer (some ⟨b2, 0, none⟩)], args := #[] ++ #[] }] ->
   Has 9 a3 [(6, .func (.func 72) #[] #[.pointer (some ⟨b4, 0, none⟩), .pointer (some ⟨b5, 0, none⟩), .pointer (some ⟨b2, 0, none⟩)]), (1, .func (.func f) #[] caps.toArray), (2, .pointer (some ⟨b2, 0, none⟩)), (4, .pointer (some ⟨b4, 0, none⟩)), (5, .pointer (some ⟨b5, 0, none⟩))] ->
   wpOpsIn (wideR none) 0 Tryz.prog c39b (Exit.then (wpL none 0 Tryz.prog (bodyPostDIn (wideR none) 0 Tryz.prog Tryz.f39 fun e w' => ∃ V', TryP V0 d m p kb bb V g e V' /\ Frm V w V' w') [Code.ret]) (bodyPostDIn (wideR none) 0 Tryz.prog Tryz.f39 fun e w' => ∃ V', TryP V0 d m p kb bb V g e V' /\ Frm V w V' w')) [1, 2, 3] (a3.put (some 7) (a3.eval (.tmp 1))) w1 by
  refine key _ ?_ ⟨hH2.1, hH2.2⟩
  show _ :: a1.defers = _
  rw [hd1]
 intro a3 hd3 hH3
 have hg : a3.eval (.tmp 1) = .func (.func f) #[] caps.toArray := hH3.get rfl
 rw [hg]
 have hH4 := has_put hH3 (t := 7) (v := .func (.func f) #[] caps.toArray) (by decide)
 have inv : ∀ w', (invoke (.fn (.func 72) #[.pointer (some ⟨b4, 0, none⟩), .pointer (some ⟨b5, 0, none⟩), .pointer (some ⟨b2, 0, none⟩)]) (#[] ++ #[])).run Tryz.prog w' = .ok (.enter 72 #[.pointer (some ⟨b4, 0, none⟩), .pointer (some ⟨b5, 0, none⟩), .pointer (some ⟨b2, 0, none⟩)]) w' := fun w' => by simp [invoke]
 have hkeep : ∀ {V' : Mem} {kn' : Int × Int -> Option Int} {bz' : Int × Int -> Bool}, Mach V0 d m p kb bb V' kn' bz' -> Keep kb bb V1 V' -> TryM V0 d m p kb bb b2 b4 b5 V' kn' bz' 0 0 := fun h k => ⟨h, ⟨_, k _ _ a3' a4 e2⟩, ⟨_, k _ _ q3 q4 e4⟩, ⟨_, k _ _ r3 r4 e5⟩⟩
 have hout : ∀ {rs : Rs}, Out d m (BzP fun _ => false) g rs -> Out d m (fun _ _ => False) g rs := fun h => h.imp fun a b h => by cases h
 have hK : ∀ {V' V2 : Mem}, Keep kb bb V1 V' -> (∀ c o, c ≠ b4 -> c ≠ b5 -> c ≠ bb -> V' c = some o -> V2 c = some o) -> Keep kb bb V V2 := fun k1 k2 c o c1 c2 c3 => k2 c o (fun e => by rw [e, h4] at c3; cases c3) (fun e => by rw [e, h5] at c3; cases c3) c2 (k1 c o c1 c2 (s1 _ _ c3))
 refine Go.Sx.step_call i1 (by kernel_rfl) (by simpa using run_callv (c := { callee := .value (.tmp 7), args := #[], argTypes := #[] }) (fv := .tmp 7) (f := f) (first := #[]) (caps := caps.toArray) (args := #[]) (by kernel_rfl) rfl (hH4.get rfl) (by simp) hf) hF1.le (H V1 s1) ?_ ?_ ?_
 ·rintro ch V' w' ⟨rs, hrs, hP⟩ hF
  cases rs with
  | ok v => cases hrs
  | bad c =>
   cases hrs
   show LeavesIn (wideR none) 0 Tryz.prog _ _ _ a3.defers _ w'
   rw [hd3]
   obtain ⟨kn', bz', m1, m2, -⟩ := hP.mach
   refine ⟨nofun, (fun h => by simp [wideR, Fence.wide] at h), _, _, _, _, rfl, inv w', fun _ _ => trivial, callsD_mono (lateC S (hkeep m1 hP.keep) n4 hF.le (.inr ⟨c, rfl⟩)) ?_⟩
   rintro e u' w'' ⟨⟨v, rfl⟩, V2, hF2, ⟨h, -⟩ | ⟨c', hc, rfl, T2, hk2⟩⟩
   ·cases h
   ·have hcc : c' = c := by
     simp only [FrameMode.panicking.injEq, List.cons.injEq, PanicEntry.mk.injEq, fltV] at hc
     simpa using hc.1.1.symm
    subst hcc
    obtain ⟨t4, k4⟩ := T2.c4
    obtain ⟨t5, k5⟩ := T2.c5
    refine ⟨_, results_try (hH4.get rfl) (hH4.get rfl) (hF2.le _ _ k4) (hF2.le _ _ k5), V2, ⟨.bad c', rfl, hout hP.out, hK hP.keep hk2, kn', T2.mach, m2⟩, (hF1.trans hF).trans hF2⟩
 ·rintro v V' w' ⟨rs, hrs, hP⟩ hF
  cases rs with
  | bad c => cases hrs
  | ok x =>
   cases hrs
   rw [d1]
   obtain ⟨kn', bz', m1, m2, m3⟩ := hP.mach
   obtain ⟨rfl, -⟩ := m3 x rfl
   have T1 := hkeep m1 hP.keep
   obtain ⟨t4, k4⟩ := T1.c4
   obtain ⟨t5, k5⟩ := T1.c5
   have hH5 := has_put hH4 (t := 8) (v := .int .i64 x) (by decide)
   have hB : SegO Tryz.prog 9 c39b 2 2 [(4, .pointer (some ⟨b4, 0, none⟩)), (5, .pointer (some ⟨b5, 0, none⟩)), (8, .int .i64 x)] [4, 5] V' fun vs V2 => vs = [.pointer (some ⟨b4, 0, none⟩), .pointer (some ⟨b5, 0, none⟩)] /\ V2 = (V'.set b4 (cell (.int .i64 x) t4)).set b5 (cell (.int .i64 0) t5) := by
    refine s39b (v0 := some ⟨b4, 0, none⟩) (v1 := some ⟨b5, 0, none⟩) (v2 := x) ?_
    unfold w39b
    exact StT.cell k4 (StT.cell (by rw [Mem.set_ne n54]; exact k5) ⟨_, rfl, rfl, rfl⟩)
   show wpOpsIn _ _ _ _ _ (List.range' 2 2 ++ []) _ w'
   refine hB.step hF.le (⟨hH5.1, fun s v hs => by
    simp only [List.lookup_cons] at hs
    repeat' split at hs
    all_goals first
     | (rename_i e; simp only [beq_iff_eq] at e; subst e; cases hs; exact hH5.get rfl)
     | cases hs⟩ : Has 9 _ [(4, .pointer (some ⟨b4, 0, none⟩)), (5, .pointer (some ⟨b5, 0, none⟩)), (8, .int .i64 x)]) ?_
   rintro a6 w6 vs V2 hd6 hH6 ⟨rfl, hV2⟩ hF6
   show Code.wpIn (wideR none) 0 Tryz.prog .ret _ a6 w6
   refine wpIn_ret ?_
   show LeavesIn (wideR none) 0 Tryz.prog _ _ _ a6.defers _ w6
   rw [hd6]
   show LeavesIn (wideR none) 0 Tryz.prog _ _ _ a3.defers _ w6
   rw [hd3]
   have T2 : TryM V0 d m p kb bb b2 b4 b5 V2 kn' (fun _ => false) x 0 := by
    rw [hV2]
    refine ⟨⟨(m1.sub.set q5 _).set r5 _, by rw [Mem.set_ne r2.symm, Mem.set_ne q2.symm]; exact m1.at_, (m1.known.set q3.symm).set r3.symm, (m1.busy.set q4.symm).set r4.symm⟩, ?_, ⟨t4, by rw [Mem.set_ne n54.symm, Mem.set_same]⟩, ⟨t5, Mem.set_same _ _ _⟩⟩
    obtain ⟨t2, k2⟩ := T1.c2
    exact ⟨t2, by rw [Mem.set_ne n52.symm, Mem.set_ne n42.symm]; exact k2⟩
   refine ⟨nofun, (fun h => by simp [wideR, Fence.wide] at h), _, _, _, _, rfl, inv w6, fun _ _ => trivial, callsD_mono (lateC S T2 n4 hF6.le (.inl rfl)) ?_⟩
   rintro e u' w'' ⟨⟨v, rfl⟩, V3, hF3, ⟨-, rfl, rfl⟩ | ⟨c', hc, -⟩⟩
   ·obtain ⟨u4, k4'⟩ := T2.c4
    obtain ⟨u5, k5'⟩ := T2.c5
    refine ⟨_, results_try (hH6.get rfl) (hH6.get rfl) (hF3.le _ _ k4') (hF3.le _ _ k5'), V3, ⟨.ok x, rfl, hout hP.out, hK hP.keep (fun c o c1 c2 _ c3 => ?_), kn', T2.mach, m2⟩, ((hF1.trans hF).trans hF6).trans hF3⟩
    rw [hV2, Mem.set_ne c2, Mem.set_ne c1]; exact c3
   ·cases hc
 ·rintro V' ⟨rs, hrs, -⟩
  cases rs <;> cases hrs
end
end Go.Proofs
