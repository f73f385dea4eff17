/- Part 15 of a proof of a law of this seat: no statement of the seat is proved here. -/
import Derived.Test.YtnoompnjibfbfaaGreatDoorPart12
import Derived.Test.YtnoompnjibfbfaaGreatDoorPart14
import Derived.Test.YtnoompnjibfbfaaGreatDoorPart13
set_option linter.unusedVariables false
set_option linter.unusedSimpArgs false
namespace Go.Proofs
open Go Go.Sx
attribute [local irreducible] Go.Sx.Tri
theorem GenK.makeMap {P : Program} {V : Mem} {t : TypeId} {ty : Nat} {vals : Operand -> Value} {q : Value -> Mem -> Prop} (hq : ∀ b, V b = none -> q (.map (some b)) (V.set b (.map #[] 0))) : GenK P (.makeMap t none) ty vals V q := by
 intro w hw
 have hn : V w.heap.size = none := by
  cases hc : V w.heap.size with
  | none => rfl
  | some o => have := (Array.getElem?_eq_some_iff.1 (hw _ o hc)).1; omega
 refine ⟨_, w.alloc (.map #[] 0), V.set w.heap.size (.map #[] 0), rfl, ?_, hq _ hn⟩
 refine ⟨by simp, fun b o hb => ?_, fun b hb _ => Go.RowKit.Below.heap_alloc _ _ _ hb, fun b hb => ?_, rfl, rfl⟩
 ·by_cases e : b = w.heap.size
  ·subst e; rw [Mem.set_same] at hb; rw [<- hb]; exact World.alloc_heap_new _ _
  ·rw [Mem.set_ne e] at hb
   have hlt := (Array.getElem?_eq_some_iff.1 (hw b o hb)).1
   exact (Go.RowKit.Below.heap_alloc _ _ _ hlt).trans (hw b o hb)
 ·by_cases e : b = w.heap.size
  ·exact .inr (by omega)
  ·rw [Mem.set_ne e] at hb; exact .inl hb
theorem rowsPred {α : Type} {V : Mem} {s : Sl} {sz : Nat} {row : α -> List Value} {xs : List α} (h : RowsAt V s sz (xs.map row)) : K.inR .i64 ((s.n : Int) - 1) := by
 have := h.cap; have := h.fit
 exact ⟨by omega, by omega⟩
theorem it238 {V : Mem} {fn' : FuncId} {tmps : Array Value} {ps : Array Tmp} {assign body : Code} {D : Nat} {l : Nat} {bx : Nat} {s : Sl} {xs : List Fld} {J : Nat -> Mem -> Prop} (hps : ps.size = 2)
  (hJ : ∀ i V2, J i V2 -> V2 l = none -> V2 bx = some (cell (.slice s.p s.n s.c) 23) /\ RowsAt V2 s 2 (xs.map Fld.row))
  (hround : ∀ k x, xs[k]? = some x -> ∀ V2, J (xs.length - 1 - k) V2 -> V2 l = none -> ∀ w, (V2.set l (.loop (rec0 fn' tmps ps assign body D))).le w ->
   RoundIn (wideR none) 0 Tryz.prog l fn' ((ps.zip #[.int .i64 k, Fld.v x]).foldl (fun t (p, v) => t.setIfInBounds p v) tmps) assign body w fun e w' =>
    e = .returned (.bool true) /\ ∃ V3, J (xs.length - k) V3 /\ V3 l = none /\ Frm (V2.set l (.loop (rec0 fn' tmps ps assign body D))) w (V3.set l (.loop (rec0 fn' tmps ps assign body D))) w')
  (h0 : J 0 V) (hl : V l = none) :
  Tri Tryz.prog 238 #[.func (.yield l) #[] #[], .pointer (some ⟨bx, 0, none⟩)] (V.set l (.loop (rec0 fn' tmps ps assign body D))) fun e V' => (∃ v, e = .returned v) /\ ∃ V2, V' = V2.set l (.loop (rec0 fn' tmps ps assign body D)) /\ V2 l = none /\ J xs.length V2 := by
 refine back_rule (c := bodyOf Tryz.f238) (L := kid ((subL (bodyOf Tryz.f238) [1, 0]).getD 0 .skip) 0) (B := kid ((subL (bodyOf Tryz.f238) [1, 0, 0, 0]).getD 2 .skip) 0) (cA := c238a) (cB := c238b) (cE := c238e) (ops := c238c) (b0 := 0) (b1 := 1) (id := 3)
  (o6 := (c238c)[6]?.getD default) (at6 := #[3, 110]) (el := fun k => (xs[k]?.map Fld.v).getD undef) (Bk := fun M => M bx = some (cell (.slice s.p s.n s.c) 23) /\ RowsAt M s 2 (xs.map Fld.row))
  Tryz.func238 (by kernel_rfl) (by kernel_rfl) (by kernel_rfl) (by kernel_rfl) (by kernel_rfl) (by kernel_rfl) (by kernel_rfl) (by kernel_rfl) (by kernel_rfl) (by kernel_rfl) (by kernel_rfl) hps ?_ ?_ ?_ ?_ ?_ ?_ ?_ h0 hl
 ·rintro M ⟨h1, h2⟩
  refine s238a (v0 := .func (.yield l) #[] #[]) (v1 := some ⟨bx, 0, none⟩) ?_
  unfold w238a
  exact ⟨s, row1 h1, rowsPred h2, _, rfl, rfl, by rw [h2.n_eq]; rfl⟩
 ·intro M j
  refine s238b (v0 := .func (.yield l) #[] #[]) (v1 := some ⟨bx, 0, none⟩) ?_
  unfold w238b
  exact ⟨_, rfl, rfl, rfl⟩
 ·rintro M k ⟨h1, h2⟩ hk
  refine s238c (v0 := .func (.yield l) #[] #[]) (v1 := some ⟨bx, 0, none⟩) ?_
  unfold w238c
  obtain ⟨x, hm, hx, hdr, hlt, hnn, hz, hrow⟩ := h2.get (i := k) (by rw [h2.n_eq]; omega)
  exact ⟨s, row1 h1, hnn, hz, by rw [h2.n_eq]; omega, x.name, x.ty, hrow, _, rfl, rfl, by rw [hx]; rfl⟩
 ·intro M j b
  refine s238d (v0 := .func (.yield l) #[] #[]) (v1 := some ⟨bx, 0, none⟩) ?_
  unfold w238d
  exact ⟨_, rfl, rfl, rfl⟩
 ·rintro M j ⟨h1, h2⟩ hj hj2
  have hb1 := h2.cap
  have hb2 := h2.fit
  have hb3 := h2.n_eq
  refine s238e (v0 := .func (.yield l) #[] #[]) (v1 := some ⟨bx, 0, none⟩) ?_
  unfold w238e
  exact ⟨⟨by omega, by omega⟩, _, rfl, rfl, rfl⟩
 ·intro i V2 hj hl2
  obtain ⟨h1, h2⟩ := hJ i V2 hj hl2
  have e : bx ≠ l := fun e => by subst e; rw [hl2] at h1; cases h1
  exact ⟨by rw [Mem.set_ne e]; exact h1, h2.sub (Mem.sub_new hl2 _)⟩
 ·intro k hk V2 hj hl2 w hw
  have hx : xs[k]? = some xs[k] := by simp [hk]
  have := hround k xs[k] hx V2 hj hl2 w hw
  simp only [hx]
  exact this
theorem it213 {V : Mem} {fn' : FuncId} {tmps : Array Value} {ps : Array Tmp} {assign body : Code} {D : Nat} {l : Nat} {bx : Nat} {s : Sl} {xs : List Ty} {J : Nat -> Mem -> Prop} (hps : ps.size = 2)
  (hJ : ∀ i V2, J i V2 -> V2 l = none -> V2 bx = some (cell (.slice s.p s.n s.c) 22) /\ RowsAt V2 s 2 (xs.map Ty.row))
  (hround : ∀ k x, xs[k]? = some x -> ∀ V2, J (xs.length - 1 - k) V2 -> V2 l = none -> ∀ w, (V2.set l (.loop (rec0 fn' tmps ps assign body D))).le w ->
   RoundIn (wideR none) 0 Tryz.prog l fn' ((ps.zip #[.int .i64 k, Ty.v x]).foldl (fun t (p, v) => t.setIfInBounds p v) tmps) assign body w fun e w' =>
    e = .returned (.bool true) /\ ∃ V3, J (xs.length - k) V3 /\ V3 l = none /\ Frm (V2.set l (.loop (rec0 fn' tmps ps assign body D))) w (V3.set l (.loop (rec0 fn' tmps ps assign body D))) w')
  (h0 : J 0 V) (hl : V l = none) :
  Tri Tryz.prog 213 #[.func (.yield l) #[] #[], .pointer (some ⟨bx, 0, none⟩)] (V.set l (.loop (rec0 fn' tmps ps assign body D))) fun e V' => (∃ v, e = .returned v) /\ ∃ V2, V' = V2.set l (.loop (rec0 fn' tmps ps assign body D)) /\ V2 l = none /\ J xs.length V2 := by
 refine back_rule (c := bodyOf Tryz.f213) (L := kid ((subL (bodyOf Tryz.f213) [1, 0]).getD 0 .skip) 0) (B := kid ((subL (bodyOf Tryz.f213) [1, 0, 0, 0]).getD 2 .skip) 0) (cA := c213a) (cB := c213b) (cE := c213e) (ops := c213c) (b0 := 0) (b1 := 1) (id := 3)
  (o6 := (c213c)[6]?.getD default) (at6 := #[3, 101]) (el := fun k => (xs[k]?.map Ty.v).getD undef) (Bk := fun M => M bx = some (cell (.slice s.p s.n s.c) 22) /\ RowsAt M s 2 (xs.map Ty.row))
  Tryz.func213 (by kernel_rfl) (by kernel_rfl) (by kernel_rfl) (by kernel_rfl) (by kernel_rfl) (by kernel_rfl) (by kernel_rfl) (by kernel_rfl) (by kernel_rfl) (by kernel_rfl) (by kernel_rfl) hps ?_ ?_ ?_ ?_ ?_ ?_ ?_ h0 hl
 ·rintro M ⟨h1, h2⟩
  refine s213a (v0 := .func (.yield l) #[] #[]) (v1 := some ⟨bx, 0, none⟩) ?_
  unfold w213a
  exact ⟨s, row1 h1, rowsPred h2, _, rfl, rfl, by rw [h2.n_eq]; rfl⟩
 ·intro M j
  refine s213b (v0 := .func (.yield l) #[] #[]) (v1 := some ⟨bx, 0, none⟩) ?_
  unfold w213b
  exact ⟨_, rfl, rfl, rfl⟩
 ·rintro M k ⟨h1, h2⟩ hk
  refine s213c (v0 := .func (.yield l) #[] #[]) (v1 := some ⟨bx, 0, none⟩) ?_
  unfold w213c
  obtain ⟨x, hm, hx, hdr, hlt, hnn, hz, hrow⟩ := h2.get (i := k) (by rw [h2.n_eq]; omega)
  exact ⟨s, row1 h1, hnn, hz, by rw [h2.n_eq]; omega, x.name, x.fs, hrow, _, rfl, rfl, by rw [hx]; rfl⟩
 ·intro M j b
  refine s213d (v0 := .func (.yield l) #[] #[]) (v1 := some ⟨bx, 0, none⟩) ?_
  unfold w213d
  exact ⟨_, rfl, rfl, rfl⟩
 ·rintro M j ⟨h1, h2⟩ hj hj2
  have hb1 := h2.cap
  have hb2 := h2.fit
  have hb3 := h2.n_eq
  refine s213e (v0 := .func (.yield l) #[] #[]) (v1 := some ⟨bx, 0, none⟩) ?_
  unfold w213e
  exact ⟨⟨by omega, by omega⟩, _, rfl, rfl, rfl⟩
 ·intro i V2 hj hl2
  obtain ⟨h1, h2⟩ := hJ i V2 hj hl2
  have e : bx ≠ l := fun e => by subst e; rw [hl2] at h1; cases h1
  exact ⟨by rw [Mem.set_ne e]; exact h1, h2.sub (Mem.sub_new hl2 _)⟩
 ·intro k hk V2 hj hl2 w hw
  have hx : xs[k]? = some xs[k] := by simp [hk]
  have := hround k xs[k] hx V2 hj hl2 w hw
  simp only [hx]
  exact this
theorem it214 {V : Mem} {fn' : FuncId} {tmps : Array Value} {ps : Array Tmp} {assign body : Code} {D : Nat} {l : Nat} {bx : Nat} {s : Sl} {xs : List Pr} {J : Nat -> Mem -> Prop} (hps : ps.size = 2)
  (hJ : ∀ i V2, J i V2 -> V2 l = none -> V2 bx = some (cell (.slice s.p s.n s.c) 24) /\ RowsAt V2 s 5 (xs.map Pr.row))
  (hround : ∀ k x, xs[k]? = some x -> ∀ V2, J (xs.length - 1 - k) V2 -> V2 l = none -> ∀ w, (V2.set l (.loop (rec0 fn' tmps ps assign body D))).le w ->
   RoundIn (wideR none) 0 Tryz.prog l fn' ((ps.zip #[.int .i64 k, Pr.v x]).foldl (fun t (p, v) => t.setIfInBounds p v) tmps) assign body w fun e w' =>
    e = .returned (.bool true) /\ ∃ V3, J (xs.length - k) V3 /\ V3 l = none /\ Frm (V2.set l (.loop (rec0 fn' tmps ps assign body D))) w (V3.set l (.loop (rec0 fn' tmps ps assign body D))) w')
  (h0 : J 0 V) (hl : V l = none) :
  Tri Tryz.prog 214 #[.func (.yield l) #[] #[], .pointer (some ⟨bx, 0, none⟩)] (V.set l (.loop (rec0 fn' tmps ps assign body D))) fun e V' => (∃ v, e = .returned v) /\ ∃ V2, V' = V2.set l (.loop (rec0 fn' tmps ps assign body D)) /\ V2 l = none /\ J xs.length V2 := by
 refine back_rule (c := bodyOf Tryz.f214) (L := kid ((subL (bodyOf Tryz.f214) [1, 0]).getD 0 .skip) 0) (B := kid ((subL (bodyOf Tryz.f214) [1, 0, 0, 0]).getD 2 .skip) 0) (cA := c214a) (cB := c214b) (cE := c214e) (ops := c214c) (b0 := 0) (b1 := 1) (id := 3)
  (o6 := (c214c)[6]?.getD default) (at6 := #[3, 146]) (el := fun k => (xs[k]?.map Pr.v).getD undef) (Bk := fun M => M bx = some (cell (.slice s.p s.n s.c) 24) /\ RowsAt M s 5 (xs.map Pr.row))
  Tryz.func214 (by kernel_rfl) (by kernel_rfl) (by kernel_rfl) (by kernel_rfl) (by kernel_rfl) (by kernel_rfl) (by kernel_rfl) (by kernel_rfl) (by kernel_rfl) (by kernel_rfl) (by kernel_rfl) hps ?_ ?_ ?_ ?_ ?_ ?_ ?_ h0 hl
 ·rintro M ⟨h1, h2⟩
  refine s214a (v0 := .func (.yield l) #[] #[]) (v1 := some ⟨bx, 0, none⟩) ?_
  unfold w214a
  exact ⟨s, row1 h1, rowsPred h2, _, rfl, rfl, by rw [h2.n_eq]; rfl⟩
 ·intro M j
  refine s214b (v0 := .func (.yield l) #[] #[]) (v1 := some ⟨bx, 0, none⟩) ?_
  unfold w214b
  exact ⟨_, rfl, rfl, rfl⟩
 ·rintro M k ⟨h1, h2⟩ hk
  refine s214c (v0 := .func (.yield l) #[] #[]) (v1 := some ⟨bx, 0, none⟩) ?_
  unfold w214c
  obtain ⟨x, hm, hx, hdr, hlt, hnn, hz, hrow⟩ := h2.get (i := k) (by rw [h2.n_eq]; omega)
  exact ⟨s, row1 h1, hnn, hz, by rw [h2.n_eq]; omega, x.name, x.ps, x.result, x.ls, x.bs, hrow, _, rfl, rfl, by rw [hx]; rfl⟩
 ·intro M j b
  refine s214d (v0 := .func (.yield l) #[] #[]) (v1 := some ⟨bx, 0, none⟩) ?_
  unfold w214d
  exact ⟨_, rfl, rfl, rfl⟩
 ·rintro M j ⟨h1, h2⟩ hj hj2
  have hb1 := h2.cap
  have hb2 := h2.fit
  have hb3 := h2.n_eq
  refine s214e (v0 := .func (.yield l) #[] #[]) (v1 := some ⟨bx, 0, none⟩) ?_
  unfold w214e
  exact ⟨⟨by omega, by omega⟩, _, rfl, rfl, rfl⟩
 ·intro i V2 hj hl2
  obtain ⟨h1, h2⟩ := hJ i V2 hj hl2
  have e : bx ≠ l := fun e => by subst e; rw [hl2] at h1; cases h1
  exact ⟨by rw [Mem.set_ne e]; exact h1, h2.sub (Mem.sub_new hl2 _)⟩
 ·intro k hk V2 hj hl2 w hw
  have hx : xs[k]? = some xs[k] := by simp [hk]
  have := hround k xs[k] hx V2 hj hl2 w hw
  simp only [hx]
  exact this
theorem c192 {V : Mem} {s : Sl} : Tri Tryz.prog 192 #[.slice s.p s.n s.c] V fun e V' => ∃ b, V b = none /\ e = .returned (.func (.func 238) #[] #[.pointer (some ⟨b, 0, none⟩)]) /\ V' = V.set b (cell (.slice s.p s.n s.c) 23) := by
 refine x192 ?_
 unfold w192
 exact fun b hb => ⟨b, hb, rfl, rfl⟩
theorem c160 {V : Mem} {s : Sl} : Tri Tryz.prog 160 #[.slice s.p s.n s.c] V fun e V' => ∃ b, V b = none /\ e = .returned (.func (.func 213) #[] #[.pointer (some ⟨b, 0, none⟩)]) /\ V' = V.set b (cell (.slice s.p s.n s.c) 22) := by
 refine x160 ?_
 unfold w160
 exact fun b hb => ⟨b, hb, rfl, rfl⟩
theorem c161 {V : Mem} {s : Sl} : Tri Tryz.prog 161 #[.slice s.p s.n s.c] V fun e V' => ∃ b, V b = none /\ e = .returned (.func (.func 214) #[] #[.pointer (some ⟨b, 0, none⟩)]) /\ V' = V.set b (cell (.slice s.p s.n s.c) 24) := by
 refine x161 ?_
 unfold w161
 exact fun b hb => ⟨b, hb, rfl, rfl⟩
theorem has_init {args : List Value} {N : Nat} (h : args.length <= N) : Has N { tmps := args.toArray ++ Array.replicate (N - args.toArray.size) undef, defers := [] } ((List.range args.length).zip args) := by
 refine ⟨by simp; omega, fun s v hs => ?_⟩
 rw [List.range_eq_range'] at hs
 have key : ∀ (l : List Value) (k : Nat), ((List.range' k l.length).zip l).lookup s = some v -> k <= s /\ l[s - k]? = some v := by
  intro l
  induction l with
  | nil => intro k h; simp at h
  | cons x xs ih =>
   intro k h
   simp only [List.length_cons, List.range'_succ, List.zip_cons_cons, List.lookup_cons] at h
   split at h
   ·rename_i e
    simp only [beq_iff_eq] at e
    subst e
    exact ⟨Nat.le_refl _, by simpa using h⟩
   ·have := ih _ h
    refine ⟨by omega, ?_⟩
    rw [show s - k = (s - (k + 1)) + 1 by omega]
    simpa using this.2
 obtain ⟨-, h1⟩ := key args 0 hs
 have hlt := (List.getElem?_eq_some_iff.1 h1).1
 simp only [Nat.sub_zero] at h1 hlt
 rw [Array.getD_eq_getD_getElem?, Array.getElem?_append_left (by simpa using hlt)]
 simp [h1]
theorem two_set {tmps : Array Value} {p q : Nat} {u v : Value} : ((#[p, q].zip #[u, v]).foldl (fun t (p, v) => t.setIfInBounds p v) tmps) = (tmps.setIfInBounds p u).setIfInBounds q v := by
 simp
theorem getD_set {tmps : Array Value} {p s : Nat} {u : Value} (h : s ≠ p) : (tmps.setIfInBounds p u).getD s undef = tmps.getD s undef := by
 simp [Array.getD_eq_getD_getElem?, Array.getElem?_setIfInBounds_ne (Ne.symm h)]
theorem getD_same {tmps : Array Value} {p : Nat} {u : Value} (h : p < tmps.size) : (tmps.setIfInBounds p u).getD p undef = u := by
 simp [Array.getD_eq_getD_getElem?, h]
theorem varOf_cons (f : Fld) (l : List Fld) (k : ByteArray) : varOf (f :: l) k = if k = f.name then some f.ty else varOf l k := by
 unfold varOf
 rw [List.find?_cons]
 by_cases h : f.name = k
 ·rw [decide_eq_true h, if_pos h.symm]; rfl
 ·rw [decide_eq_false h, if_neg (fun e => h e.symm)]
theorem varOf_app (a b : List Fld) (k : ByteArray) : varOf (a ++ b) k = (varOf a k).or (varOf b k) := by
 unfold varOf
 rw [List.find?_append]
 cases a.find? (fun f => decide (f.name = k)) <;> rfl
theorem varOf_any (a : List Fld) (k : ByteArray) : (varOf a k).isSome = a.any fun f => decide (f.name = k) := by
 unfold varOf
 induction a with
 | nil => rfl
 | cons f a ih =>
  rw [List.find?_cons, List.any_cons]
  by_cases h : f.name = k
  ·rw [decide_eq_true h]; rfl
  ·rw [decide_eq_false h]; exact ih
theorem seen_old {a g : List Fld} {f : Fld} (h : (a.any fun x => decide (x.name = f.name)) = true) (k : ByteArray) : varOf (a ++ [f] ++ g) k = varOf (a ++ g) k := by
 simp only [varOf_app, varOf_cons]
 rw [<- varOf_any] at h
 by_cases e : k = f.name
 ·subst e
  rw [if_pos rfl]
  cases hv : varOf a f.name with
  | none => rw [hv] at h; cases h
  | some x => rfl
 ·rw [if_neg e]
  cases varOf a k <;> rfl
theorem seen_new {a g : List Fld} {f : Fld} (h : ¬ (a.any fun x => decide (x.name = f.name)) = true) (k : ByteArray) : varOf (a ++ [f] ++ g) k = if k = f.name then some f.ty else varOf (a ++ g) k := by
 simp only [varOf_app, varOf_cons]
 rw [<- varOf_any] at h
 by_cases e : k = f.name
 ·subst e
  rw [if_pos rfl, if_pos rfl]
  cases hv : varOf a f.name with
  | none => rfl
  | some x => rw [hv] at h; exact absurd rfl h
 ·rw [if_neg e, if_neg e]
  cases varOf a k <;> rfl
structure SI (V : Mem) (c : Option Addr) (body : Bool) (d : Ds) (mb bx b6 b7 : Nat) (m : ByteArray -> Option Value) (V1 : Mem) : Prop where
 sub : V.sub V1
 nm : V mb = none
 n6 : V b6 = none
 map : MapAt V1 mb m
 bx : V1 bx = some (cell (.slice d.gs.p d.gs.n d.gs.c) 23)
 b6 : V1 b6 = some (.cells #[.pointer none, .map none, .bool false] 165 (0, 0))
 b7 : V1 b7 = some (.cells #[.pointer c, .map (some mb), .bool body] 165 (0, 0))
section
variable {V V1 : Mem} {c : Option Addr} {body : Bool} {d : Ds} {mb bx b6 b7 : Nat} {m m' : ByteArray -> Option Value}
theorem SI.fresh (h : SI V c body d mb bx b6 b7 m V1) {b : Nat} (hb : V1 b = none) (o : Obj) : SI V c body d mb bx b6 b7 m (V1.set b o) :=
 have hs := Mem.sub_new hb o
 ⟨h.sub.trans hs, h.nm, h.n6, h.map.sub hs, hs _ _ h.bx, hs _ _ h.b6, hs _ _ h.b7⟩
theorem SI.up (h : SI V c body d mb bx b6 b7 m V1) {o : Obj} (ho : MapAt (V1.set mb o) mb m') : SI V c body d mb bx b6 b7 m' (V1.set mb o) := by
 obtain ⟨es, cl, hm, -, -⟩ := h.map.at_
 have e1 : bx ≠ mb := fun e => by have := h.bx; rw [e, hm] at this; cases this
 have e2 : b6 ≠ mb := fun e => by have := h.b6; rw [e, hm] at this; cases this
 have e3 : b7 ≠ mb := fun e => by have := h.b7; rw [e, hm] at this; cases this
 exact ⟨h.sub.set h.nm o, h.nm, h.n6, ho, by rw [Mem.set_ne e1]; exact h.bx, by rw [Mem.set_ne e2]; exact h.b6, by rw [Mem.set_ne e3]; exact h.b7⟩
theorem SI.cg (h : SI V c body d mb bx b6 b7 m V1) (e : ∀ k, m k = m' k) : SI V c body d mb bx b6 b7 m' V1 := ⟨h.sub, h.nm, h.n6, h.map.congr e, h.bx, h.b6, h.b7⟩
end
section
variable {V V1 : Mem} {c : Option Addr} {body : Bool} {d : Ds} {mb bx b6 b7 : Nat} {m m' : ByteArray -> Option Value}
theorem scopeRound {l : Sl} (h : SI V c body d mb bx b6 b7 m V1) (x : Fld) (V2 : Mem) (b : Nat) (hb : V1 b = none) (e2 : V2 = V1.set b (.cells x.row.toArray 110 (0, 0))) :
  Seg Tryz.prog 63 c138c [(7, .pointer (some ⟨b7, 0, none⟩)), (9, .pointer (some ⟨b, 0, none⟩))] [] V2 fun _ V3 => SI V c body d mb bx b6 b7 (fun k => if k = x.name then some (.string x.ty) else m k) V3 := by
 subst e2
 have h2 := h.fresh hb (.cells x.row.toArray 110 (0, 0))
 refine s138c ?_
 unfold w138c
 refine ⟨by simp, some mb, row_cells h2.b7 1 1 (by simp), by simp, x.name, row_cells (Mem.set_same _ _ _) 0 1 (by simp [Fld.row]), by simp, x.ty, row_cells (Mem.set_same _ _ _) 1 1 (by simp [Fld.row]), ?_⟩
 exact UpdK.str Tryz.underlying163 Tryz.underlying9 h2.map fun o ho => ⟨_, rfl, h2.up ho⟩
theorem scopeAssign (x : Fld) : Seg Tryz.prog 63 c138b [(7, .pointer (some ⟨b7, 0, none⟩)), (26, Fld.v x)] [7, 9] V1 fun vs V2 => ∃ b, V1 b = none /\ V2 = V1.set b (.cells x.row.toArray 110 (0, 0)) /\ vs = [.pointer (some ⟨b7, 0, none⟩), .pointer (some ⟨b, 0, none⟩)] := by
 refine s138b (v1 := x.name) (v2 := x.ty) ?_
 unfold w138b
 exact fun b hb => ⟨_, rfl, b, hb, rfl, rfl⟩
theorem zero4 (w : World) : (zeroValue 4).run Tryz.prog w = .ok (.bool false) w := by kernel_rfl
theorem scopeTail {l : Sl} {ls : List (Sl × List Fld)} (h : SI V c body d mb bx b6 b7 (fun k => (varOf d.globals k).map Value.string) V1) (hl : RowsAt V l 1 (ls.map fun x => [x.1.v])) (hls : ∀ x ∈ ls, RowsAt V x.1 2 (x.2.map Fld.row)) :
  Seg Tryz.prog 63 c138d [(0, .pointer c), (1, .bool body), (2, .slice l.p l.n l.c), (6, .pointer (some ⟨b6, 0, none⟩)), (7, .pointer (some ⟨b7, 0, none⟩))] [6] V1 fun vs V2 => vs = [.pointer (some ⟨b6, 0, none⟩)] /\
   V.sub V2 /\ V mb = none /\ MapAt V2 mb (fun k => (varOf (ls.flatMap (·.2) ++ d.globals) k).map Value.string) /\ V2 b6 = some (.cells #[.pointer c, .map (some mb), .bool body] 165 (0, 0)) := by
 refine s138d ?_
 unfold w138d
 refine GenK.makeMap fun sb hsb => ⟨some sb, rfl, ?_⟩
 have hsV : V sb = none := by
  cases hc : V sb with
  | none => rfl
  | some o => have := h.sub _ _ hc; rw [hsb] at this; cases this
 have hne : mb ≠ sb := fun e => by
  obtain ⟨es, cl, hm, -, -⟩ := h.map.at_
  rw [e, hsb] at hm; cases hm
 let TI (done : List Fld) (V2 : Mem) : Prop := SI V c body d mb bx b6 b7 (fun k => (varOf (done ++ d.globals) k).map Value.string) V2 /\ MapAt V2 sb (fun k => if (done.any fun f => decide (f.name = k)) = true then some (.bool true) else none)
 have h0 : TI [] (V1.set sb (.map #[] 0)) := ⟨h.fresh hsb _, (MapAt.made V1 sb).congr fun k => by simp⟩
 refine loop1 ls.length (fun i V2 => TI ((ls.take i).flatMap (·.2)) V2) (by simpa using h0) ?_
 intro i V2 J hi hst hJ
 have hlV := hl.sub hst.1.sub
 refine ⟨fun hlt => ?_, fun hlt => ?_⟩
 ·obtain ⟨x, hm, hx, hdr, hlt', hnn, hz, hrow⟩ := hlV.get hlt
  refine ⟨hnn, hz, hlt, x.1, hrow, ?_⟩
  have htk : (ls.take (i + 1)).flatMap (·.2) = (ls.take i).flatMap (·.2) ++ x.2 := by
   rw [List.take_add_one, hx]; simp
  refine loop1 x.2.length (fun j V3 => TI ((ls.take i).flatMap (·.2) ++ x.2.take j) V3) (by simpa using hst) ?_
  intro j V3 J' hj hst' hJ'
  have hxV := (hls x hm).sub hst'.1.sub
  refine ⟨fun hlt2 => ?_, fun hlt2 => ?_⟩
  ·obtain ⟨f, hmf, hf, hdrf, hltf, hnnf, hzf, hrowf⟩ := hxV.get hlt2
   have htj : (ls.take i).flatMap (·.2) ++ x.2.take (j + 1) = ((ls.take i).flatMap (·.2) ++ x.2.take j) ++ [f] := by
    rw [List.take_add_one, hf, List.append_assoc]; rfl
   refine ⟨hnnf, hzf, hlt2, f.name, f.ty, hrowf, ?_⟩
   refine LookK.str1 Tryz.underlying251 Tryz.underlying9 zero4 hst'.2 ?_
   generalize hdone : (ls.take i).flatMap (·.2) ++ x.2.take j = done at hst' htj
   refine ⟨done.any fun y => decide (y.name = f.name), ?_, fun hs => ?_, fun hs => ?_⟩
   ·cases hs : done.any (fun y => decide (y.name = f.name)) with
    | true => simp
    | false => simp
   ·refine ⟨hxV.succ hlt2, hJ' hltf _ ?_⟩
    rw [htj]
    refine ⟨hst'.1.cg fun k => by rw [seen_old hs], hst'.2.congr fun k => ?_⟩
    rw [List.any_append]
    by_cases e : f.name = k
    ·subst e; rw [hs]; simp
    ·simp [e]
   ·refine ⟨by simp, some mb, row_cells hst'.1.b7 1 1 (by simp), ?_⟩
    refine UpdK.str Tryz.underlying163 Tryz.underlying9 hst'.1.map fun o ho => ?_
    have hsi := hst'.1.up ho
    refine UpdK.str Tryz.underlying251 Tryz.underlying9 (hst'.2.set (o := o) (Ne.symm hne)) fun o2 ho2 => ?_
    refine ⟨hxV.succ hlt2, hJ' hltf _ ?_⟩
    rw [htj]
    have hsb6 : b6 ≠ sb := fun e => by have := h.b6; rw [e, hsb] at this; cases this
    have hsb7 : b7 ≠ sb := fun e => by have := h.b7; rw [e, hsb] at this; cases this
    have hsbx : bx ≠ sb := fun e => by have := h.bx; rw [e, hsb] at this; cases this
    refine ⟨?_, ho2.congr fun k => ?_⟩
    ·have h3 := hsi.cg (m' := fun k => (varOf (done ++ [f] ++ d.globals) k).map Value.string) fun k => by
      rw [seen_new hs]
      by_cases e : k = f.name
      ·rw [if_pos e, if_pos e]; rfl
      ·rw [if_neg e, if_neg e]
     exact ⟨h3.sub.set hsV _, h3.nm, h3.n6, h3.map.set hne, by rw [Mem.set_ne hsbx]; exact h3.bx, by rw [Mem.set_ne hsb6]; exact h3.b6, by rw [Mem.set_ne hsb7]; exact h3.b7⟩
    ·rw [List.any_append]
     by_cases e : k = f.name
     ·subst e; simp
     ·rw [if_neg e]; simp [Ne.symm e]
  ·obtain ⟨hd, hle⟩ := hxV.done hlt2
   refine ⟨hlV.succ hlt, hJ hlt' _ ?_⟩
   rw [htk]
   rw [List.take_of_length_le hle] at hst'
   exact hst'
 ·obtain ⟨hd, hle⟩ := hlV.done hlt
  rw [List.take_of_length_le hle] at hst
  have hcells := row_cells hst.1.b7 0 3 (by simp)
  refine ⟨c, some mb, body, hcells, ⟨⟨b6, 0, none⟩, _, _, rfl, hst.1.b6, rfl, by simp, ?_⟩⟩
  have e7 : mb ≠ b6 := fun e => by
   obtain ⟨es, cl, hm, -, -⟩ := hst.1.map.at_
   have := hst.1.b6; rw [<- e, hm] at this; cases this
  exact ⟨_, rfl, rfl, hst.1.sub.set h.n6 _, h.nm, hst.1.map.set e7, by rw [Mem.set_same]; rfl⟩
end
theorem cell3 {b : Nat} {c : Option Addr} {mb : Option Nat} {body : Bool} {w : World} (h : w.heap[b]? = some (.cells #[.pointer c, .map mb, .bool body] 165 (0, 0))) : (loadVar 165 ⟨b, 0, none⟩).run Tryz.prog w = .ok (.agg #[.pointer c, .map mb, .bool body]) w :=
 run_load_cells (P := Tryz.prog) (t := 165) (cs := .cons (.var .p 0) (.cons (.var .m 1) (.cons (.var .b 2) .nil))) (x := .agg (.cons (.var .p 0) (.cons (.var .m 1) (.cons (.var .b 2) .nil)))) (ρ := [.pointer c, .map mb, .bool body]) (β := id) (o := 0) h (by kernel_rfl)
theorem results113 {tmps : Array Value} {b : Nat} {c : Option Addr} {mb : Option Nat} {body : Bool} {w : World} (h6 : tmps.getD 6 undef = .pointer (some ⟨b, 0, none⟩)) (h : w.heap[b]? = some (.cells #[.pointer c, .map mb, .bool body] 165 (0, 0))) :
  (results Tryz.f138 tmps).run Tryz.prog w = .ok (.agg #[.pointer c, .map mb, .bool body]) w := by
 have hr : Tryz.f138.results = #[.cell 6 165] := by kernel_rfl
 unfold results
 rw [hr]
 have e : asAddr (tmps.getD 6 undef) = pure ⟨b, 0, none⟩ := by rw [h6]; rfl
 simp only [List.mapM_toArray, List.mapM_cons, List.mapM_nil, Sem.run_bind, Sem.run_map, Sem.run_pure, Result.andThen_ok, e, cell3 h]
 rfl
theorem frame_marks {V V1 V2 V3 : Mem} {w w1 w2 w3 : World} {D : Nat} (h1 : Frm V w V1 w1) (h2 : Frm V1 w1 V2 w2) (hD : w1.heap.size <= D) (hn : V2 D = none) (hW : w2.heap[D]? = some (.deferred (some []))) (h3 : Frm V2 w2 V3 w3) :
  Frm V w V3 w3 /\ w.heap.size <= D /\ w3.heap[D]? = some (.deferred (some [])) /\ V3 D = none := by
 have hlt := (Array.getElem?_eq_some_iff.1 hW).1
 refine ⟨(h1.trans h2).trans h3, Nat.le_trans h1.size hD, (h3.old D hlt hn).trans hW, ?_⟩
 cases hc : V3 D with
 | none => rfl
 | some o =>
  rcases h3.dom D (by rw [hc]; simp) with h | h
  ·exact absurd hn h
  ·omega
theorem scopeC : ScopeC := by
 intro V c d body l ls hc hl hls
 refine tri_of_marks (c := bodyOf Tryz.f138) Tryz.func138 (by kernel_rfl) ?_
 intro w hV
 rw [show flat (bodyOf Tryz.f138) = c138a ++ ([.block 0 (.rangeFunc (.tmp 24) #[25, 26] ((subL (bodyOf Tryz.f138) [3, 0, 0, 0]).getD 0 .skip) ((subL (bodyOf Tryz.f138) [3, 0, 0, 1]).getD 0 .skip))] ++ (c138d ++ [.ret])) from by kernel_rfl]
 have hA : Seg Tryz.prog 63 c138a [(0, .pointer c), (1, .bool body), (2, .slice l.p l.n l.c)] [0, 1, 2, 6, 7, 24] V fun vs V1 => ∃ mb bx b6 b7,
   vs = [.pointer c, .bool body, .slice l.p l.n l.c, .pointer (some ⟨b6, 0, none⟩), .pointer (some ⟨b7, 0, none⟩), .func (.func 238) #[] #[.pointer (some ⟨bx, 0, none⟩)]] /\ SI V c body d mb bx b6 b7 (fun _ => none) V1 := by
  refine s138a ?_
  unfold w138a
  refine GenK.makeMap fun mb hmb => ⟨some mb, rfl, hc.nn, hc.nn, ?_, d.gs, ?_, ?_⟩
  ·obtain ⟨cb, mt, mp, t, h1, h2, h3, h4⟩ := hc.at_
   rw [h1]; simp [ptrAdd]
  ·exact (hc.sub (Mem.sub_new hmb _)).cell (i := 2) rfl
  refine Tri.mono c192 ?_
  rintro _ V2 ⟨bx, hbx, rfl, rfl⟩
  refine ⟨.func (.func 238) #[] #[.pointer (some ⟨bx, 0, none⟩)], rfl, rfl, fun b6 hb6 b7 hb7 => ⟨_, rfl, mb, bx, b6, b7, rfl, ?_⟩⟩
  have n1 : bx ≠ mb := fun e => by rw [e, Mem.set_same] at hbx; cases hbx
  have n2 : b6 ≠ bx := fun e => by rw [e, Mem.set_same] at hb6; cases hb6
  have n3 : b7 ≠ b6 := fun e => by rw [e, Mem.set_same] at hb7; cases hb7
  have s1 := Mem.sub_new hmb (.map #[] 0)
  have s2 := Mem.sub_new hbx (cell (.slice d.gs.p d.gs.n d.gs.c) 23)
  have s3 := Mem.sub_new hb6 (.cells #[.pointer none, .map none, .bool false] 165 (0, 0))
  have s4 := Mem.sub_new hb7 (.cells #[.pointer c, .map (some mb), .bool body] 165 (0, 0))
  refine ⟨s1.trans (s2.trans (s3.trans s4)), hmb, ?_, (MapAt.made V mb).sub (s2.trans (s3.trans s4)), (s3.trans s4) _ _ (Mem.set_same _ _ _), s4 _ _ (Mem.set_same _ _ _), Mem.set_same _ _ _⟩
  cases hv : V b6 with
  | none => rfl
  | some o => have := (s1.trans s2) _ _ hv; rw [hb6] at this; cases this
 refine hA.step hV (has_init (args := [.pointer c, .bool body, .slice l.p l.n l.c]) (N := 63) (by simp)) ?_
 rintro a1 w1 vs V1 hd1 hH1 ⟨mb, bx, b6, b7, rfl, hS1⟩ hF1
 show Code.wpIn (wideR none) 0 Tryz.prog _ _ a1 w1
 refine wpIn_block ?_
 have hit := fun fn lp D hlp => it238 (V := V1) (fn' := fn) (tmps := a1.tmps) (ps := #[25, 26]) (assign := (subL (bodyOf Tryz.f138) [3, 0, 0, 0]).getD 0 .skip) (body := (subL (bodyOf Tryz.f138) [3, 0, 0, 1]).getD 0 .skip) (D := D) (l := lp) (bx := bx) (s := d.gs) (xs := d.globals)
  (J := fun i V2 => SI V c body d mb bx b6 b7 (fun k => (varOf (d.globals.drop (d.globals.length - i)) k).map Value.string) V2) rfl (fun i V2 hj _ => ⟨hj.bx, hc.ok.globals.sub hj.sub⟩) (fun k x hx V2 hj hl2 w2 hw2 => by
   have hk := (List.getElem?_eq_some_iff.1 hx).1
   refine round_rule (N := 63) (insA := [(7, .pointer (some ⟨b7, 0, none⟩)), (26, Fld.v x)]) (outsA := [7, 9]) hl2 hw2 (by rw [two_set]; simpa using hH1.1) ?_ (scopeAssign x) (fun vs V3 hvs => ?_)
   ·intro s v hs
    rw [two_set]
    simp only [List.lookup_cons] at hs
    split at hs
    ·rename_i e; simp only [beq_iff_eq] at e; subst e; cases hs
     rw [getD_set (by decide), getD_set (by decide)]; exact hH1.get rfl
    ·split at hs
     ·rename_i e; simp only [beq_iff_eq] at e; subst e; cases hs
      exact getD_same (by simp [hH1.1])
     ·cases hs
   ·obtain ⟨b, hb, e2, rfl⟩ := hvs
    refine (scopeRound (l := l) hj x V3 b hb e2).mono fun _ V4 h4 => h4.cg fun y => ?_
    rw [show d.globals.length - (d.globals.length - 1 - k) = k + 1 by omega, show d.globals.length - (d.globals.length - k) = k by omega]
    have e3 : d.globals.drop k = x :: d.globals.drop (k + 1) := by
     rw [List.drop_eq_getElem_cons hk]; rw [(List.getElem?_eq_some_iff.1 hx).2]
    rw [e3, varOf_cons]
    by_cases e : y = x.name
    ·rw [if_pos e, if_pos e]; rfl
    ·rw [if_neg e, if_neg e])
  (by simpa [varOf] using hS1) hlp
 refine range_rule (Φ := fun V2 => SI V c body d mb bx b6 b7 (fun k => (varOf d.globals k).map Value.string) V2) hF1.le (hH1.get (s := 24) rfl) Tryz.call238 (fun fn lp D hlp => Tri.mono (hit fn lp D hlp) fun e V' h => ?_) ?_
 ·obtain ⟨h1, V2, h2, h3, h4⟩ := h
  exact ⟨h1, V2, h2, h3, by simpa using h4⟩
 ·intro D V2 W hD hF2 hn2 hW hS2
  show wpL none 0 Tryz.prog _ (c138d ++ [.ret]) _ W
  refine (scopeTail hS2 hl hls).step hF2.le ⟨hH1.1, fun s v hs => hH1.2 s v ?_⟩ ?_
  ·simp only [List.zip_cons_cons, List.lookup_cons] at hs ⊢
   repeat' (split at hs <;> first | exact hs | skip)
   all_goals first | exact hs | (cases hs)
  ·rintro a3 w3 vs V3 hd3 hH3 ⟨rfl, h1, h2, h3, h4⟩ hF3
   show Code.wpIn (wideR none) 0 Tryz.prog .ret _ a3 w3
   refine wpIn_ret ?_
   obtain ⟨g1, g2, g3, g4⟩ := frame_marks hF1 hF2 hD hn2 hW hF3
   refine ⟨.inr rfl, [D], ?_, by simp, V3, g1, fun D' hD' => ?_, _, fun w4 hw4 => results113 (hH3.get rfl) (hw4 _ _ h4), mb, rfl, h1, h2, h3⟩
   ·rw [hd3]; simp [hd1]
   ·simp only [List.mem_singleton] at hD'; subst hD'; exact ⟨g2, g3, g4⟩
structure NI (V : Mem) (d : Ds) (cb mt mp p1 p3 : Nat) (f g : ByteArray -> Option Value) (V1 : Mem) : Prop where
 sub : V.sub V1
 nt : V mt = none
 np : V mp = none
 ne : mt ≠ mp
 ck : V1 cb = some (.cells (d.row ++ [Value.map (some mt), Value.map (some mp)]).toArray 210 (0, 0))
 b1 : V1 p1 = some (.cells d.row.toArray 30 (0, 0))
 b3 : V1 p3 = some (cell (.pointer (some ⟨cb, 0, none⟩)) 160)
 mapT : MapAt V1 mt f
 mapP : MapAt V1 mp g
section
variable {V V1 : Mem} {d : Ds} {cb mt mp p1 p3 : Nat} {f g f' g' : ByteArray -> Option Value}
theorem NI.fresh (h : NI V d cb mt mp p1 p3 f g V1) {b : Nat} (hb : V1 b = none) (o : Obj) : NI V d cb mt mp p1 p3 f g (V1.set b o) :=
 have hs := Mem.sub_new hb o
 ⟨h.sub.trans hs, h.nt, h.np, h.ne, hs _ _ h.ck, hs _ _ h.b1, hs _ _ h.b3, h.mapT.sub hs, h.mapP.sub hs⟩
theorem not_map {V : Mem} {b m : Nat} {c : Array Value} {t : Nat} {fr : Nat × Nat} {f : ByteArray -> Option Value} (h : V b = some (.cells c t fr)) (hm : MapAt V m f) : b ≠ m := fun e => by
 obtain ⟨es, cl, hm, -, -⟩ := hm.at_
 rw [e, hm] at h; cases h
theorem NI.upT (h : NI V d cb mt mp p1 p3 f g V1) {o : Obj} (ho : MapAt (V1.set mt o) mt f') : NI V d cb mt mp p1 p3 f' g (V1.set mt o) :=
 ⟨h.sub.set h.nt o, h.nt, h.np, h.ne, by rw [Mem.set_ne (not_map h.ck h.mapT)]; exact h.ck, by rw [Mem.set_ne (not_map h.b1 h.mapT)]; exact h.b1, by rw [Mem.set_ne (not_map h.b3 h.mapT)]; exact h.b3, ho, h.mapP.set (Ne.symm h.ne)⟩
theorem NI.upP (h : NI V d cb mt mp p1 p3 f g V1) {o : Obj} (ho : MapAt (V1.set mp o) mp g') : NI V d cb mt mp p1 p3 f g' (V1.set mp o) :=
 ⟨h.sub.set h.np o, h.nt, h.np, h.ne, by rw [Mem.set_ne (not_map h.ck h.mapP)]; exact h.ck, by rw [Mem.set_ne (not_map h.b1 h.mapP)]; exact h.b1, by rw [Mem.set_ne (not_map h.b3 h.mapP)]; exact h.b3, h.mapT.set h.ne, ho⟩
theorem NI.cg (h : NI V d cb mt mp p1 p3 f g V1) (e1 : ∀ k, f k = f' k) (e2 : ∀ k, g k = g' k) : NI V d cb mt mp p1 p3 f' g' V1 := ⟨h.sub, h.nt, h.np, h.ne, h.ck, h.b1, h.b3, h.mapT.congr e1, h.mapP.congr e2⟩
theorem newRoundT (h : NI V d cb mt mp p1 p3 f g V1) {bx : Nat} {v : Value} {ty : Nat} (hbx : V1 bx = some (cell v ty)) (x : Ty) (V2 : Mem) (b : Nat) (hb : V1 b = none) (e2 : V2 = V1.set b (.cells x.row.toArray 101 (0, 0))) :
  Seg Tryz.prog 38 c110c [(3, .pointer (some ⟨p3, 0, none⟩)), (5, .pointer (some ⟨b, 0, none⟩))] [] V2 fun _ V3 => NI V d cb mt mp p1 p3 (fun k => if k = x.name then some x.v else f k) g V3 /\ V3 bx = some (cell v ty) := by
 subst e2
 have h2 := h.fresh hb (.cells x.row.toArray 101 (0, 0))
 have hbx2 := Mem.sub_new hb (.cells x.row.toArray 101 (0, 0)) _ _ hbx
 refine s110c ?_
 unfold w110c
 refine ⟨_, row1 h2.b3, by simp, by simp, some mt, row_cells h2.ck 8 1 (by simp [Ds.row]), by simp, x.name, row_cells (Mem.set_same _ _ _) 0 1 (by simp [Ty.row]), x.name, x.fs, row_cells (Mem.set_same _ _ _) 0 2 (by simp [Ty.row]), ?_⟩
 exact UpdK.str Tryz.underlying207 Tryz.underlying9 h2.mapT fun o ho => ⟨_, rfl, h2.upT ho, by rw [Mem.set_ne (not_map hbx2 h2.mapT)]; exact hbx2⟩
theorem newRoundP (h : NI V d cb mt mp p1 p3 f g V1) {bx : Nat} {v : Value} {ty : Nat} (hbx : V1 bx = some (cell v ty)) (x : Pr) (V2 : Mem) (b : Nat) (hb : V1 b = none) (e2 : V2 = V1.set b (.cells x.row.toArray 146 (0, 0))) :
  Seg Tryz.prog 38 c110f [(3, .pointer (some ⟨p3, 0, none⟩)), (7, .pointer (some ⟨b, 0, none⟩))] [] V2 fun _ V3 => NI V d cb mt mp p1 p3 f (fun k => if k = x.name then some x.v else g k) V3 /\ V3 bx = some (cell v ty) := by
 subst e2
 have h2 := h.fresh hb (.cells x.row.toArray 146 (0, 0))
 have hbx2 := Mem.sub_new hb (.cells x.row.toArray 146 (0, 0)) _ _ hbx
 refine s110f ?_
 unfold w110f
 refine ⟨_, row1 h2.b3, by simp, by simp, some mp, row_cells h2.ck 9 1 (by simp [Ds.row]), by simp, x.name, row_cells (Mem.set_same _ _ _) 0 1 (by simp [Pr.row]), x.name, x.ps, x.result, x.ls, x.bs, row_cells (Mem.set_same _ _ _) 0 5 (by simp [Pr.row]), ?_⟩
 exact UpdK.str Tryz.underlying208 Tryz.underlying9 h2.mapP fun o ho => ⟨_, rfl, h2.upP ho, by rw [Mem.set_ne (not_map hbx2 h2.mapP)]; exact hbx2⟩
theorem newAssignT (x : Ty) : Seg Tryz.prog 38 c110b [(3, .pointer (some ⟨p3, 0, none⟩)), (17, Ty.v x)] [3, 5] V1 fun vs V2 => ∃ b, V1 b = none /\ V2 = V1.set b (.cells x.row.toArray 101 (0, 0)) /\ vs = [.pointer (some ⟨p3, 0, none⟩), .pointer (some ⟨b, 0, none⟩)] := by
 refine s110b (v1 := x.name) (v2 := x.fs) ?_
 unfold w110b
 exact fun b hb => ⟨_, rfl, b, hb, rfl, rfl⟩
theorem newAssignP (x : Pr) : Seg Tryz.prog 38 c110e [(3, .pointer (some ⟨p3, 0, none⟩)), (29, Pr.v x)] [3, 7] V1 fun vs V2 => ∃ b, V1 b = none /\ V2 = V1.set b (.cells x.row.toArray 146 (0, 0)) /\ vs = [.pointer (some ⟨p3, 0, none⟩), .pointer (some ⟨b, 0, none⟩)] := by
 refine s110e (v1 := x.name) (v2 := x.ps) (v3 := x.result) (v4 := x.ls) (v5 := x.bs) ?_
 unfold w110e
 exact fun b hb => ⟨_, rfl, b, hb, rfl, rfl⟩
end
theorem has_two {N : Nat} {a : Act} {p q r : Nat} {l : List (Nat × Value)} {vr u z : Value} (hH : Has N a l) (hr : l.lookup r = some vr) (hp : r ≠ p) (hq : r ≠ q) (hlt : q < N) : Has N { tmps := (#[p, q].zip #[u, z]).foldl (fun t (p, v) => t.setIfInBounds p v) a.tmps, defers := [] } [(r, vr), (q, z)] := by
 refine ⟨by rw [two_set]; simpa using hH.1, fun s v hs => ?_⟩
 rw [two_set]
 simp only [List.lookup_cons] at hs
 split at hs
 ·rename_i e; simp only [beq_iff_eq] at e; subst e; cases hs
  rw [getD_set hq, getD_set hp]; exact hH.get hr
 ·split at hs
  ·rename_i e; simp only [beq_iff_eq] at e; subst e; cases hs
   exact getD_same (by simp [hH.1, hlt])
  ·cases hs
theorem mark_keep {V V1 : Mem} {w w1 : World} {D : Nat} (h : Frm V w V1 w1) (hn : V D = none) (hW : w.heap[D]? = some (.deferred (some []))) : w1.heap[D]? = some (.deferred (some [])) /\ V1 D = none := by
 have hlt := (Array.getElem?_eq_some_iff.1 hW).1
 refine ⟨(h.old D hlt hn).trans hW, ?_⟩
 cases hc : V1 D with
 | none => rfl
 | some o =>
  rcases h.dom D (by rw [hc]; simp) with h | h
  ·exact absurd hn h
  ·omega
theorem find_drop {α : Type} {l : List α} {nm : α -> ByteArray} {vv : α -> Value} {k : Nat} {x : α} (hx : l[k]? = some x) (y : ByteArray) :
  (if y = nm x then some (vv x) else ((l.drop (l.length - (l.length - 1 - k))).find? fun t => decide (nm t = y)).map vv) = ((l.drop (l.length - (l.length - k))).find? fun t => decide (nm t = y)).map vv := by
 have hk := (List.getElem?_eq_some_iff.1 hx).1
 rw [show l.length - (l.length - 1 - k) = k + 1 by omega, show l.length - (l.length - k) = k by omega]
 have e3 : l.drop k = x :: l.drop (k + 1) := by
  rw [List.drop_eq_getElem_cons hk]; rw [(List.getElem?_eq_some_iff.1 hx).2]
 rw [e3, List.find?_cons]
 by_cases e : y = nm x
 ·rw [if_pos e, decide_eq_true e.symm]; rfl
 ·rw [if_neg e, decide_eq_false (fun h => e h.symm)]
theorem newC : NewC := by
 intro V d hd
 refine tri_of_marks (c := bodyOf Tryz.f110) Tryz.func110 (by kernel_rfl) ?_
 intro w hV
 rw [show flat (bodyOf Tryz.f110) = c110a ++ ([.block 0 (.rangeFunc (.tmp 15) #[16, 17] ((subL (bodyOf Tryz.f110) [3, 0, 0, 0]).getD 0 .skip) ((subL (bodyOf Tryz.f110) [3, 0, 0, 1]).getD 0 .skip))] ++
  (c110d ++ ([.block 2 (.rangeFunc (.tmp 27) #[28, 29] ((subL (bodyOf Tryz.f110) [5, 0, 0, 0]).getD 0 .skip) ((subL (bodyOf Tryz.f110) [5, 0, 0, 1]).getD 0 .skip))] ++ (c110g ++ [.ret])))) from by kernel_rfl]
 have hA : Seg Tryz.prog 38 c110a [(0, d.v)] [1, 3, 15] V fun vs V1 => ∃ cb mt mp p1 p3 bx,
   vs = [.pointer (some ⟨p1, 0, none⟩), .pointer (some ⟨p3, 0, none⟩), .func (.func 213) #[] #[.pointer (some ⟨bx, 0, none⟩)]] /\ NI V d cb mt mp p1 p3 (fun _ => none) (fun _ => none) V1 /\ V1 bx = some (cell (.slice d.ts.p d.ts.n d.ts.c) 22) := by
  refine s110a (v0 := d.name) (v1 := d.ts) (v2 := d.gs) (v3 := d.ps) (v4 := d.ms) (v5 := d.is) (v6 := d.qs) (v7 := d.bs) ?_
  unfold w110a
  refine GenK.makeMap fun mt hmt => ⟨some mt, rfl, GenK.makeMap fun mp hmp => ⟨some mp, rfl, ?_⟩⟩
  refine Tri.mono c160 ?_
  rintro _ V2 ⟨bx, hbx, rfl, rfl⟩
  refine ⟨.func (.func 213) #[] #[.pointer (some ⟨bx, 0, none⟩)], rfl, rfl, fun p1 hp1 cb hcb p3 hp3 => ⟨_, rfl, cb, mt, mp, p1, p3, bx, rfl, ?_, ?_⟩⟩
  all_goals
   have s1 := Mem.sub_new hmt (.map #[] 0)
   have s2 := Mem.sub_new hmp (.map #[] 0)
   have s3 := Mem.sub_new hbx (cell (.slice d.ts.p d.ts.n d.ts.c) 22)
   have s4 := Mem.sub_new hp1 (.cells d.row.toArray 30 (0, 0))
   have s5 := Mem.sub_new hcb (.cells (d.row ++ [Value.map (some mt), Value.map (some mp)]).toArray 210 (0, 0))
   have s6 := Mem.sub_new hp3 (cell (.pointer (some ⟨cb, 0, none⟩)) 160)
  ·have nmp : mt ≠ mp := fun e => by rw [<- e, Mem.set_same] at hmp; cases hmp
   refine ⟨s1.trans (s2.trans (s3.trans (s4.trans (s5.trans s6)))), hmt, ?_, nmp, s6 _ _ (Mem.set_same _ _ _), (s5.trans s6) _ _ (Mem.set_same _ _ _), Mem.set_same _ _ _, (MapAt.made V mt).sub (s2.trans (s3.trans (s4.trans (s5.trans s6)))), (MapAt.made (V.set mt (.map #[] 0)) mp).sub (s3.trans (s4.trans (s5.trans s6)))⟩
   cases hv : V mp with
   | none => rfl
   | some o => have := s1 _ _ hv; rw [hmp] at this; cases this
  ·exact (s4.trans (s5.trans s6)) _ _ (Mem.set_same _ _ _)
 refine hA.step hV (has_init (args := [d.v]) (N := 38) (by simp)) ?_
 rintro a1 w1 vs V1 hd1 hH1 ⟨cb, mt, mp, p1, p3, bx, rfl, hN1, hbx1⟩ hF1
 show Code.wpIn (wideR none) 0 Tryz.prog _ _ a1 w1
 refine wpIn_block ?_
 have hit := fun fn lp D hlp => it213 (V := V1) (fn' := fn) (tmps := a1.tmps) (ps := #[16, 17]) (assign := (subL (bodyOf Tryz.f110) [3, 0, 0, 0]).getD 0 .skip) (body := (subL (bodyOf Tryz.f110) [3, 0, 0, 1]).getD 0 .skip) (D := D) (l := lp) (bx := bx) (s := d.ts) (xs := d.types)
  (J := fun i V2 => NI V d cb mt mp p1 p3 (fun y => ((d.types.drop (d.types.length - i)).find? fun t => decide (t.name = y)).map Ty.v) (fun _ => none) V2 /\ V2 bx = some (cell (.slice d.ts.p d.ts.n d.ts.c) 22)) rfl (fun i V2 hj _ => ⟨hj.2, hd.types.sub hj.1.sub⟩) (fun k x hx V2 hj hl2 w2 hw2 => by
   refine round_rule (N := 38) (insA := [(3, .pointer (some ⟨p3, 0, none⟩)), (17, Ty.v x)]) (outsA := [3, 5]) hl2 hw2 (has_two (u := .int .i64 k) (z := Ty.v x) (p := 16) (q := 17) (r := 3) hH1 rfl (by decide) (by decide) (by decide)).1 (has_two (p := 16) (q := 17) (r := 3) hH1 rfl (by decide) (by decide) (by decide)).2 (newAssignT x) (fun vs V3 hvs => ?_)
   obtain ⟨b, hb, e2, rfl⟩ := hvs
   exact (newRoundT hj.1 hj.2 x V3 b hb e2).mono fun _ V4 h4 => ⟨h4.1.cg (find_drop (nm := Ty.name) (vv := Ty.v) hx) fun _ => rfl, h4.2⟩)
  ⟨by simpa using hN1, hbx1⟩ hlp
 refine range_rule (Φ := fun V2 => NI V d cb mt mp p1 p3 (fun y => (tyOf d y).map Ty.v) (fun _ => none) V2) hF1.le (hH1.get (s := 15) rfl) Tryz.call213 (fun fn lp D hlp => Tri.mono (hit fn lp D hlp) fun e V' h => ?_) ?_
 ·obtain ⟨h1, V2, h2, h3, h4⟩ := h
  exact ⟨h1, V2, h2, h3, by simpa [tyOf] using h4.1⟩
 intro D V2 W hD hF2 hn2 hW hN2
 show wpL none 0 Tryz.prog _ (c110d ++ _) _ W
 have hS : Seg Tryz.prog 38 c110d [(1, .pointer (some ⟨p1, 0, none⟩)), (3, .pointer (some ⟨p3, 0, none⟩))] [3, 27] V2 fun vs V3 => ∃ bx, vs = [.pointer (some ⟨p3, 0, none⟩), .func (.func 214) #[] #[.pointer (some ⟨bx, 0, none⟩)]] /\ NI V d cb mt mp p1 p3 (fun y => (tyOf d y).map Ty.v) (fun _ => none) V3 /\ V3 bx = some (cell (.slice d.ps.p d.ps.n d.ps.c) 24) := by
  refine s110d ?_
  unfold w110d
  refine ⟨by simp, d.ps, row_cells hN2.b1 3 1 (by simp [Ds.row]), ?_⟩
  refine Tri.mono c161 ?_
  rintro _ V3 ⟨bx, hbx, rfl, rfl⟩
  exact ⟨.func (.func 214) #[] #[.pointer (some ⟨bx, 0, none⟩)], rfl, rfl, _, rfl, bx, rfl, hN2.fresh hbx _, Mem.set_same _ _ _⟩
 refine hS.step hF2.le ⟨hH1.1, fun s v hs => hH1.2 s v ?_⟩ ?_
 ·simp only [List.zip_cons_cons, List.lookup_cons] at hs ⊢
  repeat' (split at hs <;> first | exact hs | skip)
  all_goals first | exact hs | (cases hs)
 rintro a3 w3 vs V3 hd3 hH3 ⟨bx2, rfl, hN3, hbx3⟩ hF3
 show Code.wpIn (wideR none) 0 Tryz.prog _ _ a3 w3
 refine wpIn_block ?_
 have hit2 := fun fn lp D hlp => it214 (V := V3) (fn' := fn) (tmps := a3.tmps) (ps := #[28, 29]) (assign := (subL (bodyOf Tryz.f110) [5, 0, 0, 0]).getD 0 .skip) (body := (subL (bodyOf Tryz.f110) [5, 0, 0, 1]).getD 0 .skip) (D := D) (l := lp) (bx := bx2) (s := d.ps) (xs := d.procs)
  (J := fun i V2 => NI V d cb mt mp p1 p3 (fun y => (tyOf d y).map Ty.v) (fun y => ((d.procs.drop (d.procs.length - i)).find? fun t => decide (t.name = y)).map Pr.v) V2 /\ V2 bx2 = some (cell (.slice d.ps.p d.ps.n d.ps.c) 24)) rfl (fun i V2 hj _ => ⟨hj.2, hd.procs.sub hj.1.sub⟩) (fun k x hx V2 hj hl2 w2 hw2 => by
   refine round_rule (N := 38) (insA := [(3, .pointer (some ⟨p3, 0, none⟩)), (29, Pr.v x)]) (outsA := [3, 7]) hl2 hw2 (has_two (u := .int .i64 k) (z := Pr.v x) (p := 28) (q := 29) (r := 3) hH3 rfl (by decide) (by decide) (by decide)).1 (has_two (p := 28) (q := 29) (r := 3) hH3 rfl (by decide) (by decide) (by decide)).2 (newAssignP x) (fun vs V3 hvs => ?_)
   obtain ⟨b, hb, e2, rfl⟩ := hvs
   exact (newRoundP hj.1 hj.2 x V3 b hb e2).mono fun _ V4 h4 => ⟨h4.1.cg (fun _ => rfl) (find_drop (nm := Pr.name) (vv := Pr.v) hx), h4.2⟩)
  ⟨by simpa using hN3, hbx3⟩ hlp
 refine range_rule (Φ := fun V2 => NI V d cb mt mp p1 p3 (fun y => (tyOf d y).map Ty.v) (fun y => (prOf d y).map Pr.v) V2) hF3.le (hH3.get (s := 27) rfl) Tryz.call214 (fun fn lp D hlp => Tri.mono (hit2 fn lp D hlp) fun e V' h => ?_) ?_
 ·obtain ⟨h1, V2, h2, h3, h4⟩ := h
  exact ⟨h1, V2, h2, h3, by simpa [prOf] using h4.1⟩
 intro D2 V4 W4 hD2 hF4 hn4 hW4 hN4
 show wpL none 0 Tryz.prog _ (c110g ++ _) _ W4
 have hS2 : Seg Tryz.prog 38 c110g [(3, .pointer (some ⟨p3, 0, none⟩))] [2] V4 fun vs V5 => V5 = V4 /\ vs = [.pointer (some ⟨cb, 0, none⟩)] := by
  refine s110g ?_
  unfold w110g
  exact ⟨_, row1 hN4.b3, _, rfl, rfl, rfl⟩
 refine hS2.step hF4.le ⟨hH3.1, fun s v hs => hH3.2 s v ?_⟩ ?_
 ·simp only [List.zip_cons_cons, List.lookup_cons] at hs ⊢
  repeat' (split at hs <;> first | exact hs | skip)
  all_goals first | exact hs | (cases hs)
 rintro a5 w5 vs V5 hd5 hH5 ⟨rfl, rfl⟩ hF5
 show Code.wpIn (wideR none) 0 Tryz.prog .ret _ a5 w5
 refine wpIn_ret ?_
 obtain ⟨g1, g2, g3, g4⟩ := frame_marks hF1 hF2 hD hn2 hW hF3
 obtain ⟨k1, k2, k3, k4⟩ := frame_marks g1 hF4 hD2 hn4 hW4 hF5
 obtain ⟨m1, m2⟩ := mark_keep (hF4.trans hF5) g4 g3
 have hDlt : D < w3.heap.size := (Array.getElem?_eq_some_iff.1 g3).1
 refine ⟨.inr rfl, [D2, D], ?_, by simp; omega, _, k1, fun D' hD' => ?_, _, fun w6 hw6 => results_tmp (t := 2) (by kernel_rfl) _ _ _, some ⟨cb, 0, none⟩, by rw [hH5.get rfl], hN4.sub, ?_⟩
 ·rw [hd5]; simp [hd3, hd1]
 ·simp only [List.mem_cons, List.not_mem_nil, or_false] at hD'
  rcases hD' with rfl | rfl
  ·exact ⟨k2, k3, k4⟩
  ·exact ⟨g2, m1, m2⟩
 ·exact ⟨⟨cb, mt, mp, 210, rfl, hN4.ck, hN4.mapT, hN4.mapP⟩, hd.sub hN4.sub⟩
section
variable {P : Program} {V : Mem} {ty : Nat} {vals : Operand -> Value}
theorem GenK.shr {t u : TypeId} {x : Operand} {k kk : IntKind} {n c : Int} (hx : vals x = .int k n) (hy : vals (.const (.int kk c)) = .int kk c) (hc : ¬ c < 0) {q : Value -> Mem -> Prop} (hq : q (.int k (n.fdiv (2 ^ (min c.toNat k.bits)))) V) : GenK P (.binOp .shr t x (.const (.int kk c)) u) ty vals V q := by
 intro w hw
 refine ⟨_, w, V, ?_, Frm.refl hw, hq⟩
 unfold execOp
 simp [hx, hy, binOp, Op.shift, hc, eqGuard]
theorem GenK.max2 {a b : Operand} {ts : Array TypeId} {n1 n2 : Int} (h1 : vals a = .int .i64 n1) (h2 : vals b = .int .i64 n2) {q : Value -> Mem -> Prop} (hq : q (.int .i64 (if n1 < n2 then n2 else n1)) V) : GenK P (.call { callee := .builtin .max, args := #[a, b], argTypes := ts }) ty vals V q := by
 intro w hw
 refine ⟨_, w, V, ?_, Frm.refl hw, hq⟩
 unfold execOp
 simp only [resolve, invoke, builtin, Sem.run_bind, Sem.run_pure, Result.andThen_ok, List.map_toArray, List.map_cons, List.map_nil, h1, h2]
 simp [Builtin.max_, Builtin.max2]
theorem GenK.min2 {a b : Operand} {ts : Array TypeId} {n1 n2 : Int} (h1 : vals a = .int .i64 n1) (h2 : vals b = .int .i64 n2) {q : Value -> Mem -> Prop} (hq : q (.int .i64 (if n2 < n1 then n2 else n1)) V) : GenK P (.call { callee := .builtin .min, args := #[a, b], argTypes := ts }) ty vals V q := by
 intro w hw
 refine ⟨_, w, V, ?_, Frm.refl hw, hq⟩
 unfold execOp
 simp only [resolve, invoke, builtin, Sem.run_bind, Sem.run_pure, Result.andThen_ok, List.map_toArray, List.map_cons, List.map_nil, h1, h2]
 simp [Builtin.min_, Builtin.min2]
theorem GenK.iface {t : TypeId} {ts : Array Field} {x : Operand} {v : Value} (ht : P.underlying t = some (.struct ts)) (hx : vals x = v) {q : Value -> Mem -> Prop} (hq : q (.iface t v) V) : GenK P (.makeInterface t x) ty vals V q := by
 intro w hw
 refine ⟨_, w, V, ?_, Frm.refl hw, hq⟩
 unfold execOp
 simp [hx, Instr.makeInterface, run_underlying ht, Sem.run_bind]
end
def fltV (e : Int) : Value := .iface 133 (.agg #[.int .i64 e])
theorem GenK.fault {ty : Nat} {vals : Operand -> Value} {V : Mem} {x : Operand} {e : Int} (hx : vals x = .agg #[.int .i64 e]) {q : Value -> Mem -> Prop} (hq : q (fltV e) V) : GenK Tryz.prog (.makeInterface 133 x) ty vals V q :=
 GenK.iface Tryz.underlying133 hx hq
def fltC (e : Int) : Ending := .panicked [{ v := fltV e, recovered := false }]
theorem GenK.pan {ty : Nat} {vals : Operand -> Value} {V : Mem} {x : Operand} {e : Int} (hx : vals x = .agg #[.int .i64 e]) {R : Ending -> Mem -> Prop} (h : R (fltC e) V) :
  GenK Tryz.prog (.makeInterface 133 x) ty vals V fun y V1 => ∃ v, K.r.ok v /\ y = v /\ ∃ t x, K.cast .r v = .iface t x /\ R (.panicked [{ v := .iface t x, recovered := false }]) V1 :=
 GenK.fault hx ⟨fltV e, (rfl : K.cast .r (fltV e) = fltV e), rfl, _, _, rfl, h⟩
def resR : Rs -> Ending
 | .ok v => .returned (.int .i64 v)
 | .bad e => fltC e
def RB (r : Rs) (V : Mem) : Ending -> Mem -> Prop := fun e V' => e = resR r /\ V' = V
section
variable {V : Mem}
theorem c94 {n : Int} : Tri Tryz.prog 94 #[.int .i64 n] V (RB (big n) V) := by
 refine x94 (v0 := n) ?_
 unfold w94
 have bad : ¬ (-1099511627776 <= n /\ n <= 1099511627776) -> RB (big n) V (fltC 5) V := fun h => by unfold big; rw [if_neg h]; exact ⟨rfl, rfl⟩
 refine ⟨fun h => GenK.pan rfl ((bad (by omega))), fun h1 => ⟨fun h => GenK.pan rfl ((bad (by omega))), fun h2 => ?_⟩⟩
 unfold big; rw [if_pos (by omega)]; exact ⟨rfl, rfl⟩
theorem c147 {b : Bool} : PP 147 [.bool b] V (.int .i64 (trI b)) := by
 refine x147 (v0 := b) ?_
 unfold w147
 refine ⟨fun h => ?_, fun h => ?_⟩
 ·rw [show b = true from h]; exact ⟨rfl, rfl⟩
 ·rw [show b = false by simpa using h]; exact ⟨rfl, rfl⟩
theorem c201 {n : Int} (h : -1099511627776 <= n /\ n <= 1099511627776) : PP 201 [.int .i64 n] V (.int .u64 (n.natAbs : Int)) := by
 refine x201 (v0 := n) ?_
 unfold w201
 refine ⟨⟨by omega, by omega⟩, GenK.max2 rfl rfl ⟨_, rfl, ?_⟩⟩
 have e : (if n < 0 - n then 0 - n else n) = (n.natAbs : Int) := by split <;> omega
 rw [e]
 exact ⟨K.inR_iff.2 (by simp [IntKind.min, IntKind.max, IntKind.signed, IntKind.bits]; omega), rfl, rfl⟩
theorem fdiv_pow {n : Nat} {k : Nat} : ((n : Int)).fdiv (2 ^ k) = ((n / 2 ^ k : Nat) : Int) := by
 rw [show ((2 : Int) ^ k) = ((2 ^ k : Nat) : Int) by simp]; rw [Int.fdiv_eq_ediv_of_nonneg _ (Int.natCast_nonneg _)]; simp
theorem wrapU (n : Nat) : IntKind.wrap .u64 (n : Int) = ((n % 18446744073709551616 : Nat) : Int) := by
 simp [IntKind.wrap, IntKind.bits, IntKind.signed]
theorem maskU (n : Nat) : Go.bits .and .u64 (n : Int) 4294967295 = ((n % 4294967296 : Nat) : Int) := by
 unfold Go.bits
 have e : (BitVec.ofInt IntKind.u64.bits (n : Int) &&& BitVec.ofInt IntKind.u64.bits 4294967295).toNat = n % 4294967296 := by
  show (BitVec.ofInt 64 (n : Int) &&& BitVec.ofInt 64 4294967295).toNat = n % 4294967296
  have h1 : BitVec.ofInt 64 (n : Int) = BitVec.ofNat 64 n := by simp
  have h2 : BitVec.ofInt 64 4294967295 = BitVec.ofNat 64 4294967295 := by decide
  rw [h1, h2, BitVec.toNat_and, BitVec.toNat_ofNat, BitVec.toNat_ofNat, show 4294967295 % 2 ^ 64 = 2 ^ 32 - 1 by decide, Nat.and_two_pow_sub_one_eq_mod]
  omega
 simp only [e]
 rw [wrapU]
 congr 1
 omega
theorem inU (n : Nat) (h : n < 18446744073709551616) : K.inR .u64 (n : Int) := K.inR_iff.2 (by simp [IntKind.min, IntKind.max, IntKind.signed, IntKind.bits]; omega)
theorem c202 {a b : Nat} (ha : a <= 1099511627776) (hb : b <= 1099511627776) : PP 202 [.int .u64 a, .int .u64 b] V (.tuple #[.int .u64 ((a * b / 18446744073709551616 : Nat) : Int), .int .u64 ((a * b % 18446744073709551616 : Nat) : Int)]) := by
 refine x202 (v0 := a) (v1 := b) ?_
 unfold w202
 obtain ⟨x0, x1, h1, h2, h3, h4⟩ : ∃ x0 x1 : Nat, a % 4294967296 = x0 /\ a / 4294967296 = x1 /\ x0 < 4294967296 /\ x1 <= 256 := ⟨_, _, rfl, rfl, by omega, by omega⟩
 obtain ⟨y0, y1, k1, k2, k3, k4⟩ : ∃ y0 y1 : Nat, b % 4294967296 = y0 /\ b / 4294967296 = y1 /\ y0 < 4294967296 /\ y1 <= 256 := ⟨_, _, rfl, rfl, by omega, by omega⟩
 have p00 : x0 * y0 <= 4294967295 * 4294967295 := Nat.mul_le_mul (by omega) (by omega)
 have p10 : x1 * y0 <= 256 * 4294967295 := Nat.mul_le_mul (by omega) (by omega)
 have p01 : x0 * y1 <= 4294967295 * 256 := Nat.mul_le_mul (by omega) (by omega)
 have p11 : x1 * y1 <= 256 * 256 := Nat.mul_le_mul (by omega) (by omega)
 have pab : a * b = x1 * y1 * 18446744073709551616 + (x1 * y0 + x0 * y1) * 4294967296 + x0 * y0 := by
  have e1 : a = x1 * 4294967296 + x0 := by omega
  have e2 : b = y1 * 4294967296 + y0 := by omega
  rw [e1, e2]
  grind
 have ma := maskU a
 have mb := maskU b
 rw [h1] at ma
 rw [k1] at mb
 have shr : ∀ (n : Nat), (n : Int).fdiv (2 ^ (min (32 : Int).toNat IntKind.u64.bits)) = ((n / 4294967296 : Nat) : Int) := fun n => by
  rw [show min (32 : Int).toNat IntKind.u64.bits = 32 from rfl, fdiv_pow]
 have wr : ∀ {n : Nat}, n < 18446744073709551616 -> IntKind.wrap .u64 (n : Int) = (n : Int) := fun {n} h => by rw [wrapU, Nat.mod_eq_of_lt h]
 refine GenK.shr rfl rfl (by decide) ⟨_, rfl, GenK.shr rfl rfl (by decide) ⟨_, rfl, ?_⟩⟩
 rw [shr, shr, ma, mb, h2, k2]
 simp only [<- Int.natCast_mul]
 rw [wr (n := x0 * y0) (by omega), wr (n := x1 * y0) (by omega), wr (n := x0 * y1) (by omega), wr (n := x1 * y1) (by omega), wrapU]
 refine GenK.shr rfl rfl (by decide) ⟨_, rfl, ?_⟩
 rw [shr, <- Int.natCast_add, maskU]
 refine ⟨inU _ (by omega), GenK.shr rfl rfl (by decide) ⟨_, rfl, ?_⟩⟩
 rw [shr, <- Int.natCast_add, <- Int.natCast_add]
 refine ⟨inU _ (by omega), inU _ (by omega), GenK.shr rfl rfl (by decide) ⟨_, rfl, ?_⟩⟩
 rw [shr, <- Int.natCast_add]
 refine ⟨inU _ (by omega), ?_, rfl⟩
 have e : x1 * y1 + (x1 * y0 + x0 * y0 / 4294967296) / 4294967296 + ((x1 * y0 + x0 * y0 / 4294967296) % 4294967296 + x0 * y1) / 4294967296 = a * b / 18446744073709551616 := by
  rw [pab]
  omega
 rw [e]
theorem mul_abs {a b : Int} : (a.natAbs * b.natAbs : Nat) = (a * b).natAbs := (Int.natAbs_mul a b).symm
theorem c146 {a b : Int} (ha : -1099511627776 <= a /\ a <= 1099511627776) (hb : -1099511627776 <= b /\ b <= 1099511627776) : Tri Tryz.prog 146 #[.int .i64 a, .int .i64 b] V (RB (big (a * b)) V) := by
 refine x146 (v0 := a) (v1 := b) ?_
 unfold w146
 have bad : ¬ (-1099511627776 <= a * b /\ a * b <= 1099511627776) -> RB (big (a * b)) V (fltC 5) V := fun h => by unfold big; rw [if_neg h]; exact ⟨rfl, rfl⟩
 have hm := mul_abs (a := a) (b := b)
 refine (c201 ha).call ⟨_, rfl, (c201 hb).call ⟨_, rfl, (c202 (a := a.natAbs) (b := b.natAbs) (by omega) (by omega)).call ⟨_, _, rfl, ?_⟩⟩⟩
 rw [hm]
 refine ⟨fun h1 => ⟨fun h2 => GenK.pan rfl ((bad (by omega))), fun h2 => ⟨⟨by omega, by omega⟩, ?_⟩⟩, fun h1 => GenK.pan rfl ((bad (by omega)))⟩
 unfold big; rw [if_pos (by omega)]; exact ⟨rfl, rfl⟩
theorem c96 {op a b : Int} (ha : -1099511627776 <= a /\ a <= 1099511627776) (hb : -1099511627776 <= b /\ b <= 1099511627776) : Tri Tryz.prog 96 #[.int .i64 op, .int .i64 a, .int .i64 b] V (RB (twoV op a b) V) := by
 refine x96 (v0 := op) (v1 := a) (v2 := b) ?_
 unfold w96 twoV
 have out : ∀ {r : Rs} {e : Ending} {V' : Mem}, RB r V e V' -> (∃ v, e = .returned (.int .i64 v) /\ RB r V (.returned (.int .i64 v)) V') ∨ ∃ ch, e = .panicked ch /\ RB r V e V' := by
  rintro r e V' ⟨rfl, rfl⟩
  cases r with
  | ok v => exact .inl ⟨v, rfl, rfl, rfl⟩
  | bad e => exact .inr ⟨_, rfl, rfl, rfl⟩
 have tr : ∀ {b : Bool} {r : Rs}, r = .ok (trI b) -> Tri Tryz.prog 147 #[.bool b] V fun e V' => ∃ v, e = .returned (.int .i64 v) /\ RB r V (.returned (.int .i64 v)) V' := fun h => c147.call ⟨_, rfl, by rw [h]; exact ⟨rfl, rfl⟩⟩
 refine ⟨fun h => ?_, fun h1 => ?_⟩
 ·rw [if_pos h]; exact ⟨⟨by omega, by omega⟩, Tri.mono c94 fun _ _ => out⟩
 rw [if_neg (show ¬ op = 9 from h1)]
 refine ⟨fun h => ?_, fun h2 => ?_⟩
 ·rw [if_pos h]; exact ⟨⟨by omega, by omega⟩, Tri.mono c94 fun _ _ => out⟩
 rw [if_neg (show ¬ op = 10 from h2)]
 refine ⟨fun h => ?_, fun h3 => ?_⟩
 ·rw [if_pos h]; exact Tri.mono (c146 ha hb) fun _ _ => out
 rw [if_neg (show ¬ op = 11 from h3)]
 refine ⟨fun h => ?_, fun h4 => ?_⟩
 ·rw [if_pos h]; exact GenK.max2 rfl rfl ⟨_, rfl, rfl, rfl⟩
 rw [if_neg (show ¬ op = 22 from h4)]
 refine ⟨fun h => ?_, fun h5 => ?_⟩
 ·rw [if_pos h]; exact GenK.min2 rfl rfl ⟨_, rfl, rfl, rfl⟩
 rw [if_neg (show ¬ op = 23 from h5)]
 refine ⟨fun h => ?_, fun h6 => ?_⟩
 ·rw [if_pos h]; exact tr rfl
 rw [if_neg (show ¬ op = 14 from h6)]
 refine ⟨fun h => ?_, fun h7 => ?_⟩
 ·rw [if_pos h]; exact tr rfl
 rw [if_neg (show ¬ op = 15 from h7)]
 refine ⟨fun h => ?_, fun h8 => ?_⟩
 ·rw [if_pos h]; exact tr rfl
 rw [if_neg (show ¬ op = 16 from h8)]
 refine ⟨fun h => ?_, fun h9 => ?_⟩
 ·rw [if_pos h]; exact tr rfl
 rw [if_neg (show ¬ op = 17 from h9)]
 refine ⟨fun h => ?_, fun h10 => ?_⟩
 ·rw [if_pos h]; exact GenK.pan rfl ⟨rfl, rfl⟩
 rw [if_neg (show ¬ b = 0 from h10)]
 refine ⟨fun h => ?_, fun h11 => ?_⟩
 ·rw [if_pos h]
  have hd := tdiv_in (b := b) ha
  have hw : IntKind.wrap .i64 (a.tdiv b) = a.tdiv b := inr_in ⟨by simp [IntKind.min, IntKind.signed, IntKind.bits]; omega, by simp [IntKind.max, IntKind.signed, IntKind.bits]; omega⟩
  have hbig : Rs.ok (a.tdiv b) = big (a.tdiv b) := by unfold big; rw [if_pos hd]
  rw [hw, hbig]
  exact ⟨h10, Tri.mono c94 fun _ _ => out⟩
 ·rw [if_neg (show ¬ op = 12 from h11)]
  exact ⟨h10, rfl, rfl⟩
end
abbrev lenTab : ByteArray := strB [0, 1, 2, 2, 3, 3, 3, 3, 4, 4, 4, 4, 4, 4, 4, 4, 5, 5, 5, 5, 5, 5, 5, 5, 5, 5, 5, 5, 5, 5, 5, 5, 6, 6, 6, 6, 6, 6, 6, 6, 6, 6, 6, 6, 6, 6, 6, 6, 6, 6, 6, 6, 6, 6, 6, 6, 6, 6, 6, 6, 6, 6, 6, 6, 7, 7, 7, 7, 7, 7, 7, 7, 7, 7, 7, 7, 7, 7, 7, 7, 7, 7, 7, 7, 7, 7, 7, 7, 7, 7, 7, 7, 7, 7, 7, 7, 7, 7, 7, 7, 7, 7, 7, 7, 7, 7, 7, 7, 7, 7, 7, 7, 7, 7, 7, 7, 7, 7, 7, 7, 7, 7, 7, 7, 7, 7, 7, 7, 8, 8, 8, 8, 8, 8, 8, 8, 8, 8, 8, 8, 8, 8, 8, 8, 8, 8, 8, 8, 8, 8, 8, 8, 8, 8, 8, 8, 8, 8, 8, 8, 8, 8, 8, 8, 8, 8, 8, 8, 8, 8, 8, 8, 8, 8, 8, 8, 8, 8, 8, 8, 8, 8, 8, 8, 8, 8, 8, 8, 8, 8, 8, 8, 8, 8, 8, 8, 8, 8, 8, 8, 8, 8, 8, 8, 8, 8, 8, 8, 8, 8, 8, 8, 8, 8, 8, 8, 8, 8, 8, 8, 8, 8, 8, 8, 8, 8, 8, 8, 8, 8, 8, 8, 8, 8, 8, 8, 8, 8, 8, 8, 8, 8, 8, 8, 8, 8, 8, 8, 8, 8, 8, 8, 8, 8, 8, 8]
def lenN (n : Nat) : Int := if n = 0 then 0 else (Nat.log2 n : Int) + 1
theorem lenTab_at {n : Nat} (h : n < 256) : sbyte lenTab (n : Int) = lenN n := by
 have : ((List.range 256).all fun n => decide (sbyte lenTab (n : Int) = lenN n)) = true := by kernel_rfl
 exact of_decide_eq_true (List.all_eq_true.1 this n (List.mem_range.2 h))
theorem log2_shift {n k : Nat} (h : 2 ^ k <= n) : Nat.log2 n = k + Nat.log2 (n / 2 ^ k) := by
 have hp : 0 < 2 ^ k := Nat.two_pow_pos k
 have h0 : n / 2 ^ k ≠ 0 := by
  have := (Nat.le_div_iff_mul_le hp).2 (by rw [Nat.one_mul]; exact h : 1 * 2 ^ k <= n)
  omega
 have hn : n ≠ 0 := by omega
 have key : ∀ j, j <= Nat.log2 (n / 2 ^ k) ↔ k + j <= Nat.log2 n := fun j => by
  rw [Nat.le_log2 h0, Nat.le_log2 hn, Nat.le_div_iff_mul_le hp, <- Nat.pow_add, Nat.add_comm]
 have h1 := (key (Nat.log2 (n / 2 ^ k))).1 (Nat.le_refl _)
 have h2 : k <= Nat.log2 n := (Nat.le_log2 hn).2 h
 have h3 := (key (Nat.log2 n - k)).2 (by omega)
 omega
theorem lenN_shift {n k : Nat} (h : 2 ^ k <= n) : lenN n = k + lenN (n / 2 ^ k) := by
 have hp : 0 < 2 ^ k := Nat.two_pow_pos k
 have h0 : n / 2 ^ k ≠ 0 := by
  have := (Nat.le_div_iff_mul_le hp).2 (by rw [Nat.one_mul]; exact h : 1 * 2 ^ k <= n)
  omega
 unfold lenN
 rw [if_neg (by omega), if_neg h0, log2_shift h]
 omega
theorem lenN_small {n : Nat} (h : n < 256) : 0 <= lenN n /\ lenN n <= 8 := by
 unfold lenN
 split
 ·omega
 ·rename_i h0
  have : Nat.log2 n < 8 := (Nat.log2_lt h0).2 h
  omega
section
variable {V : Mem}
theorem c145 {n : Nat} (hn : n <= 1099511627776) : PP 145 [.int .u64 n] V (.int .i64 (lenN n)) := by
 refine x145 (v0 := n) ?_
 unfold w145
 have shr : ∀ (k : Nat) (c : Int), min c.toNat IntKind.u64.bits = k -> (n : Int).fdiv (2 ^ (min c.toNat IntKind.u64.bits)) = ((n / 2 ^ k : Nat) : Int) := fun k c h => by rw [h, fdiv_pow]
 have leaf : ∀ (k c : Nat), k < 256 -> c <= 64 -> lenN n = c + lenN k -> ∀ v : Int, v = (k : Int) -> ∀ c' : Int, c' = (c : Int) -> K.inR .u8 v /\ (0 <= v /\ v < (lenTab.size : Int)) /\ IR (sbyte lenTab v) /\ IR (c' + sbyte lenTab v) /\ (rV (uI (c' + sbyte lenTab v)) = Ending.returned (.int .i64 (lenN n)) /\ V = V) := by
  rintro k c h1 h2 h3 _ rfl _ rfl
  have h4 := lenN_small h1
  have hs : lenTab.size = 256 := by kernel_rfl
  rw [lenTab_at h1, hs, h3]
  exact ⟨⟨by omega, by omega⟩, ⟨by omega, by omega⟩, ⟨by omega, by omega⟩, ⟨by omega, by omega⟩, rfl, rfl⟩
 refine ⟨fun h1 => GenK.shr rfl rfl (by decide) ⟨_, rfl, ?_⟩, fun h1 => ⟨fun h2 => GenK.shr rfl rfl (by decide) ⟨_, rfl, ⟨by omega, by omega⟩, ?_⟩, fun h2 => ⟨fun h3 => GenK.shr rfl rfl (by decide) ⟨_, rfl, ⟨by omega, by omega⟩, ?_⟩, fun h3 => ?_⟩⟩⟩
 ·rw [shr 32 _ rfl]
  have e := lenN_shift (n := n) (k := 32) (by omega)
  have hb : n / 2 ^ 32 <= 256 := by omega
  refine ⟨fun h => by omega, fun _ => ⟨fun h2 => GenK.shr rfl rfl (by decide) ⟨_, rfl, ⟨by omega, by omega⟩, ?_⟩, fun h2 => leaf _ 32 (by omega) (by omega) (by omega) _ rfl _ rfl⟩⟩
  have e2 := lenN_shift (n := n / 2 ^ 32) (k := 8) (by omega)
  have : ((n / 2 ^ 32 : Nat) : Int).fdiv (2 ^ (min (8 : Int).toNat IntKind.u64.bits)) = ((n / 2 ^ 32 / 2 ^ 8 : Nat) : Int) := by
   rw [show min (8 : Int).toNat IntKind.u64.bits = 8 from rfl, fdiv_pow]
  rw [this]
  exact leaf _ 40 (by omega) (by omega) (by omega) _ rfl _ rfl
 ·rw [shr 16 _ rfl]
  have e := lenN_shift (n := n) (k := 16) (by omega)
  refine ⟨fun h => GenK.shr rfl rfl (by decide) ⟨_, rfl, ⟨by omega, by omega⟩, ?_⟩, fun h => leaf _ 16 (by omega) (by omega) (by omega) _ rfl _ rfl⟩
  have e2 := lenN_shift (n := n / 2 ^ 16) (k := 8) (by omega)
  have : ((n / 2 ^ 16 : Nat) : Int).fdiv (2 ^ (min (8 : Int).toNat IntKind.u64.bits)) = ((n / 2 ^ 16 / 2 ^ 8 : Nat) : Int) := by
   rw [show min (8 : Int).toNat IntKind.u64.bits = 8 from rfl, fdiv_pow]
  rw [this]
  exact leaf _ 24 (by omega) (by omega) (by omega) _ rfl _ rfl
 ·rw [shr 8 _ rfl]
  have e := lenN_shift (n := n) (k := 8) (by omega)
  exact leaf _ 8 (by omega) (by omega) (by omega) _ rfl _ rfl
 ·exact leaf _ 0 (by omega) (by omega) (by omega) _ rfl _ rfl
theorem c95 {n : Nat} (hn : n <= 1099511627776) : PP 95 [.int .u64 n] V (.int .i64 (lenN n)) := by
 refine x95 (v0 := n) ?_
 unfold w95
 exact (c145 hn).call ⟨_, rfl, rfl, rfl⟩
end
theorem lenN_log {n : Nat} : max 0 (lenN n - 1) = (Nat.log2 n : Int) := by
 unfold lenN
 split
 ·rename_i h; subst h; rfl
 ·omega
end Go.Proofs
namespace Go.Proofs
open Go Go.Sx
def encK (k : Int × Int) : Value := .agg #[.int .i64 k.1, .int .i64 k.2]
theorem encK_inj (a b : Int × Int) (h : encK a = encK b) : a = b := by
 obtain ⟨a1, a2⟩ := a
 obtain ⟨b1, b2⟩ := b
 unfold encK at h
 simpa using h
theorem run_equal_key (a b : Int × Int) (w : World) : (Op.equal 136 (encK a) (encK b)).run Tryz.prog w = .ok (decide (a = b)) w := by
 obtain ⟨a1, a2⟩ := a
 obtain ⟨b1, b2⟩ := b
 have hst : Tryz.prog.stoodInHeld 136 = false := by kernel_rfl
 have p0 : ∀ (x y : Int), (part 3 #[.int .i64 x, .int .i64 y] 0).run Tryz.prog w = .ok (.int .i64 x) w := fun x y => by simp [part, Sem.run_bind, Tryz.isAgg3]
 have p1 : ∀ (x y : Int), (part 3 #[.int .i64 x, .int .i64 y] 1).run Tryz.prog w = .ok (.int .i64 y) w := fun x y => by simp [part, Sem.run_bind, Tryz.isAgg3]
 have e : ∀ (n : Nat) (x y : Int), (Op.equalIn (n + 1) 3 (.int .i64 x) (.int .i64 y)).run Tryz.prog w = .ok (x == y) w := fun n x y => by
  rw [Op.equalIn]; simp [Sem.run_bind, run_underlying Tryz.underlying3]
 rw [equal_def, Op.equalIn]
 simp only [Sem.run_bind, run_underlying Tryz.underlying136, Result.andThen_ok, encK, run_program, hst]
 by_cases h1 : a1 = b1 <;> by_cases h2 : a2 = b2 <;> simp [<- Array.forIn_toList, Sem.run_bind, p0, p1, e 9998, h1, h2]
open Classical in
theorem run_asking (k : Int × Int) (w : World) : ∀ (es : List MapEntry) (i : Nat), (∀ e ∈ es, ∃ a, e.key = encK a) -> (Instr.findAsking 136 (encK k) es i).run Tryz.prog w = .ok ((es.findIdx? fun e => decide (e.key = encK k)).bind fun j => (es[j]?).map fun e => (i + j, e.val)) w
 | [], i, _ => by rw [Instr.findAsking]; rfl
 | e :: es, i, h => by
  obtain ⟨a, ha⟩ := h e (by simp)
  have ih := run_asking k w es (i + 1) fun x hx => h x (by simp [hx])
  rw [Instr.findAsking]
  simp only [Sem.run_bind, ha, run_equal_key, Result.andThen_ok, List.findIdx?_cons]
  by_cases hk : k = a
  ·subst hk; simp
  ·have hk' : ¬ encK a = encK k := fun e => hk (encK_inj _ _ e).symm
   simp only [hk, hk', decide_false, Bool.false_eq_true, if_false, ih]
   cases h' : List.findIdx? (fun e : MapEntry => decide (e.key = encK k)) es with
   | none => simp
   | some j => simp [Nat.add_assoc, Nat.add_comm 1 j]
theorem findNow_key (k : Value) : ∀ (es : List MapEntry) fs (i : Nat), Instr.findNow (.struct fs) k es i = some none /\ es = [] ∨ Instr.findNow (.struct fs) k es i = none
 | [], fs, i => .inl ⟨rfl, rfl⟩
 | e :: es, fs, i => .inr (by rw [Instr.findNow]; simp [Instr.sameNow])
open Classical in
theorem keyOf : KeyOf Tryz.prog 136 encK where
 inj := encK_inj
 find := fun a es w h => by
  unfold Instr.findKey
  simp only [Sem.run_bind, run_underlying Tryz.underlying136, Result.andThen_ok]
  rcases findNow_key (encK a) es _ 0 with ⟨h1, rfl⟩ | h1
  ·rw [h1]; rfl
  ·rw [h1]
   have := run_asking a w es 0 h
   simp only [Nat.zero_add] at this
   exact this
 check := fun b a w => by
  have p0 : ∀ (x y : Int), (part 3 #[.int .i64 x, .int .i64 y] 0).run Tryz.prog w = .ok (.int .i64 x) w := fun x y => by simp [part, Sem.run_bind, Tryz.isAgg3]
  have p1 : ∀ (x y : Int), (part 3 #[.int .i64 x, .int .i64 y] 1).run Tryz.prog w = .ok (.int .i64 y) w := fun x y => by simp [part, Sem.run_bind, Tryz.isAgg3]
  have c : ∀ (n : Nat) (x : Int), (Instr.checkKey b (n + 1) 3 (.int .i64 x)).run Tryz.prog w = .ok () w := fun n x => by
   rw [Instr.checkKey]; simp [Sem.run_bind, run_underlying Tryz.underlying3]
  rw [show (10000 : Nat) = 9999 + 1 from rfl, Instr.checkKey]
  simp [Sem.run_bind, run_underlying Tryz.underlying136, encK, <- Array.forIn_toList, p0, p1, c 9998]
 stays := fun a w => by
  have h : Instr.sameBits 10000 (encK a) (encK a) = true := by
   unfold encK
   rw [show (10000 : Nat) = 9998 + 1 + 1 from rfl]
   simp [Instr.sameBits]
  unfold Instr.keyThatStays
  rw [if_pos h]; rfl
end Go.Proofs
namespace Go.Proofs
open Go Go.Sx
attribute [local irreducible] Go.Sx.Tri
theorem row_cells' {V : Mem} {b : Nat} {c : Array Value} {t : Nat} {fr : Nat × Nat} (h : V b = some (.cells c t fr)) (j off n : Nat) (hl : j + off + n <= c.size) : V.rowp (ptrAdd (some ⟨b, 0, none⟩) j) off n = some ((c.toList.drop (j + off)).take n) := by
 have := row_cells h (j + off) n hl
 rw [<- this]
 show V.row (((⟨b, 0, none⟩ : Addr).add j).add off) n = V.row ((⟨b, 0, none⟩ : Addr).add (j + off)) n
 rw [add_add]
theorem c141 {V : Mem} {l : Sl} {xs : List Fld} {g : Nat} {first caps : List Value} (h : RowsAt V l 2 (xs.map Fld.row)) (hg : CallOk g) (p : Fld -> Bool) (hp : ∀ x ∈ xs, PP g (first ++ [Fld.v x] ++ caps) V (.bool (p x))) :
  PP 141 [l.v, .func (.func g) first.toArray caps.toArray] V (.int .i64 (idxI p xs)) := by
 refine Tri.mono (g141 hg (fun i V1 => V = V1 /\ AllTo (fun y => !p y) xs i) (fun i V1 => V = V1 /\ ∃ x, xs[i]? = some x /\ p x = true /\ AllTo (fun y => !p y) xs i) (fun i V1 hs => hs.1 ▸ h) ⟨rfl, AllTo.zero _ _⟩ ?_) ?_
 ·rintro i x V1 hx ⟨rfl, hs⟩
  have hm : x ∈ xs := List.mem_of_getElem? hx
  exact (hp x hm).callv ⟨_, rfl, fun hb => ⟨rfl, x, hx, hb, hs⟩, fun hb => ⟨rfl, notAll_succ hs hx hb⟩⟩
 ·rintro e V' (⟨i, rfl, rfl, x, hx, hb, hs⟩ | ⟨rfl, rfl, hs⟩)
  ·rw [idxI_found hs hx hb]; exact ⟨rfl, rfl⟩
  ·rw [idxI_none hs (Nat.le_refl _)]; exact ⟨rfl, rfl⟩
def mrow (d : Ds) (m : Mm) (kb bb : Nat) : List Value := [Go.Sx.vS d.name, d.ts.v, d.gs.v, d.ps.v, d.ms.v, d.is.v, d.qs.v, d.bs.v, m.gs.v, m.ns.v, .map (some kb), .map (some bb)]
structure Mach (V0 : Mem) (d : Ds) (m : Mm) (p kb bb : Nat) (V : Mem) (kn : Int × Int -> Option Int) (bz : Int × Int -> Bool) : Prop where
 sub : V0.sub V
 at_ : V p = some (.cells (mrow d m kb bb).toArray 129 (0, 0))
 known : MapV encK V kb fun k => (kn k).map (Value.int .i64)
 busy : MapV encK V bb fun k => if bz k then some (.bool true) else none
structure Stat (V0 : Mem) (d : Ds) (m : Mm) (p kb bb : Nat) : Prop where
 good : GoodD d m
 ds : Ds.Ok V0 d
 mm : Mm.Ok V0 m
 p0 : V0 p = none
 k0 : V0 kb = none
 b0 : V0 bb = none
 pk : p ≠ kb
 pb : p ≠ bb
 kb : kb ≠ bb
def Keep (kb bb : Nat) (V V' : Mem) : Prop := ∀ c o, c ≠ kb -> c ≠ bb -> V c = some o -> V' c = some o
theorem Keep.refl {kb bb : Nat} (V : Mem) : Keep kb bb V V := fun _ _ _ _ h => h
theorem Keep.trans {kb bb : Nat} {V V' V'' : Mem} (h : Keep kb bb V V') (k : Keep kb bb V' V'') : Keep kb bb V V'' := fun c o h1 h2 h3 => k c o h1 h2 (h c o h1 h2 h3)
theorem Keep.of_sub {kb bb : Nat} {V V' : Mem} (h : V.sub V') : Keep kb bb V V' := fun c o _ _ h3 => h c o h3
section
variable {V0 V V' : Mem} {d : Ds} {m : Mm} {p kb bb : Nat} {kn : Int × Int -> Option Int} {bz : Int × Int -> Bool}
theorem Mach.grow (h : Mach V0 d m p kb bb V kn bz) (hs : V.sub V') : Mach V0 d m p kb bb V' kn bz := ⟨h.sub.trans hs, hs _ _ h.at_, h.known.sub hs, h.busy.sub hs⟩
theorem Mach.cell (h : Mach V0 d m p kb bb V kn bz) (i n : Nat) (hi : i + n <= 12) : V.rowp (some ⟨p, 0, none⟩) i n = some (((mrow d m kb bb).drop i).take n) := row_cells h.at_ i n hi
theorem Mach.cell' (h : Mach V0 d m p kb bb V kn bz) (j i n : Nat) (hi : j + i + n <= 12) : V.rowp (ptrAdd (some ⟨p, 0, none⟩) j) i n = some (((mrow d m kb bb).drop (j + i)).take n) := row_cells' h.at_ j i n hi
theorem nn {p : Addr} : ¬ (some p : Option Addr) = none := nofun
theorem pnn {p : Addr} {n : Nat} : ¬ ptrAdd (some p) n = none := nofun
theorem c36 (S : Stat V0 d m p kb bb) (h : Mach V0 d m p kb bb V kn bz) {x : Int} : PP 36 [.pointer (some ⟨p, 0, none⟩), .int .i64 x] V (.bool (decide (0 <= x /\ x <= (m.nodes.length : Int)))) := by
 refine x36 (v0 := some ⟨p, 0, none⟩) (v1 := x) ?_
 unfold w36
 have hn := S.mm.nodes.n_eq
 refine ⟨fun h1 => ⟨nn, nn, pnn, m.ns, h.cell 9 1 (by decide), ?_⟩, fun h1 => ?_⟩
 ·have : (decide (x <= (m.ns.n : Int))) = decide (0 <= x /\ x <= (m.nodes.length : Int)) := by rw [decide_eq_decide]; omega
  rw [this]; exact ⟨rfl, rfl⟩
 ·rw [decide_eq_false (fun k => h1 k.1)]; exact ⟨rfl, rfl⟩
theorem c71 {b t : Nat} {s : ByteArray} (hb : V b = some (cell (.string s) t)) {x : Ms} : PP 71 [x.v, .pointer (some ⟨b, 0, none⟩)] V (.bool (decide (x.name = s))) := by
 refine x71 (v0 := x.name) (v1 := x.ty) (v2 := x.nil) (v3 := x.x.op) (v4 := x.x.n) (v5 := x.x.s) (v6 := x.x.l) ?_
 unfold w71
 exact ⟨_, row1 hb, rfl, rfl⟩
theorem c37 (S : Stat V0 d m p kb bb) (h : Mach V0 d m p kb bb V kn bz) {s : ByteArray} : PP 37 [.pointer (some ⟨p, 0, none⟩), .string s] V (.int .i64 (mIdx d s)) := by
 refine Pur.mk (x37 (v0 := some ⟨p, 0, none⟩) (v1 := s) ?_)
 unfold w37
 refine ⟨nn, nn, pnn, d.ms, h.cell 4 1 (by decide), fun b hb => ?_⟩
 have hs := Mem.sub_new hb (cell (.string s) 9)
 exact (idxMs (first := []) (caps := [.pointer (some ⟨b, 0, none⟩)]) (S.ds.sub (h.sub.trans hs)).measures Tryz.call71 (fun t => decide (t.name = s)) (fun x _ => c71 (Mem.set_same _ _ _))).call ⟨_, rfl, rfl, hs⟩
theorem c142 {b t : Nat} {s : ByteArray} (hb : V b = some (cell (.string s) t)) {x : Fld} : PP 142 [x.v, .pointer (some ⟨b, 0, none⟩)] V (.bool (decide (x.name = s))) := by
 refine x142 (v0 := x.name) (v1 := x.ty) ?_
 unfold w142
 exact ⟨_, row1 hb, rfl, rfl⟩
theorem c200 {b t : Nat} {s : ByteArray} (hb : V b = some (cell (.string s) t)) {x : Fld} : PP 200 [x.v, .pointer (some ⟨b, 0, none⟩)] V (.bool (decide (x.name = s))) := by
 refine x200 (v0 := x.name) (v1 := x.ty) ?_
 unfold w200
 exact ⟨_, row1 hb, rfl, rfl⟩
theorem c199 {i : Int} : PP 199 [.int .i64 i] V (.tuple #[.int .i64 (if i < 0 then 0 else i), .int .i64 (if i < 0 then 12 else 0)]) := by
 refine x199 (v0 := i) ?_
 unfold w199
 refine ⟨fun h => ?_, fun h => ?_⟩
 ·rw [if_pos h, if_pos h]; exact ⟨rfl, rfl⟩
 ·rw [if_neg h, if_neg h]; exact ⟨rfl, rfl⟩
theorem c143 {t : Ty} (h : Ty.Ok V t) {s : ByteArray} : PP 143 [t.v, .string s] V (.tuple #[.int .i64 (if idxF t.fields s < 0 then 0 else idxF t.fields s), .int .i64 (if idxF t.fields s < 0 then 12 else 0)]) := by
 refine Pur.mk (x143 (v0 := t.name) (v1 := t.fs) (v2 := s) ?_)
 unfold w143
 intro b hb
 have hs := Mem.sub_new hb (cell (.string s) 9)
 refine (c141 (first := []) (caps := [.pointer (some ⟨b, 0, none⟩)]) (h.sub hs).fields Tryz.call200 (fun t => decide (t.name = s)) (fun x _ => c200 (Mem.set_same _ _ _))).call ⟨_, rfl, c199.call ⟨_, _, rfl, rfl, hs⟩⟩
theorem c92 (S : Stat V0 d m p kb bb) (h : Mach V0 d m p kb bb V kn bz) {T s t : ByteArray} {x : Int} (hT : This d m T x) (ht : lookF (inFormS d T).vars s = t) (hne : t ≠ sE) : PP 92 [.pointer (some ⟨p, 0, none⟩), .string s, .int .i64 x] V (.int .i64 (varV d m x s)) := by
 refine Pur.mk (x92 (v0 := some ⟨p, 0, none⟩) (v1 := s) (v2 := x) ?_)
 unfold w92
 refine ⟨fun h1 => ?_, fun h1 => ⟨nn, nn, pnn, m.gs, h.cell 8 1 (by decide), nn, nn, pnn, d.gs, h.cell 2 1 (by decide), fun b hb => ?_⟩⟩
 ·unfold varV; rw [if_pos (show s = sThisF from h1)]; exact ⟨rfl, Mem.sub.refl _⟩
 have hs := Mem.sub_new hb (cell (.string s) 9)
 have hv := h.sub.trans hs
 refine (c141 (first := []) (caps := [.pointer (some ⟨b, 0, none⟩)]) (S.ds.sub hv).globals Tryz.call142 (fun t => decide (t.name = s)) (fun x _ => c142 (Mem.set_same _ _ _))).call ⟨_, rfl, (h.grow hs).cell' 8 0 1 (by decide), pnn, nn, nn, ?_⟩
 rcases var_ok S.good hT ht hne with ⟨g, -⟩ | ⟨-, i, f, v, g1, g2, g3, g4, g5⟩
 ·exact absurd g h1
 have g1 : idxI (fun t : Fld => decide (t.name = s)) d.globals = (i : Int) := g1
 rw [g1]
 have hl := (List.getElem?_eq_some_iff.1 g3).1
 have hgl := (S.mm.sub hv).globals
 have hn := hgl.n_eq
 obtain ⟨y, hym, hy, -, hl2, hp2, hz2, hrow2⟩ := hgl.get (i := i) (by omega)
 rw [g3] at hy; cases hy
 refine ⟨hp2, hz2, by omega, _, hrow2, ?_, hs⟩
 show Ending.returned (.int .i64 v) = _
 rw [g5]
theorem c93 (S : Stat V0 d m p kb bb) (h : Mach V0 d m p kb bb V kn bz) {t s ty : ByteArray} (ht : fieldT d t s = (ty, 0)) {a : Int} (ha : valOk d m t a) : Tri Tryz.prog 93 #[.pointer (some ⟨p, 0, none⟩), .int .i64 a, .string s] V (RB (fldV d m a s) V) := by
 refine Tri.mono (x93 (v0 := some ⟨p, 0, none⟩) (v1 := a) (v2 := s) (R := RB (fldV d m a s) V) ?_) fun _ _ h => h
 unfold w93
 refine ⟨fun h0 => GenK.pan rfl ?_, fun h0 => ?_⟩
 ·unfold fldV; rw [if_pos h0]; exact ⟨rfl, rfl⟩
 obtain ⟨n, i, j, tt, f, v, b1, b2, b3, b4, b5, b6, b7, b8, b9, b10, -, b12⟩ := fld_ok S.good ht ha h0
 obtain ⟨q, rfl⟩ : ∃ q : Nat, a = (q : Int) + 1 := ⟨(a - 1).toNat, by omega⟩
 rw [show ((q : Int) + 1 - 1) = (q : Int) by omega] at *
 have hm1 := S.mm.sub h.sub
 have hd1 := S.ds.sub h.sub
 have hnn := hm1.nodes.n_eq
 obtain ⟨y, hym, hy, -, hl2, hp2, hz2, hrow2⟩ := hm1.nodes.get (i := q) (by omega)
 rw [Int.toNat_natCast] at b1
 rw [b1] at hy; cases hy
 have htn := hd1.types.n_eq
 have hjl := (List.getElem?_eq_some_iff.1 b6).1
 obtain ⟨z, hzm, hz, -, hl3, hp3, hz3, hrow3⟩ := hd1.types.get (i := j) (by omega)
 rw [b6] at hz; cases hz
 have hI : IR ((q : Int)) := ⟨by omega, by have := (hm1.nodes.succ (i := q) (by omega)).2; omega⟩
 refine ⟨nn, nn, pnn, m.ns, h.cell 9 1 (by decide), hI, hp2, hz2, by omega, _, _, hrow2, nn, nn, pnn, d.ts, h.cell 1 1 (by decide), ?_⟩
 rw [b5]
 refine ⟨hp3, hz3, by omega, _, _, hrow3, (c143 (hd1.typesOk tt hzm)).call ⟨_, _, rfl, ?_⟩⟩
 rw [b8, if_neg (by omega)]
 have hv := (hm1.nodesOk n hym).rows
 have hvn := hv.n_eq
 have hil := (List.getElem?_eq_some_iff.1 b10).1
 obtain ⟨u, hum, hu, -, hl4, hp4, hz4, hrow4⟩ := hv.get (i := i) (by omega)
 rw [b10] at hu; cases hu
 refine ⟨hp4, hz4, by omega, _, hrow4, ?_, rfl⟩
 rw [b12]; rfl
def typV (d : Ds) (m : Mm) (x : Int) : ByteArray := if x = 0 then sE else ((m.nodes[(x - 1).toNat]?).bind fun n => (d.types[n.ty.toNat]?).map (·.name)).getD sE
theorem node_at (G : GoodD d m) {x : Int} (h1 : 1 <= x) (h2 : x <= (m.nodes.length : Int)) : ∃ (q j : Nat) (n : Nd) (tt : Ty), x = (q : Int) + 1 /\ m.nodes[q]? = some n /\ n.ty = (j : Int) /\ d.types[j]? = some tt /\ typV d m x = tt.name := by
 obtain ⟨q, rfl⟩ : ∃ q : Nat, x = (q : Int) + 1 := ⟨(x - 1).toNat, by omega⟩
 have hq : m.nodes[q]? = some (m.nodes[q]'(by omega)) := List.getElem?_eq_getElem _
 obtain ⟨-, -, p3, -⟩ := validM_parts G.mem
 obtain ⟨c1, c2⟩ := of_decide_eq_true (p3 _ (List.mem_of_getElem? hq))
 obtain ⟨j, hj⟩ : ∃ j : Nat, (m.nodes[q]'(by omega)).ty = (j : Int) := ⟨_, (Int.toNat_of_nonneg c1).symm⟩
 have ht : d.types[j]? = some (d.types[j]'(by omega)) := List.getElem?_eq_getElem _
 refine ⟨q, j, _, _, rfl, hq, hj, ht, ?_⟩
 unfold typV
 rw [if_neg (by omega), show ((q : Int) + 1 - 1).toNat = q by omega, hq, Option.bind_some, hj, Int.toNat_natCast, ht]; rfl
theorem c38 (S : Stat V0 d m p kb bb) (h : Mach V0 d m p kb bb V kn bz) {x : Int} (hx : 0 <= x /\ x <= (m.nodes.length : Int)) : PP 38 [.pointer (some ⟨p, 0, none⟩), .int .i64 x] V (.string (typV d m x)) := by
 refine x38 (v0 := some ⟨p, 0, none⟩) (v1 := x) ?_
 unfold w38
 refine ⟨fun h0 => ?_, fun h0 => ?_⟩
 ·unfold typV; rw [if_pos h0]; exact ⟨rfl, rfl⟩
 have h0 : ¬ x = 0 := h0
 obtain ⟨q, j, n, tt, rfl, b1, b5, b6, b7⟩ := node_at S.good (x := x) (by omega) hx.2
 rw [show ((q : Int) + 1 - 1) = (q : Int) by omega]
 have hm1 := S.mm.sub h.sub
 have hd1 := S.ds.sub h.sub
 have hnn := hm1.nodes.n_eq
 obtain ⟨y, hym, hy, -, hl2, hp2, hz2, hrow2⟩ := hm1.nodes.get (i := q) (by omega)
 rw [b1] at hy; cases hy
 have htn := hd1.types.n_eq
 have hjl := (List.getElem?_eq_some_iff.1 b6).1
 obtain ⟨z, hzm, hz, -, hl3, hp3, hz3, hrow3⟩ := hd1.types.get (i := j) (by omega)
 rw [b6] at hz; cases hz
 have hI : IR ((q : Int)) := ⟨by omega, by have := (hm1.nodes.succ (i := q) (by omega)).2; omega⟩
 refine ⟨nn, nn, pnn, d.ts, h.cell 1 1 (by decide), nn, nn, pnn, m.ns, h.cell 9 1 (by decide), hI, hp2, hz2, by omega, ptrAdd_ne hp2, _, _, hrow2, ?_⟩
 rw [b5]
 refine ⟨hp3, hz3, by omega, ptrAdd_ne hp3, _, _, hrow3, ?_, rfl⟩
 rw [b7]
theorem this_typ (G : GoodD d m) {x : Int} (h1 : 0 <= x) (h2 : x <= (m.nodes.length : Int)) : This d m (typV d m x) x := by
 by_cases h0 : x = 0
 ·left; unfold typV; rw [if_pos h0]; exact ⟨rfl, h0⟩
 ·right
  obtain ⟨q, j, n, tt, rfl, b1, b5, b6, b7⟩ := node_at G (x := x) (by omega) h2
  have hmem := List.mem_of_getElem? b6
  have hnode : isNode d tt.name = true := List.any_eq_true.2 ⟨tt, hmem, decide_eq_true rfl⟩
  have hname := node_name G.valid hnode
  refine ⟨b7 ▸ hnode, h0, ?_⟩
  rw [b7]
  unfold rightB
  rw [if_neg (name_ne hname kwInt), if_neg (name_ne hname kwBool)]
  refine decide_eq_true (.inr ⟨by omega, by omega, ?_⟩)
  rw [show ((q : Int) + 1 - 1).toNat = q by omega, b1]
  show some n.ty = _
  rw [b5, (hasT_parts' (validM_parts G.mem).1).2.1 j tt b6]
end
end Go.Proofs
