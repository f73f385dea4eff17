/- Part 20 of a proof of a law of this seat: no statement of the seat is proved here. -/
import Derived.Test.YtjnmeimbcljkjaaGreatDoorPart16
import Derived.Test.YtjnmeimbcljkjaaGreatDoorPart18
import Derived.Test.YtjnmeimbcljkjaaGreatDoorPart19
set_option linter.unusedVariables false
set_option linter.unusedSimpArgs false
namespace Go.Proofs
open Go Go.Sx
attribute [local irreducible] Go.Sx.Tri
theorem GenK.makeMap {P : Program} {V : Mem} {t : TypeId} {ty : Nat} {vals : Operand → Value} {q : Value → Mem → Prop} (hq : ∀ b, V b = none → q (.map (some b)) (V.set b (.map #[] 0))) : GenK P (.makeMap t none) ty vals V q := by
  intro w hw
  have hn : V w.heap.size = none := by
    cases hc : V w.heap.size with
    | none => rfl
    | some o => have := (Array.getElem?_eq_some_iff.1 (hw _ o hc)).1; omega
  refine ⟨_, w.alloc (.map #[] 0), V.set w.heap.size (.map #[] 0), rfl, ?_, hq _ hn⟩
  refine ⟨by simp, fun b o hb => ?_, fun b hb _ => Go.RowKit.Below.heap_alloc _ _ _ hb, fun b hb => ?_, rfl, rfl⟩
  · by_cases e : b = w.heap.size
    · subst e; rw [Mem.set_same] at hb; rw [← hb]; exact World.alloc_heap_new _ _
    · rw [Mem.set_ne e] at hb
      have hlt := (Array.getElem?_eq_some_iff.1 (hw b o hb)).1
      exact (Go.RowKit.Below.heap_alloc _ _ _ hlt).trans (hw b o hb)
  · by_cases e : b = w.heap.size
    · exact .inr (by omega)
    · rw [Mem.set_ne e] at hb; exact .inl hb
theorem rowsPred {α : Type} {V : Mem} {s : Sl} {sz : Nat} {row : α → List Value} {xs : List α} (h : RowsAt V s sz (xs.map row)) : K.inR .i64 ((s.n : Int) - 1) := by
  have := h.cap; have := h.fit
  exact ⟨by omega, by omega⟩
theorem it184 {V : Mem} {fn' : FuncId} {tmps : Array Value} {ps : Array Tmp} {assign body : Code} {D : Nat} {l : Nat} {bx : Nat} {s : Sl} {xs : List Fld} {J : Nat → Mem → Prop} (hps : ps.size = 2)
    (hJ : ∀ i V2, J i V2 → V2 l = none → V2 bx = some (cell (.slice s.p s.n s.c) 23) ∧ RowsAt V2 s 2 (xs.map Fld.row))
    (hround : ∀ k x, xs[k]? = some x → ∀ V2, J (xs.length - 1 - k) V2 → V2 l = none → ∀ w, (V2.set l (.loop (rec0 fn' tmps ps assign body D))).le w →
      RoundIn (wideR none) 0 Tryz.prog l fn' ((ps.zip #[.int .i64 k, Fld.v x]).foldl (fun t (p, v) => t.setIfInBounds p v) tmps) assign body w fun e w' =>
        e = .returned (.bool true) ∧ ∃ V3, J (xs.length - k) V3 ∧ V3 l = none ∧ Frm (V2.set l (.loop (rec0 fn' tmps ps assign body D))) w (V3.set l (.loop (rec0 fn' tmps ps assign body D))) w')
    (h0 : J 0 V) (hl : V l = none) :
    Tri Tryz.prog 184 #[.func (.yield l) #[] #[], .pointer (some ⟨bx, 0, none⟩)] (V.set l (.loop (rec0 fn' tmps ps assign body D))) fun e V' => (∃ v, e = .returned v) ∧ ∃ V2, V' = V2.set l (.loop (rec0 fn' tmps ps assign body D)) ∧ V2 l = none ∧ J xs.length V2 := by
  refine back_rule (c := bodyOf Tryz.f184) (L := kid ((subL (bodyOf Tryz.f184) [1, 0]).getD 0 .skip) 0) (B := kid ((subL (bodyOf Tryz.f184) [1, 0, 0, 0]).getD 2 .skip) 0) (cA := c184a) (cB := c184b) (cE := c184e) (ops := c184c) (b0 := 0) (b1 := 1) (id := 3)
    (o6 := (c184c)[6]?.getD default) (at6 := #[3, 67]) (el := fun k => (xs[k]?.map Fld.v).getD undef) (Bk := fun M => M bx = some (cell (.slice s.p s.n s.c) 23) ∧ RowsAt M s 2 (xs.map Fld.row))
    Tryz.func184 (by kernel_rfl) (by kernel_rfl) (by kernel_rfl) (by kernel_rfl) (by kernel_rfl) (by kernel_rfl) (by kernel_rfl) (by kernel_rfl) (by kernel_rfl) (by kernel_rfl) (by kernel_rfl) hps ?_ ?_ ?_ ?_ ?_ ?_ ?_ h0 hl
  · rintro M ⟨h1, h2⟩
    refine s184a (v0 := .func (.yield l) #[] #[]) (v1 := some ⟨bx, 0, none⟩) ?_
    unfold w184a
    exact ⟨s, row1 h1, rowsPred h2, _, rfl, rfl, by rw [h2.n_eq]; rfl⟩
  · intro M j
    refine s184b (v0 := .func (.yield l) #[] #[]) (v1 := some ⟨bx, 0, none⟩) ?_
    unfold w184b
    exact ⟨_, rfl, rfl, rfl⟩
  · rintro M k ⟨h1, h2⟩ hk
    refine s184c (v0 := .func (.yield l) #[] #[]) (v1 := some ⟨bx, 0, none⟩) ?_
    unfold w184c
    obtain ⟨x, hm, hx, hdr, hlt, hnn, hz, hrow⟩ := h2.get (i := k) (by rw [h2.n_eq]; omega)
    exact ⟨s, row1 h1, hnn, hz, by rw [h2.n_eq]; omega, x.name, x.ty, hrow, _, rfl, rfl, by rw [hx]; rfl⟩
  · intro M j b
    refine s184d (v0 := .func (.yield l) #[] #[]) (v1 := some ⟨bx, 0, none⟩) ?_
    unfold w184d
    exact ⟨_, rfl, rfl, rfl⟩
  · rintro M j ⟨h1, h2⟩ hj hj2
    have hb1 := h2.cap
    have hb2 := h2.fit
    have hb3 := h2.n_eq
    refine s184e (v0 := .func (.yield l) #[] #[]) (v1 := some ⟨bx, 0, none⟩) ?_
    unfold w184e
    exact ⟨⟨by omega, by omega⟩, _, rfl, rfl, rfl⟩
  · intro i V2 hj hl2
    obtain ⟨h1, h2⟩ := hJ i V2 hj hl2
    have e : bx ≠ l := fun e => by subst e; rw [hl2] at h1; cases h1
    exact ⟨by rw [Mem.set_ne e]; exact h1, h2.sub (Mem.sub_new hl2 _)⟩
  · intro k hk V2 hj hl2 w hw
    have hx : xs[k]? = some xs[k] := by simp [hk]
    have := hround k xs[k] hx V2 hj hl2 w hw
    simp only [hx]
    exact this
theorem it129 {V : Mem} {fn' : FuncId} {tmps : Array Value} {ps : Array Tmp} {assign body : Code} {D : Nat} {l : Nat} {bx : Nat} {s : Sl} {xs : List Ty} {J : Nat → Mem → Prop} (hps : ps.size = 2)
    (hJ : ∀ i V2, J i V2 → V2 l = none → V2 bx = some (cell (.slice s.p s.n s.c) 22) ∧ RowsAt V2 s 2 (xs.map Ty.row))
    (hround : ∀ k x, xs[k]? = some x → ∀ V2, J (xs.length - 1 - k) V2 → V2 l = none → ∀ w, (V2.set l (.loop (rec0 fn' tmps ps assign body D))).le w →
      RoundIn (wideR none) 0 Tryz.prog l fn' ((ps.zip #[.int .i64 k, Ty.v x]).foldl (fun t (p, v) => t.setIfInBounds p v) tmps) assign body w fun e w' =>
        e = .returned (.bool true) ∧ ∃ V3, J (xs.length - k) V3 ∧ V3 l = none ∧ Frm (V2.set l (.loop (rec0 fn' tmps ps assign body D))) w (V3.set l (.loop (rec0 fn' tmps ps assign body D))) w')
    (h0 : J 0 V) (hl : V l = none) :
    Tri Tryz.prog 129 #[.func (.yield l) #[] #[], .pointer (some ⟨bx, 0, none⟩)] (V.set l (.loop (rec0 fn' tmps ps assign body D))) fun e V' => (∃ v, e = .returned v) ∧ ∃ V2, V' = V2.set l (.loop (rec0 fn' tmps ps assign body D)) ∧ V2 l = none ∧ J xs.length V2 := by
  refine back_rule (c := bodyOf Tryz.f129) (L := kid ((subL (bodyOf Tryz.f129) [1, 0]).getD 0 .skip) 0) (B := kid ((subL (bodyOf Tryz.f129) [1, 0, 0, 0]).getD 2 .skip) 0) (cA := c129a) (cB := c129b) (cE := c129e) (ops := c129c) (b0 := 0) (b1 := 1) (id := 3)
    (o6 := (c129c)[6]?.getD default) (at6 := #[3, 94]) (el := fun k => (xs[k]?.map Ty.v).getD undef) (Bk := fun M => M bx = some (cell (.slice s.p s.n s.c) 22) ∧ RowsAt M s 2 (xs.map Ty.row))
    Tryz.func129 (by kernel_rfl) (by kernel_rfl) (by kernel_rfl) (by kernel_rfl) (by kernel_rfl) (by kernel_rfl) (by kernel_rfl) (by kernel_rfl) (by kernel_rfl) (by kernel_rfl) (by kernel_rfl) hps ?_ ?_ ?_ ?_ ?_ ?_ ?_ h0 hl
  · rintro M ⟨h1, h2⟩
    refine s129a (v0 := .func (.yield l) #[] #[]) (v1 := some ⟨bx, 0, none⟩) ?_
    unfold w129a
    exact ⟨s, row1 h1, rowsPred h2, _, rfl, rfl, by rw [h2.n_eq]; rfl⟩
  · intro M j
    refine s129b (v0 := .func (.yield l) #[] #[]) (v1 := some ⟨bx, 0, none⟩) ?_
    unfold w129b
    exact ⟨_, rfl, rfl, rfl⟩
  · rintro M k ⟨h1, h2⟩ hk
    refine s129c (v0 := .func (.yield l) #[] #[]) (v1 := some ⟨bx, 0, none⟩) ?_
    unfold w129c
    obtain ⟨x, hm, hx, hdr, hlt, hnn, hz, hrow⟩ := h2.get (i := k) (by rw [h2.n_eq]; omega)
    exact ⟨s, row1 h1, hnn, hz, by rw [h2.n_eq]; omega, x.name, x.fs, hrow, _, rfl, rfl, by rw [hx]; rfl⟩
  · intro M j b
    refine s129d (v0 := .func (.yield l) #[] #[]) (v1 := some ⟨bx, 0, none⟩) ?_
    unfold w129d
    exact ⟨_, rfl, rfl, rfl⟩
  · rintro M j ⟨h1, h2⟩ hj hj2
    have hb1 := h2.cap
    have hb2 := h2.fit
    have hb3 := h2.n_eq
    refine s129e (v0 := .func (.yield l) #[] #[]) (v1 := some ⟨bx, 0, none⟩) ?_
    unfold w129e
    exact ⟨⟨by omega, by omega⟩, _, rfl, rfl, rfl⟩
  · intro i V2 hj hl2
    obtain ⟨h1, h2⟩ := hJ i V2 hj hl2
    have e : bx ≠ l := fun e => by subst e; rw [hl2] at h1; cases h1
    exact ⟨by rw [Mem.set_ne e]; exact h1, h2.sub (Mem.sub_new hl2 _)⟩
  · intro k hk V2 hj hl2 w hw
    have hx : xs[k]? = some xs[k] := by simp [hk]
    have := hround k xs[k] hx V2 hj hl2 w hw
    simp only [hx]
    exact this
theorem it130 {V : Mem} {fn' : FuncId} {tmps : Array Value} {ps : Array Tmp} {assign body : Code} {D : Nat} {l : Nat} {bx : Nat} {s : Sl} {xs : List Pr} {J : Nat → Mem → Prop} (hps : ps.size = 2)
    (hJ : ∀ i V2, J i V2 → V2 l = none → V2 bx = some (cell (.slice s.p s.n s.c) 24) ∧ RowsAt V2 s 5 (xs.map Pr.row))
    (hround : ∀ k x, xs[k]? = some x → ∀ V2, J (xs.length - 1 - k) V2 → V2 l = none → ∀ w, (V2.set l (.loop (rec0 fn' tmps ps assign body D))).le w →
      RoundIn (wideR none) 0 Tryz.prog l fn' ((ps.zip #[.int .i64 k, Pr.v x]).foldl (fun t (p, v) => t.setIfInBounds p v) tmps) assign body w fun e w' =>
        e = .returned (.bool true) ∧ ∃ V3, J (xs.length - k) V3 ∧ V3 l = none ∧ Frm (V2.set l (.loop (rec0 fn' tmps ps assign body D))) w (V3.set l (.loop (rec0 fn' tmps ps assign body D))) w')
    (h0 : J 0 V) (hl : V l = none) :
    Tri Tryz.prog 130 #[.func (.yield l) #[] #[], .pointer (some ⟨bx, 0, none⟩)] (V.set l (.loop (rec0 fn' tmps ps assign body D))) fun e V' => (∃ v, e = .returned v) ∧ ∃ V2, V' = V2.set l (.loop (rec0 fn' tmps ps assign body D)) ∧ V2 l = none ∧ J xs.length V2 := by
  refine back_rule (c := bodyOf Tryz.f130) (L := kid ((subL (bodyOf Tryz.f130) [1, 0]).getD 0 .skip) 0) (B := kid ((subL (bodyOf Tryz.f130) [1, 0, 0, 0]).getD 2 .skip) 0) (cA := c130a) (cB := c130b) (cE := c130e) (ops := c130c) (b0 := 0) (b1 := 1) (id := 3)
    (o6 := (c130c)[6]?.getD default) (at6 := #[3, 54]) (el := fun k => (xs[k]?.map Pr.v).getD undef) (Bk := fun M => M bx = some (cell (.slice s.p s.n s.c) 24) ∧ RowsAt M s 5 (xs.map Pr.row))
    Tryz.func130 (by kernel_rfl) (by kernel_rfl) (by kernel_rfl) (by kernel_rfl) (by kernel_rfl) (by kernel_rfl) (by kernel_rfl) (by kernel_rfl) (by kernel_rfl) (by kernel_rfl) (by kernel_rfl) hps ?_ ?_ ?_ ?_ ?_ ?_ ?_ h0 hl
  · rintro M ⟨h1, h2⟩
    refine s130a (v0 := .func (.yield l) #[] #[]) (v1 := some ⟨bx, 0, none⟩) ?_
    unfold w130a
    exact ⟨s, row1 h1, rowsPred h2, _, rfl, rfl, by rw [h2.n_eq]; rfl⟩
  · intro M j
    refine s130b (v0 := .func (.yield l) #[] #[]) (v1 := some ⟨bx, 0, none⟩) ?_
    unfold w130b
    exact ⟨_, rfl, rfl, rfl⟩
  · rintro M k ⟨h1, h2⟩ hk
    refine s130c (v0 := .func (.yield l) #[] #[]) (v1 := some ⟨bx, 0, none⟩) ?_
    unfold w130c
    obtain ⟨x, hm, hx, hdr, hlt, hnn, hz, hrow⟩ := h2.get (i := k) (by rw [h2.n_eq]; omega)
    exact ⟨s, row1 h1, hnn, hz, by rw [h2.n_eq]; omega, x.name, x.ps, x.result, x.ls, x.bs, hrow, _, rfl, rfl, by rw [hx]; rfl⟩
  · intro M j b
    refine s130d (v0 := .func (.yield l) #[] #[]) (v1 := some ⟨bx, 0, none⟩) ?_
    unfold w130d
    exact ⟨_, rfl, rfl, rfl⟩
  · rintro M j ⟨h1, h2⟩ hj hj2
    have hb1 := h2.cap
    have hb2 := h2.fit
    have hb3 := h2.n_eq
    refine s130e (v0 := .func (.yield l) #[] #[]) (v1 := some ⟨bx, 0, none⟩) ?_
    unfold w130e
    exact ⟨⟨by omega, by omega⟩, _, rfl, rfl, rfl⟩
  · intro i V2 hj hl2
    obtain ⟨h1, h2⟩ := hJ i V2 hj hl2
    have e : bx ≠ l := fun e => by subst e; rw [hl2] at h1; cases h1
    exact ⟨by rw [Mem.set_ne e]; exact h1, h2.sub (Mem.sub_new hl2 _)⟩
  · intro k hk V2 hj hl2 w hw
    have hx : xs[k]? = some xs[k] := by simp [hk]
    have := hround k xs[k] hx V2 hj hl2 w hw
    simp only [hx]
    exact this
end Go.Proofs
namespace Go.Proofs
open Go Go.Sx
attribute [local irreducible] Go.Sx.Tri
theorem c158 {V : Mem} {s : Sl} : Tri Tryz.prog 158 #[.slice s.p s.n s.c] V fun e V' => ∃ b, V b = none ∧ e = .returned (.func (.func 184) #[] #[.pointer (some ⟨b, 0, none⟩)]) ∧ V' = V.set b (cell (.slice s.p s.n s.c) 23) := by
  refine x158 ?_
  unfold w158
  exact fun b hb => ⟨b, hb, rfl, rfl⟩
theorem c92 {V : Mem} {s : Sl} : Tri Tryz.prog 92 #[.slice s.p s.n s.c] V fun e V' => ∃ b, V b = none ∧ e = .returned (.func (.func 129) #[] #[.pointer (some ⟨b, 0, none⟩)]) ∧ V' = V.set b (cell (.slice s.p s.n s.c) 22) := by
  refine x92 ?_
  unfold w92
  exact fun b hb => ⟨b, hb, rfl, rfl⟩
theorem c93 {V : Mem} {s : Sl} : Tri Tryz.prog 93 #[.slice s.p s.n s.c] V fun e V' => ∃ b, V b = none ∧ e = .returned (.func (.func 130) #[] #[.pointer (some ⟨b, 0, none⟩)]) ∧ V' = V.set b (cell (.slice s.p s.n s.c) 24) := by
  refine x93 ?_
  unfold w93
  exact fun b hb => ⟨b, hb, rfl, rfl⟩
theorem has_init {args : List Value} {N : Nat} (h : args.length ≤ N) : Has N { tmps := args.toArray ++ Array.replicate (N - args.toArray.size) undef, defers := [] } ((List.range args.length).zip args) := by
  refine ⟨by simp; omega, fun s v hs => ?_⟩
  rw [List.range_eq_range'] at hs
  have key : ∀ (l : List Value) (k : Nat), ((List.range' k l.length).zip l).lookup s = some v → k ≤ s ∧ l[s - k]? = some v := by
    intro l
    induction l with
    | nil => intro k h; simp at h
    | cons x xs ih =>
      intro k h
      simp only [List.length_cons, List.range'_succ, List.zip_cons_cons, List.lookup_cons] at h
      split at h
      · rename_i e
        simp only [beq_iff_eq] at e
        subst e
        exact ⟨Nat.le_refl _, by simpa using h⟩
      · have := ih _ h
        refine ⟨by omega, ?_⟩
        rw [show s - k = (s - (k + 1)) + 1 by omega]
        simpa using this.2
  obtain ⟨-, h1⟩ := key args 0 hs
  have hlt := (List.getElem?_eq_some_iff.1 h1).1
  simp only [Nat.sub_zero] at h1 hlt
  rw [Array.getD_eq_getD_getElem?, Array.getElem?_append_left (by simpa using hlt)]
  simp [h1]
theorem two_set {tmps : Array Value} {p q : Nat} {u v : Value} : ((#[p, q].zip #[u, v]).foldl (fun t (p, v) => t.setIfInBounds p v) tmps) = (tmps.setIfInBounds p u).setIfInBounds q v := by
  simp
theorem getD_set {tmps : Array Value} {p s : Nat} {u : Value} (h : s ≠ p) : (tmps.setIfInBounds p u).getD s undef = tmps.getD s undef := by
  simp [Array.getD_eq_getD_getElem?, Array.getElem?_setIfInBounds_ne (Ne.symm h)]
theorem getD_same {tmps : Array Value} {p : Nat} {u : Value} (h : p < tmps.size) : (tmps.setIfInBounds p u).getD p undef = u := by
  simp [Array.getD_eq_getD_getElem?, h]
theorem varOf_cons (f : Fld) (l : List Fld) (k : ByteArray) : varOf (f :: l) k = if k = f.name then some f.ty else varOf l k := by
  unfold varOf
  rw [List.find?_cons]
  by_cases h : f.name = k
  · rw [decide_eq_true h, if_pos h.symm]; rfl
  · rw [decide_eq_false h, if_neg (fun e => h e.symm)]
theorem varOf_app (a b : List Fld) (k : ByteArray) : varOf (a ++ b) k = (varOf a k).or (varOf b k) := by
  unfold varOf
  rw [List.find?_append]
  cases a.find? (fun f => decide (f.name = k)) <;> rfl
theorem varOf_any (a : List Fld) (k : ByteArray) : (varOf a k).isSome = a.any fun f => decide (f.name = k) := by
  unfold varOf
  induction a with
  | nil => rfl
  | cons f a ih =>
    rw [List.find?_cons, List.any_cons]
    by_cases h : f.name = k
    · rw [decide_eq_true h]; rfl
    · rw [decide_eq_false h]; exact ih
theorem seen_old {a g : List Fld} {f : Fld} (h : (a.any fun x => decide (x.name = f.name)) = true) (k : ByteArray) : varOf (a ++ [f] ++ g) k = varOf (a ++ g) k := by
  simp only [varOf_app, varOf_cons]
  rw [← varOf_any] at h
  by_cases e : k = f.name
  · subst e
    rw [if_pos rfl]
    cases hv : varOf a f.name with
    | none => rw [hv] at h; cases h
    | some x => rfl
  · rw [if_neg e]
    cases varOf a k <;> rfl
theorem seen_new {a g : List Fld} {f : Fld} (h : ¬ (a.any fun x => decide (x.name = f.name)) = true) (k : ByteArray) : varOf (a ++ [f] ++ g) k = if k = f.name then some f.ty else varOf (a ++ g) k := by
  simp only [varOf_app, varOf_cons]
  rw [← varOf_any] at h
  by_cases e : k = f.name
  · subst e
    rw [if_pos rfl, if_pos rfl]
    cases hv : varOf a f.name with
    | none => rfl
    | some x => rw [hv] at h; exact absurd rfl h
  · rw [if_neg e, if_neg e]
    cases varOf a k <;> rfl
/-- What lies in memory while the scope is made. -/
structure SI (V : Mem) (c : Option Addr) (body : Bool) (d : Ds) (mb bx b6 b7 : Nat) (m : ByteArray → Option Value) (V1 : Mem) : Prop where
  sub : V.sub V1
  nm : V mb = none
  n6 : V b6 = none
  map : MapAt V1 mb m
  bx : V1 bx = some (cell (.slice d.gs.p d.gs.n d.gs.c) 23)
  b6 : V1 b6 = some (.cells #[.pointer none, .map none, .bool false] 119 (0, 0))
  b7 : V1 b7 = some (.cells #[.pointer c, .map (some mb), .bool body] 119 (0, 0))
section
variable {V V1 : Mem} {c : Option Addr} {body : Bool} {d : Ds} {mb bx b6 b7 : Nat} {m m' : ByteArray → Option Value}
theorem SI.fresh (h : SI V c body d mb bx b6 b7 m V1) {b : Nat} (hb : V1 b = none) (o : Obj) : SI V c body d mb bx b6 b7 m (V1.set b o) :=
  have hs := Mem.sub_new hb o
  ⟨h.sub.trans hs, h.nm, h.n6, h.map.sub hs, hs _ _ h.bx, hs _ _ h.b6, hs _ _ h.b7⟩
theorem SI.up (h : SI V c body d mb bx b6 b7 m V1) {o : Obj} (ho : MapAt (V1.set mb o) mb m') : SI V c body d mb bx b6 b7 m' (V1.set mb o) := by
  obtain ⟨es, cl, hm, -, -⟩ := h.map.at_
  have e1 : bx ≠ mb := fun e => by have := h.bx; rw [e, hm] at this; cases this
  have e2 : b6 ≠ mb := fun e => by have := h.b6; rw [e, hm] at this; cases this
  have e3 : b7 ≠ mb := fun e => by have := h.b7; rw [e, hm] at this; cases this
  exact ⟨h.sub.set h.nm o, h.nm, h.n6, ho, by rw [Mem.set_ne e1]; exact h.bx, by rw [Mem.set_ne e2]; exact h.b6, by rw [Mem.set_ne e3]; exact h.b7⟩
theorem SI.cg (h : SI V c body d mb bx b6 b7 m V1) (e : ∀ k, m k = m' k) : SI V c body d mb bx b6 b7 m' V1 := ⟨h.sub, h.nm, h.n6, h.map.congr e, h.bx, h.b6, h.b7⟩
end
end Go.Proofs
namespace Go.Proofs
open Go Go.Sx
attribute [local irreducible] Go.Sx.Tri
section
variable {V V1 : Mem} {c : Option Addr} {body : Bool} {d : Ds} {mb bx b6 b7 : Nat} {m m' : ByteArray → Option Value}
/-- The loop's body: one more variable of the whole. -/
theorem scopeRound {l : Sl} (h : SI V c body d mb bx b6 b7 m V1) (x : Fld) (V2 : Mem) (b : Nat) (hb : V1 b = none) (e2 : V2 = V1.set b (.cells x.row.toArray 67 (0, 0))) :
    Seg Tryz.prog 63 c113c [(7, .pointer (some ⟨b7, 0, none⟩)), (9, .pointer (some ⟨b, 0, none⟩))] [] V2 fun _ V3 => SI V c body d mb bx b6 b7 (fun k => if k = x.name then some (.string x.ty) else m k) V3 := by
  subst e2
  have h2 := h.fresh hb (.cells x.row.toArray 67 (0, 0))
  refine s113c ?_
  unfold w113c
  refine ⟨by simp, some mb, row_cells h2.b7 1 1 (by simp), by simp, x.name, row_cells (Mem.set_same _ _ _) 0 1 (by simp [Fld.row]), by simp, x.ty, row_cells (Mem.set_same _ _ _) 1 1 (by simp [Fld.row]), ?_⟩
  exact UpdK.str Tryz.underlying117 Tryz.underlying9 h2.map fun o ho => ⟨_, rfl, h2.up ho⟩
theorem scopeAssign (x : Fld) : Seg Tryz.prog 63 c113b [(7, .pointer (some ⟨b7, 0, none⟩)), (26, Fld.v x)] [7, 9] V1 fun vs V2 => ∃ b, V1 b = none ∧ V2 = V1.set b (.cells x.row.toArray 67 (0, 0)) ∧ vs = [.pointer (some ⟨b7, 0, none⟩), .pointer (some ⟨b, 0, none⟩)] := by
  refine s113b (v1 := x.name) (v2 := x.ty) ?_
  unfold w113b
  exact fun b hb => ⟨_, rfl, b, hb, rfl, rfl⟩
theorem zero4 (w : World) : (zeroValue 4).run Tryz.prog w = .ok (.bool false) w := by kernel_rfl
/-- Behind the loop: the lists, each name once. -/
theorem scopeTail {l : Sl} {ls : List (Sl × List Fld)} (h : SI V c body d mb bx b6 b7 (fun k => (varOf d.globals k).map Value.string) V1) (hl : RowsAt V l 1 (ls.map fun x => [x.1.v])) (hls : ∀ x ∈ ls, RowsAt V x.1 2 (x.2.map Fld.row)) :
    Seg Tryz.prog 63 c113d [(0, .pointer c), (1, .bool body), (2, .slice l.p l.n l.c), (6, .pointer (some ⟨b6, 0, none⟩)), (7, .pointer (some ⟨b7, 0, none⟩))] [6] V1 fun vs V2 => vs = [.pointer (some ⟨b6, 0, none⟩)] ∧
      V.sub V2 ∧ V mb = none ∧ MapAt V2 mb (fun k => (varOf (ls.flatMap (·.2) ++ d.globals) k).map Value.string) ∧ V2 b6 = some (.cells #[.pointer c, .map (some mb), .bool body] 119 (0, 0)) := by
  refine s113d ?_
  unfold w113d
  refine GenK.makeMap fun sb hsb => ⟨some sb, rfl, ?_⟩
  have hsV : V sb = none := by
    cases hc : V sb with
    | none => rfl
    | some o => have := h.sub _ _ hc; rw [hsb] at this; cases this
  have hne : mb ≠ sb := fun e => by
    obtain ⟨es, cl, hm, -, -⟩ := h.map.at_
    rw [e, hsb] at hm; cases hm
  let TI (done : List Fld) (V2 : Mem) : Prop := SI V c body d mb bx b6 b7 (fun k => (varOf (done ++ d.globals) k).map Value.string) V2 ∧ MapAt V2 sb (fun k => if (done.any fun f => decide (f.name = k)) = true then some (.bool true) else none)
  have h0 : TI [] (V1.set sb (.map #[] 0)) := ⟨h.fresh hsb _, (MapAt.made V1 sb).congr fun k => by simp⟩
  refine loop1 ls.length (fun i V2 => TI ((ls.take i).flatMap (·.2)) V2) (by simpa using h0) ?_
  intro i V2 J hi hst hJ
  have hlV := hl.sub hst.1.sub
  refine ⟨fun hlt => ?_, fun hlt => ?_⟩
  · obtain ⟨x, hm, hx, hdr, hlt', hnn, hz, hrow⟩ := hlV.get hlt
    refine ⟨hnn, hz, hlt, x.1, hrow, ?_⟩
    have htk : (ls.take (i + 1)).flatMap (·.2) = (ls.take i).flatMap (·.2) ++ x.2 := by
      rw [List.take_add_one, hx]; simp
    refine loop1 x.2.length (fun j V3 => TI ((ls.take i).flatMap (·.2) ++ x.2.take j) V3) (by simpa using hst) ?_
    intro j V3 J' hj hst' hJ'
    have hxV := (hls x hm).sub hst'.1.sub
    refine ⟨fun hlt2 => ?_, fun hlt2 => ?_⟩
    · obtain ⟨f, hmf, hf, hdrf, hltf, hnnf, hzf, hrowf⟩ := hxV.get hlt2
      have htj : (ls.take i).flatMap (·.2) ++ x.2.take (j + 1) = ((ls.take i).flatMap (·.2) ++ x.2.take j) ++ [f] := by
        rw [List.take_add_one, hf, List.append_assoc]; rfl
      refine ⟨hnnf, hzf, hlt2, f.name, f.ty, hrowf, ?_⟩
      refine LookK.str1 Tryz.underlying193 Tryz.underlying9 zero4 hst'.2 ?_
      generalize hdone : (ls.take i).flatMap (·.2) ++ x.2.take j = done at hst' htj
      refine ⟨done.any fun y => decide (y.name = f.name), ?_, fun hs => ?_, fun hs => ?_⟩
      · cases hs : done.any (fun y => decide (y.name = f.name)) with
        | true => simp
        | false => simp
      · refine ⟨hxV.succ hlt2, hJ' hltf _ ?_⟩
        rw [htj]
        refine ⟨hst'.1.cg fun k => by rw [seen_old hs], hst'.2.congr fun k => ?_⟩
        rw [List.any_append]
        by_cases e : f.name = k
        · subst e; rw [hs]; simp
        · simp [e]
      · refine ⟨by simp, some mb, row_cells hst'.1.b7 1 1 (by simp), ?_⟩
        refine UpdK.str Tryz.underlying117 Tryz.underlying9 hst'.1.map fun o ho => ?_
        have hsi := hst'.1.up ho
        refine UpdK.str Tryz.underlying193 Tryz.underlying9 (hst'.2.set (o := o) (Ne.symm hne)) fun o2 ho2 => ?_
        refine ⟨hxV.succ hlt2, hJ' hltf _ ?_⟩
        rw [htj]
        have hsb6 : b6 ≠ sb := fun e => by have := h.b6; rw [e, hsb] at this; cases this
        have hsb7 : b7 ≠ sb := fun e => by have := h.b7; rw [e, hsb] at this; cases this
        have hsbx : bx ≠ sb := fun e => by have := h.bx; rw [e, hsb] at this; cases this
        refine ⟨?_, ho2.congr fun k => ?_⟩
        · have h3 := hsi.cg (m' := fun k => (varOf (done ++ [f] ++ d.globals) k).map Value.string) fun k => by
            rw [seen_new hs]
            by_cases e : k = f.name
            · rw [if_pos e, if_pos e]; rfl
            · rw [if_neg e, if_neg e]
          exact ⟨h3.sub.set hsV _, h3.nm, h3.n6, h3.map.set hne, by rw [Mem.set_ne hsbx]; exact h3.bx, by rw [Mem.set_ne hsb6]; exact h3.b6, by rw [Mem.set_ne hsb7]; exact h3.b7⟩
        · rw [List.any_append]
          by_cases e : k = f.name
          · subst e; simp
          · rw [if_neg e]; simp [Ne.symm e]
    · obtain ⟨hd, hle⟩ := hxV.done hlt2
      refine ⟨hlV.succ hlt, hJ hlt' _ ?_⟩
      rw [htk]
      rw [List.take_of_length_le hle] at hst'
      exact hst'
  · obtain ⟨hd, hle⟩ := hlV.done hlt
    rw [List.take_of_length_le hle] at hst
    have hcells := row_cells hst.1.b7 0 3 (by simp)
    refine ⟨c, some mb, body, hcells, ⟨⟨b6, 0, none⟩, _, _, rfl, hst.1.b6, rfl, by simp, ?_⟩⟩
    have e7 : mb ≠ b6 := fun e => by
      obtain ⟨es, cl, hm, -, -⟩ := hst.1.map.at_
      have := hst.1.b6; rw [← e, hm] at this; cases this
    exact ⟨_, rfl, rfl, hst.1.sub.set h.n6 _, h.nm, hst.1.map.set e7, by rw [Mem.set_same]; rfl⟩
end
end Go.Proofs
namespace Go.Proofs
open Go Go.Sx
attribute [local irreducible] Go.Sx.Tri
theorem cell3 {b : Nat} {c : Option Addr} {mb : Option Nat} {body : Bool} {w : World} (h : w.heap[b]? = some (.cells #[.pointer c, .map mb, .bool body] 119 (0, 0))) : (loadVar 119 ⟨b, 0, none⟩).run Tryz.prog w = .ok (.agg #[.pointer c, .map mb, .bool body]) w :=
  run_load_cells (P := Tryz.prog) (t := 119) (cs := .cons (.var .p 0) (.cons (.var .m 1) (.cons (.var .b 2) .nil))) (x := .agg (.cons (.var .p 0) (.cons (.var .m 1) (.cons (.var .b 2) .nil)))) (ρ := [.pointer c, .map mb, .bool body]) (β := id) (o := 0) h (by kernel_rfl)
theorem results113 {tmps : Array Value} {b : Nat} {c : Option Addr} {mb : Option Nat} {body : Bool} {w : World} (h6 : tmps.getD 6 undef = .pointer (some ⟨b, 0, none⟩)) (h : w.heap[b]? = some (.cells #[.pointer c, .map mb, .bool body] 119 (0, 0))) :
    (results Tryz.f113 tmps).run Tryz.prog w = .ok (.agg #[.pointer c, .map mb, .bool body]) w := by
  have hr : Tryz.f113.results = #[.cell 6 119] := by kernel_rfl
  unfold results
  rw [hr]
  have e : asAddr (tmps.getD 6 undef) = pure ⟨b, 0, none⟩ := by rw [h6]; rfl
  simp only [List.mapM_toArray, List.mapM_cons, List.mapM_nil, Sem.run_bind, Sem.run_map, Sem.run_pure, Result.andThen_ok, e, cell3 h]
  rfl
/-- What a range leaves behind, and what follows it. -/
theorem frame_marks {V V1 V2 V3 : Mem} {w w1 w2 w3 : World} {D : Nat} (h1 : Frm V w V1 w1) (h2 : Frm V1 w1 V2 w2) (hD : w1.heap.size ≤ D) (hn : V2 D = none) (hW : w2.heap[D]? = some (.deferred (some []))) (h3 : Frm V2 w2 V3 w3) :
    Frm V w V3 w3 ∧ w.heap.size ≤ D ∧ w3.heap[D]? = some (.deferred (some [])) ∧ V3 D = none := by
  have hlt := (Array.getElem?_eq_some_iff.1 hW).1
  refine ⟨(h1.trans h2).trans h3, Nat.le_trans h1.size hD, (h3.old D hlt hn).trans hW, ?_⟩
  cases hc : V3 D with
  | none => rfl
  | some o =>
    rcases h3.dom D (by rw [hc]; simp) with h | h
    · exact absurd hn h
    · omega
theorem scopeC : ScopeC := by
  intro V c d body l ls hc hl hls
  refine tri_of_marks (c := bodyOf Tryz.f113) Tryz.func113 (by kernel_rfl) ?_
  intro w hV
  rw [show flat (bodyOf Tryz.f113) = c113a ++ ([.block 0 (.rangeFunc (.tmp 24) #[25, 26] ((subL (bodyOf Tryz.f113) [3, 0, 0, 0]).getD 0 .skip) ((subL (bodyOf Tryz.f113) [3, 0, 0, 1]).getD 0 .skip))] ++ (c113d ++ [.ret])) from by kernel_rfl]
  have hA : Seg Tryz.prog 63 c113a [(0, .pointer c), (1, .bool body), (2, .slice l.p l.n l.c)] [0, 1, 2, 6, 7, 24] V fun vs V1 => ∃ mb bx b6 b7,
      vs = [.pointer c, .bool body, .slice l.p l.n l.c, .pointer (some ⟨b6, 0, none⟩), .pointer (some ⟨b7, 0, none⟩), .func (.func 184) #[] #[.pointer (some ⟨bx, 0, none⟩)]] ∧ SI V c body d mb bx b6 b7 (fun _ => none) V1 := by
    refine s113a ?_
    unfold w113a
    refine GenK.makeMap fun mb hmb => ⟨some mb, rfl, hc.nn, hc.nn, ?_, d.gs, ?_, ?_⟩
    · obtain ⟨cb, mt, mp, t, h1, h2, h3, h4⟩ := hc.at_
      rw [h1]; simp [ptrAdd]
    · exact (hc.sub (Mem.sub_new hmb _)).cell (i := 2) rfl
    refine Tri.mono c158 ?_
    rintro _ V2 ⟨bx, hbx, rfl, rfl⟩
    refine ⟨.func (.func 184) #[] #[.pointer (some ⟨bx, 0, none⟩)], rfl, rfl, fun b6 hb6 b7 hb7 => ⟨_, rfl, mb, bx, b6, b7, rfl, ?_⟩⟩
    have n1 : bx ≠ mb := fun e => by rw [e, Mem.set_same] at hbx; cases hbx
    have n2 : b6 ≠ bx := fun e => by rw [e, Mem.set_same] at hb6; cases hb6
    have n3 : b7 ≠ b6 := fun e => by rw [e, Mem.set_same] at hb7; cases hb7
    have s1 := Mem.sub_new hmb (.map #[] 0)
    have s2 := Mem.sub_new hbx (cell (.slice d.gs.p d.gs.n d.gs.c) 23)
    have s3 := Mem.sub_new hb6 (.cells #[.pointer none, .map none, .bool false] 119 (0, 0))
    have s4 := Mem.sub_new hb7 (.cells #[.pointer c, .map (some mb), .bool body] 119 (0, 0))
    refine ⟨s1.trans (s2.trans (s3.trans s4)), hmb, ?_, (MapAt.made V mb).sub (s2.trans (s3.trans s4)), (s3.trans s4) _ _ (Mem.set_same _ _ _), s4 _ _ (Mem.set_same _ _ _), Mem.set_same _ _ _⟩
    cases hv : V b6 with
    | none => rfl
    | some o => have := (s1.trans s2) _ _ hv; rw [hb6] at this; cases this
  refine hA.step hV (has_init (args := [.pointer c, .bool body, .slice l.p l.n l.c]) (N := 63) (by simp)) ?_
  rintro a1 w1 vs V1 hd1 hH1 ⟨mb, bx, b6, b7, rfl, hS1⟩ hF1
  show Code.wpIn (wideR none) 0 Tryz.prog _ _ a1 w1
  refine wpIn_block ?_
  have hit := fun fn lp D hlp => it184 (V := V1) (fn' := fn) (tmps := a1.tmps) (ps := #[25, 26]) (assign := (subL (bodyOf Tryz.f113) [3, 0, 0, 0]).getD 0 .skip) (body := (subL (bodyOf Tryz.f113) [3, 0, 0, 1]).getD 0 .skip) (D := D) (l := lp) (bx := bx) (s := d.gs) (xs := d.globals)
    (J := fun i V2 => SI V c body d mb bx b6 b7 (fun k => (varOf (d.globals.drop (d.globals.length - i)) k).map Value.string) V2) rfl (fun i V2 hj _ => ⟨hj.bx, hc.ok.globals.sub hj.sub⟩) (fun k x hx V2 hj hl2 w2 hw2 => by
      have hk := (List.getElem?_eq_some_iff.1 hx).1
      refine round_rule (N := 63) (insA := [(7, .pointer (some ⟨b7, 0, none⟩)), (26, Fld.v x)]) (outsA := [7, 9]) hl2 hw2 (by rw [two_set]; simpa using hH1.1) ?_ (scopeAssign x) (fun vs V3 hvs => ?_)
      · intro s v hs
        rw [two_set]
        simp only [List.lookup_cons] at hs
        split at hs
        · rename_i e; simp only [beq_iff_eq] at e; subst e; cases hs
          rw [getD_set (by decide), getD_set (by decide)]; exact hH1.get rfl
        · split at hs
          · rename_i e; simp only [beq_iff_eq] at e; subst e; cases hs
            exact getD_same (by simp [hH1.1])
          · cases hs
      · obtain ⟨b, hb, e2, rfl⟩ := hvs
        refine (scopeRound (l := l) hj x V3 b hb e2).mono fun _ V4 h4 => h4.cg fun y => ?_
        rw [show d.globals.length - (d.globals.length - 1 - k) = k + 1 by omega, show d.globals.length - (d.globals.length - k) = k by omega]
        have e3 : d.globals.drop k = x :: d.globals.drop (k + 1) := by
          rw [List.drop_eq_getElem_cons hk]; rw [(List.getElem?_eq_some_iff.1 hx).2]
        rw [e3, varOf_cons]
        by_cases e : y = x.name
        · rw [if_pos e, if_pos e]; rfl
        · rw [if_neg e, if_neg e])
    (by simpa [varOf] using hS1) hlp
  refine range_rule (Φ := fun V2 => SI V c body d mb bx b6 b7 (fun k => (varOf d.globals k).map Value.string) V2) hF1.le (hH1.get (s := 24) rfl) Tryz.call184 (fun fn lp D hlp => Tri.mono (hit fn lp D hlp) fun e V' h => ?_) ?_
  · obtain ⟨h1, V2, h2, h3, h4⟩ := h
    exact ⟨h1, V2, h2, h3, by simpa using h4⟩
  · intro D V2 W hD hF2 hn2 hW hS2
    show wpL none 0 Tryz.prog _ (c113d ++ [.ret]) _ W
    refine (scopeTail hS2 hl hls).step hF2.le ⟨hH1.1, fun s v hs => hH1.2 s v ?_⟩ ?_
    · simp only [List.zip_cons_cons, List.lookup_cons] at hs ⊢
      repeat' (split at hs <;> first | exact hs | skip)
      all_goals first | exact hs | (cases hs)
    · rintro a3 w3 vs V3 hd3 hH3 ⟨rfl, h1, h2, h3, h4⟩ hF3
      show Code.wpIn (wideR none) 0 Tryz.prog .ret _ a3 w3
      refine wpIn_ret ?_
      obtain ⟨g1, g2, g3, g4⟩ := frame_marks hF1 hF2 hD hn2 hW hF3
      refine ⟨.inr rfl, [D], ?_, by simp, V3, g1, fun D' hD' => ?_, _, fun w4 hw4 => results113 (hH3.get rfl) (hw4 _ _ h4), mb, rfl, h1, h2, h3⟩
      · rw [hd3]; simp [hd1]
      · simp only [List.mem_singleton] at hD'; subst hD'; exact ⟨g2, g3, g4⟩
end Go.Proofs
namespace Go.Proofs
open Go Go.Sx
attribute [local irreducible] Go.Sx.Tri
structure NI (V : Mem) (d : Ds) (cb mt mp p1 p3 : Nat) (f g : ByteArray → Option Value) (V1 : Mem) : Prop where
  sub : V.sub V1
  nt : V mt = none
  np : V mp = none
  ne : mt ≠ mp
  ck : V1 cb = some (.cells (d.row ++ [Value.map (some mt), Value.map (some mp)]).toArray 116 (0, 0))
  b1 : V1 p1 = some (.cells d.row.toArray 30 (0, 0))
  b3 : V1 p3 = some (cell (.pointer (some ⟨cb, 0, none⟩)) 99)
  mapT : MapAt V1 mt f
  mapP : MapAt V1 mp g
section
variable {V V1 : Mem} {d : Ds} {cb mt mp p1 p3 : Nat} {f g f' g' : ByteArray → Option Value}
theorem NI.fresh (h : NI V d cb mt mp p1 p3 f g V1) {b : Nat} (hb : V1 b = none) (o : Obj) : NI V d cb mt mp p1 p3 f g (V1.set b o) :=
  have hs := Mem.sub_new hb o
  ⟨h.sub.trans hs, h.nt, h.np, h.ne, hs _ _ h.ck, hs _ _ h.b1, hs _ _ h.b3, h.mapT.sub hs, h.mapP.sub hs⟩
theorem not_map {V : Mem} {b m : Nat} {c : Array Value} {t : Nat} {fr : Nat × Nat} {f : ByteArray → Option Value} (h : V b = some (.cells c t fr)) (hm : MapAt V m f) : b ≠ m := fun e => by
  obtain ⟨es, cl, hm, -, -⟩ := hm.at_
  rw [e, hm] at h; cases h
theorem NI.upT (h : NI V d cb mt mp p1 p3 f g V1) {o : Obj} (ho : MapAt (V1.set mt o) mt f') : NI V d cb mt mp p1 p3 f' g (V1.set mt o) :=
  ⟨h.sub.set h.nt o, h.nt, h.np, h.ne, by rw [Mem.set_ne (not_map h.ck h.mapT)]; exact h.ck, by rw [Mem.set_ne (not_map h.b1 h.mapT)]; exact h.b1, by rw [Mem.set_ne (not_map h.b3 h.mapT)]; exact h.b3, ho, h.mapP.set (Ne.symm h.ne)⟩
theorem NI.upP (h : NI V d cb mt mp p1 p3 f g V1) {o : Obj} (ho : MapAt (V1.set mp o) mp g') : NI V d cb mt mp p1 p3 f g' (V1.set mp o) :=
  ⟨h.sub.set h.np o, h.nt, h.np, h.ne, by rw [Mem.set_ne (not_map h.ck h.mapP)]; exact h.ck, by rw [Mem.set_ne (not_map h.b1 h.mapP)]; exact h.b1, by rw [Mem.set_ne (not_map h.b3 h.mapP)]; exact h.b3, h.mapT.set h.ne, ho⟩
theorem NI.cg (h : NI V d cb mt mp p1 p3 f g V1) (e1 : ∀ k, f k = f' k) (e2 : ∀ k, g k = g' k) : NI V d cb mt mp p1 p3 f' g' V1 := ⟨h.sub, h.nt, h.np, h.ne, h.ck, h.b1, h.b3, h.mapT.congr e1, h.mapP.congr e2⟩
theorem newRoundT (h : NI V d cb mt mp p1 p3 f g V1) {bx : Nat} {v : Value} {ty : Nat} (hbx : V1 bx = some (cell v ty)) (x : Ty) (V2 : Mem) (b : Nat) (hb : V1 b = none) (e2 : V2 = V1.set b (.cells x.row.toArray 94 (0, 0))) :
    Seg Tryz.prog 38 c50c [(3, .pointer (some ⟨p3, 0, none⟩)), (5, .pointer (some ⟨b, 0, none⟩))] [] V2 fun _ V3 => NI V d cb mt mp p1 p3 (fun k => if k = x.name then some x.v else f k) g V3 ∧ V3 bx = some (cell v ty) := by
  subst e2
  have h2 := h.fresh hb (.cells x.row.toArray 94 (0, 0))
  have hbx2 := Mem.sub_new hb (.cells x.row.toArray 94 (0, 0)) _ _ hbx
  refine s50c ?_
  unfold w50c
  refine ⟨_, row1 h2.b3, by simp, by simp, some mt, row_cells h2.ck 8 1 (by simp [Ds.row]), by simp, x.name, row_cells (Mem.set_same _ _ _) 0 1 (by simp [Ty.row]), x.name, x.fs, row_cells (Mem.set_same _ _ _) 0 2 (by simp [Ty.row]), ?_⟩
  exact UpdK.str Tryz.underlying113 Tryz.underlying9 h2.mapT fun o ho => ⟨_, rfl, h2.upT ho, by rw [Mem.set_ne (not_map hbx2 h2.mapT)]; exact hbx2⟩
theorem newRoundP (h : NI V d cb mt mp p1 p3 f g V1) {bx : Nat} {v : Value} {ty : Nat} (hbx : V1 bx = some (cell v ty)) (x : Pr) (V2 : Mem) (b : Nat) (hb : V1 b = none) (e2 : V2 = V1.set b (.cells x.row.toArray 54 (0, 0))) :
    Seg Tryz.prog 38 c50f [(3, .pointer (some ⟨p3, 0, none⟩)), (7, .pointer (some ⟨b, 0, none⟩))] [] V2 fun _ V3 => NI V d cb mt mp p1 p3 f (fun k => if k = x.name then some x.v else g k) V3 ∧ V3 bx = some (cell v ty) := by
  subst e2
  have h2 := h.fresh hb (.cells x.row.toArray 54 (0, 0))
  have hbx2 := Mem.sub_new hb (.cells x.row.toArray 54 (0, 0)) _ _ hbx
  refine s50f ?_
  unfold w50f
  refine ⟨_, row1 h2.b3, by simp, by simp, some mp, row_cells h2.ck 9 1 (by simp [Ds.row]), by simp, x.name, row_cells (Mem.set_same _ _ _) 0 1 (by simp [Pr.row]), x.name, x.ps, x.result, x.ls, x.bs, row_cells (Mem.set_same _ _ _) 0 5 (by simp [Pr.row]), ?_⟩
  exact UpdK.str Tryz.underlying114 Tryz.underlying9 h2.mapP fun o ho => ⟨_, rfl, h2.upP ho, by rw [Mem.set_ne (not_map hbx2 h2.mapP)]; exact hbx2⟩
theorem newAssignT (x : Ty) : Seg Tryz.prog 38 c50b [(3, .pointer (some ⟨p3, 0, none⟩)), (17, Ty.v x)] [3, 5] V1 fun vs V2 => ∃ b, V1 b = none ∧ V2 = V1.set b (.cells x.row.toArray 94 (0, 0)) ∧ vs = [.pointer (some ⟨p3, 0, none⟩), .pointer (some ⟨b, 0, none⟩)] := by
  refine s50b (v1 := x.name) (v2 := x.fs) ?_
  unfold w50b
  exact fun b hb => ⟨_, rfl, b, hb, rfl, rfl⟩
theorem newAssignP (x : Pr) : Seg Tryz.prog 38 c50e [(3, .pointer (some ⟨p3, 0, none⟩)), (29, Pr.v x)] [3, 7] V1 fun vs V2 => ∃ b, V1 b = none ∧ V2 = V1.set b (.cells x.row.toArray 54 (0, 0)) ∧ vs = [.pointer (some ⟨p3, 0, none⟩), .pointer (some ⟨b, 0, none⟩)] := by
  refine s50e (v1 := x.name) (v2 := x.ps) (v3 := x.result) (v4 := x.ls) (v5 := x.bs) ?_
  unfold w50e
  exact fun b hb => ⟨_, rfl, b, hb, rfl, rfl⟩
end
theorem has_two {N : Nat} {a : Act} {p q r : Nat} {l : List (Nat × Value)} {vr u z : Value} (hH : Has N a l) (hr : l.lookup r = some vr) (hp : r ≠ p) (hq : r ≠ q) (hlt : q < N) : Has N { tmps := (#[p, q].zip #[u, z]).foldl (fun t (p, v) => t.setIfInBounds p v) a.tmps, defers := [] } [(r, vr), (q, z)] := by
  refine ⟨by rw [two_set]; simpa using hH.1, fun s v hs => ?_⟩
  rw [two_set]
  simp only [List.lookup_cons] at hs
  split at hs
  · rename_i e; simp only [beq_iff_eq] at e; subst e; cases hs
    rw [getD_set hq, getD_set hp]; exact hH.get hr
  · split at hs
    · rename_i e; simp only [beq_iff_eq] at e; subst e; cases hs
      exact getD_same (by simp [hH.1, hlt])
    · cases hs
theorem mark_keep {V V1 : Mem} {w w1 : World} {D : Nat} (h : Frm V w V1 w1) (hn : V D = none) (hW : w.heap[D]? = some (.deferred (some []))) : w1.heap[D]? = some (.deferred (some [])) ∧ V1 D = none := by
  have hlt := (Array.getElem?_eq_some_iff.1 hW).1
  refine ⟨(h.old D hlt hn).trans hW, ?_⟩
  cases hc : V1 D with
  | none => rfl
  | some o =>
    rcases h.dom D (by rw [hc]; simp) with h | h
    · exact absurd hn h
    · omega
theorem find_drop {α : Type} {l : List α} {nm : α → ByteArray} {vv : α → Value} {k : Nat} {x : α} (hx : l[k]? = some x) (y : ByteArray) :
    (if y = nm x then some (vv x) else ((l.drop (l.length - (l.length - 1 - k))).find? fun t => decide (nm t = y)).map vv) = ((l.drop (l.length - (l.length - k))).find? fun t => decide (nm t = y)).map vv := by
  have hk := (List.getElem?_eq_some_iff.1 hx).1
  rw [show l.length - (l.length - 1 - k) = k + 1 by omega, show l.length - (l.length - k) = k by omega]
  have e3 : l.drop k = x :: l.drop (k + 1) := by
    rw [List.drop_eq_getElem_cons hk]; rw [(List.getElem?_eq_some_iff.1 hx).2]
  rw [e3, List.find?_cons]
  by_cases e : y = nm x
  · rw [if_pos e, decide_eq_true e.symm]; rfl
  · rw [if_neg e, decide_eq_false (fun h => e h.symm)]
theorem newC : NewC := by
  intro V d hd
  refine tri_of_marks (c := bodyOf Tryz.f50) Tryz.func50 (by kernel_rfl) ?_
  intro w hV
  rw [show flat (bodyOf Tryz.f50) = c50a ++ ([.block 0 (.rangeFunc (.tmp 15) #[16, 17] ((subL (bodyOf Tryz.f50) [3, 0, 0, 0]).getD 0 .skip) ((subL (bodyOf Tryz.f50) [3, 0, 0, 1]).getD 0 .skip))] ++
    (c50d ++ ([.block 2 (.rangeFunc (.tmp 27) #[28, 29] ((subL (bodyOf Tryz.f50) [5, 0, 0, 0]).getD 0 .skip) ((subL (bodyOf Tryz.f50) [5, 0, 0, 1]).getD 0 .skip))] ++ (c50g ++ [.ret])))) from by kernel_rfl]
  have hA : Seg Tryz.prog 38 c50a [(0, d.v)] [1, 3, 15] V fun vs V1 => ∃ cb mt mp p1 p3 bx,
      vs = [.pointer (some ⟨p1, 0, none⟩), .pointer (some ⟨p3, 0, none⟩), .func (.func 129) #[] #[.pointer (some ⟨bx, 0, none⟩)]] ∧ NI V d cb mt mp p1 p3 (fun _ => none) (fun _ => none) V1 ∧ V1 bx = some (cell (.slice d.ts.p d.ts.n d.ts.c) 22) := by
    refine s50a (v0 := d.name) (v1 := d.ts) (v2 := d.gs) (v3 := d.ps) (v4 := d.ms) (v5 := d.is) (v6 := d.qs) (v7 := d.bs) ?_
    unfold w50a
    refine GenK.makeMap fun mt hmt => ⟨some mt, rfl, GenK.makeMap fun mp hmp => ⟨some mp, rfl, ?_⟩⟩
    refine Tri.mono c92 ?_
    rintro _ V2 ⟨bx, hbx, rfl, rfl⟩
    refine ⟨.func (.func 129) #[] #[.pointer (some ⟨bx, 0, none⟩)], rfl, rfl, fun p1 hp1 cb hcb p3 hp3 => ⟨_, rfl, cb, mt, mp, p1, p3, bx, rfl, ?_, ?_⟩⟩
    all_goals
      have s1 := Mem.sub_new hmt (.map #[] 0)
      have s2 := Mem.sub_new hmp (.map #[] 0)
      have s3 := Mem.sub_new hbx (cell (.slice d.ts.p d.ts.n d.ts.c) 22)
      have s4 := Mem.sub_new hp1 (.cells d.row.toArray 30 (0, 0))
      have s5 := Mem.sub_new hcb (.cells (d.row ++ [Value.map (some mt), Value.map (some mp)]).toArray 116 (0, 0))
      have s6 := Mem.sub_new hp3 (cell (.pointer (some ⟨cb, 0, none⟩)) 99)
    · have nmp : mt ≠ mp := fun e => by rw [← e, Mem.set_same] at hmp; cases hmp
      refine ⟨s1.trans (s2.trans (s3.trans (s4.trans (s5.trans s6)))), hmt, ?_, nmp, s6 _ _ (Mem.set_same _ _ _), (s5.trans s6) _ _ (Mem.set_same _ _ _), Mem.set_same _ _ _, (MapAt.made V mt).sub (s2.trans (s3.trans (s4.trans (s5.trans s6)))), (MapAt.made (V.set mt (.map #[] 0)) mp).sub (s3.trans (s4.trans (s5.trans s6)))⟩
      cases hv : V mp with
      | none => rfl
      | some o => have := s1 _ _ hv; rw [hmp] at this; cases this
    · exact (s4.trans (s5.trans s6)) _ _ (Mem.set_same _ _ _)
  refine hA.step hV (has_init (args := [d.v]) (N := 38) (by simp)) ?_
  rintro a1 w1 vs V1 hd1 hH1 ⟨cb, mt, mp, p1, p3, bx, rfl, hN1, hbx1⟩ hF1
  show Code.wpIn (wideR none) 0 Tryz.prog _ _ a1 w1
  refine wpIn_block ?_
  have hit := fun fn lp D hlp => it129 (V := V1) (fn' := fn) (tmps := a1.tmps) (ps := #[16, 17]) (assign := (subL (bodyOf Tryz.f50) [3, 0, 0, 0]).getD 0 .skip) (body := (subL (bodyOf Tryz.f50) [3, 0, 0, 1]).getD 0 .skip) (D := D) (l := lp) (bx := bx) (s := d.ts) (xs := d.types)
    (J := fun i V2 => NI V d cb mt mp p1 p3 (fun y => ((d.types.drop (d.types.length - i)).find? fun t => decide (t.name = y)).map Ty.v) (fun _ => none) V2 ∧ V2 bx = some (cell (.slice d.ts.p d.ts.n d.ts.c) 22)) rfl (fun i V2 hj _ => ⟨hj.2, hd.types.sub hj.1.sub⟩) (fun k x hx V2 hj hl2 w2 hw2 => by
      refine round_rule (N := 38) (insA := [(3, .pointer (some ⟨p3, 0, none⟩)), (17, Ty.v x)]) (outsA := [3, 5]) hl2 hw2 (has_two (u := .int .i64 k) (z := Ty.v x) (p := 16) (q := 17) (r := 3) hH1 rfl (by decide) (by decide) (by decide)).1 (has_two (p := 16) (q := 17) (r := 3) hH1 rfl (by decide) (by decide) (by decide)).2 (newAssignT x) (fun vs V3 hvs => ?_)
      obtain ⟨b, hb, e2, rfl⟩ := hvs
      exact (newRoundT hj.1 hj.2 x V3 b hb e2).mono fun _ V4 h4 => ⟨h4.1.cg (find_drop (nm := Ty.name) (vv := Ty.v) hx) fun _ => rfl, h4.2⟩)
    ⟨by simpa using hN1, hbx1⟩ hlp
  refine range_rule (Φ := fun V2 => NI V d cb mt mp p1 p3 (fun y => (tyOf d y).map Ty.v) (fun _ => none) V2) hF1.le (hH1.get (s := 15) rfl) Tryz.call129 (fun fn lp D hlp => Tri.mono (hit fn lp D hlp) fun e V' h => ?_) ?_
  · obtain ⟨h1, V2, h2, h3, h4⟩ := h
    exact ⟨h1, V2, h2, h3, by simpa [tyOf] using h4.1⟩
  intro D V2 W hD hF2 hn2 hW hN2
  show wpL none 0 Tryz.prog _ (c50d ++ _) _ W
  have hS : Seg Tryz.prog 38 c50d [(1, .pointer (some ⟨p1, 0, none⟩)), (3, .pointer (some ⟨p3, 0, none⟩))] [3, 27] V2 fun vs V3 => ∃ bx, vs = [.pointer (some ⟨p3, 0, none⟩), .func (.func 130) #[] #[.pointer (some ⟨bx, 0, none⟩)]] ∧ NI V d cb mt mp p1 p3 (fun y => (tyOf d y).map Ty.v) (fun _ => none) V3 ∧ V3 bx = some (cell (.slice d.ps.p d.ps.n d.ps.c) 24) := by
    refine s50d ?_
    unfold w50d
    refine ⟨by simp, d.ps, row_cells hN2.b1 3 1 (by simp [Ds.row]), ?_⟩
    refine Tri.mono c93 ?_
    rintro _ V3 ⟨bx, hbx, rfl, rfl⟩
    exact ⟨.func (.func 130) #[] #[.pointer (some ⟨bx, 0, none⟩)], rfl, rfl, _, rfl, bx, rfl, hN2.fresh hbx _, Mem.set_same _ _ _⟩
  refine hS.step hF2.le ⟨hH1.1, fun s v hs => hH1.2 s v ?_⟩ ?_
  · simp only [List.zip_cons_cons, List.lookup_cons] at hs ⊢
    repeat' (split at hs <;> first | exact hs | skip)
    all_goals first | exact hs | (cases hs)
  rintro a3 w3 vs V3 hd3 hH3 ⟨bx2, rfl, hN3, hbx3⟩ hF3
  show Code.wpIn (wideR none) 0 Tryz.prog _ _ a3 w3
  refine wpIn_block ?_
  have hit2 := fun fn lp D hlp => it130 (V := V3) (fn' := fn) (tmps := a3.tmps) (ps := #[28, 29]) (assign := (subL (bodyOf Tryz.f50) [5, 0, 0, 0]).getD 0 .skip) (body := (subL (bodyOf Tryz.f50) [5, 0, 0, 1]).getD 0 .skip) (D := D) (l := lp) (bx := bx2) (s := d.ps) (xs := d.procs)
    (J := fun i V2 => NI V d cb mt mp p1 p3 (fun y => (tyOf d y).map Ty.v) (fun y => ((d.procs.drop (d.procs.length - i)).find? fun t => decide (t.name = y)).map Pr.v) V2 ∧ V2 bx2 = some (cell (.slice d.ps.p d.ps.n d.ps.c) 24)) rfl (fun i V2 hj _ => ⟨hj.2, hd.procs.sub hj.1.sub⟩) (fun k x hx V2 hj hl2 w2 hw2 => by
      refine round_rule (N := 38) (insA := [(3, .pointer (some ⟨p3, 0, none⟩)), (29, Pr.v x)]) (outsA := [3, 7]) hl2 hw2 (has_two (u := .int .i64 k) (z := Pr.v x) (p := 28) (q := 29) (r := 3) hH3 rfl (by decide) (by decide) (by decide)).1 (has_two (p := 28) (q := 29) (r := 3) hH3 rfl (by decide) (by decide) (by decide)).2 (newAssignP x) (fun vs V3 hvs => ?_)
      obtain ⟨b, hb, e2, rfl⟩ := hvs
      exact (newRoundP hj.1 hj.2 x V3 b hb e2).mono fun _ V4 h4 => ⟨h4.1.cg (fun _ => rfl) (find_drop (nm := Pr.name) (vv := Pr.v) hx), h4.2⟩)
    ⟨by simpa using hN3, hbx3⟩ hlp
  refine range_rule (Φ := fun V2 => NI V d cb mt mp p1 p3 (fun y => (tyOf d y).map Ty.v) (fun y => (prOf d y).map Pr.v) V2) hF3.le (hH3.get (s := 27) rfl) Tryz.call130 (fun fn lp D hlp => Tri.mono (hit2 fn lp D hlp) fun e V' h => ?_) ?_
  · obtain ⟨h1, V2, h2, h3, h4⟩ := h
    exact ⟨h1, V2, h2, h3, by simpa [prOf] using h4.1⟩
  intro D2 V4 W4 hD2 hF4 hn4 hW4 hN4
  show wpL none 0 Tryz.prog _ (c50g ++ _) _ W4
  have hS2 : Seg Tryz.prog 38 c50g [(3, .pointer (some ⟨p3, 0, none⟩))] [2] V4 fun vs V5 => V5 = V4 ∧ vs = [.pointer (some ⟨cb, 0, none⟩)] := by
    refine s50g ?_
    unfold w50g
    exact ⟨_, row1 hN4.b3, _, rfl, rfl, rfl⟩
  refine hS2.step hF4.le ⟨hH3.1, fun s v hs => hH3.2 s v ?_⟩ ?_
  · simp only [List.zip_cons_cons, List.lookup_cons] at hs ⊢
    repeat' (split at hs <;> first | exact hs | skip)
    all_goals first | exact hs | (cases hs)
  rintro a5 w5 vs V5 hd5 hH5 ⟨rfl, rfl⟩ hF5
  show Code.wpIn (wideR none) 0 Tryz.prog .ret _ a5 w5
  refine wpIn_ret ?_
  obtain ⟨g1, g2, g3, g4⟩ := frame_marks hF1 hF2 hD hn2 hW hF3
  obtain ⟨k1, k2, k3, k4⟩ := frame_marks g1 hF4 hD2 hn4 hW4 hF5
  obtain ⟨m1, m2⟩ := mark_keep (hF4.trans hF5) g4 g3
  have hDlt : D < w3.heap.size := (Array.getElem?_eq_some_iff.1 g3).1
  refine ⟨.inr rfl, [D2, D], ?_, by simp; omega, _, k1, fun D' hD' => ?_, _, fun w6 hw6 => results_tmp (t := 2) (by kernel_rfl) _ _ _, some ⟨cb, 0, none⟩, by rw [hH5.get rfl], hN4.sub, ?_⟩
  · rw [hd5]; simp [hd3, hd1]
  · simp only [List.mem_cons, List.not_mem_nil, or_false] at hD'
    rcases hD' with rfl | rfl
    · exact ⟨k2, k3, k4⟩
    · exact ⟨g2, m1, m2⟩
  · exact ⟨⟨cb, mt, mp, 116, rfl, hN4.ck, hN4.mapT, hN4.mapP⟩, hd.sub hN4.sub⟩
end Go.Proofs
namespace Go.Proofs
open Go Go.Sx
attribute [local irreducible] Go.Sx.Tri
/-- What taking from a counter leaves behind. -/
def Took (V0 : Mem) (b : Nat) (r : Ending) (V : Mem) : Prop := ∃ (ok : Bool) (m : Int), r = .returned (.bool ok) ∧ V = V0.set b (cell (.int .i64 m) 3) ∧ (ok = true → 0 ≤ m ∧ m ≤ 1200)
theorem Took.no {V0 : Mem} {b : Nat} {m : Int} : Took V0 b (.returned (.bool false)) (V0.set b (cell (.int .i64 m) 3)) := ⟨false, m, rfl, rfl, fun h => by cases h⟩
theorem Took.yes {V0 : Mem} {b : Nat} {m : Int} (h0 : 0 ≤ m) (h1 : m ≤ 1200) : Took V0 b (.returned (.bool true)) (V0.set b (cell (.int .i64 m) 3)) := ⟨true, m, rfl, rfl, fun _ => ⟨h0, h1⟩⟩
section
variable {V0 : Mem} {b : Nat}
theorem c15 (hb : V0 b = none) : ∀ e : E, E.Ok V0 e → ∀ (n d : Int), 0 ≤ n → n ≤ 1200 → 0 ≤ d → d ≤ 66 →
    Tri Tryz.prog 15 #[e.v, .pointer (some ⟨b, 0, none⟩), .int .i64 d] (V0.set b (cell (.int .i64 n) 3)) (Took V0 b) := by
  intro e
  induction e using E.ind with
  | h e ih =>
  intro ho n d hn0 hn1 hd0 hd1
  refine x15 (v0 := e.op) (v1 := e.n) (v2 := e.s) (v3 := e.l) (v4 := some ⟨b, 0, none⟩) (v5 := d) ?_
  unfold w15
  refine ⟨by simp, n, row1 (Mem.set_same _ _ _), ⟨by omega, by omega⟩, by simp, StT.cell (Mem.set_same _ _ _) ?_⟩
  rw [Mem.set_set]
  refine ⟨by simp, n - 1, row1 (Mem.set_same _ _ _), fun _ => Took.no, fun h0 => ⟨fun _ => Took.no, fun h1 => ⟨fun _ => Took.no, fun _ => ⟨fun _ => Took.no, fun _ => ?_⟩⟩⟩⟩
  have hs : ∀ m, V0.sub (V0.set b (cell (.int .i64 m) 3)) := fun m => Mem.sub_new hb _
  refine loop2 e.k.length (fun i V1 => ∃ m : Int, V1 = V0.set b (cell (.int .i64 m) 3) ∧ 0 ≤ m ∧ m ≤ 1200) ⟨n - 1, rfl, by omega, by omega⟩ ?_
  rintro i c _ J hi ⟨m, rfl, hm0, hm1⟩ hJ
  refine ⟨fun hlt => ?_, fun _ => Took.yes hm0 hm1⟩
  obtain ⟨x, hm, hx, hdr, hl, hp, hz, hrow⟩ := (ho.rows.sub (hs m)).get hlt
  refine ⟨hp, hz, hlt, _, _, _, _, hrow, ⟨by omega, by omega⟩, Tri.mono (ih x hm (ho.kids x hm) m (d + 1) hm0 hm1 (by omega) (by omega)) ?_⟩
  rintro _ _ ⟨ok, m2, rfl, rfl, h2⟩
  exact ⟨ok, rfl, fun hok => ⟨ho.rows.succ hlt, hJ hl _ _ ⟨m2, rfl, (h2 hok).1, (h2 hok).2⟩⟩, fun hok => by
    cases ok with
    | true => exact absurd rfl hok
    | false => exact Took.no⟩
def LsP (V0 : Mem) (b : Nat) (l : List S) : Prop := ∀ (sl : Sl) (n d : Int), RowsAt V0 sl 5 (l.map S.row) → (∀ x ∈ l, S.Ok V0 x) → 0 ≤ n → n ≤ 1200 → 0 ≤ d → d ≤ 66 →
    Tri Tryz.prog 48 #[sl.v, .pointer (some ⟨b, 0, none⟩), .int .i64 d] (V0.set b (cell (.int .i64 n) 3)) (Took V0 b)
theorem lsP_step (hb : V0 b = none) {l : List S} (hk : ∀ x ∈ l, LsP V0 b x.ls ∧ LsP V0 b x.xs) : LsP V0 b l := by
  intro sl n d hr hok hn0 hn1 hd0 hd1
  refine x48 (v0 := sl) (v1 := some ⟨b, 0, none⟩) (v2 := d) ?_
  unfold w48
  have hs : ∀ m, V0.sub (V0.set b (cell (.int .i64 m) 3)) := fun m => Mem.sub_new hb _
  refine ⟨fun _ => Took.no, fun h65 => ⟨fun _ => Took.no, fun _ => ?_⟩⟩
  refine loop2 l.length (fun i V1 => ∃ m : Int, V1 = V0.set b (cell (.int .i64 m) 3) ∧ 0 ≤ m ∧ m ≤ 1200) ⟨n, rfl, hn0, hn1⟩ ?_
  rintro i c _ J hi ⟨m, rfl, hm0, hm1⟩ hJ
  refine ⟨fun hlt => ?_, fun _ => Took.yes hm0 hm1⟩
  obtain ⟨x, hm, hx, hdr, hl, hp, hz, hrow⟩ := (hr.sub (hs m)).get hlt
  have hox := hok x hm
  refine ⟨hp, hz, hlt, _, _, _, _, _, S.row_get hrow, by simp, m, row1 (Mem.set_same _ _ _), ⟨by omega, by omega⟩, by simp, StT.cell (Mem.set_same _ _ _) ?_⟩
  rw [Mem.set_set]
  refine ⟨by simp, m - 1, row1 (Mem.set_same _ _ _), fun _ => Took.no, fun h0 => ⟨fun _ => Took.no, fun _ => ⟨fun _ => Took.no, fun _ => ⟨⟨by omega, by omega⟩, ?_⟩⟩⟩⟩
  refine Tri.mono ((hk x hm).1 x.ll (m - 1) (d + 1) hox.lRows hox.lOk (by omega) (by omega) (by omega) (by omega)) ?_
  rintro _ _ ⟨ok, m2, rfl, rfl, h2⟩
  refine ⟨ok, rfl, fun hok => ⟨⟨by omega, by omega⟩, ?_⟩, fun hok => ?_⟩
  · obtain ⟨g0, g1⟩ := h2 hok
    refine Tri.mono ((hk x hm).2 x.xl m2 (d + 1) hox.xRows hox.xOk (by omega) (by omega) (by omega) (by omega)) ?_
    rintro _ _ ⟨ok, m3, rfl, rfl, h3⟩
    refine ⟨ok, rfl, fun hok => ?_, fun hok => ?_⟩
    · obtain ⟨g2, g3⟩ := h3 hok
      refine loop2 x.es.length (fun i V1 => ∃ m : Int, V1 = V0.set b (cell (.int .i64 m) 3) ∧ 0 ≤ m ∧ m ≤ 1200) ⟨m3, rfl, g2, g3⟩ ?_
      rintro j c _ J2 hj ⟨m, rfl, hm0, hm1⟩ hJ2
      refine ⟨fun hlt2 => ?_, fun _ => ⟨hr.succ hlt, hJ hl _ _ ⟨m, rfl, hm0, hm1⟩⟩⟩
      obtain ⟨y, hmy, hy, hdry, hly, hpy, hzy, hrowy⟩ := (hox.eRows.sub (hs m)).get hlt2
      refine ⟨hpy, hzy, hlt2, _, _, _, _, hrowy, Tri.mono (c15 hb y (hox.eOk y hmy) m 1 hm0 hm1 (by omega) (by omega)) ?_⟩
      rintro _ _ ⟨ok, m4, rfl, rfl, h4⟩
      exact ⟨ok, rfl, fun hok => ⟨hox.eRows.succ hlt2, hJ2 hly _ _ ⟨m4, rfl, (h4 hok).1, (h4 hok).2⟩⟩, fun hok => by
        cases ok with
        | true => exact absurd rfl hok
        | false => exact Took.no⟩
    · cases ok with
      | true => exact absurd rfl hok
      | false => exact Took.no
  · cases ok with
    | true => exact absurd rfl hok
    | false => exact Took.no
theorem lsP_S (hb : V0 b = none) : ∀ s : S, LsP V0 b s.ls ∧ LsP V0 b s.xs := by
  intro s
  induction s using S.ind with
  | h s i1 i2 => exact ⟨lsP_step hb i1, lsP_step hb i2⟩
theorem c48 (hb : V0 b = none) (l : List S) : LsP V0 b l := lsP_step hb fun x _ => lsP_S hb x
end
def bigF (f : Fld) : Bool := decide ((100 : Int) < (f.name.size : Int)) || decide ((100 : Int) < (f.ty.size : Int))
theorem c83 {V : Mem} {f : Fld} : PP 83 [f.v] V (.bool (bigF f)) := by
  refine x83 (v0 := f.name) (v1 := f.ty) ?_
  unfold w83
  refine ⟨fun h => ?_, fun h => ?_⟩ <;> simp [bigF, h]
theorem c47 {V : Mem} {l : Sl} {xs : List Fld} (h : RowsAt V l 2 (xs.map Fld.row)) : ∃ ok : Bool, PP 47 [l.v] V (.bool ok) := by
  refine ⟨if (l.n : Int) ≤ 20 then !(xs.any bigF) else false, ?_⟩
  refine x47 ?_
  unfold w47
  refine ⟨fun h1 => ?_, fun h1 => ?_⟩
  · refine (c26 (first := []) (caps := []) h Tryz.call83 bigF (fun f _ => c83)).call ⟨_, rfl, ?_⟩
    rw [if_pos h1]; exact ⟨rfl, rfl⟩
  · rw [if_neg h1]; exact ⟨rfl, rfl⟩
end Go.Proofs
namespace Go.Proofs
open Go Go.Sx
attribute [local irreducible] Go.Sx.Tri
theorem c11 {V : Mem} {d : Ds} (hd : Ds.Ok V d) : Tri Tryz.prog 11 #[d.v] V fun e V' => ∃ ok : Bool, e = .returned (.bool ok) ∧ V' = V := by
  refine Tri.less (x11 (v0 := d.name) (v1 := d.ts) (v2 := d.gs) (v3 := d.ps) (v4 := d.ms) (v5 := d.is) (v6 := d.qs) (v7 := d.bs) ?_)
  unfold w11
  intro b hb
  refine StT.cell (Mem.set_same _ _ _) ?_
  rw [Mem.set_set]
  have hs : ∀ m, V.sub (V.set b (cell (.int .i64 m) 3)) := fun m => Mem.sub_new hb _
  have fin : ∀ (ok : Bool) (m : Int), ∃ W, (∃ ok' : Bool, Ending.returned (.bool ok) = Ending.returned (.bool ok') ∧ W = V) ∧ W.sub (V.set b (cell (.int .i64 m) 3)) := fun ok m => ⟨V, ⟨ok, rfl, rfl⟩, hs m⟩
  have flds : ∀ {l : Sl} {xs : List Fld}, RowsAt V l 2 (xs.map Fld.row) → ∀ (m : Int) (q : Ending → Mem → Prop), (∀ ok : Bool, q (.returned (.bool ok)) (V.set b (cell (.int .i64 m) 3))) → Tri Tryz.prog 47 #[l.v] (V.set b (cell (.int .i64 m) 3)) q := fun h m q hq => by
    obtain ⟨ok, hk⟩ := c47 (h.sub (hs m))
    exact hk.call (hq ok)
  have tk : ∀ {r : Ending} {V' : Mem} {p : Prop}, Took V b r V' → (∀ m : Int, 0 ≤ m → m ≤ 1200 → p) → True := fun _ _ => trivial
  let ST : Nat → Mem → Prop := fun _ V1 => ∃ m : Int, V1 = V.set b (cell (.int .i64 m) 3) ∧ 0 ≤ m ∧ m ≤ 1200
  refine ⟨fun _ => fin _ _, fun _ => ⟨fun _ => fin _ _, fun _ => flds hd.globals _ _ fun ok => ⟨ok, rfl, fun _ => ⟨fun _ => fin _ _, fun _ => ⟨fun _ => fin _ _, fun _ => ⟨fun _ => fin _ _, fun _ => ⟨fun _ => fin _ _, fun _ => ⟨fun _ => fin _ _, fun _ => ?_⟩⟩⟩⟩⟩, fun _ => fin _ _⟩⟩⟩
  refine loop2 d.types.length ST ⟨1200, rfl, by omega, by omega⟩ ?_
  rintro i c _ J hi ⟨m, rfl, hm0, hm1⟩ hJ
  refine ⟨fun hlt => ?_, fun _ => ?_⟩
  · obtain ⟨x, hm, hx, hdr, hl, hp, hz, hrow⟩ := (hd.types.sub (hs m)).get hlt
    refine ⟨hp, hz, hlt, _, _, hrow, fun _ => fin _ _, fun _ => flds (hd.typesOk x hm).fields _ _ fun ok => ⟨ok, rfl, fun _ => ⟨hd.types.succ hlt, hJ hl _ _ ⟨m, rfl, hm0, hm1⟩⟩, fun _ => fin _ _⟩⟩
  clear hJ hi
  refine loop2 d.procs.length ST ⟨m, rfl, hm0, hm1⟩ ?_
  rintro i c _ J hi ⟨m, rfl, hm0, hm1⟩ hJ
  refine ⟨fun hlt => ?_, fun _ => ?_⟩
  · obtain ⟨x, hm, hx, hdr, hl, hp, hz, hrow⟩ := (hd.procs.sub (hs m)).get hlt
    have hox := hd.procsOk x hm
    refine ⟨hp, hz, hlt, _, _, _, _, _, hrow, fun _ => fin _ _, fun _ => ⟨fun _ => fin _ _, fun _ => flds hox.params _ _ fun ok => ⟨ok, rfl, fun _ => flds hox.locals _ _ fun ok => ⟨ok, rfl, fun _ => ?_, fun _ => fin _ _⟩, fun _ => fin _ _⟩⟩⟩
    refine Tri.mono (c48 hb x.body x.bs m 1 hox.body hox.stmts hm0 hm1 (by omega) (by omega)) ?_
    rintro _ _ ⟨ok, m2, rfl, rfl, h2⟩
    exact ⟨ok, rfl, fun hok => ⟨hd.procs.succ hlt, hJ hl _ _ ⟨m2, rfl, (h2 hok).1, (h2 hok).2⟩⟩, fun _ => fin _ _⟩
  clear hJ hi
  refine loop2 d.measures.length ST ⟨m, rfl, hm0, hm1⟩ ?_
  rintro i c _ J hi ⟨m, rfl, hm0, hm1⟩ hJ
  refine ⟨fun hlt => ?_, fun _ => ?_⟩
  · obtain ⟨x, hm, hx, hdr, hl, hp, hz, hrow⟩ := (hd.measures.sub (hs m)).get hlt
    refine ⟨hp, hz, hlt, _, _, _, _, _, _, _, hrow, fun _ => fin _ _, fun _ => ⟨fun _ => fin _ _, fun _ => Tri.mono (c15 hb x.x (hd.measuresOk x hm).x m 1 hm0 hm1 (by omega) (by omega)) ?_⟩⟩
    rintro _ _ ⟨ok, m2, rfl, rfl, h2⟩
    exact ⟨ok, rfl, fun hok => ⟨hd.measures.succ hlt, hJ hl _ _ ⟨m2, rfl, (h2 hok).1, (h2 hok).2⟩⟩, fun _ => fin _ _⟩
  clear hJ hi
  refine loop2 d.invs.length ST ⟨m, rfl, hm0, hm1⟩ ?_
  rintro i c _ J hi ⟨m, rfl, hm0, hm1⟩ hJ
  refine ⟨fun hlt => ?_, fun _ => ?_⟩
  · obtain ⟨x, hm, hx, hdr, hl, hp, hz, hrow⟩ := (hd.invs.sub (hs m)).get hlt
    refine ⟨hp, hz, hlt, _, _, _, _, _, _, hrow, fun _ => fin _ _, fun _ => ⟨fun _ => fin _ _, fun _ => Tri.mono (c15 hb x.x (hd.invsOk x hm) m 1 hm0 hm1 (by omega) (by omega)) ?_⟩⟩
    rintro _ _ ⟨ok, m2, rfl, rfl, h2⟩
    exact ⟨ok, rfl, fun hok => ⟨hd.invs.succ hlt, hJ hl _ _ ⟨m2, rfl, (h2 hok).1, (h2 hok).2⟩⟩, fun _ => fin _ _⟩
  clear hJ hi
  refine loop2 d.pots.length ST ⟨m, rfl, hm0, hm1⟩ ?_
  rintro i c _ J hi ⟨m, rfl, hm0, hm1⟩ hJ
  refine ⟨fun hlt => ?_, fun _ => ?_⟩
  · obtain ⟨x, hm, hx, hdr, hl, hp, hz, hrow⟩ := (hd.pots.sub (hs m)).get hlt
    refine ⟨hp, hz, hlt, _, _, _, _, _, hrow, fun _ => fin _ _, fun _ => Tri.mono (c15 hb x.x (hd.potsOk x hm) m 1 hm0 hm1 (by omega) (by omega)) ?_⟩
    rintro _ _ ⟨ok, m2, rfl, rfl, h2⟩
    exact ⟨ok, rfl, fun hok => ⟨hd.pots.succ hlt, hJ hl _ _ ⟨m2, rfl, (h2 hok).1, (h2 hok).2⟩⟩, fun _ => fin _ _⟩
  clear hJ hi
  refine loop2 d.bounds.length ST ⟨m, rfl, hm0, hm1⟩ ?_
  rintro i c _ J hi ⟨m, rfl, hm0, hm1⟩ hJ
  refine ⟨fun hlt => ?_, fun _ => fin _ _⟩
  obtain ⟨x, hm, hx, hdr, hl, hp, hz, hrow⟩ := (hd.bounds.sub (hs m)).get hlt
  refine ⟨hp, hz, hlt, _, _, _, _, _, hrow, fun _ => fin _ _, fun _ => Tri.mono (c15 hb x.x (hd.boundsOk x hm) m 1 hm0 hm1 (by omega) (by omega)) ?_⟩
  rintro _ _ ⟨ok, m2, rfl, rfl, h2⟩
  exact ⟨ok, rfl, fun hok => ⟨hd.bounds.succ hlt, hJ hl _ _ ⟨m2, rfl, (h2 hok).1, (h2 hok).2⟩⟩, fun _ => fin _ _⟩
end Go.Proofs
namespace Go.Proofs
open Go Go.Sx
attribute [local irreducible] Go.Sx.Tri
def nilSl : Sl := ⟨none, 0, 0⟩
def exD (fs ts gs ps : Sl) : Ds :=
  ⟨strB [100], ts, [⟨strB [84], fs, [⟨strB [107], strB [105, 110, 116]⟩, ⟨strB [110], strB [84]⟩]⟩], gs, [⟨strB [114], strB [84]⟩], ps, [⟨strB [112], nilSl, [], strB [], nilSl, [], nilSl, []⟩], nilSl, [], nilSl, [], nilSl, [], nilSl, []⟩
def nmE (s : ByteArray) : E := .mk 4 0 s nilSl []
def flE (l : Sl) (e : E) (s : ByteArray) : E := .mk 5 0 s l [e]
section
variable {fs ts gs ps l1 l2 l3 l4 l5 : Sl}
theorem ex_valid : validD (exD fs ts gs ps) = true := by kernel_rfl
theorem ex_chk : chkT (exD fs ts gs ps) = none := by kernel_rfl
theorem ex_e1 : exprR (exD fs ts gs ps) (strB [112]) (.mk 9 0 (strB []) l3 [flE l2 (flE l1 (nmE (strB [114])) (strB [110])) (strB [107]), .mk 1 1 (strB []) nilSl []]) = (strB [105, 110, 116], 0) := by kernel_rfl
theorem ex_e2 : exprR (exD fs ts gs ps) (strB [112]) (.mk 21 0 (strB []) l3 [.mk 14 0 (strB []) l2 [nmE (strB [114]), .mk 3 0 (strB []) nilSl []], .mk 3 0 (strB []) nilSl [], flE l1 (nmE (strB [114])) (strB [110])]) = (strB [84], 0) := by kernel_rfl
theorem ex_e3 : (exprR (exD fs ts gs ps) (strB [112]) (flE l1 (.mk 3 0 (strB []) nilSl []) (strB [107]))).2 = 11 := by kernel_rfl
end
end Go.Proofs
namespace Go.Proofs
open Go Go.Sx
def AwakeC : Prop := ∀ (V : Mem) [Tab V], PP 10 [] V (.bool true)
end Go.Proofs
namespace Go.Proofs
open Go Go.Sx
attribute [local irreducible] Go.Sx.Tri
theorem c44 {V : Mem} : Tri Tryz.prog 44 #[] V fun e V' => ∃ fs ts gs ps, e = .returned (exD fs ts gs ps).v ∧ V.sub V' ∧ Ds.Ok V' (exD fs ts gs ps) := by
  refine x44 ?_
  unfold w44
  intro b1 h1 b2 h2 b3 h3 b4 h4
  have s1 := Mem.sub_new h1 (.cells #[.string (strB [107]), .string (strB [105, 110, 116]), .string (strB [110]), .string (strB [84])] 67 (0, 0))
  have s2 := Mem.sub_new h2 (.cells #[.string (strB [84]), .slice (some ⟨b1, 0, none⟩) 2 2] 94 (0, 0))
  have s3 := Mem.sub_new h3 (.cells #[.string (strB [114]), .string (strB [84])] 67 (0, 0))
  have s4 := Mem.sub_new h4 (.cells #[.string (strB [112]), .slice none 0 0, .string (strB []), .slice none 0 0, .slice none 0 0] 54 (0, 0))
  refine ⟨⟨some ⟨b1, 0, none⟩, 2, 2⟩, ⟨some ⟨b2, 0, none⟩, 1, 1⟩, ⟨some ⟨b3, 0, none⟩, 1, 1⟩, ⟨some ⟨b4, 0, none⟩, 1, 1⟩, rfl, s1.trans (s2.trans (s3.trans s4)), ?_⟩
  refine ⟨?_, ?_, ?_, ?_, ?_, RowsAt.nil, by simp [exD], RowsAt.nil, by simp [exD], RowsAt.nil, by simp [exD], RowsAt.nil, by simp [exD]⟩
  · exact RowsAt.cells (row := Ty.row) ((s3.trans s4) _ _ (Mem.set_same _ _ _)) rfl (fun _ => rfl) rfl (by simp [exD])
  · intro t ht
    simp only [exD, List.mem_singleton] at ht
    subst ht
    exact ⟨RowsAt.cells (row := Fld.row) ((s2.trans (s3.trans s4)) _ _ (Mem.set_same _ _ _)) rfl (fun _ => rfl) rfl (by simp)⟩
  · exact RowsAt.cells (row := Fld.row) (sz := 2) (xs := [⟨strB [114], strB [84]⟩]) (s4 _ _ (Mem.set_same _ _ _)) rfl (fun _ => rfl) rfl (by simp)
  · exact RowsAt.cells (row := Pr.row) (sz := 5) (xs := [⟨strB [112], nilSl, [], strB [], nilSl, [], nilSl, []⟩]) (Mem.set_same _ _ _) rfl (fun _ => rfl) rfl (by simp)
  · intro t ht
    simp only [exD, List.mem_singleton] at ht
    subst ht
    exact ⟨RowsAt.nil, RowsAt.nil, RowsAt.nil, by simp⟩
theorem leafOk {V : Mem} {op n : Int} {s : ByteArray} (h : IntKind.i64.min ≤ op ∧ op ≤ IntKind.i64.max) (k : IntKind.i64.min ≤ n ∧ n ≤ IntKind.i64.max) : E.Ok V (.mk op n s nilSl []) := .mk RowsAt.nil (by simp) h k
theorem c46 {V : Mem} {s : ByteArray} : PP 46 [.string s] V (nmE s).v := by
  refine x46 ?_
  unfold w46
  exact ⟨rfl, rfl⟩
theorem kidsOk {V : Mem} {b : Nat} {k : List E} {op n : Int} {s : ByteArray} (hk : ∀ x ∈ k, E.Ok V x) (hb : V b = some (.cells (k.flatMap E.row).toArray 40 (0, 0))) (hl : k.length ≤ 100) (h : IntKind.i64.min ≤ op ∧ op ≤ IntKind.i64.max) (hn : IntKind.i64.min ≤ n ∧ n ≤ IntKind.i64.max) :
    E.Ok V (.mk op n s ⟨some ⟨b, 0, none⟩, k.length, k.length⟩ k) :=
  .mk (RowsAt.cells (row := E.row) hb (by simp) (fun _ => rfl) rfl (by omega)) hk h hn
theorem c45 {V : Mem} {e : E} {s : ByteArray} (he : E.Ok V e) {q : Ending → Mem → Prop} (hq : ∀ l V', V.sub V' → E.Ok V' (flE l e s) → q (.returned (flE l e s).v) V') : Tri Tryz.prog 45 #[e.v, .string s] V q := by
  refine x45 (v0 := e.op) (v1 := e.n) (v2 := e.s) (v3 := e.l) ?_
  unfold w45
  intro b hb
  have hs := Mem.sub_new hb (.cells #[.int .i64 e.op, .int .i64 e.n, .string e.s, .slice e.l.p e.l.n e.l.c] 40 (0, 0))
  exact hq ⟨some ⟨b, 0, none⟩, 1, 1⟩ _ hs (kidsOk (k := [e]) (by simp; exact he.sub hs) (Mem.set_same _ _ _) (by simp) (by decide) (by decide))
theorem awakeC : AwakeC := by
  intro V hT
  refine Pur.mk (x10 ?_)
  unfold w10
  refine Tri.mono c44 ?_
  rintro _ V1 ⟨fs, ts, gs, ps, rfl, hs1, hd⟩
  have r1 : f3 (chkT (exD fs ts gs ps)) = .tuple #[.string sE, .int .i64 0, .int .i64 0] := by rw [ex_chk]; rfl
  refine ⟨_, ts, gs, ps, nilSl, nilSl, nilSl, nilSl, rfl, ?_⟩
  haveI hT1 : Tab V1 := hT.sub hs1
  have c1 := c12 scopeC newC hd
  rw [if_pos ex_valid, r1] at c1
  refine c1.call ⟨sE, 0, 0, rfl, c46.call ⟨4, 0, strB [114], nilSl, rfl, ?_⟩⟩
  refine c45 (e := nmE (strB [114])) (leafOk (by decide) (by decide)) fun l1 V2 hs2 he1 => ⟨_, _, _, l1, rfl, ?_⟩
  refine c45 (e := flE l1 (nmE (strB [114])) (strB [110])) he1 fun l2 V3 hs3 he2 => ⟨_, _, _, l2, rfl, ?_⟩
  intro b1 hb1
  have sb1 := Mem.sub_new hb1 (.cells #[.int .i64 5, .int .i64 0, .string (strB [107]), .slice l2.p l2.n l2.c, .int .i64 1, .int .i64 1, .string (strB []), .slice none 0 0] 40 (0, 0))
  have hd3 := hd.sub (hs2.trans (hs3.trans sb1))
  haveI hT3 : Tab (V3.set b1 (.cells #[.int .i64 5, .int .i64 0, .string (strB [107]), .slice l2.p l2.n l2.c, .int .i64 1, .int .i64 1, .string (strB []), .slice none 0 0] 40 (0, 0))) := hT1.sub (hs2.trans (hs3.trans sb1))
  have ha : E.Ok (V3.set b1 (.cells #[.int .i64 5, .int .i64 0, .string (strB [107]), .slice l2.p l2.n l2.c, .int .i64 1, .int .i64 1, .string (strB []), .slice none 0 0] 40 (0, 0))) (.mk 9 0 (strB []) ⟨some ⟨b1, 0, none⟩, 2, 2⟩ [flE l2 (flE l1 (nmE (strB [114])) (strB [110])) (strB [107]), .mk 1 1 (strB []) nilSl []]) :=
    kidsOk (k := [flE l2 (flE l1 (nmE (strB [114])) (strB [110])) (strB [107]), .mk 1 1 (strB []) nilSl []]) (by
      intro x hx
      simp only [List.mem_cons, List.not_mem_nil, or_false] at hx
      rcases hx with rfl | rfl
      · exact he2.sub sb1
      · exact leafOk (by decide) (by decide)) (Mem.set_same _ _ _) (by simp) (by decide) (by decide)
  have c2 := c16 scopeC newC hd3 (s := strB [112]) ha
  rw [ex_e1] at c2
  refine c2.call ⟨strB [105, 110, 116], 0, rfl, c46.call ⟨4, 0, strB [114], nilSl, rfl, ?_⟩⟩
  generalize hV4 : (V3.set b1 (.cells #[.int .i64 5, .int .i64 0, .string (strB [107]), .slice l2.p l2.n l2.c, .int .i64 1, .int .i64 1, .string (strB []), .slice none 0 0] 40 (0, 0))) = V4 at *
  have hs4 : V.sub V4 := hs1.trans (hs2.trans (hs3.trans sb1))
  clear c2 c1 ha hb1 hV4 sb1 he1 he2 hs2 hs3 hs1
  refine ⟨c46.call ⟨4, 0, strB [114], nilSl, rfl, ?_, ?_⟩, c46.call ⟨4, 0, strB [114], nilSl, rfl, ?_⟩⟩
  all_goals
    refine c45 (e := nmE (strB [114])) (leafOk (by decide) (by decide)) fun l1 V5 hs5 he1 => ⟨_, _, _, l1, rfl, ?_⟩
    intro b2 hb2 b3 hb3
    have sb2 := Mem.sub_new hb2 (.cells #[.int .i64 4, .int .i64 0, .string (strB [114]), .slice none 0 0, .int .i64 3, .int .i64 0, .string (strB []), .slice none 0 0] 40 (0, 0))
    have sb3 := Mem.sub_new hb3 (.cells #[.int .i64 14, .int .i64 0, .string (strB []), .slice (some ⟨b2, 0, none⟩) 2 2, .int .i64 3, .int .i64 0, .string (strB []), .slice none 0 0, .int .i64 5, .int .i64 0, .string (strB [110]), .slice l1.p l1.n l1.c] 40 (0, 0))
    have hd6 := hd3.sub (hs5.trans (sb2.trans sb3))
    have hT6 := hT3.sub (hs5.trans (sb2.trans sb3))
    have hq1 : E.Ok ((V5.set b2 (.cells #[.int .i64 4, .int .i64 0, .string (strB [114]), .slice none 0 0, .int .i64 3, .int .i64 0, .string (strB []), .slice none 0 0] 40 (0, 0))).set b3 (.cells #[.int .i64 14, .int .i64 0, .string (strB []), .slice (some ⟨b2, 0, none⟩) 2 2, .int .i64 3, .int .i64 0, .string (strB []), .slice none 0 0, .int .i64 5, .int .i64 0, .string (strB [110]), .slice l1.p l1.n l1.c] 40 (0, 0)))
        (.mk 14 0 (strB []) ⟨some ⟨b2, 0, none⟩, 2, 2⟩ [nmE (strB [114]), .mk 3 0 (strB []) nilSl []]) :=
      kidsOk (k := [nmE (strB [114]), .mk 3 0 (strB []) nilSl []]) (by
        intro x hx
        simp only [List.mem_cons, List.not_mem_nil, or_false] at hx
        rcases hx with rfl | rfl
        · exact leafOk (by decide) (by decide)
        · exact leafOk (by decide) (by decide)) (sb3 _ _ (Mem.set_same _ _ _)) (by simp) (by decide) (by decide)
    have hq2 := kidsOk (V := (V5.set b2 (.cells #[.int .i64 4, .int .i64 0, .string (strB [114]), .slice none 0 0, .int .i64 3, .int .i64 0, .string (strB []), .slice none 0 0] 40 (0, 0))).set b3 (.cells #[.int .i64 14, .int .i64 0, .string (strB []), .slice (some ⟨b2, 0, none⟩) 2 2, .int .i64 3, .int .i64 0, .string (strB []), .slice none 0 0, .int .i64 5, .int .i64 0, .string (strB [110]), .slice l1.p l1.n l1.c] 40 (0, 0)))
      (b := b3) (k := [.mk 14 0 (strB []) ⟨some ⟨b2, 0, none⟩, 2, 2⟩ [nmE (strB [114]), .mk 3 0 (strB []) nilSl []], .mk 3 0 (strB []) nilSl [], flE l1 (nmE (strB [114])) (strB [110])]) (op := 21) (n := 0) (s := strB []) (by
        intro x hx
        simp only [List.mem_cons, List.not_mem_nil, or_false] at hx
        rcases hx with rfl | rfl | rfl
        · exact hq1
        · exact leafOk (by decide) (by decide)
        · exact he1.sub (sb2.trans sb3)) (Mem.set_same _ _ _) (by simp) (by decide) (by decide)
    have c3 := c16 scopeC newC hd6 (s := strB [112]) hq2
    rw [show (exprR (exD fs ts gs ps) (strB [112]) _) = (strB [84], 0) from ex_e2] at c3
    refine c3.call ⟨strB [84], 0, rfl, ?_⟩
    refine c45 (e := .mk 3 0 (strB []) nilSl []) (leafOk (by decide) (by decide)) fun l6 V6 hs6 he6 => ⟨_, _, _, l6, rfl, ?_⟩
    haveI hT7 : Tab V6 := hT6.sub hs6
    have c4 := c16 scopeC newC (hd6.sub hs6) (s := strB [112]) he6
    rw [show (exprR (exD fs ts gs ps) (strB [112]) (flE l6 (.mk 3 0 (strB []) nilSl []) (strB [107]))).2 = 11 from ex_e3] at c4
    refine c4.call ⟨_, 11, rfl, fun _ => ⟨fun _ => ⟨fun _ => ⟨fun _ => ⟨fun _ => ⟨rfl, ?_⟩, fun h => absurd rfl h⟩, fun h => absurd rfl h⟩, fun h => absurd rfl h⟩, fun h => absurd rfl h⟩, fun h => absurd rfl h⟩
    exact hs4.trans (hs5.trans (sb2.trans (sb3.trans hs6)))
end Go.Proofs
