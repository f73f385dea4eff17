/- Part 23 of a proof of a law of this seat: no statement of the seat is proved here. -/
import Derived.Test.YtjnmeimbcljkjaaGreatDoorPart22
set_option linter.unusedVariables false
set_option linter.unusedSimpArgs false
namespace Go.Proofs
open Go Go.Sx
attribute [local irreducible] Go.Sx.Tri
theorem take_repl {l r : List Value} {k m : Nat} (hk : k + r.length ≤ m) (hm : m ≤ l.length) : (l.take k ++ r ++ l.drop (k + r.length)).take m = (l.take m).take k ++ r ++ (l.take m).drop (k + r.length) := by
  rw [List.take_take, Nat.min_eq_left (by omega), List.drop_take, List.take_append, List.length_append, List.length_take, Nat.min_eq_left (by omega), List.take_of_length_le (by simp; omega)]
theorem flat_repl {α : Type} {row : α → List Value} {sz : Nat} (hr : ∀ x, (row x).length = sz) {x' : α} : ∀ {xs : List α} {i : Nat}, i < xs.length → (xs.set i x').flatMap row = (xs.flatMap row).take (i * sz) ++ row x' ++ (xs.flatMap row).drop (i * sz + sz)
  | [], _, h => absurd h (Nat.not_lt_zero _)
  | y :: ys, 0, _ => by
    rw [List.set_cons_zero, List.flatMap_cons, List.flatMap_cons, Nat.zero_mul, List.take_zero, List.nil_append, Nat.zero_add, List.drop_left' (hr y)]
  | y :: ys, i + 1, h => by
    have ih := flat_repl hr (x' := x') (xs := ys) (i := i) (by simpa using h)
    have t1 : (row y).take ((i + 1) * sz) = row y := List.take_of_length_le (by rw [hr, Nat.add_mul]; omega)
    have t2 : (row y).drop ((i + 1) * sz + sz) = [] := List.drop_eq_nil_of_le (by rw [hr, Nat.add_mul]; omega)
    rw [List.set_cons_succ, List.flatMap_cons, List.flatMap_cons, ih, List.take_append, List.drop_append, t1, t2, hr, List.nil_append]
    rw [show (i + 1) * sz - sz = i * sz by rw [Nat.add_mul]; omega, show (i + 1) * sz + sz - sz = i * sz + sz by rw [Nat.add_mul]; omega]
    simp only [List.append_assoc]
theorem own_row {α : Type} {row : α → List Value} {sz : Nat} (hr : ∀ x, (row x).length = sz) (hsz : 0 < sz) {V0 V : Mem} {e : TypeId} {s : Sl} {xs : List α} (o : Sx.Own V0 V e sz s (xs.flatMap row)) {i : Nat} (hi : i < xs.length) {x' : α} {cs : List Value} (hcs : cs = row x') {q : Mem → Prop}
    (hq : ∀ V', Sx.Own V0 V' e sz s ((xs.set i x').flatMap row) → q V') : StT (ptrAdd s.p (i * sz)) 0 cs V q := by
  subst hcs
  have hn : s.n = xs.length := o.n_eq hr hsz
  rcases o.at_ with ⟨h1, -, -⟩ | ⟨g, cur, hp, hg, hV, hnc, hcm, hsz', htake⟩
  · omega
  · have h2 : (i + 1) * sz ≤ s.n * sz := Nat.mul_le_mul_right _ (by omega)
    have h3 : s.n * sz ≤ s.c * sz := Nat.mul_le_mul_right _ hnc
    rw [Nat.add_mul, Nat.one_mul] at h2
    have hl := hr x'
    refine ⟨⟨g, i * sz, none⟩, cur, e, ?_, hV, rfl, by rw [hl]; simp only [Nat.add_zero]; omega, hq _ ?_⟩
    · rw [hp, ptr_off, Nat.zero_add]
    · simp only [Nat.add_zero]
      refine ⟨fun b ob hb => ?_, by rw [flatMap_len hr, List.length_set, hn], .inr ⟨g, _, hp, hg, Mem.set_same _ _ _, hnc, hcm, ?_, ?_⟩⟩
      · rw [Mem.set_ne (fun e => by subst e; rw [hg] at hb; cases hb)]
        exact o.sub _ _ hb
      · simp only [List.size_toArray, List.length_append, List.length_take, List.length_drop, Array.length_toList, hl]
        omega
      · show ((cur.toList.take (i * sz) ++ row x' ++ cur.toList.drop (i * sz + (row x').length))).take (s.n * sz) = _
        rw [take_repl (by rw [hl]; omega) (by rw [Array.length_toList]; omega), htake, hl, flat_repl hr hi]
section
variable {V : Mem} {d : Ds}
/-- A closure that answers. -/
def AskC (V : Mem) (g : FuncId) (c1 c2 : Value) (ask : E → ByteArray × Int) : Prop := CallOk g ∧ ∀ V1, V.sub V1 → ∀ e, E.Ok V1 e → PP g ([] ++ [e.v] ++ [c1, c2]) V1 (.tuple #[.string (ask e).1, .int .i64 (ask e).2])
theorem c38 [hT : Tab V] (hd : Ds.Ok V d) {s : ByteArray} {a b : Nat} {t1 t2 : Nat} (ha : V a = some (.cells d.row.toArray t1 (0, 0))) (hb : V b = some (Sx.cell (.string s) t2)) : AskC V 38 (.pointer (some ⟨a, 0, none⟩)) (.pointer (some ⟨b, 0, none⟩)) (exprR d s) := by
  refine ⟨Tryz.call38, fun V1 h1 e he => ?_⟩
  haveI : Tab V1 := hT.sub h1
  refine x38 (v0 := e.op) (v1 := e.n) (v2 := e.s) (v3 := e.l) ?_
  unfold w38
  exact ⟨_, d.ts, d.gs, d.ps, d.ms, d.is, d.qs, d.bs, row_cells (h1 _ _ ha) 0 8 (by simp [Ds.row]), _, row1 (h1 _ _ hb), (c16 scopeC newC (hd.sub h1) (s := s) he).call ⟨_, _, rfl, rfl, rfl⟩⟩
theorem c39 [hT : Tab V] (hd : Ds.Ok V d) {s : ByteArray} {a b : Nat} {t1 t2 : Nat} (ha : V a = some (.cells d.row.toArray t1 (0, 0))) (hb : V b = some (Sx.cell (.string s) t2)) : AskC V 39 (.pointer (some ⟨a, 0, none⟩)) (.pointer (some ⟨b, 0, none⟩)) (measR d s) := by
  refine ⟨Tryz.call39, fun V1 h1 e he => ?_⟩
  haveI : Tab V1 := hT.sub h1
  refine x39 (v0 := e.op) (v1 := e.n) (v2 := e.s) (v3 := e.l) ?_
  unfold w39
  exact ⟨_, d.ts, d.gs, d.ps, d.ms, d.is, d.qs, d.bs, row_cells (h1 _ _ ha) 0 8 (by simp [Ds.row]), _, row1 (h1 _ _ hb), (c35 scopeC newC (hd.sub h1) (s := s) he).call ⟨_, _, rfl, rfl, rfl⟩⟩
theorem pairE {a : ByteArray × Int} {x : ByteArray} {n : Int} (h1 : a.1 = x) (h2 : a.2 = n) : a = (x, n) := by cases a; simp_all
structure Held (V V1 : Mem) (b1 b2 b3 b4 : Nat) (d : Ds) (s t : ByteArray) : Prop where
  sub : V.sub V1
  a : V1 b1 = some (.cells d.row.toArray 30 (0, 0))
  b : V1 b2 = some (Sx.cell (.string s) 9)
  c : V1 b3 = some (Sx.cell (.string t) 9)
  f : V1 b4 = some (.cells #[.func (.func 38) #[] #[.pointer (some ⟨b1, 0, none⟩), .pointer (some ⟨b2, 0, none⟩)], .func (.func 39) #[] #[.pointer (some ⟨b1, 0, none⟩), .pointer (some ⟨b3, 0, none⟩)]] 81 (0, 0))
theorem Held.grow {V V1 V2 : Mem} {b1 b2 b3 b4 : Nat} {d : Ds} {s t : ByteArray} (h : Held V V1 b1 b2 b3 b4 d s t) (hs : V1.sub V2) : Held V V2 b1 b2 b3 b4 d s t := ⟨h.sub.trans hs, hs _ _ h.a, hs _ _ h.b, hs _ _ h.c, hs _ _ h.f⟩
theorem own_ptr {V0 V : Mem} {e : TypeId} {sz : Nat} {s : Sl} {vs : List Value} (o : Sx.Own V0 V e sz s vs) (h : 0 < s.n) : ¬ s.p = none := by
  rcases o.at_ with ⟨h1, -, -⟩ | ⟨g, cur, hp, -⟩
  · omega
  · rw [hp]; simp
theorem cParts [hT : Tab V] (hd : Ds.Ok V d) {s t : ByteArray} {e : E} (he : E.Ok V e) {k : Int} (hk : 0 ≤ k ∧ k ≤ 255) : PP 8 [d.v, .string s, .string t, e.v, .int .u8 k] V (.bool true) := by
  refine Pur.mk (x8 (v0 := d.name) (v1 := d.ts) (v2 := d.gs) (v3 := d.ps) (v4 := d.ms) (v5 := d.is) (v6 := d.qs) (v7 := d.bs) (v8 := s) (v9 := t) (v10 := e.op) (v11 := e.n) (v12 := e.s) (v13 := e.l) (v14 := k) ?_)
  unfold w8
  refine (awakeC V).call ⟨_, rfl, fun _ => Tri.mono (c11 hd) ?_, fun h => absurd rfl h⟩
  rintro _ V1 ⟨ok, rfl, e1⟩
  obtain rfl : V = V1 := e1.symm
  refine ⟨ok, rfl, fun _ => ⟨fun _ => awakeAt (Mem.sub.refl _), fun _ => ⟨fun _ => awakeAt (Mem.sub.refl _), fun _ => ?_⟩⟩, fun _ => awakeAt (Mem.sub.refl _)⟩
  intro b hb
  have hs : ∀ m, V.sub (V.set b (Sx.cell (.int .i64 m) 3)) := fun m => Mem.sub_new hb _
  refine Tri.mono (c15 hb e he 100 1 (by omega) (by omega) (by omega) (by omega)) ?_
  rintro _ _ ⟨ok2, m, rfl, rfl, -⟩
  refine ⟨ok2, rfl, fun _ => ?_, fun _ => awakeAt (hs m)⟩
  have hV2 := hs m
  generalize V.set b (Sx.cell (.int .i64 m) 3) = V2 at hV2 ⊢
  intro b1 h1 b2 h2 b3 h3 b4 h4
  have s2 := Mem.sub_new h2 (Sx.cell (.string s) 9)
  have s3 := Mem.sub_new h3 (Sx.cell (.string t) 9)
  have s4 := Mem.sub_new h4 (.cells #[.func (.func 38) #[] #[.pointer (some ⟨b1, 0, none⟩), .pointer (some ⟨b2, 0, none⟩)], .func (.func 39) #[] #[.pointer (some ⟨b1, 0, none⟩), .pointer (some ⟨b3, 0, none⟩)]] 81 (0, 0))
  refine loop2 (mk := .bool) (b0 := false) 2 (fun _ V1 => Held V V1 b1 b2 b3 b4 d s t) ⟨hV2.trans ((Mem.sub_new h1 (.cells d.row.toArray 30 (0, 0))).trans (s2.trans (s3.trans s4))), (s2.trans (s3.trans s4)) _ _ (Mem.set_same _ _ _), (s3.trans s4) _ _ (Mem.set_same _ _ _), s4 _ _ (Mem.set_same _ _ _), Mem.set_same _ _ _⟩ ?_
  clear s2 s3 s4 h1 h2 h3 h4 hV2
  rintro i b5 V9 J hi hH hJ
  refine ⟨fun hlt => ?_, fun _ => ⟨rfl, hH.sub⟩⟩
  have hi1 : i < 2 := by omega
  have hd9 := hd.sub hH.sub
  have he9 := he.sub hH.sub
  haveI hT9 : Tab V9 := hT.sub hH.sub
  obtain ⟨g, c1, c2, ask, hrow, hask, law⟩ : ∃ (g : FuncId) (c1 c2 : Value) (ask : E → ByteArray × Int), V9.rowp (some ⟨b4, 0, none⟩) (i * 1) 1 = some [.func (.func g) #[] #[c1, c2]] ∧ AskC V9 g c1 c2 ask ∧ AskLaw ask := by
    have : i = 0 ∨ i = 1 := by omega
    rcases this with rfl | rfl
    · exact ⟨_, _, _, _, row_cells hH.f 0 1 (by simp), c38 hd9 hH.a hH.b, law_exprR _⟩
    · exact ⟨_, _, _, _, row_cells hH.f 1 1 (by simp), c39 hd9 hH.a hH.c, law_measR _⟩
  refine ⟨by simp [ptrAdd], by omega, by omega, .func (.func g) #[] #[c1, c2], rfl, hrow, g, _, _, rfl, hask.1, (hask.2 V9 (Mem.sub.refl _) e he9).callv ⟨_, _, rfl, fun h0 => ?_, fun h0 => ⟨fun _ => ⟨⟨by omega, by omega⟩, hJ hi1 _ _ hH⟩, fun h => absurd (law.err e h0) h⟩⟩⟩
  refine loop2 (mk := .bool) (b0 := b5) e.k.length (fun _ V1 => V1 = V9) rfl ?_
  rintro j b6 V11 J1 hj hV11 hJ1
  obtain rfl : V9 = V11 := hV11.symm
  have hkn := he9.rows.n_eq
  refine ⟨fun hlt2 => ?_, fun _ => ⟨fun hz => ⟨⟨by omega, by omega⟩, hJ hi1 _ _ hH⟩, fun hz => ?_⟩⟩
  · obtain ⟨x, hm, hx, hdr, hl, hp, hzz, hrowx⟩ := he9.rows.get hlt2
    obtain ⟨k1, k2⟩ := law.kids e h0 x hm
    exact ⟨hp, hzz, hlt2, _, _, _, _, hrowx, g, _, _, rfl, hask.1, (hask.2 V9 (Mem.sub.refl _) x (he9.kids x hm)).callv ⟨_, _, rfl, fun _ => ⟨fun h => absurd h k2, fun _ => ⟨he9.rows.succ hlt2, hJ1 hl _ _ rfl⟩⟩, fun h => absurd k1 h⟩⟩
  · obtain ⟨i2, hi2, he2⟩ := mod_nat (n := e.l.n) hk.1 (by omega)
    obtain ⟨x, hm, hx, hdr, hl, hp, hzz, hrowx⟩ := he9.rows.get (i := i2) (by omega)
    have hcont : K.inR .i64 ((i : Int) + 1) ∧ J [.bool b6, .int .i64 ((i : Int) + 1)] V9 := ⟨⟨by omega, by omega⟩, hJ hi1 _ _ hH⟩
    rw [he2]
    refine ⟨⟨by omega, by omega⟩, hz, hp, by omega, by omega, _, _, _, _, hrowx, g, _, _, rfl, hask.1, (hask.2 V9 (Mem.sub.refl _) x (he9.kids x hm)).callv ⟨_, _, rfl, fun hb => ⟨fun h35 => ⟨fun hi => absurd (hb.symm.trans hi) (by decide), fun _ => ⟨fun _ => ?_, fun h => absurd hb h⟩⟩, fun _ => hcont⟩, fun hb => ⟨fun h35 => ⟨fun hi => ?_, fun _ => ⟨fun h => absurd h hb, fun _ => hcont⟩⟩, fun _ => hcont⟩⟩⟩
    · refine Tri.mono (c40 he9.rows (by have := law.few e h0; omega)) ?_
      rintro _ V13 ⟨s36, rfl, o36⟩
      have hn36 : s36.n = e.k.length := o36.n_eq (fun _ => rfl) (by decide)
      refine ⟨s36, rfl, own_ptr o36 (by omega), by omega, by omega, own_row (row := E.row) (fun _ => rfl) (by decide) o36 (i := i2) (by omega) (x' := xB1) rfl fun V14 o14 => ?_⟩
      have hm14 := o14.sub
      have hE14 : E.Ok V14 (setK e s36 (e.k.set i2 xB1)) := .mk (o14.rows (fun _ => rfl) (by decide)) (fun z hzm => by
        rcases List.mem_or_eq_of_mem_set hzm with hzm | rfl
        · exact (he9.kids z hzm).sub hm14
        · exact leafOk (by decide) (by decide)) he9.opR he9.nR
      have hput := law.put e x xB1 s36 i2 h0 hx (.inr ⟨pairE hb h35, rfl⟩)
      have hans := hask.2 V14 hm14 _ hE14
      rw [hput] at hans
      exact ⟨g, _, _, rfl, hask.1, hans.callv ⟨_, _, rfl, fun _ => ⟨fun _ => ⟨⟨by omega, by omega⟩, hJ hi1 _ _ (hH.grow hm14)⟩, fun h => absurd rfl h⟩, fun h => absurd h0 h⟩⟩
    · refine Tri.mono (c40 he9.rows (by have := law.few e h0; omega)) ?_
      rintro _ V13 ⟨s36, rfl, o36⟩
      have hn36 : s36.n = e.k.length := o36.n_eq (fun _ => rfl) (by decide)
      refine ⟨s36, rfl, own_ptr o36 (by omega), by omega, by omega, own_row (row := E.row) (fun _ => rfl) (by decide) o36 (i := i2) (by omega) (x' := xI7) rfl fun V14 o14 => ?_⟩
      have hm14 := o14.sub
      have hE14 : E.Ok V14 (setK e s36 (e.k.set i2 xI7)) := .mk (o14.rows (fun _ => rfl) (by decide)) (fun z hzm => by
        rcases List.mem_or_eq_of_mem_set hzm with hzm | rfl
        · exact (he9.kids z hzm).sub hm14
        · exact leafOk (by decide) (by decide)) he9.opR he9.nR
      have hput := law.put e x xI7 s36 i2 h0 hx (.inl ⟨pairE hi h35, rfl⟩)
      have hans := hask.2 V14 hm14 _ hE14
      rw [hput] at hans
      exact ⟨g, _, _, rfl, hask.1, hans.callv ⟨_, _, rfl, fun _ => ⟨fun _ => ⟨⟨by omega, by omega⟩, hJ hi1 _ _ (hH.grow hm14)⟩, fun h => absurd rfl h⟩, fun h => absurd h0 h⟩⟩
end
end Go.Proofs
