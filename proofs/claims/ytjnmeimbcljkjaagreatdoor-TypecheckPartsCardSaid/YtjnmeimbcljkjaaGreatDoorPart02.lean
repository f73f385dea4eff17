/- Part 2 of a proof of a law of this seat: no statement of the seat is proved here. -/
import Derived.Test.YtjnmeimbcljkjaaGreatDoorPart01
import Derived.Laws.Strings
set_option linter.unusedVariables false
set_option linter.unusedSimpArgs false
namespace Go.Sx
open Go
section
variable {P : Program} {O V0 : Mem} {w0 : World} {N : Nat} {β : Nat → Nat} {st : St} {ρ : List Value} {V : Mem} {a : Act} {w : World}

theorem mem_needs {ns : List T} {x : T} (hn : ∀ x ∈ ns, asB (x.ev ρ β) = true) (h : x ∈ ns) : asB (x.ev ρ β) = true := hn x h
theorem nn_some {p : T} (hk : p.kind = some .p) (hn : ∀ x ∈ nn p, asB (x.ev ρ β) = true) : ∃ q, p.ev ρ β = .pointer (some q) := by
  unfold nn at hn
  split at hn
  · exact ⟨_, rfl⟩
  · exact ⟨_, rfl⟩
  · have h1 := hn _ (List.mem_singleton.2 rfl)
    obtain ⟨q, hq⟩ := kind_p (ρ := ρ) (β := β) hk
    rw [hq]
    cases q with
    | some q => exact ⟨q, rfl⟩
    | none => simp [T.ev, U.ev, hq, asB, asP] at h1

theorem run_load_cells {t : TypeId} {cs x : T} {o b : Nat} {ty : TypeId} {fr : Nat × Nat} (hb : w.heap[b]? = some (.cells (cs.evs ρ β).toArray ty fr)) (h : partT P t cs o = some x) :
    (loadVar t ⟨b, o, none⟩).run P w = .ok (x.ev ρ β) w := by
  unfold partT at h
  split at h
  · rename_i n h1 h2
    simp only at h
    split at h
    · rename_i hl
      simp only [Option.some.injEq] at h; subst h
      have e : (takeT cs o n).map (·.ev ρ β) = ((cs.evs ρ β).drop o).take n := takeT_ev cs o n
      have hlen : (((cs.evs ρ β).drop o).take n).length = n := by rw [← e]; simpa using hl
      have := run_loadCells_list (P := P) w ⟨b, o, none⟩ (((cs.evs ρ β).drop o).take n) (fun j v hj => by
        rw [addr_add]
        simp only [World.cell?, hb, Option.isSome_none, Bool.false_eq_true, if_false]
        rw [List.getElem?_take] at hj
        split at hj
        · simpa [List.getElem?_drop] using hj
        · simp at hj)
      rw [hlen] at this
      simp only [loadVar, Sem.run_bind, run_isAggB h1, Result.andThen_ok, if_true, run_sizeOfT h2, this, Sem.run_pure, T.ev, evs_ofList, e]
    · simp at h
  · rename_i n h1 h2
    have e : (cs.evs ρ β).toArray[o]? = some (x.ev ρ β) := by simp [evs_toList, h]
    have hc : w.cell? ⟨b, o, none⟩ = some (x.ev ρ β) := by simp only [World.cell?, hb, Option.isSome_none, Bool.false_eq_true, if_false, e]
    simp only [loadVar, Sem.run_bind, run_isAggB h1, Result.andThen_ok, Bool.false_eq_true, if_false, run_load, hc]
  · simp at h

theorem run_fieldPlace {q : Addr} {fd : Field} {n : Nat} (h : sizeOfT P fd.type = some (n + 1)) : (fieldPlace q fd).run P w = .ok (q.add fd.offset) w := by
  simp [fieldPlace, run_sizeOfT h]

theorem wp_ok {s : Sem Value} {v : Value} (h : s.run P w = .ok v w) :
    (do pure (Next.value (← s)) : Sem Next).run P w = .ok (.value v) w := by
  simp only [Sem.run_bind, h, Result.andThen_ok, Sem.run_pure]

theorem byte_eq (s t : ByteArray) : (s.toList == t.toList) = decide (s = t) := by
  have key : s.toList = t.toList ↔ s = t := by
    constructor
    · intro h
      rw [ByteArray.toList_eq, ByteArray.toList_eq] at h
      cases s; cases t; simp_all
    · intro h; rw [h]
  rw [Bool.eq_iff_iff]; simp [key]

theorem inr_in {k : IntKind} {n : Int} (h : k.min ≤ n ∧ n ≤ k.max) : k.wrap n = n := by
  obtain ⟨h1, h2⟩ := h
  cases k <;> simp [IntKind.min, IntKind.max, IntKind.signed, IntKind.bits] at h1 h2 <;> simp only [IntKind.wrap, IntKind.signed, IntKind.bits] <;> simp <;> omega

theorem run_binI {op : BinOp} {k : IntKind} {x y t : T} {ns : List T} {m n : Int} {xt : TypeId} (h : binI op k x y = some (ns, t)) (hx : x.ev ρ β = .int k m) (hy : y.ev ρ β = .int k n)
    (hs : op ≠ .shl) (hs' : op ≠ .shr) (hn : ∀ z ∈ ns, asB (z.ev ρ β) = true) : (binOp op xt (.int k m) (.int k n)).run P w = .ok (t.ev ρ β) w := by
  have hcmp : ∀ (t' : T), cmpI op x y = some t' → (binOp op xt (.int k m) (.int k n)).run P w = .ok (t'.ev ρ β) w := by
    intro t' h'
    cases op <;> simp only [cmpI, Option.some.injEq, reduceCtorEq] at h' <;> subst h' <;>
      (simp only [binOp, ne_eq, not_true_eq_false, if_false, Op.intCmp]
       split
       · rename_i j1 a1 j2 b1 
         simp only [T.ev] at hx hy
         cases hx; cases hy
         simp [T.ev]
         try rfl
       · simp [T.ev, B.ev, U.ev, hx, hy, asI, asB]
         try rfl)
  cases op with
  | add =>
    simp only [binI, inr, Option.some.injEq, Prod.mk.injEq] at h; obtain ⟨rfl, rfl⟩ := h
    have h1 := hn _ (List.mem_singleton.2 rfl)
    simp only [T.ev, U.ev, B.ev, hx, hy, asI, asB, decide_eq_true_eq] at h1
    simp [binOp, Op.intArith, T.ev, B.ev, hx, hy, asI, inr_in h1]
  | sub =>
    simp only [binI, inr, Option.some.injEq, Prod.mk.injEq] at h; obtain ⟨rfl, rfl⟩ := h
    have h1 := hn _ (List.mem_singleton.2 rfl)
    simp only [T.ev, U.ev, B.ev, hx, hy, asI, asB, decide_eq_true_eq] at h1
    simp [binOp, Op.intArith, T.ev, B.ev, hx, hy, asI, inr_in h1]
  | mul =>
    simp only [binI, inr, Option.some.injEq, Prod.mk.injEq] at h; obtain ⟨rfl, rfl⟩ := h
    have h1 := hn _ (List.mem_singleton.2 rfl)
    simp only [T.ev, U.ev, B.ev, hx, hy, asI, asB, decide_eq_true_eq] at h1
    simp [binOp, Op.intArith, T.ev, B.ev, hx, hy, asI, inr_in h1]
  | quo =>
    simp only [binI, Option.some.injEq, Prod.mk.injEq] at h; obtain ⟨rfl, rfl⟩ := h
    have h1 := hn _ (List.mem_singleton.2 rfl)
    simp only [T.ev, U.ev, B.ev, hy, asI, asB, Bool.not_eq_true', decide_eq_false_iff_not] at h1
    simp [binOp, Op.intDiv, T.ev, B.ev, hx, hy, asI, h1]
  | rem =>
    simp only [binI, Option.some.injEq, Prod.mk.injEq] at h; obtain ⟨rfl, rfl⟩ := h
    have h1 := hn _ (List.mem_singleton.2 rfl)
    simp only [T.ev, U.ev, B.ev, hy, asI, asB, Bool.not_eq_true', decide_eq_false_iff_not] at h1
    simp [binOp, Op.intDiv, T.ev, B.ev, hx, hy, asI, h1]
  | and => simp only [binI, Option.some.injEq, Prod.mk.injEq] at h; obtain ⟨rfl, rfl⟩ := h; simp [binOp, intBits_and, T.ev, B.ev, hx, hy, asI]
  | or => simp only [binI, Option.some.injEq, Prod.mk.injEq] at h; obtain ⟨rfl, rfl⟩ := h; simp [binOp, intBits_or, T.ev, B.ev, hx, hy, asI]
  | xor => simp only [binI, Option.some.injEq, Prod.mk.injEq] at h; obtain ⟨rfl, rfl⟩ := h; simp [binOp, intBits_xor, T.ev, B.ev, hx, hy, asI]
  | andNot => simp only [binI, Option.some.injEq, Prod.mk.injEq] at h; obtain ⟨rfl, rfl⟩ := h; simp [binOp, intBits_andNot, T.ev, B.ev, hx, hy, asI]
  | shl => exact absurd rfl hs
  | shr => exact absurd rfl hs'
  | _ => 
    simp only [binI, Option.map_eq_some_iff, Prod.mk.injEq] at h
    obtain ⟨t', h1, rfl, rfl⟩ := h
    exact hcmp _ h1
end
end Go.Sx
namespace Go.Sx
open Go
section
variable {P : Program} {O V0 : Mem} {w0 : World} {N : Nat} {β : Nat → Nat} {st : St} {ρ : List Value} {V : Mem} {a : Act} {w : World}

theorem run_binS {op : BinOp} {x y t : T} {ns : List T} {m n : ByteArray} {xt : TypeId} (h : binS op x y = some (ns, t)) (hx : x.ev ρ β = .string m) (hy : y.ev ρ β = .string n)
    (hn : ∀ z ∈ ns, asB (z.ev ρ β) = true) : (binOp op xt (.string m) (.string n)).run P w = .ok (t.ev ρ β) w := by
  cases op with
  | add =>
    simp only [binS, inr, Option.some.injEq, Prod.mk.injEq] at h; obtain ⟨rfl, rfl⟩ := h
    have h1 := hn _ (List.mem_singleton.2 rfl)
    simp only [T.ev, U.ev, B.ev, hx, hy, asI, asB, asS, decide_eq_true_eq] at h1
    have h2 : ¬ (((m.size + n.size : Nat) : Int) > IntKind.i64.max) := by have := h1.2; omega
    simp only [binOp, Op.stringOp, h2, if_false, Sem.run_pure, T.ev, B.ev, hx, hy, asS]
  | eql => simp only [binS, Option.some.injEq, Prod.mk.injEq] at h; obtain ⟨rfl, rfl⟩ := h; simp [binOp, Op.stringOp, T.ev, B.ev, hx, hy, asS, byte_eq]
  | neq => simp only [binS, Option.some.injEq, Prod.mk.injEq] at h; obtain ⟨rfl, rfl⟩ := h; simp [binOp, Op.stringOp, T.ev, U.ev, B.ev, hx, hy, asS, asB, byte_eq]
  | lss => simp only [binS, Option.some.injEq, Prod.mk.injEq] at h; obtain ⟨rfl, rfl⟩ := h; simp [binOp, Op.stringOp, T.ev, B.ev, hx, hy, asS]
  | geq => simp only [binS, Option.some.injEq, Prod.mk.injEq] at h; obtain ⟨rfl, rfl⟩ := h; simp [binOp, Op.stringOp, T.ev, U.ev, B.ev, hx, hy, asS, asB]
  | leq => simp only [binS, Option.some.injEq, Prod.mk.injEq] at h; obtain ⟨rfl, rfl⟩ := h; simp [binOp, Op.stringOp, T.ev, B.ev, hx, hy, asS, asB, byte_eq]
  | gtr => simp only [binS, Option.some.injEq, Prod.mk.injEq] at h; obtain ⟨rfl, rfl⟩ := h; simp [binOp, Op.stringOp, T.ev, U.ev, B.ev, hx, hy, asS, asB, byte_eq]
  | _ => simp [binS] at h

theorem run_eqOr {op : BinOp} {t t' : T} {ns : List T} {xt : TypeId} {u v : Value} {b : Bool} (h : eqOr op t = some (ns, t')) (ht : t.ev ρ β = .bool b)
    (he : (Op.equal xt u v).run P w = .ok b w) (hu : ∀ k n, u ≠ .int k n) (hs : ∀ s, u ≠ .string s) (hf : ∀ k n, u ≠ .float k n) (hc : ∀ k m n, u ≠ .complex k m n) :
    (binOp op xt u v).run P w = .ok (t'.ev ρ β) w := by
  cases op <;> simp only [eqOr, Option.some.injEq, Prod.mk.injEq, reduceCtorEq] at h <;> obtain ⟨rfl, rfl⟩ := h
  · have : binOp .eql xt u v = (do pure (.bool (← Op.equal xt u v)) : Sem Value) := by
      cases u <;> first | rfl | exact absurd rfl (hu _ _) | exact absurd rfl (hs _) | exact absurd rfl (hf _ _) | exact absurd rfl (hc _ _ _) | (cases v <;> rfl)
    simp [this, he, ht]
  · have : binOp .neq xt u v = (do pure (.bool (!(← Op.equal xt u v))) : Sem Value) := by
      cases u <;> first | rfl | exact absurd rfl (hu _ _) | exact absurd rfl (hs _) | exact absurd rfl (hf _ _) | exact absurd rfl (hc _ _ _) | (cases v <;> rfl)
    simp [this, he, notT_ev, ht, asB]

theorem eqGuard_skip {op : BinOp} {xt : TypeId} {x y : Operand} {u v : Value} (h1 : u ≠ .nilIface) (h2 : ∀ c, u ≠ .agg c) : (eqGuard op xt x y u v).run P w = .ok () w := by
  cases u <;> first | exact absurd rfl h1 | exact absurd rfl (h2 _) | (unfold eqGuard; cases op <;> rfl)
theorem equal_def (t : TypeId) (x y : Value) : Op.equal t x y = Op.equalIn (9999 + 1) t x y := rfl
theorem run_equal_bool {t : TypeId} {m n : Bool} (h : P.underlying t = some .bool) : (Op.equal t (.bool m) (.bool n)).run P w = .ok (m == n) w := by
  rw [equal_def, Op.equalIn]; simp [run_underlying h]
theorem run_equal_p {t e : TypeId} {n : Option Addr} (h : P.underlying t = some (.pointer e)) : (Op.equal t (.pointer none) (.pointer n)).run P w = .ok n.isNone w := by
  rw [equal_def, Op.equalIn]; simp [run_underlying h]
theorem run_equal_p' {t e : TypeId} {n : Option Addr} (h : P.underlying t = some (.pointer e)) : (Op.equal t (.pointer n) (.pointer none)).run P w = .ok n.isNone w := by
  rw [equal_def, Op.equalIn]; cases n <;> simp [run_underlying h]
theorem run_equal_sl {t e : TypeId} {n : Option Addr} {a b c d : Nat} (h : P.underlying t = some (.slice e)) : (Op.equal t (.slice none a b) (.slice n c d)).run P w = .ok n.isNone w := by
  rw [equal_def, Op.equalIn]; simp [run_underlying h]
theorem run_equal_sl' {t e : TypeId} {n : Option Addr} {a b c d : Nat} (h : P.underlying t = some (.slice e)) : (Op.equal t (.slice n c d) (.slice none a b)).run P w = .ok n.isNone w := by
  rw [equal_def, Op.equalIn]; cases n <;> simp [run_underlying h]
theorem run_equal_m {t e f : TypeId} {n : Option Nat} (h : P.underlying t = some (.map e f)) : (Op.equal t (.map none) (.map n)).run P w = .ok n.isNone w := by
  rw [equal_def, Op.equalIn]; simp [run_underlying h]
theorem run_equal_m' {t e f : TypeId} {n : Option Nat} (h : P.underlying t = some (.map e f)) : (Op.equal t (.map n) (.map none)).run P w = .ok n.isNone w := by
  rw [equal_def, Op.equalIn]; cases n <;> simp [run_underlying h]

theorem run_binOpT {op : BinOp} {xt : TypeId} {x y : Operand} {p q t : T} {ns : List T} (h : binOpT P op xt p q = some (ns, t)) (hn : ∀ z ∈ ns, asB (z.ev ρ β) = true) :
    (do eqGuard op xt x y (p.ev ρ β) (q.ev ρ β); binOp op xt (p.ev ρ β) (q.ev ρ β) : Sem Value).run P w = .ok (t.ev ρ β) w := by
  unfold binOpT at h
  split at h
  · simp at h
  · simp at h
  · rename_i hs hs'
    split at h
    · rename_i k k' hp hq
      split at h
      · rename_i e; subst e
        obtain ⟨m, hm⟩ := kind_i (ρ := ρ) (β := β) hp
        obtain ⟨n, hn'⟩ := kind_i (ρ := ρ) (β := β) hq
        rw [hm, hn']
        rw [Sem.run_bind, eqGuard_skip (by simp) (by simp), Result.andThen_ok]
        exact run_binI h hm hn' (by intro e; exact hs e) (by intro e; exact hs' e) hn
      · simp at h
    · rename_i hp hq
      obtain ⟨m, hm⟩ := kind_s (ρ := ρ) (β := β) hp
      obtain ⟨n, hn'⟩ := kind_s (ρ := ρ) (β := β) hq
      rw [hm, hn', Sem.run_bind, eqGuard_skip (by simp) (by simp), Result.andThen_ok]
      exact run_binS h hm hn' hn
    · rename_i hp hq
      split at h
      case h_2 => simp at h
      rename_i hu'
      obtain ⟨m, hm⟩ := kind_b (ρ := ρ) (β := β) hp
      obtain ⟨n, hn'⟩ := kind_b (ρ := ρ) (β := β) hq
      rw [hm, hn', Sem.run_bind, eqGuard_skip (by simp) (by simp), Result.andThen_ok]
      exact run_eqOr (b := m == n) h (by simp [T.ev, B.ev, hm, hn', asB]) (run_equal_bool hu') (by simp) (by simp) (by simp) (by simp)
    · rename_i hp hq
      split at h
      case h_2 => simp at h
      rename_i hu'
      obtain ⟨m, hm⟩ := kind_p (ρ := ρ) (β := β) hp
      obtain ⟨n, hn'⟩ := kind_p (ρ := ρ) (β := β) hq
      unfold eqNil at h
      split at h
      · rename_i h2; subst h2
        show (do eqGuard op xt x y (Value.pointer none) (q.ev ρ β); binOp op xt (Value.pointer none) (q.ev ρ β) : Sem Value).run P w = _
        rw [hn', Sem.run_bind, eqGuard_skip (by simp) (by simp), Result.andThen_ok]
        exact run_eqOr (b := n.isNone) h (by simp [T.ev, U.ev, hn', asP]) (run_equal_p hu') (by simp) (by simp) (by simp) (by simp)
      · split at h
        case isFalse => simp at h
        rename_i h2; subst h2
        show (do eqGuard op xt x y (p.ev ρ β) (Value.pointer none); binOp op xt (p.ev ρ β) (Value.pointer none) : Sem Value).run P w = _
        rw [hm, Sem.run_bind, eqGuard_skip (by simp) (by simp), Result.andThen_ok]
        exact run_eqOr (b := m.isNone) h (by simp [T.ev, U.ev, hm, asP]) (run_equal_p' hu') (by simp) (by simp) (by simp) (by simp)
    · rename_i hp hq
      split at h
      case h_2 => simp at h
      rename_i hu'
      obtain ⟨m, m2, m3, hm⟩ := kind_sl (ρ := ρ) (β := β) hp
      obtain ⟨n, n2, n3, hn'⟩ := kind_sl (ρ := ρ) (β := β) hq
      unfold eqNil at h
      split at h
      · rename_i h2; subst h2
        show (do eqGuard op xt x y (Value.slice none 0 0) (q.ev ρ β); binOp op xt (Value.slice none 0 0) (q.ev ρ β) : Sem Value).run P w = _
        rw [hn', Sem.run_bind, eqGuard_skip (by simp) (by simp), Result.andThen_ok]
        exact run_eqOr (b := n.isNone) h (by simp [T.ev, U.ev, hn', asP]) (run_equal_sl hu') (by simp) (by simp) (by simp) (by simp)
      · split at h
        case isFalse => simp at h
        rename_i h2; subst h2
        show (do eqGuard op xt x y (p.ev ρ β) (Value.slice none 0 0); binOp op xt (p.ev ρ β) (Value.slice none 0 0) : Sem Value).run P w = _
        rw [hm, Sem.run_bind, eqGuard_skip (by simp) (by simp), Result.andThen_ok]
        exact run_eqOr (b := m.isNone) h (by simp [T.ev, U.ev, hm, asP]) (run_equal_sl' hu') (by simp) (by simp) (by simp) (by simp)
    · rename_i hp hq
      split at h
      case h_2 => simp at h
      rename_i hu'
      obtain ⟨m, hm⟩ := kind_m (ρ := ρ) (β := β) hp
      obtain ⟨n, hn'⟩ := kind_m (ρ := ρ) (β := β) hq
      unfold eqNil at h
      split at h
      · rename_i h2; subst h2
        show (do eqGuard op xt x y (Value.map none) (q.ev ρ β); binOp op xt (Value.map none) (q.ev ρ β) : Sem Value).run P w = _
        rw [hn', Sem.run_bind, eqGuard_skip (by simp) (by simp), Result.andThen_ok]
        exact run_eqOr (b := n.isNone) h (by simp [T.ev, U.ev, hn', asM]) (run_equal_m hu') (by simp) (by simp) (by simp) (by simp)
      · split at h
        case isFalse => simp at h
        rename_i h2; subst h2
        show (do eqGuard op xt x y (p.ev ρ β) (Value.map none); binOp op xt (p.ev ρ β) (Value.map none) : Sem Value).run P w = _
        rw [hm, Sem.run_bind, eqGuard_skip (by simp) (by simp), Result.andThen_ok]
        exact run_eqOr (b := m.isNone) h (by simp [T.ev, U.ev, hm, asM]) (run_equal_m' hu') (by simp) (by simp) (by simp) (by simp)
    · simp at h
end
end Go.Sx
namespace Go.Sx
open Go
section
variable {P : Program} {O V0 : Mem} {w0 : World} {N : Nat} {β : Nat → Nat} {st : St} {ρ : List Value} {V : Mem} {a : Act} {w : World}

theorem cellsT_ev {t : T} (h : (kindsT t.cellsT).isSome = true) : (t.ev ρ β).cells.toList = t.cellsT.evs ρ β := by
  have key : ∀ s : T, s.cellsT = .cons s .nil → (kindsT s.cellsT).isSome = true → (s.ev ρ β).cells.toList = s.cellsT.evs ρ β := by
    intro s hs hk
    rw [hs] at hk ⊢
    simp only [kindsT] at hk
    cases hq : s.kind with
    | none => simp [hq] at hk
    | some k =>
      have h1 := K.ok_one (T.kind_ok (ρ := ρ) (β := β) s k hq)
      simp only [T.evs]
      generalize s.ev ρ β = v at h1 ⊢
      cases v <;> first | rfl | simp [oneCell] at h1
  cases t with
  | agg cs => simp [T.cellsT, T.ev, Value.cells]
  | _ => exact key _ rfl h

theorem foldl_set : ∀ (vs : List Value) (k off : Nat) (cs : List Value), off + k + vs.length ≤ cs.length →
    (vs.zipIdx k).foldl (fun cs (x : Value × Nat) => cs.setIfInBounds (off + x.2) x.1) cs.toArray = (cs.take (off + k) ++ vs ++ cs.drop (off + k + vs.length)).toArray
  | [], k, off, cs, _ => by simp
  | v :: vs, k, off, cs, h => by
    simp only [List.length_cons] at h
    have ih := foldl_set vs (k + 1) off (cs.set (off + k) v) (by simp; omega)
    simp only [List.zipIdx_cons, List.foldl_cons, List.setIfInBounds_toArray]
    rw [ih]
    congr 1
    apply List.ext_getElem?
    intro j
    simp only [List.getElem?_append, List.length_append, List.length_take, List.length_set, List.getElem?_take, List.getElem?_drop, List.getElem?_set, List.length_cons]
    by_cases h1 : j < off + k
    · have e1 : min (off + (k + 1)) cs.length = off + k + 1 := by omega
      have e2 : min (off + k) cs.length = off + k := by omega
      simp [e1, e2, show j < off + k + 1 by omega, h1, show j < off + (k + 1) by omega, show ¬ off + k = j by omega, show j < off + k + 1 + vs.length by omega, show j < off + k + (vs.length + 1) by omega]
    · by_cases h2 : j = off + k
      · subst h2
        have e1 : min (off + (k + 1)) cs.length = off + k + 1 := by omega
        have e2 : min (off + k) cs.length = off + k := by omega
        simp [e1, e2, show off + k < off + k + 1 + vs.length by omega, show off + k < off + k + (vs.length + 1) by omega, show off + k < off + (k + 1) by omega]
        omega
      · have e1 : min (off + (k + 1)) cs.length = off + k + 1 := by omega
        have e2 : min (off + k) cs.length = off + k := by omega
        simp only [e1, e2]
        by_cases h3 : j < off + k + 1 + vs.length
        · simp [h3, show ¬ j < off + k + 1 by omega, show j < off + k + (vs.length + 1) by omega, h1]
          rw [show j - (off + k) = (j - (off + k + 1)) + 1 by omega]; simp
        · simp [h3, show ¬ j < off + k + (vs.length + 1) by omega, show ¬ off + k = off + (k + 1) + vs.length + (j - (off + k + 1 + vs.length)) by omega]
          congr 1; omega

theorem fillT_ev {place : Nat → Option (Nat × Nat)} : ∀ {ps : List (Nat × T)} {cells cs : List T}, fillT place cells ps = some cs →
    Instr.fill place (cells.map (·.ev ρ β)).toArray (ps.map fun x => (x.1, x.2.ev ρ β)) = some (cs.map (·.ev ρ β)).toArray
  | [], cells, cs, h => by simp only [fillT, Option.some.injEq] at h; subst h; rfl
  | (i, t) :: ps, cells, cs, h => by
    simp only [fillT] at h
    split at h
    · simp at h
    · rename_i off size hp
      split at h
      · rename_i hc
        obtain ⟨h1, h2, h3⟩ := hc
        have ih := fillT_ev h
        have hcells := cellsT_ev (ρ := ρ) (β := β) h3
        have hl : ((t.ev ρ β).cells.toList).length = size := by rw [hcells, evs_toList]; simpa using h1
        have hsz : (t.ev ρ β).cells.size = size := by simpa using hl
        simp only [List.map_cons, Instr.fill, hp, hsz, ne_eq, not_true_eq_false, List.size_toArray, List.length_map, decide_false, Bool.false_or, gt_iff_lt, decide_eq_true_eq]
        rw [if_neg (by omega)]
        have hf : (t.ev ρ β).cells.zipIdx.foldl (fun cs (x : Value × Nat) => cs.setIfInBounds (off + x.2) x.1) (cells.map (·.ev ρ β)).toArray =
            ((cells.take off ++ t.cellsT.toList ++ cells.drop (off + size)).map (·.ev ρ β)).toArray := by
          rw [← Array.foldl_toList, Array.toList_zipIdx, foldl_set _ 0 off _ (by simp at hl ⊢; omega)]
          rw [hcells, evs_toList]
          simp [List.map_take, List.map_drop, h1]
        rw [hf]
        exact ih
      · simp at h

theorem partsT_ev (h : Rel O V0 w0 N β st ρ V a.tmps w) : ∀ {l : List (Nat × Operand)} {ps : List (Nat × T)}, partsT st l = some ps → l.map (fun x => (x.1, a.eval x.2)) = ps.map fun x => (x.1, x.2.ev ρ β)
  | [], ps, ho => by simp only [partsT, Option.some.injEq] at ho; subst ho; rfl
  | (i, o) :: l, ps, ho => by
    simp only [partsT] at ho
    split at ho
    · rename_i t ts' h1 h2
      simp only [Option.some.injEq] at ho; subst ho
      simp only [List.map_cons, opT_ev h h1, partsT_ev h h2]
    · simp at ho

theorem places_eq (fs : List Field) (h : fs.all (fun f => (sizeOfT P f.type).isSome) = true) : ∃ places : List (Nat × Nat), fs.mapM (fun (f : Field) => (P.info? f.type).map fun i => (f.offset, i.size)) = some places ∧
    ∀ i : Nat, places[i]? = (fs[i]?).bind fun (f : Field) => (sizeOfT P f.type).map fun s => (f.offset, s) := by
  induction fs with
  | nil => exact ⟨[], rfl, fun i => by simp⟩
  | cons f fs ih =>
    simp only [List.all_cons, Bool.and_eq_true] at h
    obtain ⟨pl, h1, h2⟩ := ih h.2
    cases hi : P.info? f.type with
    | none => simp [sizeOfT, hi] at h
    | some inf =>
      refine ⟨(f.offset, inf.size) :: pl, by simp [List.mapM_cons, hi, h1], fun i => ?_⟩
      cases i with
      | zero => simp [sizeOfT, hi]
      | succ i => simpa using h2 i

theorem run_buildT {t : TypeId} {fs : Array Field} {z cs : List T} {parts : Array (Nat × Operand)} {ps : List (Nat × T)} (hr : Rel O V0 w0 N β st ρ V a.tmps w) (hu : P.underlying t = some (.struct fs))
    (hz : zeroCellsT P t = some z) (hp : partsT st parts.toList = some ps) (hs : fs.toList.all (fun f => (sizeOfT P f.type).isSome) = true) (hf : fillT (fieldPlaces P fs) z ps = some cs) :
    (Instr.build t (parts.map fun (i, x) => (i, a.eval x))).run P w = .ok (.agg (cs.map (·.ev ρ β)).toArray) w := by
  apply run_build
  unfold Program.built
  unfold zeroCellsT zeroOf at hz
  cases hi : P.info? t with
  | none => simp [hi] at hz
  | some it =>
    simp only [hi, Option.bind_some] at hz
    cases hzv : it.zero with
    | none => simp [hzv] at hz
    | some zv =>
      simp only [hzv, Option.bind_some] at hz
      obtain ⟨pl, h1, h2⟩ := places_eq fs.toList hs
      simp only [hu, hzv, h1]
      have e1 : (fun i => pl.toArray[i]?) = fieldPlaces P fs := by
        funext i
        have := h2 i
        simp only [List.getElem?_toArray, fieldPlaces, this, Array.getElem?_toList]
      have e2 : z.map (·.ev ρ β) = zv.cells.toList := scalTs_ev hz
      have e3 := partsT_ev hr hp
      have := fillT_ev (ρ := ρ) (β := β) hf
      rw [e2] at this
      rw [e1, show (parts.map fun (i, x) => (i, a.eval x)).toList = ps.map (fun x => (x.1, x.2.ev ρ β)) by rw [← e3, Array.toList_map]]
      simpa using this

theorem asB_not {x : T} : asB ((T.u .not x).ev ρ β) = true ↔ asB (x.ev ρ β) = false := by simp [T.ev, U.ev, asB]

theorem run_indexAtT {t e : TypeId} {s j : T} {k : IntKind} {sz : Nat} (hu : P.underlying t = some (.slice e)) (hs : s.kind = some .sl) (hj : j.kind = some (.i k)) (hz : sizeOfT P e = some sz)
    (hn : ∀ z ∈ nn (slBase s) ++ [.b2 .le (.int .i64 0) j, .b2 .lt j (slLen s)], asB (z.ev ρ β) = true) :
    (Instr.indexAt t (s.ev ρ β) (j.ev ρ β)).run P w = .ok ((paddT e sz (slBase s) j).ev ρ β) w := by
  obtain ⟨p, n, c, hp⟩ := kind_sl (ρ := ρ) (β := β) hs
  obtain ⟨i, hi⟩ := kind_i (ρ := ρ) (β := β) hj
  have h1 := hn (.b2 .le (.int .i64 0) j) (by simp)
  have h2 := hn (.b2 .lt j (slLen s)) (by simp)
  simp only [T.ev, B.ev, hi, asI, asB, decide_eq_true_eq, slLen_ev, hp, asLen] at h1 h2
  have hb : asP ((slBase s).ev ρ β) = p := by rw [slBase_asP s hs, hp, asP]
  have hp' : ∃ q, p = some q := by
    have hk : (slBase s).kind = some .p ∨ ∃ a b c, s = .c3 .slc a b c := by
      unfold slBase; split
      · exact .inr ⟨_, _, _, rfl⟩
      · exact .inl rfl
    have hne : asP ((slBase s).ev ρ β) ≠ none := by
      unfold nn at hn
      intro h0
      split at hn
      · simp [*, T.ev, asP] at h0
      · simp [*, T.ev, asP] at h0
      · have h3 := hn _ (List.mem_append_left _ (List.mem_singleton.2 rfl))
        simp [T.ev, U.ev, asB, h0] at h3
    rw [hb] at hne
    cases p with
    | none => exact absurd rfl hne
    | some q => exact ⟨q, rfl⟩
  obtain ⟨q, rfl⟩ := hp'
  obtain ⟨h3, q', h4⟩ := paddT_ev (ρ := ρ) (β := β) e sz (slBase s) j
  rw [hb, hi] at h3
  simp only [asI, ptrAdd, Option.map_some] at h3
  rw [h4] at h3 ⊢
  simp only [asP] at h3; subst h3
  rw [hp, hi]
  simp [Instr.indexAt, run_underlying hu, asIntOf, h1, h2, run_sizeOfT hz]

theorem sbyte_at {s : ByteArray} {i : Int} (h0 : 0 ≤ i) (h1 : i < s.size) : ∃ b, s[i.toNat]? = some b ∧ sbyte s i = b.toNat := by
  have hlt : i.toNat < s.size := by omega
  have h2 : s.data[i.toNat]? = some (s.data[i.toNat]'(by simpa using hlt)) := Array.getElem?_eq_getElem _
  refine ⟨s.data[i.toNat]'(by simpa using hlt), ?_, by simp [sbyte, h2]⟩
  rw [getElem?_pos s i.toNat hlt]; rfl
theorem run_indexT {t : TypeId} {s j : T} {k : IntKind} (hu : P.underlying t = some .string) (hs : s.kind = some .s) (hj : j.kind = some (.i k)) (hn : asB ((T.b2 .sidxok s j).ev ρ β) = true) :
    (Instr.index t (s.ev ρ β) (j.ev ρ β)).run P w = .ok ((T.b2 .sidx s j).ev ρ β) w := by
  obtain ⟨b, hb⟩ := kind_s (ρ := ρ) (β := β) hs
  obtain ⟨i, hi⟩ := kind_i (ρ := ρ) (β := β) hj
  simp only [T.ev, B.ev, hb, hi, asB, asS, asI, decide_eq_true_eq] at hn
  obtain ⟨c, h1, h2⟩ := sbyte_at hn.1 hn.2
  simp [Instr.index, run_underlying hu, asIntOf, hb, hi, hn.1, h1, T.ev, B.ev, asS, asI, h2]

theorem run_sliceS {t : TypeId} {s l h : T} {j k : IntKind} {lo hi : Option Operand} (hu : P.underlying t = some .string) (hs : s.kind = some .s) (hl : l.kind = some (.i j)) (hh : h.kind = some (.i k))
    (el : lo.map a.eval = some (l.ev ρ β) ∨ lo = none ∧ l = .int .i64 0) (eh : hi.map a.eval = some (h.ev ρ β) ∨ hi = none ∧ h = .u .slen s) (hn : asB ((T.c3 .bnd l h (.u .slen s)).ev ρ β) = true) :
    (Instr.sliceAt t (s.ev ρ β) (lo.map a.eval) (hi.map a.eval) none).run P w = .ok ((T.c3 .ssub s l h).ev ρ β) w := by
  obtain ⟨b, hb⟩ := kind_s (ρ := ρ) (β := β) hs
  obtain ⟨x, hx⟩ := kind_i (ρ := ρ) (β := β) hl
  obtain ⟨y, hy⟩ := kind_i (ρ := ρ) (β := β) hh
  simp only [T.ev, C.ev, U.ev, hb, hx, hy, asB, asS, asI, decide_eq_true_eq] at hn
  obtain ⟨h1, h2, h3⟩ := hn
  obtain ⟨x, rfl⟩ := Int.eq_ofNat_of_zero_le h1
  obtain ⟨y, rfl⟩ := Int.eq_ofNat_of_zero_le (show 0 ≤ y by omega)
  have g2 : x ≤ y := by omega
  have g3 : y ≤ b.size := by omega
  rcases el with el | ⟨rfl, rfl⟩ <;> rcases eh with eh | ⟨rfl, rfl⟩
  · simp [Instr.sliceAt, run_underlying hu, Instr.slice, Instr.sliceBounds, Instr.sliceBound, asIntOf, el, eh, hb, hx, hy, g2, g3, T.ev, C.ev, asS, asI]
  · simp only [T.ev, U.ev, hb, asS, Value.int.injEq, Int.natCast_inj] at hy
    obtain ⟨-, rfl⟩ := hy
    simp [Instr.sliceAt, run_underlying hu, Instr.slice, Instr.sliceBounds, Instr.sliceBound, asIntOf, el, hb, hx, g2, T.ev, C.ev, U.ev, asS, asI]
  · simp [Instr.sliceAt, run_underlying hu, Instr.slice, Instr.sliceBounds, Instr.sliceBound, asIntOf, eh, hb, hy, g3, T.ev, C.ev, asS, asI]
  · simp [Instr.sliceAt, run_underlying hu, Instr.slice, Instr.sliceBounds, hb, T.ev, C.ev, U.ev, asS, asI]

theorem run_sliceL {t e : TypeId} {s l h : T} {j k : IntKind} {sz : Nat} {lo hi : Option Operand} (hu : P.underlying t = some (.slice e)) (hz : sizeOfT P e = some sz) (hs : s.kind = some .sl) (hl : l.kind = some (.i j)) (hh : h.kind = some (.i k))
    (el : lo.map a.eval = some (l.ev ρ β) ∨ lo = none ∧ l = .int .i64 0) (eh : hi.map a.eval = some (h.ev ρ β) ∨ hi = none ∧ h = slLen s) (hn : asB ((T.c3 .bnd l h (slCap s)).ev ρ β) = true) :
    (Instr.sliceAt t (s.ev ρ β) (lo.map a.eval) (hi.map a.eval) none).run P w =
      .ok ((T.c3 .slc (.c3 (.slp sz) (slBase s) l (slCap s)) (.b2 (.sub .i64) h l) (.b2 (.sub .i64) (slCap s) l)).ev ρ β) w := by
  obtain ⟨p, n, c, hb⟩ := kind_sl (ρ := ρ) (β := β) hs
  obtain ⟨x, hx⟩ := kind_i (ρ := ρ) (β := β) hl
  obtain ⟨y, hy⟩ := kind_i (ρ := ρ) (β := β) hh
  have hbase := slBase_asP (ρ := ρ) (β := β) s hs
  simp only [T.ev, C.ev, slCap_ev, hb, hx, hy, asB, asI, asCap, decide_eq_true_eq] at hn
  obtain ⟨h1, h2, h3⟩ := hn
  obtain ⟨x, rfl⟩ := Int.eq_ofNat_of_zero_le h1
  obtain ⟨y, rfl⟩ := Int.eq_ofNat_of_zero_le (show 0 ≤ y by omega)
  have g2 : x ≤ y := by omega
  have g3 : y ≤ c := by omega
  have hv : (T.c3 .slc (.c3 (.slp sz) (slBase s) l (slCap s)) (.b2 (.sub .i64) h l) (.b2 (.sub .i64) (slCap s) l)).ev ρ β =
      .slice (if c = x then p else ptrAdd p (x * sz)) (y - x) (c - x) := by
    rw [hb] at hbase
    simp only [T.ev, C.ev, B.ev, hbase, slCap_ev, hb, hx, hy]
    simp only [asI, asP, asCap, Int.natCast_inj, Int.toNat_natCast]
    congr 1 <;> omega
  have hgen : ((Instr.sliceBounds true n c (lo.map a.eval) (hi.map a.eval) none).run P w : Result (Nat × Nat × Nat)) = .ok (x, y, c) w := by
    rcases el with el | ⟨rfl, rfl⟩ <;> rcases eh with eh | ⟨rfl, rfl⟩
    · simp [Instr.sliceBounds, Instr.sliceBound, asIntOf, el, eh, hx, hy, g2, g3]
    · rw [slLen_ev, hb] at hy
      simp only [asLen, Value.int.injEq, Int.natCast_inj] at hy
      obtain ⟨-, rfl⟩ := hy
      simp [Instr.sliceBounds, Instr.sliceBound, asIntOf, el, hx, g2]
    · simp only [T.ev, Value.int.injEq] at hx
      obtain ⟨-, hx⟩ := hx
      obtain rfl : x = 0 := by omega
      simp [Instr.sliceBounds, Instr.sliceBound, asIntOf, eh, hy, g3]
    · simp only [T.ev, Value.int.injEq] at hx
      obtain ⟨-, hx⟩ := hx
      obtain rfl : x = 0 := by omega
      rw [slLen_ev, hb] at hy
      simp only [asLen, Value.int.injEq, Int.natCast_inj] at hy
      obtain ⟨-, rfl⟩ := hy
      simp [Instr.sliceBounds]
  rw [hv, hb]
  simp only [Instr.sliceAt, Sem.run_bind, run_underlying hu, Result.andThen_ok, Instr.slice, hgen, run_sizeOfT hz, Sem.run_pure]
  rfl
end
end Go.Sx
namespace Go.Sx
open Go
section
variable {P : Program} {O V0 : Mem} {w0 : World} {N : Nat} {β : Nat → Nat} {st : St} {ρ : List Value} {V : Mem} {a : Act} {w : World}

theorem sbyte_range (s : ByteArray) (i : Int) : 0 ≤ sbyte s i ∧ sbyte s i ≤ 255 := by
  unfold sbyte
  cases h : s.data[i.toNat]? with
  | none => simp
  | some b => simp only [Option.map_some, Option.getD_some]; have := b.toNat_lt; omega

theorem lohi {st : St} {lo : Option Operand} {d l : T} (hr : Rel O V0 w0 N β st ρ V a.tmps w) (h : (match lo with | some l => opT st l | none => some d) = some l) :
    lo.map a.eval = some (l.ev ρ β) ∨ lo = none ∧ l = d := by
  cases lo with
  | some x => exact .inl (by simp only [Option.map_some, opT_ev hr h])
  | none => simp only [Option.some.injEq] at h; exact .inr ⟨rfl, h.symm⟩

theorem pur_sound (hr : Rel O V0 w0 N β st ρ V a.tmps w) {o : Oper} {ns : List T} {t : T} (h : pur P st o.op = some (ns, t)) (hn : ∀ x ∈ ns, asB (x.ev ρ β) = true) :
    (execOp a.eval o).run P w = .ok (.value (t.ev ρ β)) w := by
  unfold execOp
  generalize o.op = op at h ⊢
  cases op with
  | move x =>
    simp only [pur, Option.map_eq_some_iff, Prod.mk.injEq] at h
    obtain ⟨t', h1, rfl, rfl⟩ := h
    simp only [Sem.run_pure, opT_ev hr h1]
  | assign x =>
    simp only [pur, Option.map_eq_some_iff, Prod.mk.injEq] at h
    obtain ⟨t', h1, rfl, rfl⟩ := h
    simp only [Sem.run_pure, opT_ev hr h1]
  | pick c x y =>
    simp only [pur] at h
    split at h
    · rename_i v p q h1 h2 h3
      simp only [Option.some.injEq, Prod.mk.injEq] at h
      obtain ⟨rfl, rfl⟩ := h
      simp only [opT_ev hr h1, opT_ev hr h2, opT_ev hr h3, T.ev, asBool, Sem.run_bind, Sem.run_pure, Result.andThen_ok]
      cases v <;> rfl
    · simp at h
  | load ty x =>
    simp only [pur] at h
    split at h
    · rename_i i off h1
      cases hb : st.box i with
      | none => simp [hb] at h
      | some cs =>
        obtain ⟨cs, e⟩ := cs
        simp only [hb, Option.bind_some, Option.map_eq_some_iff, Prod.mk.injEq] at h
        obtain ⟨t', h2, rfl, rfl⟩ := h
        have hB := (hr.boxes i cs e hb).1
        have := run_load_cells (P := P) hB h2
        simp only [opT_ev hr h1, T.ev, Instr.loadAt, Instr.sureAddr, Sem.run_bind, Sem.run_pure, Result.andThen_ok, this]
    · simp at h
  | fieldAddr s x f =>
    simp only [pur] at h
    split at h
    · rename_i fs p hu h1
      cases hf : fs[f]? with
      | none => simp [hf] at h
      | some fd =>
        simp only [hf, Option.bind_some] at h
        split at h
        · rename_i m hs
          split at h
          · rename_i hk
            simp only [Option.some.injEq, Prod.mk.injEq] at h
            obtain ⟨rfl, rfl⟩ := h
            obtain ⟨q, hq⟩ := nn_some hk hn
            rw [poff_ev _ _ ⟨_, hq⟩, hq]
            simp only [opT_ev hr h1, hq, Instr.fieldAt, Sem.run_bind, run_underlying hu, Result.andThen_ok, hf, Instr.sureAddr, Sem.run_pure, run_fieldPlace hs, asP, ptrAdd, Option.map_some]
          · simp at h
        · simp at h
    · simp at h
  | indexAddr ty x i =>
    simp only [pur] at h
    split at h
    · rename_i e s j hu h1 h2
      split at h
      · rename_i k sz hs hj hz
        simp only [Option.some.injEq, Prod.mk.injEq] at h
        obtain ⟨rfl, rfl⟩ := h
        simp only [opT_ev hr h1, opT_ev hr h2, Sem.run_bind, run_indexAtT hu hs hj hz hn, Result.andThen_ok, Sem.run_pure]
      · simp at h
    · simp at h
  | index ty x i =>
    simp only [pur] at h
    split at h
    · rename_i s j hu h1 h2
      split at h
      · rename_i k hs hj
        simp only [Option.some.injEq, Prod.mk.injEq] at h
        obtain ⟨rfl, rfl⟩ := h
        simp only [opT_ev hr h1, opT_ev hr h2, Sem.run_bind, run_indexT hu hs hj (hn _ (List.mem_singleton.2 rfl)), Result.andThen_ok, Sem.run_pure]
      · simp at h
    · simp at h
  | binOp b xt x y yt =>
    simp only [pur] at h
    split at h
    · rename_i p q h1 h2
      have := run_binOpT (P := P) (x := x) (y := y) (w := w) h hn
      simp only [opT_ev hr h1, opT_ev hr h2]
      rw [Sem.run_bind, this]
      rfl
    · simp at h
  | unOp u xt x =>
    simp only [pur] at h
    split at h
    · rename_i t' h1
      split at h
      · rename_i hk
        simp only [Option.some.injEq, Prod.mk.injEq] at h
        obtain ⟨rfl, rfl⟩ := h
        obtain ⟨b, hb⟩ := kind_b (ρ := ρ) (β := β) hk
        simp [opT_ev hr h1, hb, Op.unary, notT_ev, asB]
      · simp at h
    · rename_i t' h1
      split at h
      · rename_i k hk
        simp only [inr, Option.some.injEq, Prod.mk.injEq] at h
        obtain ⟨rfl, rfl⟩ := h
        obtain ⟨m, hm⟩ := kind_i (ρ := ρ) (β := β) hk
        have h3 := hn _ (List.mem_singleton.2 rfl)
        simp only [T.ev, U.ev, hm, asI, asB, decide_eq_true_eq] at h3
        simp only [opT_ev hr h1, hm, Op.unary, Op.intArith, Sem.run_bind, Sem.run_pure, Result.andThen_ok, T.ev, U.ev, asI, inr_in h3]
      · simp at h
    · simp at h
  | convert src dst x =>
    simp only [pur] at h
    split at h
    · rename_i k0 k t' hu1 hu2 h1
      split at h
      · rename_i j hk
        obtain ⟨m, hm⟩ := kind_i (ρ := ρ) (β := β) hk
        have key : k.wrap m = m → ((do pure (Next.value (← convert src dst (a.eval x))) : Sem Next).run P w) = .ok (.value (.int k m)) w := fun e => by
          simp only [opT_ev hr h1, hm, Sem.run_bind, convert, run_underlying hu1, run_underlying hu2, Result.andThen_ok, Conv.intToInt, Sem.run_pure, e]
        split at h
        · rename_i e; subst e
          simp only [inr, Option.some.injEq, Prod.mk.injEq] at h
          obtain ⟨rfl, rfl⟩ := h
          have h3 := hn _ (List.mem_singleton.2 rfl)
          simp only [T.ev, U.ev, hm, asI, asB, decide_eq_true_eq] at h3
          rw [hm]; exact key (inr_in h3)
        · simp only [inr, Option.some.injEq, Prod.mk.injEq] at h
          obtain ⟨rfl, rfl⟩ := h
          have h3 := hn _ (List.mem_singleton.2 rfl)
          simp only [T.ev, U.ev, hm, asI, asB, decide_eq_true_eq] at h3
          simp only [T.ev, U.ev, hm, asI]; exact key (inr_in h3)
      · simp at h
    · rename_i t' hu1 hu2 h1
      split at h
      · rename_i hk
        simp only [Option.some.injEq, Prod.mk.injEq] at h
        obtain ⟨rfl, rfl⟩ := h
        obtain ⟨m, hm⟩ := kind_s (ρ := ρ) (β := β) hk
        simp only [opT_ev hr h1, hm, Sem.run_bind, convert, run_underlying hu1, run_underlying hu2, Result.andThen_ok, Sem.run_pure]
      · simp at h
    · simp at h
  | build ty parts =>
    simp only [pur] at h
    split at h
    · rename_i fs z ps hu hz hp
      split at h
      · rename_i hs
        simp only [Option.map_eq_some_iff, Prod.mk.injEq] at h
        obtain ⟨cs, hf, rfl, rfl⟩ := h
        simp only [Sem.run_bind, run_buildT hr hu hz hp hs hf, Result.andThen_ok, Sem.run_pure, T.ev, evs_ofList]
      · simp at h
    · simp at h
  | field xt x f =>
    simp only [pur] at h
    split at h
    · rename_i fs cs hu h1
      cases hf : fs[f]? with
      | none => simp [hf] at h
      | some fd =>
        simp only [hf, Option.bind_some, Option.map_eq_some_iff, Prod.mk.injEq] at h
        obtain ⟨t', h2, rfl, rfl⟩ := h
        simp only [opT_ev hr h1, T.ev, Instr.field, Sem.run_bind, run_underlying hu, Result.andThen_ok, hf, asAgg, Sem.run_pure, run_partT h2]
    · simp at h
  | extract x i =>
    simp only [pur] at h
    split at h
    · rename_i cs h1
      simp only [Option.map_eq_some_iff, Prod.mk.injEq] at h
      obtain ⟨t', h2, rfl, rfl⟩ := h
      have : (cs.evs ρ β).toArray[i]? = some (t'.ev ρ β) := by simp [evs_toList, h2]
      simp [opT_ev hr h1, T.ev, Instr.extract, this]
    · simp at h
  | makeFunc fn first captured =>
    simp only [pur] at h
    split at h
    · rename_i f ts h1
      split at h
      · rename_i he
        simp only [Option.some.injEq, Prod.mk.injEq] at h
        obtain ⟨rfl, rfl⟩ := h
        have e1 : first = #[] := by simpa using he
        subst e1
        have e2 : captured.map a.eval = (ts.map (·.ev ρ β)).toArray := by
          apply Array.ext'; rw [Array.toList_map, opTs_ev hr h1]
        simp [Instr.makeFunc, T.ev, evs_ofList, e2]
      · simp at h
    · simp at h
  | nilCheck x =>
    simp only [pur] at h
    split at h
    · rename_i f cs h1
      simp only [Option.some.injEq, Prod.mk.injEq] at h
      obtain ⟨rfl, rfl⟩ := h
      simp only [opT_ev hr h1, T.ev, Sem.run_pure]
    · rename_i p _ h1
      split at h
      · rename_i hk
        simp only [Option.some.injEq, Prod.mk.injEq] at h
        obtain ⟨rfl, rfl⟩ := h
        obtain ⟨q, hq⟩ := nn_some hk hn
        simp only [opT_ev hr h1, hq, Sem.run_pure]
      · simp at h
    · simp at h
  | slice ty x lo hi mx =>
    simp only [pur] at h
    split at h
    · rename_i s hu h1
      split at h
      · rename_i l hh hs hl hhi
        split at h
        · rename_i j k hlk hhk
          simp only [Option.some.injEq, Prod.mk.injEq] at h
          obtain ⟨rfl, rfl⟩ := h
          simp only [opT_ev hr h1, Option.map_none, Sem.run_bind, run_sliceS hu hs hlk hhk (lohi hr hl) (lohi hr hhi) (hn _ (List.mem_singleton.2 rfl)), Result.andThen_ok, Sem.run_pure]
        · simp at h
      · simp at h
    · rename_i e s hu h1
      split at h
      · rename_i sz l hh hs hz hl hhi
        split at h
        · rename_i j k hlk hhk
          simp only [Option.some.injEq, Prod.mk.injEq] at h
          obtain ⟨rfl, rfl⟩ := h
          simp only [opT_ev hr h1, Option.map_none, Sem.run_bind, run_sliceL hu hz hs hlk hhk (lohi hr hl) (lohi hr hhi) (hn _ (List.mem_singleton.2 rfl)), Result.andThen_ok, Sem.run_pure]
        · simp at h
      · simp at h
    · simp at h
  | call c =>
    simp only [pur] at h
    have hargs : ∀ {x : T}, opTs st c.args.toList = some [x] → c.args.map a.eval = #[x.ev ρ β] := fun {x} h1 => by
      apply Array.ext'; rw [Array.toList_map, opTs_ev hr h1]; rfl
    split at h
    · rename_i x ty hc h1 h2
      have ht : c.argTypes = #[ty] := by apply Array.ext'; rw [h2]
      split at h
      · rename_i e hk hu
        simp only [Option.some.injEq, Prod.mk.injEq] at h
        obtain ⟨rfl, rfl⟩ := h
        obtain ⟨p, n, cp, hx⟩ := kind_sl (ρ := ρ) (β := β) hk
        simp only [resolve, hc, hargs h1, ht, Sem.run_bind, Sem.run_pure, Result.andThen_ok, invoke, builtin, hx, slLen_ev, asLen]
        simp [Builtin.len_, run_underlying hu, goInt]
      · rename_i hk hu
        simp only [Option.some.injEq, Prod.mk.injEq] at h
        obtain ⟨rfl, rfl⟩ := h
        obtain ⟨s, hx⟩ := kind_s (ρ := ρ) (β := β) hk
        simp only [resolve, hc, hargs h1, ht, Sem.run_bind, Sem.run_pure, Result.andThen_ok, invoke, builtin, hx, T.ev, U.ev, asS]
        simp [Builtin.len_, run_underlying hu, goInt]
      · simp at h
    · rename_i x ty hc h1 h2
      have ht : c.argTypes = #[ty] := by apply Array.ext'; rw [h2]
      split at h
      · rename_i e hk hu
        simp only [Option.some.injEq, Prod.mk.injEq] at h
        obtain ⟨rfl, rfl⟩ := h
        obtain ⟨p, n, cp, hx⟩ := kind_sl (ρ := ρ) (β := β) hk
        simp only [resolve, hc, hargs h1, ht, Sem.run_bind, Sem.run_pure, Result.andThen_ok, invoke, builtin, hx, slCap_ev, asCap]
        simp [Builtin.cap_, run_underlying hu, goInt]
      · simp at h
    · simp at h
  | _ => simp [pur] at h
end
end Go.Sx
namespace Go.Sx
open Go

theorem lookup_mem : ∀ {l : List (Nat × T)} {s : Nat} {t : T}, l.lookup s = some t → (s, t) ∈ l
  | (s', t') :: l, s, t, h => by
    rw [List.lookup_cons] at h
    split at h
    · rename_i e; simp only [beq_iff_eq] at e; subst e; simp only [Option.some.injEq] at h; subst h; exact List.mem_cons_self
    · exact List.mem_cons_of_mem _ (lookup_mem h)
theorem lookup_mem' : ∀ {l : List (Nat × T × Nat)} {s : Nat} {t : T × Nat}, l.lookup s = some t → (s, t) ∈ l
  | (s', t') :: l, s, t, h => by
    rw [List.lookup_cons] at h
    split at h
    · rename_i e; simp only [beq_iff_eq] at e; subst e; simp only [Option.some.injEq] at h; subst h; exact List.mem_cons_self
    · exact List.mem_cons_of_mem _ (lookup_mem' h)
theorem get_lookup {st : St} {s : Nat} {t : T} (h : st.get s = some t) : st.slots.lookup s = some t := by
  unfold St.get at h; split at h <;> simp_all
theorem get_ne {st : St} {s : Nat} {t : T} (h : st.get s = some t) : t ≠ .nil := by
  unfold St.get at h; split at h
  · simp at h
  · rename_i h'; intro e; subst e; exact h' h
theorem get_put (st : St) (d s : Nat) (t : T) : (st.put d t).get s = if s = d then (if t = .nil then none else some t) else st.get s := by
  unfold St.get St.put
  simp only [List.lookup_cons]
  by_cases h : s = d
  · subst h
    simp only [beq_self_eq_true, if_true]
    by_cases ht : t = .nil
    · subst ht; simp
    · rw [if_neg ht]; split <;> simp_all
  · have : (s == d) = false := by simpa using h
    simp only [this, if_neg h]
theorem wf_get {st : St} (h : st.wf = true) {s : Nat} {t : T} (hs : st.get s = some t) : t.wf st.nv st.nb = true := by
  simp only [St.wf, Bool.and_eq_true, List.all_eq_true] at h
  exact h.1 _ (lookup_mem (get_lookup hs))
theorem wf_box {st : St} (h : st.wf = true) {i : Nat} {cs : T} {ty : Nat} (hs : st.box i = some (cs, ty)) : i < st.nb ∧ cs.wf st.nv st.nb = true := by
  simp only [St.wf, Bool.and_eq_true, List.all_eq_true, decide_eq_true_eq] at h
  exact h.2 _ (lookup_mem' hs)

section
variable {P : Program} {O V0 : Mem} {w0 : World} {N : Nat} {β : Nat → Nat} {st : St} {ρ : List Value} {V : Mem} {a : Act} {w : World} {tmps : Array Value}

theorem Rel.put (h : Rel O V0 w0 N β st ρ V tmps w) {d : Nat} (hd : d < N) (t : T) : Rel O V0 w0 N β (st.put d t) ρ V (tmps.setIfInBounds d (t.ev ρ β)) w :=
  { nv := h.nv
    size := by simpa using h.size
    slots := fun s t' hs => by
      rw [get_put] at hs
      split at hs
      · rename_i e; subst e
        split at hs
        · simp at hs
        · simp only [Option.some.injEq] at hs; subst hs
          have : s < tmps.size := by rw [h.size]; exact hd
          simp [Array.getD, this]
      · rename_i e
        rw [← h.slots s t' hs]
        by_cases hlt : s < tmps.size
        · simp [Array.getD, hlt, show ¬ d = s by omega]
        · simp [Array.getD, hlt]
    frm := h.frm
    boxes := h.boxes
    hid := h.hid
    inj := h.inj }
theorem Rel.putO (h : Rel O V0 w0 N β st ρ V a.tmps w) {d : Option Nat} (hd : dstOk N d = true) (t : T) {v : Value} (hv : v = t.ev ρ β) :
    Rel O V0 w0 N β (st.putO d t) ρ V (a.put d v).tmps w := by
  subst hv
  cases d with
  | none => exact h
  | some d => exact h.put (by simpa [dstOk] using hd) t
/-- What is known by a test. -/
theorem Rel.learn (h : Rel O V0 w0 N β st ρ V tmps w) {d : Nat} {t t' : T} (hd : st.get d = some t) (he : t.ev ρ β = t'.ev ρ β) : Rel O V0 w0 N β (st.put d t') ρ V tmps w :=
  { h with
    slots := fun s x hs => by
      rw [get_put] at hs
      split at hs
      · rename_i e; subst e
        split at hs
        · simp at hs
        · simp only [Option.some.injEq] at hs; subst hs
          rw [h.slots s t hd, he]
      · exact h.slots s x hs }

theorem compactL_lookup {l : List (Nat × T)} : ∀ {keep : List Nat} {s : Nat} {t : T}, (compactL l keep).lookup s = some t → l.lookup s = some t
  | [], s, t, h => by simp [compactL] at h
  | k :: ks, s, t, h => by
    simp only [compactL] at h
    split at h
    · rename_i t' ht
      rw [List.lookup_cons] at h
      split at h
      · rename_i e; simp only [beq_iff_eq] at e; subst e; rw [ht]; exact h
      · exact compactL_lookup h
    · exact compactL_lookup h
theorem filter_lookup {d : Nat} : ∀ {l : List (Nat × T)} {s : Nat} {t : T}, (l.filter (fun x => x.1 != d)).lookup s = some t → l.lookup s = some t
  | [], s, t, h => by simp at h
  | (k, x) :: l, s, t, h => by
    rw [List.lookup_cons]
    simp only [List.filter_cons] at h
    by_cases e : k = d
    · subst e
      simp only [bne_self_eq_false, Bool.false_eq_true, if_false] at h
      have hm := lookup_mem h
      have hne : s ≠ k := by have := (List.mem_filter.1 hm).2; simpa using this
      have : (s == k) = false := by simpa using hne
      rw [this]; exact filter_lookup h
    · have e' : (k != d) = true := by simpa using e
      simp only [e', if_true, List.lookup_cons] at h
      split at h
      · simp_all
      · simp_all; exact filter_lookup h
theorem Rel.fewer (h : Rel O V0 w0 N β st ρ V tmps w) (l : List (Nat × T)) (hl : ∀ s t, l.lookup s = some t → st.slots.lookup s = some t) : Rel O V0 w0 N β { st with slots := l } ρ V tmps w :=
  { h with
    slots := fun s t hs => h.slots s t (by
      have h1 := hl s t (get_lookup hs)
      have h2 := get_ne hs
      unfold St.get; rw [h1]; split
      · rename_i e; simp only [Option.some.injEq] at e; exact absurd e h2
      · rfl)
    boxes := h.boxes
    hid := h.hid
    inj := h.inj }
theorem Rel.compact (h : Rel O V0 w0 N β st ρ V tmps w) (keep : List Nat) : Rel O V0 w0 N β (st.compact keep) ρ V tmps w := h.fewer _ fun _ _ => compactL_lookup
theorem Rel.drop (h : Rel O V0 w0 N β st ρ V tmps w) (d : Nat) : Rel O V0 w0 N β (st.drop d) ρ V tmps w := h.fewer _ fun _ _ => filter_lookup

theorem Rel.now (h : Rel O V0 w0 N β st ρ V tmps w) {d : Nat} {t t' : T} (hd : st.get d = some t) (he : t.ev ρ β = t'.ev ρ β) : Rel O V0 w0 N β (st.now d t') ρ V tmps w :=
  { h.drop d with
    slots := fun s x hs => by
      unfold St.now at hs
      rw [get_put] at hs
      split at hs
      · rename_i e; subst e
        split at hs
        · simp at hs
        · simp only [Option.some.injEq] at hs; subst hs
          rw [h.slots s t hd, he]
      · exact (h.drop d).slots s x hs }

theorem getD_append {ρ vs : List Value} {m : Nat} (h : m < ρ.length) : ρ.getD m undef = (ρ ++ vs).getD m undef := by
  simp [List.getD, List.getElem?_append, h]

theorem Rel.bind (h : Rel O V0 w0 N β st ρ V tmps w) (hw : st.wf = true) (vs : List Value) : Rel O V0 w0 N β (st.more vs.length) (ρ ++ vs) V tmps w := by
  have hc : ∀ t : T, t.wf st.nv st.nb = true → t.ev ρ β = t.ev (ρ ++ vs) β ∧ t.evs ρ β = t.evs (ρ ++ vs) β :=
    T.ev_congr (fun m hm => getD_append (by rw [h.nv]; exact hm)) (fun _ _ => rfl)
  exact
  { nv := by simp [St.more, h.nv]
    size := h.size
    slots := fun s t hs => (h.slots s t hs).trans (hc t (wf_get hw hs)).1
    frm := h.frm
    boxes := fun i cs ty hi => by
      have := h.boxes i cs ty hi
      rw [← (hc cs (wf_box hw hi).2).2]; exact this
    hid := h.hid
    inj := h.inj }

/-- The machine's call of another function, or any operation: the boxes stay. -/
theorem Rel.frame (h : Rel O V0 w0 N β st ρ V tmps w) {V' : Mem} {w' : World} (hf : Frm V w V' w') : Rel O V0 w0 N β st ρ V' tmps w' :=
  { nv := h.nv
    size := h.size
    slots := h.slots
    frm := h.frm.trans hf
    boxes := fun i cs ty hi => by
      obtain ⟨h1, h2, h3, h4⟩ := h.boxes i cs ty hi
      have hlt : β i < w.heap.size := (Array.getElem?_eq_some_iff.1 h1).1
      refine ⟨(hf.old _ hlt h2).trans h1, ?_, h3, h4⟩
      cases hc : V' (β i) with
      | none => rfl
      | some o =>
        rcases hf.dom (β i) (by simp [hc]) with h5 | h5
        · exact absurd h2 h5
        · omega
    hid := fun b o hb => by
      obtain ⟨h1, h2, h3, h4⟩ := h.hid b o hb
      have hlt : b < w.heap.size := (Array.getElem?_eq_some_iff.1 h1).1
      refine ⟨(hf.old _ hlt h2).trans h1, ?_, h3, h4⟩
      cases hc : V' b with
      | none => rfl
      | some o' =>
        rcases hf.dom b (by simp [hc]) with h5 | h5
        · exact absurd h2 h5
        · omega
    inj := h.inj }

theorem alloc_heap (w : World) (o : Obj) : (w.alloc o).heap[w.heap.size]? = some o := by
  show (w.heap.push o)[w.heap.size]? = some o
  simp
theorem alloc_old (w : World) (o : Obj) {b : Nat} (h : b < w.heap.size) : (w.alloc o).heap[b]? = w.heap[b]? := by
  show (w.heap.push o)[b]? = w.heap[b]?
  rw [Array.getElem?_push]; simp [show ¬ b = w.heap.size by omega]
theorem le_none {V : Mem} {w : World} (h : V.le w) {b : Nat} (hb : w.heap.size ≤ b) : V b = none := by
  cases hc : V b with
  | none => rfl
  | some o => have := h b o hc; rw [Array.getElem?_eq_none hb] at this; cases this
theorem Frm.alloc {V : Mem} {w : World} (h : V.le w) (o : Obj) : Frm V w V (w.alloc o) :=
  ⟨by show w.heap.size ≤ (w.heap.push o).size; simp, fun b o' hb => by
      have := h b o' hb
      rw [alloc_old w o (Array.getElem?_eq_some_iff.1 this).1]; exact this, fun b hb _ => alloc_old w o hb, fun _ h => .inl h, rfl, rfl⟩

def upd (β : Nat → Nat) (i b : Nat) : Nat → Nat := fun j => if j = i then b else β j
theorem Rel.alloc (h : Rel O V0 w0 N β st ρ V tmps w) (hw : st.wf = true) {cs : T} (hc : cs.wf st.nv st.nb = true) (ty : Nat) :
    Rel O V0 w0 N (upd β st.nb w.heap.size) { st with boxes := (st.nb, cs, ty) :: st.boxes, nb := st.nb + 1 } ρ V tmps (w.alloc (.cells (cs.evs ρ β).toArray ty (0, 0))) := by
  have hcg : ∀ t : T, t.wf st.nv st.nb = true → t.ev ρ β = t.ev ρ (upd β st.nb w.heap.size) ∧ t.evs ρ β = t.evs ρ (upd β st.nb w.heap.size) :=
    T.ev_congr (fun _ _ => rfl) (fun i hi => by simp [upd, show ¬ i = st.nb by omega])
  have hbox : ∀ (i : Nat) (x : T × Nat), St.box { st with boxes := (st.nb, cs, ty) :: st.boxes, nb := st.nb + 1 } i = some x → (i = st.nb ∧ x = (cs, ty)) ∨ (i ≠ st.nb ∧ st.box i = some x) := by
    intro i x hx
    simp only [St.box, List.lookup_cons] at hx
    split at hx
    · rename_i e; simp only [beq_iff_eq] at e; simp only [Option.some.injEq] at hx; exact .inl ⟨e, hx.symm⟩
    · rename_i e; exact .inr ⟨by simpa using e, hx⟩
  have hsz : ∀ i, i ≠ st.nb → (st.box i).isSome = true → upd β st.nb w.heap.size i < w.heap.size := by
    intro i hi hs
    obtain ⟨x, hx⟩ := Option.isSome_iff_exists.1 hs
    have := (h.boxes i x.1 x.2 hx).1
    simp only [upd, if_neg hi]
    exact (Array.getElem?_eq_some_iff.1 this).1
  exact
  { nv := h.nv
    size := h.size
    slots := fun s t hs => (h.slots s t hs).trans (hcg t (wf_get hw hs)).1
    frm := h.frm.trans (Frm.alloc h.frm.le _)
    boxes := fun i cs' ty' hi => by
      rcases hbox i _ hi with ⟨rfl, e⟩ | ⟨hne, hi'⟩
      · cases e
        refine ⟨?_, ?_, ?_, Nat.lt_succ_self _⟩
        · rw [← (hcg cs hc).2]; simp only [upd, if_true]; exact alloc_heap w _
        · simp only [upd, if_true]; exact le_none h.frm.le (Nat.le_refl _)
        · simp only [upd, if_true]; exact h.frm.size
      · obtain ⟨h1, h2, h3, h4⟩ := h.boxes i cs' ty' hi'
        have e : upd β st.nb w.heap.size i = β i := by simp [upd, hne]
        rw [e, ← (hcg cs' (wf_box hw hi').2).2]
        exact ⟨(alloc_old w _ (Array.getElem?_eq_some_iff.1 h1).1).trans h1, h2, h3, Nat.lt_succ_of_lt h4⟩
    hid := fun b o hb => by
      obtain ⟨h1, h2, h3, h4⟩ := h.hid b o hb
      have hlt : b < w.heap.size := (Array.getElem?_eq_some_iff.1 h1).1
      refine ⟨(alloc_old w _ hlt).trans h1, h2, h3, fun i hi => ?_⟩
      obtain ⟨x, hx⟩ := Option.isSome_iff_exists.1 hi
      rcases hbox i x hx with ⟨rfl, _⟩ | ⟨hne, hi'⟩
      · simp only [upd, if_true]; omega
      · simp only [upd, if_neg hne]; exact h4 i (by simp [hi'])
    inj := fun i j hi hj he => by
      obtain ⟨x, hx⟩ := Option.isSome_iff_exists.1 hi
      obtain ⟨y, hy⟩ := Option.isSome_iff_exists.1 hj
      rcases hbox i x hx with ⟨rfl, _⟩ | ⟨hne, hi'⟩ <;> rcases hbox j y hy with ⟨rfl, _⟩ | ⟨hne', hj'⟩
      · rfl
      · have := hsz j hne' (by simp [hj']); rw [← he] at this; simp [upd] at this
      · have := hsz i hne (by simp [hi']); rw [he] at this; simp [upd] at this
      · simp only [upd, if_neg hne, if_neg hne'] at he
        exact h.inj i j (by simp [hi']) (by simp [hj']) he }

theorem setRow_size (w : World) (g : Nat) (cs : Array Value) : (w.setRow g cs).heap.size = w.heap.size := by simp [World.setRow]
theorem setRow_other (w : World) (g : Nat) (cs : Array Value) {b : Nat} (h : b ≠ g) : (w.setRow g cs).heap[b]? = w.heap[b]? := by
  simp only [World.setRow]
  rw [Array.getElem?_modify]
  split
  · rename_i e; exact absurd e.symm h
  · rfl

/-- A store into a box. -/
theorem Rel.setBox (h : Rel O V0 w0 N β st ρ V tmps w) {i : Nat} {cs cs' : T} {ty : Nat} (hi : st.box i = some (cs, ty)) :
    Rel O V0 w0 N β (st.setBox i cs' ty) ρ V tmps (w.setRow (β i) (cs'.evs ρ β).toArray) := by
  obtain ⟨h1, h2, h3, h4⟩ := h.boxes i cs ty hi
  have hbox : ∀ (j : Nat) (x : T × Nat), (st.setBox i cs' ty).box j = some x → (j = i ∧ x = (cs', ty)) ∨ (j ≠ i ∧ st.box j = some x) := by
    intro j x hx
    simp only [St.box, St.setBox, List.lookup_cons] at hx
    split at hx
    · rename_i e; simp only [beq_iff_eq] at e; simp only [Option.some.injEq] at hx; exact .inl ⟨e, hx.symm⟩
    · rename_i e; exact .inr ⟨by simpa using e, hx⟩
  have hsome : ∀ j, ((st.setBox i cs' ty).box j).isSome = true → (st.box j).isSome = true := by
    intro j hj
    obtain ⟨x, hx⟩ := Option.isSome_iff_exists.1 hj
    rcases hbox j x hx with ⟨rfl, _⟩ | ⟨_, h'⟩
    · simp [hi]
    · simp [h']
  exact
  { nv := h.nv
    size := h.size
    slots := h.slots
    frm := ⟨by rw [setRow_size]; exact h.frm.size, fun b o hb => by
              have hne : b ≠ β i := by intro e; subst e; rw [h2] at hb; cases hb
              rw [setRow_other w _ _ hne]; exact h.frm.le b o hb, fun b hb hV => by
              rw [setRow_other w _ _ (by omega)]; exact h.frm.old b hb hV, h.frm.dom, h.frm.os, h.frm.out⟩
    boxes := fun j cs'' ty' hj => by
      rcases hbox j _ hj with ⟨rfl, e⟩ | ⟨hne, hj'⟩
      · cases e
        exact ⟨setRow_heap w _ _ _ ty (0, 0) h1, h2, h3, h4⟩
      · obtain ⟨g1, g2, g3, g4⟩ := h.boxes j cs'' ty' hj'
        have hn : β j ≠ β i := fun e => hne (h.inj j i (by simp [hj']) (by simp [hi]) e)
        exact ⟨(setRow_other w _ _ hn).trans g1, g2, g3, g4⟩
    hid := fun b o hb => by
      obtain ⟨g1, g2, g3, g4⟩ := h.hid b o hb
      exact ⟨(setRow_other w _ _ (Ne.symm (g4 i (by simp [hi])))).trans g1, g2, g3, fun j hj => g4 j (hsome j hj)⟩
    inj := fun j k hj hk => h.inj j k (hsome j hj) (hsome k hk) }

theorem lookup_map (f : T → T) : ∀ (l : List (Nat × T)) (s : Nat), (l.map (fun x => (x.1, f x.2))).lookup s = (l.lookup s).map f
  | [], s => rfl
  | (s', t) :: l, s => by
    simp only [List.map_cons, List.lookup_cons]
    split
    · rfl
    · exact lookup_map f l s
theorem lookup_map' (f : T → T) : ∀ (l : List (Nat × T × Nat)) (s : Nat), (l.map (fun x => (x.1, f x.2.1, x.2.2))).lookup s = (l.lookup s).map fun y => (f y.1, y.2)
  | [], s => rfl
  | (s', t) :: l, s => by
    simp only [List.map_cons, List.lookup_cons]
    split
    · rfl
    · exact lookup_map' f l s
theorem lookup_filter (i : Nat) : ∀ (l : List (Nat × T × Nat)) (s : Nat), (l.filter (fun x => x.1 != i)).lookup s = if s = i then none else l.lookup s
  | [], s => by simp
  | (s', t) :: l, s => by
    simp only [List.filter_cons]
    by_cases h : s' = i
    · subst h
      simp only [bne_self_eq_false, Bool.false_eq_true, if_false, lookup_filter s' l s, List.lookup_cons]
      by_cases hs : s = s'
      · simp [hs]
      · have : (s == s') = false := by simpa using hs
        simp [hs, this]
    · have h' : (s' != i) = true := by simpa using h
      simp only [h', if_true, List.lookup_cons, lookup_filter i l s]
      by_cases hs : s = s'
      · subst hs; simp [h]
      · have : (s == s') = false := by simpa using hs
        simp [this]

theorem subst_nil {i k : Nat} {t : T} (h : t.subst i k = .nil) : t = .nil := by
  cases t <;> simp [T.subst] at h ⊢
  split at h <;> simp at h

/-- A box is shown. -/
theorem Rel.pubd (h : Rel O V0 w0 N β st ρ V tmps w) (hw : st.wf = true) {i : Nat} {cs : T} {ty : Nat} (hi : st.box i = some (cs, ty)) :
    Rel O V0 w0 N β (st.pubd i) (ρ ++ [.pointer (some ⟨β i, 0, none⟩)]) (V.set (β i) (.cells (cs.evs ρ β).toArray ty (0, 0))) tmps w := by
  obtain ⟨h1, h2, h3, h4⟩ := h.boxes i cs ty hi
  have hp : (ρ ++ [Value.pointer (some ⟨β i, 0, none⟩)]).getD st.nv undef = Value.pointer (some ⟨β i, 0, none⟩) := by
    rw [← h.nv]; simp [List.getD]
  have hcg : ∀ t : T, t.wf st.nv st.nb = true → (t.subst i st.nv).ev (ρ ++ [.pointer (some ⟨β i, 0, none⟩)]) β = t.ev ρ β ∧ (t.subst i st.nv).evs (ρ ++ [.pointer (some ⟨β i, 0, none⟩)]) β = t.evs ρ β := by
    intro t ht
    have e1 := T.ev_subst hp t
    have e2 := T.ev_congr (ρ := ρ) (ρ' := ρ ++ [.pointer (some ⟨β i, 0, none⟩)]) (β := β) (β' := β) (fun m hm => getD_append (by rw [h.nv]; exact hm)) (fun _ _ => rfl) t ht
    exact ⟨e1.1.trans e2.1.symm, e1.2.trans e2.2.symm⟩
  have hbox : ∀ (j : Nat) (x : T × Nat), (st.pubd i).box j = some x → j ≠ i ∧ ∃ y, st.box j = some y ∧ x = (y.1.subst i st.nv, y.2) := by
    intro j x hx
    simp only [St.box, St.pubd, lookup_map', lookup_filter] at hx
    split at hx
    · simp at hx
    · rename_i e
      simp only [Option.map_eq_some_iff] at hx
      obtain ⟨y, hy, rfl⟩ := hx
      exact ⟨e, y, hy, rfl⟩
  have hsome : ∀ j, ((st.pubd i).box j).isSome = true → (st.box j).isSome = true := by
    intro j hj
    obtain ⟨x, hx⟩ := Option.isSome_iff_exists.1 hj
    obtain ⟨_, y, hy, _⟩ := hbox j x hx
    simp [hy]
  exact
  { nv := by simp [St.pubd, h.nv]
    size := h.size
    slots := fun s t hs => by
      have hl := get_lookup hs
      simp only [St.pubd, lookup_map, Option.map_eq_some_iff] at hl
      obtain ⟨t', ht', rfl⟩ := hl
      have hg : st.get s = some t' := by
        unfold St.get
        have hne : t' ≠ .nil := fun e => get_ne hs (by subst e; rfl)
        rw [ht']; split
        · rename_i e; simp only [Option.some.injEq] at e; exact absurd e hne
        · rfl
      rw [(hcg t' (wf_get hw hg)).1]; exact h.slots s t' hg
    frm :=
      { size := h.frm.size
        le := fun b o hb => by
          by_cases e : b = β i
          · subst e; rw [Mem.set_same] at hb; cases hb; exact h1
          · rw [Mem.set_ne e] at hb; exact h.frm.le b o hb
        old := h.frm.old
        dom := fun b hb => by
          by_cases e : b = β i
          · subst e; exact .inr h3
          · rw [Mem.set_ne e] at hb; exact h.frm.dom b hb
        os := h.frm.os
        out := h.frm.out }
    boxes := fun j cs' ty' hj => by
      obtain ⟨hne, y, hy, e⟩ := hbox j _ hj
      obtain ⟨g1, g2, g3, g4⟩ := h.boxes j y.1 y.2 hy
      cases e
      have hn : β j ≠ β i := fun e => hne (h.inj j i (by simp [hy]) (by simp [hi]) e)
      rw [(hcg y.1 (wf_box hw hy).2).2]
      exact ⟨g1, by rw [Mem.set_ne hn]; exact g2, g3, g4⟩
    hid := fun b o hb => by
      obtain ⟨g1, g2, g3, g4⟩ := h.hid b o hb
      exact ⟨g1, by rw [Mem.set_ne (Ne.symm (g4 i (by simp [hi])))]; exact g2, g3, fun j hj => g4 j (hsome j hj)⟩
    inj := fun j k hj hk => h.inj j k (hsome j hj) (hsome k hk) }
end
end Go.Sx
