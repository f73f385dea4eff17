/- Part 22 of a proof of a law of this seat: no statement of the seat is proved here. -/
import Derived.Test.YtjnmeimbcljkjaaGreatDoorPart06
import Derived.Test.YtjnmeimbcljkjaaGreatDoorPart16
import Derived.Test.YtjnmeimbcljkjaaGreatDoorPart20
set_option linter.unusedVariables false
set_option linter.unusedSimpArgs false
namespace Go.Proofs
open Go Go.Sx
set_option maxRecDepth 100000
def w8 (v0 : ByteArray) (v1 : Sl) (v2 : Sl) (v3 : Sl) (v4 : Sl) (v5 : Sl) (v6 : Sl) (v7 : Sl) (v8 : ByteArray) (v9 : ByteArray) (v10 : Int) (v11 : Int) (v12 : ByteArray) (v13 : Sl) (v14 : Int) (V : Mem) (R : Ending → Mem → Prop) : Prop :=
 Tri Tryz.prog 10 #[] V fun e V1 => ∃ v15 : Bool, e = .returned (.bool v15) ∧
 (v15 = true →
 Tri Tryz.prog 11 #[.agg #[.string v0, v1.v, v2.v, v3.v, v4.v, v5.v, v6.v, v7.v]] V1 fun e V2 => ∃ v16 : Bool, e = .returned (.bool v16) ∧
 (v16 = true →
 ((100 : Int) < ((v8).size : Int) →
 Tri Tryz.prog 10 #[] V2 fun e V3 => ∃ v17 : Bool, e = .returned (.bool v17) ∧
 R (.returned (.bool v17)) V3) ∧ (¬ ((100 : Int) < ((v8).size : Int)) →
 ((100 : Int) < ((v9).size : Int) →
 Tri Tryz.prog 10 #[] V2 fun e V3 => ∃ v17 : Bool, e = .returned (.bool v17) ∧
 R (.returned (.bool v17)) V3) ∧ (¬ ((100 : Int) < ((v9).size : Int)) →
 PubT [.int .i64 100] 3 V2 fun v17 V3 =>
 Tri Tryz.prog 15 #[.agg #[.int .i64 v10, .int .i64 v11, .string v12, v13.v], .pointer (ptrAdd v17 0), .int .i64 1] V3 fun e V4 => ∃ v18 : Bool, e = .returned (.bool v18) ∧
 (v18 = true →
 PubT [.string v0, v1.v, v2.v, v3.v, v4.v, v5.v, v6.v, v7.v] 30 V4 fun v19 V5 =>
 PubT [.string v8] 9 V5 fun v20 V6 =>
 PubT [.string v9] 9 V6 fun v21 V7 =>
 PubT [.func (.func 38) #[] #[.pointer (ptrAdd v19 0), .pointer (ptrAdd v20 0)], .func (.func 39) #[] #[.pointer (ptrAdd v19 0), .pointer (ptrAdd v21 0)]] 81 V7 fun v22 V8 =>
 ∃ (I : Nat → List Value → Mem → Prop) (n0 : Nat), I n0 [.bool false, .int .i64 0] V8 ∧ ∀ n V9, ∀ v23 : Bool, ∀ v24 : Int, I n [.bool v23, .int .i64 v24] V9 → ∀ J0 : List Value → Mem → Prop, (∀ m ys V'', m < n → I m ys V'' → J0 ys V'') →
 (v24 < (2 : Int) →
 (¬ ((ptrAdd v22 0) = none)) ∧ ((0 : Int) ≤ v24) ∧ (v24 < (2 : Int)) ∧ ∃ v25 : Value, K.f.ok v25 ∧ V9.rowp (ptrAdd v22 0) ((v24).toNat * 1) 1 = some [v25] ∧
 ∃ f first caps, (K.cast .f v25) = .func (.func f) first caps ∧ (∀ args w, (callFunc f args).run Tryz.prog w = .ok (.enter f args) w) ∧
 Tri Tryz.prog f (first ++ #[.agg #[.int .i64 v10, .int .i64 v11, .string v12, v13.v]] ++ caps) V9 fun e V10 => ∃ v26 : ByteArray, ∃ v27 : Int, e = .returned (.tuple #[.string v26, .int .i64 v27]) ∧
 (v27 = (0 : Int) →
 ∃ (I : Nat → List Value → Mem → Prop) (n0 : Nat), I n0 [.bool v23, .int .i64 0] V10 ∧ ∀ n V11, ∀ v28 : Bool, ∀ v29 : Int, I n [.bool v28, .int .i64 v29] V11 → ∀ J1 : List Value → Mem → Prop, (∀ m ys V'', m < n → I m ys V'' → J1 ys V'') →
 (v29 < (v13.n : Int) →
 (¬ (v13.p = none)) ∧ ((0 : Int) ≤ v29) ∧ (v29 < (v13.n : Int)) ∧ ∃ v30 : Int, ∃ v31 : Int, ∃ v32 : ByteArray, ∃ v33 : Sl, V11.rowp v13.p ((v29).toNat * 4) 4 = some [.int .i64 v30, .int .i64 v31, .string v32, v33.v] ∧
 ∃ f first caps, (K.cast .f v25) = .func (.func f) first caps ∧ (∀ args w, (callFunc f args).run Tryz.prog w = .ok (.enter f args) w) ∧
 Tri Tryz.prog f (first ++ #[.agg #[.int .i64 v30, .int .i64 v31, .string v32, v33.v]] ++ caps) V11 fun e V12 => ∃ v34 : ByteArray, ∃ v35 : Int, e = .returned (.tuple #[.string v34, .int .i64 v35]) ∧
 (v35 = (0 : Int) →
 (v34 = (strB []) →
 R (.returned (.bool false)) V12) ∧ (¬ (v34 = (strB [])) →
 (K.inR .i64 (v29 + (1 : Int))) ∧ J1 [.bool v28, .int .i64 (v29 + (1 : Int))] V12)) ∧ (¬ (v35 = (0 : Int)) →
 R (.returned (.bool false)) V12)) ∧ (¬ (v29 < (v13.n : Int)) →
 ((v13.n : Int) = (0 : Int) →
 (K.inR .i64 (v24 + (1 : Int))) ∧ J0 [.bool v28, .int .i64 (v24 + (1 : Int))] V11) ∧ (¬ ((v13.n : Int) = (0 : Int)) →
 (K.inR .i64 v14) ∧ (¬ ((v13.n : Int) = (0 : Int))) ∧ (¬ (v13.p = none)) ∧ ((0 : Int) ≤ ((v14).tmod (v13.n : Int))) ∧ (((v14).tmod (v13.n : Int)) < (v13.n : Int)) ∧ ∃ v30 : Int, ∃ v31 : Int, ∃ v32 : ByteArray, ∃ v33 : Sl, V11.rowp v13.p ((((v14).tmod (v13.n : Int))).toNat * 4) 4 = some [.int .i64 v30, .int .i64 v31, .string v32, v33.v] ∧
 ∃ f first caps, (K.cast .f v25) = .func (.func f) first caps ∧ (∀ args w, (callFunc f args).run Tryz.prog w = .ok (.enter f args) w) ∧
 Tri Tryz.prog f (first ++ #[.agg #[.int .i64 v30, .int .i64 v31, .string v32, v33.v]] ++ caps) V11 fun e V12 => ∃ v34 : ByteArray, ∃ v35 : Int, e = .returned (.tuple #[.string v34, .int .i64 v35]) ∧
 (v34 = (strB [98, 111, 111, 108]) →
 (v35 = (0 : Int) →
 (v34 = (strB [105, 110, 116]) →
 Tri Tryz.prog 40 #[v13.v] V12 fun e V13 => ∃ v36 : Sl, e = .returned v36.v ∧
 (¬ (v36.p = none)) ∧ ((0 : Int) ≤ ((v14).tmod (v13.n : Int))) ∧ (((v14).tmod (v13.n : Int)) < (v36.n : Int)) ∧ StT (ptrAdd v36.p ((((v14).tmod (v13.n : Int))).toNat * 4)) 0 [.int .i64 2, .int .i64 1, .string (strB []), .slice none 0 0] V13 fun V14 =>
 ∃ f first caps, (K.cast .f v25) = .func (.func f) first caps ∧ (∀ args w, (callFunc f args).run Tryz.prog w = .ok (.enter f args) w) ∧
 Tri Tryz.prog f (first ++ #[.agg #[.int .i64 v10, .int .i64 v11, .string v12, v36.v]] ++ caps) V14 fun e V15 => ∃ v37 : ByteArray, ∃ v38 : Int, e = .returned (.tuple #[.string v37, .int .i64 v38]) ∧
 (v38 = (0 : Int) →
 (v37 = v26 →
 (K.inR .i64 (v24 + (1 : Int))) ∧ J0 [.bool v28, .int .i64 (v24 + (1 : Int))] V15) ∧ (¬ (v37 = v26) →
 R (.returned (.bool false)) V15)) ∧ (¬ (v38 = (0 : Int)) →
 R (.returned (.bool false)) V15)) ∧ (¬ (v34 = (strB [105, 110, 116])) →
 (v34 = (strB [98, 111, 111, 108]) →
 Tri Tryz.prog 40 #[v13.v] V12 fun e V13 => ∃ v36 : Sl, e = .returned v36.v ∧
 (¬ (v36.p = none)) ∧ ((0 : Int) ≤ ((v14).tmod (v13.n : Int))) ∧ (((v14).tmod (v13.n : Int)) < (v36.n : Int)) ∧ StT (ptrAdd v36.p ((((v14).tmod (v13.n : Int))).toNat * 4)) 0 [.int .i64 2, .int .i64 1, .string (strB []), .slice none 0 0] V13 fun V14 =>
 ∃ f first caps, (K.cast .f v25) = .func (.func f) first caps ∧ (∀ args w, (callFunc f args).run Tryz.prog w = .ok (.enter f args) w) ∧
 Tri Tryz.prog f (first ++ #[.agg #[.int .i64 v10, .int .i64 v11, .string v12, v36.v]] ++ caps) V14 fun e V15 => ∃ v37 : ByteArray, ∃ v38 : Int, e = .returned (.tuple #[.string v37, .int .i64 v38]) ∧
 (v38 = (0 : Int) →
 (v37 = v26 →
 (K.inR .i64 (v24 + (1 : Int))) ∧ J0 [.bool v28, .int .i64 (v24 + (1 : Int))] V15) ∧ (¬ (v37 = v26) →
 R (.returned (.bool false)) V15)) ∧ (¬ (v38 = (0 : Int)) →
 R (.returned (.bool false)) V15)) ∧ (¬ (v34 = (strB [98, 111, 111, 108])) →
 (K.inR .i64 (v24 + (1 : Int))) ∧ J0 [.bool v28, .int .i64 (v24 + (1 : Int))] V12))) ∧ (¬ (v35 = (0 : Int)) →
 (K.inR .i64 (v24 + (1 : Int))) ∧ J0 [.bool v28, .int .i64 (v24 + (1 : Int))] V12)) ∧ (¬ (v34 = (strB [98, 111, 111, 108])) →
 (v35 = (0 : Int) →
 (v34 = (strB [105, 110, 116]) →
 Tri Tryz.prog 40 #[v13.v] V12 fun e V13 => ∃ v36 : Sl, e = .returned v36.v ∧
 (¬ (v36.p = none)) ∧ ((0 : Int) ≤ ((v14).tmod (v13.n : Int))) ∧ (((v14).tmod (v13.n : Int)) < (v36.n : Int)) ∧ StT (ptrAdd v36.p ((((v14).tmod (v13.n : Int))).toNat * 4)) 0 [.int .i64 1, .int .i64 7, .string (strB []), .slice none 0 0] V13 fun V14 =>
 ∃ f first caps, (K.cast .f v25) = .func (.func f) first caps ∧ (∀ args w, (callFunc f args).run Tryz.prog w = .ok (.enter f args) w) ∧
 Tri Tryz.prog f (first ++ #[.agg #[.int .i64 v10, .int .i64 v11, .string v12, v36.v]] ++ caps) V14 fun e V15 => ∃ v37 : ByteArray, ∃ v38 : Int, e = .returned (.tuple #[.string v37, .int .i64 v38]) ∧
 (v38 = (0 : Int) →
 (v37 = v26 →
 (K.inR .i64 (v24 + (1 : Int))) ∧ J0 [.bool v28, .int .i64 (v24 + (1 : Int))] V15) ∧ (¬ (v37 = v26) →
 R (.returned (.bool false)) V15)) ∧ (¬ (v38 = (0 : Int)) →
 R (.returned (.bool false)) V15)) ∧ (¬ (v34 = (strB [105, 110, 116])) →
 (v34 = (strB [98, 111, 111, 108]) →
 Tri Tryz.prog 40 #[v13.v] V12 fun e V13 => ∃ v36 : Sl, e = .returned v36.v ∧
 (¬ (v36.p = none)) ∧ ((0 : Int) ≤ ((v14).tmod (v13.n : Int))) ∧ (((v14).tmod (v13.n : Int)) < (v36.n : Int)) ∧ StT (ptrAdd v36.p ((((v14).tmod (v13.n : Int))).toNat * 4)) 0 [.int .i64 1, .int .i64 7, .string (strB []), .slice none 0 0] V13 fun V14 =>
 ∃ f first caps, (K.cast .f v25) = .func (.func f) first caps ∧ (∀ args w, (callFunc f args).run Tryz.prog w = .ok (.enter f args) w) ∧
 Tri Tryz.prog f (first ++ #[.agg #[.int .i64 v10, .int .i64 v11, .string v12, v36.v]] ++ caps) V14 fun e V15 => ∃ v37 : ByteArray, ∃ v38 : Int, e = .returned (.tuple #[.string v37, .int .i64 v38]) ∧
 (v38 = (0 : Int) →
 (v37 = v26 →
 (K.inR .i64 (v24 + (1 : Int))) ∧ J0 [.bool v28, .int .i64 (v24 + (1 : Int))] V15) ∧ (¬ (v37 = v26) →
 R (.returned (.bool false)) V15)) ∧ (¬ (v38 = (0 : Int)) →
 R (.returned (.bool false)) V15)) ∧ (¬ (v34 = (strB [98, 111, 111, 108])) →
 (K.inR .i64 (v24 + (1 : Int))) ∧ J0 [.bool v28, .int .i64 (v24 + (1 : Int))] V12))) ∧ (¬ (v35 = (0 : Int)) →
 (K.inR .i64 (v24 + (1 : Int))) ∧ J0 [.bool v28, .int .i64 (v24 + (1 : Int))] V12))))) ∧ (¬ (v27 = (0 : Int)) →
 (v26 = (strB []) →
 (K.inR .i64 (v24 + (1 : Int))) ∧ J0 [.bool v23, .int .i64 (v24 + (1 : Int))] V10) ∧ (¬ (v26 = (strB [])) →
 R (.returned (.bool false)) V10))) ∧ (¬ (v24 < (2 : Int)) →
 R (.returned (.bool true)) V9)) ∧ (¬ (v18 = true) →
 Tri Tryz.prog 10 #[] V4 fun e V5 => ∃ v19 : Bool, e = .returned (.bool v19) ∧
 R (.returned (.bool v19)) V5)))) ∧ (¬ (v16 = true) →
 Tri Tryz.prog 10 #[] V2 fun e V3 => ∃ v17 : Bool, e = .returned (.bool v17) ∧
 R (.returned (.bool v17)) V3)) ∧ (¬ (v15 = true) →
 Tri Tryz.prog 10 #[] V1 fun e V2 => ∃ v16 : Bool, e = .returned (.bool v16) ∧
 R (.returned (.bool v16)) V2)
theorem x8 {v0 : ByteArray} {v1 : Sl} {v2 : Sl} {v3 : Sl} {v4 : Sl} {v5 : Sl} {v6 : Sl} {v7 : Sl} {v8 : ByteArray} {v9 : ByteArray} {v10 : Int} {v11 : Int} {v12 : ByteArray} {v13 : Sl} {v14 : Int} {V : Mem} {R : Ending → Mem → Prop} (h : w8 v0 v1 v2 v3 v4 v5 v6 v7 v8 v9 v10 v11 v12 v13 v14 V R) : Tri Tryz.prog 8 #[.agg #[.string v0, v1.v, v2.v, v3.v, v4.v, v5.v, v6.v, v7.v], .string v8, .string v9, .agg #[.int .i64 v10, .int .i64 v11, .string v12, v13.v], .int .u8 v14] V R :=
 tri_dx (H := { N := 146, early := [52], loops := [], keep := [0, 1, 2, 3, 4, 5, 6, 7, 8, 10, 11, 13, 14, 15, 17, 18, 19, 20, 21, 22, 23, 24, 25, 26, 48, 52, 53, 54, 55, 65, 67, 69, 70, 71, 72, 86, 91, 110, 121, 144] }) Tryz.func8 [.agg (.cons (.var .s 0) (.cons (.var .sl 1) (.cons (.var .sl 2) (.cons (.var .sl 3) (.cons (.var .sl 4) (.cons (.var .sl 5) (.cons (.var .sl 6) (.cons (.var .sl 7) .nil)))))))), .var .s 8, .var .s 9, .agg (.cons (.var (.i .i64) 10) (.cons (.var (.i .i64) 11) (.cons (.var .s 12) (.cons (.var .sl 13) .nil)))), .var (.i .u8) 14] [.string v0, v1.v, v2.v, v3.v, v4.v, v5.v, v6.v, v7.v, .string v8, .string v9, .int .i64 v10, .int .i64 v11, .string v12, v13.v, .int .u8 v14] rfl (by kernel_rfl) h
end Go.Proofs
namespace Go.Proofs
open Go Go.Sx
theorem firstE_iff {α β : Type} {f : Nat → α → Option β} : ∀ {xs : List α} {i : Nat}, firstE f i xs = none ↔ ∀ j x, xs[j]? = some x → f (i + j) x = none
  | [], i => by simp [firstE]
  | x :: xs, i => by
    constructor
    · intro h
      cases hx : f i x with
      | some b => rw [firstE_some hx] at h; cases h
      | none =>
        rw [firstE_none hx] at h
        intro j y hy
        cases j with
        | zero => simp only [List.getElem?_cons_zero, Option.some.injEq] at hy; subst hy; exact hx
        | succ j =>
          have := firstE_iff.1 h j y (by simpa using hy)
          rwa [show i + (j + 1) = i + 1 + j by omega]
    · intro h
      rw [firstE_none (by simpa using h 0 x rfl)]
      exact firstE_iff.2 fun j y hy => by
        have := h (j + 1) y (by simpa using hy)
        rwa [show i + 1 + j = i + (j + 1) by omega]
theorem firstE_at {α β : Type} {f : Nat → α → Option β} {b : β} {y : α} : ∀ {xs : List α} {i k : Nat}, (∀ j x, j < k → xs[j]? = some x → f (i + j) x = none) → xs[k]? = some y → f (i + k) y = some b → firstE f i xs = some b
  | [], _, _, _, hy, _ => by simp at hy
  | x :: xs, i, k, h, hy, hb => by
    cases k with
    | zero => simp only [List.getElem?_cons_zero, Option.some.injEq] at hy; subst hy; exact firstE_some hb
    | succ k =>
      rw [firstE_none (by simpa using h 0 x (Nat.succ_pos k) rfl)]
      refine firstE_at (k := k) (fun j z hj hz => ?_) (by simpa using hy) (by rwa [show i + 1 + k = i + (k + 1) by omega])
      have := h (j + 1) z (by omega) (by simpa using hz)
      rwa [show i + 1 + j = i + (j + 1) by omega]
theorem or_none {α : Type} {a b : Option α} : a.or b = none ↔ a = none ∧ b = none := by cases a <;> simp
theorem distinct {α : Type} (key : α → ByteArray) (xs : List α) : (∀ j x, xs[j]? = some x → (xs.take j).any (fun g => decide (key g = key x)) = false) ↔ xs.Pairwise (fun a b => key a ≠ key b) := by
  rw [List.pairwise_iff_getElem]
  constructor
  · intro h i j hi hj hij e
    have := h j _ (List.getElem?_eq_getElem hj)
    rw [List.any_eq_false] at this
    exact this xs[i] (List.mem_take_iff_getElem.2 ⟨i, by omega, rfl⟩) (by simpa using e)
  · intro h j x hx
    rw [List.any_eq_false]
    intro g hg e
    obtain ⟨i, hi, rfl⟩ := List.mem_take_iff_getElem.1 hg
    obtain ⟨hj, rfl⟩ := List.getElem?_eq_some_iff.1 hx
    exact h i j (by omega) hj (by omega) (by simpa using e)
structure Alike (d d' : Ds) : Prop where
  types : d'.types = d.types
  call : ∀ s l, callT d' s l = callT d s l
  meas : d'.measures = d.measures
section
variable {d d' : Ds}
theorem Alike.isNode (h : Alike d d') (s : ByteArray) : isNode d' s = isNode d s := by unfold Go.Proofs.isNode; rw [h.types]
theorem Alike.known (h : Alike d d') (s : ByteArray) : known d' s = known d s := by unfold Go.Proofs.known; rw [h.isNode]
theorem Alike.fits (h : Alike d d') (a b : ByteArray) : fits d' a b = fits d a b := by unfold Go.Proofs.fits; rw [h.isNode]
theorem Alike.fieldT (h : Alike d d') (a b : ByteArray) : fieldT d' a b = fieldT d a b := by unfold Go.Proofs.fieldT tyOf; rw [h.types]
theorem Alike.measT (h : Alike d d') (s : ByteArray) (l : List ByteArray) : measT d' s l = measT d s l := by
  unfold Go.Proofs.measT meOf; rw [h.meas]; simp only [h.fits]
theorem Alike.callE (h : Alike d d') (sc : Sc) (s : ByteArray) (l : List ByteArray) : callE d' sc s l = callE d sc s l := by
  unfold Go.Proofs.callE; rw [h.call, h.measT]
theorem Alike.nodeT (h : Alike d d') (sc : Sc) (op : Int) (s : ByteArray) (l : List ByteArray) : nodeT d' sc op s l = nodeT d sc op s l := by
  unfold Go.Proofs.nodeT; simp only [h.fieldT, h.isNode, h.callE, h.fits]
mutual
theorem Alike.exprT (h : Alike d d') (sc : Sc) : ∀ e : E, exprT d' sc e = exprT d sc e
  | .mk op n s l k => by unfold Go.Proofs.exprT; rw [Alike.partsT h sc k [], h.nodeT]
theorem Alike.partsT (h : Alike d d') (sc : Sc) : ∀ (k : List E) (acc : List ByteArray), partsT d' sc acc k = partsT d sc acc k
  | [], acc => by rw [partsT_nil, partsT_nil]
  | x :: xs, acc => by rw [partsT_cons, partsT_cons, Alike.exprT h sc x, Alike.partsT h sc xs]
end
theorem Alike.stmtT (h : Alike d d') (sc : Sc) (result : ByteArray) (op : Int) (s : ByteArray) (es : List E) : stmtT d' sc result op s es = stmtT d sc result op s es := by
  unfold Go.Proofs.stmtT
  simp only [h.partsT, h.fieldT, h.fits, h.call]
mutual
theorem Alike.stT (h : Alike d d') (sc : Sc) (result : ByteArray) : ∀ (s : S) (n : Int), stT d' sc result n s = stT d sc result n s
  | .mk op s el es ll ls xl xs, n => by unfold Go.Proofs.stT; rw [h.stmtT, Alike.stsT h sc result ls, Alike.stsT h sc result xs]
theorem Alike.stsT (h : Alike d d') (sc : Sc) (result : ByteArray) : ∀ (l : List S) (n : Int), stsT d' sc result n l = stsT d sc result n l
  | [], n => by rw [stsT_nil, stsT_nil]
  | x :: xs, n => by rw [stsT_cons, stsT_cons, Alike.stT h sc result x, Alike.stsT h sc result xs]
end
theorem Alike.wantT (h : Alike d d') (sc : Sc) (e : E) (t : ByteArray) : wantT d' sc e t = wantT d sc e t := by unfold Go.Proofs.wantT; rw [h.exprT]
theorem Alike.oneT (h : Alike d d') (l : List Fld) (i : Nat) (f : Fld) : oneT d' l i f = oneT d l i f := by unfold Go.Proofs.oneT; rw [h.known]
theorem Alike.declT (h : Alike d d') (l : List Fld) : declT d' l = declT d l := by unfold Go.Proofs.declT; simp only [h.oneT]
end
theorem chk_parts {d : Ds} : chkT d = none ↔ (types1 d = none ∧ types2 d = none ∧ types3 d = none) ∧ headsT d = none ∧ (form1 d = none ∧ form2 d = none ∧ form3 d = none ∧ form4 d = none) ∧ bodiesT d = none ∧ exp1 d = none ∧ exp2 d = none ∧ exp3 d = none ∧ exp4 d = none := by
  unfold chkT typesT formT expsT
  simp only [or_none]
end Go.Proofs
namespace Go.Proofs
open Go Go.Sx
theorem valid_iff {d : Ds} : validD d = true ↔ isName d.name = true ∧ (d.types.length : Int) ≤ 12 ∧ fldsB d.globals 8 = true ∧ (d.procs.length : Int) ≤ 40 ∧ (d.measures.length : Int) ≤ 12 ∧ (d.invs.length : Int) ≤ 12 ∧ (d.pots.length : Int) ≤ 12 ∧ (d.bounds.length : Int) ≤ 12 ∧
    (∀ t ∈ d.types, tyB t = true) ∧ (∀ t ∈ d.procs, prB t = true) ∧ (∀ t ∈ d.measures, msB t = true) ∧ (∀ t ∈ d.invs, ivB t = true) ∧ (∀ t ∈ d.pots, poB t = true) ∧ ∀ t ∈ d.bounds, bdB t = true := by
  unfold validD lensB formB
  simp only [Bool.and_eq_true, decide_eq_true_eq, List.all_eq_true, and_assoc]
theorem firstE_all {α β : Type} {c : α → Prop} [DecidablePred c] {r : α → β} {i : Nat} {xs : List α} : firstE (fun _ m => if c m then some (r m) else none) i xs = none ↔ ∀ m ∈ xs, ¬ c m := by
  rw [firstE_iff]
  constructor
  · intro h m hm hc
    obtain ⟨j, hj, rfl⟩ := List.mem_iff_getElem.1 hm
    have := h j _ (List.getElem?_eq_getElem hj)
    rw [if_pos hc] at this
    cases this
  · intro h j x hx
    exact if_neg (h x (List.mem_of_getElem? hx))
theorem form2_iff {d : Ds} : form2 d = none ↔ d.invs.Pairwise (fun a b => a.name ≠ b.name) ∧ ∀ m ∈ d.invs, ¬ (m.ty ≠ sE ∧ isNode d m.ty = false) := by
  unfold form2
  rw [firstE_iff, ← distinct]
  constructor
  · intro h
    refine ⟨fun j x hx => ?_, fun m hm hc => ?_⟩
    · have := h j x hx
      rw [Nat.zero_add] at this
      split at this
      · cases this
      · rename_i h'; simpa using h'
    · obtain ⟨j, hj, rfl⟩ := List.mem_iff_getElem.1 hm
      have := h j _ (List.getElem?_eq_getElem hj)
      split at this
      · cases this
      · first | (cases this; done) | (rw [if_pos hc] at this; cases this)
  · rintro ⟨h1, h2⟩ j x hx
    rw [Nat.zero_add, if_neg (by rw [h1 j x hx]; decide), if_neg (h2 x (List.mem_of_getElem? hx))]
theorem form4_iff {d : Ds} : form4 d = none ↔ d.bounds.Pairwise (fun a b => a.proc ≠ b.proc) ∧ ∀ m ∈ d.bounds, ¬ ((prOf d m.proc).isNone = true) := by
  unfold form4
  rw [firstE_iff, ← distinct]
  constructor
  · intro h
    refine ⟨fun j x hx => ?_, fun m hm hc => ?_⟩
    · have := h j x hx
      rw [Nat.zero_add] at this
      split at this
      · cases this
      · split at this
        · cases this
        · rename_i h'; simpa using h'
    · obtain ⟨j, hj, rfl⟩ := List.mem_iff_getElem.1 hm
      have := h j _ (List.getElem?_eq_getElem hj)
      rw [if_pos hc] at this; cases this
  · rintro ⟨h1, h2⟩ j x hx
    rw [Nat.zero_add, if_neg (h2 x (List.mem_of_getElem? hx)), if_neg (by rw [h1 j x hx]; decide)]
theorem form3_iff {d : Ds} : form3 d = none ↔ ∀ m ∈ d.pots, ¬ (m.ty ≠ sE ∧ isNode d m.ty = false) := firstE_all
theorem exp2_iff {d : Ds} : exp2 d = none ↔ ∀ m ∈ d.invs, ¬ wantT d (inFormS d m.ty) m.x sBool ≠ 0 := firstE_all
theorem exp3_iff {d : Ds} : exp3 d = none ↔ ∀ m ∈ d.pots, ¬ wantT d (inFormS d m.ty) m.x sInt ≠ 0 := firstE_all
theorem exp4_iff {d : Ds} : exp4 d = none ↔ ∀ m ∈ d.bounds, ¬ wantT d (inBoundS d ((prOf d m.proc).getD prD)) m.x sInt ≠ 0 := firstE_all
theorem alike_chk {d d' : Ds} (al : Alike d d') (hg : d'.globals = d.globals) (hp : d'.procs = d.procs) (hc : chkT d = none) (h2 : form2 d' = none) (h3 : form3 d' = none) (h4 : form4 d' = none) (e2 : exp2 d' = none) (e3 : exp3 d' = none) (e4 : exp4 d' = none) : chkT d' = none := by
  rw [chk_parts] at hc ⊢
  obtain ⟨⟨t1, t2, t3⟩, hh, ⟨f1, -, -, -⟩, hb, x1, -, -, -⟩ := hc
  refine ⟨⟨?_, ?_, ?_⟩, ?_, ⟨?_, h2, h3, h4⟩, ?_, ?_, e2, e3, e4⟩
  · unfold types1 at t1 ⊢; rw [al.types]; exact t1
  · unfold types2 at t2 ⊢; rw [al.types]; simp only [al.declT]; exact t2
  · unfold types3 at t3 ⊢; rw [hg]; simp only [al.oneT]; exact t3
  · unfold headsT at hh ⊢; rw [hp]; simp only [al.declT, al.known]; exact hh
  · unfold form1 at f1 ⊢; rw [al.meas]; simp only [al.isNode]; exact f1
  · unfold bodiesT inProcS at hb ⊢; rw [hp, hg]; simp only [al.stsT]; exact hb
  · unfold exp1 inFormS at x1 ⊢; rw [al.meas, hg]; simp only [al.wantT]; exact x1
section
variable {d : Ds} {sl : Sl}
theorem fitAll_types {d d' : Ds} (ht : d'.types = d.types) : ∀ (l : List ByteArray) (fs : List Fld), fitAll d' l fs = fitAll d l fs := by
  intro l
  induction l with
  | nil => intro fs; simp [fitAll]
  | cons a l ih =>
    intro fs
    cases fs with
    | nil => simp [fitAll]
    | cons f fs => unfold fitAll fits isNode; rw [ht, ih]
theorem callT_same {d d' : Ds} (ht : d'.types = d.types) (hp : d'.procs = d.procs) (s : ByteArray) (l : List ByteArray) : callT d' s l = callT d s l := by
  unfold callT prOf; rw [hp]; simp only [fitAll_types ht]
structure Good (d : Ds) : Prop where
  valid : validD d = true
  chk : chkT d = none
end
end Go.Proofs
namespace Go.Proofs
open Go Go.Sx
attribute [local irreducible] Go.Sx.Tri
theorem chk_err (d : Ds) : ∀ r, chkT d = some r → r.2.2 ≠ 0 := by
  unfold chkT
  exact or_bad (fun r h => (types_bad d r h).1) (or_bad (fun r h => (heads_bad d r h).1) (or_bad (fun r h => (form_bad d r h).1) (or_bad (bodies_bad d) fun r h => (exps_bad d r h).1)))
theorem wellT_iff {d : Ds} : wellT d = true ↔ validD d = true ∧ chkT d = none := by
  unfold wellT
  rw [Bool.and_eq_true, decide_eq_true_eq, (fltR_cases (P := fun _ => True) fun r h => ⟨chk_err d r h, trivial⟩).1]
theorem wellE_1 {d : Ds} {ok : Bool} (h : ¬ (validD d = true ∧ ok = true)) : wellE d ok = 1 := by
  unfold wellE; rw [if_neg h]
theorem wellE_13 {d : Ds} {ok : Bool} (h : validD d = true ∧ ok = true) (hw : ¬ wellT d = true) : wellE d ok = 13 := by
  unfold wellE; rw [if_pos h, if_neg fun k => hw (wellT_iff.2 ⟨h.1, k⟩)]
theorem wellE_0 {d : Ds} {ok : Bool} (hw : wellT d = true) (hok : ok = true) : wellE d ok = 0 := by
  obtain ⟨h1, h2⟩ := wellT_iff.1 hw
  unfold wellE; rw [if_pos ⟨h1, hok⟩, if_pos h2]
section
variable {V : Mem} {d : Ds} {e : E} {s : ByteArray}
theorem exprR_e {n : Int} (h : wellE d (validE e) = n) (hn : n ≠ 0) : exprR d s e = (sE, n) := by
  unfold exprR; rw [h, if_pos hn]
theorem exprR_none (h : wellE d (validE e) = 0) (hp : prOf d s = none) : exprR d s e = (sE, 12) := by
  unfold exprR; rw [if_neg fun k => k h, hp]
theorem exprR_some {p : Pr} (h : wellE d (validE e) = 0) (hp : prOf d s = some p) : exprR d s e = exprT d (inProcS d p) e := by
  unfold exprR; rw [if_neg fun k => k h, hp]
theorem measR_e {n : Int} (h : wellE d (validE e) = n) (hn : n ≠ 0) : measR d s e = (sE, n) := by
  unfold measR; rw [h, if_pos hn]
theorem measR_none (h : wellE d (validE e) = 0) (hp : s ≠ sE ∧ isNode d s = false) : measR d s e = (sE, 12) := by
  unfold measR; rw [if_neg fun k => k h, if_pos hp]
theorem measR_some (h : wellE d (validE e) = 0) (hp : ¬ (s ≠ sE ∧ isNode d s = false)) : measR d s e = exprT d (inFormS d s) e := by
  unfold measR; rw [if_neg fun k => k h, if_neg hp]
theorem awakeAt [hT : Tab V] {V2 : Mem} (h : V.sub V2) : Tri Tryz.prog 10 #[] V2 fun r V3 => ∃ v : Bool, r = .returned (.bool v) ∧ (Ending.returned (.bool v) = Ending.returned (.bool true) ∧ V.sub V3) := by
  haveI : Tab V2 := hT.sub h
  exact (awakeC V2).call ⟨_, rfl, rfl, h⟩
end
end Go.Proofs
namespace Go.Proofs
open Go Go.Sx
attribute [local irreducible] Go.Sx.Tri
theorem RowsAt.post {α : Type} {V : Mem} {l : Sl} {sz : Nat} {row : α → List Value} {xs : List α} (h : RowsAt V l sz (xs.map row)) {j : Nat} (hj : j ≤ xs.length) :
    RowsAt V ⟨if (l.c : Int) = (j : Int) then l.p else ptrAdd l.p ((j : Int).toNat * sz), ((l.n : Int) - (j : Int)).toNat, ((l.c : Int) - (j : Int)).toNat⟩ sz ((xs.drop j).map row) := by
  have hn := h.n_eq
  have hc := h.cap
  have hf := h.fit
  refine ⟨?_, ?_, ?_, fun r hr => h.size r ?_, fun i r hi => ?_⟩
  · show ((l.n : Int) - (j : Int)).toNat = _
    rw [List.length_map, List.length_drop]; omega
  · show ((l.n : Int) - (j : Int)).toNat ≤ ((l.c : Int) - (j : Int)).toNat; omega
  · show ((l.c : Int) - (j : Int)).toNat ≤ _; omega
  · rw [List.map_drop] at hr; exact List.mem_of_mem_drop hr
  · rw [List.map_drop, List.getElem?_drop] at hi
    obtain ⟨a, ha, hrow⟩ := h.at_ _ _ hi
    have hlt : j + i < (xs.map row).length := (List.getElem?_eq_some_iff.1 hi).1
    rw [List.length_map] at hlt
    refine ⟨a.add (j * sz), ?_, ?_⟩
    · show (if (l.c : Int) = (j : Int) then l.p else ptrAdd l.p ((j : Int).toNat * sz)) = _
      rw [if_neg (by omega), ha]; rfl
    · rw [add_add, ← Nat.add_mul]; exact hrow
theorem mod_nat {k : Int} {n : Nat} (hk : 0 ≤ k) (hn : 0 < n) : ∃ i : Nat, i < n ∧ k.tmod (n : Int) = (i : Int) := by
  obtain ⟨m, rfl⟩ := Int.eq_ofNat_of_zero_le hk
  exact ⟨m % n, Nat.mod_lt _ hn, rfl⟩
theorem app24 {V0 V : Mem} {ty : Nat} {x y : Operand} {vals : Operand → Value} {s u : Sl} {xs ys : List Pr} (hx : vals x = .slice s.p s.n s.c) (hy : vals y = .slice u.p u.n u.c) (own : Sx.Own V0 V 54 5 s (xs.flatMap Pr.row)) (hnew : RowsAt V u 5 (ys.map Pr.row))
    (hfit : xs.length + ys.length ≤ 2147483648) {q : Value → Mem → Prop} (hq : ∀ s' V', Sx.Own V0 V' 54 5 s' ((xs ++ ys).flatMap Pr.row) → q (.slice s'.p s'.n s'.c) V') :
    GenK Tryz.prog (.call { callee := .builtin .append, args := #[x, y], argTypes := #[24, 24] }) ty vals V q := by
  have hi : Tryz.prog.info? 54 = some (ti 54) := by kernel_rfl
  have hz : (ti 54).zero = some ((ti 54).zero.getD undef) := by kernel_rfl
  have h1 : (ti 54).size = 5 := by kernel_rfl
  have h2 : ((ti 54).zero.getD undef).cells.size = 5 := by kernel_rfl
  have h3 : (ti 54).bytes ≤ 65536 := of_decide_eq_true (by kernel_rfl)
  exact GenK.appendS Tryz.underlying24 hi hz h1 h2 (by decide) h3 hx hy own (fun _ => rfl) hnew (fun x u hu => by
    simp only [Pr.row, List.mem_cons, List.not_mem_nil, or_false] at hu
    rcases hu with rfl | rfl | rfl | rfl | rfl <;> rfl) hfit hq
theorem c31 {V : Mem} {l : Sl} {xs : List Pr} (h : RowsAt V l 5 (xs.map Pr.row)) (hl : xs.length ≤ 1000) : Tri Tryz.prog 31 #[l.v] V fun r V' => ∃ s : Sl, r = .returned (.slice s.p s.n s.c) ∧ Sx.Own V V' 54 5 s (xs.flatMap Pr.row) := by
  refine x31 ?_
  unfold w31
  refine ⟨fun hp => ?_, fun hp => ?_⟩
  · have : xs = [] := by
      cases xs with
      | nil => rfl
      | cons x xs =>
        have := h.base (i := 0) (by simp)
        rw [hp] at this; cases this
    subst this
    exact ⟨⟨none, 0, 0⟩, rfl, Sx.Own.nil (Mem.sub.refl _) _ _⟩
  · intro b hb
    have hs := Mem.sub_new hb (.cells #[] 54 (0, 0))
    exact app24 (s := ⟨some ⟨b, 0, none⟩, 0, 0⟩) (u := l) (xs := []) (ys := xs) rfl rfl (Sx.Own.empty hs _ _ _) (h.sub hs) (by simp; omega) fun s1 V1 o1 => ⟨s1, rfl, s1, rfl, o1⟩
theorem app38 {V0 V : Mem} {ty : Nat} {x y : Operand} {vals : Operand → Value} {s u : Sl} {xs ys : List E} (hx : vals x = .slice s.p s.n s.c) (hy : vals y = .slice u.p u.n u.c) (own : Sx.Own V0 V 40 4 s (xs.flatMap E.row)) (hnew : RowsAt V u 4 (ys.map E.row))
    (hfit : xs.length + ys.length ≤ 2147483648) {q : Value → Mem → Prop} (hq : ∀ s' V', Sx.Own V0 V' 40 4 s' ((xs ++ ys).flatMap E.row) → q (.slice s'.p s'.n s'.c) V') :
    GenK Tryz.prog (.call { callee := .builtin .append, args := #[x, y], argTypes := #[38, 38] }) ty vals V q := by
  have hi : Tryz.prog.info? 40 = some (ti 40) := by kernel_rfl
  have hz : (ti 40).zero = some ((ti 40).zero.getD undef) := by kernel_rfl
  have h1 : (ti 40).size = 4 := by kernel_rfl
  have h2 : ((ti 40).zero.getD undef).cells.size = 4 := by kernel_rfl
  have h3 : (ti 40).bytes ≤ 65536 := of_decide_eq_true (by kernel_rfl)
  exact GenK.appendS Tryz.underlying38 hi hz h1 h2 (by decide) h3 hx hy own (fun _ => rfl) hnew (fun x u hu => by
    simp only [E.row, List.mem_cons, List.not_mem_nil, or_false] at hu
    rcases hu with rfl | rfl | rfl | rfl <;> rfl) hfit hq
theorem c40 {V : Mem} {l : Sl} {xs : List E} (h : RowsAt V l 4 (xs.map E.row)) (hl : xs.length ≤ 1000) : Tri Tryz.prog 40 #[l.v] V fun r V' => ∃ s : Sl, r = .returned (.slice s.p s.n s.c) ∧ Sx.Own V V' 40 4 s (xs.flatMap E.row) := by
  refine x40 ?_
  unfold w40
  refine ⟨fun hp => ?_, fun hp => ?_⟩
  · have : xs = [] := by
      cases xs with
      | nil => rfl
      | cons x xs =>
        have := h.base (i := 0) (by simp)
        rw [hp] at this; cases this
    subst this
    exact ⟨⟨none, 0, 0⟩, rfl, Sx.Own.nil (Mem.sub.refl _) _ _⟩
  · intro b hb
    have hs := Mem.sub_new hb (.cells #[] 40 (0, 0))
    exact app38 (s := ⟨some ⟨b, 0, none⟩, 0, 0⟩) (u := l) (xs := []) (ys := xs) rfl rfl (Sx.Own.empty hs _ _ _) (h.sub hs) (by simp; omega) fun s1 V1 o1 => ⟨s1, rfl, s1, rfl, o1⟩
theorem app52 {V0 V : Mem} {ty : Nat} {x y : Operand} {vals : Operand → Value} {s u : Sl} {xs ys : List S} (hx : vals x = .slice s.p s.n s.c) (hy : vals y = .slice u.p u.n u.c) (own : Sx.Own V0 V 75 5 s (xs.flatMap S.row)) (hnew : RowsAt V u 5 (ys.map S.row))
    (hfit : xs.length + ys.length ≤ 2147483648) {q : Value → Mem → Prop} (hq : ∀ s' V', Sx.Own V0 V' 75 5 s' ((xs ++ ys).flatMap S.row) → q (.slice s'.p s'.n s'.c) V') :
    GenK Tryz.prog (.call { callee := .builtin .append, args := #[x, y], argTypes := #[52, 52] }) ty vals V q := by
  have hi : Tryz.prog.info? 75 = some (ti 75) := by kernel_rfl
  have hz : (ti 75).zero = some ((ti 75).zero.getD undef) := by kernel_rfl
  have h1 : (ti 75).size = 5 := by kernel_rfl
  have h2 : ((ti 75).zero.getD undef).cells.size = 5 := by kernel_rfl
  have h3 : (ti 75).bytes ≤ 65536 := of_decide_eq_true (by kernel_rfl)
  exact GenK.appendS Tryz.underlying52 hi hz h1 h2 (by decide) h3 hx hy own (fun s => by cases s; rfl) hnew (fun x u hu => by
    simp only [S.row_eq, List.mem_cons, List.not_mem_nil, or_false] at hu
    rcases hu with rfl | rfl | rfl | rfl | rfl <;> rfl) hfit hq
theorem c34 {V : Mem} {l : Sl} {xs : List Fld} (h : RowsAt V l 2 (xs.map Fld.row)) (hl : xs.length ≤ 1000) : Tri Tryz.prog 34 #[l.v] V fun r V' => ∃ s : Sl, r = .returned (.slice s.p s.n s.c) ∧ Sx.Own V V' 67 2 s (xs.flatMap Fld.row) := by
  refine x34 ?_
  unfold w34
  refine ⟨fun hp => ?_, fun hp => ?_⟩
  · have : xs = [] := by
      cases xs with
      | nil => rfl
      | cons x xs =>
        have := h.base (i := 0) (by simp)
        rw [hp] at this; cases this
    subst this
    exact ⟨⟨none, 0, 0⟩, rfl, Sx.Own.nil (Mem.sub.refl _) _ _⟩
  · intro b hb
    have hs := Mem.sub_new hb (.cells #[] 67 (0, 0))
    exact app23 (s := ⟨some ⟨b, 0, none⟩, 0, 0⟩) (u := l) (xs := []) (ys := xs) rfl rfl (Sx.Own.empty hs _ _ _) (h.sub hs) (by simp; omega) fun s1 V1 o1 => ⟨s1, rfl, s1, rfl, o1⟩
end Go.Proofs
namespace Go.Proofs
open Go Go.Sx
attribute [local irreducible] Go.Sx.Tri
section
variable {V : Mem} {d : Ds}
theorem Good.of (h : wellT d = true) : Good d := ⟨(wellT_iff.1 h).1, (wellT_iff.1 h).2⟩
theorem Good.well (h : Good d) : wellT d = true := wellT_iff.2 ⟨h.valid, h.chk⟩
theorem c22 [Tab V] (hd : Ds.Ok V d) : PP 22 [d.v] V (.bool (wellT d)) := by
  refine x22 (v0 := d.name) (v1 := d.ts) (v2 := d.gs) (v3 := d.ps) (v4 := d.ms) (v5 := d.is) (v6 := d.qs) (v7 := d.bs) ?_
  unfold w22
  refine (c12 scopeC newC hd).call ?_
  by_cases hv : validD d = true
  · rw [if_pos hv]
    cases hc : chkT d with
    | none =>
      rw [wellT_iff.2 ⟨hv, hc⟩]
      exact ⟨_, _, _, rfl, fun _ => ⟨fun _ => ⟨rfl, rfl⟩, fun h => absurd rfl h⟩, fun h => absurd rfl h⟩
    | some r =>
      have hw : wellT d = false := by
        cases h : wellT d with
        | false => rfl
        | true => have := (wellT_iff.1 h).2; rw [hc] at this; cases this
      rw [hw]
      refine ⟨_, _, _, rfl, fun _ => ⟨fun _ => ⟨?_, rfl⟩, fun _ => ⟨rfl, rfl⟩⟩, fun _ => ⟨rfl, rfl⟩⟩
      rw [show decide ((fltR (some r)).2.2 = 0) = false from decide_eq_false (chk_err d r hc)]
  · rw [if_neg hv]
    have hw : wellT d = false := by
      cases h : wellT d with
      | false => rfl
      | true => exact absurd (wellT_iff.1 h).1 hv
    rw [hw]
    exact ⟨_, _, _, rfl, fun _ => ⟨fun _ => ⟨rfl, rfl⟩, fun h => absurd rfl h⟩, fun h => absurd rfl h⟩
end
end Go.Proofs
namespace Go.Proofs
open Go Go.Sx
def sigP (p : Pr) : ByteArray × List Fld × List Fld × ByteArray := (p.name, p.params, p.locals, p.result)
def setP (d : Ds) (sl : Sl) (l : List Pr) : Ds := { d with ps := sl, procs := l }
def setG (d : Ds) (sl : Sl) (l : List Fld) : Ds := { d with gs := sl, globals := l }
section
variable {d : Ds} {sl : Sl}
theorem prOf_sig (d : Ds) (s : ByteArray) : (prOf d s).map sigP = (d.procs.map sigP).find? (fun q => decide (q.1 = s)) := by
  rw [List.find?_map]; rfl
theorem callT_sig {d d' : Ds} (ht : d'.types = d.types) (h : d'.procs.map sigP = d.procs.map sigP) (s : ByteArray) (l : List ByteArray) : callT d' s l = callT d s l := by
  have e : (prOf d' s).map sigP = (prOf d s).map sigP := by rw [prOf_sig, prOf_sig, h]
  have hf := fitAll_types ht
  unfold callT
  cases h1 : prOf d' s with
  | none =>
    rw [h1] at e
    cases h2 : prOf d s with
    | none => rfl
    | some q => rw [h2] at e; cases e
  | some p =>
    rw [h1] at e
    cases h2 : prOf d s with
    | none => rw [h2] at e; cases e
    | some q =>
      rw [h2] at e
      simp only [Option.map_some, Option.some.injEq, sigP, Prod.mk.injEq] at e
      obtain ⟨-, e2, -, e4⟩ := e
      simp only [e2, e4, hf]
theorem any_sig (l : List Pr) (j : Nat) (s : ByteArray) : (l.take j).any (fun g => decide (g.name = s)) = ((l.map sigP).take j).any (fun q => decide (q.1 = s)) := by
  rw [← List.map_take, List.any_map]; rfl
/-- A procedure's body has another statement in front. -/
theorem undeclared {p : Pr} {i : Nat} {el bs : Sl} {e0 : E} {s : ByteArray} (h : Good d) (hi : d.procs[i]? = some p) (hs : lookF (p.params ++ p.locals ++ d.globals) s = sE) (he : exprT d (inProcS d p) e0 = (sInt, 0)) (l1 l2 : Sl) :
    chkT (setP d sl (d.procs.set i { p with bs := bs, body := .mk 1 s el [e0] l1 [] l2 [] :: p.body })) = some (p.name, 0, 9) := by
  obtain ⟨⟨t1, t2, t3⟩, hh, ⟨f1, f2, f3, f4⟩, hb, -⟩ := chk_parts.1 h.chk
  generalize hp' : ({ p with bs := bs, body := .mk 1 s el [e0] l1 [] l2 [] :: p.body } : Pr) = p'
  have hsg : sigP p' = sigP p := by subst hp'; rfl
  obtain ⟨hil, hie⟩ := List.getElem?_eq_some_iff.1 hi
  have hm : (d.procs.set i p').map sigP = d.procs.map sigP := by
    rw [List.map_set, hsg, ← hie]
    apply List.ext_getElem?
    intro j
    rw [List.getElem?_set]
    split
    · rename_i e; subst e
      simp [hil]
    · rfl
  have al : Alike d (setP d sl (d.procs.set i p')) := ⟨rfl, callT_sig rfl hm, rfl⟩
  have hg : (setP d sl (d.procs.set i p')).globals = d.globals := rfl
  have hpr : (setP d sl (d.procs.set i p')).procs = d.procs.set i p' := rfl
  have T : typesT (setP d sl (d.procs.set i p')) = none := by
    unfold typesT; rw [or_none, or_none]
    refine ⟨?_, ?_, ?_⟩
    · unfold types1 at t1 ⊢; rw [al.types]; exact t1
    · unfold types2 at t2 ⊢; rw [al.types]; simp only [al.declT]; exact t2
    · unfold types3 at t3 ⊢; rw [hg]; simp only [al.oneT]; exact t3
  have H : headsT (setP d sl (d.procs.set i p')) = none := by
    unfold headsT at hh ⊢
    rw [firstE_iff] at hh ⊢
    intro j x hx
    rw [hpr] at hx ⊢
    have hx2 : ((d.procs.set i p').map sigP)[j]? = some (sigP x) := by rw [List.getElem?_map, hx]; rfl
    rw [hm, List.getElem?_map, Option.map_eq_some_iff] at hx2
    obtain ⟨y, hy, e⟩ := hx2
    have := hh j y hy
    simp only [sigP, Prod.mk.injEq] at e
    obtain ⟨e1, e2, e3, e4⟩ := e
    rw [any_sig, hm, ← any_sig]
    simp only [al.declT, al.known]
    rw [← e1, ← e2, ← e3, ← e4]
    exact this
  have F : formT (setP d sl (d.procs.set i p')) = none := by
    unfold formT; rw [or_none, or_none, or_none]
    refine ⟨?_, ?_, ?_, ?_⟩
    · unfold form1 at f1 ⊢; rw [al.meas]; simp only [al.isNode]; exact f1
    · exact form2_iff.2 (form2_iff.1 f2)
    · exact form3_iff.2 (form3_iff.1 f3)
    · refine form4_iff.2 ⟨(form4_iff.1 f4).1, fun m hm2 k => (form4_iff.1 f4).2 m hm2 ?_⟩
      have e : (prOf (setP d sl (d.procs.set i p')) m.proc).map sigP = (prOf d m.proc).map sigP := by rw [prOf_sig, prOf_sig, hpr, hm]
      rw [Option.isNone_iff_eq_none] at k ⊢
      rw [k] at e
      simpa using e.symm
  have B : bodiesT (setP d sl (d.procs.set i p')) = some (p.name, 0, 9) := by
    unfold bodiesT at hb ⊢
    rw [firstE_iff] at hb
    refine firstE_at (k := i) (y := p') (fun j x hj hx => ?_) (by rw [hpr, List.getElem?_set_self hil]) ?_
    · rw [hpr, List.getElem?_set_ne (by omega)] at hx
      have := hb j x hx
      simp only [al.stsT]
      exact this
    · have : (stsT (setP d sl (d.procs.set i p')) (inProcS (setP d sl (d.procs.set i p')) p') p'.result 0 p'.body) = (0, 9) := by
        rw [al.stsT]
        have e0' : inProcS (setP d sl (d.procs.set i p')) p' = inProcS d p := by subst hp'; rfl
        rw [e0', show p'.body = .mk 1 s el [e0] l1 [] l2 [] :: p.body by subst hp'; rfl, stsT_cons]
        have st : stmtT d (inProcS d p) p'.result 1 s [e0] = 9 := by
          unfold stmtT
          rw [if_neg (by decide), partsT_cons, he]
          simp only [ne_eq, not_true_eq_false, if_false, partsT_nil, if_true]
          rw [if_pos (show lookF (inProcS d p).vars s = sE from hs)]
        have : stT d (inProcS d p) p'.result 0 (.mk 1 s el [e0] l1 [] l2 []) = (0, 9) := by
          rw [stT_eq]
          show (if stmtT d (inProcS d p) p'.result 1 s [e0] ≠ 0 then ((0 : Int), stmtT d (inProcS d p) p'.result 1 s [e0]) else _) = _
          rw [st]; rfl
        rw [this]; rfl
      rw [this, if_pos (by decide), show p'.name = p.name by subst hp'; rfl]
  unfold chkT
  rw [T, H, F, B]; rfl
theorem twiceProc {p : Pr} {i : Nat} (h : Good d) (hi : d.procs[i]? = some p) : chkT (setP d sl (d.procs ++ [p])) = some (p.name, -1, 10) := by
  obtain ⟨⟨t1, t2, t3⟩, hh, -⟩ := chk_parts.1 h.chk
  have T : typesT (setP d sl (d.procs ++ [p])) = none := by
    unfold typesT; rw [or_none, or_none]; exact ⟨t1, t2, t3⟩
  have H : headsT (setP d sl (d.procs ++ [p])) = some (p.name, -1, 10) := by
    unfold headsT at hh ⊢
    rw [firstE_iff] at hh
    refine firstE_at (k := d.procs.length) (y := p) (fun j x hj hx => ?_) (by show (d.procs ++ [p])[d.procs.length]? = some p; simp) ?_
    · have hx2 : d.procs[j]? = some x := by
        rw [← hx]; show d.procs[j]? = (d.procs ++ [p])[j]?
        rw [List.getElem?_append_left hj]
      have := hh j x hx2
      rw [Nat.zero_add] at this ⊢
      rw [show (setP d sl (d.procs ++ [p])).procs.take j = d.procs.take j from List.take_append_of_le_length (by omega)]
      exact this
    · rw [Nat.zero_add, show (setP d sl (d.procs ++ [p])).procs.take d.procs.length = d.procs from List.take_left' rfl, if_pos (List.any_eq_true.2 ⟨p, List.mem_of_getElem? hi, decide_eq_true rfl⟩)]
  unfold chkT
  rw [T, H]; rfl
theorem twiceGlobal {g : Fld} (h : Good d) (hi : d.globals[0]? = some g) (hl : (d.globals.length : Int) < 8) : validD (setG d sl (d.globals ++ [g])) = true ∧ chkT (setG d sl (d.globals ++ [g])) = some (g.name, -1, 10) := by
  refine ⟨?_, ?_⟩
  · have hv := h.valid
    rw [valid_iff] at hv ⊢
    obtain ⟨a1, a2, a3, a4, a5⟩ := hv
    refine ⟨a1, a2, ?_, a4, a5⟩
    unfold fldsB at a3 ⊢
    simp only [Bool.and_eq_true, decide_eq_true_eq, List.all_eq_true] at a3 ⊢
    refine ⟨by show ((d.globals ++ [g]).length : Int) ≤ 8; simp; omega, fun f hf => ?_⟩
    rcases List.mem_append.1 hf with hf | hf
    · exact a3.2 f hf
    · rw [List.mem_singleton.1 hf]; exact a3.2 g (List.mem_of_getElem? hi)
  · obtain ⟨⟨t1, t2, t3⟩, -⟩ := chk_parts.1 h.chk
    have T : types3 (setG d sl (d.globals ++ [g])) = some (g.name, -1, 10) := by
      unfold types3 at t3 ⊢
      rw [firstE_iff] at t3
      have ot : oneT (setG d sl (d.globals ++ [g])) (d.globals ++ [g]) d.globals.length g = 10 := by
        unfold oneT
        rw [List.take_left' rfl, if_pos (List.any_eq_true.2 ⟨g, List.mem_of_getElem? hi, decide_eq_true rfl⟩)]
      refine firstE_at (k := d.globals.length) (y := g) (fun j x hj hx => ?_) (by show (d.globals ++ [g])[d.globals.length]? = some g; simp) ?_
      · have hx2 : d.globals[j]? = some x := by
          rw [← hx]; show d.globals[j]? = (d.globals ++ [g])[j]?
          rw [List.getElem?_append_left hj]
        have := t3 j x hx2
        rw [Nat.zero_add] at this ⊢
        have e : oneT (setG d sl (d.globals ++ [g])) (setG d sl (d.globals ++ [g])).globals j x = oneT d d.globals j x := by
          unfold oneT
          rw [show (setG d sl (d.globals ++ [g])).globals.take j = d.globals.take j from List.take_append_of_le_length (by omega)]
          rfl
        rw [e]
        exact this
      · rw [Nat.zero_add]
        show (if oneT (setG d sl (d.globals ++ [g])) (d.globals ++ [g]) d.globals.length g ≠ 0 then some ((g.name, -1, oneT (setG d sl (d.globals ++ [g])) (d.globals ++ [g]) d.globals.length g) : Flt) else none) = _
        rw [ot]; rfl
    unfold chkT typesT
    rw [show types1 (setG d sl (d.globals ++ [g])) = none from t1, show types2 (setG d sl (d.globals ++ [g])) = none from t2, T]; rfl
end
end Go.Proofs
namespace Go.Proofs
open Go Go.Sx
attribute [local irreducible] Go.Sx.Tri
theorem ptr_off (g o m : Nat) : ptrAdd (some ⟨g, o, none⟩) m = some ⟨g, o + m, none⟩ := by
  show some (Addr.add ⟨g, o, none⟩ m) = _
  unfold Addr.add
  split
  · rename_i h; subst h; rfl
  · rfl
theorem flat_set {α : Type} {row : α → List Value} {sz : Nat} (hr : ∀ x, (row x).length = sz) {x' : α} {j : Nat} {v : Value} (hj : j < sz) : ∀ {xs : List α} {i : Nat} {x : α}, xs[i]? = some x → row x' = (row x).set j v → (xs.set i x').flatMap row = (xs.flatMap row).set (i * sz + j) v
  | [], _, _, h, _ => by simp at h
  | y :: ys, 0, x, h, e => by
    simp only [List.getElem?_cons_zero, Option.some.injEq] at h
    subst h
    rw [List.set_cons_zero, List.flatMap_cons, List.flatMap_cons, e, Nat.zero_mul, Nat.zero_add, List.set_append_left _ _ (by rw [hr]; exact hj)]
  | y :: ys, i + 1, x, h, e => by
    rw [List.getElem?_cons_succ] at h
    rw [List.set_cons_succ, List.flatMap_cons, List.flatMap_cons, flat_set hr hj h e, List.set_append_right _ _ (by rw [hr, Nat.add_mul]; omega)]
    congr 2
    rw [hr, Nat.add_mul]; omega
theorem own_put {α : Type} {row : α → List Value} {sz : Nat} (hr : ∀ x, (row x).length = sz) {V0 V : Mem} {e : TypeId} {s : Sl} {xs : List α} (o : Sx.Own V0 V e sz s (xs.flatMap row)) {i j : Nat} {x x' : α} {v : Value} (hx : xs[i]? = some x) (hrow : row x' = (row x).set j v) (hj : j < sz) {q : Mem → Prop}
    (hq : ∀ g obj, s.p = some ⟨g, 0, none⟩ → V0 g = none → Sx.Own V0 (V.set g obj) e sz s ((xs.set i x').flatMap row) → q (V.set g obj)) : StT (ptrAdd (ptrAdd s.p (i * sz)) j) 0 [v] V q := by
  have hn : s.n = xs.length := o.n_eq hr (by omega)
  have hi : i < xs.length := (List.getElem?_eq_some_iff.1 hx).1
  rcases o.at_ with ⟨h1, -, -⟩ | ⟨g, cur, hp, hg, hV, hnc, hcm, hcs, htake⟩
  · omega
  · have h2 : (i + 1) * sz ≤ s.n * sz := Nat.mul_le_mul_right _ (by omega)
    have h3 : s.n * sz ≤ s.c * sz := Nat.mul_le_mul_right _ hnc
    rw [Nat.add_mul, Nat.one_mul] at h2
    refine ⟨⟨g, i * sz + j, none⟩, cur, e, ?_, hV, rfl, by simp only [List.length_cons, List.length_nil]; omega, hq g _ hp hg ?_⟩
    · rw [hp, ptr_off, ptr_off, Nat.zero_add]
    · have hset : cur.toList.take (i * sz + j + 0) ++ [v] ++ cur.toList.drop (i * sz + j + 0 + [v].length) = cur.toList.set (i * sz + j) v := by
        rw [List.set_eq_take_append_cons_drop, if_pos (by rw [Array.length_toList]; omega)]
        simp
      rw [hset]
      refine ⟨fun b ob hb => ?_, by rw [flatMap_len hr, List.length_set, hn], .inr ⟨g, _, hp, hg, Mem.set_same _ _ _, hnc, hcm, by simp [hcs], ?_⟩⟩
      · rw [Mem.set_ne (fun e => by subst e; rw [hg] at hb; cases hb)]
        exact o.sub _ _ hb
      · rw [flat_set hr hj hx hrow, ← htake, List.take_set]
theorem own_sub {V0 V V' : Mem} {e : TypeId} {sz : Nat} {s : Sl} {vs : List Value} (o : Sx.Own V0 V e sz s vs) (h : V.sub V') : Sx.Own V0 V' e sz s vs := by
  refine ⟨o.sub.trans h, o.len, ?_⟩
  rcases o.at_ with h1 | ⟨g, cur, hp, hg, hV, r⟩
  · exact .inl h1
  · exact .inr ⟨g, cur, hp, hg, h _ _ hV, r⟩
theorem own_move {V0 V1 V : Mem} {e : TypeId} {sz : Nat} {s : Sl} {vs : List Value} (o : Sx.Own V0 V e sz s vs) {g : Nat} {obj ob : Obj} (hg : V0 g = some ob) (h1 : V1.sub (V.set g obj)) (h2 : V1.sub V0) : Sx.Own V1 (V.set g obj) e sz s vs := by
  refine ⟨h1, o.len, ?_⟩
  rcases o.at_ with h | ⟨b, cur, hp, hb, hV, r⟩
  · exact .inl h
  · refine .inr ⟨b, cur, hp, ?_, ?_, r⟩
    · cases hx : V1 b with
      | none => rfl
      | some y => rw [h2 _ _ hx] at hb; cases hb
    · rw [Mem.set_ne (fun e => by subst e; rw [hg] at hb; cases hb)]; exact hV
theorem szS_len : ∀ l : List S, l.length ≤ szSs l
  | [] => Nat.zero_le _
  | x :: xs => by
    have := szS_len xs
    cases x with
    | mk => unfold szSs szS; simp only [List.length_cons]; omega
theorem lookF_none {s : ByteArray} : ∀ {l : List Fld}, l.any (fun f => decide (f.name = s)) = false → lookF l s = sE
  | [], _ => rfl
  | f :: l, h => by
    rw [List.any_cons, Bool.or_eq_false_iff] at h
    unfold lookF
    rw [if_neg (of_decide_eq_false h.1), lookF_none h.2]
def sUnk : ByteArray := strB [117, 110, 107, 110, 111, 119, 110, 95, 118, 97, 114, 105, 97, 98, 108, 101]
def unkB (l : List Fld) : Bool := l.any fun f => decide (f.name = sUnk)
theorem procRows {V : Mem} {b : Nat} {p : Pr} (h : V b = some (.cells #[.string p.name, .slice p.ps.p p.ps.n p.ps.c, .string p.result, .slice p.ls.p p.ls.n p.ls.c, .slice p.bs.p p.bs.n p.bs.c] 54 (0, 0))) : RowsAt V ⟨some ⟨b, 0, none⟩, 1, 1⟩ 5 ([p].map Pr.row) :=
  RowsAt.cells (xs := [p]) (row := Pr.row) h rfl (fun _ => rfl) rfl (by simp)
theorem mem_snoc {α : Type} {q : α → Prop} {l : List α} {x : α} (h : ∀ y ∈ l, q y) (hx : q x) : ∀ y ∈ l ++ [x], q y := fun y hy => by
  rcases List.mem_append.1 hy with hy | hy
  · exact h y hy
  · rw [List.mem_singleton.1 hy]; exact hx
section
variable {V : Mem} {d : Ds}
theorem c33 {f : Fld} : PP 33 [f.v] V (.bool (decide (f.name = sUnk))) := by
  refine x33 (v0 := f.name) (v1 := f.ty) ?_
  unfold w33
  exact ⟨rfl, rfl⟩
theorem c32 {l : Sl} {xs : List Fld} (h : RowsAt V l 2 (xs.map Fld.row)) : PP 32 [l.v] V (.bool (!(unkB xs))) := by
  refine x32 (v0 := l) ?_
  unfold w32
  exact (c26 (first := []) (caps := []) h Tryz.call33 (fun f => decide (f.name = sUnk)) (fun f _ => c33)).call ⟨_, rfl, rfl, rfl⟩
theorem okP {sl : Sl} {l : List Pr} (h : Ds.Ok V d) (r : RowsAt V sl 5 (l.map Pr.row)) (k : ∀ p ∈ l, Pr.Ok V p) : Ds.Ok V (setP d sl l) := ⟨h.types, h.typesOk, h.globals, r, k, h.measures, h.measuresOk, h.invs, h.invsOk, h.pots, h.potsOk, h.bounds, h.boundsOk⟩
theorem okG {sl : Sl} {l : List Fld} (h : Ds.Ok V d) (r : RowsAt V sl 2 (l.map Fld.row)) : Ds.Ok V (setG d sl l) := ⟨h.types, h.typesOk, r, h.procs, h.procsOk, h.measures, h.measuresOk, h.invs, h.invsOk, h.pots, h.potsOk, h.bounds, h.boundsOk⟩
def xInt0 : E := .mk 1 0 (strB []) nilSl []
def unkS (l : Sl) : S := .mk 1 sUnk l [xInt0] nilSl [] nilSl []
theorem xInt0_t (sc : Sc) : exprT d sc xInt0 = (sInt, 0) := by kernel_rfl
theorem checkR {x : Ds} {r : Flt} (h : validD x = true → chkT x = some r) : ∃ r' : Flt, (if validD x = true then f3 (chkT x) else .tuple #[.string sE, .int .i64 0, .int .i64 1]) = .tuple #[.string r'.1, .int .i64 r'.2.1, .int .i64 r'.2.2] ∧ (r'.2.2 = 1 ∨ r' = r) := by
  by_cases hv : validD x = true
  · rw [if_pos hv, h hv]; exact ⟨r, rfl, .inr rfl⟩
  · rw [if_neg hv]; exact ⟨(sE, 0, 1), rfl, .inl rfl⟩
theorem checkR' {x : Ds} {p : Prop} {r : Flt} (h : p → chkT x = some r) : ∃ r' : Flt, (if validD x = true then f3 (chkT x) else .tuple #[.string sE, .int .i64 0, .int .i64 1]) = .tuple #[.string r'.1, .int .i64 r'.2.1, .int .i64 r'.2.2] ∧ (p → r'.2.2 = 1 ∨ r' = r) := by
  by_cases hv : validD x = true
  · rw [if_pos hv]; exact ⟨fltR (chkT x), rfl, fun hp => .inr (by rw [h hp]; rfl)⟩
  · rw [if_neg hv]; exact ⟨(sE, 0, 1), rfl, fun _ => .inl rfl⟩
end
end Go.Proofs
namespace Go.Proofs
open Go Go.Sx
mutual
theorem okE_mono : ∀ (e : E) (a b : Int), b ≤ a → okE a e = true → okE b e = true
  | .mk op n s l k, a, b, hab, h => by
    unfold okE at h ⊢
    simp only [Bool.and_eq_true, decide_eq_true_eq] at h ⊢
    exact ⟨⟨by omega, h.1.2⟩, okEs_mono k (a + 1) (b + 1) (by omega) h.2⟩
theorem okEs_mono : ∀ (k : List E) (a b : Int), b ≤ a → okEs a k = true → okEs b k = true
  | [], _, _, _, _ => by unfold okEs; rfl
  | x :: xs, a, b, hab, h => by
    unfold okEs at h ⊢
    simp only [Bool.and_eq_true] at h ⊢
    exact ⟨okE_mono x a b hab h.1, okEs_mono xs a b hab h.2⟩
end
theorem szEs_mem : ∀ {k : List E}, ∀ x ∈ k, szE x ≤ szEs k
  | [], _, hx => absurd hx List.not_mem_nil
  | y :: k, x, hx => by
    unfold szEs
    rcases List.mem_cons.1 hx with rfl | hx
    · omega
    · have := szEs_mem x hx; omega
theorem szE_pos (e : E) : 1 ≤ szE e := by cases e; unfold szE; omega
theorem valid_kid {e x : E} (h : validE e = true) (hx : x ∈ e.k) : validE x = true := by
  cases e with
  | mk op n s l k =>
  unfold validE okE szE at h
  have := of_decide_eq_true h
  obtain ⟨h1, h2⟩ := this
  simp only [Bool.and_eq_true] at h1
  have h3 := szEs_mem x hx
  exact decide_eq_true ⟨okE_mono x _ _ (by omega) (okEs_mem h1.2 x hx), by show szE x ≤ 1000; have : szE x ≤ szEs k := h3; omega⟩
theorem okEs_set {d : Int} {y : E} (hy : okE d y = true) : ∀ {k : List E} {i : Nat}, okEs d k = true → okEs d (k.set i y) = true
  | [], _, _ => by unfold okEs; rfl
  | x :: xs, 0, h => by
    unfold okEs at h
    simp only [Bool.and_eq_true] at h
    show okEs d (y :: xs) = true
    unfold okEs
    rw [hy, h.2]; rfl
  | x :: xs, i + 1, h => by
    unfold okEs at h
    simp only [Bool.and_eq_true] at h
    show okEs d (x :: xs.set i y) = true
    unfold okEs
    rw [h.1, okEs_set hy h.2]; rfl
theorem szEs_set {y : E} (hy : szE y = 1) : ∀ {k : List E} {i : Nat}, szEs (k.set i y) ≤ szEs k
  | [], _ => Nat.le_refl _
  | x :: xs, 0 => by
    show szEs (y :: xs) ≤ _
    unfold szEs
    have := szE_pos x
    omega
  | x :: xs, i + 1 => by
    show szEs (x :: xs.set i y) ≤ _
    unfold szEs
    have := szEs_set hy (k := xs) (i := i)
    omega
def setK (e : E) (l : Sl) (k : List E) : E := .mk e.op e.n e.s l k
theorem valid_set {e y : E} {l : Sl} {i : Nat} (h : validE e = true) (hk : e.k ≠ []) (hy : ∀ d : Int, d ≤ 60 → okE d y = true) (hz : szE y = 1) : validE (setK e l (e.k.set i y)) = true := by
  cases e with
  | mk op n s l0 k =>
  have hk : k ≠ [] := hk
  show validE (.mk op n s l (k.set i y)) = true
  unfold validE okE szE at h ⊢
  obtain ⟨h1, h2⟩ := of_decide_eq_true h
  refine decide_eq_true ⟨?_, by have := szEs_set hz (k := k) (i := i); omega⟩
  simp only [Bool.and_eq_true, List.length_set] at h1 ⊢
  refine ⟨h1.1, ?_⟩
  cases k with
  | nil => exact absurd rfl hk
  | cons x xs =>
    exact okEs_set (hy _ (by decide)) h1.2
section
variable {d : Ds} {sc : Sc}
theorem partsT_all : ∀ {k : List E} {acc : List ByteArray}, (partsT d sc acc k).2 = 0 → (∀ x ∈ k, (exprT d sc x).2 = 0) ∧ (partsT d sc acc k).1 = acc ++ k.map fun x => (exprT d sc x).1
  | [], acc, _ => by simp [partsT_nil]
  | x :: xs, acc, h => by
    rw [partsT_cons] at h ⊢
    split at h
    · rename_i h'; exact absurd h h'
    · rename_i h'
      obtain ⟨h1, h2⟩ := partsT_all h
      rw [if_neg h', h2]
      refine ⟨List.forall_mem_cons.2 ⟨Classical.byContradiction h', h1⟩, by simp⟩
theorem partsT_ok : ∀ {k : List E} {acc : List ByteArray}, (∀ x ∈ k, (exprT d sc x).2 = 0) → partsT d sc acc k = (acc ++ k.map fun x => (exprT d sc x).1, 0)
  | [], acc, _ => by simp [partsT_nil]
  | x :: xs, acc, h => by
    obtain ⟨h1, h2⟩ := List.forall_mem_cons.1 h
    rw [partsT_cons, if_neg (fun k => k h1), partsT_ok h2]
    simp
theorem exprT_kids {e : E} (h : (exprT d sc e).2 = 0) : ∀ x ∈ e.k, (exprT d sc x).2 = 0 := by
  rw [exprT_eq] at h
  split at h
  · rename_i h'; exact absurd h h'
  · rename_i h'; exact (partsT_all (Classical.byContradiction h')).1
theorem map_set_same {α β : Type} {f : α → β} {l : List α} {i : Nat} {x y : α} (hx : l[i]? = some x) (h : f y = f x) : (l.set i y).map f = l.map f := by
  obtain ⟨hl, rfl⟩ := List.getElem?_eq_some_iff.1 hx
  rw [List.map_set, h]
  apply List.ext_getElem?
  intro j
  rw [List.getElem?_set]
  split
  · rename_i e; subst e; simp [hl]
  · rfl
theorem exprT_set {e x y : E} {l : Sl} {i : Nat} (h : (exprT d sc e).2 = 0) (hx : e.k[i]? = some x) (hy : exprT d sc y = exprT d sc x) : exprT d sc (setK e l (e.k.set i y)) = exprT d sc e := by
  have hk := exprT_kids h
  have hk2 : ∀ z ∈ e.k.set i y, (exprT d sc z).2 = 0 := fun z hz => by
    rcases List.mem_or_eq_of_mem_set hz with hz | rfl
    · exact hk z hz
    · rw [hy]; exact hk x (List.mem_of_getElem? hx)
  rw [exprT_eq d sc e, exprT_eq d sc (setK e l (e.k.set i y))]
  show (if (partsT d sc [] (e.k.set i y)).2 ≠ 0 then _ else nodeT d sc e.op e.s (partsT d sc [] (e.k.set i y)).1) = _
  rw [partsT_ok hk, partsT_ok hk2, map_set_same (f := fun x => (exprT d sc x).1) hx (by show (exprT d sc y).1 = _; rw [hy])]
  rfl
theorem needT_err {b : Bool} {t : ByteArray} (h : (needT b t).2 ≠ 0) : (needT b t).1 = sE := by
  unfold needT at h ⊢; split
  · rename_i h'; rw [if_pos h'] at h; exact absurd rfl h
  · rfl
theorem needT_ok {b : Bool} {t : ByteArray} (h : (needT b t).2 = 0) : (needT b t).1 = t := by
  unfold needT at h ⊢; split
  · rfl
  · rename_i h'; rw [if_neg h'] at h; exact absurd h (by decide)
end
end Go.Proofs
namespace Go.Proofs
open Go Go.Sx
theorem isName_ne {s : ByteArray} (h : isName s = true) : s ≠ sE := by
  intro e
  subst e
  have : isName sE = false := by
    unfold isName
    rw [decide_eq_false (fun h => h.1 rfl)]
    rfl
  rw [this] at h; cases h
theorem isNode_ne {d : Ds} (hv : validD d = true) {s : ByteArray} (h : isNode d s = true) : s ≠ sE := by
  obtain ⟨-, -, -, -, -, -, -, -, b1, -⟩ := valid_iff.1 hv
  unfold isNode at h
  obtain ⟨t, ht, e⟩ := List.any_eq_true.1 h
  have := b1 t ht
  unfold tyB at this
  rw [Bool.and_eq_true] at this
  rw [← of_decide_eq_true e]
  exact isName_ne this.1
section
variable {d : Ds} {sc : Sc}
theorem fieldT_err {a b : ByteArray} (h : (fieldT d a b).2 ≠ 0) : (fieldT d a b).1 = sE := by
  unfold fieldT at h ⊢
  split
  · rfl
  · split
    · rfl
    · rename_i h1 h2
      rw [h1] at h
      simp only [if_neg h2] at h
      exact absurd rfl h
theorem fieldT_ne {a b : ByteArray} (h : (fieldT d a b).2 = 0) : (fieldT d a b).1 ≠ sE := by
  unfold fieldT at h ⊢
  split at h
  · exact absurd h (by decide)
  · rename_i h1
    split at h
    · exact absurd h (by decide)
    · rename_i h2
      simp only [if_neg h2]
      exact h2
theorem callT_err {s : ByteArray} {l : List ByteArray} (h : (callT d s l).2 ≠ 0) : (callT d s l).1 = sE := by
  unfold callT at h ⊢
  split
  · rfl
  · rename_i h1
    rw [h1] at h
    simp only at h
    split
    · rfl
    · rename_i h2
      rw [if_neg h2] at h
      split
      · rename_i h3; rw [if_pos h3] at h; exact absurd rfl h
      · rfl
theorem measT_err {s : ByteArray} {l : List ByteArray} (h : (measT d s l).2 ≠ 0) : (measT d s l).1 = sE := by
  unfold measT at h ⊢
  split
  · rfl
  · rename_i h1
    rw [h1] at h
    simp only at h
    split
    · rfl
    · rename_i h2
      rw [if_neg h2] at h
      exact needT_err h
theorem callE_err {s : ByteArray} {l : List ByteArray} (h : (callE d sc s l).2 ≠ 0) : (callE d sc s l).1 = sE := by
  unfold callE at h ⊢
  split
  · rename_i h1
    rw [if_pos h1] at h
    split
    · rfl
    · rename_i h2; rw [if_neg h2] at h; exact callT_err h
  · rename_i h1
    rw [if_neg h1] at h
    exact measT_err h
theorem callE_ne {s : ByteArray} {l : List ByteArray} (h : (callE d sc s l).2 = 0) : (callE d sc s l).1 ≠ sE := by
  unfold callE at h ⊢
  split
  · rename_i h1
    rw [if_pos h1] at h
    split
    · rename_i h2; rw [if_pos h2] at h; exact absurd h (by decide)
    · rename_i h2; rw [if_neg h2] at h; exact fun e => h2 ⟨h, e⟩
  · rename_i h1
    rw [if_neg h1] at h
    exact measT_ne h
def QErr (r : ByteArray × Int) : Prop := r.2 ≠ 0 → r.1 = sE
def QNe (r : ByteArray × Int) : Prop := r.2 = 0 → r.1 ≠ sE
theorem q_ite {Q : ByteArray × Int → Prop} {c : Prop} [Decidable c] {a b : ByteArray × Int} (ha : c → Q a) (hb : ¬ c → Q b) : Q (if c then a else b) := by
  split
  · rename_i h; exact ha h
  · rename_i h; exact hb h
theorem nodeT_err {op : Int} {s : ByteArray} {l : List ByteArray} : QErr (nodeT d sc op s l) := by
  unfold nodeT
  have ok : ∀ {t : ByteArray}, QErr (t, 0) := fun h => absurd rfl h
  have no : ∀ {n : Int}, QErr (sE, n) := fun _ => rfl
  refine q_ite (fun _ => ok) fun _ => q_ite (fun _ => ok) fun _ => q_ite (fun _ => ok) fun _ => q_ite (fun _ => q_ite (fun _ => no) fun _ => ok) fun _ => q_ite (fun _ => fieldT_err) fun _ => q_ite (fun _ => q_ite (fun _ => no) fun _ => q_ite (fun _ => no) fun _ => ok) fun _ => q_ite (fun _ => callE_err) fun _ => ?_
  exact q_ite (fun _ => needT_err) fun _ => q_ite (fun _ => needT_err) fun _ => q_ite (fun _ => needT_err) fun _ => q_ite (fun _ => needT_err) fun _ => needT_err
theorem needT_q {b : Bool} {t : ByteArray} (h : t ≠ sE) : QNe (needT b t) := fun k => by rw [needT_ok k]; exact h
theorem sInt_ne : sInt ≠ sE := by decide
theorem sBool_ne : sBool ≠ sE := by decide
theorem sNil_ne : sNil ≠ sE := by decide
theorem nodeT_ne (hv : validD d = true) {op : Int} {s : ByteArray} {l : List ByteArray} (hl : ∀ t ∈ l, t ≠ sE) (h21 : op = 21 → l.length = 3) : QNe (nodeT d sc op s l) := by
  unfold nodeT
  refine q_ite (fun _ _ => sInt_ne) fun _ => q_ite (fun _ _ => sBool_ne) fun _ => q_ite (fun _ _ => sNil_ne) fun _ => q_ite (fun _ => q_ite (fun _ h => absurd h (by decide)) fun h _ => h) fun _ => q_ite (fun _ => fieldT_ne) fun _ => q_ite (fun _ => q_ite (fun _ h => absurd h (by decide)) fun _ => q_ite (fun _ h => absurd h (by decide)) fun h _ => isNode_ne hv (by simpa using h)) fun _ => q_ite (fun _ => callE_ne) fun _ => ?_
  refine q_ite (fun _ => needT_q sBool_ne) fun _ => q_ite (fun _ => needT_q sBool_ne) fun _ => q_ite (fun _ => needT_q sBool_ne) fun _ => q_ite (fun h => needT_q ?_) fun _ => needT_q sInt_ne
  have h3 := h21 h
  match l, h3 with
  | [a, b, c], _ =>
    show (if b = sNil then c else b) ≠ sE
    split
    · exact hl c (by simp)
    · exact hl b (by simp)
theorem exprT_err (e : E) : QErr (exprT d sc e) := by
  rw [exprT_eq]
  exact q_ite (fun _ _ => rfl) fun _ => nodeT_err
theorem exprT_ne (hv : validD d = true) : ∀ (e : E) (dd : Int), okE dd e = true → QNe (exprT d sc e) := by
  intro e
  induction e using E.ind with
  | h e ih =>
  intro dd hok
  rw [exprT_eq]
  refine q_ite (fun h k => absurd k h) fun h => ?_
  obtain ⟨h1, h2⟩ := partsT_all (Classical.byContradiction h)
  have hk : nodeB e.op e.n e.s e.k.length = true ∧ okEs (dd + 1) e.k = true := by
    cases e; unfold okE at hok; simp only [Bool.and_eq_true] at hok; exact ⟨hok.1.2, hok.2⟩
  rw [h2, List.nil_append]
  refine nodeT_ne hv (fun t ht => ?_) fun h21 => ?_
  · obtain ⟨x, hx, rfl⟩ := List.mem_map.1 ht
    exact ih x hx (dd + 1) (okEs_mem hk.2 x hx) (h1 x hx)
  · have := (arity hk.1).2.2.1 h21
    rw [List.length_map]; omega
def xI7 : E := .mk 1 7 sE ⟨none, 0, 0⟩ []
def xB1 : E := .mk 2 1 sE ⟨none, 0, 0⟩ []
theorem nodeB_xI7 : nodeB 1 7 sE 0 = true := by kernel_rfl
theorem nodeB_xB1 : nodeB 2 1 sE 0 = true := by kernel_rfl
theorem ok_xI7 (a : Int) (h : a ≤ 60) : okE a xI7 = true := by
  unfold xI7 okE okEs
  rw [decide_eq_true h]
  show (true && nodeB 1 7 sE 0 && true) = true
  rw [nodeB_xI7]; rfl
theorem ok_xB1 (a : Int) (h : a ≤ 60) : okE a xB1 = true := by
  unfold xB1 okE okEs
  rw [decide_eq_true h]
  show (true && nodeB 2 1 sE 0 && true) = true
  rw [nodeB_xB1]; rfl
theorem t_xI7 : exprT d sc xI7 = (sInt, 0) := by kernel_rfl
theorem t_xB1 : exprT d sc xB1 = (sBool, 0) := by kernel_rfl
/-- What is asked of an answer. -/
structure AskLaw (ask : E → ByteArray × Int) : Prop where
  err : ∀ e, (ask e).2 ≠ 0 → (ask e).1 = sE
  kids : ∀ e, (ask e).2 = 0 → ∀ x ∈ e.k, (ask x).2 = 0 ∧ (ask x).1 ≠ sE
  few : ∀ e, (ask e).2 = 0 → e.k.length ≤ 6
  put : ∀ e x y l i, (ask e).2 = 0 → e.k[i]? = some x → ((ask x = (sInt, 0) ∧ y = xI7) ∨ (ask x = (sBool, 0) ∧ y = xB1)) → ask (setK e l (e.k.set i y)) = ask e
/-- An answer by the type in a scope, where description and expression are right; otherwise errors. -/
theorem askLaw_of {ask : E → ByteArray × Int} (hv : ∀ e, (ask e).2 = 0 → validD d = true ∧ validE e = true) (hok : ∀ e, validD d = true → (∃ e0, (ask e0).2 = 0) → validE e = true → ask e = exprT d sc e) (herr : ∀ e, (ask e).2 ≠ 0 → (ask e).1 = sE) : AskLaw ask := by
  have same : ∀ e, (ask e).2 = 0 → validD d = true ∧ validE e = true ∧ ask e = exprT d sc e := fun e h => ⟨(hv e h).1, (hv e h).2, hok e (hv e h).1 ⟨e, h⟩ (hv e h).2⟩
  refine ⟨herr, fun e h x hx => ?_, fun e h => ?_, fun e x y l i h hx hy => ?_⟩
  · obtain ⟨h1, h2, h3⟩ := same e h
    have hvx := valid_kid h2 hx
    have hx0 : (exprT d sc x).2 = 0 := exprT_kids (by rw [← h3]; exact h) x hx
    rw [hok x h1 ⟨e, h⟩ hvx]
    exact ⟨hx0, exprT_ne h1 x 1 (validE_ok hvx) hx0⟩
  · obtain ⟨h1, h2, h3⟩ := same e h
    have hk : nodeB e.op e.n e.s e.k.length = true := by
      have := validE_ok h2
      cases e; unfold okE at this; simp only [Bool.and_eq_true] at this; exact this.1.2
    have := (arity hk).2.2.2
    omega
  · obtain ⟨h1, h2, h3⟩ := same e h
    have hne : e.k ≠ [] := fun k => by rw [k] at hx; simp at hx
    have hvx := valid_kid h2 (List.mem_of_getElem? hx)
    have hxe := hok x h1 ⟨e, h⟩ hvx
    have hy2 : validE (setK e l (e.k.set i y)) = true ∧ exprT d sc y = exprT d sc x := by
      rcases hy with ⟨k, rfl⟩ | ⟨k, rfl⟩
      · exact ⟨valid_set h2 hne ok_xI7 (by decide), by rw [t_xI7, ← hxe, k]⟩
      · exact ⟨valid_set h2 hne ok_xB1 (by decide), by rw [t_xB1, ← hxe, k]⟩
    rw [hok _ h1 ⟨e, h⟩ hy2.1, h3]
    exact exprT_set (by rw [← h3]; exact h) hx hy2.2
theorem wellE_ok {ok : Bool} (h : ok = true) (k : ∃ ok', wellE d ok' = 0) : wellE d ok = 0 := by
  obtain ⟨ok', k⟩ := k
  obtain ⟨h1, -, h3⟩ := wellE_zero k
  unfold wellE; rw [if_pos ⟨h1, h⟩, if_pos h3]
theorem law_exprR (s : ByteArray) : AskLaw (exprR d s) := by
  cases hp : prOf d s with
  | none =>
    have no : ∀ e, (exprR d s e).2 ≠ 0 ∧ (exprR d s e).1 = sE := fun e => by
      unfold exprR
      split
      · rename_i h; exact ⟨h, rfl⟩
      · rw [hp]; exact ⟨(show (12 : Int) ≠ 0 by decide), rfl⟩
    exact ⟨fun e _ => (no e).2, fun e h => absurd h (no e).1, fun e h => absurd h (no e).1, fun e _ _ _ _ h => absurd h (no e).1⟩
  | some p =>
    have w : ∀ e, (exprR d s e).2 = 0 → wellE d (validE e) = 0 := fun e h => Classical.byContradiction fun k => by
      unfold exprR at h; rw [if_pos k] at h; exact k h
    refine askLaw_of (d := d) (sc := inProcS d p) (fun e h => ⟨(wellE_zero (w e h)).1, (wellE_zero (w e h)).2.1⟩) (fun e _ k h => ?_) fun e => ?_
    · obtain ⟨e0, k⟩ := k
      exact exprR_some (wellE_ok h ⟨_, w e0 k⟩) hp
    · show QErr (exprR d s e)
      unfold exprR
      refine q_ite (fun _ _ => rfl) fun _ => ?_
      rw [hp]; exact exprT_err e
theorem law_measR (s : ByteArray) : AskLaw (measR d s) := by
  have w : ∀ e, (measR d s e).2 = 0 → wellE d (validE e) = 0 ∧ ¬ (s ≠ sE ∧ isNode d s = false) := fun e h => by
    unfold measR at h
    split at h
    · rename_i h1; exact absurd h h1
    · rename_i h1
      split at h
      · exact absurd h (by decide)
      · rename_i h2; exact ⟨Classical.byContradiction h1, h2⟩
  refine askLaw_of (d := d) (sc := inFormS d s) (fun e h => ⟨(wellE_zero (w e h).1).1, (wellE_zero (w e h).1).2.1⟩) (fun e _ k h => ?_) fun e => ?_
  · obtain ⟨e0, k⟩ := k
    exact measR_some (wellE_ok h ⟨_, (w e0 k).1⟩) (w e0 k).2
  · show QErr (measR d s e)
    unfold measR
    exact q_ite (fun _ _ => rfl) fun _ => q_ite (fun _ _ => rfl) fun _ => exprT_err e
end
end Go.Proofs
