/- Part 6 of a proof of a law of this seat: no statement of the seat is proved here. -/
import Derived.Test.YtnoompnjibfbfaaGreatDoorPart05
set_option linter.unusedVariables false
set_option linter.unusedSimpArgs false
namespace Go.Proofs
open Go Go.Sx
set_option maxRecDepth 100000
set_option linter.unusedVariables false
/- heartwood/heartwoodlaw16.InvariantMeasures -/
def w3 (v0 : ByteArray) (v1 v2 v3 v4 v5 v6 v7 v8 v9 : Sl) (v10 : ByteArray) (v11 : Int) (V : Mem) (R : RP) : Prop :=
 TT 10 #[] V fun e V1 => ∃ v12, e = rV (uB v12) ∧
 Br (v12 = true)
 (TT 11 #[uA #[uS v0, uL v1, uL v2, uL v3, uL v4, uL v5, uL v6, uL v7], uA #[uL v8, uL v9]] V1 fun e V2 => ∃ v13, e = rV (uB v13) ∧
 Br (v13 = true)
 (R (rV (uB true)) V2)
 (Br (100 < (v10.size : Int))
 (R (rV (uB true)) V2)
 (TT 12 #[uA #[uS v0, uL v1, uL v2, uL v3, uL v4, uL v5, uL v6, uL v7], uA #[uL v8, uL v9], uS v10, uI v11] V2 fun e V3 => ∃ v14 v15, e = rT #[uI v14, uI v15] ∧
 TT 13 #[uA #[uS v0, uL v1, uL v2, uL v3, uL v4, uL v5, uL v6, uL v7], uA #[uL v8, uL v9], uS v10, uI v11] V3 fun e V4 => ∃ v16 v17, e = rT #[uI v16, uI v17] ∧
 Br (v14 = v16)
 (R (rV (uB (decide (v15 = v17)))) V4)
 (R (rV (uB false)) V4))))
 (R (rV (uB false)) V1)
def w4 (v0 : ByteArray) (v1 v2 v3 v4 v5 v6 v7 v8 v9 : Sl) (v10 : ByteArray) (V : Mem) (R : RP) : Prop :=
 TT 10 #[] V fun e V1 => ∃ v11, e = rV (uB v11) ∧
 Br (v11 = true)
 (TT 11 #[uA #[uS v0, uL v1, uL v2, uL v3, uL v4, uL v5, uL v6, uL v7], uA #[uL v8, uL v9]] V1 fun e V2 => ∃ v12, e = rV (uB v12) ∧
 Br (v12 = true)
 (R (rV (uB true)) V2)
 (Br (100 < (v10.size : Int))
 (R (rV (uB true)) V2)
 (TT 14 #[uA #[uS v0, uL v1, uL v2, uL v3, uL v4, uL v5, uL v6, uL v7], uA #[uL v8, uL v9]] V2 fun e V3 => ∃ v13, e = rV (uI v13) ∧
 Br (v13 = 0)
 (TT 15 #[uA #[uS v0, uL v1, uL v2, uL v3, uL v4, uL v5, uL v6, uL v7], uA #[uL v8, uL v9]] V3 fun e V4 => ∃ v14 v15, e = rV (uA #[uL v14, uI v15]) ∧
 TT 16 #[uA #[uS v0, uL v1, uL v2, uL v3, uL v4, uL v5, uL v6, uL v7], uA #[uL v8, uL v9]] V4 fun e V5 => ∃ v16 v17, e = rV (uA #[uL v16, uL v17]) ∧
 TT 17 #[uA #[uS v0, uL v1, uL v2, uL v3, uL v4, uL v5, uL v6, uL v7], uA #[uL v8, uL v9]] V5 fun e V6 => ∃ v18 v19, e = rT #[uL v18, uI v19] ∧
 TT 17 #[uA #[uS v0, uL v1, uL v2, uL v3, uL v4, uL v5, uL v6, uL v7], uA #[uL v16, uL v17]] V6 fun e V7 => ∃ v20 v21, e = rT #[uL v20, uI v21] ∧
 Br (v19 = 0)
 (Br (v21 = 0)
 (Br ((v18.n : Int) = (v20.n : Int))
 (∃ (I : Nat → List Value → Mem → Prop) (n0 : Nat), I n0 [uB false, uI 0] V7 ∧ ∀ n V8, ∀ v22 v23, I n [uB v22, uI v23] V8 → ∀ J0 : List Value → Mem → Prop, (∀ m ys V'', m < n → I m ys V'' → J0 ys V'') →
 Br (v23 < (v20.n : Int))
 (¬ v20.p = none ∧ 0 ≤ v23 ∧ v23 < (v20.n : Int) ∧ ∃ v24 v25, V8.rowp v20.p (v23.toNat * 2) 2 = some [uS v24, uI v25] ∧
 Br (v25 < 0)
 (R (rV (uB false)) V8)
 (Br ((v14.n : Int) < v25)
 (R (rV (uB false)) V8)
 (¬ v18.p = none ∧ 0 ≤ v23 ∧ v23 < (v18.n : Int) ∧ ¬ (ptrAdd v18.p (v23.toNat * 2)) = none ∧ ∃ v26 v27, V8.rowp v18.p (v23.toNat * 2) 2 = some [uS v26, uI v27] ∧
 Br (v24 = v26)
 (Br (v25 = 0)
 (¬ v18.p = none ∧ 0 ≤ v23 ∧ v23 < (v18.n : Int) ∧ ¬ (ptrAdd v18.p (v23.toNat * 2)) = none ∧ ∃ v28 v29, V8.rowp v18.p (v23.toNat * 2) 2 = some [uS v28, uI v29] ∧
 Br (v29 = 0)
 (Br (0 < v25)
 (IR (v25 - 1) ∧ ¬ v14.p = none ∧ 0 ≤ (v25 - 1) ∧ (v25 - 1) < (v14.n : Int) ∧ ∃ v30, V8.rowp v14.p ((v25 - 1).toNat * 1) 1 = some [uI v30] ∧
 ¬ v18.p = none ∧ 0 ≤ v23 ∧ v23 < (v18.n : Int) ∧ ¬ (ptrAdd v18.p (v23.toNat * 2)) = none ∧ ∃ v31 v32, V8.rowp v18.p (v23.toNat * 2) 2 = some [uS v31, uI v32] ∧
 Br (v30 = v32)
 (IR (v23 + 1) ∧ J0 [uB v22, uI (v23 + 1)] V8)
 (R (rV (uB false)) V8))
 (IR (v23 + 1) ∧ J0 [uB v22, uI (v23 + 1)] V8))
 (R (rV (uB false)) V8))
 (Br (0 < v25)
 (IR (v25 - 1) ∧ ¬ v14.p = none ∧ 0 ≤ (v25 - 1) ∧ (v25 - 1) < (v14.n : Int) ∧ ∃ v28, V8.rowp v14.p ((v25 - 1).toNat * 1) 1 = some [uI v28] ∧
 ¬ v18.p = none ∧ 0 ≤ v23 ∧ v23 < (v18.n : Int) ∧ ¬ (ptrAdd v18.p (v23.toNat * 2)) = none ∧ ∃ v29 v30, V8.rowp v18.p (v23.toNat * 2) 2 = some [uS v29, uI v30] ∧
 Br (v28 = v30)
 (IR (v23 + 1) ∧ J0 [uB v22, uI (v23 + 1)] V8)
 (R (rV (uB false)) V8))
 (IR (v23 + 1) ∧ J0 [uB v22, uI (v23 + 1)] V8)))
 (R (rV (uB false)) V8))))
 (∃ (I : Nat → List Value → Mem → Prop) (n0 : Nat), I n0 [uB v22, uI 0] V8 ∧ ∀ n V9, ∀ v24 v25, I n [uB v24, uI v25] V9 → ∀ J1 : List Value → Mem → Prop, (∀ m ys V'', m < n → I m ys V'' → J1 ys V'') →
 Br (v25 < (v14.n : Int))
 (¬ v14.p = none ∧ 0 ≤ v25 ∧ v25 < (v14.n : Int) ∧ ∃ v26, V9.rowp v14.p (v25.toNat * 1) 1 = some [uI v26] ∧
 TT 12 #[uA #[uS v0, uL v1, uL v2, uL v3, uL v4, uL v5, uL v6, uL v7], uA #[uL v8, uL v9], uS v10, uI v26] V9 fun e V10 => ∃ v27 v28, e = rT #[uI v27, uI v28] ∧
 IR (v25 + 1) ∧ TT 12 #[uA #[uS v0, uL v1, uL v2, uL v3, uL v4, uL v5, uL v6, uL v7], uA #[uL v16, uL v17], uS v10, uI (v25 + 1)] V10 fun e V11 => ∃ v29 v30, e = rT #[uI v29, uI v30] ∧
 Br (v27 = v29)
 (Br (v28 = v30)
 (IR (v25 + 1) ∧ J1 [uB v24, uI (v25 + 1)] V11)
 (R (rV (uB false)) V11))
 (R (rV (uB false)) V11))
 (R (rV (uB true)) V9)))
 (R (rV (uB false)) V7))
 (R (rV (uB false)) V7))
 (R (rV (uB false)) V7))
 (R (rV (uB true)) V3))))
 (R (rV (uB false)) V1)
theorem x4 {v0 : ByteArray} {v1 v2 v3 v4 v5 v6 v7 v8 v9 : Sl} {v10 : ByteArray} {V : Mem} {R : RP} (h : w4 v0 v1 v2 v3 v4 v5 v6 v7 v8 v9 v10 V R) : TT 4 #[uA #[uS v0, uL v1, uL v2, uL v3, uL v4, uL v5, uL v6, uL v7], uA #[uL v8, uL v9], uS v10] V R :=
 tri_dx Tryz.func4 [] [] false (by kernel_rfl) (by kernel_rfl) h
/- heartwood/heartwoodlaw16.InvariantLists -/
def w5 (v0 : Sl) (v1 : Int) (V : Mem) (R : RP) : Prop :=
 TT 10 #[] V fun e V1 => ∃ v2, e = rV (uB v2) ∧
 Br (v2 = true)
 (Br ((v0.n : Int) = 0)
 (R (rV (uB true)) V1)
 (Br (60 < (v0.n : Int))
 (R (rV (uB true)) V1)
 (TT 18 #[uL v0, .func (.func 19) #[] #[]] V1 fun e V2 => ∃ v3, e = rV (uB v3) ∧
 Br (v3 = true)
 (R (rV (uB true)) V2)
 (TT 20 #[uL v0, uI 0] V2 fun e V3 => ∃ v4 v5, e = rV (uA #[uL v4, uL v5]) ∧
 TT 22 #[] V3 fun e V4 => ∃ v6 v7 v8 v9 v10 v11 v12 v13, e = rV (uA #[uS v6, uL v7, uL v8, uL v9, uL v10, uL v11, uL v12, uL v13]) ∧
 TT 21 #[uA #[uS v6, uL v7, uL v8, uL v9, uL v10, uL v11, uL v12, uL v13], uA #[uL v4, uL v5]] V4 fun e V5 => ∃ v14 v15 v16 v17, e = rT #[uB v14, uA #[uS v15, uI v16], uI v17] ∧
 ∃ (I : Nat → List Value → Mem → Prop) (n0 : Nat), I n0 [uI 0, uI 1] V5 ∧ ∀ n V6, ∀ v18 v19, I n [uI v18, uI v19] V6 → ∀ J0 : List Value → Mem → Prop, (∀ m ys V'', m < n → I m ys V'' → J0 ys V'') →
 Br (v19 < (v0.n : Int))
 (Br (v18 = 0)
 (¬ v0.p = none ∧ 0 ≤ v19 ∧ v19 < (v0.n : Int) ∧ ∃ v20, V6.rowp v0.p (v19.toNat * 1) 1 = some [uI v20] ∧
 IR (v19 - 1) ∧ ¬ v0.p = none ∧ 0 ≤ (v19 - 1) ∧ (v19 - 1) < (v0.n : Int) ∧ ∃ v21, V6.rowp v0.p ((v19 - 1).toNat * 1) 1 = some [uI v21] ∧
 Br (v20 ≤ v21)
 (IR (v19 + 1) ∧ J0 [uI v19, uI (v19 + 1)] V6)
 (IR (v19 + 1) ∧ J0 [uI v18, uI (v19 + 1)] V6))
 (Br (v17 = 0)
 (Br ((v14 == (decide (v18 = 0))) = true)
 (Br (v14 = true)
 (∃ (I : Nat → List Value → Mem → Prop) (n0 : Nat), I n0 [uB false, uI 0] V6 ∧ ∀ n V7, ∀ v20 v21, I n [uB v20, uI v21] V7 → ∀ J1 : List Value → Mem → Prop, (∀ m ys V'', m < n → I m ys V'' → J1 ys V'') →
 Br (v21 < (v0.n : Int))
 (IR (v21 + 1) ∧ TT 22 #[] V7 fun e V8 => ∃ v22 v23 v24 v25 v26 v27 v28 v29, e = rV (uA #[uS v22, uL v23, uL v24, uL v25, uL v26, uL v27, uL v28, uL v29]) ∧
 IR (v21 + 1) ∧ TT 12 #[uA #[uS v22, uL v23, uL v24, uL v25, uL v26, uL v27, uL v28, uL v29], uA #[uL v4, uL v5], uS (strB [108, 101, 110, 103, 116, 104]), uI (v21 + 1)] V8 fun e V9 => ∃ v30 v31, e = rT #[uI v30, uI v31] ∧
 Br (v31 = 0)
 (IR ((v0.n : Int) - v21) ∧ Br (v30 = ((v0.n : Int) - v21))
 (IR (v21 + 1) ∧ J1 [uB v20, uI (v21 + 1)] V9)
 (R (rV (uB false)) V9))
 (R (rV (uB false)) V9))
 (IR v1 ∧ ¬ (v0.n : Int) = 0 ∧ IR (1 + ((v1).tmod (v0.n : Int))) ∧ TT 20 #[uL v0, uI (1 + ((v1).tmod (v0.n : Int)))] V7 fun e V8 => ∃ v22 v23, e = rV (uA #[uL v22, uL v23]) ∧
 ∃ (I : Nat → List Value → Mem → Prop) (n0 : Nat), I n0 [uB v20, uI 0] V8 ∧ ∀ n V9, ∀ v24 v25, I n [uB v24, uI v25] V9 → ∀ J2 : List Value → Mem → Prop, (∀ m ys V'', m < n → I m ys V'' → J2 ys V'') →
 Br (v25 < (v0.n : Int))
 (IR (v25 + 1) ∧ TT 22 #[] V9 fun e V10 => ∃ v26 v27 v28 v29 v30 v31 v32 v33, e = rV (uA #[uS v26, uL v27, uL v28, uL v29, uL v30, uL v31, uL v32, uL v33]) ∧
 IR (v25 + 1) ∧ TT 12 #[uA #[uS v26, uL v27, uL v28, uL v29, uL v30, uL v31, uL v32, uL v33], uA #[uL v22, uL v23], uS (strB [108, 101, 110, 103, 116, 104]), uI (v25 + 1)] V10 fun e V11 => ∃ v34 v35, e = rT #[uI v34, uI v35] ∧
 Br (v35 = 16)
 (Br (v34 = 0)
 (IR (v25 + 1) ∧ J2 [uB v24, uI (v25 + 1)] V11)
 (R (rV (uB false)) V11))
 (R (rV (uB false)) V11))
 (R (rV (uB true)) V9)))
 (GenK Tryz.prog (.binOp .neq 52 (.tmp 74) (.tmp 76) 52) 4 (gv [(74, uA #[uS v15, uI v16]), (76, uA #[uS (strB [115, 111, 114, 116, 101, 100]), uI v18])]) V6 fun x V7 => ∃ v20, x = uB v20 ∧
 Br (v20 = true)
 (R (rV (uB false)) V7)
 (∃ (I : Nat → List Value → Mem → Prop) (n0 : Nat), I n0 [uB false, uI 0] V7 ∧ ∀ n V8, ∀ v21 v22, I n [uB v21, uI v22] V8 → ∀ J1 : List Value → Mem → Prop, (∀ m ys V'', m < n → I m ys V'' → J1 ys V'') →
 Br (v22 < (v0.n : Int))
 (IR (v22 + 1) ∧ TT 22 #[] V8 fun e V9 => ∃ v23 v24 v25 v26 v27 v28 v29 v30, e = rV (uA #[uS v23, uL v24, uL v25, uL v26, uL v27, uL v28, uL v29, uL v30]) ∧
 IR (v22 + 1) ∧ TT 12 #[uA #[uS v23, uL v24, uL v25, uL v26, uL v27, uL v28, uL v29, uL v30], uA #[uL v4, uL v5], uS (strB [108, 101, 110, 103, 116, 104]), uI (v22 + 1)] V9 fun e V10 => ∃ v31 v32, e = rT #[uI v31, uI v32] ∧
 Br (v32 = 0)
 (IR ((v0.n : Int) - v22) ∧ Br (v31 = ((v0.n : Int) - v22))
 (IR (v22 + 1) ∧ J1 [uB v21, uI (v22 + 1)] V10)
 (R (rV (uB false)) V10))
 (R (rV (uB false)) V10))
 (IR v1 ∧ ¬ (v0.n : Int) = 0 ∧ IR (1 + ((v1).tmod (v0.n : Int))) ∧ TT 20 #[uL v0, uI (1 + ((v1).tmod (v0.n : Int)))] V8 fun e V9 => ∃ v23 v24, e = rV (uA #[uL v23, uL v24]) ∧
 ∃ (I : Nat → List Value → Mem → Prop) (n0 : Nat), I n0 [uB v21, uI 0] V9 ∧ ∀ n V10, ∀ v25 v26, I n [uB v25, uI v26] V10 → ∀ J2 : List Value → Mem → Prop, (∀ m ys V'', m < n → I m ys V'' → J2 ys V'') →
 Br (v26 < (v0.n : Int))
 (IR (v26 + 1) ∧ TT 22 #[] V10 fun e V11 => ∃ v27 v28 v29 v30 v31 v32 v33 v34, e = rV (uA #[uS v27, uL v28, uL v29, uL v30, uL v31, uL v32, uL v33, uL v34]) ∧
 IR (v26 + 1) ∧ TT 12 #[uA #[uS v27, uL v28, uL v29, uL v30, uL v31, uL v32, uL v33, uL v34], uA #[uL v23, uL v24], uS (strB [108, 101, 110, 103, 116, 104]), uI (v26 + 1)] V11 fun e V12 => ∃ v35 v36, e = rT #[uI v35, uI v36] ∧
 Br (v36 = 16)
 (Br (v35 = 0)
 (IR (v26 + 1) ∧ J2 [uB v25, uI (v26 + 1)] V12)
 (R (rV (uB false)) V12))
 (R (rV (uB false)) V12))
 (R (rV (uB true)) V10)))))
 (R (rV (uB false)) V6))
 (R (rV (uB false)) V6)))
 (Br (v17 = 0)
 (Br ((v14 == (decide (v18 = 0))) = true)
 (Br (v14 = true)
 (∃ (I : Nat → List Value → Mem → Prop) (n0 : Nat), I n0 [uB false, uI 0] V6 ∧ ∀ n V7, ∀ v20 v21, I n [uB v20, uI v21] V7 → ∀ J1 : List Value → Mem → Prop, (∀ m ys V'', m < n → I m ys V'' → J1 ys V'') →
 Br (v21 < (v0.n : Int))
 (IR (v21 + 1) ∧ TT 22 #[] V7 fun e V8 => ∃ v22 v23 v24 v25 v26 v27 v28 v29, e = rV (uA #[uS v22, uL v23, uL v24, uL v25, uL v26, uL v27, uL v28, uL v29]) ∧
 IR (v21 + 1) ∧ TT 12 #[uA #[uS v22, uL v23, uL v24, uL v25, uL v26, uL v27, uL v28, uL v29], uA #[uL v4, uL v5], uS (strB [108, 101, 110, 103, 116, 104]), uI (v21 + 1)] V8 fun e V9 => ∃ v30 v31, e = rT #[uI v30, uI v31] ∧
 Br (v31 = 0)
 (IR ((v0.n : Int) - v21) ∧ Br (v30 = ((v0.n : Int) - v21))
 (IR (v21 + 1) ∧ J1 [uB v20, uI (v21 + 1)] V9)
 (R (rV (uB false)) V9))
 (R (rV (uB false)) V9))
 (IR v1 ∧ ¬ (v0.n : Int) = 0 ∧ IR (1 + ((v1).tmod (v0.n : Int))) ∧ TT 20 #[uL v0, uI (1 + ((v1).tmod (v0.n : Int)))] V7 fun e V8 => ∃ v22 v23, e = rV (uA #[uL v22, uL v23]) ∧
 ∃ (I : Nat → List Value → Mem → Prop) (n0 : Nat), I n0 [uB v20, uI 0] V8 ∧ ∀ n V9, ∀ v24 v25, I n [uB v24, uI v25] V9 → ∀ J2 : List Value → Mem → Prop, (∀ m ys V'', m < n → I m ys V'' → J2 ys V'') →
 Br (v25 < (v0.n : Int))
 (IR (v25 + 1) ∧ TT 22 #[] V9 fun e V10 => ∃ v26 v27 v28 v29 v30 v31 v32 v33, e = rV (uA #[uS v26, uL v27, uL v28, uL v29, uL v30, uL v31, uL v32, uL v33]) ∧
 IR (v25 + 1) ∧ TT 12 #[uA #[uS v26, uL v27, uL v28, uL v29, uL v30, uL v31, uL v32, uL v33], uA #[uL v22, uL v23], uS (strB [108, 101, 110, 103, 116, 104]), uI (v25 + 1)] V10 fun e V11 => ∃ v34 v35, e = rT #[uI v34, uI v35] ∧
 Br (v35 = 16)
 (Br (v34 = 0)
 (IR (v25 + 1) ∧ J2 [uB v24, uI (v25 + 1)] V11)
 (R (rV (uB false)) V11))
 (R (rV (uB false)) V11))
 (R (rV (uB true)) V9)))
 (GenK Tryz.prog (.binOp .neq 52 (.tmp 74) (.tmp 76) 52) 4 (gv [(74, uA #[uS v15, uI v16]), (76, uA #[uS (strB [115, 111, 114, 116, 101, 100]), uI v18])]) V6 fun x V7 => ∃ v20, x = uB v20 ∧
 Br (v20 = true)
 (R (rV (uB false)) V7)
 (∃ (I : Nat → List Value → Mem → Prop) (n0 : Nat), I n0 [uB false, uI 0] V7 ∧ ∀ n V8, ∀ v21 v22, I n [uB v21, uI v22] V8 → ∀ J1 : List Value → Mem → Prop, (∀ m ys V'', m < n → I m ys V'' → J1 ys V'') →
 Br (v22 < (v0.n : Int))
 (IR (v22 + 1) ∧ TT 22 #[] V8 fun e V9 => ∃ v23 v24 v25 v26 v27 v28 v29 v30, e = rV (uA #[uS v23, uL v24, uL v25, uL v26, uL v27, uL v28, uL v29, uL v30]) ∧
 IR (v22 + 1) ∧ TT 12 #[uA #[uS v23, uL v24, uL v25, uL v26, uL v27, uL v28, uL v29, uL v30], uA #[uL v4, uL v5], uS (strB [108, 101, 110, 103, 116, 104]), uI (v22 + 1)] V9 fun e V10 => ∃ v31 v32, e = rT #[uI v31, uI v32] ∧
 Br (v32 = 0)
 (IR ((v0.n : Int) - v22) ∧ Br (v31 = ((v0.n : Int) - v22))
 (IR (v22 + 1) ∧ J1 [uB v21, uI (v22 + 1)] V10)
 (R (rV (uB false)) V10))
 (R (rV (uB false)) V10))
 (IR v1 ∧ ¬ (v0.n : Int) = 0 ∧ IR (1 + ((v1).tmod (v0.n : Int))) ∧ TT 20 #[uL v0, uI (1 + ((v1).tmod (v0.n : Int)))] V8 fun e V9 => ∃ v23 v24, e = rV (uA #[uL v23, uL v24]) ∧
 ∃ (I : Nat → List Value → Mem → Prop) (n0 : Nat), I n0 [uB v21, uI 0] V9 ∧ ∀ n V10, ∀ v25 v26, I n [uB v25, uI v26] V10 → ∀ J2 : List Value → Mem → Prop, (∀ m ys V'', m < n → I m ys V'' → J2 ys V'') →
 Br (v26 < (v0.n : Int))
 (IR (v26 + 1) ∧ TT 22 #[] V10 fun e V11 => ∃ v27 v28 v29 v30 v31 v32 v33 v34, e = rV (uA #[uS v27, uL v28, uL v29, uL v30, uL v31, uL v32, uL v33, uL v34]) ∧
 IR (v26 + 1) ∧ TT 12 #[uA #[uS v27, uL v28, uL v29, uL v30, uL v31, uL v32, uL v33, uL v34], uA #[uL v23, uL v24], uS (strB [108, 101, 110, 103, 116, 104]), uI (v26 + 1)] V11 fun e V12 => ∃ v35 v36, e = rT #[uI v35, uI v36] ∧
 Br (v36 = 16)
 (Br (v35 = 0)
 (IR (v26 + 1) ∧ J2 [uB v25, uI (v26 + 1)] V12)
 (R (rV (uB false)) V12))
 (R (rV (uB false)) V12))
 (R (rV (uB true)) V10)))))
 (R (rV (uB false)) V6))
 (R (rV (uB false)) V6))))))
 (R (rV (uB false)) V1)
theorem x5 {v0 : Sl} {v1 : Int} {V : Mem} {R : RP} (h : w5 v0 v1 V R) : TT 5 #[uL v0, .int .u8 v1] V R :=
 tri_dx Tryz.func5 [] [] false (by kernel_rfl) (by kernel_rfl) h
/- heartwood/heartwoodlaw16.InvariantHolds -/
def w7 (v0 : ByteArray) (v1 v2 v3 v4 v5 v6 v7 v8 v9 : Sl) (v10 : ByteArray) (v11 : Int) (V : Mem) (R : RP) : Prop :=
 TT 10 #[] V fun e V1 => ∃ v12, e = rV (uB v12) ∧
 Br (v12 = true)
 (TT 11 #[uA #[uS v0, uL v1, uL v2, uL v3, uL v4, uL v5, uL v6, uL v7], uA #[uL v8, uL v9]] V1 fun e V2 => ∃ v13, e = rV (uB v13) ∧
 Br (v13 = true)
 (R (rV (uB true)) V2)
 (Br (100 < (v10.size : Int))
 (R (rV (uB true)) V2)
 (TT 25 #[uA #[uS v0, uL v1, uL v2, uL v3, uL v4, uL v5, uL v6, uL v7], uA #[uL v8, uL v9], uS v10, uI v11] V2 fun e V3 => ∃ v14 v15, e = rT #[uB v14, uI v15] ∧
 TT 26 #[uA #[uS v0, uL v1, uL v2, uL v3, uL v4, uL v5, uL v6, uL v7], uA #[uL v8, uL v9], uS v10, uI v11] V3 fun e V4 => ∃ v16 v17, e = rT #[uB v16, uI v17] ∧
 Br ((v14 == v16) = true)
 (R (rV (uB (decide (v15 = v17)))) V4)
 (R (rV (uB false)) V4))))
 (R (rV (uB false)) V1)
def w10 (V : Mem) (R : RP) : Prop :=
 TT 22 #[] V fun e V1 => ∃ v0 v1 v2 v3 v4 v5 v6 v7, e = rV (uA #[uS v0, uL v1, uL v2, uL v3, uL v4, uL v5, uL v6, uL v7]) ∧
 PubT [uI 3, uI 5, uI 4] 3 V1 fun v8 V2 =>
 TT 20 #[.slice (ptrAdd v8 0) (3 : Int).toNat (3 : Int).toNat, uI 0] V2 fun e V3 => ∃ v9 v10, e = rV (uA #[uL v9, uL v10]) ∧
 TT 12 #[uA #[uS v0, uL v1, uL v2, uL v3, uL v4, uL v5, uL v6, uL v7], uA #[uL v9, uL v10], uS (strB [108, 101, 110, 103, 116, 104]), uI 1] V3 fun e V4 => ∃ v11 v12, e = rT #[uI v11, uI v12] ∧
 TT 22 #[] V4 fun e V5 => ∃ v13 v14 v15 v16 v17 v18 v19 v20, e = rV (uA #[uS v13, uL v14, uL v15, uL v16, uL v17, uL v18, uL v19, uL v20]) ∧
 PubT [uI 3, uI 5, uI 4] 3 V5 fun v21 V6 =>
 TT 20 #[.slice (ptrAdd v21 0) (3 : Int).toNat (3 : Int).toNat, uI 0] V6 fun e V7 => ∃ v22 v23, e = rV (uA #[uL v22, uL v23]) ∧
 TT 21 #[uA #[uS v13, uL v14, uL v15, uL v16, uL v17, uL v18, uL v19, uL v20], uA #[uL v22, uL v23]] V7 fun e V8 => ∃ v24 v25 v26 v27, e = rT #[uB v24, uA #[uS v25, uI v26], uI v27] ∧
 TT 22 #[] V8 fun e V9 => ∃ v28 v29 v30 v31 v32 v33 v34 v35, e = rV (uA #[uS v28, uL v29, uL v30, uL v31, uL v32, uL v33, uL v34, uL v35]) ∧
 PubT [uI 3, uI 5, uI 4] 3 V9 fun v36 V10 =>
 TT 20 #[.slice (ptrAdd v36 0) (3 : Int).toNat (3 : Int).toNat, uI 1] V10 fun e V11 => ∃ v37 v38, e = rV (uA #[uL v37, uL v38]) ∧
 TT 12 #[uA #[uS v28, uL v29, uL v30, uL v31, uL v32, uL v33, uL v34, uL v35], uA #[uL v37, uL v38], uS (strB [108, 101, 110, 103, 116, 104]), uI 2] V11 fun e V12 => ∃ v39 v40, e = rT #[uI v39, uI v40] ∧
 Br (v12 = 0)
 (Br (v11 = 3)
 (Br (v27 = 0)
 (Br (v24 = true)
 (R (rV (uB false)) V12)
 (GenK Tryz.prog (.binOp .eql 52 (.tmp 45) (.tmp 46) 52) 4 (gv [(45, uA #[uS v25, uI v26]), (46, uA #[uS (strB [115, 111, 114, 116, 101, 100]), uI 2])]) V12 fun x V13 => ∃ v41, x = uB v41 ∧
 Br (v41 = true)
 (R (rV (uB (decide (v40 = 16)))) V13)
 (R (rV (uB false)) V13)))
 (R (rV (uB false)) V12))
 (R (rV (uB false)) V12))
 (R (rV (uB false)) V12)
theorem x10 {V : Mem} {R : RP} (h : w10 V R) : TT 10 #[] V R :=
 tri_dx Tryz.func10 [] [] false (by kernel_rfl) (by kernel_rfl) h
/- heartwood/heartwoodlaw16.large -/
def w12 (v0 : ByteArray) (v1 v2 v3 v4 v5 v6 v7 v8 v9 : Sl) (v10 : ByteArray) (v11 : Int) (V : Mem) (R : RP) : Prop :=
 TT 35 #[uA #[uS v0, uL v1, uL v2, uL v3, uL v4, uL v5, uL v6, uL v7], uA #[uL v8, uL v9]] V fun e V1 => ∃ v12 v13, e = rT #[uP v12, uI v13] ∧
 Br (v13 = 0)
 (TT 36 #[uP v12, uI v11] V1 fun e V2 => ∃ v14, e = rV (uB v14) ∧
 Br (v14 = true)
 (TT 37 #[uP v12, uS v10] V2 fun e V3 => ∃ v15, e = rV (uI v15) ∧
 Br (v15 < 0)
 (R (rT #[uI 0, uI 9]) V3)
 (Br (v11 = 0)
 (PubT [uP v12] 83 V3 fun v16 V4 =>
 PubT [uI v15] 3 V4 fun v17 V5 =>
 PubT [uI v11] 3 V5 fun v18 V6 =>
 TT 39 #[uP v12, .func (.func 40) #[] #[uP (ptrAdd v16 0), uP (ptrAdd v17 0), uP (ptrAdd v18 0)]] V6 fun e V7 => ∃ v19 v20, e = rT #[uI v19, uI v20] ∧
 R (rT #[uI v19, uI v20]) V7)
 (¬ v4.p = none ∧ 0 ≤ v15 ∧ v15 < (v4.n : Int) ∧ ¬ (ptrAdd v4.p (v15.toNat * 7)) = none ∧ ∃ v16 v17 v18 v19 v20 v21 v22, V3.rowp v4.p (v15.toNat * 7) 7 = some [uS v16, uS v17, uI v18, uI v19, uI v20, uS v21, uL v22] ∧
 TT 38 #[uP v12, uI v11] V3 fun e V4 => ∃ v23, e = rV (uS v23) ∧
 V4.rowp (ptrAdd (ptrAdd v4.p (v15.toNat * 7)) 1) 0 1 = some [uS v17] ∧ ¬ (ptrAdd v4.p (v15.toNat * 7)) = none ∧ ¬ v4.p = none ∧ 0 ≤ v15 ∧ v15 < (v4.n : Int) ∧ Br (v23 = v17)
 (PubT [uP v12] 83 V4 fun v24 V5 =>
 PubT [uI v15] 3 V5 fun v25 V6 =>
 PubT [uI v11] 3 V6 fun v26 V7 =>
 TT 39 #[uP v12, .func (.func 40) #[] #[uP (ptrAdd v24 0), uP (ptrAdd v25 0), uP (ptrAdd v26 0)]] V7 fun e V8 => ∃ v27 v28, e = rT #[uI v27, uI v28] ∧
 R (rT #[uI v27, uI v28]) V8)
 (R (rT #[uI 0, uI 11]) V4))))
 (R (rT #[uI 0, uI 2]) V2))
 (R (rT #[uI 0, uI v13]) V1)
theorem x12 {v0 : ByteArray} {v1 v2 v3 v4 v5 v6 v7 v8 v9 : Sl} {v10 : ByteArray} {v11 : Int} {V : Mem} {R : RP} (h : w12 v0 v1 v2 v3 v4 v5 v6 v7 v8 v9 v10 v11 V R) : TT 12 #[uA #[uS v0, uL v1, uL v2, uL v3, uL v4, uL v5, uL v6, uL v7], uA #[uL v8, uL v9], uS v10, uI v11] V R :=
 tri_dx Tryz.func12 [] [] false (by kernel_rfl) (by kernel_rfl) h
/- heartwood/heartwoodref16.Measure -/
def w18 (v0 : Sl) (v1 : Value) (V : Mem) (R : RP) : Prop :=
 TT 51 #[uL v0, K.cast .f v1] V fun e V1 => ∃ v2, e = rV (uI v2) ∧
 R (rV (uB (decide (0 ≤ v2)))) V1
theorem x18 {v0 : Sl} {v1 : Value} {V : Mem} {R : RP} (h : w18 v0 v1 V R) : TT 18 #[uL v0, K.cast .f v1] V R :=
 tri_dr Tryz.func18 [] [] false [uL v0, v1] (by kernel_rfl) (by kernel_rfl) h
/- heartwood/heartwoodlaw16.InvariantLists$1 -/
def w19 (v0 : Int) (V : Mem) (R : RP) : Prop :=
 Br (v0 < (-1099511627776))
 (R (rV (uB true)) V)
 (R (rV (uB (decide (1099511627776 < v0)))) V)
theorem x19 {v0 : Int} {V : Mem} {R : RP} (h : w19 v0 V R) : TT 19 #[uI v0] V R :=
 tri_dx Tryz.func19 [] [] false (by kernel_rfl) (by kernel_rfl) h
/- heartwood/invariant.Check -/
def w21 (v0 : ByteArray) (v1 v2 v3 v4 v5 v6 v7 v8 v9 : Sl) (V : Mem) (R : RP) : Prop :=
 TT 17 #[uA #[uS v0, uL v1, uL v2, uL v3, uL v4, uL v5, uL v6, uL v7], uA #[uL v8, uL v9]] V fun e V1 => ∃ v10 v11, e = rT #[uL v10, uI v11] ∧
 Br (v11 = 0)
 (Br (0 < (v10.n : Int))
 (¬ v10.p = none ∧ (0 : Int) ≤ (0 : Int) ∧ 0 < (v10.n : Int) ∧ ∃ v12 v13, V1.rowp v10.p ((0 : Int).toNat * 2) 2 = some [uS v12, uI v13] ∧
 V1.rowp (ptrAdd v10.p ((0 : Int).toNat * 2)) 0 2 = some [uS v12, uI v13] ∧ ¬ v10.p = none ∧ (0 : Int) ≤ (0 : Int) ∧ 0 < (v10.n : Int) ∧ R (rT #[uB false, uA #[uS v12, uI v13], uI 0]) V1)
 (R (rT #[uB true, uA #[uS (strB []), uI 0], uI 0]) V1))
 (R (rT #[uB false, uA #[uS (strB []), uI 0], uI v11]) V1)
theorem x21 {v0 : ByteArray} {v1 v2 v3 v4 v5 v6 v7 v8 v9 : Sl} {V : Mem} {R : RP} (h : w21 v0 v1 v2 v3 v4 v5 v6 v7 v8 v9 V R) : TT 21 #[uA #[uS v0, uL v1, uL v2, uL v3, uL v4, uL v5, uL v6, uL v7], uA #[uL v8, uL v9]] V R :=
 tri_dx Tryz.func21 [] [] false (by kernel_rfl) (by kernel_rfl) h
/- heartwood/heartwoodref16.All -/
def w35 (v0 : ByteArray) (v1 v2 v3 v4 v5 v6 v7 v8 v9 : Sl) (V : Mem) (R : RP) : Prop :=
 TT 68 #[uA #[uS v0, uL v1, uL v2, uL v3, uL v4, uL v5, uL v6, uL v7]] V fun e V1 => ∃ v10 v11 v12, e = rT #[uS v10, uI v11, uI v12] ∧
 Br (v12 = 0)
 (TT 69 #[uA #[uS v0, uL v1, uL v2, uL v3, uL v4, uL v5, uL v6, uL v7], uA #[uL v8, uL v9]] V1 fun e V2 => ∃ v13, e = rV (uB v13) ∧
 Br (v13 = true)
 (GenK Tryz.prog (.makeMap 126 none) 126 (gv []) V2 fun x V3 => ∃ v14, x = uM v14 ∧
 GenK Tryz.prog (.makeMap 127 none) 127 (gv []) V3 fun x V4 => ∃ v15, x = uM v15 ∧
 PubT [uS v0, uL v1, uL v2, uL v3, uL v4, uL v5, uL v6, uL v7, uL v8, uL v9, uM v14, uM v15] 129 V4 fun v16 V5 =>
 R (rT #[uP (ptrAdd v16 0), uI 0]) V5)
 (R (rT #[uP none, uI 1]) V2))
 (R (rT #[uP none, uI 1]) V1)
theorem x35 {v0 : ByteArray} {v1 v2 v3 v4 v5 v6 v7 v8 v9 : Sl} {V : Mem} {R : RP} (h : w35 v0 v1 v2 v3 v4 v5 v6 v7 v8 v9 V R) : TT 35 #[uA #[uS v0, uL v1, uL v2, uL v3, uL v4, uL v5, uL v6, uL v7], uA #[uL v8, uL v9]] V R :=
 tri_dx Tryz.func35 [] [] false (by kernel_rfl) (by kernel_rfl) h
/- (*heartwood/invariant.machine).is -/
def w36 (v0 : Option Addr) (v1 : Int) (V : Mem) (R : RP) : Prop :=
 Br (0 ≤ v1)
 (¬ v0 = none ∧ ¬ v0 = none ∧ ¬ (ptrAdd v0 8) = none ∧ ∃ v2, V.rowp v0 ((9 : Int).toNat * 1) 1 = some [uL v2] ∧
 R (rV (uB (decide (v1 ≤ (v2.n : Int))))) V)
 (R (rV (uB false)) V)
theorem x36 {v0 : Option Addr} {v1 : Int} {V : Mem} {R : RP} (h : w36 v0 v1 V R) : TT 36 #[uP v0, uI v1] V R :=
 tri_dx Tryz.func36 [] [] false (by kernel_rfl) (by kernel_rfl) h
/- (*heartwood/invariant.machine).named -/
def w37 (v0 : Option Addr) (v1 : ByteArray) (V : Mem) (R : RP) : Prop :=
 ¬ v0 = none ∧ ¬ v0 = none ∧ ¬ (ptrAdd v0 0) = none ∧ ∃ v2, V.rowp v0 ((4 : Int).toNat * 1) 1 = some [uL v2] ∧
 PubT [uS v1] 9 V fun v3 V1 =>
 TT 70 #[uL v2, .func (.func 71) #[] #[uP (ptrAdd v3 0)]] V1 fun e V2 => ∃ v4, e = rV (uI v4) ∧
 R (rV (uI v4)) V2
theorem x37 {v0 : Option Addr} {v1 : ByteArray} {V : Mem} {R : RP} (h : w37 v0 v1 V R) : TT 37 #[uP v0, uS v1] V R :=
 tri_dx Tryz.func37 [] [] false (by kernel_rfl) (by kernel_rfl) h
/- (*heartwood/invariant.machine).typ -/
def w38 (v0 : Option Addr) (v1 : Int) (V : Mem) (R : RP) : Prop :=
 Br (v1 = 0)
 (R (rV (uS (strB []))) V)
 (¬ v0 = none ∧ ¬ v0 = none ∧ ¬ (ptrAdd v0 0) = none ∧ ∃ v2, V.rowp v0 ((1 : Int).toNat * 1) 1 = some [uL v2] ∧
 ¬ v0 = none ∧ ¬ v0 = none ∧ ¬ (ptrAdd v0 8) = none ∧ ∃ v3, V.rowp v0 ((9 : Int).toNat * 1) 1 = some [uL v3] ∧
 IR (v1 - 1) ∧ ¬ v3.p = none ∧ 0 ≤ (v1 - 1) ∧ (v1 - 1) < (v3.n : Int) ∧ ¬ (ptrAdd v3.p ((v1 - 1).toNat * 2)) = none ∧ ∃ v4 v5, V.rowp v3.p ((v1 - 1).toNat * 2) 2 = some [uI v4, uL v5] ∧
 ¬ v2.p = none ∧ 0 ≤ v4 ∧ v4 < (v2.n : Int) ∧ ¬ (ptrAdd v2.p (v4.toNat * 2)) = none ∧ ∃ v6 v7, V.rowp v2.p (v4.toNat * 2) 2 = some [uS v6, uL v7] ∧
 R (rV (uS v6)) V)
theorem x38 {v0 : Option Addr} {v1 : Int} {V : Mem} {R : RP} (h : w38 v0 v1 V R) : TT 38 #[uP v0, uI v1] V R :=
 tri_dx Tryz.func38 [] [] false (by kernel_rfl) (by kernel_rfl) h
/- heartwood/invariant.Measure$1 -/
def w40 (v0 v1 v2 : Option Addr) (V : Mem) (R : RP) : Prop :=
 ∃ v3, V.rowp v0 ((0 : Int).toNat * 1) 1 = some [uP v3] ∧
 ∃ v4, V.rowp v1 ((0 : Int).toNat * 1) 1 = some [uI v4] ∧
 ∃ v5, V.rowp v2 ((0 : Int).toNat * 1) 1 = some [uI v5] ∧
 TT 41 #[uP v3, uI v4, uI v5] V fun e V1 => (∃ v6, e = rV (uI v6) ∧
 R (rV (uI v6)) V1) ∨ ∃ ch, e = .panicked ch ∧ R e V1
theorem x40 {v0 v1 v2 : Option Addr} {V : Mem} {R : RP} (h : w40 v0 v1 v2 V R) : TT 40 #[uP v0, uP v1, uP v2] V R :=
 tri_dx Tryz.func40 [] [] false (by kernel_rfl) (by kernel_rfl) h
/- (*heartwood/invariant.machine).measure -/
def w41 (v0 : Option Addr) (v1 v2 : Int) (V : Mem) (R : RP) : Prop :=
 ¬ v0 = none ∧ ¬ v0 = none ∧ ¬ (ptrAdd v0 0) = none ∧ ∃ v3, V.rowp v0 ((4 : Int).toNat * 1) 1 = some [uL v3] ∧
 ¬ v3.p = none ∧ 0 ≤ v1 ∧ v1 < (v3.n : Int) ∧ ∃ v4 v5 v6 v7 v8 v9 v10, V.rowp v3.p (v1.toNat * 7) 7 = some [uS v4, uS v5, uI v6, uI v7, uI v8, uS v9, uL v10] ∧
 Br (v2 = 0)
 (R (rV (uI v6)) V)
 (¬ v0 = none ∧ ¬ v0 = none ∧ ∃ v11, V.rowp v0 ((10 : Int).toNat * 1) 1 = some [uM v11] ∧
 LookK Tryz.prog 126 (uM v11) (uA #[uI v1, uI v2]) true V fun x => ∃ v12 v13, x = .tuple #[uI v12, uB v13] ∧
 Br (v13 = true)
 (R (rV (uI v12)) V)
 (¬ v0 = none ∧ ¬ v0 = none ∧ ∃ v14, V.rowp v0 ((11 : Int).toNat * 1) 1 = some [uM v14] ∧
 LookK Tryz.prog 127 (uM v14) (uA #[uI v1, uI v2]) false V fun x => ∃ v15, x = uB v15 ∧
 Br (v15 = true)
 (GenK Tryz.prog (.makeInterface 133 (.tmp 44)) 20 (gv [(44, uA #[uI 16])]) V fun x V1 => ∃ v16, K.r.ok v16 ∧ x = v16 ∧
 ∃ t x, K.cast .r v16 = .iface t x ∧ R (.panicked [{ v := .iface t x, recovered := false }]) V1)
 (¬ v0 = none ∧ ¬ v0 = none ∧ ∃ v16, V.rowp v0 ((11 : Int).toNat * 1) 1 = some [uM v16] ∧
 UpdK Tryz.prog 127 (uM v16) (uA #[uI v1, uI v2]) (.bool true) V fun V1 =>
 TT 62 #[uP v0, uA #[uI v7, uI v8, uS v9, uL v10], uI v2] V1 fun e V2 => (∃ v17, e = rV (uI v17) ∧
 ¬ v0 = none ∧ ¬ v0 = none ∧ ∃ v18, V2.rowp v0 ((11 : Int).toNat * 1) 1 = some [uM v18] ∧
 GenK Tryz.prog (.call { callee := (.builtin .delete), args := #[(.tmp 59), (.tmp 60)], argTypes := #[127, 136] }) 0 (gv [(59, uM v18), (60, uA #[uI v1, uI v2])]) V2 fun x V3 => x = .tuple #[] ∧
 ¬ v0 = none ∧ ¬ v0 = none ∧ ∃ v19, V3.rowp v0 ((10 : Int).toNat * 1) 1 = some [uM v19] ∧
 UpdK Tryz.prog 126 (uM v19) (uA #[uI v1, uI v2]) (uI v17) V3 fun V4 =>
 R (rV (uI v17)) V4) ∨ ∃ ch, e = .panicked ch ∧ R e V2)))
theorem x41 {v0 : Option Addr} {v1 v2 : Int} {V : Mem} {R : RP} (h : w41 v0 v1 v2 V R) : TT 41 #[uP v0, uI v1, uI v2] V R :=
 tri_dx Tryz.func41 [] [] false (by kernel_rfl) (by kernel_rfl) h
/- heartwood/heartwoodref16.result -/
def w49 (v0 : ByteArray) (v1 v2 v3 v4 v5 v6 v7 v8 v9 : Sl) (V : Mem) (R : RP) : Prop :=
 TT 69 #[uA #[uS v0, uL v1, uL v2, uL v3, uL v4, uL v5, uL v6, uL v7], uA #[uL v8, uL v9]] V fun e V1 => ∃ v10, e = rV (uB v10) ∧
 Br (v10 = true)
 (TT 83 #[uA #[uS v0, uL v1, uL v2, uL v3, uL v4, uL v5, uL v6, uL v7], uA #[uL v8, uL v9]] V1 fun e V2 => ∃ v11, e = rV (uP v11) ∧
 ¬ v11 = none ∧ ¬ v11 = none ∧ ∃ v12, V2.rowp v11 ((10 : Int).toNat * 1) 1 = some [uL v12] ∧
 R (rT #[uL v12, uI 0]) V2)
 (R (rT #[.slice none 0 0, uI 1]) V1)
theorem x49 {v0 : ByteArray} {v1 v2 v3 v4 v5 v6 v7 v8 v9 : Sl} {V : Mem} {R : RP} (h : w49 v0 v1 v2 v3 v4 v5 v6 v7 v8 v9 V R) : TT 49 #[uA #[uS v0, uL v1, uL v2, uL v3, uL v4, uL v5, uL v6, uL v7], uA #[uL v8, uL v9]] V R :=
 tri_dx Tryz.func49 [] [] false (by kernel_rfl) (by kernel_rfl) h
/- (*heartwood/invariant.machine).holds -/
def w50 (v0 : Option Addr) (v1 v2 : ByteArray) (v3 v4 : Int) (v5 : ByteArray) (v6 : Sl) (v7 : Int) (V : Mem) (R : RP) : Prop :=
 PubT [uP v0] 83 V fun v8 V1 =>
 PubT [uS v1, uS v2, uI v3, uI v4, uS v5, uL v6] 105 V1 fun v9 V2 =>
 PubT [uI v7] 3 V2 fun v10 V3 =>
 TT 39 #[uP v0, .func (.func 84) #[] #[uP (ptrAdd v8 0), uP (ptrAdd v9 0), uP (ptrAdd v10 0)]] V3 fun e V4 => ∃ v11 v12, e = rT #[uI v11, uI v12] ∧
 Br (v12 = 0)
 (R (rV (uB (decide (v11 = 1)))) V4)
 (R (rV (uB false)) V4)
theorem x50 {v0 : Option Addr} {v1 v2 : ByteArray} {v3 v4 : Int} {v5 : ByteArray} {v6 : Sl} {v7 : Int} {V : Mem} {R : RP} (h : w50 v0 v1 v2 v3 v4 v5 v6 v7 V R) : TT 50 #[uP v0, uA #[uS v1, uS v2, uI v3, uI v4, uS v5, uL v6], uI v7] V R :=
 tri_dx Tryz.func50 [] [] false (by kernel_rfl) (by kernel_rfl) h
/- slices.IndexFunc[[]int,int] -/
def w51 (v0 : Sl) (v1 : Value) (V : Mem) (R : RP) : Prop :=
 ∃ (I : Nat → List Value → Mem → Prop) (n0 : Nat), I n0 [uI 0, uI 0] V ∧ ∀ n V1, ∀ v2 v3, I n [uI v2, uI v3] V1 → ∀ J0 : List Value → Mem → Prop, (∀ m ys V'', m < n → I m ys V'' → J0 ys V'') →
 Br (v3 < (v0.n : Int))
 (¬ v0.p = none ∧ 0 ≤ v3 ∧ v3 < (v0.n : Int) ∧ ∃ v4, V1.rowp v0.p (v3.toNat * 1) 1 = some [uI v4] ∧
 ∃ f first caps, K.cast .f v1 = .func (.func f) first caps ∧ (∀ args w, (callFunc f args).run Tryz.prog w = .ok (.enter f args) w) ∧
 TT f (first ++ #[uI v4] ++ caps) V1 fun e V2 => ∃ v5, e = rV (uB v5) ∧
 Br (v5 = true)
 (R (rV (uI v3)) V2)
 (IR (v3 + 1) ∧ J0 [uI v2, uI (v3 + 1)] V2))
 (R (rV (uI (-1))) V1)
theorem x51 {v0 : Sl} {v1 : Value} {V : Mem} {R : RP} (h : w51 v0 v1 V R) : TT 51 #[uL v0, K.cast .f v1] V R :=
 tri_dr Tryz.func51 [] [] false [uL v0, v1] (by kernel_rfl) (by kernel_rfl) h
/- heartwood/heartwoodlaw16.list$1 -/
def w52 (v0 : Int) (v1 : ByteArray) (v2 : Sl) (V : Mem) (R : RP) : Prop :=
 R (rV (uA #[uI v0, uI 0, uS v1, uL v2])) V
theorem x52 {v0 : Int} {v1 : ByteArray} {v2 : Sl} {V : Mem} {R : RP} (h : w52 v0 v1 v2 V R) : TT 52 #[uI v0, uS v1, uL v2] V R :=
 tri_dx Tryz.func52 [] [] false (by kernel_rfl) (by kernel_rfl) h
/- heartwood/heartwoodref16.holds -/
def w54 (v0 : Sl) (v1 : Value) (V : Mem) (R : RP) : Prop :=
 ∃ (I : Nat → List Value → Mem → Prop) (n0 : Nat), I n0 [uI 0, uI 0] V ∧ ∀ n V1, ∀ v2 v3, I n [uI v2, uI v3] V1 → ∀ J0 : List Value → Mem → Prop, (∀ m ys V'', m < n → I m ys V'' → J0 ys V'') →
 Br (v3 < (v0.n : Int))
 (¬ v0.p = none ∧ 0 ≤ v3 ∧ v3 < (v0.n : Int) ∧ ∃ v4 v5 v6 v7 v8 v9, V1.rowp v0.p (v3.toNat * 6) 6 = some [uS v4, uS v5, uI v6, uI v7, uS v8, uL v9] ∧
 ∃ f first caps, K.cast .f v1 = .func (.func f) first caps ∧ (∀ args w, (callFunc f args).run Tryz.prog w = .ok (.enter f args) w) ∧
 TT f (first ++ #[uA #[uS v4, uS v5, uI v6, uI v7, uS v8, uL v9]] ++ caps) V1 fun e V2 => ∃ v10, e = rV (uB v10) ∧
 Br (v10 = true)
 (R (rV (uI v3)) V2)
 (IR (v3 + 1) ∧ J0 [uI v2, uI (v3 + 1)] V2))
 (R (rV (uI (-1))) V1)
theorem x54 {v0 : Sl} {v1 : Value} {V : Mem} {R : RP} (h : w54 v0 v1 V R) : TT 54 #[uL v0, K.cast .f v1] V R :=
 tri_dr Tryz.func54 [] [] false [uL v0, v1] (by kernel_rfl) (by kernel_rfl) h
/- heartwood/invariant.Holds$1 -/
def w57 (v0 : Sl) (v1 : Value) (V : Mem) (R : RP) : Prop :=
 TT 85 #[uL v0, K.cast .f v1] V fun e V1 => ∃ v2, e = rV (uI v2) ∧
 R (rV (uB (decide (0 ≤ v2)))) V1
theorem x57 {v0 : Sl} {v1 : Value} {V : Mem} {R : RP} (h : w57 v0 v1 V R) : TT 57 #[uL v0, K.cast .f v1] V R :=
 tri_dr Tryz.func57 [] [] false [uL v0, v1] (by kernel_rfl) (by kernel_rfl) h
/- heartwood/heartwoodlaw16.deep$1 -/
def w59 (v0 v1 : Int) (v2 : ByteArray) (v3 : Sl) (V : Mem) (R : RP) : Prop :=
 PubT [uI 1000] 159 V fun v4 V1 =>
 TT 86 #[uA #[uI v0, uI v1, uS v2, uL v3], uI 1, uP (ptrAdd v4 0)] V1 fun e V2 => ∃ v5, e = rV (uB v5) ∧
 R (rV (uB v5)) V2
theorem x59 {v0 v1 : Int} {v2 : ByteArray} {v3 : Sl} {V : Mem} {R : RP} (h : w59 v0 v1 v2 v3 V R) : TT 59 #[uA #[uI v0, uI v1, uS v2, uL v3]] V R :=
 tri_dx Tryz.func59 [] [] false (by kernel_rfl) (by kernel_rfl) h
/- heartwood/typecheck.Measure -/
def w62 (v0 : Option Addr) (v1 v2 : Int) (v3 : ByteArray) (v4 : Sl) (v5 : Int) (V : Mem) (R : RP) : Prop :=
 Br (v1 = 1)
 (R (rV (uI v2)) V)
 (Br (v1 = 2)
 (R (rV (uI v2)) V)
 (Br (v1 = 3)
 (R (rV (uI 0)) V)
 (Br (v1 = 4)
 (TT 92 #[uP v0, uS v3, uI v5] V fun e V1 => ∃ v6, e = rV (uI v6) ∧
 R (rV (uI v6)) V1)
 (Br (v1 = 5)
 (PubT [uP v0] 83 V fun v6 V1 =>
 PubT [uI v1, uI v2, uS v3, uL v4] 69 V1 fun v7 V2 =>
 PubT [uI v5] 3 V2 fun v8 V3 =>
 TT 91 #[uI 0, uP (ptrAdd v6 0), uP (ptrAdd v7 0), uP (ptrAdd v8 0)] V3 fun e V4 => (∃ v9, e = rV (uI v9) ∧
 V4.rowp (ptrAdd v7 2) 0 1 = some [uS v3] ∧ ¬ (ptrAdd v7 0) = none ∧ V4.rowp (ptrAdd v6 0) 0 1 = some [uP v0] ∧ TT 93 #[uP v0, uI v9, uS v3] V4 fun e V5 => (∃ v10, e = rV (uI v10) ∧
 R (rV (uI v10)) V5) ∨ ∃ ch, e = .panicked ch ∧ R e V5) ∨ ∃ ch, e = .panicked ch ∧ R e V4)
 (Br (v1 = 7)
 (TT 37 #[uP v0, uS v3] V fun e V1 => ∃ v6, e = rV (uI v6) ∧
 PubT [uP v0] 83 V1 fun v7 V2 =>
 PubT [uI v1, uI v2, uS v3, uL v4] 69 V2 fun v8 V3 =>
 PubT [uI v5] 3 V3 fun v9 V4 =>
 TT 91 #[uI 0, uP (ptrAdd v7 0), uP (ptrAdd v8 0), uP (ptrAdd v9 0)] V4 fun e V5 => (∃ v10, e = rV (uI v10) ∧
 V5.rowp (ptrAdd v7 0) 0 1 = some [uP v0] ∧ TT 41 #[uP v0, uI v6, uI v10] V5 fun e V6 => (∃ v11, e = rV (uI v11) ∧
 R (rV (uI v11)) V6) ∨ ∃ ch, e = .panicked ch ∧ R e V6) ∨ ∃ ch, e = .panicked ch ∧ R e V5)
 (Br (v1 = 8)
 (PubT [uP v0] 83 V fun v6 V1 =>
 PubT [uI v1, uI v2, uS v3, uL v4] 69 V1 fun v7 V2 =>
 PubT [uI v5] 3 V2 fun v8 V3 =>
 TT 91 #[uI 0, uP (ptrAdd v6 0), uP (ptrAdd v7 0), uP (ptrAdd v8 0)] V3 fun e V4 => (∃ v9, e = rV (uI v9) ∧
 IR (0 - v9) ∧ TT 94 #[uI (0 - v9)] V4 fun e V5 => (∃ v10, e = rV (uI v10) ∧
 R (rV (uI v10)) V5) ∨ ∃ ch, e = .panicked ch ∧ R e V5) ∨ ∃ ch, e = .panicked ch ∧ R e V4)
 (Br (v1 = 18)
 (PubT [uP v0] 83 V fun v6 V1 =>
 PubT [uI v1, uI v2, uS v3, uL v4] 69 V1 fun v7 V2 =>
 PubT [uI v5] 3 V2 fun v8 V3 =>
 TT 91 #[uI 0, uP (ptrAdd v6 0), uP (ptrAdd v7 0), uP (ptrAdd v8 0)] V3 fun e V4 => (∃ v9, e = rV (uI v9) ∧
 IR (1 - v9) ∧ R (rV (uI (1 - v9))) V4) ∨ ∃ ch, e = .panicked ch ∧ R e V4)
 (Br (v1 = 24)
 (PubT [uP v0] 83 V fun v6 V1 =>
 PubT [uI v1, uI v2, uS v3, uL v4] 69 V1 fun v7 V2 =>
 PubT [uI v5] 3 V2 fun v8 V3 =>
 TT 91 #[uI 0, uP (ptrAdd v6 0), uP (ptrAdd v7 0), uP (ptrAdd v8 0)] V3 fun e V4 => (∃ v9, e = rV (uI v9) ∧
 GenK Tryz.prog (.call { callee := (.builtin .max), args := #[(.const (.int .i64 0)), (.tmp 58)], argTypes := #[3, 3] }) 3 (gv [(58, uI v9)]) V4 fun x V5 => ∃ v10, x = uI v10 ∧
 K.inR .u64 v10 ∧ TT 95 #[.int .u64 v10] V5 fun e V6 => ∃ v11, e = rV (uI v11) ∧
 IR (v11 - 1) ∧ GenK Tryz.prog (.call { callee := (.builtin .max), args := #[(.const (.int .i64 0)), (.tmp 62)], argTypes := #[3, 3] }) 3 (gv [(62, uI (v11 - 1))]) V6 fun x V7 => ∃ v12, x = uI v12 ∧
 R (rV (uI v12)) V7) ∨ ∃ ch, e = .panicked ch ∧ R e V4)
 (Br (v1 = 19)
 (PubT [uP v0] 83 V fun v6 V1 =>
 PubT [uI v1, uI v2, uS v3, uL v4] 69 V1 fun v7 V2 =>
 PubT [uI v5] 3 V2 fun v8 V3 =>
 TT 91 #[uI 0, uP (ptrAdd v6 0), uP (ptrAdd v7 0), uP (ptrAdd v8 0)] V3 fun e V4 => (∃ v9, e = rV (uI v9) ∧
 Br (v9 = 0)
 (R (rV (uI 0)) V4)
 (TT 91 #[uI 1, uP (ptrAdd v6 0), uP (ptrAdd v7 0), uP (ptrAdd v8 0)] V4 fun e V5 => (∃ v10, e = rV (uI v10) ∧
 R (rV (uI v10)) V5) ∨ ∃ ch, e = .panicked ch ∧ R e V5)) ∨ ∃ ch, e = .panicked ch ∧ R e V4)
 (Br (v1 = 20)
 (PubT [uP v0] 83 V fun v6 V1 =>
 PubT [uI v1, uI v2, uS v3, uL v4] 69 V1 fun v7 V2 =>
 PubT [uI v5] 3 V2 fun v8 V3 =>
 TT 91 #[uI 0, uP (ptrAdd v6 0), uP (ptrAdd v7 0), uP (ptrAdd v8 0)] V3 fun e V4 => (∃ v9, e = rV (uI v9) ∧
 Br (v9 = 0)
 (TT 91 #[uI 1, uP (ptrAdd v6 0), uP (ptrAdd v7 0), uP (ptrAdd v8 0)] V4 fun e V5 => (∃ v10, e = rV (uI v10) ∧
 R (rV (uI v10)) V5) ∨ ∃ ch, e = .panicked ch ∧ R e V5)
 (R (rV (uI 1)) V4)) ∨ ∃ ch, e = .panicked ch ∧ R e V4)
 (Br (v1 = 21)
 (PubT [uP v0] 83 V fun v6 V1 =>
 PubT [uI v1, uI v2, uS v3, uL v4] 69 V1 fun v7 V2 =>
 PubT [uI v5] 3 V2 fun v8 V3 =>
 TT 91 #[uI 0, uP (ptrAdd v6 0), uP (ptrAdd v7 0), uP (ptrAdd v8 0)] V3 fun e V4 => (∃ v9, e = rV (uI v9) ∧
 Br (v9 = 0)
 (TT 91 #[uI 2, uP (ptrAdd v6 0), uP (ptrAdd v7 0), uP (ptrAdd v8 0)] V4 fun e V5 => (∃ v10, e = rV (uI v10) ∧
 R (rV (uI v10)) V5) ∨ ∃ ch, e = .panicked ch ∧ R e V5)
 (TT 91 #[uI 1, uP (ptrAdd v6 0), uP (ptrAdd v7 0), uP (ptrAdd v8 0)] V4 fun e V5 => (∃ v10, e = rV (uI v10) ∧
 R (rV (uI v10)) V5) ∨ ∃ ch, e = .panicked ch ∧ R e V5)) ∨ ∃ ch, e = .panicked ch ∧ R e V4)
 (PubT [uP v0] 83 V fun v6 V1 =>
 PubT [uI v1, uI v2, uS v3, uL v4] 69 V1 fun v7 V2 =>
 PubT [uI v5] 3 V2 fun v8 V3 =>
 TT 91 #[uI 0, uP (ptrAdd v6 0), uP (ptrAdd v7 0), uP (ptrAdd v8 0)] V3 fun e V4 => (∃ v9, e = rV (uI v9) ∧
 ¬ (ptrAdd v7 0) = none ∧ ∃ v10, V4.rowp v7 ((0 : Int).toNat * 1) 1 = some [uI v10] ∧
 TT 91 #[uI 1, uP (ptrAdd v6 0), uP (ptrAdd v7 0), uP (ptrAdd v8 0)] V4 fun e V5 => (∃ v11, e = rV (uI v11) ∧
 V5.rowp (ptrAdd v7 0) 0 1 = some [uI v10] ∧ ¬ (ptrAdd v7 0) = none ∧ TT 96 #[uI v10, uI v9, uI v11] V5 fun e V6 => (∃ v12, e = rV (uI v12) ∧
 R (rV (uI v12)) V6) ∨ ∃ ch, e = .panicked ch ∧ R e V6) ∨ ∃ ch, e = .panicked ch ∧ R e V5) ∨ ∃ ch, e = .panicked ch ∧ R e V4))))))))))))
theorem x62 {v0 : Option Addr} {v1 v2 : Int} {v3 : ByteArray} {v4 : Sl} {v5 : Int} {V : Mem} {R : RP} (h : w62 v0 v1 v2 v3 v4 v5 V R) : TT 62 #[uP v0, uA #[uI v1, uI v2, uS v3, uL v4], uI v5] V R :=
 tri_dx Tryz.func62 [] [] false (by kernel_rfl) (by kernel_rfl) h
/- heartwood/heartwoodref09.count -/
def w68 (v0 : ByteArray) (v1 v2 v3 v4 v5 v6 v7 : Sl) (V : Mem) (R : RP) : Prop :=
 TT 109 #[uA #[uS v0, uL v1, uL v2, uL v3, uL v4, uL v5, uL v6, uL v7]] V fun e V1 => ∃ v8, e = rV (uB v8) ∧
 Br (v8 = true)
 (TT 110 #[uA #[uS v0, uL v1, uL v2, uL v3, uL v4, uL v5, uL v6, uL v7]] V1 fun e V2 => ∃ v9, e = rV (uP v9) ∧
 TT 111 #[uP v9] V2 fun e V3 => ∃ v10, e = rV (uP v10) ∧
 Br (v10 = none)
 (R (rT #[uS (strB []), uI 0, uI 0]) V3)
 (¬ v10 = none ∧ ¬ v10 = none ∧ ∃ v11, V3.rowp v10 ((0 : Int).toNat * 1) 1 = some [uS v11] ∧
 ¬ v10 = none ∧ ¬ v10 = none ∧ ∃ v12, V3.rowp v10 ((1 : Int).toNat * 1) 1 = some [uI v12] ∧
 ¬ v10 = none ∧ ¬ v10 = none ∧ ∃ v13, V3.rowp v10 ((2 : Int).toNat * 1) 1 = some [uI v13] ∧
 V3.rowp (ptrAdd v10 2) 0 1 = some [uI v13] ∧ ¬ v10 = none ∧ ¬ v10 = none ∧ V3.rowp (ptrAdd v10 1) 0 1 = some [uI v12] ∧ ¬ v10 = none ∧ ¬ v10 = none ∧ V3.rowp (ptrAdd v10 2) 0 1 = some [uI v13] ∧ ¬ v10 = none ∧ ¬ v10 = none ∧ R (rT #[uS v11, uI v12, uI v13]) V3))
 (R (rT #[uS (strB []), uI 0, uI 1]) V1)
theorem x68 {v0 : ByteArray} {v1 v2 v3 v4 v5 v6 v7 : Sl} {V : Mem} {R : RP} (h : w68 v0 v1 v2 v3 v4 v5 v6 v7 V R) : TT 68 #[uA #[uS v0, uL v1, uL v2, uL v3, uL v4, uL v5, uL v6, uL v7]] V R :=
 tri_dx Tryz.func68 [] [] false (by kernel_rfl) (by kernel_rfl) h
/- heartwood/heap.Valid -/
def w69 (v0 : ByteArray) (v1 v2 v3 v4 v5 v6 v7 v8 v9 : Sl) (V : Mem) (R : RP) : Prop :=
 TT 112 #[uA #[uS v0, uL v1, uL v2, uL v3, uL v4, uL v5, uL v6, uL v7]] V fun e V1 => ∃ v10, e = rV (uM v10) ∧
 TT 113 #[uM v10, uA #[uS v0, uL v1, uL v2, uL v3, uL v4, uL v5, uL v6, uL v7], uA #[uL v8, uL v9]] V1 fun e V2 => ∃ v11, e = rV (uB v11) ∧
 R (rV (uB v11)) V2
theorem x69 {v0 : ByteArray} {v1 v2 v3 v4 v5 v6 v7 v8 v9 : Sl} {V : Mem} {R : RP} (h : w69 v0 v1 v2 v3 v4 v5 v6 v7 v8 v9 V R) : TT 69 #[uA #[uS v0, uL v1, uL v2, uL v3, uL v4, uL v5, uL v6, uL v7], uA #[uL v8, uL v9]] V R :=
 tri_dx Tryz.func69 [] [] false (by kernel_rfl) (by kernel_rfl) h
/- slices.IndexFunc[[]heartwood/api.Measure,heartwood/api.Measure] -/
def w70 (v0 : Sl) (v1 : Value) (V : Mem) (R : RP) : Prop :=
 ∃ (I : Nat → List Value → Mem → Prop) (n0 : Nat), I n0 [uI 0, uI 0] V ∧ ∀ n V1, ∀ v2 v3, I n [uI v2, uI v3] V1 → ∀ J0 : List Value → Mem → Prop, (∀ m ys V'', m < n → I m ys V'' → J0 ys V'') →
 Br (v3 < (v0.n : Int))
 (¬ v0.p = none ∧ 0 ≤ v3 ∧ v3 < (v0.n : Int) ∧ ∃ v4 v5 v6 v7 v8 v9 v10, V1.rowp v0.p (v3.toNat * 7) 7 = some [uS v4, uS v5, uI v6, uI v7, uI v8, uS v9, uL v10] ∧
 ∃ f first caps, K.cast .f v1 = .func (.func f) first caps ∧ (∀ args w, (callFunc f args).run Tryz.prog w = .ok (.enter f args) w) ∧
 TT f (first ++ #[uA #[uS v4, uS v5, uI v6, uI v7, uI v8, uS v9, uL v10]] ++ caps) V1 fun e V2 => ∃ v11, e = rV (uB v11) ∧
 Br (v11 = true)
 (R (rV (uI v3)) V2)
 (IR (v3 + 1) ∧ J0 [uI v2, uI (v3 + 1)] V2))
 (R (rV (uI (-1))) V1)
theorem x70 {v0 : Sl} {v1 : Value} {V : Mem} {R : RP} (h : w70 v0 v1 V R) : TT 70 #[uL v0, K.cast .f v1] V R :=
 tri_dr Tryz.func70 [] [] false [uL v0, v1] (by kernel_rfl) (by kernel_rfl) h
/- (*heartwood/invariant.machine).named$1 -/
def w71 (v0 v1 : ByteArray) (v2 v3 v4 : Int) (v5 : ByteArray) (v6 : Sl) (v7 : Option Addr) (V : Mem) (R : RP) : Prop :=
 ∃ v8, V.rowp v7 ((0 : Int).toNat * 1) 1 = some [uS v8] ∧
 R (rV (uB (decide (v0 = v8)))) V
theorem x71 {v0 v1 : ByteArray} {v2 v3 v4 : Int} {v5 : ByteArray} {v6 : Sl} {v7 : Option Addr} {V : Mem} {R : RP} (h : w71 v0 v1 v2 v3 v4 v5 v6 v7 V R) : TT 71 #[uA #[uS v0, uS v1, uI v2, uI v3, uI v4, uS v5, uL v6], uP v7] V R :=
 tri_dx Tryz.func71 [] [] false (by kernel_rfl) (by kernel_rfl) h
/- (*heartwood/heartwoodref16.machine).fail -/
end Go.Proofs
