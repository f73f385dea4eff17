/- Part 7 of a proof of a law of this seat: no statement of the seat is proved here. -/
import Derived.Test.YtjnmeimbcljkjaaGreatDoorPart06
set_option linter.unusedVariables false
set_option linter.unusedSimpArgs false
namespace Go.Proofs
open Go Go.Sx
set_option maxRecDepth 100000
def w10 (V : Mem) (R : Ending → Mem → Prop) : Prop :=
 Tri Tryz.prog 44 #[] V fun e V1 => ∃ v0 : ByteArray, ∃ v1 : Sl, ∃ v2 : Sl, ∃ v3 : Sl, ∃ v4 : Sl, ∃ v5 : Sl, ∃ v6 : Sl, ∃ v7 : Sl, e = .returned (.agg #[.string v0, .slice v1.p v1.n v1.c, .slice v2.p v2.n v2.c, .slice v3.p v3.n v3.c, .slice v4.p v4.n v4.c, .slice v5.p v5.n v5.c, .slice v6.p v6.n v6.c, .slice v7.p v7.n v7.c]) ∧
 Tri Tryz.prog 12 #[.agg #[.string v0, .slice v1.p v1.n v1.c, .slice v2.p v2.n v2.c, .slice v3.p v3.n v3.c, .slice v4.p v4.n v4.c, .slice v5.p v5.n v5.c, .slice v6.p v6.n v6.c, .slice v7.p v7.n v7.c]] V1 fun e V2 => ∃ v8 : ByteArray, ∃ v9 : Int, ∃ v10 : Int, e = .returned (.tuple #[.string v8, .int .i64 v9, .int .i64 v10]) ∧
 Tri Tryz.prog 46 #[.string (strB [114])] V2 fun e V3 => ∃ v11 : Int, ∃ v12 : Int, ∃ v13 : ByteArray, ∃ v14 : Sl, e = .returned (.agg #[.int .i64 v11, .int .i64 v12, .string v13, .slice v14.p v14.n v14.c]) ∧
 Tri Tryz.prog 45 #[.agg #[.int .i64 v11, .int .i64 v12, .string v13, .slice v14.p v14.n v14.c], .string (strB [110])] V3 fun e V4 => ∃ v15 : Int, ∃ v16 : Int, ∃ v17 : ByteArray, ∃ v18 : Sl, e = .returned (.agg #[.int .i64 v15, .int .i64 v16, .string v17, .slice v18.p v18.n v18.c]) ∧
 Tri Tryz.prog 45 #[.agg #[.int .i64 v15, .int .i64 v16, .string v17, .slice v18.p v18.n v18.c], .string (strB [107])] V4 fun e V5 => ∃ v19 : Int, ∃ v20 : Int, ∃ v21 : ByteArray, ∃ v22 : Sl, e = .returned (.agg #[.int .i64 v19, .int .i64 v20, .string v21, .slice v22.p v22.n v22.c]) ∧
 PubT [.int .i64 v19, .int .i64 v20, .string v21, .slice v22.p v22.n v22.c, .int .i64 1, .int .i64 1, .string (strB []), .slice none 0 0] 40 V5 fun v23 V6 =>
 Tri Tryz.prog 16 #[.agg #[.string v0, .slice v1.p v1.n v1.c, .slice v2.p v2.n v2.c, .slice v3.p v3.n v3.c, .slice v4.p v4.n v4.c, .slice v5.p v5.n v5.c, .slice v6.p v6.n v6.c, .slice v7.p v7.n v7.c], .string (strB [112]), .agg #[.int .i64 9, .int .i64 0, .string (strB []), .slice (ptrAdd v23 0) ((2 : Int)).toNat ((2 : Int)).toNat]] V6 fun e V7 => ∃ v24 : ByteArray, ∃ v25 : Int, e = .returned (.tuple #[.string v24, .int .i64 v25]) ∧
 Tri Tryz.prog 46 #[.string (strB [114])] V7 fun e V8 => ∃ v26 : Int, ∃ v27 : Int, ∃ v28 : ByteArray, ∃ v29 : Sl, e = .returned (.agg #[.int .i64 v26, .int .i64 v27, .string v28, .slice v29.p v29.n v29.c]) ∧
 (Tri Tryz.prog 46 #[.string (strB [114])] V8 fun e V9 => ∃ v30 : Int, ∃ v31 : Int, ∃ v32 : ByteArray, ∃ v33 : Sl, e = .returned (.agg #[.int .i64 v30, .int .i64 v31, .string v32, .slice v33.p v33.n v33.c]) ∧
 (Tri Tryz.prog 45 #[.agg #[.int .i64 v30, .int .i64 v31, .string v32, .slice v33.p v33.n v33.c], .string (strB [110])] V9 fun e V10 => ∃ v34 : Int, ∃ v35 : Int, ∃ v36 : ByteArray, ∃ v37 : Sl, e = .returned (.agg #[.int .i64 v34, .int .i64 v35, .string v36, .slice v37.p v37.n v37.c]) ∧
 PubT [.int .i64 v26, .int .i64 v27, .string v28, .slice v29.p v29.n v29.c, .int .i64 3, .int .i64 0, .string (strB []), .slice none 0 0] 40 V10 fun v38 V11 =>
 PubT [.int .i64 14, .int .i64 0, .string (strB []), .slice (ptrAdd v38 0) ((2 : Int)).toNat ((2 : Int)).toNat, .int .i64 3, .int .i64 0, .string (strB []), .slice none 0 0, .int .i64 v34, .int .i64 v35, .string v36, .slice v37.p v37.n v37.c] 40 V11 fun v39 V12 =>
 Tri Tryz.prog 16 #[.agg #[.string v0, .slice v1.p v1.n v1.c, .slice v2.p v2.n v2.c, .slice v3.p v3.n v3.c, .slice v4.p v4.n v4.c, .slice v5.p v5.n v5.c, .slice v6.p v6.n v6.c, .slice v7.p v7.n v7.c], .string (strB [112]), .agg #[.int .i64 21, .int .i64 0, .string (strB []), .slice (ptrAdd v39 0) ((3 : Int)).toNat ((3 : Int)).toNat]] V12 fun e V13 => ∃ v40 : ByteArray, ∃ v41 : Int, e = .returned (.tuple #[.string v40, .int .i64 v41]) ∧
 Tri Tryz.prog 45 #[.agg #[.int .i64 3, .int .i64 0, .string (strB []), .slice none 0 0], .string (strB [107])] V13 fun e V14 => ∃ v42 : Int, ∃ v43 : Int, ∃ v44 : ByteArray, ∃ v45 : Sl, e = .returned (.agg #[.int .i64 v42, .int .i64 v43, .string v44, .slice v45.p v45.n v45.c]) ∧
 Tri Tryz.prog 16 #[.agg #[.string v0, .slice v1.p v1.n v1.c, .slice v2.p v2.n v2.c, .slice v3.p v3.n v3.c, .slice v4.p v4.n v4.c, .slice v5.p v5.n v5.c, .slice v6.p v6.n v6.c, .slice v7.p v7.n v7.c], .string (strB [112]), .agg #[.int .i64 v42, .int .i64 v43, .string v44, .slice v45.p v45.n v45.c]] V14 fun e V15 => ∃ v46 : ByteArray, ∃ v47 : Int, e = .returned (.tuple #[.string v46, .int .i64 v47]) ∧
 (v10 = (0 : Int) →
 (v24 = (strB [105, 110, 116]) →
 (v25 = (0 : Int) →
 (v40 = (strB [84]) →
 (v41 = (0 : Int) →
 R (.returned (.bool (decide (v47 = (11 : Int))))) V15) ∧ (¬ (v41 = (0 : Int)) →
 R (.returned (.bool false)) V15)) ∧ (¬ (v40 = (strB [84])) →
 R (.returned (.bool false)) V15)) ∧ (¬ (v25 = (0 : Int)) →
 R (.returned (.bool false)) V15)) ∧ (¬ (v24 = (strB [105, 110, 116])) →
 R (.returned (.bool false)) V15)) ∧ (¬ (v10 = (0 : Int)) →
 R (.returned (.bool false)) V15)) ∧
 (Tri Tryz.prog 45 #[.agg #[.int .i64 v30, .int .i64 v31, .string v32, .slice v33.p v33.n v33.c], .string (strB [110])] V9 fun e V10 => ∃ v34 : Int, ∃ v35 : Int, ∃ v36 : ByteArray, ∃ v37 : Sl, e = .returned (.agg #[.int .i64 v34, .int .i64 v35, .string v36, .slice v37.p v37.n v37.c]) ∧
 PubT [.int .i64 v26, .int .i64 v27, .string v28, .slice v29.p v29.n v29.c, .int .i64 3, .int .i64 0, .string (strB []), .slice none 0 0] 40 V10 fun v38 V11 =>
 PubT [.int .i64 14, .int .i64 0, .string (strB []), .slice (ptrAdd v38 0) ((2 : Int)).toNat ((2 : Int)).toNat, .int .i64 3, .int .i64 0, .string (strB []), .slice none 0 0, .int .i64 v34, .int .i64 v35, .string v36, .slice v37.p v37.n v37.c] 40 V11 fun v39 V12 =>
 Tri Tryz.prog 16 #[.agg #[.string v0, .slice v1.p v1.n v1.c, .slice v2.p v2.n v2.c, .slice v3.p v3.n v3.c, .slice v4.p v4.n v4.c, .slice v5.p v5.n v5.c, .slice v6.p v6.n v6.c, .slice v7.p v7.n v7.c], .string (strB [112]), .agg #[.int .i64 21, .int .i64 0, .string (strB []), .slice (ptrAdd v39 0) ((3 : Int)).toNat ((3 : Int)).toNat]] V12 fun e V13 => ∃ v40 : ByteArray, ∃ v41 : Int, e = .returned (.tuple #[.string v40, .int .i64 v41]) ∧
 Tri Tryz.prog 45 #[.agg #[.int .i64 3, .int .i64 0, .string (strB []), .slice none 0 0], .string (strB [107])] V13 fun e V14 => ∃ v42 : Int, ∃ v43 : Int, ∃ v44 : ByteArray, ∃ v45 : Sl, e = .returned (.agg #[.int .i64 v42, .int .i64 v43, .string v44, .slice v45.p v45.n v45.c]) ∧
 Tri Tryz.prog 16 #[.agg #[.string v0, .slice v1.p v1.n v1.c, .slice v2.p v2.n v2.c, .slice v3.p v3.n v3.c, .slice v4.p v4.n v4.c, .slice v5.p v5.n v5.c, .slice v6.p v6.n v6.c, .slice v7.p v7.n v7.c], .string (strB [112]), .agg #[.int .i64 v42, .int .i64 v43, .string v44, .slice v45.p v45.n v45.c]] V14 fun e V15 => ∃ v46 : ByteArray, ∃ v47 : Int, e = .returned (.tuple #[.string v46, .int .i64 v47]) ∧
 (v10 = (0 : Int) →
 (v24 = (strB [105, 110, 116]) →
 (v25 = (0 : Int) →
 (v40 = (strB [84]) →
 (v41 = (0 : Int) →
 R (.returned (.bool (decide (v47 = (11 : Int))))) V15) ∧ (¬ (v41 = (0 : Int)) →
 R (.returned (.bool false)) V15)) ∧ (¬ (v40 = (strB [84])) →
 R (.returned (.bool false)) V15)) ∧ (¬ (v25 = (0 : Int)) →
 R (.returned (.bool false)) V15)) ∧ (¬ (v24 = (strB [105, 110, 116])) →
 R (.returned (.bool false)) V15)) ∧ (¬ (v10 = (0 : Int)) →
 R (.returned (.bool false)) V15))) ∧
 (Tri Tryz.prog 46 #[.string (strB [114])] V8 fun e V9 => ∃ v30 : Int, ∃ v31 : Int, ∃ v32 : ByteArray, ∃ v33 : Sl, e = .returned (.agg #[.int .i64 v30, .int .i64 v31, .string v32, .slice v33.p v33.n v33.c]) ∧
 Tri Tryz.prog 45 #[.agg #[.int .i64 v30, .int .i64 v31, .string v32, .slice v33.p v33.n v33.c], .string (strB [110])] V9 fun e V10 => ∃ v34 : Int, ∃ v35 : Int, ∃ v36 : ByteArray, ∃ v37 : Sl, e = .returned (.agg #[.int .i64 v34, .int .i64 v35, .string v36, .slice v37.p v37.n v37.c]) ∧
 PubT [.int .i64 v26, .int .i64 v27, .string v28, .slice v29.p v29.n v29.c, .int .i64 3, .int .i64 0, .string (strB []), .slice none 0 0] 40 V10 fun v38 V11 =>
 PubT [.int .i64 14, .int .i64 0, .string (strB []), .slice (ptrAdd v38 0) ((2 : Int)).toNat ((2 : Int)).toNat, .int .i64 3, .int .i64 0, .string (strB []), .slice none 0 0, .int .i64 v34, .int .i64 v35, .string v36, .slice v37.p v37.n v37.c] 40 V11 fun v39 V12 =>
 Tri Tryz.prog 16 #[.agg #[.string v0, .slice v1.p v1.n v1.c, .slice v2.p v2.n v2.c, .slice v3.p v3.n v3.c, .slice v4.p v4.n v4.c, .slice v5.p v5.n v5.c, .slice v6.p v6.n v6.c, .slice v7.p v7.n v7.c], .string (strB [112]), .agg #[.int .i64 21, .int .i64 0, .string (strB []), .slice (ptrAdd v39 0) ((3 : Int)).toNat ((3 : Int)).toNat]] V12 fun e V13 => ∃ v40 : ByteArray, ∃ v41 : Int, e = .returned (.tuple #[.string v40, .int .i64 v41]) ∧
 Tri Tryz.prog 45 #[.agg #[.int .i64 3, .int .i64 0, .string (strB []), .slice none 0 0], .string (strB [107])] V13 fun e V14 => ∃ v42 : Int, ∃ v43 : Int, ∃ v44 : ByteArray, ∃ v45 : Sl, e = .returned (.agg #[.int .i64 v42, .int .i64 v43, .string v44, .slice v45.p v45.n v45.c]) ∧
 Tri Tryz.prog 16 #[.agg #[.string v0, .slice v1.p v1.n v1.c, .slice v2.p v2.n v2.c, .slice v3.p v3.n v3.c, .slice v4.p v4.n v4.c, .slice v5.p v5.n v5.c, .slice v6.p v6.n v6.c, .slice v7.p v7.n v7.c], .string (strB [112]), .agg #[.int .i64 v42, .int .i64 v43, .string v44, .slice v45.p v45.n v45.c]] V14 fun e V15 => ∃ v46 : ByteArray, ∃ v47 : Int, e = .returned (.tuple #[.string v46, .int .i64 v47]) ∧
 (v10 = (0 : Int) →
 (v24 = (strB [105, 110, 116]) →
 (v25 = (0 : Int) →
 (v40 = (strB [84]) →
 (v41 = (0 : Int) →
 R (.returned (.bool (decide (v47 = (11 : Int))))) V15) ∧ (¬ (v41 = (0 : Int)) →
 R (.returned (.bool false)) V15)) ∧ (¬ (v40 = (strB [84])) →
 R (.returned (.bool false)) V15)) ∧ (¬ (v25 = (0 : Int)) →
 R (.returned (.bool false)) V15)) ∧ (¬ (v24 = (strB [105, 110, 116])) →
 R (.returned (.bool false)) V15)) ∧ (¬ (v10 = (0 : Int)) →
 R (.returned (.bool false)) V15))
theorem x10 {V : Mem} {R : Ending → Mem → Prop} (h : w10 V R) : Tri Tryz.prog 10 #[] V R :=
 tri_dx (H := { N := 79, early := [], loops := [], keep := [0, 1, 2, 3, 6, 7, 8, 9, 10, 12] }) Tryz.func10 [] [] rfl (by kernel_rfl) h
def w12 (v0 : ByteArray) (v1 : Sl) (v2 : Sl) (v3 : Sl) (v4 : Sl) (v5 : Sl) (v6 : Sl) (v7 : Sl) (V : Mem) (R : Ending → Mem → Prop) : Prop :=
 Tri Tryz.prog 49 #[.agg #[.string v0, .slice v1.p v1.n v1.c, .slice v2.p v2.n v2.c, .slice v3.p v3.n v3.c, .slice v4.p v4.n v4.c, .slice v5.p v5.n v5.c, .slice v6.p v6.n v6.c, .slice v7.p v7.n v7.c]] V fun e V1 => ∃ v8 : Bool, e = .returned (.bool v8) ∧
 (v8 = true →
 Tri Tryz.prog 50 #[.agg #[.string v0, .slice v1.p v1.n v1.c, .slice v2.p v2.n v2.c, .slice v3.p v3.n v3.c, .slice v4.p v4.n v4.c, .slice v5.p v5.n v5.c, .slice v6.p v6.n v6.c, .slice v7.p v7.n v7.c]] V1 fun e V2 => ∃ v9 : Option Addr, e = .returned (.pointer v9) ∧
 Tri Tryz.prog 51 #[.pointer v9] V2 fun e V3 => ∃ v10 : Option Addr, e = .returned (.pointer v10) ∧
 (v10 = none →
 R (.returned (.tuple #[.string (strB []), .int .i64 0, .int .i64 0])) V3) ∧ (¬ (v10 = none) →
 (¬ (v10 = none)) ∧ (¬ (v10 = none)) ∧ ∃ v11 : ByteArray, V3.rowp v10 (((0 : Int)).toNat * 1) 1 = some [.string v11] ∧
 (¬ (v10 = none)) ∧ (¬ (v10 = none)) ∧ ∃ v12 : Int, V3.rowp v10 (((1 : Int)).toNat * 1) 1 = some [.int .i64 v12] ∧
 (¬ (v10 = none)) ∧ (¬ (v10 = none)) ∧ ∃ v13 : Int, V3.rowp v10 (((2 : Int)).toNat * 1) 1 = some [.int .i64 v13] ∧
 (V3.rowp (ptrAdd v10 2) 0 1 = some [.int .i64 v13]) ∧ (¬ (v10 = none)) ∧ (¬ (v10 = none)) ∧ (V3.rowp (ptrAdd v10 1) 0 1 = some [.int .i64 v12]) ∧ (¬ (v10 = none)) ∧ (¬ (v10 = none)) ∧ (V3.rowp (ptrAdd v10 2) 0 1 = some [.int .i64 v13]) ∧ (¬ (v10 = none)) ∧ (¬ (v10 = none)) ∧ R (.returned (.tuple #[.string v11, .int .i64 v12, .int .i64 v13])) V3)) ∧ (¬ (v8 = true) →
 R (.returned (.tuple #[.string (strB []), .int .i64 0, .int .i64 1])) V1)
theorem x12 {v0 : ByteArray} {v1 : Sl} {v2 : Sl} {v3 : Sl} {v4 : Sl} {v5 : Sl} {v6 : Sl} {v7 : Sl} {V : Mem} {R : Ending → Mem → Prop} (h : w12 v0 v1 v2 v3 v4 v5 v6 v7 V R) : Tri Tryz.prog 12 #[.agg #[.string v0, .slice v1.p v1.n v1.c, .slice v2.p v2.n v2.c, .slice v3.p v3.n v3.c, .slice v4.p v4.n v4.c, .slice v5.p v5.n v5.c, .slice v6.p v6.n v6.c, .slice v7.p v7.n v7.c]] V R :=
 tri_dx (H := { N := 26, early := [], loops := [], keep := [0, 1, 2, 3, 4, 5, 8, 13] }) Tryz.func12 [.agg (.cons (.var .s 0) (.cons (.var .sl 1) (.cons (.var .sl 2) (.cons (.var .sl 3) (.cons (.var .sl 4) (.cons (.var .sl 5) (.cons (.var .sl 6) (.cons (.var .sl 7) .nil))))))))] [.string v0, .slice v1.p v1.n v1.c, .slice v2.p v2.n v2.c, .slice v3.p v3.n v3.c, .slice v4.p v4.n v4.c, .slice v5.p v5.n v5.c, .slice v6.p v6.n v6.c, .slice v7.p v7.n v7.c] rfl (by kernel_rfl) h
def w13 (v0 : ByteArray) (v1 : Sl) (v2 : Sl) (v3 : Sl) (v4 : Sl) (v5 : Sl) (v6 : Sl) (v7 : Sl) (V : Mem) (R : Ending → Mem → Prop) : Prop :=
 Tri Tryz.prog 52 #[.string v0] V fun e V1 => ∃ v8 : Bool, e = .returned (.bool v8) ∧
 (v8 = true →
 ((12 : Int) < (v1.n : Int) →
 R (.returned (.bool false)) V1) ∧ (¬ ((12 : Int) < (v1.n : Int)) →
 Tri Tryz.prog 53 #[.slice v2.p v2.n v2.c, .int .i64 8] V1 fun e V2 => ∃ v9 : Bool, e = .returned (.bool v9) ∧
 (v9 = true →
 ((40 : Int) < (v3.n : Int) →
 R (.returned (.bool false)) V2) ∧ (¬ ((40 : Int) < (v3.n : Int)) →
 ((12 : Int) < (v4.n : Int) →
 R (.returned (.bool false)) V2) ∧ (¬ ((12 : Int) < (v4.n : Int)) →
 ((12 : Int) < (v5.n : Int) →
 R (.returned (.bool false)) V2) ∧ (¬ ((12 : Int) < (v5.n : Int)) →
 ((12 : Int) < (v6.n : Int) →
 R (.returned (.bool false)) V2) ∧ (¬ ((12 : Int) < (v6.n : Int)) →
 ((12 : Int) < (v7.n : Int) →
 R (.returned (.bool false)) V2) ∧ (¬ ((12 : Int) < (v7.n : Int)) →
 ∃ (I : Nat → List Value → Mem → Prop) (n0 : Nat), I n0 [.bool false, .int .i64 0] V2 ∧ ∀ n V3, ∀ v10 : Bool, ∀ v11 : Int, I n [.bool v10, .int .i64 v11] V3 → ∀ J0 : List Value → Mem → Prop, (∀ m ys V'', m < n → I m ys V'' → J0 ys V'') →
 (v11 < (v1.n : Int) →
 (¬ (v1.p = none)) ∧ ((0 : Int) ≤ v11) ∧ (v11 < (v1.n : Int)) ∧ (¬ ((ptrAdd v1.p ((v11).toNat * 2)) = none)) ∧ ∃ v12 : ByteArray, ∃ v13 : Sl, V3.rowp v1.p ((v11).toNat * 2) 2 = some [.string v12, .slice v13.p v13.n v13.c] ∧
 Tri Tryz.prog 52 #[.string v12] V3 fun e V4 => ∃ v14 : Bool, e = .returned (.bool v14) ∧
 (v14 = true →
 (¬ (v1.p = none)) ∧ ((0 : Int) ≤ v11) ∧ (v11 < (v1.n : Int)) ∧ (¬ ((ptrAdd v1.p ((v11).toNat * 2)) = none)) ∧ ∃ v15 : ByteArray, ∃ v16 : Sl, V4.rowp v1.p ((v11).toNat * 2) 2 = some [.string v15, .slice v16.p v16.n v16.c] ∧
 Tri Tryz.prog 53 #[.slice v16.p v16.n v16.c, .int .i64 12] V4 fun e V5 => ∃ v17 : Bool, e = .returned (.bool v17) ∧
 (v17 = true →
 (K.inR .i64 (v11 + (1 : Int))) ∧ J0 [.bool v10, .int .i64 (v11 + (1 : Int))] V5) ∧ (¬ (v17 = true) →
 R (.returned (.bool false)) V5)) ∧ (¬ (v14 = true) →
 R (.returned (.bool false)) V4)) ∧ (¬ (v11 < (v1.n : Int)) →
 ∃ (I : Nat → List Value → Mem → Prop) (n0 : Nat), I n0 [.bool v10, .int .i64 0] V3 ∧ ∀ n V4, ∀ v12 : Bool, ∀ v13 : Int, I n [.bool v12, .int .i64 v13] V4 → ∀ J1 : List Value → Mem → Prop, (∀ m ys V'', m < n → I m ys V'' → J1 ys V'') →
 (v13 < (v3.n : Int) →
 (¬ (v3.p = none)) ∧ ((0 : Int) ≤ v13) ∧ (v13 < (v3.n : Int)) ∧ ∃ v14 : ByteArray, ∃ v15 : Sl, ∃ v16 : ByteArray, ∃ v17 : Sl, ∃ v18 : Sl, V4.rowp v3.p ((v13).toNat * 5) 5 = some [.string v14, .slice v15.p v15.n v15.c, .string v16, .slice v17.p v17.n v17.c, .slice v18.p v18.n v18.c] ∧
 Tri Tryz.prog 54 #[.agg #[.string v14, .slice v15.p v15.n v15.c, .string v16, .slice v17.p v17.n v17.c, .slice v18.p v18.n v18.c]] V4 fun e V5 => ∃ v19 : Bool, e = .returned (.bool v19) ∧
 (v19 = true →
 (K.inR .i64 (v13 + (1 : Int))) ∧ J1 [.bool v12, .int .i64 (v13 + (1 : Int))] V5) ∧ (¬ (v19 = true) →
 R (.returned (.bool false)) V5)) ∧ (¬ (v13 < (v3.n : Int)) →
 Tri Tryz.prog 55 #[.agg #[.string v0, .slice v1.p v1.n v1.c, .slice v2.p v2.n v2.c, .slice v3.p v3.n v3.c, .slice v4.p v4.n v4.c, .slice v5.p v5.n v5.c, .slice v6.p v6.n v6.c, .slice v7.p v7.n v7.c]] V4 fun e V5 => ∃ v14 : Bool, e = .returned (.bool v14) ∧
 R (.returned (.bool v14)) V5)))))))) ∧ (¬ (v9 = true) →
 R (.returned (.bool false)) V2))) ∧ (¬ (v8 = true) →
 R (.returned (.bool false)) V1)
theorem x13 {v0 : ByteArray} {v1 : Sl} {v2 : Sl} {v3 : Sl} {v4 : Sl} {v5 : Sl} {v6 : Sl} {v7 : Sl} {V : Mem} {R : Ending → Mem → Prop} (h : w13 v0 v1 v2 v3 v4 v5 v6 v7 V R) : Tri Tryz.prog 13 #[.agg #[.string v0, .slice v1.p v1.n v1.c, .slice v2.p v2.n v2.c, .slice v3.p v3.n v3.c, .slice v4.p v4.n v4.c, .slice v5.p v5.n v5.c, .slice v6.p v6.n v6.c, .slice v7.p v7.n v7.c]] V R :=
 tri_dx (H := { N := 90, early := [], loops := [], keep := [0, 1, 2, 3, 4, 26, 48, 53, 73, 78, 87] }) Tryz.func13 [.agg (.cons (.var .s 0) (.cons (.var .sl 1) (.cons (.var .sl 2) (.cons (.var .sl 3) (.cons (.var .sl 4) (.cons (.var .sl 5) (.cons (.var .sl 6) (.cons (.var .sl 7) .nil))))))))] [.string v0, .slice v1.p v1.n v1.c, .slice v2.p v2.n v2.c, .slice v3.p v3.n v3.c, .slice v4.p v4.n v4.c, .slice v5.p v5.n v5.c, .slice v6.p v6.n v6.c, .slice v7.p v7.n v7.c] rfl (by kernel_rfl) h
def w14 (v0 : ByteArray) (v1 : Sl) (v2 : Sl) (v3 : Sl) (v4 : Sl) (v5 : Sl) (v6 : Sl) (v7 : Sl) (V : Mem) (R : Ending → Mem → Prop) : Prop :=
 Tri Tryz.prog 56 #[.agg #[.string v0, .slice v1.p v1.n v1.c, .slice v2.p v2.n v2.c, .slice v3.p v3.n v3.c, .slice v4.p v4.n v4.c, .slice v5.p v5.n v5.c, .slice v6.p v6.n v6.c, .slice v7.p v7.n v7.c]] V fun e V1 => ∃ v8 : ByteArray, ∃ v9 : Int, e = .returned (.tuple #[.string v8, .int .i64 v9]) ∧
 (v9 = (0 : Int) →
 Tri Tryz.prog 57 #[.agg #[.string v0, .slice v1.p v1.n v1.c, .slice v2.p v2.n v2.c, .slice v3.p v3.n v3.c, .slice v4.p v4.n v4.c, .slice v5.p v5.n v5.c, .slice v6.p v6.n v6.c, .slice v7.p v7.n v7.c]] V1 fun e V2 => ∃ v10 : ByteArray, ∃ v11 : Int, e = .returned (.tuple #[.string v10, .int .i64 v11]) ∧
 (v11 = (0 : Int) →
 Tri Tryz.prog 58 #[.agg #[.string v0, .slice v1.p v1.n v1.c, .slice v2.p v2.n v2.c, .slice v3.p v3.n v3.c, .slice v4.p v4.n v4.c, .slice v5.p v5.n v5.c, .slice v6.p v6.n v6.c, .slice v7.p v7.n v7.c]] V2 fun e V3 => ∃ v12 : ByteArray, ∃ v13 : Int, e = .returned (.tuple #[.string v12, .int .i64 v13]) ∧
 (v13 = (0 : Int) →
 ∃ (I : Nat → List Value → Mem → Prop) (n0 : Nat), I n0 [.string (strB []), .int .i64 0, .int .i64 0, .int .i64 0] V3 ∧ ∀ n V4, ∀ v14 : ByteArray, ∀ v15 : Int, ∀ v16 : Int, ∀ v17 : Int, I n [.string v14, .int .i64 v15, .int .i64 v16, .int .i64 v17] V4 → ∀ J0 : List Value → Mem → Prop, (∀ m ys V'', m < n → I m ys V'' → J0 ys V'') →
 (v17 < (v3.n : Int) →
 (¬ (v3.p = none)) ∧ ((0 : Int) ≤ v17) ∧ (v17 < (v3.n : Int)) ∧ ∃ v18 : ByteArray, ∃ v19 : Sl, ∃ v20 : ByteArray, ∃ v21 : Sl, ∃ v22 : Sl, V4.rowp v3.p ((v17).toNat * 5) 5 = some [.string v18, .slice v19.p v19.n v19.c, .string v20, .slice v21.p v21.n v21.c, .slice v22.p v22.n v22.c] ∧
 (¬ (v3.p = none)) ∧ ((0 : Int) ≤ v17) ∧ (v17 < (v3.n : Int)) ∧ (¬ ((ptrAdd v3.p ((v17).toNat * 5)) = none)) ∧ ∃ v23 : ByteArray, ∃ v24 : Sl, ∃ v25 : ByteArray, ∃ v26 : Sl, ∃ v27 : Sl, V4.rowp v3.p ((v17).toNat * 5) 5 = some [.string v23, .slice v24.p v24.n v24.c, .string v25, .slice v26.p v26.n v26.c, .slice v27.p v27.n v27.c] ∧
 Tri Tryz.prog 59 #[.agg #[.string v0, .slice v1.p v1.n v1.c, .slice v2.p v2.n v2.c, .slice v3.p v3.n v3.c, .slice v4.p v4.n v4.c, .slice v5.p v5.n v5.c, .slice v6.p v6.n v6.c, .slice v7.p v7.n v7.c], .agg #[.string v18, .slice v19.p v19.n v19.c, .string v20, .slice v21.p v21.n v21.c, .slice v22.p v22.n v22.c], .slice v27.p v27.n v27.c, .int .i64 0] V4 fun e V5 => ∃ v28 : Int, ∃ v29 : Int, e = .returned (.tuple #[.int .i64 v28, .int .i64 v29]) ∧
 (v29 = (0 : Int) →
 (K.inR .i64 (v17 + (1 : Int))) ∧ J0 [.string v14, .int .i64 v15, .int .i64 v16, .int .i64 (v17 + (1 : Int))] V5) ∧ (¬ (v29 = (0 : Int)) →
 (¬ (v3.p = none)) ∧ ((0 : Int) ≤ v17) ∧ (v17 < (v3.n : Int)) ∧ (¬ ((ptrAdd v3.p ((v17).toNat * 5)) = none)) ∧ ∃ v30 : ByteArray, ∃ v31 : Sl, ∃ v32 : ByteArray, ∃ v33 : Sl, ∃ v34 : Sl, V5.rowp v3.p ((v17).toNat * 5) 5 = some [.string v30, .slice v31.p v31.n v31.c, .string v32, .slice v33.p v33.n v33.c, .slice v34.p v34.n v34.c] ∧
 R (.returned (.tuple #[.string v30, .int .i64 v28, .int .i64 v29])) V5)) ∧ (¬ (v17 < (v3.n : Int)) →
 Tri Tryz.prog 60 #[.agg #[.string v0, .slice v1.p v1.n v1.c, .slice v2.p v2.n v2.c, .slice v3.p v3.n v3.c, .slice v4.p v4.n v4.c, .slice v5.p v5.n v5.c, .slice v6.p v6.n v6.c, .slice v7.p v7.n v7.c]] V4 fun e V5 => ∃ v18 : ByteArray, ∃ v19 : Int, e = .returned (.tuple #[.string v18, .int .i64 v19]) ∧
 (v19 = (0 : Int) →
 R (.returned (.tuple #[.string (strB []), .int .i64 0, .int .i64 0])) V5) ∧ (¬ (v19 = (0 : Int)) →
 R (.returned (.tuple #[.string v18, .int .i64 (-1), .int .i64 v19])) V5))) ∧ (¬ (v13 = (0 : Int)) →
 R (.returned (.tuple #[.string v12, .int .i64 (-1), .int .i64 v13])) V3)) ∧ (¬ (v11 = (0 : Int)) →
 R (.returned (.tuple #[.string v10, .int .i64 (-1), .int .i64 v11])) V2)) ∧ (¬ (v9 = (0 : Int)) →
 R (.returned (.tuple #[.string v8, .int .i64 (-1), .int .i64 v9])) V1)
theorem x14 {v0 : ByteArray} {v1 : Sl} {v2 : Sl} {v3 : Sl} {v4 : Sl} {v5 : Sl} {v6 : Sl} {v7 : Sl} {V : Mem} {R : Ending → Mem → Prop} (h : w14 v0 v1 v2 v3 v4 v5 v6 v7 V R) : Tri Tryz.prog 14 #[.agg #[.string v0, .slice v1.p v1.n v1.c, .slice v2.p v2.n v2.c, .slice v3.p v3.n v3.c, .slice v4.p v4.n v4.c, .slice v5.p v5.n v5.c, .slice v6.p v6.n v6.c, .slice v7.p v7.n v7.c]] V R :=
 tri_dx (H := { N := 85, early := [], loops := [], keep := [0, 1, 2, 3, 4, 5, 6, 7, 8, 9, 10, 11, 12, 13, 14, 15, 22, 31, 40, 47, 67, 82] }) Tryz.func14 [.agg (.cons (.var .s 0) (.cons (.var .sl 1) (.cons (.var .sl 2) (.cons (.var .sl 3) (.cons (.var .sl 4) (.cons (.var .sl 5) (.cons (.var .sl 6) (.cons (.var .sl 7) .nil))))))))] [.string v0, .slice v1.p v1.n v1.c, .slice v2.p v2.n v2.c, .slice v3.p v3.n v3.c, .slice v4.p v4.n v4.c, .slice v5.p v5.n v5.c, .slice v6.p v6.n v6.c, .slice v7.p v7.n v7.c] rfl (by kernel_rfl) h
end Go.Proofs
