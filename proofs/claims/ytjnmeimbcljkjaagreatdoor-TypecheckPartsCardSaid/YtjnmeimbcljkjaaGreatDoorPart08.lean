/- Part 8 of a proof of a law of this seat: no statement of the seat is proved here. -/
import Derived.Test.YtjnmeimbcljkjaaGreatDoorPart06
set_option linter.unusedVariables false
set_option linter.unusedSimpArgs false
namespace Go.Proofs
open Go Go.Sx
set_option maxRecDepth 100000
def w15 (v0 : Int) (v1 : Int) (v2 : ByteArray) (v3 : Sl) (v4 : Option Addr) (v5 : Int) (V : Mem) (R : Ending → Mem → Prop) : Prop :=
 (¬ (v4 = none)) ∧ ∃ v6 : Int, V.rowp v4 (((0 : Int)).toNat * 1) 1 = some [.int .i64 v6] ∧
 (K.inR .i64 (v6 - (1 : Int))) ∧ (¬ (v4 = none)) ∧ StT v4 0 [.int .i64 (v6 - (1 : Int))] V fun V1 =>
 (¬ (v4 = none)) ∧ ∃ v7 : Int, V1.rowp v4 (((0 : Int)).toNat * 1) 1 = some [.int .i64 v7] ∧
 (v7 < (0 : Int) →
 R (.returned (.bool false)) V1) ∧ (¬ (v7 < (0 : Int)) →
 ((65 : Int) < v5 →
 R (.returned (.bool false)) V1) ∧ (¬ ((65 : Int) < v5) →
 ((100 : Int) < ((v2).size : Int) →
 R (.returned (.bool false)) V1) ∧ (¬ ((100 : Int) < ((v2).size : Int)) →
 ((20 : Int) < (v3.n : Int) →
 R (.returned (.bool false)) V1) ∧ (¬ ((20 : Int) < (v3.n : Int)) →
 ∃ (I : Nat → List Value → Mem → Prop) (n0 : Nat), I n0 [.bool false, .int .i64 0] V1 ∧ ∀ n V2, ∀ v8 : Bool, ∀ v9 : Int, I n [.bool v8, .int .i64 v9] V2 → ∀ J0 : List Value → Mem → Prop, (∀ m ys V'', m < n → I m ys V'' → J0 ys V'') →
 (v9 < (v3.n : Int) →
 (¬ (v3.p = none)) ∧ ((0 : Int) ≤ v9) ∧ (v9 < (v3.n : Int)) ∧ ∃ v10 : Int, ∃ v11 : Int, ∃ v12 : ByteArray, ∃ v13 : Sl, V2.rowp v3.p ((v9).toNat * 4) 4 = some [.int .i64 v10, .int .i64 v11, .string v12, .slice v13.p v13.n v13.c] ∧
 (K.inR .i64 (v5 + (1 : Int))) ∧ Tri Tryz.prog 15 #[.agg #[.int .i64 v10, .int .i64 v11, .string v12, .slice v13.p v13.n v13.c], .pointer v4, .int .i64 (v5 + (1 : Int))] V2 fun e V3 => ∃ v14 : Bool, e = .returned (.bool v14) ∧
 (v14 = true →
 (K.inR .i64 (v9 + (1 : Int))) ∧ J0 [.bool v8, .int .i64 (v9 + (1 : Int))] V3) ∧ (¬ (v14 = true) →
 R (.returned (.bool false)) V3)) ∧ (¬ (v9 < (v3.n : Int)) →
 R (.returned (.bool true)) V2)))))
theorem x15 {v0 : Int} {v1 : Int} {v2 : ByteArray} {v3 : Sl} {v4 : Option Addr} {v5 : Int} {V : Mem} {R : Ending → Mem → Prop} (h : w15 v0 v1 v2 v3 v4 v5 V R) : Tri Tryz.prog 15 #[.agg #[.int .i64 v0, .int .i64 v1, .string v2, .slice v3.p v3.n v3.c], .pointer v4, .int .i64 v5] V R :=
 tri_dx (H := { N := 48, early := [], loops := [], keep := [0, 1, 2, 3, 6, 8, 33, 35, 36, 37, 38, 46] }) Tryz.func15 [.agg (.cons (.var (.i .i64) 0) (.cons (.var (.i .i64) 1) (.cons (.var .s 2) (.cons (.var .sl 3) .nil)))), .var .p 4, .var (.i .i64) 5] [.int .i64 v0, .int .i64 v1, .string v2, .slice v3.p v3.n v3.c, .pointer v4, .int .i64 v5] rfl (by kernel_rfl) h
def w16 (v0 : ByteArray) (v1 : Sl) (v2 : Sl) (v3 : Sl) (v4 : Sl) (v5 : Sl) (v6 : Sl) (v7 : Sl) (v8 : ByteArray) (v9 : Int) (v10 : Int) (v11 : ByteArray) (v12 : Sl) (V : Mem) (R : Ending → Mem → Prop) : Prop :=
 Tri Tryz.prog 62 #[.agg #[.int .i64 v9, .int .i64 v10, .string v11, .slice v12.p v12.n v12.c]] V fun e V1 => ∃ v13 : Bool, e = .returned (.bool v13) ∧
 Tri Tryz.prog 61 #[.agg #[.string v0, .slice v1.p v1.n v1.c, .slice v2.p v2.n v2.c, .slice v3.p v3.n v3.c, .slice v4.p v4.n v4.c, .slice v5.p v5.n v5.c, .slice v6.p v6.n v6.c, .slice v7.p v7.n v7.c], .bool v13] V1 fun e V2 => ∃ v14 : Option Addr, ∃ v15 : Int, e = .returned (.tuple #[.pointer v14, .int .i64 v15]) ∧
 (v15 = (0 : Int) →
 (¬ (v14 = none)) ∧ (¬ (v14 = none)) ∧ ∃ v16 : Option Nat, V2.rowp v14 (((9 : Int)).toNat * 1) 1 = some [.map v16] ∧
 LookK Tryz.prog 114 (.map v16) (.string v8) true V2 fun x => ∃ v17 : ByteArray, ∃ v18 : Sl, ∃ v19 : ByteArray, ∃ v20 : Sl, ∃ v21 : Sl, ∃ v22 : Bool, x = (.tuple #[.agg #[.string v17, .slice v18.p v18.n v18.c, .string v19, .slice v20.p v20.n v20.c, .slice v21.p v21.n v21.c], .bool v22]) ∧
 (v22 = true →
 Tri Tryz.prog 63 #[.pointer v14, .agg #[.string v17, .slice v18.p v18.n v18.c, .string v19, .slice v20.p v20.n v20.c, .slice v21.p v21.n v21.c]] V2 fun e V3 => ∃ v23 : Option Addr, ∃ v24 : Option Nat, ∃ v25 : Bool, e = .returned (.agg #[.pointer v23, .map v24, .bool v25]) ∧
 Tri Tryz.prog 64 #[.agg #[.pointer v23, .map v24, .bool v25], .agg #[.int .i64 v9, .int .i64 v10, .string v11, .slice v12.p v12.n v12.c]] V3 fun e V4 => ∃ v26 : ByteArray, ∃ v27 : Int, e = .returned (.tuple #[.string v26, .int .i64 v27]) ∧
 R (.returned (.tuple #[.string v26, .int .i64 v27])) V4) ∧ (¬ (v22 = true) →
 R (.returned (.tuple #[.string (strB []), .int .i64 12])) V2)) ∧ (¬ (v15 = (0 : Int)) →
 R (.returned (.tuple #[.string (strB []), .int .i64 v15])) V2)
theorem x16 {v0 : ByteArray} {v1 : Sl} {v2 : Sl} {v3 : Sl} {v4 : Sl} {v5 : Sl} {v6 : Sl} {v7 : Sl} {v8 : ByteArray} {v9 : Int} {v10 : Int} {v11 : ByteArray} {v12 : Sl} {V : Mem} {R : Ending → Mem → Prop} (h : w16 v0 v1 v2 v3 v4 v5 v6 v7 v8 v9 v10 v11 v12 V R) : Tri Tryz.prog 16 #[.agg #[.string v0, .slice v1.p v1.n v1.c, .slice v2.p v2.n v2.c, .slice v3.p v3.n v3.c, .slice v4.p v4.n v4.c, .slice v5.p v5.n v5.c, .slice v6.p v6.n v6.c, .slice v7.p v7.n v7.c], .string v8, .agg #[.int .i64 v9, .int .i64 v10, .string v11, .slice v12.p v12.n v12.c]] V R :=
 tri_dx (H := { N := 40, early := [], loops := [], keep := [0, 1, 2, 3, 5, 6, 7, 8, 9, 10, 11, 20, 32] }) Tryz.func16 [.agg (.cons (.var .s 0) (.cons (.var .sl 1) (.cons (.var .sl 2) (.cons (.var .sl 3) (.cons (.var .sl 4) (.cons (.var .sl 5) (.cons (.var .sl 6) (.cons (.var .sl 7) .nil)))))))), .var .s 8, .agg (.cons (.var (.i .i64) 9) (.cons (.var (.i .i64) 10) (.cons (.var .s 11) (.cons (.var .sl 12) .nil))))] [.string v0, .slice v1.p v1.n v1.c, .slice v2.p v2.n v2.c, .slice v3.p v3.n v3.c, .slice v4.p v4.n v4.c, .slice v5.p v5.n v5.c, .slice v6.p v6.n v6.c, .slice v7.p v7.n v7.c, .string v8, .int .i64 v9, .int .i64 v10, .string v11, .slice v12.p v12.n v12.c] rfl (by kernel_rfl) h
def w17 (v0 : Int) (v1 : Int) (v2 : ByteArray) (v3 : Sl) (V : Mem) (R : Ending → Mem → Prop) : Prop :=
 Tri Tryz.prog 65 #[.agg #[.int .i64 v0, .int .i64 v1, .string v2, .slice v3.p v3.n v3.c], .int .i64 1] V fun e V1 => ∃ v4 : Int, e = .returned (.int .i64 v4) ∧
 R (.returned (.bool (decide (v4 ≤ (1000 : Int))))) V1
theorem x17 {v0 : Int} {v1 : Int} {v2 : ByteArray} {v3 : Sl} {V : Mem} {R : Ending → Mem → Prop} (h : w17 v0 v1 v2 v3 V R) : Tri Tryz.prog 17 #[.agg #[.int .i64 v0, .int .i64 v1, .string v2, .slice v3.p v3.n v3.c]] V R :=
 tri_dx (H := { N := 6, early := [], loops := [], keep := [0, 1, 2] }) Tryz.func17 [.agg (.cons (.var (.i .i64) 0) (.cons (.var (.i .i64) 1) (.cons (.var .s 2) (.cons (.var .sl 3) .nil))))] [.int .i64 v0, .int .i64 v1, .string v2, .slice v3.p v3.n v3.c] rfl (by kernel_rfl) h
def w18 (v0 : ByteArray) (v1 : Sl) (v2 : Sl) (v3 : Sl) (v4 : Sl) (v5 : Sl) (v6 : Sl) (v7 : Sl) (V : Mem) (R : Ending → Mem → Prop) : Prop :=
 Tri Tryz.prog 13 #[.agg #[.string v0, .slice v1.p v1.n v1.c, .slice v2.p v2.n v2.c, .slice v3.p v3.n v3.c, .slice v4.p v4.n v4.c, .slice v5.p v5.n v5.c, .slice v6.p v6.n v6.c, .slice v7.p v7.n v7.c]] V fun e V1 => ∃ v8 : Bool, e = .returned (.bool v8) ∧
 (v8 = true →
 Tri Tryz.prog 14 #[.agg #[.string v0, .slice v1.p v1.n v1.c, .slice v2.p v2.n v2.c, .slice v3.p v3.n v3.c, .slice v4.p v4.n v4.c, .slice v5.p v5.n v5.c, .slice v6.p v6.n v6.c, .slice v7.p v7.n v7.c]] V1 fun e V2 => ∃ v9 : ByteArray, ∃ v10 : Int, ∃ v11 : Int, e = .returned (.tuple #[.string v9, .int .i64 v10, .int .i64 v11]) ∧
 R (.returned (.bool (decide (v11 = (0 : Int))))) V2) ∧ (¬ (v8 = true) →
 R (.returned (.bool false)) V1)
theorem x18 {v0 : ByteArray} {v1 : Sl} {v2 : Sl} {v3 : Sl} {v4 : Sl} {v5 : Sl} {v6 : Sl} {v7 : Sl} {V : Mem} {R : Ending → Mem → Prop} (h : w18 v0 v1 v2 v3 v4 v5 v6 v7 V R) : Tri Tryz.prog 18 #[.agg #[.string v0, .slice v1.p v1.n v1.c, .slice v2.p v2.n v2.c, .slice v3.p v3.n v3.c, .slice v4.p v4.n v4.c, .slice v5.p v5.n v5.c, .slice v6.p v6.n v6.c, .slice v7.p v7.n v7.c]] V R :=
 tri_dx (H := { N := 17, early := [], loops := [], keep := [0, 1, 2, 5, 8] }) Tryz.func18 [.agg (.cons (.var .s 0) (.cons (.var .sl 1) (.cons (.var .sl 2) (.cons (.var .sl 3) (.cons (.var .sl 4) (.cons (.var .sl 5) (.cons (.var .sl 6) (.cons (.var .sl 7) .nil))))))))] [.string v0, .slice v1.p v1.n v1.c, .slice v2.p v2.n v2.c, .slice v3.p v3.n v3.c, .slice v4.p v4.n v4.c, .slice v5.p v5.n v5.c, .slice v6.p v6.n v6.c, .slice v7.p v7.n v7.c] rfl (by kernel_rfl) h
def w19 (v0 : ByteArray) (v1 : Sl) (v2 : Sl) (v3 : Sl) (v4 : Sl) (v5 : Sl) (v6 : Sl) (v7 : Sl) (v8 : ByteArray) (V : Mem) (R : Ending → Mem → Prop) : Prop :=
 ∃ (I : Nat → List Value → Mem → Prop) (n0 : Nat), I n0 [.int .i64 0, .int .i64 0] V ∧ ∀ n V1, ∀ v9 : Int, ∀ v10 : Int, I n [.int .i64 v9, .int .i64 v10] V1 → ∀ J0 : List Value → Mem → Prop, (∀ m ys V'', m < n → I m ys V'' → J0 ys V'') →
 (v10 < (v3.n : Int) →
 (¬ (v3.p = none)) ∧ ((0 : Int) ≤ v10) ∧ (v10 < (v3.n : Int)) ∧ (¬ ((ptrAdd v3.p ((v10).toNat * 5)) = none)) ∧ ∃ v11 : ByteArray, ∃ v12 : Sl, ∃ v13 : ByteArray, ∃ v14 : Sl, ∃ v15 : Sl, V1.rowp v3.p ((v10).toNat * 5) 5 = some [.string v11, .slice v12.p v12.n v12.c, .string v13, .slice v14.p v14.n v14.c, .slice v15.p v15.n v15.c] ∧
 (v11 = v8 →
 R (.returned (.int .i64 v10)) V1) ∧ (¬ (v11 = v8) →
 (K.inR .i64 (v10 + (1 : Int))) ∧ J0 [.int .i64 v9, .int .i64 (v10 + (1 : Int))] V1)) ∧ (¬ (v10 < (v3.n : Int)) →
 R (.returned (.int .i64 (-1))) V1)
theorem x19 {v0 : ByteArray} {v1 : Sl} {v2 : Sl} {v3 : Sl} {v4 : Sl} {v5 : Sl} {v6 : Sl} {v7 : Sl} {v8 : ByteArray} {V : Mem} {R : Ending → Mem → Prop} (h : w19 v0 v1 v2 v3 v4 v5 v6 v7 v8 V R) : Tri Tryz.prog 19 #[.agg #[.string v0, .slice v1.p v1.n v1.c, .slice v2.p v2.n v2.c, .slice v3.p v3.n v3.c, .slice v4.p v4.n v4.c, .slice v5.p v5.n v5.c, .slice v6.p v6.n v6.c, .slice v7.p v7.n v7.c], .string v8] V R :=
 tri_dx (H := { N := 22, early := [], loops := [], keep := [0, 1, 2, 4, 5, 10, 20] }) Tryz.func19 [.agg (.cons (.var .s 0) (.cons (.var .sl 1) (.cons (.var .sl 2) (.cons (.var .sl 3) (.cons (.var .sl 4) (.cons (.var .sl 5) (.cons (.var .sl 6) (.cons (.var .sl 7) .nil)))))))), .var .s 8] [.string v0, .slice v1.p v1.n v1.c, .slice v2.p v2.n v2.c, .slice v3.p v3.n v3.c, .slice v4.p v4.n v4.c, .slice v5.p v5.n v5.c, .slice v6.p v6.n v6.c, .slice v7.p v7.n v7.c, .string v8] rfl (by kernel_rfl) h
def w20 (v0 : ByteArray) (v1 : Sl) (v2 : Sl) (v3 : Sl) (v4 : Sl) (v5 : Sl) (v6 : Sl) (v7 : Sl) (v8 : Sl) (v9 : Bool) (v10 : Int) (v11 : Int) (v12 : ByteArray) (v13 : Sl) (V : Mem) (R : Ending → Mem → Prop) : Prop :=
 Tri Tryz.prog 66 #[.agg #[.string v0, .slice v1.p v1.n v1.c, .slice v2.p v2.n v2.c, .slice v3.p v3.n v3.c, .slice v4.p v4.n v4.c, .slice v5.p v5.n v5.c, .slice v6.p v6.n v6.c, .slice v7.p v7.n v7.c], .agg #[.slice v8.p v8.n v8.c, .bool v9], .agg #[.int .i64 v10, .int .i64 v11, .string v12, .slice v13.p v13.n v13.c]] V fun e V1 => ∃ v14 : Sl, ∃ v15 : Int, e = .returned (.tuple #[.slice v14.p v14.n v14.c, .int .i64 v15]) ∧
 (v15 = (0 : Int) →
 (v10 = (1 : Int) →
 R (.returned (.tuple #[.string (strB [105, 110, 116]), .int .i64 0])) V1) ∧ (¬ (v10 = (1 : Int)) →
 (v10 = (2 : Int) →
 R (.returned (.tuple #[.string (strB [98, 111, 111, 108]), .int .i64 0])) V1) ∧ (¬ (v10 = (2 : Int)) →
 (v10 = (3 : Int) →
 R (.returned (.tuple #[.string (strB [110, 105, 108]), .int .i64 0])) V1) ∧ (¬ (v10 = (3 : Int)) →
 (v10 = (4 : Int) →
 Tri Tryz.prog 67 #[.slice v8.p v8.n v8.c, .string v12] V1 fun e V2 => ∃ v16 : ByteArray, e = .returned (.string v16) ∧
 (v16 = (strB []) →
 R (.returned (.tuple #[.string (strB []), .int .i64 9])) V2) ∧ (¬ (v16 = (strB [])) →
 R (.returned (.tuple #[.string v16, .int .i64 0])) V2)) ∧ (¬ (v10 = (4 : Int)) →
 (v10 = (5 : Int) →
 (¬ (v14.p = none)) ∧ ((0 : Int) ≤ (0 : Int)) ∧ ((0 : Int) < (v14.n : Int)) ∧ ∃ v16 : ByteArray, V1.rowp v14.p (((0 : Int)).toNat * 1) 1 = some [.string v16] ∧
 Tri Tryz.prog 68 #[.agg #[.string v0, .slice v1.p v1.n v1.c, .slice v2.p v2.n v2.c, .slice v3.p v3.n v3.c, .slice v4.p v4.n v4.c, .slice v5.p v5.n v5.c, .slice v6.p v6.n v6.c, .slice v7.p v7.n v7.c], .string v16, .string v12] V1 fun e V2 => ∃ v17 : ByteArray, ∃ v18 : Int, e = .returned (.tuple #[.string v17, .int .i64 v18]) ∧
 R (.returned (.tuple #[.string v17, .int .i64 v18])) V2) ∧ (¬ (v10 = (5 : Int)) →
 (v10 = (6 : Int) →
 (v9 = true →
 Tri Tryz.prog 36 #[.agg #[.string v0, .slice v1.p v1.n v1.c, .slice v2.p v2.n v2.c, .slice v3.p v3.n v3.c, .slice v4.p v4.n v4.c, .slice v5.p v5.n v5.c, .slice v6.p v6.n v6.c, .slice v7.p v7.n v7.c], .string v12] V1 fun e V2 => ∃ v16 : Bool, e = .returned (.bool v16) ∧
 (v16 = true →
 R (.returned (.tuple #[.string v12, .int .i64 0])) V2) ∧ (¬ (v16 = true) →
 R (.returned (.tuple #[.string (strB []), .int .i64 9])) V2)) ∧ (¬ (v9 = true) →
 R (.returned (.tuple #[.string (strB []), .int .i64 13])) V1)) ∧ (¬ (v10 = (6 : Int)) →
 (v10 = (7 : Int) →
 Tri Tryz.prog 69 #[.agg #[.string v0, .slice v1.p v1.n v1.c, .slice v2.p v2.n v2.c, .slice v3.p v3.n v3.c, .slice v4.p v4.n v4.c, .slice v5.p v5.n v5.c, .slice v6.p v6.n v6.c, .slice v7.p v7.n v7.c], .agg #[.slice v8.p v8.n v8.c, .bool v9], .string v12, .slice v14.p v14.n v14.c] V1 fun e V2 => ∃ v16 : ByteArray, ∃ v17 : Int, e = .returned (.tuple #[.string v16, .int .i64 v17]) ∧
 R (.returned (.tuple #[.string v16, .int .i64 v17])) V2) ∧ (¬ (v10 = (7 : Int)) →
 (v10 = (14 : Int) →
 (¬ (v14.p = none)) ∧ ((0 : Int) ≤ (0 : Int)) ∧ ((0 : Int) < (v14.n : Int)) ∧ ∃ v16 : ByteArray, V1.rowp v14.p (((0 : Int)).toNat * 1) 1 = some [.string v16] ∧
 (¬ (v14.p = none)) ∧ ((0 : Int) ≤ (1 : Int)) ∧ ((1 : Int) < (v14.n : Int)) ∧ ∃ v17 : ByteArray, V1.rowp v14.p (((1 : Int)).toNat * 1) 1 = some [.string v17] ∧
 Tri Tryz.prog 71 #[.agg #[.string v0, .slice v1.p v1.n v1.c, .slice v2.p v2.n v2.c, .slice v3.p v3.n v3.c, .slice v4.p v4.n v4.c, .slice v5.p v5.n v5.c, .slice v6.p v6.n v6.c, .slice v7.p v7.n v7.c], .string v16, .string v17] V1 fun e V2 => ∃ v18 : Bool, e = .returned (.bool v18) ∧
 (v18 = true →
 Tri Tryz.prog 70 #[.bool true, .string (strB [98, 111, 111, 108])] V2 fun e V3 => ∃ v19 : ByteArray, ∃ v20 : Int, e = .returned (.tuple #[.string v19, .int .i64 v20]) ∧
 R (.returned (.tuple #[.string v19, .int .i64 v20])) V3) ∧ (¬ (v18 = true) →
 (¬ (v14.p = none)) ∧ ((0 : Int) ≤ (1 : Int)) ∧ ((1 : Int) < (v14.n : Int)) ∧ ∃ v19 : ByteArray, V2.rowp v14.p (((1 : Int)).toNat * 1) 1 = some [.string v19] ∧
 (¬ (v14.p = none)) ∧ ((0 : Int) ≤ (0 : Int)) ∧ ((0 : Int) < (v14.n : Int)) ∧ ∃ v20 : ByteArray, V2.rowp v14.p (((0 : Int)).toNat * 1) 1 = some [.string v20] ∧
 Tri Tryz.prog 71 #[.agg #[.string v0, .slice v1.p v1.n v1.c, .slice v2.p v2.n v2.c, .slice v3.p v3.n v3.c, .slice v4.p v4.n v4.c, .slice v5.p v5.n v5.c, .slice v6.p v6.n v6.c, .slice v7.p v7.n v7.c], .string v19, .string v20] V2 fun e V3 => ∃ v21 : Bool, e = .returned (.bool v21) ∧
 Tri Tryz.prog 70 #[.bool v21, .string (strB [98, 111, 111, 108])] V3 fun e V4 => ∃ v22 : ByteArray, ∃ v23 : Int, e = .returned (.tuple #[.string v22, .int .i64 v23]) ∧
 R (.returned (.tuple #[.string v22, .int .i64 v23])) V4)) ∧ (¬ (v10 = (14 : Int)) →
 (v10 = (15 : Int) →
 (¬ (v14.p = none)) ∧ ((0 : Int) ≤ (0 : Int)) ∧ ((0 : Int) < (v14.n : Int)) ∧ ∃ v16 : ByteArray, V1.rowp v14.p (((0 : Int)).toNat * 1) 1 = some [.string v16] ∧
 (¬ (v14.p = none)) ∧ ((0 : Int) ≤ (1 : Int)) ∧ ((1 : Int) < (v14.n : Int)) ∧ ∃ v17 : ByteArray, V1.rowp v14.p (((1 : Int)).toNat * 1) 1 = some [.string v17] ∧
 Tri Tryz.prog 71 #[.agg #[.string v0, .slice v1.p v1.n v1.c, .slice v2.p v2.n v2.c, .slice v3.p v3.n v3.c, .slice v4.p v4.n v4.c, .slice v5.p v5.n v5.c, .slice v6.p v6.n v6.c, .slice v7.p v7.n v7.c], .string v16, .string v17] V1 fun e V2 => ∃ v18 : Bool, e = .returned (.bool v18) ∧
 (v18 = true →
 Tri Tryz.prog 70 #[.bool true, .string (strB [98, 111, 111, 108])] V2 fun e V3 => ∃ v19 : ByteArray, ∃ v20 : Int, e = .returned (.tuple #[.string v19, .int .i64 v20]) ∧
 R (.returned (.tuple #[.string v19, .int .i64 v20])) V3) ∧ (¬ (v18 = true) →
 (¬ (v14.p = none)) ∧ ((0 : Int) ≤ (1 : Int)) ∧ ((1 : Int) < (v14.n : Int)) ∧ ∃ v19 : ByteArray, V2.rowp v14.p (((1 : Int)).toNat * 1) 1 = some [.string v19] ∧
 (¬ (v14.p = none)) ∧ ((0 : Int) ≤ (0 : Int)) ∧ ((0 : Int) < (v14.n : Int)) ∧ ∃ v20 : ByteArray, V2.rowp v14.p (((0 : Int)).toNat * 1) 1 = some [.string v20] ∧
 Tri Tryz.prog 71 #[.agg #[.string v0, .slice v1.p v1.n v1.c, .slice v2.p v2.n v2.c, .slice v3.p v3.n v3.c, .slice v4.p v4.n v4.c, .slice v5.p v5.n v5.c, .slice v6.p v6.n v6.c, .slice v7.p v7.n v7.c], .string v19, .string v20] V2 fun e V3 => ∃ v21 : Bool, e = .returned (.bool v21) ∧
 Tri Tryz.prog 70 #[.bool v21, .string (strB [98, 111, 111, 108])] V3 fun e V4 => ∃ v22 : ByteArray, ∃ v23 : Int, e = .returned (.tuple #[.string v22, .int .i64 v23]) ∧
 R (.returned (.tuple #[.string v22, .int .i64 v23])) V4)) ∧ (¬ (v10 = (15 : Int)) →
 (v10 = (16 : Int) →
 Tri Tryz.prog 72 #[.slice v14.p v14.n v14.c, .string (strB [105, 110, 116])] V1 fun e V2 => ∃ v16 : Bool, e = .returned (.bool v16) ∧
 Tri Tryz.prog 70 #[.bool v16, .string (strB [98, 111, 111, 108])] V2 fun e V3 => ∃ v17 : ByteArray, ∃ v18 : Int, e = .returned (.tuple #[.string v17, .int .i64 v18]) ∧
 R (.returned (.tuple #[.string v17, .int .i64 v18])) V3) ∧ (¬ (v10 = (16 : Int)) →
 (v10 = (17 : Int) →
 Tri Tryz.prog 72 #[.slice v14.p v14.n v14.c, .string (strB [105, 110, 116])] V1 fun e V2 => ∃ v16 : Bool, e = .returned (.bool v16) ∧
 Tri Tryz.prog 70 #[.bool v16, .string (strB [98, 111, 111, 108])] V2 fun e V3 => ∃ v17 : ByteArray, ∃ v18 : Int, e = .returned (.tuple #[.string v17, .int .i64 v18]) ∧
 R (.returned (.tuple #[.string v17, .int .i64 v18])) V3) ∧ (¬ (v10 = (17 : Int)) →
 (v10 = (18 : Int) →
 Tri Tryz.prog 72 #[.slice v14.p v14.n v14.c, .string (strB [98, 111, 111, 108])] V1 fun e V2 => ∃ v16 : Bool, e = .returned (.bool v16) ∧
 Tri Tryz.prog 70 #[.bool v16, .string (strB [98, 111, 111, 108])] V2 fun e V3 => ∃ v17 : ByteArray, ∃ v18 : Int, e = .returned (.tuple #[.string v17, .int .i64 v18]) ∧
 R (.returned (.tuple #[.string v17, .int .i64 v18])) V3) ∧ (¬ (v10 = (18 : Int)) →
 (v10 = (19 : Int) →
 Tri Tryz.prog 72 #[.slice v14.p v14.n v14.c, .string (strB [98, 111, 111, 108])] V1 fun e V2 => ∃ v16 : Bool, e = .returned (.bool v16) ∧
 Tri Tryz.prog 70 #[.bool v16, .string (strB [98, 111, 111, 108])] V2 fun e V3 => ∃ v17 : ByteArray, ∃ v18 : Int, e = .returned (.tuple #[.string v17, .int .i64 v18]) ∧
 R (.returned (.tuple #[.string v17, .int .i64 v18])) V3) ∧ (¬ (v10 = (19 : Int)) →
 (v10 = (20 : Int) →
 Tri Tryz.prog 72 #[.slice v14.p v14.n v14.c, .string (strB [98, 111, 111, 108])] V1 fun e V2 => ∃ v16 : Bool, e = .returned (.bool v16) ∧
 Tri Tryz.prog 70 #[.bool v16, .string (strB [98, 111, 111, 108])] V2 fun e V3 => ∃ v17 : ByteArray, ∃ v18 : Int, e = .returned (.tuple #[.string v17, .int .i64 v18]) ∧
 R (.returned (.tuple #[.string v17, .int .i64 v18])) V3) ∧ (¬ (v10 = (20 : Int)) →
 (v10 = (21 : Int) →
 (¬ (v14.p = none)) ∧ ((0 : Int) ≤ (1 : Int)) ∧ ((1 : Int) < (v14.n : Int)) ∧ ∃ v16 : ByteArray, V1.rowp v14.p (((1 : Int)).toNat * 1) 1 = some [.string v16] ∧
 (v16 = (strB [110, 105, 108]) →
 (¬ (v14.p = none)) ∧ ((0 : Int) ≤ (2 : Int)) ∧ ((2 : Int) < (v14.n : Int)) ∧ ∃ v17 : ByteArray, V1.rowp v14.p (((2 : Int)).toNat * 1) 1 = some [.string v17] ∧
 (¬ (v14.p = none)) ∧ ((0 : Int) ≤ (0 : Int)) ∧ ((0 : Int) < (v14.n : Int)) ∧ ∃ v18 : ByteArray, V1.rowp v14.p (((0 : Int)).toNat * 1) 1 = some [.string v18] ∧
 (v18 = (strB [98, 111, 111, 108]) →
 (¬ (v14.p = none)) ∧ ((0 : Int) ≤ (1 : Int)) ∧ ((1 : Int) < (v14.n : Int)) ∧ ∃ v19 : ByteArray, V1.rowp v14.p (((1 : Int)).toNat * 1) 1 = some [.string v19] ∧
 (¬ (v14.p = none)) ∧ ((0 : Int) ≤ (2 : Int)) ∧ ((2 : Int) < (v14.n : Int)) ∧ ∃ v20 : ByteArray, V1.rowp v14.p (((2 : Int)).toNat * 1) 1 = some [.string v20] ∧
 Tri Tryz.prog 71 #[.agg #[.string v0, .slice v1.p v1.n v1.c, .slice v2.p v2.n v2.c, .slice v3.p v3.n v3.c, .slice v4.p v4.n v4.c, .slice v5.p v5.n v5.c, .slice v6.p v6.n v6.c, .slice v7.p v7.n v7.c], .string v19, .string v20] V1 fun e V2 => ∃ v21 : Bool, e = .returned (.bool v21) ∧
 (v21 = true →
 Tri Tryz.prog 70 #[.bool true, .string v17] V2 fun e V3 => ∃ v22 : ByteArray, ∃ v23 : Int, e = .returned (.tuple #[.string v22, .int .i64 v23]) ∧
 R (.returned (.tuple #[.string v22, .int .i64 v23])) V3) ∧ (¬ (v21 = true) →
 (¬ (v14.p = none)) ∧ ((0 : Int) ≤ (2 : Int)) ∧ ((2 : Int) < (v14.n : Int)) ∧ ∃ v22 : ByteArray, V2.rowp v14.p (((2 : Int)).toNat * 1) 1 = some [.string v22] ∧
 (¬ (v14.p = none)) ∧ ((0 : Int) ≤ (1 : Int)) ∧ ((1 : Int) < (v14.n : Int)) ∧ ∃ v23 : ByteArray, V2.rowp v14.p (((1 : Int)).toNat * 1) 1 = some [.string v23] ∧
 Tri Tryz.prog 71 #[.agg #[.string v0, .slice v1.p v1.n v1.c, .slice v2.p v2.n v2.c, .slice v3.p v3.n v3.c, .slice v4.p v4.n v4.c, .slice v5.p v5.n v5.c, .slice v6.p v6.n v6.c, .slice v7.p v7.n v7.c], .string v22, .string v23] V2 fun e V3 => ∃ v24 : Bool, e = .returned (.bool v24) ∧
 Tri Tryz.prog 70 #[.bool v24, .string v17] V3 fun e V4 => ∃ v25 : ByteArray, ∃ v26 : Int, e = .returned (.tuple #[.string v25, .int .i64 v26]) ∧
 R (.returned (.tuple #[.string v25, .int .i64 v26])) V4)) ∧ (¬ (v18 = (strB [98, 111, 111, 108])) →
 Tri Tryz.prog 70 #[.bool false, .string v17] V1 fun e V2 => ∃ v19 : ByteArray, ∃ v20 : Int, e = .returned (.tuple #[.string v19, .int .i64 v20]) ∧
 R (.returned (.tuple #[.string v19, .int .i64 v20])) V2)) ∧ (¬ (v16 = (strB [110, 105, 108])) →
 (¬ (v14.p = none)) ∧ ((0 : Int) ≤ (0 : Int)) ∧ ((0 : Int) < (v14.n : Int)) ∧ ∃ v17 : ByteArray, V1.rowp v14.p (((0 : Int)).toNat * 1) 1 = some [.string v17] ∧
 (v17 = (strB [98, 111, 111, 108]) →
 (¬ (v14.p = none)) ∧ ((0 : Int) ≤ (1 : Int)) ∧ ((1 : Int) < (v14.n : Int)) ∧ ∃ v18 : ByteArray, V1.rowp v14.p (((1 : Int)).toNat * 1) 1 = some [.string v18] ∧
 (¬ (v14.p = none)) ∧ ((0 : Int) ≤ (2 : Int)) ∧ ((2 : Int) < (v14.n : Int)) ∧ ∃ v19 : ByteArray, V1.rowp v14.p (((2 : Int)).toNat * 1) 1 = some [.string v19] ∧
 Tri Tryz.prog 71 #[.agg #[.string v0, .slice v1.p v1.n v1.c, .slice v2.p v2.n v2.c, .slice v3.p v3.n v3.c, .slice v4.p v4.n v4.c, .slice v5.p v5.n v5.c, .slice v6.p v6.n v6.c, .slice v7.p v7.n v7.c], .string v18, .string v19] V1 fun e V2 => ∃ v20 : Bool, e = .returned (.bool v20) ∧
 (v20 = true →
 Tri Tryz.prog 70 #[.bool true, .string v16] V2 fun e V3 => ∃ v21 : ByteArray, ∃ v22 : Int, e = .returned (.tuple #[.string v21, .int .i64 v22]) ∧
 R (.returned (.tuple #[.string v21, .int .i64 v22])) V3) ∧ (¬ (v20 = true) →
 (¬ (v14.p = none)) ∧ ((0 : Int) ≤ (2 : Int)) ∧ ((2 : Int) < (v14.n : Int)) ∧ ∃ v21 : ByteArray, V2.rowp v14.p (((2 : Int)).toNat * 1) 1 = some [.string v21] ∧
 (¬ (v14.p = none)) ∧ ((0 : Int) ≤ (1 : Int)) ∧ ((1 : Int) < (v14.n : Int)) ∧ ∃ v22 : ByteArray, V2.rowp v14.p (((1 : Int)).toNat * 1) 1 = some [.string v22] ∧
 Tri Tryz.prog 71 #[.agg #[.string v0, .slice v1.p v1.n v1.c, .slice v2.p v2.n v2.c, .slice v3.p v3.n v3.c, .slice v4.p v4.n v4.c, .slice v5.p v5.n v5.c, .slice v6.p v6.n v6.c, .slice v7.p v7.n v7.c], .string v21, .string v22] V2 fun e V3 => ∃ v23 : Bool, e = .returned (.bool v23) ∧
 Tri Tryz.prog 70 #[.bool v23, .string v16] V3 fun e V4 => ∃ v24 : ByteArray, ∃ v25 : Int, e = .returned (.tuple #[.string v24, .int .i64 v25]) ∧
 R (.returned (.tuple #[.string v24, .int .i64 v25])) V4)) ∧ (¬ (v17 = (strB [98, 111, 111, 108])) →
 Tri Tryz.prog 70 #[.bool false, .string v16] V1 fun e V2 => ∃ v18 : ByteArray, ∃ v19 : Int, e = .returned (.tuple #[.string v18, .int .i64 v19]) ∧
 R (.returned (.tuple #[.string v18, .int .i64 v19])) V2))) ∧ (¬ (v10 = (21 : Int)) →
 Tri Tryz.prog 72 #[.slice v14.p v14.n v14.c, .string (strB [105, 110, 116])] V1 fun e V2 => ∃ v16 : Bool, e = .returned (.bool v16) ∧
 Tri Tryz.prog 70 #[.bool v16, .string (strB [105, 110, 116])] V2 fun e V3 => ∃ v17 : ByteArray, ∃ v18 : Int, e = .returned (.tuple #[.string v17, .int .i64 v18]) ∧
 R (.returned (.tuple #[.string v17, .int .i64 v18])) V3)))))))))))))))) ∧ (¬ (v15 = (0 : Int)) →
 R (.returned (.tuple #[.string (strB []), .int .i64 v15])) V1)
theorem x20 {v0 : ByteArray} {v1 : Sl} {v2 : Sl} {v3 : Sl} {v4 : Sl} {v5 : Sl} {v6 : Sl} {v7 : Sl} {v8 : Sl} {v9 : Bool} {v10 : Int} {v11 : Int} {v12 : ByteArray} {v13 : Sl} {V : Mem} {R : Ending → Mem → Prop} (h : w20 v0 v1 v2 v3 v4 v5 v6 v7 v8 v9 v10 v11 v12 v13 V R) : Tri Tryz.prog 20 #[.agg #[.string v0, .slice v1.p v1.n v1.c, .slice v2.p v2.n v2.c, .slice v3.p v3.n v3.c, .slice v4.p v4.n v4.c, .slice v5.p v5.n v5.c, .slice v6.p v6.n v6.c, .slice v7.p v7.n v7.c], .agg #[.slice v8.p v8.n v8.c, .bool v9], .agg #[.int .i64 v10, .int .i64 v11, .string v12, .slice v13.p v13.n v13.c]] V R :=
 tri_dx (H := { N := 157, early := [], loops := [], keep := [0, 1, 2, 3, 4, 5, 6, 7, 8, 9, 10, 11, 20, 23, 24, 26, 28, 30, 38, 40, 51, 55, 60, 63, 73, 97, 105, 114, 120] }) Tryz.func20 [.agg (.cons (.var .s 0) (.cons (.var .sl 1) (.cons (.var .sl 2) (.cons (.var .sl 3) (.cons (.var .sl 4) (.cons (.var .sl 5) (.cons (.var .sl 6) (.cons (.var .sl 7) .nil)))))))), .agg (.cons (.var .sl 8) (.cons (.var .b 9) .nil)), .agg (.cons (.var (.i .i64) 10) (.cons (.var (.i .i64) 11) (.cons (.var .s 12) (.cons (.var .sl 13) .nil))))] [.string v0, .slice v1.p v1.n v1.c, .slice v2.p v2.n v2.c, .slice v3.p v3.n v3.c, .slice v4.p v4.n v4.c, .slice v5.p v5.n v5.c, .slice v6.p v6.n v6.c, .slice v7.p v7.n v7.c, .slice v8.p v8.n v8.c, .bool v9, .int .i64 v10, .int .i64 v11, .string v12, .slice v13.p v13.n v13.c] rfl (by kernel_rfl) h
def w21 (v0 : ByteArray) (v1 : Sl) (v2 : Sl) (v3 : Sl) (v4 : Sl) (v5 : Sl) (v6 : Sl) (v7 : Sl) (v8 : ByteArray) (v9 : Sl) (v10 : ByteArray) (v11 : Sl) (v12 : Sl) (V : Mem) (R : Ending → Mem → Prop) : Prop :=
 PubT [] 67 V fun v13 V1 =>
 GenK Tryz.prog (.call { callee := (.builtin .append), args := #[.tmp 6, .tmp 8], argTypes := #[23, 23] }) 23 (gval [(6, (.c3 .slc (.u (.poff 0) (.var .p 13)) (.int .i64 0) (.int .i64 0))), (8, (.var .sl 9))] [.string v0, .slice v1.p v1.n v1.c, .slice v2.p v2.n v2.c, .slice v3.p v3.n v3.c, .slice v4.p v4.n v4.c, .slice v5.p v5.n v5.c, .slice v6.p v6.n v6.c, .slice v7.p v7.n v7.c, .string v8, .slice v9.p v9.n v9.c, .string v10, .slice v11.p v11.n v11.c, .slice v12.p v12.n v12.c, .pointer v13]) V1 fun x V2 => ∃ v14 : Sl, x = (.slice v14.p v14.n v14.c) ∧
 GenK Tryz.prog (.call { callee := (.builtin .append), args := #[.tmp 9, .tmp 11], argTypes := #[23, 23] }) 23 (gval [(9, (.var .sl 14)), (11, (.var .sl 11))] [.string v0, .slice v1.p v1.n v1.c, .slice v2.p v2.n v2.c, .slice v3.p v3.n v3.c, .slice v4.p v4.n v4.c, .slice v5.p v5.n v5.c, .slice v6.p v6.n v6.c, .slice v7.p v7.n v7.c, .string v8, .slice v9.p v9.n v9.c, .string v10, .slice v11.p v11.n v11.c, .slice v12.p v12.n v12.c, .pointer v13, .slice v14.p v14.n v14.c]) V2 fun x V3 => ∃ v15 : Sl, x = (.slice v15.p v15.n v15.c) ∧
 GenK Tryz.prog (.call { callee := (.builtin .append), args := #[.tmp 13, .tmp 15], argTypes := #[23, 23] }) 23 (gval [(13, (.var .sl 15)), (15, (.var .sl 2))] [.string v0, .slice v1.p v1.n v1.c, .slice v2.p v2.n v2.c, .slice v3.p v3.n v3.c, .slice v4.p v4.n v4.c, .slice v5.p v5.n v5.c, .slice v6.p v6.n v6.c, .slice v7.p v7.n v7.c, .string v8, .slice v9.p v9.n v9.c, .string v10, .slice v11.p v11.n v11.c, .slice v12.p v12.n v12.c, .pointer v13, .slice v14.p v14.n v14.c, .slice v15.p v15.n v15.c]) V3 fun x V4 => ∃ v16 : Sl, x = (.slice v16.p v16.n v16.c) ∧
 R (.returned (.agg #[.slice v16.p v16.n v16.c, .bool true])) V4
theorem x21 {v0 : ByteArray} {v1 : Sl} {v2 : Sl} {v3 : Sl} {v4 : Sl} {v5 : Sl} {v6 : Sl} {v7 : Sl} {v8 : ByteArray} {v9 : Sl} {v10 : ByteArray} {v11 : Sl} {v12 : Sl} {V : Mem} {R : Ending → Mem → Prop} (h : w21 v0 v1 v2 v3 v4 v5 v6 v7 v8 v9 v10 v11 v12 V R) : Tri Tryz.prog 21 #[.agg #[.string v0, .slice v1.p v1.n v1.c, .slice v2.p v2.n v2.c, .slice v3.p v3.n v3.c, .slice v4.p v4.n v4.c, .slice v5.p v5.n v5.c, .slice v6.p v6.n v6.c, .slice v7.p v7.n v7.c], .agg #[.string v8, .slice v9.p v9.n v9.c, .string v10, .slice v11.p v11.n v11.c, .slice v12.p v12.n v12.c]] V R :=
 tri_dx (H := { N := 18, early := [], loops := [], keep := [0, 1, 2, 3, 4, 5] }) Tryz.func21 [.agg (.cons (.var .s 0) (.cons (.var .sl 1) (.cons (.var .sl 2) (.cons (.var .sl 3) (.cons (.var .sl 4) (.cons (.var .sl 5) (.cons (.var .sl 6) (.cons (.var .sl 7) .nil)))))))), .agg (.cons (.var .s 8) (.cons (.var .sl 9) (.cons (.var .s 10) (.cons (.var .sl 11) (.cons (.var .sl 12) .nil)))))] [.string v0, .slice v1.p v1.n v1.c, .slice v2.p v2.n v2.c, .slice v3.p v3.n v3.c, .slice v4.p v4.n v4.c, .slice v5.p v5.n v5.c, .slice v6.p v6.n v6.c, .slice v7.p v7.n v7.c, .string v8, .slice v9.p v9.n v9.c, .string v10, .slice v11.p v11.n v11.c, .slice v12.p v12.n v12.c] rfl (by kernel_rfl) h
def w22 (v0 : ByteArray) (v1 : Sl) (v2 : Sl) (v3 : Sl) (v4 : Sl) (v5 : Sl) (v6 : Sl) (v7 : Sl) (V : Mem) (R : Ending → Mem → Prop) : Prop :=
 Tri Tryz.prog 12 #[.agg #[.string v0, .slice v1.p v1.n v1.c, .slice v2.p v2.n v2.c, .slice v3.p v3.n v3.c, .slice v4.p v4.n v4.c, .slice v5.p v5.n v5.c, .slice v6.p v6.n v6.c, .slice v7.p v7.n v7.c]] V fun e V1 => ∃ v8 : ByteArray, ∃ v9 : Int, ∃ v10 : Int, e = .returned (.tuple #[.string v8, .int .i64 v9, .int .i64 v10]) ∧
 (v8 = (strB []) →
 (v9 = (0 : Int) →
 R (.returned (.bool (decide (v10 = (0 : Int))))) V1) ∧ (¬ (v9 = (0 : Int)) →
 R (.returned (.bool false)) V1)) ∧ (¬ (v8 = (strB [])) →
 R (.returned (.bool false)) V1)
theorem x22 {v0 : ByteArray} {v1 : Sl} {v2 : Sl} {v3 : Sl} {v4 : Sl} {v5 : Sl} {v6 : Sl} {v7 : Sl} {V : Mem} {R : Ending → Mem → Prop} (h : w22 v0 v1 v2 v3 v4 v5 v6 v7 V R) : Tri Tryz.prog 22 #[.agg #[.string v0, .slice v1.p v1.n v1.c, .slice v2.p v2.n v2.c, .slice v3.p v3.n v3.c, .slice v4.p v4.n v4.c, .slice v5.p v5.n v5.c, .slice v6.p v6.n v6.c, .slice v7.p v7.n v7.c]] V R :=
 tri_dx (H := { N := 22, early := [], loops := [], keep := [0, 1, 2, 3, 4, 5] }) Tryz.func22 [.agg (.cons (.var .s 0) (.cons (.var .sl 1) (.cons (.var .sl 2) (.cons (.var .sl 3) (.cons (.var .sl 4) (.cons (.var .sl 5) (.cons (.var .sl 6) (.cons (.var .sl 7) .nil))))))))] [.string v0, .slice v1.p v1.n v1.c, .slice v2.p v2.n v2.c, .slice v3.p v3.n v3.c, .slice v4.p v4.n v4.c, .slice v5.p v5.n v5.c, .slice v6.p v6.n v6.c, .slice v7.p v7.n v7.c] rfl (by kernel_rfl) h
def w26 (v0 : Sl) (v1 : Value) (V : Mem) (R : Ending → Mem → Prop) : Prop :=
 Tri Tryz.prog 75 #[.slice v0.p v0.n v0.c, (K.cast .f v1)] V fun e V1 => ∃ v2 : Int, e = .returned (.int .i64 v2) ∧
 R (.returned (.bool (decide ((0 : Int) ≤ v2)))) V1
theorem x26 {v0 : Sl} {v1 : Value} {V : Mem} {R : Ending → Mem → Prop} (h : w26 v0 v1 V R) : Tri Tryz.prog 26 #[.slice v0.p v0.n v0.c, (K.cast .f v1)] V R :=
 tri_dx (H := { N := 9, early := [], loops := [], keep := [0, 1, 4] }) Tryz.func26 [.var .sl 0, .var .f 1] [.slice v0.p v0.n v0.c, v1] rfl (by kernel_rfl) h
def w28 (v0 : Sl) (v1 : Value) (V : Mem) (R : Ending → Mem → Prop) : Prop :=
 Tri Tryz.prog 76 #[.slice v0.p v0.n v0.c, (K.cast .f v1)] V fun e V1 => ∃ v2 : Int, e = .returned (.int .i64 v2) ∧
 R (.returned (.bool (decide ((0 : Int) ≤ v2)))) V1
theorem x28 {v0 : Sl} {v1 : Value} {V : Mem} {R : Ending → Mem → Prop} (h : w28 v0 v1 V R) : Tri Tryz.prog 28 #[.slice v0.p v0.n v0.c, (K.cast .f v1)] V R :=
 tri_dx (H := { N := 9, early := [], loops := [], keep := [0, 1, 4] }) Tryz.func28 [.var .sl 0, .var .f 1] [.slice v0.p v0.n v0.c, v1] rfl (by kernel_rfl) h
def w31 (v0 : Sl) (V : Mem) (R : Ending → Mem → Prop) : Prop :=
 (v0.p = none →
 R (.returned (.slice none 0 0)) V) ∧ (¬ (v0.p = none) →
 PubT [] 54 V fun v1 V1 =>
 GenK Tryz.prog (.call { callee := (.builtin .append), args := #[.tmp 5, .tmp 6], argTypes := #[24, 24] }) 24 (gval [(5, (.c3 .slc (.u (.poff 0) (.var .p 1)) (.int .i64 0) (.int .i64 0))), (6, (.var .sl 0))] [.slice v0.p v0.n v0.c, .pointer v1]) V1 fun x V2 => ∃ v2 : Sl, x = (.slice v2.p v2.n v2.c) ∧
 R (.returned (.slice v2.p v2.n v2.c)) V2)
theorem x31 {v0 : Sl} {V : Mem} {R : Ending → Mem → Prop} (h : w31 v0 V R) : Tri Tryz.prog 31 #[.slice v0.p v0.n v0.c] V R :=
 tri_dx (H := { N := 8, early := [], loops := [], keep := [0, 2, 4] }) Tryz.func31 [.var .sl 0] [.slice v0.p v0.n v0.c] rfl (by kernel_rfl) h
def w32 (v0 : Sl) (V : Mem) (R : Ending → Mem → Prop) : Prop :=
 Tri Tryz.prog 26 #[.slice v0.p v0.n v0.c, .func (.func 33) #[] #[]] V fun e V1 => ∃ v1 : Bool, e = .returned (.bool v1) ∧
 R (.returned (.bool (!v1))) V1
theorem x32 {v0 : Sl} {V : Mem} {R : Ending → Mem → Prop} (h : w32 v0 V R) : Tri Tryz.prog 32 #[.slice v0.p v0.n v0.c] V R :=
 tri_dx (H := { N := 6, early := [], loops := [], keep := [0, 2] }) Tryz.func32 [.var .sl 0] [.slice v0.p v0.n v0.c] rfl (by kernel_rfl) h
def w33 (v0 : ByteArray) (v1 : ByteArray) (V : Mem) (R : Ending → Mem → Prop) : Prop :=
 R (.returned (.bool (decide (v0 = (strB [117, 110, 107, 110, 111, 119, 110, 95, 118, 97, 114, 105, 97, 98, 108, 101]))))) V
theorem x33 {v0 : ByteArray} {v1 : ByteArray} {V : Mem} {R : Ending → Mem → Prop} (h : w33 v0 v1 V R) : Tri Tryz.prog 33 #[.agg #[.string v0, .string v1]] V R :=
 tri_dx (H := { N := 6, early := [], loops := [], keep := [0, 1, 2] }) Tryz.func33 [.agg (.cons (.var .s 0) (.cons (.var .s 1) .nil))] [.string v0, .string v1] rfl (by kernel_rfl) h
def w34 (v0 : Sl) (V : Mem) (R : Ending → Mem → Prop) : Prop :=
 (v0.p = none →
 R (.returned (.slice none 0 0)) V) ∧ (¬ (v0.p = none) →
 PubT [] 67 V fun v1 V1 =>
 GenK Tryz.prog (.call { callee := (.builtin .append), args := #[.tmp 5, .tmp 6], argTypes := #[23, 23] }) 23 (gval [(5, (.c3 .slc (.u (.poff 0) (.var .p 1)) (.int .i64 0) (.int .i64 0))), (6, (.var .sl 0))] [.slice v0.p v0.n v0.c, .pointer v1]) V1 fun x V2 => ∃ v2 : Sl, x = (.slice v2.p v2.n v2.c) ∧
 R (.returned (.slice v2.p v2.n v2.c)) V2)
theorem x34 {v0 : Sl} {V : Mem} {R : Ending → Mem → Prop} (h : w34 v0 V R) : Tri Tryz.prog 34 #[.slice v0.p v0.n v0.c] V R :=
 tri_dx (H := { N := 8, early := [], loops := [], keep := [0, 2, 4] }) Tryz.func34 [.var .sl 0] [.slice v0.p v0.n v0.c] rfl (by kernel_rfl) h
def w35 (v0 : ByteArray) (v1 : Sl) (v2 : Sl) (v3 : Sl) (v4 : Sl) (v5 : Sl) (v6 : Sl) (v7 : Sl) (v8 : ByteArray) (v9 : Int) (v10 : Int) (v11 : ByteArray) (v12 : Sl) (V : Mem) (R : Ending → Mem → Prop) : Prop :=
 Tri Tryz.prog 62 #[.agg #[.int .i64 v9, .int .i64 v10, .string v11, .slice v12.p v12.n v12.c]] V fun e V1 => ∃ v13 : Bool, e = .returned (.bool v13) ∧
 Tri Tryz.prog 61 #[.agg #[.string v0, .slice v1.p v1.n v1.c, .slice v2.p v2.n v2.c, .slice v3.p v3.n v3.c, .slice v4.p v4.n v4.c, .slice v5.p v5.n v5.c, .slice v6.p v6.n v6.c, .slice v7.p v7.n v7.c], .bool v13] V1 fun e V2 => ∃ v14 : Option Addr, ∃ v15 : Int, e = .returned (.tuple #[.pointer v14, .int .i64 v15]) ∧
 (v15 = (0 : Int) →
 (v8 = (strB []) →
 Tri Tryz.prog 78 #[.pointer v14, .string v8] V2 fun e V3 => ∃ v16 : Option Addr, ∃ v17 : Option Nat, ∃ v18 : Bool, e = .returned (.agg #[.pointer v16, .map v17, .bool v18]) ∧
 Tri Tryz.prog 64 #[.agg #[.pointer v16, .map v17, .bool v18], .agg #[.int .i64 v9, .int .i64 v10, .string v11, .slice v12.p v12.n v12.c]] V3 fun e V4 => ∃ v19 : ByteArray, ∃ v20 : Int, e = .returned (.tuple #[.string v19, .int .i64 v20]) ∧
 R (.returned (.tuple #[.string v19, .int .i64 v20])) V4) ∧ (¬ (v8 = (strB [])) →
 Tri Tryz.prog 77 #[.pointer v14, .string v8] V2 fun e V3 => ∃ v16 : Bool, e = .returned (.bool v16) ∧
 (v16 = true →
 Tri Tryz.prog 78 #[.pointer v14, .string v8] V3 fun e V4 => ∃ v17 : Option Addr, ∃ v18 : Option Nat, ∃ v19 : Bool, e = .returned (.agg #[.pointer v17, .map v18, .bool v19]) ∧
 Tri Tryz.prog 64 #[.agg #[.pointer v17, .map v18, .bool v19], .agg #[.int .i64 v9, .int .i64 v10, .string v11, .slice v12.p v12.n v12.c]] V4 fun e V5 => ∃ v20 : ByteArray, ∃ v21 : Int, e = .returned (.tuple #[.string v20, .int .i64 v21]) ∧
 R (.returned (.tuple #[.string v20, .int .i64 v21])) V5) ∧ (¬ (v16 = true) →
 R (.returned (.tuple #[.string (strB []), .int .i64 12])) V3))) ∧ (¬ (v15 = (0 : Int)) →
 R (.returned (.tuple #[.string (strB []), .int .i64 v15])) V2)
theorem x35 {v0 : ByteArray} {v1 : Sl} {v2 : Sl} {v3 : Sl} {v4 : Sl} {v5 : Sl} {v6 : Sl} {v7 : Sl} {v8 : ByteArray} {v9 : Int} {v10 : Int} {v11 : ByteArray} {v12 : Sl} {V : Mem} {R : Ending → Mem → Prop} (h : w35 v0 v1 v2 v3 v4 v5 v6 v7 v8 v9 v10 v11 v12 V R) : Tri Tryz.prog 35 #[.agg #[.string v0, .slice v1.p v1.n v1.c, .slice v2.p v2.n v2.c, .slice v3.p v3.n v3.c, .slice v4.p v4.n v4.c, .slice v5.p v5.n v5.c, .slice v6.p v6.n v6.c, .slice v7.p v7.n v7.c], .string v8, .agg #[.int .i64 v9, .int .i64 v10, .string v11, .slice v12.p v12.n v12.c]] V R :=
 tri_dx (H := { N := 35, early := [], loops := [], keep := [0, 1, 2, 3, 5, 6, 7, 8, 9, 18, 27] }) Tryz.func35 [.agg (.cons (.var .s 0) (.cons (.var .sl 1) (.cons (.var .sl 2) (.cons (.var .sl 3) (.cons (.var .sl 4) (.cons (.var .sl 5) (.cons (.var .sl 6) (.cons (.var .sl 7) .nil)))))))), .var .s 8, .agg (.cons (.var (.i .i64) 9) (.cons (.var (.i .i64) 10) (.cons (.var .s 11) (.cons (.var .sl 12) .nil))))] [.string v0, .slice v1.p v1.n v1.c, .slice v2.p v2.n v2.c, .slice v3.p v3.n v3.c, .slice v4.p v4.n v4.c, .slice v5.p v5.n v5.c, .slice v6.p v6.n v6.c, .slice v7.p v7.n v7.c, .string v8, .int .i64 v9, .int .i64 v10, .string v11, .slice v12.p v12.n v12.c] rfl (by kernel_rfl) h
def w36 (v0 : ByteArray) (v1 : Sl) (v2 : Sl) (v3 : Sl) (v4 : Sl) (v5 : Sl) (v6 : Sl) (v7 : Sl) (v8 : ByteArray) (V : Mem) (R : Ending → Mem → Prop) : Prop :=
 Tri Tryz.prog 79 #[.agg #[.string v0, .slice v1.p v1.n v1.c, .slice v2.p v2.n v2.c, .slice v3.p v3.n v3.c, .slice v4.p v4.n v4.c, .slice v5.p v5.n v5.c, .slice v6.p v6.n v6.c, .slice v7.p v7.n v7.c], .string v8] V fun e V1 => ∃ v9 : Int, e = .returned (.int .i64 v9) ∧
 R (.returned (.bool (decide ((0 : Int) ≤ v9)))) V1
theorem x36 {v0 : ByteArray} {v1 : Sl} {v2 : Sl} {v3 : Sl} {v4 : Sl} {v5 : Sl} {v6 : Sl} {v7 : Sl} {v8 : ByteArray} {V : Mem} {R : Ending → Mem → Prop} (h : w36 v0 v1 v2 v3 v4 v5 v6 v7 v8 V R) : Tri Tryz.prog 36 #[.agg #[.string v0, .slice v1.p v1.n v1.c, .slice v2.p v2.n v2.c, .slice v3.p v3.n v3.c, .slice v4.p v4.n v4.c, .slice v5.p v5.n v5.c, .slice v6.p v6.n v6.c, .slice v7.p v7.n v7.c], .string v8] V R :=
 tri_dx (H := { N := 9, early := [], loops := [], keep := [0, 1, 2, 4] }) Tryz.func36 [.agg (.cons (.var .s 0) (.cons (.var .sl 1) (.cons (.var .sl 2) (.cons (.var .sl 3) (.cons (.var .sl 4) (.cons (.var .sl 5) (.cons (.var .sl 6) (.cons (.var .sl 7) .nil)))))))), .var .s 8] [.string v0, .slice v1.p v1.n v1.c, .slice v2.p v2.n v2.c, .slice v3.p v3.n v3.c, .slice v4.p v4.n v4.c, .slice v5.p v5.n v5.c, .slice v6.p v6.n v6.c, .slice v7.p v7.n v7.c, .string v8] rfl (by kernel_rfl) h
def w37 (v0 : ByteArray) (v1 : Sl) (v2 : Sl) (v3 : Sl) (v4 : Sl) (v5 : Sl) (v6 : Sl) (v7 : Sl) (v8 : ByteArray) (V : Mem) (R : Ending → Mem → Prop) : Prop :=
 (v8 = (strB []) →
 GenK Tryz.prog (.call { callee := (.builtin .append), args := #[.tmp 13, .tmp 15], argTypes := #[23, 23] }) 23 (gval [(13, .nilsl), (15, (.var .sl 2))] [.string v0, .slice v1.p v1.n v1.c, .slice v2.p v2.n v2.c, .slice v3.p v3.n v3.c, .slice v4.p v4.n v4.c, .slice v5.p v5.n v5.c, .slice v6.p v6.n v6.c, .slice v7.p v7.n v7.c, .string v8]) V fun x V1 => ∃ v9 : Sl, x = (.slice v9.p v9.n v9.c) ∧
 R (.returned (.agg #[.slice v9.p v9.n v9.c, .bool false])) V1) ∧ (¬ (v8 = (strB [])) →
 PubT [.string (strB [116, 104, 105, 115]), .string v8] 67 V fun v9 V1 =>
 GenK Tryz.prog (.call { callee := (.builtin .append), args := #[.tmp 8, .tmp 11], argTypes := #[23, 23] }) 23 (gval [(8, .nilsl), (11, (.c3 .slc (.u (.poff 0) (.var .p 9)) (.int .i64 1) (.int .i64 1)))] [.string v0, .slice v1.p v1.n v1.c, .slice v2.p v2.n v2.c, .slice v3.p v3.n v3.c, .slice v4.p v4.n v4.c, .slice v5.p v5.n v5.c, .slice v6.p v6.n v6.c, .slice v7.p v7.n v7.c, .string v8, .pointer v9]) V1 fun x V2 => ∃ v10 : Sl, x = (.slice v10.p v10.n v10.c) ∧
 GenK Tryz.prog (.call { callee := (.builtin .append), args := #[.tmp 13, .tmp 15], argTypes := #[23, 23] }) 23 (gval [(13, (.var .sl 10)), (15, (.var .sl 2))] [.string v0, .slice v1.p v1.n v1.c, .slice v2.p v2.n v2.c, .slice v3.p v3.n v3.c, .slice v4.p v4.n v4.c, .slice v5.p v5.n v5.c, .slice v6.p v6.n v6.c, .slice v7.p v7.n v7.c, .string v8, .pointer v9, .slice v10.p v10.n v10.c]) V2 fun x V3 => ∃ v11 : Sl, x = (.slice v11.p v11.n v11.c) ∧
 R (.returned (.agg #[.slice v11.p v11.n v11.c, .bool false])) V3)
theorem x37 {v0 : ByteArray} {v1 : Sl} {v2 : Sl} {v3 : Sl} {v4 : Sl} {v5 : Sl} {v6 : Sl} {v7 : Sl} {v8 : ByteArray} {V : Mem} {R : Ending → Mem → Prop} (h : w37 v0 v1 v2 v3 v4 v5 v6 v7 v8 V R) : Tri Tryz.prog 37 #[.agg #[.string v0, .slice v1.p v1.n v1.c, .slice v2.p v2.n v2.c, .slice v3.p v3.n v3.c, .slice v4.p v4.n v4.c, .slice v5.p v5.n v5.c, .slice v6.p v6.n v6.c, .slice v7.p v7.n v7.c], .string v8] V R :=
 tri_dx (H := { N := 18, early := [], loops := [], keep := [0, 1, 2, 4, 5, 7] }) Tryz.func37 [.agg (.cons (.var .s 0) (.cons (.var .sl 1) (.cons (.var .sl 2) (.cons (.var .sl 3) (.cons (.var .sl 4) (.cons (.var .sl 5) (.cons (.var .sl 6) (.cons (.var .sl 7) .nil)))))))), .var .s 8] [.string v0, .slice v1.p v1.n v1.c, .slice v2.p v2.n v2.c, .slice v3.p v3.n v3.c, .slice v4.p v4.n v4.c, .slice v5.p v5.n v5.c, .slice v6.p v6.n v6.c, .slice v7.p v7.n v7.c, .string v8] rfl (by kernel_rfl) h
def w38 (v0 : Int) (v1 : Int) (v2 : ByteArray) (v3 : Sl) (v4 : Option Addr) (v5 : Option Addr) (V : Mem) (R : Ending → Mem → Prop) : Prop :=
 ∃ v6 : ByteArray, ∃ v7 : Sl, ∃ v8 : Sl, ∃ v9 : Sl, ∃ v10 : Sl, ∃ v11 : Sl, ∃ v12 : Sl, ∃ v13 : Sl, V.rowp v4 (((0 : Int)).toNat * 1) 8 = some [.string v6, .slice v7.p v7.n v7.c, .slice v8.p v8.n v8.c, .slice v9.p v9.n v9.c, .slice v10.p v10.n v10.c, .slice v11.p v11.n v11.c, .slice v12.p v12.n v12.c, .slice v13.p v13.n v13.c] ∧
 ∃ v14 : ByteArray, V.rowp v5 (((0 : Int)).toNat * 1) 1 = some [.string v14] ∧
 Tri Tryz.prog 16 #[.agg #[.string v6, .slice v7.p v7.n v7.c, .slice v8.p v8.n v8.c, .slice v9.p v9.n v9.c, .slice v10.p v10.n v10.c, .slice v11.p v11.n v11.c, .slice v12.p v12.n v12.c, .slice v13.p v13.n v13.c], .string v14, .agg #[.int .i64 v0, .int .i64 v1, .string v2, .slice v3.p v3.n v3.c]] V fun e V1 => ∃ v15 : ByteArray, ∃ v16 : Int, e = .returned (.tuple #[.string v15, .int .i64 v16]) ∧
 R (.returned (.tuple #[.string v15, .int .i64 v16])) V1
theorem x38 {v0 : Int} {v1 : Int} {v2 : ByteArray} {v3 : Sl} {v4 : Option Addr} {v5 : Option Addr} {V : Mem} {R : Ending → Mem → Prop} (h : w38 v0 v1 v2 v3 v4 v5 V R) : Tri Tryz.prog 38 #[.agg #[.int .i64 v0, .int .i64 v1, .string v2, .slice v3.p v3.n v3.c], .pointer v4, .pointer v5] V R :=
 tri_dx (H := { N := 12, early := [], loops := [], keep := [0, 1, 2, 3, 4, 5] }) Tryz.func38 [.agg (.cons (.var (.i .i64) 0) (.cons (.var (.i .i64) 1) (.cons (.var .s 2) (.cons (.var .sl 3) .nil)))), .var .p 4, .var .p 5] [.int .i64 v0, .int .i64 v1, .string v2, .slice v3.p v3.n v3.c, .pointer v4, .pointer v5] rfl (by kernel_rfl) h
def w39 (v0 : Int) (v1 : Int) (v2 : ByteArray) (v3 : Sl) (v4 : Option Addr) (v5 : Option Addr) (V : Mem) (R : Ending → Mem → Prop) : Prop :=
 ∃ v6 : ByteArray, ∃ v7 : Sl, ∃ v8 : Sl, ∃ v9 : Sl, ∃ v10 : Sl, ∃ v11 : Sl, ∃ v12 : Sl, ∃ v13 : Sl, V.rowp v4 (((0 : Int)).toNat * 1) 8 = some [.string v6, .slice v7.p v7.n v7.c, .slice v8.p v8.n v8.c, .slice v9.p v9.n v9.c, .slice v10.p v10.n v10.c, .slice v11.p v11.n v11.c, .slice v12.p v12.n v12.c, .slice v13.p v13.n v13.c] ∧
 ∃ v14 : ByteArray, V.rowp v5 (((0 : Int)).toNat * 1) 1 = some [.string v14] ∧
 Tri Tryz.prog 35 #[.agg #[.string v6, .slice v7.p v7.n v7.c, .slice v8.p v8.n v8.c, .slice v9.p v9.n v9.c, .slice v10.p v10.n v10.c, .slice v11.p v11.n v11.c, .slice v12.p v12.n v12.c, .slice v13.p v13.n v13.c], .string v14, .agg #[.int .i64 v0, .int .i64 v1, .string v2, .slice v3.p v3.n v3.c]] V fun e V1 => ∃ v15 : ByteArray, ∃ v16 : Int, e = .returned (.tuple #[.string v15, .int .i64 v16]) ∧
 R (.returned (.tuple #[.string v15, .int .i64 v16])) V1
theorem x39 {v0 : Int} {v1 : Int} {v2 : ByteArray} {v3 : Sl} {v4 : Option Addr} {v5 : Option Addr} {V : Mem} {R : Ending → Mem → Prop} (h : w39 v0 v1 v2 v3 v4 v5 V R) : Tri Tryz.prog 39 #[.agg #[.int .i64 v0, .int .i64 v1, .string v2, .slice v3.p v3.n v3.c], .pointer v4, .pointer v5] V R :=
 tri_dx (H := { N := 12, early := [], loops := [], keep := [0, 1, 2, 3, 4, 5] }) Tryz.func39 [.agg (.cons (.var (.i .i64) 0) (.cons (.var (.i .i64) 1) (.cons (.var .s 2) (.cons (.var .sl 3) .nil)))), .var .p 4, .var .p 5] [.int .i64 v0, .int .i64 v1, .string v2, .slice v3.p v3.n v3.c, .pointer v4, .pointer v5] rfl (by kernel_rfl) h
def w40 (v0 : Sl) (V : Mem) (R : Ending → Mem → Prop) : Prop :=
 (v0.p = none →
 R (.returned (.slice none 0 0)) V) ∧ (¬ (v0.p = none) →
 PubT [] 40 V fun v1 V1 =>
 GenK Tryz.prog (.call { callee := (.builtin .append), args := #[.tmp 5, .tmp 6], argTypes := #[38, 38] }) 38 (gval [(5, (.c3 .slc (.u (.poff 0) (.var .p 1)) (.int .i64 0) (.int .i64 0))), (6, (.var .sl 0))] [.slice v0.p v0.n v0.c, .pointer v1]) V1 fun x V2 => ∃ v2 : Sl, x = (.slice v2.p v2.n v2.c) ∧
 R (.returned (.slice v2.p v2.n v2.c)) V2)
theorem x40 {v0 : Sl} {V : Mem} {R : Ending → Mem → Prop} (h : w40 v0 V R) : Tri Tryz.prog 40 #[.slice v0.p v0.n v0.c] V R :=
 tri_dx (H := { N := 8, early := [], loops := [], keep := [0, 2, 4] }) Tryz.func40 [.var .sl 0] [.slice v0.p v0.n v0.c] rfl (by kernel_rfl) h
def w41 (v0 : ByteArray) (v1 : Sl) (v2 : Sl) (v3 : Sl) (v4 : Sl) (v5 : Sl) (v6 : Sl) (v7 : Sl) (V : Mem) (R : Ending → Mem → Prop) : Prop :=
 Tri Tryz.prog 61 #[.agg #[.string v0, .slice v1.p v1.n v1.c, .slice v2.p v2.n v2.c, .slice v3.p v3.n v3.c, .slice v4.p v4.n v4.c, .slice v5.p v5.n v5.c, .slice v6.p v6.n v6.c, .slice v7.p v7.n v7.c], .bool true] V fun e V1 => ∃ v8 : Option Addr, ∃ v9 : Int, e = .returned (.tuple #[.pointer v8, .int .i64 v9]) ∧
 (v9 = (0 : Int) →
 ∃ (I : Nat → List Value → Mem → Prop) (n0 : Nat), I n0 [.slice none 0 0, .int .i64 0] V1 ∧ ∀ n V2, ∀ v10 : Sl, ∀ v11 : Int, I n [.slice v10.p v10.n v10.c, .int .i64 v11] V2 → ∀ J0 : List Value → Mem → Prop, (∀ m ys V'', m < n → I m ys V'' → J0 ys V'') →
 (v11 < (v3.n : Int) →
 (¬ (v3.p = none)) ∧ ((0 : Int) ≤ v11) ∧ (v11 < (v3.n : Int)) ∧ ∃ v12 : ByteArray, ∃ v13 : Sl, ∃ v14 : ByteArray, ∃ v15 : Sl, ∃ v16 : Sl, V2.rowp v3.p ((v11).toNat * 5) 5 = some [.string v12, .slice v13.p v13.n v13.c, .string v14, .slice v15.p v15.n v15.c, .slice v16.p v16.n v16.c] ∧
 (v14 = (strB []) →
 PubT [.func (.func 80) #[] #[]] 104 V2 fun v17 V3 =>
 Tri Tryz.prog 26 #[.slice v13.p v13.n v13.c, .func (.func 81) #[] #[.pointer (ptrAdd v17 0)]] V3 fun e V4 => ∃ v18 : Bool, e = .returned (.bool v18) ∧
 (v18 = true →
 (K.inR .i64 (v11 + (1 : Int))) ∧ J0 [.slice v10.p v10.n v10.c, .int .i64 (v11 + (1 : Int))] V4) ∧ (¬ (v18 = true) →
 PubT [.string v12] 9 V4 fun v19 V5 =>
 GenK Tryz.prog (.call { callee := (.builtin .append), args := #[.tmp 41, .tmp 44], argTypes := #[85, 85] }) 85 (gval [(41, (.var .sl 10)), (44, (.c3 .slc (.u (.poff 0) (.var .p 19)) (.int .i64 1) (.int .i64 1)))] [.string v0, .slice v1.p v1.n v1.c, .slice v2.p v2.n v2.c, .slice v3.p v3.n v3.c, .slice v4.p v4.n v4.c, .slice v5.p v5.n v5.c, .slice v6.p v6.n v6.c, .slice v7.p v7.n v7.c, .pointer v8, .int .i64 v9, .slice v10.p v10.n v10.c, .int .i64 v11, .string v12, .slice v13.p v13.n v13.c, .string v14, .slice v15.p v15.n v15.c, .slice v16.p v16.n v16.c, .pointer v17, .bool v18, .pointer v19]) V5 fun x V6 => ∃ v20 : Sl, x = (.slice v20.p v20.n v20.c) ∧
 (K.inR .i64 (v11 + (1 : Int))) ∧ J0 [.slice v20.p v20.n v20.c, .int .i64 (v11 + (1 : Int))] V6)) ∧ (¬ (v14 = (strB [])) →
 Tri Tryz.prog 80 #[.string v14] V2 fun e V3 => ∃ v17 : Bool, e = .returned (.bool v17) ∧
 (v17 = true →
 PubT [.func (.func 80) #[] #[]] 104 V3 fun v18 V4 =>
 Tri Tryz.prog 26 #[.slice v13.p v13.n v13.c, .func (.func 81) #[] #[.pointer (ptrAdd v18 0)]] V4 fun e V5 => ∃ v19 : Bool, e = .returned (.bool v19) ∧
 (v19 = true →
 (K.inR .i64 (v11 + (1 : Int))) ∧ J0 [.slice v10.p v10.n v10.c, .int .i64 (v11 + (1 : Int))] V5) ∧ (¬ (v19 = true) →
 PubT [.string v12] 9 V5 fun v20 V6 =>
 GenK Tryz.prog (.call { callee := (.builtin .append), args := #[.tmp 41, .tmp 44], argTypes := #[85, 85] }) 85 (gval [(41, (.var .sl 10)), (44, (.c3 .slc (.u (.poff 0) (.var .p 20)) (.int .i64 1) (.int .i64 1)))] [.string v0, .slice v1.p v1.n v1.c, .slice v2.p v2.n v2.c, .slice v3.p v3.n v3.c, .slice v4.p v4.n v4.c, .slice v5.p v5.n v5.c, .slice v6.p v6.n v6.c, .slice v7.p v7.n v7.c, .pointer v8, .int .i64 v9, .slice v10.p v10.n v10.c, .int .i64 v11, .string v12, .slice v13.p v13.n v13.c, .string v14, .slice v15.p v15.n v15.c, .slice v16.p v16.n v16.c, .bool v17, .pointer v18, .bool v19, .pointer v20]) V6 fun x V7 => ∃ v21 : Sl, x = (.slice v21.p v21.n v21.c) ∧
 (K.inR .i64 (v11 + (1 : Int))) ∧ J0 [.slice v21.p v21.n v21.c, .int .i64 (v11 + (1 : Int))] V7)) ∧ (¬ (v17 = true) →
 (K.inR .i64 (v11 + (1 : Int))) ∧ J0 [.slice v10.p v10.n v10.c, .int .i64 (v11 + (1 : Int))] V3))) ∧ (¬ (v11 < (v3.n : Int)) →
 R (.returned (.tuple #[.slice v10.p v10.n v10.c, .int .i64 0])) V2)) ∧ (¬ (v9 = (0 : Int)) →
 R (.returned (.tuple #[.slice none 0 0, .int .i64 v9])) V1)
theorem x41 {v0 : ByteArray} {v1 : Sl} {v2 : Sl} {v3 : Sl} {v4 : Sl} {v5 : Sl} {v6 : Sl} {v7 : Sl} {V : Mem} {R : Ending → Mem → Prop} (h : w41 v0 v1 v2 v3 v4 v5 v6 v7 V R) : Tri Tryz.prog 41 #[.agg #[.string v0, .slice v1.p v1.n v1.c, .slice v2.p v2.n v2.c, .slice v3.p v3.n v3.c, .slice v4.p v4.n v4.c, .slice v5.p v5.n v5.c, .slice v6.p v6.n v6.c, .slice v7.p v7.n v7.c]] V R :=
 tri_dx (H := { N := 48, early := [], loops := [], keep := [0, 1, 2, 3, 5, 6, 8, 9, 16, 19, 20, 21, 22, 40] }) Tryz.func41 [.agg (.cons (.var .s 0) (.cons (.var .sl 1) (.cons (.var .sl 2) (.cons (.var .sl 3) (.cons (.var .sl 4) (.cons (.var .sl 5) (.cons (.var .sl 6) (.cons (.var .sl 7) .nil))))))))] [.string v0, .slice v1.p v1.n v1.c, .slice v2.p v2.n v2.c, .slice v3.p v3.n v3.c, .slice v4.p v4.n v4.c, .slice v5.p v5.n v5.c, .slice v6.p v6.n v6.c, .slice v7.p v7.n v7.c] rfl (by kernel_rfl) h
def w42 (v0 : Sl) (v1 : Sl) (V : Mem) (R : Ending → Mem → Prop) : Prop :=
 ((v0.n : Int) = (v1.n : Int) →
 ∃ (I : Nat → List Value → Mem → Prop) (n0 : Nat), I n0 [.bool false, .int .i64 0] V ∧ ∀ n V1, ∀ v2 : Bool, ∀ v3 : Int, I n [.bool v2, .int .i64 v3] V1 → ∀ J0 : List Value → Mem → Prop, (∀ m ys V'', m < n → I m ys V'' → J0 ys V'') →
 (v3 < (v0.n : Int) →
 (¬ (v0.p = none)) ∧ ((0 : Int) ≤ v3) ∧ (v3 < (v0.n : Int)) ∧ ∃ v4 : ByteArray, V1.rowp v0.p ((v3).toNat * 1) 1 = some [.string v4] ∧
 (¬ (v1.p = none)) ∧ ((0 : Int) ≤ v3) ∧ (v3 < (v1.n : Int)) ∧ ∃ v5 : ByteArray, V1.rowp v1.p ((v3).toNat * 1) 1 = some [.string v5] ∧
 (v4 = v5 →
 (K.inR .i64 (v3 + (1 : Int))) ∧ J0 [.bool v2, .int .i64 (v3 + (1 : Int))] V1) ∧ (¬ (v4 = v5) →
 R (.returned (.bool false)) V1)) ∧ (¬ (v3 < (v0.n : Int)) →
 R (.returned (.bool true)) V1)) ∧ (¬ ((v0.n : Int) = (v1.n : Int)) →
 R (.returned (.bool false)) V)
theorem x42 {v0 : Sl} {v1 : Sl} {V : Mem} {R : Ending → Mem → Prop} (h : w42 v0 v1 V R) : Tri Tryz.prog 42 #[.slice v0.p v0.n v0.c, .slice v1.p v1.n v1.c] V R :=
 tri_dx (H := { N := 26, early := [], loops := [], keep := [0, 1, 4, 5, 10, 12, 13, 14, 24] }) Tryz.func42 [.var .sl 0, .var .sl 1] [.slice v0.p v0.n v0.c, .slice v1.p v1.n v1.c] rfl (by kernel_rfl) h
def w43 (v0 : ByteArray) (v1 : Sl) (v2 : Sl) (v3 : Sl) (v4 : Sl) (v5 : Sl) (v6 : Sl) (v7 : Sl) (V : Mem) (R : Ending → Mem → Prop) : Prop :=
 ∃ (I : Nat → List Value → Mem → Prop) (n0 : Nat), I n0 [.slice none 0 0, .int .i64 0] V ∧ ∀ n V1, ∀ v8 : Sl, ∀ v9 : Int, I n [.slice v8.p v8.n v8.c, .int .i64 v9] V1 → ∀ J0 : List Value → Mem → Prop, (∀ m ys V'', m < n → I m ys V'' → J0 ys V'') →
 (v9 < (v3.n : Int) →
 (¬ (v3.p = none)) ∧ ((0 : Int) ≤ v9) ∧ (v9 < (v3.n : Int)) ∧ ∃ v10 : ByteArray, ∃ v11 : Sl, ∃ v12 : ByteArray, ∃ v13 : Sl, ∃ v14 : Sl, V1.rowp v3.p ((v9).toNat * 5) 5 = some [.string v10, .slice v11.p v11.n v11.c, .string v12, .slice v13.p v13.n v13.c, .slice v14.p v14.n v14.c] ∧
 Tri Tryz.prog 82 #[.agg #[.string v10, .slice v11.p v11.n v11.c, .string v12, .slice v13.p v13.n v13.c, .slice v14.p v14.n v14.c]] V1 fun e V2 => ∃ v15 : Bool, e = .returned (.bool v15) ∧
 (v15 = true →
 (¬ (v3.p = none)) ∧ ((0 : Int) ≤ v9) ∧ (v9 < (v3.n : Int)) ∧ (¬ ((ptrAdd v3.p ((v9).toNat * 5)) = none)) ∧ ∃ v16 : ByteArray, ∃ v17 : Sl, ∃ v18 : ByteArray, ∃ v19 : Sl, ∃ v20 : Sl, V2.rowp v3.p ((v9).toNat * 5) 5 = some [.string v16, .slice v17.p v17.n v17.c, .string v18, .slice v19.p v19.n v19.c, .slice v20.p v20.n v20.c] ∧
 PubT [.string v16] 9 V2 fun v21 V3 =>
 GenK Tryz.prog (.call { callee := (.builtin .append), args := #[.tmp 18, .tmp 25], argTypes := #[85, 85] }) 85 (gval [(18, (.var .sl 8)), (25, (.c3 .slc (.u (.poff 0) (.var .p 21)) (.int .i64 1) (.int .i64 1)))] [.string v0, .slice v1.p v1.n v1.c, .slice v2.p v2.n v2.c, .slice v3.p v3.n v3.c, .slice v4.p v4.n v4.c, .slice v5.p v5.n v5.c, .slice v6.p v6.n v6.c, .slice v7.p v7.n v7.c, .slice v8.p v8.n v8.c, .int .i64 v9, .string v10, .slice v11.p v11.n v11.c, .string v12, .slice v13.p v13.n v13.c, .slice v14.p v14.n v14.c, .bool v15, .string v16, .slice v17.p v17.n v17.c, .string v18, .slice v19.p v19.n v19.c, .slice v20.p v20.n v20.c, .pointer v21]) V3 fun x V4 => ∃ v22 : Sl, x = (.slice v22.p v22.n v22.c) ∧
 (K.inR .i64 (v9 + (1 : Int))) ∧ J0 [.slice v22.p v22.n v22.c, .int .i64 (v9 + (1 : Int))] V4) ∧ (¬ (v15 = true) →
 (K.inR .i64 (v9 + (1 : Int))) ∧ J0 [.slice v8.p v8.n v8.c, .int .i64 (v9 + (1 : Int))] V2)) ∧ (¬ (v9 < (v3.n : Int)) →
 R (.returned (.slice v8.p v8.n v8.c)) V1)
theorem x43 {v0 : ByteArray} {v1 : Sl} {v2 : Sl} {v3 : Sl} {v4 : Sl} {v5 : Sl} {v6 : Sl} {v7 : Sl} {V : Mem} {R : Ending → Mem → Prop} (h : w43 v0 v1 v2 v3 v4 v5 v6 v7 V R) : Tri Tryz.prog 43 #[.agg #[.string v0, .slice v1.p v1.n v1.c, .slice v2.p v2.n v2.c, .slice v3.p v3.n v3.c, .slice v4.p v4.n v4.c, .slice v5.p v5.n v5.c, .slice v6.p v6.n v6.c, .slice v7.p v7.n v7.c]] V R :=
 tri_dx (H := { N := 28, early := [], loops := [], keep := [0, 1, 2, 3, 4, 9, 17] }) Tryz.func43 [.agg (.cons (.var .s 0) (.cons (.var .sl 1) (.cons (.var .sl 2) (.cons (.var .sl 3) (.cons (.var .sl 4) (.cons (.var .sl 5) (.cons (.var .sl 6) (.cons (.var .sl 7) .nil))))))))] [.string v0, .slice v1.p v1.n v1.c, .slice v2.p v2.n v2.c, .slice v3.p v3.n v3.c, .slice v4.p v4.n v4.c, .slice v5.p v5.n v5.c, .slice v6.p v6.n v6.c, .slice v7.p v7.n v7.c] rfl (by kernel_rfl) h
def w44 (V : Mem) (R : Ending → Mem → Prop) : Prop :=
 PubT [.string (strB [107]), .string (strB [105, 110, 116]), .string (strB [110]), .string (strB [84])] 67 V fun v0 V1 =>
 PubT [.string (strB [84]), .slice (ptrAdd v0 0) ((2 : Int)).toNat ((2 : Int)).toNat] 94 V1 fun v1 V2 =>
 PubT [.string (strB [114]), .string (strB [84])] 67 V2 fun v2 V3 =>
 PubT [.string (strB [112]), .slice none 0 0, .string (strB []), .slice none 0 0, .slice none 0 0] 54 V3 fun v3 V4 =>
 R (.returned (.agg #[.string (strB [100]), .slice (ptrAdd v1 0) ((1 : Int)).toNat ((1 : Int)).toNat, .slice (ptrAdd v2 0) ((1 : Int)).toNat ((1 : Int)).toNat, .slice (ptrAdd v3 0) ((1 : Int)).toNat ((1 : Int)).toNat, .slice none 0 0, .slice none 0 0, .slice none 0 0, .slice none 0 0])) V4
theorem x44 {V : Mem} {R : Ending → Mem → Prop} (h : w44 V R) : Tri Tryz.prog 44 #[] V R :=
 tri_dx (H := { N := 11, early := [], loops := [], keep := [0] }) Tryz.func44 [] [] rfl (by kernel_rfl) h
def w45 (v0 : Int) (v1 : Int) (v2 : ByteArray) (v3 : Sl) (v4 : ByteArray) (V : Mem) (R : Ending → Mem → Prop) : Prop :=
 PubT [.int .i64 v0, .int .i64 v1, .string v2, .slice v3.p v3.n v3.c] 40 V fun v5 V1 =>
 R (.returned (.agg #[.int .i64 5, .int .i64 0, .string v4, .slice (ptrAdd v5 0) ((1 : Int)).toNat ((1 : Int)).toNat])) V1
theorem x45 {v0 : Int} {v1 : Int} {v2 : ByteArray} {v3 : Sl} {v4 : ByteArray} {V : Mem} {R : Ending → Mem → Prop} (h : w45 v0 v1 v2 v3 v4 V R) : Tri Tryz.prog 45 #[.agg #[.int .i64 v0, .int .i64 v1, .string v2, .slice v3.p v3.n v3.c], .string v4] V R :=
 tri_dx (H := { N := 9, early := [], loops := [], keep := [0, 1, 2, 4] }) Tryz.func45 [.agg (.cons (.var (.i .i64) 0) (.cons (.var (.i .i64) 1) (.cons (.var .s 2) (.cons (.var .sl 3) .nil)))), .var .s 4] [.int .i64 v0, .int .i64 v1, .string v2, .slice v3.p v3.n v3.c, .string v4] rfl (by kernel_rfl) h
def w46 (v0 : ByteArray) (V : Mem) (R : Ending → Mem → Prop) : Prop :=
 R (.returned (.agg #[.int .i64 4, .int .i64 0, .string v0, .slice none 0 0])) V
theorem x46 {v0 : ByteArray} {V : Mem} {R : Ending → Mem → Prop} (h : w46 v0 V R) : Tri Tryz.prog 46 #[.string v0] V R :=
 tri_dx (H := { N := 5, early := [], loops := [], keep := [0, 2] }) Tryz.func46 [.var .s 0] [.string v0] rfl (by kernel_rfl) h
def w47 (v0 : Sl) (V : Mem) (R : Ending → Mem → Prop) : Prop :=
 ((v0.n : Int) ≤ (20 : Int) →
 Tri Tryz.prog 26 #[.slice v0.p v0.n v0.c, .func (.func 83) #[] #[]] V fun e V1 => ∃ v1 : Bool, e = .returned (.bool v1) ∧
 R (.returned (.bool (!v1))) V1) ∧ (¬ ((v0.n : Int) ≤ (20 : Int)) →
 R (.returned (.bool false)) V)
theorem x47 {v0 : Sl} {V : Mem} {R : Ending → Mem → Prop} (h : w47 v0 V R) : Tri Tryz.prog 47 #[.slice v0.p v0.n v0.c] V R :=
 tri_dx (H := { N := 11, early := [], loops := [], keep := [0, 2] }) Tryz.func47 [.var .sl 0] [.slice v0.p v0.n v0.c] rfl (by kernel_rfl) h
def w48 (v0 : Sl) (v1 : Option Addr) (v2 : Int) (V : Mem) (R : Ending → Mem → Prop) : Prop :=
 ((65 : Int) < v2 →
 R (.returned (.bool false)) V) ∧ (¬ ((65 : Int) < v2) →
 ((250 : Int) < (v0.n : Int) →
 R (.returned (.bool false)) V) ∧ (¬ ((250 : Int) < (v0.n : Int)) →
 ∃ (I : Nat → List Value → Mem → Prop) (n0 : Nat), I n0 [.bool false, .int .i64 0] V ∧ ∀ n V1, ∀ v3 : Bool, ∀ v4 : Int, I n [.bool v3, .int .i64 v4] V1 → ∀ J0 : List Value → Mem → Prop, (∀ m ys V'', m < n → I m ys V'' → J0 ys V'') →
 (v4 < (v0.n : Int) →
 (¬ (v0.p = none)) ∧ ((0 : Int) ≤ v4) ∧ (v4 < (v0.n : Int)) ∧ ∃ v5 : Int, ∃ v6 : ByteArray, ∃ v7 : Sl, ∃ v8 : Sl, ∃ v9 : Sl, V1.rowp v0.p ((v4).toNat * 5) 5 = some [.int .i64 v5, .string v6, .slice v7.p v7.n v7.c, .slice v8.p v8.n v8.c, .slice v9.p v9.n v9.c] ∧
 (¬ (v1 = none)) ∧ ∃ v10 : Int, V1.rowp v1 (((0 : Int)).toNat * 1) 1 = some [.int .i64 v10] ∧
 (K.inR .i64 (v10 - (1 : Int))) ∧ (¬ (v1 = none)) ∧ StT v1 0 [.int .i64 (v10 - (1 : Int))] V1 fun V2 =>
 (¬ (v1 = none)) ∧ ∃ v11 : Int, V2.rowp v1 (((0 : Int)).toNat * 1) 1 = some [.int .i64 v11] ∧
 (v11 < (0 : Int) →
 R (.returned (.bool false)) V2) ∧ (¬ (v11 < (0 : Int)) →
 ((100 : Int) < ((v6).size : Int) →
 R (.returned (.bool false)) V2) ∧ (¬ ((100 : Int) < ((v6).size : Int)) →
 ((20 : Int) < (v7.n : Int) →
 R (.returned (.bool false)) V2) ∧ (¬ ((20 : Int) < (v7.n : Int)) →
 (K.inR .i64 (v2 + (1 : Int))) ∧ Tri Tryz.prog 48 #[.slice v8.p v8.n v8.c, .pointer v1, .int .i64 (v2 + (1 : Int))] V2 fun e V3 => ∃ v12 : Bool, e = .returned (.bool v12) ∧
 (v12 = true →
 (K.inR .i64 (v2 + (1 : Int))) ∧ Tri Tryz.prog 48 #[.slice v9.p v9.n v9.c, .pointer v1, .int .i64 (v2 + (1 : Int))] V3 fun e V4 => ∃ v13 : Bool, e = .returned (.bool v13) ∧
 (v13 = true →
 ∃ (I : Nat → List Value → Mem → Prop) (n0 : Nat), I n0 [.bool v3, .int .i64 0] V4 ∧ ∀ n V5, ∀ v14 : Bool, ∀ v15 : Int, I n [.bool v14, .int .i64 v15] V5 → ∀ J1 : List Value → Mem → Prop, (∀ m ys V'', m < n → I m ys V'' → J1 ys V'') →
 (v15 < (v7.n : Int) →
 (¬ (v7.p = none)) ∧ ((0 : Int) ≤ v15) ∧ (v15 < (v7.n : Int)) ∧ ∃ v16 : Int, ∃ v17 : Int, ∃ v18 : ByteArray, ∃ v19 : Sl, V5.rowp v7.p ((v15).toNat * 4) 4 = some [.int .i64 v16, .int .i64 v17, .string v18, .slice v19.p v19.n v19.c] ∧
 Tri Tryz.prog 15 #[.agg #[.int .i64 v16, .int .i64 v17, .string v18, .slice v19.p v19.n v19.c], .pointer v1, .int .i64 1] V5 fun e V6 => ∃ v20 : Bool, e = .returned (.bool v20) ∧
 (v20 = true →
 (K.inR .i64 (v15 + (1 : Int))) ∧ J1 [.bool v14, .int .i64 (v15 + (1 : Int))] V6) ∧ (¬ (v20 = true) →
 R (.returned (.bool false)) V6)) ∧ (¬ (v15 < (v7.n : Int)) →
 (K.inR .i64 (v4 + (1 : Int))) ∧ J0 [.bool v14, .int .i64 (v4 + (1 : Int))] V5)) ∧ (¬ (v13 = true) →
 R (.returned (.bool false)) V4)) ∧ (¬ (v12 = true) →
 R (.returned (.bool false)) V3))))) ∧ (¬ (v4 < (v0.n : Int)) →
 R (.returned (.bool true)) V1)))
theorem x48 {v0 : Sl} {v1 : Option Addr} {v2 : Int} {V : Mem} {R : Ending → Mem → Prop} (h : w48 v0 v1 v2 V R) : Tri Tryz.prog 48 #[.slice v0.p v0.n v0.c, .pointer v1, .int .i64 v2] V R :=
 tri_dx (H := { N := 76, early := [], loops := [], keep := [0, 1, 2, 6, 8, 10, 17, 18, 19, 20, 21, 62, 64, 65, 66, 67, 73] }) Tryz.func48 [.var .sl 0, .var .p 1, .var (.i .i64) 2] [.slice v0.p v0.n v0.c, .pointer v1, .int .i64 v2] rfl (by kernel_rfl) h
def w49 (v0 : ByteArray) (v1 : Sl) (v2 : Sl) (v3 : Sl) (v4 : Sl) (v5 : Sl) (v6 : Sl) (v7 : Sl) (V : Mem) (R : Ending → Mem → Prop) : Prop :=
 Tri Tryz.prog 84 #[.string v0] V fun e V1 => ∃ v8 : Bool, e = .returned (.bool v8) ∧
 (v8 = true →
 ((12 : Int) < (v1.n : Int) →
 R (.returned (.bool false)) V1) ∧ (¬ ((12 : Int) < (v1.n : Int)) →
 Tri Tryz.prog 85 #[.slice v2.p v2.n v2.c, .int .i64 8] V1 fun e V2 => ∃ v9 : Bool, e = .returned (.bool v9) ∧
 (v9 = true →
 ((40 : Int) < (v3.n : Int) →
 R (.returned (.bool false)) V2) ∧ (¬ ((40 : Int) < (v3.n : Int)) →
 Tri Tryz.prog 86 #[.agg #[.string v0, .slice v1.p v1.n v1.c, .slice v2.p v2.n v2.c, .slice v3.p v3.n v3.c, .slice v4.p v4.n v4.c, .slice v5.p v5.n v5.c, .slice v6.p v6.n v6.c, .slice v7.p v7.n v7.c]] V2 fun e V3 => ∃ v10 : Bool, e = .returned (.bool v10) ∧
 (v10 = true →
 Tri Tryz.prog 87 #[.slice v1.p v1.n v1.c, .func (.func 88) #[] #[]] V3 fun e V4 => ∃ v11 : Bool, e = .returned (.bool v11) ∧
 (v11 = true →
 R (.returned (.bool false)) V4) ∧ (¬ (v11 = true) →
 Tri Tryz.prog 89 #[.slice v3.p v3.n v3.c, .func (.func 90) #[] #[]] V4 fun e V5 => ∃ v12 : Bool, e = .returned (.bool v12) ∧
 R (.returned (.bool (!v12))) V5)) ∧ (¬ (v10 = true) →
 R (.returned (.bool false)) V3))) ∧ (¬ (v9 = true) →
 R (.returned (.bool false)) V2))) ∧ (¬ (v8 = true) →
 R (.returned (.bool false)) V1)
theorem x49 {v0 : ByteArray} {v1 : Sl} {v2 : Sl} {v3 : Sl} {v4 : Sl} {v5 : Sl} {v6 : Sl} {v7 : Sl} {V : Mem} {R : Ending → Mem → Prop} (h : w49 v0 v1 v2 v3 v4 v5 v6 v7 V R) : Tri Tryz.prog 49 #[.agg #[.string v0, .slice v1.p v1.n v1.c, .slice v2.p v2.n v2.c, .slice v3.p v3.n v3.c, .slice v4.p v4.n v4.c, .slice v5.p v5.n v5.c, .slice v6.p v6.n v6.c, .slice v7.p v7.n v7.c]] V R :=
 tri_dx (H := { N := 37, early := [], loops := [], keep := [0, 1, 2, 29, 32] }) Tryz.func49 [.agg (.cons (.var .s 0) (.cons (.var .sl 1) (.cons (.var .sl 2) (.cons (.var .sl 3) (.cons (.var .sl 4) (.cons (.var .sl 5) (.cons (.var .sl 6) (.cons (.var .sl 7) .nil))))))))] [.string v0, .slice v1.p v1.n v1.c, .slice v2.p v2.n v2.c, .slice v3.p v3.n v3.c, .slice v4.p v4.n v4.c, .slice v5.p v5.n v5.c, .slice v6.p v6.n v6.c, .slice v7.p v7.n v7.c] rfl (by kernel_rfl) h
def w52 (v0 : ByteArray) (V : Mem) (R : Ending → Mem → Prop) : Prop :=
 (((v0).size : Int) = (0 : Int) →
 R (.returned (.bool false)) V) ∧ (¬ (((v0).size : Int) = (0 : Int)) →
 ((40 : Int) < ((v0).size : Int) →
 R (.returned (.bool false)) V) ∧ (¬ ((40 : Int) < ((v0).size : Int)) →
 (0 ≤ (0 : Int) ∧ (0 : Int) < ((v0).size : Int)) ∧ Tri Tryz.prog 99 #[.int .u8 (sbyte v0 (0 : Int))] V fun e V1 => ∃ v1 : Bool, e = .returned (.bool v1) ∧
 (v1 = true →
 ∃ (I : Nat → List Value → Mem → Prop) (n0 : Nat), I n0 [.bool false, .int .i64 0] V1 ∧ ∀ n V2, ∀ v2 : Bool, ∀ v3 : Int, I n [.bool v2, .int .i64 v3] V2 → ∀ J0 : List Value → Mem → Prop, (∀ m ys V'', m < n → I m ys V'' → J0 ys V'') →
 (v3 < ((v0).size : Int) →
 (0 ≤ v3 ∧ v3 < ((v0).size : Int)) ∧ Tri Tryz.prog 100 #[.int .u8 (sbyte v0 v3)] V2 fun e V3 => ∃ v4 : Bool, e = .returned (.bool v4) ∧
 (v4 = true →
 (K.inR .i64 (v3 + (1 : Int))) ∧ J0 [.bool v2, .int .i64 (v3 + (1 : Int))] V3) ∧ (¬ (v4 = true) →
 R (.returned (.bool false)) V3)) ∧ (¬ (v3 < ((v0).size : Int)) →
 Tri Tryz.prog 101 #[.string v0] V2 fun e V3 => ∃ v4 : Bool, e = .returned (.bool v4) ∧
 R (.returned (.bool (!v4))) V3)) ∧ (¬ (v1 = true) →
 R (.returned (.bool false)) V1)))
theorem x52 {v0 : ByteArray} {V : Mem} {R : Ending → Mem → Prop} (h : w52 v0 V R) : Tri Tryz.prog 52 #[.string v0] V R :=
 tri_dx (H := { N := 32, early := [], loops := [], keep := [0, 2, 3, 17, 21, 28] }) Tryz.func52 [.var .s 0] [.string v0] rfl (by kernel_rfl) h
def w53 (v0 : Sl) (v1 : Int) (V : Mem) (R : Ending → Mem → Prop) : Prop :=
 (v1 < (v0.n : Int) →
 R (.returned (.bool false)) V) ∧ (¬ (v1 < (v0.n : Int)) →
 ∃ (I : Nat → List Value → Mem → Prop) (n0 : Nat), I n0 [.bool false, .int .i64 0] V ∧ ∀ n V1, ∀ v2 : Bool, ∀ v3 : Int, I n [.bool v2, .int .i64 v3] V1 → ∀ J0 : List Value → Mem → Prop, (∀ m ys V'', m < n → I m ys V'' → J0 ys V'') →
 (v3 < (v0.n : Int) →
 (¬ (v0.p = none)) ∧ ((0 : Int) ≤ v3) ∧ (v3 < (v0.n : Int)) ∧ (¬ ((ptrAdd v0.p ((v3).toNat * 2)) = none)) ∧ ∃ v4 : ByteArray, ∃ v5 : ByteArray, V1.rowp v0.p ((v3).toNat * 2) 2 = some [.string v4, .string v5] ∧
 Tri Tryz.prog 52 #[.string v4] V1 fun e V2 => ∃ v6 : Bool, e = .returned (.bool v6) ∧
 (v6 = true →
 (¬ (v0.p = none)) ∧ ((0 : Int) ≤ v3) ∧ (v3 < (v0.n : Int)) ∧ (¬ ((ptrAdd v0.p ((v3).toNat * 2)) = none)) ∧ ∃ v7 : ByteArray, ∃ v8 : ByteArray, V2.rowp v0.p ((v3).toNat * 2) 2 = some [.string v7, .string v8] ∧
 Tri Tryz.prog 102 #[.string v8] V2 fun e V3 => ∃ v9 : Bool, e = .returned (.bool v9) ∧
 (v9 = true →
 (K.inR .i64 (v3 + (1 : Int))) ∧ J0 [.bool v2, .int .i64 (v3 + (1 : Int))] V3) ∧ (¬ (v9 = true) →
 R (.returned (.bool false)) V3)) ∧ (¬ (v6 = true) →
 R (.returned (.bool false)) V2)) ∧ (¬ (v3 < (v0.n : Int)) →
 R (.returned (.bool true)) V1))
theorem x53 {v0 : Sl} {v1 : Int} {V : Mem} {R : Ending → Mem → Prop} (h : w53 v0 v1 V R) : Tri Tryz.prog 53 #[.slice v0.p v0.n v0.c, .int .i64 v1] V R :=
 tri_dx (H := { N := 32, early := [], loops := [], keep := [0, 1, 4, 5, 9, 13, 31] }) Tryz.func53 [.var .sl 0, .var (.i .i64) 1] [.slice v0.p v0.n v0.c, .int .i64 v1] rfl (by kernel_rfl) h
def w54 (v0 : ByteArray) (v1 : Sl) (v2 : ByteArray) (v3 : Sl) (v4 : Sl) (V : Mem) (R : Ending → Mem → Prop) : Prop :=
 Tri Tryz.prog 52 #[.string v0] V fun e V1 => ∃ v5 : Bool, e = .returned (.bool v5) ∧
 (v5 = true →
 Tri Tryz.prog 53 #[.slice v1.p v1.n v1.c, .int .i64 6] V1 fun e V2 => ∃ v6 : Bool, e = .returned (.bool v6) ∧
 (v6 = true →
 Tri Tryz.prog 53 #[.slice v3.p v3.n v3.c, .int .i64 12] V2 fun e V3 => ∃ v7 : Bool, e = .returned (.bool v7) ∧
 (v7 = true →
 (v2 = (strB []) →
 Tri Tryz.prog 103 #[.slice v4.p v4.n v4.c, .int .i64 1] V3 fun e V4 => ∃ v8 : Int, e = .returned (.int .i64 v8) ∧
 R (.returned (.bool (decide (v8 ≤ (200 : Int))))) V4) ∧ (¬ (v2 = (strB [])) →
 Tri Tryz.prog 102 #[.string v2] V3 fun e V4 => ∃ v8 : Bool, e = .returned (.bool v8) ∧
 (v8 = true →
 Tri Tryz.prog 103 #[.slice v4.p v4.n v4.c, .int .i64 1] V4 fun e V5 => ∃ v9 : Int, e = .returned (.int .i64 v9) ∧
 R (.returned (.bool (decide (v9 ≤ (200 : Int))))) V5) ∧ (¬ (v8 = true) →
 R (.returned (.bool false)) V4))) ∧ (¬ (v7 = true) →
 R (.returned (.bool false)) V3)) ∧ (¬ (v6 = true) →
 R (.returned (.bool false)) V2)) ∧ (¬ (v5 = true) →
 R (.returned (.bool false)) V1)
theorem x54 {v0 : ByteArray} {v1 : Sl} {v2 : ByteArray} {v3 : Sl} {v4 : Sl} {V : Mem} {R : Ending → Mem → Prop} (h : w54 v0 v1 v2 v3 v4 V R) : Tri Tryz.prog 54 #[.agg #[.string v0, .slice v1.p v1.n v1.c, .string v2, .slice v3.p v3.n v3.c, .slice v4.p v4.n v4.c]] V R :=
 tri_dx (H := { N := 32, early := [], loops := [], keep := [0, 1, 2] }) Tryz.func54 [.agg (.cons (.var .s 0) (.cons (.var .sl 1) (.cons (.var .s 2) (.cons (.var .sl 3) (.cons (.var .sl 4) .nil)))))] [.string v0, .slice v1.p v1.n v1.c, .string v2, .slice v3.p v3.n v3.c, .slice v4.p v4.n v4.c] rfl (by kernel_rfl) h
def w55 (v0 : ByteArray) (v1 : Sl) (v2 : Sl) (v3 : Sl) (v4 : Sl) (v5 : Sl) (v6 : Sl) (v7 : Sl) (V : Mem) (R : Ending → Mem → Prop) : Prop :=
 ∃ (I : Nat → List Value → Mem → Prop) (n0 : Nat), I n0 [.bool false, .int .i64 0] V ∧ ∀ n V1, ∀ v8 : Bool, ∀ v9 : Int, I n [.bool v8, .int .i64 v9] V1 → ∀ J0 : List Value → Mem → Prop, (∀ m ys V'', m < n → I m ys V'' → J0 ys V'') →
 (v9 < (v4.n : Int) →
 (¬ (v4.p = none)) ∧ ((0 : Int) ≤ v9) ∧ (v9 < (v4.n : Int)) ∧ ∃ v10 : ByteArray, ∃ v11 : ByteArray, ∃ v12 : Int, ∃ v13 : Int, ∃ v14 : Int, ∃ v15 : ByteArray, ∃ v16 : Sl, V1.rowp v4.p ((v9).toNat * 7) 7 = some [.string v10, .string v11, .int .i64 v12, .int .i64 v13, .int .i64 v14, .string v15, .slice v16.p v16.n v16.c] ∧
 Tri Tryz.prog 52 #[.string v10] V1 fun e V2 => ∃ v17 : Bool, e = .returned (.bool v17) ∧
 (v17 = true →
 Tri Tryz.prog 52 #[.string v11] V2 fun e V3 => ∃ v18 : Bool, e = .returned (.bool v18) ∧
 (v18 = true →
 (v12 < ((-1099511627776) : Int) →
 R (.returned (.bool false)) V3) ∧ (¬ (v12 < ((-1099511627776) : Int)) →
 ((1099511627776 : Int) < v12 →
 R (.returned (.bool false)) V3) ∧ (¬ ((1099511627776 : Int) < v12) →
 Tri Tryz.prog 17 #[.agg #[.int .i64 v13, .int .i64 v14, .string v15, .slice v16.p v16.n v16.c]] V3 fun e V4 => ∃ v19 : Bool, e = .returned (.bool v19) ∧
 (v19 = true →
 (K.inR .i64 (v9 + (1 : Int))) ∧ J0 [.bool v8, .int .i64 (v9 + (1 : Int))] V4) ∧ (¬ (v19 = true) →
 R (.returned (.bool false)) V4)))) ∧ (¬ (v18 = true) →
 R (.returned (.bool false)) V3)) ∧ (¬ (v17 = true) →
 R (.returned (.bool false)) V2)) ∧ (¬ (v9 < (v4.n : Int)) →
 ∃ (I : Nat → List Value → Mem → Prop) (n0 : Nat), I n0 [.bool v8, .int .i64 0] V1 ∧ ∀ n V2, ∀ v10 : Bool, ∀ v11 : Int, I n [.bool v10, .int .i64 v11] V2 → ∀ J1 : List Value → Mem → Prop, (∀ m ys V'', m < n → I m ys V'' → J1 ys V'') →
 (v11 < (v5.n : Int) →
 (¬ (v5.p = none)) ∧ ((0 : Int) ≤ v11) ∧ (v11 < (v5.n : Int)) ∧ (¬ ((ptrAdd v5.p ((v11).toNat * 6)) = none)) ∧ ∃ v12 : ByteArray, ∃ v13 : ByteArray, ∃ v14 : Int, ∃ v15 : Int, ∃ v16 : ByteArray, ∃ v17 : Sl, V2.rowp v5.p ((v11).toNat * 6) 6 = some [.string v12, .string v13, .int .i64 v14, .int .i64 v15, .string v16, .slice v17.p v17.n v17.c] ∧
 Tri Tryz.prog 52 #[.string v12] V2 fun e V3 => ∃ v18 : Bool, e = .returned (.bool v18) ∧
 (v18 = true →
 (¬ (v5.p = none)) ∧ ((0 : Int) ≤ v11) ∧ (v11 < (v5.n : Int)) ∧ (¬ ((ptrAdd v5.p ((v11).toNat * 6)) = none)) ∧ ∃ v19 : ByteArray, ∃ v20 : ByteArray, ∃ v21 : Int, ∃ v22 : Int, ∃ v23 : ByteArray, ∃ v24 : Sl, V3.rowp v5.p ((v11).toNat * 6) 6 = some [.string v19, .string v20, .int .i64 v21, .int .i64 v22, .string v23, .slice v24.p v24.n v24.c] ∧
 Tri Tryz.prog 104 #[.string v20] V3 fun e V4 => ∃ v25 : Bool, e = .returned (.bool v25) ∧
 (v25 = true →
 (¬ (v5.p = none)) ∧ ((0 : Int) ≤ v11) ∧ (v11 < (v5.n : Int)) ∧ (¬ ((ptrAdd v5.p ((v11).toNat * 6)) = none)) ∧ ∃ v26 : ByteArray, ∃ v27 : ByteArray, ∃ v28 : Int, ∃ v29 : Int, ∃ v30 : ByteArray, ∃ v31 : Sl, V4.rowp v5.p ((v11).toNat * 6) 6 = some [.string v26, .string v27, .int .i64 v28, .int .i64 v29, .string v30, .slice v31.p v31.n v31.c] ∧
 Tri Tryz.prog 17 #[.agg #[.int .i64 v28, .int .i64 v29, .string v30, .slice v31.p v31.n v31.c]] V4 fun e V5 => ∃ v32 : Bool, e = .returned (.bool v32) ∧
 (v32 = true →
 (K.inR .i64 (v11 + (1 : Int))) ∧ J1 [.bool v10, .int .i64 (v11 + (1 : Int))] V5) ∧ (¬ (v32 = true) →
 R (.returned (.bool false)) V5)) ∧ (¬ (v25 = true) →
 R (.returned (.bool false)) V4)) ∧ (¬ (v18 = true) →
 R (.returned (.bool false)) V3)) ∧ (¬ (v11 < (v5.n : Int)) →
 ∃ (I : Nat → List Value → Mem → Prop) (n0 : Nat), I n0 [.bool v10, .int .i64 0] V2 ∧ ∀ n V3, ∀ v12 : Bool, ∀ v13 : Int, I n [.bool v12, .int .i64 v13] V3 → ∀ J2 : List Value → Mem → Prop, (∀ m ys V'', m < n → I m ys V'' → J2 ys V'') →
 (v13 < (v6.n : Int) →
 (¬ (v6.p = none)) ∧ ((0 : Int) ≤ v13) ∧ (v13 < (v6.n : Int)) ∧ (¬ ((ptrAdd v6.p ((v13).toNat * 5)) = none)) ∧ ∃ v14 : ByteArray, ∃ v15 : Int, ∃ v16 : Int, ∃ v17 : ByteArray, ∃ v18 : Sl, V3.rowp v6.p ((v13).toNat * 5) 5 = some [.string v14, .int .i64 v15, .int .i64 v16, .string v17, .slice v18.p v18.n v18.c] ∧
 Tri Tryz.prog 104 #[.string v14] V3 fun e V4 => ∃ v19 : Bool, e = .returned (.bool v19) ∧
 (v19 = true →
 (¬ (v6.p = none)) ∧ ((0 : Int) ≤ v13) ∧ (v13 < (v6.n : Int)) ∧ (¬ ((ptrAdd v6.p ((v13).toNat * 5)) = none)) ∧ ∃ v20 : ByteArray, ∃ v21 : Int, ∃ v22 : Int, ∃ v23 : ByteArray, ∃ v24 : Sl, V4.rowp v6.p ((v13).toNat * 5) 5 = some [.string v20, .int .i64 v21, .int .i64 v22, .string v23, .slice v24.p v24.n v24.c] ∧
 Tri Tryz.prog 17 #[.agg #[.int .i64 v21, .int .i64 v22, .string v23, .slice v24.p v24.n v24.c]] V4 fun e V5 => ∃ v25 : Bool, e = .returned (.bool v25) ∧
 (v25 = true →
 (K.inR .i64 (v13 + (1 : Int))) ∧ J2 [.bool v12, .int .i64 (v13 + (1 : Int))] V5) ∧ (¬ (v25 = true) →
 R (.returned (.bool false)) V5)) ∧ (¬ (v19 = true) →
 R (.returned (.bool false)) V4)) ∧ (¬ (v13 < (v6.n : Int)) →
 ∃ (I : Nat → List Value → Mem → Prop) (n0 : Nat), I n0 [.bool v12, .int .i64 0] V3 ∧ ∀ n V4, ∀ v14 : Bool, ∀ v15 : Int, I n [.bool v14, .int .i64 v15] V4 → ∀ J3 : List Value → Mem → Prop, (∀ m ys V'', m < n → I m ys V'' → J3 ys V'') →
 (v15 < (v7.n : Int) →
 (¬ (v7.p = none)) ∧ ((0 : Int) ≤ v15) ∧ (v15 < (v7.n : Int)) ∧ (¬ ((ptrAdd v7.p ((v15).toNat * 5)) = none)) ∧ ∃ v16 : ByteArray, ∃ v17 : Int, ∃ v18 : Int, ∃ v19 : ByteArray, ∃ v20 : Sl, V4.rowp v7.p ((v15).toNat * 5) 5 = some [.string v16, .int .i64 v17, .int .i64 v18, .string v19, .slice v20.p v20.n v20.c] ∧
 Tri Tryz.prog 52 #[.string v16] V4 fun e V5 => ∃ v21 : Bool, e = .returned (.bool v21) ∧
 (v21 = true →
 (¬ (v7.p = none)) ∧ ((0 : Int) ≤ v15) ∧ (v15 < (v7.n : Int)) ∧ (¬ ((ptrAdd v7.p ((v15).toNat * 5)) = none)) ∧ ∃ v22 : ByteArray, ∃ v23 : Int, ∃ v24 : Int, ∃ v25 : ByteArray, ∃ v26 : Sl, V5.rowp v7.p ((v15).toNat * 5) 5 = some [.string v22, .int .i64 v23, .int .i64 v24, .string v25, .slice v26.p v26.n v26.c] ∧
 Tri Tryz.prog 17 #[.agg #[.int .i64 v23, .int .i64 v24, .string v25, .slice v26.p v26.n v26.c]] V5 fun e V6 => ∃ v27 : Bool, e = .returned (.bool v27) ∧
 (v27 = true →
 (K.inR .i64 (v15 + (1 : Int))) ∧ J3 [.bool v14, .int .i64 (v15 + (1 : Int))] V6) ∧ (¬ (v27 = true) →
 R (.returned (.bool false)) V6)) ∧ (¬ (v21 = true) →
 R (.returned (.bool false)) V5)) ∧ (¬ (v15 < (v7.n : Int)) →
 R (.returned (.bool true)) V4))))
theorem x55 {v0 : ByteArray} {v1 : Sl} {v2 : Sl} {v3 : Sl} {v4 : Sl} {v5 : Sl} {v6 : Sl} {v7 : Sl} {V : Mem} {R : Ending → Mem → Prop} (h : w55 v0 v1 v2 v3 v4 v5 v6 v7 V R) : Tri Tryz.prog 55 #[.agg #[.string v0, .slice v1.p v1.n v1.c, .slice v2.p v2.n v2.c, .slice v3.p v3.n v3.c, .slice v4.p v4.n v4.c, .slice v5.p v5.n v5.c, .slice v6.p v6.n v6.c, .slice v7.p v7.n v7.c]] V R :=
 tri_dx (H := { N := 131, early := [], loops := [], keep := [0, 1, 2, 3, 4, 5, 6, 7, 12, 45, 50, 80, 85, 105, 110, 130] }) Tryz.func55 [.agg (.cons (.var .s 0) (.cons (.var .sl 1) (.cons (.var .sl 2) (.cons (.var .sl 3) (.cons (.var .sl 4) (.cons (.var .sl 5) (.cons (.var .sl 6) (.cons (.var .sl 7) .nil))))))))] [.string v0, .slice v1.p v1.n v1.c, .slice v2.p v2.n v2.c, .slice v3.p v3.n v3.c, .slice v4.p v4.n v4.c, .slice v5.p v5.n v5.c, .slice v6.p v6.n v6.c, .slice v7.p v7.n v7.c] rfl (by kernel_rfl) h
def w56 (v0 : ByteArray) (v1 : Sl) (v2 : Sl) (v3 : Sl) (v4 : Sl) (v5 : Sl) (v6 : Sl) (v7 : Sl) (V : Mem) (R : Ending → Mem → Prop) : Prop :=
 ∃ (I : Nat → List Value → Mem → Prop) (n0 : Nat), I n0 [.string (strB []), .int .i64 0, .int .i64 0] V ∧ ∀ n V1, ∀ v8 : ByteArray, ∀ v9 : Int, ∀ v10 : Int, I n [.string v8, .int .i64 v9, .int .i64 v10] V1 → ∀ J0 : List Value → Mem → Prop, (∀ m ys V'', m < n → I m ys V'' → J0 ys V'') →
 (v10 < (v1.n : Int) →
 (¬ (v1.p = none)) ∧ ((0 : Int) ≤ v10) ∧ (v10 < (v1.n : Int)) ∧ (¬ ((ptrAdd v1.p ((v10).toNat * 2)) = none)) ∧ ∃ v11 : ByteArray, ∃ v12 : Sl, V1.rowp v1.p ((v10).toNat * 2) 2 = some [.string v11, .slice v12.p v12.n v12.c] ∧
 Tri Tryz.prog 79 #[.agg #[.string v0, .slice v1.p v1.n v1.c, .slice v2.p v2.n v2.c, .slice v3.p v3.n v3.c, .slice v4.p v4.n v4.c, .slice v5.p v5.n v5.c, .slice v6.p v6.n v6.c, .slice v7.p v7.n v7.c], .string v11] V1 fun e V2 => ∃ v13 : Int, e = .returned (.int .i64 v13) ∧
 (v13 < v10 →
 (¬ (v1.p = none)) ∧ ((0 : Int) ≤ v10) ∧ (v10 < (v1.n : Int)) ∧ (¬ ((ptrAdd v1.p ((v10).toNat * 2)) = none)) ∧ ∃ v14 : ByteArray, ∃ v15 : Sl, V2.rowp v1.p ((v10).toNat * 2) 2 = some [.string v14, .slice v15.p v15.n v15.c] ∧
 R (.returned (.tuple #[.string v14, .int .i64 10])) V2) ∧ (¬ (v13 < v10) →
 (K.inR .i64 (v10 + (1 : Int))) ∧ J0 [.string v8, .int .i64 v9, .int .i64 (v10 + (1 : Int))] V2)) ∧ (¬ (v10 < (v1.n : Int)) →
 ∃ (I : Nat → List Value → Mem → Prop) (n0 : Nat), I n0 [.string v8, .int .i64 v9, .int .i64 0] V1 ∧ ∀ n V2, ∀ v11 : ByteArray, ∀ v12 : Int, ∀ v13 : Int, I n [.string v11, .int .i64 v12, .int .i64 v13] V2 → ∀ J1 : List Value → Mem → Prop, (∀ m ys V'', m < n → I m ys V'' → J1 ys V'') →
 (v13 < (v1.n : Int) →
 (¬ (v1.p = none)) ∧ ((0 : Int) ≤ v13) ∧ (v13 < (v1.n : Int)) ∧ (¬ ((ptrAdd v1.p ((v13).toNat * 2)) = none)) ∧ ∃ v14 : ByteArray, ∃ v15 : Sl, V2.rowp v1.p ((v13).toNat * 2) 2 = some [.string v14, .slice v15.p v15.n v15.c] ∧
 Tri Tryz.prog 105 #[.agg #[.string v0, .slice v1.p v1.n v1.c, .slice v2.p v2.n v2.c, .slice v3.p v3.n v3.c, .slice v4.p v4.n v4.c, .slice v5.p v5.n v5.c, .slice v6.p v6.n v6.c, .slice v7.p v7.n v7.c], .slice v15.p v15.n v15.c] V2 fun e V3 => ∃ v16 : Int, e = .returned (.int .i64 v16) ∧
 (v16 = (0 : Int) →
 (K.inR .i64 (v13 + (1 : Int))) ∧ J1 [.string v11, .int .i64 v12, .int .i64 (v13 + (1 : Int))] V3) ∧ (¬ (v16 = (0 : Int)) →
 (¬ (v1.p = none)) ∧ ((0 : Int) ≤ v13) ∧ (v13 < (v1.n : Int)) ∧ (¬ ((ptrAdd v1.p ((v13).toNat * 2)) = none)) ∧ ∃ v17 : ByteArray, ∃ v18 : Sl, V3.rowp v1.p ((v13).toNat * 2) 2 = some [.string v17, .slice v18.p v18.n v18.c] ∧
 R (.returned (.tuple #[.string v17, .int .i64 v16])) V3)) ∧ (¬ (v13 < (v1.n : Int)) →
 ∃ (I : Nat → List Value → Mem → Prop) (n0 : Nat), I n0 [.string v11, .int .i64 v12, .int .i64 0] V2 ∧ ∀ n V3, ∀ v14 : ByteArray, ∀ v15 : Int, ∀ v16 : Int, I n [.string v14, .int .i64 v15, .int .i64 v16] V3 → ∀ J2 : List Value → Mem → Prop, (∀ m ys V'', m < n → I m ys V'' → J2 ys V'') →
 (v16 < (v2.n : Int) →
 Tri Tryz.prog 106 #[.agg #[.string v0, .slice v1.p v1.n v1.c, .slice v2.p v2.n v2.c, .slice v3.p v3.n v3.c, .slice v4.p v4.n v4.c, .slice v5.p v5.n v5.c, .slice v6.p v6.n v6.c, .slice v7.p v7.n v7.c], .slice v2.p v2.n v2.c, .int .i64 v16] V3 fun e V4 => ∃ v17 : Int, e = .returned (.int .i64 v17) ∧
 (v17 = (0 : Int) →
 (K.inR .i64 (v16 + (1 : Int))) ∧ J2 [.string v14, .int .i64 v15, .int .i64 (v16 + (1 : Int))] V4) ∧ (¬ (v17 = (0 : Int)) →
 (¬ (v2.p = none)) ∧ ((0 : Int) ≤ v16) ∧ (v16 < (v2.n : Int)) ∧ (¬ ((ptrAdd v2.p ((v16).toNat * 2)) = none)) ∧ ∃ v18 : ByteArray, ∃ v19 : ByteArray, V4.rowp v2.p ((v16).toNat * 2) 2 = some [.string v18, .string v19] ∧
 R (.returned (.tuple #[.string v18, .int .i64 v17])) V4)) ∧ (¬ (v16 < (v2.n : Int)) →
 R (.returned (.tuple #[.string (strB []), .int .i64 0])) V3)))
theorem x56 {v0 : ByteArray} {v1 : Sl} {v2 : Sl} {v3 : Sl} {v4 : Sl} {v5 : Sl} {v6 : Sl} {v7 : Sl} {V : Mem} {R : Ending → Mem → Prop} (h : w56 v0 v1 v2 v3 v4 v5 v6 v7 V R) : Tri Tryz.prog 56 #[.agg #[.string v0, .slice v1.p v1.n v1.c, .slice v2.p v2.n v2.c, .slice v3.p v3.n v3.c, .slice v4.p v4.n v4.c, .slice v5.p v5.n v5.c, .slice v6.p v6.n v6.c, .slice v7.p v7.n v7.c]] V R :=
 tri_dx (H := { N := 77, early := [], loops := [], keep := [0, 1, 2, 3, 4, 5, 6, 7, 8, 13, 25, 36, 48, 60, 69] }) Tryz.func56 [.agg (.cons (.var .s 0) (.cons (.var .sl 1) (.cons (.var .sl 2) (.cons (.var .sl 3) (.cons (.var .sl 4) (.cons (.var .sl 5) (.cons (.var .sl 6) (.cons (.var .sl 7) .nil))))))))] [.string v0, .slice v1.p v1.n v1.c, .slice v2.p v2.n v2.c, .slice v3.p v3.n v3.c, .slice v4.p v4.n v4.c, .slice v5.p v5.n v5.c, .slice v6.p v6.n v6.c, .slice v7.p v7.n v7.c] rfl (by kernel_rfl) h
def w57 (v0 : ByteArray) (v1 : Sl) (v2 : Sl) (v3 : Sl) (v4 : Sl) (v5 : Sl) (v6 : Sl) (v7 : Sl) (V : Mem) (R : Ending → Mem → Prop) : Prop :=
 ∃ (I : Nat → List Value → Mem → Prop) (n0 : Nat), I n0 [.string (strB []), .int .i64 0, .int .i64 0] V ∧ ∀ n V1, ∀ v8 : ByteArray, ∀ v9 : Int, ∀ v10 : Int, I n [.string v8, .int .i64 v9, .int .i64 v10] V1 → ∀ J0 : List Value → Mem → Prop, (∀ m ys V'', m < n → I m ys V'' → J0 ys V'') →
 (v10 < (v3.n : Int) →
 (¬ (v3.p = none)) ∧ ((0 : Int) ≤ v10) ∧ (v10 < (v3.n : Int)) ∧ ∃ v11 : ByteArray, ∃ v12 : Sl, ∃ v13 : ByteArray, ∃ v14 : Sl, ∃ v15 : Sl, V1.rowp v3.p ((v10).toNat * 5) 5 = some [.string v11, .slice v12.p v12.n v12.c, .string v13, .slice v14.p v14.n v14.c, .slice v15.p v15.n v15.c] ∧
 Tri Tryz.prog 19 #[.agg #[.string v0, .slice v1.p v1.n v1.c, .slice v2.p v2.n v2.c, .slice v3.p v3.n v3.c, .slice v4.p v4.n v4.c, .slice v5.p v5.n v5.c, .slice v6.p v6.n v6.c, .slice v7.p v7.n v7.c], .string v11] V1 fun e V2 => ∃ v16 : Int, e = .returned (.int .i64 v16) ∧
 (v16 < v10 →
 R (.returned (.tuple #[.string v11, .int .i64 10])) V2) ∧ (¬ (v16 < v10) →
 PubT [] 67 V2 fun v17 V3 =>
 GenK Tryz.prog (.call { callee := (.builtin .append), args := #[.tmp 28, .tmp 30], argTypes := #[23, 23] }) 23 (gval [(28, (.c3 .slc (.u (.poff 0) (.var .p 17)) (.int .i64 0) (.int .i64 0))), (30, (.var .sl 12))] [.string v0, .slice v1.p v1.n v1.c, .slice v2.p v2.n v2.c, .slice v3.p v3.n v3.c, .slice v4.p v4.n v4.c, .slice v5.p v5.n v5.c, .slice v6.p v6.n v6.c, .slice v7.p v7.n v7.c, .string v8, .int .i64 v9, .int .i64 v10, .string v11, .slice v12.p v12.n v12.c, .string v13, .slice v14.p v14.n v14.c, .slice v15.p v15.n v15.c, .int .i64 v16, .pointer v17]) V3 fun x V4 => ∃ v18 : Sl, x = (.slice v18.p v18.n v18.c) ∧
 GenK Tryz.prog (.call { callee := (.builtin .append), args := #[.tmp 31, .tmp 33], argTypes := #[23, 23] }) 23 (gval [(31, (.var .sl 18)), (33, (.var .sl 14))] [.string v0, .slice v1.p v1.n v1.c, .slice v2.p v2.n v2.c, .slice v3.p v3.n v3.c, .slice v4.p v4.n v4.c, .slice v5.p v5.n v5.c, .slice v6.p v6.n v6.c, .slice v7.p v7.n v7.c, .string v8, .int .i64 v9, .int .i64 v10, .string v11, .slice v12.p v12.n v12.c, .string v13, .slice v14.p v14.n v14.c, .slice v15.p v15.n v15.c, .int .i64 v16, .pointer v17, .slice v18.p v18.n v18.c]) V4 fun x V5 => ∃ v19 : Sl, x = (.slice v19.p v19.n v19.c) ∧
 Tri Tryz.prog 105 #[.agg #[.string v0, .slice v1.p v1.n v1.c, .slice v2.p v2.n v2.c, .slice v3.p v3.n v3.c, .slice v4.p v4.n v4.c, .slice v5.p v5.n v5.c, .slice v6.p v6.n v6.c, .slice v7.p v7.n v7.c], .slice v19.p v19.n v19.c] V5 fun e V6 => ∃ v20 : Int, e = .returned (.int .i64 v20) ∧
 (v20 = (0 : Int) →
 (v13 = (strB []) →
 (K.inR .i64 (v10 + (1 : Int))) ∧ J0 [.string v8, .int .i64 v9, .int .i64 (v10 + (1 : Int))] V6) ∧ (¬ (v13 = (strB [])) →
 Tri Tryz.prog 107 #[.agg #[.string v0, .slice v1.p v1.n v1.c, .slice v2.p v2.n v2.c, .slice v3.p v3.n v3.c, .slice v4.p v4.n v4.c, .slice v5.p v5.n v5.c, .slice v6.p v6.n v6.c, .slice v7.p v7.n v7.c], .string v13] V6 fun e V7 => ∃ v21 : Bool, e = .returned (.bool v21) ∧
 (v21 = true →
 (K.inR .i64 (v10 + (1 : Int))) ∧ J0 [.string v8, .int .i64 v9, .int .i64 (v10 + (1 : Int))] V7) ∧ (¬ (v21 = true) →
 R (.returned (.tuple #[.string v11, .int .i64 9])) V7))) ∧ (¬ (v20 = (0 : Int)) →
 R (.returned (.tuple #[.string v11, .int .i64 v20])) V6))) ∧ (¬ (v10 < (v3.n : Int)) →
 R (.returned (.tuple #[.string (strB []), .int .i64 0])) V1)
theorem x57 {v0 : ByteArray} {v1 : Sl} {v2 : Sl} {v3 : Sl} {v4 : Sl} {v5 : Sl} {v6 : Sl} {v7 : Sl} {V : Mem} {R : Ending → Mem → Prop} (h : w57 v0 v1 v2 v3 v4 v5 v6 v7 V R) : Tri Tryz.prog 57 #[.agg #[.string v0, .slice v1.p v1.n v1.c, .slice v2.p v2.n v2.c, .slice v3.p v3.n v3.c, .slice v4.p v4.n v4.c, .slice v5.p v5.n v5.c, .slice v6.p v6.n v6.c, .slice v7.p v7.n v7.c]] V R :=
 tri_dx (H := { N := 53, early := [], loops := [], keep := [0, 1, 2, 3, 4, 5, 6, 11, 24, 37, 50] }) Tryz.func57 [.agg (.cons (.var .s 0) (.cons (.var .sl 1) (.cons (.var .sl 2) (.cons (.var .sl 3) (.cons (.var .sl 4) (.cons (.var .sl 5) (.cons (.var .sl 6) (.cons (.var .sl 7) .nil))))))))] [.string v0, .slice v1.p v1.n v1.c, .slice v2.p v2.n v2.c, .slice v3.p v3.n v3.c, .slice v4.p v4.n v4.c, .slice v5.p v5.n v5.c, .slice v6.p v6.n v6.c, .slice v7.p v7.n v7.c] rfl (by kernel_rfl) h
def w58 (v0 : ByteArray) (v1 : Sl) (v2 : Sl) (v3 : Sl) (v4 : Sl) (v5 : Sl) (v6 : Sl) (v7 : Sl) (V : Mem) (R : Ending → Mem → Prop) : Prop :=
 ∃ (I : Nat → List Value → Mem → Prop) (n0 : Nat), I n0 [.string (strB []), .int .i64 0, .int .i64 0] V ∧ ∀ n V1, ∀ v8 : ByteArray, ∀ v9 : Int, ∀ v10 : Int, I n [.string v8, .int .i64 v9, .int .i64 v10] V1 → ∀ J0 : List Value → Mem → Prop, (∀ m ys V'', m < n → I m ys V'' → J0 ys V'') →
 (v10 < (v4.n : Int) →
 (¬ (v4.p = none)) ∧ ((0 : Int) ≤ v10) ∧ (v10 < (v4.n : Int)) ∧ (¬ ((ptrAdd v4.p ((v10).toNat * 7)) = none)) ∧ ∃ v11 : ByteArray, ∃ v12 : ByteArray, ∃ v13 : Int, ∃ v14 : Int, ∃ v15 : Int, ∃ v16 : ByteArray, ∃ v17 : Sl, V1.rowp v4.p ((v10).toNat * 7) 7 = some [.string v11, .string v12, .int .i64 v13, .int .i64 v14, .int .i64 v15, .string v16, .slice v17.p v17.n v17.c] ∧
 Tri Tryz.prog 108 #[.agg #[.string v0, .slice v1.p v1.n v1.c, .slice v2.p v2.n v2.c, .slice v3.p v3.n v3.c, .slice v4.p v4.n v4.c, .slice v5.p v5.n v5.c, .slice v6.p v6.n v6.c, .slice v7.p v7.n v7.c], .string v11] V1 fun e V2 => ∃ v18 : Int, e = .returned (.int .i64 v18) ∧
 (v18 < v10 →
 (¬ (v4.p = none)) ∧ ((0 : Int) ≤ v10) ∧ (v10 < (v4.n : Int)) ∧ (¬ ((ptrAdd v4.p ((v10).toNat * 7)) = none)) ∧ ∃ v19 : ByteArray, ∃ v20 : ByteArray, ∃ v21 : Int, ∃ v22 : Int, ∃ v23 : Int, ∃ v24 : ByteArray, ∃ v25 : Sl, V2.rowp v4.p ((v10).toNat * 7) 7 = some [.string v19, .string v20, .int .i64 v21, .int .i64 v22, .int .i64 v23, .string v24, .slice v25.p v25.n v25.c] ∧
 R (.returned (.tuple #[.string v19, .int .i64 10])) V2) ∧ (¬ (v18 < v10) →
 (¬ (v4.p = none)) ∧ ((0 : Int) ≤ v10) ∧ (v10 < (v4.n : Int)) ∧ (¬ ((ptrAdd v4.p ((v10).toNat * 7)) = none)) ∧ ∃ v19 : ByteArray, ∃ v20 : ByteArray, ∃ v21 : Int, ∃ v22 : Int, ∃ v23 : Int, ∃ v24 : ByteArray, ∃ v25 : Sl, V2.rowp v4.p ((v10).toNat * 7) 7 = some [.string v19, .string v20, .int .i64 v21, .int .i64 v22, .int .i64 v23, .string v24, .slice v25.p v25.n v25.c] ∧
 Tri Tryz.prog 36 #[.agg #[.string v0, .slice v1.p v1.n v1.c, .slice v2.p v2.n v2.c, .slice v3.p v3.n v3.c, .slice v4.p v4.n v4.c, .slice v5.p v5.n v5.c, .slice v6.p v6.n v6.c, .slice v7.p v7.n v7.c], .string v20] V2 fun e V3 => ∃ v26 : Bool, e = .returned (.bool v26) ∧
 (v26 = true →
 (K.inR .i64 (v10 + (1 : Int))) ∧ J0 [.string v8, .int .i64 v9, .int .i64 (v10 + (1 : Int))] V3) ∧ (¬ (v26 = true) →
 (¬ (v4.p = none)) ∧ ((0 : Int) ≤ v10) ∧ (v10 < (v4.n : Int)) ∧ (¬ ((ptrAdd v4.p ((v10).toNat * 7)) = none)) ∧ ∃ v27 : ByteArray, ∃ v28 : ByteArray, ∃ v29 : Int, ∃ v30 : Int, ∃ v31 : Int, ∃ v32 : ByteArray, ∃ v33 : Sl, V3.rowp v4.p ((v10).toNat * 7) 7 = some [.string v27, .string v28, .int .i64 v29, .int .i64 v30, .int .i64 v31, .string v32, .slice v33.p v33.n v33.c] ∧
 R (.returned (.tuple #[.string v27, .int .i64 9])) V3))) ∧ (¬ (v10 < (v4.n : Int)) →
 ∃ (I : Nat → List Value → Mem → Prop) (n0 : Nat), I n0 [.string v8, .int .i64 v9, .int .i64 0] V1 ∧ ∀ n V2, ∀ v11 : ByteArray, ∀ v12 : Int, ∀ v13 : Int, I n [.string v11, .int .i64 v12, .int .i64 v13] V2 → ∀ J1 : List Value → Mem → Prop, (∀ m ys V'', m < n → I m ys V'' → J1 ys V'') →
 (v13 < (v5.n : Int) →
 ∃ (I : Nat → List Value → Mem → Prop) (n0 : Nat), I n0 [.string v11, .int .i64 v12, .int .i64 0] V2 ∧ ∀ n V3, ∀ v14 : ByteArray, ∀ v15 : Int, ∀ v16 : Int, I n [.string v14, .int .i64 v15, .int .i64 v16] V3 → ∀ J2 : List Value → Mem → Prop, (∀ m ys V'', m < n → I m ys V'' → J2 ys V'') →
 (v16 < v13 →
 (¬ (v5.p = none)) ∧ ((0 : Int) ≤ v16) ∧ (v16 < (v5.n : Int)) ∧ (¬ ((ptrAdd v5.p ((v16).toNat * 6)) = none)) ∧ ∃ v17 : ByteArray, ∃ v18 : ByteArray, ∃ v19 : Int, ∃ v20 : Int, ∃ v21 : ByteArray, ∃ v22 : Sl, V3.rowp v5.p ((v16).toNat * 6) 6 = some [.string v17, .string v18, .int .i64 v19, .int .i64 v20, .string v21, .slice v22.p v22.n v22.c] ∧
 (¬ (v5.p = none)) ∧ ((0 : Int) ≤ v13) ∧ (v13 < (v5.n : Int)) ∧ (¬ ((ptrAdd v5.p ((v13).toNat * 6)) = none)) ∧ ∃ v23 : ByteArray, ∃ v24 : ByteArray, ∃ v25 : Int, ∃ v26 : Int, ∃ v27 : ByteArray, ∃ v28 : Sl, V3.rowp v5.p ((v13).toNat * 6) 6 = some [.string v23, .string v24, .int .i64 v25, .int .i64 v26, .string v27, .slice v28.p v28.n v28.c] ∧
 (v17 = v23 →
 (¬ (v5.p = none)) ∧ ((0 : Int) ≤ v13) ∧ (v13 < (v5.n : Int)) ∧ (¬ ((ptrAdd v5.p ((v13).toNat * 6)) = none)) ∧ ∃ v29 : ByteArray, ∃ v30 : ByteArray, ∃ v31 : Int, ∃ v32 : Int, ∃ v33 : ByteArray, ∃ v34 : Sl, V3.rowp v5.p ((v13).toNat * 6) 6 = some [.string v29, .string v30, .int .i64 v31, .int .i64 v32, .string v33, .slice v34.p v34.n v34.c] ∧
 R (.returned (.tuple #[.string v29, .int .i64 10])) V3) ∧ (¬ (v17 = v23) →
 (K.inR .i64 (v16 + (1 : Int))) ∧ J2 [.string v14, .int .i64 v15, .int .i64 (v16 + (1 : Int))] V3)) ∧ (¬ (v16 < v13) →
 (¬ (v5.p = none)) ∧ ((0 : Int) ≤ v13) ∧ (v13 < (v5.n : Int)) ∧ (¬ ((ptrAdd v5.p ((v13).toNat * 6)) = none)) ∧ ∃ v17 : ByteArray, ∃ v18 : ByteArray, ∃ v19 : Int, ∃ v20 : Int, ∃ v21 : ByteArray, ∃ v22 : Sl, V3.rowp v5.p ((v13).toNat * 6) 6 = some [.string v17, .string v18, .int .i64 v19, .int .i64 v20, .string v21, .slice v22.p v22.n v22.c] ∧
 (v18 = (strB []) →
 (K.inR .i64 (v13 + (1 : Int))) ∧ J1 [.string v14, .int .i64 v15, .int .i64 (v13 + (1 : Int))] V3) ∧ (¬ (v18 = (strB [])) →
 (¬ (v5.p = none)) ∧ ((0 : Int) ≤ v13) ∧ (v13 < (v5.n : Int)) ∧ (¬ ((ptrAdd v5.p ((v13).toNat * 6)) = none)) ∧ ∃ v23 : ByteArray, ∃ v24 : ByteArray, ∃ v25 : Int, ∃ v26 : Int, ∃ v27 : ByteArray, ∃ v28 : Sl, V3.rowp v5.p ((v13).toNat * 6) 6 = some [.string v23, .string v24, .int .i64 v25, .int .i64 v26, .string v27, .slice v28.p v28.n v28.c] ∧
 Tri Tryz.prog 36 #[.agg #[.string v0, .slice v1.p v1.n v1.c, .slice v2.p v2.n v2.c, .slice v3.p v3.n v3.c, .slice v4.p v4.n v4.c, .slice v5.p v5.n v5.c, .slice v6.p v6.n v6.c, .slice v7.p v7.n v7.c], .string v24] V3 fun e V4 => ∃ v29 : Bool, e = .returned (.bool v29) ∧
 (v29 = true →
 (K.inR .i64 (v13 + (1 : Int))) ∧ J1 [.string v14, .int .i64 v15, .int .i64 (v13 + (1 : Int))] V4) ∧ (¬ (v29 = true) →
 (¬ (v5.p = none)) ∧ ((0 : Int) ≤ v13) ∧ (v13 < (v5.n : Int)) ∧ (¬ ((ptrAdd v5.p ((v13).toNat * 6)) = none)) ∧ ∃ v30 : ByteArray, ∃ v31 : ByteArray, ∃ v32 : Int, ∃ v33 : Int, ∃ v34 : ByteArray, ∃ v35 : Sl, V4.rowp v5.p ((v13).toNat * 6) 6 = some [.string v30, .string v31, .int .i64 v32, .int .i64 v33, .string v34, .slice v35.p v35.n v35.c] ∧
 R (.returned (.tuple #[.string v30, .int .i64 9])) V4)))) ∧ (¬ (v13 < (v5.n : Int)) →
 ∃ (I : Nat → List Value → Mem → Prop) (n0 : Nat), I n0 [.string v11, .int .i64 v12, .int .i64 0] V2 ∧ ∀ n V3, ∀ v14 : ByteArray, ∀ v15 : Int, ∀ v16 : Int, I n [.string v14, .int .i64 v15, .int .i64 v16] V3 → ∀ J2 : List Value → Mem → Prop, (∀ m ys V'', m < n → I m ys V'' → J2 ys V'') →
 (v16 < (v6.n : Int) →
 (¬ (v6.p = none)) ∧ ((0 : Int) ≤ v16) ∧ (v16 < (v6.n : Int)) ∧ (¬ ((ptrAdd v6.p ((v16).toNat * 5)) = none)) ∧ ∃ v17 : ByteArray, ∃ v18 : Int, ∃ v19 : Int, ∃ v20 : ByteArray, ∃ v21 : Sl, V3.rowp v6.p ((v16).toNat * 5) 5 = some [.string v17, .int .i64 v18, .int .i64 v19, .string v20, .slice v21.p v21.n v21.c] ∧
 (v17 = (strB []) →
 (K.inR .i64 (v16 + (1 : Int))) ∧ J2 [.string v14, .int .i64 v15, .int .i64 (v16 + (1 : Int))] V3) ∧ (¬ (v17 = (strB [])) →
 (¬ (v6.p = none)) ∧ ((0 : Int) ≤ v16) ∧ (v16 < (v6.n : Int)) ∧ (¬ ((ptrAdd v6.p ((v16).toNat * 5)) = none)) ∧ ∃ v22 : ByteArray, ∃ v23 : Int, ∃ v24 : Int, ∃ v25 : ByteArray, ∃ v26 : Sl, V3.rowp v6.p ((v16).toNat * 5) 5 = some [.string v22, .int .i64 v23, .int .i64 v24, .string v25, .slice v26.p v26.n v26.c] ∧
 Tri Tryz.prog 36 #[.agg #[.string v0, .slice v1.p v1.n v1.c, .slice v2.p v2.n v2.c, .slice v3.p v3.n v3.c, .slice v4.p v4.n v4.c, .slice v5.p v5.n v5.c, .slice v6.p v6.n v6.c, .slice v7.p v7.n v7.c], .string v22] V3 fun e V4 => ∃ v27 : Bool, e = .returned (.bool v27) ∧
 (v27 = true →
 (K.inR .i64 (v16 + (1 : Int))) ∧ J2 [.string v14, .int .i64 v15, .int .i64 (v16 + (1 : Int))] V4) ∧ (¬ (v27 = true) →
 R (.returned (.tuple #[.string (strB [112, 111, 116, 101, 110, 116, 105, 97, 108]), .int .i64 9])) V4))) ∧ (¬ (v16 < (v6.n : Int)) →
 ∃ (I : Nat → List Value → Mem → Prop) (n0 : Nat), I n0 [.string v14, .int .i64 v15, .int .i64 0] V3 ∧ ∀ n V4, ∀ v17 : ByteArray, ∀ v18 : Int, ∀ v19 : Int, I n [.string v17, .int .i64 v18, .int .i64 v19] V4 → ∀ J3 : List Value → Mem → Prop, (∀ m ys V'', m < n → I m ys V'' → J3 ys V'') →
 (v19 < (v7.n : Int) →
 (¬ (v7.p = none)) ∧ ((0 : Int) ≤ v19) ∧ (v19 < (v7.n : Int)) ∧ (¬ ((ptrAdd v7.p ((v19).toNat * 5)) = none)) ∧ ∃ v20 : ByteArray, ∃ v21 : Int, ∃ v22 : Int, ∃ v23 : ByteArray, ∃ v24 : Sl, V4.rowp v7.p ((v19).toNat * 5) 5 = some [.string v20, .int .i64 v21, .int .i64 v22, .string v23, .slice v24.p v24.n v24.c] ∧
 Tri Tryz.prog 19 #[.agg #[.string v0, .slice v1.p v1.n v1.c, .slice v2.p v2.n v2.c, .slice v3.p v3.n v3.c, .slice v4.p v4.n v4.c, .slice v5.p v5.n v5.c, .slice v6.p v6.n v6.c, .slice v7.p v7.n v7.c], .string v20] V4 fun e V5 => ∃ v25 : Int, e = .returned (.int .i64 v25) ∧
 (v25 < (0 : Int) →
 (¬ (v7.p = none)) ∧ ((0 : Int) ≤ v19) ∧ (v19 < (v7.n : Int)) ∧ (¬ ((ptrAdd v7.p ((v19).toNat * 5)) = none)) ∧ ∃ v26 : ByteArray, ∃ v27 : Int, ∃ v28 : Int, ∃ v29 : ByteArray, ∃ v30 : Sl, V5.rowp v7.p ((v19).toNat * 5) 5 = some [.string v26, .int .i64 v27, .int .i64 v28, .string v29, .slice v30.p v30.n v30.c] ∧
 R (.returned (.tuple #[.string v26, .int .i64 9])) V5) ∧ (¬ (v25 < (0 : Int)) →
 ∃ (I : Nat → List Value → Mem → Prop) (n0 : Nat), I n0 [.string v17, .int .i64 v18, .int .i64 0] V5 ∧ ∀ n V6, ∀ v26 : ByteArray, ∀ v27 : Int, ∀ v28 : Int, I n [.string v26, .int .i64 v27, .int .i64 v28] V6 → ∀ J4 : List Value → Mem → Prop, (∀ m ys V'', m < n → I m ys V'' → J4 ys V'') →
 (v28 < v19 →
 (¬ (v7.p = none)) ∧ ((0 : Int) ≤ v28) ∧ (v28 < (v7.n : Int)) ∧ (¬ ((ptrAdd v7.p ((v28).toNat * 5)) = none)) ∧ ∃ v29 : ByteArray, ∃ v30 : Int, ∃ v31 : Int, ∃ v32 : ByteArray, ∃ v33 : Sl, V6.rowp v7.p ((v28).toNat * 5) 5 = some [.string v29, .int .i64 v30, .int .i64 v31, .string v32, .slice v33.p v33.n v33.c] ∧
 (¬ (v7.p = none)) ∧ ((0 : Int) ≤ v19) ∧ (v19 < (v7.n : Int)) ∧ (¬ ((ptrAdd v7.p ((v19).toNat * 5)) = none)) ∧ ∃ v34 : ByteArray, ∃ v35 : Int, ∃ v36 : Int, ∃ v37 : ByteArray, ∃ v38 : Sl, V6.rowp v7.p ((v19).toNat * 5) 5 = some [.string v34, .int .i64 v35, .int .i64 v36, .string v37, .slice v38.p v38.n v38.c] ∧
 (v29 = v34 →
 (¬ (v7.p = none)) ∧ ((0 : Int) ≤ v19) ∧ (v19 < (v7.n : Int)) ∧ (¬ ((ptrAdd v7.p ((v19).toNat * 5)) = none)) ∧ ∃ v39 : ByteArray, ∃ v40 : Int, ∃ v41 : Int, ∃ v42 : ByteArray, ∃ v43 : Sl, V6.rowp v7.p ((v19).toNat * 5) 5 = some [.string v39, .int .i64 v40, .int .i64 v41, .string v42, .slice v43.p v43.n v43.c] ∧
 R (.returned (.tuple #[.string v39, .int .i64 10])) V6) ∧ (¬ (v29 = v34) →
 (K.inR .i64 (v28 + (1 : Int))) ∧ J4 [.string v26, .int .i64 v27, .int .i64 (v28 + (1 : Int))] V6)) ∧ (¬ (v28 < v19) →
 (K.inR .i64 (v19 + (1 : Int))) ∧ J3 [.string v26, .int .i64 v27, .int .i64 (v19 + (1 : Int))] V6))) ∧ (¬ (v19 < (v7.n : Int)) →
 R (.returned (.tuple #[.string (strB []), .int .i64 0])) V4))))
theorem x58 {v0 : ByteArray} {v1 : Sl} {v2 : Sl} {v3 : Sl} {v4 : Sl} {v5 : Sl} {v6 : Sl} {v7 : Sl} {V : Mem} {R : Ending → Mem → Prop} (h : w58 v0 v1 v2 v3 v4 v5 v6 v7 V R) : Tri Tryz.prog 58 #[.agg #[.string v0, .slice v1.p v1.n v1.c, .slice v2.p v2.n v2.c, .slice v3.p v3.n v3.c, .slice v4.p v4.n v4.c, .slice v5.p v5.n v5.c, .slice v6.p v6.n v6.c, .slice v7.p v7.n v7.c]] V R :=
 tri_dx (H := { N := 174, early := [], loops := [], keep := [0, 1, 2, 3, 4, 5, 6, 7, 8, 9, 14, 26, 41, 52, 57, 72, 96, 107, 127, 132, 143, 152, 167] }) Tryz.func58 [.agg (.cons (.var .s 0) (.cons (.var .sl 1) (.cons (.var .sl 2) (.cons (.var .sl 3) (.cons (.var .sl 4) (.cons (.var .sl 5) (.cons (.var .sl 6) (.cons (.var .sl 7) .nil))))))))] [.string v0, .slice v1.p v1.n v1.c, .slice v2.p v2.n v2.c, .slice v3.p v3.n v3.c, .slice v4.p v4.n v4.c, .slice v5.p v5.n v5.c, .slice v6.p v6.n v6.c, .slice v7.p v7.n v7.c] rfl (by kernel_rfl) h
def w59 (v0 : ByteArray) (v1 : Sl) (v2 : Sl) (v3 : Sl) (v4 : Sl) (v5 : Sl) (v6 : Sl) (v7 : Sl) (v8 : ByteArray) (v9 : Sl) (v10 : ByteArray) (v11 : Sl) (v12 : Sl) (v13 : Sl) (v14 : Int) (V : Mem) (R : Ending → Mem → Prop) : Prop :=
 ∃ (I : Nat → List Value → Mem → Prop) (n0 : Nat), I n0 [.int .i64 0, .int .i64 0, .int .i64 v14, .int .i64 0] V ∧ ∀ n V1, ∀ v15 : Int, ∀ v16 : Int, ∀ v17 : Int, ∀ v18 : Int, I n [.int .i64 v15, .int .i64 v16, .int .i64 v17, .int .i64 v18] V1 → ∀ J0 : List Value → Mem → Prop, (∀ m ys V'', m < n → I m ys V'' → J0 ys V'') →
 (v18 < (v13.n : Int) →
 (¬ (v13.p = none)) ∧ ((0 : Int) ≤ v18) ∧ (v18 < (v13.n : Int)) ∧ ∃ v19 : Int, ∃ v20 : ByteArray, ∃ v21 : Sl, ∃ v22 : Sl, ∃ v23 : Sl, V1.rowp v13.p ((v18).toNat * 5) 5 = some [.int .i64 v19, .string v20, .slice v21.p v21.n v21.c, .slice v22.p v22.n v22.c, .slice v23.p v23.n v23.c] ∧
 Tri Tryz.prog 109 #[.agg #[.string v0, .slice v1.p v1.n v1.c, .slice v2.p v2.n v2.c, .slice v3.p v3.n v3.c, .slice v4.p v4.n v4.c, .slice v5.p v5.n v5.c, .slice v6.p v6.n v6.c, .slice v7.p v7.n v7.c], .agg #[.string v8, .slice v9.p v9.n v9.c, .string v10, .slice v11.p v11.n v11.c, .slice v12.p v12.n v12.c], .agg #[.int .i64 v19, .string v20, .slice v21.p v21.n v21.c, .slice v22.p v22.n v22.c, .slice v23.p v23.n v23.c]] V1 fun e V2 => ∃ v24 : Int, e = .returned (.int .i64 v24) ∧
 (v24 = (0 : Int) →
 (¬ (v13.p = none)) ∧ ((0 : Int) ≤ v18) ∧ (v18 < (v13.n : Int)) ∧ (¬ ((ptrAdd v13.p ((v18).toNat * 5)) = none)) ∧ ∃ v25 : Int, ∃ v26 : ByteArray, ∃ v27 : Sl, ∃ v28 : Sl, ∃ v29 : Sl, V2.rowp v13.p ((v18).toNat * 5) 5 = some [.int .i64 v25, .string v26, .slice v27.p v27.n v27.c, .slice v28.p v28.n v28.c, .slice v29.p v29.n v29.c] ∧
 (K.inR .i64 (v17 + (1 : Int))) ∧ Tri Tryz.prog 59 #[.agg #[.string v0, .slice v1.p v1.n v1.c, .slice v2.p v2.n v2.c, .slice v3.p v3.n v3.c, .slice v4.p v4.n v4.c, .slice v5.p v5.n v5.c, .slice v6.p v6.n v6.c, .slice v7.p v7.n v7.c], .agg #[.string v8, .slice v9.p v9.n v9.c, .string v10, .slice v11.p v11.n v11.c, .slice v12.p v12.n v12.c], .slice v28.p v28.n v28.c, .int .i64 (v17 + (1 : Int))] V2 fun e V3 => ∃ v30 : Int, ∃ v31 : Int, e = .returned (.tuple #[.int .i64 v30, .int .i64 v31]) ∧
 (v31 = (0 : Int) →
 (¬ (v13.p = none)) ∧ ((0 : Int) ≤ v18) ∧ (v18 < (v13.n : Int)) ∧ (¬ ((ptrAdd v13.p ((v18).toNat * 5)) = none)) ∧ ∃ v32 : Int, ∃ v33 : ByteArray, ∃ v34 : Sl, ∃ v35 : Sl, ∃ v36 : Sl, V3.rowp v13.p ((v18).toNat * 5) 5 = some [.int .i64 v32, .string v33, .slice v34.p v34.n v34.c, .slice v35.p v35.n v35.c, .slice v36.p v36.n v36.c] ∧
 Tri Tryz.prog 59 #[.agg #[.string v0, .slice v1.p v1.n v1.c, .slice v2.p v2.n v2.c, .slice v3.p v3.n v3.c, .slice v4.p v4.n v4.c, .slice v5.p v5.n v5.c, .slice v6.p v6.n v6.c, .slice v7.p v7.n v7.c], .agg #[.string v8, .slice v9.p v9.n v9.c, .string v10, .slice v11.p v11.n v11.c, .slice v12.p v12.n v12.c], .slice v36.p v36.n v36.c, .int .i64 v30] V3 fun e V4 => ∃ v37 : Int, ∃ v38 : Int, e = .returned (.tuple #[.int .i64 v37, .int .i64 v38]) ∧
 (v38 = (0 : Int) →
 (K.inR .i64 (v18 + (1 : Int))) ∧ J0 [.int .i64 v15, .int .i64 v16, .int .i64 v37, .int .i64 (v18 + (1 : Int))] V4) ∧ (¬ (v38 = (0 : Int)) →
 R (.returned (.tuple #[.int .i64 v37, .int .i64 v38])) V4)) ∧ (¬ (v31 = (0 : Int)) →
 R (.returned (.tuple #[.int .i64 v30, .int .i64 v31])) V3)) ∧ (¬ (v24 = (0 : Int)) →
 R (.returned (.tuple #[.int .i64 v17, .int .i64 v24])) V2)) ∧ (¬ (v18 < (v13.n : Int)) →
 R (.returned (.tuple #[.int .i64 v17, .int .i64 0])) V1)
theorem x59 {v0 : ByteArray} {v1 : Sl} {v2 : Sl} {v3 : Sl} {v4 : Sl} {v5 : Sl} {v6 : Sl} {v7 : Sl} {v8 : ByteArray} {v9 : Sl} {v10 : ByteArray} {v11 : Sl} {v12 : Sl} {v13 : Sl} {v14 : Int} {V : Mem} {R : Ending → Mem → Prop} (h : w59 v0 v1 v2 v3 v4 v5 v6 v7 v8 v9 v10 v11 v12 v13 v14 V R) : Tri Tryz.prog 59 #[.agg #[.string v0, .slice v1.p v1.n v1.c, .slice v2.p v2.n v2.c, .slice v3.p v3.n v3.c, .slice v4.p v4.n v4.c, .slice v5.p v5.n v5.c, .slice v6.p v6.n v6.c, .slice v7.p v7.n v7.c], .agg #[.string v8, .slice v9.p v9.n v9.c, .string v10, .slice v11.p v11.n v11.c, .slice v12.p v12.n v12.c], .slice v13.p v13.n v13.c, .int .i64 v14] V R :=
 tri_dx (H := { N := 66, early := [], loops := [], keep := [0, 1, 2, 3, 4, 5, 8, 9, 10, 11, 12, 13, 17, 28, 45, 61] }) Tryz.func59 [.agg (.cons (.var .s 0) (.cons (.var .sl 1) (.cons (.var .sl 2) (.cons (.var .sl 3) (.cons (.var .sl 4) (.cons (.var .sl 5) (.cons (.var .sl 6) (.cons (.var .sl 7) .nil)))))))), .agg (.cons (.var .s 8) (.cons (.var .sl 9) (.cons (.var .s 10) (.cons (.var .sl 11) (.cons (.var .sl 12) .nil))))), .var .sl 13, .var (.i .i64) 14] [.string v0, .slice v1.p v1.n v1.c, .slice v2.p v2.n v2.c, .slice v3.p v3.n v3.c, .slice v4.p v4.n v4.c, .slice v5.p v5.n v5.c, .slice v6.p v6.n v6.c, .slice v7.p v7.n v7.c, .string v8, .slice v9.p v9.n v9.c, .string v10, .slice v11.p v11.n v11.c, .slice v12.p v12.n v12.c, .slice v13.p v13.n v13.c, .int .i64 v14] rfl (by kernel_rfl) h
def w60 (v0 : ByteArray) (v1 : Sl) (v2 : Sl) (v3 : Sl) (v4 : Sl) (v5 : Sl) (v6 : Sl) (v7 : Sl) (V : Mem) (R : Ending → Mem → Prop) : Prop :=
 ∃ (I : Nat → List Value → Mem → Prop) (n0 : Nat), I n0 [.string (strB []), .int .i64 0, .int .i64 0] V ∧ ∀ n V1, ∀ v8 : ByteArray, ∀ v9 : Int, ∀ v10 : Int, I n [.string v8, .int .i64 v9, .int .i64 v10] V1 → ∀ J0 : List Value → Mem → Prop, (∀ m ys V'', m < n → I m ys V'' → J0 ys V'') →
 (v10 < (v4.n : Int) →
 (¬ (v4.p = none)) ∧ ((0 : Int) ≤ v10) ∧ (v10 < (v4.n : Int)) ∧ (¬ ((ptrAdd v4.p ((v10).toNat * 7)) = none)) ∧ ∃ v11 : ByteArray, ∃ v12 : ByteArray, ∃ v13 : Int, ∃ v14 : Int, ∃ v15 : Int, ∃ v16 : ByteArray, ∃ v17 : Sl, V1.rowp v4.p ((v10).toNat * 7) 7 = some [.string v11, .string v12, .int .i64 v13, .int .i64 v14, .int .i64 v15, .string v16, .slice v17.p v17.n v17.c] ∧
 (¬ (v4.p = none)) ∧ ((0 : Int) ≤ v10) ∧ (v10 < (v4.n : Int)) ∧ (¬ ((ptrAdd v4.p ((v10).toNat * 7)) = none)) ∧ ∃ v18 : ByteArray, ∃ v19 : ByteArray, ∃ v20 : Int, ∃ v21 : Int, ∃ v22 : Int, ∃ v23 : ByteArray, ∃ v24 : Sl, V1.rowp v4.p ((v10).toNat * 7) 7 = some [.string v18, .string v19, .int .i64 v20, .int .i64 v21, .int .i64 v22, .string v23, .slice v24.p v24.n v24.c] ∧
 Tri Tryz.prog 37 #[.agg #[.string v0, .slice v1.p v1.n v1.c, .slice v2.p v2.n v2.c, .slice v3.p v3.n v3.c, .slice v4.p v4.n v4.c, .slice v5.p v5.n v5.c, .slice v6.p v6.n v6.c, .slice v7.p v7.n v7.c], .string v12] V1 fun e V2 => ∃ v25 : Sl, ∃ v26 : Bool, e = .returned (.agg #[.slice v25.p v25.n v25.c, .bool v26]) ∧
 (V2.rowp (ptrAdd (ptrAdd v4.p ((v10).toNat * 7)) 3) 0 4 = some [.int .i64 v21, .int .i64 v22, .string v23, .slice v24.p v24.n v24.c]) ∧ (¬ ((ptrAdd v4.p ((v10).toNat * 7)) = none)) ∧ (¬ (v4.p = none)) ∧ ((0 : Int) ≤ v10) ∧ (v10 < (v4.n : Int)) ∧ Tri Tryz.prog 110 #[.agg #[.string v0, .slice v1.p v1.n v1.c, .slice v2.p v2.n v2.c, .slice v3.p v3.n v3.c, .slice v4.p v4.n v4.c, .slice v5.p v5.n v5.c, .slice v6.p v6.n v6.c, .slice v7.p v7.n v7.c], .agg #[.slice v25.p v25.n v25.c, .bool v26], .agg #[.int .i64 v21, .int .i64 v22, .string v23, .slice v24.p v24.n v24.c], .string (strB [105, 110, 116])] V2 fun e V3 => ∃ v27 : Int, e = .returned (.int .i64 v27) ∧
 (v27 = (0 : Int) →
 (K.inR .i64 (v10 + (1 : Int))) ∧ J0 [.string v8, .int .i64 v9, .int .i64 (v10 + (1 : Int))] V3) ∧ (¬ (v27 = (0 : Int)) →
 (¬ (v4.p = none)) ∧ ((0 : Int) ≤ v10) ∧ (v10 < (v4.n : Int)) ∧ (¬ ((ptrAdd v4.p ((v10).toNat * 7)) = none)) ∧ ∃ v28 : ByteArray, ∃ v29 : ByteArray, ∃ v30 : Int, ∃ v31 : Int, ∃ v32 : Int, ∃ v33 : ByteArray, ∃ v34 : Sl, V3.rowp v4.p ((v10).toNat * 7) 7 = some [.string v28, .string v29, .int .i64 v30, .int .i64 v31, .int .i64 v32, .string v33, .slice v34.p v34.n v34.c] ∧
 R (.returned (.tuple #[.string v28, .int .i64 v27])) V3)) ∧ (¬ (v10 < (v4.n : Int)) →
 ∃ (I : Nat → List Value → Mem → Prop) (n0 : Nat), I n0 [.string v8, .int .i64 v9, .int .i64 0] V1 ∧ ∀ n V2, ∀ v11 : ByteArray, ∀ v12 : Int, ∀ v13 : Int, I n [.string v11, .int .i64 v12, .int .i64 v13] V2 → ∀ J1 : List Value → Mem → Prop, (∀ m ys V'', m < n → I m ys V'' → J1 ys V'') →
 (v13 < (v5.n : Int) →
 (¬ (v5.p = none)) ∧ ((0 : Int) ≤ v13) ∧ (v13 < (v5.n : Int)) ∧ (¬ ((ptrAdd v5.p ((v13).toNat * 6)) = none)) ∧ ∃ v14 : ByteArray, ∃ v15 : ByteArray, ∃ v16 : Int, ∃ v17 : Int, ∃ v18 : ByteArray, ∃ v19 : Sl, V2.rowp v5.p ((v13).toNat * 6) 6 = some [.string v14, .string v15, .int .i64 v16, .int .i64 v17, .string v18, .slice v19.p v19.n v19.c] ∧
 (¬ (v5.p = none)) ∧ ((0 : Int) ≤ v13) ∧ (v13 < (v5.n : Int)) ∧ (¬ ((ptrAdd v5.p ((v13).toNat * 6)) = none)) ∧ ∃ v20 : ByteArray, ∃ v21 : ByteArray, ∃ v22 : Int, ∃ v23 : Int, ∃ v24 : ByteArray, ∃ v25 : Sl, V2.rowp v5.p ((v13).toNat * 6) 6 = some [.string v20, .string v21, .int .i64 v22, .int .i64 v23, .string v24, .slice v25.p v25.n v25.c] ∧
 Tri Tryz.prog 37 #[.agg #[.string v0, .slice v1.p v1.n v1.c, .slice v2.p v2.n v2.c, .slice v3.p v3.n v3.c, .slice v4.p v4.n v4.c, .slice v5.p v5.n v5.c, .slice v6.p v6.n v6.c, .slice v7.p v7.n v7.c], .string v15] V2 fun e V3 => ∃ v26 : Sl, ∃ v27 : Bool, e = .returned (.agg #[.slice v26.p v26.n v26.c, .bool v27]) ∧
 (V3.rowp (ptrAdd (ptrAdd v5.p ((v13).toNat * 6)) 2) 0 4 = some [.int .i64 v22, .int .i64 v23, .string v24, .slice v25.p v25.n v25.c]) ∧ (¬ ((ptrAdd v5.p ((v13).toNat * 6)) = none)) ∧ (¬ (v5.p = none)) ∧ ((0 : Int) ≤ v13) ∧ (v13 < (v5.n : Int)) ∧ Tri Tryz.prog 110 #[.agg #[.string v0, .slice v1.p v1.n v1.c, .slice v2.p v2.n v2.c, .slice v3.p v3.n v3.c, .slice v4.p v4.n v4.c, .slice v5.p v5.n v5.c, .slice v6.p v6.n v6.c, .slice v7.p v7.n v7.c], .agg #[.slice v26.p v26.n v26.c, .bool v27], .agg #[.int .i64 v22, .int .i64 v23, .string v24, .slice v25.p v25.n v25.c], .string (strB [98, 111, 111, 108])] V3 fun e V4 => ∃ v28 : Int, e = .returned (.int .i64 v28) ∧
 (v28 = (0 : Int) →
 (K.inR .i64 (v13 + (1 : Int))) ∧ J1 [.string v11, .int .i64 v12, .int .i64 (v13 + (1 : Int))] V4) ∧ (¬ (v28 = (0 : Int)) →
 (¬ (v5.p = none)) ∧ ((0 : Int) ≤ v13) ∧ (v13 < (v5.n : Int)) ∧ (¬ ((ptrAdd v5.p ((v13).toNat * 6)) = none)) ∧ ∃ v29 : ByteArray, ∃ v30 : ByteArray, ∃ v31 : Int, ∃ v32 : Int, ∃ v33 : ByteArray, ∃ v34 : Sl, V4.rowp v5.p ((v13).toNat * 6) 6 = some [.string v29, .string v30, .int .i64 v31, .int .i64 v32, .string v33, .slice v34.p v34.n v34.c] ∧
 R (.returned (.tuple #[.string v29, .int .i64 v28])) V4)) ∧ (¬ (v13 < (v5.n : Int)) →
 ∃ (I : Nat → List Value → Mem → Prop) (n0 : Nat), I n0 [.string v11, .int .i64 v12, .int .i64 0] V2 ∧ ∀ n V3, ∀ v14 : ByteArray, ∀ v15 : Int, ∀ v16 : Int, I n [.string v14, .int .i64 v15, .int .i64 v16] V3 → ∀ J2 : List Value → Mem → Prop, (∀ m ys V'', m < n → I m ys V'' → J2 ys V'') →
 (v16 < (v6.n : Int) →
 (¬ (v6.p = none)) ∧ ((0 : Int) ≤ v16) ∧ (v16 < (v6.n : Int)) ∧ (¬ ((ptrAdd v6.p ((v16).toNat * 5)) = none)) ∧ ∃ v17 : ByteArray, ∃ v18 : Int, ∃ v19 : Int, ∃ v20 : ByteArray, ∃ v21 : Sl, V3.rowp v6.p ((v16).toNat * 5) 5 = some [.string v17, .int .i64 v18, .int .i64 v19, .string v20, .slice v21.p v21.n v21.c] ∧
 (¬ (v6.p = none)) ∧ ((0 : Int) ≤ v16) ∧ (v16 < (v6.n : Int)) ∧ (¬ ((ptrAdd v6.p ((v16).toNat * 5)) = none)) ∧ ∃ v22 : ByteArray, ∃ v23 : Int, ∃ v24 : Int, ∃ v25 : ByteArray, ∃ v26 : Sl, V3.rowp v6.p ((v16).toNat * 5) 5 = some [.string v22, .int .i64 v23, .int .i64 v24, .string v25, .slice v26.p v26.n v26.c] ∧
 Tri Tryz.prog 37 #[.agg #[.string v0, .slice v1.p v1.n v1.c, .slice v2.p v2.n v2.c, .slice v3.p v3.n v3.c, .slice v4.p v4.n v4.c, .slice v5.p v5.n v5.c, .slice v6.p v6.n v6.c, .slice v7.p v7.n v7.c], .string v17] V3 fun e V4 => ∃ v27 : Sl, ∃ v28 : Bool, e = .returned (.agg #[.slice v27.p v27.n v27.c, .bool v28]) ∧
 (V4.rowp (ptrAdd (ptrAdd v6.p ((v16).toNat * 5)) 1) 0 4 = some [.int .i64 v23, .int .i64 v24, .string v25, .slice v26.p v26.n v26.c]) ∧ (¬ ((ptrAdd v6.p ((v16).toNat * 5)) = none)) ∧ (¬ (v6.p = none)) ∧ ((0 : Int) ≤ v16) ∧ (v16 < (v6.n : Int)) ∧ Tri Tryz.prog 110 #[.agg #[.string v0, .slice v1.p v1.n v1.c, .slice v2.p v2.n v2.c, .slice v3.p v3.n v3.c, .slice v4.p v4.n v4.c, .slice v5.p v5.n v5.c, .slice v6.p v6.n v6.c, .slice v7.p v7.n v7.c], .agg #[.slice v27.p v27.n v27.c, .bool v28], .agg #[.int .i64 v23, .int .i64 v24, .string v25, .slice v26.p v26.n v26.c], .string (strB [105, 110, 116])] V4 fun e V5 => ∃ v29 : Int, e = .returned (.int .i64 v29) ∧
 (v29 = (0 : Int) →
 (K.inR .i64 (v16 + (1 : Int))) ∧ J2 [.string v14, .int .i64 v15, .int .i64 (v16 + (1 : Int))] V5) ∧ (¬ (v29 = (0 : Int)) →
 R (.returned (.tuple #[.string (strB [112, 111, 116, 101, 110, 116, 105, 97, 108]), .int .i64 v29])) V5)) ∧ (¬ (v16 < (v6.n : Int)) →
 ∃ (I : Nat → List Value → Mem → Prop) (n0 : Nat), I n0 [.string v14, .int .i64 v15, .int .i64 0] V3 ∧ ∀ n V4, ∀ v17 : ByteArray, ∀ v18 : Int, ∀ v19 : Int, I n [.string v17, .int .i64 v18, .int .i64 v19] V4 → ∀ J3 : List Value → Mem → Prop, (∀ m ys V'', m < n → I m ys V'' → J3 ys V'') →
 (v19 < (v7.n : Int) →
 (¬ (v7.p = none)) ∧ ((0 : Int) ≤ v19) ∧ (v19 < (v7.n : Int)) ∧ (¬ ((ptrAdd v7.p ((v19).toNat * 5)) = none)) ∧ ∃ v20 : ByteArray, ∃ v21 : Int, ∃ v22 : Int, ∃ v23 : ByteArray, ∃ v24 : Sl, V4.rowp v7.p ((v19).toNat * 5) 5 = some [.string v20, .int .i64 v21, .int .i64 v22, .string v23, .slice v24.p v24.n v24.c] ∧
 Tri Tryz.prog 19 #[.agg #[.string v0, .slice v1.p v1.n v1.c, .slice v2.p v2.n v2.c, .slice v3.p v3.n v3.c, .slice v4.p v4.n v4.c, .slice v5.p v5.n v5.c, .slice v6.p v6.n v6.c, .slice v7.p v7.n v7.c], .string v20] V4 fun e V5 => ∃ v25 : Int, e = .returned (.int .i64 v25) ∧
 (¬ (v3.p = none)) ∧ ((0 : Int) ≤ v25) ∧ (v25 < (v3.n : Int)) ∧ ∃ v26 : ByteArray, ∃ v27 : Sl, ∃ v28 : ByteArray, ∃ v29 : Sl, ∃ v30 : Sl, V5.rowp v3.p ((v25).toNat * 5) 5 = some [.string v26, .slice v27.p v27.n v27.c, .string v28, .slice v29.p v29.n v29.c, .slice v30.p v30.n v30.c] ∧
 (¬ (v7.p = none)) ∧ ((0 : Int) ≤ v19) ∧ (v19 < (v7.n : Int)) ∧ (¬ ((ptrAdd v7.p ((v19).toNat * 5)) = none)) ∧ ∃ v31 : ByteArray, ∃ v32 : Int, ∃ v33 : Int, ∃ v34 : ByteArray, ∃ v35 : Sl, V5.rowp v7.p ((v19).toNat * 5) 5 = some [.string v31, .int .i64 v32, .int .i64 v33, .string v34, .slice v35.p v35.n v35.c] ∧
 Tri Tryz.prog 111 #[.agg #[.string v0, .slice v1.p v1.n v1.c, .slice v2.p v2.n v2.c, .slice v3.p v3.n v3.c, .slice v4.p v4.n v4.c, .slice v5.p v5.n v5.c, .slice v6.p v6.n v6.c, .slice v7.p v7.n v7.c], .agg #[.string v26, .slice v27.p v27.n v27.c, .string v28, .slice v29.p v29.n v29.c, .slice v30.p v30.n v30.c]] V5 fun e V6 => ∃ v36 : Sl, ∃ v37 : Bool, e = .returned (.agg #[.slice v36.p v36.n v36.c, .bool v37]) ∧
 (V6.rowp (ptrAdd (ptrAdd v7.p ((v19).toNat * 5)) 1) 0 4 = some [.int .i64 v32, .int .i64 v33, .string v34, .slice v35.p v35.n v35.c]) ∧ (¬ ((ptrAdd v7.p ((v19).toNat * 5)) = none)) ∧ (¬ (v7.p = none)) ∧ ((0 : Int) ≤ v19) ∧ (v19 < (v7.n : Int)) ∧ Tri Tryz.prog 110 #[.agg #[.string v0, .slice v1.p v1.n v1.c, .slice v2.p v2.n v2.c, .slice v3.p v3.n v3.c, .slice v4.p v4.n v4.c, .slice v5.p v5.n v5.c, .slice v6.p v6.n v6.c, .slice v7.p v7.n v7.c], .agg #[.slice v36.p v36.n v36.c, .bool v37], .agg #[.int .i64 v32, .int .i64 v33, .string v34, .slice v35.p v35.n v35.c], .string (strB [105, 110, 116])] V6 fun e V7 => ∃ v38 : Int, e = .returned (.int .i64 v38) ∧
 (v38 = (0 : Int) →
 (K.inR .i64 (v19 + (1 : Int))) ∧ J3 [.string v17, .int .i64 v18, .int .i64 (v19 + (1 : Int))] V7) ∧ (¬ (v38 = (0 : Int)) →
 (¬ (v7.p = none)) ∧ ((0 : Int) ≤ v19) ∧ (v19 < (v7.n : Int)) ∧ (¬ ((ptrAdd v7.p ((v19).toNat * 5)) = none)) ∧ ∃ v39 : ByteArray, ∃ v40 : Int, ∃ v41 : Int, ∃ v42 : ByteArray, ∃ v43 : Sl, V7.rowp v7.p ((v19).toNat * 5) 5 = some [.string v39, .int .i64 v40, .int .i64 v41, .string v42, .slice v43.p v43.n v43.c] ∧
 R (.returned (.tuple #[.string v39, .int .i64 v38])) V7)) ∧ (¬ (v19 < (v7.n : Int)) →
 R (.returned (.tuple #[.string (strB []), .int .i64 0])) V4))))
theorem x60 {v0 : ByteArray} {v1 : Sl} {v2 : Sl} {v3 : Sl} {v4 : Sl} {v5 : Sl} {v6 : Sl} {v7 : Sl} {V : Mem} {R : Ending → Mem → Prop} (h : w60 v0 v1 v2 v3 v4 v5 v6 v7 V R) : Tri Tryz.prog 60 #[.agg #[.string v0, .slice v1.p v1.n v1.c, .slice v2.p v2.n v2.c, .slice v3.p v3.n v3.c, .slice v4.p v4.n v4.c, .slice v5.p v5.n v5.c, .slice v6.p v6.n v6.c, .slice v7.p v7.n v7.c]] V R :=
 tri_dx (H := { N := 142, early := [], loops := [], keep := [0, 1, 2, 3, 4, 5, 6, 7, 8, 9, 10, 11, 12, 17, 37, 49, 69, 81, 101, 107, 134] }) Tryz.func60 [.agg (.cons (.var .s 0) (.cons (.var .sl 1) (.cons (.var .sl 2) (.cons (.var .sl 3) (.cons (.var .sl 4) (.cons (.var .sl 5) (.cons (.var .sl 6) (.cons (.var .sl 7) .nil))))))))] [.string v0, .slice v1.p v1.n v1.c, .slice v2.p v2.n v2.c, .slice v3.p v3.n v3.c, .slice v4.p v4.n v4.c, .slice v5.p v5.n v5.c, .slice v6.p v6.n v6.c, .slice v7.p v7.n v7.c] rfl (by kernel_rfl) h
def w61 (v0 : ByteArray) (v1 : Sl) (v2 : Sl) (v3 : Sl) (v4 : Sl) (v5 : Sl) (v6 : Sl) (v7 : Sl) (v8 : Bool) (V : Mem) (R : Ending → Mem → Prop) : Prop :=
 Tri Tryz.prog 49 #[.agg #[.string v0, .slice v1.p v1.n v1.c, .slice v2.p v2.n v2.c, .slice v3.p v3.n v3.c, .slice v4.p v4.n v4.c, .slice v5.p v5.n v5.c, .slice v6.p v6.n v6.c, .slice v7.p v7.n v7.c]] V fun e V1 => ∃ v9 : Bool, e = .returned (.bool v9) ∧
 (v9 = true →
 (v8 = true →
 Tri Tryz.prog 50 #[.agg #[.string v0, .slice v1.p v1.n v1.c, .slice v2.p v2.n v2.c, .slice v3.p v3.n v3.c, .slice v4.p v4.n v4.c, .slice v5.p v5.n v5.c, .slice v6.p v6.n v6.c, .slice v7.p v7.n v7.c]] V1 fun e V2 => ∃ v10 : Option Addr, e = .returned (.pointer v10) ∧
 Tri Tryz.prog 51 #[.pointer v10] V2 fun e V3 => ∃ v11 : Option Addr, e = .returned (.pointer v11) ∧
 (v11 = none →
 R (.returned (.tuple #[.pointer v10, .int .i64 0])) V3) ∧ (¬ (v11 = none) →
 R (.returned (.tuple #[.pointer none, .int .i64 13])) V3)) ∧ (¬ (v8 = true) →
 R (.returned (.tuple #[.pointer none, .int .i64 1])) V1)) ∧ (¬ (v9 = true) →
 R (.returned (.tuple #[.pointer none, .int .i64 1])) V1)
theorem x61 {v0 : ByteArray} {v1 : Sl} {v2 : Sl} {v3 : Sl} {v4 : Sl} {v5 : Sl} {v6 : Sl} {v7 : Sl} {v8 : Bool} {V : Mem} {R : Ending → Mem → Prop} (h : w61 v0 v1 v2 v3 v4 v5 v6 v7 v8 V R) : Tri Tryz.prog 61 #[.agg #[.string v0, .slice v1.p v1.n v1.c, .slice v2.p v2.n v2.c, .slice v3.p v3.n v3.c, .slice v4.p v4.n v4.c, .slice v5.p v5.n v5.c, .slice v6.p v6.n v6.c, .slice v7.p v7.n v7.c], .bool v8] V R :=
 tri_dx (H := { N := 20, early := [], loops := [], keep := [0, 1, 2, 4, 5, 6, 13, 18] }) Tryz.func61 [.agg (.cons (.var .s 0) (.cons (.var .sl 1) (.cons (.var .sl 2) (.cons (.var .sl 3) (.cons (.var .sl 4) (.cons (.var .sl 5) (.cons (.var .sl 6) (.cons (.var .sl 7) .nil)))))))), .var .b 8] [.string v0, .slice v1.p v1.n v1.c, .slice v2.p v2.n v2.c, .slice v3.p v3.n v3.c, .slice v4.p v4.n v4.c, .slice v5.p v5.n v5.c, .slice v6.p v6.n v6.c, .slice v7.p v7.n v7.c, .bool v8] rfl (by kernel_rfl) h
def w62 (v0 : Int) (v1 : Int) (v2 : ByteArray) (v3 : Sl) (V : Mem) (R : Ending → Mem → Prop) : Prop :=
 PubT [.int .i64 1000] 154 V fun v4 V1 =>
 Tri Tryz.prog 112 #[.agg #[.int .i64 v0, .int .i64 v1, .string v2, .slice v3.p v3.n v3.c], .int .i64 1, .pointer (ptrAdd v4 0)] V1 fun e V2 => ∃ v5 : Bool, e = .returned (.bool v5) ∧
 R (.returned (.bool v5)) V2
theorem x62 {v0 : Int} {v1 : Int} {v2 : ByteArray} {v3 : Sl} {V : Mem} {R : Ending → Mem → Prop} (h : w62 v0 v1 v2 v3 V R) : Tri Tryz.prog 62 #[.agg #[.int .i64 v0, .int .i64 v1, .string v2, .slice v3.p v3.n v3.c]] V R :=
 tri_dx (H := { N := 7, early := [], loops := [], keep := [0, 1, 2] }) Tryz.func62 [.agg (.cons (.var (.i .i64) 0) (.cons (.var (.i .i64) 1) (.cons (.var .s 2) (.cons (.var .sl 3) .nil))))] [.int .i64 v0, .int .i64 v1, .string v2, .slice v3.p v3.n v3.c] rfl (by kernel_rfl) h
def w63 (v0 : Option Addr) (v1 : ByteArray) (v2 : Sl) (v3 : ByteArray) (v4 : Sl) (v5 : Sl) (V : Mem) (R : Ending → Mem → Prop) : Prop :=
 PubT [.slice v2.p v2.n v2.c, .slice v4.p v4.n v4.c] 23 V fun v6 V1 =>
 Tri Tryz.prog 113 #[.pointer v0, .bool true, .slice (ptrAdd v6 0) ((2 : Int)).toNat ((2 : Int)).toNat] V1 fun e V2 => ∃ v7 : Option Addr, ∃ v8 : Option Nat, ∃ v9 : Bool, e = .returned (.agg #[.pointer v7, .map v8, .bool v9]) ∧
 R (.returned (.agg #[.pointer v7, .map v8, .bool v9])) V2
theorem x63 {v0 : Option Addr} {v1 : ByteArray} {v2 : Sl} {v3 : ByteArray} {v4 : Sl} {v5 : Sl} {V : Mem} {R : Ending → Mem → Prop} (h : w63 v0 v1 v2 v3 v4 v5 V R) : Tri Tryz.prog 63 #[.pointer v0, .agg #[.string v1, .slice v2.p v2.n v2.c, .string v3, .slice v4.p v4.n v4.c, .slice v5.p v5.n v5.c]] V R :=
 tri_dx (H := { N := 12, early := [], loops := [], keep := [0, 1, 3, 4] }) Tryz.func63 [.var .p 0, .agg (.cons (.var .s 1) (.cons (.var .sl 2) (.cons (.var .s 3) (.cons (.var .sl 4) (.cons (.var .sl 5) .nil)))))] [.pointer v0, .string v1, .slice v2.p v2.n v2.c, .string v3, .slice v4.p v4.n v4.c, .slice v5.p v5.n v5.c] rfl (by kernel_rfl) h
def w64 (v0 : Option Addr) (v1 : Option Nat) (v2 : Bool) (v3 : Int) (v4 : Int) (v5 : ByteArray) (v6 : Sl) (V : Mem) (R : Ending → Mem → Prop) : Prop :=
 (v3 = (7 : Int) →
 Tri Tryz.prog 114 #[.agg #[.pointer v0, .map v1, .bool v2], .agg #[.int .i64 v3, .int .i64 v4, .string v5, .slice v6.p v6.n v6.c]] V fun e V1 => ∃ v7 : ByteArray, ∃ v8 : Int, e = .returned (.tuple #[.string v7, .int .i64 v8]) ∧
 (v8 = (0 : Int) →
 (v7 = (strB []) →
 R (.returned (.tuple #[.string (strB []), .int .i64 11])) V1) ∧ (¬ (v7 = (strB [])) →
 R (.returned (.tuple #[.string v7, .int .i64 v8])) V1)) ∧ (¬ (v8 = (0 : Int)) →
 R (.returned (.tuple #[.string v7, .int .i64 v8])) V1)) ∧ (¬ (v3 = (7 : Int)) →
 ∃ (I : Nat → List Value → Mem → Prop) (n0 : Nat), I n0 [.string (strB []), .int .i64 0, .slice none 0 0, .int .i64 0] V ∧ ∀ n V1, ∀ v7 : ByteArray, ∀ v8 : Int, ∀ v9 : Sl, ∀ v10 : Int, I n [.string v7, .int .i64 v8, .slice v9.p v9.n v9.c, .int .i64 v10] V1 → ∀ J0 : List Value → Mem → Prop, (∀ m ys V'', m < n → I m ys V'' → J0 ys V'') →
 (v10 < (v6.n : Int) →
 (¬ (v6.p = none)) ∧ ((0 : Int) ≤ v10) ∧ (v10 < (v6.n : Int)) ∧ ∃ v11 : Int, ∃ v12 : Int, ∃ v13 : ByteArray, ∃ v14 : Sl, V1.rowp v6.p ((v10).toNat * 4) 4 = some [.int .i64 v11, .int .i64 v12, .string v13, .slice v14.p v14.n v14.c] ∧
 Tri Tryz.prog 64 #[.agg #[.pointer v0, .map v1, .bool v2], .agg #[.int .i64 v11, .int .i64 v12, .string v13, .slice v14.p v14.n v14.c]] V1 fun e V2 => ∃ v15 : ByteArray, ∃ v16 : Int, e = .returned (.tuple #[.string v15, .int .i64 v16]) ∧
 (v16 = (0 : Int) →
 PubT [.string v15] 9 V2 fun v17 V3 =>
 GenK Tryz.prog (.call { callee := (.builtin .append), args := #[.tmp 46, .tmp 48], argTypes := #[85, 85] }) 85 (gval [(46, (.var .sl 9)), (48, (.c3 .slc (.u (.poff 0) (.var .p 17)) (.int .i64 1) (.int .i64 1)))] [.pointer v0, .map v1, .bool v2, .int .i64 v3, .int .i64 v4, .string v5, .slice v6.p v6.n v6.c, .string v7, .int .i64 v8, .slice v9.p v9.n v9.c, .int .i64 v10, .int .i64 v11, .int .i64 v12, .string v13, .slice v14.p v14.n v14.c, .string v15, .int .i64 v16, .pointer v17]) V3 fun x V4 => ∃ v18 : Sl, x = (.slice v18.p v18.n v18.c) ∧
 (K.inR .i64 (v10 + (1 : Int))) ∧ J0 [.string v7, .int .i64 v8, .slice v18.p v18.n v18.c, .int .i64 (v10 + (1 : Int))] V4) ∧ (¬ (v16 = (0 : Int)) →
 R (.returned (.tuple #[.string (strB []), .int .i64 v16])) V2)) ∧ (¬ (v10 < (v6.n : Int)) →
 Tri Tryz.prog 115 #[.agg #[.pointer v0, .map v1, .bool v2], .agg #[.int .i64 v3, .int .i64 v4, .string v5, .slice v6.p v6.n v6.c], .slice v9.p v9.n v9.c] V1 fun e V2 => ∃ v11 : ByteArray, ∃ v12 : Int, e = .returned (.tuple #[.string v11, .int .i64 v12]) ∧
 R (.returned (.tuple #[.string v11, .int .i64 v12])) V2))
theorem x64 {v0 : Option Addr} {v1 : Option Nat} {v2 : Bool} {v3 : Int} {v4 : Int} {v5 : ByteArray} {v6 : Sl} {V : Mem} {R : Ending → Mem → Prop} (h : w64 v0 v1 v2 v3 v4 v5 v6 V R) : Tri Tryz.prog 64 #[.agg #[.pointer v0, .map v1, .bool v2], .agg #[.int .i64 v3, .int .i64 v4, .string v5, .slice v6.p v6.n v6.c]] V R :=
 tri_dx (H := { N := 57, early := [], loops := [], keep := [0, 1, 2, 3, 4, 5, 6, 7, 8, 10, 11, 12, 15, 27, 31, 32, 33, 34, 44] }) Tryz.func64 [.agg (.cons (.var .p 0) (.cons (.var .m 1) (.cons (.var .b 2) .nil))), .agg (.cons (.var (.i .i64) 3) (.cons (.var (.i .i64) 4) (.cons (.var .s 5) (.cons (.var .sl 6) .nil))))] [.pointer v0, .map v1, .bool v2, .int .i64 v3, .int .i64 v4, .string v5, .slice v6.p v6.n v6.c] rfl (by kernel_rfl) h
def w65 (v0 : Int) (v1 : Int) (v2 : ByteArray) (v3 : Sl) (v4 : Int) (V : Mem) (R : Ending → Mem → Prop) : Prop :=
 ((60 : Int) < v4 →
 R (.returned (.int .i64 1001)) V) ∧ (¬ ((60 : Int) < v4) →
 Tri Tryz.prog 116 #[.agg #[.int .i64 v0, .int .i64 v1, .string v2, .slice v3.p v3.n v3.c]] V fun e V1 => ∃ v5 : Bool, e = .returned (.bool v5) ∧
 (v5 = true →
 ∃ (I : Nat → List Value → Mem → Prop) (n0 : Nat), I n0 [.int .i64 1, .int .i64 0, .int .i64 0] V1 ∧ ∀ n V2, ∀ v6 : Int, ∀ v7 : Int, ∀ v8 : Int, I n [.int .i64 v6, .int .i64 v7, .int .i64 v8] V2 → ∀ J0 : List Value → Mem → Prop, (∀ m ys V'', m < n → I m ys V'' → J0 ys V'') →
 (v8 < (v3.n : Int) →
 (¬ (v3.p = none)) ∧ ((0 : Int) ≤ v8) ∧ (v8 < (v3.n : Int)) ∧ ∃ v9 : Int, ∃ v10 : Int, ∃ v11 : ByteArray, ∃ v12 : Sl, V2.rowp v3.p ((v8).toNat * 4) 4 = some [.int .i64 v9, .int .i64 v10, .string v11, .slice v12.p v12.n v12.c] ∧
 (K.inR .i64 (v4 + (1 : Int))) ∧ Tri Tryz.prog 65 #[.agg #[.int .i64 v9, .int .i64 v10, .string v11, .slice v12.p v12.n v12.c], .int .i64 (v4 + (1 : Int))] V2 fun e V3 => ∃ v13 : Int, e = .returned (.int .i64 v13) ∧
 (K.inR .i64 (v6 + v13)) ∧ ((1000 : Int) < (v6 + v13) →
 R (.returned (.int .i64 (v6 + v13))) V3) ∧ (¬ ((1000 : Int) < (v6 + v13)) →
 (K.inR .i64 (v8 + (1 : Int))) ∧ J0 [.int .i64 (v6 + v13), .int .i64 v7, .int .i64 (v8 + (1 : Int))] V3)) ∧ (¬ (v8 < (v3.n : Int)) →
 R (.returned (.int .i64 v6)) V2)) ∧ (¬ (v5 = true) →
 R (.returned (.int .i64 1001)) V1))
theorem x65 {v0 : Int} {v1 : Int} {v2 : ByteArray} {v3 : Sl} {v4 : Int} {V : Mem} {R : Ending → Mem → Prop} (h : w65 v0 v1 v2 v3 v4 V R) : Tri Tryz.prog 65 #[.agg #[.int .i64 v0, .int .i64 v1, .string v2, .slice v3.p v3.n v3.c], .int .i64 v4] V R :=
 tri_dx (H := { N := 35, early := [], loops := [], keep := [0, 1, 2, 4, 5, 6, 13, 18, 32] }) Tryz.func65 [.agg (.cons (.var (.i .i64) 0) (.cons (.var (.i .i64) 1) (.cons (.var .s 2) (.cons (.var .sl 3) .nil)))), .var (.i .i64) 4] [.int .i64 v0, .int .i64 v1, .string v2, .slice v3.p v3.n v3.c, .int .i64 v4] rfl (by kernel_rfl) h
def w66 (v0 : ByteArray) (v1 : Sl) (v2 : Sl) (v3 : Sl) (v4 : Sl) (v5 : Sl) (v6 : Sl) (v7 : Sl) (v8 : Sl) (v9 : Bool) (v10 : Int) (v11 : Int) (v12 : ByteArray) (v13 : Sl) (V : Mem) (R : Ending → Mem → Prop) : Prop :=
 ∃ (I : Nat → List Value → Mem → Prop) (n0 : Nat), I n0 [.slice none 0 0, .int .i64 0, .slice none 0 0, .int .i64 0] V ∧ ∀ n V1, ∀ v14 : Sl, ∀ v15 : Int, ∀ v16 : Sl, ∀ v17 : Int, I n [.slice v14.p v14.n v14.c, .int .i64 v15, .slice v16.p v16.n v16.c, .int .i64 v17] V1 → ∀ J0 : List Value → Mem → Prop, (∀ m ys V'', m < n → I m ys V'' → J0 ys V'') →
 (v17 < (v13.n : Int) →
 (¬ (v13.p = none)) ∧ ((0 : Int) ≤ v17) ∧ (v17 < (v13.n : Int)) ∧ ∃ v18 : Int, ∃ v19 : Int, ∃ v20 : ByteArray, ∃ v21 : Sl, V1.rowp v13.p ((v17).toNat * 4) 4 = some [.int .i64 v18, .int .i64 v19, .string v20, .slice v21.p v21.n v21.c] ∧
 Tri Tryz.prog 20 #[.agg #[.string v0, .slice v1.p v1.n v1.c, .slice v2.p v2.n v2.c, .slice v3.p v3.n v3.c, .slice v4.p v4.n v4.c, .slice v5.p v5.n v5.c, .slice v6.p v6.n v6.c, .slice v7.p v7.n v7.c], .agg #[.slice v8.p v8.n v8.c, .bool v9], .agg #[.int .i64 v18, .int .i64 v19, .string v20, .slice v21.p v21.n v21.c]] V1 fun e V2 => ∃ v22 : ByteArray, ∃ v23 : Int, e = .returned (.tuple #[.string v22, .int .i64 v23]) ∧
 (v23 = (0 : Int) →
 PubT [.string v22] 9 V2 fun v24 V3 =>
 GenK Tryz.prog (.call { callee := (.builtin .append), args := #[.tmp 33, .tmp 35], argTypes := #[85, 85] }) 85 (gval [(33, (.var .sl 16)), (35, (.c3 .slc (.u (.poff 0) (.var .p 24)) (.int .i64 1) (.int .i64 1)))] [.string v0, .slice v1.p v1.n v1.c, .slice v2.p v2.n v2.c, .slice v3.p v3.n v3.c, .slice v4.p v4.n v4.c, .slice v5.p v5.n v5.c, .slice v6.p v6.n v6.c, .slice v7.p v7.n v7.c, .slice v8.p v8.n v8.c, .bool v9, .int .i64 v10, .int .i64 v11, .string v12, .slice v13.p v13.n v13.c, .slice v14.p v14.n v14.c, .int .i64 v15, .slice v16.p v16.n v16.c, .int .i64 v17, .int .i64 v18, .int .i64 v19, .string v20, .slice v21.p v21.n v21.c, .string v22, .int .i64 v23, .pointer v24]) V3 fun x V4 => ∃ v25 : Sl, x = (.slice v25.p v25.n v25.c) ∧
 (K.inR .i64 (v17 + (1 : Int))) ∧ J0 [.slice v14.p v14.n v14.c, .int .i64 v15, .slice v25.p v25.n v25.c, .int .i64 (v17 + (1 : Int))] V4) ∧ (¬ (v23 = (0 : Int)) →
 R (.returned (.tuple #[.slice none 0 0, .int .i64 v23])) V2)) ∧ (¬ (v17 < (v13.n : Int)) →
 R (.returned (.tuple #[.slice v16.p v16.n v16.c, .int .i64 0])) V1)
theorem x66 {v0 : ByteArray} {v1 : Sl} {v2 : Sl} {v3 : Sl} {v4 : Sl} {v5 : Sl} {v6 : Sl} {v7 : Sl} {v8 : Sl} {v9 : Bool} {v10 : Int} {v11 : Int} {v12 : ByteArray} {v13 : Sl} {V : Mem} {R : Ending → Mem → Prop} (h : w66 v0 v1 v2 v3 v4 v5 v6 v7 v8 v9 v10 v11 v12 v13 V R) : Tri Tryz.prog 66 #[.agg #[.string v0, .slice v1.p v1.n v1.c, .slice v2.p v2.n v2.c, .slice v3.p v3.n v3.c, .slice v4.p v4.n v4.c, .slice v5.p v5.n v5.c, .slice v6.p v6.n v6.c, .slice v7.p v7.n v7.c], .agg #[.slice v8.p v8.n v8.c, .bool v9], .agg #[.int .i64 v10, .int .i64 v11, .string v12, .slice v13.p v13.n v13.c]] V R :=
 tri_dx (H := { N := 38, early := [], loops := [], keep := [0, 1, 2, 3, 4, 5, 6, 7, 8, 9, 10, 11, 16, 31] }) Tryz.func66 [.agg (.cons (.var .s 0) (.cons (.var .sl 1) (.cons (.var .sl 2) (.cons (.var .sl 3) (.cons (.var .sl 4) (.cons (.var .sl 5) (.cons (.var .sl 6) (.cons (.var .sl 7) .nil)))))))), .agg (.cons (.var .sl 8) (.cons (.var .b 9) .nil)), .agg (.cons (.var (.i .i64) 10) (.cons (.var (.i .i64) 11) (.cons (.var .s 12) (.cons (.var .sl 13) .nil))))] [.string v0, .slice v1.p v1.n v1.c, .slice v2.p v2.n v2.c, .slice v3.p v3.n v3.c, .slice v4.p v4.n v4.c, .slice v5.p v5.n v5.c, .slice v6.p v6.n v6.c, .slice v7.p v7.n v7.c, .slice v8.p v8.n v8.c, .bool v9, .int .i64 v10, .int .i64 v11, .string v12, .slice v13.p v13.n v13.c] rfl (by kernel_rfl) h
def w67 (v0 : Sl) (v1 : ByteArray) (V : Mem) (R : Ending → Mem → Prop) : Prop :=
 ∃ (I : Nat → List Value → Mem → Prop) (n0 : Nat), I n0 [.string (strB []), .int .i64 0] V ∧ ∀ n V1, ∀ v2 : ByteArray, ∀ v3 : Int, I n [.string v2, .int .i64 v3] V1 → ∀ J0 : List Value → Mem → Prop, (∀ m ys V'', m < n → I m ys V'' → J0 ys V'') →
 (v3 < (v0.n : Int) →
 (¬ (v0.p = none)) ∧ ((0 : Int) ≤ v3) ∧ (v3 < (v0.n : Int)) ∧ (¬ ((ptrAdd v0.p ((v3).toNat * 2)) = none)) ∧ ∃ v4 : ByteArray, ∃ v5 : ByteArray, V1.rowp v0.p ((v3).toNat * 2) 2 = some [.string v4, .string v5] ∧
 (v4 = v1 →
 (¬ (v0.p = none)) ∧ ((0 : Int) ≤ v3) ∧ (v3 < (v0.n : Int)) ∧ (¬ ((ptrAdd v0.p ((v3).toNat * 2)) = none)) ∧ ∃ v6 : ByteArray, ∃ v7 : ByteArray, V1.rowp v0.p ((v3).toNat * 2) 2 = some [.string v6, .string v7] ∧
 R (.returned (.string v7)) V1) ∧ (¬ (v4 = v1) →
 (K.inR .i64 (v3 + (1 : Int))) ∧ J0 [.string v2, .int .i64 (v3 + (1 : Int))] V1)) ∧ (¬ (v3 < (v0.n : Int)) →
 R (.returned (.string (strB []))) V1)
theorem x67 {v0 : Sl} {v1 : ByteArray} {V : Mem} {R : Ending → Mem → Prop} (h : w67 v0 v1 V R) : Tri Tryz.prog 67 #[.slice v0.p v0.n v0.c, .string v1] V R :=
 tri_dx (H := { N := 24, early := [], loops := [], keep := [0, 1, 4, 5, 9, 18] }) Tryz.func67 [.var .sl 0, .var .s 1] [.slice v0.p v0.n v0.c, .string v1] rfl (by kernel_rfl) h
def w68 (v0 : ByteArray) (v1 : Sl) (v2 : Sl) (v3 : Sl) (v4 : Sl) (v5 : Sl) (v6 : Sl) (v7 : Sl) (v8 : ByteArray) (v9 : ByteArray) (V : Mem) (R : Ending → Mem → Prop) : Prop :=
 Tri Tryz.prog 79 #[.agg #[.string v0, .slice v1.p v1.n v1.c, .slice v2.p v2.n v2.c, .slice v3.p v3.n v3.c, .slice v4.p v4.n v4.c, .slice v5.p v5.n v5.c, .slice v6.p v6.n v6.c, .slice v7.p v7.n v7.c], .string v8] V fun e V1 => ∃ v10 : Int, e = .returned (.int .i64 v10) ∧
 (v10 < (0 : Int) →
 R (.returned (.tuple #[.string (strB []), .int .i64 11])) V1) ∧ (¬ (v10 < (0 : Int)) →
 (¬ (v1.p = none)) ∧ ((0 : Int) ≤ v10) ∧ (v10 < (v1.n : Int)) ∧ (¬ ((ptrAdd v1.p ((v10).toNat * 2)) = none)) ∧ ∃ v11 : ByteArray, ∃ v12 : Sl, V1.rowp v1.p ((v10).toNat * 2) 2 = some [.string v11, .slice v12.p v12.n v12.c] ∧
 Tri Tryz.prog 67 #[.slice v12.p v12.n v12.c, .string v9] V1 fun e V2 => ∃ v13 : ByteArray, e = .returned (.string v13) ∧
 (v13 = (strB []) →
 R (.returned (.tuple #[.string (strB []), .int .i64 9])) V2) ∧ (¬ (v13 = (strB [])) →
 R (.returned (.tuple #[.string v13, .int .i64 0])) V2))
theorem x68 {v0 : ByteArray} {v1 : Sl} {v2 : Sl} {v3 : Sl} {v4 : Sl} {v5 : Sl} {v6 : Sl} {v7 : Sl} {v8 : ByteArray} {v9 : ByteArray} {V : Mem} {R : Ending → Mem → Prop} (h : w68 v0 v1 v2 v3 v4 v5 v6 v7 v8 v9 V R) : Tri Tryz.prog 68 #[.agg #[.string v0, .slice v1.p v1.n v1.c, .slice v2.p v2.n v2.c, .slice v3.p v3.n v3.c, .slice v4.p v4.n v4.c, .slice v5.p v5.n v5.c, .slice v6.p v6.n v6.c, .slice v7.p v7.n v7.c], .string v8, .string v9] V R :=
 tri_dx (H := { N := 26, early := [], loops := [], keep := [0, 1, 2, 3, 6, 7, 8, 9, 14, 24] }) Tryz.func68 [.agg (.cons (.var .s 0) (.cons (.var .sl 1) (.cons (.var .sl 2) (.cons (.var .sl 3) (.cons (.var .sl 4) (.cons (.var .sl 5) (.cons (.var .sl 6) (.cons (.var .sl 7) .nil)))))))), .var .s 8, .var .s 9] [.string v0, .slice v1.p v1.n v1.c, .slice v2.p v2.n v2.c, .slice v3.p v3.n v3.c, .slice v4.p v4.n v4.c, .slice v5.p v5.n v5.c, .slice v6.p v6.n v6.c, .slice v7.p v7.n v7.c, .string v8, .string v9] rfl (by kernel_rfl) h
def w69 (v0 : ByteArray) (v1 : Sl) (v2 : Sl) (v3 : Sl) (v4 : Sl) (v5 : Sl) (v6 : Sl) (v7 : Sl) (v8 : Sl) (v9 : Bool) (v10 : ByteArray) (v11 : Sl) (V : Mem) (R : Ending → Mem → Prop) : Prop :=
 (v9 = true →
 Tri Tryz.prog 117 #[.agg #[.string v0, .slice v1.p v1.n v1.c, .slice v2.p v2.n v2.c, .slice v3.p v3.n v3.c, .slice v4.p v4.n v4.c, .slice v5.p v5.n v5.c, .slice v6.p v6.n v6.c, .slice v7.p v7.n v7.c], .string v10, .slice v11.p v11.n v11.c] V fun e V1 => ∃ v12 : ByteArray, ∃ v13 : Int, e = .returned (.tuple #[.string v12, .int .i64 v13]) ∧
 (v13 = (0 : Int) →
 (v12 = (strB []) →
 R (.returned (.tuple #[.string (strB []), .int .i64 11])) V1) ∧ (¬ (v12 = (strB [])) →
 R (.returned (.tuple #[.string v12, .int .i64 v13])) V1)) ∧ (¬ (v13 = (0 : Int)) →
 R (.returned (.tuple #[.string v12, .int .i64 v13])) V1)) ∧ (¬ (v9 = true) →
 Tri Tryz.prog 108 #[.agg #[.string v0, .slice v1.p v1.n v1.c, .slice v2.p v2.n v2.c, .slice v3.p v3.n v3.c, .slice v4.p v4.n v4.c, .slice v5.p v5.n v5.c, .slice v6.p v6.n v6.c, .slice v7.p v7.n v7.c], .string v10] V fun e V1 => ∃ v12 : Int, e = .returned (.int .i64 v12) ∧
 (v12 < (0 : Int) →
 R (.returned (.tuple #[.string (strB []), .int .i64 9])) V1) ∧ (¬ (v12 < (0 : Int)) →
 ((v11.n : Int) = (1 : Int) →
 (¬ (v11.p = none)) ∧ ((0 : Int) ≤ (0 : Int)) ∧ ((0 : Int) < (v11.n : Int)) ∧ ∃ v13 : ByteArray, V1.rowp v11.p (((0 : Int)).toNat * 1) 1 = some [.string v13] ∧
 (¬ (v4.p = none)) ∧ ((0 : Int) ≤ v12) ∧ (v12 < (v4.n : Int)) ∧ (¬ ((ptrAdd v4.p ((v12).toNat * 7)) = none)) ∧ ∃ v14 : ByteArray, ∃ v15 : ByteArray, ∃ v16 : Int, ∃ v17 : Int, ∃ v18 : Int, ∃ v19 : ByteArray, ∃ v20 : Sl, V1.rowp v4.p ((v12).toNat * 7) 7 = some [.string v14, .string v15, .int .i64 v16, .int .i64 v17, .int .i64 v18, .string v19, .slice v20.p v20.n v20.c] ∧
 Tri Tryz.prog 71 #[.agg #[.string v0, .slice v1.p v1.n v1.c, .slice v2.p v2.n v2.c, .slice v3.p v3.n v3.c, .slice v4.p v4.n v4.c, .slice v5.p v5.n v5.c, .slice v6.p v6.n v6.c, .slice v7.p v7.n v7.c], .string v13, .string v15] V1 fun e V2 => ∃ v21 : Bool, e = .returned (.bool v21) ∧
 Tri Tryz.prog 70 #[.bool v21, .string (strB [105, 110, 116])] V2 fun e V3 => ∃ v22 : ByteArray, ∃ v23 : Int, e = .returned (.tuple #[.string v22, .int .i64 v23]) ∧
 R (.returned (.tuple #[.string v22, .int .i64 v23])) V3) ∧ (¬ ((v11.n : Int) = (1 : Int)) →
 R (.returned (.tuple #[.string (strB []), .int .i64 3])) V1)))
theorem x69 {v0 : ByteArray} {v1 : Sl} {v2 : Sl} {v3 : Sl} {v4 : Sl} {v5 : Sl} {v6 : Sl} {v7 : Sl} {v8 : Sl} {v9 : Bool} {v10 : ByteArray} {v11 : Sl} {V : Mem} {R : Ending → Mem → Prop} (h : w69 v0 v1 v2 v3 v4 v5 v6 v7 v8 v9 v10 v11 V R) : Tri Tryz.prog 69 #[.agg #[.string v0, .slice v1.p v1.n v1.c, .slice v2.p v2.n v2.c, .slice v3.p v3.n v3.c, .slice v4.p v4.n v4.c, .slice v5.p v5.n v5.c, .slice v6.p v6.n v6.c, .slice v7.p v7.n v7.c], .agg #[.slice v8.p v8.n v8.c, .bool v9], .string v10, .slice v11.p v11.n v11.c] V R :=
 tri_dx (H := { N := 52, early := [], loops := [], keep := [0, 1, 2, 3, 4, 5, 8, 9, 10, 11, 12, 14, 27, 34, 37] }) Tryz.func69 [.agg (.cons (.var .s 0) (.cons (.var .sl 1) (.cons (.var .sl 2) (.cons (.var .sl 3) (.cons (.var .sl 4) (.cons (.var .sl 5) (.cons (.var .sl 6) (.cons (.var .sl 7) .nil)))))))), .agg (.cons (.var .sl 8) (.cons (.var .b 9) .nil)), .var .s 10, .var .sl 11] [.string v0, .slice v1.p v1.n v1.c, .slice v2.p v2.n v2.c, .slice v3.p v3.n v3.c, .slice v4.p v4.n v4.c, .slice v5.p v5.n v5.c, .slice v6.p v6.n v6.c, .slice v7.p v7.n v7.c, .slice v8.p v8.n v8.c, .bool v9, .string v10, .slice v11.p v11.n v11.c] rfl (by kernel_rfl) h
def w70 (v0 : Bool) (v1 : ByteArray) (V : Mem) (R : Ending → Mem → Prop) : Prop :=
 (v0 = true →
 R (.returned (.tuple #[.string v1, .int .i64 0])) V) ∧ (¬ (v0 = true) →
 R (.returned (.tuple #[.string (strB []), .int .i64 11])) V)
theorem x70 {v0 : Bool} {v1 : ByteArray} {V : Mem} {R : Ending → Mem → Prop} (h : w70 v0 v1 V R) : Tri Tryz.prog 70 #[.bool v0, .string v1] V R :=
 tri_dx (H := { N := 9, early := [], loops := [], keep := [0, 1, 4, 5, 7] }) Tryz.func70 [.var .b 0, .var .s 1] [.bool v0, .string v1] rfl (by kernel_rfl) h
def w71 (v0 : ByteArray) (v1 : Sl) (v2 : Sl) (v3 : Sl) (v4 : Sl) (v5 : Sl) (v6 : Sl) (v7 : Sl) (v8 : ByteArray) (v9 : ByteArray) (V : Mem) (R : Ending → Mem → Prop) : Prop :=
 (v8 = v9 →
 R (.returned (.bool true)) V) ∧ (¬ (v8 = v9) →
 (v8 = (strB [110, 105, 108]) →
 Tri Tryz.prog 36 #[.agg #[.string v0, .slice v1.p v1.n v1.c, .slice v2.p v2.n v2.c, .slice v3.p v3.n v3.c, .slice v4.p v4.n v4.c, .slice v5.p v5.n v5.c, .slice v6.p v6.n v6.c, .slice v7.p v7.n v7.c], .string v9] V fun e V1 => ∃ v10 : Bool, e = .returned (.bool v10) ∧
 R (.returned (.bool v10)) V1) ∧ (¬ (v8 = (strB [110, 105, 108])) →
 R (.returned (.bool false)) V))
theorem x71 {v0 : ByteArray} {v1 : Sl} {v2 : Sl} {v3 : Sl} {v4 : Sl} {v5 : Sl} {v6 : Sl} {v7 : Sl} {v8 : ByteArray} {v9 : ByteArray} {V : Mem} {R : Ending → Mem → Prop} (h : w71 v0 v1 v2 v3 v4 v5 v6 v7 v8 v9 V R) : Tri Tryz.prog 71 #[.agg #[.string v0, .slice v1.p v1.n v1.c, .slice v2.p v2.n v2.c, .slice v3.p v3.n v3.c, .slice v4.p v4.n v4.c, .slice v5.p v5.n v5.c, .slice v6.p v6.n v6.c, .slice v7.p v7.n v7.c], .string v8, .string v9] V R :=
 tri_dx (H := { N := 19, early := [], loops := [], keep := [0, 1, 2, 3, 6] }) Tryz.func71 [.agg (.cons (.var .s 0) (.cons (.var .sl 1) (.cons (.var .sl 2) (.cons (.var .sl 3) (.cons (.var .sl 4) (.cons (.var .sl 5) (.cons (.var .sl 6) (.cons (.var .sl 7) .nil)))))))), .var .s 8, .var .s 9] [.string v0, .slice v1.p v1.n v1.c, .slice v2.p v2.n v2.c, .slice v3.p v3.n v3.c, .slice v4.p v4.n v4.c, .slice v5.p v5.n v5.c, .slice v6.p v6.n v6.c, .slice v7.p v7.n v7.c, .string v8, .string v9] rfl (by kernel_rfl) h
def w72 (v0 : Sl) (v1 : ByteArray) (V : Mem) (R : Ending → Mem → Prop) : Prop :=
 ∃ (I : Nat → List Value → Mem → Prop) (n0 : Nat), I n0 [.bool false, .int .i64 0] V ∧ ∀ n V1, ∀ v2 : Bool, ∀ v3 : Int, I n [.bool v2, .int .i64 v3] V1 → ∀ J0 : List Value → Mem → Prop, (∀ m ys V'', m < n → I m ys V'' → J0 ys V'') →
 (v3 < (v0.n : Int) →
 (¬ (v0.p = none)) ∧ ((0 : Int) ≤ v3) ∧ (v3 < (v0.n : Int)) ∧ ∃ v4 : ByteArray, V1.rowp v0.p ((v3).toNat * 1) 1 = some [.string v4] ∧
 (v4 = v1 →
 (K.inR .i64 (v3 + (1 : Int))) ∧ J0 [.bool v2, .int .i64 (v3 + (1 : Int))] V1) ∧ (¬ (v4 = v1) →
 R (.returned (.bool false)) V1)) ∧ (¬ (v3 < (v0.n : Int)) →
 R (.returned (.bool true)) V1)
theorem x72 {v0 : Sl} {v1 : ByteArray} {V : Mem} {R : Ending → Mem → Prop} (h : w72 v0 v1 V R) : Tri Tryz.prog 72 #[.slice v0.p v0.n v0.c, .string v1] V R :=
 tri_dx (H := { N := 18, early := [], loops := [], keep := [0, 1, 4, 5, 9, 17] }) Tryz.func72 [.var .sl 0, .var .s 1] [.slice v0.p v0.n v0.c, .string v1] rfl (by kernel_rfl) h
def w75 (v0 : Sl) (v1 : Value) (V : Mem) (R : Ending → Mem → Prop) : Prop :=
 ∃ (I : Nat → List Value → Mem → Prop) (n0 : Nat), I n0 [.int .i64 0, .int .i64 0] V ∧ ∀ n V1, ∀ v2 : Int, ∀ v3 : Int, I n [.int .i64 v2, .int .i64 v3] V1 → ∀ J0 : List Value → Mem → Prop, (∀ m ys V'', m < n → I m ys V'' → J0 ys V'') →
 (v3 < (v0.n : Int) →
 (¬ (v0.p = none)) ∧ ((0 : Int) ≤ v3) ∧ (v3 < (v0.n : Int)) ∧ ∃ v4 : ByteArray, ∃ v5 : ByteArray, V1.rowp v0.p ((v3).toNat * 2) 2 = some [.string v4, .string v5] ∧
 ∃ f first caps, (K.cast .f v1) = .func (.func f) first caps ∧ (∀ args w, (callFunc f args).run Tryz.prog w = .ok (.enter f args) w) ∧
 Tri Tryz.prog f (first ++ #[.agg #[.string v4, .string v5]] ++ caps) V1 fun e V2 => ∃ v6 : Bool, e = .returned (.bool v6) ∧
 (v6 = true →
 R (.returned (.int .i64 v3)) V2) ∧ (¬ (v6 = true) →
 (K.inR .i64 (v3 + (1 : Int))) ∧ J0 [.int .i64 v2, .int .i64 (v3 + (1 : Int))] V2)) ∧ (¬ (v3 < (v0.n : Int)) →
 R (.returned (.int .i64 (-1))) V1)
theorem x75 {v0 : Sl} {v1 : Value} {V : Mem} {R : Ending → Mem → Prop} (h : w75 v0 v1 V R) : Tri Tryz.prog 75 #[.slice v0.p v0.n v0.c, (K.cast .f v1)] V R :=
 tri_dx (H := { N := 19, early := [], loops := [], keep := [0, 1, 4, 5, 7, 8, 9, 16] }) Tryz.func75 [.var .sl 0, .var .f 1] [.slice v0.p v0.n v0.c, v1] rfl (by kernel_rfl) h
def w76 (v0 : Sl) (v1 : Value) (V : Mem) (R : Ending → Mem → Prop) : Prop :=
 ∃ (I : Nat → List Value → Mem → Prop) (n0 : Nat), I n0 [.int .i64 0, .int .i64 0] V ∧ ∀ n V1, ∀ v2 : Int, ∀ v3 : Int, I n [.int .i64 v2, .int .i64 v3] V1 → ∀ J0 : List Value → Mem → Prop, (∀ m ys V'', m < n → I m ys V'' → J0 ys V'') →
 (v3 < (v0.n : Int) →
 (¬ (v0.p = none)) ∧ ((0 : Int) ≤ v3) ∧ (v3 < (v0.n : Int)) ∧ ∃ v4 : ByteArray, ∃ v5 : ByteArray, ∃ v6 : Int, ∃ v7 : Int, ∃ v8 : ByteArray, ∃ v9 : Sl, V1.rowp v0.p ((v3).toNat * 6) 6 = some [.string v4, .string v5, .int .i64 v6, .int .i64 v7, .string v8, .slice v9.p v9.n v9.c] ∧
 ∃ f first caps, (K.cast .f v1) = .func (.func f) first caps ∧ (∀ args w, (callFunc f args).run Tryz.prog w = .ok (.enter f args) w) ∧
 Tri Tryz.prog f (first ++ #[.agg #[.string v4, .string v5, .int .i64 v6, .int .i64 v7, .string v8, .slice v9.p v9.n v9.c]] ++ caps) V1 fun e V2 => ∃ v10 : Bool, e = .returned (.bool v10) ∧
 (v10 = true →
 R (.returned (.int .i64 v3)) V2) ∧ (¬ (v10 = true) →
 (K.inR .i64 (v3 + (1 : Int))) ∧ J0 [.int .i64 v2, .int .i64 (v3 + (1 : Int))] V2)) ∧ (¬ (v3 < (v0.n : Int)) →
 R (.returned (.int .i64 (-1))) V1)
theorem x76 {v0 : Sl} {v1 : Value} {V : Mem} {R : Ending → Mem → Prop} (h : w76 v0 v1 V R) : Tri Tryz.prog 76 #[.slice v0.p v0.n v0.c, (K.cast .f v1)] V R :=
 tri_dx (H := { N := 19, early := [], loops := [], keep := [0, 1, 4, 5, 7, 8, 9, 16] }) Tryz.func76 [.var .sl 0, .var .f 1] [.slice v0.p v0.n v0.c, v1] rfl (by kernel_rfl) h
def w77 (v0 : Option Addr) (v1 : ByteArray) (V : Mem) (R : Ending → Mem → Prop) : Prop :=
 (¬ (v0 = none)) ∧ (¬ (v0 = none)) ∧ ∃ v2 : Option Nat, V.rowp v0 (((8 : Int)).toNat * 1) 1 = some [.map v2] ∧
 LookK Tryz.prog 113 (.map v2) (.string v1) true V fun x => ∃ v3 : ByteArray, ∃ v4 : Sl, ∃ v5 : Bool, x = (.tuple #[.agg #[.string v3, .slice v4.p v4.n v4.c], .bool v5]) ∧
 R (.returned (.bool v5)) V
theorem x77 {v0 : Option Addr} {v1 : ByteArray} {V : Mem} {R : Ending → Mem → Prop} (h : w77 v0 v1 V R) : Tri Tryz.prog 77 #[.pointer v0, .string v1] V R :=
 tri_dx (H := { N := 17, early := [], loops := [], keep := [0, 1, 4, 6] }) Tryz.func77 [.var .p 0, .var .s 1] [.pointer v0, .string v1] rfl (by kernel_rfl) h
def w78 (v0 : Option Addr) (v1 : ByteArray) (V : Mem) (R : Ending → Mem → Prop) : Prop :=
 Tri Tryz.prog 113 #[.pointer v0, .bool false, .slice none 0 0] V fun e V1 => ∃ v2 : Option Addr, ∃ v3 : Option Nat, ∃ v4 : Bool, e = .returned (.agg #[.pointer v2, .map v3, .bool v4]) ∧
 (v1 = (strB []) →
 R (.returned (.agg #[.pointer v2, .map v3, .bool v4])) V1) ∧ (¬ (v1 = (strB [])) →
 UpdK Tryz.prog 117 (.map v3) (.string ⟨#[116, 104, 105, 115]⟩) (.string v1) V1 fun V2 =>
 R (.returned (.agg #[.pointer v2, .map v3, .bool v4])) V2)
theorem x78 {v0 : Option Addr} {v1 : ByteArray} {V : Mem} {R : Ending → Mem → Prop} (h : w78 v0 v1 V R) : Tri Tryz.prog 78 #[.pointer v0, .string v1] V R :=
 tri_dx (H := { N := 14, early := [], loops := [], keep := [0, 1, 4, 5, 9] }) Tryz.func78 [.var .p 0, .var .s 1] [.pointer v0, .string v1] rfl (by kernel_rfl) h
def w79 (v0 : ByteArray) (v1 : Sl) (v2 : Sl) (v3 : Sl) (v4 : Sl) (v5 : Sl) (v6 : Sl) (v7 : Sl) (v8 : ByteArray) (V : Mem) (R : Ending → Mem → Prop) : Prop :=
 ∃ (I : Nat → List Value → Mem → Prop) (n0 : Nat), I n0 [.int .i64 0, .int .i64 0] V ∧ ∀ n V1, ∀ v9 : Int, ∀ v10 : Int, I n [.int .i64 v9, .int .i64 v10] V1 → ∀ J0 : List Value → Mem → Prop, (∀ m ys V'', m < n → I m ys V'' → J0 ys V'') →
 (v10 < (v1.n : Int) →
 (¬ (v1.p = none)) ∧ ((0 : Int) ≤ v10) ∧ (v10 < (v1.n : Int)) ∧ (¬ ((ptrAdd v1.p ((v10).toNat * 2)) = none)) ∧ ∃ v11 : ByteArray, ∃ v12 : Sl, V1.rowp v1.p ((v10).toNat * 2) 2 = some [.string v11, .slice v12.p v12.n v12.c] ∧
 (v11 = v8 →
 R (.returned (.int .i64 v10)) V1) ∧ (¬ (v11 = v8) →
 (K.inR .i64 (v10 + (1 : Int))) ∧ J0 [.int .i64 v9, .int .i64 (v10 + (1 : Int))] V1)) ∧ (¬ (v10 < (v1.n : Int)) →
 R (.returned (.int .i64 (-1))) V1)
theorem x79 {v0 : ByteArray} {v1 : Sl} {v2 : Sl} {v3 : Sl} {v4 : Sl} {v5 : Sl} {v6 : Sl} {v7 : Sl} {v8 : ByteArray} {V : Mem} {R : Ending → Mem → Prop} (h : w79 v0 v1 v2 v3 v4 v5 v6 v7 v8 V R) : Tri Tryz.prog 79 #[.agg #[.string v0, .slice v1.p v1.n v1.c, .slice v2.p v2.n v2.c, .slice v3.p v3.n v3.c, .slice v4.p v4.n v4.c, .slice v5.p v5.n v5.c, .slice v6.p v6.n v6.c, .slice v7.p v7.n v7.c], .string v8] V R :=
 tri_dx (H := { N := 22, early := [], loops := [], keep := [0, 1, 2, 4, 5, 10, 20] }) Tryz.func79 [.agg (.cons (.var .s 0) (.cons (.var .sl 1) (.cons (.var .sl 2) (.cons (.var .sl 3) (.cons (.var .sl 4) (.cons (.var .sl 5) (.cons (.var .sl 6) (.cons (.var .sl 7) .nil)))))))), .var .s 8] [.string v0, .slice v1.p v1.n v1.c, .slice v2.p v2.n v2.c, .slice v3.p v3.n v3.c, .slice v4.p v4.n v4.c, .slice v5.p v5.n v5.c, .slice v6.p v6.n v6.c, .slice v7.p v7.n v7.c, .string v8] rfl (by kernel_rfl) h
def w80 (v0 : ByteArray) (V : Mem) (R : Ending → Mem → Prop) : Prop :=
 (v0 = (strB [105, 110, 116]) →
 R (.returned (.bool true)) V) ∧ (¬ (v0 = (strB [105, 110, 116])) →
 R (.returned (.bool (decide (v0 = (strB [98, 111, 111, 108]))))) V)
theorem x80 {v0 : ByteArray} {V : Mem} {R : Ending → Mem → Prop} (h : w80 v0 V R) : Tri Tryz.prog 80 #[.string v0] V R :=
 tri_dx (H := { N := 9, early := [], loops := [], keep := [0, 2] }) Tryz.func80 [.var .s 0] [.string v0] rfl (by kernel_rfl) h
def w81 (v0 : ByteArray) (v1 : ByteArray) (v2 : Option Addr) (V : Mem) (R : Ending → Mem → Prop) : Prop :=
 ∃ v3 : Value, K.f.ok v3 ∧ V.rowp v2 (((0 : Int)).toNat * 1) 1 = some [v3] ∧
 ∃ f first caps, (K.cast .f v3) = .func (.func f) first caps ∧ (∀ args w, (callFunc f args).run Tryz.prog w = .ok (.enter f args) w) ∧
 Tri Tryz.prog f (first ++ #[.string v1] ++ caps) V fun e V1 => ∃ v4 : Bool, e = .returned (.bool v4) ∧
 R (.returned (.bool (!v4))) V1
theorem x81 {v0 : ByteArray} {v1 : ByteArray} {v2 : Option Addr} {V : Mem} {R : Ending → Mem → Prop} (h : w81 v0 v1 v2 V R) : Tri Tryz.prog 81 #[.agg #[.string v0, .string v1], .pointer v2] V R :=
 tri_dx (H := { N := 9, early := [], loops := [], keep := [0, 1, 2, 3] }) Tryz.func81 [.agg (.cons (.var .s 0) (.cons (.var .s 1) .nil)), .var .p 2] [.string v0, .string v1, .pointer v2] rfl (by kernel_rfl) h
def w82 (v0 : ByteArray) (v1 : Sl) (v2 : ByteArray) (v3 : Sl) (v4 : Sl) (V : Mem) (R : Ending → Mem → Prop) : Prop :=
 ∃ (I : Nat → List Value → Mem → Prop) (n0 : Nat), I n0 [.bool false, .int .i64 0] V ∧ ∀ n V1, ∀ v5 : Bool, ∀ v6 : Int, I n [.bool v5, .int .i64 v6] V1 → ∀ J0 : List Value → Mem → Prop, (∀ m ys V'', m < n → I m ys V'' → J0 ys V'') →
 (v6 < (v1.n : Int) →
 (¬ (v1.p = none)) ∧ ((0 : Int) ≤ v6) ∧ (v6 < (v1.n : Int)) ∧ (¬ ((ptrAdd v1.p ((v6).toNat * 2)) = none)) ∧ ∃ v7 : ByteArray, ∃ v8 : ByteArray, V1.rowp v1.p ((v6).toNat * 2) 2 = some [.string v7, .string v8] ∧
 Tri Tryz.prog 118 #[.string v8] V1 fun e V2 => ∃ v9 : Bool, e = .returned (.bool v9) ∧
 (v9 = true →
 (K.inR .i64 (v6 + (1 : Int))) ∧ J0 [.bool v5, .int .i64 (v6 + (1 : Int))] V2) ∧ (¬ (v9 = true) →
 R (.returned (.bool false)) V2)) ∧ (¬ (v6 < (v1.n : Int)) →
 (v2 = (strB []) →
 R (.returned (.bool true)) V1) ∧ (¬ (v2 = (strB [])) →
 Tri Tryz.prog 118 #[.string v2] V1 fun e V2 => ∃ v7 : Bool, e = .returned (.bool v7) ∧
 R (.returned (.bool v7)) V2))
theorem x82 {v0 : ByteArray} {v1 : Sl} {v2 : ByteArray} {v3 : Sl} {v4 : Sl} {V : Mem} {R : Ending → Mem → Prop} (h : w82 v0 v1 v2 v3 v4 V R) : Tri Tryz.prog 82 #[.agg #[.string v0, .slice v1.p v1.n v1.c, .string v2, .slice v3.p v3.n v3.c, .slice v4.p v4.n v4.c]] V R :=
 tri_dx (H := { N := 27, early := [], loops := [], keep := [0, 1, 2, 3, 8, 18] }) Tryz.func82 [.agg (.cons (.var .s 0) (.cons (.var .sl 1) (.cons (.var .s 2) (.cons (.var .sl 3) (.cons (.var .sl 4) .nil)))))] [.string v0, .slice v1.p v1.n v1.c, .string v2, .slice v3.p v3.n v3.c, .slice v4.p v4.n v4.c] rfl (by kernel_rfl) h
def w83 (v0 : ByteArray) (v1 : ByteArray) (V : Mem) (R : Ending → Mem → Prop) : Prop :=
 ((100 : Int) < ((v0).size : Int) →
 R (.returned (.bool true)) V) ∧ (¬ ((100 : Int) < ((v0).size : Int)) →
 R (.returned (.bool (decide ((100 : Int) < ((v1).size : Int))))) V)
theorem x83 {v0 : ByteArray} {v1 : ByteArray} {V : Mem} {R : Ending → Mem → Prop} (h : w83 v0 v1 V R) : Tri Tryz.prog 83 #[.agg #[.string v0, .string v1]] V R :=
 tri_dx (H := { N := 13, early := [], loops := [], keep := [0, 1, 2] }) Tryz.func83 [.agg (.cons (.var .s 0) (.cons (.var .s 1) .nil))] [.string v0, .string v1] rfl (by kernel_rfl) h
def w84 (v0 : ByteArray) (V : Mem) (R : Ending → Mem → Prop) : Prop :=
 (v0 = (strB []) →
 R (.returned (.bool false)) V) ∧ (¬ (v0 = (strB [])) →
 ((40 : Int) < ((v0).size : Int) →
 R (.returned (.bool false)) V) ∧ (¬ ((40 : Int) < ((v0).size : Int)) →
 (0 ≤ (0 : Int) ∧ (0 : Int) < ((v0).size : Int)) ∧ Tri Tryz.prog 119 #[.int .u8 (sbyte v0 (0 : Int))] V fun e V1 => ∃ v1 : Int, e = .returned (.int .i64 v1) ∧
 (v1 = (2 : Int) →
 Tri Tryz.prog 120 #[.string v0] V1 fun e V2 => ∃ v2 : Bool, e = .returned (.bool v2) ∧
 (v2 = true →
 R (.returned (.bool false)) V2) ∧ (¬ (v2 = true) →
 ∃ (I : Nat → List Value → Mem → Prop) (n0 : Nat), I n0 [.bool false, .int .i64 0] V2 ∧ ∀ n V3, ∀ v3 : Bool, ∀ v4 : Int, I n [.bool v3, .int .i64 v4] V3 → ∀ J0 : List Value → Mem → Prop, (∀ m ys V'', m < n → I m ys V'' → J0 ys V'') →
 (v4 < ((v0).size : Int) →
 (0 ≤ v4 ∧ v4 < ((v0).size : Int)) ∧ Tri Tryz.prog 119 #[.int .u8 (sbyte v0 v4)] V3 fun e V4 => ∃ v5 : Int, e = .returned (.int .i64 v5) ∧
 (v5 < (2 : Int) →
 R (.returned (.bool false)) V4) ∧ (¬ (v5 < (2 : Int)) →
 (K.inR .i64 (v4 + (1 : Int))) ∧ J0 [.bool v3, .int .i64 (v4 + (1 : Int))] V4)) ∧ (¬ (v4 < ((v0).size : Int)) →
 R (.returned (.bool true)) V3))) ∧ (¬ (v1 = (2 : Int)) →
 R (.returned (.bool false)) V1)))
theorem x84 {v0 : ByteArray} {V : Mem} {R : Ending → Mem → Prop} (h : w84 v0 V R) : Tri Tryz.prog 84 #[.string v0] V R :=
 tri_dx (H := { N := 32, early := [], loops := [], keep := [0, 2, 3, 20, 22, 23, 24, 30] }) Tryz.func84 [.var .s 0] [.string v0] rfl (by kernel_rfl) h
end Go.Proofs
