/- Part 9 of a proof of a law of this seat: no statement of the seat is proved here. -/
import Derived.Test.YtjnmeimbcljkjaaGreatDoorPart06
set_option linter.unusedVariables false
set_option linter.unusedSimpArgs false
namespace Go.Proofs
open Go Go.Sx
set_option maxRecDepth 100000
def w85 (v0 : Sl) (v1 : Int) (V : Mem) (R : Ending → Mem → Prop) : Prop :=
 ((v0.n : Int) ≤ v1 →
 Tri Tryz.prog 26 #[.slice v0.p v0.n v0.c, .func (.func 121) #[] #[]] V fun e V1 => ∃ v2 : Bool, e = .returned (.bool v2) ∧
 R (.returned (.bool (!v2))) V1) ∧ (¬ ((v0.n : Int) ≤ v1) →
 R (.returned (.bool false)) V)
theorem x85 {v0 : Sl} {v1 : Int} {V : Mem} {R : Ending → Mem → Prop} (h : w85 v0 v1 V R) : Tri Tryz.prog 85 #[.slice v0.p v0.n v0.c, .int .i64 v1] V R :=
 tri_dx (H := { N := 14, early := [], loops := [], keep := [0, 1, 4] }) Tryz.func85 [.var .sl 0, .var (.i .i64) 1] [.slice v0.p v0.n v0.c, .int .i64 v1] rfl (by kernel_rfl) h
def w86 (v0 : ByteArray) (v1 : Sl) (v2 : Sl) (v3 : Sl) (v4 : Sl) (v5 : Sl) (v6 : Sl) (v7 : Sl) (V : Mem) (R : Ending → Mem → Prop) : Prop :=
 GenK Tryz.prog (.call { callee := (.builtin .max), args := #[.tmp 11, .tmp 14, .tmp 17, .tmp 20], argTypes := #[3, 3, 3, 3] }) 3 (gval [(11, (.u .len (.var .sl 4))), (14, (.u .len (.var .sl 5))), (17, (.u .len (.var .sl 6))), (20, (.u .len (.var .sl 7)))] [.string v0, .slice v1.p v1.n v1.c, .slice v2.p v2.n v2.c, .slice v3.p v3.n v3.c, .slice v4.p v4.n v4.c, .slice v5.p v5.n v5.c, .slice v6.p v6.n v6.c, .slice v7.p v7.n v7.c]) V fun x V1 => ∃ v8 : Int, x = (.int .i64 v8) ∧
 ((12 : Int) < v8 →
 R (.returned (.bool false)) V1) ∧ (¬ ((12 : Int) < v8) →
 ∃ (I : Nat → List Value → Mem → Prop) (n0 : Nat), I n0 [.bool false, .int .i64 0] V1 ∧ ∀ n V2, ∀ v9 : Bool, ∀ v10 : Int, I n [.bool v9, .int .i64 v10] V2 → ∀ J0 : List Value → Mem → Prop, (∀ m ys V'', m < n → I m ys V'' → J0 ys V'') →
 (v10 < (v4.n : Int) →
 (¬ (v4.p = none)) ∧ ((0 : Int) ≤ v10) ∧ (v10 < (v4.n : Int)) ∧ ∃ v11 : ByteArray, ∃ v12 : ByteArray, ∃ v13 : Int, ∃ v14 : Int, ∃ v15 : Int, ∃ v16 : ByteArray, ∃ v17 : Sl, V2.rowp v4.p ((v10).toNat * 7) 7 = some [.string v11, .string v12, .int .i64 v13, .int .i64 v14, .int .i64 v15, .string v16, .slice v17.p v17.n v17.c] ∧
 Tri Tryz.prog 84 #[.string v11] V2 fun e V3 => ∃ v18 : Bool, e = .returned (.bool v18) ∧
 (v18 = true →
 Tri Tryz.prog 84 #[.string v12] V3 fun e V4 => ∃ v19 : Bool, e = .returned (.bool v19) ∧
 (v19 = true →
 (v13 < ((-1099511627776) : Int) →
 R (.returned (.bool false)) V4) ∧ (¬ (v13 < ((-1099511627776) : Int)) →
 ((1099511627776 : Int) < v13 →
 R (.returned (.bool false)) V4) ∧ (¬ ((1099511627776 : Int) < v13) →
 Tri Tryz.prog 62 #[.agg #[.int .i64 v14, .int .i64 v15, .string v16, .slice v17.p v17.n v17.c]] V4 fun e V5 => ∃ v20 : Bool, e = .returned (.bool v20) ∧
 (v20 = true →
 (K.inR .i64 (v10 + (1 : Int))) ∧ J0 [.bool v9, .int .i64 (v10 + (1 : Int))] V5) ∧ (¬ (v20 = true) →
 R (.returned (.bool false)) V5)))) ∧ (¬ (v19 = true) →
 R (.returned (.bool false)) V4)) ∧ (¬ (v18 = true) →
 R (.returned (.bool false)) V3)) ∧ (¬ (v10 < (v4.n : Int)) →
 ∃ (I : Nat → List Value → Mem → Prop) (n0 : Nat), I n0 [.bool v9, .int .i64 0] V2 ∧ ∀ n V3, ∀ v11 : Bool, ∀ v12 : Int, I n [.bool v11, .int .i64 v12] V3 → ∀ J1 : List Value → Mem → Prop, (∀ m ys V'', m < n → I m ys V'' → J1 ys V'') →
 (v12 < (v5.n : Int) →
 (¬ (v5.p = none)) ∧ ((0 : Int) ≤ v12) ∧ (v12 < (v5.n : Int)) ∧ ∃ v13 : ByteArray, ∃ v14 : ByteArray, ∃ v15 : Int, ∃ v16 : Int, ∃ v17 : ByteArray, ∃ v18 : Sl, V3.rowp v5.p ((v12).toNat * 6) 6 = some [.string v13, .string v14, .int .i64 v15, .int .i64 v16, .string v17, .slice v18.p v18.n v18.c] ∧
 Tri Tryz.prog 84 #[.string v13] V3 fun e V4 => ∃ v19 : Bool, e = .returned (.bool v19) ∧
 (v19 = true →
 Tri Tryz.prog 123 #[.string v14] V4 fun e V5 => ∃ v20 : Bool, e = .returned (.bool v20) ∧
 (v20 = true →
 Tri Tryz.prog 62 #[.agg #[.int .i64 v15, .int .i64 v16, .string v17, .slice v18.p v18.n v18.c]] V5 fun e V6 => ∃ v21 : Bool, e = .returned (.bool v21) ∧
 (v21 = true →
 (K.inR .i64 (v12 + (1 : Int))) ∧ J1 [.bool v11, .int .i64 (v12 + (1 : Int))] V6) ∧ (¬ (v21 = true) →
 R (.returned (.bool false)) V6)) ∧ (¬ (v20 = true) →
 R (.returned (.bool false)) V5)) ∧ (¬ (v19 = true) →
 R (.returned (.bool false)) V4)) ∧ (¬ (v12 < (v5.n : Int)) →
 ∃ (I : Nat → List Value → Mem → Prop) (n0 : Nat), I n0 [.bool v11, .int .i64 0] V3 ∧ ∀ n V4, ∀ v13 : Bool, ∀ v14 : Int, I n [.bool v13, .int .i64 v14] V4 → ∀ J2 : List Value → Mem → Prop, (∀ m ys V'', m < n → I m ys V'' → J2 ys V'') →
 (v14 < (v6.n : Int) →
 (¬ (v6.p = none)) ∧ ((0 : Int) ≤ v14) ∧ (v14 < (v6.n : Int)) ∧ ∃ v15 : ByteArray, ∃ v16 : Int, ∃ v17 : Int, ∃ v18 : ByteArray, ∃ v19 : Sl, V4.rowp v6.p ((v14).toNat * 5) 5 = some [.string v15, .int .i64 v16, .int .i64 v17, .string v18, .slice v19.p v19.n v19.c] ∧
 Tri Tryz.prog 123 #[.string v15] V4 fun e V5 => ∃ v20 : Bool, e = .returned (.bool v20) ∧
 (v20 = true →
 Tri Tryz.prog 62 #[.agg #[.int .i64 v16, .int .i64 v17, .string v18, .slice v19.p v19.n v19.c]] V5 fun e V6 => ∃ v21 : Bool, e = .returned (.bool v21) ∧
 (v21 = true →
 (K.inR .i64 (v14 + (1 : Int))) ∧ J2 [.bool v13, .int .i64 (v14 + (1 : Int))] V6) ∧ (¬ (v21 = true) →
 R (.returned (.bool false)) V6)) ∧ (¬ (v20 = true) →
 R (.returned (.bool false)) V5)) ∧ (¬ (v14 < (v6.n : Int)) →
 Tri Tryz.prog 124 #[.slice v7.p v7.n v7.c, .func (.func 125) #[] #[]] V4 fun e V5 => ∃ v15 : Bool, e = .returned (.bool v15) ∧
 R (.returned (.bool (!v15))) V5))))
theorem x86 {v0 : ByteArray} {v1 : Sl} {v2 : Sl} {v3 : Sl} {v4 : Sl} {v5 : Sl} {v6 : Sl} {v7 : Sl} {V : Mem} {R : Ending → Mem → Prop} (h : w86 v0 v1 v2 v3 v4 v5 v6 v7 V R) : Tri Tryz.prog 86 #[.agg #[.string v0, .slice v1.p v1.n v1.c, .slice v2.p v2.n v2.c, .slice v3.p v3.n v3.c, .slice v4.p v4.n v4.c, .slice v5.p v5.n v5.c, .slice v6.p v6.n v6.c, .slice v7.p v7.n v7.c]] V R :=
 tri_dx (H := { N := 103, early := [], loops := [], keep := [0, 1, 2, 4, 6, 8, 22, 24, 25, 26, 27, 55, 58, 59, 60, 61, 79, 82, 83, 84, 85, 97] }) Tryz.func86 [.agg (.cons (.var .s 0) (.cons (.var .sl 1) (.cons (.var .sl 2) (.cons (.var .sl 3) (.cons (.var .sl 4) (.cons (.var .sl 5) (.cons (.var .sl 6) (.cons (.var .sl 7) .nil))))))))] [.string v0, .slice v1.p v1.n v1.c, .slice v2.p v2.n v2.c, .slice v3.p v3.n v3.c, .slice v4.p v4.n v4.c, .slice v5.p v5.n v5.c, .slice v6.p v6.n v6.c, .slice v7.p v7.n v7.c] rfl (by kernel_rfl) h
def w87 (v0 : Sl) (v1 : Value) (V : Mem) (R : Ending → Mem → Prop) : Prop :=
 Tri Tryz.prog 126 #[.slice v0.p v0.n v0.c, (K.cast .f v1)] V fun e V1 => ∃ v2 : Int, e = .returned (.int .i64 v2) ∧
 R (.returned (.bool (decide ((0 : Int) ≤ v2)))) V1
theorem x87 {v0 : Sl} {v1 : Value} {V : Mem} {R : Ending → Mem → Prop} (h : w87 v0 v1 V R) : Tri Tryz.prog 87 #[.slice v0.p v0.n v0.c, (K.cast .f v1)] V R :=
 tri_dx (H := { N := 9, early := [], loops := [], keep := [0, 1, 4] }) Tryz.func87 [.var .sl 0, .var .f 1] [.slice v0.p v0.n v0.c, v1] rfl (by kernel_rfl) h
def w88 (v0 : ByteArray) (v1 : Sl) (V : Mem) (R : Ending → Mem → Prop) : Prop :=
 Tri Tryz.prog 84 #[.string v0] V fun e V1 => ∃ v2 : Bool, e = .returned (.bool v2) ∧
 (v2 = true →
 Tri Tryz.prog 85 #[.slice v1.p v1.n v1.c, .int .i64 12] V1 fun e V2 => ∃ v3 : Bool, e = .returned (.bool v3) ∧
 R (.returned (.bool (!v3))) V2) ∧ (¬ (v2 = true) →
 R (.returned (.bool true)) V1)
theorem x88 {v0 : ByteArray} {v1 : Sl} {V : Mem} {R : Ending → Mem → Prop} (h : w88 v0 v1 V R) : Tri Tryz.prog 88 #[.agg #[.string v0, .slice v1.p v1.n v1.c]] V R :=
 tri_dx (H := { N := 13, early := [], loops := [], keep := [0, 1, 2] }) Tryz.func88 [.agg (.cons (.var .s 0) (.cons (.var .sl 1) .nil))] [.string v0, .slice v1.p v1.n v1.c] rfl (by kernel_rfl) h
def w89 (v0 : Sl) (v1 : Value) (V : Mem) (R : Ending → Mem → Prop) : Prop :=
 Tri Tryz.prog 127 #[.slice v0.p v0.n v0.c, (K.cast .f v1)] V fun e V1 => ∃ v2 : Int, e = .returned (.int .i64 v2) ∧
 R (.returned (.bool (decide ((0 : Int) ≤ v2)))) V1
theorem x89 {v0 : Sl} {v1 : Value} {V : Mem} {R : Ending → Mem → Prop} (h : w89 v0 v1 V R) : Tri Tryz.prog 89 #[.slice v0.p v0.n v0.c, (K.cast .f v1)] V R :=
 tri_dx (H := { N := 9, early := [], loops := [], keep := [0, 1, 4] }) Tryz.func89 [.var .sl 0, .var .f 1] [.slice v0.p v0.n v0.c, v1] rfl (by kernel_rfl) h
def w90 (v0 : ByteArray) (v1 : Sl) (v2 : ByteArray) (v3 : Sl) (v4 : Sl) (V : Mem) (R : Ending → Mem → Prop) : Prop :=
 Tri Tryz.prog 91 #[.agg #[.string v0, .slice v1.p v1.n v1.c, .string v2, .slice v3.p v3.n v3.c, .slice v4.p v4.n v4.c]] V fun e V1 => ∃ v5 : Bool, e = .returned (.bool v5) ∧
 R (.returned (.bool (!v5))) V1
theorem x90 {v0 : ByteArray} {v1 : Sl} {v2 : ByteArray} {v3 : Sl} {v4 : Sl} {V : Mem} {R : Ending → Mem → Prop} (h : w90 v0 v1 v2 v3 v4 V R) : Tri Tryz.prog 90 #[.agg #[.string v0, .slice v1.p v1.n v1.c, .string v2, .slice v3.p v3.n v3.c, .slice v4.p v4.n v4.c]] V R :=
 tri_dx (H := { N := 6, early := [], loops := [], keep := [0, 1, 2] }) Tryz.func90 [.agg (.cons (.var .s 0) (.cons (.var .sl 1) (.cons (.var .s 2) (.cons (.var .sl 3) (.cons (.var .sl 4) .nil)))))] [.string v0, .slice v1.p v1.n v1.c, .string v2, .slice v3.p v3.n v3.c, .slice v4.p v4.n v4.c] rfl (by kernel_rfl) h
def w91 (v0 : ByteArray) (v1 : Sl) (v2 : ByteArray) (v3 : Sl) (v4 : Sl) (V : Mem) (R : Ending → Mem → Prop) : Prop :=
 Tri Tryz.prog 84 #[.string v0] V fun e V1 => ∃ v5 : Bool, e = .returned (.bool v5) ∧
 (v5 = true →
 Tri Tryz.prog 85 #[.slice v1.p v1.n v1.c, .int .i64 6] V1 fun e V2 => ∃ v6 : Bool, e = .returned (.bool v6) ∧
 (v6 = true →
 Tri Tryz.prog 85 #[.slice v3.p v3.n v3.c, .int .i64 12] V2 fun e V3 => ∃ v7 : Bool, e = .returned (.bool v7) ∧
 (v7 = true →
 (v2 = (strB []) →
 PubT [.int .i64 200] 154 V3 fun v8 V4 =>
 Tri Tryz.prog 128 #[.slice v4.p v4.n v4.c, .int .i64 1, .pointer (ptrAdd v8 0)] V4 fun e V5 => ∃ v9 : Bool, e = .returned (.bool v9) ∧
 R (.returned (.bool v9)) V5) ∧ (¬ (v2 = (strB [])) →
 Tri Tryz.prog 122 #[.string v2] V3 fun e V4 => ∃ v8 : Bool, e = .returned (.bool v8) ∧
 (v8 = true →
 PubT [.int .i64 200] 154 V4 fun v9 V5 =>
 Tri Tryz.prog 128 #[.slice v4.p v4.n v4.c, .int .i64 1, .pointer (ptrAdd v9 0)] V5 fun e V6 => ∃ v10 : Bool, e = .returned (.bool v10) ∧
 R (.returned (.bool v10)) V6) ∧ (¬ (v8 = true) →
 R (.returned (.bool false)) V4))) ∧ (¬ (v7 = true) →
 R (.returned (.bool false)) V3)) ∧ (¬ (v6 = true) →
 R (.returned (.bool false)) V2)) ∧ (¬ (v5 = true) →
 R (.returned (.bool false)) V1)
theorem x91 {v0 : ByteArray} {v1 : Sl} {v2 : ByteArray} {v3 : Sl} {v4 : Sl} {V : Mem} {R : Ending → Mem → Prop} (h : w91 v0 v1 v2 v3 v4 V R) : Tri Tryz.prog 91 #[.agg #[.string v0, .slice v1.p v1.n v1.c, .string v2, .slice v3.p v3.n v3.c, .slice v4.p v4.n v4.c]] V R :=
 tri_dx (H := { N := 33, early := [], loops := [], keep := [0, 1, 2] }) Tryz.func91 [.agg (.cons (.var .s 0) (.cons (.var .sl 1) (.cons (.var .s 2) (.cons (.var .sl 3) (.cons (.var .sl 4) .nil)))))] [.string v0, .slice v1.p v1.n v1.c, .string v2, .slice v3.p v3.n v3.c, .slice v4.p v4.n v4.c] rfl (by kernel_rfl) h
def w92 (v0 : Sl) (V : Mem) (R : Ending → Mem → Prop) : Prop :=
 PubT [.slice v0.p v0.n v0.c] 22 V fun v1 V1 =>
 R (.returned (.func (.func 129) #[] #[.pointer (ptrAdd v1 0)])) V1
theorem x92 {v0 : Sl} {V : Mem} {R : Ending → Mem → Prop} (h : w92 v0 V R) : Tri Tryz.prog 92 #[.slice v0.p v0.n v0.c] V R :=
 tri_dx (H := { N := 4, early := [], loops := [], keep := [0, 1, 2] }) Tryz.func92 [.var .sl 0] [.slice v0.p v0.n v0.c] rfl (by kernel_rfl) h
def w93 (v0 : Sl) (V : Mem) (R : Ending → Mem → Prop) : Prop :=
 PubT [.slice v0.p v0.n v0.c] 24 V fun v1 V1 =>
 R (.returned (.func (.func 130) #[] #[.pointer (ptrAdd v1 0)])) V1
theorem x93 {v0 : Sl} {V : Mem} {R : Ending → Mem → Prop} (h : w93 v0 V R) : Tri Tryz.prog 93 #[.slice v0.p v0.n v0.c] V R :=
 tri_dx (H := { N := 4, early := [], loops := [], keep := [0, 1, 2] }) Tryz.func93 [.var .sl 0] [.slice v0.p v0.n v0.c] rfl (by kernel_rfl) h
def w94 (v0 : Option Addr) (V : Mem) (R : Ending → Mem → Prop) : Prop :=
 (¬ (v0 = none)) ∧ (¬ (v0 = none)) ∧ (¬ ((ptrAdd v0 0) = none)) ∧ ∃ v1 : Sl, V.rowp v0 (((1 : Int)).toNat * 1) 1 = some [.slice v1.p v1.n v1.c] ∧
 ∃ (I : Nat → List Value → Mem → Prop) (n0 : Nat), I n0 [.pointer none, .int .i64 0] V ∧ ∀ n V1, ∀ v2 : Option Addr, ∀ v3 : Int, I n [.pointer v2, .int .i64 v3] V1 → ∀ J0 : List Value → Mem → Prop, (∀ m ys V'', m < n → I m ys V'' → J0 ys V'') →
 (v3 < (v1.n : Int) →
 (¬ (v1.p = none)) ∧ ((0 : Int) ≤ v3) ∧ (v3 < (v1.n : Int)) ∧ ∃ v4 : ByteArray, ∃ v5 : Sl, V1.rowp v1.p ((v3).toNat * 2) 2 = some [.string v4, .slice v5.p v5.n v5.c] ∧
 (¬ (v0 = none)) ∧ (¬ (v0 = none)) ∧ (¬ ((ptrAdd v0 0) = none)) ∧ ∃ v6 : Sl, V1.rowp v0 (((1 : Int)).toNat * 1) 1 = some [.slice v6.p v6.n v6.c] ∧
 Tri Tryz.prog 131 #[.slice v6.p v6.n v6.c, .int .i64 v3, .func (.func 132) #[] #[]] V1 fun e V2 => ∃ v7 : Bool, e = .returned (.bool v7) ∧
 (v7 = true →
 PubT [.string v4, .int .i64 (-1), .int .i64 10] 103 V2 fun v8 V3 =>
 R (.returned (.pointer (ptrAdd v8 0))) V3) ∧ (¬ (v7 = true) →
 (K.inR .i64 (v3 + (1 : Int))) ∧ J0 [.pointer v2, .int .i64 (v3 + (1 : Int))] V2)) ∧ (¬ (v3 < (v1.n : Int)) →
 (¬ (v0 = none)) ∧ (¬ (v0 = none)) ∧ (¬ ((ptrAdd v0 0) = none)) ∧ ∃ v4 : Sl, V1.rowp v0 (((1 : Int)).toNat * 1) 1 = some [.slice v4.p v4.n v4.c] ∧
 ∃ (I : Nat → List Value → Mem → Prop) (n0 : Nat), I n0 [.pointer v2, .int .i64 0] V1 ∧ ∀ n V2, ∀ v5 : Option Addr, ∀ v6 : Int, I n [.pointer v5, .int .i64 v6] V2 → ∀ J1 : List Value → Mem → Prop, (∀ m ys V'', m < n → I m ys V'' → J1 ys V'') →
 (v6 < (v4.n : Int) →
 (¬ (v4.p = none)) ∧ ((0 : Int) ≤ v6) ∧ (v6 < (v4.n : Int)) ∧ ∃ v7 : ByteArray, ∃ v8 : Sl, V2.rowp v4.p ((v6).toNat * 2) 2 = some [.string v7, .slice v8.p v8.n v8.c] ∧
 Tri Tryz.prog 133 #[.pointer v0, .slice v8.p v8.n v8.c] V2 fun e V3 => ∃ v9 : Int, e = .returned (.int .i64 v9) ∧
 (v9 = (0 : Int) →
 (K.inR .i64 (v6 + (1 : Int))) ∧ J1 [.pointer v5, .int .i64 (v6 + (1 : Int))] V3) ∧ (¬ (v9 = (0 : Int)) →
 PubT [.string v7, .int .i64 (-1), .int .i64 v9] 103 V3 fun v10 V4 =>
 R (.returned (.pointer (ptrAdd v10 0))) V4)) ∧ (¬ (v6 < (v4.n : Int)) →
 (¬ (v0 = none)) ∧ (¬ (v0 = none)) ∧ (¬ ((ptrAdd v0 0) = none)) ∧ ∃ v7 : Sl, V2.rowp v0 (((2 : Int)).toNat * 1) 1 = some [.slice v7.p v7.n v7.c] ∧
 ∃ (I : Nat → List Value → Mem → Prop) (n0 : Nat), I n0 [.pointer v5, .int .i64 0] V2 ∧ ∀ n V3, ∀ v8 : Option Addr, ∀ v9 : Int, I n [.pointer v8, .int .i64 v9] V3 → ∀ J2 : List Value → Mem → Prop, (∀ m ys V'', m < n → I m ys V'' → J2 ys V'') →
 (v9 < (v7.n : Int) →
 (¬ (v7.p = none)) ∧ ((0 : Int) ≤ v9) ∧ (v9 < (v7.n : Int)) ∧ ∃ v10 : ByteArray, ∃ v11 : ByteArray, V3.rowp v7.p ((v9).toNat * 2) 2 = some [.string v10, .string v11] ∧
 (¬ (v0 = none)) ∧ (¬ (v0 = none)) ∧ (¬ ((ptrAdd v0 0) = none)) ∧ ∃ v12 : Sl, V3.rowp v0 (((2 : Int)).toNat * 1) 1 = some [.slice v12.p v12.n v12.c] ∧
 Tri Tryz.prog 134 #[.slice v12.p v12.n v12.c, .int .i64 v9, .func (.func 135) #[] #[]] V3 fun e V4 => ∃ v13 : Bool, e = .returned (.bool v13) ∧
 (v13 = true →
 PubT [.string v10, .int .i64 (-1), .int .i64 10] 103 V4 fun v14 V5 =>
 R (.returned (.pointer (ptrAdd v14 0))) V5) ∧ (¬ (v13 = true) →
 Tri Tryz.prog 136 #[.pointer v0, .string v11] V4 fun e V5 => ∃ v14 : Bool, e = .returned (.bool v14) ∧
 (v14 = true →
 (K.inR .i64 (v9 + (1 : Int))) ∧ J2 [.pointer v8, .int .i64 (v9 + (1 : Int))] V5) ∧ (¬ (v14 = true) →
 PubT [.string v10, .int .i64 (-1), .int .i64 9] 103 V5 fun v15 V6 =>
 R (.returned (.pointer (ptrAdd v15 0))) V6))) ∧ (¬ (v9 < (v7.n : Int)) →
 R (.returned (.pointer none)) V3)))
theorem x94 {v0 : Option Addr} {V : Mem} {R : Ending → Mem → Prop} (h : w94 v0 V R) : Tri Tryz.prog 94 #[.pointer v0] V R :=
 tri_dx (H := { N := 87, early := [], loops := [], keep := [0, 2, 3, 4, 6, 7, 8, 9, 14, 15, 16, 17, 27, 37, 38, 39, 40, 48, 59, 60, 61, 62, 72, 81] }) Tryz.func94 [.var .p 0] [.pointer v0] rfl (by kernel_rfl) h
def w95 (v0 : Option Addr) (V : Mem) (R : Ending → Mem → Prop) : Prop :=
 (¬ (v0 = none)) ∧ (¬ (v0 = none)) ∧ (¬ ((ptrAdd v0 0) = none)) ∧ ∃ v1 : Sl, V.rowp v0 (((3 : Int)).toNat * 1) 1 = some [.slice v1.p v1.n v1.c] ∧
 ∃ (I : Nat → List Value → Mem → Prop) (n0 : Nat), I n0 [.pointer none, .int .i64 0] V ∧ ∀ n V1, ∀ v2 : Option Addr, ∀ v3 : Int, I n [.pointer v2, .int .i64 v3] V1 → ∀ J0 : List Value → Mem → Prop, (∀ m ys V'', m < n → I m ys V'' → J0 ys V'') →
 (v3 < (v1.n : Int) →
 (¬ (v1.p = none)) ∧ ((0 : Int) ≤ v3) ∧ (v3 < (v1.n : Int)) ∧ ∃ v4 : ByteArray, ∃ v5 : Sl, ∃ v6 : ByteArray, ∃ v7 : Sl, ∃ v8 : Sl, V1.rowp v1.p ((v3).toNat * 5) 5 = some [.string v4, .slice v5.p v5.n v5.c, .string v6, .slice v7.p v7.n v7.c, .slice v8.p v8.n v8.c] ∧
 (¬ (v0 = none)) ∧ (¬ (v0 = none)) ∧ (¬ ((ptrAdd v0 0) = none)) ∧ ∃ v9 : Sl, V1.rowp v0 (((3 : Int)).toNat * 1) 1 = some [.slice v9.p v9.n v9.c] ∧
 Tri Tryz.prog 137 #[.slice v9.p v9.n v9.c, .int .i64 v3, .func (.func 138) #[] #[]] V1 fun e V2 => ∃ v10 : Bool, e = .returned (.bool v10) ∧
 (v10 = true →
 PubT [.string v4, .int .i64 (-1), .int .i64 10] 103 V2 fun v11 V3 =>
 R (.returned (.pointer (ptrAdd v11 0))) V3) ∧ (¬ (v10 = true) →
 PubT [.slice v5.p v5.n v5.c, .slice v7.p v7.n v7.c] 23 V2 fun v11 V3 =>
 Tri Tryz.prog 139 #[.slice (ptrAdd v11 0) ((2 : Int)).toNat ((2 : Int)).toNat] V3 fun e V4 => ∃ v12 : Sl, e = .returned (.slice v12.p v12.n v12.c) ∧
 Tri Tryz.prog 133 #[.pointer v0, .slice v12.p v12.n v12.c] V4 fun e V5 => ∃ v13 : Int, e = .returned (.int .i64 v13) ∧
 (v13 = (0 : Int) →
 (v6 = (strB []) →
 (K.inR .i64 (v3 + (1 : Int))) ∧ J0 [.pointer v2, .int .i64 (v3 + (1 : Int))] V5) ∧ (¬ (v6 = (strB [])) →
 Tri Tryz.prog 136 #[.pointer v0, .string v6] V5 fun e V6 => ∃ v14 : Bool, e = .returned (.bool v14) ∧
 (v14 = true →
 (K.inR .i64 (v3 + (1 : Int))) ∧ J0 [.pointer v2, .int .i64 (v3 + (1 : Int))] V6) ∧ (¬ (v14 = true) →
 PubT [.string v4, .int .i64 (-1), .int .i64 9] 103 V6 fun v15 V7 =>
 R (.returned (.pointer (ptrAdd v15 0))) V7))) ∧ (¬ (v13 = (0 : Int)) →
 PubT [.string v4, .int .i64 (-1), .int .i64 v13] 103 V5 fun v14 V6 =>
 R (.returned (.pointer (ptrAdd v14 0))) V6))) ∧ (¬ (v3 < (v1.n : Int)) →
 R (.returned (.pointer none)) V1)
theorem x95 {v0 : Option Addr} {V : Mem} {R : Ending → Mem → Prop} (h : w95 v0 V R) : Tri Tryz.prog 95 #[.pointer v0] V R :=
 tri_dx (H := { N := 58, early := [], loops := [], keep := [0, 2, 3, 4, 5, 10, 11, 12, 13, 23, 37, 52] }) Tryz.func95 [.var .p 0] [.pointer v0] rfl (by kernel_rfl) h
def w96 (v0 : Option Addr) (V : Mem) (R : Ending → Mem → Prop) : Prop :=
 (¬ (v0 = none)) ∧ (¬ (v0 = none)) ∧ (¬ ((ptrAdd v0 0) = none)) ∧ ∃ v1 : Sl, V.rowp v0 (((4 : Int)).toNat * 1) 1 = some [.slice v1.p v1.n v1.c] ∧
 ∃ (I : Nat → List Value → Mem → Prop) (n0 : Nat), I n0 [.pointer none, .int .i64 0] V ∧ ∀ n V1, ∀ v2 : Option Addr, ∀ v3 : Int, I n [.pointer v2, .int .i64 v3] V1 → ∀ J0 : List Value → Mem → Prop, (∀ m ys V'', m < n → I m ys V'' → J0 ys V'') →
 (v3 < (v1.n : Int) →
 (¬ (v1.p = none)) ∧ ((0 : Int) ≤ v3) ∧ (v3 < (v1.n : Int)) ∧ ∃ v4 : ByteArray, ∃ v5 : ByteArray, ∃ v6 : Int, ∃ v7 : Int, ∃ v8 : Int, ∃ v9 : ByteArray, ∃ v10 : Sl, V1.rowp v1.p ((v3).toNat * 7) 7 = some [.string v4, .string v5, .int .i64 v6, .int .i64 v7, .int .i64 v8, .string v9, .slice v10.p v10.n v10.c] ∧
 (¬ (v0 = none)) ∧ (¬ (v0 = none)) ∧ (¬ ((ptrAdd v0 0) = none)) ∧ ∃ v11 : Sl, V1.rowp v0 (((4 : Int)).toNat * 1) 1 = some [.slice v11.p v11.n v11.c] ∧
 Tri Tryz.prog 140 #[.slice v11.p v11.n v11.c, .int .i64 v3, .func (.func 141) #[] #[]] V1 fun e V2 => ∃ v12 : Bool, e = .returned (.bool v12) ∧
 (v12 = true →
 PubT [.string v4, .int .i64 (-1), .int .i64 10] 103 V2 fun v13 V3 =>
 R (.returned (.pointer (ptrAdd v13 0))) V3) ∧ (¬ (v12 = true) →
 Tri Tryz.prog 77 #[.pointer v0, .string v5] V2 fun e V3 => ∃ v13 : Bool, e = .returned (.bool v13) ∧
 (v13 = true →
 (K.inR .i64 (v3 + (1 : Int))) ∧ J0 [.pointer v2, .int .i64 (v3 + (1 : Int))] V3) ∧ (¬ (v13 = true) →
 PubT [.string v4, .int .i64 (-1), .int .i64 9] 103 V3 fun v14 V4 =>
 R (.returned (.pointer (ptrAdd v14 0))) V4))) ∧ (¬ (v3 < (v1.n : Int)) →
 (¬ (v0 = none)) ∧ (¬ (v0 = none)) ∧ (¬ ((ptrAdd v0 0) = none)) ∧ ∃ v4 : Sl, V1.rowp v0 (((5 : Int)).toNat * 1) 1 = some [.slice v4.p v4.n v4.c] ∧
 ∃ (I : Nat → List Value → Mem → Prop) (n0 : Nat), I n0 [.pointer v2, .int .i64 0] V1 ∧ ∀ n V2, ∀ v5 : Option Addr, ∀ v6 : Int, I n [.pointer v5, .int .i64 v6] V2 → ∀ J1 : List Value → Mem → Prop, (∀ m ys V'', m < n → I m ys V'' → J1 ys V'') →
 (v6 < (v4.n : Int) →
 (¬ (v4.p = none)) ∧ ((0 : Int) ≤ v6) ∧ (v6 < (v4.n : Int)) ∧ ∃ v7 : ByteArray, ∃ v8 : ByteArray, ∃ v9 : Int, ∃ v10 : Int, ∃ v11 : ByteArray, ∃ v12 : Sl, V2.rowp v4.p ((v6).toNat * 6) 6 = some [.string v7, .string v8, .int .i64 v9, .int .i64 v10, .string v11, .slice v12.p v12.n v12.c] ∧
 (¬ (v0 = none)) ∧ (¬ (v0 = none)) ∧ (¬ ((ptrAdd v0 0) = none)) ∧ ∃ v13 : Sl, V2.rowp v0 (((5 : Int)).toNat * 1) 1 = some [.slice v13.p v13.n v13.c] ∧
 Tri Tryz.prog 142 #[.slice v13.p v13.n v13.c, .int .i64 v6, .func (.func 143) #[] #[]] V2 fun e V3 => ∃ v14 : Bool, e = .returned (.bool v14) ∧
 (v14 = true →
 PubT [.string v7, .int .i64 (-1), .int .i64 10] 103 V3 fun v15 V4 =>
 R (.returned (.pointer (ptrAdd v15 0))) V4) ∧ (¬ (v14 = true) →
 (v8 = (strB []) →
 (K.inR .i64 (v6 + (1 : Int))) ∧ J1 [.pointer v5, .int .i64 (v6 + (1 : Int))] V3) ∧ (¬ (v8 = (strB [])) →
 Tri Tryz.prog 77 #[.pointer v0, .string v8] V3 fun e V4 => ∃ v15 : Bool, e = .returned (.bool v15) ∧
 (v15 = true →
 (K.inR .i64 (v6 + (1 : Int))) ∧ J1 [.pointer v5, .int .i64 (v6 + (1 : Int))] V4) ∧ (¬ (v15 = true) →
 PubT [.string v7, .int .i64 (-1), .int .i64 9] 103 V4 fun v16 V5 =>
 R (.returned (.pointer (ptrAdd v16 0))) V5)))) ∧ (¬ (v6 < (v4.n : Int)) →
 (¬ (v0 = none)) ∧ (¬ (v0 = none)) ∧ (¬ ((ptrAdd v0 0) = none)) ∧ ∃ v7 : Sl, V2.rowp v0 (((6 : Int)).toNat * 1) 1 = some [.slice v7.p v7.n v7.c] ∧
 ∃ (I : Nat → List Value → Mem → Prop) (n0 : Nat), I n0 [.pointer v5, .int .i64 0] V2 ∧ ∀ n V3, ∀ v8 : Option Addr, ∀ v9 : Int, I n [.pointer v8, .int .i64 v9] V3 → ∀ J2 : List Value → Mem → Prop, (∀ m ys V'', m < n → I m ys V'' → J2 ys V'') →
 (v9 < (v7.n : Int) →
 (¬ (v7.p = none)) ∧ ((0 : Int) ≤ v9) ∧ (v9 < (v7.n : Int)) ∧ ∃ v10 : ByteArray, ∃ v11 : Int, ∃ v12 : Int, ∃ v13 : ByteArray, ∃ v14 : Sl, V3.rowp v7.p ((v9).toNat * 5) 5 = some [.string v10, .int .i64 v11, .int .i64 v12, .string v13, .slice v14.p v14.n v14.c] ∧
 (v10 = (strB []) →
 (K.inR .i64 (v9 + (1 : Int))) ∧ J2 [.pointer v8, .int .i64 (v9 + (1 : Int))] V3) ∧ (¬ (v10 = (strB [])) →
 Tri Tryz.prog 77 #[.pointer v0, .string v10] V3 fun e V4 => ∃ v15 : Bool, e = .returned (.bool v15) ∧
 (v15 = true →
 (K.inR .i64 (v9 + (1 : Int))) ∧ J2 [.pointer v8, .int .i64 (v9 + (1 : Int))] V4) ∧ (¬ (v15 = true) →
 PubT [.string (strB [112, 111, 116, 101, 110, 116, 105, 97, 108]), .int .i64 (-1), .int .i64 9] 103 V4 fun v16 V5 =>
 R (.returned (.pointer (ptrAdd v16 0))) V5))) ∧ (¬ (v9 < (v7.n : Int)) →
 (¬ (v0 = none)) ∧ (¬ (v0 = none)) ∧ (¬ ((ptrAdd v0 0) = none)) ∧ ∃ v10 : Sl, V3.rowp v0 (((7 : Int)).toNat * 1) 1 = some [.slice v10.p v10.n v10.c] ∧
 ∃ (I : Nat → List Value → Mem → Prop) (n0 : Nat), I n0 [.pointer v8, .int .i64 0] V3 ∧ ∀ n V4, ∀ v11 : Option Addr, ∀ v12 : Int, I n [.pointer v11, .int .i64 v12] V4 → ∀ J3 : List Value → Mem → Prop, (∀ m ys V'', m < n → I m ys V'' → J3 ys V'') →
 (v12 < (v10.n : Int) →
 (¬ (v10.p = none)) ∧ ((0 : Int) ≤ v12) ∧ (v12 < (v10.n : Int)) ∧ ∃ v13 : ByteArray, ∃ v14 : Int, ∃ v15 : Int, ∃ v16 : ByteArray, ∃ v17 : Sl, V4.rowp v10.p ((v12).toNat * 5) 5 = some [.string v13, .int .i64 v14, .int .i64 v15, .string v16, .slice v17.p v17.n v17.c] ∧
 (¬ (v0 = none)) ∧ (¬ (v0 = none)) ∧ ∃ v18 : Option Nat, V4.rowp v0 (((9 : Int)).toNat * 1) 1 = some [.map v18] ∧
 LookK Tryz.prog 114 (.map v18) (.string v13) true V4 fun x => ∃ v19 : ByteArray, ∃ v20 : Sl, ∃ v21 : ByteArray, ∃ v22 : Sl, ∃ v23 : Sl, ∃ v24 : Bool, x = (.tuple #[.agg #[.string v19, .slice v20.p v20.n v20.c, .string v21, .slice v22.p v22.n v22.c, .slice v23.p v23.n v23.c], .bool v24]) ∧
 (v24 = true →
 (¬ (v0 = none)) ∧ (¬ (v0 = none)) ∧ (¬ ((ptrAdd v0 0) = none)) ∧ ∃ v25 : Sl, V4.rowp v0 (((7 : Int)).toNat * 1) 1 = some [.slice v25.p v25.n v25.c] ∧
 Tri Tryz.prog 144 #[.slice v25.p v25.n v25.c, .int .i64 v12, .func (.func 145) #[] #[]] V4 fun e V5 => ∃ v26 : Bool, e = .returned (.bool v26) ∧
 (v26 = true →
 PubT [.string v13, .int .i64 (-1), .int .i64 10] 103 V5 fun v27 V6 =>
 R (.returned (.pointer (ptrAdd v27 0))) V6) ∧ (¬ (v26 = true) →
 (K.inR .i64 (v12 + (1 : Int))) ∧ J3 [.pointer v11, .int .i64 (v12 + (1 : Int))] V5)) ∧ (¬ (v24 = true) →
 PubT [.string v13, .int .i64 (-1), .int .i64 9] 103 V4 fun v25 V5 =>
 R (.returned (.pointer (ptrAdd v25 0))) V5)) ∧ (¬ (v12 < (v10.n : Int)) →
 R (.returned (.pointer none)) V4))))
theorem x96 {v0 : Option Addr} {V : Mem} {R : Ending → Mem → Prop} (h : w96 v0 V R) : Tri Tryz.prog 96 #[.pointer v0] V R :=
 tri_dx (H := { N := 144, early := [], loops := [], keep := [0, 2, 3, 4, 5, 6, 8, 9, 10, 12, 17, 18, 19, 20, 30, 39, 49, 50, 51, 52, 62, 76, 86, 87, 88, 89, 101, 109, 110, 111, 112, 127, 138] }) Tryz.func96 [.var .p 0] [.pointer v0] rfl (by kernel_rfl) h
def w97 (v0 : Option Addr) (V : Mem) (R : Ending → Mem → Prop) : Prop :=
 (¬ (v0 = none)) ∧ (¬ (v0 = none)) ∧ (¬ ((ptrAdd v0 0) = none)) ∧ ∃ v1 : Sl, V.rowp v0 (((3 : Int)).toNat * 1) 1 = some [.slice v1.p v1.n v1.c] ∧
 ∃ (I : Nat → List Value → Mem → Prop) (n0 : Nat), I n0 [.pointer none, .int .i64 0] V ∧ ∀ n V1, ∀ v2 : Option Addr, ∀ v3 : Int, I n [.pointer v2, .int .i64 v3] V1 → ∀ J0 : List Value → Mem → Prop, (∀ m ys V'', m < n → I m ys V'' → J0 ys V'') →
 (v3 < (v1.n : Int) →
 (¬ (v1.p = none)) ∧ ((0 : Int) ≤ v3) ∧ (v3 < (v1.n : Int)) ∧ ∃ v4 : ByteArray, ∃ v5 : Sl, ∃ v6 : ByteArray, ∃ v7 : Sl, ∃ v8 : Sl, V1.rowp v1.p ((v3).toNat * 5) 5 = some [.string v4, .slice v5.p v5.n v5.c, .string v6, .slice v7.p v7.n v7.c, .slice v8.p v8.n v8.c] ∧
 Tri Tryz.prog 63 #[.pointer v0, .agg #[.string v4, .slice v5.p v5.n v5.c, .string v6, .slice v7.p v7.n v7.c, .slice v8.p v8.n v8.c]] V1 fun e V2 => ∃ v9 : Option Addr, ∃ v10 : Option Nat, ∃ v11 : Bool, e = .returned (.agg #[.pointer v9, .map v10, .bool v11]) ∧
 PubT [.int .i64 0] 3 V2 fun v12 V3 =>
 Tri Tryz.prog 146 #[.agg #[.pointer v9, .map v10, .bool v11], .slice v8.p v8.n v8.c, .string v6, .pointer (ptrAdd v12 0)] V3 fun e V4 => ∃ v13 : Int, ∃ v14 : Int, e = .returned (.tuple #[.int .i64 v13, .int .i64 v14]) ∧
 (v14 = (0 : Int) →
 (K.inR .i64 (v3 + (1 : Int))) ∧ J0 [.pointer v2, .int .i64 (v3 + (1 : Int))] V4) ∧ (¬ (v14 = (0 : Int)) →
 PubT [.string v4, .int .i64 v13, .int .i64 v14] 103 V4 fun v15 V5 =>
 R (.returned (.pointer (ptrAdd v15 0))) V5)) ∧ (¬ (v3 < (v1.n : Int)) →
 R (.returned (.pointer none)) V1)
theorem x97 {v0 : Option Addr} {V : Mem} {R : Ending → Mem → Prop} (h : w97 v0 V R) : Tri Tryz.prog 97 #[.pointer v0] V R :=
 tri_dx (H := { N := 38, early := [], loops := [], keep := [0, 2, 4, 5, 6, 7, 12, 13, 14, 15, 30] }) Tryz.func97 [.var .p 0] [.pointer v0] rfl (by kernel_rfl) h
def w98 (v0 : Option Addr) (V : Mem) (R : Ending → Mem → Prop) : Prop :=
 (¬ (v0 = none)) ∧ (¬ (v0 = none)) ∧ (¬ ((ptrAdd v0 0) = none)) ∧ ∃ v1 : Sl, V.rowp v0 (((4 : Int)).toNat * 1) 1 = some [.slice v1.p v1.n v1.c] ∧
 ∃ (I : Nat → List Value → Mem → Prop) (n0 : Nat), I n0 [.pointer none, .int .i64 0] V ∧ ∀ n V1, ∀ v2 : Option Addr, ∀ v3 : Int, I n [.pointer v2, .int .i64 v3] V1 → ∀ J0 : List Value → Mem → Prop, (∀ m ys V'', m < n → I m ys V'' → J0 ys V'') →
 (v3 < (v1.n : Int) →
 (¬ (v1.p = none)) ∧ ((0 : Int) ≤ v3) ∧ (v3 < (v1.n : Int)) ∧ ∃ v4 : ByteArray, ∃ v5 : ByteArray, ∃ v6 : Int, ∃ v7 : Int, ∃ v8 : Int, ∃ v9 : ByteArray, ∃ v10 : Sl, V1.rowp v1.p ((v3).toNat * 7) 7 = some [.string v4, .string v5, .int .i64 v6, .int .i64 v7, .int .i64 v8, .string v9, .slice v10.p v10.n v10.c] ∧
 Tri Tryz.prog 78 #[.pointer v0, .string v5] V1 fun e V2 => ∃ v11 : Option Addr, ∃ v12 : Option Nat, ∃ v13 : Bool, e = .returned (.agg #[.pointer v11, .map v12, .bool v13]) ∧
 Tri Tryz.prog 147 #[.agg #[.pointer v11, .map v12, .bool v13], .string v4, .agg #[.int .i64 v7, .int .i64 v8, .string v9, .slice v10.p v10.n v10.c], .string (strB [105, 110, 116])] V2 fun e V3 => ∃ v14 : Option Addr, e = .returned (.pointer v14) ∧
 (v14 = none →
 (K.inR .i64 (v3 + (1 : Int))) ∧ J0 [.pointer v2, .int .i64 (v3 + (1 : Int))] V3) ∧ (¬ (v14 = none) →
 R (.returned (.pointer v14)) V3)) ∧ (¬ (v3 < (v1.n : Int)) →
 (¬ (v0 = none)) ∧ (¬ (v0 = none)) ∧ (¬ ((ptrAdd v0 0) = none)) ∧ ∃ v4 : Sl, V1.rowp v0 (((5 : Int)).toNat * 1) 1 = some [.slice v4.p v4.n v4.c] ∧
 ∃ (I : Nat → List Value → Mem → Prop) (n0 : Nat), I n0 [.pointer v2, .int .i64 0] V1 ∧ ∀ n V2, ∀ v5 : Option Addr, ∀ v6 : Int, I n [.pointer v5, .int .i64 v6] V2 → ∀ J1 : List Value → Mem → Prop, (∀ m ys V'', m < n → I m ys V'' → J1 ys V'') →
 (v6 < (v4.n : Int) →
 (¬ (v4.p = none)) ∧ ((0 : Int) ≤ v6) ∧ (v6 < (v4.n : Int)) ∧ ∃ v7 : ByteArray, ∃ v8 : ByteArray, ∃ v9 : Int, ∃ v10 : Int, ∃ v11 : ByteArray, ∃ v12 : Sl, V2.rowp v4.p ((v6).toNat * 6) 6 = some [.string v7, .string v8, .int .i64 v9, .int .i64 v10, .string v11, .slice v12.p v12.n v12.c] ∧
 Tri Tryz.prog 78 #[.pointer v0, .string v8] V2 fun e V3 => ∃ v13 : Option Addr, ∃ v14 : Option Nat, ∃ v15 : Bool, e = .returned (.agg #[.pointer v13, .map v14, .bool v15]) ∧
 Tri Tryz.prog 147 #[.agg #[.pointer v13, .map v14, .bool v15], .string v7, .agg #[.int .i64 v9, .int .i64 v10, .string v11, .slice v12.p v12.n v12.c], .string (strB [98, 111, 111, 108])] V3 fun e V4 => ∃ v16 : Option Addr, e = .returned (.pointer v16) ∧
 (v16 = none →
 (K.inR .i64 (v6 + (1 : Int))) ∧ J1 [.pointer v5, .int .i64 (v6 + (1 : Int))] V4) ∧ (¬ (v16 = none) →
 R (.returned (.pointer v16)) V4)) ∧ (¬ (v6 < (v4.n : Int)) →
 (¬ (v0 = none)) ∧ (¬ (v0 = none)) ∧ (¬ ((ptrAdd v0 0) = none)) ∧ ∃ v7 : Sl, V2.rowp v0 (((6 : Int)).toNat * 1) 1 = some [.slice v7.p v7.n v7.c] ∧
 ∃ (I : Nat → List Value → Mem → Prop) (n0 : Nat), I n0 [.pointer v5, .int .i64 0] V2 ∧ ∀ n V3, ∀ v8 : Option Addr, ∀ v9 : Int, I n [.pointer v8, .int .i64 v9] V3 → ∀ J2 : List Value → Mem → Prop, (∀ m ys V'', m < n → I m ys V'' → J2 ys V'') →
 (v9 < (v7.n : Int) →
 (¬ (v7.p = none)) ∧ ((0 : Int) ≤ v9) ∧ (v9 < (v7.n : Int)) ∧ ∃ v10 : ByteArray, ∃ v11 : Int, ∃ v12 : Int, ∃ v13 : ByteArray, ∃ v14 : Sl, V3.rowp v7.p ((v9).toNat * 5) 5 = some [.string v10, .int .i64 v11, .int .i64 v12, .string v13, .slice v14.p v14.n v14.c] ∧
 Tri Tryz.prog 78 #[.pointer v0, .string v10] V3 fun e V4 => ∃ v15 : Option Addr, ∃ v16 : Option Nat, ∃ v17 : Bool, e = .returned (.agg #[.pointer v15, .map v16, .bool v17]) ∧
 Tri Tryz.prog 147 #[.agg #[.pointer v15, .map v16, .bool v17], .string (strB [112, 111, 116, 101, 110, 116, 105, 97, 108]), .agg #[.int .i64 v11, .int .i64 v12, .string v13, .slice v14.p v14.n v14.c], .string (strB [105, 110, 116])] V4 fun e V5 => ∃ v18 : Option Addr, e = .returned (.pointer v18) ∧
 (v18 = none →
 (K.inR .i64 (v9 + (1 : Int))) ∧ J2 [.pointer v8, .int .i64 (v9 + (1 : Int))] V5) ∧ (¬ (v18 = none) →
 R (.returned (.pointer v18)) V5)) ∧ (¬ (v9 < (v7.n : Int)) →
 (¬ (v0 = none)) ∧ (¬ (v0 = none)) ∧ (¬ ((ptrAdd v0 0) = none)) ∧ ∃ v10 : Sl, V3.rowp v0 (((7 : Int)).toNat * 1) 1 = some [.slice v10.p v10.n v10.c] ∧
 ∃ (I : Nat → List Value → Mem → Prop) (n0 : Nat), I n0 [.pointer v8, .int .i64 0] V3 ∧ ∀ n V4, ∀ v11 : Option Addr, ∀ v12 : Int, I n [.pointer v11, .int .i64 v12] V4 → ∀ J3 : List Value → Mem → Prop, (∀ m ys V'', m < n → I m ys V'' → J3 ys V'') →
 (v12 < (v10.n : Int) →
 (¬ (v10.p = none)) ∧ ((0 : Int) ≤ v12) ∧ (v12 < (v10.n : Int)) ∧ ∃ v13 : ByteArray, ∃ v14 : Int, ∃ v15 : Int, ∃ v16 : ByteArray, ∃ v17 : Sl, V4.rowp v10.p ((v12).toNat * 5) 5 = some [.string v13, .int .i64 v14, .int .i64 v15, .string v16, .slice v17.p v17.n v17.c] ∧
 (¬ (v0 = none)) ∧ (¬ (v0 = none)) ∧ ∃ v18 : Option Nat, V4.rowp v0 (((9 : Int)).toNat * 1) 1 = some [.map v18] ∧
 LookK Tryz.prog 114 (.map v18) (.string v13) false V4 fun x => ∃ v19 : ByteArray, ∃ v20 : Sl, ∃ v21 : ByteArray, ∃ v22 : Sl, ∃ v23 : Sl, x = (.agg #[.string v19, .slice v20.p v20.n v20.c, .string v21, .slice v22.p v22.n v22.c, .slice v23.p v23.n v23.c]) ∧
 Tri Tryz.prog 148 #[.pointer v0, .agg #[.string v19, .slice v20.p v20.n v20.c, .string v21, .slice v22.p v22.n v22.c, .slice v23.p v23.n v23.c]] V4 fun e V5 => ∃ v24 : Option Addr, ∃ v25 : Option Nat, ∃ v26 : Bool, e = .returned (.agg #[.pointer v24, .map v25, .bool v26]) ∧
 Tri Tryz.prog 147 #[.agg #[.pointer v24, .map v25, .bool v26], .string v13, .agg #[.int .i64 v14, .int .i64 v15, .string v16, .slice v17.p v17.n v17.c], .string (strB [105, 110, 116])] V5 fun e V6 => ∃ v27 : Option Addr, e = .returned (.pointer v27) ∧
 (v27 = none →
 (K.inR .i64 (v12 + (1 : Int))) ∧ J3 [.pointer v11, .int .i64 (v12 + (1 : Int))] V6) ∧ (¬ (v27 = none) →
 R (.returned (.pointer v27)) V6)) ∧ (¬ (v12 < (v10.n : Int)) →
 R (.returned (.pointer none)) V4))))
theorem x98 {v0 : Option Addr} {V : Mem} {R : Ending → Mem → Prop} (h : w98 v0 V R) : Tri Tryz.prog 98 #[.pointer v0] V R :=
 tri_dx (H := { N := 110, early := [], loops := [], keep := [0, 2, 4, 5, 7, 8, 10, 11, 13, 14, 19, 20, 21, 22, 35, 42, 43, 44, 45, 58, 65, 66, 67, 68, 79, 86, 87, 88, 89, 107] }) Tryz.func98 [.var .p 0] [.pointer v0] rfl (by kernel_rfl) h
def w99 (v0 : Int) (V : Mem) (R : Ending → Mem → Prop) : Prop :=
 ((97 : Int) ≤ v0 →
 (v0 ≤ (122 : Int) →
 R (.returned (.bool true)) V) ∧ (¬ (v0 ≤ (122 : Int)) →
 ((65 : Int) ≤ v0 →
 R (.returned (.bool (decide (v0 ≤ (90 : Int))))) V) ∧ (¬ ((65 : Int) ≤ v0) →
 R (.returned (.bool false)) V))) ∧ (¬ ((97 : Int) ≤ v0) →
 ((65 : Int) ≤ v0 →
 R (.returned (.bool (decide (v0 ≤ (90 : Int))))) V) ∧ (¬ ((65 : Int) ≤ v0) →
 R (.returned (.bool false)) V))
theorem x99 {v0 : Int} {V : Mem} {R : Ending → Mem → Prop} (h : w99 v0 V R) : Tri Tryz.prog 99 #[.int .u8 v0] V R :=
 tri_dx (H := { N := 17, early := [], loops := [], keep := [0, 2] }) Tryz.func99 [.var (.i .u8) 0] [.int .u8 v0] rfl (by kernel_rfl) h
def w100 (v0 : Int) (V : Mem) (R : Ending → Mem → Prop) : Prop :=
 Tri Tryz.prog 99 #[.int .u8 v0] V fun e V1 => ∃ v1 : Bool, e = .returned (.bool v1) ∧
 (v1 = true →
 R (.returned (.bool true)) V1) ∧ (¬ (v1 = true) →
 Tri Tryz.prog 149 #[.int .u8 v0] V1 fun e V2 => ∃ v2 : Bool, e = .returned (.bool v2) ∧
 (v2 = true →
 R (.returned (.bool true)) V2) ∧ (¬ (v2 = true) →
 R (.returned (.bool (decide (v0 = (95 : Int))))) V2))
theorem x100 {v0 : Int} {V : Mem} {R : Ending → Mem → Prop} (h : w100 v0 V R) : Tri Tryz.prog 100 #[.int .u8 v0] V R :=
 tri_dx (H := { N := 13, early := [], loops := [], keep := [0, 2] }) Tryz.func100 [.var (.i .u8) 0] [.int .u8 v0] rfl (by kernel_rfl) h
def w101 (v0 : ByteArray) (V : Mem) (R : Ending → Mem → Prop) : Prop :=
 Tri Tryz.prog 151 #[] V fun e V1 => ∃ v1 : Sl, e = .returned (.slice v1.p v1.n v1.c) ∧
 Tri Tryz.prog 150 #[.slice v1.p v1.n v1.c, .string v0] V1 fun e V2 => ∃ v2 : Bool, e = .returned (.bool v2) ∧
 R (.returned (.bool v2)) V2
theorem x101 {v0 : ByteArray} {V : Mem} {R : Ending → Mem → Prop} (h : w101 v0 V R) : Tri Tryz.prog 101 #[.string v0] V R :=
 tri_dx (H := { N := 6, early := [], loops := [], keep := [0, 2] }) Tryz.func101 [.var .s 0] [.string v0] rfl (by kernel_rfl) h
def w102 (v0 : ByteArray) (V : Mem) (R : Ending → Mem → Prop) : Prop :=
 (v0 = (strB [105, 110, 116]) →
 R (.returned (.bool true)) V) ∧ (¬ (v0 = (strB [105, 110, 116])) →
 (v0 = (strB [98, 111, 111, 108]) →
 R (.returned (.bool true)) V) ∧ (¬ (v0 = (strB [98, 111, 111, 108])) →
 Tri Tryz.prog 52 #[.string v0] V fun e V1 => ∃ v1 : Bool, e = .returned (.bool v1) ∧
 R (.returned (.bool v1)) V1))
theorem x102 {v0 : ByteArray} {V : Mem} {R : Ending → Mem → Prop} (h : w102 v0 V R) : Tri Tryz.prog 102 #[.string v0] V R :=
 tri_dx (H := { N := 13, early := [], loops := [], keep := [0, 2] }) Tryz.func102 [.var .s 0] [.string v0] rfl (by kernel_rfl) h
def w103 (v0 : Sl) (v1 : Int) (V : Mem) (R : Ending → Mem → Prop) : Prop :=
 ∃ (I : Nat → List Value → Mem → Prop) (n0 : Nat), I n0 [.int .i64 0, .int .i64 0, .int .i64 0] V ∧ ∀ n V1, ∀ v2 : Int, ∀ v3 : Int, ∀ v4 : Int, I n [.int .i64 v2, .int .i64 v3, .int .i64 v4] V1 → ∀ J0 : List Value → Mem → Prop, (∀ m ys V'', m < n → I m ys V'' → J0 ys V'') →
 (v4 < (v0.n : Int) →
 ((60 : Int) < v1 →
 R (.returned (.int .i64 201)) V1) ∧ (¬ ((60 : Int) < v1) →
 (¬ (v0.p = none)) ∧ ((0 : Int) ≤ v4) ∧ (v4 < (v0.n : Int)) ∧ ∃ v5 : Int, ∃ v6 : ByteArray, ∃ v7 : Sl, ∃ v8 : Sl, ∃ v9 : Sl, V1.rowp v0.p ((v4).toNat * 5) 5 = some [.int .i64 v5, .string v6, .slice v7.p v7.n v7.c, .slice v8.p v8.n v8.c, .slice v9.p v9.n v9.c] ∧
 Tri Tryz.prog 152 #[.agg #[.int .i64 v5, .string v6, .slice v7.p v7.n v7.c, .slice v8.p v8.n v8.c, .slice v9.p v9.n v9.c]] V1 fun e V2 => ∃ v10 : Bool, e = .returned (.bool v10) ∧
 (v10 = true →
 (K.inR .i64 (v2 + (1 : Int))) ∧ ((v2 + (1 : Int)) ≤ (200 : Int) →
 (¬ (v0.p = none)) ∧ ((0 : Int) ≤ v4) ∧ (v4 < (v0.n : Int)) ∧ (¬ ((ptrAdd v0.p ((v4).toNat * 5)) = none)) ∧ ∃ v11 : Int, ∃ v12 : ByteArray, ∃ v13 : Sl, ∃ v14 : Sl, ∃ v15 : Sl, V2.rowp v0.p ((v4).toNat * 5) 5 = some [.int .i64 v11, .string v12, .slice v13.p v13.n v13.c, .slice v14.p v14.n v14.c, .slice v15.p v15.n v15.c] ∧
 (K.inR .i64 (v1 + (1 : Int))) ∧ Tri Tryz.prog 103 #[.slice v14.p v14.n v14.c, .int .i64 (v1 + (1 : Int))] V2 fun e V3 => ∃ v16 : Int, e = .returned (.int .i64 v16) ∧
 (K.inR .i64 ((v2 + (1 : Int)) + v16)) ∧ (((v2 + (1 : Int)) + v16) ≤ (200 : Int) →
 (¬ (v0.p = none)) ∧ ((0 : Int) ≤ v4) ∧ (v4 < (v0.n : Int)) ∧ (¬ ((ptrAdd v0.p ((v4).toNat * 5)) = none)) ∧ ∃ v17 : Int, ∃ v18 : ByteArray, ∃ v19 : Sl, ∃ v20 : Sl, ∃ v21 : Sl, V3.rowp v0.p ((v4).toNat * 5) 5 = some [.int .i64 v17, .string v18, .slice v19.p v19.n v19.c, .slice v20.p v20.n v20.c, .slice v21.p v21.n v21.c] ∧
 (K.inR .i64 (v1 + (1 : Int))) ∧ Tri Tryz.prog 103 #[.slice v21.p v21.n v21.c, .int .i64 (v1 + (1 : Int))] V3 fun e V4 => ∃ v22 : Int, e = .returned (.int .i64 v22) ∧
 (K.inR .i64 (((v2 + (1 : Int)) + v16) + v22)) ∧ ((200 : Int) < (((v2 + (1 : Int)) + v16) + v22) →
 R (.returned (.int .i64 (((v2 + (1 : Int)) + v16) + v22))) V4) ∧ (¬ ((200 : Int) < (((v2 + (1 : Int)) + v16) + v22)) →
 (K.inR .i64 (v4 + (1 : Int))) ∧ J0 [.int .i64 (((v2 + (1 : Int)) + v16) + v22), .int .i64 v3, .int .i64 (v4 + (1 : Int))] V4)) ∧ (¬ (((v2 + (1 : Int)) + v16) ≤ (200 : Int)) →
 ((200 : Int) < ((v2 + (1 : Int)) + v16) →
 R (.returned (.int .i64 ((v2 + (1 : Int)) + v16))) V3) ∧ (¬ ((200 : Int) < ((v2 + (1 : Int)) + v16)) →
 (K.inR .i64 (v4 + (1 : Int))) ∧ J0 [.int .i64 ((v2 + (1 : Int)) + v16), .int .i64 v3, .int .i64 (v4 + (1 : Int))] V3))) ∧ (¬ ((v2 + (1 : Int)) ≤ (200 : Int)) →
 ((v2 + (1 : Int)) ≤ (200 : Int) →
 (¬ (v0.p = none)) ∧ ((0 : Int) ≤ v4) ∧ (v4 < (v0.n : Int)) ∧ (¬ ((ptrAdd v0.p ((v4).toNat * 5)) = none)) ∧ ∃ v11 : Int, ∃ v12 : ByteArray, ∃ v13 : Sl, ∃ v14 : Sl, ∃ v15 : Sl, V2.rowp v0.p ((v4).toNat * 5) 5 = some [.int .i64 v11, .string v12, .slice v13.p v13.n v13.c, .slice v14.p v14.n v14.c, .slice v15.p v15.n v15.c] ∧
 (K.inR .i64 (v1 + (1 : Int))) ∧ Tri Tryz.prog 103 #[.slice v15.p v15.n v15.c, .int .i64 (v1 + (1 : Int))] V2 fun e V3 => ∃ v16 : Int, e = .returned (.int .i64 v16) ∧
 (K.inR .i64 ((v2 + (1 : Int)) + v16)) ∧ ((200 : Int) < ((v2 + (1 : Int)) + v16) →
 R (.returned (.int .i64 ((v2 + (1 : Int)) + v16))) V3) ∧ (¬ ((200 : Int) < ((v2 + (1 : Int)) + v16)) →
 (K.inR .i64 (v4 + (1 : Int))) ∧ J0 [.int .i64 ((v2 + (1 : Int)) + v16), .int .i64 v3, .int .i64 (v4 + (1 : Int))] V3)) ∧ (¬ ((v2 + (1 : Int)) ≤ (200 : Int)) →
 ((200 : Int) < (v2 + (1 : Int)) →
 R (.returned (.int .i64 (v2 + (1 : Int)))) V2) ∧ (¬ ((200 : Int) < (v2 + (1 : Int))) →
 (K.inR .i64 (v4 + (1 : Int))) ∧ J0 [.int .i64 (v2 + (1 : Int)), .int .i64 v3, .int .i64 (v4 + (1 : Int))] V2)))) ∧ (¬ (v10 = true) →
 R (.returned (.int .i64 201)) V2))) ∧ (¬ (v4 < (v0.n : Int)) →
 R (.returned (.int .i64 v2)) V1)
theorem x103 {v0 : Sl} {v1 : Int} {V : Mem} {R : Ending → Mem → Prop} (h : w103 v0 v1 V R) : Tri Tryz.prog 103 #[.slice v0.p v0.n v0.c, .int .i64 v1] V R :=
 tri_dx (H := { N := 53, early := [], loops := [], keep := [0, 1, 4, 5, 6, 10, 22, 26, 38, 50] }) Tryz.func103 [.var .sl 0, .var (.i .i64) 1] [.slice v0.p v0.n v0.c, .int .i64 v1] rfl (by kernel_rfl) h
def w104 (v0 : ByteArray) (V : Mem) (R : Ending → Mem → Prop) : Prop :=
 (v0 = (strB []) →
 R (.returned (.bool true)) V) ∧ (¬ (v0 = (strB [])) →
 Tri Tryz.prog 52 #[.string v0] V fun e V1 => ∃ v1 : Bool, e = .returned (.bool v1) ∧
 R (.returned (.bool v1)) V1)
theorem x104 {v0 : ByteArray} {V : Mem} {R : Ending → Mem → Prop} (h : w104 v0 V R) : Tri Tryz.prog 104 #[.string v0] V R :=
 tri_dx (H := { N := 9, early := [], loops := [], keep := [0, 2] }) Tryz.func104 [.var .s 0] [.string v0] rfl (by kernel_rfl) h
def w105 (v0 : ByteArray) (v1 : Sl) (v2 : Sl) (v3 : Sl) (v4 : Sl) (v5 : Sl) (v6 : Sl) (v7 : Sl) (v8 : Sl) (V : Mem) (R : Ending → Mem → Prop) : Prop :=
 ∃ (I : Nat → List Value → Mem → Prop) (n0 : Nat), I n0 [.int .i64 0, .int .i64 0] V ∧ ∀ n V1, ∀ v9 : Int, ∀ v10 : Int, I n [.int .i64 v9, .int .i64 v10] V1 → ∀ J0 : List Value → Mem → Prop, (∀ m ys V'', m < n → I m ys V'' → J0 ys V'') →
 (v10 < (v8.n : Int) →
 Tri Tryz.prog 106 #[.agg #[.string v0, .slice v1.p v1.n v1.c, .slice v2.p v2.n v2.c, .slice v3.p v3.n v3.c, .slice v4.p v4.n v4.c, .slice v5.p v5.n v5.c, .slice v6.p v6.n v6.c, .slice v7.p v7.n v7.c], .slice v8.p v8.n v8.c, .int .i64 v10] V1 fun e V2 => ∃ v11 : Int, e = .returned (.int .i64 v11) ∧
 (v11 = (0 : Int) →
 (K.inR .i64 (v10 + (1 : Int))) ∧ J0 [.int .i64 v9, .int .i64 (v10 + (1 : Int))] V2) ∧ (¬ (v11 = (0 : Int)) →
 R (.returned (.int .i64 v11)) V2)) ∧ (¬ (v10 < (v8.n : Int)) →
 R (.returned (.int .i64 0)) V1)
theorem x105 {v0 : ByteArray} {v1 : Sl} {v2 : Sl} {v3 : Sl} {v4 : Sl} {v5 : Sl} {v6 : Sl} {v7 : Sl} {v8 : Sl} {V : Mem} {R : Ending → Mem → Prop} (h : w105 v0 v1 v2 v3 v4 v5 v6 v7 v8 V R) : Tri Tryz.prog 105 #[.agg #[.string v0, .slice v1.p v1.n v1.c, .slice v2.p v2.n v2.c, .slice v3.p v3.n v3.c, .slice v4.p v4.n v4.c, .slice v5.p v5.n v5.c, .slice v6.p v6.n v6.c, .slice v7.p v7.n v7.c], .slice v8.p v8.n v8.c] V R :=
 tri_dx (H := { N := 20, early := [], loops := [], keep := [0, 1, 2, 4, 5, 6, 10, 18] }) Tryz.func105 [.agg (.cons (.var .s 0) (.cons (.var .sl 1) (.cons (.var .sl 2) (.cons (.var .sl 3) (.cons (.var .sl 4) (.cons (.var .sl 5) (.cons (.var .sl 6) (.cons (.var .sl 7) .nil)))))))), .var .sl 8] [.string v0, .slice v1.p v1.n v1.c, .slice v2.p v2.n v2.c, .slice v3.p v3.n v3.c, .slice v4.p v4.n v4.c, .slice v5.p v5.n v5.c, .slice v6.p v6.n v6.c, .slice v7.p v7.n v7.c, .slice v8.p v8.n v8.c] rfl (by kernel_rfl) h
def w106 (v0 : ByteArray) (v1 : Sl) (v2 : Sl) (v3 : Sl) (v4 : Sl) (v5 : Sl) (v6 : Sl) (v7 : Sl) (v8 : Sl) (v9 : Int) (V : Mem) (R : Ending → Mem → Prop) : Prop :=
 ∃ (I : Nat → List Value → Mem → Prop) (n0 : Nat), I n0 [.int .i64 0, .int .i64 0] V ∧ ∀ n V1, ∀ v10 : Int, ∀ v11 : Int, I n [.int .i64 v10, .int .i64 v11] V1 → ∀ J0 : List Value → Mem → Prop, (∀ m ys V'', m < n → I m ys V'' → J0 ys V'') →
 (v11 < v9 →
 (¬ (v8.p = none)) ∧ ((0 : Int) ≤ v11) ∧ (v11 < (v8.n : Int)) ∧ (¬ ((ptrAdd v8.p ((v11).toNat * 2)) = none)) ∧ ∃ v12 : ByteArray, ∃ v13 : ByteArray, V1.rowp v8.p ((v11).toNat * 2) 2 = some [.string v12, .string v13] ∧
 (¬ (v8.p = none)) ∧ ((0 : Int) ≤ v9) ∧ (v9 < (v8.n : Int)) ∧ (¬ ((ptrAdd v8.p ((v9).toNat * 2)) = none)) ∧ ∃ v14 : ByteArray, ∃ v15 : ByteArray, V1.rowp v8.p ((v9).toNat * 2) 2 = some [.string v14, .string v15] ∧
 (v12 = v14 →
 R (.returned (.int .i64 10)) V1) ∧ (¬ (v12 = v14) →
 (K.inR .i64 (v11 + (1 : Int))) ∧ J0 [.int .i64 v10, .int .i64 (v11 + (1 : Int))] V1)) ∧ (¬ (v11 < v9) →
 (¬ (v8.p = none)) ∧ ((0 : Int) ≤ v9) ∧ (v9 < (v8.n : Int)) ∧ (¬ ((ptrAdd v8.p ((v9).toNat * 2)) = none)) ∧ ∃ v12 : ByteArray, ∃ v13 : ByteArray, V1.rowp v8.p ((v9).toNat * 2) 2 = some [.string v12, .string v13] ∧
 Tri Tryz.prog 107 #[.agg #[.string v0, .slice v1.p v1.n v1.c, .slice v2.p v2.n v2.c, .slice v3.p v3.n v3.c, .slice v4.p v4.n v4.c, .slice v5.p v5.n v5.c, .slice v6.p v6.n v6.c, .slice v7.p v7.n v7.c], .string v13] V1 fun e V2 => ∃ v14 : Bool, e = .returned (.bool v14) ∧
 (v14 = true →
 R (.returned (.int .i64 0)) V2) ∧ (¬ (v14 = true) →
 R (.returned (.int .i64 9)) V2))
theorem x106 {v0 : ByteArray} {v1 : Sl} {v2 : Sl} {v3 : Sl} {v4 : Sl} {v5 : Sl} {v6 : Sl} {v7 : Sl} {v8 : Sl} {v9 : Int} {V : Mem} {R : Ending → Mem → Prop} (h : w106 v0 v1 v2 v3 v4 v5 v6 v7 v8 v9 V R) : Tri Tryz.prog 106 #[.agg #[.string v0, .slice v1.p v1.n v1.c, .slice v2.p v2.n v2.c, .slice v3.p v3.n v3.c, .slice v4.p v4.n v4.c, .slice v5.p v5.n v5.c, .slice v6.p v6.n v6.c, .slice v7.p v7.n v7.c], .slice v8.p v8.n v8.c, .int .i64 v9] V R :=
 tri_dx (H := { N := 32, early := [], loops := [], keep := [0, 1, 2, 3, 6, 7, 10, 23, 31] }) Tryz.func106 [.agg (.cons (.var .s 0) (.cons (.var .sl 1) (.cons (.var .sl 2) (.cons (.var .sl 3) (.cons (.var .sl 4) (.cons (.var .sl 5) (.cons (.var .sl 6) (.cons (.var .sl 7) .nil)))))))), .var .sl 8, .var (.i .i64) 9] [.string v0, .slice v1.p v1.n v1.c, .slice v2.p v2.n v2.c, .slice v3.p v3.n v3.c, .slice v4.p v4.n v4.c, .slice v5.p v5.n v5.c, .slice v6.p v6.n v6.c, .slice v7.p v7.n v7.c, .slice v8.p v8.n v8.c, .int .i64 v9] rfl (by kernel_rfl) h
def w107 (v0 : ByteArray) (v1 : Sl) (v2 : Sl) (v3 : Sl) (v4 : Sl) (v5 : Sl) (v6 : Sl) (v7 : Sl) (v8 : ByteArray) (V : Mem) (R : Ending → Mem → Prop) : Prop :=
 (v8 = (strB [105, 110, 116]) →
 R (.returned (.bool true)) V) ∧ (¬ (v8 = (strB [105, 110, 116])) →
 (v8 = (strB [98, 111, 111, 108]) →
 R (.returned (.bool true)) V) ∧ (¬ (v8 = (strB [98, 111, 111, 108])) →
 Tri Tryz.prog 36 #[.agg #[.string v0, .slice v1.p v1.n v1.c, .slice v2.p v2.n v2.c, .slice v3.p v3.n v3.c, .slice v4.p v4.n v4.c, .slice v5.p v5.n v5.c, .slice v6.p v6.n v6.c, .slice v7.p v7.n v7.c], .string v8] V fun e V1 => ∃ v9 : Bool, e = .returned (.bool v9) ∧
 R (.returned (.bool v9)) V1))
theorem x107 {v0 : ByteArray} {v1 : Sl} {v2 : Sl} {v3 : Sl} {v4 : Sl} {v5 : Sl} {v6 : Sl} {v7 : Sl} {v8 : ByteArray} {V : Mem} {R : Ending → Mem → Prop} (h : w107 v0 v1 v2 v3 v4 v5 v6 v7 v8 V R) : Tri Tryz.prog 107 #[.agg #[.string v0, .slice v1.p v1.n v1.c, .slice v2.p v2.n v2.c, .slice v3.p v3.n v3.c, .slice v4.p v4.n v4.c, .slice v5.p v5.n v5.c, .slice v6.p v6.n v6.c, .slice v7.p v7.n v7.c], .string v8] V R :=
 tri_dx (H := { N := 16, early := [], loops := [], keep := [0, 1, 2, 4] }) Tryz.func107 [.agg (.cons (.var .s 0) (.cons (.var .sl 1) (.cons (.var .sl 2) (.cons (.var .sl 3) (.cons (.var .sl 4) (.cons (.var .sl 5) (.cons (.var .sl 6) (.cons (.var .sl 7) .nil)))))))), .var .s 8] [.string v0, .slice v1.p v1.n v1.c, .slice v2.p v2.n v2.c, .slice v3.p v3.n v3.c, .slice v4.p v4.n v4.c, .slice v5.p v5.n v5.c, .slice v6.p v6.n v6.c, .slice v7.p v7.n v7.c, .string v8] rfl (by kernel_rfl) h
def w108 (v0 : ByteArray) (v1 : Sl) (v2 : Sl) (v3 : Sl) (v4 : Sl) (v5 : Sl) (v6 : Sl) (v7 : Sl) (v8 : ByteArray) (V : Mem) (R : Ending → Mem → Prop) : Prop :=
 ∃ (I : Nat → List Value → Mem → Prop) (n0 : Nat), I n0 [.int .i64 0, .int .i64 0] V ∧ ∀ n V1, ∀ v9 : Int, ∀ v10 : Int, I n [.int .i64 v9, .int .i64 v10] V1 → ∀ J0 : List Value → Mem → Prop, (∀ m ys V'', m < n → I m ys V'' → J0 ys V'') →
 (v10 < (v4.n : Int) →
 (¬ (v4.p = none)) ∧ ((0 : Int) ≤ v10) ∧ (v10 < (v4.n : Int)) ∧ (¬ ((ptrAdd v4.p ((v10).toNat * 7)) = none)) ∧ ∃ v11 : ByteArray, ∃ v12 : ByteArray, ∃ v13 : Int, ∃ v14 : Int, ∃ v15 : Int, ∃ v16 : ByteArray, ∃ v17 : Sl, V1.rowp v4.p ((v10).toNat * 7) 7 = some [.string v11, .string v12, .int .i64 v13, .int .i64 v14, .int .i64 v15, .string v16, .slice v17.p v17.n v17.c] ∧
 (v11 = v8 →
 R (.returned (.int .i64 v10)) V1) ∧ (¬ (v11 = v8) →
 (K.inR .i64 (v10 + (1 : Int))) ∧ J0 [.int .i64 v9, .int .i64 (v10 + (1 : Int))] V1)) ∧ (¬ (v10 < (v4.n : Int)) →
 R (.returned (.int .i64 (-1))) V1)
theorem x108 {v0 : ByteArray} {v1 : Sl} {v2 : Sl} {v3 : Sl} {v4 : Sl} {v5 : Sl} {v6 : Sl} {v7 : Sl} {v8 : ByteArray} {V : Mem} {R : Ending → Mem → Prop} (h : w108 v0 v1 v2 v3 v4 v5 v6 v7 v8 V R) : Tri Tryz.prog 108 #[.agg #[.string v0, .slice v1.p v1.n v1.c, .slice v2.p v2.n v2.c, .slice v3.p v3.n v3.c, .slice v4.p v4.n v4.c, .slice v5.p v5.n v5.c, .slice v6.p v6.n v6.c, .slice v7.p v7.n v7.c], .string v8] V R :=
 tri_dx (H := { N := 22, early := [], loops := [], keep := [0, 1, 2, 4, 5, 10, 20] }) Tryz.func108 [.agg (.cons (.var .s 0) (.cons (.var .sl 1) (.cons (.var .sl 2) (.cons (.var .sl 3) (.cons (.var .sl 4) (.cons (.var .sl 5) (.cons (.var .sl 6) (.cons (.var .sl 7) .nil)))))))), .var .s 8] [.string v0, .slice v1.p v1.n v1.c, .slice v2.p v2.n v2.c, .slice v3.p v3.n v3.c, .slice v4.p v4.n v4.c, .slice v5.p v5.n v5.c, .slice v6.p v6.n v6.c, .slice v7.p v7.n v7.c, .string v8] rfl (by kernel_rfl) h
def w109 (v0 : ByteArray) (v1 : Sl) (v2 : Sl) (v3 : Sl) (v4 : Sl) (v5 : Sl) (v6 : Sl) (v7 : Sl) (v8 : ByteArray) (v9 : Sl) (v10 : ByteArray) (v11 : Sl) (v12 : Sl) (v13 : Int) (v14 : ByteArray) (v15 : Sl) (v16 : Sl) (v17 : Sl) (V : Mem) (R : Ending → Mem → Prop) : Prop :=
 Tri Tryz.prog 21 #[.agg #[.string v0, .slice v1.p v1.n v1.c, .slice v2.p v2.n v2.c, .slice v3.p v3.n v3.c, .slice v4.p v4.n v4.c, .slice v5.p v5.n v5.c, .slice v6.p v6.n v6.c, .slice v7.p v7.n v7.c], .agg #[.string v8, .slice v9.p v9.n v9.c, .string v10, .slice v11.p v11.n v11.c, .slice v12.p v12.n v12.c]] V fun e V1 => ∃ v18 : Sl, ∃ v19 : Bool, e = .returned (.agg #[.slice v18.p v18.n v18.c, .bool v19]) ∧
 (v13 = (6 : Int) →
 (¬ (v15.p = none)) ∧ ((0 : Int) ≤ (0 : Int)) ∧ ((0 : Int) < (v15.n : Int)) ∧ ∃ v20 : Int, ∃ v21 : Int, ∃ v22 : ByteArray, ∃ v23 : Sl, V1.rowp v15.p (((0 : Int)).toNat * 4) 4 = some [.int .i64 v20, .int .i64 v21, .string v22, .slice v23.p v23.n v23.c] ∧
 Tri Tryz.prog 66 #[.agg #[.string v0, .slice v1.p v1.n v1.c, .slice v2.p v2.n v2.c, .slice v3.p v3.n v3.c, .slice v4.p v4.n v4.c, .slice v5.p v5.n v5.c, .slice v6.p v6.n v6.c, .slice v7.p v7.n v7.c], .agg #[.slice v18.p v18.n v18.c, .bool v19], .agg #[.int .i64 v20, .int .i64 v21, .string v22, .slice v23.p v23.n v23.c]] V1 fun e V2 => ∃ v24 : Sl, ∃ v25 : Int, e = .returned (.tuple #[.slice v24.p v24.n v24.c, .int .i64 v25]) ∧
 (v25 = (0 : Int) →
 (¬ (v15.p = none)) ∧ ((0 : Int) ≤ (0 : Int)) ∧ ((0 : Int) < (v15.n : Int)) ∧ (¬ ((ptrAdd v15.p (((0 : Int)).toNat * 4)) = none)) ∧ ∃ v26 : Int, ∃ v27 : Int, ∃ v28 : ByteArray, ∃ v29 : Sl, V2.rowp v15.p (((0 : Int)).toNat * 4) 4 = some [.int .i64 v26, .int .i64 v27, .string v28, .slice v29.p v29.n v29.c] ∧
 Tri Tryz.prog 117 #[.agg #[.string v0, .slice v1.p v1.n v1.c, .slice v2.p v2.n v2.c, .slice v3.p v3.n v3.c, .slice v4.p v4.n v4.c, .slice v5.p v5.n v5.c, .slice v6.p v6.n v6.c, .slice v7.p v7.n v7.c], .string v28, .slice v24.p v24.n v24.c] V2 fun e V3 => ∃ v30 : ByteArray, ∃ v31 : Int, e = .returned (.tuple #[.string v30, .int .i64 v31]) ∧
 R (.returned (.int .i64 v31)) V3) ∧ (¬ (v25 = (0 : Int)) →
 R (.returned (.int .i64 v25)) V2)) ∧ (¬ (v13 = (6 : Int)) →
 ∃ (I : Nat → List Value → Mem → Prop) (n0 : Nat), I n0 [.int .i64 0, .slice none 0 0, .int .i64 0] V1 ∧ ∀ n V2, ∀ v20 : Int, ∀ v21 : Sl, ∀ v22 : Int, I n [.int .i64 v20, .slice v21.p v21.n v21.c, .int .i64 v22] V2 → ∀ J0 : List Value → Mem → Prop, (∀ m ys V'', m < n → I m ys V'' → J0 ys V'') →
 (v22 < (v15.n : Int) →
 (¬ (v15.p = none)) ∧ ((0 : Int) ≤ v22) ∧ (v22 < (v15.n : Int)) ∧ ∃ v23 : Int, ∃ v24 : Int, ∃ v25 : ByteArray, ∃ v26 : Sl, V2.rowp v15.p ((v22).toNat * 4) 4 = some [.int .i64 v23, .int .i64 v24, .string v25, .slice v26.p v26.n v26.c] ∧
 Tri Tryz.prog 20 #[.agg #[.string v0, .slice v1.p v1.n v1.c, .slice v2.p v2.n v2.c, .slice v3.p v3.n v3.c, .slice v4.p v4.n v4.c, .slice v5.p v5.n v5.c, .slice v6.p v6.n v6.c, .slice v7.p v7.n v7.c], .agg #[.slice v18.p v18.n v18.c, .bool v19], .agg #[.int .i64 v23, .int .i64 v24, .string v25, .slice v26.p v26.n v26.c]] V2 fun e V3 => ∃ v27 : ByteArray, ∃ v28 : Int, e = .returned (.tuple #[.string v27, .int .i64 v28]) ∧
 (v28 = (0 : Int) →
 PubT [.string v27] 9 V3 fun v29 V4 =>
 GenK Tryz.prog (.call { callee := (.builtin .append), args := #[.tmp 70, .tmp 72], argTypes := #[85, 85] }) 85 (gval [(70, (.var .sl 21)), (72, (.c3 .slc (.u (.poff 0) (.var .p 29)) (.int .i64 1) (.int .i64 1)))] [.string v0, .slice v1.p v1.n v1.c, .slice v2.p v2.n v2.c, .slice v3.p v3.n v3.c, .slice v4.p v4.n v4.c, .slice v5.p v5.n v5.c, .slice v6.p v6.n v6.c, .slice v7.p v7.n v7.c, .string v8, .slice v9.p v9.n v9.c, .string v10, .slice v11.p v11.n v11.c, .slice v12.p v12.n v12.c, .int .i64 v13, .string v14, .slice v15.p v15.n v15.c, .slice v16.p v16.n v16.c, .slice v17.p v17.n v17.c, .slice v18.p v18.n v18.c, .bool v19, .int .i64 v20, .slice v21.p v21.n v21.c, .int .i64 v22, .int .i64 v23, .int .i64 v24, .string v25, .slice v26.p v26.n v26.c, .string v27, .int .i64 v28, .pointer v29]) V4 fun x V5 => ∃ v30 : Sl, x = (.slice v30.p v30.n v30.c) ∧
 (K.inR .i64 (v22 + (1 : Int))) ∧ J0 [.int .i64 v20, .slice v30.p v30.n v30.c, .int .i64 (v22 + (1 : Int))] V5) ∧ (¬ (v28 = (0 : Int)) →
 R (.returned (.int .i64 v28)) V3)) ∧ (¬ (v22 < (v15.n : Int)) →
 (v13 = (1 : Int) →
 Tri Tryz.prog 67 #[.slice v18.p v18.n v18.c, .string v14] V2 fun e V3 => ∃ v23 : ByteArray, e = .returned (.string v23) ∧
 (v23 = (strB []) →
 R (.returned (.int .i64 9)) V3) ∧ (¬ (v23 = (strB [])) →
 (¬ (v21.p = none)) ∧ ((0 : Int) ≤ (0 : Int)) ∧ ((0 : Int) < (v21.n : Int)) ∧ ∃ v24 : ByteArray, V3.rowp v21.p (((0 : Int)).toNat * 1) 1 = some [.string v24] ∧
 Tri Tryz.prog 71 #[.agg #[.string v0, .slice v1.p v1.n v1.c, .slice v2.p v2.n v2.c, .slice v3.p v3.n v3.c, .slice v4.p v4.n v4.c, .slice v5.p v5.n v5.c, .slice v6.p v6.n v6.c, .slice v7.p v7.n v7.c], .string v24, .string v23] V3 fun e V4 => ∃ v25 : Bool, e = .returned (.bool v25) ∧
 (v25 = true →
 R (.returned (.int .i64 0)) V4) ∧ (¬ (v25 = true) →
 R (.returned (.int .i64 11)) V4))) ∧ (¬ (v13 = (1 : Int)) →
 (v13 = (2 : Int) →
 (¬ (v21.p = none)) ∧ ((0 : Int) ≤ (0 : Int)) ∧ ((0 : Int) < (v21.n : Int)) ∧ ∃ v23 : ByteArray, V2.rowp v21.p (((0 : Int)).toNat * 1) 1 = some [.string v23] ∧
 Tri Tryz.prog 68 #[.agg #[.string v0, .slice v1.p v1.n v1.c, .slice v2.p v2.n v2.c, .slice v3.p v3.n v3.c, .slice v4.p v4.n v4.c, .slice v5.p v5.n v5.c, .slice v6.p v6.n v6.c, .slice v7.p v7.n v7.c], .string v23, .string v14] V2 fun e V3 => ∃ v24 : ByteArray, ∃ v25 : Int, e = .returned (.tuple #[.string v24, .int .i64 v25]) ∧
 (v25 = (0 : Int) →
 (¬ (v21.p = none)) ∧ ((0 : Int) ≤ (1 : Int)) ∧ ((1 : Int) < (v21.n : Int)) ∧ ∃ v26 : ByteArray, V3.rowp v21.p (((1 : Int)).toNat * 1) 1 = some [.string v26] ∧
 Tri Tryz.prog 71 #[.agg #[.string v0, .slice v1.p v1.n v1.c, .slice v2.p v2.n v2.c, .slice v3.p v3.n v3.c, .slice v4.p v4.n v4.c, .slice v5.p v5.n v5.c, .slice v6.p v6.n v6.c, .slice v7.p v7.n v7.c], .string v26, .string v24] V3 fun e V4 => ∃ v27 : Bool, e = .returned (.bool v27) ∧
 (v27 = true →
 R (.returned (.int .i64 0)) V4) ∧ (¬ (v27 = true) →
 R (.returned (.int .i64 11)) V4)) ∧ (¬ (v25 = (0 : Int)) →
 R (.returned (.int .i64 v25)) V3)) ∧ (¬ (v13 = (2 : Int)) →
 (v13 = (3 : Int) →
 (¬ (v21.p = none)) ∧ ((0 : Int) ≤ (0 : Int)) ∧ ((0 : Int) < (v21.n : Int)) ∧ ∃ v23 : ByteArray, V2.rowp v21.p (((0 : Int)).toNat * 1) 1 = some [.string v23] ∧
 (v23 = (strB [98, 111, 111, 108]) →
 R (.returned (.int .i64 0)) V2) ∧ (¬ (v23 = (strB [98, 111, 111, 108])) →
 R (.returned (.int .i64 11)) V2)) ∧ (¬ (v13 = (3 : Int)) →
 (v13 = (4 : Int) →
 (¬ (v21.p = none)) ∧ ((0 : Int) ≤ (0 : Int)) ∧ ((0 : Int) < (v21.n : Int)) ∧ ∃ v23 : ByteArray, V2.rowp v21.p (((0 : Int)).toNat * 1) 1 = some [.string v23] ∧
 (v23 = (strB [98, 111, 111, 108]) →
 R (.returned (.int .i64 0)) V2) ∧ (¬ (v23 = (strB [98, 111, 111, 108])) →
 R (.returned (.int .i64 11)) V2)) ∧ (¬ (v13 = (4 : Int)) →
 (v13 = (5 : Int) →
 ((v21.n : Int) = (0 : Int) →
 (v10 = (strB []) →
 R (.returned (.int .i64 0)) V2) ∧ (¬ (v10 = (strB [])) →
 ((v21.n : Int) = (1 : Int) →
 (v10 = (strB []) →
 R (.returned (.int .i64 11)) V2) ∧ (¬ (v10 = (strB [])) →
 (¬ (v21.p = none)) ∧ ((0 : Int) ≤ (0 : Int)) ∧ ((0 : Int) < (v21.n : Int)) ∧ ∃ v23 : ByteArray, V2.rowp v21.p (((0 : Int)).toNat * 1) 1 = some [.string v23] ∧
 Tri Tryz.prog 71 #[.agg #[.string v0, .slice v1.p v1.n v1.c, .slice v2.p v2.n v2.c, .slice v3.p v3.n v3.c, .slice v4.p v4.n v4.c, .slice v5.p v5.n v5.c, .slice v6.p v6.n v6.c, .slice v7.p v7.n v7.c], .string v23, .string v10] V2 fun e V3 => ∃ v24 : Bool, e = .returned (.bool v24) ∧
 (v24 = true →
 R (.returned (.int .i64 0)) V3) ∧ (¬ (v24 = true) →
 R (.returned (.int .i64 11)) V3))) ∧ (¬ ((v21.n : Int) = (1 : Int)) →
 R (.returned (.int .i64 11)) V2))) ∧ (¬ ((v21.n : Int) = (0 : Int)) →
 ((v21.n : Int) = (1 : Int) →
 (v10 = (strB []) →
 R (.returned (.int .i64 11)) V2) ∧ (¬ (v10 = (strB [])) →
 (¬ (v21.p = none)) ∧ ((0 : Int) ≤ (0 : Int)) ∧ ((0 : Int) < (v21.n : Int)) ∧ ∃ v23 : ByteArray, V2.rowp v21.p (((0 : Int)).toNat * 1) 1 = some [.string v23] ∧
 Tri Tryz.prog 71 #[.agg #[.string v0, .slice v1.p v1.n v1.c, .slice v2.p v2.n v2.c, .slice v3.p v3.n v3.c, .slice v4.p v4.n v4.c, .slice v5.p v5.n v5.c, .slice v6.p v6.n v6.c, .slice v7.p v7.n v7.c], .string v23, .string v10] V2 fun e V3 => ∃ v24 : Bool, e = .returned (.bool v24) ∧
 (v24 = true →
 R (.returned (.int .i64 0)) V3) ∧ (¬ (v24 = true) →
 R (.returned (.int .i64 11)) V3))) ∧ (¬ ((v21.n : Int) = (1 : Int)) →
 R (.returned (.int .i64 11)) V2))) ∧ (¬ (v13 = (5 : Int)) →
 R (.returned (.int .i64 0)) V2)))))))
theorem x109 {v0 : ByteArray} {v1 : Sl} {v2 : Sl} {v3 : Sl} {v4 : Sl} {v5 : Sl} {v6 : Sl} {v7 : Sl} {v8 : ByteArray} {v9 : Sl} {v10 : ByteArray} {v11 : Sl} {v12 : Sl} {v13 : Int} {v14 : ByteArray} {v15 : Sl} {v16 : Sl} {v17 : Sl} {V : Mem} {R : Ending → Mem → Prop} (h : w109 v0 v1 v2 v3 v4 v5 v6 v7 v8 v9 v10 v11 v12 v13 v14 v15 v16 v17 V R) : Tri Tryz.prog 109 #[.agg #[.string v0, .slice v1.p v1.n v1.c, .slice v2.p v2.n v2.c, .slice v3.p v3.n v3.c, .slice v4.p v4.n v4.c, .slice v5.p v5.n v5.c, .slice v6.p v6.n v6.c, .slice v7.p v7.n v7.c], .agg #[.string v8, .slice v9.p v9.n v9.c, .string v10, .slice v11.p v11.n v11.c, .slice v12.p v12.n v12.c], .agg #[.int .i64 v13, .string v14, .slice v15.p v15.n v15.c, .slice v16.p v16.n v16.c, .slice v17.p v17.n v17.c]] V R :=
 tri_dx (H := { N := 150, early := [], loops := [], keep := [0, 1, 2, 3, 4, 5, 6, 7, 8, 9, 10, 11, 12, 13, 14, 15, 16, 17, 23, 35, 53, 68, 75, 76, 84, 91, 104, 112, 119, 149] }) Tryz.func109 [.agg (.cons (.var .s 0) (.cons (.var .sl 1) (.cons (.var .sl 2) (.cons (.var .sl 3) (.cons (.var .sl 4) (.cons (.var .sl 5) (.cons (.var .sl 6) (.cons (.var .sl 7) .nil)))))))), .agg (.cons (.var .s 8) (.cons (.var .sl 9) (.cons (.var .s 10) (.cons (.var .sl 11) (.cons (.var .sl 12) .nil))))), .agg (.cons (.var (.i .i64) 13) (.cons (.var .s 14) (.cons (.var .sl 15) (.cons (.var .sl 16) (.cons (.var .sl 17) .nil)))))] [.string v0, .slice v1.p v1.n v1.c, .slice v2.p v2.n v2.c, .slice v3.p v3.n v3.c, .slice v4.p v4.n v4.c, .slice v5.p v5.n v5.c, .slice v6.p v6.n v6.c, .slice v7.p v7.n v7.c, .string v8, .slice v9.p v9.n v9.c, .string v10, .slice v11.p v11.n v11.c, .slice v12.p v12.n v12.c, .int .i64 v13, .string v14, .slice v15.p v15.n v15.c, .slice v16.p v16.n v16.c, .slice v17.p v17.n v17.c] rfl (by kernel_rfl) h
def w110 (v0 : ByteArray) (v1 : Sl) (v2 : Sl) (v3 : Sl) (v4 : Sl) (v5 : Sl) (v6 : Sl) (v7 : Sl) (v8 : Sl) (v9 : Bool) (v10 : Int) (v11 : Int) (v12 : ByteArray) (v13 : Sl) (v14 : ByteArray) (V : Mem) (R : Ending → Mem → Prop) : Prop :=
 Tri Tryz.prog 20 #[.agg #[.string v0, .slice v1.p v1.n v1.c, .slice v2.p v2.n v2.c, .slice v3.p v3.n v3.c, .slice v4.p v4.n v4.c, .slice v5.p v5.n v5.c, .slice v6.p v6.n v6.c, .slice v7.p v7.n v7.c], .agg #[.slice v8.p v8.n v8.c, .bool v9], .agg #[.int .i64 v10, .int .i64 v11, .string v12, .slice v13.p v13.n v13.c]] V fun e V1 => ∃ v15 : ByteArray, ∃ v16 : Int, e = .returned (.tuple #[.string v15, .int .i64 v16]) ∧
 (v16 = (0 : Int) →
 (v15 = v14 →
 R (.returned (.int .i64 0)) V1) ∧ (¬ (v15 = v14) →
 R (.returned (.int .i64 11)) V1)) ∧ (¬ (v16 = (0 : Int)) →
 R (.returned (.int .i64 v16)) V1)
theorem x110 {v0 : ByteArray} {v1 : Sl} {v2 : Sl} {v3 : Sl} {v4 : Sl} {v5 : Sl} {v6 : Sl} {v7 : Sl} {v8 : Sl} {v9 : Bool} {v10 : Int} {v11 : Int} {v12 : ByteArray} {v13 : Sl} {v14 : ByteArray} {V : Mem} {R : Ending → Mem → Prop} (h : w110 v0 v1 v2 v3 v4 v5 v6 v7 v8 v9 v10 v11 v12 v13 v14 V R) : Tri Tryz.prog 110 #[.agg #[.string v0, .slice v1.p v1.n v1.c, .slice v2.p v2.n v2.c, .slice v3.p v3.n v3.c, .slice v4.p v4.n v4.c, .slice v5.p v5.n v5.c, .slice v6.p v6.n v6.c, .slice v7.p v7.n v7.c], .agg #[.slice v8.p v8.n v8.c, .bool v9], .agg #[.int .i64 v10, .int .i64 v11, .string v12, .slice v13.p v13.n v13.c], .string v14] V R :=
 tri_dx (H := { N := 24, early := [], loops := [], keep := [0, 1, 2, 3, 4, 5, 6, 8, 9, 10, 19, 23] }) Tryz.func110 [.agg (.cons (.var .s 0) (.cons (.var .sl 1) (.cons (.var .sl 2) (.cons (.var .sl 3) (.cons (.var .sl 4) (.cons (.var .sl 5) (.cons (.var .sl 6) (.cons (.var .sl 7) .nil)))))))), .agg (.cons (.var .sl 8) (.cons (.var .b 9) .nil)), .agg (.cons (.var (.i .i64) 10) (.cons (.var (.i .i64) 11) (.cons (.var .s 12) (.cons (.var .sl 13) .nil)))), .var .s 14] [.string v0, .slice v1.p v1.n v1.c, .slice v2.p v2.n v2.c, .slice v3.p v3.n v3.c, .slice v4.p v4.n v4.c, .slice v5.p v5.n v5.c, .slice v6.p v6.n v6.c, .slice v7.p v7.n v7.c, .slice v8.p v8.n v8.c, .bool v9, .int .i64 v10, .int .i64 v11, .string v12, .slice v13.p v13.n v13.c, .string v14] rfl (by kernel_rfl) h
def w111 (v0 : ByteArray) (v1 : Sl) (v2 : Sl) (v3 : Sl) (v4 : Sl) (v5 : Sl) (v6 : Sl) (v7 : Sl) (v8 : ByteArray) (v9 : Sl) (v10 : ByteArray) (v11 : Sl) (v12 : Sl) (V : Mem) (R : Ending → Mem → Prop) : Prop :=
 PubT [] 67 V fun v13 V1 =>
 GenK Tryz.prog (.call { callee := (.builtin .append), args := #[.tmp 5, .tmp 7], argTypes := #[23, 23] }) 23 (gval [(5, (.c3 .slc (.u (.poff 0) (.var .p 13)) (.int .i64 0) (.int .i64 0))), (7, (.var .sl 9))] [.string v0, .slice v1.p v1.n v1.c, .slice v2.p v2.n v2.c, .slice v3.p v3.n v3.c, .slice v4.p v4.n v4.c, .slice v5.p v5.n v5.c, .slice v6.p v6.n v6.c, .slice v7.p v7.n v7.c, .string v8, .slice v9.p v9.n v9.c, .string v10, .slice v11.p v11.n v11.c, .slice v12.p v12.n v12.c, .pointer v13]) V1 fun x V2 => ∃ v14 : Sl, x = (.slice v14.p v14.n v14.c) ∧
 GenK Tryz.prog (.call { callee := (.builtin .append), args := #[.tmp 8, .tmp 10], argTypes := #[23, 23] }) 23 (gval [(8, (.var .sl 14)), (10, (.var .sl 2))] [.string v0, .slice v1.p v1.n v1.c, .slice v2.p v2.n v2.c, .slice v3.p v3.n v3.c, .slice v4.p v4.n v4.c, .slice v5.p v5.n v5.c, .slice v6.p v6.n v6.c, .slice v7.p v7.n v7.c, .string v8, .slice v9.p v9.n v9.c, .string v10, .slice v11.p v11.n v11.c, .slice v12.p v12.n v12.c, .pointer v13, .slice v14.p v14.n v14.c]) V2 fun x V3 => ∃ v15 : Sl, x = (.slice v15.p v15.n v15.c) ∧
 R (.returned (.agg #[.slice v15.p v15.n v15.c, .bool false])) V3
theorem x111 {v0 : ByteArray} {v1 : Sl} {v2 : Sl} {v3 : Sl} {v4 : Sl} {v5 : Sl} {v6 : Sl} {v7 : Sl} {v8 : ByteArray} {v9 : Sl} {v10 : ByteArray} {v11 : Sl} {v12 : Sl} {V : Mem} {R : Ending → Mem → Prop} (h : w111 v0 v1 v2 v3 v4 v5 v6 v7 v8 v9 v10 v11 v12 V R) : Tri Tryz.prog 111 #[.agg #[.string v0, .slice v1.p v1.n v1.c, .slice v2.p v2.n v2.c, .slice v3.p v3.n v3.c, .slice v4.p v4.n v4.c, .slice v5.p v5.n v5.c, .slice v6.p v6.n v6.c, .slice v7.p v7.n v7.c], .agg #[.string v8, .slice v9.p v9.n v9.c, .string v10, .slice v11.p v11.n v11.c, .slice v12.p v12.n v12.c]] V R :=
 tri_dx (H := { N := 13, early := [], loops := [], keep := [0, 1, 2, 3, 4] }) Tryz.func111 [.agg (.cons (.var .s 0) (.cons (.var .sl 1) (.cons (.var .sl 2) (.cons (.var .sl 3) (.cons (.var .sl 4) (.cons (.var .sl 5) (.cons (.var .sl 6) (.cons (.var .sl 7) .nil)))))))), .agg (.cons (.var .s 8) (.cons (.var .sl 9) (.cons (.var .s 10) (.cons (.var .sl 11) (.cons (.var .sl 12) .nil)))))] [.string v0, .slice v1.p v1.n v1.c, .slice v2.p v2.n v2.c, .slice v3.p v3.n v3.c, .slice v4.p v4.n v4.c, .slice v5.p v5.n v5.c, .slice v6.p v6.n v6.c, .slice v7.p v7.n v7.c, .string v8, .slice v9.p v9.n v9.c, .string v10, .slice v11.p v11.n v11.c, .slice v12.p v12.n v12.c] rfl (by kernel_rfl) h
def w112 (v0 : Int) (v1 : Int) (v2 : ByteArray) (v3 : Sl) (v4 : Int) (v5 : Option Addr) (V : Mem) (R : Ending → Mem → Prop) : Prop :=
 Tri Tryz.prog 153 #[.int .i64 v0] V fun e V1 => ∃ v6 : Int, ∃ v7 : Bool, e = .returned (.tuple #[.int .i64 v6, .bool v7]) ∧
 Tri Tryz.prog 154 #[.pointer v5] V1 fun e V2 => ∃ v8 : Bool, e = .returned (.bool v8) ∧
 (v8 = true →
 ((60 : Int) < v4 →
 R (.returned (.bool false)) V2) ∧ (¬ ((60 : Int) < v4) →
 (v7 = true →
 Tri Tryz.prog 155 #[.agg #[.int .i64 v0, .int .i64 v1, .string v2, .slice v3.p v3.n v3.c]] V2 fun e V3 => ∃ v9 : Bool, e = .returned (.bool v9) ∧
 (v9 = true →
 ((0 : Int) ≤ v6 →
 ((v3.n : Int) = v6 →
 (v6 < (0 : Int) →
 ((6 : Int) < (v3.n : Int) →
 R (.returned (.bool false)) V3) ∧ (¬ ((6 : Int) < (v3.n : Int)) →
 PubT [.int .i64 v4] 3 V3 fun v10 V4 =>
 PubT [.pointer v5] 152 V4 fun v11 V5 =>
 Tri Tryz.prog 156 #[.slice v3.p v3.n v3.c, .func (.func 157) #[] #[.pointer (ptrAdd v10 0), .pointer (ptrAdd v11 0)]] V5 fun e V6 => ∃ v12 : Bool, e = .returned (.bool v12) ∧
 R (.returned (.bool (!v12))) V6)) ∧ (¬ (v6 < (0 : Int)) →
 PubT [.int .i64 v4] 3 V3 fun v10 V4 =>
 PubT [.pointer v5] 152 V4 fun v11 V5 =>
 Tri Tryz.prog 156 #[.slice v3.p v3.n v3.c, .func (.func 157) #[] #[.pointer (ptrAdd v10 0), .pointer (ptrAdd v11 0)]] V5 fun e V6 => ∃ v12 : Bool, e = .returned (.bool v12) ∧
 R (.returned (.bool (!v12))) V6)) ∧ (¬ ((v3.n : Int) = v6) →
 R (.returned (.bool false)) V3)) ∧ (¬ ((0 : Int) ≤ v6) →
 (v6 < (0 : Int) →
 ((6 : Int) < (v3.n : Int) →
 R (.returned (.bool false)) V3) ∧ (¬ ((6 : Int) < (v3.n : Int)) →
 PubT [.int .i64 v4] 3 V3 fun v10 V4 =>
 PubT [.pointer v5] 152 V4 fun v11 V5 =>
 Tri Tryz.prog 156 #[.slice v3.p v3.n v3.c, .func (.func 157) #[] #[.pointer (ptrAdd v10 0), .pointer (ptrAdd v11 0)]] V5 fun e V6 => ∃ v12 : Bool, e = .returned (.bool v12) ∧
 R (.returned (.bool (!v12))) V6)) ∧ (¬ (v6 < (0 : Int)) →
 PubT [.int .i64 v4] 3 V3 fun v10 V4 =>
 PubT [.pointer v5] 152 V4 fun v11 V5 =>
 Tri Tryz.prog 156 #[.slice v3.p v3.n v3.c, .func (.func 157) #[] #[.pointer (ptrAdd v10 0), .pointer (ptrAdd v11 0)]] V5 fun e V6 => ∃ v12 : Bool, e = .returned (.bool v12) ∧
 R (.returned (.bool (!v12))) V6))) ∧ (¬ (v9 = true) →
 R (.returned (.bool false)) V3)) ∧ (¬ (v7 = true) →
 R (.returned (.bool false)) V2))) ∧ (¬ (v8 = true) →
 R (.returned (.bool false)) V2)
theorem x112 {v0 : Int} {v1 : Int} {v2 : ByteArray} {v3 : Sl} {v4 : Int} {v5 : Option Addr} {V : Mem} {R : Ending → Mem → Prop} (h : w112 v0 v1 v2 v3 v4 v5 V R) : Tri Tryz.prog 112 #[.agg #[.int .i64 v0, .int .i64 v1, .string v2, .slice v3.p v3.n v3.c], .int .i64 v4, .pointer v5] V R :=
 tri_dx (H := { N := 57, early := [], loops := [], keep := [0, 1, 2, 3, 4, 5, 6, 7, 8, 51] }) Tryz.func112 [.agg (.cons (.var (.i .i64) 0) (.cons (.var (.i .i64) 1) (.cons (.var .s 2) (.cons (.var .sl 3) .nil)))), .var (.i .i64) 4, .var .p 5] [.int .i64 v0, .int .i64 v1, .string v2, .slice v3.p v3.n v3.c, .int .i64 v4, .pointer v5] rfl (by kernel_rfl) h
def w114 (v0 : Option Addr) (v1 : Option Nat) (v2 : Bool) (v3 : Int) (v4 : Int) (v5 : ByteArray) (v6 : Sl) (V : Mem) (R : Ending → Mem → Prop) : Prop :=
 ∃ (I : Nat → List Value → Mem → Prop) (n0 : Nat), I n0 [.string (strB []), .int .i64 0, .slice none 0 0, .int .i64 0] V ∧ ∀ n V1, ∀ v7 : ByteArray, ∀ v8 : Int, ∀ v9 : Sl, ∀ v10 : Int, I n [.string v7, .int .i64 v8, .slice v9.p v9.n v9.c, .int .i64 v10] V1 → ∀ J0 : List Value → Mem → Prop, (∀ m ys V'', m < n → I m ys V'' → J0 ys V'') →
 (v10 < (v6.n : Int) →
 (¬ (v6.p = none)) ∧ ((0 : Int) ≤ v10) ∧ (v10 < (v6.n : Int)) ∧ ∃ v11 : Int, ∃ v12 : Int, ∃ v13 : ByteArray, ∃ v14 : Sl, V1.rowp v6.p ((v10).toNat * 4) 4 = some [.int .i64 v11, .int .i64 v12, .string v13, .slice v14.p v14.n v14.c] ∧
 Tri Tryz.prog 64 #[.agg #[.pointer v0, .map v1, .bool v2], .agg #[.int .i64 v11, .int .i64 v12, .string v13, .slice v14.p v14.n v14.c]] V1 fun e V2 => ∃ v15 : ByteArray, ∃ v16 : Int, e = .returned (.tuple #[.string v15, .int .i64 v16]) ∧
 (v16 = (0 : Int) →
 PubT [.string v15] 9 V2 fun v17 V3 =>
 GenK Tryz.prog (.call { callee := (.builtin .append), args := #[.tmp 31, .tmp 33], argTypes := #[85, 85] }) 85 (gval [(31, (.var .sl 9)), (33, (.c3 .slc (.u (.poff 0) (.var .p 17)) (.int .i64 1) (.int .i64 1)))] [.pointer v0, .map v1, .bool v2, .int .i64 v3, .int .i64 v4, .string v5, .slice v6.p v6.n v6.c, .string v7, .int .i64 v8, .slice v9.p v9.n v9.c, .int .i64 v10, .int .i64 v11, .int .i64 v12, .string v13, .slice v14.p v14.n v14.c, .string v15, .int .i64 v16, .pointer v17]) V3 fun x V4 => ∃ v18 : Sl, x = (.slice v18.p v18.n v18.c) ∧
 (K.inR .i64 (v10 + (1 : Int))) ∧ J0 [.string v7, .int .i64 v8, .slice v18.p v18.n v18.c, .int .i64 (v10 + (1 : Int))] V4) ∧ (¬ (v16 = (0 : Int)) →
 R (.returned (.tuple #[.string (strB []), .int .i64 v16])) V2)) ∧ (¬ (v10 < (v6.n : Int)) →
 (v2 = true →
 (¬ (v0 = none)) ∧ (¬ (v0 = none)) ∧ ∃ v11 : Option Nat, V1.rowp v0 (((9 : Int)).toNat * 1) 1 = some [.map v11] ∧
 LookK Tryz.prog 114 (.map v11) (.string v5) true V1 fun x => ∃ v12 : ByteArray, ∃ v13 : Sl, ∃ v14 : ByteArray, ∃ v15 : Sl, ∃ v16 : Sl, ∃ v17 : Bool, x = (.tuple #[.agg #[.string v12, .slice v13.p v13.n v13.c, .string v14, .slice v15.p v15.n v15.c, .slice v16.p v16.n v16.c], .bool v17]) ∧
 (v17 = true →
 ((v9.n : Int) = (v13.n : Int) →
 ∃ (I : Nat → List Value → Mem → Prop) (n0 : Nat), I n0 [.string v7, .int .i64 v8, .int .i64 0] V1 ∧ ∀ n V2, ∀ v18 : ByteArray, ∀ v19 : Int, ∀ v20 : Int, I n [.string v18, .int .i64 v19, .int .i64 v20] V2 → ∀ J1 : List Value → Mem → Prop, (∀ m ys V'', m < n → I m ys V'' → J1 ys V'') →
 (v20 < (v9.n : Int) →
 (¬ (v9.p = none)) ∧ ((0 : Int) ≤ v20) ∧ (v20 < (v9.n : Int)) ∧ ∃ v21 : ByteArray, V2.rowp v9.p ((v20).toNat * 1) 1 = some [.string v21] ∧
 (¬ (v13.p = none)) ∧ ((0 : Int) ≤ v20) ∧ (v20 < (v13.n : Int)) ∧ (¬ ((ptrAdd v13.p ((v20).toNat * 2)) = none)) ∧ ∃ v22 : ByteArray, ∃ v23 : ByteArray, V2.rowp v13.p ((v20).toNat * 2) 2 = some [.string v22, .string v23] ∧
 Tri Tryz.prog 160 #[.pointer v0, .string v21, .string v23] V2 fun e V3 => ∃ v24 : Bool, e = .returned (.bool v24) ∧
 (v24 = true →
 (K.inR .i64 (v20 + (1 : Int))) ∧ J1 [.string v18, .int .i64 v19, .int .i64 (v20 + (1 : Int))] V3) ∧ (¬ (v24 = true) →
 R (.returned (.tuple #[.string (strB []), .int .i64 11])) V3)) ∧ (¬ (v20 < (v9.n : Int)) →
 R (.returned (.tuple #[.string v14, .int .i64 0])) V2)) ∧ (¬ ((v9.n : Int) = (v13.n : Int)) →
 R (.returned (.tuple #[.string (strB []), .int .i64 3])) V1)) ∧ (¬ (v17 = true) →
 R (.returned (.tuple #[.string (strB []), .int .i64 9])) V1)) ∧ (¬ (v2 = true) →
 Tri Tryz.prog 159 #[.agg #[.pointer v0, .map v1, .bool v2], .string v5, .slice v9.p v9.n v9.c] V1 fun e V2 => ∃ v11 : ByteArray, ∃ v12 : Int, e = .returned (.tuple #[.string v11, .int .i64 v12]) ∧
 R (.returned (.tuple #[.string v11, .int .i64 v12])) V2))
theorem x114 {v0 : Option Addr} {v1 : Option Nat} {v2 : Bool} {v3 : Int} {v4 : Int} {v5 : ByteArray} {v6 : Sl} {V : Mem} {R : Ending → Mem → Prop} (h : w114 v0 v1 v2 v3 v4 v5 v6 V R) : Tri Tryz.prog 114 #[.agg #[.pointer v0, .map v1, .bool v2], .agg #[.int .i64 v3, .int .i64 v4, .string v5, .slice v6.p v6.n v6.c]] V R :=
 tri_dx (H := { N := 88, early := [], loops := [], keep := [0, 1, 2, 3, 4, 5, 6, 8, 9, 10, 11, 12, 13, 14, 16, 17, 18, 19, 29, 38, 57, 60, 67, 68, 69, 70, 84] }) Tryz.func114 [.agg (.cons (.var .p 0) (.cons (.var .m 1) (.cons (.var .b 2) .nil))), .agg (.cons (.var (.i .i64) 3) (.cons (.var (.i .i64) 4) (.cons (.var .s 5) (.cons (.var .sl 6) .nil))))] [.pointer v0, .map v1, .bool v2, .int .i64 v3, .int .i64 v4, .string v5, .slice v6.p v6.n v6.c] rfl (by kernel_rfl) h
def w115 (v0 : Option Addr) (v1 : Option Nat) (v2 : Bool) (v3 : Int) (v4 : Int) (v5 : ByteArray) (v6 : Sl) (v7 : Sl) (V : Mem) (R : Ending → Mem → Prop) : Prop :=
 (v3 = (1 : Int) →
 R (.returned (.tuple #[.string (strB [105, 110, 116]), .int .i64 0])) V) ∧ (¬ (v3 = (1 : Int)) →
 (v3 = (2 : Int) →
 R (.returned (.tuple #[.string (strB [98, 111, 111, 108]), .int .i64 0])) V) ∧ (¬ (v3 = (2 : Int)) →
 (v3 = (3 : Int) →
 R (.returned (.tuple #[.string (strB [110, 105, 108]), .int .i64 0])) V) ∧ (¬ (v3 = (3 : Int)) →
 (v3 = (4 : Int) →
 LookK Tryz.prog 117 (.map v1) (.string v5) true V fun x => ∃ v8 : ByteArray, ∃ v9 : Bool, x = (.tuple #[.string v8, .bool v9]) ∧
 (v9 = true →
 R (.returned (.tuple #[.string v8, .int .i64 0])) V) ∧ (¬ (v9 = true) →
 R (.returned (.tuple #[.string (strB []), .int .i64 9])) V)) ∧ (¬ (v3 = (4 : Int)) →
 (v3 = (5 : Int) →
 (¬ (v7.p = none)) ∧ ((0 : Int) ≤ (0 : Int)) ∧ ((0 : Int) < (v7.n : Int)) ∧ ∃ v8 : ByteArray, V.rowp v7.p (((0 : Int)).toNat * 1) 1 = some [.string v8] ∧
 Tri Tryz.prog 164 #[.pointer v0, .string v8, .string v5] V fun e V1 => ∃ v9 : ByteArray, ∃ v10 : Int, e = .returned (.tuple #[.string v9, .int .i64 v10]) ∧
 R (.returned (.tuple #[.string v9, .int .i64 v10])) V1) ∧ (¬ (v3 = (5 : Int)) →
 (v3 = (6 : Int) →
 (v2 = true →
 Tri Tryz.prog 77 #[.pointer v0, .string v5] V fun e V1 => ∃ v8 : Bool, e = .returned (.bool v8) ∧
 (v8 = true →
 R (.returned (.tuple #[.string v5, .int .i64 0])) V1) ∧ (¬ (v8 = true) →
 R (.returned (.tuple #[.string (strB []), .int .i64 9])) V1)) ∧ (¬ (v2 = true) →
 R (.returned (.tuple #[.string (strB []), .int .i64 13])) V)) ∧ (¬ (v3 = (6 : Int)) →
 (v3 = (14 : Int) →
 (¬ (v7.p = none)) ∧ ((0 : Int) ≤ (0 : Int)) ∧ ((0 : Int) < (v7.n : Int)) ∧ ∃ v8 : ByteArray, V.rowp v7.p (((0 : Int)).toNat * 1) 1 = some [.string v8] ∧
 (¬ (v7.p = none)) ∧ ((0 : Int) ≤ (1 : Int)) ∧ ((1 : Int) < (v7.n : Int)) ∧ ∃ v9 : ByteArray, V.rowp v7.p (((1 : Int)).toNat * 1) 1 = some [.string v9] ∧
 Tri Tryz.prog 160 #[.pointer v0, .string v8, .string v9] V fun e V1 => ∃ v10 : Bool, e = .returned (.bool v10) ∧
 (v10 = true →
 R (.returned (.tuple #[.string (strB [98, 111, 111, 108]), .int .i64 0])) V1) ∧ (¬ (v10 = true) →
 (¬ (v7.p = none)) ∧ ((0 : Int) ≤ (1 : Int)) ∧ ((1 : Int) < (v7.n : Int)) ∧ ∃ v11 : ByteArray, V1.rowp v7.p (((1 : Int)).toNat * 1) 1 = some [.string v11] ∧
 (¬ (v7.p = none)) ∧ ((0 : Int) ≤ (0 : Int)) ∧ ((0 : Int) < (v7.n : Int)) ∧ ∃ v12 : ByteArray, V1.rowp v7.p (((0 : Int)).toNat * 1) 1 = some [.string v12] ∧
 Tri Tryz.prog 160 #[.pointer v0, .string v11, .string v12] V1 fun e V2 => ∃ v13 : Bool, e = .returned (.bool v13) ∧
 (v13 = true →
 R (.returned (.tuple #[.string (strB [98, 111, 111, 108]), .int .i64 0])) V2) ∧ (¬ (v13 = true) →
 R (.returned (.tuple #[.string (strB []), .int .i64 11])) V2))) ∧ (¬ (v3 = (14 : Int)) →
 (v3 = (15 : Int) →
 (¬ (v7.p = none)) ∧ ((0 : Int) ≤ (0 : Int)) ∧ ((0 : Int) < (v7.n : Int)) ∧ ∃ v8 : ByteArray, V.rowp v7.p (((0 : Int)).toNat * 1) 1 = some [.string v8] ∧
 (¬ (v7.p = none)) ∧ ((0 : Int) ≤ (1 : Int)) ∧ ((1 : Int) < (v7.n : Int)) ∧ ∃ v9 : ByteArray, V.rowp v7.p (((1 : Int)).toNat * 1) 1 = some [.string v9] ∧
 Tri Tryz.prog 160 #[.pointer v0, .string v8, .string v9] V fun e V1 => ∃ v10 : Bool, e = .returned (.bool v10) ∧
 (v10 = true →
 R (.returned (.tuple #[.string (strB [98, 111, 111, 108]), .int .i64 0])) V1) ∧ (¬ (v10 = true) →
 (¬ (v7.p = none)) ∧ ((0 : Int) ≤ (1 : Int)) ∧ ((1 : Int) < (v7.n : Int)) ∧ ∃ v11 : ByteArray, V1.rowp v7.p (((1 : Int)).toNat * 1) 1 = some [.string v11] ∧
 (¬ (v7.p = none)) ∧ ((0 : Int) ≤ (0 : Int)) ∧ ((0 : Int) < (v7.n : Int)) ∧ ∃ v12 : ByteArray, V1.rowp v7.p (((0 : Int)).toNat * 1) 1 = some [.string v12] ∧
 Tri Tryz.prog 160 #[.pointer v0, .string v11, .string v12] V1 fun e V2 => ∃ v13 : Bool, e = .returned (.bool v13) ∧
 (v13 = true →
 R (.returned (.tuple #[.string (strB [98, 111, 111, 108]), .int .i64 0])) V2) ∧ (¬ (v13 = true) →
 R (.returned (.tuple #[.string (strB []), .int .i64 11])) V2))) ∧ (¬ (v3 = (15 : Int)) →
 (v3 = (16 : Int) →
 PubT [.slice v7.p v7.n v7.c] 85 V fun v8 V1 =>
 Tri Tryz.prog 161 #[.string (strB [105, 110, 116]), .string (strB [98, 111, 111, 108]), .pointer (ptrAdd v8 0)] V1 fun e V2 => ∃ v9 : ByteArray, ∃ v10 : Int, e = .returned (.tuple #[.string v9, .int .i64 v10]) ∧
 R (.returned (.tuple #[.string v9, .int .i64 v10])) V2) ∧ (¬ (v3 = (16 : Int)) →
 (v3 = (17 : Int) →
 PubT [.slice v7.p v7.n v7.c] 85 V fun v8 V1 =>
 Tri Tryz.prog 161 #[.string (strB [105, 110, 116]), .string (strB [98, 111, 111, 108]), .pointer (ptrAdd v8 0)] V1 fun e V2 => ∃ v9 : ByteArray, ∃ v10 : Int, e = .returned (.tuple #[.string v9, .int .i64 v10]) ∧
 R (.returned (.tuple #[.string v9, .int .i64 v10])) V2) ∧ (¬ (v3 = (17 : Int)) →
 (v3 = (18 : Int) →
 PubT [.slice v7.p v7.n v7.c] 85 V fun v8 V1 =>
 Tri Tryz.prog 161 #[.string (strB [98, 111, 111, 108]), .string (strB [98, 111, 111, 108]), .pointer (ptrAdd v8 0)] V1 fun e V2 => ∃ v9 : ByteArray, ∃ v10 : Int, e = .returned (.tuple #[.string v9, .int .i64 v10]) ∧
 R (.returned (.tuple #[.string v9, .int .i64 v10])) V2) ∧ (¬ (v3 = (18 : Int)) →
 (v3 = (19 : Int) →
 PubT [.slice v7.p v7.n v7.c] 85 V fun v8 V1 =>
 Tri Tryz.prog 161 #[.string (strB [98, 111, 111, 108]), .string (strB [98, 111, 111, 108]), .pointer (ptrAdd v8 0)] V1 fun e V2 => ∃ v9 : ByteArray, ∃ v10 : Int, e = .returned (.tuple #[.string v9, .int .i64 v10]) ∧
 R (.returned (.tuple #[.string v9, .int .i64 v10])) V2) ∧ (¬ (v3 = (19 : Int)) →
 (v3 = (20 : Int) →
 PubT [.slice v7.p v7.n v7.c] 85 V fun v8 V1 =>
 Tri Tryz.prog 161 #[.string (strB [98, 111, 111, 108]), .string (strB [98, 111, 111, 108]), .pointer (ptrAdd v8 0)] V1 fun e V2 => ∃ v9 : ByteArray, ∃ v10 : Int, e = .returned (.tuple #[.string v9, .int .i64 v10]) ∧
 R (.returned (.tuple #[.string v9, .int .i64 v10])) V2) ∧ (¬ (v3 = (20 : Int)) →
 (v3 = (21 : Int) →
 (¬ (v7.p = none)) ∧ ((0 : Int) ≤ (0 : Int)) ∧ ((0 : Int) < (v7.n : Int)) ∧ ∃ v8 : ByteArray, V.rowp v7.p (((0 : Int)).toNat * 1) 1 = some [.string v8] ∧
 (v8 = (strB [98, 111, 111, 108]) →
 (¬ (v7.p = none)) ∧ ((0 : Int) ≤ (1 : Int)) ∧ ((1 : Int) < (v7.n : Int)) ∧ ∃ v9 : ByteArray, V.rowp v7.p (((1 : Int)).toNat * 1) 1 = some [.string v9] ∧
 (¬ (v7.p = none)) ∧ ((0 : Int) ≤ (2 : Int)) ∧ ((2 : Int) < (v7.n : Int)) ∧ ∃ v10 : ByteArray, V.rowp v7.p (((2 : Int)).toNat * 1) 1 = some [.string v10] ∧
 Tri Tryz.prog 160 #[.pointer v0, .string v9, .string v10] V fun e V1 => ∃ v11 : Bool, e = .returned (.bool v11) ∧
 (v11 = true →
 (¬ (v7.p = none)) ∧ ((0 : Int) ≤ (2 : Int)) ∧ ((2 : Int) < (v7.n : Int)) ∧ ∃ v12 : ByteArray, V1.rowp v7.p (((2 : Int)).toNat * 1) 1 = some [.string v12] ∧
 R (.returned (.tuple #[.string v12, .int .i64 0])) V1) ∧ (¬ (v11 = true) →
 (¬ (v7.p = none)) ∧ ((0 : Int) ≤ (2 : Int)) ∧ ((2 : Int) < (v7.n : Int)) ∧ ∃ v12 : ByteArray, V1.rowp v7.p (((2 : Int)).toNat * 1) 1 = some [.string v12] ∧
 (¬ (v7.p = none)) ∧ ((0 : Int) ≤ (1 : Int)) ∧ ((1 : Int) < (v7.n : Int)) ∧ ∃ v13 : ByteArray, V1.rowp v7.p (((1 : Int)).toNat * 1) 1 = some [.string v13] ∧
 Tri Tryz.prog 160 #[.pointer v0, .string v12, .string v13] V1 fun e V2 => ∃ v14 : Bool, e = .returned (.bool v14) ∧
 (v14 = true →
 (¬ (v7.p = none)) ∧ ((0 : Int) ≤ (1 : Int)) ∧ ((1 : Int) < (v7.n : Int)) ∧ ∃ v15 : ByteArray, V2.rowp v7.p (((1 : Int)).toNat * 1) 1 = some [.string v15] ∧
 R (.returned (.tuple #[.string v15, .int .i64 0])) V2) ∧ (¬ (v14 = true) →
 R (.returned (.tuple #[.string (strB []), .int .i64 11])) V2))) ∧ (¬ (v8 = (strB [98, 111, 111, 108])) →
 R (.returned (.tuple #[.string (strB []), .int .i64 11])) V)) ∧ (¬ (v3 = (21 : Int)) →
 PubT [.slice v7.p v7.n v7.c] 85 V fun v8 V1 =>
 Tri Tryz.prog 161 #[.string (strB [105, 110, 116]), .string (strB [105, 110, 116]), .pointer (ptrAdd v8 0)] V1 fun e V2 => ∃ v9 : ByteArray, ∃ v10 : Int, e = .returned (.tuple #[.string v9, .int .i64 v10]) ∧
 R (.returned (.tuple #[.string v9, .int .i64 v10])) V2))))))))))))))
theorem x115 {v0 : Option Addr} {v1 : Option Nat} {v2 : Bool} {v3 : Int} {v4 : Int} {v5 : ByteArray} {v6 : Sl} {v7 : Sl} {V : Mem} {R : Ending → Mem → Prop} (h : w115 v0 v1 v2 v3 v4 v5 v6 v7 V R) : Tri Tryz.prog 115 #[.agg #[.pointer v0, .map v1, .bool v2], .agg #[.int .i64 v3, .int .i64 v4, .string v5, .slice v6.p v6.n v6.c], .slice v7.p v7.n v7.c] V R :=
 tri_dx (H := { N := 137, early := [], loops := [], keep := [0, 1, 2, 3, 4, 5, 6, 7, 8, 9, 10, 13, 14, 16, 18, 20, 31, 33, 45, 47, 51, 60, 84, 85, 92, 100, 102, 107, 120] }) Tryz.func115 [.agg (.cons (.var .p 0) (.cons (.var .m 1) (.cons (.var .b 2) .nil))), .agg (.cons (.var (.i .i64) 3) (.cons (.var (.i .i64) 4) (.cons (.var .s 5) (.cons (.var .sl 6) .nil)))), .var .sl 7] [.pointer v0, .map v1, .bool v2, .int .i64 v3, .int .i64 v4, .string v5, .slice v6.p v6.n v6.c, .slice v7.p v7.n v7.c] rfl (by kernel_rfl) h
def w116 (v0 : Int) (v1 : Int) (v2 : ByteArray) (v3 : Sl) (V : Mem) (R : Ending → Mem → Prop) : Prop :=
 Tri Tryz.prog 165 #[.int .i64 v0] V fun e V1 => ∃ v4 : Int, e = .returned (.int .i64 v4) ∧
 (v4 = ((-2) : Int) →
 R (.returned (.bool false)) V1) ∧ (¬ (v4 = ((-2) : Int)) →
 ((0 : Int) ≤ v4 →
 ((v3.n : Int) = v4 →
 (v4 = ((-1) : Int) →
 ((6 : Int) < (v3.n : Int) →
 R (.returned (.bool false)) V1) ∧ (¬ ((6 : Int) < (v3.n : Int)) →
 Tri Tryz.prog 166 #[.agg #[.int .i64 v0, .int .i64 v1, .string v2, .slice v3.p v3.n v3.c]] V1 fun e V2 => ∃ v5 : Bool, e = .returned (.bool v5) ∧
 (v5 = true →
 (v0 = (1 : Int) →
 ((0 : Int) ≤ v1 →
 R (.returned (.bool (decide (v1 ≤ (1099511627776 : Int))))) V2) ∧ (¬ ((0 : Int) ≤ v1) →
 R (.returned (.bool false)) V2)) ∧ (¬ (v0 = (1 : Int)) →
 (v0 = (2 : Int) →
 (v1 = (0 : Int) →
 R (.returned (.bool true)) V2) ∧ (¬ (v1 = (0 : Int)) →
 R (.returned (.bool (decide (v1 = (1 : Int))))) V2)) ∧ (¬ (v0 = (2 : Int)) →
 R (.returned (.bool (decide (v1 = (0 : Int))))) V2))) ∧ (¬ (v5 = true) →
 R (.returned (.bool false)) V2))) ∧ (¬ (v4 = ((-1) : Int)) →
 Tri Tryz.prog 166 #[.agg #[.int .i64 v0, .int .i64 v1, .string v2, .slice v3.p v3.n v3.c]] V1 fun e V2 => ∃ v5 : Bool, e = .returned (.bool v5) ∧
 (v5 = true →
 (v0 = (1 : Int) →
 ((0 : Int) ≤ v1 →
 R (.returned (.bool (decide (v1 ≤ (1099511627776 : Int))))) V2) ∧ (¬ ((0 : Int) ≤ v1) →
 R (.returned (.bool false)) V2)) ∧ (¬ (v0 = (1 : Int)) →
 (v0 = (2 : Int) →
 (v1 = (0 : Int) →
 R (.returned (.bool true)) V2) ∧ (¬ (v1 = (0 : Int)) →
 R (.returned (.bool (decide (v1 = (1 : Int))))) V2)) ∧ (¬ (v0 = (2 : Int)) →
 R (.returned (.bool (decide (v1 = (0 : Int))))) V2))) ∧ (¬ (v5 = true) →
 R (.returned (.bool false)) V2))) ∧ (¬ ((v3.n : Int) = v4) →
 R (.returned (.bool false)) V1)) ∧ (¬ ((0 : Int) ≤ v4) →
 (v4 = ((-1) : Int) →
 ((6 : Int) < (v3.n : Int) →
 R (.returned (.bool false)) V1) ∧ (¬ ((6 : Int) < (v3.n : Int)) →
 Tri Tryz.prog 166 #[.agg #[.int .i64 v0, .int .i64 v1, .string v2, .slice v3.p v3.n v3.c]] V1 fun e V2 => ∃ v5 : Bool, e = .returned (.bool v5) ∧
 (v5 = true →
 (v0 = (1 : Int) →
 ((0 : Int) ≤ v1 →
 R (.returned (.bool (decide (v1 ≤ (1099511627776 : Int))))) V2) ∧ (¬ ((0 : Int) ≤ v1) →
 R (.returned (.bool false)) V2)) ∧ (¬ (v0 = (1 : Int)) →
 (v0 = (2 : Int) →
 (v1 = (0 : Int) →
 R (.returned (.bool true)) V2) ∧ (¬ (v1 = (0 : Int)) →
 R (.returned (.bool (decide (v1 = (1 : Int))))) V2)) ∧ (¬ (v0 = (2 : Int)) →
 R (.returned (.bool (decide (v1 = (0 : Int))))) V2))) ∧ (¬ (v5 = true) →
 R (.returned (.bool false)) V2))) ∧ (¬ (v4 = ((-1) : Int)) →
 Tri Tryz.prog 166 #[.agg #[.int .i64 v0, .int .i64 v1, .string v2, .slice v3.p v3.n v3.c]] V1 fun e V2 => ∃ v5 : Bool, e = .returned (.bool v5) ∧
 (v5 = true →
 (v0 = (1 : Int) →
 ((0 : Int) ≤ v1 →
 R (.returned (.bool (decide (v1 ≤ (1099511627776 : Int))))) V2) ∧ (¬ ((0 : Int) ≤ v1) →
 R (.returned (.bool false)) V2)) ∧ (¬ (v0 = (1 : Int)) →
 (v0 = (2 : Int) →
 (v1 = (0 : Int) →
 R (.returned (.bool true)) V2) ∧ (¬ (v1 = (0 : Int)) →
 R (.returned (.bool (decide (v1 = (1 : Int))))) V2)) ∧ (¬ (v0 = (2 : Int)) →
 R (.returned (.bool (decide (v1 = (0 : Int))))) V2))) ∧ (¬ (v5 = true) →
 R (.returned (.bool false)) V2))))
theorem x116 {v0 : Int} {v1 : Int} {v2 : ByteArray} {v3 : Sl} {V : Mem} {R : Ending → Mem → Prop} (h : w116 v0 v1 v2 v3 V R) : Tri Tryz.prog 116 #[.agg #[.int .i64 v0, .int .i64 v1, .string v2, .slice v3.p v3.n v3.c]] V R :=
 tri_dx (H := { N := 60, early := [], loops := [], keep := [0, 1, 2, 3, 34, 36, 37, 47] }) Tryz.func116 [.agg (.cons (.var (.i .i64) 0) (.cons (.var (.i .i64) 1) (.cons (.var .s 2) (.cons (.var .sl 3) .nil))))] [.int .i64 v0, .int .i64 v1, .string v2, .slice v3.p v3.n v3.c] rfl (by kernel_rfl) h
def w117 (v0 : ByteArray) (v1 : Sl) (v2 : Sl) (v3 : Sl) (v4 : Sl) (v5 : Sl) (v6 : Sl) (v7 : Sl) (v8 : ByteArray) (v9 : Sl) (V : Mem) (R : Ending → Mem → Prop) : Prop :=
 Tri Tryz.prog 19 #[.agg #[.string v0, .slice v1.p v1.n v1.c, .slice v2.p v2.n v2.c, .slice v3.p v3.n v3.c, .slice v4.p v4.n v4.c, .slice v5.p v5.n v5.c, .slice v6.p v6.n v6.c, .slice v7.p v7.n v7.c], .string v8] V fun e V1 => ∃ v10 : Int, e = .returned (.int .i64 v10) ∧
 (v10 < (0 : Int) →
 R (.returned (.tuple #[.string (strB []), .int .i64 9])) V1) ∧ (¬ (v10 < (0 : Int)) →
 (¬ (v3.p = none)) ∧ ((0 : Int) ≤ v10) ∧ (v10 < (v3.n : Int)) ∧ ∃ v11 : ByteArray, ∃ v12 : Sl, ∃ v13 : ByteArray, ∃ v14 : Sl, ∃ v15 : Sl, V1.rowp v3.p ((v10).toNat * 5) 5 = some [.string v11, .slice v12.p v12.n v12.c, .string v13, .slice v14.p v14.n v14.c, .slice v15.p v15.n v15.c] ∧
 ((v9.n : Int) = (v12.n : Int) →
 ∃ (I : Nat → List Value → Mem → Prop) (n0 : Nat), I n0 [.string (strB []), .int .i64 0, .int .i64 0] V1 ∧ ∀ n V2, ∀ v16 : ByteArray, ∀ v17 : Int, ∀ v18 : Int, I n [.string v16, .int .i64 v17, .int .i64 v18] V2 → ∀ J0 : List Value → Mem → Prop, (∀ m ys V'', m < n → I m ys V'' → J0 ys V'') →
 (v18 < (v9.n : Int) →
 (¬ (v9.p = none)) ∧ ((0 : Int) ≤ v18) ∧ (v18 < (v9.n : Int)) ∧ ∃ v19 : ByteArray, V2.rowp v9.p ((v18).toNat * 1) 1 = some [.string v19] ∧
 (¬ (v12.p = none)) ∧ ((0 : Int) ≤ v18) ∧ (v18 < (v12.n : Int)) ∧ (¬ ((ptrAdd v12.p ((v18).toNat * 2)) = none)) ∧ ∃ v20 : ByteArray, ∃ v21 : ByteArray, V2.rowp v12.p ((v18).toNat * 2) 2 = some [.string v20, .string v21] ∧
 Tri Tryz.prog 71 #[.agg #[.string v0, .slice v1.p v1.n v1.c, .slice v2.p v2.n v2.c, .slice v3.p v3.n v3.c, .slice v4.p v4.n v4.c, .slice v5.p v5.n v5.c, .slice v6.p v6.n v6.c, .slice v7.p v7.n v7.c], .string v19, .string v21] V2 fun e V3 => ∃ v22 : Bool, e = .returned (.bool v22) ∧
 (v22 = true →
 (K.inR .i64 (v18 + (1 : Int))) ∧ J0 [.string v16, .int .i64 v17, .int .i64 (v18 + (1 : Int))] V3) ∧ (¬ (v22 = true) →
 R (.returned (.tuple #[.string (strB []), .int .i64 11])) V3)) ∧ (¬ (v18 < (v9.n : Int)) →
 R (.returned (.tuple #[.string v13, .int .i64 0])) V2)) ∧ (¬ ((v9.n : Int) = (v12.n : Int)) →
 R (.returned (.tuple #[.string (strB []), .int .i64 3])) V1))
theorem x117 {v0 : ByteArray} {v1 : Sl} {v2 : Sl} {v3 : Sl} {v4 : Sl} {v5 : Sl} {v6 : Sl} {v7 : Sl} {v8 : ByteArray} {v9 : Sl} {V : Mem} {R : Ending → Mem → Prop} (h : w117 v0 v1 v2 v3 v4 v5 v6 v7 v8 v9 V R) : Tri Tryz.prog 117 #[.agg #[.string v0, .slice v1.p v1.n v1.c, .slice v2.p v2.n v2.c, .slice v3.p v3.n v3.c, .slice v4.p v4.n v4.c, .slice v5.p v5.n v5.c, .slice v6.p v6.n v6.c, .slice v7.p v7.n v7.c], .string v8, .slice v9.p v9.n v9.c] V R :=
 tri_dx (H := { N := 48, early := [], loops := [], keep := [0, 1, 2, 3, 6, 7, 8, 9, 10, 15, 26, 30, 45] }) Tryz.func117 [.agg (.cons (.var .s 0) (.cons (.var .sl 1) (.cons (.var .sl 2) (.cons (.var .sl 3) (.cons (.var .sl 4) (.cons (.var .sl 5) (.cons (.var .sl 6) (.cons (.var .sl 7) .nil)))))))), .var .s 8, .var .sl 9] [.string v0, .slice v1.p v1.n v1.c, .slice v2.p v2.n v2.c, .slice v3.p v3.n v3.c, .slice v4.p v4.n v4.c, .slice v5.p v5.n v5.c, .slice v6.p v6.n v6.c, .slice v7.p v7.n v7.c, .string v8, .slice v9.p v9.n v9.c] rfl (by kernel_rfl) h
def w118 (v0 : ByteArray) (V : Mem) (R : Ending → Mem → Prop) : Prop :=
 (v0 = (strB [105, 110, 116]) →
 R (.returned (.bool true)) V) ∧ (¬ (v0 = (strB [105, 110, 116])) →
 R (.returned (.bool (decide (v0 = (strB [98, 111, 111, 108]))))) V)
theorem x118 {v0 : ByteArray} {V : Mem} {R : Ending → Mem → Prop} (h : w118 v0 V R) : Tri Tryz.prog 118 #[.string v0] V R :=
 tri_dx (H := { N := 9, early := [], loops := [], keep := [0, 2] }) Tryz.func118 [.var .s 0] [.string v0] rfl (by kernel_rfl) h
def w119 (v0 : Int) (V : Mem) (R : Ending → Mem → Prop) : Prop :=
 (v0 = (32 : Int) →
 R (.returned (.int .i64 1)) V) ∧ (¬ (v0 = (32 : Int)) →
 (v0 = (9 : Int) →
 R (.returned (.int .i64 1)) V) ∧ (¬ (v0 = (9 : Int)) →
 (v0 = (13 : Int) →
 R (.returned (.int .i64 1)) V) ∧ (¬ (v0 = (13 : Int)) →
 (v0 = (10 : Int) →
 R (.returned (.int .i64 1)) V) ∧ (¬ (v0 = (10 : Int)) →
 ((97 : Int) ≤ v0 →
 (v0 ≤ (122 : Int) →
 R (.returned (.int .i64 2)) V) ∧ (¬ (v0 ≤ (122 : Int)) →
 ((65 : Int) ≤ v0 →
 (v0 ≤ (90 : Int) →
 R (.returned (.int .i64 2)) V) ∧ (¬ (v0 ≤ (90 : Int)) →
 ((48 : Int) ≤ v0 →
 (v0 ≤ (57 : Int) →
 R (.returned (.int .i64 3)) V) ∧ (¬ (v0 ≤ (57 : Int)) →
 (v0 = (95 : Int) →
 R (.returned (.int .i64 4)) V) ∧ (¬ (v0 = (95 : Int)) →
 R (.returned (.int .i64 0)) V))) ∧ (¬ ((48 : Int) ≤ v0) →
 (v0 = (95 : Int) →
 R (.returned (.int .i64 4)) V) ∧ (¬ (v0 = (95 : Int)) →
 R (.returned (.int .i64 0)) V)))) ∧ (¬ ((65 : Int) ≤ v0) →
 ((48 : Int) ≤ v0 →
 (v0 ≤ (57 : Int) →
 R (.returned (.int .i64 3)) V) ∧ (¬ (v0 ≤ (57 : Int)) →
 (v0 = (95 : Int) →
 R (.returned (.int .i64 4)) V) ∧ (¬ (v0 = (95 : Int)) →
 R (.returned (.int .i64 0)) V))) ∧ (¬ ((48 : Int) ≤ v0) →
 (v0 = (95 : Int) →
 R (.returned (.int .i64 4)) V) ∧ (¬ (v0 = (95 : Int)) →
 R (.returned (.int .i64 0)) V))))) ∧ (¬ ((97 : Int) ≤ v0) →
 ((65 : Int) ≤ v0 →
 (v0 ≤ (90 : Int) →
 R (.returned (.int .i64 2)) V) ∧ (¬ (v0 ≤ (90 : Int)) →
 ((48 : Int) ≤ v0 →
 (v0 ≤ (57 : Int) →
 R (.returned (.int .i64 3)) V) ∧ (¬ (v0 ≤ (57 : Int)) →
 (v0 = (95 : Int) →
 R (.returned (.int .i64 4)) V) ∧ (¬ (v0 = (95 : Int)) →
 R (.returned (.int .i64 0)) V))) ∧ (¬ ((48 : Int) ≤ v0) →
 (v0 = (95 : Int) →
 R (.returned (.int .i64 4)) V) ∧ (¬ (v0 = (95 : Int)) →
 R (.returned (.int .i64 0)) V)))) ∧ (¬ ((65 : Int) ≤ v0) →
 ((48 : Int) ≤ v0 →
 (v0 ≤ (57 : Int) →
 R (.returned (.int .i64 3)) V) ∧ (¬ (v0 ≤ (57 : Int)) →
 (v0 = (95 : Int) →
 R (.returned (.int .i64 4)) V) ∧ (¬ (v0 = (95 : Int)) →
 R (.returned (.int .i64 0)) V))) ∧ (¬ ((48 : Int) ≤ v0) →
 (v0 = (95 : Int) →
 R (.returned (.int .i64 4)) V) ∧ (¬ (v0 = (95 : Int)) →
 R (.returned (.int .i64 0)) V))))))))
theorem x119 {v0 : Int} {V : Mem} {R : Ending → Mem → Prop} (h : w119 v0 V R) : Tri Tryz.prog 119 #[.int .u8 v0] V R :=
 tri_dx (H := { N := 35, early := [], loops := [], keep := [0, 2, 3, 12, 25, 32] }) Tryz.func119 [.var (.i .u8) 0] [.int .u8 v0] rfl (by kernel_rfl) h
def w120 (v0 : ByteArray) (V : Mem) (R : Ending → Mem → Prop) : Prop :=
 Tri Tryz.prog 168 #[] V fun e V1 => ∃ v1 : Sl, e = .returned (.slice v1.p v1.n v1.c) ∧
 Tri Tryz.prog 167 #[.slice v1.p v1.n v1.c, .string v0] V1 fun e V2 => ∃ v2 : Int, ∃ v3 : Bool, e = .returned (.tuple #[.int .i64 v2, .bool v3]) ∧
 R (.returned (.bool v3)) V2
theorem x120 {v0 : ByteArray} {V : Mem} {R : Ending → Mem → Prop} (h : w120 v0 V R) : Tri Tryz.prog 120 #[.string v0] V R :=
 tri_dx (H := { N := 12, early := [], loops := [], keep := [0, 2, 4] }) Tryz.func120 [.var .s 0] [.string v0] rfl (by kernel_rfl) h
def w121 (v0 : ByteArray) (v1 : ByteArray) (V : Mem) (R : Ending → Mem → Prop) : Prop :=
 Tri Tryz.prog 84 #[.string v0] V fun e V1 => ∃ v2 : Bool, e = .returned (.bool v2) ∧
 (v2 = true →
 Tri Tryz.prog 122 #[.string v1] V1 fun e V2 => ∃ v3 : Bool, e = .returned (.bool v3) ∧
 R (.returned (.bool (!v3))) V2) ∧ (¬ (v2 = true) →
 R (.returned (.bool true)) V1)
theorem x121 {v0 : ByteArray} {v1 : ByteArray} {V : Mem} {R : Ending → Mem → Prop} (h : w121 v0 v1 V R) : Tri Tryz.prog 121 #[.agg #[.string v0, .string v1]] V R :=
 tri_dx (H := { N := 13, early := [], loops := [], keep := [0, 1, 2] }) Tryz.func121 [.agg (.cons (.var .s 0) (.cons (.var .s 1) .nil))] [.string v0, .string v1] rfl (by kernel_rfl) h
def w122 (v0 : ByteArray) (V : Mem) (R : Ending → Mem → Prop) : Prop :=
 (v0 = (strB [105, 110, 116]) →
 R (.returned (.bool true)) V) ∧ (¬ (v0 = (strB [105, 110, 116])) →
 (v0 = (strB [98, 111, 111, 108]) →
 R (.returned (.bool true)) V) ∧ (¬ (v0 = (strB [98, 111, 111, 108])) →
 Tri Tryz.prog 84 #[.string v0] V fun e V1 => ∃ v1 : Bool, e = .returned (.bool v1) ∧
 R (.returned (.bool v1)) V1))
theorem x122 {v0 : ByteArray} {V : Mem} {R : Ending → Mem → Prop} (h : w122 v0 V R) : Tri Tryz.prog 122 #[.string v0] V R :=
 tri_dx (H := { N := 13, early := [], loops := [], keep := [0, 2] }) Tryz.func122 [.var .s 0] [.string v0] rfl (by kernel_rfl) h
def w123 (v0 : ByteArray) (V : Mem) (R : Ending → Mem → Prop) : Prop :=
 (v0 = (strB []) →
 R (.returned (.bool true)) V) ∧ (¬ (v0 = (strB [])) →
 Tri Tryz.prog 84 #[.string v0] V fun e V1 => ∃ v1 : Bool, e = .returned (.bool v1) ∧
 R (.returned (.bool v1)) V1)
theorem x123 {v0 : ByteArray} {V : Mem} {R : Ending → Mem → Prop} (h : w123 v0 V R) : Tri Tryz.prog 123 #[.string v0] V R :=
 tri_dx (H := { N := 9, early := [], loops := [], keep := [0, 2] }) Tryz.func123 [.var .s 0] [.string v0] rfl (by kernel_rfl) h
def w124 (v0 : Sl) (v1 : Value) (V : Mem) (R : Ending → Mem → Prop) : Prop :=
 Tri Tryz.prog 169 #[.slice v0.p v0.n v0.c, (K.cast .f v1)] V fun e V1 => ∃ v2 : Int, e = .returned (.int .i64 v2) ∧
 R (.returned (.bool (decide ((0 : Int) ≤ v2)))) V1
theorem x124 {v0 : Sl} {v1 : Value} {V : Mem} {R : Ending → Mem → Prop} (h : w124 v0 v1 V R) : Tri Tryz.prog 124 #[.slice v0.p v0.n v0.c, (K.cast .f v1)] V R :=
 tri_dx (H := { N := 9, early := [], loops := [], keep := [0, 1, 4] }) Tryz.func124 [.var .sl 0, .var .f 1] [.slice v0.p v0.n v0.c, v1] rfl (by kernel_rfl) h
def w125 (v0 : ByteArray) (v1 : Int) (v2 : Int) (v3 : ByteArray) (v4 : Sl) (V : Mem) (R : Ending → Mem → Prop) : Prop :=
 Tri Tryz.prog 84 #[.string v0] V fun e V1 => ∃ v5 : Bool, e = .returned (.bool v5) ∧
 (v5 = true →
 Tri Tryz.prog 62 #[.agg #[.int .i64 v1, .int .i64 v2, .string v3, .slice v4.p v4.n v4.c]] V1 fun e V2 => ∃ v6 : Bool, e = .returned (.bool v6) ∧
 R (.returned (.bool (!v6))) V2) ∧ (¬ (v5 = true) →
 R (.returned (.bool true)) V1)
theorem x125 {v0 : ByteArray} {v1 : Int} {v2 : Int} {v3 : ByteArray} {v4 : Sl} {V : Mem} {R : Ending → Mem → Prop} (h : w125 v0 v1 v2 v3 v4 V R) : Tri Tryz.prog 125 #[.agg #[.string v0, .int .i64 v1, .int .i64 v2, .string v3, .slice v4.p v4.n v4.c]] V R :=
 tri_dx (H := { N := 13, early := [], loops := [], keep := [0, 1, 2] }) Tryz.func125 [.agg (.cons (.var .s 0) (.cons (.var (.i .i64) 1) (.cons (.var (.i .i64) 2) (.cons (.var .s 3) (.cons (.var .sl 4) .nil)))))] [.string v0, .int .i64 v1, .int .i64 v2, .string v3, .slice v4.p v4.n v4.c] rfl (by kernel_rfl) h
def w126 (v0 : Sl) (v1 : Value) (V : Mem) (R : Ending → Mem → Prop) : Prop :=
 ∃ (I : Nat → List Value → Mem → Prop) (n0 : Nat), I n0 [.int .i64 0, .int .i64 0] V ∧ ∀ n V1, ∀ v2 : Int, ∀ v3 : Int, I n [.int .i64 v2, .int .i64 v3] V1 → ∀ J0 : List Value → Mem → Prop, (∀ m ys V'', m < n → I m ys V'' → J0 ys V'') →
 (v3 < (v0.n : Int) →
 (¬ (v0.p = none)) ∧ ((0 : Int) ≤ v3) ∧ (v3 < (v0.n : Int)) ∧ ∃ v4 : ByteArray, ∃ v5 : Sl, V1.rowp v0.p ((v3).toNat * 2) 2 = some [.string v4, .slice v5.p v5.n v5.c] ∧
 ∃ f first caps, (K.cast .f v1) = .func (.func f) first caps ∧ (∀ args w, (callFunc f args).run Tryz.prog w = .ok (.enter f args) w) ∧
 Tri Tryz.prog f (first ++ #[.agg #[.string v4, .slice v5.p v5.n v5.c]] ++ caps) V1 fun e V2 => ∃ v6 : Bool, e = .returned (.bool v6) ∧
 (v6 = true →
 R (.returned (.int .i64 v3)) V2) ∧ (¬ (v6 = true) →
 (K.inR .i64 (v3 + (1 : Int))) ∧ J0 [.int .i64 v2, .int .i64 (v3 + (1 : Int))] V2)) ∧ (¬ (v3 < (v0.n : Int)) →
 R (.returned (.int .i64 (-1))) V1)
theorem x126 {v0 : Sl} {v1 : Value} {V : Mem} {R : Ending → Mem → Prop} (h : w126 v0 v1 V R) : Tri Tryz.prog 126 #[.slice v0.p v0.n v0.c, (K.cast .f v1)] V R :=
 tri_dx (H := { N := 19, early := [], loops := [], keep := [0, 1, 4, 5, 7, 8, 9, 16] }) Tryz.func126 [.var .sl 0, .var .f 1] [.slice v0.p v0.n v0.c, v1] rfl (by kernel_rfl) h
def w127 (v0 : Sl) (v1 : Value) (V : Mem) (R : Ending → Mem → Prop) : Prop :=
 ∃ (I : Nat → List Value → Mem → Prop) (n0 : Nat), I n0 [.int .i64 0, .int .i64 0] V ∧ ∀ n V1, ∀ v2 : Int, ∀ v3 : Int, I n [.int .i64 v2, .int .i64 v3] V1 → ∀ J0 : List Value → Mem → Prop, (∀ m ys V'', m < n → I m ys V'' → J0 ys V'') →
 (v3 < (v0.n : Int) →
 (¬ (v0.p = none)) ∧ ((0 : Int) ≤ v3) ∧ (v3 < (v0.n : Int)) ∧ ∃ v4 : ByteArray, ∃ v5 : Sl, ∃ v6 : ByteArray, ∃ v7 : Sl, ∃ v8 : Sl, V1.rowp v0.p ((v3).toNat * 5) 5 = some [.string v4, .slice v5.p v5.n v5.c, .string v6, .slice v7.p v7.n v7.c, .slice v8.p v8.n v8.c] ∧
 ∃ f first caps, (K.cast .f v1) = .func (.func f) first caps ∧ (∀ args w, (callFunc f args).run Tryz.prog w = .ok (.enter f args) w) ∧
 Tri Tryz.prog f (first ++ #[.agg #[.string v4, .slice v5.p v5.n v5.c, .string v6, .slice v7.p v7.n v7.c, .slice v8.p v8.n v8.c]] ++ caps) V1 fun e V2 => ∃ v9 : Bool, e = .returned (.bool v9) ∧
 (v9 = true →
 R (.returned (.int .i64 v3)) V2) ∧ (¬ (v9 = true) →
 (K.inR .i64 (v3 + (1 : Int))) ∧ J0 [.int .i64 v2, .int .i64 (v3 + (1 : Int))] V2)) ∧ (¬ (v3 < (v0.n : Int)) →
 R (.returned (.int .i64 (-1))) V1)
theorem x127 {v0 : Sl} {v1 : Value} {V : Mem} {R : Ending → Mem → Prop} (h : w127 v0 v1 V R) : Tri Tryz.prog 127 #[.slice v0.p v0.n v0.c, (K.cast .f v1)] V R :=
 tri_dx (H := { N := 19, early := [], loops := [], keep := [0, 1, 4, 5, 7, 8, 9, 16] }) Tryz.func127 [.var .sl 0, .var .f 1] [.slice v0.p v0.n v0.c, v1] rfl (by kernel_rfl) h
def w128 (v0 : Sl) (v1 : Int) (v2 : Option Addr) (V : Mem) (R : Ending → Mem → Prop) : Prop :=
 ((0 : Int) < (v0.n : Int) →
 ((60 : Int) < v1 →
 R (.returned (.bool false)) V) ∧ (¬ ((60 : Int) < v1) →
 ∃ (I : Nat → List Value → Mem → Prop) (n0 : Nat), I n0 [.bool false, .int .i64 0] V ∧ ∀ n V1, ∀ v3 : Bool, ∀ v4 : Int, I n [.bool v3, .int .i64 v4] V1 → ∀ J0 : List Value → Mem → Prop, (∀ m ys V'', m < n → I m ys V'' → J0 ys V'') →
 (v4 < (v0.n : Int) →
 (¬ (v0.p = none)) ∧ ((0 : Int) ≤ v4) ∧ (v4 < (v0.n : Int)) ∧ ∃ v5 : Int, ∃ v6 : ByteArray, ∃ v7 : Sl, ∃ v8 : Sl, ∃ v9 : Sl, V1.rowp v0.p ((v4).toNat * 5) 5 = some [.int .i64 v5, .string v6, .slice v7.p v7.n v7.c, .slice v8.p v8.n v8.c, .slice v9.p v9.n v9.c] ∧
 Tri Tryz.prog 154 #[.pointer v2] V1 fun e V2 => ∃ v10 : Bool, e = .returned (.bool v10) ∧
 (v10 = true →
 Tri Tryz.prog 170 #[.agg #[.int .i64 v5, .string v6, .slice v7.p v7.n v7.c, .slice v8.p v8.n v8.c, .slice v9.p v9.n v9.c]] V2 fun e V3 => ∃ v11 : Bool, e = .returned (.bool v11) ∧
 (v11 = true →
 Tri Tryz.prog 156 #[.slice v7.p v7.n v7.c, .func (.func 171) #[] #[]] V3 fun e V4 => ∃ v12 : Bool, e = .returned (.bool v12) ∧
 (v12 = true →
 R (.returned (.bool false)) V4) ∧ (¬ (v12 = true) →
 (K.inR .i64 (v1 + (1 : Int))) ∧ Tri Tryz.prog 128 #[.slice v8.p v8.n v8.c, .int .i64 (v1 + (1 : Int)), .pointer v2] V4 fun e V5 => ∃ v13 : Bool, e = .returned (.bool v13) ∧
 (v13 = true →
 (K.inR .i64 (v1 + (1 : Int))) ∧ Tri Tryz.prog 128 #[.slice v9.p v9.n v9.c, .int .i64 (v1 + (1 : Int)), .pointer v2] V5 fun e V6 => ∃ v14 : Bool, e = .returned (.bool v14) ∧
 (v14 = true →
 (K.inR .i64 (v4 + (1 : Int))) ∧ J0 [.bool v3, .int .i64 (v4 + (1 : Int))] V6) ∧ (¬ (v14 = true) →
 R (.returned (.bool false)) V6)) ∧ (¬ (v13 = true) →
 R (.returned (.bool false)) V5))) ∧ (¬ (v11 = true) →
 R (.returned (.bool false)) V3)) ∧ (¬ (v10 = true) →
 R (.returned (.bool false)) V2)) ∧ (¬ (v4 < (v0.n : Int)) →
 R (.returned (.bool true)) V1))) ∧ (¬ ((0 : Int) < (v0.n : Int)) →
 ∃ (I : Nat → List Value → Mem → Prop) (n0 : Nat), I n0 [.bool false, .int .i64 0] V ∧ ∀ n V1, ∀ v3 : Bool, ∀ v4 : Int, I n [.bool v3, .int .i64 v4] V1 → ∀ J0 : List Value → Mem → Prop, (∀ m ys V'', m < n → I m ys V'' → J0 ys V'') →
 (v4 < (v0.n : Int) →
 (¬ (v0.p = none)) ∧ ((0 : Int) ≤ v4) ∧ (v4 < (v0.n : Int)) ∧ ∃ v5 : Int, ∃ v6 : ByteArray, ∃ v7 : Sl, ∃ v8 : Sl, ∃ v9 : Sl, V1.rowp v0.p ((v4).toNat * 5) 5 = some [.int .i64 v5, .string v6, .slice v7.p v7.n v7.c, .slice v8.p v8.n v8.c, .slice v9.p v9.n v9.c] ∧
 Tri Tryz.prog 154 #[.pointer v2] V1 fun e V2 => ∃ v10 : Bool, e = .returned (.bool v10) ∧
 (v10 = true →
 Tri Tryz.prog 170 #[.agg #[.int .i64 v5, .string v6, .slice v7.p v7.n v7.c, .slice v8.p v8.n v8.c, .slice v9.p v9.n v9.c]] V2 fun e V3 => ∃ v11 : Bool, e = .returned (.bool v11) ∧
 (v11 = true →
 Tri Tryz.prog 156 #[.slice v7.p v7.n v7.c, .func (.func 171) #[] #[]] V3 fun e V4 => ∃ v12 : Bool, e = .returned (.bool v12) ∧
 (v12 = true →
 R (.returned (.bool false)) V4) ∧ (¬ (v12 = true) →
 (K.inR .i64 (v1 + (1 : Int))) ∧ Tri Tryz.prog 128 #[.slice v8.p v8.n v8.c, .int .i64 (v1 + (1 : Int)), .pointer v2] V4 fun e V5 => ∃ v13 : Bool, e = .returned (.bool v13) ∧
 (v13 = true →
 (K.inR .i64 (v1 + (1 : Int))) ∧ Tri Tryz.prog 128 #[.slice v9.p v9.n v9.c, .int .i64 (v1 + (1 : Int)), .pointer v2] V5 fun e V6 => ∃ v14 : Bool, e = .returned (.bool v14) ∧
 (v14 = true →
 (K.inR .i64 (v4 + (1 : Int))) ∧ J0 [.bool v3, .int .i64 (v4 + (1 : Int))] V6) ∧ (¬ (v14 = true) →
 R (.returned (.bool false)) V6)) ∧ (¬ (v13 = true) →
 R (.returned (.bool false)) V5))) ∧ (¬ (v11 = true) →
 R (.returned (.bool false)) V3)) ∧ (¬ (v10 = true) →
 R (.returned (.bool false)) V2)) ∧ (¬ (v4 < (v0.n : Int)) →
 R (.returned (.bool true)) V1))
theorem x128 {v0 : Sl} {v1 : Int} {v2 : Option Addr} {V : Mem} {R : Ending → Mem → Prop} (h : w128 v0 v1 v2 V R) : Tri Tryz.prog 128 #[.slice v0.p v0.n v0.c, .int .i64 v1, .pointer v2] V R :=
 tri_dx (H := { N := 54, early := [], loops := [], keep := [0, 1, 2, 6, 8, 15, 16, 17, 18, 19, 52] }) Tryz.func128 [.var .sl 0, .var (.i .i64) 1, .var .p 2] [.slice v0.p v0.n v0.c, .int .i64 v1, .pointer v2] rfl (by kernel_rfl) h
def w131 (v0 : Sl) (v1 : Int) (v2 : Value) (V : Mem) (R : Ending → Mem → Prop) : Prop :=
 (0 ≤ (0 : Int) ∧ (0 : Int) ≤ v1 ∧ v1 ≤ (v0.c : Int)) ∧ PubT [(K.cast .f v2)] 168 V fun v3 V1 =>
 PubT [.slice v0.p v0.n v0.c] 22 V1 fun v4 V2 =>
 PubT [.int .i64 v1] 3 V2 fun v5 V3 =>
 Tri Tryz.prog 87 #[.slice (if (v0.c : Int) = (0 : Int) then v0.p else ptrAdd v0.p (((0 : Int)).toNat * 2)) ((v1 - (0 : Int))).toNat (((v0.c : Int) - (0 : Int))).toNat, .func (.func 172) #[] #[.pointer (ptrAdd v3 0), .pointer (ptrAdd v4 0), .pointer (ptrAdd v5 0)]] V3 fun e V4 => ∃ v6 : Bool, e = .returned (.bool v6) ∧
 R (.returned (.bool v6)) V4
theorem x131 {v0 : Sl} {v1 : Int} {v2 : Value} {V : Mem} {R : Ending → Mem → Prop} (h : w131 v0 v1 v2 V R) : Tri Tryz.prog 131 #[.slice v0.p v0.n v0.c, .int .i64 v1, (K.cast .f v2)] V R :=
 tri_dx (H := { N := 12, early := [], loops := [], keep := [0, 1, 2, 3, 4, 5, 6] }) Tryz.func131 [.var .sl 0, .var (.i .i64) 1, .var .f 2] [.slice v0.p v0.n v0.c, .int .i64 v1, v2] rfl (by kernel_rfl) h
def w132 (v0 : ByteArray) (v1 : Sl) (V : Mem) (R : Ending → Mem → Prop) : Prop :=
 R (.returned (.string v0)) V
theorem x132 {v0 : ByteArray} {v1 : Sl} {V : Mem} {R : Ending → Mem → Prop} (h : w132 v0 v1 V R) : Tri Tryz.prog 132 #[.agg #[.string v0, .slice v1.p v1.n v1.c]] V R :=
 tri_dx (H := { N := 5, early := [], loops := [], keep := [0, 1, 2] }) Tryz.func132 [.agg (.cons (.var .s 0) (.cons (.var .sl 1) .nil))] [.string v0, .slice v1.p v1.n v1.c] rfl (by kernel_rfl) h
def w133 (v0 : Option Addr) (v1 : Sl) (V : Mem) (R : Ending → Mem → Prop) : Prop :=
 ∃ (I : Nat → List Value → Mem → Prop) (n0 : Nat), I n0 [.int .i64 0, .int .i64 0] V ∧ ∀ n V1, ∀ v2 : Int, ∀ v3 : Int, I n [.int .i64 v2, .int .i64 v3] V1 → ∀ J0 : List Value → Mem → Prop, (∀ m ys V'', m < n → I m ys V'' → J0 ys V'') →
 (v3 < (v1.n : Int) →
 (¬ (v1.p = none)) ∧ ((0 : Int) ≤ v3) ∧ (v3 < (v1.n : Int)) ∧ ∃ v4 : ByteArray, ∃ v5 : ByteArray, V1.rowp v1.p ((v3).toNat * 2) 2 = some [.string v4, .string v5] ∧
 (0 ≤ (0 : Int) ∧ (0 : Int) ≤ v3 ∧ v3 ≤ (v1.c : Int)) ∧ PubT [.string v4, .string v5] 67 V1 fun v6 V2 =>
 Tri Tryz.prog 26 #[.slice (if (v1.c : Int) = (0 : Int) then v1.p else ptrAdd v1.p (((0 : Int)).toNat * 2)) ((v3 - (0 : Int))).toNat (((v1.c : Int) - (0 : Int))).toNat, .func (.func 173) #[] #[.pointer (ptrAdd v6 0)]] V2 fun e V3 => ∃ v7 : Bool, e = .returned (.bool v7) ∧
 (v7 = true →
 R (.returned (.int .i64 10)) V3) ∧ (¬ (v7 = true) →
 (¬ ((ptrAdd v6 0) = none)) ∧ ∃ v8 : ByteArray, V3.rowp v6 (((1 : Int)).toNat * 1) 1 = some [.string v8] ∧
 Tri Tryz.prog 136 #[.pointer v0, .string v8] V3 fun e V4 => ∃ v9 : Bool, e = .returned (.bool v9) ∧
 (v9 = true →
 (K.inR .i64 (v3 + (1 : Int))) ∧ J0 [.int .i64 v2, .int .i64 (v3 + (1 : Int))] V4) ∧ (¬ (v9 = true) →
 R (.returned (.int .i64 9)) V4))) ∧ (¬ (v3 < (v1.n : Int)) →
 R (.returned (.int .i64 0)) V1)
theorem x133 {v0 : Option Addr} {v1 : Sl} {V : Mem} {R : Ending → Mem → Prop} (h : w133 v0 v1 V R) : Tri Tryz.prog 133 #[.pointer v0, .slice v1.p v1.n v1.c] V R :=
 tri_dx (H := { N := 25, early := [], loops := [], keep := [0, 1, 4, 5, 6, 7, 8, 9, 10, 18, 23] }) Tryz.func133 [.var .p 0, .var .sl 1] [.pointer v0, .slice v1.p v1.n v1.c] rfl (by kernel_rfl) h
def w134 (v0 : Sl) (v1 : Int) (v2 : Value) (V : Mem) (R : Ending → Mem → Prop) : Prop :=
 (0 ≤ (0 : Int) ∧ (0 : Int) ≤ v1 ∧ v1 ≤ (v0.c : Int)) ∧ PubT [(K.cast .f v2)] 171 V fun v3 V1 =>
 PubT [.slice v0.p v0.n v0.c] 23 V1 fun v4 V2 =>
 PubT [.int .i64 v1] 3 V2 fun v5 V3 =>
 Tri Tryz.prog 26 #[.slice (if (v0.c : Int) = (0 : Int) then v0.p else ptrAdd v0.p (((0 : Int)).toNat * 2)) ((v1 - (0 : Int))).toNat (((v0.c : Int) - (0 : Int))).toNat, .func (.func 174) #[] #[.pointer (ptrAdd v3 0), .pointer (ptrAdd v4 0), .pointer (ptrAdd v5 0)]] V3 fun e V4 => ∃ v6 : Bool, e = .returned (.bool v6) ∧
 R (.returned (.bool v6)) V4
theorem x134 {v0 : Sl} {v1 : Int} {v2 : Value} {V : Mem} {R : Ending → Mem → Prop} (h : w134 v0 v1 v2 V R) : Tri Tryz.prog 134 #[.slice v0.p v0.n v0.c, .int .i64 v1, (K.cast .f v2)] V R :=
 tri_dx (H := { N := 12, early := [], loops := [], keep := [0, 1, 2, 3, 4, 5, 6] }) Tryz.func134 [.var .sl 0, .var (.i .i64) 1, .var .f 2] [.slice v0.p v0.n v0.c, .int .i64 v1, v2] rfl (by kernel_rfl) h
def w135 (v0 : ByteArray) (v1 : ByteArray) (V : Mem) (R : Ending → Mem → Prop) : Prop :=
 R (.returned (.string v0)) V
theorem x135 {v0 : ByteArray} {v1 : ByteArray} {V : Mem} {R : Ending → Mem → Prop} (h : w135 v0 v1 V R) : Tri Tryz.prog 135 #[.agg #[.string v0, .string v1]] V R :=
 tri_dx (H := { N := 5, early := [], loops := [], keep := [0, 1, 2] }) Tryz.func135 [.agg (.cons (.var .s 0) (.cons (.var .s 1) .nil))] [.string v0, .string v1] rfl (by kernel_rfl) h
def w136 (v0 : Option Addr) (v1 : ByteArray) (V : Mem) (R : Ending → Mem → Prop) : Prop :=
 (v1 = (strB [105, 110, 116]) →
 R (.returned (.bool true)) V) ∧ (¬ (v1 = (strB [105, 110, 116])) →
 (v1 = (strB [98, 111, 111, 108]) →
 R (.returned (.bool true)) V) ∧ (¬ (v1 = (strB [98, 111, 111, 108])) →
 Tri Tryz.prog 77 #[.pointer v0, .string v1] V fun e V1 => ∃ v2 : Bool, e = .returned (.bool v2) ∧
 R (.returned (.bool v2)) V1))
theorem x136 {v0 : Option Addr} {v1 : ByteArray} {V : Mem} {R : Ending → Mem → Prop} (h : w136 v0 v1 V R) : Tri Tryz.prog 136 #[.pointer v0, .string v1] V R :=
 tri_dx (H := { N := 16, early := [], loops := [], keep := [0, 1, 4] }) Tryz.func136 [.var .p 0, .var .s 1] [.pointer v0, .string v1] rfl (by kernel_rfl) h
def w137 (v0 : Sl) (v1 : Int) (v2 : Value) (V : Mem) (R : Ending → Mem → Prop) : Prop :=
 (0 ≤ (0 : Int) ∧ (0 : Int) ≤ v1 ∧ v1 ≤ (v0.c : Int)) ∧ PubT [(K.cast .f v2)] 173 V fun v3 V1 =>
 PubT [.slice v0.p v0.n v0.c] 24 V1 fun v4 V2 =>
 PubT [.int .i64 v1] 3 V2 fun v5 V3 =>
 Tri Tryz.prog 89 #[.slice (if (v0.c : Int) = (0 : Int) then v0.p else ptrAdd v0.p (((0 : Int)).toNat * 5)) ((v1 - (0 : Int))).toNat (((v0.c : Int) - (0 : Int))).toNat, .func (.func 175) #[] #[.pointer (ptrAdd v3 0), .pointer (ptrAdd v4 0), .pointer (ptrAdd v5 0)]] V3 fun e V4 => ∃ v6 : Bool, e = .returned (.bool v6) ∧
 R (.returned (.bool v6)) V4
theorem x137 {v0 : Sl} {v1 : Int} {v2 : Value} {V : Mem} {R : Ending → Mem → Prop} (h : w137 v0 v1 v2 V R) : Tri Tryz.prog 137 #[.slice v0.p v0.n v0.c, .int .i64 v1, (K.cast .f v2)] V R :=
 tri_dx (H := { N := 12, early := [], loops := [], keep := [0, 1, 2, 3, 4, 5, 6] }) Tryz.func137 [.var .sl 0, .var (.i .i64) 1, .var .f 2] [.slice v0.p v0.n v0.c, .int .i64 v1, v2] rfl (by kernel_rfl) h
def w138 (v0 : ByteArray) (v1 : Sl) (v2 : ByteArray) (v3 : Sl) (v4 : Sl) (V : Mem) (R : Ending → Mem → Prop) : Prop :=
 R (.returned (.string v0)) V
theorem x138 {v0 : ByteArray} {v1 : Sl} {v2 : ByteArray} {v3 : Sl} {v4 : Sl} {V : Mem} {R : Ending → Mem → Prop} (h : w138 v0 v1 v2 v3 v4 V R) : Tri Tryz.prog 138 #[.agg #[.string v0, .slice v1.p v1.n v1.c, .string v2, .slice v3.p v3.n v3.c, .slice v4.p v4.n v4.c]] V R :=
 tri_dx (H := { N := 5, early := [], loops := [], keep := [0, 1, 2] }) Tryz.func138 [.agg (.cons (.var .s 0) (.cons (.var .sl 1) (.cons (.var .s 2) (.cons (.var .sl 3) (.cons (.var .sl 4) .nil)))))] [.string v0, .slice v1.p v1.n v1.c, .string v2, .slice v3.p v3.n v3.c, .slice v4.p v4.n v4.c] rfl (by kernel_rfl) h
def w139 (v0 : Sl) (V : Mem) (R : Ending → Mem → Prop) : Prop :=
 ∃ (I : Nat → List Value → Mem → Prop) (n0 : Nat), I n0 [.int .i64 0, .int .i64 0] V ∧ ∀ n V1, ∀ v1 : Int, ∀ v2 : Int, I n [.int .i64 v1, .int .i64 v2] V1 → ∀ J0 : List Value → Mem → Prop, (∀ m ys V'', m < n → I m ys V'' → J0 ys V'') →
 (v2 < (v0.n : Int) →
 (¬ (v0.p = none)) ∧ ((0 : Int) ≤ v2) ∧ (v2 < (v0.n : Int)) ∧ ∃ v3 : Sl, V1.rowp v0.p ((v2).toNat * 1) 1 = some [.slice v3.p v3.n v3.c] ∧
 (K.inR .i64 (v1 + (v3.n : Int))) ∧ ((v1 + (v3.n : Int)) < (0 : Int) →
 GenK Tryz.prog (.makeInterface 9 (.const (.string ⟨#[108, 101, 110, 32, 111, 117, 116, 32, 111, 102, 32, 114, 97, 110, 103, 101]⟩))) 20 (gval [] [.slice v0.p v0.n v0.c, .int .i64 v1, .int .i64 v2, .slice v3.p v3.n v3.c]) V1 fun x V2 => ∃ v4 : Value, K.r.ok v4 ∧ x = v4 ∧
 GenK Tryz.prog (.panic (.tmp 21)) 0 (gval [(21, (.var .r 4))] [.slice v0.p v0.n v0.c, .int .i64 v1, .int .i64 v2, .slice v3.p v3.n v3.c, v4]) V2 fun x V3 => x = (.tuple #[]) ∧
 (K.inR .i64 (v2 + (1 : Int))) ∧ J0 [.int .i64 (v1 + (v3.n : Int)), .int .i64 (v2 + (1 : Int))] V3) ∧ (¬ ((v1 + (v3.n : Int)) < (0 : Int)) →
 (K.inR .i64 (v2 + (1 : Int))) ∧ J0 [.int .i64 (v1 + (v3.n : Int)), .int .i64 (v2 + (1 : Int))] V1)) ∧ (¬ (v2 < (v0.n : Int)) →
 Tri Tryz.prog 176 #[.slice none 0 0, .int .i64 v1] V1 fun e V2 => ∃ v3 : Sl, e = .returned (.slice v3.p v3.n v3.c) ∧
 ∃ (I : Nat → List Value → Mem → Prop) (n0 : Nat), I n0 [.slice v3.p v3.n v3.c, .int .i64 0] V2 ∧ ∀ n V3, ∀ v4 : Sl, ∀ v5 : Int, I n [.slice v4.p v4.n v4.c, .int .i64 v5] V3 → ∀ J1 : List Value → Mem → Prop, (∀ m ys V'', m < n → I m ys V'' → J1 ys V'') →
 (v5 < (v0.n : Int) →
 (¬ (v0.p = none)) ∧ ((0 : Int) ≤ v5) ∧ (v5 < (v0.n : Int)) ∧ ∃ v6 : Sl, V3.rowp v0.p ((v5).toNat * 1) 1 = some [.slice v6.p v6.n v6.c] ∧
 GenK Tryz.prog (.call { callee := (.builtin .append), args := #[.tmp 31, .tmp 32], argTypes := #[23, 23] }) 23 (gval [(31, (.var .sl 4)), (32, (.var .sl 6))] [.slice v0.p v0.n v0.c, .int .i64 v1, .int .i64 v2, .slice v3.p v3.n v3.c, .slice v4.p v4.n v4.c, .int .i64 v5, .slice v6.p v6.n v6.c]) V3 fun x V4 => ∃ v7 : Sl, x = (.slice v7.p v7.n v7.c) ∧
 (K.inR .i64 (v5 + (1 : Int))) ∧ J1 [.slice v7.p v7.n v7.c, .int .i64 (v5 + (1 : Int))] V4) ∧ (¬ (v5 < (v0.n : Int)) →
 R (.returned (.slice v4.p v4.n v4.c)) V3))
theorem x139 {v0 : Sl} {V : Mem} {R : Ending → Mem → Prop} (h : w139 v0 V R) : Tri Tryz.prog 139 #[.slice v0.p v0.n v0.c] V R :=
 tri_dx (H := { N := 36, early := [], loops := [], keep := [0, 2, 3, 5, 6, 8, 9, 10, 11, 12, 20, 25, 26, 27, 28] }) Tryz.func139 [.var .sl 0] [.slice v0.p v0.n v0.c] rfl (by kernel_rfl) h
def w140 (v0 : Sl) (v1 : Int) (v2 : Value) (V : Mem) (R : Ending → Mem → Prop) : Prop :=
 (0 ≤ (0 : Int) ∧ (0 : Int) ≤ v1 ∧ v1 ≤ (v0.c : Int)) ∧ PubT [(K.cast .f v2)] 176 V fun v3 V1 =>
 PubT [.slice v0.p v0.n v0.c] 25 V1 fun v4 V2 =>
 PubT [.int .i64 v1] 3 V2 fun v5 V3 =>
 Tri Tryz.prog 177 #[.slice (if (v0.c : Int) = (0 : Int) then v0.p else ptrAdd v0.p (((0 : Int)).toNat * 7)) ((v1 - (0 : Int))).toNat (((v0.c : Int) - (0 : Int))).toNat, .func (.func 178) #[] #[.pointer (ptrAdd v3 0), .pointer (ptrAdd v4 0), .pointer (ptrAdd v5 0)]] V3 fun e V4 => ∃ v6 : Bool, e = .returned (.bool v6) ∧
 R (.returned (.bool v6)) V4
theorem x140 {v0 : Sl} {v1 : Int} {v2 : Value} {V : Mem} {R : Ending → Mem → Prop} (h : w140 v0 v1 v2 V R) : Tri Tryz.prog 140 #[.slice v0.p v0.n v0.c, .int .i64 v1, (K.cast .f v2)] V R :=
 tri_dx (H := { N := 12, early := [], loops := [], keep := [0, 1, 2, 3, 4, 5, 6] }) Tryz.func140 [.var .sl 0, .var (.i .i64) 1, .var .f 2] [.slice v0.p v0.n v0.c, .int .i64 v1, v2] rfl (by kernel_rfl) h
def w141 (v0 : ByteArray) (v1 : ByteArray) (v2 : Int) (v3 : Int) (v4 : Int) (v5 : ByteArray) (v6 : Sl) (V : Mem) (R : Ending → Mem → Prop) : Prop :=
 R (.returned (.string v0)) V
theorem x141 {v0 : ByteArray} {v1 : ByteArray} {v2 : Int} {v3 : Int} {v4 : Int} {v5 : ByteArray} {v6 : Sl} {V : Mem} {R : Ending → Mem → Prop} (h : w141 v0 v1 v2 v3 v4 v5 v6 V R) : Tri Tryz.prog 141 #[.agg #[.string v0, .string v1, .int .i64 v2, .int .i64 v3, .int .i64 v4, .string v5, .slice v6.p v6.n v6.c]] V R :=
 tri_dx (H := { N := 5, early := [], loops := [], keep := [0, 1, 2] }) Tryz.func141 [.agg (.cons (.var .s 0) (.cons (.var .s 1) (.cons (.var (.i .i64) 2) (.cons (.var (.i .i64) 3) (.cons (.var (.i .i64) 4) (.cons (.var .s 5) (.cons (.var .sl 6) .nil)))))))] [.string v0, .string v1, .int .i64 v2, .int .i64 v3, .int .i64 v4, .string v5, .slice v6.p v6.n v6.c] rfl (by kernel_rfl) h
def w142 (v0 : Sl) (v1 : Int) (v2 : Value) (V : Mem) (R : Ending → Mem → Prop) : Prop :=
 (0 ≤ (0 : Int) ∧ (0 : Int) ≤ v1 ∧ v1 ≤ (v0.c : Int)) ∧ PubT [(K.cast .f v2)] 178 V fun v3 V1 =>
 PubT [.slice v0.p v0.n v0.c] 26 V1 fun v4 V2 =>
 PubT [.int .i64 v1] 3 V2 fun v5 V3 =>
 Tri Tryz.prog 28 #[.slice (if (v0.c : Int) = (0 : Int) then v0.p else ptrAdd v0.p (((0 : Int)).toNat * 6)) ((v1 - (0 : Int))).toNat (((v0.c : Int) - (0 : Int))).toNat, .func (.func 179) #[] #[.pointer (ptrAdd v3 0), .pointer (ptrAdd v4 0), .pointer (ptrAdd v5 0)]] V3 fun e V4 => ∃ v6 : Bool, e = .returned (.bool v6) ∧
 R (.returned (.bool v6)) V4
theorem x142 {v0 : Sl} {v1 : Int} {v2 : Value} {V : Mem} {R : Ending → Mem → Prop} (h : w142 v0 v1 v2 V R) : Tri Tryz.prog 142 #[.slice v0.p v0.n v0.c, .int .i64 v1, (K.cast .f v2)] V R :=
 tri_dx (H := { N := 12, early := [], loops := [], keep := [0, 1, 2, 3, 4, 5, 6] }) Tryz.func142 [.var .sl 0, .var (.i .i64) 1, .var .f 2] [.slice v0.p v0.n v0.c, .int .i64 v1, v2] rfl (by kernel_rfl) h
def w143 (v0 : ByteArray) (v1 : ByteArray) (v2 : Int) (v3 : Int) (v4 : ByteArray) (v5 : Sl) (V : Mem) (R : Ending → Mem → Prop) : Prop :=
 R (.returned (.string v0)) V
theorem x143 {v0 : ByteArray} {v1 : ByteArray} {v2 : Int} {v3 : Int} {v4 : ByteArray} {v5 : Sl} {V : Mem} {R : Ending → Mem → Prop} (h : w143 v0 v1 v2 v3 v4 v5 V R) : Tri Tryz.prog 143 #[.agg #[.string v0, .string v1, .int .i64 v2, .int .i64 v3, .string v4, .slice v5.p v5.n v5.c]] V R :=
 tri_dx (H := { N := 5, early := [], loops := [], keep := [0, 1, 2] }) Tryz.func143 [.agg (.cons (.var .s 0) (.cons (.var .s 1) (.cons (.var (.i .i64) 2) (.cons (.var (.i .i64) 3) (.cons (.var .s 4) (.cons (.var .sl 5) .nil))))))] [.string v0, .string v1, .int .i64 v2, .int .i64 v3, .string v4, .slice v5.p v5.n v5.c] rfl (by kernel_rfl) h
def w144 (v0 : Sl) (v1 : Int) (v2 : Value) (V : Mem) (R : Ending → Mem → Prop) : Prop :=
 (0 ≤ (0 : Int) ∧ (0 : Int) ≤ v1 ∧ v1 ≤ (v0.c : Int)) ∧ PubT [(K.cast .f v2)] 180 V fun v3 V1 =>
 PubT [.slice v0.p v0.n v0.c] 28 V1 fun v4 V2 =>
 PubT [.int .i64 v1] 3 V2 fun v5 V3 =>
 Tri Tryz.prog 124 #[.slice (if (v0.c : Int) = (0 : Int) then v0.p else ptrAdd v0.p (((0 : Int)).toNat * 5)) ((v1 - (0 : Int))).toNat (((v0.c : Int) - (0 : Int))).toNat, .func (.func 180) #[] #[.pointer (ptrAdd v3 0), .pointer (ptrAdd v4 0), .pointer (ptrAdd v5 0)]] V3 fun e V4 => ∃ v6 : Bool, e = .returned (.bool v6) ∧
 R (.returned (.bool v6)) V4
theorem x144 {v0 : Sl} {v1 : Int} {v2 : Value} {V : Mem} {R : Ending → Mem → Prop} (h : w144 v0 v1 v2 V R) : Tri Tryz.prog 144 #[.slice v0.p v0.n v0.c, .int .i64 v1, (K.cast .f v2)] V R :=
 tri_dx (H := { N := 12, early := [], loops := [], keep := [0, 1, 2, 3, 4, 5, 6] }) Tryz.func144 [.var .sl 0, .var (.i .i64) 1, .var .f 2] [.slice v0.p v0.n v0.c, .int .i64 v1, v2] rfl (by kernel_rfl) h
def w145 (v0 : ByteArray) (v1 : Int) (v2 : Int) (v3 : ByteArray) (v4 : Sl) (V : Mem) (R : Ending → Mem → Prop) : Prop :=
 R (.returned (.string v0)) V
theorem x145 {v0 : ByteArray} {v1 : Int} {v2 : Int} {v3 : ByteArray} {v4 : Sl} {V : Mem} {R : Ending → Mem → Prop} (h : w145 v0 v1 v2 v3 v4 V R) : Tri Tryz.prog 145 #[.agg #[.string v0, .int .i64 v1, .int .i64 v2, .string v3, .slice v4.p v4.n v4.c]] V R :=
 tri_dx (H := { N := 5, early := [], loops := [], keep := [0, 1, 2] }) Tryz.func145 [.agg (.cons (.var .s 0) (.cons (.var (.i .i64) 1) (.cons (.var (.i .i64) 2) (.cons (.var .s 3) (.cons (.var .sl 4) .nil)))))] [.string v0, .int .i64 v1, .int .i64 v2, .string v3, .slice v4.p v4.n v4.c] rfl (by kernel_rfl) h
def w147 (v0 : Option Addr) (v1 : Option Nat) (v2 : Bool) (v3 : ByteArray) (v4 : Int) (v5 : Int) (v6 : ByteArray) (v7 : Sl) (v8 : ByteArray) (V : Mem) (R : Ending → Mem → Prop) : Prop :=
 Tri Tryz.prog 64 #[.agg #[.pointer v0, .map v1, .bool v2], .agg #[.int .i64 v4, .int .i64 v5, .string v6, .slice v7.p v7.n v7.c]] V fun e V1 => ∃ v9 : ByteArray, ∃ v10 : Int, e = .returned (.tuple #[.string v9, .int .i64 v10]) ∧
 (v10 = (0 : Int) →
 (v9 = v8 →
 R (.returned (.pointer none)) V1) ∧ (¬ (v9 = v8) →
 PubT [.string v3, .int .i64 (-1), .int .i64 11] 103 V1 fun v11 V2 =>
 R (.returned (.pointer (ptrAdd v11 0))) V2)) ∧ (¬ (v10 = (0 : Int)) →
 PubT [.string v3, .int .i64 (-1), .int .i64 v10] 103 V1 fun v11 V2 =>
 R (.returned (.pointer (ptrAdd v11 0))) V2)
theorem x147 {v0 : Option Addr} {v1 : Option Nat} {v2 : Bool} {v3 : ByteArray} {v4 : Int} {v5 : Int} {v6 : ByteArray} {v7 : Sl} {v8 : ByteArray} {V : Mem} {R : Ending → Mem → Prop} (h : w147 v0 v1 v2 v3 v4 v5 v6 v7 v8 V R) : Tri Tryz.prog 147 #[.agg #[.pointer v0, .map v1, .bool v2], .string v3, .agg #[.int .i64 v4, .int .i64 v5, .string v6, .slice v7.p v7.n v7.c], .string v8] V R :=
 tri_dx (H := { N := 31, early := [], loops := [], keep := [0, 1, 2, 3, 4, 6, 8, 9, 10, 17, 24] }) Tryz.func147 [.agg (.cons (.var .p 0) (.cons (.var .m 1) (.cons (.var .b 2) .nil))), .var .s 3, .agg (.cons (.var (.i .i64) 4) (.cons (.var (.i .i64) 5) (.cons (.var .s 6) (.cons (.var .sl 7) .nil)))), .var .s 8] [.pointer v0, .map v1, .bool v2, .string v3, .int .i64 v4, .int .i64 v5, .string v6, .slice v7.p v7.n v7.c, .string v8] rfl (by kernel_rfl) h
def w148 (v0 : Option Addr) (v1 : ByteArray) (v2 : Sl) (v3 : ByteArray) (v4 : Sl) (v5 : Sl) (V : Mem) (R : Ending → Mem → Prop) : Prop :=
 PubT [.slice v2.p v2.n v2.c] 23 V fun v6 V1 =>
 Tri Tryz.prog 113 #[.pointer v0, .bool false, .slice (ptrAdd v6 0) ((1 : Int)).toNat ((1 : Int)).toNat] V1 fun e V2 => ∃ v7 : Option Addr, ∃ v8 : Option Nat, ∃ v9 : Bool, e = .returned (.agg #[.pointer v7, .map v8, .bool v9]) ∧
 R (.returned (.agg #[.pointer v7, .map v8, .bool v9])) V2
theorem x148 {v0 : Option Addr} {v1 : ByteArray} {v2 : Sl} {v3 : ByteArray} {v4 : Sl} {v5 : Sl} {V : Mem} {R : Ending → Mem → Prop} (h : w148 v0 v1 v2 v3 v4 v5 V R) : Tri Tryz.prog 148 #[.pointer v0, .agg #[.string v1, .slice v2.p v2.n v2.c, .string v3, .slice v4.p v4.n v4.c, .slice v5.p v5.n v5.c]] V R :=
 tri_dx (H := { N := 10, early := [], loops := [], keep := [0, 1, 3, 4] }) Tryz.func148 [.var .p 0, .agg (.cons (.var .s 1) (.cons (.var .sl 2) (.cons (.var .s 3) (.cons (.var .sl 4) (.cons (.var .sl 5) .nil)))))] [.pointer v0, .string v1, .slice v2.p v2.n v2.c, .string v3, .slice v4.p v4.n v4.c, .slice v5.p v5.n v5.c] rfl (by kernel_rfl) h
def w149 (v0 : Int) (V : Mem) (R : Ending → Mem → Prop) : Prop :=
 ((48 : Int) ≤ v0 →
 R (.returned (.bool (decide (v0 ≤ (57 : Int))))) V) ∧ (¬ ((48 : Int) ≤ v0) →
 R (.returned (.bool false)) V)
theorem x149 {v0 : Int} {V : Mem} {R : Ending → Mem → Prop} (h : w149 v0 V R) : Tri Tryz.prog 149 #[.int .u8 v0] V R :=
 tri_dx (H := { N := 9, early := [], loops := [], keep := [0, 2] }) Tryz.func149 [.var (.i .u8) 0] [.int .u8 v0] rfl (by kernel_rfl) h
def w150 (v0 : Sl) (v1 : ByteArray) (V : Mem) (R : Ending → Mem → Prop) : Prop :=
 ∃ (I : Nat → List Value → Mem → Prop) (n0 : Nat), I n0 [.bool false, .int .i64 0] V ∧ ∀ n V1, ∀ v2 : Bool, ∀ v3 : Int, I n [.bool v2, .int .i64 v3] V1 → ∀ J0 : List Value → Mem → Prop, (∀ m ys V'', m < n → I m ys V'' → J0 ys V'') →
 (v3 < (v0.n : Int) →
 (¬ (v0.p = none)) ∧ ((0 : Int) ≤ v3) ∧ (v3 < (v0.n : Int)) ∧ ∃ v4 : ByteArray, V1.rowp v0.p ((v3).toNat * 1) 1 = some [.string v4] ∧
 (v4 = v1 →
 R (.returned (.bool true)) V1) ∧ (¬ (v4 = v1) →
 (K.inR .i64 (v3 + (1 : Int))) ∧ J0 [.bool v2, .int .i64 (v3 + (1 : Int))] V1)) ∧ (¬ (v3 < (v0.n : Int)) →
 R (.returned (.bool false)) V1)
theorem x150 {v0 : Sl} {v1 : ByteArray} {V : Mem} {R : Ending → Mem → Prop} (h : w150 v0 v1 V R) : Tri Tryz.prog 150 #[.slice v0.p v0.n v0.c, .string v1] V R :=
 tri_dx (H := { N := 18, early := [], loops := [], keep := [0, 1, 4, 5, 9, 17] }) Tryz.func150 [.var .sl 0, .var .s 1] [.slice v0.p v0.n v0.c, .string v1] rfl (by kernel_rfl) h
def w151 (V : Mem) (R : Ending → Mem → Prop) : Prop :=
 PubT [.string (strB [116, 121, 112, 101]), .string (strB [118, 97, 114]), .string (strB [112, 114, 111, 99]), .string (strB [108, 111, 99, 97, 108]), .string (strB [109, 101, 97, 115, 117, 114, 101]), .string (strB [105, 110, 118, 97, 114, 105, 97, 110, 116]), .string (strB [112, 111, 116, 101, 110, 116, 105, 97, 108]), .string (strB [98, 111, 117, 110, 100]), .string (strB [105, 102]), .string (strB [101, 108, 115, 101]), .string (strB [119, 104, 105, 108, 101]), .string (strB [114, 101, 116, 117, 114, 110]), .string (strB [110, 101, 119]), .string (strB [110, 105, 108]), .string (strB [116, 114, 117, 101]), .string (strB [102, 97, 108, 115, 101]), .string (strB [97, 110, 100]), .string (strB [111, 114]), .string (strB [110, 111, 116]), .string (strB [109, 97, 120]), .string (strB [109, 105, 110]), .string (strB [108, 111, 103]), .string (strB [105, 110, 116]), .string (strB [98, 111, 111, 108]), .string (strB [116, 104, 105, 115]), .string (strB [115, 111, 114, 116]), .string (strB [111, 112]), .string (strB [114, 117, 108, 101]), .string (strB [115, 112, 101, 99]), .string (strB [100, 101, 115, 99]), .string (strB [115, 99, 114, 105, 112, 116])] 9 V fun v0 V1 =>
 R (.returned (.slice (ptrAdd v0 0) ((31 : Int)).toNat ((31 : Int)).toNat)) V1
theorem x151 {V : Mem} {R : Ending → Mem → Prop} (h : w151 V R) : Tri Tryz.prog 151 #[] V R :=
 tri_dx (H := { N := 2, early := [], loops := [], keep := [0] }) Tryz.func151 [] [] rfl (by kernel_rfl) h
def w152 (v0 : Int) (v1 : ByteArray) (v2 : Sl) (v3 : Sl) (v4 : Sl) (V : Mem) (R : Ending → Mem → Prop) : Prop :=
 ((v3.n : Int) = (0 : Int) →
 (v0 = (1 : Int) →
 Tri Tryz.prog 52 #[.string v1] V fun e V1 => ∃ v5 : Bool, e = .returned (.bool v5) ∧
 (v5 = true →
 Tri Tryz.prog 182 #[.agg #[.int .i64 v0, .string v1, .slice v2.p v2.n v2.c, .slice v3.p v3.n v3.c, .slice v4.p v4.n v4.c], .int .i64 1, .int .i64 1] V1 fun e V2 => ∃ v6 : Bool, e = .returned (.bool v6) ∧
 (v6 = true →
 R (.returned (.bool (decide ((v4.n : Int) = (0 : Int))))) V2) ∧ (¬ (v6 = true) →
 R (.returned (.bool false)) V2)) ∧ (¬ (v5 = true) →
 R (.returned (.bool false)) V1)) ∧ (¬ (v0 = (1 : Int)) →
 (v0 = (2 : Int) →
 Tri Tryz.prog 52 #[.string v1] V fun e V1 => ∃ v5 : Bool, e = .returned (.bool v5) ∧
 (v5 = true →
 Tri Tryz.prog 182 #[.agg #[.int .i64 v0, .string v1, .slice v2.p v2.n v2.c, .slice v3.p v3.n v3.c, .slice v4.p v4.n v4.c], .int .i64 2, .int .i64 2] V1 fun e V2 => ∃ v6 : Bool, e = .returned (.bool v6) ∧
 (v6 = true →
 R (.returned (.bool (decide ((v4.n : Int) = (0 : Int))))) V2) ∧ (¬ (v6 = true) →
 R (.returned (.bool false)) V2)) ∧ (¬ (v5 = true) →
 R (.returned (.bool false)) V1)) ∧ (¬ (v0 = (2 : Int)) →
 (v0 = (3 : Int) →
 (v1 = (strB []) →
 Tri Tryz.prog 182 #[.agg #[.int .i64 v0, .string v1, .slice v2.p v2.n v2.c, .slice v3.p v3.n v3.c, .slice v4.p v4.n v4.c], .int .i64 1, .int .i64 1] V fun e V1 => ∃ v5 : Bool, e = .returned (.bool v5) ∧
 R (.returned (.bool v5)) V1) ∧ (¬ (v1 = (strB [])) →
 R (.returned (.bool false)) V)) ∧ (¬ (v0 = (3 : Int)) →
 (v0 = (4 : Int) →
 (v1 = (strB []) →
 Tri Tryz.prog 182 #[.agg #[.int .i64 v0, .string v1, .slice v2.p v2.n v2.c, .slice v3.p v3.n v3.c, .slice v4.p v4.n v4.c], .int .i64 1, .int .i64 1] V fun e V1 => ∃ v5 : Bool, e = .returned (.bool v5) ∧
 (v5 = true →
 R (.returned (.bool (decide ((v4.n : Int) = (0 : Int))))) V1) ∧ (¬ (v5 = true) →
 R (.returned (.bool false)) V1)) ∧ (¬ (v1 = (strB [])) →
 R (.returned (.bool false)) V)) ∧ (¬ (v0 = (4 : Int)) →
 (v0 = (5 : Int) →
 (v1 = (strB []) →
 Tri Tryz.prog 182 #[.agg #[.int .i64 v0, .string v1, .slice v2.p v2.n v2.c, .slice v3.p v3.n v3.c, .slice v4.p v4.n v4.c], .int .i64 0, .int .i64 1] V fun e V1 => ∃ v5 : Bool, e = .returned (.bool v5) ∧
 (v5 = true →
 R (.returned (.bool (decide ((v4.n : Int) = (0 : Int))))) V1) ∧ (¬ (v5 = true) →
 R (.returned (.bool false)) V1)) ∧ (¬ (v1 = (strB [])) →
 R (.returned (.bool false)) V)) ∧ (¬ (v0 = (5 : Int)) →
 (v0 = (6 : Int) →
 (v1 = (strB []) →
 Tri Tryz.prog 182 #[.agg #[.int .i64 v0, .string v1, .slice v2.p v2.n v2.c, .slice v3.p v3.n v3.c, .slice v4.p v4.n v4.c], .int .i64 1, .int .i64 1] V fun e V1 => ∃ v5 : Bool, e = .returned (.bool v5) ∧
 (v5 = true →
 (¬ (v2.p = none)) ∧ ((0 : Int) ≤ (0 : Int)) ∧ ((0 : Int) < (v2.n : Int)) ∧ (¬ ((ptrAdd v2.p (((0 : Int)).toNat * 4)) = none)) ∧ ∃ v6 : Int, ∃ v7 : Int, ∃ v8 : ByteArray, ∃ v9 : Sl, V1.rowp v2.p (((0 : Int)).toNat * 4) 4 = some [.int .i64 v6, .int .i64 v7, .string v8, .slice v9.p v9.n v9.c] ∧
 (v6 = (7 : Int) →
 R (.returned (.bool (decide ((v4.n : Int) = (0 : Int))))) V1) ∧ (¬ (v6 = (7 : Int)) →
 R (.returned (.bool false)) V1)) ∧ (¬ (v5 = true) →
 R (.returned (.bool false)) V1)) ∧ (¬ (v1 = (strB [])) →
 R (.returned (.bool false)) V)) ∧ (¬ (v0 = (6 : Int)) →
 R (.returned (.bool false)) V))))))) ∧ (¬ ((v3.n : Int) = (0 : Int)) →
 (v0 = (1 : Int) →
 Tri Tryz.prog 52 #[.string v1] V fun e V1 => ∃ v5 : Bool, e = .returned (.bool v5) ∧
 (v5 = true →
 Tri Tryz.prog 182 #[.agg #[.int .i64 v0, .string v1, .slice v2.p v2.n v2.c, .slice v3.p v3.n v3.c, .slice v4.p v4.n v4.c], .int .i64 1, .int .i64 1] V1 fun e V2 => ∃ v6 : Bool, e = .returned (.bool v6) ∧
 (v6 = true →
 R (.returned (.bool false)) V2) ∧ (¬ (v6 = true) →
 R (.returned (.bool false)) V2)) ∧ (¬ (v5 = true) →
 R (.returned (.bool false)) V1)) ∧ (¬ (v0 = (1 : Int)) →
 (v0 = (2 : Int) →
 Tri Tryz.prog 52 #[.string v1] V fun e V1 => ∃ v5 : Bool, e = .returned (.bool v5) ∧
 (v5 = true →
 Tri Tryz.prog 182 #[.agg #[.int .i64 v0, .string v1, .slice v2.p v2.n v2.c, .slice v3.p v3.n v3.c, .slice v4.p v4.n v4.c], .int .i64 2, .int .i64 2] V1 fun e V2 => ∃ v6 : Bool, e = .returned (.bool v6) ∧
 (v6 = true →
 R (.returned (.bool false)) V2) ∧ (¬ (v6 = true) →
 R (.returned (.bool false)) V2)) ∧ (¬ (v5 = true) →
 R (.returned (.bool false)) V1)) ∧ (¬ (v0 = (2 : Int)) →
 (v0 = (3 : Int) →
 (v1 = (strB []) →
 Tri Tryz.prog 182 #[.agg #[.int .i64 v0, .string v1, .slice v2.p v2.n v2.c, .slice v3.p v3.n v3.c, .slice v4.p v4.n v4.c], .int .i64 1, .int .i64 1] V fun e V1 => ∃ v5 : Bool, e = .returned (.bool v5) ∧
 R (.returned (.bool v5)) V1) ∧ (¬ (v1 = (strB [])) →
 R (.returned (.bool false)) V)) ∧ (¬ (v0 = (3 : Int)) →
 (v0 = (4 : Int) →
 (v1 = (strB []) →
 Tri Tryz.prog 182 #[.agg #[.int .i64 v0, .string v1, .slice v2.p v2.n v2.c, .slice v3.p v3.n v3.c, .slice v4.p v4.n v4.c], .int .i64 1, .int .i64 1] V fun e V1 => ∃ v5 : Bool, e = .returned (.bool v5) ∧
 (v5 = true →
 R (.returned (.bool (decide ((v4.n : Int) = (0 : Int))))) V1) ∧ (¬ (v5 = true) →
 R (.returned (.bool false)) V1)) ∧ (¬ (v1 = (strB [])) →
 R (.returned (.bool false)) V)) ∧ (¬ (v0 = (4 : Int)) →
 (v0 = (5 : Int) →
 (v1 = (strB []) →
 Tri Tryz.prog 182 #[.agg #[.int .i64 v0, .string v1, .slice v2.p v2.n v2.c, .slice v3.p v3.n v3.c, .slice v4.p v4.n v4.c], .int .i64 0, .int .i64 1] V fun e V1 => ∃ v5 : Bool, e = .returned (.bool v5) ∧
 (v5 = true →
 R (.returned (.bool false)) V1) ∧ (¬ (v5 = true) →
 R (.returned (.bool false)) V1)) ∧ (¬ (v1 = (strB [])) →
 R (.returned (.bool false)) V)) ∧ (¬ (v0 = (5 : Int)) →
 (v0 = (6 : Int) →
 (v1 = (strB []) →
 Tri Tryz.prog 182 #[.agg #[.int .i64 v0, .string v1, .slice v2.p v2.n v2.c, .slice v3.p v3.n v3.c, .slice v4.p v4.n v4.c], .int .i64 1, .int .i64 1] V fun e V1 => ∃ v5 : Bool, e = .returned (.bool v5) ∧
 (v5 = true →
 (¬ (v2.p = none)) ∧ ((0 : Int) ≤ (0 : Int)) ∧ ((0 : Int) < (v2.n : Int)) ∧ (¬ ((ptrAdd v2.p (((0 : Int)).toNat * 4)) = none)) ∧ ∃ v6 : Int, ∃ v7 : Int, ∃ v8 : ByteArray, ∃ v9 : Sl, V1.rowp v2.p (((0 : Int)).toNat * 4) 4 = some [.int .i64 v6, .int .i64 v7, .string v8, .slice v9.p v9.n v9.c] ∧
 (v6 = (7 : Int) →
 R (.returned (.bool false)) V1) ∧ (¬ (v6 = (7 : Int)) →
 R (.returned (.bool false)) V1)) ∧ (¬ (v5 = true) →
 R (.returned (.bool false)) V1)) ∧ (¬ (v1 = (strB [])) →
 R (.returned (.bool false)) V)) ∧ (¬ (v0 = (6 : Int)) →
 R (.returned (.bool false)) V)))))))
theorem x152 {v0 : Int} {v1 : ByteArray} {v2 : Sl} {v3 : Sl} {v4 : Sl} {V : Mem} {R : Ending → Mem → Prop} (h : w152 v0 v1 v2 v3 v4 V R) : Tri Tryz.prog 152 #[.agg #[.int .i64 v0, .string v1, .slice v2.p v2.n v2.c, .slice v3.p v3.n v3.c, .slice v4.p v4.n v4.c]] V R :=
 tri_dx (H := { N := 96, early := [], loops := [], keep := [0, 1, 2, 3, 15, 16, 28, 40, 49, 64, 76] }) Tryz.func152 [.agg (.cons (.var (.i .i64) 0) (.cons (.var .s 1) (.cons (.var .sl 2) (.cons (.var .sl 3) (.cons (.var .sl 4) .nil)))))] [.int .i64 v0, .string v1, .slice v2.p v2.n v2.c, .slice v3.p v3.n v3.c, .slice v4.p v4.n v4.c] rfl (by kernel_rfl) h
def w153 (v0 : Int) (V : Mem) (R : Ending → Mem → Prop) : Prop :=
 (v0 = (1 : Int) →
 R (.returned (.tuple #[.int .i64 0, .bool true])) V) ∧ (¬ (v0 = (1 : Int)) →
 (v0 = (2 : Int) →
 R (.returned (.tuple #[.int .i64 0, .bool true])) V) ∧ (¬ (v0 = (2 : Int)) →
 (v0 = (3 : Int) →
 R (.returned (.tuple #[.int .i64 0, .bool true])) V) ∧ (¬ (v0 = (3 : Int)) →
 (v0 = (4 : Int) →
 R (.returned (.tuple #[.int .i64 0, .bool true])) V) ∧ (¬ (v0 = (4 : Int)) →
 (v0 = (6 : Int) →
 R (.returned (.tuple #[.int .i64 0, .bool true])) V) ∧ (¬ (v0 = (6 : Int)) →
 (v0 = (7 : Int) →
 R (.returned (.tuple #[.int .i64 (-1), .bool true])) V) ∧ (¬ (v0 = (7 : Int)) →
 (v0 = (5 : Int) →
 R (.returned (.tuple #[.int .i64 1, .bool true])) V) ∧ (¬ (v0 = (5 : Int)) →
 (v0 = (8 : Int) →
 R (.returned (.tuple #[.int .i64 1, .bool true])) V) ∧ (¬ (v0 = (8 : Int)) →
 (v0 = (18 : Int) →
 R (.returned (.tuple #[.int .i64 1, .bool true])) V) ∧ (¬ (v0 = (18 : Int)) →
 (v0 = (24 : Int) →
 R (.returned (.tuple #[.int .i64 1, .bool true])) V) ∧ (¬ (v0 = (24 : Int)) →
 (v0 = (21 : Int) →
 R (.returned (.tuple #[.int .i64 3, .bool true])) V) ∧ (¬ (v0 = (21 : Int)) →
 ((9 : Int) ≤ v0 →
 R (.returned (.tuple #[.int .i64 2, .bool (decide (v0 ≤ (23 : Int)))])) V) ∧ (¬ ((9 : Int) ≤ v0) →
 R (.returned (.tuple #[.int .i64 2, .bool false])) V))))))))))))
theorem x153 {v0 : Int} {V : Mem} {R : Ending → Mem → Prop} (h : w153 v0 V R) : Tri Tryz.prog 153 #[.int .i64 v0] V R :=
 tri_dx (H := { N := 26, early := [], loops := [], keep := [0, 2, 3, 4, 5, 11, 13, 18] }) Tryz.func153 [.var (.i .i64) 0] [.int .i64 v0] rfl (by kernel_rfl) h
def w154 (v0 : Option Addr) (V : Mem) (R : Ending → Mem → Prop) : Prop :=
 (¬ (v0 = none)) ∧ (¬ (v0 = none)) ∧ ∃ v1 : Int, V.rowp v0 (((0 : Int)).toNat * 1) 1 = some [.int .i64 v1] ∧
 (K.inR .i64 (v1 - (1 : Int))) ∧ (¬ (v0 = none)) ∧ (¬ (v0 = none)) ∧ StT (ptrAdd v0 0) 0 [.int .i64 (v1 - (1 : Int))] V fun V1 =>
 (¬ (v0 = none)) ∧ (¬ (v0 = none)) ∧ ∃ v2 : Int, V1.rowp v0 (((0 : Int)).toNat * 1) 1 = some [.int .i64 v2] ∧
 R (.returned (.bool (decide ((0 : Int) ≤ v2)))) V1
theorem x154 {v0 : Option Addr} {V : Mem} {R : Ending → Mem → Prop} (h : w154 v0 V R) : Tri Tryz.prog 154 #[.pointer v0] V R :=
 tri_dx (H := { N := 15, early := [], loops := [], keep := [0, 2] }) Tryz.func154 [.var .p 0] [.pointer v0] rfl (by kernel_rfl) h
def w155 (v0 : Int) (v1 : Int) (v2 : ByteArray) (v3 : Sl) (V : Mem) (R : Ending → Mem → Prop) : Prop :=
 (v0 = (1 : Int) →
 ((0 : Int) ≤ v1 →
 (v1 ≤ (1099511627776 : Int) →
 R (.returned (.bool (decide (v2 = (strB []))))) V) ∧ (¬ (v1 ≤ (1099511627776 : Int)) →
 R (.returned (.bool false)) V)) ∧ (¬ ((0 : Int) ≤ v1) →
 R (.returned (.bool false)) V)) ∧ (¬ (v0 = (1 : Int)) →
 (v0 = (2 : Int) →
 (v1 = (0 : Int) →
 R (.returned (.bool (decide (v2 = (strB []))))) V) ∧ (¬ (v1 = (0 : Int)) →
 (v1 = (1 : Int) →
 R (.returned (.bool (decide (v2 = (strB []))))) V) ∧ (¬ (v1 = (1 : Int)) →
 R (.returned (.bool false)) V))) ∧ (¬ (v0 = (2 : Int)) →
 (v0 = (4 : Int) →
 (v1 = (0 : Int) →
 Tri Tryz.prog 84 #[.string v2] V fun e V1 => ∃ v4 : Bool, e = .returned (.bool v4) ∧
 (v4 = true →
 R (.returned (.bool true)) V1) ∧ (¬ (v4 = true) →
 R (.returned (.bool (decide (v2 = (strB [116, 104, 105, 115]))))) V1)) ∧ (¬ (v1 = (0 : Int)) →
 R (.returned (.bool false)) V)) ∧ (¬ (v0 = (4 : Int)) →
 (v0 = (6 : Int) →
 (v1 = (0 : Int) →
 Tri Tryz.prog 84 #[.string v2] V fun e V1 => ∃ v4 : Bool, e = .returned (.bool v4) ∧
 R (.returned (.bool v4)) V1) ∧ (¬ (v1 = (0 : Int)) →
 R (.returned (.bool false)) V)) ∧ (¬ (v0 = (6 : Int)) →
 (v0 = (5 : Int) →
 (v1 = (0 : Int) →
 Tri Tryz.prog 84 #[.string v2] V fun e V1 => ∃ v4 : Bool, e = .returned (.bool v4) ∧
 R (.returned (.bool v4)) V1) ∧ (¬ (v1 = (0 : Int)) →
 R (.returned (.bool false)) V)) ∧ (¬ (v0 = (5 : Int)) →
 (v0 = (7 : Int) →
 (v1 = (0 : Int) →
 Tri Tryz.prog 84 #[.string v2] V fun e V1 => ∃ v4 : Bool, e = .returned (.bool v4) ∧
 R (.returned (.bool v4)) V1) ∧ (¬ (v1 = (0 : Int)) →
 R (.returned (.bool false)) V)) ∧ (¬ (v0 = (7 : Int)) →
 (v1 = (0 : Int) →
 R (.returned (.bool (decide (v2 = (strB []))))) V) ∧ (¬ (v1 = (0 : Int)) →
 R (.returned (.bool false)) V)))))))
theorem x155 {v0 : Int} {v1 : Int} {v2 : ByteArray} {v3 : Sl} {V : Mem} {R : Ending → Mem → Prop} (h : w155 v0 v1 v2 v3 V R) : Tri Tryz.prog 155 #[.agg #[.int .i64 v0, .int .i64 v1, .string v2, .slice v3.p v3.n v3.c]] V R :=
 tri_dx (H := { N := 70, early := [], loops := [], keep := [0, 1, 2, 4, 5, 20, 35, 50] }) Tryz.func155 [.agg (.cons (.var (.i .i64) 0) (.cons (.var (.i .i64) 1) (.cons (.var .s 2) (.cons (.var .sl 3) .nil))))] [.int .i64 v0, .int .i64 v1, .string v2, .slice v3.p v3.n v3.c] rfl (by kernel_rfl) h
def w156 (v0 : Sl) (v1 : Value) (V : Mem) (R : Ending → Mem → Prop) : Prop :=
 Tri Tryz.prog 183 #[.slice v0.p v0.n v0.c, (K.cast .f v1)] V fun e V1 => ∃ v2 : Int, e = .returned (.int .i64 v2) ∧
 R (.returned (.bool (decide ((0 : Int) ≤ v2)))) V1
theorem x156 {v0 : Sl} {v1 : Value} {V : Mem} {R : Ending → Mem → Prop} (h : w156 v0 v1 V R) : Tri Tryz.prog 156 #[.slice v0.p v0.n v0.c, (K.cast .f v1)] V R :=
 tri_dx (H := { N := 9, early := [], loops := [], keep := [0, 1, 4] }) Tryz.func156 [.var .sl 0, .var .f 1] [.slice v0.p v0.n v0.c, v1] rfl (by kernel_rfl) h
def w157 (v0 : Int) (v1 : Int) (v2 : ByteArray) (v3 : Sl) (v4 : Option Addr) (v5 : Option Addr) (V : Mem) (R : Ending → Mem → Prop) : Prop :=
 ∃ v6 : Int, V.rowp v4 (((0 : Int)).toNat * 1) 1 = some [.int .i64 v6] ∧
 (K.inR .i64 (v6 + (1 : Int))) ∧ ∃ v7 : Option Addr, V.rowp v5 (((0 : Int)).toNat * 1) 1 = some [.pointer v7] ∧
 Tri Tryz.prog 112 #[.agg #[.int .i64 v0, .int .i64 v1, .string v2, .slice v3.p v3.n v3.c], .int .i64 (v6 + (1 : Int)), .pointer v7] V fun e V1 => ∃ v8 : Bool, e = .returned (.bool v8) ∧
 R (.returned (.bool (!v8))) V1
theorem x157 {v0 : Int} {v1 : Int} {v2 : ByteArray} {v3 : Sl} {v4 : Option Addr} {v5 : Option Addr} {V : Mem} {R : Ending → Mem → Prop} (h : w157 v0 v1 v2 v3 v4 v5 V R) : Tri Tryz.prog 157 #[.agg #[.int .i64 v0, .int .i64 v1, .string v2, .slice v3.p v3.n v3.c], .pointer v4, .pointer v5] V R :=
 tri_dx (H := { N := 11, early := [], loops := [], keep := [0, 1, 2, 3, 4] }) Tryz.func157 [.agg (.cons (.var (.i .i64) 0) (.cons (.var (.i .i64) 1) (.cons (.var .s 2) (.cons (.var .sl 3) .nil)))), .var .p 4, .var .p 5] [.int .i64 v0, .int .i64 v1, .string v2, .slice v3.p v3.n v3.c, .pointer v4, .pointer v5] rfl (by kernel_rfl) h
def w158 (v0 : Sl) (V : Mem) (R : Ending → Mem → Prop) : Prop :=
 PubT [.slice v0.p v0.n v0.c] 23 V fun v1 V1 =>
 R (.returned (.func (.func 184) #[] #[.pointer (ptrAdd v1 0)])) V1
theorem x158 {v0 : Sl} {V : Mem} {R : Ending → Mem → Prop} (h : w158 v0 V R) : Tri Tryz.prog 158 #[.slice v0.p v0.n v0.c] V R :=
 tri_dx (H := { N := 4, early := [], loops := [], keep := [0, 1, 2] }) Tryz.func158 [.var .sl 0] [.slice v0.p v0.n v0.c] rfl (by kernel_rfl) h
def w159 (v0 : Option Addr) (v1 : Option Nat) (v2 : Bool) (v3 : ByteArray) (v4 : Sl) (V : Mem) (R : Ending → Mem → Prop) : Prop :=
 (¬ (v0 = none)) ∧ (¬ (v0 = none)) ∧ (¬ ((ptrAdd v0 0) = none)) ∧ ∃ v5 : Sl, V.rowp v0 (((4 : Int)).toNat * 1) 1 = some [.slice v5.p v5.n v5.c] ∧
 PubT [.string v3] 9 V fun v6 V1 =>
 Tri Tryz.prog 185 #[.slice v5.p v5.n v5.c, .func (.func 186) #[] #[.pointer (ptrAdd v6 0)]] V1 fun e V2 => ∃ v7 : Int, e = .returned (.int .i64 v7) ∧
 (v7 < (0 : Int) →
 R (.returned (.tuple #[.string (strB []), .int .i64 9])) V2) ∧ (¬ (v7 < (0 : Int)) →
 ((v4.n : Int) = (1 : Int) →
 (¬ (v4.p = none)) ∧ ((0 : Int) ≤ (0 : Int)) ∧ ((0 : Int) < (v4.n : Int)) ∧ ∃ v8 : ByteArray, V2.rowp v4.p (((0 : Int)).toNat * 1) 1 = some [.string v8] ∧
 (¬ (v0 = none)) ∧ (¬ (v0 = none)) ∧ (¬ ((ptrAdd v0 0) = none)) ∧ ∃ v9 : Sl, V2.rowp v0 (((4 : Int)).toNat * 1) 1 = some [.slice v9.p v9.n v9.c] ∧
 (¬ (v9.p = none)) ∧ ((0 : Int) ≤ v7) ∧ (v7 < (v9.n : Int)) ∧ (¬ ((ptrAdd v9.p ((v7).toNat * 7)) = none)) ∧ ∃ v10 : ByteArray, ∃ v11 : ByteArray, ∃ v12 : Int, ∃ v13 : Int, ∃ v14 : Int, ∃ v15 : ByteArray, ∃ v16 : Sl, V2.rowp v9.p ((v7).toNat * 7) 7 = some [.string v10, .string v11, .int .i64 v12, .int .i64 v13, .int .i64 v14, .string v15, .slice v16.p v16.n v16.c] ∧
 Tri Tryz.prog 160 #[.pointer v0, .string v8, .string v11] V2 fun e V3 => ∃ v17 : Bool, e = .returned (.bool v17) ∧
 (v17 = true →
 R (.returned (.tuple #[.string (strB [105, 110, 116]), .int .i64 0])) V3) ∧ (¬ (v17 = true) →
 R (.returned (.tuple #[.string (strB []), .int .i64 11])) V3)) ∧ (¬ ((v4.n : Int) = (1 : Int)) →
 R (.returned (.tuple #[.string (strB []), .int .i64 3])) V2))
theorem x159 {v0 : Option Addr} {v1 : Option Nat} {v2 : Bool} {v3 : ByteArray} {v4 : Sl} {V : Mem} {R : Ending → Mem → Prop} (h : w159 v0 v1 v2 v3 v4 V R) : Tri Tryz.prog 159 #[.agg #[.pointer v0, .map v1, .bool v2], .string v3, .slice v4.p v4.n v4.c] V R :=
 tri_dx (H := { N := 42, early := [], loops := [], keep := [0, 1, 2, 3, 4, 6, 7, 8, 17, 20, 24] }) Tryz.func159 [.agg (.cons (.var .p 0) (.cons (.var .m 1) (.cons (.var .b 2) .nil))), .var .s 3, .var .sl 4] [.pointer v0, .map v1, .bool v2, .string v3, .slice v4.p v4.n v4.c] rfl (by kernel_rfl) h
def w160 (v0 : Option Addr) (v1 : ByteArray) (v2 : ByteArray) (V : Mem) (R : Ending → Mem → Prop) : Prop :=
 (v1 = v2 →
 R (.returned (.bool true)) V) ∧ (¬ (v1 = v2) →
 (v1 = (strB [110, 105, 108]) →
 Tri Tryz.prog 77 #[.pointer v0, .string v2] V fun e V1 => ∃ v3 : Bool, e = .returned (.bool v3) ∧
 R (.returned (.bool v3)) V1) ∧ (¬ (v1 = (strB [110, 105, 108])) →
 R (.returned (.bool false)) V))
theorem x160 {v0 : Option Addr} {v1 : ByteArray} {v2 : ByteArray} {V : Mem} {R : Ending → Mem → Prop} (h : w160 v0 v1 v2 V R) : Tri Tryz.prog 160 #[.pointer v0, .string v1, .string v2] V R :=
 tri_dx (H := { N := 19, early := [], loops := [], keep := [0, 1, 2, 6] }) Tryz.func160 [.var .p 0, .var .s 1, .var .s 2] [.pointer v0, .string v1, .string v2] rfl (by kernel_rfl) h
def w161 (v0 : ByteArray) (v1 : ByteArray) (v2 : Option Addr) (V : Mem) (R : Ending → Mem → Prop) : Prop :=
 ∃ v3 : Sl, V.rowp v2 (((0 : Int)).toNat * 1) 1 = some [.slice v3.p v3.n v3.c] ∧
 PubT [.string v0] 9 V fun v4 V1 =>
 Tri Tryz.prog 162 #[.slice v3.p v3.n v3.c, .func (.func 163) #[] #[.pointer (ptrAdd v4 0)]] V1 fun e V2 => ∃ v5 : Bool, e = .returned (.bool v5) ∧
 (v5 = true →
 R (.returned (.tuple #[.string (strB []), .int .i64 11])) V2) ∧ (¬ (v5 = true) →
 R (.returned (.tuple #[.string v1, .int .i64 0])) V2)
theorem x161 {v0 : ByteArray} {v1 : ByteArray} {v2 : Option Addr} {V : Mem} {R : Ending → Mem → Prop} (h : w161 v0 v1 v2 V R) : Tri Tryz.prog 161 #[.string v0, .string v1, .pointer v2] V R :=
 tri_dx (H := { N := 11, early := [], loops := [], keep := [0, 1, 2, 3, 5, 6, 9] }) Tryz.func161 [.var .s 0, .var .s 1, .var .p 2] [.string v0, .string v1, .pointer v2] rfl (by kernel_rfl) h
def w162 (v0 : Sl) (v1 : Value) (V : Mem) (R : Ending → Mem → Prop) : Prop :=
 Tri Tryz.prog 187 #[.slice v0.p v0.n v0.c, (K.cast .f v1)] V fun e V1 => ∃ v2 : Int, e = .returned (.int .i64 v2) ∧
 R (.returned (.bool (decide ((0 : Int) ≤ v2)))) V1
theorem x162 {v0 : Sl} {v1 : Value} {V : Mem} {R : Ending → Mem → Prop} (h : w162 v0 v1 V R) : Tri Tryz.prog 162 #[.slice v0.p v0.n v0.c, (K.cast .f v1)] V R :=
 tri_dx (H := { N := 9, early := [], loops := [], keep := [0, 1, 4] }) Tryz.func162 [.var .sl 0, .var .f 1] [.slice v0.p v0.n v0.c, v1] rfl (by kernel_rfl) h
def w163 (v0 : ByteArray) (v1 : Option Addr) (V : Mem) (R : Ending → Mem → Prop) : Prop :=
 ∃ v2 : ByteArray, V.rowp v1 (((0 : Int)).toNat * 1) 1 = some [.string v2] ∧
 R (.returned (.bool (!(decide (v0 = v2))))) V
theorem x163 {v0 : ByteArray} {v1 : Option Addr} {V : Mem} {R : Ending → Mem → Prop} (h : w163 v0 v1 V R) : Tri Tryz.prog 163 #[.string v0, .pointer v1] V R :=
 tri_dx (H := { N := 7, early := [], loops := [], keep := [0, 1, 3] }) Tryz.func163 [.var .s 0, .var .p 1] [.string v0, .pointer v1] rfl (by kernel_rfl) h
def w164 (v0 : Option Addr) (v1 : ByteArray) (v2 : ByteArray) (V : Mem) (R : Ending → Mem → Prop) : Prop :=
 (¬ (v0 = none)) ∧ (¬ (v0 = none)) ∧ ∃ v3 : Option Nat, V.rowp v0 (((8 : Int)).toNat * 1) 1 = some [.map v3] ∧
 LookK Tryz.prog 113 (.map v3) (.string v1) true V fun x => ∃ v4 : ByteArray, ∃ v5 : Sl, ∃ v6 : Bool, x = (.tuple #[.agg #[.string v4, .slice v5.p v5.n v5.c], .bool v6]) ∧
 (v6 = true →
 ∃ (I : Nat → List Value → Mem → Prop) (n0 : Nat), I n0 [.string (strB []), .int .i64 0, .int .i64 0] V ∧ ∀ n V1, ∀ v7 : ByteArray, ∀ v8 : Int, ∀ v9 : Int, I n [.string v7, .int .i64 v8, .int .i64 v9] V1 → ∀ J0 : List Value → Mem → Prop, (∀ m ys V'', m < n → I m ys V'' → J0 ys V'') →
 (v9 < (v5.n : Int) →
 (¬ (v5.p = none)) ∧ ((0 : Int) ≤ v9) ∧ (v9 < (v5.n : Int)) ∧ ∃ v10 : ByteArray, ∃ v11 : ByteArray, V1.rowp v5.p ((v9).toNat * 2) 2 = some [.string v10, .string v11] ∧
 (v10 = v2 →
 R (.returned (.tuple #[.string v11, .int .i64 0])) V1) ∧ (¬ (v10 = v2) →
 (K.inR .i64 (v9 + (1 : Int))) ∧ J0 [.string v7, .int .i64 v8, .int .i64 (v9 + (1 : Int))] V1)) ∧ (¬ (v9 < (v5.n : Int)) →
 R (.returned (.tuple #[.string (strB []), .int .i64 9])) V1)) ∧ (¬ (v6 = true) →
 R (.returned (.tuple #[.string (strB []), .int .i64 11])) V)
theorem x164 {v0 : Option Addr} {v1 : ByteArray} {v2 : ByteArray} {V : Mem} {R : Ending → Mem → Prop} (h : w164 v0 v1 v2 V R) : Tri Tryz.prog 164 #[.pointer v0, .string v1, .string v2] V R :=
 tri_dx (H := { N := 37, early := [], loops := [], keep := [0, 1, 2, 6, 7, 8, 9, 11, 22, 24, 25, 26, 27, 33] }) Tryz.func164 [.var .p 0, .var .s 1, .var .s 2] [.pointer v0, .string v1, .string v2] rfl (by kernel_rfl) h
def w165 (v0 : Int) (V : Mem) (R : Ending → Mem → Prop) : Prop :=
 ((1 : Int) ≤ v0 →
 (v0 ≤ (4 : Int) →
 R (.returned (.int .i64 0)) V) ∧ (¬ (v0 ≤ (4 : Int)) →
 (v0 = (6 : Int) →
 R (.returned (.int .i64 0)) V) ∧ (¬ (v0 = (6 : Int)) →
 (v0 = (5 : Int) →
 R (.returned (.int .i64 1)) V) ∧ (¬ (v0 = (5 : Int)) →
 (v0 = (8 : Int) →
 R (.returned (.int .i64 1)) V) ∧ (¬ (v0 = (8 : Int)) →
 (v0 = (18 : Int) →
 R (.returned (.int .i64 1)) V) ∧ (¬ (v0 = (18 : Int)) →
 (v0 = (24 : Int) →
 R (.returned (.int .i64 1)) V) ∧ (¬ (v0 = (24 : Int)) →
 (v0 = (7 : Int) →
 R (.returned (.int .i64 (-1))) V) ∧ (¬ (v0 = (7 : Int)) →
 (v0 = (21 : Int) →
 R (.returned (.int .i64 3)) V) ∧ (¬ (v0 = (21 : Int)) →
 ((9 : Int) ≤ v0 →
 (v0 ≤ (23 : Int) →
 R (.returned (.int .i64 2)) V) ∧ (¬ (v0 ≤ (23 : Int)) →
 R (.returned (.int .i64 (-2))) V)) ∧ (¬ ((9 : Int) ≤ v0) →
 R (.returned (.int .i64 (-2))) V)))))))))) ∧ (¬ ((1 : Int) ≤ v0) →
 (v0 = (6 : Int) →
 R (.returned (.int .i64 0)) V) ∧ (¬ (v0 = (6 : Int)) →
 (v0 = (5 : Int) →
 R (.returned (.int .i64 1)) V) ∧ (¬ (v0 = (5 : Int)) →
 (v0 = (8 : Int) →
 R (.returned (.int .i64 1)) V) ∧ (¬ (v0 = (8 : Int)) →
 (v0 = (18 : Int) →
 R (.returned (.int .i64 1)) V) ∧ (¬ (v0 = (18 : Int)) →
 (v0 = (24 : Int) →
 R (.returned (.int .i64 1)) V) ∧ (¬ (v0 = (24 : Int)) →
 (v0 = (7 : Int) →
 R (.returned (.int .i64 (-1))) V) ∧ (¬ (v0 = (7 : Int)) →
 (v0 = (21 : Int) →
 R (.returned (.int .i64 3)) V) ∧ (¬ (v0 = (21 : Int)) →
 ((9 : Int) ≤ v0 →
 (v0 ≤ (23 : Int) →
 R (.returned (.int .i64 2)) V) ∧ (¬ (v0 ≤ (23 : Int)) →
 R (.returned (.int .i64 (-2))) V)) ∧ (¬ ((9 : Int) ≤ v0) →
 R (.returned (.int .i64 (-2))) V)))))))))
theorem x165 {v0 : Int} {V : Mem} {R : Ending → Mem → Prop} (h : w165 v0 V R) : Tri Tryz.prog 165 #[.int .i64 v0] V R :=
 tri_dx (H := { N := 42, early := [], loops := [], keep := [0, 2, 3, 14, 29, 32, 35] }) Tryz.func165 [.var (.i .i64) 0] [.int .i64 v0] rfl (by kernel_rfl) h
def w166 (v0 : Int) (v1 : Int) (v2 : ByteArray) (v3 : Sl) (V : Mem) (R : Ending → Mem → Prop) : Prop :=
 (v0 = (4 : Int) →
 (v2 = (strB [116, 104, 105, 115]) →
 R (.returned (.bool true)) V) ∧ (¬ (v2 = (strB [116, 104, 105, 115])) →
 Tri Tryz.prog 52 #[.string v2] V fun e V1 => ∃ v4 : Bool, e = .returned (.bool v4) ∧
 R (.returned (.bool v4)) V1)) ∧ (¬ (v0 = (4 : Int)) →
 (v0 = (5 : Int) →
 Tri Tryz.prog 52 #[.string v2] V fun e V1 => ∃ v4 : Bool, e = .returned (.bool v4) ∧
 R (.returned (.bool v4)) V1) ∧ (¬ (v0 = (5 : Int)) →
 (v0 = (6 : Int) →
 Tri Tryz.prog 52 #[.string v2] V fun e V1 => ∃ v4 : Bool, e = .returned (.bool v4) ∧
 R (.returned (.bool v4)) V1) ∧ (¬ (v0 = (6 : Int)) →
 (v0 = (7 : Int) →
 Tri Tryz.prog 52 #[.string v2] V fun e V1 => ∃ v4 : Bool, e = .returned (.bool v4) ∧
 R (.returned (.bool v4)) V1) ∧ (¬ (v0 = (7 : Int)) →
 R (.returned (.bool (decide (v2 = (strB []))))) V))))
theorem x166 {v0 : Int} {v1 : Int} {v2 : ByteArray} {v3 : Sl} {V : Mem} {R : Ending → Mem → Prop} (h : w166 v0 v1 v2 v3 V R) : Tri Tryz.prog 166 #[.agg #[.int .i64 v0, .int .i64 v1, .string v2, .slice v3.p v3.n v3.c]] V R :=
 tri_dx (H := { N := 25, early := [], loops := [], keep := [0, 1, 2, 4, 5, 15] }) Tryz.func166 [.agg (.cons (.var (.i .i64) 0) (.cons (.var (.i .i64) 1) (.cons (.var .s 2) (.cons (.var .sl 3) .nil))))] [.int .i64 v0, .int .i64 v1, .string v2, .slice v3.p v3.n v3.c] rfl (by kernel_rfl) h
def w167 (v0 : Sl) (v1 : ByteArray) (V : Mem) (R : Ending → Mem → Prop) : Prop :=
 ∃ (I : Nat → List Value → Mem → Prop) (n0 : Nat), I n0 [.int .i64 0, .int .i64 (v0.n : Int)] V ∧ ∀ n V1, ∀ v2 : Int, ∀ v3 : Int, I n [.int .i64 v2, .int .i64 v3] V1 → ∀ J0 : List Value → Mem → Prop, (∀ m ys V'', m < n → I m ys V'' → J0 ys V'') →
 (v2 < v3 →
 (K.inR .i64 (v2 + v3)) ∧ (K.inR .u64 (v2 + v3)) ∧ GenK Tryz.prog (.binOp .shr 212 (.tmp 19) (.const (.int .u64 1)) 212) 212 (gval [(19, (.u (.conv .u64) (.b2 (.add .i64) (.var (.i .i64) 2) (.var (.i .i64) 3))))] [.slice v0.p v0.n v0.c, .string v1, .int .i64 v2, .int .i64 v3]) V1 fun x V2 => ∃ v4 : Int, x = (.int .u64 v4) ∧
 (K.inR .i64 v4) ∧ (¬ (v0.p = none)) ∧ ((0 : Int) ≤ v4) ∧ (v4 < (v0.n : Int)) ∧ ∃ v5 : ByteArray, V2.rowp v0.p ((v4).toNat * 1) 1 = some [.string v5] ∧
 Tri Tryz.prog 188 #[.string v5, .string v1] V2 fun e V3 => ∃ v6 : Bool, e = .returned (.bool v6) ∧
 (v6 = true →
 (K.inR .i64 (v4 + (1 : Int))) ∧ J0 [.int .i64 (v4 + (1 : Int)), .int .i64 v3] V3) ∧ (¬ (v6 = true) →
 J0 [.int .i64 v2, .int .i64 v4] V3)) ∧ (¬ (v2 < v3) →
 (v2 < (v0.n : Int) →
 (¬ (v0.p = none)) ∧ ((0 : Int) ≤ v2) ∧ (v2 < (v0.n : Int)) ∧ ∃ v4 : ByteArray, V1.rowp v0.p ((v2).toNat * 1) 1 = some [.string v4] ∧
 (v4 = v1 →
 R (.returned (.tuple #[.int .i64 v2, .bool true])) V1) ∧ (¬ (v4 = v1) →
 (¬ (v0.p = none)) ∧ ((0 : Int) ≤ v2) ∧ (v2 < (v0.n : Int)) ∧ ∃ v5 : ByteArray, V1.rowp v0.p ((v2).toNat * 1) 1 = some [.string v5] ∧
 Tri Tryz.prog 189 #[.string v5] V1 fun e V2 => ∃ v6 : Bool, e = .returned (.bool v6) ∧
 (v6 = true →
 Tri Tryz.prog 189 #[.string v1] V2 fun e V3 => ∃ v7 : Bool, e = .returned (.bool v7) ∧
 R (.returned (.tuple #[.int .i64 v2, .bool v7])) V3) ∧ (¬ (v6 = true) →
 R (.returned (.tuple #[.int .i64 v2, .bool false])) V2))) ∧ (¬ (v2 < (v0.n : Int)) →
 R (.returned (.tuple #[.int .i64 v2, .bool false])) V1))
theorem x167 {v0 : Sl} {v1 : ByteArray} {V : Mem} {R : Ending → Mem → Prop} (h : w167 v0 v1 V R) : Tri Tryz.prog 167 #[.slice v0.p v0.n v0.c, .string v1] V R :=
 tri_dx (H := { N := 54, early := [], loops := [], keep := [0, 1, 4, 5, 6, 7, 8, 9, 15, 27] }) Tryz.func167 [.var .sl 0, .var .s 1] [.slice v0.p v0.n v0.c, .string v1] rfl (by kernel_rfl) h
def w168 (V : Mem) (R : Ending → Mem → Prop) : Prop :=
 Tri Tryz.prog 190 #[.string (strB [97, 110, 100, 32, 98, 111, 111, 108, 32, 98, 111, 117, 110, 100, 32, 100, 101, 115, 99, 32, 101, 108, 115, 101, 32, 102, 97, 108, 115, 101, 32, 105, 102, 32, 105, 110, 116, 32, 105, 110, 118, 97, 114, 105, 97, 110, 116, 32, 108, 111, 99, 97, 108, 32, 108, 111, 103, 32, 109, 97, 120, 32, 109, 101, 97, 115, 117, 114, 101, 32, 109, 105, 110, 32, 110, 101, 119, 32, 110, 105, 108, 32, 110, 111, 116, 32, 111, 112, 32, 111, 114, 32, 112, 111, 116, 101, 110, 116, 105, 97, 108, 32, 112, 114, 111, 99, 32, 114, 101, 116, 117, 114, 110, 32, 114, 117, 108, 101, 32, 115, 99, 114, 105, 112, 116, 32, 115, 111, 114, 116, 32, 115, 112, 101, 99, 32, 116, 104, 105, 115, 32, 116, 114, 117, 101, 32, 116, 121, 112, 101, 32, 118, 97, 114, 32, 119, 104, 105, 108, 101])] V fun e V1 => ∃ v0 : Sl, e = .returned (.slice v0.p v0.n v0.c) ∧
 R (.returned (.slice v0.p v0.n v0.c)) V1
theorem x168 {V : Mem} {R : Ending → Mem → Prop} (h : w168 V R) : Tri Tryz.prog 168 #[] V R :=
 tri_dx (H := { N := 2, early := [], loops := [], keep := [0] }) Tryz.func168 [] [] rfl (by kernel_rfl) h
def w169 (v0 : Sl) (v1 : Value) (V : Mem) (R : Ending → Mem → Prop) : Prop :=
 ∃ (I : Nat → List Value → Mem → Prop) (n0 : Nat), I n0 [.int .i64 0, .int .i64 0] V ∧ ∀ n V1, ∀ v2 : Int, ∀ v3 : Int, I n [.int .i64 v2, .int .i64 v3] V1 → ∀ J0 : List Value → Mem → Prop, (∀ m ys V'', m < n → I m ys V'' → J0 ys V'') →
 (v3 < (v0.n : Int) →
 (¬ (v0.p = none)) ∧ ((0 : Int) ≤ v3) ∧ (v3 < (v0.n : Int)) ∧ ∃ v4 : ByteArray, ∃ v5 : Int, ∃ v6 : Int, ∃ v7 : ByteArray, ∃ v8 : Sl, V1.rowp v0.p ((v3).toNat * 5) 5 = some [.string v4, .int .i64 v5, .int .i64 v6, .string v7, .slice v8.p v8.n v8.c] ∧
 ∃ f first caps, (K.cast .f v1) = .func (.func f) first caps ∧ (∀ args w, (callFunc f args).run Tryz.prog w = .ok (.enter f args) w) ∧
 Tri Tryz.prog f (first ++ #[.agg #[.string v4, .int .i64 v5, .int .i64 v6, .string v7, .slice v8.p v8.n v8.c]] ++ caps) V1 fun e V2 => ∃ v9 : Bool, e = .returned (.bool v9) ∧
 (v9 = true →
 R (.returned (.int .i64 v3)) V2) ∧ (¬ (v9 = true) →
 (K.inR .i64 (v3 + (1 : Int))) ∧ J0 [.int .i64 v2, .int .i64 (v3 + (1 : Int))] V2)) ∧ (¬ (v3 < (v0.n : Int)) →
 R (.returned (.int .i64 (-1))) V1)
theorem x169 {v0 : Sl} {v1 : Value} {V : Mem} {R : Ending → Mem → Prop} (h : w169 v0 v1 V R) : Tri Tryz.prog 169 #[.slice v0.p v0.n v0.c, (K.cast .f v1)] V R :=
 tri_dx (H := { N := 19, early := [], loops := [], keep := [0, 1, 4, 5, 7, 8, 9, 16] }) Tryz.func169 [.var .sl 0, .var .f 1] [.slice v0.p v0.n v0.c, v1] rfl (by kernel_rfl) h
end Go.Proofs
