/- Part 10 of a proof of a law of this seat: no statement of the seat is proved here. -/
import Derived.Test.YtjnmeimbcljkjaaGreatDoorPart06
set_option linter.unusedVariables false
set_option linter.unusedSimpArgs false
namespace Go.Proofs
open Go Go.Sx
set_option maxRecDepth 100000
def w170 (v0 : Int) (v1 : ByteArray) (v2 : Sl) (v3 : Sl) (v4 : Sl) (V : Mem) (R : Ending → Mem → Prop) : Prop :=
 (v0 = (1 : Int) →
 Tri Tryz.prog 84 #[.string v1] V fun e V1 => ∃ v5 : Bool, e = .returned (.bool v5) ∧
 (v5 = true →
 (v0 = (3 : Int) →
 (v0 = (1 : Int) →
 R (.returned (.bool (decide ((v2.n : Int) = (1 : Int))))) V1) ∧ (¬ (v0 = (1 : Int)) →
 (v0 = (3 : Int) →
 R (.returned (.bool (decide ((v2.n : Int) = (1 : Int))))) V1) ∧ (¬ (v0 = (3 : Int)) →
 (v0 = (4 : Int) →
 R (.returned (.bool (decide ((v2.n : Int) = (1 : Int))))) V1) ∧ (¬ (v0 = (4 : Int)) →
 (v0 = (2 : Int) →
 R (.returned (.bool (decide ((v2.n : Int) = (2 : Int))))) V1) ∧ (¬ (v0 = (2 : Int)) →
 (v0 = (5 : Int) →
 R (.returned (.bool (decide ((v2.n : Int) ≤ (1 : Int))))) V1) ∧ (¬ (v0 = (5 : Int)) →
 (v0 = (6 : Int) →
 ((v2.n : Int) = (1 : Int) →
 (¬ (v2.p = none)) ∧ ((0 : Int) ≤ (0 : Int)) ∧ ((0 : Int) < (v2.n : Int)) ∧ (¬ ((ptrAdd v2.p (((0 : Int)).toNat * 4)) = none)) ∧ ∃ v6 : Int, ∃ v7 : Int, ∃ v8 : ByteArray, ∃ v9 : Sl, V1.rowp v2.p (((0 : Int)).toNat * 4) 4 = some [.int .i64 v6, .int .i64 v7, .string v8, .slice v9.p v9.n v9.c] ∧
 R (.returned (.bool (decide (v6 = (7 : Int))))) V1) ∧ (¬ ((v2.n : Int) = (1 : Int)) →
 R (.returned (.bool false)) V1)) ∧ (¬ (v0 = (6 : Int)) →
 R (.returned (.bool false)) V1))))))) ∧ (¬ (v0 = (3 : Int)) →
 ((0 : Int) < (v4.n : Int) →
 R (.returned (.bool false)) V1) ∧ (¬ ((0 : Int) < (v4.n : Int)) →
 (v0 = (4 : Int) →
 (v0 = (1 : Int) →
 R (.returned (.bool (decide ((v2.n : Int) = (1 : Int))))) V1) ∧ (¬ (v0 = (1 : Int)) →
 (v0 = (3 : Int) →
 R (.returned (.bool (decide ((v2.n : Int) = (1 : Int))))) V1) ∧ (¬ (v0 = (3 : Int)) →
 (v0 = (4 : Int) →
 R (.returned (.bool (decide ((v2.n : Int) = (1 : Int))))) V1) ∧ (¬ (v0 = (4 : Int)) →
 (v0 = (2 : Int) →
 R (.returned (.bool (decide ((v2.n : Int) = (2 : Int))))) V1) ∧ (¬ (v0 = (2 : Int)) →
 (v0 = (5 : Int) →
 R (.returned (.bool (decide ((v2.n : Int) ≤ (1 : Int))))) V1) ∧ (¬ (v0 = (5 : Int)) →
 (v0 = (6 : Int) →
 ((v2.n : Int) = (1 : Int) →
 (¬ (v2.p = none)) ∧ ((0 : Int) ≤ (0 : Int)) ∧ ((0 : Int) < (v2.n : Int)) ∧ (¬ ((ptrAdd v2.p (((0 : Int)).toNat * 4)) = none)) ∧ ∃ v6 : Int, ∃ v7 : Int, ∃ v8 : ByteArray, ∃ v9 : Sl, V1.rowp v2.p (((0 : Int)).toNat * 4) 4 = some [.int .i64 v6, .int .i64 v7, .string v8, .slice v9.p v9.n v9.c] ∧
 R (.returned (.bool (decide (v6 = (7 : Int))))) V1) ∧ (¬ ((v2.n : Int) = (1 : Int)) →
 R (.returned (.bool false)) V1)) ∧ (¬ (v0 = (6 : Int)) →
 R (.returned (.bool false)) V1))))))) ∧ (¬ (v0 = (4 : Int)) →
 ((0 : Int) < (v3.n : Int) →
 R (.returned (.bool false)) V1) ∧ (¬ ((0 : Int) < (v3.n : Int)) →
 (v0 = (1 : Int) →
 R (.returned (.bool (decide ((v2.n : Int) = (1 : Int))))) V1) ∧ (¬ (v0 = (1 : Int)) →
 (v0 = (3 : Int) →
 R (.returned (.bool (decide ((v2.n : Int) = (1 : Int))))) V1) ∧ (¬ (v0 = (3 : Int)) →
 (v0 = (4 : Int) →
 R (.returned (.bool (decide ((v2.n : Int) = (1 : Int))))) V1) ∧ (¬ (v0 = (4 : Int)) →
 (v0 = (2 : Int) →
 R (.returned (.bool (decide ((v2.n : Int) = (2 : Int))))) V1) ∧ (¬ (v0 = (2 : Int)) →
 (v0 = (5 : Int) →
 R (.returned (.bool (decide ((v2.n : Int) ≤ (1 : Int))))) V1) ∧ (¬ (v0 = (5 : Int)) →
 (v0 = (6 : Int) →
 ((v2.n : Int) = (1 : Int) →
 (¬ (v2.p = none)) ∧ ((0 : Int) ≤ (0 : Int)) ∧ ((0 : Int) < (v2.n : Int)) ∧ (¬ ((ptrAdd v2.p (((0 : Int)).toNat * 4)) = none)) ∧ ∃ v6 : Int, ∃ v7 : Int, ∃ v8 : ByteArray, ∃ v9 : Sl, V1.rowp v2.p (((0 : Int)).toNat * 4) 4 = some [.int .i64 v6, .int .i64 v7, .string v8, .slice v9.p v9.n v9.c] ∧
 R (.returned (.bool (decide (v6 = (7 : Int))))) V1) ∧ (¬ ((v2.n : Int) = (1 : Int)) →
 R (.returned (.bool false)) V1)) ∧ (¬ (v0 = (6 : Int)) →
 R (.returned (.bool false)) V1))))))))))) ∧ (¬ (v5 = true) →
 R (.returned (.bool false)) V1)) ∧ (¬ (v0 = (1 : Int)) →
 (v0 = (2 : Int) →
 Tri Tryz.prog 84 #[.string v1] V fun e V1 => ∃ v5 : Bool, e = .returned (.bool v5) ∧
 (v5 = true →
 (v0 = (3 : Int) →
 (v0 = (1 : Int) →
 R (.returned (.bool (decide ((v2.n : Int) = (1 : Int))))) V1) ∧ (¬ (v0 = (1 : Int)) →
 (v0 = (3 : Int) →
 R (.returned (.bool (decide ((v2.n : Int) = (1 : Int))))) V1) ∧ (¬ (v0 = (3 : Int)) →
 (v0 = (4 : Int) →
 R (.returned (.bool (decide ((v2.n : Int) = (1 : Int))))) V1) ∧ (¬ (v0 = (4 : Int)) →
 (v0 = (2 : Int) →
 R (.returned (.bool (decide ((v2.n : Int) = (2 : Int))))) V1) ∧ (¬ (v0 = (2 : Int)) →
 (v0 = (5 : Int) →
 R (.returned (.bool (decide ((v2.n : Int) ≤ (1 : Int))))) V1) ∧ (¬ (v0 = (5 : Int)) →
 (v0 = (6 : Int) →
 ((v2.n : Int) = (1 : Int) →
 (¬ (v2.p = none)) ∧ ((0 : Int) ≤ (0 : Int)) ∧ ((0 : Int) < (v2.n : Int)) ∧ (¬ ((ptrAdd v2.p (((0 : Int)).toNat * 4)) = none)) ∧ ∃ v6 : Int, ∃ v7 : Int, ∃ v8 : ByteArray, ∃ v9 : Sl, V1.rowp v2.p (((0 : Int)).toNat * 4) 4 = some [.int .i64 v6, .int .i64 v7, .string v8, .slice v9.p v9.n v9.c] ∧
 R (.returned (.bool (decide (v6 = (7 : Int))))) V1) ∧ (¬ ((v2.n : Int) = (1 : Int)) →
 R (.returned (.bool false)) V1)) ∧ (¬ (v0 = (6 : Int)) →
 R (.returned (.bool false)) V1))))))) ∧ (¬ (v0 = (3 : Int)) →
 ((0 : Int) < (v4.n : Int) →
 R (.returned (.bool false)) V1) ∧ (¬ ((0 : Int) < (v4.n : Int)) →
 (v0 = (4 : Int) →
 (v0 = (1 : Int) →
 R (.returned (.bool (decide ((v2.n : Int) = (1 : Int))))) V1) ∧ (¬ (v0 = (1 : Int)) →
 (v0 = (3 : Int) →
 R (.returned (.bool (decide ((v2.n : Int) = (1 : Int))))) V1) ∧ (¬ (v0 = (3 : Int)) →
 (v0 = (4 : Int) →
 R (.returned (.bool (decide ((v2.n : Int) = (1 : Int))))) V1) ∧ (¬ (v0 = (4 : Int)) →
 (v0 = (2 : Int) →
 R (.returned (.bool (decide ((v2.n : Int) = (2 : Int))))) V1) ∧ (¬ (v0 = (2 : Int)) →
 (v0 = (5 : Int) →
 R (.returned (.bool (decide ((v2.n : Int) ≤ (1 : Int))))) V1) ∧ (¬ (v0 = (5 : Int)) →
 (v0 = (6 : Int) →
 ((v2.n : Int) = (1 : Int) →
 (¬ (v2.p = none)) ∧ ((0 : Int) ≤ (0 : Int)) ∧ ((0 : Int) < (v2.n : Int)) ∧ (¬ ((ptrAdd v2.p (((0 : Int)).toNat * 4)) = none)) ∧ ∃ v6 : Int, ∃ v7 : Int, ∃ v8 : ByteArray, ∃ v9 : Sl, V1.rowp v2.p (((0 : Int)).toNat * 4) 4 = some [.int .i64 v6, .int .i64 v7, .string v8, .slice v9.p v9.n v9.c] ∧
 R (.returned (.bool (decide (v6 = (7 : Int))))) V1) ∧ (¬ ((v2.n : Int) = (1 : Int)) →
 R (.returned (.bool false)) V1)) ∧ (¬ (v0 = (6 : Int)) →
 R (.returned (.bool false)) V1))))))) ∧ (¬ (v0 = (4 : Int)) →
 ((0 : Int) < (v3.n : Int) →
 R (.returned (.bool false)) V1) ∧ (¬ ((0 : Int) < (v3.n : Int)) →
 (v0 = (1 : Int) →
 R (.returned (.bool (decide ((v2.n : Int) = (1 : Int))))) V1) ∧ (¬ (v0 = (1 : Int)) →
 (v0 = (3 : Int) →
 R (.returned (.bool (decide ((v2.n : Int) = (1 : Int))))) V1) ∧ (¬ (v0 = (3 : Int)) →
 (v0 = (4 : Int) →
 R (.returned (.bool (decide ((v2.n : Int) = (1 : Int))))) V1) ∧ (¬ (v0 = (4 : Int)) →
 (v0 = (2 : Int) →
 R (.returned (.bool (decide ((v2.n : Int) = (2 : Int))))) V1) ∧ (¬ (v0 = (2 : Int)) →
 (v0 = (5 : Int) →
 R (.returned (.bool (decide ((v2.n : Int) ≤ (1 : Int))))) V1) ∧ (¬ (v0 = (5 : Int)) →
 (v0 = (6 : Int) →
 ((v2.n : Int) = (1 : Int) →
 (¬ (v2.p = none)) ∧ ((0 : Int) ≤ (0 : Int)) ∧ ((0 : Int) < (v2.n : Int)) ∧ (¬ ((ptrAdd v2.p (((0 : Int)).toNat * 4)) = none)) ∧ ∃ v6 : Int, ∃ v7 : Int, ∃ v8 : ByteArray, ∃ v9 : Sl, V1.rowp v2.p (((0 : Int)).toNat * 4) 4 = some [.int .i64 v6, .int .i64 v7, .string v8, .slice v9.p v9.n v9.c] ∧
 R (.returned (.bool (decide (v6 = (7 : Int))))) V1) ∧ (¬ ((v2.n : Int) = (1 : Int)) →
 R (.returned (.bool false)) V1)) ∧ (¬ (v0 = (6 : Int)) →
 R (.returned (.bool false)) V1))))))))))) ∧ (¬ (v5 = true) →
 R (.returned (.bool false)) V1)) ∧ (¬ (v0 = (2 : Int)) →
 (v1 = (strB []) →
 (v0 = (3 : Int) →
 (v0 = (1 : Int) →
 R (.returned (.bool (decide ((v2.n : Int) = (1 : Int))))) V) ∧ (¬ (v0 = (1 : Int)) →
 (v0 = (3 : Int) →
 R (.returned (.bool (decide ((v2.n : Int) = (1 : Int))))) V) ∧ (¬ (v0 = (3 : Int)) →
 (v0 = (4 : Int) →
 R (.returned (.bool (decide ((v2.n : Int) = (1 : Int))))) V) ∧ (¬ (v0 = (4 : Int)) →
 (v0 = (2 : Int) →
 R (.returned (.bool (decide ((v2.n : Int) = (2 : Int))))) V) ∧ (¬ (v0 = (2 : Int)) →
 (v0 = (5 : Int) →
 R (.returned (.bool (decide ((v2.n : Int) ≤ (1 : Int))))) V) ∧ (¬ (v0 = (5 : Int)) →
 (v0 = (6 : Int) →
 ((v2.n : Int) = (1 : Int) →
 (¬ (v2.p = none)) ∧ ((0 : Int) ≤ (0 : Int)) ∧ ((0 : Int) < (v2.n : Int)) ∧ (¬ ((ptrAdd v2.p (((0 : Int)).toNat * 4)) = none)) ∧ ∃ v5 : Int, ∃ v6 : Int, ∃ v7 : ByteArray, ∃ v8 : Sl, V.rowp v2.p (((0 : Int)).toNat * 4) 4 = some [.int .i64 v5, .int .i64 v6, .string v7, .slice v8.p v8.n v8.c] ∧
 R (.returned (.bool (decide (v5 = (7 : Int))))) V) ∧ (¬ ((v2.n : Int) = (1 : Int)) →
 R (.returned (.bool false)) V)) ∧ (¬ (v0 = (6 : Int)) →
 R (.returned (.bool false)) V))))))) ∧ (¬ (v0 = (3 : Int)) →
 ((0 : Int) < (v4.n : Int) →
 R (.returned (.bool false)) V) ∧ (¬ ((0 : Int) < (v4.n : Int)) →
 (v0 = (4 : Int) →
 (v0 = (1 : Int) →
 R (.returned (.bool (decide ((v2.n : Int) = (1 : Int))))) V) ∧ (¬ (v0 = (1 : Int)) →
 (v0 = (3 : Int) →
 R (.returned (.bool (decide ((v2.n : Int) = (1 : Int))))) V) ∧ (¬ (v0 = (3 : Int)) →
 (v0 = (4 : Int) →
 R (.returned (.bool (decide ((v2.n : Int) = (1 : Int))))) V) ∧ (¬ (v0 = (4 : Int)) →
 (v0 = (2 : Int) →
 R (.returned (.bool (decide ((v2.n : Int) = (2 : Int))))) V) ∧ (¬ (v0 = (2 : Int)) →
 (v0 = (5 : Int) →
 R (.returned (.bool (decide ((v2.n : Int) ≤ (1 : Int))))) V) ∧ (¬ (v0 = (5 : Int)) →
 (v0 = (6 : Int) →
 ((v2.n : Int) = (1 : Int) →
 (¬ (v2.p = none)) ∧ ((0 : Int) ≤ (0 : Int)) ∧ ((0 : Int) < (v2.n : Int)) ∧ (¬ ((ptrAdd v2.p (((0 : Int)).toNat * 4)) = none)) ∧ ∃ v5 : Int, ∃ v6 : Int, ∃ v7 : ByteArray, ∃ v8 : Sl, V.rowp v2.p (((0 : Int)).toNat * 4) 4 = some [.int .i64 v5, .int .i64 v6, .string v7, .slice v8.p v8.n v8.c] ∧
 R (.returned (.bool (decide (v5 = (7 : Int))))) V) ∧ (¬ ((v2.n : Int) = (1 : Int)) →
 R (.returned (.bool false)) V)) ∧ (¬ (v0 = (6 : Int)) →
 R (.returned (.bool false)) V))))))) ∧ (¬ (v0 = (4 : Int)) →
 ((0 : Int) < (v3.n : Int) →
 R (.returned (.bool false)) V) ∧ (¬ ((0 : Int) < (v3.n : Int)) →
 (v0 = (1 : Int) →
 R (.returned (.bool (decide ((v2.n : Int) = (1 : Int))))) V) ∧ (¬ (v0 = (1 : Int)) →
 (v0 = (3 : Int) →
 R (.returned (.bool (decide ((v2.n : Int) = (1 : Int))))) V) ∧ (¬ (v0 = (3 : Int)) →
 (v0 = (4 : Int) →
 R (.returned (.bool (decide ((v2.n : Int) = (1 : Int))))) V) ∧ (¬ (v0 = (4 : Int)) →
 (v0 = (2 : Int) →
 R (.returned (.bool (decide ((v2.n : Int) = (2 : Int))))) V) ∧ (¬ (v0 = (2 : Int)) →
 (v0 = (5 : Int) →
 R (.returned (.bool (decide ((v2.n : Int) ≤ (1 : Int))))) V) ∧ (¬ (v0 = (5 : Int)) →
 (v0 = (6 : Int) →
 ((v2.n : Int) = (1 : Int) →
 (¬ (v2.p = none)) ∧ ((0 : Int) ≤ (0 : Int)) ∧ ((0 : Int) < (v2.n : Int)) ∧ (¬ ((ptrAdd v2.p (((0 : Int)).toNat * 4)) = none)) ∧ ∃ v5 : Int, ∃ v6 : Int, ∃ v7 : ByteArray, ∃ v8 : Sl, V.rowp v2.p (((0 : Int)).toNat * 4) 4 = some [.int .i64 v5, .int .i64 v6, .string v7, .slice v8.p v8.n v8.c] ∧
 R (.returned (.bool (decide (v5 = (7 : Int))))) V) ∧ (¬ ((v2.n : Int) = (1 : Int)) →
 R (.returned (.bool false)) V)) ∧ (¬ (v0 = (6 : Int)) →
 R (.returned (.bool false)) V))))))))))) ∧ (¬ (v1 = (strB [])) →
 R (.returned (.bool false)) V)))
theorem x170 {v0 : Int} {v1 : ByteArray} {v2 : Sl} {v3 : Sl} {v4 : Sl} {V : Mem} {R : Ending → Mem → Prop} (h : w170 v0 v1 v2 v3 v4 V R) : Tri Tryz.prog 170 #[.agg #[.int .i64 v0, .string v1, .slice v2.p v2.n v2.c, .slice v3.p v3.n v3.c, .slice v4.p v4.n v4.c]] V R :=
 tri_dx (H := { N := 74, early := [], loops := [], keep := [0, 1, 2, 3, 4, 18, 45, 47, 48, 54, 58, 62] }) Tryz.func170 [.agg (.cons (.var (.i .i64) 0) (.cons (.var .s 1) (.cons (.var .sl 2) (.cons (.var .sl 3) (.cons (.var .sl 4) .nil)))))] [.int .i64 v0, .string v1, .slice v2.p v2.n v2.c, .slice v3.p v3.n v3.c, .slice v4.p v4.n v4.c] rfl (by kernel_rfl) h
def w171 (v0 : Int) (v1 : Int) (v2 : ByteArray) (v3 : Sl) (V : Mem) (R : Ending → Mem → Prop) : Prop :=
 Tri Tryz.prog 62 #[.agg #[.int .i64 v0, .int .i64 v1, .string v2, .slice v3.p v3.n v3.c]] V fun e V1 => ∃ v4 : Bool, e = .returned (.bool v4) ∧
 R (.returned (.bool (!v4))) V1
theorem x171 {v0 : Int} {v1 : Int} {v2 : ByteArray} {v3 : Sl} {V : Mem} {R : Ending → Mem → Prop} (h : w171 v0 v1 v2 v3 V R) : Tri Tryz.prog 171 #[.agg #[.int .i64 v0, .int .i64 v1, .string v2, .slice v3.p v3.n v3.c]] V R :=
 tri_dx (H := { N := 6, early := [], loops := [], keep := [0, 1, 2] }) Tryz.func171 [.agg (.cons (.var (.i .i64) 0) (.cons (.var (.i .i64) 1) (.cons (.var .s 2) (.cons (.var .sl 3) .nil))))] [.int .i64 v0, .int .i64 v1, .string v2, .slice v3.p v3.n v3.c] rfl (by kernel_rfl) h
def w172 (v0 : ByteArray) (v1 : Sl) (v2 : Option Addr) (v3 : Option Addr) (v4 : Option Addr) (V : Mem) (R : Ending → Mem → Prop) : Prop :=
 ∃ v5 : Value, K.f.ok v5 ∧ V.rowp v2 (((0 : Int)).toNat * 1) 1 = some [v5] ∧
 ∃ v6 : Value, K.f.ok v6 ∧ V.rowp v2 (((0 : Int)).toNat * 1) 1 = some [v6] ∧
 ∃ v7 : Sl, V.rowp v3 (((0 : Int)).toNat * 1) 1 = some [.slice v7.p v7.n v7.c] ∧
 ∃ v8 : Int, V.rowp v4 (((0 : Int)).toNat * 1) 1 = some [.int .i64 v8] ∧
 (¬ (v7.p = none)) ∧ ((0 : Int) ≤ v8) ∧ (v8 < (v7.n : Int)) ∧ ∃ v9 : ByteArray, ∃ v10 : Sl, V.rowp v7.p ((v8).toNat * 2) 2 = some [.string v9, .slice v10.p v10.n v10.c] ∧
 ∃ f first caps, (K.cast .f v5) = .func (.func f) first caps ∧ (∀ args w, (callFunc f args).run Tryz.prog w = .ok (.enter f args) w) ∧
 Tri Tryz.prog f (first ++ #[.agg #[.string v0, .slice v1.p v1.n v1.c]] ++ caps) V fun e V1 => ∃ v11 : ByteArray, e = .returned (.string v11) ∧
 (V1.rowp (ptrAdd v7.p ((v8).toNat * 2)) 0 2 = some [.string v9, .slice v10.p v10.n v10.c]) ∧ (¬ (v7.p = none)) ∧ ((0 : Int) ≤ v8) ∧ (v8 < (v7.n : Int)) ∧ (V1.rowp v4 0 1 = some [.int .i64 v8]) ∧ (V1.rowp v3 0 1 = some [.slice v7.p v7.n v7.c]) ∧ (V1.rowp v2 0 1 = some [(K.cast .f v6)]) ∧ ∃ f first caps, (K.cast .f v6) = .func (.func f) first caps ∧ (∀ args w, (callFunc f args).run Tryz.prog w = .ok (.enter f args) w) ∧
 Tri Tryz.prog f (first ++ #[.agg #[.string v9, .slice v10.p v10.n v10.c]] ++ caps) V1 fun e V2 => ∃ v12 : ByteArray, e = .returned (.string v12) ∧
 R (.returned (.bool (decide (v11 = v12)))) V2
theorem x172 {v0 : ByteArray} {v1 : Sl} {v2 : Option Addr} {v3 : Option Addr} {v4 : Option Addr} {V : Mem} {R : Ending → Mem → Prop} (h : w172 v0 v1 v2 v3 v4 V R) : Tri Tryz.prog 172 #[.agg #[.string v0, .slice v1.p v1.n v1.c], .pointer v2, .pointer v3, .pointer v4] V R :=
 tri_dx (H := { N := 16, early := [], loops := [], keep := [0, 1, 2, 3, 4, 5] }) Tryz.func172 [.agg (.cons (.var .s 0) (.cons (.var .sl 1) .nil)), .var .p 2, .var .p 3, .var .p 4] [.string v0, .slice v1.p v1.n v1.c, .pointer v2, .pointer v3, .pointer v4] rfl (by kernel_rfl) h
def w173 (v0 : ByteArray) (v1 : ByteArray) (v2 : Option Addr) (V : Mem) (R : Ending → Mem → Prop) : Prop :=
 (¬ (v2 = none)) ∧ ∃ v3 : ByteArray, V.rowp v2 (((0 : Int)).toNat * 1) 1 = some [.string v3] ∧
 R (.returned (.bool (decide (v0 = v3)))) V
theorem x173 {v0 : ByteArray} {v1 : ByteArray} {v2 : Option Addr} {V : Mem} {R : Ending → Mem → Prop} (h : w173 v0 v1 v2 V R) : Tri Tryz.prog 173 #[.agg #[.string v0, .string v1], .pointer v2] V R :=
 tri_dx (H := { N := 9, early := [], loops := [], keep := [0, 1, 2, 3] }) Tryz.func173 [.agg (.cons (.var .s 0) (.cons (.var .s 1) .nil)), .var .p 2] [.string v0, .string v1, .pointer v2] rfl (by kernel_rfl) h
def w174 (v0 : ByteArray) (v1 : ByteArray) (v2 : Option Addr) (v3 : Option Addr) (v4 : Option Addr) (V : Mem) (R : Ending → Mem → Prop) : Prop :=
 ∃ v5 : Value, K.f.ok v5 ∧ V.rowp v2 (((0 : Int)).toNat * 1) 1 = some [v5] ∧
 ∃ v6 : Value, K.f.ok v6 ∧ V.rowp v2 (((0 : Int)).toNat * 1) 1 = some [v6] ∧
 ∃ v7 : Sl, V.rowp v3 (((0 : Int)).toNat * 1) 1 = some [.slice v7.p v7.n v7.c] ∧
 ∃ v8 : Int, V.rowp v4 (((0 : Int)).toNat * 1) 1 = some [.int .i64 v8] ∧
 (¬ (v7.p = none)) ∧ ((0 : Int) ≤ v8) ∧ (v8 < (v7.n : Int)) ∧ ∃ v9 : ByteArray, ∃ v10 : ByteArray, V.rowp v7.p ((v8).toNat * 2) 2 = some [.string v9, .string v10] ∧
 ∃ f first caps, (K.cast .f v5) = .func (.func f) first caps ∧ (∀ args w, (callFunc f args).run Tryz.prog w = .ok (.enter f args) w) ∧
 Tri Tryz.prog f (first ++ #[.agg #[.string v0, .string v1]] ++ caps) V fun e V1 => ∃ v11 : ByteArray, e = .returned (.string v11) ∧
 (V1.rowp (ptrAdd v7.p ((v8).toNat * 2)) 0 2 = some [.string v9, .string v10]) ∧ (¬ (v7.p = none)) ∧ ((0 : Int) ≤ v8) ∧ (v8 < (v7.n : Int)) ∧ (V1.rowp v4 0 1 = some [.int .i64 v8]) ∧ (V1.rowp v3 0 1 = some [.slice v7.p v7.n v7.c]) ∧ (V1.rowp v2 0 1 = some [(K.cast .f v6)]) ∧ ∃ f first caps, (K.cast .f v6) = .func (.func f) first caps ∧ (∀ args w, (callFunc f args).run Tryz.prog w = .ok (.enter f args) w) ∧
 Tri Tryz.prog f (first ++ #[.agg #[.string v9, .string v10]] ++ caps) V1 fun e V2 => ∃ v12 : ByteArray, e = .returned (.string v12) ∧
 R (.returned (.bool (decide (v11 = v12)))) V2
theorem x174 {v0 : ByteArray} {v1 : ByteArray} {v2 : Option Addr} {v3 : Option Addr} {v4 : Option Addr} {V : Mem} {R : Ending → Mem → Prop} (h : w174 v0 v1 v2 v3 v4 V R) : Tri Tryz.prog 174 #[.agg #[.string v0, .string v1], .pointer v2, .pointer v3, .pointer v4] V R :=
 tri_dx (H := { N := 16, early := [], loops := [], keep := [0, 1, 2, 3, 4, 5] }) Tryz.func174 [.agg (.cons (.var .s 0) (.cons (.var .s 1) .nil)), .var .p 2, .var .p 3, .var .p 4] [.string v0, .string v1, .pointer v2, .pointer v3, .pointer v4] rfl (by kernel_rfl) h
def w175 (v0 : ByteArray) (v1 : Sl) (v2 : ByteArray) (v3 : Sl) (v4 : Sl) (v5 : Option Addr) (v6 : Option Addr) (v7 : Option Addr) (V : Mem) (R : Ending → Mem → Prop) : Prop :=
 ∃ v8 : Value, K.f.ok v8 ∧ V.rowp v5 (((0 : Int)).toNat * 1) 1 = some [v8] ∧
 ∃ v9 : Value, K.f.ok v9 ∧ V.rowp v5 (((0 : Int)).toNat * 1) 1 = some [v9] ∧
 ∃ v10 : Sl, V.rowp v6 (((0 : Int)).toNat * 1) 1 = some [.slice v10.p v10.n v10.c] ∧
 ∃ v11 : Int, V.rowp v7 (((0 : Int)).toNat * 1) 1 = some [.int .i64 v11] ∧
 (¬ (v10.p = none)) ∧ ((0 : Int) ≤ v11) ∧ (v11 < (v10.n : Int)) ∧ ∃ v12 : ByteArray, ∃ v13 : Sl, ∃ v14 : ByteArray, ∃ v15 : Sl, ∃ v16 : Sl, V.rowp v10.p ((v11).toNat * 5) 5 = some [.string v12, .slice v13.p v13.n v13.c, .string v14, .slice v15.p v15.n v15.c, .slice v16.p v16.n v16.c] ∧
 ∃ f first caps, (K.cast .f v8) = .func (.func f) first caps ∧ (∀ args w, (callFunc f args).run Tryz.prog w = .ok (.enter f args) w) ∧
 Tri Tryz.prog f (first ++ #[.agg #[.string v0, .slice v1.p v1.n v1.c, .string v2, .slice v3.p v3.n v3.c, .slice v4.p v4.n v4.c]] ++ caps) V fun e V1 => ∃ v17 : ByteArray, e = .returned (.string v17) ∧
 (V1.rowp (ptrAdd v10.p ((v11).toNat * 5)) 0 5 = some [.string v12, .slice v13.p v13.n v13.c, .string v14, .slice v15.p v15.n v15.c, .slice v16.p v16.n v16.c]) ∧ (¬ (v10.p = none)) ∧ ((0 : Int) ≤ v11) ∧ (v11 < (v10.n : Int)) ∧ (V1.rowp v7 0 1 = some [.int .i64 v11]) ∧ (V1.rowp v6 0 1 = some [.slice v10.p v10.n v10.c]) ∧ (V1.rowp v5 0 1 = some [(K.cast .f v9)]) ∧ ∃ f first caps, (K.cast .f v9) = .func (.func f) first caps ∧ (∀ args w, (callFunc f args).run Tryz.prog w = .ok (.enter f args) w) ∧
 Tri Tryz.prog f (first ++ #[.agg #[.string v12, .slice v13.p v13.n v13.c, .string v14, .slice v15.p v15.n v15.c, .slice v16.p v16.n v16.c]] ++ caps) V1 fun e V2 => ∃ v18 : ByteArray, e = .returned (.string v18) ∧
 R (.returned (.bool (decide (v17 = v18)))) V2
theorem x175 {v0 : ByteArray} {v1 : Sl} {v2 : ByteArray} {v3 : Sl} {v4 : Sl} {v5 : Option Addr} {v6 : Option Addr} {v7 : Option Addr} {V : Mem} {R : Ending → Mem → Prop} (h : w175 v0 v1 v2 v3 v4 v5 v6 v7 V R) : Tri Tryz.prog 175 #[.agg #[.string v0, .slice v1.p v1.n v1.c, .string v2, .slice v3.p v3.n v3.c, .slice v4.p v4.n v4.c], .pointer v5, .pointer v6, .pointer v7] V R :=
 tri_dx (H := { N := 16, early := [], loops := [], keep := [0, 1, 2, 3, 4, 5] }) Tryz.func175 [.agg (.cons (.var .s 0) (.cons (.var .sl 1) (.cons (.var .s 2) (.cons (.var .sl 3) (.cons (.var .sl 4) .nil))))), .var .p 5, .var .p 6, .var .p 7] [.string v0, .slice v1.p v1.n v1.c, .string v2, .slice v3.p v3.n v3.c, .slice v4.p v4.n v4.c, .pointer v5, .pointer v6, .pointer v7] rfl (by kernel_rfl) h
def w176 (v0 : Sl) (v1 : Int) (V : Mem) (R : Ending → Mem → Prop) : Prop :=
 (v1 < (0 : Int) →
 GenK Tryz.prog (.makeInterface 9 (.const (.string ⟨#[99, 97, 110, 110, 111, 116, 32, 98, 101, 32, 110, 101, 103, 97, 116, 105, 118, 101]⟩))) 20 (gval [] [.slice v0.p v0.n v0.c, .int .i64 v1]) V fun x V1 => ∃ v2 : Value, K.r.ok v2 ∧ x = v2 ∧
 GenK Tryz.prog (.panic (.tmp 7)) 0 (gval [(7, (.var .r 2))] [.slice v0.p v0.n v0.c, .int .i64 v1, v2]) V1 fun x V2 => x = (.tuple #[]) ∧
 (K.inR .i64 ((v0.c : Int) - (v0.n : Int))) ∧ (K.inR .i64 (v1 - ((v0.c : Int) - (v0.n : Int)))) ∧ ((0 : Int) < (v1 - ((v0.c : Int) - (v0.n : Int))) →
 (0 ≤ (0 : Int) ∧ (0 : Int) ≤ (v0.c : Int) ∧ (v0.c : Int) ≤ (v0.c : Int)) ∧ GenK Tryz.prog (.call { callee := (.builtin .append), args := #[.tmp 20, .tmp 21], argTypes := #[23, 3] }) 23 (gval [(20, (.c3 .slc (.c3 (.slp 2) (.u .slbase (.var .sl 0)) (.int .i64 0) (.u .cap (.var .sl 0))) (.b2 (.sub .i64) (.u .cap (.var .sl 0)) (.int .i64 0)) (.b2 (.sub .i64) (.u .cap (.var .sl 0)) (.int .i64 0)))), (21, (.b2 (.sub .i64) (.var (.i .i64) 1) (.b2 (.sub .i64) (.u .cap (.var .sl 0)) (.u .len (.var .sl 0)))))] [.slice v0.p v0.n v0.c, .int .i64 v1, v2]) V2 fun x V3 => ∃ v3 : Sl, x = (.slice v3.p v3.n v3.c) ∧
 (0 ≤ (0 : Int) ∧ (0 : Int) ≤ (v0.n : Int) ∧ (v0.n : Int) ≤ (v3.c : Int)) ∧ R (.returned (.slice (if (v3.c : Int) = (0 : Int) then v3.p else ptrAdd v3.p (((0 : Int)).toNat * 2)) (((v0.n : Int) - (0 : Int))).toNat (((v3.c : Int) - (0 : Int))).toNat)) V3) ∧ (¬ ((0 : Int) < (v1 - ((v0.c : Int) - (v0.n : Int)))) →
 R (.returned (.slice v0.p v0.n v0.c)) V2)) ∧ (¬ (v1 < (0 : Int)) →
 (K.inR .i64 ((v0.c : Int) - (v0.n : Int))) ∧ (K.inR .i64 (v1 - ((v0.c : Int) - (v0.n : Int)))) ∧ ((0 : Int) < (v1 - ((v0.c : Int) - (v0.n : Int))) →
 (0 ≤ (0 : Int) ∧ (0 : Int) ≤ (v0.c : Int) ∧ (v0.c : Int) ≤ (v0.c : Int)) ∧ GenK Tryz.prog (.call { callee := (.builtin .append), args := #[.tmp 20, .tmp 21], argTypes := #[23, 3] }) 23 (gval [(20, (.c3 .slc (.c3 (.slp 2) (.u .slbase (.var .sl 0)) (.int .i64 0) (.u .cap (.var .sl 0))) (.b2 (.sub .i64) (.u .cap (.var .sl 0)) (.int .i64 0)) (.b2 (.sub .i64) (.u .cap (.var .sl 0)) (.int .i64 0)))), (21, (.b2 (.sub .i64) (.var (.i .i64) 1) (.b2 (.sub .i64) (.u .cap (.var .sl 0)) (.u .len (.var .sl 0)))))] [.slice v0.p v0.n v0.c, .int .i64 v1]) V fun x V1 => ∃ v2 : Sl, x = (.slice v2.p v2.n v2.c) ∧
 (0 ≤ (0 : Int) ∧ (0 : Int) ≤ (v0.n : Int) ∧ (v0.n : Int) ≤ (v2.c : Int)) ∧ R (.returned (.slice (if (v2.c : Int) = (0 : Int) then v2.p else ptrAdd v2.p (((0 : Int)).toNat * 2)) (((v0.n : Int) - (0 : Int))).toNat (((v2.c : Int) - (0 : Int))).toNat)) V1) ∧ (¬ ((0 : Int) < (v1 - ((v0.c : Int) - (v0.n : Int)))) →
 R (.returned (.slice v0.p v0.n v0.c)) V))
theorem x176 {v0 : Sl} {v1 : Int} {V : Mem} {R : Ending → Mem → Prop} (h : w176 v0 v1 V R) : Tri Tryz.prog 176 #[.slice v0.p v0.n v0.c, .int .i64 v1] V R :=
 tri_dx (H := { N := 27, early := [], loops := [], keep := [0, 1, 4, 6, 16] }) Tryz.func176 [.var .sl 0, .var (.i .i64) 1] [.slice v0.p v0.n v0.c, .int .i64 v1] rfl (by kernel_rfl) h
def w177 (v0 : Sl) (v1 : Value) (V : Mem) (R : Ending → Mem → Prop) : Prop :=
 Tri Tryz.prog 185 #[.slice v0.p v0.n v0.c, (K.cast .f v1)] V fun e V1 => ∃ v2 : Int, e = .returned (.int .i64 v2) ∧
 R (.returned (.bool (decide ((0 : Int) ≤ v2)))) V1
theorem x177 {v0 : Sl} {v1 : Value} {V : Mem} {R : Ending → Mem → Prop} (h : w177 v0 v1 V R) : Tri Tryz.prog 177 #[.slice v0.p v0.n v0.c, (K.cast .f v1)] V R :=
 tri_dx (H := { N := 9, early := [], loops := [], keep := [0, 1, 4] }) Tryz.func177 [.var .sl 0, .var .f 1] [.slice v0.p v0.n v0.c, v1] rfl (by kernel_rfl) h
def w178 (v0 : ByteArray) (v1 : ByteArray) (v2 : Int) (v3 : Int) (v4 : Int) (v5 : ByteArray) (v6 : Sl) (v7 : Option Addr) (v8 : Option Addr) (v9 : Option Addr) (V : Mem) (R : Ending → Mem → Prop) : Prop :=
 ∃ v10 : Value, K.f.ok v10 ∧ V.rowp v7 (((0 : Int)).toNat * 1) 1 = some [v10] ∧
 ∃ v11 : Value, K.f.ok v11 ∧ V.rowp v7 (((0 : Int)).toNat * 1) 1 = some [v11] ∧
 ∃ v12 : Sl, V.rowp v8 (((0 : Int)).toNat * 1) 1 = some [.slice v12.p v12.n v12.c] ∧
 ∃ v13 : Int, V.rowp v9 (((0 : Int)).toNat * 1) 1 = some [.int .i64 v13] ∧
 (¬ (v12.p = none)) ∧ ((0 : Int) ≤ v13) ∧ (v13 < (v12.n : Int)) ∧ ∃ v14 : ByteArray, ∃ v15 : ByteArray, ∃ v16 : Int, ∃ v17 : Int, ∃ v18 : Int, ∃ v19 : ByteArray, ∃ v20 : Sl, V.rowp v12.p ((v13).toNat * 7) 7 = some [.string v14, .string v15, .int .i64 v16, .int .i64 v17, .int .i64 v18, .string v19, .slice v20.p v20.n v20.c] ∧
 ∃ f first caps, (K.cast .f v10) = .func (.func f) first caps ∧ (∀ args w, (callFunc f args).run Tryz.prog w = .ok (.enter f args) w) ∧
 Tri Tryz.prog f (first ++ #[.agg #[.string v0, .string v1, .int .i64 v2, .int .i64 v3, .int .i64 v4, .string v5, .slice v6.p v6.n v6.c]] ++ caps) V fun e V1 => ∃ v21 : ByteArray, e = .returned (.string v21) ∧
 (V1.rowp (ptrAdd v12.p ((v13).toNat * 7)) 0 7 = some [.string v14, .string v15, .int .i64 v16, .int .i64 v17, .int .i64 v18, .string v19, .slice v20.p v20.n v20.c]) ∧ (¬ (v12.p = none)) ∧ ((0 : Int) ≤ v13) ∧ (v13 < (v12.n : Int)) ∧ (V1.rowp v9 0 1 = some [.int .i64 v13]) ∧ (V1.rowp v8 0 1 = some [.slice v12.p v12.n v12.c]) ∧ (V1.rowp v7 0 1 = some [(K.cast .f v11)]) ∧ ∃ f first caps, (K.cast .f v11) = .func (.func f) first caps ∧ (∀ args w, (callFunc f args).run Tryz.prog w = .ok (.enter f args) w) ∧
 Tri Tryz.prog f (first ++ #[.agg #[.string v14, .string v15, .int .i64 v16, .int .i64 v17, .int .i64 v18, .string v19, .slice v20.p v20.n v20.c]] ++ caps) V1 fun e V2 => ∃ v22 : ByteArray, e = .returned (.string v22) ∧
 R (.returned (.bool (decide (v21 = v22)))) V2
theorem x178 {v0 : ByteArray} {v1 : ByteArray} {v2 : Int} {v3 : Int} {v4 : Int} {v5 : ByteArray} {v6 : Sl} {v7 : Option Addr} {v8 : Option Addr} {v9 : Option Addr} {V : Mem} {R : Ending → Mem → Prop} (h : w178 v0 v1 v2 v3 v4 v5 v6 v7 v8 v9 V R) : Tri Tryz.prog 178 #[.agg #[.string v0, .string v1, .int .i64 v2, .int .i64 v3, .int .i64 v4, .string v5, .slice v6.p v6.n v6.c], .pointer v7, .pointer v8, .pointer v9] V R :=
 tri_dx (H := { N := 16, early := [], loops := [], keep := [0, 1, 2, 3, 4, 5] }) Tryz.func178 [.agg (.cons (.var .s 0) (.cons (.var .s 1) (.cons (.var (.i .i64) 2) (.cons (.var (.i .i64) 3) (.cons (.var (.i .i64) 4) (.cons (.var .s 5) (.cons (.var .sl 6) .nil))))))), .var .p 7, .var .p 8, .var .p 9] [.string v0, .string v1, .int .i64 v2, .int .i64 v3, .int .i64 v4, .string v5, .slice v6.p v6.n v6.c, .pointer v7, .pointer v8, .pointer v9] rfl (by kernel_rfl) h
def w179 (v0 : ByteArray) (v1 : ByteArray) (v2 : Int) (v3 : Int) (v4 : ByteArray) (v5 : Sl) (v6 : Option Addr) (v7 : Option Addr) (v8 : Option Addr) (V : Mem) (R : Ending → Mem → Prop) : Prop :=
 ∃ v9 : Value, K.f.ok v9 ∧ V.rowp v6 (((0 : Int)).toNat * 1) 1 = some [v9] ∧
 ∃ v10 : Value, K.f.ok v10 ∧ V.rowp v6 (((0 : Int)).toNat * 1) 1 = some [v10] ∧
 ∃ v11 : Sl, V.rowp v7 (((0 : Int)).toNat * 1) 1 = some [.slice v11.p v11.n v11.c] ∧
 ∃ v12 : Int, V.rowp v8 (((0 : Int)).toNat * 1) 1 = some [.int .i64 v12] ∧
 (¬ (v11.p = none)) ∧ ((0 : Int) ≤ v12) ∧ (v12 < (v11.n : Int)) ∧ ∃ v13 : ByteArray, ∃ v14 : ByteArray, ∃ v15 : Int, ∃ v16 : Int, ∃ v17 : ByteArray, ∃ v18 : Sl, V.rowp v11.p ((v12).toNat * 6) 6 = some [.string v13, .string v14, .int .i64 v15, .int .i64 v16, .string v17, .slice v18.p v18.n v18.c] ∧
 ∃ f first caps, (K.cast .f v9) = .func (.func f) first caps ∧ (∀ args w, (callFunc f args).run Tryz.prog w = .ok (.enter f args) w) ∧
 Tri Tryz.prog f (first ++ #[.agg #[.string v0, .string v1, .int .i64 v2, .int .i64 v3, .string v4, .slice v5.p v5.n v5.c]] ++ caps) V fun e V1 => ∃ v19 : ByteArray, e = .returned (.string v19) ∧
 (V1.rowp (ptrAdd v11.p ((v12).toNat * 6)) 0 6 = some [.string v13, .string v14, .int .i64 v15, .int .i64 v16, .string v17, .slice v18.p v18.n v18.c]) ∧ (¬ (v11.p = none)) ∧ ((0 : Int) ≤ v12) ∧ (v12 < (v11.n : Int)) ∧ (V1.rowp v8 0 1 = some [.int .i64 v12]) ∧ (V1.rowp v7 0 1 = some [.slice v11.p v11.n v11.c]) ∧ (V1.rowp v6 0 1 = some [(K.cast .f v10)]) ∧ ∃ f first caps, (K.cast .f v10) = .func (.func f) first caps ∧ (∀ args w, (callFunc f args).run Tryz.prog w = .ok (.enter f args) w) ∧
 Tri Tryz.prog f (first ++ #[.agg #[.string v13, .string v14, .int .i64 v15, .int .i64 v16, .string v17, .slice v18.p v18.n v18.c]] ++ caps) V1 fun e V2 => ∃ v20 : ByteArray, e = .returned (.string v20) ∧
 R (.returned (.bool (decide (v19 = v20)))) V2
theorem x179 {v0 : ByteArray} {v1 : ByteArray} {v2 : Int} {v3 : Int} {v4 : ByteArray} {v5 : Sl} {v6 : Option Addr} {v7 : Option Addr} {v8 : Option Addr} {V : Mem} {R : Ending → Mem → Prop} (h : w179 v0 v1 v2 v3 v4 v5 v6 v7 v8 V R) : Tri Tryz.prog 179 #[.agg #[.string v0, .string v1, .int .i64 v2, .int .i64 v3, .string v4, .slice v5.p v5.n v5.c], .pointer v6, .pointer v7, .pointer v8] V R :=
 tri_dx (H := { N := 16, early := [], loops := [], keep := [0, 1, 2, 3, 4, 5] }) Tryz.func179 [.agg (.cons (.var .s 0) (.cons (.var .s 1) (.cons (.var (.i .i64) 2) (.cons (.var (.i .i64) 3) (.cons (.var .s 4) (.cons (.var .sl 5) .nil)))))), .var .p 6, .var .p 7, .var .p 8] [.string v0, .string v1, .int .i64 v2, .int .i64 v3, .string v4, .slice v5.p v5.n v5.c, .pointer v6, .pointer v7, .pointer v8] rfl (by kernel_rfl) h
def w180 (v0 : ByteArray) (v1 : Int) (v2 : Int) (v3 : ByteArray) (v4 : Sl) (v5 : Option Addr) (v6 : Option Addr) (v7 : Option Addr) (V : Mem) (R : Ending → Mem → Prop) : Prop :=
 ∃ v8 : Value, K.f.ok v8 ∧ V.rowp v5 (((0 : Int)).toNat * 1) 1 = some [v8] ∧
 ∃ v9 : Value, K.f.ok v9 ∧ V.rowp v5 (((0 : Int)).toNat * 1) 1 = some [v9] ∧
 ∃ v10 : Sl, V.rowp v6 (((0 : Int)).toNat * 1) 1 = some [.slice v10.p v10.n v10.c] ∧
 ∃ v11 : Int, V.rowp v7 (((0 : Int)).toNat * 1) 1 = some [.int .i64 v11] ∧
 (¬ (v10.p = none)) ∧ ((0 : Int) ≤ v11) ∧ (v11 < (v10.n : Int)) ∧ ∃ v12 : ByteArray, ∃ v13 : Int, ∃ v14 : Int, ∃ v15 : ByteArray, ∃ v16 : Sl, V.rowp v10.p ((v11).toNat * 5) 5 = some [.string v12, .int .i64 v13, .int .i64 v14, .string v15, .slice v16.p v16.n v16.c] ∧
 ∃ f first caps, (K.cast .f v8) = .func (.func f) first caps ∧ (∀ args w, (callFunc f args).run Tryz.prog w = .ok (.enter f args) w) ∧
 Tri Tryz.prog f (first ++ #[.agg #[.string v0, .int .i64 v1, .int .i64 v2, .string v3, .slice v4.p v4.n v4.c]] ++ caps) V fun e V1 => ∃ v17 : ByteArray, e = .returned (.string v17) ∧
 (V1.rowp (ptrAdd v10.p ((v11).toNat * 5)) 0 5 = some [.string v12, .int .i64 v13, .int .i64 v14, .string v15, .slice v16.p v16.n v16.c]) ∧ (¬ (v10.p = none)) ∧ ((0 : Int) ≤ v11) ∧ (v11 < (v10.n : Int)) ∧ (V1.rowp v7 0 1 = some [.int .i64 v11]) ∧ (V1.rowp v6 0 1 = some [.slice v10.p v10.n v10.c]) ∧ (V1.rowp v5 0 1 = some [(K.cast .f v9)]) ∧ ∃ f first caps, (K.cast .f v9) = .func (.func f) first caps ∧ (∀ args w, (callFunc f args).run Tryz.prog w = .ok (.enter f args) w) ∧
 Tri Tryz.prog f (first ++ #[.agg #[.string v12, .int .i64 v13, .int .i64 v14, .string v15, .slice v16.p v16.n v16.c]] ++ caps) V1 fun e V2 => ∃ v18 : ByteArray, e = .returned (.string v18) ∧
 R (.returned (.bool (decide (v17 = v18)))) V2
theorem x180 {v0 : ByteArray} {v1 : Int} {v2 : Int} {v3 : ByteArray} {v4 : Sl} {v5 : Option Addr} {v6 : Option Addr} {v7 : Option Addr} {V : Mem} {R : Ending → Mem → Prop} (h : w180 v0 v1 v2 v3 v4 v5 v6 v7 V R) : Tri Tryz.prog 180 #[.agg #[.string v0, .int .i64 v1, .int .i64 v2, .string v3, .slice v4.p v4.n v4.c], .pointer v5, .pointer v6, .pointer v7] V R :=
 tri_dx (H := { N := 16, early := [], loops := [], keep := [0, 1, 2, 3, 4, 5] }) Tryz.func180 [.agg (.cons (.var .s 0) (.cons (.var (.i .i64) 1) (.cons (.var (.i .i64) 2) (.cons (.var .s 3) (.cons (.var .sl 4) .nil))))), .var .p 5, .var .p 6, .var .p 7] [.string v0, .int .i64 v1, .int .i64 v2, .string v3, .slice v4.p v4.n v4.c, .pointer v5, .pointer v6, .pointer v7] rfl (by kernel_rfl) h
def w181 (v0 : Option Addr) (v1 : Option Nat) (v2 : Bool) (v3 : Int) (v4 : ByteArray) (v5 : Sl) (v6 : Sl) (v7 : Sl) (v8 : ByteArray) (V : Mem) (R : Ending → Mem → Prop) : Prop :=
 (v3 = (6 : Int) →
 (¬ (v5.p = none)) ∧ ((0 : Int) ≤ (0 : Int)) ∧ ((0 : Int) < (v5.n : Int)) ∧ ∃ v9 : Int, ∃ v10 : Int, ∃ v11 : ByteArray, ∃ v12 : Sl, V.rowp v5.p (((0 : Int)).toNat * 4) 4 = some [.int .i64 v9, .int .i64 v10, .string v11, .slice v12.p v12.n v12.c] ∧
 Tri Tryz.prog 114 #[.agg #[.pointer v0, .map v1, .bool v2], .agg #[.int .i64 v9, .int .i64 v10, .string v11, .slice v12.p v12.n v12.c]] V fun e V1 => ∃ v13 : ByteArray, ∃ v14 : Int, e = .returned (.tuple #[.string v13, .int .i64 v14]) ∧
 R (.returned (.int .i64 v14)) V1) ∧ (¬ (v3 = (6 : Int)) →
 ∃ (I : Nat → List Value → Mem → Prop) (n0 : Nat), I n0 [.int .i64 0, .slice none 0 0, .int .i64 0] V ∧ ∀ n V1, ∀ v9 : Int, ∀ v10 : Sl, ∀ v11 : Int, I n [.int .i64 v9, .slice v10.p v10.n v10.c, .int .i64 v11] V1 → ∀ J0 : List Value → Mem → Prop, (∀ m ys V'', m < n → I m ys V'' → J0 ys V'') →
 (v11 < (v5.n : Int) →
 (¬ (v5.p = none)) ∧ ((0 : Int) ≤ v11) ∧ (v11 < (v5.n : Int)) ∧ ∃ v12 : Int, ∃ v13 : Int, ∃ v14 : ByteArray, ∃ v15 : Sl, V1.rowp v5.p ((v11).toNat * 4) 4 = some [.int .i64 v12, .int .i64 v13, .string v14, .slice v15.p v15.n v15.c] ∧
 Tri Tryz.prog 64 #[.agg #[.pointer v0, .map v1, .bool v2], .agg #[.int .i64 v12, .int .i64 v13, .string v14, .slice v15.p v15.n v15.c]] V1 fun e V2 => ∃ v16 : ByteArray, ∃ v17 : Int, e = .returned (.tuple #[.string v16, .int .i64 v17]) ∧
 (v17 = (0 : Int) →
 PubT [.string v16] 9 V2 fun v18 V3 =>
 GenK Tryz.prog (.call { callee := (.builtin .append), args := #[.tmp 48, .tmp 50], argTypes := #[85, 85] }) 85 (gval [(48, (.var .sl 10)), (50, (.c3 .slc (.u (.poff 0) (.var .p 18)) (.int .i64 1) (.int .i64 1)))] [.pointer v0, .map v1, .bool v2, .int .i64 v3, .string v4, .slice v5.p v5.n v5.c, .slice v6.p v6.n v6.c, .slice v7.p v7.n v7.c, .string v8, .int .i64 v9, .slice v10.p v10.n v10.c, .int .i64 v11, .int .i64 v12, .int .i64 v13, .string v14, .slice v15.p v15.n v15.c, .string v16, .int .i64 v17, .pointer v18]) V3 fun x V4 => ∃ v19 : Sl, x = (.slice v19.p v19.n v19.c) ∧
 (K.inR .i64 (v11 + (1 : Int))) ∧ J0 [.int .i64 v9, .slice v19.p v19.n v19.c, .int .i64 (v11 + (1 : Int))] V4) ∧ (¬ (v17 = (0 : Int)) →
 R (.returned (.int .i64 v17)) V2)) ∧ (¬ (v11 < (v5.n : Int)) →
 (v3 = (1 : Int) →
 LookK Tryz.prog 117 (.map v1) (.string v4) true V1 fun x => ∃ v12 : ByteArray, ∃ v13 : Bool, x = (.tuple #[.string v12, .bool v13]) ∧
 (v13 = true →
 (¬ (v10.p = none)) ∧ ((0 : Int) ≤ (0 : Int)) ∧ ((0 : Int) < (v10.n : Int)) ∧ ∃ v14 : ByteArray, V1.rowp v10.p (((0 : Int)).toNat * 1) 1 = some [.string v14] ∧
 Tri Tryz.prog 160 #[.pointer v0, .string v14, .string v12] V1 fun e V2 => ∃ v15 : Bool, e = .returned (.bool v15) ∧
 (v15 = true →
 R (.returned (.int .i64 0)) V2) ∧ (¬ (v15 = true) →
 R (.returned (.int .i64 11)) V2)) ∧ (¬ (v13 = true) →
 R (.returned (.int .i64 9)) V1)) ∧ (¬ (v3 = (1 : Int)) →
 (v3 = (2 : Int) →
 (¬ (v10.p = none)) ∧ ((0 : Int) ≤ (0 : Int)) ∧ ((0 : Int) < (v10.n : Int)) ∧ ∃ v12 : ByteArray, V1.rowp v10.p (((0 : Int)).toNat * 1) 1 = some [.string v12] ∧
 Tri Tryz.prog 164 #[.pointer v0, .string v12, .string v4] V1 fun e V2 => ∃ v13 : ByteArray, ∃ v14 : Int, e = .returned (.tuple #[.string v13, .int .i64 v14]) ∧
 (v14 = (0 : Int) →
 (¬ (v10.p = none)) ∧ ((0 : Int) ≤ (1 : Int)) ∧ ((1 : Int) < (v10.n : Int)) ∧ ∃ v15 : ByteArray, V2.rowp v10.p (((1 : Int)).toNat * 1) 1 = some [.string v15] ∧
 Tri Tryz.prog 160 #[.pointer v0, .string v15, .string v13] V2 fun e V3 => ∃ v16 : Bool, e = .returned (.bool v16) ∧
 (v16 = true →
 R (.returned (.int .i64 0)) V3) ∧ (¬ (v16 = true) →
 R (.returned (.int .i64 11)) V3)) ∧ (¬ (v14 = (0 : Int)) →
 R (.returned (.int .i64 v14)) V2)) ∧ (¬ (v3 = (2 : Int)) →
 (v3 = (3 : Int) →
 (¬ (v10.p = none)) ∧ ((0 : Int) ≤ (0 : Int)) ∧ ((0 : Int) < (v10.n : Int)) ∧ ∃ v12 : ByteArray, V1.rowp v10.p (((0 : Int)).toNat * 1) 1 = some [.string v12] ∧
 (v12 = (strB [98, 111, 111, 108]) →
 R (.returned (.int .i64 0)) V1) ∧ (¬ (v12 = (strB [98, 111, 111, 108])) →
 R (.returned (.int .i64 11)) V1)) ∧ (¬ (v3 = (3 : Int)) →
 (v3 = (4 : Int) →
 (¬ (v10.p = none)) ∧ ((0 : Int) ≤ (0 : Int)) ∧ ((0 : Int) < (v10.n : Int)) ∧ ∃ v12 : ByteArray, V1.rowp v10.p (((0 : Int)).toNat * 1) 1 = some [.string v12] ∧
 (v12 = (strB [98, 111, 111, 108]) →
 R (.returned (.int .i64 0)) V1) ∧ (¬ (v12 = (strB [98, 111, 111, 108])) →
 R (.returned (.int .i64 11)) V1)) ∧ (¬ (v3 = (4 : Int)) →
 (v3 = (5 : Int) →
 ((v10.n : Int) = (0 : Int) →
 (v8 = (strB []) →
 R (.returned (.int .i64 0)) V1) ∧ (¬ (v8 = (strB [])) →
 R (.returned (.int .i64 11)) V1)) ∧ (¬ ((v10.n : Int) = (0 : Int)) →
 (v8 = (strB []) →
 R (.returned (.int .i64 11)) V1) ∧ (¬ (v8 = (strB [])) →
 (¬ (v10.p = none)) ∧ ((0 : Int) ≤ (0 : Int)) ∧ ((0 : Int) < (v10.n : Int)) ∧ ∃ v12 : ByteArray, V1.rowp v10.p (((0 : Int)).toNat * 1) 1 = some [.string v12] ∧
 Tri Tryz.prog 160 #[.pointer v0, .string v12, .string v8] V1 fun e V2 => ∃ v13 : Bool, e = .returned (.bool v13) ∧
 (v13 = true →
 R (.returned (.int .i64 0)) V2) ∧ (¬ (v13 = true) →
 R (.returned (.int .i64 11)) V2)))) ∧ (¬ (v3 = (5 : Int)) →
 R (.returned (.int .i64 0)) V1)))))))
theorem x181 {v0 : Option Addr} {v1 : Option Nat} {v2 : Bool} {v3 : Int} {v4 : ByteArray} {v5 : Sl} {v6 : Sl} {v7 : Sl} {v8 : ByteArray} {V : Mem} {R : Ending → Mem → Prop} (h : w181 v0 v1 v2 v3 v4 v5 v6 v7 v8 V R) : Tri Tryz.prog 181 #[.agg #[.pointer v0, .map v1, .bool v2], .agg #[.int .i64 v3, .string v4, .slice v5.p v5.n v5.c, .slice v6.p v6.n v6.c, .slice v7.p v7.n v7.c], .string v8] V R :=
 tri_dx (H := { N := 124, early := [], loops := [], keep := [0, 1, 2, 3, 4, 6, 8, 9, 11, 12, 13, 14, 15, 16, 17, 18, 21, 33, 34, 35, 36, 46, 54, 55, 66, 74, 88, 97, 104, 108, 123] }) Tryz.func181 [.agg (.cons (.var .p 0) (.cons (.var .m 1) (.cons (.var .b 2) .nil))), .agg (.cons (.var (.i .i64) 3) (.cons (.var .s 4) (.cons (.var .sl 5) (.cons (.var .sl 6) (.cons (.var .sl 7) .nil))))), .var .s 8] [.pointer v0, .map v1, .bool v2, .int .i64 v3, .string v4, .slice v5.p v5.n v5.c, .slice v6.p v6.n v6.c, .slice v7.p v7.n v7.c, .string v8] rfl (by kernel_rfl) h
def w182 (v0 : Int) (v1 : ByteArray) (v2 : Sl) (v3 : Sl) (v4 : Sl) (v5 : Int) (v6 : Int) (V : Mem) (R : Ending → Mem → Prop) : Prop :=
 ((v2.n : Int) < v5 →
 R (.returned (.bool false)) V) ∧ (¬ ((v2.n : Int) < v5) →
 (v6 < (v2.n : Int) →
 R (.returned (.bool false)) V) ∧ (¬ (v6 < (v2.n : Int)) →
 ∃ (I : Nat → List Value → Mem → Prop) (n0 : Nat), I n0 [.bool false, .int .i64 0] V ∧ ∀ n V1, ∀ v7 : Bool, ∀ v8 : Int, I n [.bool v7, .int .i64 v8] V1 → ∀ J0 : List Value → Mem → Prop, (∀ m ys V'', m < n → I m ys V'' → J0 ys V'') →
 (v8 < (v2.n : Int) →
 (¬ (v2.p = none)) ∧ ((0 : Int) ≤ v8) ∧ (v8 < (v2.n : Int)) ∧ ∃ v9 : Int, ∃ v10 : Int, ∃ v11 : ByteArray, ∃ v12 : Sl, V1.rowp v2.p ((v8).toNat * 4) 4 = some [.int .i64 v9, .int .i64 v10, .string v11, .slice v12.p v12.n v12.c] ∧
 Tri Tryz.prog 17 #[.agg #[.int .i64 v9, .int .i64 v10, .string v11, .slice v12.p v12.n v12.c]] V1 fun e V2 => ∃ v13 : Bool, e = .returned (.bool v13) ∧
 (v13 = true →
 (K.inR .i64 (v8 + (1 : Int))) ∧ J0 [.bool v7, .int .i64 (v8 + (1 : Int))] V2) ∧ (¬ (v13 = true) →
 R (.returned (.bool false)) V2)) ∧ (¬ (v8 < (v2.n : Int)) →
 R (.returned (.bool true)) V1)))
theorem x182 {v0 : Int} {v1 : ByteArray} {v2 : Sl} {v3 : Sl} {v4 : Sl} {v5 : Int} {v6 : Int} {V : Mem} {R : Ending → Mem → Prop} (h : w182 v0 v1 v2 v3 v4 v5 v6 V R) : Tri Tryz.prog 182 #[.agg #[.int .i64 v0, .string v1, .slice v2.p v2.n v2.c, .slice v3.p v3.n v3.c, .slice v4.p v4.n v4.c], .int .i64 v5, .int .i64 v6] V R :=
 tri_dx (H := { N := 34, early := [], loops := [], keep := [0, 1, 2, 3, 6, 7, 19, 24, 33] }) Tryz.func182 [.agg (.cons (.var (.i .i64) 0) (.cons (.var .s 1) (.cons (.var .sl 2) (.cons (.var .sl 3) (.cons (.var .sl 4) .nil))))), .var (.i .i64) 5, .var (.i .i64) 6] [.int .i64 v0, .string v1, .slice v2.p v2.n v2.c, .slice v3.p v3.n v3.c, .slice v4.p v4.n v4.c, .int .i64 v5, .int .i64 v6] rfl (by kernel_rfl) h
def w183 (v0 : Sl) (v1 : Value) (V : Mem) (R : Ending → Mem → Prop) : Prop :=
 ∃ (I : Nat → List Value → Mem → Prop) (n0 : Nat), I n0 [.int .i64 0, .int .i64 0] V ∧ ∀ n V1, ∀ v2 : Int, ∀ v3 : Int, I n [.int .i64 v2, .int .i64 v3] V1 → ∀ J0 : List Value → Mem → Prop, (∀ m ys V'', m < n → I m ys V'' → J0 ys V'') →
 (v3 < (v0.n : Int) →
 (¬ (v0.p = none)) ∧ ((0 : Int) ≤ v3) ∧ (v3 < (v0.n : Int)) ∧ ∃ v4 : Int, ∃ v5 : Int, ∃ v6 : ByteArray, ∃ v7 : Sl, V1.rowp v0.p ((v3).toNat * 4) 4 = some [.int .i64 v4, .int .i64 v5, .string v6, .slice v7.p v7.n v7.c] ∧
 ∃ f first caps, (K.cast .f v1) = .func (.func f) first caps ∧ (∀ args w, (callFunc f args).run Tryz.prog w = .ok (.enter f args) w) ∧
 Tri Tryz.prog f (first ++ #[.agg #[.int .i64 v4, .int .i64 v5, .string v6, .slice v7.p v7.n v7.c]] ++ caps) V1 fun e V2 => ∃ v8 : Bool, e = .returned (.bool v8) ∧
 (v8 = true →
 R (.returned (.int .i64 v3)) V2) ∧ (¬ (v8 = true) →
 (K.inR .i64 (v3 + (1 : Int))) ∧ J0 [.int .i64 v2, .int .i64 (v3 + (1 : Int))] V2)) ∧ (¬ (v3 < (v0.n : Int)) →
 R (.returned (.int .i64 (-1))) V1)
theorem x183 {v0 : Sl} {v1 : Value} {V : Mem} {R : Ending → Mem → Prop} (h : w183 v0 v1 V R) : Tri Tryz.prog 183 #[.slice v0.p v0.n v0.c, (K.cast .f v1)] V R :=
 tri_dx (H := { N := 19, early := [], loops := [], keep := [0, 1, 4, 5, 7, 8, 9, 16] }) Tryz.func183 [.var .sl 0, .var .f 1] [.slice v0.p v0.n v0.c, v1] rfl (by kernel_rfl) h
def w185 (v0 : Sl) (v1 : Value) (V : Mem) (R : Ending → Mem → Prop) : Prop :=
 ∃ (I : Nat → List Value → Mem → Prop) (n0 : Nat), I n0 [.int .i64 0, .int .i64 0] V ∧ ∀ n V1, ∀ v2 : Int, ∀ v3 : Int, I n [.int .i64 v2, .int .i64 v3] V1 → ∀ J0 : List Value → Mem → Prop, (∀ m ys V'', m < n → I m ys V'' → J0 ys V'') →
 (v3 < (v0.n : Int) →
 (¬ (v0.p = none)) ∧ ((0 : Int) ≤ v3) ∧ (v3 < (v0.n : Int)) ∧ ∃ v4 : ByteArray, ∃ v5 : ByteArray, ∃ v6 : Int, ∃ v7 : Int, ∃ v8 : Int, ∃ v9 : ByteArray, ∃ v10 : Sl, V1.rowp v0.p ((v3).toNat * 7) 7 = some [.string v4, .string v5, .int .i64 v6, .int .i64 v7, .int .i64 v8, .string v9, .slice v10.p v10.n v10.c] ∧
 ∃ f first caps, (K.cast .f v1) = .func (.func f) first caps ∧ (∀ args w, (callFunc f args).run Tryz.prog w = .ok (.enter f args) w) ∧
 Tri Tryz.prog f (first ++ #[.agg #[.string v4, .string v5, .int .i64 v6, .int .i64 v7, .int .i64 v8, .string v9, .slice v10.p v10.n v10.c]] ++ caps) V1 fun e V2 => ∃ v11 : Bool, e = .returned (.bool v11) ∧
 (v11 = true →
 R (.returned (.int .i64 v3)) V2) ∧ (¬ (v11 = true) →
 (K.inR .i64 (v3 + (1 : Int))) ∧ J0 [.int .i64 v2, .int .i64 (v3 + (1 : Int))] V2)) ∧ (¬ (v3 < (v0.n : Int)) →
 R (.returned (.int .i64 (-1))) V1)
theorem x185 {v0 : Sl} {v1 : Value} {V : Mem} {R : Ending → Mem → Prop} (h : w185 v0 v1 V R) : Tri Tryz.prog 185 #[.slice v0.p v0.n v0.c, (K.cast .f v1)] V R :=
 tri_dx (H := { N := 19, early := [], loops := [], keep := [0, 1, 4, 5, 7, 8, 9, 16] }) Tryz.func185 [.var .sl 0, .var .f 1] [.slice v0.p v0.n v0.c, v1] rfl (by kernel_rfl) h
def w186 (v0 : ByteArray) (v1 : ByteArray) (v2 : Int) (v3 : Int) (v4 : Int) (v5 : ByteArray) (v6 : Sl) (v7 : Option Addr) (V : Mem) (R : Ending → Mem → Prop) : Prop :=
 ∃ v8 : ByteArray, V.rowp v7 (((0 : Int)).toNat * 1) 1 = some [.string v8] ∧
 R (.returned (.bool (decide (v0 = v8)))) V
theorem x186 {v0 : ByteArray} {v1 : ByteArray} {v2 : Int} {v3 : Int} {v4 : Int} {v5 : ByteArray} {v6 : Sl} {v7 : Option Addr} {V : Mem} {R : Ending → Mem → Prop} (h : w186 v0 v1 v2 v3 v4 v5 v6 v7 V R) : Tri Tryz.prog 186 #[.agg #[.string v0, .string v1, .int .i64 v2, .int .i64 v3, .int .i64 v4, .string v5, .slice v6.p v6.n v6.c], .pointer v7] V R :=
 tri_dx (H := { N := 8, early := [], loops := [], keep := [0, 1, 2, 3] }) Tryz.func186 [.agg (.cons (.var .s 0) (.cons (.var .s 1) (.cons (.var (.i .i64) 2) (.cons (.var (.i .i64) 3) (.cons (.var (.i .i64) 4) (.cons (.var .s 5) (.cons (.var .sl 6) .nil))))))), .var .p 7] [.string v0, .string v1, .int .i64 v2, .int .i64 v3, .int .i64 v4, .string v5, .slice v6.p v6.n v6.c, .pointer v7] rfl (by kernel_rfl) h
def w187 (v0 : Sl) (v1 : Value) (V : Mem) (R : Ending → Mem → Prop) : Prop :=
 ∃ (I : Nat → List Value → Mem → Prop) (n0 : Nat), I n0 [.int .i64 0, .int .i64 0] V ∧ ∀ n V1, ∀ v2 : Int, ∀ v3 : Int, I n [.int .i64 v2, .int .i64 v3] V1 → ∀ J0 : List Value → Mem → Prop, (∀ m ys V'', m < n → I m ys V'' → J0 ys V'') →
 (v3 < (v0.n : Int) →
 (¬ (v0.p = none)) ∧ ((0 : Int) ≤ v3) ∧ (v3 < (v0.n : Int)) ∧ ∃ v4 : ByteArray, V1.rowp v0.p ((v3).toNat * 1) 1 = some [.string v4] ∧
 ∃ f first caps, (K.cast .f v1) = .func (.func f) first caps ∧ (∀ args w, (callFunc f args).run Tryz.prog w = .ok (.enter f args) w) ∧
 Tri Tryz.prog f (first ++ #[.string v4] ++ caps) V1 fun e V2 => ∃ v5 : Bool, e = .returned (.bool v5) ∧
 (v5 = true →
 R (.returned (.int .i64 v3)) V2) ∧ (¬ (v5 = true) →
 (K.inR .i64 (v3 + (1 : Int))) ∧ J0 [.int .i64 v2, .int .i64 (v3 + (1 : Int))] V2)) ∧ (¬ (v3 < (v0.n : Int)) →
 R (.returned (.int .i64 (-1))) V1)
theorem x187 {v0 : Sl} {v1 : Value} {V : Mem} {R : Ending → Mem → Prop} (h : w187 v0 v1 V R) : Tri Tryz.prog 187 #[.slice v0.p v0.n v0.c, (K.cast .f v1)] V R :=
 tri_dx (H := { N := 19, early := [], loops := [], keep := [0, 1, 4, 5, 7, 8, 9, 16] }) Tryz.func187 [.var .sl 0, .var .f 1] [.slice v0.p v0.n v0.c, v1] rfl (by kernel_rfl) h
def w188 (v0 : ByteArray) (v1 : ByteArray) (V : Mem) (R : Ending → Mem → Prop) : Prop :=
 Tri Tryz.prog 191 #[.string v0] V fun e V1 => ∃ v2 : Bool, e = .returned (.bool v2) ∧
 (v2 = true →
 Tri Tryz.prog 191 #[.string v1] V1 fun e V2 => ∃ v3 : Bool, e = .returned (.bool v3) ∧
 (v3 = true →
 R (.returned (.bool (Op.bytesLess (v0).toList (v1).toList))) V2) ∧ (¬ (v3 = true) →
 R (.returned (.bool true)) V2)) ∧ (¬ (v2 = true) →
 R (.returned (.bool (Op.bytesLess (v0).toList (v1).toList))) V1)
theorem x188 {v0 : ByteArray} {v1 : ByteArray} {V : Mem} {R : Ending → Mem → Prop} (h : w188 v0 v1 V R) : Tri Tryz.prog 188 #[.string v0, .string v1] V R :=
 tri_dx (H := { N := 17, early := [], loops := [], keep := [0, 1, 4] }) Tryz.func188 [.var .s 0, .var .s 1] [.string v0, .string v1] rfl (by kernel_rfl) h
def w189 (v0 : ByteArray) (V : Mem) (R : Ending → Mem → Prop) : Prop :=
 R (.returned (.bool (!(decide (v0 = v0))))) V
theorem x189 {v0 : ByteArray} {V : Mem} {R : Ending → Mem → Prop} (h : w189 v0 V R) : Tri Tryz.prog 189 #[.string v0] V R :=
 tri_dx (H := { N := 6, early := [], loops := [], keep := [0, 2] }) Tryz.func189 [.var .s 0] [.string v0] rfl (by kernel_rfl) h
def w191 (v0 : ByteArray) (V : Mem) (R : Ending → Mem → Prop) : Prop :=
 R (.returned (.bool (!(decide (v0 = v0))))) V
theorem x191 {v0 : ByteArray} {V : Mem} {R : Ending → Mem → Prop} (h : w191 v0 V R) : Tri Tryz.prog 191 #[.string v0] V R :=
 tri_dx (H := { N := 6, early := [], loops := [], keep := [0, 2] }) Tryz.func191 [.var .s 0] [.string v0] rfl (by kernel_rfl) h
def w11 (v0 : ByteArray) (v1 : Sl) (v2 : Sl) (v3 : Sl) (v4 : Sl) (v5 : Sl) (v6 : Sl) (v7 : Sl) (V : Mem) (R : Ending → Mem → Prop) : Prop :=
 PubT [.int .i64 0] 3 V fun v8 V1 =>
 StT (ptrAdd v8 0) 0 [.int .i64 1200] V1 fun V2 =>
 ((100 : Int) < ((v0).size : Int) →
 R (.returned (.bool false)) V2) ∧ (¬ ((100 : Int) < ((v0).size : Int)) →
 ((20 : Int) < (v1.n : Int) →
 R (.returned (.bool false)) V2) ∧ (¬ ((20 : Int) < (v1.n : Int)) →
 Tri Tryz.prog 47 #[.slice v2.p v2.n v2.c] V2 fun e V3 => ∃ v9 : Bool, e = .returned (.bool v9) ∧
 (v9 = true →
 ((45 : Int) < (v3.n : Int) →
 R (.returned (.bool false)) V3) ∧ (¬ ((45 : Int) < (v3.n : Int)) →
 ((20 : Int) < (v4.n : Int) →
 R (.returned (.bool false)) V3) ∧ (¬ ((20 : Int) < (v4.n : Int)) →
 ((20 : Int) < (v5.n : Int) →
 R (.returned (.bool false)) V3) ∧ (¬ ((20 : Int) < (v5.n : Int)) →
 ((20 : Int) < (v6.n : Int) →
 R (.returned (.bool false)) V3) ∧ (¬ ((20 : Int) < (v6.n : Int)) →
 ((20 : Int) < (v7.n : Int) →
 R (.returned (.bool false)) V3) ∧ (¬ ((20 : Int) < (v7.n : Int)) →
 ∃ (I : Nat → List Value → Mem → Prop) (n0 : Nat), I n0 [.bool false, .int .i64 0] V3 ∧ ∀ n V4, ∀ v10 : Bool, ∀ v11 : Int, I n [.bool v10, .int .i64 v11] V4 → ∀ J0 : List Value → Mem → Prop, (∀ m ys V'', m < n → I m ys V'' → J0 ys V'') →
 (v11 < (v1.n : Int) →
 (¬ (v1.p = none)) ∧ ((0 : Int) ≤ v11) ∧ (v11 < (v1.n : Int)) ∧ ∃ v12 : ByteArray, ∃ v13 : Sl, V4.rowp v1.p ((v11).toNat * 2) 2 = some [.string v12, .slice v13.p v13.n v13.c] ∧
 ((100 : Int) < ((v12).size : Int) →
 R (.returned (.bool false)) V4) ∧ (¬ ((100 : Int) < ((v12).size : Int)) →
 Tri Tryz.prog 47 #[.slice v13.p v13.n v13.c] V4 fun e V5 => ∃ v14 : Bool, e = .returned (.bool v14) ∧
 (v14 = true →
 (K.inR .i64 (v11 + (1 : Int))) ∧ J0 [.bool v10, .int .i64 (v11 + (1 : Int))] V5) ∧ (¬ (v14 = true) →
 R (.returned (.bool false)) V5))) ∧ (¬ (v11 < (v1.n : Int)) →
 ∃ (I : Nat → List Value → Mem → Prop) (n0 : Nat), I n0 [.bool v10, .int .i64 0] V4 ∧ ∀ n V5, ∀ v12 : Bool, ∀ v13 : Int, I n [.bool v12, .int .i64 v13] V5 → ∀ J1 : List Value → Mem → Prop, (∀ m ys V'', m < n → I m ys V'' → J1 ys V'') →
 (v13 < (v3.n : Int) →
 (¬ (v3.p = none)) ∧ ((0 : Int) ≤ v13) ∧ (v13 < (v3.n : Int)) ∧ ∃ v14 : ByteArray, ∃ v15 : Sl, ∃ v16 : ByteArray, ∃ v17 : Sl, ∃ v18 : Sl, V5.rowp v3.p ((v13).toNat * 5) 5 = some [.string v14, .slice v15.p v15.n v15.c, .string v16, .slice v17.p v17.n v17.c, .slice v18.p v18.n v18.c] ∧
 ((100 : Int) < ((v14).size : Int) →
 R (.returned (.bool false)) V5) ∧ (¬ ((100 : Int) < ((v14).size : Int)) →
 ((100 : Int) < ((v16).size : Int) →
 R (.returned (.bool false)) V5) ∧ (¬ ((100 : Int) < ((v16).size : Int)) →
 Tri Tryz.prog 47 #[.slice v15.p v15.n v15.c] V5 fun e V6 => ∃ v19 : Bool, e = .returned (.bool v19) ∧
 (v19 = true →
 Tri Tryz.prog 47 #[.slice v17.p v17.n v17.c] V6 fun e V7 => ∃ v20 : Bool, e = .returned (.bool v20) ∧
 (v20 = true →
 Tri Tryz.prog 48 #[.slice v18.p v18.n v18.c, .pointer (ptrAdd v8 0), .int .i64 1] V7 fun e V8 => ∃ v21 : Bool, e = .returned (.bool v21) ∧
 (v21 = true →
 (K.inR .i64 (v13 + (1 : Int))) ∧ J1 [.bool v12, .int .i64 (v13 + (1 : Int))] V8) ∧ (¬ (v21 = true) →
 R (.returned (.bool false)) V8)) ∧ (¬ (v20 = true) →
 R (.returned (.bool false)) V7)) ∧ (¬ (v19 = true) →
 R (.returned (.bool false)) V6)))) ∧ (¬ (v13 < (v3.n : Int)) →
 ∃ (I : Nat → List Value → Mem → Prop) (n0 : Nat), I n0 [.bool v12, .int .i64 0] V5 ∧ ∀ n V6, ∀ v14 : Bool, ∀ v15 : Int, I n [.bool v14, .int .i64 v15] V6 → ∀ J2 : List Value → Mem → Prop, (∀ m ys V'', m < n → I m ys V'' → J2 ys V'') →
 (v15 < (v4.n : Int) →
 (¬ (v4.p = none)) ∧ ((0 : Int) ≤ v15) ∧ (v15 < (v4.n : Int)) ∧ ∃ v16 : ByteArray, ∃ v17 : ByteArray, ∃ v18 : Int, ∃ v19 : Int, ∃ v20 : Int, ∃ v21 : ByteArray, ∃ v22 : Sl, V6.rowp v4.p ((v15).toNat * 7) 7 = some [.string v16, .string v17, .int .i64 v18, .int .i64 v19, .int .i64 v20, .string v21, .slice v22.p v22.n v22.c] ∧
 ((100 : Int) < ((v16).size : Int) →
 R (.returned (.bool false)) V6) ∧ (¬ ((100 : Int) < ((v16).size : Int)) →
 ((100 : Int) < ((v17).size : Int) →
 R (.returned (.bool false)) V6) ∧ (¬ ((100 : Int) < ((v17).size : Int)) →
 Tri Tryz.prog 15 #[.agg #[.int .i64 v19, .int .i64 v20, .string v21, .slice v22.p v22.n v22.c], .pointer (ptrAdd v8 0), .int .i64 1] V6 fun e V7 => ∃ v23 : Bool, e = .returned (.bool v23) ∧
 (v23 = true →
 (K.inR .i64 (v15 + (1 : Int))) ∧ J2 [.bool v14, .int .i64 (v15 + (1 : Int))] V7) ∧ (¬ (v23 = true) →
 R (.returned (.bool false)) V7)))) ∧ (¬ (v15 < (v4.n : Int)) →
 ∃ (I : Nat → List Value → Mem → Prop) (n0 : Nat), I n0 [.bool v14, .int .i64 0] V6 ∧ ∀ n V7, ∀ v16 : Bool, ∀ v17 : Int, I n [.bool v16, .int .i64 v17] V7 → ∀ J3 : List Value → Mem → Prop, (∀ m ys V'', m < n → I m ys V'' → J3 ys V'') →
 (v17 < (v5.n : Int) →
 (¬ (v5.p = none)) ∧ ((0 : Int) ≤ v17) ∧ (v17 < (v5.n : Int)) ∧ ∃ v18 : ByteArray, ∃ v19 : ByteArray, ∃ v20 : Int, ∃ v21 : Int, ∃ v22 : ByteArray, ∃ v23 : Sl, V7.rowp v5.p ((v17).toNat * 6) 6 = some [.string v18, .string v19, .int .i64 v20, .int .i64 v21, .string v22, .slice v23.p v23.n v23.c] ∧
 ((100 : Int) < ((v18).size : Int) →
 R (.returned (.bool false)) V7) ∧ (¬ ((100 : Int) < ((v18).size : Int)) →
 ((100 : Int) < ((v19).size : Int) →
 R (.returned (.bool false)) V7) ∧ (¬ ((100 : Int) < ((v19).size : Int)) →
 Tri Tryz.prog 15 #[.agg #[.int .i64 v20, .int .i64 v21, .string v22, .slice v23.p v23.n v23.c], .pointer (ptrAdd v8 0), .int .i64 1] V7 fun e V8 => ∃ v24 : Bool, e = .returned (.bool v24) ∧
 (v24 = true →
 (K.inR .i64 (v17 + (1 : Int))) ∧ J3 [.bool v16, .int .i64 (v17 + (1 : Int))] V8) ∧ (¬ (v24 = true) →
 R (.returned (.bool false)) V8)))) ∧ (¬ (v17 < (v5.n : Int)) →
 ∃ (I : Nat → List Value → Mem → Prop) (n0 : Nat), I n0 [.bool v16, .int .i64 0] V7 ∧ ∀ n V8, ∀ v18 : Bool, ∀ v19 : Int, I n [.bool v18, .int .i64 v19] V8 → ∀ J4 : List Value → Mem → Prop, (∀ m ys V'', m < n → I m ys V'' → J4 ys V'') →
 (v19 < (v6.n : Int) →
 (¬ (v6.p = none)) ∧ ((0 : Int) ≤ v19) ∧ (v19 < (v6.n : Int)) ∧ ∃ v20 : ByteArray, ∃ v21 : Int, ∃ v22 : Int, ∃ v23 : ByteArray, ∃ v24 : Sl, V8.rowp v6.p ((v19).toNat * 5) 5 = some [.string v20, .int .i64 v21, .int .i64 v22, .string v23, .slice v24.p v24.n v24.c] ∧
 ((100 : Int) < ((v20).size : Int) →
 R (.returned (.bool false)) V8) ∧ (¬ ((100 : Int) < ((v20).size : Int)) →
 Tri Tryz.prog 15 #[.agg #[.int .i64 v21, .int .i64 v22, .string v23, .slice v24.p v24.n v24.c], .pointer (ptrAdd v8 0), .int .i64 1] V8 fun e V9 => ∃ v25 : Bool, e = .returned (.bool v25) ∧
 (v25 = true →
 (K.inR .i64 (v19 + (1 : Int))) ∧ J4 [.bool v18, .int .i64 (v19 + (1 : Int))] V9) ∧ (¬ (v25 = true) →
 R (.returned (.bool false)) V9))) ∧ (¬ (v19 < (v6.n : Int)) →
 ∃ (I : Nat → List Value → Mem → Prop) (n0 : Nat), I n0 [.bool v18, .int .i64 0] V8 ∧ ∀ n V9, ∀ v20 : Bool, ∀ v21 : Int, I n [.bool v20, .int .i64 v21] V9 → ∀ J5 : List Value → Mem → Prop, (∀ m ys V'', m < n → I m ys V'' → J5 ys V'') →
 (v21 < (v7.n : Int) →
 (¬ (v7.p = none)) ∧ ((0 : Int) ≤ v21) ∧ (v21 < (v7.n : Int)) ∧ ∃ v22 : ByteArray, ∃ v23 : Int, ∃ v24 : Int, ∃ v25 : ByteArray, ∃ v26 : Sl, V9.rowp v7.p ((v21).toNat * 5) 5 = some [.string v22, .int .i64 v23, .int .i64 v24, .string v25, .slice v26.p v26.n v26.c] ∧
 ((100 : Int) < ((v22).size : Int) →
 R (.returned (.bool false)) V9) ∧ (¬ ((100 : Int) < ((v22).size : Int)) →
 Tri Tryz.prog 15 #[.agg #[.int .i64 v23, .int .i64 v24, .string v25, .slice v26.p v26.n v26.c], .pointer (ptrAdd v8 0), .int .i64 1] V9 fun e V10 => ∃ v27 : Bool, e = .returned (.bool v27) ∧
 (v27 = true →
 (K.inR .i64 (v21 + (1 : Int))) ∧ J5 [.bool v20, .int .i64 (v21 + (1 : Int))] V10) ∧ (¬ (v27 = true) →
 R (.returned (.bool false)) V10))) ∧ (¬ (v21 < (v7.n : Int)) →
 R (.returned (.bool true)) V9)))))))))))) ∧ (¬ (v9 = true) →
 R (.returned (.bool false)) V3)))
theorem x11 {v0 : ByteArray} {v1 : Sl} {v2 : Sl} {v3 : Sl} {v4 : Sl} {v5 : Sl} {v6 : Sl} {v7 : Sl} {V : Mem} {R : Ending → Mem → Prop} (h : w11 v0 v1 v2 v3 v4 v5 v6 v7 V R) : Tri Tryz.prog 11 #[.agg #[.string v0, .slice v1.p v1.n v1.c, .slice v2.p v2.n v2.c, .slice v3.p v3.n v3.c, .slice v4.p v4.n v4.c, .slice v5.p v5.n v5.c, .slice v6.p v6.n v6.c, .slice v7.p v7.n v7.c]] V R :=
 tri_dx (H := { N := 200, early := [3], loops := [], keep := [0, 1, 2, 3, 5, 7, 9, 11, 13, 15, 61, 63, 64, 65, 66, 78, 81, 82, 83, 84, 114, 117, 118, 119, 120, 138, 141, 142, 143, 144, 162, 165, 166, 167, 168, 180, 183, 184, 185, 186, 198] }) Tryz.func11 [.agg (.cons (.var .s 0) (.cons (.var .sl 1) (.cons (.var .sl 2) (.cons (.var .sl 3) (.cons (.var .sl 4) (.cons (.var .sl 5) (.cons (.var .sl 6) (.cons (.var .sl 7) .nil))))))))] [.string v0, .slice v1.p v1.n v1.c, .slice v2.p v2.n v2.c, .slice v3.p v3.n v3.c, .slice v4.p v4.n v4.c, .slice v5.p v5.n v5.c, .slice v6.p v6.n v6.c, .slice v7.p v7.n v7.c] rfl (by kernel_rfl) h
def w51 (v0 : Option Addr) (V : Mem) (R : Ending → Mem → Prop) : Prop :=
 GenK Tryz.prog (.makeFunc (.func 94) #[.tmp 6] #[]) 101 (gval [(6, (.var .p 0))] [.pointer v0]) V fun x V1 => ∃ v1 : Value, K.f.ok v1 ∧ x = v1 ∧
 GenK Tryz.prog (.makeFunc (.func 95) #[.tmp 8] #[]) 101 (gval [(8, (.var .p 0))] [.pointer v0, v1]) V1 fun x V2 => ∃ v2 : Value, K.f.ok v2 ∧ x = v2 ∧
 GenK Tryz.prog (.makeFunc (.func 96) #[.tmp 10] #[]) 101 (gval [(10, (.var .p 0))] [.pointer v0, v1, v2]) V2 fun x V3 => ∃ v3 : Value, K.f.ok v3 ∧ x = v3 ∧
 GenK Tryz.prog (.makeFunc (.func 97) #[.tmp 12] #[]) 101 (gval [(12, (.var .p 0))] [.pointer v0, v1, v2, v3]) V3 fun x V4 => ∃ v4 : Value, K.f.ok v4 ∧ x = v4 ∧
 GenK Tryz.prog (.makeFunc (.func 98) #[.tmp 14] #[]) 101 (gval [(14, (.var .p 0))] [.pointer v0, v1, v2, v3, v4]) V4 fun x V5 => ∃ v5 : Value, K.f.ok v5 ∧ x = v5 ∧
 PubT [(K.cast .f v1), (K.cast .f v2), (K.cast .f v3), (K.cast .f v4), (K.cast .f v5)] 101 V5 fun v6 V6 =>
 ∃ (I : Nat → List Value → Mem → Prop) (n0 : Nat), I n0 [.pointer none, .int .i64 0] V6 ∧ ∀ n V7, ∀ v7 : Option Addr, ∀ v8 : Int, I n [.pointer v7, .int .i64 v8] V7 → ∀ J0 : List Value → Mem → Prop, (∀ m ys V'', m < n → I m ys V'' → J0 ys V'') →
 (v8 < (5 : Int) →
 (¬ ((ptrAdd v6 0) = none)) ∧ ((0 : Int) ≤ v8) ∧ (v8 < (5 : Int)) ∧ ∃ v9 : Value, K.f.ok v9 ∧ V7.rowp (ptrAdd v6 0) ((v8).toNat * 1) 1 = some [v9] ∧
 ∃ f first caps, (K.cast .f v9) = .func (.func f) first caps ∧ (∀ args w, (callFunc f args).run Tryz.prog w = .ok (.enter f args) w) ∧
 Tri Tryz.prog f (first ++ #[] ++ caps) V7 fun e V8 => ∃ v10 : Option Addr, e = .returned (.pointer v10) ∧
 (v10 = none →
 (K.inR .i64 (v8 + (1 : Int))) ∧ J0 [.pointer v7, .int .i64 (v8 + (1 : Int))] V8) ∧ (¬ (v10 = none) →
 R (.returned (.pointer v10)) V8)) ∧ (¬ (v8 < (5 : Int)) →
 R (.returned (.pointer none)) V7)
theorem x51 {v0 : Option Addr} {V : Mem} {R : Ending → Mem → Prop} (h : w51 v0 V R) : Tri Tryz.prog 51 #[.pointer v0] V R :=
 tri_dx (H := { N := 28, early := [16], loops := [], keep := [0, 2, 4, 5, 16, 17, 18, 19, 25] }) Tryz.func51 [.var .p 0] [.pointer v0] rfl (by kernel_rfl) h
def w146 (v0 : Option Addr) (v1 : Option Nat) (v2 : Bool) (v3 : Sl) (v4 : ByteArray) (v5 : Option Addr) (V : Mem) (R : Ending → Mem → Prop) : Prop :=
 ∃ (I : Nat → List Value → Mem → Prop) (n0 : Nat), I n0 [.int .i64 0, .int .i64 0, .int .i64 0] V ∧ ∀ n V1, ∀ v6 : Int, ∀ v7 : Int, ∀ v8 : Int, I n [.int .i64 v6, .int .i64 v7, .int .i64 v8] V1 → ∀ J0 : List Value → Mem → Prop, (∀ m ys V'', m < n → I m ys V'' → J0 ys V'') →
 (v8 < (v3.n : Int) →
 (¬ (v3.p = none)) ∧ ((0 : Int) ≤ v8) ∧ (v8 < (v3.n : Int)) ∧ ∃ v9 : Int, ∃ v10 : ByteArray, ∃ v11 : Sl, ∃ v12 : Sl, ∃ v13 : Sl, V1.rowp v3.p ((v8).toNat * 5) 5 = some [.int .i64 v9, .string v10, .slice v11.p v11.n v11.c, .slice v12.p v12.n v12.c, .slice v13.p v13.n v13.c] ∧
 (¬ (v5 = none)) ∧ ∃ v14 : Int, V1.rowp v5 (((0 : Int)).toNat * 1) 1 = some [.int .i64 v14] ∧
 (¬ (v5 = none)) ∧ ∃ v15 : Int, V1.rowp v5 (((0 : Int)).toNat * 1) 1 = some [.int .i64 v15] ∧
 (K.inR .i64 (v15 + (1 : Int))) ∧ (¬ (v5 = none)) ∧ StT v5 0 [.int .i64 (v15 + (1 : Int))] V1 fun V2 =>
 Tri Tryz.prog 181 #[.agg #[.pointer v0, .map v1, .bool v2], .agg #[.int .i64 v9, .string v10, .slice v11.p v11.n v11.c, .slice v12.p v12.n v12.c, .slice v13.p v13.n v13.c], .string v4] V2 fun e V3 => ∃ v16 : Int, e = .returned (.int .i64 v16) ∧
 (v16 = (0 : Int) →
 PubT [.slice v12.p v12.n v12.c, .slice v13.p v13.n v13.c] 52 V3 fun v17 V4 =>
 ∃ (I : Nat → List Value → Mem → Prop) (n0 : Nat), I n0 [.int .i64 v6, .int .i64 v7, .int .i64 0] V4 ∧ ∀ n V5, ∀ v18 : Int, ∀ v19 : Int, ∀ v20 : Int, I n [.int .i64 v18, .int .i64 v19, .int .i64 v20] V5 → ∀ J1 : List Value → Mem → Prop, (∀ m ys V'', m < n → I m ys V'' → J1 ys V'') →
 (v20 < (2 : Int) →
 (¬ ((ptrAdd v17 0) = none)) ∧ ((0 : Int) ≤ v20) ∧ (v20 < (2 : Int)) ∧ ∃ v21 : Sl, V5.rowp (ptrAdd v17 0) ((v20).toNat * 1) 1 = some [.slice v21.p v21.n v21.c] ∧
 Tri Tryz.prog 146 #[.agg #[.pointer v0, .map v1, .bool v2], .slice v21.p v21.n v21.c, .string v4, .pointer v5] V5 fun e V6 => ∃ v22 : Int, ∃ v23 : Int, e = .returned (.tuple #[.int .i64 v22, .int .i64 v23]) ∧
 (v23 = (0 : Int) →
 (K.inR .i64 (v20 + (1 : Int))) ∧ J1 [.int .i64 v18, .int .i64 v19, .int .i64 (v20 + (1 : Int))] V6) ∧ (¬ (v23 = (0 : Int)) →
 R (.returned (.tuple #[.int .i64 v22, .int .i64 v23])) V6)) ∧ (¬ (v20 < (2 : Int)) →
 (K.inR .i64 (v8 + (1 : Int))) ∧ J0 [.int .i64 v18, .int .i64 v19, .int .i64 (v8 + (1 : Int))] V5)) ∧ (¬ (v16 = (0 : Int)) →
 R (.returned (.tuple #[.int .i64 v14, .int .i64 v16])) V3)) ∧ (¬ (v8 < (v3.n : Int)) →
 R (.returned (.tuple #[.int .i64 0, .int .i64 0])) V1)
theorem x146 {v0 : Option Addr} {v1 : Option Nat} {v2 : Bool} {v3 : Sl} {v4 : ByteArray} {v5 : Option Addr} {V : Mem} {R : Ending → Mem → Prop} (h : w146 v0 v1 v2 v3 v4 v5 V R) : Tri Tryz.prog 146 #[.agg #[.pointer v0, .map v1, .bool v2], .slice v3.p v3.n v3.c, .string v4, .pointer v5] V R :=
 tri_dx (H := { N := 64, early := [44], loops := [], keep := [0, 1, 2, 3, 4, 8, 9, 11, 12, 13, 15, 16, 17, 18, 19, 20, 21, 37, 44, 45, 46, 47, 59] }) Tryz.func146 [.agg (.cons (.var .p 0) (.cons (.var .m 1) (.cons (.var .b 2) .nil))), .var .sl 3, .var .s 4, .var .p 5] [.pointer v0, .map v1, .bool v2, .slice v3.p v3.n v3.c, .string v4, .pointer v5] rfl (by kernel_rfl) h
end Go.Proofs
