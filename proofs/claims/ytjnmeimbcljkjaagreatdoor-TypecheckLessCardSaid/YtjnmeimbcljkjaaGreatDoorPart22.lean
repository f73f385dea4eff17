/- Part 22 of a proof of a law of this seat: no statement of the seat is proved here. -/
import Derived.Test.YtjnmeimbcljkjaaGreatDoorPart06
import Derived.Test.YtjnmeimbcljkjaaGreatDoorPart16
import Derived.Test.YtjnmeimbcljkjaaGreatDoorPart20
set_option linter.unusedVariables false
set_option linter.unusedSimpArgs false
namespace Go.Proofs
open Go Go.Sx
set_option maxRecDepth 100000
def w4 (v0 : ByteArray) (v1 : Sl) (v2 : Sl) (v3 : Sl) (v4 : Sl) (v5 : Sl) (v6 : Sl) (v7 : Sl) (v8 : ByteArray) (v9 : Int) (v10 : Int) (v11 : ByteArray) (v12 : Sl) (V : Mem) (R : Ending → Mem → Prop) : Prop :=
 Tri Tryz.prog 10 #[] V fun e V1 => ∃ v13 : Bool, e = .returned (.bool v13) ∧
 (v13 = true →
 Tri Tryz.prog 11 #[.agg #[.string v0, .slice v1.p v1.n v1.c, .slice v2.p v2.n v2.c, .slice v3.p v3.n v3.c, .slice v4.p v4.n v4.c, .slice v5.p v5.n v5.c, .slice v6.p v6.n v6.c, .slice v7.p v7.n v7.c]] V1 fun e V2 => ∃ v14 : Bool, e = .returned (.bool v14) ∧
 (v14 = true →
 ((100 : Int) < ((v8).size : Int) →
 Tri Tryz.prog 10 #[] V2 fun e V3 => ∃ v15 : Bool, e = .returned (.bool v15) ∧
 R (.returned (.bool v15)) V3) ∧ (¬ ((100 : Int) < ((v8).size : Int)) →
 PubT [.int .i64 150] 3 V2 fun v15 V3 =>
 Tri Tryz.prog 15 #[.agg #[.int .i64 v9, .int .i64 v10, .string v11, .slice v12.p v12.n v12.c], .pointer (ptrAdd v15 0), .int .i64 1] V3 fun e V4 => ∃ v16 : Bool, e = .returned (.bool v16) ∧
 (v16 = true →
 Tri Tryz.prog 16 #[.agg #[.string v0, .slice v1.p v1.n v1.c, .slice v2.p v2.n v2.c, .slice v3.p v3.n v3.c, .slice v4.p v4.n v4.c, .slice v5.p v5.n v5.c, .slice v6.p v6.n v6.c, .slice v7.p v7.n v7.c], .string v8, .agg #[.int .i64 v9, .int .i64 v10, .string v11, .slice v12.p v12.n v12.c]] V4 fun e V5 => ∃ v17 : ByteArray, ∃ v18 : Int, e = .returned (.tuple #[.string v17, .int .i64 v18]) ∧
 Tri Tryz.prog 13 #[.agg #[.string v0, .slice v1.p v1.n v1.c, .slice v2.p v2.n v2.c, .slice v3.p v3.n v3.c, .slice v4.p v4.n v4.c, .slice v5.p v5.n v5.c, .slice v6.p v6.n v6.c, .slice v7.p v7.n v7.c]] V5 fun e V6 => ∃ v19 : Bool, e = .returned (.bool v19) ∧
 (v19 = true →
 Tri Tryz.prog 17 #[.agg #[.int .i64 v9, .int .i64 v10, .string v11, .slice v12.p v12.n v12.c]] V6 fun e V7 => ∃ v20 : Bool, e = .returned (.bool v20) ∧
 (v20 = true →
 Tri Tryz.prog 18 #[.agg #[.string v0, .slice v1.p v1.n v1.c, .slice v2.p v2.n v2.c, .slice v3.p v3.n v3.c, .slice v4.p v4.n v4.c, .slice v5.p v5.n v5.c, .slice v6.p v6.n v6.c, .slice v7.p v7.n v7.c]] V7 fun e V8 => ∃ v21 : Bool, e = .returned (.bool v21) ∧
 (v21 = true →
 Tri Tryz.prog 19 #[.agg #[.string v0, .slice v1.p v1.n v1.c, .slice v2.p v2.n v2.c, .slice v3.p v3.n v3.c, .slice v4.p v4.n v4.c, .slice v5.p v5.n v5.c, .slice v6.p v6.n v6.c, .slice v7.p v7.n v7.c], .string v8] V8 fun e V9 => ∃ v22 : Int, e = .returned (.int .i64 v22) ∧
 (v22 < (0 : Int) →
 (v17 = (strB []) →
 R (.returned (.bool (decide (v18 = (12 : Int))))) V9) ∧ (¬ (v17 = (strB [])) →
 R (.returned (.bool false)) V9)) ∧ (¬ (v22 < (0 : Int)) →
 Tri Tryz.prog 19 #[.agg #[.string v0, .slice v1.p v1.n v1.c, .slice v2.p v2.n v2.c, .slice v3.p v3.n v3.c, .slice v4.p v4.n v4.c, .slice v5.p v5.n v5.c, .slice v6.p v6.n v6.c, .slice v7.p v7.n v7.c], .string v8] V9 fun e V10 => ∃ v23 : Int, e = .returned (.int .i64 v23) ∧
 (¬ (v3.p = none)) ∧ ((0 : Int) ≤ v23) ∧ (v23 < (v3.n : Int)) ∧ ∃ v24 : ByteArray, ∃ v25 : Sl, ∃ v26 : ByteArray, ∃ v27 : Sl, ∃ v28 : Sl, V10.rowp v3.p ((v23).toNat * 5) 5 = some [.string v24, .slice v25.p v25.n v25.c, .string v26, .slice v27.p v27.n v27.c, .slice v28.p v28.n v28.c] ∧
 Tri Tryz.prog 21 #[.agg #[.string v0, .slice v1.p v1.n v1.c, .slice v2.p v2.n v2.c, .slice v3.p v3.n v3.c, .slice v4.p v4.n v4.c, .slice v5.p v5.n v5.c, .slice v6.p v6.n v6.c, .slice v7.p v7.n v7.c], .agg #[.string v24, .slice v25.p v25.n v25.c, .string v26, .slice v27.p v27.n v27.c, .slice v28.p v28.n v28.c]] V10 fun e V11 => ∃ v29 : Sl, ∃ v30 : Bool, e = .returned (.agg #[.slice v29.p v29.n v29.c, .bool v30]) ∧
 Tri Tryz.prog 20 #[.agg #[.string v0, .slice v1.p v1.n v1.c, .slice v2.p v2.n v2.c, .slice v3.p v3.n v3.c, .slice v4.p v4.n v4.c, .slice v5.p v5.n v5.c, .slice v6.p v6.n v6.c, .slice v7.p v7.n v7.c], .agg #[.slice v29.p v29.n v29.c, .bool v30], .agg #[.int .i64 v9, .int .i64 v10, .string v11, .slice v12.p v12.n v12.c]] V11 fun e V12 => ∃ v31 : ByteArray, ∃ v32 : Int, e = .returned (.tuple #[.string v31, .int .i64 v32]) ∧
 (v17 = v31 →
 R (.returned (.bool (decide (v18 = v32)))) V12) ∧ (¬ (v17 = v31) →
 R (.returned (.bool false)) V12))) ∧ (¬ (v21 = true) →
 (v17 = (strB []) →
 R (.returned (.bool (decide (v18 = (13 : Int))))) V8) ∧ (¬ (v17 = (strB [])) →
 R (.returned (.bool false)) V8))) ∧ (¬ (v20 = true) →
 (v17 = (strB []) →
 R (.returned (.bool (decide (v18 = (1 : Int))))) V7) ∧ (¬ (v17 = (strB [])) →
 R (.returned (.bool false)) V7))) ∧ (¬ (v19 = true) →
 (v17 = (strB []) →
 R (.returned (.bool (decide (v18 = (1 : Int))))) V6) ∧ (¬ (v17 = (strB [])) →
 R (.returned (.bool false)) V6))) ∧ (¬ (v16 = true) →
 Tri Tryz.prog 10 #[] V4 fun e V5 => ∃ v17 : Bool, e = .returned (.bool v17) ∧
 R (.returned (.bool v17)) V5))) ∧ (¬ (v14 = true) →
 Tri Tryz.prog 10 #[] V2 fun e V3 => ∃ v15 : Bool, e = .returned (.bool v15) ∧
 R (.returned (.bool v15)) V3)) ∧ (¬ (v13 = true) →
 Tri Tryz.prog 10 #[] V1 fun e V2 => ∃ v14 : Bool, e = .returned (.bool v14) ∧
 R (.returned (.bool v14)) V2)
theorem x4 {v0 : ByteArray} {v1 : Sl} {v2 : Sl} {v3 : Sl} {v4 : Sl} {v5 : Sl} {v6 : Sl} {v7 : Sl} {v8 : ByteArray} {v9 : Int} {v10 : Int} {v11 : ByteArray} {v12 : Sl} {V : Mem} {R : Ending → Mem → Prop} (h : w4 v0 v1 v2 v3 v4 v5 v6 v7 v8 v9 v10 v11 v12 V R) : Tri Tryz.prog 4 #[.agg #[.string v0, .slice v1.p v1.n v1.c, .slice v2.p v2.n v2.c, .slice v3.p v3.n v3.c, .slice v4.p v4.n v4.c, .slice v5.p v5.n v5.c, .slice v6.p v6.n v6.c, .slice v7.p v7.n v7.c], .string v8, .agg #[.int .i64 v9, .int .i64 v10, .string v11, .slice v12.p v12.n v12.c]] V R :=
 tri_dx (H := { N := 96, early := [], loops := [], keep := [0, 1, 2, 3, 5, 6, 7, 8, 9, 10, 11, 28, 37, 52, 62] }) Tryz.func4 [.agg (.cons (.var .s 0) (.cons (.var .sl 1) (.cons (.var .sl 2) (.cons (.var .sl 3) (.cons (.var .sl 4) (.cons (.var .sl 5) (.cons (.var .sl 6) (.cons (.var .sl 7) .nil)))))))), .var .s 8, .agg (.cons (.var (.i .i64) 9) (.cons (.var (.i .i64) 10) (.cons (.var .s 11) (.cons (.var .sl 12) .nil))))] [.string v0, .slice v1.p v1.n v1.c, .slice v2.p v2.n v2.c, .slice v3.p v3.n v3.c, .slice v4.p v4.n v4.c, .slice v5.p v5.n v5.c, .slice v6.p v6.n v6.c, .slice v7.p v7.n v7.c, .string v8, .int .i64 v9, .int .i64 v10, .string v11, .slice v12.p v12.n v12.c] rfl (by kernel_rfl) h
def w5 (v0 : ByteArray) (v1 : Sl) (v2 : Sl) (v3 : Sl) (v4 : Sl) (v5 : Sl) (v6 : Sl) (v7 : Sl) (v8 : Int) (v9 : Int) (v10 : Int) (V : Mem) (R : Ending → Mem → Prop) : Prop :=
 Tri Tryz.prog 10 #[] V fun e V1 => ∃ v11 : Bool, e = .returned (.bool v11) ∧
 (v11 = true →
 Tri Tryz.prog 11 #[.agg #[.string v0, .slice v1.p v1.n v1.c, .slice v2.p v2.n v2.c, .slice v3.p v3.n v3.c, .slice v4.p v4.n v4.c, .slice v5.p v5.n v5.c, .slice v6.p v6.n v6.c, .slice v7.p v7.n v7.c]] V1 fun e V2 => ∃ v12 : Bool, e = .returned (.bool v12) ∧
 (v12 = true →
 Tri Tryz.prog 22 #[.agg #[.string v0, .slice v1.p v1.n v1.c, .slice v2.p v2.n v2.c, .slice v3.p v3.n v3.c, .slice v4.p v4.n v4.c, .slice v5.p v5.n v5.c, .slice v6.p v6.n v6.c, .slice v7.p v7.n v7.c]] V2 fun e V3 => ∃ v13 : Bool, e = .returned (.bool v13) ∧
 (v13 = true →
 Tri Tryz.prog 23 #[.slice v5.p v5.n v5.c, .int .u8 v8] V3 fun e V4 => ∃ v14 : Sl, e = .returned (.slice v14.p v14.n v14.c) ∧
 Tri Tryz.prog 24 #[.slice v6.p v6.n v6.c, .int .u8 v9] V4 fun e V5 => ∃ v15 : Sl, e = .returned (.slice v15.p v15.n v15.c) ∧
 Tri Tryz.prog 25 #[.slice v7.p v7.n v7.c, .int .u8 v10] V5 fun e V6 => ∃ v16 : Sl, e = .returned (.slice v16.p v16.n v16.c) ∧
 Tri Tryz.prog 22 #[.agg #[.string v0, .slice v1.p v1.n v1.c, .slice v2.p v2.n v2.c, .slice v3.p v3.n v3.c, .slice v4.p v4.n v4.c, .slice v14.p v14.n v14.c, .slice v6.p v6.n v6.c, .slice v7.p v7.n v7.c]] V6 fun e V7 => ∃ v17 : Bool, e = .returned (.bool v17) ∧
 (v17 = true →
 Tri Tryz.prog 22 #[.agg #[.string v0, .slice v1.p v1.n v1.c, .slice v2.p v2.n v2.c, .slice v3.p v3.n v3.c, .slice v4.p v4.n v4.c, .slice v5.p v5.n v5.c, .slice v15.p v15.n v15.c, .slice v7.p v7.n v7.c]] V7 fun e V8 => ∃ v18 : Bool, e = .returned (.bool v18) ∧
 (v18 = true →
 Tri Tryz.prog 22 #[.agg #[.string v0, .slice v1.p v1.n v1.c, .slice v2.p v2.n v2.c, .slice v3.p v3.n v3.c, .slice v4.p v4.n v4.c, .slice v5.p v5.n v5.c, .slice v6.p v6.n v6.c, .slice v16.p v16.n v16.c]] V8 fun e V9 => ∃ v19 : Bool, e = .returned (.bool v19) ∧
 (v19 = true →
 Tri Tryz.prog 26 #[.slice v2.p v2.n v2.c, .func (.func 27) #[] #[]] V9 fun e V10 => ∃ v20 : Bool, e = .returned (.bool v20) ∧
 (v20 = true →
 Tri Tryz.prog 22 #[.agg #[.string v0, .slice none 0 0, .slice v2.p v2.n v2.c, .slice v3.p v3.n v3.c, .slice v4.p v4.n v4.c, .slice v5.p v5.n v5.c, .slice v6.p v6.n v6.c, .slice v7.p v7.n v7.c]] V10 fun e V11 => ∃ v21 : Bool, e = .returned (.bool v21) ∧
 (v21 = true →
 R (.returned (.bool false)) V11) ∧ (¬ (v21 = true) →
 ((12 : Int) ≤ (v5.n : Int) →
 R (.returned (.bool true)) V11) ∧ (¬ ((12 : Int) ≤ (v5.n : Int)) →
 Tri Tryz.prog 28 #[.slice v5.p v5.n v5.c, .func (.func 29) #[] #[]] V11 fun e V12 => ∃ v22 : Bool, e = .returned (.bool v22) ∧
 (v22 = true →
 R (.returned (.bool true)) V12) ∧ (¬ (v22 = true) →
 Tri Tryz.prog 30 #[.slice v5.p v5.n v5.c] V12 fun e V13 => ∃ v23 : Sl, e = .returned (.slice v23.p v23.n v23.c) ∧
 PubT [.string (strB [116, 114, 117, 116, 104]), .string (strB []), .int .i64 2, .int .i64 1, .string (strB []), .slice none 0 0] 58 V13 fun v24 V14 =>
 GenK Tryz.prog (.call { callee := (.builtin .append), args := #[.tmp 79, .tmp 82], argTypes := #[26, 26] }) 26 (gval [(79, (.var .sl 23)), (82, (.c3 .slc (.u (.poff 0) (.var .p 24)) (.int .i64 1) (.int .i64 1)))] [.string v0, .slice v1.p v1.n v1.c, .slice v2.p v2.n v2.c, .slice v3.p v3.n v3.c, .slice v4.p v4.n v4.c, .slice v5.p v5.n v5.c, .slice v6.p v6.n v6.c, .slice v7.p v7.n v7.c, .int .u8 v8, .int .u8 v9, .int .u8 v10, .bool v11, .bool v12, .bool v13, .slice v14.p v14.n v14.c, .slice v15.p v15.n v15.c, .slice v16.p v16.n v16.c, .bool v17, .bool v18, .bool v19, .bool v20, .bool v21, .bool v22, .slice v23.p v23.n v23.c, .pointer v24]) V14 fun x V15 => ∃ v25 : Sl, x = (.slice v25.p v25.n v25.c) ∧
 Tri Tryz.prog 22 #[.agg #[.string v0, .slice v1.p v1.n v1.c, .slice v2.p v2.n v2.c, .slice v3.p v3.n v3.c, .slice v4.p v4.n v4.c, .slice v25.p v25.n v25.c, .slice v6.p v6.n v6.c, .slice v7.p v7.n v7.c]] V15 fun e V16 => ∃ v26 : Bool, e = .returned (.bool v26) ∧
 R (.returned (.bool v26)) V16)))) ∧ (¬ (v20 = true) →
 ((12 : Int) ≤ (v5.n : Int) →
 R (.returned (.bool true)) V10) ∧ (¬ ((12 : Int) ≤ (v5.n : Int)) →
 Tri Tryz.prog 28 #[.slice v5.p v5.n v5.c, .func (.func 29) #[] #[]] V10 fun e V11 => ∃ v21 : Bool, e = .returned (.bool v21) ∧
 (v21 = true →
 R (.returned (.bool true)) V11) ∧ (¬ (v21 = true) →
 Tri Tryz.prog 30 #[.slice v5.p v5.n v5.c] V11 fun e V12 => ∃ v22 : Sl, e = .returned (.slice v22.p v22.n v22.c) ∧
 PubT [.string (strB [116, 114, 117, 116, 104]), .string (strB []), .int .i64 2, .int .i64 1, .string (strB []), .slice none 0 0] 58 V12 fun v23 V13 =>
 GenK Tryz.prog (.call { callee := (.builtin .append), args := #[.tmp 79, .tmp 82], argTypes := #[26, 26] }) 26 (gval [(79, (.var .sl 22)), (82, (.c3 .slc (.u (.poff 0) (.var .p 23)) (.int .i64 1) (.int .i64 1)))] [.string v0, .slice v1.p v1.n v1.c, .slice v2.p v2.n v2.c, .slice v3.p v3.n v3.c, .slice v4.p v4.n v4.c, .slice v5.p v5.n v5.c, .slice v6.p v6.n v6.c, .slice v7.p v7.n v7.c, .int .u8 v8, .int .u8 v9, .int .u8 v10, .bool v11, .bool v12, .bool v13, .slice v14.p v14.n v14.c, .slice v15.p v15.n v15.c, .slice v16.p v16.n v16.c, .bool v17, .bool v18, .bool v19, .bool v20, .bool v21, .slice v22.p v22.n v22.c, .pointer v23]) V13 fun x V14 => ∃ v24 : Sl, x = (.slice v24.p v24.n v24.c) ∧
 Tri Tryz.prog 22 #[.agg #[.string v0, .slice v1.p v1.n v1.c, .slice v2.p v2.n v2.c, .slice v3.p v3.n v3.c, .slice v4.p v4.n v4.c, .slice v24.p v24.n v24.c, .slice v6.p v6.n v6.c, .slice v7.p v7.n v7.c]] V14 fun e V15 => ∃ v25 : Bool, e = .returned (.bool v25) ∧
 R (.returned (.bool v25)) V15)))) ∧ (¬ (v19 = true) →
 R (.returned (.bool false)) V9)) ∧ (¬ (v18 = true) →
 R (.returned (.bool false)) V8)) ∧ (¬ (v17 = true) →
 R (.returned (.bool false)) V7)) ∧ (¬ (v13 = true) →
 Tri Tryz.prog 10 #[] V3 fun e V4 => ∃ v14 : Bool, e = .returned (.bool v14) ∧
 R (.returned (.bool v14)) V4)) ∧ (¬ (v12 = true) →
 Tri Tryz.prog 10 #[] V2 fun e V3 => ∃ v13 : Bool, e = .returned (.bool v13) ∧
 R (.returned (.bool v13)) V3)) ∧ (¬ (v11 = true) →
 Tri Tryz.prog 10 #[] V1 fun e V2 => ∃ v12 : Bool, e = .returned (.bool v12) ∧
 R (.returned (.bool v12)) V2)
theorem x5 {v0 : ByteArray} {v1 : Sl} {v2 : Sl} {v3 : Sl} {v4 : Sl} {v5 : Sl} {v6 : Sl} {v7 : Sl} {v8 : Int} {v9 : Int} {v10 : Int} {V : Mem} {R : Ending → Mem → Prop} (h : w5 v0 v1 v2 v3 v4 v5 v6 v7 v8 v9 v10 V R) : Tri Tryz.prog 5 #[.agg #[.string v0, .slice v1.p v1.n v1.c, .slice v2.p v2.n v2.c, .slice v3.p v3.n v3.c, .slice v4.p v4.n v4.c, .slice v5.p v5.n v5.c, .slice v6.p v6.n v6.c, .slice v7.p v7.n v7.c], .int .u8 v8, .int .u8 v9, .int .u8 v10] V R :=
 tri_dx (H := { N := 87, early := [], loops := [], keep := [0, 1, 2, 3, 4, 8, 9, 10, 11, 12, 13, 14, 26, 58, 63, 66, 75] }) Tryz.func5 [.agg (.cons (.var .s 0) (.cons (.var .sl 1) (.cons (.var .sl 2) (.cons (.var .sl 3) (.cons (.var .sl 4) (.cons (.var .sl 5) (.cons (.var .sl 6) (.cons (.var .sl 7) .nil)))))))), .var (.i .u8) 8, .var (.i .u8) 9, .var (.i .u8) 10] [.string v0, .slice v1.p v1.n v1.c, .slice v2.p v2.n v2.c, .slice v3.p v3.n v3.c, .slice v4.p v4.n v4.c, .slice v5.p v5.n v5.c, .slice v6.p v6.n v6.c, .slice v7.p v7.n v7.c, .int .u8 v8, .int .u8 v9, .int .u8 v10] rfl (by kernel_rfl) h
def w7 (v0 : ByteArray) (v1 : Sl) (v2 : Sl) (v3 : Sl) (v4 : Sl) (v5 : Sl) (v6 : Sl) (v7 : Sl) (v8 : ByteArray) (v9 : Int) (v10 : Int) (v11 : ByteArray) (v12 : Sl) (V : Mem) (R : Ending → Mem → Prop) : Prop :=
 Tri Tryz.prog 10 #[] V fun e V1 => ∃ v13 : Bool, e = .returned (.bool v13) ∧
 (v13 = true →
 Tri Tryz.prog 11 #[.agg #[.string v0, .slice v1.p v1.n v1.c, .slice v2.p v2.n v2.c, .slice v3.p v3.n v3.c, .slice v4.p v4.n v4.c, .slice v5.p v5.n v5.c, .slice v6.p v6.n v6.c, .slice v7.p v7.n v7.c]] V1 fun e V2 => ∃ v14 : Bool, e = .returned (.bool v14) ∧
 (v14 = true →
 ((100 : Int) < ((v8).size : Int) →
 Tri Tryz.prog 10 #[] V2 fun e V3 => ∃ v15 : Bool, e = .returned (.bool v15) ∧
 R (.returned (.bool v15)) V3) ∧ (¬ ((100 : Int) < ((v8).size : Int)) →
 PubT [.int .i64 150] 3 V2 fun v15 V3 =>
 Tri Tryz.prog 15 #[.agg #[.int .i64 v9, .int .i64 v10, .string v11, .slice v12.p v12.n v12.c], .pointer (ptrAdd v15 0), .int .i64 1] V3 fun e V4 => ∃ v16 : Bool, e = .returned (.bool v16) ∧
 (v16 = true →
 Tri Tryz.prog 35 #[.agg #[.string v0, .slice v1.p v1.n v1.c, .slice v2.p v2.n v2.c, .slice v3.p v3.n v3.c, .slice v4.p v4.n v4.c, .slice v5.p v5.n v5.c, .slice v6.p v6.n v6.c, .slice v7.p v7.n v7.c], .string v8, .agg #[.int .i64 v9, .int .i64 v10, .string v11, .slice v12.p v12.n v12.c]] V4 fun e V5 => ∃ v17 : ByteArray, ∃ v18 : Int, e = .returned (.tuple #[.string v17, .int .i64 v18]) ∧
 Tri Tryz.prog 13 #[.agg #[.string v0, .slice v1.p v1.n v1.c, .slice v2.p v2.n v2.c, .slice v3.p v3.n v3.c, .slice v4.p v4.n v4.c, .slice v5.p v5.n v5.c, .slice v6.p v6.n v6.c, .slice v7.p v7.n v7.c]] V5 fun e V6 => ∃ v19 : Bool, e = .returned (.bool v19) ∧
 (v19 = true →
 Tri Tryz.prog 17 #[.agg #[.int .i64 v9, .int .i64 v10, .string v11, .slice v12.p v12.n v12.c]] V6 fun e V7 => ∃ v20 : Bool, e = .returned (.bool v20) ∧
 (v20 = true →
 Tri Tryz.prog 18 #[.agg #[.string v0, .slice v1.p v1.n v1.c, .slice v2.p v2.n v2.c, .slice v3.p v3.n v3.c, .slice v4.p v4.n v4.c, .slice v5.p v5.n v5.c, .slice v6.p v6.n v6.c, .slice v7.p v7.n v7.c]] V7 fun e V8 => ∃ v21 : Bool, e = .returned (.bool v21) ∧
 (v21 = true →
 (v8 = (strB []) →
 Tri Tryz.prog 37 #[.agg #[.string v0, .slice v1.p v1.n v1.c, .slice v2.p v2.n v2.c, .slice v3.p v3.n v3.c, .slice v4.p v4.n v4.c, .slice v5.p v5.n v5.c, .slice v6.p v6.n v6.c, .slice v7.p v7.n v7.c], .string v8] V8 fun e V9 => ∃ v22 : Sl, ∃ v23 : Bool, e = .returned (.agg #[.slice v22.p v22.n v22.c, .bool v23]) ∧
 Tri Tryz.prog 20 #[.agg #[.string v0, .slice v1.p v1.n v1.c, .slice v2.p v2.n v2.c, .slice v3.p v3.n v3.c, .slice v4.p v4.n v4.c, .slice v5.p v5.n v5.c, .slice v6.p v6.n v6.c, .slice v7.p v7.n v7.c], .agg #[.slice v22.p v22.n v22.c, .bool v23], .agg #[.int .i64 v9, .int .i64 v10, .string v11, .slice v12.p v12.n v12.c]] V9 fun e V10 => ∃ v24 : ByteArray, ∃ v25 : Int, e = .returned (.tuple #[.string v24, .int .i64 v25]) ∧
 (v17 = v24 →
 R (.returned (.bool (decide (v18 = v25)))) V10) ∧ (¬ (v17 = v24) →
 R (.returned (.bool false)) V10)) ∧ (¬ (v8 = (strB [])) →
 Tri Tryz.prog 36 #[.agg #[.string v0, .slice v1.p v1.n v1.c, .slice v2.p v2.n v2.c, .slice v3.p v3.n v3.c, .slice v4.p v4.n v4.c, .slice v5.p v5.n v5.c, .slice v6.p v6.n v6.c, .slice v7.p v7.n v7.c], .string v8] V8 fun e V9 => ∃ v22 : Bool, e = .returned (.bool v22) ∧
 (v22 = true →
 Tri Tryz.prog 37 #[.agg #[.string v0, .slice v1.p v1.n v1.c, .slice v2.p v2.n v2.c, .slice v3.p v3.n v3.c, .slice v4.p v4.n v4.c, .slice v5.p v5.n v5.c, .slice v6.p v6.n v6.c, .slice v7.p v7.n v7.c], .string v8] V9 fun e V10 => ∃ v23 : Sl, ∃ v24 : Bool, e = .returned (.agg #[.slice v23.p v23.n v23.c, .bool v24]) ∧
 Tri Tryz.prog 20 #[.agg #[.string v0, .slice v1.p v1.n v1.c, .slice v2.p v2.n v2.c, .slice v3.p v3.n v3.c, .slice v4.p v4.n v4.c, .slice v5.p v5.n v5.c, .slice v6.p v6.n v6.c, .slice v7.p v7.n v7.c], .agg #[.slice v23.p v23.n v23.c, .bool v24], .agg #[.int .i64 v9, .int .i64 v10, .string v11, .slice v12.p v12.n v12.c]] V10 fun e V11 => ∃ v25 : ByteArray, ∃ v26 : Int, e = .returned (.tuple #[.string v25, .int .i64 v26]) ∧
 (v17 = v25 →
 R (.returned (.bool (decide (v18 = v26)))) V11) ∧ (¬ (v17 = v25) →
 R (.returned (.bool false)) V11)) ∧ (¬ (v22 = true) →
 (v17 = (strB []) →
 R (.returned (.bool (decide (v18 = (12 : Int))))) V9) ∧ (¬ (v17 = (strB [])) →
 R (.returned (.bool false)) V9)))) ∧ (¬ (v21 = true) →
 (v17 = (strB []) →
 R (.returned (.bool (decide (v18 = (13 : Int))))) V8) ∧ (¬ (v17 = (strB [])) →
 R (.returned (.bool false)) V8))) ∧ (¬ (v20 = true) →
 (v17 = (strB []) →
 R (.returned (.bool (decide (v18 = (1 : Int))))) V7) ∧ (¬ (v17 = (strB [])) →
 R (.returned (.bool false)) V7))) ∧ (¬ (v19 = true) →
 (v17 = (strB []) →
 R (.returned (.bool (decide (v18 = (1 : Int))))) V6) ∧ (¬ (v17 = (strB [])) →
 R (.returned (.bool false)) V6))) ∧ (¬ (v16 = true) →
 Tri Tryz.prog 10 #[] V4 fun e V5 => ∃ v17 : Bool, e = .returned (.bool v17) ∧
 R (.returned (.bool v17)) V5))) ∧ (¬ (v14 = true) →
 Tri Tryz.prog 10 #[] V2 fun e V3 => ∃ v15 : Bool, e = .returned (.bool v15) ∧
 R (.returned (.bool v15)) V3)) ∧ (¬ (v13 = true) →
 Tri Tryz.prog 10 #[] V1 fun e V2 => ∃ v14 : Bool, e = .returned (.bool v14) ∧
 R (.returned (.bool v14)) V2)
theorem x7 {v0 : ByteArray} {v1 : Sl} {v2 : Sl} {v3 : Sl} {v4 : Sl} {v5 : Sl} {v6 : Sl} {v7 : Sl} {v8 : ByteArray} {v9 : Int} {v10 : Int} {v11 : ByteArray} {v12 : Sl} {V : Mem} {R : Ending → Mem → Prop} (h : w7 v0 v1 v2 v3 v4 v5 v6 v7 v8 v9 v10 v11 v12 V R) : Tri Tryz.prog 7 #[.agg #[.string v0, .slice v1.p v1.n v1.c, .slice v2.p v2.n v2.c, .slice v3.p v3.n v3.c, .slice v4.p v4.n v4.c, .slice v5.p v5.n v5.c, .slice v6.p v6.n v6.c, .slice v7.p v7.n v7.c], .string v8, .agg #[.int .i64 v9, .int .i64 v10, .string v11, .slice v12.p v12.n v12.c]] V R :=
 tri_dx (H := { N := 94, early := [], loops := [], keep := [0, 1, 2, 3, 5, 6, 7, 8, 9, 10, 11, 28, 37, 52, 62] }) Tryz.func7 [.agg (.cons (.var .s 0) (.cons (.var .sl 1) (.cons (.var .sl 2) (.cons (.var .sl 3) (.cons (.var .sl 4) (.cons (.var .sl 5) (.cons (.var .sl 6) (.cons (.var .sl 7) .nil)))))))), .var .s 8, .agg (.cons (.var (.i .i64) 9) (.cons (.var (.i .i64) 10) (.cons (.var .s 11) (.cons (.var .sl 12) .nil))))] [.string v0, .slice v1.p v1.n v1.c, .slice v2.p v2.n v2.c, .slice v3.p v3.n v3.c, .slice v4.p v4.n v4.c, .slice v5.p v5.n v5.c, .slice v6.p v6.n v6.c, .slice v7.p v7.n v7.c, .string v8, .int .i64 v9, .int .i64 v10, .string v11, .slice v12.p v12.n v12.c] rfl (by kernel_rfl) h
def w9 (v0 : ByteArray) (v1 : Sl) (v2 : Sl) (v3 : Sl) (v4 : Sl) (v5 : Sl) (v6 : Sl) (v7 : Sl) (V : Mem) (R : Ending → Mem → Prop) : Prop :=
 Tri Tryz.prog 10 #[] V fun e V1 => ∃ v8 : Bool, e = .returned (.bool v8) ∧
 (v8 = true →
 Tri Tryz.prog 11 #[.agg #[.string v0, .slice v1.p v1.n v1.c, .slice v2.p v2.n v2.c, .slice v3.p v3.n v3.c, .slice v4.p v4.n v4.c, .slice v5.p v5.n v5.c, .slice v6.p v6.n v6.c, .slice v7.p v7.n v7.c]] V1 fun e V2 => ∃ v9 : Bool, e = .returned (.bool v9) ∧
 (v9 = true →
 Tri Tryz.prog 41 #[.agg #[.string v0, .slice v1.p v1.n v1.c, .slice v2.p v2.n v2.c, .slice v3.p v3.n v3.c, .slice v4.p v4.n v4.c, .slice v5.p v5.n v5.c, .slice v6.p v6.n v6.c, .slice v7.p v7.n v7.c]] V2 fun e V3 => ∃ v10 : Sl, ∃ v11 : Int, e = .returned (.tuple #[.slice v10.p v10.n v10.c, .int .i64 v11]) ∧
 Tri Tryz.prog 13 #[.agg #[.string v0, .slice v1.p v1.n v1.c, .slice v2.p v2.n v2.c, .slice v3.p v3.n v3.c, .slice v4.p v4.n v4.c, .slice v5.p v5.n v5.c, .slice v6.p v6.n v6.c, .slice v7.p v7.n v7.c]] V3 fun e V4 => ∃ v12 : Bool, e = .returned (.bool v12) ∧
 (v12 = true →
 Tri Tryz.prog 18 #[.agg #[.string v0, .slice v1.p v1.n v1.c, .slice v2.p v2.n v2.c, .slice v3.p v3.n v3.c, .slice v4.p v4.n v4.c, .slice v5.p v5.n v5.c, .slice v6.p v6.n v6.c, .slice v7.p v7.n v7.c]] V4 fun e V5 => ∃ v13 : Bool, e = .returned (.bool v13) ∧
 (v13 = true →
 Tri Tryz.prog 43 #[.agg #[.string v0, .slice v1.p v1.n v1.c, .slice v2.p v2.n v2.c, .slice v3.p v3.n v3.c, .slice v4.p v4.n v4.c, .slice v5.p v5.n v5.c, .slice v6.p v6.n v6.c, .slice v7.p v7.n v7.c]] V5 fun e V6 => ∃ v14 : Sl, e = .returned (.slice v14.p v14.n v14.c) ∧
 Tri Tryz.prog 42 #[.slice v10.p v10.n v10.c, .slice v14.p v14.n v14.c] V6 fun e V7 => ∃ v15 : Bool, e = .returned (.bool v15) ∧
 (v15 = true →
 R (.returned (.bool (decide (v11 = (0 : Int))))) V7) ∧ (¬ (v15 = true) →
 R (.returned (.bool false)) V7)) ∧ (¬ (v13 = true) →
 ((v10.n : Int) = (0 : Int) →
 R (.returned (.bool (decide (v11 = (13 : Int))))) V5) ∧ (¬ ((v10.n : Int) = (0 : Int)) →
 R (.returned (.bool false)) V5))) ∧ (¬ (v12 = true) →
 ((v10.n : Int) = (0 : Int) →
 R (.returned (.bool (decide (v11 = (1 : Int))))) V4) ∧ (¬ ((v10.n : Int) = (0 : Int)) →
 R (.returned (.bool false)) V4))) ∧ (¬ (v9 = true) →
 Tri Tryz.prog 10 #[] V2 fun e V3 => ∃ v10 : Bool, e = .returned (.bool v10) ∧
 R (.returned (.bool v10)) V3)) ∧ (¬ (v8 = true) →
 Tri Tryz.prog 10 #[] V1 fun e V2 => ∃ v9 : Bool, e = .returned (.bool v9) ∧
 R (.returned (.bool v9)) V2)
theorem x9 {v0 : ByteArray} {v1 : Sl} {v2 : Sl} {v3 : Sl} {v4 : Sl} {v5 : Sl} {v6 : Sl} {v7 : Sl} {V : Mem} {R : Ending → Mem → Prop} (h : w9 v0 v1 v2 v3 v4 v5 v6 v7 V R) : Tri Tryz.prog 9 #[.agg #[.string v0, .slice v1.p v1.n v1.c, .slice v2.p v2.n v2.c, .slice v3.p v3.n v3.c, .slice v4.p v4.n v4.c, .slice v5.p v5.n v5.c, .slice v6.p v6.n v6.c, .slice v7.p v7.n v7.c]] V R :=
 tri_dx (H := { N := 48, early := [], loops := [], keep := [0, 1, 2, 3, 4, 11, 18, 29] }) Tryz.func9 [.agg (.cons (.var .s 0) (.cons (.var .sl 1) (.cons (.var .sl 2) (.cons (.var .sl 3) (.cons (.var .sl 4) (.cons (.var .sl 5) (.cons (.var .sl 6) (.cons (.var .sl 7) .nil))))))))] [.string v0, .slice v1.p v1.n v1.c, .slice v2.p v2.n v2.c, .slice v3.p v3.n v3.c, .slice v4.p v4.n v4.c, .slice v5.p v5.n v5.c, .slice v6.p v6.n v6.c, .slice v7.p v7.n v7.c] rfl (by kernel_rfl) h
end Go.Proofs
namespace Go.Proofs
open Go Go.Sx
theorem firstE_iff {α β : Type} {f : Nat → α → Option β} : ∀ {xs : List α} {i : Nat}, firstE f i xs = none ↔ ∀ j x, xs[j]? = some x → f (i + j) x = none
  | [], i => by simp [firstE]
  | x :: xs, i => by
    constructor
    · intro h
      cases hx : f i x with
      | some b => rw [firstE_some hx] at h; cases h
      | none =>
        rw [firstE_none hx] at h
        intro j y hy
        cases j with
        | zero => simp only [List.getElem?_cons_zero, Option.some.injEq] at hy; subst hy; exact hx
        | succ j =>
          have := firstE_iff.1 h j y (by simpa using hy)
          rwa [show i + (j + 1) = i + 1 + j by omega]
    · intro h
      rw [firstE_none (by simpa using h 0 x rfl)]
      exact firstE_iff.2 fun j y hy => by
        have := h (j + 1) y (by simpa using hy)
        rwa [show i + 1 + j = i + (j + 1) by omega]
theorem firstE_at {α β : Type} {f : Nat → α → Option β} {b : β} {y : α} : ∀ {xs : List α} {i k : Nat}, (∀ j x, j < k → xs[j]? = some x → f (i + j) x = none) → xs[k]? = some y → f (i + k) y = some b → firstE f i xs = some b
  | [], _, _, _, hy, _ => by simp at hy
  | x :: xs, i, k, h, hy, hb => by
    cases k with
    | zero => simp only [List.getElem?_cons_zero, Option.some.injEq] at hy; subst hy; exact firstE_some hb
    | succ k =>
      rw [firstE_none (by simpa using h 0 x (Nat.succ_pos k) rfl)]
      refine firstE_at (k := k) (fun j z hj hz => ?_) (by simpa using hy) (by rwa [show i + 1 + k = i + (k + 1) by omega])
      have := h (j + 1) z (by omega) (by simpa using hz)
      rwa [show i + 1 + j = i + (j + 1) by omega]
theorem or_none {α : Type} {a b : Option α} : a.or b = none ↔ a = none ∧ b = none := by cases a <;> simp
theorem distinct {α : Type} (key : α → ByteArray) (xs : List α) : (∀ j x, xs[j]? = some x → (xs.take j).any (fun g => decide (key g = key x)) = false) ↔ xs.Pairwise (fun a b => key a ≠ key b) := by
  rw [List.pairwise_iff_getElem]
  constructor
  · intro h i j hi hj hij e
    have := h j _ (List.getElem?_eq_getElem hj)
    rw [List.any_eq_false] at this
    exact this xs[i] (List.mem_take_iff_getElem.2 ⟨i, by omega, rfl⟩) (by simpa using e)
  · intro h j x hx
    rw [List.any_eq_false]
    intro g hg e
    obtain ⟨i, hi, rfl⟩ := List.mem_take_iff_getElem.1 hg
    obtain ⟨hj, rfl⟩ := List.getElem?_eq_some_iff.1 hx
    exact h i j (by omega) hj (by omega) (by simpa using e)
structure Alike (d d' : Ds) : Prop where
  types : d'.types = d.types
  call : ∀ s l, callT d' s l = callT d s l
  meas : d'.measures = d.measures
section
variable {d d' : Ds}
theorem Alike.isNode (h : Alike d d') (s : ByteArray) : isNode d' s = isNode d s := by unfold Go.Proofs.isNode; rw [h.types]
theorem Alike.known (h : Alike d d') (s : ByteArray) : known d' s = known d s := by unfold Go.Proofs.known; rw [h.isNode]
theorem Alike.fits (h : Alike d d') (a b : ByteArray) : fits d' a b = fits d a b := by unfold Go.Proofs.fits; rw [h.isNode]
theorem Alike.fieldT (h : Alike d d') (a b : ByteArray) : fieldT d' a b = fieldT d a b := by unfold Go.Proofs.fieldT tyOf; rw [h.types]
theorem Alike.measT (h : Alike d d') (s : ByteArray) (l : List ByteArray) : measT d' s l = measT d s l := by
  unfold Go.Proofs.measT meOf; rw [h.meas]; simp only [h.fits]
theorem Alike.callE (h : Alike d d') (sc : Sc) (s : ByteArray) (l : List ByteArray) : callE d' sc s l = callE d sc s l := by
  unfold Go.Proofs.callE; rw [h.call, h.measT]
theorem Alike.nodeT (h : Alike d d') (sc : Sc) (op : Int) (s : ByteArray) (l : List ByteArray) : nodeT d' sc op s l = nodeT d sc op s l := by
  unfold Go.Proofs.nodeT; simp only [h.fieldT, h.isNode, h.callE, h.fits]
mutual
theorem Alike.exprT (h : Alike d d') (sc : Sc) : ∀ e : E, exprT d' sc e = exprT d sc e
  | .mk op n s l k => by unfold Go.Proofs.exprT; rw [Alike.partsT h sc k [], h.nodeT]
theorem Alike.partsT (h : Alike d d') (sc : Sc) : ∀ (k : List E) (acc : List ByteArray), partsT d' sc acc k = partsT d sc acc k
  | [], acc => by rw [partsT_nil, partsT_nil]
  | x :: xs, acc => by rw [partsT_cons, partsT_cons, Alike.exprT h sc x, Alike.partsT h sc xs]
end
theorem Alike.stmtT (h : Alike d d') (sc : Sc) (result : ByteArray) (op : Int) (s : ByteArray) (es : List E) : stmtT d' sc result op s es = stmtT d sc result op s es := by
  unfold Go.Proofs.stmtT
  simp only [h.partsT, h.fieldT, h.fits, h.call]
mutual
theorem Alike.stT (h : Alike d d') (sc : Sc) (result : ByteArray) : ∀ (s : S) (n : Int), stT d' sc result n s = stT d sc result n s
  | .mk op s el es ll ls xl xs, n => by unfold Go.Proofs.stT; rw [h.stmtT, Alike.stsT h sc result ls, Alike.stsT h sc result xs]
theorem Alike.stsT (h : Alike d d') (sc : Sc) (result : ByteArray) : ∀ (l : List S) (n : Int), stsT d' sc result n l = stsT d sc result n l
  | [], n => by rw [stsT_nil, stsT_nil]
  | x :: xs, n => by rw [stsT_cons, stsT_cons, Alike.stT h sc result x, Alike.stsT h sc result xs]
end
theorem Alike.wantT (h : Alike d d') (sc : Sc) (e : E) (t : ByteArray) : wantT d' sc e t = wantT d sc e t := by unfold Go.Proofs.wantT; rw [h.exprT]
theorem Alike.oneT (h : Alike d d') (l : List Fld) (i : Nat) (f : Fld) : oneT d' l i f = oneT d l i f := by unfold Go.Proofs.oneT; rw [h.known]
theorem Alike.declT (h : Alike d d') (l : List Fld) : declT d' l = declT d l := by unfold Go.Proofs.declT; simp only [h.oneT]
end
theorem chk_parts {d : Ds} : chkT d = none ↔ (types1 d = none ∧ types2 d = none ∧ types3 d = none) ∧ headsT d = none ∧ (form1 d = none ∧ form2 d = none ∧ form3 d = none ∧ form4 d = none) ∧ bodiesT d = none ∧ exp1 d = none ∧ exp2 d = none ∧ exp3 d = none ∧ exp4 d = none := by
  unfold chkT typesT formT expsT
  simp only [or_none]
end Go.Proofs
namespace Go.Proofs
open Go Go.Sx
theorem valid_iff {d : Ds} : validD d = true ↔ isName d.name = true ∧ (d.types.length : Int) ≤ 12 ∧ fldsB d.globals 8 = true ∧ (d.procs.length : Int) ≤ 40 ∧ (d.measures.length : Int) ≤ 12 ∧ (d.invs.length : Int) ≤ 12 ∧ (d.pots.length : Int) ≤ 12 ∧ (d.bounds.length : Int) ≤ 12 ∧
    (∀ t ∈ d.types, tyB t = true) ∧ (∀ t ∈ d.procs, prB t = true) ∧ (∀ t ∈ d.measures, msB t = true) ∧ (∀ t ∈ d.invs, ivB t = true) ∧ (∀ t ∈ d.pots, poB t = true) ∧ ∀ t ∈ d.bounds, bdB t = true := by
  unfold validD lensB formB
  simp only [Bool.and_eq_true, decide_eq_true_eq, List.all_eq_true, and_assoc]
theorem firstE_all {α β : Type} {c : α → Prop} [DecidablePred c] {r : α → β} {i : Nat} {xs : List α} : firstE (fun _ m => if c m then some (r m) else none) i xs = none ↔ ∀ m ∈ xs, ¬ c m := by
  rw [firstE_iff]
  constructor
  · intro h m hm hc
    obtain ⟨j, hj, rfl⟩ := List.mem_iff_getElem.1 hm
    have := h j _ (List.getElem?_eq_getElem hj)
    rw [if_pos hc] at this
    cases this
  · intro h j x hx
    exact if_neg (h x (List.mem_of_getElem? hx))
theorem form2_iff {d : Ds} : form2 d = none ↔ d.invs.Pairwise (fun a b => a.name ≠ b.name) ∧ ∀ m ∈ d.invs, ¬ (m.ty ≠ sE ∧ isNode d m.ty = false) := by
  unfold form2
  rw [firstE_iff, ← distinct]
  constructor
  · intro h
    refine ⟨fun j x hx => ?_, fun m hm hc => ?_⟩
    · have := h j x hx
      rw [Nat.zero_add] at this
      split at this
      · cases this
      · rename_i h'; simpa using h'
    · obtain ⟨j, hj, rfl⟩ := List.mem_iff_getElem.1 hm
      have := h j _ (List.getElem?_eq_getElem hj)
      split at this
      · cases this
      · first | (cases this; done) | (rw [if_pos hc] at this; cases this)
  · rintro ⟨h1, h2⟩ j x hx
    rw [Nat.zero_add, if_neg (by rw [h1 j x hx]; decide), if_neg (h2 x (List.mem_of_getElem? hx))]
theorem form4_iff {d : Ds} : form4 d = none ↔ d.bounds.Pairwise (fun a b => a.proc ≠ b.proc) ∧ ∀ m ∈ d.bounds, ¬ ((prOf d m.proc).isNone = true) := by
  unfold form4
  rw [firstE_iff, ← distinct]
  constructor
  · intro h
    refine ⟨fun j x hx => ?_, fun m hm hc => ?_⟩
    · have := h j x hx
      rw [Nat.zero_add] at this
      split at this
      · cases this
      · split at this
        · cases this
        · rename_i h'; simpa using h'
    · obtain ⟨j, hj, rfl⟩ := List.mem_iff_getElem.1 hm
      have := h j _ (List.getElem?_eq_getElem hj)
      rw [if_pos hc] at this; cases this
  · rintro ⟨h1, h2⟩ j x hx
    rw [Nat.zero_add, if_neg (h2 x (List.mem_of_getElem? hx)), if_neg (by rw [h1 j x hx]; decide)]
theorem form3_iff {d : Ds} : form3 d = none ↔ ∀ m ∈ d.pots, ¬ (m.ty ≠ sE ∧ isNode d m.ty = false) := firstE_all
theorem exp2_iff {d : Ds} : exp2 d = none ↔ ∀ m ∈ d.invs, ¬ wantT d (inFormS d m.ty) m.x sBool ≠ 0 := firstE_all
theorem exp3_iff {d : Ds} : exp3 d = none ↔ ∀ m ∈ d.pots, ¬ wantT d (inFormS d m.ty) m.x sInt ≠ 0 := firstE_all
theorem exp4_iff {d : Ds} : exp4 d = none ↔ ∀ m ∈ d.bounds, ¬ wantT d (inBoundS d ((prOf d m.proc).getD prD)) m.x sInt ≠ 0 := firstE_all
theorem alike_chk {d d' : Ds} (al : Alike d d') (hg : d'.globals = d.globals) (hp : d'.procs = d.procs) (hc : chkT d = none) (h2 : form2 d' = none) (h3 : form3 d' = none) (h4 : form4 d' = none) (e2 : exp2 d' = none) (e3 : exp3 d' = none) (e4 : exp4 d' = none) : chkT d' = none := by
  rw [chk_parts] at hc ⊢
  obtain ⟨⟨t1, t2, t3⟩, hh, ⟨f1, -, -, -⟩, hb, x1, -, -, -⟩ := hc
  refine ⟨⟨?_, ?_, ?_⟩, ?_, ⟨?_, h2, h3, h4⟩, ?_, ?_, e2, e3, e4⟩
  · unfold types1 at t1 ⊢; rw [al.types]; exact t1
  · unfold types2 at t2 ⊢; rw [al.types]; simp only [al.declT]; exact t2
  · unfold types3 at t3 ⊢; rw [hg]; simp only [al.oneT]; exact t3
  · unfold headsT at hh ⊢; rw [hp]; simp only [al.declT, al.known]; exact hh
  · unfold form1 at f1 ⊢; rw [al.meas]; simp only [al.isNode]; exact f1
  · unfold bodiesT inProcS at hb ⊢; rw [hp, hg]; simp only [al.stsT]; exact hb
  · unfold exp1 inFormS at x1 ⊢; rw [al.meas, hg]; simp only [al.wantT]; exact x1
section
variable {d : Ds} {sl : Sl}
def setI (d : Ds) (sl : Sl) (l : List Iv) : Ds := { d with is := sl, invs := l }
def setQ (d : Ds) (sl : Sl) (l : List Po) : Ds := { d with qs := sl, pots := l }
def setB (d : Ds) (sl : Sl) (l : List Bd) : Ds := { d with bs := sl, bounds := l }
def noTypes (d : Ds) : Ds := { d with ts := ⟨none, 0, 0⟩, types := [] }
theorem fitAll_types {d d' : Ds} (ht : d'.types = d.types) : ∀ (l : List ByteArray) (fs : List Fld), fitAll d' l fs = fitAll d l fs := by
  intro l
  induction l with
  | nil => intro fs; simp [fitAll]
  | cons a l ih =>
    intro fs
    cases fs with
    | nil => simp [fitAll]
    | cons f fs => unfold fitAll fits isNode; rw [ht, ih]
theorem callT_same {d d' : Ds} (ht : d'.types = d.types) (hp : d'.procs = d.procs) (s : ByteArray) (l : List ByteArray) : callT d' s l = callT d s l := by
  unfold callT prOf; rw [hp]; simp only [fitAll_types ht]
theorem aI {l : List Iv} : Alike d (setI d sl l) := ⟨rfl, callT_same rfl rfl, rfl⟩
theorem aQ {l : List Po} : Alike d (setQ d sl l) := ⟨rfl, callT_same rfl rfl, rfl⟩
theorem aB {l : List Bd} : Alike d (setB d sl l) := ⟨rfl, callT_same rfl rfl, rfl⟩
structure Good (d : Ds) : Prop where
  valid : validD d = true
  chk : chkT d = none
theorem Good.inv {l : List Iv} (h : Good d) (h1 : (l.length : Int) ≤ 12) (h2 : ∀ m ∈ l, ivB m = true) (h3 : l.Pairwise (fun a b => a.name ≠ b.name)) (h4 : ∀ m ∈ l, ¬ (m.ty ≠ sE ∧ isNode d m.ty = false)) (h5 : ∀ m ∈ l, wantT d (inFormS d m.ty) m.x sBool = 0) : Good (setI d sl l) := by
  obtain ⟨hv, hc⟩ := h
  refine ⟨?_, ?_⟩
  · rw [valid_iff] at hv ⊢
    obtain ⟨a1, a2, a3, a4, a5, a6, a7, a8, b1, b2, b3, b4, b5, b6⟩ := hv
    exact ⟨a1, a2, a3, a4, a5, h1, a7, a8, b1, b2, b3, h2, b5, b6⟩
  · obtain ⟨-, -, ⟨-, -, f3, f4⟩, -, -, -, x3, x4⟩ := chk_parts.1 hc
    refine alike_chk aI rfl rfl hc (form2_iff.2 ⟨h3, h4⟩) f3 f4 (exp2_iff.2 fun m hm => ?_) (exp3_iff.2 fun m hm => ?_) (exp4_iff.2 fun m hm => ?_)
    · rw [aI.wantT]; exact fun k => k (h5 m hm)
    · rw [aI.wantT]; exact exp3_iff.1 x3 m hm
    · rw [aI.wantT]; exact exp4_iff.1 x4 m hm
theorem Good.pot {l : List Po} (h : Good d) (hs : l.Sublist d.pots) : Good (setQ d sl l) := by
  obtain ⟨hv, hc⟩ := h
  refine ⟨?_, ?_⟩
  · rw [valid_iff] at hv ⊢
    obtain ⟨a1, a2, a3, a4, a5, a6, a7, a8, b1, b2, b3, b4, b5, b6⟩ := hv
    exact ⟨a1, a2, a3, a4, a5, a6, by have := hs.length_le; show (l.length : Int) ≤ 12; omega, a8, b1, b2, b3, b4, fun t ht => b5 t (hs.subset ht), b6⟩
  · obtain ⟨-, -, ⟨-, f2, f3, f4⟩, -, -, x2, x3, x4⟩ := chk_parts.1 hc
    refine alike_chk aQ rfl rfl hc f2 (form3_iff.2 fun m hm => form3_iff.1 f3 m (hs.subset hm)) f4 (exp2_iff.2 fun m hm => ?_) (exp3_iff.2 fun m hm => ?_) (exp4_iff.2 fun m hm => ?_)
    · rw [aQ.wantT]; exact exp2_iff.1 x2 m hm
    · rw [aQ.wantT]; exact exp3_iff.1 x3 m (hs.subset hm)
    · rw [aQ.wantT]; exact exp4_iff.1 x4 m hm
theorem Good.bound {l : List Bd} (h : Good d) (hs : l.Sublist d.bounds) : Good (setB d sl l) := by
  obtain ⟨hv, hc⟩ := h
  refine ⟨?_, ?_⟩
  · rw [valid_iff] at hv ⊢
    obtain ⟨a1, a2, a3, a4, a5, a6, a7, a8, b1, b2, b3, b4, b5, b6⟩ := hv
    exact ⟨a1, a2, a3, a4, a5, a6, a7, by have := hs.length_le; show (l.length : Int) ≤ 12; omega, b1, b2, b3, b4, b5, fun t ht => b6 t (hs.subset ht)⟩
  · obtain ⟨-, -, ⟨-, f2, f3, f4⟩, -, -, x2, x3, x4⟩ := chk_parts.1 hc
    refine alike_chk aB rfl rfl hc f2 f3 (form4_iff.2 ⟨(form4_iff.1 f4).1.sublist hs, fun m hm => (form4_iff.1 f4).2 m (hs.subset hm)⟩) (exp2_iff.2 fun m hm => ?_) (exp3_iff.2 fun m hm => ?_) (exp4_iff.2 fun m hm => ?_)
    · rw [aB.wantT]; exact exp2_iff.1 x2 m hm
    · rw [aB.wantT]; exact exp3_iff.1 x3 m hm
    · rw [aB.wantT]; exact exp4_iff.1 x4 m (hs.subset hm)
theorem Good.lessInv {l : List Iv} (h : Good d) (hs : l.Sublist d.invs) : Good (setI d sl l) := by
  obtain ⟨-, -, ⟨-, f2, -, -⟩, -, -, x2, -, -⟩ := chk_parts.1 h.chk
  obtain ⟨-, -, -, -, -, a6, -, -, -, -, -, b4, -, -⟩ := valid_iff.1 h.valid
  refine h.inv (by have := hs.length_le; omega) (fun t ht => b4 t (hs.subset ht)) ((form2_iff.1 f2).1.sublist hs) (fun m hm => (form2_iff.1 f2).2 m (hs.subset hm)) fun m hm => Classical.byContradiction fun k => exp2_iff.1 x2 m (hs.subset hm) k
def sTruth : ByteArray := strB [116, 114, 117, 116, 104]
def truth : Iv := ⟨sTruth, sE, .mk 2 1 sE ⟨none, 0, 0⟩ []⟩
theorem Good.truth (h : Good d) (hl : (d.invs.length : Int) < 12) (hn : d.invs.any (fun i => decide (i.name = sTruth)) = false) : Good (setI d sl (d.invs ++ [truth])) := by
  obtain ⟨-, -, ⟨-, f2, -, -⟩, -, -, x2, -, -⟩ := chk_parts.1 h.chk
  obtain ⟨-, -, -, -, -, a6, -, -, -, -, -, b4, -, -⟩ := valid_iff.1 h.valid
  rw [List.any_eq_false] at hn
  have key : ∀ {p : Iv → Prop}, (∀ m ∈ d.invs, p m) → p Go.Proofs.truth → ∀ m ∈ d.invs ++ [Go.Proofs.truth], p m := fun h1 h2 m hm => by
    rcases List.mem_append.1 hm with hm | hm
    · exact h1 m hm
    · rw [List.mem_singleton.1 hm]; exact h2
  refine h.inv (by simp; omega) (key b4 (by kernel_rfl)) (List.pairwise_append.2 ⟨(form2_iff.1 f2).1, by simp, fun a ha b hb => ?_⟩) (key (form2_iff.1 f2).2 fun k => k.1 rfl) (key (fun m hm => Classical.byContradiction fun k => exp2_iff.1 x2 m hm k) ?_)
  · rw [List.mem_singleton.1 hb]
    have := hn a ha
    exact fun e => this (decide_eq_true e)
  · show wantT d (inFormS d sE) (.mk 2 1 sE ⟨none, 0, 0⟩ []) sBool = 0
    kernel_rfl
theorem noTypes_bad (hu : d.globals.any (fun f => decide (f.ty ≠ sInt ∧ f.ty ≠ sBool)) = true) : ¬ Good (noTypes d) := by
  rintro ⟨-, hc⟩
  obtain ⟨⟨-, -, t3⟩, -⟩ := chk_parts.1 hc
  rw [List.any_eq_true] at hu
  obtain ⟨f, hf, hd⟩ := hu
  obtain ⟨k1, k2⟩ := of_decide_eq_true hd
  unfold types3 at t3
  rw [firstE_iff] at t3
  obtain ⟨j, hj, rfl⟩ := List.mem_iff_getElem.1 hf
  have := t3 j d.globals[j] (List.getElem?_eq_getElem hj)
  split at this
  · cases this
  · rename_i h'
    refine h' fun e => ?_
    unfold oneT at e
    split at e
    · exact absurd e (by decide)
    · split at e
      · rename_i hk
        unfold known isNode noTypes at hk
        simp [k1, k2] at hk
      · exact absurd e (by decide)
end
end Go.Proofs
namespace Go.Proofs
open Go Go.Sx
attribute [local irreducible] Go.Sx.Tri
theorem chk_err (d : Ds) : ∀ r, chkT d = some r → r.2.2 ≠ 0 := by
  unfold chkT
  exact or_bad (fun r h => (types_bad d r h).1) (or_bad (fun r h => (heads_bad d r h).1) (or_bad (fun r h => (form_bad d r h).1) (or_bad (bodies_bad d) fun r h => (exps_bad d r h).1)))
theorem wellT_iff {d : Ds} : wellT d = true ↔ validD d = true ∧ chkT d = none := by
  unfold wellT
  rw [Bool.and_eq_true, decide_eq_true_eq, (fltR_cases (P := fun _ => True) fun r h => ⟨chk_err d r h, trivial⟩).1]
theorem wellE_1 {d : Ds} {ok : Bool} (h : ¬ (validD d = true ∧ ok = true)) : wellE d ok = 1 := by
  unfold wellE; rw [if_neg h]
theorem wellE_13 {d : Ds} {ok : Bool} (h : validD d = true ∧ ok = true) (hw : ¬ wellT d = true) : wellE d ok = 13 := by
  unfold wellE; rw [if_pos h, if_neg fun k => hw (wellT_iff.2 ⟨h.1, k⟩)]
theorem wellE_0 {d : Ds} {ok : Bool} (hw : wellT d = true) (hok : ok = true) : wellE d ok = 0 := by
  obtain ⟨h1, h2⟩ := wellT_iff.1 hw
  unfold wellE; rw [if_pos ⟨h1, hok⟩, if_pos h2]
section
variable {V : Mem} {d : Ds} {e : E} {s : ByteArray}
theorem exprR_e {n : Int} (h : wellE d (validE e) = n) (hn : n ≠ 0) : exprR d s e = (sE, n) := by
  unfold exprR; rw [h, if_pos hn]
theorem exprR_none (h : wellE d (validE e) = 0) (hp : prOf d s = none) : exprR d s e = (sE, 12) := by
  unfold exprR; rw [if_neg fun k => k h, hp]
theorem exprR_some {p : Pr} (h : wellE d (validE e) = 0) (hp : prOf d s = some p) : exprR d s e = exprT d (inProcS d p) e := by
  unfold exprR; rw [if_neg fun k => k h, hp]
theorem measR_e {n : Int} (h : wellE d (validE e) = n) (hn : n ≠ 0) : measR d s e = (sE, n) := by
  unfold measR; rw [h, if_pos hn]
theorem measR_none (h : wellE d (validE e) = 0) (hp : s ≠ sE ∧ isNode d s = false) : measR d s e = (sE, 12) := by
  unfold measR; rw [if_neg fun k => k h, if_pos hp]
theorem measR_some (h : wellE d (validE e) = 0) (hp : ¬ (s ≠ sE ∧ isNode d s = false)) : measR d s e = exprT d (inFormS d s) e := by
  unfold measR; rw [if_neg fun k => k h, if_neg hp]
theorem awakeAt [hT : Tab V] {V2 : Mem} (h : V.sub V2) : Tri Tryz.prog 10 #[] V2 fun r V3 => ∃ v : Bool, r = .returned (.bool v) ∧ (Ending.returned (.bool v) = Ending.returned (.bool true) ∧ V.sub V3) := by
  haveI : Tab V2 := hT.sub h
  exact (awakeC V2).call ⟨_, rfl, rfl, h⟩
theorem cExprs [hT : Tab V] (hd : Ds.Ok V d) (he : E.Ok V e) : PP 4 [d.v, .string s, e.v] V (.bool true) := by
  refine Pur.mk (x4 (v0 := d.name) (v1 := d.ts) (v2 := d.gs) (v3 := d.ps) (v4 := d.ms) (v5 := d.is) (v6 := d.qs) (v7 := d.bs) (v8 := s) (v9 := e.op) (v10 := e.n) (v11 := e.s) (v12 := e.l) ?_)
  unfold w4
  refine (awakeC V).call ⟨_, rfl, fun _ => Tri.mono (c11 hd) ?_, fun h => absurd rfl h⟩
  rintro _ V1 ⟨ok, rfl, e1⟩
  obtain rfl : V = V1 := e1.symm
  refine ⟨ok, rfl, fun _ => ⟨fun _ => awakeAt (Mem.sub.refl _), fun _ => ?_⟩, fun _ => awakeAt (Mem.sub.refl _)⟩
  intro b hb
  have hs : ∀ m, V.sub (V.set b (cell (.int .i64 m) 3)) := fun m => Mem.sub_new hb _
  refine Tri.mono (c15 hb e he 150 1 (by omega) (by omega) (by omega) (by omega)) ?_
  rintro _ _ ⟨ok2, m, rfl, rfl, -⟩
  refine ⟨ok2, rfl, fun _ => ?_, fun _ => awakeAt (hs m)⟩
  have hV2 := hs m
  generalize V.set b (cell (.int .i64 m) 3) = V2 at hV2 ⊢
  have hd2 := hd.sub hV2
  have he2 := he.sub hV2
  haveI hT2 : Tab V2 := hT.sub hV2
  refine (c16 scopeC newC hd2 (s := s) he2).call ⟨_, _, rfl, (c13 hd2).call ⟨_, rfl, fun hv => (c17 he2).call ⟨_, rfl, fun hve => ?_, fun hve => ?_⟩, fun hv => ?_⟩⟩
  · refine (c18 hd2).call ⟨_, rfl, fun hw => (c19 hd2).call ⟨_, rfl, ?_⟩, fun hw => ?_⟩
    · have w0 := wellE_0 hw hve
      rcases idx_cases (fun t : Pr => decide (t.name = s)) d.procs with ⟨i1, i2, -⟩ | ⟨i, p, i1, i2, i3, i4, -, i5, -⟩
      · rw [i1, exprR_none w0 i2]
        exact ⟨fun _ => ⟨fun _ => ⟨rfl, hV2⟩, fun h => absurd rfl h⟩, fun h => absurd (by decide) h⟩
      · have hx := i2
        obtain ⟨x, hm, hx', hdr, hl, hp, hz, hrow⟩ := hd2.procs.get (i := i) (by rw [hd2.procs.n_eq]; omega)
        obtain rfl : x = p := Option.some.inj (hx'.symm.trans hx)
        have hvp := vparts hv
        refine ⟨fun h => absurd h (by rw [i1]; omega), fun _ => (c19 hd2).call ⟨_, rfl, ?_⟩⟩
        rw [i1, exprR_some w0 i3]
        refine ⟨hp, hz, by rw [hd2.procs.n_eq]; omega, _, _, _, _, _, hrow, Tri.mono (refInProc hd2 (hd2.procsOk x hm) hvp.small.1 (hvp.small.2 x hm)) ?_⟩
        rintro _ V3 ⟨s', rfl, h23, hr⟩
        exact ⟨s', true, rfl, (refExpr (hd2.sub h23) hr e (he2.sub h23) 1 (validE_ok hve) V3 (Mem.sub.refl _)).call ⟨_, _, rfl, fun _ => ⟨by rw [decide_eq_true rfl], hV2.trans h23⟩, fun h => absurd rfl h⟩⟩
    · rw [exprR_e (wellE_13 ⟨hv, hve⟩ hw) (by decide)]
      exact ⟨fun _ => ⟨rfl, hV2⟩, fun h => absurd rfl h⟩
  · rw [exprR_e (wellE_1 fun h => hve h.2) (by decide)]
    exact ⟨fun _ => ⟨rfl, hV2⟩, fun h => absurd rfl h⟩
  · rw [exprR_e (wellE_1 fun h => hv h.1) (by decide)]
    exact ⟨fun _ => ⟨rfl, hV2⟩, fun h => absurd rfl h⟩
theorem cFormulas [hT : Tab V] (hd : Ds.Ok V d) (he : E.Ok V e) : PP 7 [d.v, .string s, e.v] V (.bool true) := by
  refine Pur.mk (x7 (v0 := d.name) (v1 := d.ts) (v2 := d.gs) (v3 := d.ps) (v4 := d.ms) (v5 := d.is) (v6 := d.qs) (v7 := d.bs) (v8 := s) (v9 := e.op) (v10 := e.n) (v11 := e.s) (v12 := e.l) ?_)
  unfold w7
  refine (awakeC V).call ⟨_, rfl, fun _ => Tri.mono (c11 hd) ?_, fun h => absurd rfl h⟩
  rintro _ V1 ⟨ok, rfl, e1⟩
  obtain rfl : V = V1 := e1.symm
  refine ⟨ok, rfl, fun _ => ⟨fun _ => awakeAt (Mem.sub.refl _), fun _ => ?_⟩, fun _ => awakeAt (Mem.sub.refl _)⟩
  intro b hb
  have hs : ∀ m, V.sub (V.set b (cell (.int .i64 m) 3)) := fun m => Mem.sub_new hb _
  refine Tri.mono (c15 hb e he 150 1 (by omega) (by omega) (by omega) (by omega)) ?_
  rintro _ _ ⟨ok2, m, rfl, rfl, -⟩
  refine ⟨ok2, rfl, fun _ => ?_, fun _ => awakeAt (hs m)⟩
  have hV2 := hs m
  generalize V.set b (cell (.int .i64 m) 3) = V2 at hV2 ⊢
  have hd2 := hd.sub hV2
  have he2 := he.sub hV2
  haveI hT2 : Tab V2 := hT.sub hV2
  refine (c35 scopeC newC hd2 (s := s) he2).call ⟨_, _, rfl, (c13 hd2).call ⟨_, rfl, fun hv => (c17 he2).call ⟨_, rfl, fun hve => ?_, fun hve => ?_⟩, fun hv => ?_⟩⟩
  · refine (c18 hd2).call ⟨_, rfl, fun hw => ?_, fun hw => ?_⟩
    · have w0 := wellE_0 hw hve
      have hvp := vparts hv
      have go : ¬ (s ≠ sE ∧ isNode d s = false) → Tri Tryz.prog 37 #[d.v, .string s] V2 fun r V3 => ∃ v22 : Sl, ∃ v23 : Bool, r = .returned (.agg #[.slice v22.p v22.n v22.c, .bool v23]) ∧
          Tri Tryz.prog 20 #[d.v, .agg #[.slice v22.p v22.n v22.c, .bool v23], e.v] V3 fun r V4 => ∃ v24 : ByteArray, ∃ v25 : Int, r = .returned (.tuple #[.string v24, .int .i64 v25]) ∧
          (((measR d s e).1 = v24 → (Ending.returned (.bool (decide ((measR d s e).2 = v25))) = Ending.returned (.bool true) ∧ V.sub V4)) ∧ (¬ ((measR d s e).1 = v24) → (Ending.returned (.bool false) = Ending.returned (.bool true) ∧ V.sub V4))) := fun hn => by
        rw [measR_some w0 hn]
        refine Tri.mono (refInFormula hd2 hvp.small.1) ?_
        rintro _ V3 ⟨s', rfl, h23, hr⟩
        exact ⟨s', false, rfl, (refExpr (hd2.sub h23) hr e (he2.sub h23) 1 (validE_ok hve) V3 (Mem.sub.refl _)).call ⟨_, _, rfl, fun _ => ⟨by rw [decide_eq_true rfl], hV2.trans h23⟩, fun h => absurd rfl h⟩⟩
      refine ⟨fun h0 => go fun h => h.1 h0, fun h0 => (c36 hd2).call ⟨_, rfl, fun hi => go fun h => (by rw [hi] at h; cases h.2), fun hi => ?_⟩⟩
      rw [measR_none w0 ⟨h0, by simpa using hi⟩]
      exact ⟨fun _ => ⟨rfl, hV2⟩, fun h => absurd rfl h⟩
    · rw [measR_e (wellE_13 ⟨hv, hve⟩ hw) (by decide)]
      exact ⟨fun _ => ⟨rfl, hV2⟩, fun h => absurd rfl h⟩
  · rw [measR_e (wellE_1 fun h => hve h.2) (by decide)]
    exact ⟨fun _ => ⟨rfl, hV2⟩, fun h => absurd rfl h⟩
  · rw [measR_e (wellE_1 fun h => hv h.1) (by decide)]
    exact ⟨fun _ => ⟨rfl, hV2⟩, fun h => absurd rfl h⟩
theorem cEntries [hT : Tab V] (hd : Ds.Ok V d) : PP 9 [d.v] V (.bool true) := by
  refine Pur.mk (x9 (v0 := d.name) (v1 := d.ts) (v2 := d.gs) (v3 := d.ps) (v4 := d.ms) (v5 := d.is) (v6 := d.qs) (v7 := d.bs) ?_)
  unfold w9
  refine (awakeC V).call ⟨_, rfl, fun _ => Tri.mono (c11 hd) ?_, fun h => absurd rfl h⟩
  rintro _ V1 ⟨ok, rfl, e1⟩
  obtain rfl : V = V1 := e1.symm
  refine ⟨ok, rfl, fun _ => Tri.mono (c41 scopeC newC hd) ?_, fun _ => awakeAt (Mem.sub.refl _)⟩
  rintro _ V2 ⟨l, rfl, hV2, hr⟩
  have hd2 := hd.sub hV2
  haveI hT2 : Tab V2 := hT.sub hV2
  refine ⟨l, _, rfl, (c13 hd2).call ⟨_, rfl, fun hv => (c18 hd2).call ⟨_, rfl, fun hw => ?_, fun hw => ?_⟩, fun hv => ?_⟩⟩
  · rw [wellE_0 hw rfl] at hr ⊢
    rw [if_pos rfl] at hr
    refine Tri.mono (c43 hd2 (by have := valid_iff.1 hv; omega)) ?_
    rintro _ V3 ⟨l2, rfl, h23, hr2⟩
    exact ⟨l2, rfl, (c42 (hr.sub h23) hr2).call ⟨_, rfl, fun _ => ⟨rfl, hV2.trans h23⟩, fun h => absurd (decide_eq_true rfl) h⟩⟩
  · rw [wellE_13 ⟨hv, rfl⟩ hw] at hr ⊢
    rw [if_neg (by decide)] at hr
    exact ⟨fun _ => ⟨rfl, hV2⟩, fun h => absurd (by rw [hr.n_eq]; rfl) h⟩
  · rw [wellE_1 fun h => hv h.1] at hr ⊢
    rw [if_neg (by decide)] at hr
    exact ⟨fun _ => ⟨rfl, hV2⟩, fun h => absurd (by rw [hr.n_eq]; rfl) h⟩
end
end Go.Proofs
namespace Go.Proofs
open Go Go.Sx
attribute [local irreducible] Go.Sx.Tri
theorem RowsAt.post {α : Type} {V : Mem} {l : Sl} {sz : Nat} {row : α → List Value} {xs : List α} (h : RowsAt V l sz (xs.map row)) {j : Nat} (hj : j ≤ xs.length) :
    RowsAt V ⟨if (l.c : Int) = (j : Int) then l.p else ptrAdd l.p ((j : Int).toNat * sz), ((l.n : Int) - (j : Int)).toNat, ((l.c : Int) - (j : Int)).toNat⟩ sz ((xs.drop j).map row) := by
  have hn := h.n_eq
  have hc := h.cap
  have hf := h.fit
  refine ⟨?_, ?_, ?_, fun r hr => h.size r ?_, fun i r hi => ?_⟩
  · show ((l.n : Int) - (j : Int)).toNat = _
    rw [List.length_map, List.length_drop]; omega
  · show ((l.n : Int) - (j : Int)).toNat ≤ ((l.c : Int) - (j : Int)).toNat; omega
  · show ((l.c : Int) - (j : Int)).toNat ≤ _; omega
  · rw [List.map_drop] at hr; exact List.mem_of_mem_drop hr
  · rw [List.map_drop, List.getElem?_drop] at hi
    obtain ⟨a, ha, hrow⟩ := h.at_ _ _ hi
    have hlt : j + i < (xs.map row).length := (List.getElem?_eq_some_iff.1 hi).1
    rw [List.length_map] at hlt
    refine ⟨a.add (j * sz), ?_, ?_⟩
    · show (if (l.c : Int) = (j : Int) then l.p else ptrAdd l.p ((j : Int).toNat * sz)) = _
      rw [if_neg (by omega), ha]; rfl
    · rw [add_add, ← Nat.add_mul]; exact hrow
theorem mod_nat {k : Int} {n : Nat} (hk : 0 ≤ k) (hn : 0 < n) : ∃ i : Nat, i < n ∧ k.tmod (n : Int) = (i : Int) := by
  obtain ⟨m, rfl⟩ := Int.eq_ofNat_of_zero_le hk
  exact ⟨m % n, Nat.mod_lt _ hn, rfl⟩
theorem app26 {V0 V : Mem} {ty : Nat} {x y : Operand} {vals : Operand → Value} {s u : Sl} {xs ys : List Iv} (hx : vals x = .slice s.p s.n s.c) (hy : vals y = .slice u.p u.n u.c) (own : Sx.Own V0 V 58 6 s (xs.flatMap Iv.row)) (hnew : RowsAt V u 6 (ys.map Iv.row))
    (hfit : xs.length + ys.length ≤ 2147483648) {q : Value → Mem → Prop} (hq : ∀ s' V', Sx.Own V0 V' 58 6 s' ((xs ++ ys).flatMap Iv.row) → q (.slice s'.p s'.n s'.c) V') :
    GenK Tryz.prog (.call { callee := .builtin .append, args := #[x, y], argTypes := #[26, 26] }) ty vals V q := by
  have hi : Tryz.prog.info? 58 = some (ti 58) := by kernel_rfl
  have hz : (ti 58).zero = some ((ti 58).zero.getD undef) := by kernel_rfl
  have h1 : (ti 58).size = 6 := by kernel_rfl
  have h2 : ((ti 58).zero.getD undef).cells.size = 6 := by kernel_rfl
  have h3 : (ti 58).bytes ≤ 65536 := of_decide_eq_true (by kernel_rfl)
  exact GenK.appendS Tryz.underlying26 hi hz h1 h2 (by decide) h3 hx hy own (fun _ => rfl) hnew (fun x u hu => by
    simp only [Iv.row, List.mem_cons, List.not_mem_nil, or_false] at hu
    rcases hu with rfl | rfl | rfl | rfl | rfl | rfl <;> rfl) hfit hq
theorem c30 {V : Mem} {l : Sl} {xs : List Iv} (h : RowsAt V l 6 (xs.map Iv.row)) (hl : xs.length ≤ 1000) : Tri Tryz.prog 30 #[l.v] V fun r V' => ∃ s : Sl, r = .returned (.slice s.p s.n s.c) ∧ Sx.Own V V' 58 6 s (xs.flatMap Iv.row) := by
  refine x30 ?_
  unfold w30
  refine ⟨fun hp => ?_, fun hp => ?_⟩
  · have : xs = [] := by
      cases xs with
      | nil => rfl
      | cons x xs =>
        have := h.base (i := 0) (by simp)
        rw [hp] at this; cases this
    subst this
    exact ⟨⟨none, 0, 0⟩, rfl, Sx.Own.nil (Mem.sub.refl _) _ _⟩
  · intro b hb
    have hs := Mem.sub_new hb (.cells #[] 58 (0, 0))
    exact app26 (s := ⟨some ⟨b, 0, none⟩, 0, 0⟩) (u := l) (xs := []) (ys := xs) rfl rfl (Sx.Own.empty hs _ _ _) (h.sub hs) (by simp; omega) fun s1 V1 o1 => ⟨s1, rfl, s1, rfl, o1⟩
theorem c23 {V : Mem} {l : Sl} {xs : List Iv} (h : RowsAt V l 6 (xs.map Iv.row)) (hl : xs.length ≤ 1000) {k : Int} (hk : 0 ≤ k ∧ k ≤ 255) :
    Tri Tryz.prog 23 #[l.v, .int .u8 k] V fun r V' => ∃ (s : Sl) (ys : List Iv), r = .returned (.slice s.p s.n s.c) ∧ V.sub V' ∧ RowsAt V' s 6 (ys.map Iv.row) ∧ ys.Sublist xs := by
  refine x23 (v0 := l) (v1 := k) ?_
  unfold w23
  have hn := h.n_eq
  have hc := h.cap
  refine ⟨fun _ => ⟨l, xs, rfl, Mem.sub.refl _, h, List.Sublist.refl _⟩, fun h0 => ?_⟩
  obtain ⟨i, hi, he⟩ := mod_nat (n := l.n) hk.1 (by omega)
  rw [he]
  refine ⟨⟨by omega, by omega⟩, h0, by omega, ⟨by omega, by omega⟩, by omega, ?_⟩
  rw [pre_eq, sub0, sub0]
  refine Tri.mono (c30 (l := ⟨l.p, i, l.c⟩) (xs := xs.take i) (RowsAt.pre h (by omega)) (by rw [List.length_take]; omega)) ?_
  rintro _ V1 ⟨s1, rfl, o1⟩
  refine ⟨s1, rfl, by omega, ⟨by omega, by omega⟩, ?_⟩
  refine app26 (s := s1) (u := ⟨if (l.c : Int) = k.tmod (l.n : Int) + 1 then l.p else ptrAdd l.p ((k.tmod (l.n : Int) + 1).toNat * 6), ((l.n : Int) - (k.tmod (l.n : Int) + 1)).toNat, ((l.c : Int) - (k.tmod (l.n : Int) + 1)).toNat⟩) (xs := xs.take i) (ys := xs.drop (i + 1)) rfl rfl o1 ?_ (by rw [List.length_take, List.length_drop]; omega) fun s' V' o' => ⟨s', rfl, s', _, rfl, o'.sub, o'.rows (fun _ => rfl) (by decide), ?_⟩
  · rw [he]
    exact RowsAt.post (h.sub o1.sub) (j := i + 1) (by omega)
  · rw [← List.eraseIdx_eq_take_drop_succ]
    exact List.eraseIdx_sublist _ _
theorem app27 {V0 V : Mem} {ty : Nat} {x y : Operand} {vals : Operand → Value} {s u : Sl} {xs ys : List Po} (hx : vals x = .slice s.p s.n s.c) (hy : vals y = .slice u.p u.n u.c) (own : Sx.Own V0 V 61 5 s (xs.flatMap Po.row)) (hnew : RowsAt V u 5 (ys.map Po.row))
    (hfit : xs.length + ys.length ≤ 2147483648) {q : Value → Mem → Prop} (hq : ∀ s' V', Sx.Own V0 V' 61 5 s' ((xs ++ ys).flatMap Po.row) → q (.slice s'.p s'.n s'.c) V') :
    GenK Tryz.prog (.call { callee := .builtin .append, args := #[x, y], argTypes := #[27, 27] }) ty vals V q := by
  have hi : Tryz.prog.info? 61 = some (ti 61) := by kernel_rfl
  have hz : (ti 61).zero = some ((ti 61).zero.getD undef) := by kernel_rfl
  have h1 : (ti 61).size = 5 := by kernel_rfl
  have h2 : ((ti 61).zero.getD undef).cells.size = 5 := by kernel_rfl
  have h3 : (ti 61).bytes ≤ 65536 := of_decide_eq_true (by kernel_rfl)
  exact GenK.appendS Tryz.underlying27 hi hz h1 h2 (by decide) h3 hx hy own (fun _ => rfl) hnew (fun x u hu => by
    simp only [Po.row, List.mem_cons, List.not_mem_nil, or_false] at hu
    rcases hu with rfl | rfl | rfl | rfl | rfl <;> rfl) hfit hq
theorem c73 {V : Mem} {l : Sl} {xs : List Po} (h : RowsAt V l 5 (xs.map Po.row)) (hl : xs.length ≤ 1000) : Tri Tryz.prog 73 #[l.v] V fun r V' => ∃ s : Sl, r = .returned (.slice s.p s.n s.c) ∧ Sx.Own V V' 61 5 s (xs.flatMap Po.row) := by
  refine x73 ?_
  unfold w73
  refine ⟨fun hp => ?_, fun hp => ?_⟩
  · have : xs = [] := by
      cases xs with
      | nil => rfl
      | cons x xs =>
        have := h.base (i := 0) (by simp)
        rw [hp] at this; cases this
    subst this
    exact ⟨⟨none, 0, 0⟩, rfl, Sx.Own.nil (Mem.sub.refl _) _ _⟩
  · intro b hb
    have hs := Mem.sub_new hb (.cells #[] 61 (0, 0))
    exact app27 (s := ⟨some ⟨b, 0, none⟩, 0, 0⟩) (u := l) (xs := []) (ys := xs) rfl rfl (Sx.Own.empty hs _ _ _) (h.sub hs) (by simp; omega) fun s1 V1 o1 => ⟨s1, rfl, s1, rfl, o1⟩
theorem c24 {V : Mem} {l : Sl} {xs : List Po} (h : RowsAt V l 5 (xs.map Po.row)) (hl : xs.length ≤ 1000) {k : Int} (hk : 0 ≤ k ∧ k ≤ 255) :
    Tri Tryz.prog 24 #[l.v, .int .u8 k] V fun r V' => ∃ (s : Sl) (ys : List Po), r = .returned (.slice s.p s.n s.c) ∧ V.sub V' ∧ RowsAt V' s 5 (ys.map Po.row) ∧ ys.Sublist xs := by
  refine x24 (v0 := l) (v1 := k) ?_
  unfold w24
  have hn := h.n_eq
  have hc := h.cap
  refine ⟨fun _ => ⟨l, xs, rfl, Mem.sub.refl _, h, List.Sublist.refl _⟩, fun h0 => ?_⟩
  obtain ⟨i, hi, he⟩ := mod_nat (n := l.n) hk.1 (by omega)
  rw [he]
  refine ⟨⟨by omega, by omega⟩, h0, by omega, ⟨by omega, by omega⟩, by omega, ?_⟩
  rw [pre_eq, sub0, sub0]
  refine Tri.mono (c73 (l := ⟨l.p, i, l.c⟩) (xs := xs.take i) (RowsAt.pre h (by omega)) (by rw [List.length_take]; omega)) ?_
  rintro _ V1 ⟨s1, rfl, o1⟩
  refine ⟨s1, rfl, by omega, ⟨by omega, by omega⟩, ?_⟩
  refine app27 (s := s1) (u := ⟨if (l.c : Int) = k.tmod (l.n : Int) + 1 then l.p else ptrAdd l.p ((k.tmod (l.n : Int) + 1).toNat * 5), ((l.n : Int) - (k.tmod (l.n : Int) + 1)).toNat, ((l.c : Int) - (k.tmod (l.n : Int) + 1)).toNat⟩) (xs := xs.take i) (ys := xs.drop (i + 1)) rfl rfl o1 ?_ (by rw [List.length_take, List.length_drop]; omega) fun s' V' o' => ⟨s', rfl, s', _, rfl, o'.sub, o'.rows (fun _ => rfl) (by decide), ?_⟩
  · rw [he]
    exact RowsAt.post (h.sub o1.sub) (j := i + 1) (by omega)
  · rw [← List.eraseIdx_eq_take_drop_succ]
    exact List.eraseIdx_sublist _ _
theorem app28 {V0 V : Mem} {ty : Nat} {x y : Operand} {vals : Operand → Value} {s u : Sl} {xs ys : List Bd} (hx : vals x = .slice s.p s.n s.c) (hy : vals y = .slice u.p u.n u.c) (own : Sx.Own V0 V 64 5 s (xs.flatMap Bd.row)) (hnew : RowsAt V u 5 (ys.map Bd.row))
    (hfit : xs.length + ys.length ≤ 2147483648) {q : Value → Mem → Prop} (hq : ∀ s' V', Sx.Own V0 V' 64 5 s' ((xs ++ ys).flatMap Bd.row) → q (.slice s'.p s'.n s'.c) V') :
    GenK Tryz.prog (.call { callee := .builtin .append, args := #[x, y], argTypes := #[28, 28] }) ty vals V q := by
  have hi : Tryz.prog.info? 64 = some (ti 64) := by kernel_rfl
  have hz : (ti 64).zero = some ((ti 64).zero.getD undef) := by kernel_rfl
  have h1 : (ti 64).size = 5 := by kernel_rfl
  have h2 : ((ti 64).zero.getD undef).cells.size = 5 := by kernel_rfl
  have h3 : (ti 64).bytes ≤ 65536 := of_decide_eq_true (by kernel_rfl)
  exact GenK.appendS Tryz.underlying28 hi hz h1 h2 (by decide) h3 hx hy own (fun _ => rfl) hnew (fun x u hu => by
    simp only [Bd.row, List.mem_cons, List.not_mem_nil, or_false] at hu
    rcases hu with rfl | rfl | rfl | rfl | rfl <;> rfl) hfit hq
theorem c74 {V : Mem} {l : Sl} {xs : List Bd} (h : RowsAt V l 5 (xs.map Bd.row)) (hl : xs.length ≤ 1000) : Tri Tryz.prog 74 #[l.v] V fun r V' => ∃ s : Sl, r = .returned (.slice s.p s.n s.c) ∧ Sx.Own V V' 64 5 s (xs.flatMap Bd.row) := by
  refine x74 ?_
  unfold w74
  refine ⟨fun hp => ?_, fun hp => ?_⟩
  · have : xs = [] := by
      cases xs with
      | nil => rfl
      | cons x xs =>
        have := h.base (i := 0) (by simp)
        rw [hp] at this; cases this
    subst this
    exact ⟨⟨none, 0, 0⟩, rfl, Sx.Own.nil (Mem.sub.refl _) _ _⟩
  · intro b hb
    have hs := Mem.sub_new hb (.cells #[] 64 (0, 0))
    exact app28 (s := ⟨some ⟨b, 0, none⟩, 0, 0⟩) (u := l) (xs := []) (ys := xs) rfl rfl (Sx.Own.empty hs _ _ _) (h.sub hs) (by simp; omega) fun s1 V1 o1 => ⟨s1, rfl, s1, rfl, o1⟩
theorem c25 {V : Mem} {l : Sl} {xs : List Bd} (h : RowsAt V l 5 (xs.map Bd.row)) (hl : xs.length ≤ 1000) {k : Int} (hk : 0 ≤ k ∧ k ≤ 255) :
    Tri Tryz.prog 25 #[l.v, .int .u8 k] V fun r V' => ∃ (s : Sl) (ys : List Bd), r = .returned (.slice s.p s.n s.c) ∧ V.sub V' ∧ RowsAt V' s 5 (ys.map Bd.row) ∧ ys.Sublist xs := by
  refine x25 (v0 := l) (v1 := k) ?_
  unfold w25
  have hn := h.n_eq
  have hc := h.cap
  refine ⟨fun _ => ⟨l, xs, rfl, Mem.sub.refl _, h, List.Sublist.refl _⟩, fun h0 => ?_⟩
  obtain ⟨i, hi, he⟩ := mod_nat (n := l.n) hk.1 (by omega)
  rw [he]
  refine ⟨⟨by omega, by omega⟩, h0, by omega, ⟨by omega, by omega⟩, by omega, ?_⟩
  rw [pre_eq, sub0, sub0]
  refine Tri.mono (c74 (l := ⟨l.p, i, l.c⟩) (xs := xs.take i) (RowsAt.pre h (by omega)) (by rw [List.length_take]; omega)) ?_
  rintro _ V1 ⟨s1, rfl, o1⟩
  refine ⟨s1, rfl, by omega, ⟨by omega, by omega⟩, ?_⟩
  refine app28 (s := s1) (u := ⟨if (l.c : Int) = k.tmod (l.n : Int) + 1 then l.p else ptrAdd l.p ((k.tmod (l.n : Int) + 1).toNat * 5), ((l.n : Int) - (k.tmod (l.n : Int) + 1)).toNat, ((l.c : Int) - (k.tmod (l.n : Int) + 1)).toNat⟩) (xs := xs.take i) (ys := xs.drop (i + 1)) rfl rfl o1 ?_ (by rw [List.length_take, List.length_drop]; omega) fun s' V' o' => ⟨s', rfl, s', _, rfl, o'.sub, o'.rows (fun _ => rfl) (by decide), ?_⟩
  · rw [he]
    exact RowsAt.post (h.sub o1.sub) (j := i + 1) (by omega)
  · rw [← List.eraseIdx_eq_take_drop_succ]
    exact List.eraseIdx_sublist _ _
theorem app24 {V0 V : Mem} {ty : Nat} {x y : Operand} {vals : Operand → Value} {s u : Sl} {xs ys : List Pr} (hx : vals x = .slice s.p s.n s.c) (hy : vals y = .slice u.p u.n u.c) (own : Sx.Own V0 V 54 5 s (xs.flatMap Pr.row)) (hnew : RowsAt V u 5 (ys.map Pr.row))
    (hfit : xs.length + ys.length ≤ 2147483648) {q : Value → Mem → Prop} (hq : ∀ s' V', Sx.Own V0 V' 54 5 s' ((xs ++ ys).flatMap Pr.row) → q (.slice s'.p s'.n s'.c) V') :
    GenK Tryz.prog (.call { callee := .builtin .append, args := #[x, y], argTypes := #[24, 24] }) ty vals V q := by
  have hi : Tryz.prog.info? 54 = some (ti 54) := by kernel_rfl
  have hz : (ti 54).zero = some ((ti 54).zero.getD undef) := by kernel_rfl
  have h1 : (ti 54).size = 5 := by kernel_rfl
  have h2 : ((ti 54).zero.getD undef).cells.size = 5 := by kernel_rfl
  have h3 : (ti 54).bytes ≤ 65536 := of_decide_eq_true (by kernel_rfl)
  exact GenK.appendS Tryz.underlying24 hi hz h1 h2 (by decide) h3 hx hy own (fun _ => rfl) hnew (fun x u hu => by
    simp only [Pr.row, List.mem_cons, List.not_mem_nil, or_false] at hu
    rcases hu with rfl | rfl | rfl | rfl | rfl <;> rfl) hfit hq
theorem c31 {V : Mem} {l : Sl} {xs : List Pr} (h : RowsAt V l 5 (xs.map Pr.row)) (hl : xs.length ≤ 1000) : Tri Tryz.prog 31 #[l.v] V fun r V' => ∃ s : Sl, r = .returned (.slice s.p s.n s.c) ∧ Sx.Own V V' 54 5 s (xs.flatMap Pr.row) := by
  refine x31 ?_
  unfold w31
  refine ⟨fun hp => ?_, fun hp => ?_⟩
  · have : xs = [] := by
      cases xs with
      | nil => rfl
      | cons x xs =>
        have := h.base (i := 0) (by simp)
        rw [hp] at this; cases this
    subst this
    exact ⟨⟨none, 0, 0⟩, rfl, Sx.Own.nil (Mem.sub.refl _) _ _⟩
  · intro b hb
    have hs := Mem.sub_new hb (.cells #[] 54 (0, 0))
    exact app24 (s := ⟨some ⟨b, 0, none⟩, 0, 0⟩) (u := l) (xs := []) (ys := xs) rfl rfl (Sx.Own.empty hs _ _ _) (h.sub hs) (by simp; omega) fun s1 V1 o1 => ⟨s1, rfl, s1, rfl, o1⟩
theorem app38 {V0 V : Mem} {ty : Nat} {x y : Operand} {vals : Operand → Value} {s u : Sl} {xs ys : List E} (hx : vals x = .slice s.p s.n s.c) (hy : vals y = .slice u.p u.n u.c) (own : Sx.Own V0 V 40 4 s (xs.flatMap E.row)) (hnew : RowsAt V u 4 (ys.map E.row))
    (hfit : xs.length + ys.length ≤ 2147483648) {q : Value → Mem → Prop} (hq : ∀ s' V', Sx.Own V0 V' 40 4 s' ((xs ++ ys).flatMap E.row) → q (.slice s'.p s'.n s'.c) V') :
    GenK Tryz.prog (.call { callee := .builtin .append, args := #[x, y], argTypes := #[38, 38] }) ty vals V q := by
  have hi : Tryz.prog.info? 40 = some (ti 40) := by kernel_rfl
  have hz : (ti 40).zero = some ((ti 40).zero.getD undef) := by kernel_rfl
  have h1 : (ti 40).size = 4 := by kernel_rfl
  have h2 : ((ti 40).zero.getD undef).cells.size = 4 := by kernel_rfl
  have h3 : (ti 40).bytes ≤ 65536 := of_decide_eq_true (by kernel_rfl)
  exact GenK.appendS Tryz.underlying38 hi hz h1 h2 (by decide) h3 hx hy own (fun _ => rfl) hnew (fun x u hu => by
    simp only [E.row, List.mem_cons, List.not_mem_nil, or_false] at hu
    rcases hu with rfl | rfl | rfl | rfl <;> rfl) hfit hq
theorem c40 {V : Mem} {l : Sl} {xs : List E} (h : RowsAt V l 4 (xs.map E.row)) (hl : xs.length ≤ 1000) : Tri Tryz.prog 40 #[l.v] V fun r V' => ∃ s : Sl, r = .returned (.slice s.p s.n s.c) ∧ Sx.Own V V' 40 4 s (xs.flatMap E.row) := by
  refine x40 ?_
  unfold w40
  refine ⟨fun hp => ?_, fun hp => ?_⟩
  · have : xs = [] := by
      cases xs with
      | nil => rfl
      | cons x xs =>
        have := h.base (i := 0) (by simp)
        rw [hp] at this; cases this
    subst this
    exact ⟨⟨none, 0, 0⟩, rfl, Sx.Own.nil (Mem.sub.refl _) _ _⟩
  · intro b hb
    have hs := Mem.sub_new hb (.cells #[] 40 (0, 0))
    exact app38 (s := ⟨some ⟨b, 0, none⟩, 0, 0⟩) (u := l) (xs := []) (ys := xs) rfl rfl (Sx.Own.empty hs _ _ _) (h.sub hs) (by simp; omega) fun s1 V1 o1 => ⟨s1, rfl, s1, rfl, o1⟩
theorem app52 {V0 V : Mem} {ty : Nat} {x y : Operand} {vals : Operand → Value} {s u : Sl} {xs ys : List S} (hx : vals x = .slice s.p s.n s.c) (hy : vals y = .slice u.p u.n u.c) (own : Sx.Own V0 V 75 5 s (xs.flatMap S.row)) (hnew : RowsAt V u 5 (ys.map S.row))
    (hfit : xs.length + ys.length ≤ 2147483648) {q : Value → Mem → Prop} (hq : ∀ s' V', Sx.Own V0 V' 75 5 s' ((xs ++ ys).flatMap S.row) → q (.slice s'.p s'.n s'.c) V') :
    GenK Tryz.prog (.call { callee := .builtin .append, args := #[x, y], argTypes := #[52, 52] }) ty vals V q := by
  have hi : Tryz.prog.info? 75 = some (ti 75) := by kernel_rfl
  have hz : (ti 75).zero = some ((ti 75).zero.getD undef) := by kernel_rfl
  have h1 : (ti 75).size = 5 := by kernel_rfl
  have h2 : ((ti 75).zero.getD undef).cells.size = 5 := by kernel_rfl
  have h3 : (ti 75).bytes ≤ 65536 := of_decide_eq_true (by kernel_rfl)
  exact GenK.appendS Tryz.underlying52 hi hz h1 h2 (by decide) h3 hx hy own (fun s => by cases s; rfl) hnew (fun x u hu => by
    simp only [S.row_eq, List.mem_cons, List.not_mem_nil, or_false] at hu
    rcases hu with rfl | rfl | rfl | rfl | rfl <;> rfl) hfit hq
theorem c34 {V : Mem} {l : Sl} {xs : List Fld} (h : RowsAt V l 2 (xs.map Fld.row)) (hl : xs.length ≤ 1000) : Tri Tryz.prog 34 #[l.v] V fun r V' => ∃ s : Sl, r = .returned (.slice s.p s.n s.c) ∧ Sx.Own V V' 67 2 s (xs.flatMap Fld.row) := by
  refine x34 ?_
  unfold w34
  refine ⟨fun hp => ?_, fun hp => ?_⟩
  · have : xs = [] := by
      cases xs with
      | nil => rfl
      | cons x xs =>
        have := h.base (i := 0) (by simp)
        rw [hp] at this; cases this
    subst this
    exact ⟨⟨none, 0, 0⟩, rfl, Sx.Own.nil (Mem.sub.refl _) _ _⟩
  · intro b hb
    have hs := Mem.sub_new hb (.cells #[] 67 (0, 0))
    exact app23 (s := ⟨some ⟨b, 0, none⟩, 0, 0⟩) (u := l) (xs := []) (ys := xs) rfl rfl (Sx.Own.empty hs _ _ _) (h.sub hs) (by simp; omega) fun s1 V1 o1 => ⟨s1, rfl, s1, rfl, o1⟩
end Go.Proofs
