/- Part 22 of a proof of a law of this seat: no statement of the seat is proved here. -/
import Derived.Test.YtjnmeimbcljkjaaGreatDoorPart06
set_option linter.unusedVariables false
set_option linter.unusedSimpArgs false
namespace Go.Proofs
open Go Go.Sx
set_option maxRecDepth 100000
def w6 (v0 : ByteArray) (v1 : Sl) (v2 : Sl) (v3 : Sl) (v4 : Sl) (v5 : Sl) (v6 : Sl) (v7 : Sl) (v8 : Int) (V : Mem) (R : Ending → Mem → Prop) : Prop :=
 Tri Tryz.prog 10 #[] V fun e V1 => ∃ v9 : Bool, e = .returned (.bool v9) ∧
 (v9 = true →
 Tri Tryz.prog 11 #[.agg #[.string v0, v1.v, v2.v, v3.v, v4.v, v5.v, v6.v, v7.v]] V1 fun e V2 => ∃ v10 : Bool, e = .returned (.bool v10) ∧
 (v10 = true →
 ((v3.n : Int) = (0 : Int) →
 Tri Tryz.prog 10 #[] V2 fun e V3 => ∃ v11 : Bool, e = .returned (.bool v11) ∧
 R (.returned (.bool v11)) V3) ∧ (¬ ((v3.n : Int) = (0 : Int)) →
 Tri Tryz.prog 22 #[.agg #[.string v0, v1.v, v2.v, v3.v, v4.v, v5.v, v6.v, v7.v]] V2 fun e V3 => ∃ v11 : Bool, e = .returned (.bool v11) ∧
 (v11 = true →
 (K.inR .i64 v8) ∧ (¬ ((v3.n : Int) = (0 : Int))) ∧ (¬ (v3.p = none)) ∧ ((0 : Int) ≤ ((v8).tmod (v3.n : Int))) ∧ (((v8).tmod (v3.n : Int)) < (v3.n : Int)) ∧ ∃ v12 : ByteArray, ∃ v13 : Sl, ∃ v14 : ByteArray, ∃ v15 : Sl, ∃ v16 : Sl, V3.rowp v3.p ((((v8).tmod (v3.n : Int))).toNat * 5) 5 = some [.string v12, v13.v, .string v14, v15.v, v16.v] ∧
 Tri Tryz.prog 31 #[v3.v] V3 fun e V4 => ∃ v17 : Sl, e = .returned v17.v ∧
 PubT [.int .i64 1, .int .i64 0, .string (strB []), .slice none 0 0] 40 V4 fun v18 V5 =>
 PubT [.int .i64 1, .string (strB [117, 110, 107, 110, 111, 119, 110, 95, 118, 97, 114, 105, 97, 98, 108, 101]), .slice (ptrAdd v18 0) ((1 : Int)).toNat ((1 : Int)).toNat, .slice none 0 0, .slice none 0 0] 75 V5 fun v19 V6 =>
 GenK Tryz.prog (.call { callee := (.builtin .append), args := #[.tmp 55, .tmp 57], argTypes := #[52, 52] }) 52 (gval [(55, (.c3 .slc (.u (.poff 0) (.var .p 19)) (.int .i64 1) (.int .i64 1))), (57, (.var .sl 16))] [.string v0, v1.v, v2.v, v3.v, v4.v, v5.v, v6.v, v7.v, .int .u8 v8, .bool v9, .bool v10, .bool v11, .string v12, v13.v, .string v14, v15.v, v16.v, v17.v, .pointer v18, .pointer v19]) V6 fun x V7 => ∃ v20 : Sl, x = v20.v ∧
 (¬ (v17.p = none)) ∧ ((0 : Int) ≤ ((v8).tmod (v3.n : Int))) ∧ (((v8).tmod (v3.n : Int)) < (v17.n : Int)) ∧ (¬ ((ptrAdd v17.p ((((v8).tmod (v3.n : Int))).toNat * 5)) = none)) ∧ StT (ptrAdd (ptrAdd v17.p ((((v8).tmod (v3.n : Int))).toNat * 5)) 4) 0 [v20.v] V7 fun V8 =>
 Tri Tryz.prog 12 #[.agg #[.string v0, v1.v, v2.v, v17.v, v4.v, v5.v, v6.v, v7.v]] V8 fun e V9 => ∃ v21 : ByteArray, ∃ v22 : Int, ∃ v23 : Int, e = .returned (.tuple #[.string v21, .int .i64 v22, .int .i64 v23]) ∧
 Tri Tryz.prog 32 #[v2.v] V9 fun e V10 => ∃ v24 : Bool, e = .returned (.bool v24) ∧
 (v24 = true →
 Tri Tryz.prog 32 #[v13.v] V10 fun e V11 => ∃ v25 : Bool, e = .returned (.bool v25) ∧
 (v25 = true →
 Tri Tryz.prog 32 #[v15.v] V11 fun e V12 => ∃ v26 : Bool, e = .returned (.bool v26) ∧
 (v26 = true →
 (v23 = (1 : Int) →
 (Tri Tryz.prog 31 #[v3.v] V12 fun e V13 => ∃ v27 : Sl, e = .returned v27.v ∧
 PubT [.string v12, v13.v, .string v14, v15.v, v16.v] 54 V13 fun v28 V14 =>
 GenK Tryz.prog (.call { callee := (.builtin .append), args := #[.tmp 104, .tmp 106], argTypes := #[24, 24] }) 24 (gval [(104, (.var .sl 27)), (106, (.c3 .slc (.u (.poff 0) (.var .p 28)) (.int .i64 1) (.int .i64 1)))] [.string v0, v1.v, v2.v, v3.v, v4.v, v5.v, v6.v, v7.v, .int .u8 v8, .bool v9, .bool v10, .bool v11, .string v12, v13.v, .string v14, v15.v, v16.v, v17.v, .pointer v18, .pointer v19, v20.v, .string v21, .int .i64 v22, .int .i64 v23, .bool v24, .bool v25, .bool v26, v27.v, .pointer v28]) V14 fun x V15 => ∃ v29 : Sl, x = v29.v ∧
 Tri Tryz.prog 12 #[.agg #[.string v0, v1.v, v2.v, v29.v, v4.v, v5.v, v6.v, v7.v]] V15 fun e V16 => ∃ v30 : ByteArray, ∃ v31 : Int, ∃ v32 : Int, e = .returned (.tuple #[.string v30, .int .i64 v31, .int .i64 v32]) ∧
 (v32 = (1 : Int) →
 ((v2.n : Int) = (0 : Int) →
 R (.returned (.bool true)) V16) ∧ (¬ ((v2.n : Int) = (0 : Int)) →
 ((8 : Int) ≤ (v2.n : Int) →
 R (.returned (.bool true)) V16) ∧ (¬ ((8 : Int) ≤ (v2.n : Int)) →
 (¬ (v2.p = none)) ∧ ((0 : Int) ≤ (0 : Int)) ∧ ((0 : Int) < (v2.n : Int)) ∧ ∃ v33 : ByteArray, ∃ v34 : ByteArray, V16.rowp v2.p (((0 : Int)).toNat * 2) 2 = some [.string v33, .string v34] ∧
 (Tri Tryz.prog 34 #[v2.v] V16 fun e V17 => ∃ v35 : Sl, e = .returned v35.v ∧
 PubT [.string v33, .string v34] 67 V17 fun v36 V18 =>
 GenK Tryz.prog (.call { callee := (.builtin .append), args := #[.tmp 144, .tmp 149], argTypes := #[23, 23] }) 23 (gval [(144, (.var .sl 35)), (149, (.c3 .slc (.u (.poff 0) (.var .p 36)) (.int .i64 1) (.int .i64 1)))] [.string v0, v1.v, v2.v, v3.v, v4.v, v5.v, v6.v, v7.v, .int .u8 v8, .bool v9, .bool v10, .bool v11, .string v12, v13.v, .string v14, v15.v, v16.v, v17.v, .pointer v18, .pointer v19, v20.v, .string v21, .int .i64 v22, .int .i64 v23, .bool v24, .bool v25, .bool v26, v27.v, .pointer v28, v29.v, .string v30, .int .i64 v31, .int .i64 v32, .string v33, .string v34, v35.v, .pointer v36]) V18 fun x V19 => ∃ v37 : Sl, x = v37.v ∧
 Tri Tryz.prog 12 #[.agg #[.string v0, v1.v, v37.v, v3.v, v4.v, v5.v, v6.v, v7.v]] V19 fun e V20 => ∃ v38 : ByteArray, ∃ v39 : Int, ∃ v40 : Int, e = .returned (.tuple #[.string v38, .int .i64 v39, .int .i64 v40]) ∧
 (¬ (v2.p = none)) ∧ ((0 : Int) ≤ (0 : Int)) ∧ ((0 : Int) < (v2.n : Int)) ∧ (¬ ((ptrAdd v2.p (((0 : Int)).toNat * 2)) = none)) ∧ ∃ v41 : ByteArray, ∃ v42 : ByteArray, V20.rowp v2.p (((0 : Int)).toNat * 2) 2 = some [.string v41, .string v42] ∧
 (v38 = v41 →
 (v39 = ((-1) : Int) →
 R (.returned (.bool (decide (v40 = (10 : Int))))) V20) ∧ (¬ (v39 = ((-1) : Int)) →
 R (.returned (.bool false)) V20)) ∧ (¬ (v38 = v41) →
 R (.returned (.bool false)) V20)) ∧
 (Tri Tryz.prog 34 #[v2.v] V16 fun e V17 => ∃ v35 : Sl, e = .returned v35.v ∧
 (V17.rowp (ptrAdd v2.p (((0 : Int)).toNat * 2)) 0 2 = some [.string v33, .string v34]) ∧ (¬ (v2.p = none)) ∧ ((0 : Int) ≤ (0 : Int)) ∧ ((0 : Int) < (v2.n : Int)) ∧ PubT [.string v33, .string v34] 67 V17 fun v36 V18 =>
 GenK Tryz.prog (.call { callee := (.builtin .append), args := #[.tmp 144, .tmp 149], argTypes := #[23, 23] }) 23 (gval [(144, (.var .sl 35)), (149, (.c3 .slc (.u (.poff 0) (.var .p 36)) (.int .i64 1) (.int .i64 1)))] [.string v0, v1.v, v2.v, v3.v, v4.v, v5.v, v6.v, v7.v, .int .u8 v8, .bool v9, .bool v10, .bool v11, .string v12, v13.v, .string v14, v15.v, v16.v, v17.v, .pointer v18, .pointer v19, v20.v, .string v21, .int .i64 v22, .int .i64 v23, .bool v24, .bool v25, .bool v26, v27.v, .pointer v28, v29.v, .string v30, .int .i64 v31, .int .i64 v32, .string v33, .string v34, v35.v, .pointer v36]) V18 fun x V19 => ∃ v37 : Sl, x = v37.v ∧
 Tri Tryz.prog 12 #[.agg #[.string v0, v1.v, v37.v, v3.v, v4.v, v5.v, v6.v, v7.v]] V19 fun e V20 => ∃ v38 : ByteArray, ∃ v39 : Int, ∃ v40 : Int, e = .returned (.tuple #[.string v38, .int .i64 v39, .int .i64 v40]) ∧
 (¬ (v2.p = none)) ∧ ((0 : Int) ≤ (0 : Int)) ∧ ((0 : Int) < (v2.n : Int)) ∧ (¬ ((ptrAdd v2.p (((0 : Int)).toNat * 2)) = none)) ∧ ∃ v41 : ByteArray, ∃ v42 : ByteArray, V20.rowp v2.p (((0 : Int)).toNat * 2) 2 = some [.string v41, .string v42] ∧
 (v38 = v41 →
 (v39 = ((-1) : Int) →
 R (.returned (.bool (decide (v40 = (10 : Int))))) V20) ∧ (¬ (v39 = ((-1) : Int)) →
 R (.returned (.bool false)) V20)) ∧ (¬ (v38 = v41) →
 R (.returned (.bool false)) V20))))) ∧ (¬ (v32 = (1 : Int)) →
 (v30 = v12 →
 (v31 = ((-1) : Int) →
 (v32 = (10 : Int) →
 ((v2.n : Int) = (0 : Int) →
 R (.returned (.bool true)) V16) ∧ (¬ ((v2.n : Int) = (0 : Int)) →
 ((8 : Int) ≤ (v2.n : Int) →
 R (.returned (.bool true)) V16) ∧ (¬ ((8 : Int) ≤ (v2.n : Int)) →
 (¬ (v2.p = none)) ∧ ((0 : Int) ≤ (0 : Int)) ∧ ((0 : Int) < (v2.n : Int)) ∧ ∃ v33 : ByteArray, ∃ v34 : ByteArray, V16.rowp v2.p (((0 : Int)).toNat * 2) 2 = some [.string v33, .string v34] ∧
 (Tri Tryz.prog 34 #[v2.v] V16 fun e V17 => ∃ v35 : Sl, e = .returned v35.v ∧
 PubT [.string v33, .string v34] 67 V17 fun v36 V18 =>
 GenK Tryz.prog (.call { callee := (.builtin .append), args := #[.tmp 144, .tmp 149], argTypes := #[23, 23] }) 23 (gval [(144, (.var .sl 35)), (149, (.c3 .slc (.u (.poff 0) (.var .p 36)) (.int .i64 1) (.int .i64 1)))] [.string v0, v1.v, v2.v, v3.v, v4.v, v5.v, v6.v, v7.v, .int .u8 v8, .bool v9, .bool v10, .bool v11, .string v12, v13.v, .string v14, v15.v, v16.v, v17.v, .pointer v18, .pointer v19, v20.v, .string v21, .int .i64 v22, .int .i64 v23, .bool v24, .bool v25, .bool v26, v27.v, .pointer v28, v29.v, .string v30, .int .i64 v31, .int .i64 v32, .string v33, .string v34, v35.v, .pointer v36]) V18 fun x V19 => ∃ v37 : Sl, x = v37.v ∧
 Tri Tryz.prog 12 #[.agg #[.string v0, v1.v, v37.v, v3.v, v4.v, v5.v, v6.v, v7.v]] V19 fun e V20 => ∃ v38 : ByteArray, ∃ v39 : Int, ∃ v40 : Int, e = .returned (.tuple #[.string v38, .int .i64 v39, .int .i64 v40]) ∧
 (¬ (v2.p = none)) ∧ ((0 : Int) ≤ (0 : Int)) ∧ ((0 : Int) < (v2.n : Int)) ∧ (¬ ((ptrAdd v2.p (((0 : Int)).toNat * 2)) = none)) ∧ ∃ v41 : ByteArray, ∃ v42 : ByteArray, V20.rowp v2.p (((0 : Int)).toNat * 2) 2 = some [.string v41, .string v42] ∧
 (v38 = v41 →
 (v39 = ((-1) : Int) →
 R (.returned (.bool (decide (v40 = (10 : Int))))) V20) ∧ (¬ (v39 = ((-1) : Int)) →
 R (.returned (.bool false)) V20)) ∧ (¬ (v38 = v41) →
 R (.returned (.bool false)) V20)) ∧
 (Tri Tryz.prog 34 #[v2.v] V16 fun e V17 => ∃ v35 : Sl, e = .returned v35.v ∧
 (V17.rowp (ptrAdd v2.p (((0 : Int)).toNat * 2)) 0 2 = some [.string v33, .string v34]) ∧ (¬ (v2.p = none)) ∧ ((0 : Int) ≤ (0 : Int)) ∧ ((0 : Int) < (v2.n : Int)) ∧ PubT [.string v33, .string v34] 67 V17 fun v36 V18 =>
 GenK Tryz.prog (.call { callee := (.builtin .append), args := #[.tmp 144, .tmp 149], argTypes := #[23, 23] }) 23 (gval [(144, (.var .sl 35)), (149, (.c3 .slc (.u (.poff 0) (.var .p 36)) (.int .i64 1) (.int .i64 1)))] [.string v0, v1.v, v2.v, v3.v, v4.v, v5.v, v6.v, v7.v, .int .u8 v8, .bool v9, .bool v10, .bool v11, .string v12, v13.v, .string v14, v15.v, v16.v, v17.v, .pointer v18, .pointer v19, v20.v, .string v21, .int .i64 v22, .int .i64 v23, .bool v24, .bool v25, .bool v26, v27.v, .pointer v28, v29.v, .string v30, .int .i64 v31, .int .i64 v32, .string v33, .string v34, v35.v, .pointer v36]) V18 fun x V19 => ∃ v37 : Sl, x = v37.v ∧
 Tri Tryz.prog 12 #[.agg #[.string v0, v1.v, v37.v, v3.v, v4.v, v5.v, v6.v, v7.v]] V19 fun e V20 => ∃ v38 : ByteArray, ∃ v39 : Int, ∃ v40 : Int, e = .returned (.tuple #[.string v38, .int .i64 v39, .int .i64 v40]) ∧
 (¬ (v2.p = none)) ∧ ((0 : Int) ≤ (0 : Int)) ∧ ((0 : Int) < (v2.n : Int)) ∧ (¬ ((ptrAdd v2.p (((0 : Int)).toNat * 2)) = none)) ∧ ∃ v41 : ByteArray, ∃ v42 : ByteArray, V20.rowp v2.p (((0 : Int)).toNat * 2) 2 = some [.string v41, .string v42] ∧
 (v38 = v41 →
 (v39 = ((-1) : Int) →
 R (.returned (.bool (decide (v40 = (10 : Int))))) V20) ∧ (¬ (v39 = ((-1) : Int)) →
 R (.returned (.bool false)) V20)) ∧ (¬ (v38 = v41) →
 R (.returned (.bool false)) V20))))) ∧ (¬ (v32 = (10 : Int)) →
 R (.returned (.bool false)) V16)) ∧ (¬ (v31 = ((-1) : Int)) →
 R (.returned (.bool false)) V16)) ∧ (¬ (v30 = v12) →
 R (.returned (.bool false)) V16))) ∧
 (Tri Tryz.prog 31 #[v3.v] V12 fun e V13 => ∃ v27 : Sl, e = .returned v27.v ∧
 PubT [.string v12, v13.v, .string v14, v15.v, v16.v] 54 V13 fun v28 V14 =>
 GenK Tryz.prog (.call { callee := (.builtin .append), args := #[.tmp 104, .tmp 106], argTypes := #[24, 24] }) 24 (gval [(104, (.var .sl 27)), (106, (.c3 .slc (.u (.poff 0) (.var .p 28)) (.int .i64 1) (.int .i64 1)))] [.string v0, v1.v, v2.v, v3.v, v4.v, v5.v, v6.v, v7.v, .int .u8 v8, .bool v9, .bool v10, .bool v11, .string v12, v13.v, .string v14, v15.v, v16.v, v17.v, .pointer v18, .pointer v19, v20.v, .string v21, .int .i64 v22, .int .i64 v23, .bool v24, .bool v25, .bool v26, v27.v, .pointer v28]) V14 fun x V15 => ∃ v29 : Sl, x = v29.v ∧
 Tri Tryz.prog 12 #[.agg #[.string v0, v1.v, v2.v, v29.v, v4.v, v5.v, v6.v, v7.v]] V15 fun e V16 => ∃ v30 : ByteArray, ∃ v31 : Int, ∃ v32 : Int, e = .returned (.tuple #[.string v30, .int .i64 v31, .int .i64 v32]) ∧
 (v32 = (1 : Int) →
 ((v2.n : Int) = (0 : Int) →
 R (.returned (.bool true)) V16) ∧ (¬ ((v2.n : Int) = (0 : Int)) →
 ((8 : Int) ≤ (v2.n : Int) →
 R (.returned (.bool true)) V16) ∧ (¬ ((8 : Int) ≤ (v2.n : Int)) →
 (¬ (v2.p = none)) ∧ ((0 : Int) ≤ (0 : Int)) ∧ ((0 : Int) < (v2.n : Int)) ∧ ∃ v33 : ByteArray, ∃ v34 : ByteArray, V16.rowp v2.p (((0 : Int)).toNat * 2) 2 = some [.string v33, .string v34] ∧
 (Tri Tryz.prog 34 #[v2.v] V16 fun e V17 => ∃ v35 : Sl, e = .returned v35.v ∧
 PubT [.string v33, .string v34] 67 V17 fun v36 V18 =>
 GenK Tryz.prog (.call { callee := (.builtin .append), args := #[.tmp 144, .tmp 149], argTypes := #[23, 23] }) 23 (gval [(144, (.var .sl 35)), (149, (.c3 .slc (.u (.poff 0) (.var .p 36)) (.int .i64 1) (.int .i64 1)))] [.string v0, v1.v, v2.v, v3.v, v4.v, v5.v, v6.v, v7.v, .int .u8 v8, .bool v9, .bool v10, .bool v11, .string v12, v13.v, .string v14, v15.v, v16.v, v17.v, .pointer v18, .pointer v19, v20.v, .string v21, .int .i64 v22, .int .i64 v23, .bool v24, .bool v25, .bool v26, v27.v, .pointer v28, v29.v, .string v30, .int .i64 v31, .int .i64 v32, .string v33, .string v34, v35.v, .pointer v36]) V18 fun x V19 => ∃ v37 : Sl, x = v37.v ∧
 Tri Tryz.prog 12 #[.agg #[.string v0, v1.v, v37.v, v3.v, v4.v, v5.v, v6.v, v7.v]] V19 fun e V20 => ∃ v38 : ByteArray, ∃ v39 : Int, ∃ v40 : Int, e = .returned (.tuple #[.string v38, .int .i64 v39, .int .i64 v40]) ∧
 (¬ (v2.p = none)) ∧ ((0 : Int) ≤ (0 : Int)) ∧ ((0 : Int) < (v2.n : Int)) ∧ (¬ ((ptrAdd v2.p (((0 : Int)).toNat * 2)) = none)) ∧ ∃ v41 : ByteArray, ∃ v42 : ByteArray, V20.rowp v2.p (((0 : Int)).toNat * 2) 2 = some [.string v41, .string v42] ∧
 (v38 = v41 →
 (v39 = ((-1) : Int) →
 R (.returned (.bool (decide (v40 = (10 : Int))))) V20) ∧ (¬ (v39 = ((-1) : Int)) →
 R (.returned (.bool false)) V20)) ∧ (¬ (v38 = v41) →
 R (.returned (.bool false)) V20)) ∧
 (Tri Tryz.prog 34 #[v2.v] V16 fun e V17 => ∃ v35 : Sl, e = .returned v35.v ∧
 (V17.rowp (ptrAdd v2.p (((0 : Int)).toNat * 2)) 0 2 = some [.string v33, .string v34]) ∧ (¬ (v2.p = none)) ∧ ((0 : Int) ≤ (0 : Int)) ∧ ((0 : Int) < (v2.n : Int)) ∧ PubT [.string v33, .string v34] 67 V17 fun v36 V18 =>
 GenK Tryz.prog (.call { callee := (.builtin .append), args := #[.tmp 144, .tmp 149], argTypes := #[23, 23] }) 23 (gval [(144, (.var .sl 35)), (149, (.c3 .slc (.u (.poff 0) (.var .p 36)) (.int .i64 1) (.int .i64 1)))] [.string v0, v1.v, v2.v, v3.v, v4.v, v5.v, v6.v, v7.v, .int .u8 v8, .bool v9, .bool v10, .bool v11, .string v12, v13.v, .string v14, v15.v, v16.v, v17.v, .pointer v18, .pointer v19, v20.v, .string v21, .int .i64 v22, .int .i64 v23, .bool v24, .bool v25, .bool v26, v27.v, .pointer v28, v29.v, .string v30, .int .i64 v31, .int .i64 v32, .string v33, .string v34, v35.v, .pointer v36]) V18 fun x V19 => ∃ v37 : Sl, x = v37.v ∧
 Tri Tryz.prog 12 #[.agg #[.string v0, v1.v, v37.v, v3.v, v4.v, v5.v, v6.v, v7.v]] V19 fun e V20 => ∃ v38 : ByteArray, ∃ v39 : Int, ∃ v40 : Int, e = .returned (.tuple #[.string v38, .int .i64 v39, .int .i64 v40]) ∧
 (¬ (v2.p = none)) ∧ ((0 : Int) ≤ (0 : Int)) ∧ ((0 : Int) < (v2.n : Int)) ∧ (¬ ((ptrAdd v2.p (((0 : Int)).toNat * 2)) = none)) ∧ ∃ v41 : ByteArray, ∃ v42 : ByteArray, V20.rowp v2.p (((0 : Int)).toNat * 2) 2 = some [.string v41, .string v42] ∧
 (v38 = v41 →
 (v39 = ((-1) : Int) →
 R (.returned (.bool (decide (v40 = (10 : Int))))) V20) ∧ (¬ (v39 = ((-1) : Int)) →
 R (.returned (.bool false)) V20)) ∧ (¬ (v38 = v41) →
 R (.returned (.bool false)) V20))))) ∧ (¬ (v32 = (1 : Int)) →
 (v30 = v12 →
 (v31 = ((-1) : Int) →
 (v32 = (10 : Int) →
 ((v2.n : Int) = (0 : Int) →
 R (.returned (.bool true)) V16) ∧ (¬ ((v2.n : Int) = (0 : Int)) →
 ((8 : Int) ≤ (v2.n : Int) →
 R (.returned (.bool true)) V16) ∧ (¬ ((8 : Int) ≤ (v2.n : Int)) →
 (¬ (v2.p = none)) ∧ ((0 : Int) ≤ (0 : Int)) ∧ ((0 : Int) < (v2.n : Int)) ∧ ∃ v33 : ByteArray, ∃ v34 : ByteArray, V16.rowp v2.p (((0 : Int)).toNat * 2) 2 = some [.string v33, .string v34] ∧
 (Tri Tryz.prog 34 #[v2.v] V16 fun e V17 => ∃ v35 : Sl, e = .returned v35.v ∧
 PubT [.string v33, .string v34] 67 V17 fun v36 V18 =>
 GenK Tryz.prog (.call { callee := (.builtin .append), args := #[.tmp 144, .tmp 149], argTypes := #[23, 23] }) 23 (gval [(144, (.var .sl 35)), (149, (.c3 .slc (.u (.poff 0) (.var .p 36)) (.int .i64 1) (.int .i64 1)))] [.string v0, v1.v, v2.v, v3.v, v4.v, v5.v, v6.v, v7.v, .int .u8 v8, .bool v9, .bool v10, .bool v11, .string v12, v13.v, .string v14, v15.v, v16.v, v17.v, .pointer v18, .pointer v19, v20.v, .string v21, .int .i64 v22, .int .i64 v23, .bool v24, .bool v25, .bool v26, v27.v, .pointer v28, v29.v, .string v30, .int .i64 v31, .int .i64 v32, .string v33, .string v34, v35.v, .pointer v36]) V18 fun x V19 => ∃ v37 : Sl, x = v37.v ∧
 Tri Tryz.prog 12 #[.agg #[.string v0, v1.v, v37.v, v3.v, v4.v, v5.v, v6.v, v7.v]] V19 fun e V20 => ∃ v38 : ByteArray, ∃ v39 : Int, ∃ v40 : Int, e = .returned (.tuple #[.string v38, .int .i64 v39, .int .i64 v40]) ∧
 (¬ (v2.p = none)) ∧ ((0 : Int) ≤ (0 : Int)) ∧ ((0 : Int) < (v2.n : Int)) ∧ (¬ ((ptrAdd v2.p (((0 : Int)).toNat * 2)) = none)) ∧ ∃ v41 : ByteArray, ∃ v42 : ByteArray, V20.rowp v2.p (((0 : Int)).toNat * 2) 2 = some [.string v41, .string v42] ∧
 (v38 = v41 →
 (v39 = ((-1) : Int) →
 R (.returned (.bool (decide (v40 = (10 : Int))))) V20) ∧ (¬ (v39 = ((-1) : Int)) →
 R (.returned (.bool false)) V20)) ∧ (¬ (v38 = v41) →
 R (.returned (.bool false)) V20)) ∧
 (Tri Tryz.prog 34 #[v2.v] V16 fun e V17 => ∃ v35 : Sl, e = .returned v35.v ∧
 (V17.rowp (ptrAdd v2.p (((0 : Int)).toNat * 2)) 0 2 = some [.string v33, .string v34]) ∧ (¬ (v2.p = none)) ∧ ((0 : Int) ≤ (0 : Int)) ∧ ((0 : Int) < (v2.n : Int)) ∧ PubT [.string v33, .string v34] 67 V17 fun v36 V18 =>
 GenK Tryz.prog (.call { callee := (.builtin .append), args := #[.tmp 144, .tmp 149], argTypes := #[23, 23] }) 23 (gval [(144, (.var .sl 35)), (149, (.c3 .slc (.u (.poff 0) (.var .p 36)) (.int .i64 1) (.int .i64 1)))] [.string v0, v1.v, v2.v, v3.v, v4.v, v5.v, v6.v, v7.v, .int .u8 v8, .bool v9, .bool v10, .bool v11, .string v12, v13.v, .string v14, v15.v, v16.v, v17.v, .pointer v18, .pointer v19, v20.v, .string v21, .int .i64 v22, .int .i64 v23, .bool v24, .bool v25, .bool v26, v27.v, .pointer v28, v29.v, .string v30, .int .i64 v31, .int .i64 v32, .string v33, .string v34, v35.v, .pointer v36]) V18 fun x V19 => ∃ v37 : Sl, x = v37.v ∧
 Tri Tryz.prog 12 #[.agg #[.string v0, v1.v, v37.v, v3.v, v4.v, v5.v, v6.v, v7.v]] V19 fun e V20 => ∃ v38 : ByteArray, ∃ v39 : Int, ∃ v40 : Int, e = .returned (.tuple #[.string v38, .int .i64 v39, .int .i64 v40]) ∧
 (¬ (v2.p = none)) ∧ ((0 : Int) ≤ (0 : Int)) ∧ ((0 : Int) < (v2.n : Int)) ∧ (¬ ((ptrAdd v2.p (((0 : Int)).toNat * 2)) = none)) ∧ ∃ v41 : ByteArray, ∃ v42 : ByteArray, V20.rowp v2.p (((0 : Int)).toNat * 2) 2 = some [.string v41, .string v42] ∧
 (v38 = v41 →
 (v39 = ((-1) : Int) →
 R (.returned (.bool (decide (v40 = (10 : Int))))) V20) ∧ (¬ (v39 = ((-1) : Int)) →
 R (.returned (.bool false)) V20)) ∧ (¬ (v38 = v41) →
 R (.returned (.bool false)) V20))))) ∧ (¬ (v32 = (10 : Int)) →
 R (.returned (.bool false)) V16)) ∧ (¬ (v31 = ((-1) : Int)) →
 R (.returned (.bool false)) V16)) ∧ (¬ (v30 = v12) →
 R (.returned (.bool false)) V16)))) ∧ (¬ (v23 = (1 : Int)) →
 (v21 = v12 →
 (v22 = (0 : Int) →
 (v23 = (9 : Int) →
 (Tri Tryz.prog 31 #[v3.v] V12 fun e V13 => ∃ v27 : Sl, e = .returned v27.v ∧
 PubT [.string v12, v13.v, .string v14, v15.v, v16.v] 54 V13 fun v28 V14 =>
 GenK Tryz.prog (.call { callee := (.builtin .append), args := #[.tmp 104, .tmp 106], argTypes := #[24, 24] }) 24 (gval [(104, (.var .sl 27)), (106, (.c3 .slc (.u (.poff 0) (.var .p 28)) (.int .i64 1) (.int .i64 1)))] [.string v0, v1.v, v2.v, v3.v, v4.v, v5.v, v6.v, v7.v, .int .u8 v8, .bool v9, .bool v10, .bool v11, .string v12, v13.v, .string v14, v15.v, v16.v, v17.v, .pointer v18, .pointer v19, v20.v, .string v21, .int .i64 v22, .int .i64 v23, .bool v24, .bool v25, .bool v26, v27.v, .pointer v28]) V14 fun x V15 => ∃ v29 : Sl, x = v29.v ∧
 Tri Tryz.prog 12 #[.agg #[.string v0, v1.v, v2.v, v29.v, v4.v, v5.v, v6.v, v7.v]] V15 fun e V16 => ∃ v30 : ByteArray, ∃ v31 : Int, ∃ v32 : Int, e = .returned (.tuple #[.string v30, .int .i64 v31, .int .i64 v32]) ∧
 (v32 = (1 : Int) →
 ((v2.n : Int) = (0 : Int) →
 R (.returned (.bool true)) V16) ∧ (¬ ((v2.n : Int) = (0 : Int)) →
 ((8 : Int) ≤ (v2.n : Int) →
 R (.returned (.bool true)) V16) ∧ (¬ ((8 : Int) ≤ (v2.n : Int)) →
 (¬ (v2.p = none)) ∧ ((0 : Int) ≤ (0 : Int)) ∧ ((0 : Int) < (v2.n : Int)) ∧ ∃ v33 : ByteArray, ∃ v34 : ByteArray, V16.rowp v2.p (((0 : Int)).toNat * 2) 2 = some [.string v33, .string v34] ∧
 (Tri Tryz.prog 34 #[v2.v] V16 fun e V17 => ∃ v35 : Sl, e = .returned v35.v ∧
 PubT [.string v33, .string v34] 67 V17 fun v36 V18 =>
 GenK Tryz.prog (.call { callee := (.builtin .append), args := #[.tmp 144, .tmp 149], argTypes := #[23, 23] }) 23 (gval [(144, (.var .sl 35)), (149, (.c3 .slc (.u (.poff 0) (.var .p 36)) (.int .i64 1) (.int .i64 1)))] [.string v0, v1.v, v2.v, v3.v, v4.v, v5.v, v6.v, v7.v, .int .u8 v8, .bool v9, .bool v10, .bool v11, .string v12, v13.v, .string v14, v15.v, v16.v, v17.v, .pointer v18, .pointer v19, v20.v, .string v21, .int .i64 v22, .int .i64 v23, .bool v24, .bool v25, .bool v26, v27.v, .pointer v28, v29.v, .string v30, .int .i64 v31, .int .i64 v32, .string v33, .string v34, v35.v, .pointer v36]) V18 fun x V19 => ∃ v37 : Sl, x = v37.v ∧
 Tri Tryz.prog 12 #[.agg #[.string v0, v1.v, v37.v, v3.v, v4.v, v5.v, v6.v, v7.v]] V19 fun e V20 => ∃ v38 : ByteArray, ∃ v39 : Int, ∃ v40 : Int, e = .returned (.tuple #[.string v38, .int .i64 v39, .int .i64 v40]) ∧
 (¬ (v2.p = none)) ∧ ((0 : Int) ≤ (0 : Int)) ∧ ((0 : Int) < (v2.n : Int)) ∧ (¬ ((ptrAdd v2.p (((0 : Int)).toNat * 2)) = none)) ∧ ∃ v41 : ByteArray, ∃ v42 : ByteArray, V20.rowp v2.p (((0 : Int)).toNat * 2) 2 = some [.string v41, .string v42] ∧
 (v38 = v41 →
 (v39 = ((-1) : Int) →
 R (.returned (.bool (decide (v40 = (10 : Int))))) V20) ∧ (¬ (v39 = ((-1) : Int)) →
 R (.returned (.bool false)) V20)) ∧ (¬ (v38 = v41) →
 R (.returned (.bool false)) V20)) ∧
 (Tri Tryz.prog 34 #[v2.v] V16 fun e V17 => ∃ v35 : Sl, e = .returned v35.v ∧
 (V17.rowp (ptrAdd v2.p (((0 : Int)).toNat * 2)) 0 2 = some [.string v33, .string v34]) ∧ (¬ (v2.p = none)) ∧ ((0 : Int) ≤ (0 : Int)) ∧ ((0 : Int) < (v2.n : Int)) ∧ PubT [.string v33, .string v34] 67 V17 fun v36 V18 =>
 GenK Tryz.prog (.call { callee := (.builtin .append), args := #[.tmp 144, .tmp 149], argTypes := #[23, 23] }) 23 (gval [(144, (.var .sl 35)), (149, (.c3 .slc (.u (.poff 0) (.var .p 36)) (.int .i64 1) (.int .i64 1)))] [.string v0, v1.v, v2.v, v3.v, v4.v, v5.v, v6.v, v7.v, .int .u8 v8, .bool v9, .bool v10, .bool v11, .string v12, v13.v, .string v14, v15.v, v16.v, v17.v, .pointer v18, .pointer v19, v20.v, .string v21, .int .i64 v22, .int .i64 v23, .bool v24, .bool v25, .bool v26, v27.v, .pointer v28, v29.v, .string v30, .int .i64 v31, .int .i64 v32, .string v33, .string v34, v35.v, .pointer v36]) V18 fun x V19 => ∃ v37 : Sl, x = v37.v ∧
 Tri Tryz.prog 12 #[.agg #[.string v0, v1.v, v37.v, v3.v, v4.v, v5.v, v6.v, v7.v]] V19 fun e V20 => ∃ v38 : ByteArray, ∃ v39 : Int, ∃ v40 : Int, e = .returned (.tuple #[.string v38, .int .i64 v39, .int .i64 v40]) ∧
 (¬ (v2.p = none)) ∧ ((0 : Int) ≤ (0 : Int)) ∧ ((0 : Int) < (v2.n : Int)) ∧ (¬ ((ptrAdd v2.p (((0 : Int)).toNat * 2)) = none)) ∧ ∃ v41 : ByteArray, ∃ v42 : ByteArray, V20.rowp v2.p (((0 : Int)).toNat * 2) 2 = some [.string v41, .string v42] ∧
 (v38 = v41 →
 (v39 = ((-1) : Int) →
 R (.returned (.bool (decide (v40 = (10 : Int))))) V20) ∧ (¬ (v39 = ((-1) : Int)) →
 R (.returned (.bool false)) V20)) ∧ (¬ (v38 = v41) →
 R (.returned (.bool false)) V20))))) ∧ (¬ (v32 = (1 : Int)) →
 (v30 = v12 →
 (v31 = ((-1) : Int) →
 (v32 = (10 : Int) →
 ((v2.n : Int) = (0 : Int) →
 R (.returned (.bool true)) V16) ∧ (¬ ((v2.n : Int) = (0 : Int)) →
 ((8 : Int) ≤ (v2.n : Int) →
 R (.returned (.bool true)) V16) ∧ (¬ ((8 : Int) ≤ (v2.n : Int)) →
 (¬ (v2.p = none)) ∧ ((0 : Int) ≤ (0 : Int)) ∧ ((0 : Int) < (v2.n : Int)) ∧ ∃ v33 : ByteArray, ∃ v34 : ByteArray, V16.rowp v2.p (((0 : Int)).toNat * 2) 2 = some [.string v33, .string v34] ∧
 (Tri Tryz.prog 34 #[v2.v] V16 fun e V17 => ∃ v35 : Sl, e = .returned v35.v ∧
 PubT [.string v33, .string v34] 67 V17 fun v36 V18 =>
 GenK Tryz.prog (.call { callee := (.builtin .append), args := #[.tmp 144, .tmp 149], argTypes := #[23, 23] }) 23 (gval [(144, (.var .sl 35)), (149, (.c3 .slc (.u (.poff 0) (.var .p 36)) (.int .i64 1) (.int .i64 1)))] [.string v0, v1.v, v2.v, v3.v, v4.v, v5.v, v6.v, v7.v, .int .u8 v8, .bool v9, .bool v10, .bool v11, .string v12, v13.v, .string v14, v15.v, v16.v, v17.v, .pointer v18, .pointer v19, v20.v, .string v21, .int .i64 v22, .int .i64 v23, .bool v24, .bool v25, .bool v26, v27.v, .pointer v28, v29.v, .string v30, .int .i64 v31, .int .i64 v32, .string v33, .string v34, v35.v, .pointer v36]) V18 fun x V19 => ∃ v37 : Sl, x = v37.v ∧
 Tri Tryz.prog 12 #[.agg #[.string v0, v1.v, v37.v, v3.v, v4.v, v5.v, v6.v, v7.v]] V19 fun e V20 => ∃ v38 : ByteArray, ∃ v39 : Int, ∃ v40 : Int, e = .returned (.tuple #[.string v38, .int .i64 v39, .int .i64 v40]) ∧
 (¬ (v2.p = none)) ∧ ((0 : Int) ≤ (0 : Int)) ∧ ((0 : Int) < (v2.n : Int)) ∧ (¬ ((ptrAdd v2.p (((0 : Int)).toNat * 2)) = none)) ∧ ∃ v41 : ByteArray, ∃ v42 : ByteArray, V20.rowp v2.p (((0 : Int)).toNat * 2) 2 = some [.string v41, .string v42] ∧
 (v38 = v41 →
 (v39 = ((-1) : Int) →
 R (.returned (.bool (decide (v40 = (10 : Int))))) V20) ∧ (¬ (v39 = ((-1) : Int)) →
 R (.returned (.bool false)) V20)) ∧ (¬ (v38 = v41) →
 R (.returned (.bool false)) V20)) ∧
 (Tri Tryz.prog 34 #[v2.v] V16 fun e V17 => ∃ v35 : Sl, e = .returned v35.v ∧
 (V17.rowp (ptrAdd v2.p (((0 : Int)).toNat * 2)) 0 2 = some [.string v33, .string v34]) ∧ (¬ (v2.p = none)) ∧ ((0 : Int) ≤ (0 : Int)) ∧ ((0 : Int) < (v2.n : Int)) ∧ PubT [.string v33, .string v34] 67 V17 fun v36 V18 =>
 GenK Tryz.prog (.call { callee := (.builtin .append), args := #[.tmp 144, .tmp 149], argTypes := #[23, 23] }) 23 (gval [(144, (.var .sl 35)), (149, (.c3 .slc (.u (.poff 0) (.var .p 36)) (.int .i64 1) (.int .i64 1)))] [.string v0, v1.v, v2.v, v3.v, v4.v, v5.v, v6.v, v7.v, .int .u8 v8, .bool v9, .bool v10, .bool v11, .string v12, v13.v, .string v14, v15.v, v16.v, v17.v, .pointer v18, .pointer v19, v20.v, .string v21, .int .i64 v22, .int .i64 v23, .bool v24, .bool v25, .bool v26, v27.v, .pointer v28, v29.v, .string v30, .int .i64 v31, .int .i64 v32, .string v33, .string v34, v35.v, .pointer v36]) V18 fun x V19 => ∃ v37 : Sl, x = v37.v ∧
 Tri Tryz.prog 12 #[.agg #[.string v0, v1.v, v37.v, v3.v, v4.v, v5.v, v6.v, v7.v]] V19 fun e V20 => ∃ v38 : ByteArray, ∃ v39 : Int, ∃ v40 : Int, e = .returned (.tuple #[.string v38, .int .i64 v39, .int .i64 v40]) ∧
 (¬ (v2.p = none)) ∧ ((0 : Int) ≤ (0 : Int)) ∧ ((0 : Int) < (v2.n : Int)) ∧ (¬ ((ptrAdd v2.p (((0 : Int)).toNat * 2)) = none)) ∧ ∃ v41 : ByteArray, ∃ v42 : ByteArray, V20.rowp v2.p (((0 : Int)).toNat * 2) 2 = some [.string v41, .string v42] ∧
 (v38 = v41 →
 (v39 = ((-1) : Int) →
 R (.returned (.bool (decide (v40 = (10 : Int))))) V20) ∧ (¬ (v39 = ((-1) : Int)) →
 R (.returned (.bool false)) V20)) ∧ (¬ (v38 = v41) →
 R (.returned (.bool false)) V20))))) ∧ (¬ (v32 = (10 : Int)) →
 R (.returned (.bool false)) V16)) ∧ (¬ (v31 = ((-1) : Int)) →
 R (.returned (.bool false)) V16)) ∧ (¬ (v30 = v12) →
 R (.returned (.bool false)) V16))) ∧
 (Tri Tryz.prog 31 #[v3.v] V12 fun e V13 => ∃ v27 : Sl, e = .returned v27.v ∧
 PubT [.string v12, v13.v, .string v14, v15.v, v16.v] 54 V13 fun v28 V14 =>
 GenK Tryz.prog (.call { callee := (.builtin .append), args := #[.tmp 104, .tmp 106], argTypes := #[24, 24] }) 24 (gval [(104, (.var .sl 27)), (106, (.c3 .slc (.u (.poff 0) (.var .p 28)) (.int .i64 1) (.int .i64 1)))] [.string v0, v1.v, v2.v, v3.v, v4.v, v5.v, v6.v, v7.v, .int .u8 v8, .bool v9, .bool v10, .bool v11, .string v12, v13.v, .string v14, v15.v, v16.v, v17.v, .pointer v18, .pointer v19, v20.v, .string v21, .int .i64 v22, .int .i64 v23, .bool v24, .bool v25, .bool v26, v27.v, .pointer v28]) V14 fun x V15 => ∃ v29 : Sl, x = v29.v ∧
 Tri Tryz.prog 12 #[.agg #[.string v0, v1.v, v2.v, v29.v, v4.v, v5.v, v6.v, v7.v]] V15 fun e V16 => ∃ v30 : ByteArray, ∃ v31 : Int, ∃ v32 : Int, e = .returned (.tuple #[.string v30, .int .i64 v31, .int .i64 v32]) ∧
 (v32 = (1 : Int) →
 ((v2.n : Int) = (0 : Int) →
 R (.returned (.bool true)) V16) ∧ (¬ ((v2.n : Int) = (0 : Int)) →
 ((8 : Int) ≤ (v2.n : Int) →
 R (.returned (.bool true)) V16) ∧ (¬ ((8 : Int) ≤ (v2.n : Int)) →
 (¬ (v2.p = none)) ∧ ((0 : Int) ≤ (0 : Int)) ∧ ((0 : Int) < (v2.n : Int)) ∧ ∃ v33 : ByteArray, ∃ v34 : ByteArray, V16.rowp v2.p (((0 : Int)).toNat * 2) 2 = some [.string v33, .string v34] ∧
 (Tri Tryz.prog 34 #[v2.v] V16 fun e V17 => ∃ v35 : Sl, e = .returned v35.v ∧
 PubT [.string v33, .string v34] 67 V17 fun v36 V18 =>
 GenK Tryz.prog (.call { callee := (.builtin .append), args := #[.tmp 144, .tmp 149], argTypes := #[23, 23] }) 23 (gval [(144, (.var .sl 35)), (149, (.c3 .slc (.u (.poff 0) (.var .p 36)) (.int .i64 1) (.int .i64 1)))] [.string v0, v1.v, v2.v, v3.v, v4.v, v5.v, v6.v, v7.v, .int .u8 v8, .bool v9, .bool v10, .bool v11, .string v12, v13.v, .string v14, v15.v, v16.v, v17.v, .pointer v18, .pointer v19, v20.v, .string v21, .int .i64 v22, .int .i64 v23, .bool v24, .bool v25, .bool v26, v27.v, .pointer v28, v29.v, .string v30, .int .i64 v31, .int .i64 v32, .string v33, .string v34, v35.v, .pointer v36]) V18 fun x V19 => ∃ v37 : Sl, x = v37.v ∧
 Tri Tryz.prog 12 #[.agg #[.string v0, v1.v, v37.v, v3.v, v4.v, v5.v, v6.v, v7.v]] V19 fun e V20 => ∃ v38 : ByteArray, ∃ v39 : Int, ∃ v40 : Int, e = .returned (.tuple #[.string v38, .int .i64 v39, .int .i64 v40]) ∧
 (¬ (v2.p = none)) ∧ ((0 : Int) ≤ (0 : Int)) ∧ ((0 : Int) < (v2.n : Int)) ∧ (¬ ((ptrAdd v2.p (((0 : Int)).toNat * 2)) = none)) ∧ ∃ v41 : ByteArray, ∃ v42 : ByteArray, V20.rowp v2.p (((0 : Int)).toNat * 2) 2 = some [.string v41, .string v42] ∧
 (v38 = v41 →
 (v39 = ((-1) : Int) →
 R (.returned (.bool (decide (v40 = (10 : Int))))) V20) ∧ (¬ (v39 = ((-1) : Int)) →
 R (.returned (.bool false)) V20)) ∧ (¬ (v38 = v41) →
 R (.returned (.bool false)) V20)) ∧
 (Tri Tryz.prog 34 #[v2.v] V16 fun e V17 => ∃ v35 : Sl, e = .returned v35.v ∧
 (V17.rowp (ptrAdd v2.p (((0 : Int)).toNat * 2)) 0 2 = some [.string v33, .string v34]) ∧ (¬ (v2.p = none)) ∧ ((0 : Int) ≤ (0 : Int)) ∧ ((0 : Int) < (v2.n : Int)) ∧ PubT [.string v33, .string v34] 67 V17 fun v36 V18 =>
 GenK Tryz.prog (.call { callee := (.builtin .append), args := #[.tmp 144, .tmp 149], argTypes := #[23, 23] }) 23 (gval [(144, (.var .sl 35)), (149, (.c3 .slc (.u (.poff 0) (.var .p 36)) (.int .i64 1) (.int .i64 1)))] [.string v0, v1.v, v2.v, v3.v, v4.v, v5.v, v6.v, v7.v, .int .u8 v8, .bool v9, .bool v10, .bool v11, .string v12, v13.v, .string v14, v15.v, v16.v, v17.v, .pointer v18, .pointer v19, v20.v, .string v21, .int .i64 v22, .int .i64 v23, .bool v24, .bool v25, .bool v26, v27.v, .pointer v28, v29.v, .string v30, .int .i64 v31, .int .i64 v32, .string v33, .string v34, v35.v, .pointer v36]) V18 fun x V19 => ∃ v37 : Sl, x = v37.v ∧
 Tri Tryz.prog 12 #[.agg #[.string v0, v1.v, v37.v, v3.v, v4.v, v5.v, v6.v, v7.v]] V19 fun e V20 => ∃ v38 : ByteArray, ∃ v39 : Int, ∃ v40 : Int, e = .returned (.tuple #[.string v38, .int .i64 v39, .int .i64 v40]) ∧
 (¬ (v2.p = none)) ∧ ((0 : Int) ≤ (0 : Int)) ∧ ((0 : Int) < (v2.n : Int)) ∧ (¬ ((ptrAdd v2.p (((0 : Int)).toNat * 2)) = none)) ∧ ∃ v41 : ByteArray, ∃ v42 : ByteArray, V20.rowp v2.p (((0 : Int)).toNat * 2) 2 = some [.string v41, .string v42] ∧
 (v38 = v41 →
 (v39 = ((-1) : Int) →
 R (.returned (.bool (decide (v40 = (10 : Int))))) V20) ∧ (¬ (v39 = ((-1) : Int)) →
 R (.returned (.bool false)) V20)) ∧ (¬ (v38 = v41) →
 R (.returned (.bool false)) V20))))) ∧ (¬ (v32 = (1 : Int)) →
 (v30 = v12 →
 (v31 = ((-1) : Int) →
 (v32 = (10 : Int) →
 ((v2.n : Int) = (0 : Int) →
 R (.returned (.bool true)) V16) ∧ (¬ ((v2.n : Int) = (0 : Int)) →
 ((8 : Int) ≤ (v2.n : Int) →
 R (.returned (.bool true)) V16) ∧ (¬ ((8 : Int) ≤ (v2.n : Int)) →
 (¬ (v2.p = none)) ∧ ((0 : Int) ≤ (0 : Int)) ∧ ((0 : Int) < (v2.n : Int)) ∧ ∃ v33 : ByteArray, ∃ v34 : ByteArray, V16.rowp v2.p (((0 : Int)).toNat * 2) 2 = some [.string v33, .string v34] ∧
 (Tri Tryz.prog 34 #[v2.v] V16 fun e V17 => ∃ v35 : Sl, e = .returned v35.v ∧
 PubT [.string v33, .string v34] 67 V17 fun v36 V18 =>
 GenK Tryz.prog (.call { callee := (.builtin .append), args := #[.tmp 144, .tmp 149], argTypes := #[23, 23] }) 23 (gval [(144, (.var .sl 35)), (149, (.c3 .slc (.u (.poff 0) (.var .p 36)) (.int .i64 1) (.int .i64 1)))] [.string v0, v1.v, v2.v, v3.v, v4.v, v5.v, v6.v, v7.v, .int .u8 v8, .bool v9, .bool v10, .bool v11, .string v12, v13.v, .string v14, v15.v, v16.v, v17.v, .pointer v18, .pointer v19, v20.v, .string v21, .int .i64 v22, .int .i64 v23, .bool v24, .bool v25, .bool v26, v27.v, .pointer v28, v29.v, .string v30, .int .i64 v31, .int .i64 v32, .string v33, .string v34, v35.v, .pointer v36]) V18 fun x V19 => ∃ v37 : Sl, x = v37.v ∧
 Tri Tryz.prog 12 #[.agg #[.string v0, v1.v, v37.v, v3.v, v4.v, v5.v, v6.v, v7.v]] V19 fun e V20 => ∃ v38 : ByteArray, ∃ v39 : Int, ∃ v40 : Int, e = .returned (.tuple #[.string v38, .int .i64 v39, .int .i64 v40]) ∧
 (¬ (v2.p = none)) ∧ ((0 : Int) ≤ (0 : Int)) ∧ ((0 : Int) < (v2.n : Int)) ∧ (¬ ((ptrAdd v2.p (((0 : Int)).toNat * 2)) = none)) ∧ ∃ v41 : ByteArray, ∃ v42 : ByteArray, V20.rowp v2.p (((0 : Int)).toNat * 2) 2 = some [.string v41, .string v42] ∧
 (v38 = v41 →
 (v39 = ((-1) : Int) →
 R (.returned (.bool (decide (v40 = (10 : Int))))) V20) ∧ (¬ (v39 = ((-1) : Int)) →
 R (.returned (.bool false)) V20)) ∧ (¬ (v38 = v41) →
 R (.returned (.bool false)) V20)) ∧
 (Tri Tryz.prog 34 #[v2.v] V16 fun e V17 => ∃ v35 : Sl, e = .returned v35.v ∧
 (V17.rowp (ptrAdd v2.p (((0 : Int)).toNat * 2)) 0 2 = some [.string v33, .string v34]) ∧ (¬ (v2.p = none)) ∧ ((0 : Int) ≤ (0 : Int)) ∧ ((0 : Int) < (v2.n : Int)) ∧ PubT [.string v33, .string v34] 67 V17 fun v36 V18 =>
 GenK Tryz.prog (.call { callee := (.builtin .append), args := #[.tmp 144, .tmp 149], argTypes := #[23, 23] }) 23 (gval [(144, (.var .sl 35)), (149, (.c3 .slc (.u (.poff 0) (.var .p 36)) (.int .i64 1) (.int .i64 1)))] [.string v0, v1.v, v2.v, v3.v, v4.v, v5.v, v6.v, v7.v, .int .u8 v8, .bool v9, .bool v10, .bool v11, .string v12, v13.v, .string v14, v15.v, v16.v, v17.v, .pointer v18, .pointer v19, v20.v, .string v21, .int .i64 v22, .int .i64 v23, .bool v24, .bool v25, .bool v26, v27.v, .pointer v28, v29.v, .string v30, .int .i64 v31, .int .i64 v32, .string v33, .string v34, v35.v, .pointer v36]) V18 fun x V19 => ∃ v37 : Sl, x = v37.v ∧
 Tri Tryz.prog 12 #[.agg #[.string v0, v1.v, v37.v, v3.v, v4.v, v5.v, v6.v, v7.v]] V19 fun e V20 => ∃ v38 : ByteArray, ∃ v39 : Int, ∃ v40 : Int, e = .returned (.tuple #[.string v38, .int .i64 v39, .int .i64 v40]) ∧
 (¬ (v2.p = none)) ∧ ((0 : Int) ≤ (0 : Int)) ∧ ((0 : Int) < (v2.n : Int)) ∧ (¬ ((ptrAdd v2.p (((0 : Int)).toNat * 2)) = none)) ∧ ∃ v41 : ByteArray, ∃ v42 : ByteArray, V20.rowp v2.p (((0 : Int)).toNat * 2) 2 = some [.string v41, .string v42] ∧
 (v38 = v41 →
 (v39 = ((-1) : Int) →
 R (.returned (.bool (decide (v40 = (10 : Int))))) V20) ∧ (¬ (v39 = ((-1) : Int)) →
 R (.returned (.bool false)) V20)) ∧ (¬ (v38 = v41) →
 R (.returned (.bool false)) V20))))) ∧ (¬ (v32 = (10 : Int)) →
 R (.returned (.bool false)) V16)) ∧ (¬ (v31 = ((-1) : Int)) →
 R (.returned (.bool false)) V16)) ∧ (¬ (v30 = v12) →
 R (.returned (.bool false)) V16)))) ∧ (¬ (v23 = (9 : Int)) →
 R (.returned (.bool false)) V12)) ∧ (¬ (v22 = (0 : Int)) →
 R (.returned (.bool false)) V12)) ∧ (¬ (v21 = v12) →
 R (.returned (.bool false)) V12))) ∧ (¬ (v26 = true) →
 (Tri Tryz.prog 31 #[v3.v] V12 fun e V13 => ∃ v27 : Sl, e = .returned v27.v ∧
 PubT [.string v12, v13.v, .string v14, v15.v, v16.v] 54 V13 fun v28 V14 =>
 GenK Tryz.prog (.call { callee := (.builtin .append), args := #[.tmp 104, .tmp 106], argTypes := #[24, 24] }) 24 (gval [(104, (.var .sl 27)), (106, (.c3 .slc (.u (.poff 0) (.var .p 28)) (.int .i64 1) (.int .i64 1)))] [.string v0, v1.v, v2.v, v3.v, v4.v, v5.v, v6.v, v7.v, .int .u8 v8, .bool v9, .bool v10, .bool v11, .string v12, v13.v, .string v14, v15.v, v16.v, v17.v, .pointer v18, .pointer v19, v20.v, .string v21, .int .i64 v22, .int .i64 v23, .bool v24, .bool v25, .bool v26, v27.v, .pointer v28]) V14 fun x V15 => ∃ v29 : Sl, x = v29.v ∧
 Tri Tryz.prog 12 #[.agg #[.string v0, v1.v, v2.v, v29.v, v4.v, v5.v, v6.v, v7.v]] V15 fun e V16 => ∃ v30 : ByteArray, ∃ v31 : Int, ∃ v32 : Int, e = .returned (.tuple #[.string v30, .int .i64 v31, .int .i64 v32]) ∧
 (v32 = (1 : Int) →
 ((v2.n : Int) = (0 : Int) →
 R (.returned (.bool true)) V16) ∧ (¬ ((v2.n : Int) = (0 : Int)) →
 ((8 : Int) ≤ (v2.n : Int) →
 R (.returned (.bool true)) V16) ∧ (¬ ((8 : Int) ≤ (v2.n : Int)) →
 (¬ (v2.p = none)) ∧ ((0 : Int) ≤ (0 : Int)) ∧ ((0 : Int) < (v2.n : Int)) ∧ ∃ v33 : ByteArray, ∃ v34 : ByteArray, V16.rowp v2.p (((0 : Int)).toNat * 2) 2 = some [.string v33, .string v34] ∧
 (Tri Tryz.prog 34 #[v2.v] V16 fun e V17 => ∃ v35 : Sl, e = .returned v35.v ∧
 PubT [.string v33, .string v34] 67 V17 fun v36 V18 =>
 GenK Tryz.prog (.call { callee := (.builtin .append), args := #[.tmp 144, .tmp 149], argTypes := #[23, 23] }) 23 (gval [(144, (.var .sl 35)), (149, (.c3 .slc (.u (.poff 0) (.var .p 36)) (.int .i64 1) (.int .i64 1)))] [.string v0, v1.v, v2.v, v3.v, v4.v, v5.v, v6.v, v7.v, .int .u8 v8, .bool v9, .bool v10, .bool v11, .string v12, v13.v, .string v14, v15.v, v16.v, v17.v, .pointer v18, .pointer v19, v20.v, .string v21, .int .i64 v22, .int .i64 v23, .bool v24, .bool v25, .bool v26, v27.v, .pointer v28, v29.v, .string v30, .int .i64 v31, .int .i64 v32, .string v33, .string v34, v35.v, .pointer v36]) V18 fun x V19 => ∃ v37 : Sl, x = v37.v ∧
 Tri Tryz.prog 12 #[.agg #[.string v0, v1.v, v37.v, v3.v, v4.v, v5.v, v6.v, v7.v]] V19 fun e V20 => ∃ v38 : ByteArray, ∃ v39 : Int, ∃ v40 : Int, e = .returned (.tuple #[.string v38, .int .i64 v39, .int .i64 v40]) ∧
 (¬ (v2.p = none)) ∧ ((0 : Int) ≤ (0 : Int)) ∧ ((0 : Int) < (v2.n : Int)) ∧ (¬ ((ptrAdd v2.p (((0 : Int)).toNat * 2)) = none)) ∧ ∃ v41 : ByteArray, ∃ v42 : ByteArray, V20.rowp v2.p (((0 : Int)).toNat * 2) 2 = some [.string v41, .string v42] ∧
 (v38 = v41 →
 (v39 = ((-1) : Int) →
 R (.returned (.bool (decide (v40 = (10 : Int))))) V20) ∧ (¬ (v39 = ((-1) : Int)) →
 R (.returned (.bool false)) V20)) ∧ (¬ (v38 = v41) →
 R (.returned (.bool false)) V20)) ∧
 (Tri Tryz.prog 34 #[v2.v] V16 fun e V17 => ∃ v35 : Sl, e = .returned v35.v ∧
 (V17.rowp (ptrAdd v2.p (((0 : Int)).toNat * 2)) 0 2 = some [.string v33, .string v34]) ∧ (¬ (v2.p = none)) ∧ ((0 : Int) ≤ (0 : Int)) ∧ ((0 : Int) < (v2.n : Int)) ∧ PubT [.string v33, .string v34] 67 V17 fun v36 V18 =>
 GenK Tryz.prog (.call { callee := (.builtin .append), args := #[.tmp 144, .tmp 149], argTypes := #[23, 23] }) 23 (gval [(144, (.var .sl 35)), (149, (.c3 .slc (.u (.poff 0) (.var .p 36)) (.int .i64 1) (.int .i64 1)))] [.string v0, v1.v, v2.v, v3.v, v4.v, v5.v, v6.v, v7.v, .int .u8 v8, .bool v9, .bool v10, .bool v11, .string v12, v13.v, .string v14, v15.v, v16.v, v17.v, .pointer v18, .pointer v19, v20.v, .string v21, .int .i64 v22, .int .i64 v23, .bool v24, .bool v25, .bool v26, v27.v, .pointer v28, v29.v, .string v30, .int .i64 v31, .int .i64 v32, .string v33, .string v34, v35.v, .pointer v36]) V18 fun x V19 => ∃ v37 : Sl, x = v37.v ∧
 Tri Tryz.prog 12 #[.agg #[.string v0, v1.v, v37.v, v3.v, v4.v, v5.v, v6.v, v7.v]] V19 fun e V20 => ∃ v38 : ByteArray, ∃ v39 : Int, ∃ v40 : Int, e = .returned (.tuple #[.string v38, .int .i64 v39, .int .i64 v40]) ∧
 (¬ (v2.p = none)) ∧ ((0 : Int) ≤ (0 : Int)) ∧ ((0 : Int) < (v2.n : Int)) ∧ (¬ ((ptrAdd v2.p (((0 : Int)).toNat * 2)) = none)) ∧ ∃ v41 : ByteArray, ∃ v42 : ByteArray, V20.rowp v2.p (((0 : Int)).toNat * 2) 2 = some [.string v41, .string v42] ∧
 (v38 = v41 →
 (v39 = ((-1) : Int) →
 R (.returned (.bool (decide (v40 = (10 : Int))))) V20) ∧ (¬ (v39 = ((-1) : Int)) →
 R (.returned (.bool false)) V20)) ∧ (¬ (v38 = v41) →
 R (.returned (.bool false)) V20))))) ∧ (¬ (v32 = (1 : Int)) →
 (v30 = v12 →
 (v31 = ((-1) : Int) →
 (v32 = (10 : Int) →
 ((v2.n : Int) = (0 : Int) →
 R (.returned (.bool true)) V16) ∧ (¬ ((v2.n : Int) = (0 : Int)) →
 ((8 : Int) ≤ (v2.n : Int) →
 R (.returned (.bool true)) V16) ∧ (¬ ((8 : Int) ≤ (v2.n : Int)) →
 (¬ (v2.p = none)) ∧ ((0 : Int) ≤ (0 : Int)) ∧ ((0 : Int) < (v2.n : Int)) ∧ ∃ v33 : ByteArray, ∃ v34 : ByteArray, V16.rowp v2.p (((0 : Int)).toNat * 2) 2 = some [.string v33, .string v34] ∧
 (Tri Tryz.prog 34 #[v2.v] V16 fun e V17 => ∃ v35 : Sl, e = .returned v35.v ∧
 PubT [.string v33, .string v34] 67 V17 fun v36 V18 =>
 GenK Tryz.prog (.call { callee := (.builtin .append), args := #[.tmp 144, .tmp 149], argTypes := #[23, 23] }) 23 (gval [(144, (.var .sl 35)), (149, (.c3 .slc (.u (.poff 0) (.var .p 36)) (.int .i64 1) (.int .i64 1)))] [.string v0, v1.v, v2.v, v3.v, v4.v, v5.v, v6.v, v7.v, .int .u8 v8, .bool v9, .bool v10, .bool v11, .string v12, v13.v, .string v14, v15.v, v16.v, v17.v, .pointer v18, .pointer v19, v20.v, .string v21, .int .i64 v22, .int .i64 v23, .bool v24, .bool v25, .bool v26, v27.v, .pointer v28, v29.v, .string v30, .int .i64 v31, .int .i64 v32, .string v33, .string v34, v35.v, .pointer v36]) V18 fun x V19 => ∃ v37 : Sl, x = v37.v ∧
 Tri Tryz.prog 12 #[.agg #[.string v0, v1.v, v37.v, v3.v, v4.v, v5.v, v6.v, v7.v]] V19 fun e V20 => ∃ v38 : ByteArray, ∃ v39 : Int, ∃ v40 : Int, e = .returned (.tuple #[.string v38, .int .i64 v39, .int .i64 v40]) ∧
 (¬ (v2.p = none)) ∧ ((0 : Int) ≤ (0 : Int)) ∧ ((0 : Int) < (v2.n : Int)) ∧ (¬ ((ptrAdd v2.p (((0 : Int)).toNat * 2)) = none)) ∧ ∃ v41 : ByteArray, ∃ v42 : ByteArray, V20.rowp v2.p (((0 : Int)).toNat * 2) 2 = some [.string v41, .string v42] ∧
 (v38 = v41 →
 (v39 = ((-1) : Int) →
 R (.returned (.bool (decide (v40 = (10 : Int))))) V20) ∧ (¬ (v39 = ((-1) : Int)) →
 R (.returned (.bool false)) V20)) ∧ (¬ (v38 = v41) →
 R (.returned (.bool false)) V20)) ∧
 (Tri Tryz.prog 34 #[v2.v] V16 fun e V17 => ∃ v35 : Sl, e = .returned v35.v ∧
 (V17.rowp (ptrAdd v2.p (((0 : Int)).toNat * 2)) 0 2 = some [.string v33, .string v34]) ∧ (¬ (v2.p = none)) ∧ ((0 : Int) ≤ (0 : Int)) ∧ ((0 : Int) < (v2.n : Int)) ∧ PubT [.string v33, .string v34] 67 V17 fun v36 V18 =>
 GenK Tryz.prog (.call { callee := (.builtin .append), args := #[.tmp 144, .tmp 149], argTypes := #[23, 23] }) 23 (gval [(144, (.var .sl 35)), (149, (.c3 .slc (.u (.poff 0) (.var .p 36)) (.int .i64 1) (.int .i64 1)))] [.string v0, v1.v, v2.v, v3.v, v4.v, v5.v, v6.v, v7.v, .int .u8 v8, .bool v9, .bool v10, .bool v11, .string v12, v13.v, .string v14, v15.v, v16.v, v17.v, .pointer v18, .pointer v19, v20.v, .string v21, .int .i64 v22, .int .i64 v23, .bool v24, .bool v25, .bool v26, v27.v, .pointer v28, v29.v, .string v30, .int .i64 v31, .int .i64 v32, .string v33, .string v34, v35.v, .pointer v36]) V18 fun x V19 => ∃ v37 : Sl, x = v37.v ∧
 Tri Tryz.prog 12 #[.agg #[.string v0, v1.v, v37.v, v3.v, v4.v, v5.v, v6.v, v7.v]] V19 fun e V20 => ∃ v38 : ByteArray, ∃ v39 : Int, ∃ v40 : Int, e = .returned (.tuple #[.string v38, .int .i64 v39, .int .i64 v40]) ∧
 (¬ (v2.p = none)) ∧ ((0 : Int) ≤ (0 : Int)) ∧ ((0 : Int) < (v2.n : Int)) ∧ (¬ ((ptrAdd v2.p (((0 : Int)).toNat * 2)) = none)) ∧ ∃ v41 : ByteArray, ∃ v42 : ByteArray, V20.rowp v2.p (((0 : Int)).toNat * 2) 2 = some [.string v41, .string v42] ∧
 (v38 = v41 →
 (v39 = ((-1) : Int) →
 R (.returned (.bool (decide (v40 = (10 : Int))))) V20) ∧ (¬ (v39 = ((-1) : Int)) →
 R (.returned (.bool false)) V20)) ∧ (¬ (v38 = v41) →
 R (.returned (.bool false)) V20))))) ∧ (¬ (v32 = (10 : Int)) →
 R (.returned (.bool false)) V16)) ∧ (¬ (v31 = ((-1) : Int)) →
 R (.returned (.bool false)) V16)) ∧ (¬ (v30 = v12) →
 R (.returned (.bool false)) V16))) ∧
 (Tri Tryz.prog 31 #[v3.v] V12 fun e V13 => ∃ v27 : Sl, e = .returned v27.v ∧
 PubT [.string v12, v13.v, .string v14, v15.v, v16.v] 54 V13 fun v28 V14 =>
 GenK Tryz.prog (.call { callee := (.builtin .append), args := #[.tmp 104, .tmp 106], argTypes := #[24, 24] }) 24 (gval [(104, (.var .sl 27)), (106, (.c3 .slc (.u (.poff 0) (.var .p 28)) (.int .i64 1) (.int .i64 1)))] [.string v0, v1.v, v2.v, v3.v, v4.v, v5.v, v6.v, v7.v, .int .u8 v8, .bool v9, .bool v10, .bool v11, .string v12, v13.v, .string v14, v15.v, v16.v, v17.v, .pointer v18, .pointer v19, v20.v, .string v21, .int .i64 v22, .int .i64 v23, .bool v24, .bool v25, .bool v26, v27.v, .pointer v28]) V14 fun x V15 => ∃ v29 : Sl, x = v29.v ∧
 Tri Tryz.prog 12 #[.agg #[.string v0, v1.v, v2.v, v29.v, v4.v, v5.v, v6.v, v7.v]] V15 fun e V16 => ∃ v30 : ByteArray, ∃ v31 : Int, ∃ v32 : Int, e = .returned (.tuple #[.string v30, .int .i64 v31, .int .i64 v32]) ∧
 (v32 = (1 : Int) →
 ((v2.n : Int) = (0 : Int) →
 R (.returned (.bool true)) V16) ∧ (¬ ((v2.n : Int) = (0 : Int)) →
 ((8 : Int) ≤ (v2.n : Int) →
 R (.returned (.bool true)) V16) ∧ (¬ ((8 : Int) ≤ (v2.n : Int)) →
 (¬ (v2.p = none)) ∧ ((0 : Int) ≤ (0 : Int)) ∧ ((0 : Int) < (v2.n : Int)) ∧ ∃ v33 : ByteArray, ∃ v34 : ByteArray, V16.rowp v2.p (((0 : Int)).toNat * 2) 2 = some [.string v33, .string v34] ∧
 (Tri Tryz.prog 34 #[v2.v] V16 fun e V17 => ∃ v35 : Sl, e = .returned v35.v ∧
 PubT [.string v33, .string v34] 67 V17 fun v36 V18 =>
 GenK Tryz.prog (.call { callee := (.builtin .append), args := #[.tmp 144, .tmp 149], argTypes := #[23, 23] }) 23 (gval [(144, (.var .sl 35)), (149, (.c3 .slc (.u (.poff 0) (.var .p 36)) (.int .i64 1) (.int .i64 1)))] [.string v0, v1.v, v2.v, v3.v, v4.v, v5.v, v6.v, v7.v, .int .u8 v8, .bool v9, .bool v10, .bool v11, .string v12, v13.v, .string v14, v15.v, v16.v, v17.v, .pointer v18, .pointer v19, v20.v, .string v21, .int .i64 v22, .int .i64 v23, .bool v24, .bool v25, .bool v26, v27.v, .pointer v28, v29.v, .string v30, .int .i64 v31, .int .i64 v32, .string v33, .string v34, v35.v, .pointer v36]) V18 fun x V19 => ∃ v37 : Sl, x = v37.v ∧
 Tri Tryz.prog 12 #[.agg #[.string v0, v1.v, v37.v, v3.v, v4.v, v5.v, v6.v, v7.v]] V19 fun e V20 => ∃ v38 : ByteArray, ∃ v39 : Int, ∃ v40 : Int, e = .returned (.tuple #[.string v38, .int .i64 v39, .int .i64 v40]) ∧
 (¬ (v2.p = none)) ∧ ((0 : Int) ≤ (0 : Int)) ∧ ((0 : Int) < (v2.n : Int)) ∧ (¬ ((ptrAdd v2.p (((0 : Int)).toNat * 2)) = none)) ∧ ∃ v41 : ByteArray, ∃ v42 : ByteArray, V20.rowp v2.p (((0 : Int)).toNat * 2) 2 = some [.string v41, .string v42] ∧
 (v38 = v41 →
 (v39 = ((-1) : Int) →
 R (.returned (.bool (decide (v40 = (10 : Int))))) V20) ∧ (¬ (v39 = ((-1) : Int)) →
 R (.returned (.bool false)) V20)) ∧ (¬ (v38 = v41) →
 R (.returned (.bool false)) V20)) ∧
 (Tri Tryz.prog 34 #[v2.v] V16 fun e V17 => ∃ v35 : Sl, e = .returned v35.v ∧
 (V17.rowp (ptrAdd v2.p (((0 : Int)).toNat * 2)) 0 2 = some [.string v33, .string v34]) ∧ (¬ (v2.p = none)) ∧ ((0 : Int) ≤ (0 : Int)) ∧ ((0 : Int) < (v2.n : Int)) ∧ PubT [.string v33, .string v34] 67 V17 fun v36 V18 =>
 GenK Tryz.prog (.call { callee := (.builtin .append), args := #[.tmp 144, .tmp 149], argTypes := #[23, 23] }) 23 (gval [(144, (.var .sl 35)), (149, (.c3 .slc (.u (.poff 0) (.var .p 36)) (.int .i64 1) (.int .i64 1)))] [.string v0, v1.v, v2.v, v3.v, v4.v, v5.v, v6.v, v7.v, .int .u8 v8, .bool v9, .bool v10, .bool v11, .string v12, v13.v, .string v14, v15.v, v16.v, v17.v, .pointer v18, .pointer v19, v20.v, .string v21, .int .i64 v22, .int .i64 v23, .bool v24, .bool v25, .bool v26, v27.v, .pointer v28, v29.v, .string v30, .int .i64 v31, .int .i64 v32, .string v33, .string v34, v35.v, .pointer v36]) V18 fun x V19 => ∃ v37 : Sl, x = v37.v ∧
 Tri Tryz.prog 12 #[.agg #[.string v0, v1.v, v37.v, v3.v, v4.v, v5.v, v6.v, v7.v]] V19 fun e V20 => ∃ v38 : ByteArray, ∃ v39 : Int, ∃ v40 : Int, e = .returned (.tuple #[.string v38, .int .i64 v39, .int .i64 v40]) ∧
 (¬ (v2.p = none)) ∧ ((0 : Int) ≤ (0 : Int)) ∧ ((0 : Int) < (v2.n : Int)) ∧ (¬ ((ptrAdd v2.p (((0 : Int)).toNat * 2)) = none)) ∧ ∃ v41 : ByteArray, ∃ v42 : ByteArray, V20.rowp v2.p (((0 : Int)).toNat * 2) 2 = some [.string v41, .string v42] ∧
 (v38 = v41 →
 (v39 = ((-1) : Int) →
 R (.returned (.bool (decide (v40 = (10 : Int))))) V20) ∧ (¬ (v39 = ((-1) : Int)) →
 R (.returned (.bool false)) V20)) ∧ (¬ (v38 = v41) →
 R (.returned (.bool false)) V20))))) ∧ (¬ (v32 = (1 : Int)) →
 (v30 = v12 →
 (v31 = ((-1) : Int) →
 (v32 = (10 : Int) →
 ((v2.n : Int) = (0 : Int) →
 R (.returned (.bool true)) V16) ∧ (¬ ((v2.n : Int) = (0 : Int)) →
 ((8 : Int) ≤ (v2.n : Int) →
 R (.returned (.bool true)) V16) ∧ (¬ ((8 : Int) ≤ (v2.n : Int)) →
 (¬ (v2.p = none)) ∧ ((0 : Int) ≤ (0 : Int)) ∧ ((0 : Int) < (v2.n : Int)) ∧ ∃ v33 : ByteArray, ∃ v34 : ByteArray, V16.rowp v2.p (((0 : Int)).toNat * 2) 2 = some [.string v33, .string v34] ∧
 (Tri Tryz.prog 34 #[v2.v] V16 fun e V17 => ∃ v35 : Sl, e = .returned v35.v ∧
 PubT [.string v33, .string v34] 67 V17 fun v36 V18 =>
 GenK Tryz.prog (.call { callee := (.builtin .append), args := #[.tmp 144, .tmp 149], argTypes := #[23, 23] }) 23 (gval [(144, (.var .sl 35)), (149, (.c3 .slc (.u (.poff 0) (.var .p 36)) (.int .i64 1) (.int .i64 1)))] [.string v0, v1.v, v2.v, v3.v, v4.v, v5.v, v6.v, v7.v, .int .u8 v8, .bool v9, .bool v10, .bool v11, .string v12, v13.v, .string v14, v15.v, v16.v, v17.v, .pointer v18, .pointer v19, v20.v, .string v21, .int .i64 v22, .int .i64 v23, .bool v24, .bool v25, .bool v26, v27.v, .pointer v28, v29.v, .string v30, .int .i64 v31, .int .i64 v32, .string v33, .string v34, v35.v, .pointer v36]) V18 fun x V19 => ∃ v37 : Sl, x = v37.v ∧
 Tri Tryz.prog 12 #[.agg #[.string v0, v1.v, v37.v, v3.v, v4.v, v5.v, v6.v, v7.v]] V19 fun e V20 => ∃ v38 : ByteArray, ∃ v39 : Int, ∃ v40 : Int, e = .returned (.tuple #[.string v38, .int .i64 v39, .int .i64 v40]) ∧
 (¬ (v2.p = none)) ∧ ((0 : Int) ≤ (0 : Int)) ∧ ((0 : Int) < (v2.n : Int)) ∧ (¬ ((ptrAdd v2.p (((0 : Int)).toNat * 2)) = none)) ∧ ∃ v41 : ByteArray, ∃ v42 : ByteArray, V20.rowp v2.p (((0 : Int)).toNat * 2) 2 = some [.string v41, .string v42] ∧
 (v38 = v41 →
 (v39 = ((-1) : Int) →
 R (.returned (.bool (decide (v40 = (10 : Int))))) V20) ∧ (¬ (v39 = ((-1) : Int)) →
 R (.returned (.bool false)) V20)) ∧ (¬ (v38 = v41) →
 R (.returned (.bool false)) V20)) ∧
 (Tri Tryz.prog 34 #[v2.v] V16 fun e V17 => ∃ v35 : Sl, e = .returned v35.v ∧
 (V17.rowp (ptrAdd v2.p (((0 : Int)).toNat * 2)) 0 2 = some [.string v33, .string v34]) ∧ (¬ (v2.p = none)) ∧ ((0 : Int) ≤ (0 : Int)) ∧ ((0 : Int) < (v2.n : Int)) ∧ PubT [.string v33, .string v34] 67 V17 fun v36 V18 =>
 GenK Tryz.prog (.call { callee := (.builtin .append), args := #[.tmp 144, .tmp 149], argTypes := #[23, 23] }) 23 (gval [(144, (.var .sl 35)), (149, (.c3 .slc (.u (.poff 0) (.var .p 36)) (.int .i64 1) (.int .i64 1)))] [.string v0, v1.v, v2.v, v3.v, v4.v, v5.v, v6.v, v7.v, .int .u8 v8, .bool v9, .bool v10, .bool v11, .string v12, v13.v, .string v14, v15.v, v16.v, v17.v, .pointer v18, .pointer v19, v20.v, .string v21, .int .i64 v22, .int .i64 v23, .bool v24, .bool v25, .bool v26, v27.v, .pointer v28, v29.v, .string v30, .int .i64 v31, .int .i64 v32, .string v33, .string v34, v35.v, .pointer v36]) V18 fun x V19 => ∃ v37 : Sl, x = v37.v ∧
 Tri Tryz.prog 12 #[.agg #[.string v0, v1.v, v37.v, v3.v, v4.v, v5.v, v6.v, v7.v]] V19 fun e V20 => ∃ v38 : ByteArray, ∃ v39 : Int, ∃ v40 : Int, e = .returned (.tuple #[.string v38, .int .i64 v39, .int .i64 v40]) ∧
 (¬ (v2.p = none)) ∧ ((0 : Int) ≤ (0 : Int)) ∧ ((0 : Int) < (v2.n : Int)) ∧ (¬ ((ptrAdd v2.p (((0 : Int)).toNat * 2)) = none)) ∧ ∃ v41 : ByteArray, ∃ v42 : ByteArray, V20.rowp v2.p (((0 : Int)).toNat * 2) 2 = some [.string v41, .string v42] ∧
 (v38 = v41 →
 (v39 = ((-1) : Int) →
 R (.returned (.bool (decide (v40 = (10 : Int))))) V20) ∧ (¬ (v39 = ((-1) : Int)) →
 R (.returned (.bool false)) V20)) ∧ (¬ (v38 = v41) →
 R (.returned (.bool false)) V20))))) ∧ (¬ (v32 = (10 : Int)) →
 R (.returned (.bool false)) V16)) ∧ (¬ (v31 = ((-1) : Int)) →
 R (.returned (.bool false)) V16)) ∧ (¬ (v30 = v12) →
 R (.returned (.bool false)) V16))))) ∧ (¬ (v25 = true) →
 (Tri Tryz.prog 31 #[v3.v] V11 fun e V12 => ∃ v26 : Sl, e = .returned v26.v ∧
 PubT [.string v12, v13.v, .string v14, v15.v, v16.v] 54 V12 fun v27 V13 =>
 GenK Tryz.prog (.call { callee := (.builtin .append), args := #[.tmp 104, .tmp 106], argTypes := #[24, 24] }) 24 (gval [(104, (.var .sl 26)), (106, (.c3 .slc (.u (.poff 0) (.var .p 27)) (.int .i64 1) (.int .i64 1)))] [.string v0, v1.v, v2.v, v3.v, v4.v, v5.v, v6.v, v7.v, .int .u8 v8, .bool v9, .bool v10, .bool v11, .string v12, v13.v, .string v14, v15.v, v16.v, v17.v, .pointer v18, .pointer v19, v20.v, .string v21, .int .i64 v22, .int .i64 v23, .bool v24, .bool v25, v26.v, .pointer v27]) V13 fun x V14 => ∃ v28 : Sl, x = v28.v ∧
 Tri Tryz.prog 12 #[.agg #[.string v0, v1.v, v2.v, v28.v, v4.v, v5.v, v6.v, v7.v]] V14 fun e V15 => ∃ v29 : ByteArray, ∃ v30 : Int, ∃ v31 : Int, e = .returned (.tuple #[.string v29, .int .i64 v30, .int .i64 v31]) ∧
 (v31 = (1 : Int) →
 ((v2.n : Int) = (0 : Int) →
 R (.returned (.bool true)) V15) ∧ (¬ ((v2.n : Int) = (0 : Int)) →
 ((8 : Int) ≤ (v2.n : Int) →
 R (.returned (.bool true)) V15) ∧ (¬ ((8 : Int) ≤ (v2.n : Int)) →
 (¬ (v2.p = none)) ∧ ((0 : Int) ≤ (0 : Int)) ∧ ((0 : Int) < (v2.n : Int)) ∧ ∃ v32 : ByteArray, ∃ v33 : ByteArray, V15.rowp v2.p (((0 : Int)).toNat * 2) 2 = some [.string v32, .string v33] ∧
 (Tri Tryz.prog 34 #[v2.v] V15 fun e V16 => ∃ v34 : Sl, e = .returned v34.v ∧
 PubT [.string v32, .string v33] 67 V16 fun v35 V17 =>
 GenK Tryz.prog (.call { callee := (.builtin .append), args := #[.tmp 144, .tmp 149], argTypes := #[23, 23] }) 23 (gval [(144, (.var .sl 34)), (149, (.c3 .slc (.u (.poff 0) (.var .p 35)) (.int .i64 1) (.int .i64 1)))] [.string v0, v1.v, v2.v, v3.v, v4.v, v5.v, v6.v, v7.v, .int .u8 v8, .bool v9, .bool v10, .bool v11, .string v12, v13.v, .string v14, v15.v, v16.v, v17.v, .pointer v18, .pointer v19, v20.v, .string v21, .int .i64 v22, .int .i64 v23, .bool v24, .bool v25, v26.v, .pointer v27, v28.v, .string v29, .int .i64 v30, .int .i64 v31, .string v32, .string v33, v34.v, .pointer v35]) V17 fun x V18 => ∃ v36 : Sl, x = v36.v ∧
 Tri Tryz.prog 12 #[.agg #[.string v0, v1.v, v36.v, v3.v, v4.v, v5.v, v6.v, v7.v]] V18 fun e V19 => ∃ v37 : ByteArray, ∃ v38 : Int, ∃ v39 : Int, e = .returned (.tuple #[.string v37, .int .i64 v38, .int .i64 v39]) ∧
 (¬ (v2.p = none)) ∧ ((0 : Int) ≤ (0 : Int)) ∧ ((0 : Int) < (v2.n : Int)) ∧ (¬ ((ptrAdd v2.p (((0 : Int)).toNat * 2)) = none)) ∧ ∃ v40 : ByteArray, ∃ v41 : ByteArray, V19.rowp v2.p (((0 : Int)).toNat * 2) 2 = some [.string v40, .string v41] ∧
 (v37 = v40 →
 (v38 = ((-1) : Int) →
 R (.returned (.bool (decide (v39 = (10 : Int))))) V19) ∧ (¬ (v38 = ((-1) : Int)) →
 R (.returned (.bool false)) V19)) ∧ (¬ (v37 = v40) →
 R (.returned (.bool false)) V19)) ∧
 (Tri Tryz.prog 34 #[v2.v] V15 fun e V16 => ∃ v34 : Sl, e = .returned v34.v ∧
 (V16.rowp (ptrAdd v2.p (((0 : Int)).toNat * 2)) 0 2 = some [.string v32, .string v33]) ∧ (¬ (v2.p = none)) ∧ ((0 : Int) ≤ (0 : Int)) ∧ ((0 : Int) < (v2.n : Int)) ∧ PubT [.string v32, .string v33] 67 V16 fun v35 V17 =>
 GenK Tryz.prog (.call { callee := (.builtin .append), args := #[.tmp 144, .tmp 149], argTypes := #[23, 23] }) 23 (gval [(144, (.var .sl 34)), (149, (.c3 .slc (.u (.poff 0) (.var .p 35)) (.int .i64 1) (.int .i64 1)))] [.string v0, v1.v, v2.v, v3.v, v4.v, v5.v, v6.v, v7.v, .int .u8 v8, .bool v9, .bool v10, .bool v11, .string v12, v13.v, .string v14, v15.v, v16.v, v17.v, .pointer v18, .pointer v19, v20.v, .string v21, .int .i64 v22, .int .i64 v23, .bool v24, .bool v25, v26.v, .pointer v27, v28.v, .string v29, .int .i64 v30, .int .i64 v31, .string v32, .string v33, v34.v, .pointer v35]) V17 fun x V18 => ∃ v36 : Sl, x = v36.v ∧
 Tri Tryz.prog 12 #[.agg #[.string v0, v1.v, v36.v, v3.v, v4.v, v5.v, v6.v, v7.v]] V18 fun e V19 => ∃ v37 : ByteArray, ∃ v38 : Int, ∃ v39 : Int, e = .returned (.tuple #[.string v37, .int .i64 v38, .int .i64 v39]) ∧
 (¬ (v2.p = none)) ∧ ((0 : Int) ≤ (0 : Int)) ∧ ((0 : Int) < (v2.n : Int)) ∧ (¬ ((ptrAdd v2.p (((0 : Int)).toNat * 2)) = none)) ∧ ∃ v40 : ByteArray, ∃ v41 : ByteArray, V19.rowp v2.p (((0 : Int)).toNat * 2) 2 = some [.string v40, .string v41] ∧
 (v37 = v40 →
 (v38 = ((-1) : Int) →
 R (.returned (.bool (decide (v39 = (10 : Int))))) V19) ∧ (¬ (v38 = ((-1) : Int)) →
 R (.returned (.bool false)) V19)) ∧ (¬ (v37 = v40) →
 R (.returned (.bool false)) V19))))) ∧ (¬ (v31 = (1 : Int)) →
 (v29 = v12 →
 (v30 = ((-1) : Int) →
 (v31 = (10 : Int) →
 ((v2.n : Int) = (0 : Int) →
 R (.returned (.bool true)) V15) ∧ (¬ ((v2.n : Int) = (0 : Int)) →
 ((8 : Int) ≤ (v2.n : Int) →
 R (.returned (.bool true)) V15) ∧ (¬ ((8 : Int) ≤ (v2.n : Int)) →
 (¬ (v2.p = none)) ∧ ((0 : Int) ≤ (0 : Int)) ∧ ((0 : Int) < (v2.n : Int)) ∧ ∃ v32 : ByteArray, ∃ v33 : ByteArray, V15.rowp v2.p (((0 : Int)).toNat * 2) 2 = some [.string v32, .string v33] ∧
 (Tri Tryz.prog 34 #[v2.v] V15 fun e V16 => ∃ v34 : Sl, e = .returned v34.v ∧
 PubT [.string v32, .string v33] 67 V16 fun v35 V17 =>
 GenK Tryz.prog (.call { callee := (.builtin .append), args := #[.tmp 144, .tmp 149], argTypes := #[23, 23] }) 23 (gval [(144, (.var .sl 34)), (149, (.c3 .slc (.u (.poff 0) (.var .p 35)) (.int .i64 1) (.int .i64 1)))] [.string v0, v1.v, v2.v, v3.v, v4.v, v5.v, v6.v, v7.v, .int .u8 v8, .bool v9, .bool v10, .bool v11, .string v12, v13.v, .string v14, v15.v, v16.v, v17.v, .pointer v18, .pointer v19, v20.v, .string v21, .int .i64 v22, .int .i64 v23, .bool v24, .bool v25, v26.v, .pointer v27, v28.v, .string v29, .int .i64 v30, .int .i64 v31, .string v32, .string v33, v34.v, .pointer v35]) V17 fun x V18 => ∃ v36 : Sl, x = v36.v ∧
 Tri Tryz.prog 12 #[.agg #[.string v0, v1.v, v36.v, v3.v, v4.v, v5.v, v6.v, v7.v]] V18 fun e V19 => ∃ v37 : ByteArray, ∃ v38 : Int, ∃ v39 : Int, e = .returned (.tuple #[.string v37, .int .i64 v38, .int .i64 v39]) ∧
 (¬ (v2.p = none)) ∧ ((0 : Int) ≤ (0 : Int)) ∧ ((0 : Int) < (v2.n : Int)) ∧ (¬ ((ptrAdd v2.p (((0 : Int)).toNat * 2)) = none)) ∧ ∃ v40 : ByteArray, ∃ v41 : ByteArray, V19.rowp v2.p (((0 : Int)).toNat * 2) 2 = some [.string v40, .string v41] ∧
 (v37 = v40 →
 (v38 = ((-1) : Int) →
 R (.returned (.bool (decide (v39 = (10 : Int))))) V19) ∧ (¬ (v38 = ((-1) : Int)) →
 R (.returned (.bool false)) V19)) ∧ (¬ (v37 = v40) →
 R (.returned (.bool false)) V19)) ∧
 (Tri Tryz.prog 34 #[v2.v] V15 fun e V16 => ∃ v34 : Sl, e = .returned v34.v ∧
 (V16.rowp (ptrAdd v2.p (((0 : Int)).toNat * 2)) 0 2 = some [.string v32, .string v33]) ∧ (¬ (v2.p = none)) ∧ ((0 : Int) ≤ (0 : Int)) ∧ ((0 : Int) < (v2.n : Int)) ∧ PubT [.string v32, .string v33] 67 V16 fun v35 V17 =>
 GenK Tryz.prog (.call { callee := (.builtin .append), args := #[.tmp 144, .tmp 149], argTypes := #[23, 23] }) 23 (gval [(144, (.var .sl 34)), (149, (.c3 .slc (.u (.poff 0) (.var .p 35)) (.int .i64 1) (.int .i64 1)))] [.string v0, v1.v, v2.v, v3.v, v4.v, v5.v, v6.v, v7.v, .int .u8 v8, .bool v9, .bool v10, .bool v11, .string v12, v13.v, .string v14, v15.v, v16.v, v17.v, .pointer v18, .pointer v19, v20.v, .string v21, .int .i64 v22, .int .i64 v23, .bool v24, .bool v25, v26.v, .pointer v27, v28.v, .string v29, .int .i64 v30, .int .i64 v31, .string v32, .string v33, v34.v, .pointer v35]) V17 fun x V18 => ∃ v36 : Sl, x = v36.v ∧
 Tri Tryz.prog 12 #[.agg #[.string v0, v1.v, v36.v, v3.v, v4.v, v5.v, v6.v, v7.v]] V18 fun e V19 => ∃ v37 : ByteArray, ∃ v38 : Int, ∃ v39 : Int, e = .returned (.tuple #[.string v37, .int .i64 v38, .int .i64 v39]) ∧
 (¬ (v2.p = none)) ∧ ((0 : Int) ≤ (0 : Int)) ∧ ((0 : Int) < (v2.n : Int)) ∧ (¬ ((ptrAdd v2.p (((0 : Int)).toNat * 2)) = none)) ∧ ∃ v40 : ByteArray, ∃ v41 : ByteArray, V19.rowp v2.p (((0 : Int)).toNat * 2) 2 = some [.string v40, .string v41] ∧
 (v37 = v40 →
 (v38 = ((-1) : Int) →
 R (.returned (.bool (decide (v39 = (10 : Int))))) V19) ∧ (¬ (v38 = ((-1) : Int)) →
 R (.returned (.bool false)) V19)) ∧ (¬ (v37 = v40) →
 R (.returned (.bool false)) V19))))) ∧ (¬ (v31 = (10 : Int)) →
 R (.returned (.bool false)) V15)) ∧ (¬ (v30 = ((-1) : Int)) →
 R (.returned (.bool false)) V15)) ∧ (¬ (v29 = v12) →
 R (.returned (.bool false)) V15))) ∧
 (Tri Tryz.prog 31 #[v3.v] V11 fun e V12 => ∃ v26 : Sl, e = .returned v26.v ∧
 PubT [.string v12, v13.v, .string v14, v15.v, v16.v] 54 V12 fun v27 V13 =>
 GenK Tryz.prog (.call { callee := (.builtin .append), args := #[.tmp 104, .tmp 106], argTypes := #[24, 24] }) 24 (gval [(104, (.var .sl 26)), (106, (.c3 .slc (.u (.poff 0) (.var .p 27)) (.int .i64 1) (.int .i64 1)))] [.string v0, v1.v, v2.v, v3.v, v4.v, v5.v, v6.v, v7.v, .int .u8 v8, .bool v9, .bool v10, .bool v11, .string v12, v13.v, .string v14, v15.v, v16.v, v17.v, .pointer v18, .pointer v19, v20.v, .string v21, .int .i64 v22, .int .i64 v23, .bool v24, .bool v25, v26.v, .pointer v27]) V13 fun x V14 => ∃ v28 : Sl, x = v28.v ∧
 Tri Tryz.prog 12 #[.agg #[.string v0, v1.v, v2.v, v28.v, v4.v, v5.v, v6.v, v7.v]] V14 fun e V15 => ∃ v29 : ByteArray, ∃ v30 : Int, ∃ v31 : Int, e = .returned (.tuple #[.string v29, .int .i64 v30, .int .i64 v31]) ∧
 (v31 = (1 : Int) →
 ((v2.n : Int) = (0 : Int) →
 R (.returned (.bool true)) V15) ∧ (¬ ((v2.n : Int) = (0 : Int)) →
 ((8 : Int) ≤ (v2.n : Int) →
 R (.returned (.bool true)) V15) ∧ (¬ ((8 : Int) ≤ (v2.n : Int)) →
 (¬ (v2.p = none)) ∧ ((0 : Int) ≤ (0 : Int)) ∧ ((0 : Int) < (v2.n : Int)) ∧ ∃ v32 : ByteArray, ∃ v33 : ByteArray, V15.rowp v2.p (((0 : Int)).toNat * 2) 2 = some [.string v32, .string v33] ∧
 (Tri Tryz.prog 34 #[v2.v] V15 fun e V16 => ∃ v34 : Sl, e = .returned v34.v ∧
 PubT [.string v32, .string v33] 67 V16 fun v35 V17 =>
 GenK Tryz.prog (.call { callee := (.builtin .append), args := #[.tmp 144, .tmp 149], argTypes := #[23, 23] }) 23 (gval [(144, (.var .sl 34)), (149, (.c3 .slc (.u (.poff 0) (.var .p 35)) (.int .i64 1) (.int .i64 1)))] [.string v0, v1.v, v2.v, v3.v, v4.v, v5.v, v6.v, v7.v, .int .u8 v8, .bool v9, .bool v10, .bool v11, .string v12, v13.v, .string v14, v15.v, v16.v, v17.v, .pointer v18, .pointer v19, v20.v, .string v21, .int .i64 v22, .int .i64 v23, .bool v24, .bool v25, v26.v, .pointer v27, v28.v, .string v29, .int .i64 v30, .int .i64 v31, .string v32, .string v33, v34.v, .pointer v35]) V17 fun x V18 => ∃ v36 : Sl, x = v36.v ∧
 Tri Tryz.prog 12 #[.agg #[.string v0, v1.v, v36.v, v3.v, v4.v, v5.v, v6.v, v7.v]] V18 fun e V19 => ∃ v37 : ByteArray, ∃ v38 : Int, ∃ v39 : Int, e = .returned (.tuple #[.string v37, .int .i64 v38, .int .i64 v39]) ∧
 (¬ (v2.p = none)) ∧ ((0 : Int) ≤ (0 : Int)) ∧ ((0 : Int) < (v2.n : Int)) ∧ (¬ ((ptrAdd v2.p (((0 : Int)).toNat * 2)) = none)) ∧ ∃ v40 : ByteArray, ∃ v41 : ByteArray, V19.rowp v2.p (((0 : Int)).toNat * 2) 2 = some [.string v40, .string v41] ∧
 (v37 = v40 →
 (v38 = ((-1) : Int) →
 R (.returned (.bool (decide (v39 = (10 : Int))))) V19) ∧ (¬ (v38 = ((-1) : Int)) →
 R (.returned (.bool false)) V19)) ∧ (¬ (v37 = v40) →
 R (.returned (.bool false)) V19)) ∧
 (Tri Tryz.prog 34 #[v2.v] V15 fun e V16 => ∃ v34 : Sl, e = .returned v34.v ∧
 (V16.rowp (ptrAdd v2.p (((0 : Int)).toNat * 2)) 0 2 = some [.string v32, .string v33]) ∧ (¬ (v2.p = none)) ∧ ((0 : Int) ≤ (0 : Int)) ∧ ((0 : Int) < (v2.n : Int)) ∧ PubT [.string v32, .string v33] 67 V16 fun v35 V17 =>
 GenK Tryz.prog (.call { callee := (.builtin .append), args := #[.tmp 144, .tmp 149], argTypes := #[23, 23] }) 23 (gval [(144, (.var .sl 34)), (149, (.c3 .slc (.u (.poff 0) (.var .p 35)) (.int .i64 1) (.int .i64 1)))] [.string v0, v1.v, v2.v, v3.v, v4.v, v5.v, v6.v, v7.v, .int .u8 v8, .bool v9, .bool v10, .bool v11, .string v12, v13.v, .string v14, v15.v, v16.v, v17.v, .pointer v18, .pointer v19, v20.v, .string v21, .int .i64 v22, .int .i64 v23, .bool v24, .bool v25, v26.v, .pointer v27, v28.v, .string v29, .int .i64 v30, .int .i64 v31, .string v32, .string v33, v34.v, .pointer v35]) V17 fun x V18 => ∃ v36 : Sl, x = v36.v ∧
 Tri Tryz.prog 12 #[.agg #[.string v0, v1.v, v36.v, v3.v, v4.v, v5.v, v6.v, v7.v]] V18 fun e V19 => ∃ v37 : ByteArray, ∃ v38 : Int, ∃ v39 : Int, e = .returned (.tuple #[.string v37, .int .i64 v38, .int .i64 v39]) ∧
 (¬ (v2.p = none)) ∧ ((0 : Int) ≤ (0 : Int)) ∧ ((0 : Int) < (v2.n : Int)) ∧ (¬ ((ptrAdd v2.p (((0 : Int)).toNat * 2)) = none)) ∧ ∃ v40 : ByteArray, ∃ v41 : ByteArray, V19.rowp v2.p (((0 : Int)).toNat * 2) 2 = some [.string v40, .string v41] ∧
 (v37 = v40 →
 (v38 = ((-1) : Int) →
 R (.returned (.bool (decide (v39 = (10 : Int))))) V19) ∧ (¬ (v38 = ((-1) : Int)) →
 R (.returned (.bool false)) V19)) ∧ (¬ (v37 = v40) →
 R (.returned (.bool false)) V19))))) ∧ (¬ (v31 = (1 : Int)) →
 (v29 = v12 →
 (v30 = ((-1) : Int) →
 (v31 = (10 : Int) →
 ((v2.n : Int) = (0 : Int) →
 R (.returned (.bool true)) V15) ∧ (¬ ((v2.n : Int) = (0 : Int)) →
 ((8 : Int) ≤ (v2.n : Int) →
 R (.returned (.bool true)) V15) ∧ (¬ ((8 : Int) ≤ (v2.n : Int)) →
 (¬ (v2.p = none)) ∧ ((0 : Int) ≤ (0 : Int)) ∧ ((0 : Int) < (v2.n : Int)) ∧ ∃ v32 : ByteArray, ∃ v33 : ByteArray, V15.rowp v2.p (((0 : Int)).toNat * 2) 2 = some [.string v32, .string v33] ∧
 (Tri Tryz.prog 34 #[v2.v] V15 fun e V16 => ∃ v34 : Sl, e = .returned v34.v ∧
 PubT [.string v32, .string v33] 67 V16 fun v35 V17 =>
 GenK Tryz.prog (.call { callee := (.builtin .append), args := #[.tmp 144, .tmp 149], argTypes := #[23, 23] }) 23 (gval [(144, (.var .sl 34)), (149, (.c3 .slc (.u (.poff 0) (.var .p 35)) (.int .i64 1) (.int .i64 1)))] [.string v0, v1.v, v2.v, v3.v, v4.v, v5.v, v6.v, v7.v, .int .u8 v8, .bool v9, .bool v10, .bool v11, .string v12, v13.v, .string v14, v15.v, v16.v, v17.v, .pointer v18, .pointer v19, v20.v, .string v21, .int .i64 v22, .int .i64 v23, .bool v24, .bool v25, v26.v, .pointer v27, v28.v, .string v29, .int .i64 v30, .int .i64 v31, .string v32, .string v33, v34.v, .pointer v35]) V17 fun x V18 => ∃ v36 : Sl, x = v36.v ∧
 Tri Tryz.prog 12 #[.agg #[.string v0, v1.v, v36.v, v3.v, v4.v, v5.v, v6.v, v7.v]] V18 fun e V19 => ∃ v37 : ByteArray, ∃ v38 : Int, ∃ v39 : Int, e = .returned (.tuple #[.string v37, .int .i64 v38, .int .i64 v39]) ∧
 (¬ (v2.p = none)) ∧ ((0 : Int) ≤ (0 : Int)) ∧ ((0 : Int) < (v2.n : Int)) ∧ (¬ ((ptrAdd v2.p (((0 : Int)).toNat * 2)) = none)) ∧ ∃ v40 : ByteArray, ∃ v41 : ByteArray, V19.rowp v2.p (((0 : Int)).toNat * 2) 2 = some [.string v40, .string v41] ∧
 (v37 = v40 →
 (v38 = ((-1) : Int) →
 R (.returned (.bool (decide (v39 = (10 : Int))))) V19) ∧ (¬ (v38 = ((-1) : Int)) →
 R (.returned (.bool false)) V19)) ∧ (¬ (v37 = v40) →
 R (.returned (.bool false)) V19)) ∧
 (Tri Tryz.prog 34 #[v2.v] V15 fun e V16 => ∃ v34 : Sl, e = .returned v34.v ∧
 (V16.rowp (ptrAdd v2.p (((0 : Int)).toNat * 2)) 0 2 = some [.string v32, .string v33]) ∧ (¬ (v2.p = none)) ∧ ((0 : Int) ≤ (0 : Int)) ∧ ((0 : Int) < (v2.n : Int)) ∧ PubT [.string v32, .string v33] 67 V16 fun v35 V17 =>
 GenK Tryz.prog (.call { callee := (.builtin .append), args := #[.tmp 144, .tmp 149], argTypes := #[23, 23] }) 23 (gval [(144, (.var .sl 34)), (149, (.c3 .slc (.u (.poff 0) (.var .p 35)) (.int .i64 1) (.int .i64 1)))] [.string v0, v1.v, v2.v, v3.v, v4.v, v5.v, v6.v, v7.v, .int .u8 v8, .bool v9, .bool v10, .bool v11, .string v12, v13.v, .string v14, v15.v, v16.v, v17.v, .pointer v18, .pointer v19, v20.v, .string v21, .int .i64 v22, .int .i64 v23, .bool v24, .bool v25, v26.v, .pointer v27, v28.v, .string v29, .int .i64 v30, .int .i64 v31, .string v32, .string v33, v34.v, .pointer v35]) V17 fun x V18 => ∃ v36 : Sl, x = v36.v ∧
 Tri Tryz.prog 12 #[.agg #[.string v0, v1.v, v36.v, v3.v, v4.v, v5.v, v6.v, v7.v]] V18 fun e V19 => ∃ v37 : ByteArray, ∃ v38 : Int, ∃ v39 : Int, e = .returned (.tuple #[.string v37, .int .i64 v38, .int .i64 v39]) ∧
 (¬ (v2.p = none)) ∧ ((0 : Int) ≤ (0 : Int)) ∧ ((0 : Int) < (v2.n : Int)) ∧ (¬ ((ptrAdd v2.p (((0 : Int)).toNat * 2)) = none)) ∧ ∃ v40 : ByteArray, ∃ v41 : ByteArray, V19.rowp v2.p (((0 : Int)).toNat * 2) 2 = some [.string v40, .string v41] ∧
 (v37 = v40 →
 (v38 = ((-1) : Int) →
 R (.returned (.bool (decide (v39 = (10 : Int))))) V19) ∧ (¬ (v38 = ((-1) : Int)) →
 R (.returned (.bool false)) V19)) ∧ (¬ (v37 = v40) →
 R (.returned (.bool false)) V19))))) ∧ (¬ (v31 = (10 : Int)) →
 R (.returned (.bool false)) V15)) ∧ (¬ (v30 = ((-1) : Int)) →
 R (.returned (.bool false)) V15)) ∧ (¬ (v29 = v12) →
 R (.returned (.bool false)) V15))))) ∧ (¬ (v24 = true) →
 (Tri Tryz.prog 31 #[v3.v] V10 fun e V11 => ∃ v25 : Sl, e = .returned v25.v ∧
 PubT [.string v12, v13.v, .string v14, v15.v, v16.v] 54 V11 fun v26 V12 =>
 GenK Tryz.prog (.call { callee := (.builtin .append), args := #[.tmp 104, .tmp 106], argTypes := #[24, 24] }) 24 (gval [(104, (.var .sl 25)), (106, (.c3 .slc (.u (.poff 0) (.var .p 26)) (.int .i64 1) (.int .i64 1)))] [.string v0, v1.v, v2.v, v3.v, v4.v, v5.v, v6.v, v7.v, .int .u8 v8, .bool v9, .bool v10, .bool v11, .string v12, v13.v, .string v14, v15.v, v16.v, v17.v, .pointer v18, .pointer v19, v20.v, .string v21, .int .i64 v22, .int .i64 v23, .bool v24, v25.v, .pointer v26]) V12 fun x V13 => ∃ v27 : Sl, x = v27.v ∧
 Tri Tryz.prog 12 #[.agg #[.string v0, v1.v, v2.v, v27.v, v4.v, v5.v, v6.v, v7.v]] V13 fun e V14 => ∃ v28 : ByteArray, ∃ v29 : Int, ∃ v30 : Int, e = .returned (.tuple #[.string v28, .int .i64 v29, .int .i64 v30]) ∧
 (v30 = (1 : Int) →
 ((v2.n : Int) = (0 : Int) →
 R (.returned (.bool true)) V14) ∧ (¬ ((v2.n : Int) = (0 : Int)) →
 ((8 : Int) ≤ (v2.n : Int) →
 R (.returned (.bool true)) V14) ∧ (¬ ((8 : Int) ≤ (v2.n : Int)) →
 (¬ (v2.p = none)) ∧ ((0 : Int) ≤ (0 : Int)) ∧ ((0 : Int) < (v2.n : Int)) ∧ ∃ v31 : ByteArray, ∃ v32 : ByteArray, V14.rowp v2.p (((0 : Int)).toNat * 2) 2 = some [.string v31, .string v32] ∧
 (Tri Tryz.prog 34 #[v2.v] V14 fun e V15 => ∃ v33 : Sl, e = .returned v33.v ∧
 PubT [.string v31, .string v32] 67 V15 fun v34 V16 =>
 GenK Tryz.prog (.call { callee := (.builtin .append), args := #[.tmp 144, .tmp 149], argTypes := #[23, 23] }) 23 (gval [(144, (.var .sl 33)), (149, (.c3 .slc (.u (.poff 0) (.var .p 34)) (.int .i64 1) (.int .i64 1)))] [.string v0, v1.v, v2.v, v3.v, v4.v, v5.v, v6.v, v7.v, .int .u8 v8, .bool v9, .bool v10, .bool v11, .string v12, v13.v, .string v14, v15.v, v16.v, v17.v, .pointer v18, .pointer v19, v20.v, .string v21, .int .i64 v22, .int .i64 v23, .bool v24, v25.v, .pointer v26, v27.v, .string v28, .int .i64 v29, .int .i64 v30, .string v31, .string v32, v33.v, .pointer v34]) V16 fun x V17 => ∃ v35 : Sl, x = v35.v ∧
 Tri Tryz.prog 12 #[.agg #[.string v0, v1.v, v35.v, v3.v, v4.v, v5.v, v6.v, v7.v]] V17 fun e V18 => ∃ v36 : ByteArray, ∃ v37 : Int, ∃ v38 : Int, e = .returned (.tuple #[.string v36, .int .i64 v37, .int .i64 v38]) ∧
 (¬ (v2.p = none)) ∧ ((0 : Int) ≤ (0 : Int)) ∧ ((0 : Int) < (v2.n : Int)) ∧ (¬ ((ptrAdd v2.p (((0 : Int)).toNat * 2)) = none)) ∧ ∃ v39 : ByteArray, ∃ v40 : ByteArray, V18.rowp v2.p (((0 : Int)).toNat * 2) 2 = some [.string v39, .string v40] ∧
 (v36 = v39 →
 (v37 = ((-1) : Int) →
 R (.returned (.bool (decide (v38 = (10 : Int))))) V18) ∧ (¬ (v37 = ((-1) : Int)) →
 R (.returned (.bool false)) V18)) ∧ (¬ (v36 = v39) →
 R (.returned (.bool false)) V18)) ∧
 (Tri Tryz.prog 34 #[v2.v] V14 fun e V15 => ∃ v33 : Sl, e = .returned v33.v ∧
 (V15.rowp (ptrAdd v2.p (((0 : Int)).toNat * 2)) 0 2 = some [.string v31, .string v32]) ∧ (¬ (v2.p = none)) ∧ ((0 : Int) ≤ (0 : Int)) ∧ ((0 : Int) < (v2.n : Int)) ∧ PubT [.string v31, .string v32] 67 V15 fun v34 V16 =>
 GenK Tryz.prog (.call { callee := (.builtin .append), args := #[.tmp 144, .tmp 149], argTypes := #[23, 23] }) 23 (gval [(144, (.var .sl 33)), (149, (.c3 .slc (.u (.poff 0) (.var .p 34)) (.int .i64 1) (.int .i64 1)))] [.string v0, v1.v, v2.v, v3.v, v4.v, v5.v, v6.v, v7.v, .int .u8 v8, .bool v9, .bool v10, .bool v11, .string v12, v13.v, .string v14, v15.v, v16.v, v17.v, .pointer v18, .pointer v19, v20.v, .string v21, .int .i64 v22, .int .i64 v23, .bool v24, v25.v, .pointer v26, v27.v, .string v28, .int .i64 v29, .int .i64 v30, .string v31, .string v32, v33.v, .pointer v34]) V16 fun x V17 => ∃ v35 : Sl, x = v35.v ∧
 Tri Tryz.prog 12 #[.agg #[.string v0, v1.v, v35.v, v3.v, v4.v, v5.v, v6.v, v7.v]] V17 fun e V18 => ∃ v36 : ByteArray, ∃ v37 : Int, ∃ v38 : Int, e = .returned (.tuple #[.string v36, .int .i64 v37, .int .i64 v38]) ∧
 (¬ (v2.p = none)) ∧ ((0 : Int) ≤ (0 : Int)) ∧ ((0 : Int) < (v2.n : Int)) ∧ (¬ ((ptrAdd v2.p (((0 : Int)).toNat * 2)) = none)) ∧ ∃ v39 : ByteArray, ∃ v40 : ByteArray, V18.rowp v2.p (((0 : Int)).toNat * 2) 2 = some [.string v39, .string v40] ∧
 (v36 = v39 →
 (v37 = ((-1) : Int) →
 R (.returned (.bool (decide (v38 = (10 : Int))))) V18) ∧ (¬ (v37 = ((-1) : Int)) →
 R (.returned (.bool false)) V18)) ∧ (¬ (v36 = v39) →
 R (.returned (.bool false)) V18))))) ∧ (¬ (v30 = (1 : Int)) →
 (v28 = v12 →
 (v29 = ((-1) : Int) →
 (v30 = (10 : Int) →
 ((v2.n : Int) = (0 : Int) →
 R (.returned (.bool true)) V14) ∧ (¬ ((v2.n : Int) = (0 : Int)) →
 ((8 : Int) ≤ (v2.n : Int) →
 R (.returned (.bool true)) V14) ∧ (¬ ((8 : Int) ≤ (v2.n : Int)) →
 (¬ (v2.p = none)) ∧ ((0 : Int) ≤ (0 : Int)) ∧ ((0 : Int) < (v2.n : Int)) ∧ ∃ v31 : ByteArray, ∃ v32 : ByteArray, V14.rowp v2.p (((0 : Int)).toNat * 2) 2 = some [.string v31, .string v32] ∧
 (Tri Tryz.prog 34 #[v2.v] V14 fun e V15 => ∃ v33 : Sl, e = .returned v33.v ∧
 PubT [.string v31, .string v32] 67 V15 fun v34 V16 =>
 GenK Tryz.prog (.call { callee := (.builtin .append), args := #[.tmp 144, .tmp 149], argTypes := #[23, 23] }) 23 (gval [(144, (.var .sl 33)), (149, (.c3 .slc (.u (.poff 0) (.var .p 34)) (.int .i64 1) (.int .i64 1)))] [.string v0, v1.v, v2.v, v3.v, v4.v, v5.v, v6.v, v7.v, .int .u8 v8, .bool v9, .bool v10, .bool v11, .string v12, v13.v, .string v14, v15.v, v16.v, v17.v, .pointer v18, .pointer v19, v20.v, .string v21, .int .i64 v22, .int .i64 v23, .bool v24, v25.v, .pointer v26, v27.v, .string v28, .int .i64 v29, .int .i64 v30, .string v31, .string v32, v33.v, .pointer v34]) V16 fun x V17 => ∃ v35 : Sl, x = v35.v ∧
 Tri Tryz.prog 12 #[.agg #[.string v0, v1.v, v35.v, v3.v, v4.v, v5.v, v6.v, v7.v]] V17 fun e V18 => ∃ v36 : ByteArray, ∃ v37 : Int, ∃ v38 : Int, e = .returned (.tuple #[.string v36, .int .i64 v37, .int .i64 v38]) ∧
 (¬ (v2.p = none)) ∧ ((0 : Int) ≤ (0 : Int)) ∧ ((0 : Int) < (v2.n : Int)) ∧ (¬ ((ptrAdd v2.p (((0 : Int)).toNat * 2)) = none)) ∧ ∃ v39 : ByteArray, ∃ v40 : ByteArray, V18.rowp v2.p (((0 : Int)).toNat * 2) 2 = some [.string v39, .string v40] ∧
 (v36 = v39 →
 (v37 = ((-1) : Int) →
 R (.returned (.bool (decide (v38 = (10 : Int))))) V18) ∧ (¬ (v37 = ((-1) : Int)) →
 R (.returned (.bool false)) V18)) ∧ (¬ (v36 = v39) →
 R (.returned (.bool false)) V18)) ∧
 (Tri Tryz.prog 34 #[v2.v] V14 fun e V15 => ∃ v33 : Sl, e = .returned v33.v ∧
 (V15.rowp (ptrAdd v2.p (((0 : Int)).toNat * 2)) 0 2 = some [.string v31, .string v32]) ∧ (¬ (v2.p = none)) ∧ ((0 : Int) ≤ (0 : Int)) ∧ ((0 : Int) < (v2.n : Int)) ∧ PubT [.string v31, .string v32] 67 V15 fun v34 V16 =>
 GenK Tryz.prog (.call { callee := (.builtin .append), args := #[.tmp 144, .tmp 149], argTypes := #[23, 23] }) 23 (gval [(144, (.var .sl 33)), (149, (.c3 .slc (.u (.poff 0) (.var .p 34)) (.int .i64 1) (.int .i64 1)))] [.string v0, v1.v, v2.v, v3.v, v4.v, v5.v, v6.v, v7.v, .int .u8 v8, .bool v9, .bool v10, .bool v11, .string v12, v13.v, .string v14, v15.v, v16.v, v17.v, .pointer v18, .pointer v19, v20.v, .string v21, .int .i64 v22, .int .i64 v23, .bool v24, v25.v, .pointer v26, v27.v, .string v28, .int .i64 v29, .int .i64 v30, .string v31, .string v32, v33.v, .pointer v34]) V16 fun x V17 => ∃ v35 : Sl, x = v35.v ∧
 Tri Tryz.prog 12 #[.agg #[.string v0, v1.v, v35.v, v3.v, v4.v, v5.v, v6.v, v7.v]] V17 fun e V18 => ∃ v36 : ByteArray, ∃ v37 : Int, ∃ v38 : Int, e = .returned (.tuple #[.string v36, .int .i64 v37, .int .i64 v38]) ∧
 (¬ (v2.p = none)) ∧ ((0 : Int) ≤ (0 : Int)) ∧ ((0 : Int) < (v2.n : Int)) ∧ (¬ ((ptrAdd v2.p (((0 : Int)).toNat * 2)) = none)) ∧ ∃ v39 : ByteArray, ∃ v40 : ByteArray, V18.rowp v2.p (((0 : Int)).toNat * 2) 2 = some [.string v39, .string v40] ∧
 (v36 = v39 →
 (v37 = ((-1) : Int) →
 R (.returned (.bool (decide (v38 = (10 : Int))))) V18) ∧ (¬ (v37 = ((-1) : Int)) →
 R (.returned (.bool false)) V18)) ∧ (¬ (v36 = v39) →
 R (.returned (.bool false)) V18))))) ∧ (¬ (v30 = (10 : Int)) →
 R (.returned (.bool false)) V14)) ∧ (¬ (v29 = ((-1) : Int)) →
 R (.returned (.bool false)) V14)) ∧ (¬ (v28 = v12) →
 R (.returned (.bool false)) V14))) ∧
 (Tri Tryz.prog 31 #[v3.v] V10 fun e V11 => ∃ v25 : Sl, e = .returned v25.v ∧
 PubT [.string v12, v13.v, .string v14, v15.v, v16.v] 54 V11 fun v26 V12 =>
 GenK Tryz.prog (.call { callee := (.builtin .append), args := #[.tmp 104, .tmp 106], argTypes := #[24, 24] }) 24 (gval [(104, (.var .sl 25)), (106, (.c3 .slc (.u (.poff 0) (.var .p 26)) (.int .i64 1) (.int .i64 1)))] [.string v0, v1.v, v2.v, v3.v, v4.v, v5.v, v6.v, v7.v, .int .u8 v8, .bool v9, .bool v10, .bool v11, .string v12, v13.v, .string v14, v15.v, v16.v, v17.v, .pointer v18, .pointer v19, v20.v, .string v21, .int .i64 v22, .int .i64 v23, .bool v24, v25.v, .pointer v26]) V12 fun x V13 => ∃ v27 : Sl, x = v27.v ∧
 Tri Tryz.prog 12 #[.agg #[.string v0, v1.v, v2.v, v27.v, v4.v, v5.v, v6.v, v7.v]] V13 fun e V14 => ∃ v28 : ByteArray, ∃ v29 : Int, ∃ v30 : Int, e = .returned (.tuple #[.string v28, .int .i64 v29, .int .i64 v30]) ∧
 (v30 = (1 : Int) →
 ((v2.n : Int) = (0 : Int) →
 R (.returned (.bool true)) V14) ∧ (¬ ((v2.n : Int) = (0 : Int)) →
 ((8 : Int) ≤ (v2.n : Int) →
 R (.returned (.bool true)) V14) ∧ (¬ ((8 : Int) ≤ (v2.n : Int)) →
 (¬ (v2.p = none)) ∧ ((0 : Int) ≤ (0 : Int)) ∧ ((0 : Int) < (v2.n : Int)) ∧ ∃ v31 : ByteArray, ∃ v32 : ByteArray, V14.rowp v2.p (((0 : Int)).toNat * 2) 2 = some [.string v31, .string v32] ∧
 (Tri Tryz.prog 34 #[v2.v] V14 fun e V15 => ∃ v33 : Sl, e = .returned v33.v ∧
 PubT [.string v31, .string v32] 67 V15 fun v34 V16 =>
 GenK Tryz.prog (.call { callee := (.builtin .append), args := #[.tmp 144, .tmp 149], argTypes := #[23, 23] }) 23 (gval [(144, (.var .sl 33)), (149, (.c3 .slc (.u (.poff 0) (.var .p 34)) (.int .i64 1) (.int .i64 1)))] [.string v0, v1.v, v2.v, v3.v, v4.v, v5.v, v6.v, v7.v, .int .u8 v8, .bool v9, .bool v10, .bool v11, .string v12, v13.v, .string v14, v15.v, v16.v, v17.v, .pointer v18, .pointer v19, v20.v, .string v21, .int .i64 v22, .int .i64 v23, .bool v24, v25.v, .pointer v26, v27.v, .string v28, .int .i64 v29, .int .i64 v30, .string v31, .string v32, v33.v, .pointer v34]) V16 fun x V17 => ∃ v35 : Sl, x = v35.v ∧
 Tri Tryz.prog 12 #[.agg #[.string v0, v1.v, v35.v, v3.v, v4.v, v5.v, v6.v, v7.v]] V17 fun e V18 => ∃ v36 : ByteArray, ∃ v37 : Int, ∃ v38 : Int, e = .returned (.tuple #[.string v36, .int .i64 v37, .int .i64 v38]) ∧
 (¬ (v2.p = none)) ∧ ((0 : Int) ≤ (0 : Int)) ∧ ((0 : Int) < (v2.n : Int)) ∧ (¬ ((ptrAdd v2.p (((0 : Int)).toNat * 2)) = none)) ∧ ∃ v39 : ByteArray, ∃ v40 : ByteArray, V18.rowp v2.p (((0 : Int)).toNat * 2) 2 = some [.string v39, .string v40] ∧
 (v36 = v39 →
 (v37 = ((-1) : Int) →
 R (.returned (.bool (decide (v38 = (10 : Int))))) V18) ∧ (¬ (v37 = ((-1) : Int)) →
 R (.returned (.bool false)) V18)) ∧ (¬ (v36 = v39) →
 R (.returned (.bool false)) V18)) ∧
 (Tri Tryz.prog 34 #[v2.v] V14 fun e V15 => ∃ v33 : Sl, e = .returned v33.v ∧
 (V15.rowp (ptrAdd v2.p (((0 : Int)).toNat * 2)) 0 2 = some [.string v31, .string v32]) ∧ (¬ (v2.p = none)) ∧ ((0 : Int) ≤ (0 : Int)) ∧ ((0 : Int) < (v2.n : Int)) ∧ PubT [.string v31, .string v32] 67 V15 fun v34 V16 =>
 GenK Tryz.prog (.call { callee := (.builtin .append), args := #[.tmp 144, .tmp 149], argTypes := #[23, 23] }) 23 (gval [(144, (.var .sl 33)), (149, (.c3 .slc (.u (.poff 0) (.var .p 34)) (.int .i64 1) (.int .i64 1)))] [.string v0, v1.v, v2.v, v3.v, v4.v, v5.v, v6.v, v7.v, .int .u8 v8, .bool v9, .bool v10, .bool v11, .string v12, v13.v, .string v14, v15.v, v16.v, v17.v, .pointer v18, .pointer v19, v20.v, .string v21, .int .i64 v22, .int .i64 v23, .bool v24, v25.v, .pointer v26, v27.v, .string v28, .int .i64 v29, .int .i64 v30, .string v31, .string v32, v33.v, .pointer v34]) V16 fun x V17 => ∃ v35 : Sl, x = v35.v ∧
 Tri Tryz.prog 12 #[.agg #[.string v0, v1.v, v35.v, v3.v, v4.v, v5.v, v6.v, v7.v]] V17 fun e V18 => ∃ v36 : ByteArray, ∃ v37 : Int, ∃ v38 : Int, e = .returned (.tuple #[.string v36, .int .i64 v37, .int .i64 v38]) ∧
 (¬ (v2.p = none)) ∧ ((0 : Int) ≤ (0 : Int)) ∧ ((0 : Int) < (v2.n : Int)) ∧ (¬ ((ptrAdd v2.p (((0 : Int)).toNat * 2)) = none)) ∧ ∃ v39 : ByteArray, ∃ v40 : ByteArray, V18.rowp v2.p (((0 : Int)).toNat * 2) 2 = some [.string v39, .string v40] ∧
 (v36 = v39 →
 (v37 = ((-1) : Int) →
 R (.returned (.bool (decide (v38 = (10 : Int))))) V18) ∧ (¬ (v37 = ((-1) : Int)) →
 R (.returned (.bool false)) V18)) ∧ (¬ (v36 = v39) →
 R (.returned (.bool false)) V18))))) ∧ (¬ (v30 = (1 : Int)) →
 (v28 = v12 →
 (v29 = ((-1) : Int) →
 (v30 = (10 : Int) →
 ((v2.n : Int) = (0 : Int) →
 R (.returned (.bool true)) V14) ∧ (¬ ((v2.n : Int) = (0 : Int)) →
 ((8 : Int) ≤ (v2.n : Int) →
 R (.returned (.bool true)) V14) ∧ (¬ ((8 : Int) ≤ (v2.n : Int)) →
 (¬ (v2.p = none)) ∧ ((0 : Int) ≤ (0 : Int)) ∧ ((0 : Int) < (v2.n : Int)) ∧ ∃ v31 : ByteArray, ∃ v32 : ByteArray, V14.rowp v2.p (((0 : Int)).toNat * 2) 2 = some [.string v31, .string v32] ∧
 (Tri Tryz.prog 34 #[v2.v] V14 fun e V15 => ∃ v33 : Sl, e = .returned v33.v ∧
 PubT [.string v31, .string v32] 67 V15 fun v34 V16 =>
 GenK Tryz.prog (.call { callee := (.builtin .append), args := #[.tmp 144, .tmp 149], argTypes := #[23, 23] }) 23 (gval [(144, (.var .sl 33)), (149, (.c3 .slc (.u (.poff 0) (.var .p 34)) (.int .i64 1) (.int .i64 1)))] [.string v0, v1.v, v2.v, v3.v, v4.v, v5.v, v6.v, v7.v, .int .u8 v8, .bool v9, .bool v10, .bool v11, .string v12, v13.v, .string v14, v15.v, v16.v, v17.v, .pointer v18, .pointer v19, v20.v, .string v21, .int .i64 v22, .int .i64 v23, .bool v24, v25.v, .pointer v26, v27.v, .string v28, .int .i64 v29, .int .i64 v30, .string v31, .string v32, v33.v, .pointer v34]) V16 fun x V17 => ∃ v35 : Sl, x = v35.v ∧
 Tri Tryz.prog 12 #[.agg #[.string v0, v1.v, v35.v, v3.v, v4.v, v5.v, v6.v, v7.v]] V17 fun e V18 => ∃ v36 : ByteArray, ∃ v37 : Int, ∃ v38 : Int, e = .returned (.tuple #[.string v36, .int .i64 v37, .int .i64 v38]) ∧
 (¬ (v2.p = none)) ∧ ((0 : Int) ≤ (0 : Int)) ∧ ((0 : Int) < (v2.n : Int)) ∧ (¬ ((ptrAdd v2.p (((0 : Int)).toNat * 2)) = none)) ∧ ∃ v39 : ByteArray, ∃ v40 : ByteArray, V18.rowp v2.p (((0 : Int)).toNat * 2) 2 = some [.string v39, .string v40] ∧
 (v36 = v39 →
 (v37 = ((-1) : Int) →
 R (.returned (.bool (decide (v38 = (10 : Int))))) V18) ∧ (¬ (v37 = ((-1) : Int)) →
 R (.returned (.bool false)) V18)) ∧ (¬ (v36 = v39) →
 R (.returned (.bool false)) V18)) ∧
 (Tri Tryz.prog 34 #[v2.v] V14 fun e V15 => ∃ v33 : Sl, e = .returned v33.v ∧
 (V15.rowp (ptrAdd v2.p (((0 : Int)).toNat * 2)) 0 2 = some [.string v31, .string v32]) ∧ (¬ (v2.p = none)) ∧ ((0 : Int) ≤ (0 : Int)) ∧ ((0 : Int) < (v2.n : Int)) ∧ PubT [.string v31, .string v32] 67 V15 fun v34 V16 =>
 GenK Tryz.prog (.call { callee := (.builtin .append), args := #[.tmp 144, .tmp 149], argTypes := #[23, 23] }) 23 (gval [(144, (.var .sl 33)), (149, (.c3 .slc (.u (.poff 0) (.var .p 34)) (.int .i64 1) (.int .i64 1)))] [.string v0, v1.v, v2.v, v3.v, v4.v, v5.v, v6.v, v7.v, .int .u8 v8, .bool v9, .bool v10, .bool v11, .string v12, v13.v, .string v14, v15.v, v16.v, v17.v, .pointer v18, .pointer v19, v20.v, .string v21, .int .i64 v22, .int .i64 v23, .bool v24, v25.v, .pointer v26, v27.v, .string v28, .int .i64 v29, .int .i64 v30, .string v31, .string v32, v33.v, .pointer v34]) V16 fun x V17 => ∃ v35 : Sl, x = v35.v ∧
 Tri Tryz.prog 12 #[.agg #[.string v0, v1.v, v35.v, v3.v, v4.v, v5.v, v6.v, v7.v]] V17 fun e V18 => ∃ v36 : ByteArray, ∃ v37 : Int, ∃ v38 : Int, e = .returned (.tuple #[.string v36, .int .i64 v37, .int .i64 v38]) ∧
 (¬ (v2.p = none)) ∧ ((0 : Int) ≤ (0 : Int)) ∧ ((0 : Int) < (v2.n : Int)) ∧ (¬ ((ptrAdd v2.p (((0 : Int)).toNat * 2)) = none)) ∧ ∃ v39 : ByteArray, ∃ v40 : ByteArray, V18.rowp v2.p (((0 : Int)).toNat * 2) 2 = some [.string v39, .string v40] ∧
 (v36 = v39 →
 (v37 = ((-1) : Int) →
 R (.returned (.bool (decide (v38 = (10 : Int))))) V18) ∧ (¬ (v37 = ((-1) : Int)) →
 R (.returned (.bool false)) V18)) ∧ (¬ (v36 = v39) →
 R (.returned (.bool false)) V18))))) ∧ (¬ (v30 = (10 : Int)) →
 R (.returned (.bool false)) V14)) ∧ (¬ (v29 = ((-1) : Int)) →
 R (.returned (.bool false)) V14)) ∧ (¬ (v28 = v12) →
 R (.returned (.bool false)) V14))))) ∧ (¬ (v11 = true) →
 Tri Tryz.prog 10 #[] V3 fun e V4 => ∃ v12 : Bool, e = .returned (.bool v12) ∧
 R (.returned (.bool v12)) V4))) ∧ (¬ (v10 = true) →
 Tri Tryz.prog 10 #[] V2 fun e V3 => ∃ v11 : Bool, e = .returned (.bool v11) ∧
 R (.returned (.bool v11)) V3)) ∧ (¬ (v9 = true) →
 Tri Tryz.prog 10 #[] V1 fun e V2 => ∃ v10 : Bool, e = .returned (.bool v10) ∧
 R (.returned (.bool v10)) V2)
theorem x6 {v0 : ByteArray} {v1 : Sl} {v2 : Sl} {v3 : Sl} {v4 : Sl} {v5 : Sl} {v6 : Sl} {v7 : Sl} {v8 : Int} {V : Mem} {R : Ending → Mem → Prop} (h : w6 v0 v1 v2 v3 v4 v5 v6 v7 v8 V R) : Tri Tryz.prog 6 #[.agg #[.string v0, v1.v, v2.v, v3.v, v4.v, v5.v, v6.v, v7.v], .int .u8 v8] V R :=
 tri_dx (H := { N := 173, early := [], loops := [], keep := [0, 1, 2, 4, 5, 6, 7, 8, 9, 10, 11, 12, 13, 31, 100, 130, 140] }) Tryz.func6 [.agg (.cons (.var .s 0) (.cons (.var .sl 1) (.cons (.var .sl 2) (.cons (.var .sl 3) (.cons (.var .sl 4) (.cons (.var .sl 5) (.cons (.var .sl 6) (.cons (.var .sl 7) .nil)))))))), .var (.i .u8) 8] [.string v0, v1.v, v2.v, v3.v, v4.v, v5.v, v6.v, v7.v, .int .u8 v8] rfl (by kernel_rfl) h
end Go.Proofs
