/- Part 6 of a proof of a law of this seat: no statement of the seat is proved here. -/
import Derived.Test.YtnoompnjibfbfaaGreatDoorPart05
set_option linter.unusedVariables false
set_option linter.unusedSimpArgs false
namespace Go.Proofs
open Go Go.Sx
set_option maxRecDepth 100000
set_option linter.unusedVariables false
section
variable {V : Mem} {R : RP}
def w4 (v0 : ByteArray) (v1 v2 v3 v4 v5 v6 v7 v8 v9 : Sl) (v10 : ByteArray) : MR := fun V R =>
 TB 10 #[] V fun v11 V1 =>
 Br (v11 = true)
 (TB 11 #[uD v0 v1 v2 v3 v4 v5 v6 v7, uA #[uL v8, uL v9]] V1 fun v12 V2 =>
 Br (v12 = true)
 (R (rV (uB true)) V2)
 (Br (100 < (v10.size : Int))
 (R (rV (uB true)) V2)
 (TI 14 #[uD v0 v1 v2 v3 v4 v5 v6 v7, uA #[uL v8, uL v9]] V2 fun v13 V3 =>
 Br (v13 = 0)
 (TT 15 #[uD v0 v1 v2 v3 v4 v5 v6 v7, uA #[uL v8, uL v9]] V3 fun e V4 => ∃ v14 v15, e = rV (uA #[uL v14, uI v15]) /\
 TT 16 #[uD v0 v1 v2 v3 v4 v5 v6 v7, uA #[uL v8, uL v9]] V4 fun e V5 => ∃ v16 v17, e = rV (uA #[uL v16, uL v17]) /\
 TT 17 #[uD v0 v1 v2 v3 v4 v5 v6 v7, uA #[uL v8, uL v9]] V5 fun e V6 => ∃ v18 v19, e = rT #[uL v18, uI v19] /\
 TT 17 #[uD v0 v1 v2 v3 v4 v5 v6 v7, uA #[uL v16, uL v17]] V6 fun e V7 => ∃ v20 v21, e = rT #[uL v20, uI v21] /\
 Br (v19 = 0)
 (Br (v21 = 0)
 (Br ((v18.n : Int) = (v20.n : Int))
 (Lp [uB false, uI 0] V7 fun I n V8 => ∀ v22 v23, I n [uB v22, uI v23] V8 -> ∀ J0 : LMP, Nx I n J0 ->
 Br (v23 < (v20.n : Int))
 (Ix v20 v23 (∃ v24 v25, V8.rowp v20.p (v23.toNat * 2) 2 = some [uS v24, uI v25] /\
 Br (v25 < 0)
 (R (rV (uB false)) V8)
 (Br ((v14.n : Int) < v25)
 (R (rV (uB false)) V8)
 (Ix v18 v23 (¬ (qAa v18.p (v23.toNat * 2)) = none /\ ∃ v26 v27, V8.rowp v18.p (v23.toNat * 2) 2 = some [uS v26, uI v27] /\
 Br (v24 = v26)
 (Br (v25 = 0)
 (Ix v18 v23 (¬ (qAa v18.p (v23.toNat * 2)) = none /\ ∃ v28 v29, V8.rowp v18.p (v23.toNat * 2) 2 = some [uS v28, uI v29] /\
 Br (v29 = 0)
 (Br (0 < v25)
 (IR (v25 - 1) /\ Ix v14 (v25 - 1) (∃ v30, V8.rowp v14.p ((v25 - 1).toNat * 1) 1 = some [uI v30] /\
 Ix v18 v23 (¬ (qAa v18.p (v23.toNat * 2)) = none /\ ∃ v31 v32, V8.rowp v18.p (v23.toNat * 2) 2 = some [uS v31, uI v32] /\
 Br (v30 = v32)
 (IR (v23 + 1) /\ J0 [uB v22, uI (v23 + 1)] V8)
 (R (rV (uB false)) V8))))
 (IR (v23 + 1) /\ J0 [uB v22, uI (v23 + 1)] V8))
 (R (rV (uB false)) V8)))
 (Br (0 < v25)
 (IR (v25 - 1) /\ Ix v14 (v25 - 1) (∃ v28, V8.rowp v14.p ((v25 - 1).toNat * 1) 1 = some [uI v28] /\
 Ix v18 v23 (¬ (qAa v18.p (v23.toNat * 2)) = none /\ ∃ v29 v30, V8.rowp v18.p (v23.toNat * 2) 2 = some [uS v29, uI v30] /\
 Br (v28 = v30)
 (IR (v23 + 1) /\ J0 [uB v22, uI (v23 + 1)] V8)
 (R (rV (uB false)) V8))))
 (IR (v23 + 1) /\ J0 [uB v22, uI (v23 + 1)] V8)))
 (R (rV (uB false)) V8))))))
 (Lp [uB v22, uI 0] V8 fun I n V9 => ∀ v24 v25, I n [uB v24, uI v25] V9 -> ∀ J1 : LMP, Nx I n J1 ->
 Br (v25 < (v14.n : Int))
 (Ix v14 v25 (∃ v26, V9.rowp v14.p (v25.toNat * 1) 1 = some [uI v26] /\
 TT 12 #[uD v0 v1 v2 v3 v4 v5 v6 v7, uA #[uL v8, uL v9], uS v10, uI v26] V9 fun e V10 => ∃ v27 v28, e = rT #[uI v27, uI v28] /\
 IR (v25 + 1) /\ TT 12 #[uD v0 v1 v2 v3 v4 v5 v6 v7, uA #[uL v16, uL v17], uS v10, uI (v25 + 1)] V10 fun e V11 => ∃ v29 v30, e = rT #[uI v29, uI v30] /\
 Br (v27 = v29)
 (Br (v28 = v30)
 (IR (v25 + 1) /\ J1 [uB v24, uI (v25 + 1)] V11)
 (R (rV (uB false)) V11))
 (R (rV (uB false)) V11)))
 (R (rV (uB true)) V9)))
 (R (rV (uB false)) V7))
 (R (rV (uB false)) V7))
 (R (rV (uB false)) V7))
 (R (rV (uB true)) V3))))
 (R (rV (uB false)) V1)
theorem x4 {v0 : ByteArray} {v1 v2 v3 v4 v5 v6 v7 v8 v9 : Sl} {v10 : ByteArray} (h : w4 v0 v1 v2 v3 v4 v5 v6 v7 v8 v9 v10 V R) : TT 4 #[uD v0 v1 v2 v3 v4 v5 v6 v7, uA #[uL v8, uL v9], uS v10] V R := trx Tryz.func4 h
def w10  : MR := fun V R =>
 TT 22 #[] V fun e V1 => ∃ v0 v1 v2 v3 v4 v5 v6 v7, e = rV (uD v0 v1 v2 v3 v4 v5 v6 v7) /\
 qAo [uI 3, uI 5, uI 4] 3 V1 fun v8 V2 =>
 TT 20 #[.slice (qAa v8 0) 3 3, uI 0] V2 fun e V3 => ∃ v9 v10, e = rV (uA #[uL v9, uL v10]) /\
 TT 12 #[uD v0 v1 v2 v3 v4 v5 v6 v7, uA #[uL v9, uL v10], uS (qAj [108, 101, 110, 103, 116, 104]), uI 1] V3 fun e V4 => ∃ v11 v12, e = rT #[uI v11, uI v12] /\
 TT 22 #[] V4 fun e V5 => ∃ v13 v14 v15 v16 v17 v18 v19 v20, e = rV (uD v13 v14 v15 v16 v17 v18 v19 v20) /\
 qAo [uI 3, uI 5, uI 4] 3 V5 fun v21 V6 =>
 TT 20 #[.slice (qAa v21 0) 3 3, uI 0] V6 fun e V7 => ∃ v22 v23, e = rV (uA #[uL v22, uL v23]) /\
 TT 21 #[uD v13 v14 v15 v16 v17 v18 v19 v20, uA #[uL v22, uL v23]] V7 fun e V8 => ∃ v24 v25 v26 v27, e = rT #[uB v24, uA #[uS v25, uI v26], uI v27] /\
 TT 22 #[] V8 fun e V9 => ∃ v28 v29 v30 v31 v32 v33 v34 v35, e = rV (uD v28 v29 v30 v31 v32 v33 v34 v35) /\
 qAo [uI 3, uI 5, uI 4] 3 V9 fun v36 V10 =>
 TT 20 #[.slice (qAa v36 0) 3 3, uI 1] V10 fun e V11 => ∃ v37 v38, e = rV (uA #[uL v37, uL v38]) /\
 TT 12 #[uD v28 v29 v30 v31 v32 v33 v34 v35, uA #[uL v37, uL v38], uS (qAj [108, 101, 110, 103, 116, 104]), uI 2] V11 fun e V12 => ∃ v39 v40, e = rT #[uI v39, uI v40] /\
 Br (v12 = 0)
 (Br (v11 = 3)
 (Br (v27 = 0)
 (Br (v24 = true)
 (R (rV (uB false)) V12)
 (Br ((v25 = (qAj [115, 111, 114, 116, 101, 100])) /\ (v26 = 2))
 (R (rV (uB (decide (v40 = 16)))) V12)
 (R (rV (uB false)) V12)))
 (R (rV (uB false)) V12))
 (R (rV (uB false)) V12))
 (R (rV (uB false)) V12)
theorem x10 (h : w10 V R) : TT 10 #[] V R := trx Tryz.func10 h
def w11 (v0 : ByteArray) (v1 v2 v3 v4 v5 v6 v7 v8 v9 : Sl) : MR := fun V R =>
 TB 33 #[uD v0 v1 v2 v3 v4 v5 v6 v7] V fun v10 V1 =>
 Br (v10 = true)
 (R (rV (uB true)) V1)
 (TB 34 #[uA #[uL v8, uL v9]] V1 fun v11 V2 =>
 R (rV (uB v11)) V2)
theorem x11 {v0 : ByteArray} {v1 v2 v3 v4 v5 v6 v7 v8 v9 : Sl} (h : w11 v0 v1 v2 v3 v4 v5 v6 v7 v8 v9 V R) : TT 11 #[uD v0 v1 v2 v3 v4 v5 v6 v7, uA #[uL v8, uL v9]] V R := trx Tryz.func11 h
def w12 (v0 : ByteArray) (v1 v2 v3 v4 v5 v6 v7 v8 v9 : Sl) (v10 : ByteArray) (v11 : Int) : MR := fun V R =>
 TT 35 #[uD v0 v1 v2 v3 v4 v5 v6 v7, uA #[uL v8, uL v9]] V fun e V1 => ∃ v12 v13, e = rT #[uP v12, uI v13] /\
 Br (v13 = 0)
 (TB 36 #[uP v12, uI v11] V1 fun v14 V2 =>
 Br (v14 = true)
 (TI 37 #[uP v12, uS v10] V2 fun v15 V3 =>
 Br (v15 < 0)
 (R (rT #[uI 0, uI 9]) V3)
 (Br (v11 = 0)
 (qAo [uP v12] 83 V3 fun v16 V4 =>
 qAo [uI v15] 3 V4 fun v17 V5 =>
 qAo [uI v11] 3 V5 fun v18 V6 =>
 TT 39 #[uP v12, .func (.func 40) #[] #[uP (qAa v16 0), uP (qAa v17 0), uP (qAa v18 0)]] V6 fun e V7 => ∃ v19 v20, e = rT #[uI v19, uI v20] /\
 R (rT #[uI v19, uI v20]) V7)
 (Ix v4 v15 (¬ (qAa v4.p (v15.toNat * 7)) = none /\ ∃ v16 v17 v18 v19 v20 v21 v22, V3.rowp v4.p (v15.toNat * 7) 7 = some [uS v16, uS v17, uI v18, uI v19, uI v20, uS v21, uL v22] /\
 TS 38 #[uP v12, uI v11] V3 fun v23 V4 =>
 V4.rowp (qAa (qAa v4.p (v15.toNat * 7)) 1) 0 1 = some [uS v17] /\ ¬ (qAa v4.p (v15.toNat * 7)) = none /\ Ix v4 v15 (Br (v23 = v17)
 (qAo [uP v12] 83 V4 fun v24 V5 =>
 qAo [uI v15] 3 V5 fun v25 V6 =>
 qAo [uI v11] 3 V6 fun v26 V7 =>
 TT 39 #[uP v12, .func (.func 40) #[] #[uP (qAa v24 0), uP (qAa v25 0), uP (qAa v26 0)]] V7 fun e V8 => ∃ v27 v28, e = rT #[uI v27, uI v28] /\
 R (rT #[uI v27, uI v28]) V8)
 (R (rT #[uI 0, uI 11]) V4))))))
 (R (rT #[uI 0, uI 2]) V2))
 (R (rT #[uI 0, uI v13]) V1)
theorem x12 {v0 : ByteArray} {v1 v2 v3 v4 v5 v6 v7 v8 v9 : Sl} {v10 : ByteArray} {v11 : Int} (h : w12 v0 v1 v2 v3 v4 v5 v6 v7 v8 v9 v10 v11 V R) : TT 12 #[uD v0 v1 v2 v3 v4 v5 v6 v7, uA #[uL v8, uL v9], uS v10, uI v11] V R := trx Tryz.func12 h
def w14 (v0 : ByteArray) (v1 v2 v3 v4 v5 v6 v7 v8 v9 : Sl) : MR := fun V R =>
 TB 44 #[uD v0 v1 v2 v3 v4 v5 v6 v7] V fun v10 V1 =>
 Br (v10 = true)
 (TB 45 #[uD v0 v1 v2 v3 v4 v5 v6 v7] V1 fun v11 V2 =>
 Br (v11 = true)
 (TB 46 #[uD v0 v1 v2 v3 v4 v5 v6 v7, uA #[uL v8, uL v9]] V2 fun v12 V3 =>
 Br (v12 = true)
 (R (rV (uI 0)) V3)
 (R (rV (uI 1)) V3))
 (R (rV (uI 1)) V2))
 (R (rV (uI 1)) V1)
theorem x14 {v0 : ByteArray} {v1 v2 v3 v4 v5 v6 v7 v8 v9 : Sl} (h : w14 v0 v1 v2 v3 v4 v5 v6 v7 v8 v9 V R) : TT 14 #[uD v0 v1 v2 v3 v4 v5 v6 v7, uA #[uL v8, uL v9]] V R := trx Tryz.func14 h
def w15 (v0 : ByteArray) (v1 v2 v3 v4 v5 v6 v7 v8 v9 : Sl) : MR := fun V R =>
 TT 47 #[uD v0 v1 v2 v3 v4 v5 v6 v7, uA #[uL v8, uL v9], uA #[.slice none 0 0, uI 0], uL v2, uL v8] V fun e V1 => ∃ v10 v11, e = rV (uA #[uL v10, uI v11]) /\
 R (rV (uA #[uL v10, uI v11])) V1
theorem x15 {v0 : ByteArray} {v1 v2 v3 v4 v5 v6 v7 v8 v9 : Sl} (h : w15 v0 v1 v2 v3 v4 v5 v6 v7 v8 v9 V R) : TT 15 #[uD v0 v1 v2 v3 v4 v5 v6 v7, uA #[uL v8, uL v9]] V R := trx Tryz.func15 h
def w21 (v0 : ByteArray) (v1 v2 v3 v4 v5 v6 v7 v8 v9 : Sl) : MR := fun V R =>
 TT 17 #[uD v0 v1 v2 v3 v4 v5 v6 v7, uA #[uL v8, uL v9]] V fun e V1 => ∃ v10 v11, e = rT #[uL v10, uI v11] /\
 Br (v11 = 0)
 (Br (0 < (v10.n : Int))
 (¬ v10.p = none /\ (0 : Int) <= (0 : Int) /\ 0 < (v10.n : Int) /\ ∃ v12 v13, V1.rowp v10.p ((0 : Int).toNat * 2) 2 = some [uS v12, uI v13] /\
 V1.rowp (qAa v10.p ((0 : Int).toNat * 2)) 0 2 = some [uS v12, uI v13] /\ ¬ v10.p = none /\ (0 : Int) <= (0 : Int) /\ 0 < (v10.n : Int) /\ R (rT #[uB false, uA #[uS v12, uI v13], uI 0]) V1)
 (R (rT #[uB true, uA #[uS (qAj []), uI 0], uI 0]) V1))
 (R (rT #[uB false, uA #[uS (qAj []), uI 0], uI v11]) V1)
theorem x21 {v0 : ByteArray} {v1 v2 v3 v4 v5 v6 v7 v8 v9 : Sl} (h : w21 v0 v1 v2 v3 v4 v5 v6 v7 v8 v9 V R) : TT 21 #[uD v0 v1 v2 v3 v4 v5 v6 v7, uA #[uL v8, uL v9]] V R := trx Tryz.func21 h
def w29 (v0 v1 : Int) (v2 : ByteArray) (v3 : Sl) : MR := fun V R =>
 TT 63 #[uA #[uI v0, uI v1, uS v2, uL v3], uI 1] V fun e V1 => ∃ v4, e = rV (uI v4) /\
 R (rV (uB (decide (v4 <= 1000)))) V1
theorem x29 {v0 v1 : Int} {v2 : ByteArray} {v3 : Sl} (h : w29 v0 v1 v2 v3 V R) : TT 29 #[uA #[uI v0, uI v1, uS v2, uL v3]] V R := trx Tryz.func29 h
def w33 (v0 : ByteArray) (v1 v2 v3 v4 v5 v6 v7 : Sl) : MR := fun V R =>
 TB 67 #[uD v0 v1 v2 v3 v4 v5 v6 v7, uI 2000] V fun v8 V1 =>
 R (rV (uB v8)) V1
theorem x33 {v0 : ByteArray} {v1 v2 v3 v4 v5 v6 v7 : Sl} (h : w33 v0 v1 v2 v3 v4 v5 v6 v7 V R) : TT 33 #[uD v0 v1 v2 v3 v4 v5 v6 v7] V R := trx Tryz.func33 h
def w34 (v0 v1 : Sl) : MR := fun V R =>
 Br (60 < (v0.n : Int))
 (R (rV (uB true)) V)
 (Br (60 < (v1.n : Int))
 (R (rV (uB true)) V)
 (Lp [uB false, uI 0] V fun I n V1 => ∀ v2 v3, I n [uB v2, uI v3] V1 -> ∀ J0 : LMP, Nx I n J0 ->
 Br (v3 < (v1.n : Int))
 (Ix v1 v3 (¬ (qAa v1.p (v3.toNat * 2)) = none /\ ∃ v4 v5, V1.rowp v1.p (v3.toNat * 2) 2 = some [uI v4, uL v5] /\
 Br (60 < (v5.n : Int))
 (R (rV (uB true)) V1)
 (IR (v3 + 1) /\ J0 [uB v2, uI (v3 + 1)] V1)))
 (R (rV (uB false)) V1)))
theorem x34 {v0 v1 : Sl} (h : w34 v0 v1 V R) : TT 34 #[uA #[uL v0, uL v1]] V R := trx Tryz.func34 h
def w35 (v0 : ByteArray) (v1 v2 v3 v4 v5 v6 v7 v8 v9 : Sl) : MR := fun V R =>
 TT 68 #[uD v0 v1 v2 v3 v4 v5 v6 v7] V fun e V1 => ∃ v10 v11 v12, e = rT #[uS v10, uI v11, uI v12] /\
 Br (v12 = 0)
 (TB 69 #[uD v0 v1 v2 v3 v4 v5 v6 v7, uA #[uL v8, uL v9]] V1 fun v13 V2 =>
 Br (v13 = true)
 (qAq Tryz.prog (.makeMap 126 none) 126 (gv []) V2 fun x V3 => ∃ v14, x = uM v14 /\
 qAq Tryz.prog (.makeMap 127 none) 127 (gv []) V3 fun x V4 => ∃ v15, x = uM v15 /\
 qAo [uS v0, uL v1, uL v2, uL v3, uL v4, uL v5, uL v6, uL v7, uL v8, uL v9, uM v14, uM v15] 129 V4 fun v16 V5 =>
 R (rT #[uP (qAa v16 0), uI 0]) V5)
 (R (rT #[uP none, uI 1]) V2))
 (R (rT #[uP none, uI 1]) V1)
theorem x35 {v0 : ByteArray} {v1 v2 v3 v4 v5 v6 v7 v8 v9 : Sl} (h : w35 v0 v1 v2 v3 v4 v5 v6 v7 v8 v9 V R) : TT 35 #[uD v0 v1 v2 v3 v4 v5 v6 v7, uA #[uL v8, uL v9]] V R := trx Tryz.func35 h
def w36 (v0 : Option Addr) (v1 : Int) : MR := fun V R =>
 Br (0 <= v1)
 (¬ v0 = none /\ ¬ v0 = none /\ ¬ (qAa v0 8) = none /\ ∃ v2, V.rowp v0 9 1 = some [uL v2] /\
 R (rV (uB (decide (v1 <= (v2.n : Int))))) V)
 (R (rV (uB false)) V)
theorem x36 {v0 : Option Addr} {v1 : Int} (h : w36 v0 v1 V R) : TT 36 #[uP v0, uI v1] V R := trx Tryz.func36 h
def w37 (v0 : Option Addr) (v1 : ByteArray) : MR := fun V R =>
 ¬ v0 = none /\ ¬ v0 = none /\ ¬ (qAa v0 0) = none /\ ∃ v2, V.rowp v0 4 1 = some [uL v2] /\
 qAo [uS v1] 9 V fun v3 V1 =>
 TI 70 #[uL v2, .func (.func 71) #[] #[uP (qAa v3 0)]] V1 fun v4 V2 =>
 R (rV (uI v4)) V2
theorem x37 {v0 : Option Addr} {v1 : ByteArray} (h : w37 v0 v1 V R) : TT 37 #[uP v0, uS v1] V R := trx Tryz.func37 h
def w38 (v0 : Option Addr) (v1 : Int) : MR := fun V R =>
 Br (v1 = 0)
 (R (rV (uS (qAj []))) V)
 (¬ v0 = none /\ ¬ v0 = none /\ ¬ (qAa v0 0) = none /\ ∃ v2, V.rowp v0 1 1 = some [uL v2] /\
 ¬ v0 = none /\ ¬ v0 = none /\ ¬ (qAa v0 8) = none /\ ∃ v3, V.rowp v0 9 1 = some [uL v3] /\
 IR (v1 - 1) /\ Ix v3 (v1 - 1) (¬ (qAa v3.p ((v1 - 1).toNat * 2)) = none /\ ∃ v4 v5, V.rowp v3.p ((v1 - 1).toNat * 2) 2 = some [uI v4, uL v5] /\
 Ix v2 v4 (¬ (qAa v2.p (v4.toNat * 2)) = none /\ ∃ v6 v7, V.rowp v2.p (v4.toNat * 2) 2 = some [uS v6, uL v7] /\
 R (rV (uS v6)) V)))
theorem x38 {v0 : Option Addr} {v1 : Int} (h : w38 v0 v1 V R) : TT 38 #[uP v0, uI v1] V R := trx Tryz.func38 h
def w40 (v0 v1 v2 : Option Addr) : MR := fun V R =>
 ∃ v3, V.rowp v0 ((0 : Int).toNat * 1) 1 = some [uP v3] /\
 ∃ v4, V.rowp v1 ((0 : Int).toNat * 1) 1 = some [uI v4] /\
 ∃ v5, V.rowp v2 ((0 : Int).toNat * 1) 1 = some [uI v5] /\
 TT 41 #[uP v3, uI v4, uI v5] V fun e V1 => (∃ v6, e = rV (uI v6) /\
 R (rV (uI v6)) V1) ∨ ∃ ch, e = .panicked ch /\ R e V1
theorem x40 {v0 v1 v2 : Option Addr} (h : w40 v0 v1 v2 V R) : TT 40 #[uP v0, uP v1, uP v2] V R := trx Tryz.func40 h
def w41 (v0 : Option Addr) (v1 v2 : Int) : MR := fun V R =>
 ¬ v0 = none /\ ¬ v0 = none /\ ¬ (qAa v0 0) = none /\ ∃ v3, V.rowp v0 4 1 = some [uL v3] /\
 Ix v3 v1 (∃ v4 v5 v6 v7 v8 v9 v10, V.rowp v3.p (v1.toNat * 7) 7 = some [uS v4, uS v5, uI v6, uI v7, uI v8, uS v9, uL v10] /\
 Br (v2 = 0)
 (R (rV (uI v6)) V)
 (¬ v0 = none /\ ¬ v0 = none /\ ∃ v11, V.rowp v0 10 1 = some [uM v11] /\
 qBt Tryz.prog 126 (uM v11) (uA #[uI v1, uI v2]) true V fun x => ∃ v12 v13, x = .tuple #[uI v12, uB v13] /\
 Br (v13 = true)
 (R (rV (uI v12)) V)
 (¬ v0 = none /\ ¬ v0 = none /\ ∃ v14, V.rowp v0 11 1 = some [uM v14] /\
 qBt Tryz.prog 127 (uM v14) (uA #[uI v1, uI v2]) false V fun x => ∃ v15, x = uB v15 /\
 Br (v15 = true)
 (qAq Tryz.prog (.makeInterface 133 (.tmp 44)) 20 (gv [(44, uA #[uI 16])]) V fun x V1 => ∃ v16, K.r.ok v16 /\ x = v16 /\
 ∃ t x, K.cast .r v16 = .iface t x /\ R (.panicked [{ v := .iface t x, recovered := false }]) V1)
 (¬ v0 = none /\ ¬ v0 = none /\ ∃ v16, V.rowp v0 11 1 = some [uM v16] /\
 qGn Tryz.prog 127 (uM v16) (uA #[uI v1, uI v2]) (.bool true) V fun V1 =>
 TT 62 #[uP v0, uA #[uI v7, uI v8, uS v9, uL v10], uI v2] V1 fun e V2 => (∃ v17, e = rV (uI v17) /\
 ¬ v0 = none /\ ¬ v0 = none /\ ∃ v18, V2.rowp v0 11 1 = some [uM v18] /\
 qAq Tryz.prog (.call { callee := (.builtin .delete), args := #[(.tmp 59), (.tmp 60)], argTypes := #[127, 136] }) 0 (gv [(59, uM v18), (60, uA #[uI v1, uI v2])]) V2 fun x V3 => x = .tuple #[] /\
 ¬ v0 = none /\ ¬ v0 = none /\ ∃ v19, V3.rowp v0 10 1 = some [uM v19] /\
 qGn Tryz.prog 126 (uM v19) (uA #[uI v1, uI v2]) (uI v17) V3 fun V4 =>
 R (rV (uI v17)) V4) ∨ ∃ ch, e = .panicked ch /\ R e V2))))
theorem x41 {v0 : Option Addr} {v1 v2 : Int} (h : w41 v0 v1 v2 V R) : TT 41 #[uP v0, uI v1, uI v2] V R := trx Tryz.func41 h
def w44 (v0 : ByteArray) (v1 v2 v3 v4 v5 v6 v7 : Sl) : MR := fun V R =>
 TB 75 #[uS v0] V fun v8 V1 =>
 Br (v8 = true)
 (Br (12 < (v1.n : Int))
 (R (rV (uB false)) V1)
 (TB 76 #[uL v2, uI 8] V1 fun v9 V2 =>
 Br (v9 = true)
 (Br (40 < (v3.n : Int))
 (R (rV (uB false)) V2)
 (Br (12 < (v4.n : Int))
 (R (rV (uB false)) V2)
 (Br (12 < (v5.n : Int))
 (R (rV (uB false)) V2)
 (Br (12 < (v6.n : Int))
 (R (rV (uB false)) V2)
 (Br (12 < (v7.n : Int))
 (R (rV (uB false)) V2)
 (Lp [uB false, uI 0] V2 fun I n V3 => ∀ v10 v11, I n [uB v10, uI v11] V3 -> ∀ J0 : LMP, Nx I n J0 ->
 Br (v11 < (v1.n : Int))
 (Ix v1 v11 (¬ (qAa v1.p (v11.toNat * 2)) = none /\ ∃ v12 v13, V3.rowp v1.p (v11.toNat * 2) 2 = some [uS v12, uL v13] /\
 TB 75 #[uS v12] V3 fun v14 V4 =>
 Br (v14 = true)
 (Ix v1 v11 (¬ (qAa v1.p (v11.toNat * 2)) = none /\ ∃ v15 v16, V4.rowp v1.p (v11.toNat * 2) 2 = some [uS v15, uL v16] /\
 TB 76 #[uL v16, uI 12] V4 fun v17 V5 =>
 Br (v17 = true)
 (IR (v11 + 1) /\ J0 [uB v10, uI (v11 + 1)] V5)
 (R (rV (uB false)) V5)))
 (R (rV (uB false)) V4)))
 (Lp [uB v10, uI 0] V3 fun I n V4 => ∀ v12 v13, I n [uB v12, uI v13] V4 -> ∀ J1 : LMP, Nx I n J1 ->
 Br (v13 < (v3.n : Int))
 (Ix v3 v13 (∃ v14 v15 v16 v17 v18, V4.rowp v3.p (v13.toNat * 5) 5 = some [uS v14, uL v15, uS v16, uL v17, uL v18] /\
 TB 77 #[uA #[uS v14, uL v15, uS v16, uL v17, uL v18]] V4 fun v19 V5 =>
 Br (v19 = true)
 (IR (v13 + 1) /\ J1 [uB v12, uI (v13 + 1)] V5)
 (R (rV (uB false)) V5)))
 (TB 78 #[uD v0 v1 v2 v3 v4 v5 v6 v7] V4 fun v14 V5 =>
 R (rV (uB v14)) V5))))))))
 (R (rV (uB false)) V2)))
 (R (rV (uB false)) V1)
theorem x44 {v0 : ByteArray} {v1 v2 v3 v4 v5 v6 v7 : Sl} (h : w44 v0 v1 v2 v3 v4 v5 v6 v7 V R) : TT 44 #[uD v0 v1 v2 v3 v4 v5 v6 v7] V R := trx Tryz.func44 h
def w45 (v0 : ByteArray) (v1 v2 v3 v4 v5 v6 v7 : Sl) : MR := fun V R =>
 TB 44 #[uD v0 v1 v2 v3 v4 v5 v6 v7] V fun v8 V1 =>
 Br (v8 = true)
 (TT 79 #[uD v0 v1 v2 v3 v4 v5 v6 v7] V1 fun e V2 => ∃ v9 v10 v11, e = rT #[uS v9, uI v10, uI v11] /\
 R (rV (uB (decide (v11 = 0)))) V2)
 (R (rV (uB false)) V1)
theorem x45 {v0 : ByteArray} {v1 v2 v3 v4 v5 v6 v7 : Sl} (h : w45 v0 v1 v2 v3 v4 v5 v6 v7 V R) : TT 45 #[uD v0 v1 v2 v3 v4 v5 v6 v7] V R := trx Tryz.func45 h
def w46 (v0 : ByteArray) (v1 v2 v3 v4 v5 v6 v7 v8 v9 : Sl) : MR := fun V R =>
 TB 80 #[uD v0 v1 v2 v3 v4 v5 v6 v7] V fun v10 V1 =>
 Br (v10 = true)
 (Br ((v8.n : Int) = (v2.n : Int))
 (Br (4096 < (v9.n : Int))
 (R (rV (uB false)) V1)
 (Lp [uB false, uI 0] V1 fun I n V2 => ∀ v11 v12, I n [uB v11, uI v12] V2 -> ∀ J0 : LMP, Nx I n J0 ->
 Br (v12 < (v9.n : Int))
 (Ix v9 v12 (¬ (qAa v9.p (v12.toNat * 2)) = none /\ ∃ v13 v14, V2.rowp v9.p (v12.toNat * 2) 2 = some [uI v13, uL v14] /\
 Br (v13 < 0)
 (R (rV (uB false)) V2)
 (Br ((v1.n : Int) <= v13)
 (R (rV (uB false)) V2)
 (Ix v9 v12 (¬ (qAa v9.p (v12.toNat * 2)) = none /\ ∃ v15 v16, V2.rowp v9.p (v12.toNat * 2) 2 = some [uI v15, uL v16] /\
 Ix v1 v13 (¬ (qAa v1.p (v13.toNat * 2)) = none /\ ∃ v17 v18, V2.rowp v1.p (v13.toNat * 2) 2 = some [uS v17, uL v18] /\
 Br ((v16.n : Int) = (v18.n : Int))
 (IR (v12 + 1) /\ J0 [uB v11, uI (v12 + 1)] V2)
 (R (rV (uB false)) V2)))))))
 (Lp [uB v11, uI 0] V2 fun I n V3 => ∀ v13 v14, I n [uB v13, uI v14] V3 -> ∀ J1 : LMP, Nx I n J1 ->
 Br (v14 < (v8.n : Int))
 (Ix v2 v14 (¬ (qAa v2.p (v14.toNat * 2)) = none /\ ∃ v15 v16, V3.rowp v2.p (v14.toNat * 2) 2 = some [uS v15, uS v16] /\
 Ix v8 v14 (∃ v17, V3.rowp v8.p (v14.toNat * 1) 1 = some [uI v17] /\
 TB 81 #[uD v0 v1 v2 v3 v4 v5 v6 v7, uA #[uL v8, uL v9], uS v16, uI v17] V3 fun v18 V4 =>
 Br (v18 = true)
 (IR (v14 + 1) /\ J1 [uB v13, uI (v14 + 1)] V4)
 (R (rV (uB false)) V4))))
 (Lp [uB v13, uI 0] V3 fun I n V4 => ∀ v15 v16, I n [uB v15, uI v16] V4 -> ∀ J2 : LMP, Nx I n J2 ->
 Br (v16 < (v9.n : Int))
 (Ix v9 v16 (¬ (qAa v9.p (v16.toNat * 2)) = none /\ ∃ v17 v18, V4.rowp v9.p (v16.toNat * 2) 2 = some [uI v17, uL v18] /\
 Ix v1 v17 (¬ (qAa v1.p (v17.toNat * 2)) = none /\ ∃ v19 v20, V4.rowp v1.p (v17.toNat * 2) 2 = some [uS v19, uL v20] /\
 Lp [uB v15, uI 0] V4 fun I n V5 => ∀ v21 v22, I n [uB v21, uI v22] V5 -> ∀ J3 : LMP, Nx I n J3 ->
 Br (v22 < (v20.n : Int))
 (Ix v20 v22 (¬ (qAa v20.p (v22.toNat * 2)) = none /\ ∃ v23 v24, V5.rowp v20.p (v22.toNat * 2) 2 = some [uS v23, uS v24] /\
 Ix v9 v16 (¬ (qAa v9.p (v16.toNat * 2)) = none /\ ∃ v25 v26, V5.rowp v9.p (v16.toNat * 2) 2 = some [uI v25, uL v26] /\
 Ix v26 v22 (∃ v27, V5.rowp v26.p (v22.toNat * 1) 1 = some [uI v27] /\
 TB 81 #[uD v0 v1 v2 v3 v4 v5 v6 v7, uA #[uL v8, uL v9], uS v24, uI v27] V5 fun v28 V6 =>
 Br (v28 = true)
 (IR (v22 + 1) /\ J3 [uB v21, uI (v22 + 1)] V6)
 (R (rV (uB false)) V6)))))
 (IR (v16 + 1) /\ J2 [uB v21, uI (v16 + 1)] V5))))
 (R (rV (uB true)) V4)))))
 (R (rV (uB false)) V1))
 (R (rV (uB false)) V1)
theorem x46 {v0 : ByteArray} {v1 v2 v3 v4 v5 v6 v7 v8 v9 : Sl} (h : w46 v0 v1 v2 v3 v4 v5 v6 v7 v8 v9 V R) : TT 46 #[uD v0 v1 v2 v3 v4 v5 v6 v7, uA #[uL v8, uL v9]] V R := trx Tryz.func46 h
def w48 (v0 v1 v2 : Sl) : MR := fun V R =>
 Lp [.slice none 0 0, uI 0] V fun I n V1 => ∀ v3 v4, I n [uL v3, uI v4] V1 -> ∀ J0 : LMP, Nx I n J0 ->
 Br (v4 < (v0.n : Int))
 (Ix v1 v4 (∃ v5, V1.rowp v1.p (v4.toNat * 1) 1 = some [uI v5] /\
 Ix v0 v4 (¬ (qAa v0.p (v4.toNat * 2)) = none /\ ∃ v6 v7, V1.rowp v0.p (v4.toNat * 2) 2 = some [uS v6, uS v7] /\
 Br (v7 = (qAj [105, 110, 116]))
 (qAo [uI v5] 3 V1 fun v8 V2 =>
 qAq Tryz.prog (.call { callee := (.builtin .append), args := #[(.tmp 42), (.tmp 44)], argTypes := #[31, 31] }) 31 (gv [(42, uL v3), (44, .slice (qAa v8 0) 1 1)]) V2 fun x V3 => ∃ v9, x = uL v9 /\
 IR (v4 + 1) /\ J0 [uL v9, uI (v4 + 1)] V3)
 (Ix v0 v4 (¬ (qAa v0.p (v4.toNat * 2)) = none /\ ∃ v8 v9, V1.rowp v0.p (v4.toNat * 2) 2 = some [uS v8, uS v9] /\
 Br (v9 = (qAj [98, 111, 111, 108]))
 (qAo [uI v5] 3 V1 fun v10 V2 =>
 qAq Tryz.prog (.call { callee := (.builtin .append), args := #[(.tmp 42), (.tmp 44)], argTypes := #[31, 31] }) 31 (gv [(42, uL v3), (44, .slice (qAa v10 0) 1 1)]) V2 fun x V3 => ∃ v11, x = uL v11 /\
 IR (v4 + 1) /\ J0 [uL v11, uI (v4 + 1)] V3)
 (Br (v5 = 0)
 (qAo [uI v5] 3 V1 fun v10 V2 =>
 qAq Tryz.prog (.call { callee := (.builtin .append), args := #[(.tmp 42), (.tmp 44)], argTypes := #[31, 31] }) 31 (gv [(42, uL v3), (44, .slice (qAa v10 0) 1 1)]) V2 fun x V3 => ∃ v11, x = uL v11 /\
 IR (v4 + 1) /\ J0 [uL v11, uI (v4 + 1)] V3)
 (TI 82 #[uL v2, uI v5] V1 fun v10 V2 =>
 IR (v10 + 1) /\ qAo [uI (v10 + 1)] 3 V2 fun v11 V3 =>
 qAq Tryz.prog (.call { callee := (.builtin .append), args := #[(.tmp 42), (.tmp 44)], argTypes := #[31, 31] }) 31 (gv [(42, uL v3), (44, .slice (qAa v11 0) 1 1)]) V3 fun x V4 => ∃ v12, x = uL v12 /\
 IR (v4 + 1) /\ J0 [uL v12, uI (v4 + 1)] V4)))))))
 (R (rV (uL v3)) V1)
theorem x48 {v0 v1 v2 : Sl} (h : w48 v0 v1 v2 V R) : TT 48 #[uL v0, uL v1, uL v2] V R := trx Tryz.func48 h
def w49 (v0 : ByteArray) (v1 v2 v3 v4 v5 v6 v7 v8 v9 : Sl) : MR := fun V R =>
 TB 69 #[uD v0 v1 v2 v3 v4 v5 v6 v7, uA #[uL v8, uL v9]] V fun v10 V1 =>
 Br (v10 = true)
 (TP 83 #[uD v0 v1 v2 v3 v4 v5 v6 v7, uA #[uL v8, uL v9]] V1 fun v11 V2 =>
 ¬ v11 = none /\ ¬ v11 = none /\ ∃ v12, V2.rowp v11 10 1 = some [uL v12] /\
 R (rT #[uL v12, uI 0]) V2)
 (R (rT #[.slice none 0 0, uI 1]) V1)
theorem x49 {v0 : ByteArray} {v1 v2 v3 v4 v5 v6 v7 v8 v9 : Sl} (h : w49 v0 v1 v2 v3 v4 v5 v6 v7 v8 v9 V R) : TT 49 #[uD v0 v1 v2 v3 v4 v5 v6 v7, uA #[uL v8, uL v9]] V R := trx Tryz.func49 h
def w50 (v0 : Option Addr) (v1 v2 : ByteArray) (v3 v4 : Int) (v5 : ByteArray) (v6 : Sl) (v7 : Int) : MR := fun V R =>
 qAo [uP v0] 83 V fun v8 V1 =>
 qAo [uS v1, uS v2, uI v3, uI v4, uS v5, uL v6] 105 V1 fun v9 V2 =>
 qAo [uI v7] 3 V2 fun v10 V3 =>
 TT 39 #[uP v0, .func (.func 84) #[] #[uP (qAa v8 0), uP (qAa v9 0), uP (qAa v10 0)]] V3 fun e V4 => ∃ v11 v12, e = rT #[uI v11, uI v12] /\
 Br (v12 = 0)
 (R (rV (uB (decide (v11 = 1)))) V4)
 (R (rV (uB false)) V4)
theorem x50 {v0 : Option Addr} {v1 v2 : ByteArray} {v3 v4 : Int} {v5 : ByteArray} {v6 : Sl} {v7 : Int} (h : w50 v0 v1 v2 v3 v4 v5 v6 v7 V R) : TT 50 #[uP v0, uA #[uS v1, uS v2, uI v3, uI v4, uS v5, uL v6], uI v7] V R := trx Tryz.func50 h
def w52 (v0 : Int) (v1 : ByteArray) (v2 : Sl) : MR := fun V R =>
 R (rV (uA #[uI v0, uI 0, uS v1, uL v2])) V
theorem x52 {v0 : Int} {v1 : ByteArray} {v2 : Sl} (h : w52 v0 v1 v2 V R) : TT 52 #[uI v0, uS v1, uL v2] V R := trx Tryz.func52 h
def w54 (v0 : Sl) (v1 : Value) : MR := fun V R =>
 Lp [uI 0, uI 0] V fun I n V1 => ∀ v2 v3, I n [uI v2, uI v3] V1 -> ∀ J0 : LMP, Nx I n J0 ->
 Br (v3 < (v0.n : Int))
 (Ix v0 v3 (∃ v4 v5 v6 v7 v8 v9, V1.rowp v0.p (v3.toNat * 6) 6 = some [uS v4, uS v5, uI v6, uI v7, uS v8, uL v9] /\
 ∃ f first caps, K.cast .f v1 = .func (.func f) first caps /\ CO f /\
 TT f (first ++ #[uA #[uS v4, uS v5, uI v6, uI v7, uS v8, uL v9]] ++ caps) V1 fun e V2 => ∃ v10, e = rV (uB v10) /\
 Br (v10 = true)
 (R (rV (uI v3)) V2)
 (IR (v3 + 1) /\ J0 [uI v2, uI (v3 + 1)] V2)))
 (R (rV (uI (-1))) V1)
theorem x54 {v0 : Sl} {v1 : Value} (h : w54 v0 v1 V R) : TT 54 #[uL v0, K.cast .f v1] V R :=
 qBu Tryz.func54 [] [] false [uL v0, v1] (by kernel_rfl) (by kernel_rfl) h
def w57 (v0 : Sl) (v1 : Value) : MR := fun V R =>
 TI 85 #[uL v0, K.cast .f v1] V fun v2 V1 =>
 R (rV (uB (decide (0 <= v2)))) V1
theorem x57 {v0 : Sl} {v1 : Value} (h : w57 v0 v1 V R) : TT 57 #[uL v0, K.cast .f v1] V R :=
 qBu Tryz.func57 [] [] false [uL v0, v1] (by kernel_rfl) (by kernel_rfl) h
def w59 (v0 v1 : Int) (v2 : ByteArray) (v3 : Sl) : MR := fun V R =>
 qAo [uI 1000] 159 V fun v4 V1 =>
 TB 86 #[uA #[uI v0, uI v1, uS v2, uL v3], uI 1, uP (qAa v4 0)] V1 fun v5 V2 =>
 R (rV (uB v5)) V2
theorem x59 {v0 v1 : Int} {v2 : ByteArray} {v3 : Sl} (h : w59 v0 v1 v2 v3 V R) : TT 59 #[uA #[uI v0, uI v1, uS v2, uL v3]] V R := trx Tryz.func59 h
def w62 (v0 : Option Addr) (v1 v2 : Int) (v3 : ByteArray) (v4 : Sl) (v5 : Int) : MR := fun V R =>
 Br (v1 = 1)
 (R (rV (uI v2)) V)
 (Br (v1 = 2)
 (R (rV (uI v2)) V)
 (Br (v1 = 3)
 (R (rV (uI 0)) V)
 (Br (v1 = 4)
 (TI 92 #[uP v0, uS v3, uI v5] V fun v6 V1 =>
 R (rV (uI v6)) V1)
 (Br (v1 = 5)
 (qAo [uP v0] 83 V fun v6 V1 =>
 qAo [uI v1, uI v2, uS v3, uL v4] 69 V1 fun v7 V2 =>
 qAo [uI v5] 3 V2 fun v8 V3 =>
 TT 91 #[uI 0, uP (qAa v6 0), uP (qAa v7 0), uP (qAa v8 0)] V3 fun e V4 => (∃ v9, e = rV (uI v9) /\
 V4.rowp (qAa v7 2) 0 1 = some [uS v3] /\ ¬ (qAa v7 0) = none /\ V4.rowp (qAa v6 0) 0 1 = some [uP v0] /\ TT 93 #[uP v0, uI v9, uS v3] V4 fun e V5 => (∃ v10, e = rV (uI v10) /\
 R (rV (uI v10)) V5) ∨ ∃ ch, e = .panicked ch /\ R e V5) ∨ ∃ ch, e = .panicked ch /\ R e V4)
 (Br (v1 = 7)
 (TI 37 #[uP v0, uS v3] V fun v6 V1 =>
 qAo [uP v0] 83 V1 fun v7 V2 =>
 qAo [uI v1, uI v2, uS v3, uL v4] 69 V2 fun v8 V3 =>
 qAo [uI v5] 3 V3 fun v9 V4 =>
 TT 91 #[uI 0, uP (qAa v7 0), uP (qAa v8 0), uP (qAa v9 0)] V4 fun e V5 => (∃ v10, e = rV (uI v10) /\
 V5.rowp (qAa v7 0) 0 1 = some [uP v0] /\ TT 41 #[uP v0, uI v6, uI v10] V5 fun e V6 => (∃ v11, e = rV (uI v11) /\
 R (rV (uI v11)) V6) ∨ ∃ ch, e = .panicked ch /\ R e V6) ∨ ∃ ch, e = .panicked ch /\ R e V5)
 (Br (v1 = 8)
 (qAo [uP v0] 83 V fun v6 V1 =>
 qAo [uI v1, uI v2, uS v3, uL v4] 69 V1 fun v7 V2 =>
 qAo [uI v5] 3 V2 fun v8 V3 =>
 TT 91 #[uI 0, uP (qAa v6 0), uP (qAa v7 0), uP (qAa v8 0)] V3 fun e V4 => (∃ v9, e = rV (uI v9) /\
 IR (0 - v9) /\ TT 94 #[uI (0 - v9)] V4 fun e V5 => (∃ v10, e = rV (uI v10) /\
 R (rV (uI v10)) V5) ∨ ∃ ch, e = .panicked ch /\ R e V5) ∨ ∃ ch, e = .panicked ch /\ R e V4)
 (Br (v1 = 18)
 (qAo [uP v0] 83 V fun v6 V1 =>
 qAo [uI v1, uI v2, uS v3, uL v4] 69 V1 fun v7 V2 =>
 qAo [uI v5] 3 V2 fun v8 V3 =>
 TT 91 #[uI 0, uP (qAa v6 0), uP (qAa v7 0), uP (qAa v8 0)] V3 fun e V4 => (∃ v9, e = rV (uI v9) /\
 IR (1 - v9) /\ R (rV (uI (1 - v9))) V4) ∨ ∃ ch, e = .panicked ch /\ R e V4)
 (Br (v1 = 24)
 (qAo [uP v0] 83 V fun v6 V1 =>
 qAo [uI v1, uI v2, uS v3, uL v4] 69 V1 fun v7 V2 =>
 qAo [uI v5] 3 V2 fun v8 V3 =>
 TT 91 #[uI 0, uP (qAa v6 0), uP (qAa v7 0), uP (qAa v8 0)] V3 fun e V4 => (∃ v9, e = rV (uI v9) /\
 qAq Tryz.prog (.call { callee := (.builtin .max), args := #[(.const (.int .i64 0)), (.tmp 58)], argTypes := #[3, 3] }) 3 (gv [(58, uI v9)]) V4 fun x V5 => ∃ v10, x = uI v10 /\
 K.inR .u64 v10 /\ TI 95 #[.int .u64 v10] V5 fun v11 V6 =>
 IR (v11 - 1) /\ qAq Tryz.prog (.call { callee := (.builtin .max), args := #[(.const (.int .i64 0)), (.tmp 62)], argTypes := #[3, 3] }) 3 (gv [(62, uI (v11 - 1))]) V6 fun x V7 => ∃ v12, x = uI v12 /\
 R (rV (uI v12)) V7) ∨ ∃ ch, e = .panicked ch /\ R e V4)
 (Br (v1 = 19)
 (qAo [uP v0] 83 V fun v6 V1 =>
 qAo [uI v1, uI v2, uS v3, uL v4] 69 V1 fun v7 V2 =>
 qAo [uI v5] 3 V2 fun v8 V3 =>
 TT 91 #[uI 0, uP (qAa v6 0), uP (qAa v7 0), uP (qAa v8 0)] V3 fun e V4 => (∃ v9, e = rV (uI v9) /\
 Br (v9 = 0)
 (R (rV (uI 0)) V4)
 (TT 91 #[uI 1, uP (qAa v6 0), uP (qAa v7 0), uP (qAa v8 0)] V4 fun e V5 => (∃ v10, e = rV (uI v10) /\
 R (rV (uI v10)) V5) ∨ ∃ ch, e = .panicked ch /\ R e V5)) ∨ ∃ ch, e = .panicked ch /\ R e V4)
 (Br (v1 = 20)
 (qAo [uP v0] 83 V fun v6 V1 =>
 qAo [uI v1, uI v2, uS v3, uL v4] 69 V1 fun v7 V2 =>
 qAo [uI v5] 3 V2 fun v8 V3 =>
 TT 91 #[uI 0, uP (qAa v6 0), uP (qAa v7 0), uP (qAa v8 0)] V3 fun e V4 => (∃ v9, e = rV (uI v9) /\
 Br (v9 = 0)
 (TT 91 #[uI 1, uP (qAa v6 0), uP (qAa v7 0), uP (qAa v8 0)] V4 fun e V5 => (∃ v10, e = rV (uI v10) /\
 R (rV (uI v10)) V5) ∨ ∃ ch, e = .panicked ch /\ R e V5)
 (R (rV (uI 1)) V4)) ∨ ∃ ch, e = .panicked ch /\ R e V4)
 (Br (v1 = 21)
 (qAo [uP v0] 83 V fun v6 V1 =>
 qAo [uI v1, uI v2, uS v3, uL v4] 69 V1 fun v7 V2 =>
 qAo [uI v5] 3 V2 fun v8 V3 =>
 TT 91 #[uI 0, uP (qAa v6 0), uP (qAa v7 0), uP (qAa v8 0)] V3 fun e V4 => (∃ v9, e = rV (uI v9) /\
 Br (v9 = 0)
 (TT 91 #[uI 2, uP (qAa v6 0), uP (qAa v7 0), uP (qAa v8 0)] V4 fun e V5 => (∃ v10, e = rV (uI v10) /\
 R (rV (uI v10)) V5) ∨ ∃ ch, e = .panicked ch /\ R e V5)
 (TT 91 #[uI 1, uP (qAa v6 0), uP (qAa v7 0), uP (qAa v8 0)] V4 fun e V5 => (∃ v10, e = rV (uI v10) /\
 R (rV (uI v10)) V5) ∨ ∃ ch, e = .panicked ch /\ R e V5)) ∨ ∃ ch, e = .panicked ch /\ R e V4)
 (qAo [uP v0] 83 V fun v6 V1 =>
 qAo [uI v1, uI v2, uS v3, uL v4] 69 V1 fun v7 V2 =>
 qAo [uI v5] 3 V2 fun v8 V3 =>
 TT 91 #[uI 0, uP (qAa v6 0), uP (qAa v7 0), uP (qAa v8 0)] V3 fun e V4 => (∃ v9, e = rV (uI v9) /\
 ¬ (qAa v7 0) = none /\ ∃ v10, V4.rowp v7 ((0 : Int).toNat * 1) 1 = some [uI v10] /\
 TT 91 #[uI 1, uP (qAa v6 0), uP (qAa v7 0), uP (qAa v8 0)] V4 fun e V5 => (∃ v11, e = rV (uI v11) /\
 V5.rowp (qAa v7 0) 0 1 = some [uI v10] /\ ¬ (qAa v7 0) = none /\ TT 96 #[uI v10, uI v9, uI v11] V5 fun e V6 => (∃ v12, e = rV (uI v12) /\
 R (rV (uI v12)) V6) ∨ ∃ ch, e = .panicked ch /\ R e V6) ∨ ∃ ch, e = .panicked ch /\ R e V5) ∨ ∃ ch, e = .panicked ch /\ R e V4))))))))))))
theorem x62 {v0 : Option Addr} {v1 v2 : Int} {v3 : ByteArray} {v4 : Sl} {v5 : Int} (h : w62 v0 v1 v2 v3 v4 v5 V R) : TT 62 #[uP v0, uA #[uI v1, uI v2, uS v3, uL v4], uI v5] V R := trx Tryz.func62 h
def w63 (v0 v1 : Int) (v2 : ByteArray) (v3 : Sl) (v4 : Int) : MR := fun V R =>
 Br (60 < v4)
 (R (rV (uI 1001)) V)
 (TB 97 #[uA #[uI v0, uI v1, uS v2, uL v3]] V fun v5 V1 =>
 Br (v5 = true)
 (Lp [uI 1, uI 0, uI 0] V1 fun I n V2 => ∀ v6 v7 v8, I n [uI v6, uI v7, uI v8] V2 -> ∀ J0 : LMP, Nx I n J0 ->
 Br (v8 < (v3.n : Int))
 (Ix v3 v8 (∃ v9 v10 v11 v12, V2.rowp v3.p (v8.toNat * 4) 4 = some [uI v9, uI v10, uS v11, uL v12] /\
 IR (v4 + 1) /\ TI 63 #[uA #[uI v9, uI v10, uS v11, uL v12], uI (v4 + 1)] V2 fun v13 V3 =>
 IR (v6 + v13) /\ Br (1000 < (v6 + v13))
 (R (rV (uI (v6 + v13))) V3)
 (IR (v8 + 1) /\ J0 [uI (v6 + v13), uI v7, uI (v8 + 1)] V3)))
 (R (rV (uI v6)) V2))
 (R (rV (uI 1001)) V1))
theorem x63 {v0 v1 : Int} {v2 : ByteArray} {v3 : Sl} {v4 : Int} (h : w63 v0 v1 v2 v3 v4 V R) : TT 63 #[uA #[uI v0, uI v1, uS v2, uL v3], uI v4] V R := trx Tryz.func63 h
abbrev w64_0 (v14 : Sl) (V1 : Mem) (v0 : ByteArray) (v1 : Sl) (v2 : Sl) (v3 : Sl) (v4 : Sl) (v5 : Sl) (v6 : Sl) (v7 : Sl) (R : RP) : Prop :=
 ¬ v14.p = none /\ (0 : Int) <= (0 : Int) /\ 0 < (v14.n : Int) /\ ∃ v16, V1.rowp v14.p ((0 : Int).toNat * 1) 1 = some [uS v16] /\
 ¬ v14.p = none /\ (0 : Int) <= (1 : Int) /\ 1 < (v14.n : Int) /\ ∃ v17, V1.rowp v14.p 1 1 = some [uS v17] /\
 TB 104 #[uD v0 v1 v2 v3 v4 v5 v6 v7, uS v16, uS v17] V1 fun v18 V2 =>
 Br (v18 = true)
 (TT 103 #[uB true, uS (qAj [98, 111, 111, 108])] V2 fun e V3 => ∃ v19 v20, e = rT #[uS v19, uI v20] /\
 R (rT #[uS v19, uI v20]) V3)
 (¬ v14.p = none /\ (0 : Int) <= (1 : Int) /\ 1 < (v14.n : Int) /\ ∃ v19, V2.rowp v14.p 1 1 = some [uS v19] /\
 ¬ v14.p = none /\ (0 : Int) <= (0 : Int) /\ 0 < (v14.n : Int) /\ ∃ v20, V2.rowp v14.p ((0 : Int).toNat * 1) 1 = some [uS v20] /\
 TB 104 #[uD v0 v1 v2 v3 v4 v5 v6 v7, uS v19, uS v20] V2 fun v21 V3 =>
 TT 103 #[uB v21, uS (qAj [98, 111, 111, 108])] V3 fun e V4 => ∃ v22 v23, e = rT #[uS v22, uI v23] /\
 R (rT #[uS v22, uI v23]) V4)
def w64 (v0 : ByteArray) (v1 v2 v3 v4 v5 v6 v7 v8 : Sl) (v9 : Bool) (v10 v11 : Int) (v12 : ByteArray) (v13 : Sl) : MR := fun V R =>
 TT 98 #[uD v0 v1 v2 v3 v4 v5 v6 v7, uA #[uL v8, uB v9], uA #[uI v10, uI v11, uS v12, uL v13]] V fun e V1 => ∃ v14 v15, e = rT #[uL v14, uI v15] /\
 Br (v15 = 0)
 (Br (v10 = 1)
 (R (rT #[uS (qAj [105, 110, 116]), uI 0]) V1)
 (Br (v10 = 2)
 (R (rT #[uS (qAj [98, 111, 111, 108]), uI 0]) V1)
 (Br (v10 = 3)
 (R (rT #[uS (qAj [110, 105, 108]), uI 0]) V1)
 (Br (v10 = 4)
 (TS 99 #[uL v8, uS v12] V1 fun v16 V2 =>
 Br (v16 = (qAj []))
 (R (rT #[uS (qAj []), uI 9]) V2)
 (R (rT #[uS v16, uI 0]) V2))
 (Br (v10 = 5)
 (¬ v14.p = none /\ (0 : Int) <= (0 : Int) /\ 0 < (v14.n : Int) /\ ∃ v16, V1.rowp v14.p ((0 : Int).toNat * 1) 1 = some [uS v16] /\
 TT 100 #[uD v0 v1 v2 v3 v4 v5 v6 v7, uS v16, uS v12] V1 fun e V2 => ∃ v17 v18, e = rT #[uS v17, uI v18] /\
 R (rT #[uS v17, uI v18]) V2)
 (Br (v10 = 6)
 (Br (v9 = true)
 (TB 101 #[uD v0 v1 v2 v3 v4 v5 v6 v7, uS v12] V1 fun v16 V2 =>
 Br (v16 = true)
 (R (rT #[uS v12, uI 0]) V2)
 (R (rT #[uS (qAj []), uI 9]) V2))
 (R (rT #[uS (qAj []), uI 13]) V1))
 (Br (v10 = 7)
 (TT 102 #[uD v0 v1 v2 v3 v4 v5 v6 v7, uA #[uL v8, uB v9], uS v12, uL v14] V1 fun e V2 => ∃ v16 v17, e = rT #[uS v16, uI v17] /\
 R (rT #[uS v16, uI v17]) V2)
 (Br (v10 = 14)
 (w64_0 v14 V1 v0 v1 v2 v3 v4 v5 v6 v7 R)
 (Br (v10 = 15)
 (w64_0 v14 V1 v0 v1 v2 v3 v4 v5 v6 v7 R)
 (Br (v10 = 16)
 (TB 105 #[uL v14, uS (qAj [105, 110, 116])] V1 fun v16 V2 =>
 TT 103 #[uB v16, uS (qAj [98, 111, 111, 108])] V2 fun e V3 => ∃ v17 v18, e = rT #[uS v17, uI v18] /\
 R (rT #[uS v17, uI v18]) V3)
 (Br (v10 = 17)
 (TB 105 #[uL v14, uS (qAj [105, 110, 116])] V1 fun v16 V2 =>
 TT 103 #[uB v16, uS (qAj [98, 111, 111, 108])] V2 fun e V3 => ∃ v17 v18, e = rT #[uS v17, uI v18] /\
 R (rT #[uS v17, uI v18]) V3)
 (Br (v10 = 18)
 (TB 105 #[uL v14, uS (qAj [98, 111, 111, 108])] V1 fun v16 V2 =>
 TT 103 #[uB v16, uS (qAj [98, 111, 111, 108])] V2 fun e V3 => ∃ v17 v18, e = rT #[uS v17, uI v18] /\
 R (rT #[uS v17, uI v18]) V3)
 (Br (v10 = 19)
 (TB 105 #[uL v14, uS (qAj [98, 111, 111, 108])] V1 fun v16 V2 =>
 TT 103 #[uB v16, uS (qAj [98, 111, 111, 108])] V2 fun e V3 => ∃ v17 v18, e = rT #[uS v17, uI v18] /\
 R (rT #[uS v17, uI v18]) V3)
 (Br (v10 = 20)
 (TB 105 #[uL v14, uS (qAj [98, 111, 111, 108])] V1 fun v16 V2 =>
 TT 103 #[uB v16, uS (qAj [98, 111, 111, 108])] V2 fun e V3 => ∃ v17 v18, e = rT #[uS v17, uI v18] /\
 R (rT #[uS v17, uI v18]) V3)
 (Br (v10 = 21)
 (¬ v14.p = none /\ (0 : Int) <= (1 : Int) /\ 1 < (v14.n : Int) /\ ∃ v16, V1.rowp v14.p 1 1 = some [uS v16] /\
 Br (v16 = (qAj [110, 105, 108]))
 (¬ v14.p = none /\ (0 : Int) <= (2 : Int) /\ 2 < (v14.n : Int) /\ ∃ v17, V1.rowp v14.p 2 1 = some [uS v17] /\
 ¬ v14.p = none /\ (0 : Int) <= (0 : Int) /\ 0 < (v14.n : Int) /\ ∃ v18, V1.rowp v14.p ((0 : Int).toNat * 1) 1 = some [uS v18] /\
 Br (v18 = (qAj [98, 111, 111, 108]))
 (¬ v14.p = none /\ (0 : Int) <= (1 : Int) /\ 1 < (v14.n : Int) /\ ∃ v19, V1.rowp v14.p 1 1 = some [uS v19] /\
 ¬ v14.p = none /\ (0 : Int) <= (2 : Int) /\ 2 < (v14.n : Int) /\ ∃ v20, V1.rowp v14.p 2 1 = some [uS v20] /\
 TB 104 #[uD v0 v1 v2 v3 v4 v5 v6 v7, uS v19, uS v20] V1 fun v21 V2 =>
 Br (v21 = true)
 (TT 103 #[uB true, uS v17] V2 fun e V3 => ∃ v22 v23, e = rT #[uS v22, uI v23] /\
 R (rT #[uS v22, uI v23]) V3)
 (¬ v14.p = none /\ (0 : Int) <= (2 : Int) /\ 2 < (v14.n : Int) /\ ∃ v22, V2.rowp v14.p 2 1 = some [uS v22] /\
 ¬ v14.p = none /\ (0 : Int) <= (1 : Int) /\ 1 < (v14.n : Int) /\ ∃ v23, V2.rowp v14.p 1 1 = some [uS v23] /\
 TB 104 #[uD v0 v1 v2 v3 v4 v5 v6 v7, uS v22, uS v23] V2 fun v24 V3 =>
 TT 103 #[uB v24, uS v17] V3 fun e V4 => ∃ v25 v26, e = rT #[uS v25, uI v26] /\
 R (rT #[uS v25, uI v26]) V4))
 (TT 103 #[uB false, uS v17] V1 fun e V2 => ∃ v19 v20, e = rT #[uS v19, uI v20] /\
 R (rT #[uS v19, uI v20]) V2))
 (¬ v14.p = none /\ (0 : Int) <= (0 : Int) /\ 0 < (v14.n : Int) /\ ∃ v17, V1.rowp v14.p ((0 : Int).toNat * 1) 1 = some [uS v17] /\
 Br (v17 = (qAj [98, 111, 111, 108]))
 (¬ v14.p = none /\ (0 : Int) <= (1 : Int) /\ 1 < (v14.n : Int) /\ ∃ v18, V1.rowp v14.p 1 1 = some [uS v18] /\
 ¬ v14.p = none /\ (0 : Int) <= (2 : Int) /\ 2 < (v14.n : Int) /\ ∃ v19, V1.rowp v14.p 2 1 = some [uS v19] /\
 TB 104 #[uD v0 v1 v2 v3 v4 v5 v6 v7, uS v18, uS v19] V1 fun v20 V2 =>
 Br (v20 = true)
 (TT 103 #[uB true, uS v16] V2 fun e V3 => ∃ v21 v22, e = rT #[uS v21, uI v22] /\
 R (rT #[uS v21, uI v22]) V3)
 (¬ v14.p = none /\ (0 : Int) <= (2 : Int) /\ 2 < (v14.n : Int) /\ ∃ v21, V2.rowp v14.p 2 1 = some [uS v21] /\
 ¬ v14.p = none /\ (0 : Int) <= (1 : Int) /\ 1 < (v14.n : Int) /\ ∃ v22, V2.rowp v14.p 1 1 = some [uS v22] /\
 TB 104 #[uD v0 v1 v2 v3 v4 v5 v6 v7, uS v21, uS v22] V2 fun v23 V3 =>
 TT 103 #[uB v23, uS v16] V3 fun e V4 => ∃ v24 v25, e = rT #[uS v24, uI v25] /\
 R (rT #[uS v24, uI v25]) V4))
 (TT 103 #[uB false, uS v16] V1 fun e V2 => ∃ v18 v19, e = rT #[uS v18, uI v19] /\
 R (rT #[uS v18, uI v19]) V2)))
 (TB 105 #[uL v14, uS (qAj [105, 110, 116])] V1 fun v16 V2 =>
 TT 103 #[uB v16, uS (qAj [105, 110, 116])] V2 fun e V3 => ∃ v17 v18, e = rT #[uS v17, uI v18] /\
 R (rT #[uS v17, uI v18]) V3))))))))))))))))
 (R (rT #[uS (qAj []), uI v15]) V1)
theorem x64 {v0 : ByteArray} {v1 v2 v3 v4 v5 v6 v7 v8 : Sl} {v9 : Bool} {v10 v11 : Int} {v12 : ByteArray} {v13 : Sl} (h : w64 v0 v1 v2 v3 v4 v5 v6 v7 v8 v9 v10 v11 v12 v13 V R) : TT 64 #[uD v0 v1 v2 v3 v4 v5 v6 v7, uA #[uL v8, uB v9], uA #[uI v10, uI v11, uS v12, uL v13]] V R := trx Tryz.func64 h
def w65 (v0 : ByteArray) (v1 v2 v3 v4 v5 v6 v7 : Sl) (v8 : ByteArray) : MR := fun V R =>
 Br (v8 = (qAj []))
 (qAq Tryz.prog (.call { callee := (.builtin .append), args := #[(.tmp 13), (.tmp 15)], argTypes := #[23, 23] }) 23 (gv [(13, .slice none 0 0), (15, uL v2)]) V fun x V1 => ∃ v9, x = uL v9 /\
 R (rV (uA #[uL v9, uB false])) V1)
 (qAo [uS (qAj [116, 104, 105, 115]), uS v8] 110 V fun v9 V1 =>
 qAq Tryz.prog (.call { callee := (.builtin .append), args := #[(.tmp 8), (.tmp 11)], argTypes := #[23, 23] }) 23 (gv [(8, .slice none 0 0), (11, .slice (qAa v9 0) 1 1)]) V1 fun x V2 => ∃ v10, x = uL v10 /\
 qAq Tryz.prog (.call { callee := (.builtin .append), args := #[(.tmp 13), (.tmp 15)], argTypes := #[23, 23] }) 23 (gv [(13, uL v10), (15, uL v2)]) V2 fun x V3 => ∃ v11, x = uL v11 /\
 R (rV (uA #[uL v11, uB false])) V3)
theorem x65 {v0 : ByteArray} {v1 v2 v3 v4 v5 v6 v7 : Sl} {v8 : ByteArray} (h : w65 v0 v1 v2 v3 v4 v5 v6 v7 v8 V R) : TT 65 #[uD v0 v1 v2 v3 v4 v5 v6 v7, uS v8] V R := trx Tryz.func65 h
abbrev w67_0 (v15 : Bool) (v16 : Int) (V4 : Mem) (v5 : Sl) (R : RP) (v6 : Sl) (v7 : Sl) : Prop :=
 Lp [uB v15, uI v16, uI 0] V4 fun I n V5 => ∀ v18 v19 v20, I n [uB v18, uI v19, uI v20] V5 -> ∀ J3 : LMP, Nx I n J3 ->
 Br (v20 < (v5.n : Int))
 (Br (0 <= v19)
 (Ix v5 v20 (¬ (qAa v5.p (v20.toNat * 6)) = none /\ ∃ v21 v22 v23 v24 v25 v26, V5.rowp v5.p (v20.toNat * 6) 6 = some [uS v21, uS v22, uI v23, uI v24, uS v25, uL v26] /\
 Br (100 < (v21.size : Int))
 (R (rV (uB true)) V5)
 (Ix v5 v20 (¬ (qAa v5.p (v20.toNat * 6)) = none /\ ∃ v27 v28 v29 v30 v31 v32, V5.rowp v5.p (v20.toNat * 6) 6 = some [uS v27, uS v28, uI v29, uI v30, uS v31, uL v32] /\
 Br (100 < (v28.size : Int))
 (R (rV (uB true)) V5)
 (Ix v5 v20 (¬ (qAa v5.p (v20.toNat * 6)) = none /\ ∃ v33 v34 v35 v36 v37 v38, V5.rowp v5.p (v20.toNat * 6) 6 = some [uS v33, uS v34, uI v35, uI v36, uS v37, uL v38] /\
 TI 108 #[uA #[uI v35, uI v36, uS v37, uL v38], uI 65, uI v19] V5 fun v39 V6 =>
 IR (v20 + 1) /\ J3 [uB v18, uI v39, uI (v20 + 1)] V6))))))
 (Lp [uB v18, uI v19, uI 0] V5 fun I n V6 => ∀ v21 v22 v23, I n [uB v21, uI v22, uI v23] V6 -> ∀ J4 : LMP, Nx I n J4 ->
 Br (v23 < (v6.n : Int))
 (Br (0 <= v22)
 (Ix v6 v23 (¬ (qAa v6.p (v23.toNat * 5)) = none /\ ∃ v24 v25 v26 v27 v28, V6.rowp v6.p (v23.toNat * 5) 5 = some [uS v24, uI v25, uI v26, uS v27, uL v28] /\
 Br (100 < (v24.size : Int))
 (R (rV (uB true)) V6)
 (Ix v6 v23 (¬ (qAa v6.p (v23.toNat * 5)) = none /\ ∃ v29 v30 v31 v32 v33, V6.rowp v6.p (v23.toNat * 5) 5 = some [uS v29, uI v30, uI v31, uS v32, uL v33] /\
 TI 108 #[uA #[uI v30, uI v31, uS v32, uL v33], uI 65, uI v22] V6 fun v34 V7 =>
 IR (v23 + 1) /\ J4 [uB v21, uI v34, uI (v23 + 1)] V7))))
 (Lp [uB v21, uI v22, uI 0] V6 fun I n V7 => ∀ v24 v25 v26, I n [uB v24, uI v25, uI v26] V7 -> ∀ J5 : LMP, Nx I n J5 ->
 Br (v26 < (v7.n : Int))
 (Br (0 <= v25)
 (Ix v7 v26 (¬ (qAa v7.p (v26.toNat * 5)) = none /\ ∃ v27 v28 v29 v30 v31, V7.rowp v7.p (v26.toNat * 5) 5 = some [uS v27, uI v28, uI v29, uS v30, uL v31] /\
 Br (100 < (v27.size : Int))
 (R (rV (uB true)) V7)
 (Ix v7 v26 (¬ (qAa v7.p (v26.toNat * 5)) = none /\ ∃ v32 v33 v34 v35 v36, V7.rowp v7.p (v26.toNat * 5) 5 = some [uS v32, uI v33, uI v34, uS v35, uL v36] /\
 TI 108 #[uA #[uI v33, uI v34, uS v35, uL v36], uI 65, uI v25] V7 fun v37 V8 =>
 IR (v26 + 1) /\ J5 [uB v24, uI v37, uI (v26 + 1)] V8))))
 (R (rV (uB (decide (v25 < 0)))) V7))
 (R (rV (uB (decide (v25 < 0)))) V7)))
 (Lp [uB v21, uI v22, uI 0] V6 fun I n V7 => ∀ v24 v25 v26, I n [uB v24, uI v25, uI v26] V7 -> ∀ J5 : LMP, Nx I n J5 ->
 Br (v26 < (v7.n : Int))
 (Br (0 <= v25)
 (Ix v7 v26 (¬ (qAa v7.p (v26.toNat * 5)) = none /\ ∃ v27 v28 v29 v30 v31, V7.rowp v7.p (v26.toNat * 5) 5 = some [uS v27, uI v28, uI v29, uS v30, uL v31] /\
 Br (100 < (v27.size : Int))
 (R (rV (uB true)) V7)
 (Ix v7 v26 (¬ (qAa v7.p (v26.toNat * 5)) = none /\ ∃ v32 v33 v34 v35 v36, V7.rowp v7.p (v26.toNat * 5) 5 = some [uS v32, uI v33, uI v34, uS v35, uL v36] /\
 TI 108 #[uA #[uI v33, uI v34, uS v35, uL v36], uI 65, uI v25] V7 fun v37 V8 =>
 IR (v26 + 1) /\ J5 [uB v24, uI v37, uI (v26 + 1)] V8))))
 (R (rV (uB (decide (v25 < 0)))) V7))
 (R (rV (uB (decide (v25 < 0)))) V7))))
 (Lp [uB v18, uI v19, uI 0] V5 fun I n V6 => ∀ v21 v22 v23, I n [uB v21, uI v22, uI v23] V6 -> ∀ J4 : LMP, Nx I n J4 ->
 Br (v23 < (v6.n : Int))
 (Br (0 <= v22)
 (Ix v6 v23 (¬ (qAa v6.p (v23.toNat * 5)) = none /\ ∃ v24 v25 v26 v27 v28, V6.rowp v6.p (v23.toNat * 5) 5 = some [uS v24, uI v25, uI v26, uS v27, uL v28] /\
 Br (100 < (v24.size : Int))
 (R (rV (uB true)) V6)
 (Ix v6 v23 (¬ (qAa v6.p (v23.toNat * 5)) = none /\ ∃ v29 v30 v31 v32 v33, V6.rowp v6.p (v23.toNat * 5) 5 = some [uS v29, uI v30, uI v31, uS v32, uL v33] /\
 TI 108 #[uA #[uI v30, uI v31, uS v32, uL v33], uI 65, uI v22] V6 fun v34 V7 =>
 IR (v23 + 1) /\ J4 [uB v21, uI v34, uI (v23 + 1)] V7))))
 (Lp [uB v21, uI v22, uI 0] V6 fun I n V7 => ∀ v24 v25 v26, I n [uB v24, uI v25, uI v26] V7 -> ∀ J5 : LMP, Nx I n J5 ->
 Br (v26 < (v7.n : Int))
 (Br (0 <= v25)
 (Ix v7 v26 (¬ (qAa v7.p (v26.toNat * 5)) = none /\ ∃ v27 v28 v29 v30 v31, V7.rowp v7.p (v26.toNat * 5) 5 = some [uS v27, uI v28, uI v29, uS v30, uL v31] /\
 Br (100 < (v27.size : Int))
 (R (rV (uB true)) V7)
 (Ix v7 v26 (¬ (qAa v7.p (v26.toNat * 5)) = none /\ ∃ v32 v33 v34 v35 v36, V7.rowp v7.p (v26.toNat * 5) 5 = some [uS v32, uI v33, uI v34, uS v35, uL v36] /\
 TI 108 #[uA #[uI v33, uI v34, uS v35, uL v36], uI 65, uI v25] V7 fun v37 V8 =>
 IR (v26 + 1) /\ J5 [uB v24, uI v37, uI (v26 + 1)] V8))))
 (R (rV (uB (decide (v25 < 0)))) V7))
 (R (rV (uB (decide (v25 < 0)))) V7)))
 (Lp [uB v21, uI v22, uI 0] V6 fun I n V7 => ∀ v24 v25 v26, I n [uB v24, uI v25, uI v26] V7 -> ∀ J5 : LMP, Nx I n J5 ->
 Br (v26 < (v7.n : Int))
 (Br (0 <= v25)
 (Ix v7 v26 (¬ (qAa v7.p (v26.toNat * 5)) = none /\ ∃ v27 v28 v29 v30 v31, V7.rowp v7.p (v26.toNat * 5) 5 = some [uS v27, uI v28, uI v29, uS v30, uL v31] /\
 Br (100 < (v27.size : Int))
 (R (rV (uB true)) V7)
 (Ix v7 v26 (¬ (qAa v7.p (v26.toNat * 5)) = none /\ ∃ v32 v33 v34 v35 v36, V7.rowp v7.p (v26.toNat * 5) 5 = some [uS v32, uI v33, uI v34, uS v35, uL v36] /\
 TI 108 #[uA #[uI v33, uI v34, uS v35, uL v36], uI 65, uI v25] V7 fun v37 V8 =>
 IR (v26 + 1) /\ J5 [uB v24, uI v37, uI (v26 + 1)] V8))))
 (R (rV (uB (decide (v25 < 0)))) V7))
 (R (rV (uB (decide (v25 < 0)))) V7)))
abbrev w67_1 (v12 : Bool) (v13 : Int) (V3 : Mem) (v4 : Sl) (R : RP) (v5 : Sl) (v6 : Sl) (v7 : Sl) : Prop :=
 Lp [uB v12, uI v13, uI 0] V3 fun I n V4 => ∀ v15 v16 v17, I n [uB v15, uI v16, uI v17] V4 -> ∀ J2 : LMP, Nx I n J2 ->
 Br (v17 < (v4.n : Int))
 (Br (0 <= v16)
 (Ix v4 v17 (¬ (qAa v4.p (v17.toNat * 7)) = none /\ ∃ v18 v19 v20 v21 v22 v23 v24, V4.rowp v4.p (v17.toNat * 7) 7 = some [uS v18, uS v19, uI v20, uI v21, uI v22, uS v23, uL v24] /\
 Br (100 < (v18.size : Int))
 (R (rV (uB true)) V4)
 (Ix v4 v17 (¬ (qAa v4.p (v17.toNat * 7)) = none /\ ∃ v25 v26 v27 v28 v29 v30 v31, V4.rowp v4.p (v17.toNat * 7) 7 = some [uS v25, uS v26, uI v27, uI v28, uI v29, uS v30, uL v31] /\
 Br (100 < (v26.size : Int))
 (R (rV (uB true)) V4)
 (Ix v4 v17 (¬ (qAa v4.p (v17.toNat * 7)) = none /\ ∃ v32 v33 v34 v35 v36 v37 v38, V4.rowp v4.p (v17.toNat * 7) 7 = some [uS v32, uS v33, uI v34, uI v35, uI v36, uS v37, uL v38] /\
 TI 108 #[uA #[uI v35, uI v36, uS v37, uL v38], uI 65, uI v16] V4 fun v39 V5 =>
 IR (v17 + 1) /\ J2 [uB v15, uI v39, uI (v17 + 1)] V5))))))
 (w67_0 v15 v16 V4 v5 R v6 v7))
 (w67_0 v15 v16 V4 v5 R v6 v7)
def w67 (v0 : ByteArray) (v1 v2 v3 v4 v5 v6 v7 : Sl) (v8 : Int) : MR := fun V R =>
 Br (100 < (v0.size : Int))
 (R (rV (uB true)) V)
 (Br (60 < (v1.n : Int))
 (R (rV (uB true)) V)
 (Br (60 < (v3.n : Int))
 (R (rV (uB true)) V)
 (Br (60 < (v4.n : Int))
 (R (rV (uB true)) V)
 (Br (60 < (v5.n : Int))
 (R (rV (uB true)) V)
 (Br (60 < (v6.n : Int))
 (R (rV (uB true)) V)
 (Br (60 < (v7.n : Int))
 (R (rV (uB true)) V)
 (TB 106 #[uL v2] V fun v9 V1 =>
 Br (v9 = true)
 (R (rV (uB true)) V1)
 (Lp [uB false, uI 0] V1 fun I n V2 => ∀ v10 v11, I n [uB v10, uI v11] V2 -> ∀ J0 : LMP, Nx I n J0 ->
 Br (v11 < (v1.n : Int))
 (Ix v1 v11 (¬ (qAa v1.p (v11.toNat * 2)) = none /\ ∃ v12 v13, V2.rowp v1.p (v11.toNat * 2) 2 = some [uS v12, uL v13] /\
 Br (100 < (v12.size : Int))
 (R (rV (uB true)) V2)
 (Ix v1 v11 (¬ (qAa v1.p (v11.toNat * 2)) = none /\ ∃ v14 v15, V2.rowp v1.p (v11.toNat * 2) 2 = some [uS v14, uL v15] /\
 TB 106 #[uL v15] V2 fun v16 V3 =>
 Br (v16 = true)
 (R (rV (uB true)) V3)
 (IR (v11 + 1) /\ J0 [uB v10, uI (v11 + 1)] V3)))))
 (Lp [uB v10, uI v8, uI 0] V2 fun I n V3 => ∀ v12 v13 v14, I n [uB v12, uI v13, uI v14] V3 -> ∀ J1 : LMP, Nx I n J1 ->
 Br (v14 < (v3.n : Int))
 (Br (0 <= v13)
 (Ix v3 v14 (∃ v15 v16 v17 v18 v19, V3.rowp v3.p (v14.toNat * 5) 5 = some [uS v15, uL v16, uS v17, uL v18, uL v19] /\
 Br (100 < (v15.size : Int))
 (R (rV (uB true)) V3)
 (Br (100 < (v17.size : Int))
 (R (rV (uB true)) V3)
 (TB 106 #[uL v16] V3 fun v20 V4 =>
 Br (v20 = true)
 (R (rV (uB true)) V4)
 (TB 106 #[uL v18] V4 fun v21 V5 =>
 Br (v21 = true)
 (R (rV (uB true)) V5)
 (TI 107 #[uL v19, uI 65, uI v13] V5 fun v22 V6 =>
 IR (v14 + 1) /\ J1 [uB v12, uI v22, uI (v14 + 1)] V6))))))
 (w67_1 v12 v13 V3 v4 R v5 v6 v7))
 (w67_1 v12 v13 V3 v4 R v5 v6 v7))))))))))
theorem x67 {v0 : ByteArray} {v1 v2 v3 v4 v5 v6 v7 : Sl} {v8 : Int} (h : w67 v0 v1 v2 v3 v4 v5 v6 v7 v8 V R) : TT 67 #[uD v0 v1 v2 v3 v4 v5 v6 v7, uI v8] V R := trx Tryz.func67 h
def w68 (v0 : ByteArray) (v1 v2 v3 v4 v5 v6 v7 : Sl) : MR := fun V R =>
 TB 109 #[uD v0 v1 v2 v3 v4 v5 v6 v7] V fun v8 V1 =>
 Br (v8 = true)
 (TP 110 #[uD v0 v1 v2 v3 v4 v5 v6 v7] V1 fun v9 V2 =>
 TP 111 #[uP v9] V2 fun v10 V3 =>
 Br (v10 = none)
 (R (rT #[uS (qAj []), uI 0, uI 0]) V3)
 (¬ v10 = none /\ ¬ v10 = none /\ ∃ v11, V3.rowp v10 ((0 : Int).toNat * 1) 1 = some [uS v11] /\
 ¬ v10 = none /\ ¬ v10 = none /\ ∃ v12, V3.rowp v10 1 1 = some [uI v12] /\
 ¬ v10 = none /\ ¬ v10 = none /\ ∃ v13, V3.rowp v10 2 1 = some [uI v13] /\
 V3.rowp (qAa v10 2) 0 1 = some [uI v13] /\ ¬ v10 = none /\ ¬ v10 = none /\ V3.rowp (qAa v10 1) 0 1 = some [uI v12] /\ ¬ v10 = none /\ ¬ v10 = none /\ V3.rowp (qAa v10 2) 0 1 = some [uI v13] /\ ¬ v10 = none /\ ¬ v10 = none /\ R (rT #[uS v11, uI v12, uI v13]) V3))
 (R (rT #[uS (qAj []), uI 0, uI 1]) V1)
theorem x68 {v0 : ByteArray} {v1 v2 v3 v4 v5 v6 v7 : Sl} (h : w68 v0 v1 v2 v3 v4 v5 v6 v7 V R) : TT 68 #[uD v0 v1 v2 v3 v4 v5 v6 v7] V R := trx Tryz.func68 h
def w69 (v0 : ByteArray) (v1 v2 v3 v4 v5 v6 v7 v8 v9 : Sl) : MR := fun V R =>
 TT 112 #[uD v0 v1 v2 v3 v4 v5 v6 v7] V fun e V1 => ∃ v10, e = rV (uM v10) /\
 TB 113 #[uM v10, uD v0 v1 v2 v3 v4 v5 v6 v7, uA #[uL v8, uL v9]] V1 fun v11 V2 =>
 R (rV (uB v11)) V2
theorem x69 {v0 : ByteArray} {v1 v2 v3 v4 v5 v6 v7 v8 v9 : Sl} (h : w69 v0 v1 v2 v3 v4 v5 v6 v7 v8 v9 V R) : TT 69 #[uD v0 v1 v2 v3 v4 v5 v6 v7, uA #[uL v8, uL v9]] V R := trx Tryz.func69 h
def w70 (v0 : Sl) (v1 : Value) : MR := fun V R =>
 Lp [uI 0, uI 0] V fun I n V1 => ∀ v2 v3, I n [uI v2, uI v3] V1 -> ∀ J0 : LMP, Nx I n J0 ->
 Br (v3 < (v0.n : Int))
 (Ix v0 v3 (∃ v4 v5 v6 v7 v8 v9 v10, V1.rowp v0.p (v3.toNat * 7) 7 = some [uS v4, uS v5, uI v6, uI v7, uI v8, uS v9, uL v10] /\
 ∃ f first caps, K.cast .f v1 = .func (.func f) first caps /\ CO f /\
 TT f (first ++ #[uA #[uS v4, uS v5, uI v6, uI v7, uI v8, uS v9, uL v10]] ++ caps) V1 fun e V2 => ∃ v11, e = rV (uB v11) /\
 Br (v11 = true)
 (R (rV (uI v3)) V2)
 (IR (v3 + 1) /\ J0 [uI v2, uI (v3 + 1)] V2)))
 (R (rV (uI (-1))) V1)
theorem x70 {v0 : Sl} {v1 : Value} (h : w70 v0 v1 V R) : TT 70 #[uL v0, K.cast .f v1] V R :=
 qBu Tryz.func70 [] [] false [uL v0, v1] (by kernel_rfl) (by kernel_rfl) h
def w71 (v0 v1 : ByteArray) (v2 v3 v4 : Int) (v5 : ByteArray) (v6 : Sl) (v7 : Option Addr) : MR := fun V R =>
 ∃ v8, V.rowp v7 ((0 : Int).toNat * 1) 1 = some [uS v8] /\
 R (rV (uB (decide (v0 = v8)))) V
theorem x71 {v0 v1 : ByteArray} {v2 v3 v4 : Int} {v5 : ByteArray} {v6 : Sl} {v7 : Option Addr} (h : w71 v0 v1 v2 v3 v4 v5 v6 v7 V R) : TT 71 #[uA #[uS v0, uS v1, uI v2, uI v3, uI v4, uS v5, uL v6], uP v7] V R := trx Tryz.func71 h
def w75 (v0 : ByteArray) : MR := fun V R =>
 Br ((v0.size : Int) = 0)
 (R (rV (uB false)) V)
 (Br (40 < (v0.size : Int))
 (R (rV (uB false)) V)
 ((0 <= (0 : Int) /\ (0 : Int) < (v0.size : Int)) /\ TB 120 #[.int .u8 (qAU v0 (0 : Int))] V fun v1 V1 =>
 Br (v1 = true)
 (Lp [uB false, uI 0] V1 fun I n V2 => ∀ v2 v3, I n [uB v2, uI v3] V2 -> ∀ J0 : LMP, Nx I n J0 ->
 Br (v3 < (v0.size : Int))
 ((0 <= v3 /\ v3 < (v0.size : Int)) /\ TB 121 #[.int .u8 (qAU v0 v3)] V2 fun v4 V3 =>
 Br (v4 = true)
 (IR (v3 + 1) /\ J0 [uB v2, uI (v3 + 1)] V3)
 (R (rV (uB false)) V3))
 (TB 122 #[uS v0] V2 fun v4 V3 =>
 R (rV (uB (!v4))) V3))
 (R (rV (uB false)) V1)))
theorem x75 {v0 : ByteArray} (h : w75 v0 V R) : TT 75 #[uS v0] V R := trx Tryz.func75 h
def w76 (v0 : Sl) (v1 : Int) : MR := fun V R =>
 Br (v1 < (v0.n : Int))
 (R (rV (uB false)) V)
 (Lp [uB false, uI 0] V fun I n V1 => ∀ v2 v3, I n [uB v2, uI v3] V1 -> ∀ J0 : LMP, Nx I n J0 ->
 Br (v3 < (v0.n : Int))
 (Ix v0 v3 (¬ (qAa v0.p (v3.toNat * 2)) = none /\ ∃ v4 v5, V1.rowp v0.p (v3.toNat * 2) 2 = some [uS v4, uS v5] /\
 TB 75 #[uS v4] V1 fun v6 V2 =>
 Br (v6 = true)
 (Ix v0 v3 (¬ (qAa v0.p (v3.toNat * 2)) = none /\ ∃ v7 v8, V2.rowp v0.p (v3.toNat * 2) 2 = some [uS v7, uS v8] /\
 TB 123 #[uS v8] V2 fun v9 V3 =>
 Br (v9 = true)
 (IR (v3 + 1) /\ J0 [uB v2, uI (v3 + 1)] V3)
 (R (rV (uB false)) V3)))
 (R (rV (uB false)) V2)))
 (R (rV (uB true)) V1))
theorem x76 {v0 : Sl} {v1 : Int} (h : w76 v0 v1 V R) : TT 76 #[uL v0, uI v1] V R := trx Tryz.func76 h
def w77 (v0 : ByteArray) (v1 : Sl) (v2 : ByteArray) (v3 v4 : Sl) : MR := fun V R =>
 TB 75 #[uS v0] V fun v5 V1 =>
 Br (v5 = true)
 (TB 76 #[uL v1, uI 6] V1 fun v6 V2 =>
 Br (v6 = true)
 (TB 76 #[uL v3, uI 12] V2 fun v7 V3 =>
 Br (v7 = true)
 (Br (v2 = (qAj []))
 (TI 124 #[uL v4, uI 1] V3 fun v8 V4 =>
 R (rV (uB (decide (v8 <= 200)))) V4)
 (TB 123 #[uS v2] V3 fun v8 V4 =>
 Br (v8 = true)
 (TI 124 #[uL v4, uI 1] V4 fun v9 V5 =>
 R (rV (uB (decide (v9 <= 200)))) V5)
 (R (rV (uB false)) V4)))
 (R (rV (uB false)) V3))
 (R (rV (uB false)) V2))
 (R (rV (uB false)) V1)
theorem x77 {v0 : ByteArray} {v1 : Sl} {v2 : ByteArray} {v3 v4 : Sl} (h : w77 v0 v1 v2 v3 v4 V R) : TT 77 #[uA #[uS v0, uL v1, uS v2, uL v3, uL v4]] V R := trx Tryz.func77 h
def w78 (v0 : ByteArray) (v1 v2 v3 v4 v5 v6 v7 : Sl) : MR := fun V R =>
 Lp [uB false, uI 0] V fun I n V1 => ∀ v8 v9, I n [uB v8, uI v9] V1 -> ∀ J0 : LMP, Nx I n J0 ->
 Br (v9 < (v4.n : Int))
 (Ix v4 v9 (∃ v10 v11 v12 v13 v14 v15 v16, V1.rowp v4.p (v9.toNat * 7) 7 = some [uS v10, uS v11, uI v12, uI v13, uI v14, uS v15, uL v16] /\
 TB 75 #[uS v10] V1 fun v17 V2 =>
 Br (v17 = true)
 (TB 75 #[uS v11] V2 fun v18 V3 =>
 Br (v18 = true)
 (Br (v12 < (-1099511627776))
 (R (rV (uB false)) V3)
 (Br (1099511627776 < v12)
 (R (rV (uB false)) V3)
 (TB 29 #[uA #[uI v13, uI v14, uS v15, uL v16]] V3 fun v19 V4 =>
 Br (v19 = true)
 (IR (v9 + 1) /\ J0 [uB v8, uI (v9 + 1)] V4)
 (R (rV (uB false)) V4))))
 (R (rV (uB false)) V3))
 (R (rV (uB false)) V2)))
 (Lp [uB v8, uI 0] V1 fun I n V2 => ∀ v10 v11, I n [uB v10, uI v11] V2 -> ∀ J1 : LMP, Nx I n J1 ->
 Br (v11 < (v5.n : Int))
 (Ix v5 v11 (¬ (qAa v5.p (v11.toNat * 6)) = none /\ ∃ v12 v13 v14 v15 v16 v17, V2.rowp v5.p (v11.toNat * 6) 6 = some [uS v12, uS v13, uI v14, uI v15, uS v16, uL v17] /\
 TB 75 #[uS v12] V2 fun v18 V3 =>
 Br (v18 = true)
 (Ix v5 v11 (¬ (qAa v5.p (v11.toNat * 6)) = none /\ ∃ v19 v20 v21 v22 v23 v24, V3.rowp v5.p (v11.toNat * 6) 6 = some [uS v19, uS v20, uI v21, uI v22, uS v23, uL v24] /\
 TB 125 #[uS v20] V3 fun v25 V4 =>
 Br (v25 = true)
 (Ix v5 v11 (¬ (qAa v5.p (v11.toNat * 6)) = none /\ ∃ v26 v27 v28 v29 v30 v31, V4.rowp v5.p (v11.toNat * 6) 6 = some [uS v26, uS v27, uI v28, uI v29, uS v30, uL v31] /\
 TB 29 #[uA #[uI v28, uI v29, uS v30, uL v31]] V4 fun v32 V5 =>
 Br (v32 = true)
 (IR (v11 + 1) /\ J1 [uB v10, uI (v11 + 1)] V5)
 (R (rV (uB false)) V5)))
 (R (rV (uB false)) V4)))
 (R (rV (uB false)) V3)))
 (Lp [uB v10, uI 0] V2 fun I n V3 => ∀ v12 v13, I n [uB v12, uI v13] V3 -> ∀ J2 : LMP, Nx I n J2 ->
 Br (v13 < (v6.n : Int))
 (Ix v6 v13 (¬ (qAa v6.p (v13.toNat * 5)) = none /\ ∃ v14 v15 v16 v17 v18, V3.rowp v6.p (v13.toNat * 5) 5 = some [uS v14, uI v15, uI v16, uS v17, uL v18] /\
 TB 125 #[uS v14] V3 fun v19 V4 =>
 Br (v19 = true)
 (Ix v6 v13 (¬ (qAa v6.p (v13.toNat * 5)) = none /\ ∃ v20 v21 v22 v23 v24, V4.rowp v6.p (v13.toNat * 5) 5 = some [uS v20, uI v21, uI v22, uS v23, uL v24] /\
 TB 29 #[uA #[uI v21, uI v22, uS v23, uL v24]] V4 fun v25 V5 =>
 Br (v25 = true)
 (IR (v13 + 1) /\ J2 [uB v12, uI (v13 + 1)] V5)
 (R (rV (uB false)) V5)))
 (R (rV (uB false)) V4)))
 (Lp [uB v12, uI 0] V3 fun I n V4 => ∀ v14 v15, I n [uB v14, uI v15] V4 -> ∀ J3 : LMP, Nx I n J3 ->
 Br (v15 < (v7.n : Int))
 (Ix v7 v15 (¬ (qAa v7.p (v15.toNat * 5)) = none /\ ∃ v16 v17 v18 v19 v20, V4.rowp v7.p (v15.toNat * 5) 5 = some [uS v16, uI v17, uI v18, uS v19, uL v20] /\
 TB 75 #[uS v16] V4 fun v21 V5 =>
 Br (v21 = true)
 (Ix v7 v15 (¬ (qAa v7.p (v15.toNat * 5)) = none /\ ∃ v22 v23 v24 v25 v26, V5.rowp v7.p (v15.toNat * 5) 5 = some [uS v22, uI v23, uI v24, uS v25, uL v26] /\
 TB 29 #[uA #[uI v23, uI v24, uS v25, uL v26]] V5 fun v27 V6 =>
 Br (v27 = true)
 (IR (v15 + 1) /\ J3 [uB v14, uI (v15 + 1)] V6)
 (R (rV (uB false)) V6)))
 (R (rV (uB false)) V5)))
 (R (rV (uB true)) V4))))
theorem x78 {v0 : ByteArray} {v1 v2 v3 v4 v5 v6 v7 : Sl} (h : w78 v0 v1 v2 v3 v4 v5 v6 v7 V R) : TT 78 #[uD v0 v1 v2 v3 v4 v5 v6 v7] V R := trx Tryz.func78 h
end
end Go.Proofs
