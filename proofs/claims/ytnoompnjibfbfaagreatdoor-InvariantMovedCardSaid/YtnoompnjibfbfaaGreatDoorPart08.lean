/- Part 8 of a proof of a law of this seat: no statement of the seat is proved here. -/
import Derived.Test.YtnoompnjibfbfaaGreatDoorPart05
set_option linter.unusedVariables false
set_option linter.unusedSimpArgs false
namespace Go.Proofs
open Go Go.Sx
set_option maxRecDepth 100000
set_option linter.unusedVariables false
section
variable {V : Mem} {R : RP}
def w162 (v0 : Option Addr) : MR := fun V R =>
 ¬ v0 = none /\ ¬ v0 = none /\ ¬ (qAa v0 0) = none /\ ∃ v1, V.rowp v0 1 1 = some [uL v1] /\
 Lp [uP none, uI 0] V fun I n V1 => ∀ v2 v3, I n [uP v2, uI v3] V1 -> ∀ J0 : LMP, Nx I n J0 ->
 Br (v3 < (v1.n : Int))
 (Ix v1 v3 (∃ v4 v5, V1.rowp v1.p (v3.toNat * 2) 2 = some [uS v4, uL v5] /\
 ¬ v0 = none /\ ¬ v0 = none /\ ¬ (qAa v0 0) = none /\ ∃ v6, V1.rowp v0 1 1 = some [uL v6] /\
 TB 215 #[uL v6, uI v3, .func (.func 216) #[] #[]] V1 fun v7 V2 =>
 Br (v7 = true)
 (qAo [uS v4, uI (-1), uI 10] 195 V2 fun v8 V3 =>
 R (rV (uP (qAa v8 0))) V3)
 (IR (v3 + 1) /\ J0 [uP v2, uI (v3 + 1)] V2)))
 (¬ v0 = none /\ ¬ v0 = none /\ ¬ (qAa v0 0) = none /\ ∃ v4, V1.rowp v0 1 1 = some [uL v4] /\
 Lp [uP v2, uI 0] V1 fun I n V2 => ∀ v5 v6, I n [uP v5, uI v6] V2 -> ∀ J1 : LMP, Nx I n J1 ->
 Br (v6 < (v4.n : Int))
 (Ix v4 v6 (∃ v7 v8, V2.rowp v4.p (v6.toNat * 2) 2 = some [uS v7, uL v8] /\
 TI 217 #[uP v0, uL v8] V2 fun v9 V3 =>
 Br (v9 = 0)
 (IR (v6 + 1) /\ J1 [uP v5, uI (v6 + 1)] V3)
 (qAo [uS v7, uI (-1), uI v9] 195 V3 fun v10 V4 =>
 R (rV (uP (qAa v10 0))) V4)))
 (¬ v0 = none /\ ¬ v0 = none /\ ¬ (qAa v0 0) = none /\ ∃ v7, V2.rowp v0 2 1 = some [uL v7] /\
 Lp [uP v5, uI 0] V2 fun I n V3 => ∀ v8 v9, I n [uP v8, uI v9] V3 -> ∀ J2 : LMP, Nx I n J2 ->
 Br (v9 < (v7.n : Int))
 (Ix v7 v9 (∃ v10 v11, V3.rowp v7.p (v9.toNat * 2) 2 = some [uS v10, uS v11] /\
 ¬ v0 = none /\ ¬ v0 = none /\ ¬ (qAa v0 0) = none /\ ∃ v12, V3.rowp v0 2 1 = some [uL v12] /\
 TB 218 #[uL v12, uI v9, .func (.func 219) #[] #[]] V3 fun v13 V4 =>
 Br (v13 = true)
 (qAo [uS v10, uI (-1), uI 10] 195 V4 fun v14 V5 =>
 R (rV (uP (qAa v14 0))) V5)
 (TB 220 #[uP v0, uS v11] V4 fun v14 V5 =>
 Br (v14 = true)
 (IR (v9 + 1) /\ J2 [uP v8, uI (v9 + 1)] V5)
 (qAo [uS v10, uI (-1), uI 9] 195 V5 fun v15 V6 =>
 R (rV (uP (qAa v15 0))) V6))))
 (R (rV (uP none)) V3)))
theorem x162 {v0 : Option Addr} (h : w162 v0 V R) : TT 162 #[uP v0] V R := trx Tryz.func162 h
def w163 (v0 : Option Addr) : MR := fun V R =>
 ¬ v0 = none /\ ¬ v0 = none /\ ¬ (qAa v0 0) = none /\ ∃ v1, V.rowp v0 3 1 = some [uL v1] /\
 Lp [uP none, uI 0] V fun I n V1 => ∀ v2 v3, I n [uP v2, uI v3] V1 -> ∀ J0 : LMP, Nx I n J0 ->
 Br (v3 < (v1.n : Int))
 (Ix v1 v3 (∃ v4 v5 v6 v7 v8, V1.rowp v1.p (v3.toNat * 5) 5 = some [uS v4, uL v5, uS v6, uL v7, uL v8] /\
 ¬ v0 = none /\ ¬ v0 = none /\ ¬ (qAa v0 0) = none /\ ∃ v9, V1.rowp v0 3 1 = some [uL v9] /\
 TB 221 #[uL v9, uI v3, .func (.func 222) #[] #[]] V1 fun v10 V2 =>
 Br (v10 = true)
 (qAo [uS v4, uI (-1), uI 10] 195 V2 fun v11 V3 =>
 R (rV (uP (qAa v11 0))) V3)
 (qAo [uL v5, uL v7] 23 V2 fun v11 V3 =>
 TL 223 #[.slice (qAa v11 0) 2 2] V3 fun v12 V4 =>
 TI 217 #[uP v0, uL v12] V4 fun v13 V5 =>
 Br (v13 = 0)
 (Br (v6 = (qAj []))
 (IR (v3 + 1) /\ J0 [uP v2, uI (v3 + 1)] V5)
 (TB 220 #[uP v0, uS v6] V5 fun v14 V6 =>
 Br (v14 = true)
 (IR (v3 + 1) /\ J0 [uP v2, uI (v3 + 1)] V6)
 (qAo [uS v4, uI (-1), uI 9] 195 V6 fun v15 V7 =>
 R (rV (uP (qAa v15 0))) V7)))
 (qAo [uS v4, uI (-1), uI v13] 195 V5 fun v14 V6 =>
 R (rV (uP (qAa v14 0))) V6))))
 (R (rV (uP none)) V1)
theorem x163 {v0 : Option Addr} (h : w163 v0 V R) : TT 163 #[uP v0] V R := trx Tryz.func163 h
def w164 (v0 : Option Addr) : MR := fun V R =>
 ¬ v0 = none /\ ¬ v0 = none /\ ¬ (qAa v0 0) = none /\ ∃ v1, V.rowp v0 4 1 = some [uL v1] /\
 Lp [uP none, uI 0] V fun I n V1 => ∀ v2 v3, I n [uP v2, uI v3] V1 -> ∀ J0 : LMP, Nx I n J0 ->
 Br (v3 < (v1.n : Int))
 (Ix v1 v3 (∃ v4 v5 v6 v7 v8 v9 v10, V1.rowp v1.p (v3.toNat * 7) 7 = some [uS v4, uS v5, uI v6, uI v7, uI v8, uS v9, uL v10] /\
 ¬ v0 = none /\ ¬ v0 = none /\ ¬ (qAa v0 0) = none /\ ∃ v11, V1.rowp v0 4 1 = some [uL v11] /\
 TB 224 #[uL v11, uI v3, .func (.func 225) #[] #[]] V1 fun v12 V2 =>
 Br (v12 = true)
 (qAo [uS v4, uI (-1), uI 10] 195 V2 fun v13 V3 =>
 R (rV (uP (qAa v13 0))) V3)
 (TB 88 #[uP v0, uS v5] V2 fun v13 V3 =>
 Br (v13 = true)
 (IR (v3 + 1) /\ J0 [uP v2, uI (v3 + 1)] V3)
 (qAo [uS v4, uI (-1), uI 9] 195 V3 fun v14 V4 =>
 R (rV (uP (qAa v14 0))) V4))))
 (¬ v0 = none /\ ¬ v0 = none /\ ¬ (qAa v0 0) = none /\ ∃ v4, V1.rowp v0 5 1 = some [uL v4] /\
 Lp [uP v2, uI 0] V1 fun I n V2 => ∀ v5 v6, I n [uP v5, uI v6] V2 -> ∀ J1 : LMP, Nx I n J1 ->
 Br (v6 < (v4.n : Int))
 (Ix v4 v6 (∃ v7 v8 v9 v10 v11 v12, V2.rowp v4.p (v6.toNat * 6) 6 = some [uS v7, uS v8, uI v9, uI v10, uS v11, uL v12] /\
 ¬ v0 = none /\ ¬ v0 = none /\ ¬ (qAa v0 0) = none /\ ∃ v13, V2.rowp v0 5 1 = some [uL v13] /\
 TB 226 #[uL v13, uI v6, .func (.func 227) #[] #[]] V2 fun v14 V3 =>
 Br (v14 = true)
 (qAo [uS v7, uI (-1), uI 10] 195 V3 fun v15 V4 =>
 R (rV (uP (qAa v15 0))) V4)
 (Br (v8 = (qAj []))
 (IR (v6 + 1) /\ J1 [uP v5, uI (v6 + 1)] V3)
 (TB 88 #[uP v0, uS v8] V3 fun v15 V4 =>
 Br (v15 = true)
 (IR (v6 + 1) /\ J1 [uP v5, uI (v6 + 1)] V4)
 (qAo [uS v7, uI (-1), uI 9] 195 V4 fun v16 V5 =>
 R (rV (uP (qAa v16 0))) V5)))))
 (¬ v0 = none /\ ¬ v0 = none /\ ¬ (qAa v0 0) = none /\ ∃ v7, V2.rowp v0 6 1 = some [uL v7] /\
 Lp [uP v5, uI 0] V2 fun I n V3 => ∀ v8 v9, I n [uP v8, uI v9] V3 -> ∀ J2 : LMP, Nx I n J2 ->
 Br (v9 < (v7.n : Int))
 (Ix v7 v9 (∃ v10 v11 v12 v13 v14, V3.rowp v7.p (v9.toNat * 5) 5 = some [uS v10, uI v11, uI v12, uS v13, uL v14] /\
 Br (v10 = (qAj []))
 (IR (v9 + 1) /\ J2 [uP v8, uI (v9 + 1)] V3)
 (TB 88 #[uP v0, uS v10] V3 fun v15 V4 =>
 Br (v15 = true)
 (IR (v9 + 1) /\ J2 [uP v8, uI (v9 + 1)] V4)
 (qAo [uS (qAj [112, 111, 116, 101, 110, 116, 105, 97, 108]), uI (-1), uI 9] 195 V4 fun v16 V5 =>
 R (rV (uP (qAa v16 0))) V5))))
 (¬ v0 = none /\ ¬ v0 = none /\ ¬ (qAa v0 0) = none /\ ∃ v10, V3.rowp v0 7 1 = some [uL v10] /\
 Lp [uP v8, uI 0] V3 fun I n V4 => ∀ v11 v12, I n [uP v11, uI v12] V4 -> ∀ J3 : LMP, Nx I n J3 ->
 Br (v12 < (v10.n : Int))
 (Ix v10 v12 (∃ v13 v14 v15 v16 v17, V4.rowp v10.p (v12.toNat * 5) 5 = some [uS v13, uI v14, uI v15, uS v16, uL v17] /\
 ¬ v0 = none /\ ¬ v0 = none /\ ∃ v18, V4.rowp v0 9 1 = some [uM v18] /\
 qBt Tryz.prog 208 (uM v18) (uS v13) true V4 fun x => ∃ v19 v20 v21 v22 v23 v24, x = .tuple #[uA #[uS v19, uL v20, uS v21, uL v22, uL v23], uB v24] /\
 Br (v24 = true)
 (¬ v0 = none /\ ¬ v0 = none /\ ¬ (qAa v0 0) = none /\ ∃ v25, V4.rowp v0 7 1 = some [uL v25] /\
 TB 228 #[uL v25, uI v12, .func (.func 229) #[] #[]] V4 fun v26 V5 =>
 Br (v26 = true)
 (qAo [uS v13, uI (-1), uI 10] 195 V5 fun v27 V6 =>
 R (rV (uP (qAa v27 0))) V6)
 (IR (v12 + 1) /\ J3 [uP v11, uI (v12 + 1)] V5))
 (qAo [uS v13, uI (-1), uI 9] 195 V4 fun v25 V5 =>
 R (rV (uP (qAa v25 0))) V5)))
 (R (rV (uP none)) V4))))
theorem x164 {v0 : Option Addr} (h : w164 v0 V R) : TT 164 #[uP v0] V R := trx Tryz.func164 h
def w165 (v0 : Option Addr) : MR := fun V R =>
 ¬ v0 = none /\ ¬ v0 = none /\ ¬ (qAa v0 0) = none /\ ∃ v1, V.rowp v0 3 1 = some [uL v1] /\
 Lp [uP none, uI 0] V fun I n V1 => ∀ v2 v3, I n [uP v2, uI v3] V1 -> ∀ J0 : LMP, Nx I n J0 ->
 Br (v3 < (v1.n : Int))
 (Ix v1 v3 (∃ v4 v5 v6 v7 v8, V1.rowp v1.p (v3.toNat * 5) 5 = some [uS v4, uL v5, uS v6, uL v7, uL v8] /\
 TT 230 #[uP v0, uA #[uS v4, uL v5, uS v6, uL v7, uL v8]] V1 fun e V2 => ∃ v9 v10 v11, e = rV (uA #[uP v9, uM v10, uB v11]) /\
 qAo [uI 0] 3 V2 fun v12 V3 =>
 TT 231 #[uA #[uP v9, uM v10, uB v11], uL v8, uS v6, uP (qAa v12 0)] V3 fun e V4 => ∃ v13 v14, e = rT #[uI v13, uI v14] /\
 Br (v14 = 0)
 (IR (v3 + 1) /\ J0 [uP v2, uI (v3 + 1)] V4)
 (qAo [uS v4, uI v13, uI v14] 195 V4 fun v15 V5 =>
 R (rV (uP (qAa v15 0))) V5)))
 (R (rV (uP none)) V1)
theorem x165 {v0 : Option Addr} (h : w165 v0 V R) : TT 165 #[uP v0] V R := trx Tryz.func165 h
def w166 (v0 : Option Addr) : MR := fun V R =>
 ¬ v0 = none /\ ¬ v0 = none /\ ¬ (qAa v0 0) = none /\ ∃ v1, V.rowp v0 4 1 = some [uL v1] /\
 Lp [uP none, uI 0] V fun I n V1 => ∀ v2 v3, I n [uP v2, uI v3] V1 -> ∀ J0 : LMP, Nx I n J0 ->
 Br (v3 < (v1.n : Int))
 (Ix v1 v3 (∃ v4 v5 v6 v7 v8 v9 v10, V1.rowp v1.p (v3.toNat * 7) 7 = some [uS v4, uS v5, uI v6, uI v7, uI v8, uS v9, uL v10] /\
 TT 89 #[uP v0, uS v5] V1 fun e V2 => ∃ v11 v12 v13, e = rV (uA #[uP v11, uM v12, uB v13]) /\
 TP 232 #[uA #[uP v11, uM v12, uB v13], uS v4, uA #[uI v7, uI v8, uS v9, uL v10], uS (qAj [105, 110, 116])] V2 fun v14 V3 =>
 Br (v14 = none)
 (IR (v3 + 1) /\ J0 [uP v2, uI (v3 + 1)] V3)
 (R (rV (uP v14)) V3)))
 (¬ v0 = none /\ ¬ v0 = none /\ ¬ (qAa v0 0) = none /\ ∃ v4, V1.rowp v0 5 1 = some [uL v4] /\
 Lp [uP v2, uI 0] V1 fun I n V2 => ∀ v5 v6, I n [uP v5, uI v6] V2 -> ∀ J1 : LMP, Nx I n J1 ->
 Br (v6 < (v4.n : Int))
 (Ix v4 v6 (∃ v7 v8 v9 v10 v11 v12, V2.rowp v4.p (v6.toNat * 6) 6 = some [uS v7, uS v8, uI v9, uI v10, uS v11, uL v12] /\
 TT 89 #[uP v0, uS v8] V2 fun e V3 => ∃ v13 v14 v15, e = rV (uA #[uP v13, uM v14, uB v15]) /\
 TP 232 #[uA #[uP v13, uM v14, uB v15], uS v7, uA #[uI v9, uI v10, uS v11, uL v12], uS (qAj [98, 111, 111, 108])] V3 fun v16 V4 =>
 Br (v16 = none)
 (IR (v6 + 1) /\ J1 [uP v5, uI (v6 + 1)] V4)
 (R (rV (uP v16)) V4)))
 (¬ v0 = none /\ ¬ v0 = none /\ ¬ (qAa v0 0) = none /\ ∃ v7, V2.rowp v0 6 1 = some [uL v7] /\
 Lp [uP v5, uI 0] V2 fun I n V3 => ∀ v8 v9, I n [uP v8, uI v9] V3 -> ∀ J2 : LMP, Nx I n J2 ->
 Br (v9 < (v7.n : Int))
 (Ix v7 v9 (∃ v10 v11 v12 v13 v14, V3.rowp v7.p (v9.toNat * 5) 5 = some [uS v10, uI v11, uI v12, uS v13, uL v14] /\
 TT 89 #[uP v0, uS v10] V3 fun e V4 => ∃ v15 v16 v17, e = rV (uA #[uP v15, uM v16, uB v17]) /\
 TP 232 #[uA #[uP v15, uM v16, uB v17], uS (qAj [112, 111, 116, 101, 110, 116, 105, 97, 108]), uA #[uI v11, uI v12, uS v13, uL v14], uS (qAj [105, 110, 116])] V4 fun v18 V5 =>
 Br (v18 = none)
 (IR (v9 + 1) /\ J2 [uP v8, uI (v9 + 1)] V5)
 (R (rV (uP v18)) V5)))
 (¬ v0 = none /\ ¬ v0 = none /\ ¬ (qAa v0 0) = none /\ ∃ v10, V3.rowp v0 7 1 = some [uL v10] /\
 Lp [uP v8, uI 0] V3 fun I n V4 => ∀ v11 v12, I n [uP v11, uI v12] V4 -> ∀ J3 : LMP, Nx I n J3 ->
 Br (v12 < (v10.n : Int))
 (Ix v10 v12 (∃ v13 v14 v15 v16 v17, V4.rowp v10.p (v12.toNat * 5) 5 = some [uS v13, uI v14, uI v15, uS v16, uL v17] /\
 ¬ v0 = none /\ ¬ v0 = none /\ ∃ v18, V4.rowp v0 9 1 = some [uM v18] /\
 qBt Tryz.prog 208 (uM v18) (uS v13) false V4 fun x => ∃ v19 v20 v21 v22 v23, x = uA #[uS v19, uL v20, uS v21, uL v22, uL v23] /\
 TT 233 #[uP v0, uA #[uS v19, uL v20, uS v21, uL v22, uL v23]] V4 fun e V5 => ∃ v24 v25 v26, e = rV (uA #[uP v24, uM v25, uB v26]) /\
 TP 232 #[uA #[uP v24, uM v25, uB v26], uS v13, uA #[uI v14, uI v15, uS v16, uL v17], uS (qAj [105, 110, 116])] V5 fun v27 V6 =>
 Br (v27 = none)
 (IR (v12 + 1) /\ J3 [uP v11, uI (v12 + 1)] V6)
 (R (rV (uP v27)) V6)))
 (R (rV (uP none)) V4))))
theorem x166 {v0 : Option Addr} (h : w166 v0 V R) : TT 166 #[uP v0] V R := trx Tryz.func166 h
def w167 (v0 : Sl) (v1 : Option Addr) : MR := fun V R =>
 TB 168 #[uL v0, .func (.func 169) #[] #[uP v1]] V fun v2 V1 =>
 R (rV (uB (!v2))) V1
theorem x167 {v0 : Sl} {v1 : Option Addr} (h : w167 v0 v1 V R) : TT 167 #[uL v0, uP v1] V R := trx Tryz.func167 h
def w168 (v0 : Sl) (v1 : Value) : MR := fun V R =>
 TI 141 #[uL v0, K.cast .f v1] V fun v2 V1 =>
 R (rV (uB (decide (0 <= v2)))) V1
theorem x168 {v0 : Sl} {v1 : Value} (h : w168 v0 v1 V R) : TT 168 #[uL v0, K.cast .f v1] V R :=
 qBu Tryz.func168 [] [] false [uL v0, v1] (by kernel_rfl) (by kernel_rfl) h
def w169 (v0 v1 : ByteArray) (v2 : Option Addr) : MR := fun V R =>
 TB 170 #[uS v1] V fun v3 V1 =>
 Br (v3 = true)
 (R (rV (uB false)) V1)
 (∃ v4, V1.rowp v2 ((0 : Int).toNat * 1) 1 = some [uM v4] /\
 TB 171 #[uM v4, uS v1] V1 fun v5 V2 =>
 R (rV (uB (!v5))) V2)
theorem x169 {v0 v1 : ByteArray} {v2 : Option Addr} (h : w169 v0 v1 v2 V R) : TT 169 #[uA #[uS v0, uS v1], uP v2] V R := trx Tryz.func169 h
def w170 (v0 : ByteArray) : MR := fun V R =>
 Br (v0 = (qAj [105, 110, 116]))
 (R (rV (uB true)) V)
 (R (rV (uB (decide (v0 = (qAj [98, 111, 111, 108]))))) V)
theorem x170 {v0 : ByteArray} (h : w170 v0 V R) : TT 170 #[uS v0] V R := trx Tryz.func170 h
def w171 (v0 : Option Nat) (v1 : ByteArray) : MR := fun V R =>
 qBt Tryz.prog 197 (uM v0) (uS v1) true V fun x => ∃ v2 v3, x = .tuple #[uI v2, uB v3] /\
 R (rV (uB v3)) V
theorem x171 {v0 : Option Nat} {v1 : ByteArray} (h : w171 v0 v1 V R) : TT 171 #[uM v0, uS v1] V R := trx Tryz.func171 h
def w172 (v0 : ByteArray) (v1 : Sl) (v2 : Option Addr) : MR := fun V R =>
 ∃ v3, K.f.ok v3 /\ V.rowp v2 ((0 : Int).toNat * 1) 1 = some [v3] /\
 ∃ f first caps, K.cast .f v3 = .func (.func f) first caps /\ CO f /\
 TT f (first ++ #[uL v1] ++ caps) V fun e V1 => ∃ v4, e = rV (uB v4) /\
 R (rV (uB (!v4))) V1
theorem x172 {v0 : ByteArray} {v1 : Sl} {v2 : Option Addr} (h : w172 v0 v1 v2 V R) : TT 172 #[uA #[uS v0, uL v1], uP v2] V R := trx Tryz.func172 h
def w173 (v0 : Sl) (v1 : Value) : MR := fun V R =>
 TI 234 #[uL v0, K.cast .f v1] V fun v2 V1 =>
 R (rV (uB (decide (0 <= v2)))) V1
theorem x173 {v0 : Sl} {v1 : Value} (h : w173 v0 v1 V R) : TT 173 #[uL v0, K.cast .f v1] V R :=
 qBu Tryz.func173 [] [] false [uL v0, v1] (by kernel_rfl) (by kernel_rfl) h
def w174 (v0 : Int) (v1 : Sl) (v2 : Option Addr) : MR := fun V R =>
 Br (v0 < 0)
 (R (rV (uB true)) V)
 (¬ v2 = none /\ ∃ v3, V.rowp v2 1 1 = some [uL v3] /\
 R (rV (uB (decide ((v3.n : Int) <= v0)))) V)
theorem x174 {v0 : Int} {v1 : Sl} {v2 : Option Addr} (h : w174 v0 v1 v2 V R) : TT 174 #[uA #[uI v0, uL v1], uP v2] V R := trx Tryz.func174 h
def w175 (v0 : Option Nat) (v1 v2 v3 v4 : Sl) : MR := fun V R =>
 Br ((v3.n : Int) = (v4.n : Int))
 (Lp [uB false, uI 0] V fun I n V1 => ∀ v5 v6, I n [uB v5, uI v6] V1 -> ∀ J0 : LMP, Nx I n J0 ->
 Br (v6 < (v3.n : Int))
 (Ix v3 v6 (∃ v7 v8, V1.rowp v3.p (v6.toNat * 2) 2 = some [uS v7, uS v8] /\
 Ix v4 v6 (∃ v9, V1.rowp v4.p (v6.toNat * 1) 1 = some [uI v9] /\
 TB 235 #[uM v0, uA #[uL v1, uL v2], uS v8, uI v9] V1 fun v10 V2 =>
 Br (v10 = true)
 (IR (v6 + 1) /\ J0 [uB v5, uI (v6 + 1)] V2)
 (R (rV (uB false)) V2))))
 (R (rV (uB true)) V1))
 (R (rV (uB false)) V)
theorem x175 {v0 : Option Nat} {v1 v2 v3 v4 : Sl} (h : w175 v0 v1 v2 v3 v4 V R) : TT 175 #[uM v0, uA #[uL v1, uL v2], uL v3, uL v4] V R := trx Tryz.func175 h
def w176 (v0 : Int) (v1 : Sl) (v2 v3 v4 : Option Addr) : MR := fun V R =>
 ∃ v5, V.rowp v2 ((0 : Int).toNat * 1) 1 = some [uM v5] /\
 ∃ v6 v7, V.rowp v3 ((0 : Int).toNat * 1) 2 = some [uL v6, uL v7] /\
 ¬ v4 = none /\ ∃ v8, V.rowp v4 1 1 = some [uL v8] /\
 Ix v8 v0 (¬ (qAa v8.p (v0.toNat * 2)) = none /\ ∃ v9 v10, V.rowp v8.p (v0.toNat * 2) 2 = some [uS v9, uL v10] /\
 TB 175 #[uM v5, uA #[uL v6, uL v7], uL v10, uL v1] V fun v11 V1 =>
 R (rV (uB (!v11))) V1)
theorem x176 {v0 : Int} {v1 : Sl} {v2 v3 v4 : Option Addr} (h : w176 v0 v1 v2 v3 v4 V R) : TT 176 #[uA #[uI v0, uL v1], uP v2, uP v3, uP v4] V R := trx Tryz.func176 h
def w180 (v0 : Int) : MR := fun V R =>
 Br (48 <= v0)
 (R (rV (uB (decide (v0 <= 57)))) V)
 (R (rV (uB false)) V)
theorem x180 {v0 : Int} (h : w180 v0 V R) : TT 180 #[.int .u8 v0] V R := trx Tryz.func180 h
def w181 (v0 : Sl) (v1 : ByteArray) : MR := fun V R =>
 Lp [uB false, uI 0] V fun I n V1 => ∀ v2 v3, I n [uB v2, uI v3] V1 -> ∀ J0 : LMP, Nx I n J0 ->
 Br (v3 < (v0.n : Int))
 (Ix v0 v3 (∃ v4, V1.rowp v0.p (v3.toNat * 1) 1 = some [uS v4] /\
 Br (v4 = v1)
 (R (rV (uB true)) V1)
 (IR (v3 + 1) /\ J0 [uB v2, uI (v3 + 1)] V1)))
 (R (rV (uB false)) V1)
theorem x181 {v0 : Sl} {v1 : ByteArray} (h : w181 v0 v1 V R) : TT 181 #[uL v0, uS v1] V R := trx Tryz.func181 h
def w182  : MR := fun V R =>
 qAo [uS (qAj [116, 121, 112, 101]), uS (qAj [118, 97, 114]), uS (qAj [112, 114, 111, 99]), uS (qAj [108, 111, 99, 97, 108]), uS (qAj [109, 101, 97, 115, 117, 114, 101]), uS (qAj [105, 110, 118, 97, 114, 105, 97, 110, 116]), uS (qAj [112, 111, 116, 101, 110, 116, 105, 97, 108]), uS (qAj [98, 111, 117, 110, 100]), uS (qAj [105, 102]), uS (qAj [101, 108, 115, 101]), uS (qAj [119, 104, 105, 108, 101]), uS (qAj [114, 101, 116, 117, 114, 110]), uS (qAj [110, 101, 119]), uS (qAj [110, 105, 108]), uS (qAj [116, 114, 117, 101]), uS (qAj [102, 97, 108, 115, 101]), uS (qAj [97, 110, 100]), uS (qAj [111, 114]), uS (qAj [110, 111, 116]), uS (qAj [109, 97, 120]), uS (qAj [109, 105, 110]), uS (qAj [108, 111, 103]), uS (qAj [105, 110, 116]), uS (qAj [98, 111, 111, 108]), uS (qAj [116, 104, 105, 115]), uS (qAj [115, 111, 114, 116]), uS (qAj [111, 112]), uS (qAj [114, 117, 108, 101]), uS (qAj [115, 112, 101, 99]), uS (qAj [100, 101, 115, 99]), uS (qAj [115, 99, 114, 105, 112, 116])] 9 V fun v0 V1 =>
 R (rV (.slice (qAa v0 0) 31 31)) V1
theorem x182 (h : w182 V R) : TT 182 #[] V R := trx Tryz.func182 h
def w183 (v0 : Int) (v1 : ByteArray) (v2 v3 v4 : Sl) : MR := fun V R =>
 Br ((v3.n : Int) = 0)
 (Br (v0 = 1)
 (TB 75 #[uS v1] V fun v5 V1 =>
 Br (v5 = true)
 (TB 236 #[uA #[uI v0, uS v1, uL v2, uL v3, uL v4], uI 1, uI 1] V1 fun v6 V2 =>
 Br (v6 = true)
 (R (rV (uB (decide ((v4.n : Int) = 0)))) V2)
 (R (rV (uB false)) V2))
 (R (rV (uB false)) V1))
 (Br (v0 = 2)
 (TB 75 #[uS v1] V fun v5 V1 =>
 Br (v5 = true)
 (TB 236 #[uA #[uI v0, uS v1, uL v2, uL v3, uL v4], uI 2, uI 2] V1 fun v6 V2 =>
 Br (v6 = true)
 (R (rV (uB (decide ((v4.n : Int) = 0)))) V2)
 (R (rV (uB false)) V2))
 (R (rV (uB false)) V1))
 (Br (v0 = 3)
 (Br (v1 = (qAj []))
 (TB 236 #[uA #[uI v0, uS v1, uL v2, uL v3, uL v4], uI 1, uI 1] V fun v5 V1 =>
 R (rV (uB v5)) V1)
 (R (rV (uB false)) V))
 (Br (v0 = 4)
 (Br (v1 = (qAj []))
 (TB 236 #[uA #[uI v0, uS v1, uL v2, uL v3, uL v4], uI 1, uI 1] V fun v5 V1 =>
 Br (v5 = true)
 (R (rV (uB (decide ((v4.n : Int) = 0)))) V1)
 (R (rV (uB false)) V1))
 (R (rV (uB false)) V))
 (Br (v0 = 5)
 (Br (v1 = (qAj []))
 (TB 236 #[uA #[uI v0, uS v1, uL v2, uL v3, uL v4], uI 0, uI 1] V fun v5 V1 =>
 Br (v5 = true)
 (R (rV (uB (decide ((v4.n : Int) = 0)))) V1)
 (R (rV (uB false)) V1))
 (R (rV (uB false)) V))
 (Br (v0 = 6)
 (Br (v1 = (qAj []))
 (TB 236 #[uA #[uI v0, uS v1, uL v2, uL v3, uL v4], uI 1, uI 1] V fun v5 V1 =>
 Br (v5 = true)
 (¬ v2.p = none /\ (0 : Int) <= (0 : Int) /\ 0 < (v2.n : Int) /\ ¬ (qAa v2.p ((0 : Int).toNat * 4)) = none /\ ∃ v6 v7 v8 v9, V1.rowp v2.p ((0 : Int).toNat * 4) 4 = some [uI v6, uI v7, uS v8, uL v9] /\
 Br (v6 = 7)
 (R (rV (uB (decide ((v4.n : Int) = 0)))) V1)
 (R (rV (uB false)) V1))
 (R (rV (uB false)) V1))
 (R (rV (uB false)) V))
 (R (rV (uB false)) V)))))))
 (Br (v0 = 1)
 (TB 75 #[uS v1] V fun v5 V1 =>
 Br (v5 = true)
 (TB 236 #[uA #[uI v0, uS v1, uL v2, uL v3, uL v4], uI 1, uI 1] V1 fun v6 V2 =>
 Br (v6 = true)
 (R (rV (uB false)) V2)
 (R (rV (uB false)) V2))
 (R (rV (uB false)) V1))
 (Br (v0 = 2)
 (TB 75 #[uS v1] V fun v5 V1 =>
 Br (v5 = true)
 (TB 236 #[uA #[uI v0, uS v1, uL v2, uL v3, uL v4], uI 2, uI 2] V1 fun v6 V2 =>
 Br (v6 = true)
 (R (rV (uB false)) V2)
 (R (rV (uB false)) V2))
 (R (rV (uB false)) V1))
 (Br (v0 = 3)
 (Br (v1 = (qAj []))
 (TB 236 #[uA #[uI v0, uS v1, uL v2, uL v3, uL v4], uI 1, uI 1] V fun v5 V1 =>
 R (rV (uB v5)) V1)
 (R (rV (uB false)) V))
 (Br (v0 = 4)
 (Br (v1 = (qAj []))
 (TB 236 #[uA #[uI v0, uS v1, uL v2, uL v3, uL v4], uI 1, uI 1] V fun v5 V1 =>
 Br (v5 = true)
 (R (rV (uB (decide ((v4.n : Int) = 0)))) V1)
 (R (rV (uB false)) V1))
 (R (rV (uB false)) V))
 (Br (v0 = 5)
 (Br (v1 = (qAj []))
 (TB 236 #[uA #[uI v0, uS v1, uL v2, uL v3, uL v4], uI 0, uI 1] V fun v5 V1 =>
 Br (v5 = true)
 (R (rV (uB false)) V1)
 (R (rV (uB false)) V1))
 (R (rV (uB false)) V))
 (Br (v0 = 6)
 (Br (v1 = (qAj []))
 (TB 236 #[uA #[uI v0, uS v1, uL v2, uL v3, uL v4], uI 1, uI 1] V fun v5 V1 =>
 Br (v5 = true)
 (¬ v2.p = none /\ (0 : Int) <= (0 : Int) /\ 0 < (v2.n : Int) /\ ¬ (qAa v2.p ((0 : Int).toNat * 4)) = none /\ ∃ v6 v7 v8 v9, V1.rowp v2.p ((0 : Int).toNat * 4) 4 = some [uI v6, uI v7, uS v8, uL v9] /\
 Br (v6 = 7)
 (R (rV (uB false)) V1)
 (R (rV (uB false)) V1))
 (R (rV (uB false)) V1))
 (R (rV (uB false)) V))
 (R (rV (uB false)) V)))))))
theorem x183 {v0 : Int} {v1 : ByteArray} {v2 v3 v4 : Sl} (h : w183 v0 v1 v2 v3 v4 V R) : TT 183 #[uA #[uI v0, uS v1, uL v2, uL v3, uL v4]] V R := trx Tryz.func183 h
def w184 (v0 : ByteArray) (v1 v2 v3 v4 v5 v6 v7 v8 : Sl) : MR := fun V R =>
 Lp [uI 0, uI 0] V fun I n V1 => ∀ v9 v10, I n [uI v9, uI v10] V1 -> ∀ J0 : LMP, Nx I n J0 ->
 Br (v10 < (v8.n : Int))
 (TI 185 #[uD v0 v1 v2 v3 v4 v5 v6 v7, uL v8, uI v10] V1 fun v11 V2 =>
 Br (v11 = 0)
 (IR (v10 + 1) /\ J0 [uI v9, uI (v10 + 1)] V2)
 (R (rV (uI v11)) V2))
 (R (rV (uI 0)) V1)
theorem x184 {v0 : ByteArray} {v1 v2 v3 v4 v5 v6 v7 v8 : Sl} (h : w184 v0 v1 v2 v3 v4 v5 v6 v7 v8 V R) : TT 184 #[uD v0 v1 v2 v3 v4 v5 v6 v7, uL v8] V R := trx Tryz.func184 h
def w185 (v0 : ByteArray) (v1 v2 v3 v4 v5 v6 v7 v8 : Sl) (v9 : Int) : MR := fun V R =>
 Lp [uI 0, uI 0] V fun I n V1 => ∀ v10 v11, I n [uI v10, uI v11] V1 -> ∀ J0 : LMP, Nx I n J0 ->
 Br (v11 < v9)
 (Ix v8 v11 (¬ (qAa v8.p (v11.toNat * 2)) = none /\ ∃ v12 v13, V1.rowp v8.p (v11.toNat * 2) 2 = some [uS v12, uS v13] /\
 Ix v8 v9 (¬ (qAa v8.p (v9.toNat * 2)) = none /\ ∃ v14 v15, V1.rowp v8.p (v9.toNat * 2) 2 = some [uS v14, uS v15] /\
 Br (v12 = v14)
 (R (rV (uI 10)) V1)
 (IR (v11 + 1) /\ J0 [uI v10, uI (v11 + 1)] V1))))
 (Ix v8 v9 (¬ (qAa v8.p (v9.toNat * 2)) = none /\ ∃ v12 v13, V1.rowp v8.p (v9.toNat * 2) 2 = some [uS v12, uS v13] /\
 TB 187 #[uD v0 v1 v2 v3 v4 v5 v6 v7, uS v13] V1 fun v14 V2 =>
 Br (v14 = true)
 (R (rV (uI 0)) V2)
 (R (rV (uI 9)) V2)))
theorem x185 {v0 : ByteArray} {v1 v2 v3 v4 v5 v6 v7 v8 : Sl} {v9 : Int} (h : w185 v0 v1 v2 v3 v4 v5 v6 v7 v8 v9 V R) : TT 185 #[uD v0 v1 v2 v3 v4 v5 v6 v7, uL v8, uI v9] V R := trx Tryz.func185 h
def w186 (v0 : ByteArray) (v1 v2 v3 v4 v5 v6 v7 : Sl) (v8 : ByteArray) : MR := fun V R =>
 Lp [uI 0, uI 0] V fun I n V1 => ∀ v9 v10, I n [uI v9, uI v10] V1 -> ∀ J0 : LMP, Nx I n J0 ->
 Br (v10 < (v3.n : Int))
 (Ix v3 v10 (¬ (qAa v3.p (v10.toNat * 5)) = none /\ ∃ v11 v12 v13 v14 v15, V1.rowp v3.p (v10.toNat * 5) 5 = some [uS v11, uL v12, uS v13, uL v14, uL v15] /\
 Br (v11 = v8)
 (R (rV (uI v10)) V1)
 (IR (v10 + 1) /\ J0 [uI v9, uI (v10 + 1)] V1)))
 (R (rV (uI (-1))) V1)
theorem x186 {v0 : ByteArray} {v1 v2 v3 v4 v5 v6 v7 : Sl} {v8 : ByteArray} (h : w186 v0 v1 v2 v3 v4 v5 v6 v7 v8 V R) : TT 186 #[uD v0 v1 v2 v3 v4 v5 v6 v7, uS v8] V R := trx Tryz.func186 h
def w187 (v0 : ByteArray) (v1 v2 v3 v4 v5 v6 v7 : Sl) (v8 : ByteArray) : MR := fun V R =>
 Br (v8 = (qAj [105, 110, 116]))
 (R (rV (uB true)) V)
 (Br (v8 = (qAj [98, 111, 111, 108]))
 (R (rV (uB true)) V)
 (TB 101 #[uD v0 v1 v2 v3 v4 v5 v6 v7, uS v8] V fun v9 V1 =>
 R (rV (uB v9)) V1))
theorem x187 {v0 : ByteArray} {v1 v2 v3 v4 v5 v6 v7 : Sl} {v8 : ByteArray} (h : w187 v0 v1 v2 v3 v4 v5 v6 v7 v8 V R) : TT 187 #[uD v0 v1 v2 v3 v4 v5 v6 v7, uS v8] V R := trx Tryz.func187 h
abbrev w188_0 (v21 : Sl) (v10 : ByteArray) (R : RP) (V2 : Mem) (v0 : ByteArray) (v1 : Sl) (v2 : Sl) (v3 : Sl) (v4 : Sl) (v5 : Sl) (v6 : Sl) (v7 : Sl) : Prop :=
 Br ((v21.n : Int) = 1)
 (Br (v10 = (qAj []))
 (R (rV (uI 11)) V2)
 (¬ v21.p = none /\ (0 : Int) <= (0 : Int) /\ 0 < (v21.n : Int) /\ ∃ v23, V2.rowp v21.p ((0 : Int).toNat * 1) 1 = some [uS v23] /\
 TB 104 #[uD v0 v1 v2 v3 v4 v5 v6 v7, uS v23, uS v10] V2 fun v24 V3 =>
 Br (v24 = true)
 (R (rV (uI 0)) V3)
 (R (rV (uI 11)) V3)))
 (R (rV (uI 11)) V2)
def w188 (v0 : ByteArray) (v1 v2 v3 v4 v5 v6 v7 : Sl) (v8 : ByteArray) (v9 : Sl) (v10 : ByteArray) (v11 v12 : Sl) (v13 : Int) (v14 : ByteArray) (v15 v16 v17 : Sl) : MR := fun V R =>
 TT 237 #[uD v0 v1 v2 v3 v4 v5 v6 v7, uA #[uS v8, uL v9, uS v10, uL v11, uL v12]] V fun e V1 => ∃ v18 v19, e = rV (uA #[uL v18, uB v19]) /\
 Br (v13 = 6)
 (¬ v15.p = none /\ (0 : Int) <= (0 : Int) /\ 0 < (v15.n : Int) /\ ∃ v20 v21 v22 v23, V1.rowp v15.p ((0 : Int).toNat * 4) 4 = some [uI v20, uI v21, uS v22, uL v23] /\
 TT 98 #[uD v0 v1 v2 v3 v4 v5 v6 v7, uA #[uL v18, uB v19], uA #[uI v20, uI v21, uS v22, uL v23]] V1 fun e V2 => ∃ v24 v25, e = rT #[uL v24, uI v25] /\
 Br (v25 = 0)
 (¬ v15.p = none /\ (0 : Int) <= (0 : Int) /\ 0 < (v15.n : Int) /\ ¬ (qAa v15.p ((0 : Int).toNat * 4)) = none /\ ∃ v26 v27 v28 v29, V2.rowp v15.p ((0 : Int).toNat * 4) 4 = some [uI v26, uI v27, uS v28, uL v29] /\
 TT 150 #[uD v0 v1 v2 v3 v4 v5 v6 v7, uS v28, uL v24] V2 fun e V3 => ∃ v30 v31, e = rT #[uS v30, uI v31] /\
 R (rV (uI v31)) V3)
 (R (rV (uI v25)) V2))
 (Lp [uI 0, .slice none 0 0, uI 0] V1 fun I n V2 => ∀ v20 v21 v22, I n [uI v20, uL v21, uI v22] V2 -> ∀ J0 : LMP, Nx I n J0 ->
 Br (v22 < (v15.n : Int))
 (Ix v15 v22 (∃ v23 v24 v25 v26, V2.rowp v15.p (v22.toNat * 4) 4 = some [uI v23, uI v24, uS v25, uL v26] /\
 TT 64 #[uD v0 v1 v2 v3 v4 v5 v6 v7, uA #[uL v18, uB v19], uA #[uI v23, uI v24, uS v25, uL v26]] V2 fun e V3 => ∃ v27 v28, e = rT #[uS v27, uI v28] /\
 Br (v28 = 0)
 (qAo [uS v27] 9 V3 fun v29 V4 =>
 qAq Tryz.prog (.call { callee := (.builtin .append), args := #[(.tmp 70), (.tmp 72)], argTypes := #[174, 174] }) 174 (gv [(70, uL v21), (72, .slice (qAa v29 0) 1 1)]) V4 fun x V5 => ∃ v30, x = uL v30 /\
 IR (v22 + 1) /\ J0 [uI v20, uL v30, uI (v22 + 1)] V5)
 (R (rV (uI v28)) V3)))
 (Br (v13 = 1)
 (TS 99 #[uL v18, uS v14] V2 fun v23 V3 =>
 Br (v23 = (qAj []))
 (R (rV (uI 9)) V3)
 (¬ v21.p = none /\ (0 : Int) <= (0 : Int) /\ 0 < (v21.n : Int) /\ ∃ v24, V3.rowp v21.p ((0 : Int).toNat * 1) 1 = some [uS v24] /\
 TB 104 #[uD v0 v1 v2 v3 v4 v5 v6 v7, uS v24, uS v23] V3 fun v25 V4 =>
 Br (v25 = true)
 (R (rV (uI 0)) V4)
 (R (rV (uI 11)) V4)))
 (Br (v13 = 2)
 (¬ v21.p = none /\ (0 : Int) <= (0 : Int) /\ 0 < (v21.n : Int) /\ ∃ v23, V2.rowp v21.p ((0 : Int).toNat * 1) 1 = some [uS v23] /\
 TT 100 #[uD v0 v1 v2 v3 v4 v5 v6 v7, uS v23, uS v14] V2 fun e V3 => ∃ v24 v25, e = rT #[uS v24, uI v25] /\
 Br (v25 = 0)
 (¬ v21.p = none /\ (0 : Int) <= (1 : Int) /\ 1 < (v21.n : Int) /\ ∃ v26, V3.rowp v21.p 1 1 = some [uS v26] /\
 TB 104 #[uD v0 v1 v2 v3 v4 v5 v6 v7, uS v26, uS v24] V3 fun v27 V4 =>
 Br (v27 = true)
 (R (rV (uI 0)) V4)
 (R (rV (uI 11)) V4))
 (R (rV (uI v25)) V3))
 (Br (v13 = 3)
 (¬ v21.p = none /\ (0 : Int) <= (0 : Int) /\ 0 < (v21.n : Int) /\ ∃ v23, V2.rowp v21.p ((0 : Int).toNat * 1) 1 = some [uS v23] /\
 Br (v23 = (qAj [98, 111, 111, 108]))
 (R (rV (uI 0)) V2)
 (R (rV (uI 11)) V2))
 (Br (v13 = 4)
 (¬ v21.p = none /\ (0 : Int) <= (0 : Int) /\ 0 < (v21.n : Int) /\ ∃ v23, V2.rowp v21.p ((0 : Int).toNat * 1) 1 = some [uS v23] /\
 Br (v23 = (qAj [98, 111, 111, 108]))
 (R (rV (uI 0)) V2)
 (R (rV (uI 11)) V2))
 (Br (v13 = 5)
 (Br ((v21.n : Int) = 0)
 (Br (v10 = (qAj []))
 (R (rV (uI 0)) V2)
 (w188_0 v21 v10 R V2 v0 v1 v2 v3 v4 v5 v6 v7))
 (w188_0 v21 v10 R V2 v0 v1 v2 v3 v4 v5 v6 v7))
 (R (rV (uI 0)) V2)))))))
theorem x188 {v0 : ByteArray} {v1 v2 v3 v4 v5 v6 v7 : Sl} {v8 : ByteArray} {v9 : Sl} {v10 : ByteArray} {v11 v12 : Sl} {v13 : Int} {v14 : ByteArray} {v15 v16 v17 : Sl} (h : w188 v0 v1 v2 v3 v4 v5 v6 v7 v8 v9 v10 v11 v12 v13 v14 v15 v16 v17 V R) : TT 188 #[uD v0 v1 v2 v3 v4 v5 v6 v7, uA #[uS v8, uL v9, uS v10, uL v11, uL v12], uA #[uI v13, uS v14, uL v15, uL v16, uL v17]] V R := trx Tryz.func188 h
def w189 (v0 : ByteArray) (v1 v2 v3 v4 v5 v6 v7 v8 : Sl) (v9 : Bool) (v10 v11 : Int) (v12 : ByteArray) (v13 : Sl) (v14 : ByteArray) : MR := fun V R =>
 TT 64 #[uD v0 v1 v2 v3 v4 v5 v6 v7, uA #[uL v8, uB v9], uA #[uI v10, uI v11, uS v12, uL v13]] V fun e V1 => ∃ v15 v16, e = rT #[uS v15, uI v16] /\
 Br (v16 = 0)
 (Br (v15 = v14)
 (R (rV (uI 0)) V1)
 (R (rV (uI 11)) V1))
 (R (rV (uI v16)) V1)
theorem x189 {v0 : ByteArray} {v1 v2 v3 v4 v5 v6 v7 v8 : Sl} {v9 : Bool} {v10 v11 : Int} {v12 : ByteArray} {v13 : Sl} {v14 : ByteArray} (h : w189 v0 v1 v2 v3 v4 v5 v6 v7 v8 v9 v10 v11 v12 v13 v14 V R) : TT 189 #[uD v0 v1 v2 v3 v4 v5 v6 v7, uA #[uL v8, uB v9], uA #[uI v10, uI v11, uS v12, uL v13], uS v14] V R := trx Tryz.func189 h
def w190 (v0 : ByteArray) (v1 v2 v3 v4 v5 v6 v7 : Sl) (v8 : ByteArray) (v9 : Sl) (v10 : ByteArray) (v11 v12 : Sl) : MR := fun V R =>
 qAo [] 110 V fun v13 V1 =>
 qAq Tryz.prog (.call { callee := (.builtin .append), args := #[(.tmp 5), (.tmp 7)], argTypes := #[23, 23] }) 23 (gv [(5, .slice (qAa v13 0) (0 : Int).toNat (0 : Int).toNat), (7, uL v9)]) V1 fun x V2 => ∃ v14, x = uL v14 /\
 qAq Tryz.prog (.call { callee := (.builtin .append), args := #[(.tmp 8), (.tmp 10)], argTypes := #[23, 23] }) 23 (gv [(8, uL v14), (10, uL v2)]) V2 fun x V3 => ∃ v15, x = uL v15 /\
 R (rV (uA #[uL v15, uB false])) V3
theorem x190 {v0 : ByteArray} {v1 v2 v3 v4 v5 v6 v7 : Sl} {v8 : ByteArray} {v9 : Sl} {v10 : ByteArray} {v11 v12 : Sl} (h : w190 v0 v1 v2 v3 v4 v5 v6 v7 v8 v9 v10 v11 v12 V R) : TT 190 #[uD v0 v1 v2 v3 v4 v5 v6 v7, uA #[uS v8, uL v9, uS v10, uL v11, uL v12]] V R := trx Tryz.func190 h
def w191 (v0 : Option Addr) (v1 : Int) : MR := fun V R =>
 ¬ v0 = none /\ ¬ v0 = none /\ ∃ v2, V.rowp v0 11 1 = some [uM v2] /\
 qBt Tryz.prog 150 (uM v2) (uI v1) false V fun x => ∃ v3, x = uI v3 /\
 Br (v3 = 0)
 (¬ v0 = none /\ ¬ v0 = none /\ ∃ v4, V.rowp v0 10 1 = some [uL v4] /\
 qAo [uI v1] 3 V fun v5 V1 =>
 qAq Tryz.prog (.call { callee := (.builtin .append), args := #[(.tmp 25), (.tmp 27)], argTypes := #[31, 31] }) 31 (gv [(25, uL v4), (27, .slice (qAa v5 0) 1 1)]) V1 fun x V2 => ∃ v6, x = uL v6 /\
 ¬ v0 = none /\ ¬ v0 = none /\ StT (qAa v0 10) 0 [uL v6] V2 fun V3 =>
 ¬ v0 = none /\ ¬ v0 = none /\ ∃ v7, V3.rowp v0 11 1 = some [uM v7] /\
 ¬ v0 = none /\ ¬ v0 = none /\ ∃ v8, V3.rowp v0 10 1 = some [uL v8] /\
 qGn Tryz.prog 150 (uM v7) (uI v1) (uI (v8.n : Int)) V3 fun V4 =>
 ¬ v0 = none /\ ¬ v0 = none /\ ¬ (qAa v0 8) = none /\ ∃ v9, V4.rowp v0 9 1 = some [uL v9] /\
 IR (v1 - 1) /\ Ix v9 (v1 - 1) (∃ v10 v11, V4.rowp v9.p ((v1 - 1).toNat * 2) 2 = some [uI v10, uL v11] /\
 ¬ v0 = none /\ ¬ v0 = none /\ ¬ (qAa v0 0) = none /\ ∃ v12, V4.rowp v0 1 1 = some [uL v12] /\
 Ix v12 v10 (¬ (qAa v12.p (v10.toNat * 2)) = none /\ ∃ v13 v14, V4.rowp v12.p (v10.toNat * 2) 2 = some [uS v13, uL v14] /\
 TT 133 #[uP v0, uL v14, uL v11] V4 fun e V5 => e = rT #[] /\
 R (rT #[]) V5)))
 (¬ v0 = none /\ ¬ v0 = none /\ ∃ v4, V.rowp v0 12 1 = some [uI v4] /\
 Br (v4 = 0)
 (¬ v0 = none /\ ¬ v0 = none /\ StT (qAa v0 12) 0 [uI v1] V fun V1 =>
 R (rT #[]) V1)
 (R (rT #[]) V))
theorem x191 {v0 : Option Addr} {v1 : Int} (h : w191 v0 v1 V R) : TT 191 #[uP v0, uI v1] V R := trx Tryz.func191 h
def w192 (v0 : Sl) : MR := fun V R =>
 qAo [uL v0] 23 V fun v1 V1 =>
 R (rV (.func (.func 238) #[] #[uP (qAa v1 0)])) V1
theorem x192 {v0 : Sl} (h : w192 v0 V R) : TT 192 #[uL v0] V R := trx Tryz.func192 h
def w193 (v0 : Option Addr) (v1 : Option Nat) (v2 : Bool) (v3 : ByteArray) (v4 : Sl) : MR := fun V R =>
 ¬ v0 = none /\ ¬ v0 = none /\ ¬ (qAa v0 0) = none /\ ∃ v5, V.rowp v0 4 1 = some [uL v5] /\
 qAo [uS v3] 9 V fun v6 V1 =>
 TI 70 #[uL v5, .func (.func 239) #[] #[uP (qAa v6 0)]] V1 fun v7 V2 =>
 Br (v7 < 0)
 (R (rT #[uS (qAj []), uI 9]) V2)
 (Br ((v4.n : Int) = 1)
 (¬ v4.p = none /\ (0 : Int) <= (0 : Int) /\ 0 < (v4.n : Int) /\ ∃ v8, V2.rowp v4.p ((0 : Int).toNat * 1) 1 = some [uS v8] /\
 ¬ v0 = none /\ ¬ v0 = none /\ ¬ (qAa v0 0) = none /\ ∃ v9, V2.rowp v0 4 1 = some [uL v9] /\
 Ix v9 v7 (¬ (qAa v9.p (v7.toNat * 7)) = none /\ ∃ v10 v11 v12 v13 v14 v15 v16, V2.rowp v9.p (v7.toNat * 7) 7 = some [uS v10, uS v11, uI v12, uI v13, uI v14, uS v15, uL v16] /\
 TB 194 #[uP v0, uS v8, uS v11] V2 fun v17 V3 =>
 Br (v17 = true)
 (R (rT #[uS (qAj [105, 110, 116]), uI 0]) V3)
 (R (rT #[uS (qAj []), uI 11]) V3)))
 (R (rT #[uS (qAj []), uI 3]) V2))
theorem x193 {v0 : Option Addr} {v1 : Option Nat} {v2 : Bool} {v3 : ByteArray} {v4 : Sl} (h : w193 v0 v1 v2 v3 v4 V R) : TT 193 #[uA #[uP v0, uM v1, uB v2], uS v3, uL v4] V R := trx Tryz.func193 h
def w194 (v0 : Option Addr) (v1 v2 : ByteArray) : MR := fun V R =>
 Br (v1 = v2)
 (R (rV (uB true)) V)
 (Br (v1 = (qAj [110, 105, 108]))
 (TB 88 #[uP v0, uS v2] V fun v3 V1 =>
 R (rV (uB v3)) V1)
 (R (rV (uB false)) V))
theorem x194 {v0 : Option Addr} {v1 v2 : ByteArray} (h : w194 v0 v1 v2 V R) : TT 194 #[uP v0, uS v1, uS v2] V R := trx Tryz.func194 h
def w195 (v0 v1 : ByteArray) (v2 : Option Addr) : MR := fun V R =>
 ∃ v3, V.rowp v2 ((0 : Int).toNat * 1) 1 = some [uL v3] /\
 qAo [uS v0] 9 V fun v4 V1 =>
 TB 196 #[uL v3, .func (.func 197) #[] #[uP (qAa v4 0)]] V1 fun v5 V2 =>
 Br (v5 = true)
 (R (rT #[uS (qAj []), uI 11]) V2)
 (R (rT #[uS v1, uI 0]) V2)
theorem x195 {v0 v1 : ByteArray} {v2 : Option Addr} (h : w195 v0 v1 v2 V R) : TT 195 #[uS v0, uS v1, uP v2] V R := trx Tryz.func195 h
def w196 (v0 : Sl) (v1 : Value) : MR := fun V R =>
 TI 240 #[uL v0, K.cast .f v1] V fun v2 V1 =>
 R (rV (uB (decide (0 <= v2)))) V1
theorem x196 {v0 : Sl} {v1 : Value} (h : w196 v0 v1 V R) : TT 196 #[uL v0, K.cast .f v1] V R :=
 qBu Tryz.func196 [] [] false [uL v0, v1] (by kernel_rfl) (by kernel_rfl) h
def w197 (v0 : ByteArray) (v1 : Option Addr) : MR := fun V R =>
 ∃ v2, V.rowp v1 ((0 : Int).toNat * 1) 1 = some [uS v2] /\
 R (rV (uB (!(decide (v0 = v2))))) V
theorem x197 {v0 : ByteArray} {v1 : Option Addr} (h : w197 v0 v1 V R) : TT 197 #[uS v0, uP v1] V R := trx Tryz.func197 h
def w198 (v0 : Option Addr) (v1 v2 : ByteArray) : MR := fun V R =>
 ¬ v0 = none /\ ¬ v0 = none /\ ∃ v3, V.rowp v0 8 1 = some [uM v3] /\
 qBt Tryz.prog 207 (uM v3) (uS v1) true V fun x => ∃ v4 v5 v6, x = .tuple #[uA #[uS v4, uL v5], uB v6] /\
 Br (v6 = true)
 (Lp [uS (qAj []), uI 0, uI 0] V fun I n V1 => ∀ v7 v8 v9, I n [uS v7, uI v8, uI v9] V1 -> ∀ J0 : LMP, Nx I n J0 ->
 Br (v9 < (v5.n : Int))
 (Ix v5 v9 (∃ v10 v11, V1.rowp v5.p (v9.toNat * 2) 2 = some [uS v10, uS v11] /\
 Br (v10 = v2)
 (R (rT #[uS v11, uI 0]) V1)
 (IR (v9 + 1) /\ J0 [uS v7, uI v8, uI (v9 + 1)] V1)))
 (R (rT #[uS (qAj []), uI 9]) V1))
 (R (rT #[uS (qAj []), uI 11]) V)
theorem x198 {v0 : Option Addr} {v1 v2 : ByteArray} (h : w198 v0 v1 v2 V R) : TT 198 #[uP v0, uS v1, uS v2] V R := trx Tryz.func198 h
def w199 (v0 : Int) : MR := fun V R =>
 Br (v0 < 0)
 (R (rT #[uI 0, uI 12]) V)
 (R (rT #[uI v0, uI 0]) V)
theorem x199 {v0 : Int} (h : w199 v0 V R) : TT 199 #[uI v0] V R := trx Tryz.func199 h
def w200 (v0 v1 : ByteArray) (v2 : Option Addr) : MR := fun V R =>
 ∃ v3, V.rowp v2 ((0 : Int).toNat * 1) 1 = some [uS v3] /\
 R (rV (uB (decide (v0 = v3)))) V
theorem x200 {v0 v1 : ByteArray} {v2 : Option Addr} (h : w200 v0 v1 v2 V R) : TT 200 #[uA #[uS v0, uS v1], uP v2] V R := trx Tryz.func200 h
def w201 (v0 : Int) : MR := fun V R =>
 IR (0 - v0) /\ qAq Tryz.prog (.call { callee := (.builtin .max), args := #[(.tmp 3), (.tmp 5)], argTypes := #[3, 3] }) 3 (gv [(3, uI v0), (5, uI (0 - v0))]) V fun x V1 => ∃ v1, x = uI v1 /\
 K.inR .u64 v1 /\ R (rV (.int .u64 v1)) V1
theorem x201 {v0 : Int} (h : w201 v0 V R) : TT 201 #[uI v0] V R := trx Tryz.func201 h
def w202 (v0 v1 : Int) : MR := fun V R =>
 qAq Tryz.prog (.binOp .shr 219 (.tmp 16) (.const (.int .u64 32)) 172) 219 (gv [(16, .int .u64 v0)]) V fun x V1 => ∃ v2, x = .int .u64 v2 /\
 qAq Tryz.prog (.binOp .shr 219 (.tmp 20) (.const (.int .u64 32)) 172) 219 (gv [(20, .int .u64 v1)]) V1 fun x V2 => ∃ v3, x = .int .u64 v3 /\
 qAq Tryz.prog (.binOp .shr 219 (.tmp 28) (.const (.int .u64 32)) 172) 219 (gv [(28, .int .u64 (IntKind.wrap .u64 ((Go.bits .and .u64 v0 (4294967295 : Int)) * (Go.bits .and .u64 v1 (4294967295 : Int)))))]) V2 fun x V3 => ∃ v4, x = .int .u64 v4 /\
 K.inR .u64 ((IntKind.wrap .u64 (v2 * (Go.bits .and .u64 v1 (4294967295 : Int)))) + v4) /\ qAq Tryz.prog (.binOp .shr 219 (.tmp 33) (.const (.int .u64 32)) 172) 219 (gv [(33, .int .u64 ((IntKind.wrap .u64 (v2 * (Go.bits .and .u64 v1 (4294967295 : Int)))) + v4))]) V3 fun x V4 => ∃ v5, x = .int .u64 v5 /\
 K.inR .u64 ((Go.bits .and .u64 ((IntKind.wrap .u64 (v2 * (Go.bits .and .u64 v1 (4294967295 : Int)))) + v4) (4294967295 : Int)) + (IntKind.wrap .u64 ((Go.bits .and .u64 v0 (4294967295 : Int)) * v3))) /\ K.inR .u64 ((IntKind.wrap .u64 (v2 * v3)) + v5) /\ qAq Tryz.prog (.binOp .shr 219 (.tmp 45) (.const (.int .u64 32)) 172) 219 (gv [(45, .int .u64 ((Go.bits .and .u64 ((IntKind.wrap .u64 (v2 * (Go.bits .and .u64 v1 (4294967295 : Int)))) + v4) (4294967295 : Int)) + (IntKind.wrap .u64 ((Go.bits .and .u64 v0 (4294967295 : Int)) * v3))))]) V4 fun x V5 => ∃ v6, x = .int .u64 v6 /\
 K.inR .u64 (((IntKind.wrap .u64 (v2 * v3)) + v5) + v6) /\ R (rT #[.int .u64 (((IntKind.wrap .u64 (v2 * v3)) + v5) + v6), .int .u64 (IntKind.wrap .u64 (v0 * v1))]) V5
theorem x202 {v0 v1 : Int} (h : w202 v0 v1 V R) : TT 202 #[.int .u64 v0, .int .u64 v1] V R := trx Tryz.func202 h
abbrev w203_0 (v0 : Int) (R : RP) (V : Mem) : Prop :=
 Br (65 <= v0)
 (Br (v0 <= 90)
 (R (rV (uI 2)) V)
 (Br (48 <= v0)
 (Br (v0 <= 57)
 (R (rV (uI 3)) V)
 (Br (v0 = 95)
 (R (rV (uI 4)) V)
 (R (rV (uI 0)) V)))
 (Br (v0 = 95)
 (R (rV (uI 4)) V)
 (R (rV (uI 0)) V))))
 (Br (48 <= v0)
 (Br (v0 <= 57)
 (R (rV (uI 3)) V)
 (Br (v0 = 95)
 (R (rV (uI 4)) V)
 (R (rV (uI 0)) V)))
 (Br (v0 = 95)
 (R (rV (uI 4)) V)
 (R (rV (uI 0)) V)))
def w203 (v0 : Int) : MR := fun V R =>
 Br (v0 = 32)
 (R (rV (uI 1)) V)
 (Br (v0 = 9)
 (R (rV (uI 1)) V)
 (Br (v0 = 13)
 (R (rV (uI 1)) V)
 (Br (v0 = 10)
 (R (rV (uI 1)) V)
 (Br (97 <= v0)
 (Br (v0 <= 122)
 (R (rV (uI 2)) V)
 (w203_0 v0 R V))
 (w203_0 v0 R V)))))
theorem x203 {v0 : Int} (h : w203 v0 V R) : TT 203 #[.int .u8 v0] V R := trx Tryz.func203 h
def w204 (v0 : ByteArray) : MR := fun V R =>
 TL 242 #[] V fun v1 V1 =>
 TT 241 #[uL v1, uS v0] V1 fun e V2 => ∃ v2 v3, e = rT #[uI v2, uB v3] /\
 R (rV (uB v3)) V2
theorem x204 {v0 : ByteArray} (h : w204 v0 V R) : TT 204 #[uS v0] V R := trx Tryz.func204 h
def w205 (v0 v1 : ByteArray) : MR := fun V R =>
 TB 152 #[uS v0] V fun v2 V1 =>
 Br (v2 = true)
 (TB 206 #[uS v1] V1 fun v3 V2 =>
 R (rV (uB (!v3))) V2)
 (R (rV (uB true)) V1)
theorem x205 {v0 v1 : ByteArray} (h : w205 v0 v1 V R) : TT 205 #[uA #[uS v0, uS v1]] V R := trx Tryz.func205 h
def w206 (v0 : ByteArray) : MR := fun V R =>
 Br (v0 = (qAj [105, 110, 116]))
 (R (rV (uB true)) V)
 (Br (v0 = (qAj [98, 111, 111, 108]))
 (R (rV (uB true)) V)
 (TB 152 #[uS v0] V fun v1 V1 =>
 R (rV (uB v1)) V1))
theorem x206 {v0 : ByteArray} (h : w206 v0 V R) : TT 206 #[uS v0] V R := trx Tryz.func206 h
def w207 (v0 : ByteArray) : MR := fun V R =>
 Br (v0 = (qAj []))
 (R (rV (uB true)) V)
 (TB 152 #[uS v0] V fun v1 V1 =>
 R (rV (uB v1)) V1)
theorem x207 {v0 : ByteArray} (h : w207 v0 V R) : TT 207 #[uS v0] V R := trx Tryz.func207 h
def w208 (v0 : Sl) (v1 : Value) : MR := fun V R =>
 TI 243 #[uL v0, K.cast .f v1] V fun v2 V1 =>
 R (rV (uB (decide (0 <= v2)))) V1
theorem x208 {v0 : Sl} {v1 : Value} (h : w208 v0 v1 V R) : TT 208 #[uL v0, K.cast .f v1] V R :=
 qBu Tryz.func208 [] [] false [uL v0, v1] (by kernel_rfl) (by kernel_rfl) h
def w209 (v0 : ByteArray) (v1 v2 : Int) (v3 : ByteArray) (v4 : Sl) : MR := fun V R =>
 TB 152 #[uS v0] V fun v5 V1 =>
 Br (v5 = true)
 (TB 59 #[uA #[uI v1, uI v2, uS v3, uL v4]] V1 fun v6 V2 =>
 R (rV (uB (!v6))) V2)
 (R (rV (uB true)) V1)
theorem x209 {v0 : ByteArray} {v1 v2 : Int} {v3 : ByteArray} {v4 : Sl} (h : w209 v0 v1 v2 v3 v4 V R) : TT 209 #[uA #[uS v0, uI v1, uI v2, uS v3, uL v4]] V R := trx Tryz.func209 h
def w210 (v0 : Sl) (v1 : Value) : MR := fun V R =>
 Lp [uI 0, uI 0] V fun I n V1 => ∀ v2 v3, I n [uI v2, uI v3] V1 -> ∀ J0 : LMP, Nx I n J0 ->
 Br (v3 < (v0.n : Int))
 (Ix v0 v3 (∃ v4 v5, V1.rowp v0.p (v3.toNat * 2) 2 = some [uS v4, uL v5] /\
 ∃ f first caps, K.cast .f v1 = .func (.func f) first caps /\ CO f /\
 TT f (first ++ #[uA #[uS v4, uL v5]] ++ caps) V1 fun e V2 => ∃ v6, e = rV (uB v6) /\
 Br (v6 = true)
 (R (rV (uI v3)) V2)
 (IR (v3 + 1) /\ J0 [uI v2, uI (v3 + 1)] V2)))
 (R (rV (uI (-1))) V1)
theorem x210 {v0 : Sl} {v1 : Value} (h : w210 v0 v1 V R) : TT 210 #[uL v0, K.cast .f v1] V R :=
 qBu Tryz.func210 [] [] false [uL v0, v1] (by kernel_rfl) (by kernel_rfl) h
def w211 (v0 : Sl) (v1 : Value) : MR := fun V R =>
 Lp [uI 0, uI 0] V fun I n V1 => ∀ v2 v3, I n [uI v2, uI v3] V1 -> ∀ J0 : LMP, Nx I n J0 ->
 Br (v3 < (v0.n : Int))
 (Ix v0 v3 (∃ v4 v5 v6 v7 v8, V1.rowp v0.p (v3.toNat * 5) 5 = some [uS v4, uL v5, uS v6, uL v7, uL v8] /\
 ∃ f first caps, K.cast .f v1 = .func (.func f) first caps /\ CO f /\
 TT f (first ++ #[uA #[uS v4, uL v5, uS v6, uL v7, uL v8]] ++ caps) V1 fun e V2 => ∃ v9, e = rV (uB v9) /\
 Br (v9 = true)
 (R (rV (uI v3)) V2)
 (IR (v3 + 1) /\ J0 [uI v2, uI (v3 + 1)] V2)))
 (R (rV (uI (-1))) V1)
theorem x211 {v0 : Sl} {v1 : Value} (h : w211 v0 v1 V R) : TT 211 #[uL v0, K.cast .f v1] V R :=
 qBu Tryz.func211 [] [] false [uL v0, v1] (by kernel_rfl) (by kernel_rfl) h
abbrev w212_0 (V : Mem) (v0 : Sl) (v2 : Option Addr) (R : RP) (v1 : Int) : Prop :=
 Lp [uB false, uI 0] V fun I n V1 => ∀ v3 v4, I n [uB v3, uI v4] V1 -> ∀ J0 : LMP, Nx I n J0 ->
 Br (v4 < (v0.n : Int))
 (Ix v0 v4 (∃ v5 v6 v7 v8 v9, V1.rowp v0.p (v4.toNat * 5) 5 = some [uI v5, uS v6, uL v7, uL v8, uL v9] /\
 TB 135 #[uP v2] V1 fun v10 V2 =>
 Br (v10 = true)
 (TB 244 #[uA #[uI v5, uS v6, uL v7, uL v8, uL v9]] V2 fun v11 V3 =>
 Br (v11 = true)
 (TB 57 #[uL v7, .func (.func 245) #[] #[]] V3 fun v12 V4 =>
 Br (v12 = true)
 (R (rV (uB false)) V4)
 (IR (v1 + 1) /\ TB 212 #[uL v8, uI (v1 + 1), uP v2] V4 fun v13 V5 =>
 Br (v13 = true)
 (IR (v1 + 1) /\ TB 212 #[uL v9, uI (v1 + 1), uP v2] V5 fun v14 V6 =>
 Br (v14 = true)
 (IR (v4 + 1) /\ J0 [uB v3, uI (v4 + 1)] V6)
 (R (rV (uB false)) V6))
 (R (rV (uB false)) V5)))
 (R (rV (uB false)) V3))
 (R (rV (uB false)) V2)))
 (R (rV (uB true)) V1)
def w212 (v0 : Sl) (v1 : Int) (v2 : Option Addr) : MR := fun V R =>
 Br (0 < (v0.n : Int))
 (Br (60 < v1)
 (R (rV (uB false)) V)
 (w212_0 V v0 v2 R v1))
 (w212_0 V v0 v2 R v1)
theorem x212 {v0 : Sl} {v1 : Int} {v2 : Option Addr} (h : w212 v0 v1 v2 V R) : TT 212 #[uL v0, uI v1, uP v2] V R := trx Tryz.func212 h
def w215 (v0 : Sl) (v1 : Int) (v2 : Value) : MR := fun V R =>
 (0 <= (0 : Int) /\ (0 : Int) <= v1 /\ v1 <= (v0.c : Int)) /\ qAo [K.cast .f v2] 271 V fun v3 V1 =>
 qAo [uL v0] 22 V1 fun v4 V2 =>
 qAo [uI v1] 3 V2 fun v5 V3 =>
 TB 155 #[.slice (if (v0.c : Int) = (0 : Int) then v0.p else qAa v0.p ((0 : Int).toNat * 2)) (v1 - 0).toNat ((v0.c : Int) - 0).toNat, .func (.func 246) #[] #[uP (qAa v3 0), uP (qAa v4 0), uP (qAa v5 0)]] V3 fun v6 V4 =>
 R (rV (uB v6)) V4
theorem x215 {v0 : Sl} {v1 : Int} {v2 : Value} (h : w215 v0 v1 v2 V R) : TT 215 #[uL v0, uI v1, K.cast .f v2] V R :=
 qBu Tryz.func215 [] [] false [uL v0, uI v1, v2] (by kernel_rfl) (by kernel_rfl) h
def w216 (v0 : ByteArray) (v1 : Sl) : MR := fun V R =>
 R (rV (uS v0)) V
theorem x216 {v0 : ByteArray} {v1 : Sl} (h : w216 v0 v1 V R) : TT 216 #[uA #[uS v0, uL v1]] V R := trx Tryz.func216 h
def w217 (v0 : Option Addr) (v1 : Sl) : MR := fun V R =>
 Lp [uI 0, uI 0] V fun I n V1 => ∀ v2 v3, I n [uI v2, uI v3] V1 -> ∀ J0 : LMP, Nx I n J0 ->
 Br (v3 < (v1.n : Int))
 (Ix v1 v3 (∃ v4 v5, V1.rowp v1.p (v3.toNat * 2) 2 = some [uS v4, uS v5] /\
 (0 <= (0 : Int) /\ (0 : Int) <= v3 /\ v3 <= (v1.c : Int)) /\ qAo [uS v4, uS v5] 110 V1 fun v6 V2 =>
 TB 168 #[.slice (if (v1.c : Int) = (0 : Int) then v1.p else qAa v1.p ((0 : Int).toNat * 2)) (v3 - 0).toNat ((v1.c : Int) - 0).toNat, .func (.func 247) #[] #[uP (qAa v6 0)]] V2 fun v7 V3 =>
 Br (v7 = true)
 (R (rV (uI 10)) V3)
 (¬ (qAa v6 0) = none /\ ∃ v8, V3.rowp v6 1 1 = some [uS v8] /\
 TB 220 #[uP v0, uS v8] V3 fun v9 V4 =>
 Br (v9 = true)
 (IR (v3 + 1) /\ J0 [uI v2, uI (v3 + 1)] V4)
 (R (rV (uI 9)) V4))))
 (R (rV (uI 0)) V1)
theorem x217 {v0 : Option Addr} {v1 : Sl} (h : w217 v0 v1 V R) : TT 217 #[uP v0, uL v1] V R := trx Tryz.func217 h
def w218 (v0 : Sl) (v1 : Int) (v2 : Value) : MR := fun V R =>
 (0 <= (0 : Int) /\ (0 : Int) <= v1 /\ v1 <= (v0.c : Int)) /\ qAo [K.cast .f v2] 274 V fun v3 V1 =>
 qAo [uL v0] 23 V1 fun v4 V2 =>
 qAo [uI v1] 3 V2 fun v5 V3 =>
 TB 168 #[.slice (if (v0.c : Int) = (0 : Int) then v0.p else qAa v0.p ((0 : Int).toNat * 2)) (v1 - 0).toNat ((v0.c : Int) - 0).toNat, .func (.func 248) #[] #[uP (qAa v3 0), uP (qAa v4 0), uP (qAa v5 0)]] V3 fun v6 V4 =>
 R (rV (uB v6)) V4
theorem x218 {v0 : Sl} {v1 : Int} {v2 : Value} (h : w218 v0 v1 v2 V R) : TT 218 #[uL v0, uI v1, K.cast .f v2] V R :=
 qBu Tryz.func218 [] [] false [uL v0, uI v1, v2] (by kernel_rfl) (by kernel_rfl) h
def w219 (v0 v1 : ByteArray) : MR := fun V R =>
 R (rV (uS v0)) V
theorem x219 {v0 v1 : ByteArray} (h : w219 v0 v1 V R) : TT 219 #[uA #[uS v0, uS v1]] V R := trx Tryz.func219 h
def w220 (v0 : Option Addr) (v1 : ByteArray) : MR := fun V R =>
 Br (v1 = (qAj [105, 110, 116]))
 (R (rV (uB true)) V)
 (Br (v1 = (qAj [98, 111, 111, 108]))
 (R (rV (uB true)) V)
 (TB 88 #[uP v0, uS v1] V fun v2 V1 =>
 R (rV (uB v2)) V1))
theorem x220 {v0 : Option Addr} {v1 : ByteArray} (h : w220 v0 v1 V R) : TT 220 #[uP v0, uS v1] V R := trx Tryz.func220 h
def w221 (v0 : Sl) (v1 : Int) (v2 : Value) : MR := fun V R =>
 (0 <= (0 : Int) /\ (0 : Int) <= v1 /\ v1 <= (v0.c : Int)) /\ qAo [K.cast .f v2] 276 V fun v3 V1 =>
 qAo [uL v0] 24 V1 fun v4 V2 =>
 qAo [uI v1] 3 V2 fun v5 V3 =>
 TB 157 #[.slice (if (v0.c : Int) = (0 : Int) then v0.p else qAa v0.p ((0 : Int).toNat * 5)) (v1 - 0).toNat ((v0.c : Int) - 0).toNat, .func (.func 249) #[] #[uP (qAa v3 0), uP (qAa v4 0), uP (qAa v5 0)]] V3 fun v6 V4 =>
 R (rV (uB v6)) V4
theorem x221 {v0 : Sl} {v1 : Int} {v2 : Value} (h : w221 v0 v1 v2 V R) : TT 221 #[uL v0, uI v1, K.cast .f v2] V R :=
 qBu Tryz.func221 [] [] false [uL v0, uI v1, v2] (by kernel_rfl) (by kernel_rfl) h
def w222 (v0 : ByteArray) (v1 : Sl) (v2 : ByteArray) (v3 v4 : Sl) : MR := fun V R =>
 R (rV (uS v0)) V
theorem x222 {v0 : ByteArray} {v1 : Sl} {v2 : ByteArray} {v3 v4 : Sl} (h : w222 v0 v1 v2 v3 v4 V R) : TT 222 #[uA #[uS v0, uL v1, uS v2, uL v3, uL v4]] V R := trx Tryz.func222 h
def w223 (v0 : Sl) : MR := fun V R =>
 Lp [uI 0, uI 0] V fun I n V1 => ∀ v1 v2, I n [uI v1, uI v2] V1 -> ∀ J0 : LMP, Nx I n J0 ->
 Br (v2 < (v0.n : Int))
 (Ix v0 v2 (∃ v3, V1.rowp v0.p (v2.toNat * 1) 1 = some [uL v3] /\
 IR (v1 + (v3.n : Int)) /\ Br ((v1 + (v3.n : Int)) < 0)
 (qAq Tryz.prog (.makeInterface 9 (.const (.string ⟨#[108, 101, 110, 32, 111, 117, 116, 32, 111, 102, 32, 114, 97, 110, 103, 101]⟩))) 20 (gv []) V1 fun x V2 => ∃ v4, K.r.ok v4 /\ x = v4 /\
 ∃ t x, K.cast .r v4 = .iface t x /\ R (.panicked [{ v := .iface t x, recovered := false }]) V2)
 (IR (v2 + 1) /\ J0 [uI (v1 + (v3.n : Int)), uI (v2 + 1)] V1)))
 (TL 250 #[.slice none 0 0, uI v1] V1 fun v3 V2 =>
 Lp [uL v3, uI 0] V2 fun I n V3 => ∀ v4 v5, I n [uL v4, uI v5] V3 -> ∀ J1 : LMP, Nx I n J1 ->
 Br (v5 < (v0.n : Int))
 (Ix v0 v5 (∃ v6, V3.rowp v0.p (v5.toNat * 1) 1 = some [uL v6] /\
 qAq Tryz.prog (.call { callee := (.builtin .append), args := #[(.tmp 31), (.tmp 32)], argTypes := #[23, 23] }) 23 (gv [(31, uL v4), (32, uL v6)]) V3 fun x V4 => ∃ v7, x = uL v7 /\
 IR (v5 + 1) /\ J1 [uL v7, uI (v5 + 1)] V4))
 (R (rV (uL v4)) V3))
theorem x223 {v0 : Sl} (h : w223 v0 V R) : TT 223 #[uL v0] V R := trx Tryz.func223 h
def w224 (v0 : Sl) (v1 : Int) (v2 : Value) : MR := fun V R =>
 (0 <= (0 : Int) /\ (0 : Int) <= v1 /\ v1 <= (v0.c : Int)) /\ qAo [K.cast .f v2] 279 V fun v3 V1 =>
 qAo [uL v0] 25 V1 fun v4 V2 =>
 qAo [uI v1] 3 V2 fun v5 V3 =>
 TB 251 #[.slice (if (v0.c : Int) = (0 : Int) then v0.p else qAa v0.p ((0 : Int).toNat * 7)) (v1 - 0).toNat ((v0.c : Int) - 0).toNat, .func (.func 252) #[] #[uP (qAa v3 0), uP (qAa v4 0), uP (qAa v5 0)]] V3 fun v6 V4 =>
 R (rV (uB v6)) V4
theorem x224 {v0 : Sl} {v1 : Int} {v2 : Value} (h : w224 v0 v1 v2 V R) : TT 224 #[uL v0, uI v1, K.cast .f v2] V R :=
 qBu Tryz.func224 [] [] false [uL v0, uI v1, v2] (by kernel_rfl) (by kernel_rfl) h
def w225 (v0 v1 : ByteArray) (v2 v3 v4 : Int) (v5 : ByteArray) (v6 : Sl) : MR := fun V R =>
 R (rV (uS v0)) V
theorem x225 {v0 v1 : ByteArray} {v2 v3 v4 : Int} {v5 : ByteArray} {v6 : Sl} (h : w225 v0 v1 v2 v3 v4 v5 v6 V R) : TT 225 #[uA #[uS v0, uS v1, uI v2, uI v3, uI v4, uS v5, uL v6]] V R := trx Tryz.func225 h
def w226 (v0 : Sl) (v1 : Int) (v2 : Value) : MR := fun V R =>
 (0 <= (0 : Int) /\ (0 : Int) <= v1 /\ v1 <= (v0.c : Int)) /\ qAo [K.cast .f v2] 281 V fun v3 V1 =>
 qAo [uL v0] 26 V1 fun v4 V2 =>
 qAo [uI v1] 3 V2 fun v5 V3 =>
 TB 253 #[.slice (if (v0.c : Int) = (0 : Int) then v0.p else qAa v0.p ((0 : Int).toNat * 6)) (v1 - 0).toNat ((v0.c : Int) - 0).toNat, .func (.func 254) #[] #[uP (qAa v3 0), uP (qAa v4 0), uP (qAa v5 0)]] V3 fun v6 V4 =>
 R (rV (uB v6)) V4
theorem x226 {v0 : Sl} {v1 : Int} {v2 : Value} (h : w226 v0 v1 v2 V R) : TT 226 #[uL v0, uI v1, K.cast .f v2] V R :=
 qBu Tryz.func226 [] [] false [uL v0, uI v1, v2] (by kernel_rfl) (by kernel_rfl) h
def w227 (v0 v1 : ByteArray) (v2 v3 : Int) (v4 : ByteArray) (v5 : Sl) : MR := fun V R =>
 R (rV (uS v0)) V
theorem x227 {v0 v1 : ByteArray} {v2 v3 : Int} {v4 : ByteArray} {v5 : Sl} (h : w227 v0 v1 v2 v3 v4 v5 V R) : TT 227 #[uA #[uS v0, uS v1, uI v2, uI v3, uS v4, uL v5]] V R := trx Tryz.func227 h
def w228 (v0 : Sl) (v1 : Int) (v2 : Value) : MR := fun V R =>
 (0 <= (0 : Int) /\ (0 : Int) <= v1 /\ v1 <= (v0.c : Int)) /\ qAo [K.cast .f v2] 283 V fun v3 V1 =>
 qAo [uL v0] 28 V1 fun v4 V2 =>
 qAo [uI v1] 3 V2 fun v5 V3 =>
 TB 208 #[.slice (if (v0.c : Int) = (0 : Int) then v0.p else qAa v0.p ((0 : Int).toNat * 5)) (v1 - 0).toNat ((v0.c : Int) - 0).toNat, .func (.func 255) #[] #[uP (qAa v3 0), uP (qAa v4 0), uP (qAa v5 0)]] V3 fun v6 V4 =>
 R (rV (uB v6)) V4
theorem x228 {v0 : Sl} {v1 : Int} {v2 : Value} (h : w228 v0 v1 v2 V R) : TT 228 #[uL v0, uI v1, K.cast .f v2] V R :=
 qBu Tryz.func228 [] [] false [uL v0, uI v1, v2] (by kernel_rfl) (by kernel_rfl) h
def w229 (v0 : ByteArray) (v1 v2 : Int) (v3 : ByteArray) (v4 : Sl) : MR := fun V R =>
 R (rV (uS v0)) V
theorem x229 {v0 : ByteArray} {v1 v2 : Int} {v3 : ByteArray} {v4 : Sl} (h : w229 v0 v1 v2 v3 v4 V R) : TT 229 #[uA #[uS v0, uI v1, uI v2, uS v3, uL v4]] V R := trx Tryz.func229 h
def w230 (v0 : Option Addr) (v1 : ByteArray) (v2 : Sl) (v3 : ByteArray) (v4 v5 : Sl) : MR := fun V R =>
 qAo [uL v2, uL v4] 23 V fun v6 V1 =>
 TT 138 #[uP v0, uB true, .slice (qAa v6 0) 2 2] V1 fun e V2 => ∃ v7 v8 v9, e = rV (uA #[uP v7, uM v8, uB v9]) /\
 R (rV (uA #[uP v7, uM v8, uB v9])) V2
theorem x230 {v0 : Option Addr} {v1 : ByteArray} {v2 : Sl} {v3 : ByteArray} {v4 v5 : Sl} (h : w230 v0 v1 v2 v3 v4 v5 V R) : TT 230 #[uP v0, uA #[uS v1, uL v2, uS v3, uL v4, uL v5]] V R := trx Tryz.func230 h
def w232 (v0 : Option Addr) (v1 : Option Nat) (v2 : Bool) (v3 : ByteArray) (v4 v5 : Int) (v6 : ByteArray) (v7 : Sl) (v8 : ByteArray) : MR := fun V R =>
 TT 90 #[uA #[uP v0, uM v1, uB v2], uA #[uI v4, uI v5, uS v6, uL v7]] V fun e V1 => ∃ v9 v10, e = rT #[uS v9, uI v10] /\
 Br (v10 = 0)
 (Br (v9 = v8)
 (R (rV (uP none)) V1)
 (qAo [uS v3, uI (-1), uI 11] 195 V1 fun v11 V2 =>
 R (rV (uP (qAa v11 0))) V2))
 (qAo [uS v3, uI (-1), uI v10] 195 V1 fun v11 V2 =>
 R (rV (uP (qAa v11 0))) V2)
theorem x232 {v0 : Option Addr} {v1 : Option Nat} {v2 : Bool} {v3 : ByteArray} {v4 v5 : Int} {v6 : ByteArray} {v7 : Sl} {v8 : ByteArray} (h : w232 v0 v1 v2 v3 v4 v5 v6 v7 v8 V R) : TT 232 #[uA #[uP v0, uM v1, uB v2], uS v3, uA #[uI v4, uI v5, uS v6, uL v7], uS v8] V R := trx Tryz.func232 h
def w233 (v0 : Option Addr) (v1 : ByteArray) (v2 : Sl) (v3 : ByteArray) (v4 v5 : Sl) : MR := fun V R =>
 qAo [uL v2] 23 V fun v6 V1 =>
 TT 138 #[uP v0, uB false, .slice (qAa v6 0) 1 1] V1 fun e V2 => ∃ v7 v8 v9, e = rV (uA #[uP v7, uM v8, uB v9]) /\
 R (rV (uA #[uP v7, uM v8, uB v9])) V2
theorem x233 {v0 : Option Addr} {v1 : ByteArray} {v2 : Sl} {v3 : ByteArray} {v4 v5 : Sl} (h : w233 v0 v1 v2 v3 v4 v5 V R) : TT 233 #[uP v0, uA #[uS v1, uL v2, uS v3, uL v4, uL v5]] V R := trx Tryz.func233 h
def w234 (v0 : Sl) (v1 : Value) : MR := fun V R =>
 Lp [uI 0, uI 0] V fun I n V1 => ∀ v2 v3, I n [uI v2, uI v3] V1 -> ∀ J0 : LMP, Nx I n J0 ->
 Br (v3 < (v0.n : Int))
 (Ix v0 v3 (∃ v4 v5, V1.rowp v0.p (v3.toNat * 2) 2 = some [uI v4, uL v5] /\
 ∃ f first caps, K.cast .f v1 = .func (.func f) first caps /\ CO f /\
 TT f (first ++ #[uA #[uI v4, uL v5]] ++ caps) V1 fun e V2 => ∃ v6, e = rV (uB v6) /\
 Br (v6 = true)
 (R (rV (uI v3)) V2)
 (IR (v3 + 1) /\ J0 [uI v2, uI (v3 + 1)] V2)))
 (R (rV (uI (-1))) V1)
theorem x234 {v0 : Sl} {v1 : Value} (h : w234 v0 v1 V R) : TT 234 #[uL v0, K.cast .f v1] V R :=
 qBu Tryz.func234 [] [] false [uL v0, v1] (by kernel_rfl) (by kernel_rfl) h
def w235 (v0 : Option Nat) (v1 v2 : Sl) (v3 : ByteArray) (v4 : Int) : MR := fun V R =>
 Br (v3 = (qAj [105, 110, 116]))
 (Br ((-1099511627776) <= v4)
 (R (rV (uB (decide (v4 <= 1099511627776)))) V)
 (R (rV (uB false)) V))
 (Br (v3 = (qAj [98, 111, 111, 108]))
 (Br (v4 = 0)
 (R (rV (uB true)) V)
 (R (rV (uB (decide (v4 = 1)))) V))
 (Br (v4 = 0)
 (R (rV (uB true)) V)
 (Br (0 < v4)
 (Br (v4 <= (v2.n : Int))
 (IR (v4 - 1) /\ Ix v2 (v4 - 1) (¬ (qAa v2.p ((v4 - 1).toNat * 2)) = none /\ ∃ v5 v6, V.rowp v2.p ((v4 - 1).toNat * 2) 2 = some [uI v5, uL v6] /\
 qBt Tryz.prog 197 (uM v0) (uS v3) false V fun x => ∃ v7, x = uI v7 /\
 V.rowp (qAa (qAa v2.p ((v4 - 1).toNat * 2)) 0) 0 1 = some [uI v5] /\ ¬ (qAa v2.p ((v4 - 1).toNat * 2)) = none /\ Ix v2 (v4 - 1) (IR (v4 - 1) /\ R (rV (uB (decide (v5 = v7)))) V)))
 (R (rV (uB false)) V))
 (R (rV (uB false)) V))))
theorem x235 {v0 : Option Nat} {v1 v2 : Sl} {v3 : ByteArray} {v4 : Int} (h : w235 v0 v1 v2 v3 v4 V R) : TT 235 #[uM v0, uA #[uL v1, uL v2], uS v3, uI v4] V R := trx Tryz.func235 h
def w236 (v0 : Int) (v1 : ByteArray) (v2 v3 v4 : Sl) (v5 v6 : Int) : MR := fun V R =>
 Br ((v2.n : Int) < v5)
 (R (rV (uB false)) V)
 (Br (v6 < (v2.n : Int))
 (R (rV (uB false)) V)
 (Lp [uB false, uI 0] V fun I n V1 => ∀ v7 v8, I n [uB v7, uI v8] V1 -> ∀ J0 : LMP, Nx I n J0 ->
 Br (v8 < (v2.n : Int))
 (Ix v2 v8 (∃ v9 v10 v11 v12, V1.rowp v2.p (v8.toNat * 4) 4 = some [uI v9, uI v10, uS v11, uL v12] /\
 TB 29 #[uA #[uI v9, uI v10, uS v11, uL v12]] V1 fun v13 V2 =>
 Br (v13 = true)
 (IR (v8 + 1) /\ J0 [uB v7, uI (v8 + 1)] V2)
 (R (rV (uB false)) V2)))
 (R (rV (uB true)) V1)))
theorem x236 {v0 : Int} {v1 : ByteArray} {v2 v3 v4 : Sl} {v5 v6 : Int} (h : w236 v0 v1 v2 v3 v4 v5 v6 V R) : TT 236 #[uA #[uI v0, uS v1, uL v2, uL v3, uL v4], uI v5, uI v6] V R := trx Tryz.func236 h
def w237 (v0 : ByteArray) (v1 v2 v3 v4 v5 v6 v7 : Sl) (v8 : ByteArray) (v9 : Sl) (v10 : ByteArray) (v11 v12 : Sl) : MR := fun V R =>
 qAo [] 110 V fun v13 V1 =>
 qAq Tryz.prog (.call { callee := (.builtin .append), args := #[(.tmp 6), (.tmp 8)], argTypes := #[23, 23] }) 23 (gv [(6, .slice (qAa v13 0) (0 : Int).toNat (0 : Int).toNat), (8, uL v9)]) V1 fun x V2 => ∃ v14, x = uL v14 /\
 qAq Tryz.prog (.call { callee := (.builtin .append), args := #[(.tmp 9), (.tmp 11)], argTypes := #[23, 23] }) 23 (gv [(9, uL v14), (11, uL v11)]) V2 fun x V3 => ∃ v15, x = uL v15 /\
 qAq Tryz.prog (.call { callee := (.builtin .append), args := #[(.tmp 13), (.tmp 15)], argTypes := #[23, 23] }) 23 (gv [(13, uL v15), (15, uL v2)]) V3 fun x V4 => ∃ v16, x = uL v16 /\
 R (rV (uA #[uL v16, uB true])) V4
theorem x237 {v0 : ByteArray} {v1 v2 v3 v4 v5 v6 v7 : Sl} {v8 : ByteArray} {v9 : Sl} {v10 : ByteArray} {v11 v12 : Sl} (h : w237 v0 v1 v2 v3 v4 v5 v6 v7 v8 v9 v10 v11 v12 V R) : TT 237 #[uD v0 v1 v2 v3 v4 v5 v6 v7, uA #[uS v8, uL v9, uS v10, uL v11, uL v12]] V R := trx Tryz.func237 h
def w239 (v0 v1 : ByteArray) (v2 v3 v4 : Int) (v5 : ByteArray) (v6 : Sl) (v7 : Option Addr) : MR := fun V R =>
 ∃ v8, V.rowp v7 ((0 : Int).toNat * 1) 1 = some [uS v8] /\
 R (rV (uB (decide (v0 = v8)))) V
theorem x239 {v0 v1 : ByteArray} {v2 v3 v4 : Int} {v5 : ByteArray} {v6 : Sl} {v7 : Option Addr} (h : w239 v0 v1 v2 v3 v4 v5 v6 v7 V R) : TT 239 #[uA #[uS v0, uS v1, uI v2, uI v3, uI v4, uS v5, uL v6], uP v7] V R := trx Tryz.func239 h
def w240 (v0 : Sl) (v1 : Value) : MR := fun V R =>
 Lp [uI 0, uI 0] V fun I n V1 => ∀ v2 v3, I n [uI v2, uI v3] V1 -> ∀ J0 : LMP, Nx I n J0 ->
 Br (v3 < (v0.n : Int))
 (Ix v0 v3 (∃ v4, V1.rowp v0.p (v3.toNat * 1) 1 = some [uS v4] /\
 ∃ f first caps, K.cast .f v1 = .func (.func f) first caps /\ CO f /\
 TT f (first ++ #[uS v4] ++ caps) V1 fun e V2 => ∃ v5, e = rV (uB v5) /\
 Br (v5 = true)
 (R (rV (uI v3)) V2)
 (IR (v3 + 1) /\ J0 [uI v2, uI (v3 + 1)] V2)))
 (R (rV (uI (-1))) V1)
theorem x240 {v0 : Sl} {v1 : Value} (h : w240 v0 v1 V R) : TT 240 #[uL v0, K.cast .f v1] V R :=
 qBu Tryz.func240 [] [] false [uL v0, v1] (by kernel_rfl) (by kernel_rfl) h
def w241 (v0 : Sl) (v1 : ByteArray) : MR := fun V R =>
 Lp [uI 0, uI (v0.n : Int)] V fun I n V1 => ∀ v2 v3, I n [uI v2, uI v3] V1 -> ∀ J0 : LMP, Nx I n J0 ->
 Br (v2 < v3)
 (IR (v2 + v3) /\ K.inR .u64 (v2 + v3) /\ qAq Tryz.prog (.binOp .shr 172 (.tmp 19) (.const (.int .u64 1)) 172) 172 (gv [(19, .int .u64 (v2 + v3))]) V1 fun x V2 => ∃ v4, x = .int .u64 v4 /\
 IR v4 /\ Ix v0 v4 (∃ v5, V2.rowp v0.p (v4.toNat * 1) 1 = some [uS v5] /\
 TB 257 #[uS v5, uS v1] V2 fun v6 V3 =>
 Br (v6 = true)
 (IR (v4 + 1) /\ J0 [uI (v4 + 1), uI v3] V3)
 (J0 [uI v2, uI v4] V3)))
 (Br (v2 < (v0.n : Int))
 (Ix v0 v2 (∃ v4, V1.rowp v0.p (v2.toNat * 1) 1 = some [uS v4] /\
 Br (v4 = v1)
 (R (rT #[uI v2, uB true]) V1)
 (Ix v0 v2 (∃ v5, V1.rowp v0.p (v2.toNat * 1) 1 = some [uS v5] /\
 TB 258 #[uS v5] V1 fun v6 V2 =>
 Br (v6 = true)
 (TB 258 #[uS v1] V2 fun v7 V3 =>
 R (rT #[uI v2, uB v7]) V3)
 (R (rT #[uI v2, uB false]) V2)))))
 (R (rT #[uI v2, uB false]) V1))
theorem x241 {v0 : Sl} {v1 : ByteArray} (h : w241 v0 v1 V R) : TT 241 #[uL v0, uS v1] V R := trx Tryz.func241 h
def w242  : MR := fun V R =>
 TL 259 #[uS (qAj [97, 110, 100, 32, 98, 111, 111, 108, 32, 98, 111, 117, 110, 100, 32, 100, 101, 115, 99, 32, 101, 108, 115, 101, 32, 102, 97, 108, 115, 101, 32, 105, 102, 32, 105, 110, 116, 32, 105, 110, 118, 97, 114, 105, 97, 110, 116, 32, 108, 111, 99, 97, 108, 32, 108, 111, 103, 32, 109, 97, 120, 32, 109, 101, 97, 115, 117, 114, 101, 32, 109, 105, 110, 32, 110, 101, 119, 32, 110, 105, 108, 32, 110, 111, 116, 32, 111, 112, 32, 111, 114, 32, 112, 111, 116, 101, 110, 116, 105, 97, 108, 32, 112, 114, 111, 99, 32, 114, 101, 116, 117, 114, 110, 32, 114, 117, 108, 101, 32, 115, 99, 114, 105, 112, 116, 32, 115, 111, 114, 116, 32, 115, 112, 101, 99, 32, 116, 104, 105, 115, 32, 116, 114, 117, 101, 32, 116, 121, 112, 101, 32, 118, 97, 114, 32, 119, 104, 105, 108, 101])] V fun v0 V1 =>
 R (rV (uL v0)) V1
theorem x242 (h : w242 V R) : TT 242 #[] V R := trx Tryz.func242 h
def w243 (v0 : Sl) (v1 : Value) : MR := fun V R =>
 Lp [uI 0, uI 0] V fun I n V1 => ∀ v2 v3, I n [uI v2, uI v3] V1 -> ∀ J0 : LMP, Nx I n J0 ->
 Br (v3 < (v0.n : Int))
 (Ix v0 v3 (∃ v4 v5 v6 v7 v8, V1.rowp v0.p (v3.toNat * 5) 5 = some [uS v4, uI v5, uI v6, uS v7, uL v8] /\
 ∃ f first caps, K.cast .f v1 = .func (.func f) first caps /\ CO f /\
 TT f (first ++ #[uA #[uS v4, uI v5, uI v6, uS v7, uL v8]] ++ caps) V1 fun e V2 => ∃ v9, e = rV (uB v9) /\
 Br (v9 = true)
 (R (rV (uI v3)) V2)
 (IR (v3 + 1) /\ J0 [uI v2, uI (v3 + 1)] V2)))
 (R (rV (uI (-1))) V1)
theorem x243 {v0 : Sl} {v1 : Value} (h : w243 v0 v1 V R) : TT 243 #[uL v0, K.cast .f v1] V R :=
 qBu Tryz.func243 [] [] false [uL v0, v1] (by kernel_rfl) (by kernel_rfl) h
def w244 (v0 : Int) (v1 : ByteArray) (v2 v3 v4 : Sl) : MR := fun V R =>
 Br (v0 = 1)
 (TB 152 #[uS v1] V fun v5 V1 =>
 Br (v5 = true)
 (Br (v0 = 3)
 (Br (v0 = 1)
 (R (rV (uB (decide ((v2.n : Int) = 1)))) V1)
 (Br (v0 = 3)
 (R (rV (uB (decide ((v2.n : Int) = 1)))) V1)
 (Br (v0 = 4)
 (R (rV (uB (decide ((v2.n : Int) = 1)))) V1)
 (Br (v0 = 2)
 (R (rV (uB (decide ((v2.n : Int) = 2)))) V1)
 (Br (v0 = 5)
 (R (rV (uB (decide ((v2.n : Int) <= 1)))) V1)
 (Br (v0 = 6)
 (Br ((v2.n : Int) = 1)
 (¬ v2.p = none /\ (0 : Int) <= (0 : Int) /\ 0 < (v2.n : Int) /\ ¬ (qAa v2.p ((0 : Int).toNat * 4)) = none /\ ∃ v6 v7 v8 v9, V1.rowp v2.p ((0 : Int).toNat * 4) 4 = some [uI v6, uI v7, uS v8, uL v9] /\
 R (rV (uB (decide (v6 = 7)))) V1)
 (R (rV (uB false)) V1))
 (R (rV (uB false)) V1)))))))
 (Br (0 < (v4.n : Int))
 (R (rV (uB false)) V1)
 (Br (v0 = 4)
 (Br (v0 = 1)
 (R (rV (uB (decide ((v2.n : Int) = 1)))) V1)
 (Br (v0 = 3)
 (R (rV (uB (decide ((v2.n : Int) = 1)))) V1)
 (Br (v0 = 4)
 (R (rV (uB (decide ((v2.n : Int) = 1)))) V1)
 (Br (v0 = 2)
 (R (rV (uB (decide ((v2.n : Int) = 2)))) V1)
 (Br (v0 = 5)
 (R (rV (uB (decide ((v2.n : Int) <= 1)))) V1)
 (Br (v0 = 6)
 (Br ((v2.n : Int) = 1)
 (¬ v2.p = none /\ (0 : Int) <= (0 : Int) /\ 0 < (v2.n : Int) /\ ¬ (qAa v2.p ((0 : Int).toNat * 4)) = none /\ ∃ v6 v7 v8 v9, V1.rowp v2.p ((0 : Int).toNat * 4) 4 = some [uI v6, uI v7, uS v8, uL v9] /\
 R (rV (uB (decide (v6 = 7)))) V1)
 (R (rV (uB false)) V1))
 (R (rV (uB false)) V1)))))))
 (Br (0 < (v3.n : Int))
 (R (rV (uB false)) V1)
 (Br (v0 = 1)
 (R (rV (uB (decide ((v2.n : Int) = 1)))) V1)
 (Br (v0 = 3)
 (R (rV (uB (decide ((v2.n : Int) = 1)))) V1)
 (Br (v0 = 4)
 (R (rV (uB (decide ((v2.n : Int) = 1)))) V1)
 (Br (v0 = 2)
 (R (rV (uB (decide ((v2.n : Int) = 2)))) V1)
 (Br (v0 = 5)
 (R (rV (uB (decide ((v2.n : Int) <= 1)))) V1)
 (Br (v0 = 6)
 (Br ((v2.n : Int) = 1)
 (¬ v2.p = none /\ (0 : Int) <= (0 : Int) /\ 0 < (v2.n : Int) /\ ¬ (qAa v2.p ((0 : Int).toNat * 4)) = none /\ ∃ v6 v7 v8 v9, V1.rowp v2.p ((0 : Int).toNat * 4) 4 = some [uI v6, uI v7, uS v8, uL v9] /\
 R (rV (uB (decide (v6 = 7)))) V1)
 (R (rV (uB false)) V1))
 (R (rV (uB false)) V1)))))))))))
 (R (rV (uB false)) V1))
 (Br (v0 = 2)
 (TB 152 #[uS v1] V fun v5 V1 =>
 Br (v5 = true)
 (Br (v0 = 3)
 (Br (v0 = 1)
 (R (rV (uB (decide ((v2.n : Int) = 1)))) V1)
 (Br (v0 = 3)
 (R (rV (uB (decide ((v2.n : Int) = 1)))) V1)
 (Br (v0 = 4)
 (R (rV (uB (decide ((v2.n : Int) = 1)))) V1)
 (Br (v0 = 2)
 (R (rV (uB (decide ((v2.n : Int) = 2)))) V1)
 (Br (v0 = 5)
 (R (rV (uB (decide ((v2.n : Int) <= 1)))) V1)
 (Br (v0 = 6)
 (Br ((v2.n : Int) = 1)
 (¬ v2.p = none /\ (0 : Int) <= (0 : Int) /\ 0 < (v2.n : Int) /\ ¬ (qAa v2.p ((0 : Int).toNat * 4)) = none /\ ∃ v6 v7 v8 v9, V1.rowp v2.p ((0 : Int).toNat * 4) 4 = some [uI v6, uI v7, uS v8, uL v9] /\
 R (rV (uB (decide (v6 = 7)))) V1)
 (R (rV (uB false)) V1))
 (R (rV (uB false)) V1)))))))
 (Br (0 < (v4.n : Int))
 (R (rV (uB false)) V1)
 (Br (v0 = 4)
 (Br (v0 = 1)
 (R (rV (uB (decide ((v2.n : Int) = 1)))) V1)
 (Br (v0 = 3)
 (R (rV (uB (decide ((v2.n : Int) = 1)))) V1)
 (Br (v0 = 4)
 (R (rV (uB (decide ((v2.n : Int) = 1)))) V1)
 (Br (v0 = 2)
 (R (rV (uB (decide ((v2.n : Int) = 2)))) V1)
 (Br (v0 = 5)
 (R (rV (uB (decide ((v2.n : Int) <= 1)))) V1)
 (Br (v0 = 6)
 (Br ((v2.n : Int) = 1)
 (¬ v2.p = none /\ (0 : Int) <= (0 : Int) /\ 0 < (v2.n : Int) /\ ¬ (qAa v2.p ((0 : Int).toNat * 4)) = none /\ ∃ v6 v7 v8 v9, V1.rowp v2.p ((0 : Int).toNat * 4) 4 = some [uI v6, uI v7, uS v8, uL v9] /\
 R (rV (uB (decide (v6 = 7)))) V1)
 (R (rV (uB false)) V1))
 (R (rV (uB false)) V1)))))))
 (Br (0 < (v3.n : Int))
 (R (rV (uB false)) V1)
 (Br (v0 = 1)
 (R (rV (uB (decide ((v2.n : Int) = 1)))) V1)
 (Br (v0 = 3)
 (R (rV (uB (decide ((v2.n : Int) = 1)))) V1)
 (Br (v0 = 4)
 (R (rV (uB (decide ((v2.n : Int) = 1)))) V1)
 (Br (v0 = 2)
 (R (rV (uB (decide ((v2.n : Int) = 2)))) V1)
 (Br (v0 = 5)
 (R (rV (uB (decide ((v2.n : Int) <= 1)))) V1)
 (Br (v0 = 6)
 (Br ((v2.n : Int) = 1)
 (¬ v2.p = none /\ (0 : Int) <= (0 : Int) /\ 0 < (v2.n : Int) /\ ¬ (qAa v2.p ((0 : Int).toNat * 4)) = none /\ ∃ v6 v7 v8 v9, V1.rowp v2.p ((0 : Int).toNat * 4) 4 = some [uI v6, uI v7, uS v8, uL v9] /\
 R (rV (uB (decide (v6 = 7)))) V1)
 (R (rV (uB false)) V1))
 (R (rV (uB false)) V1)))))))))))
 (R (rV (uB false)) V1))
 (Br (v1 = (qAj []))
 (Br (v0 = 3)
 (Br (v0 = 1)
 (R (rV (uB (decide ((v2.n : Int) = 1)))) V)
 (Br (v0 = 3)
 (R (rV (uB (decide ((v2.n : Int) = 1)))) V)
 (Br (v0 = 4)
 (R (rV (uB (decide ((v2.n : Int) = 1)))) V)
 (Br (v0 = 2)
 (R (rV (uB (decide ((v2.n : Int) = 2)))) V)
 (Br (v0 = 5)
 (R (rV (uB (decide ((v2.n : Int) <= 1)))) V)
 (Br (v0 = 6)
 (Br ((v2.n : Int) = 1)
 (¬ v2.p = none /\ (0 : Int) <= (0 : Int) /\ 0 < (v2.n : Int) /\ ¬ (qAa v2.p ((0 : Int).toNat * 4)) = none /\ ∃ v5 v6 v7 v8, V.rowp v2.p ((0 : Int).toNat * 4) 4 = some [uI v5, uI v6, uS v7, uL v8] /\
 R (rV (uB (decide (v5 = 7)))) V)
 (R (rV (uB false)) V))
 (R (rV (uB false)) V)))))))
 (Br (0 < (v4.n : Int))
 (R (rV (uB false)) V)
 (Br (v0 = 4)
 (Br (v0 = 1)
 (R (rV (uB (decide ((v2.n : Int) = 1)))) V)
 (Br (v0 = 3)
 (R (rV (uB (decide ((v2.n : Int) = 1)))) V)
 (Br (v0 = 4)
 (R (rV (uB (decide ((v2.n : Int) = 1)))) V)
 (Br (v0 = 2)
 (R (rV (uB (decide ((v2.n : Int) = 2)))) V)
 (Br (v0 = 5)
 (R (rV (uB (decide ((v2.n : Int) <= 1)))) V)
 (Br (v0 = 6)
 (Br ((v2.n : Int) = 1)
 (¬ v2.p = none /\ (0 : Int) <= (0 : Int) /\ 0 < (v2.n : Int) /\ ¬ (qAa v2.p ((0 : Int).toNat * 4)) = none /\ ∃ v5 v6 v7 v8, V.rowp v2.p ((0 : Int).toNat * 4) 4 = some [uI v5, uI v6, uS v7, uL v8] /\
 R (rV (uB (decide (v5 = 7)))) V)
 (R (rV (uB false)) V))
 (R (rV (uB false)) V)))))))
 (Br (0 < (v3.n : Int))
 (R (rV (uB false)) V)
 (Br (v0 = 1)
 (R (rV (uB (decide ((v2.n : Int) = 1)))) V)
 (Br (v0 = 3)
 (R (rV (uB (decide ((v2.n : Int) = 1)))) V)
 (Br (v0 = 4)
 (R (rV (uB (decide ((v2.n : Int) = 1)))) V)
 (Br (v0 = 2)
 (R (rV (uB (decide ((v2.n : Int) = 2)))) V)
 (Br (v0 = 5)
 (R (rV (uB (decide ((v2.n : Int) <= 1)))) V)
 (Br (v0 = 6)
 (Br ((v2.n : Int) = 1)
 (¬ v2.p = none /\ (0 : Int) <= (0 : Int) /\ 0 < (v2.n : Int) /\ ¬ (qAa v2.p ((0 : Int).toNat * 4)) = none /\ ∃ v5 v6 v7 v8, V.rowp v2.p ((0 : Int).toNat * 4) 4 = some [uI v5, uI v6, uS v7, uL v8] /\
 R (rV (uB (decide (v5 = 7)))) V)
 (R (rV (uB false)) V))
 (R (rV (uB false)) V)))))))))))
 (R (rV (uB false)) V)))
theorem x244 {v0 : Int} {v1 : ByteArray} {v2 v3 v4 : Sl} (h : w244 v0 v1 v2 v3 v4 V R) : TT 244 #[uA #[uI v0, uS v1, uL v2, uL v3, uL v4]] V R := trx Tryz.func244 h
def w245 (v0 v1 : Int) (v2 : ByteArray) (v3 : Sl) : MR := fun V R =>
 TB 59 #[uA #[uI v0, uI v1, uS v2, uL v3]] V fun v4 V1 =>
 R (rV (uB (!v4))) V1
theorem x245 {v0 v1 : Int} {v2 : ByteArray} {v3 : Sl} (h : w245 v0 v1 v2 v3 V R) : TT 245 #[uA #[uI v0, uI v1, uS v2, uL v3]] V R := trx Tryz.func245 h
def w246 (v0 : ByteArray) (v1 : Sl) (v2 v3 v4 : Option Addr) : MR := fun V R =>
 ∃ v5, K.f.ok v5 /\ V.rowp v2 ((0 : Int).toNat * 1) 1 = some [v5] /\
 ∃ v6, K.f.ok v6 /\ V.rowp v2 ((0 : Int).toNat * 1) 1 = some [v6] /\
 ∃ v7, V.rowp v3 ((0 : Int).toNat * 1) 1 = some [uL v7] /\
 ∃ v8, V.rowp v4 ((0 : Int).toNat * 1) 1 = some [uI v8] /\
 Ix v7 v8 (∃ v9 v10, V.rowp v7.p (v8.toNat * 2) 2 = some [uS v9, uL v10] /\
 ∃ f first caps, K.cast .f v5 = .func (.func f) first caps /\ CO f /\
 TT f (first ++ #[uA #[uS v0, uL v1]] ++ caps) V fun e V1 => ∃ v11, e = rV (uS v11) /\
 V1.rowp (qAa v7.p (v8.toNat * 2)) 0 2 = some [uS v9, uL v10] /\ Ix v7 v8 (V1.rowp v4 0 1 = some [uI v8] /\ V1.rowp v3 0 1 = some [uL v7] /\ V1.rowp v2 0 1 = some [K.cast .f v6] /\ ∃ f first caps, K.cast .f v6 = .func (.func f) first caps /\ CO f /\
 TT f (first ++ #[uA #[uS v9, uL v10]] ++ caps) V1 fun e V2 => ∃ v12, e = rV (uS v12) /\
 R (rV (uB (decide (v11 = v12)))) V2))
theorem x246 {v0 : ByteArray} {v1 : Sl} {v2 v3 v4 : Option Addr} (h : w246 v0 v1 v2 v3 v4 V R) : TT 246 #[uA #[uS v0, uL v1], uP v2, uP v3, uP v4] V R := trx Tryz.func246 h
def w247 (v0 v1 : ByteArray) (v2 : Option Addr) : MR := fun V R =>
 ¬ v2 = none /\ ∃ v3, V.rowp v2 ((0 : Int).toNat * 1) 1 = some [uS v3] /\
 R (rV (uB (decide (v0 = v3)))) V
theorem x247 {v0 v1 : ByteArray} {v2 : Option Addr} (h : w247 v0 v1 v2 V R) : TT 247 #[uA #[uS v0, uS v1], uP v2] V R := trx Tryz.func247 h
def w248 (v0 v1 : ByteArray) (v2 v3 v4 : Option Addr) : MR := fun V R =>
 ∃ v5, K.f.ok v5 /\ V.rowp v2 ((0 : Int).toNat * 1) 1 = some [v5] /\
 ∃ v6, K.f.ok v6 /\ V.rowp v2 ((0 : Int).toNat * 1) 1 = some [v6] /\
 ∃ v7, V.rowp v3 ((0 : Int).toNat * 1) 1 = some [uL v7] /\
 ∃ v8, V.rowp v4 ((0 : Int).toNat * 1) 1 = some [uI v8] /\
 Ix v7 v8 (∃ v9 v10, V.rowp v7.p (v8.toNat * 2) 2 = some [uS v9, uS v10] /\
 ∃ f first caps, K.cast .f v5 = .func (.func f) first caps /\ CO f /\
 TT f (first ++ #[uA #[uS v0, uS v1]] ++ caps) V fun e V1 => ∃ v11, e = rV (uS v11) /\
 V1.rowp (qAa v7.p (v8.toNat * 2)) 0 2 = some [uS v9, uS v10] /\ Ix v7 v8 (V1.rowp v4 0 1 = some [uI v8] /\ V1.rowp v3 0 1 = some [uL v7] /\ V1.rowp v2 0 1 = some [K.cast .f v6] /\ ∃ f first caps, K.cast .f v6 = .func (.func f) first caps /\ CO f /\
 TT f (first ++ #[uA #[uS v9, uS v10]] ++ caps) V1 fun e V2 => ∃ v12, e = rV (uS v12) /\
 R (rV (uB (decide (v11 = v12)))) V2))
theorem x248 {v0 v1 : ByteArray} {v2 v3 v4 : Option Addr} (h : w248 v0 v1 v2 v3 v4 V R) : TT 248 #[uA #[uS v0, uS v1], uP v2, uP v3, uP v4] V R := trx Tryz.func248 h
def w249 (v0 : ByteArray) (v1 : Sl) (v2 : ByteArray) (v3 v4 : Sl) (v5 v6 v7 : Option Addr) : MR := fun V R =>
 ∃ v8, K.f.ok v8 /\ V.rowp v5 ((0 : Int).toNat * 1) 1 = some [v8] /\
 ∃ v9, K.f.ok v9 /\ V.rowp v5 ((0 : Int).toNat * 1) 1 = some [v9] /\
 ∃ v10, V.rowp v6 ((0 : Int).toNat * 1) 1 = some [uL v10] /\
 ∃ v11, V.rowp v7 ((0 : Int).toNat * 1) 1 = some [uI v11] /\
 Ix v10 v11 (∃ v12 v13 v14 v15 v16, V.rowp v10.p (v11.toNat * 5) 5 = some [uS v12, uL v13, uS v14, uL v15, uL v16] /\
 ∃ f first caps, K.cast .f v8 = .func (.func f) first caps /\ CO f /\
 TT f (first ++ #[uA #[uS v0, uL v1, uS v2, uL v3, uL v4]] ++ caps) V fun e V1 => ∃ v17, e = rV (uS v17) /\
 V1.rowp (qAa v10.p (v11.toNat * 5)) 0 5 = some [uS v12, uL v13, uS v14, uL v15, uL v16] /\ Ix v10 v11 (V1.rowp v7 0 1 = some [uI v11] /\ V1.rowp v6 0 1 = some [uL v10] /\ V1.rowp v5 0 1 = some [K.cast .f v9] /\ ∃ f first caps, K.cast .f v9 = .func (.func f) first caps /\ CO f /\
 TT f (first ++ #[uA #[uS v12, uL v13, uS v14, uL v15, uL v16]] ++ caps) V1 fun e V2 => ∃ v18, e = rV (uS v18) /\
 R (rV (uB (decide (v17 = v18)))) V2))
theorem x249 {v0 : ByteArray} {v1 : Sl} {v2 : ByteArray} {v3 v4 : Sl} {v5 v6 v7 : Option Addr} (h : w249 v0 v1 v2 v3 v4 v5 v6 v7 V R) : TT 249 #[uA #[uS v0, uL v1, uS v2, uL v3, uL v4], uP v5, uP v6, uP v7] V R := trx Tryz.func249 h
def w250 (v0 : Sl) (v1 : Int) : MR := fun V R =>
 Br (v1 < 0)
 (qAq Tryz.prog (.makeInterface 9 (.const (.string ⟨#[99, 97, 110, 110, 111, 116, 32, 98, 101, 32, 110, 101, 103, 97, 116, 105, 118, 101]⟩))) 20 (gv []) V fun x V1 => ∃ v2, K.r.ok v2 /\ x = v2 /\
 ∃ t x, K.cast .r v2 = .iface t x /\ R (.panicked [{ v := .iface t x, recovered := false }]) V1)
 (IR ((v0.c : Int) - (v0.n : Int)) /\ IR (v1 - ((v0.c : Int) - (v0.n : Int))) /\ Br (0 < (v1 - ((v0.c : Int) - (v0.n : Int))))
 ((0 <= (0 : Int) /\ (0 : Int) <= (v0.c : Int) /\ (v0.c : Int) <= (v0.c : Int)) /\ qAq Tryz.prog (.call { callee := (.builtin .append), args := #[(.tmp 20), (.tmp 21)], argTypes := #[23, 3] }) 23 (gv [(20, .slice (if (v0.c : Int) = (0 : Int) then v0.p else qAa v0.p ((0 : Int).toNat * 2)) ((v0.c : Int) - 0).toNat ((v0.c : Int) - 0).toNat), (21, uI (v1 - ((v0.c : Int) - (v0.n : Int))))]) V fun x V1 => ∃ v2, x = uL v2 /\
 (0 <= (0 : Int) /\ (0 : Int) <= (v0.n : Int) /\ (v0.n : Int) <= (v2.c : Int)) /\ R (rV (.slice (if (v2.c : Int) = (0 : Int) then v2.p else qAa v2.p ((0 : Int).toNat * 2)) ((v0.n : Int) - 0).toNat ((v2.c : Int) - 0).toNat)) V1)
 (R (rV (uL v0)) V))
theorem x250 {v0 : Sl} {v1 : Int} (h : w250 v0 v1 V R) : TT 250 #[uL v0, uI v1] V R := trx Tryz.func250 h
def w251 (v0 : Sl) (v1 : Value) : MR := fun V R =>
 TI 70 #[uL v0, K.cast .f v1] V fun v2 V1 =>
 R (rV (uB (decide (0 <= v2)))) V1
theorem x251 {v0 : Sl} {v1 : Value} (h : w251 v0 v1 V R) : TT 251 #[uL v0, K.cast .f v1] V R :=
 qBu Tryz.func251 [] [] false [uL v0, v1] (by kernel_rfl) (by kernel_rfl) h
def w252 (v0 v1 : ByteArray) (v2 v3 v4 : Int) (v5 : ByteArray) (v6 : Sl) (v7 v8 v9 : Option Addr) : MR := fun V R =>
 ∃ v10, K.f.ok v10 /\ V.rowp v7 ((0 : Int).toNat * 1) 1 = some [v10] /\
 ∃ v11, K.f.ok v11 /\ V.rowp v7 ((0 : Int).toNat * 1) 1 = some [v11] /\
 ∃ v12, V.rowp v8 ((0 : Int).toNat * 1) 1 = some [uL v12] /\
 ∃ v13, V.rowp v9 ((0 : Int).toNat * 1) 1 = some [uI v13] /\
 Ix v12 v13 (∃ v14 v15 v16 v17 v18 v19 v20, V.rowp v12.p (v13.toNat * 7) 7 = some [uS v14, uS v15, uI v16, uI v17, uI v18, uS v19, uL v20] /\
 ∃ f first caps, K.cast .f v10 = .func (.func f) first caps /\ CO f /\
 TT f (first ++ #[uA #[uS v0, uS v1, uI v2, uI v3, uI v4, uS v5, uL v6]] ++ caps) V fun e V1 => ∃ v21, e = rV (uS v21) /\
 V1.rowp (qAa v12.p (v13.toNat * 7)) 0 7 = some [uS v14, uS v15, uI v16, uI v17, uI v18, uS v19, uL v20] /\ Ix v12 v13 (V1.rowp v9 0 1 = some [uI v13] /\ V1.rowp v8 0 1 = some [uL v12] /\ V1.rowp v7 0 1 = some [K.cast .f v11] /\ ∃ f first caps, K.cast .f v11 = .func (.func f) first caps /\ CO f /\
 TT f (first ++ #[uA #[uS v14, uS v15, uI v16, uI v17, uI v18, uS v19, uL v20]] ++ caps) V1 fun e V2 => ∃ v22, e = rV (uS v22) /\
 R (rV (uB (decide (v21 = v22)))) V2))
theorem x252 {v0 v1 : ByteArray} {v2 v3 v4 : Int} {v5 : ByteArray} {v6 : Sl} {v7 v8 v9 : Option Addr} (h : w252 v0 v1 v2 v3 v4 v5 v6 v7 v8 v9 V R) : TT 252 #[uA #[uS v0, uS v1, uI v2, uI v3, uI v4, uS v5, uL v6], uP v7, uP v8, uP v9] V R := trx Tryz.func252 h
def w253 (v0 : Sl) (v1 : Value) : MR := fun V R =>
 TI 54 #[uL v0, K.cast .f v1] V fun v2 V1 =>
 R (rV (uB (decide (0 <= v2)))) V1
theorem x253 {v0 : Sl} {v1 : Value} (h : w253 v0 v1 V R) : TT 253 #[uL v0, K.cast .f v1] V R :=
 qBu Tryz.func253 [] [] false [uL v0, v1] (by kernel_rfl) (by kernel_rfl) h
def w254 (v0 v1 : ByteArray) (v2 v3 : Int) (v4 : ByteArray) (v5 : Sl) (v6 v7 v8 : Option Addr) : MR := fun V R =>
 ∃ v9, K.f.ok v9 /\ V.rowp v6 ((0 : Int).toNat * 1) 1 = some [v9] /\
 ∃ v10, K.f.ok v10 /\ V.rowp v6 ((0 : Int).toNat * 1) 1 = some [v10] /\
 ∃ v11, V.rowp v7 ((0 : Int).toNat * 1) 1 = some [uL v11] /\
 ∃ v12, V.rowp v8 ((0 : Int).toNat * 1) 1 = some [uI v12] /\
 Ix v11 v12 (∃ v13 v14 v15 v16 v17 v18, V.rowp v11.p (v12.toNat * 6) 6 = some [uS v13, uS v14, uI v15, uI v16, uS v17, uL v18] /\
 ∃ f first caps, K.cast .f v9 = .func (.func f) first caps /\ CO f /\
 TT f (first ++ #[uA #[uS v0, uS v1, uI v2, uI v3, uS v4, uL v5]] ++ caps) V fun e V1 => ∃ v19, e = rV (uS v19) /\
 V1.rowp (qAa v11.p (v12.toNat * 6)) 0 6 = some [uS v13, uS v14, uI v15, uI v16, uS v17, uL v18] /\ Ix v11 v12 (V1.rowp v8 0 1 = some [uI v12] /\ V1.rowp v7 0 1 = some [uL v11] /\ V1.rowp v6 0 1 = some [K.cast .f v10] /\ ∃ f first caps, K.cast .f v10 = .func (.func f) first caps /\ CO f /\
 TT f (first ++ #[uA #[uS v13, uS v14, uI v15, uI v16, uS v17, uL v18]] ++ caps) V1 fun e V2 => ∃ v20, e = rV (uS v20) /\
 R (rV (uB (decide (v19 = v20)))) V2))
theorem x254 {v0 v1 : ByteArray} {v2 v3 : Int} {v4 : ByteArray} {v5 : Sl} {v6 v7 v8 : Option Addr} (h : w254 v0 v1 v2 v3 v4 v5 v6 v7 v8 V R) : TT 254 #[uA #[uS v0, uS v1, uI v2, uI v3, uS v4, uL v5], uP v6, uP v7, uP v8] V R := trx Tryz.func254 h
def w255 (v0 : ByteArray) (v1 v2 : Int) (v3 : ByteArray) (v4 : Sl) (v5 v6 v7 : Option Addr) : MR := fun V R =>
 ∃ v8, K.f.ok v8 /\ V.rowp v5 ((0 : Int).toNat * 1) 1 = some [v8] /\
 ∃ v9, K.f.ok v9 /\ V.rowp v5 ((0 : Int).toNat * 1) 1 = some [v9] /\
 ∃ v10, V.rowp v6 ((0 : Int).toNat * 1) 1 = some [uL v10] /\
 ∃ v11, V.rowp v7 ((0 : Int).toNat * 1) 1 = some [uI v11] /\
 Ix v10 v11 (∃ v12 v13 v14 v15 v16, V.rowp v10.p (v11.toNat * 5) 5 = some [uS v12, uI v13, uI v14, uS v15, uL v16] /\
 ∃ f first caps, K.cast .f v8 = .func (.func f) first caps /\ CO f /\
 TT f (first ++ #[uA #[uS v0, uI v1, uI v2, uS v3, uL v4]] ++ caps) V fun e V1 => ∃ v17, e = rV (uS v17) /\
 V1.rowp (qAa v10.p (v11.toNat * 5)) 0 5 = some [uS v12, uI v13, uI v14, uS v15, uL v16] /\ Ix v10 v11 (V1.rowp v7 0 1 = some [uI v11] /\ V1.rowp v6 0 1 = some [uL v10] /\ V1.rowp v5 0 1 = some [K.cast .f v9] /\ ∃ f first caps, K.cast .f v9 = .func (.func f) first caps /\ CO f /\
 TT f (first ++ #[uA #[uS v12, uI v13, uI v14, uS v15, uL v16]] ++ caps) V1 fun e V2 => ∃ v18, e = rV (uS v18) /\
 R (rV (uB (decide (v17 = v18)))) V2))
theorem x255 {v0 : ByteArray} {v1 v2 : Int} {v3 : ByteArray} {v4 : Sl} {v5 v6 v7 : Option Addr} (h : w255 v0 v1 v2 v3 v4 v5 v6 v7 V R) : TT 255 #[uA #[uS v0, uI v1, uI v2, uS v3, uL v4], uP v5, uP v6, uP v7] V R := trx Tryz.func255 h
def w256 (v0 : Option Addr) (v1 : Option Nat) (v2 : Bool) (v3 : Int) (v4 : ByteArray) (v5 v6 v7 : Sl) (v8 : ByteArray) : MR := fun V R =>
 Br (v3 = 6)
 (¬ v5.p = none /\ (0 : Int) <= (0 : Int) /\ 0 < (v5.n : Int) /\ ∃ v9 v10 v11 v12, V.rowp v5.p ((0 : Int).toNat * 4) 4 = some [uI v9, uI v10, uS v11, uL v12] /\
 TT 139 #[uA #[uP v0, uM v1, uB v2], uA #[uI v9, uI v10, uS v11, uL v12]] V fun e V1 => ∃ v13 v14, e = rT #[uS v13, uI v14] /\
 R (rV (uI v14)) V1)
 (Lp [uI 0, .slice none 0 0, uI 0] V fun I n V1 => ∀ v9 v10 v11, I n [uI v9, uL v10, uI v11] V1 -> ∀ J0 : LMP, Nx I n J0 ->
 Br (v11 < (v5.n : Int))
 (Ix v5 v11 (∃ v12 v13 v14 v15, V1.rowp v5.p (v11.toNat * 4) 4 = some [uI v12, uI v13, uS v14, uL v15] /\
 TT 90 #[uA #[uP v0, uM v1, uB v2], uA #[uI v12, uI v13, uS v14, uL v15]] V1 fun e V2 => ∃ v16 v17, e = rT #[uS v16, uI v17] /\
 Br (v17 = 0)
 (qAo [uS v16] 9 V2 fun v18 V3 =>
 qAq Tryz.prog (.call { callee := (.builtin .append), args := #[(.tmp 48), (.tmp 50)], argTypes := #[174, 174] }) 174 (gv [(48, uL v10), (50, .slice (qAa v18 0) 1 1)]) V3 fun x V4 => ∃ v19, x = uL v19 /\
 IR (v11 + 1) /\ J0 [uI v9, uL v19, uI (v11 + 1)] V4)
 (R (rV (uI v17)) V2)))
 (Br (v3 = 1)
 (qBt Tryz.prog 163 (uM v1) (uS v4) true V1 fun x => ∃ v12 v13, x = .tuple #[uS v12, uB v13] /\
 Br (v13 = true)
 (¬ v10.p = none /\ (0 : Int) <= (0 : Int) /\ 0 < (v10.n : Int) /\ ∃ v14, V1.rowp v10.p ((0 : Int).toNat * 1) 1 = some [uS v14] /\
 TB 194 #[uP v0, uS v14, uS v12] V1 fun v15 V2 =>
 Br (v15 = true)
 (R (rV (uI 0)) V2)
 (R (rV (uI 11)) V2))
 (R (rV (uI 9)) V1))
 (Br (v3 = 2)
 (¬ v10.p = none /\ (0 : Int) <= (0 : Int) /\ 0 < (v10.n : Int) /\ ∃ v12, V1.rowp v10.p ((0 : Int).toNat * 1) 1 = some [uS v12] /\
 TT 198 #[uP v0, uS v12, uS v4] V1 fun e V2 => ∃ v13 v14, e = rT #[uS v13, uI v14] /\
 Br (v14 = 0)
 (¬ v10.p = none /\ (0 : Int) <= (1 : Int) /\ 1 < (v10.n : Int) /\ ∃ v15, V2.rowp v10.p 1 1 = some [uS v15] /\
 TB 194 #[uP v0, uS v15, uS v13] V2 fun v16 V3 =>
 Br (v16 = true)
 (R (rV (uI 0)) V3)
 (R (rV (uI 11)) V3))
 (R (rV (uI v14)) V2))
 (Br (v3 = 3)
 (¬ v10.p = none /\ (0 : Int) <= (0 : Int) /\ 0 < (v10.n : Int) /\ ∃ v12, V1.rowp v10.p ((0 : Int).toNat * 1) 1 = some [uS v12] /\
 Br (v12 = (qAj [98, 111, 111, 108]))
 (R (rV (uI 0)) V1)
 (R (rV (uI 11)) V1))
 (Br (v3 = 4)
 (¬ v10.p = none /\ (0 : Int) <= (0 : Int) /\ 0 < (v10.n : Int) /\ ∃ v12, V1.rowp v10.p ((0 : Int).toNat * 1) 1 = some [uS v12] /\
 Br (v12 = (qAj [98, 111, 111, 108]))
 (R (rV (uI 0)) V1)
 (R (rV (uI 11)) V1))
 (Br (v3 = 5)
 (Br ((v10.n : Int) = 0)
 (Br (v8 = (qAj []))
 (R (rV (uI 0)) V1)
 (R (rV (uI 11)) V1))
 (Br (v8 = (qAj []))
 (R (rV (uI 11)) V1)
 (¬ v10.p = none /\ (0 : Int) <= (0 : Int) /\ 0 < (v10.n : Int) /\ ∃ v12, V1.rowp v10.p ((0 : Int).toNat * 1) 1 = some [uS v12] /\
 TB 194 #[uP v0, uS v12, uS v8] V1 fun v13 V2 =>
 Br (v13 = true)
 (R (rV (uI 0)) V2)
 (R (rV (uI 11)) V2))))
 (R (rV (uI 0)) V1)))))))
theorem x256 {v0 : Option Addr} {v1 : Option Nat} {v2 : Bool} {v3 : Int} {v4 : ByteArray} {v5 v6 v7 : Sl} {v8 : ByteArray} (h : w256 v0 v1 v2 v3 v4 v5 v6 v7 v8 V R) : TT 256 #[uA #[uP v0, uM v1, uB v2], uA #[uI v3, uS v4, uL v5, uL v6, uL v7], uS v8] V R := trx Tryz.func256 h
def w257 (v0 v1 : ByteArray) : MR := fun V R =>
 TB 260 #[uS v0] V fun v2 V1 =>
 Br (v2 = true)
 (TB 260 #[uS v1] V1 fun v3 V2 =>
 Br (v3 = true)
 (R (rV (uB (Op.bytesLess (v0).toList (v1).toList))) V2)
 (R (rV (uB true)) V2))
 (R (rV (uB (Op.bytesLess (v0).toList (v1).toList))) V1)
theorem x257 {v0 v1 : ByteArray} (h : w257 v0 v1 V R) : TT 257 #[uS v0, uS v1] V R := trx Tryz.func257 h
def w258 (v0 : ByteArray) : MR := fun V R =>
 R (rV (uB (!(decide (v0 = v0))))) V
theorem x258 {v0 : ByteArray} (h : w258 v0 V R) : TT 258 #[uS v0] V R := trx Tryz.func258 h
def w260 (v0 : ByteArray) : MR := fun V R =>
 R (rV (uB (!(decide (v0 = v0))))) V
theorem x260 {v0 : ByteArray} (h : w260 v0 V R) : TT 260 #[uS v0] V R := trx Tryz.func260 h
def w16 (v0 : ByteArray) (v1 v2 v3 v4 v5 v6 v7 v8 v9 : Sl) : MR := fun V R =>
 TT 15 #[uD v0 v1 v2 v3 v4 v5 v6 v7, uA #[uL v8, uL v9]] V fun e V1 => ∃ v10 v11, e = rV (uA #[uL v10, uI v11]) /\
 TL 48 #[uL v2, uL v8, uL v10] V1 fun v12 V2 =>
 Lp [uL v12, .slice none 0 0, uI 0] V2 fun I n V3 => ∀ v13 v14 v15, I n [uL v13, uL v14, uI v15] V3 -> ∀ J0 : LMP, Nx I n J0 ->
 Br (v15 < (v10.n : Int))
 (Ix v10 v15 (∃ v16, V3.rowp v10.p (v15.toNat * 1) 1 = some [uI v16] /\
 IR (v16 - 1) /\ Ix v9 (v16 - 1) (∃ v17 v18, V3.rowp v9.p ((v16 - 1).toNat * 2) 2 = some [uI v17, uL v18] /\
 Ix v1 v17 (¬ (qAa v1.p (v17.toNat * 2)) = none /\ ∃ v19 v20, V3.rowp v1.p (v17.toNat * 2) 2 = some [uS v19, uL v20] /\
 TL 48 #[uL v20, uL v18, uL v10] V3 fun v21 V4 =>
 qAo [uI v17, uL v21] 99 V4 fun v22 V5 =>
 qAq Tryz.prog (.call { callee := (.builtin .append), args := #[(.tmp 36), (.tmp 51)], argTypes := #[32, 32] }) 32 (gv [(36, uL v14), (51, .slice (qAa v22 0) 1 1)]) V5 fun x V6 => ∃ v23, x = uL v23 /\
 IR (v15 + 1) /\ J0 [uL v13, uL v23, uI (v15 + 1)] V6))))
 (R (rV (uA #[uL v13, uL v14])) V3)
theorem x16 {v0 : ByteArray} {v1 v2 v3 v4 v5 v6 v7 v8 v9 : Sl} (h : w16 v0 v1 v2 v3 v4 v5 v6 v7 v8 v9 V R) : TT 16 #[uD v0 v1 v2 v3 v4 v5 v6 v7, uA #[uL v8, uL v9]] V R :=
 qGY Tryz.func16 [] [(4, [6])] false (by kernel_rfl) (by kernel_rfl) h
def w17 (v0 : ByteArray) (v1 v2 v3 v4 v5 v6 v7 v8 v9 : Sl) : MR := fun V R =>
 TT 35 #[uD v0 v1 v2 v3 v4 v5 v6 v7, uA #[uL v8, uL v9]] V fun e V1 => ∃ v10 v11, e = rT #[uP v10, uI v11] /\
 Br (v11 = 0)
 (TT 49 #[uD v0 v1 v2 v3 v4 v5 v6 v7, uA #[uL v8, uL v9]] V1 fun e V2 => ∃ v12 v13, e = rT #[uL v12, uI v13] /\
 Br (v13 = 0)
 (Lp [.slice none 0 0, uI 0] V2 fun I n V3 => ∀ v14 v15, I n [uL v14, uI v15] V3 -> ∀ J0 : LMP, Nx I n J0 ->
 Br (v15 < (v5.n : Int))
 (Ix v5 v15 (∃ v16 v17 v18 v19 v20 v21, V3.rowp v5.p (v15.toNat * 6) 6 = some [uS v16, uS v17, uI v18, uI v19, uS v20, uL v21] /\
 Br (v17 = (qAj []))
 (qAo [uI 0] 3 V3 fun v22 V4 =>
 Lp [uL v14, uI 0] V4 fun I n V5 => ∀ v23 v24, I n [uL v23, uI v24] V5 -> ∀ J1 : LMP, Nx I n J1 ->
 Br (v24 < 1)
 (¬ (qAa v22 0) = none /\ 0 <= v24 /\ v24 < 1 /\ ∃ v25, V5.rowp (qAa v22 0) (v24.toNat * 1) 1 = some [uI v25] /\
 TS 38 #[uP v10, uI v25] V5 fun v26 V6 =>
 Br (v26 = v17)
 (TB 50 #[uP v10, uA #[uS v16, uS v17, uI v18, uI v19, uS v20, uL v21], uI v25] V6 fun v27 V7 =>
 Br (v27 = true)
 (IR (v24 + 1) /\ J1 [uL v23, uI (v24 + 1)] V7)
 (qAo [uS v16, uI v25] 52 V7 fun v28 V8 =>
 qAq Tryz.prog (.call { callee := (.builtin .append), args := #[(.tmp 64), (.tmp 69)], argTypes := #[48, 48] }) 48 (gv [(64, uL v23), (69, .slice (qAa v28 0) 1 1)]) V8 fun x V9 => ∃ v29, x = uL v29 /\
 IR (v24 + 1) /\ J1 [uL v29, uI (v24 + 1)] V9))
 (IR (v24 + 1) /\ J1 [uL v23, uI (v24 + 1)] V6))
 (IR (v15 + 1) /\ J0 [uL v23, uI (v15 + 1)] V5))
 (Lp [uL v14, uI 0] V3 fun I n V4 => ∀ v22 v23, I n [uL v22, uI v23] V4 -> ∀ J1 : LMP, Nx I n J1 ->
 Br (v23 < (v12.n : Int))
 (Ix v12 v23 (∃ v24, V4.rowp v12.p (v23.toNat * 1) 1 = some [uI v24] /\
 TS 38 #[uP v10, uI v24] V4 fun v25 V5 =>
 Br (v25 = v17)
 (TB 50 #[uP v10, uA #[uS v16, uS v17, uI v18, uI v19, uS v20, uL v21], uI v24] V5 fun v26 V6 =>
 Br (v26 = true)
 (IR (v23 + 1) /\ J1 [uL v22, uI (v23 + 1)] V6)
 (qAo [uS v16, uI v24] 52 V6 fun v27 V7 =>
 qAq Tryz.prog (.call { callee := (.builtin .append), args := #[(.tmp 64), (.tmp 69)], argTypes := #[48, 48] }) 48 (gv [(64, uL v22), (69, .slice (qAa v27 0) 1 1)]) V7 fun x V8 => ∃ v28, x = uL v28 /\
 IR (v23 + 1) /\ J1 [uL v28, uI (v23 + 1)] V8))
 (IR (v23 + 1) /\ J1 [uL v22, uI (v23 + 1)] V5)))
 (IR (v15 + 1) /\ J0 [uL v22, uI (v15 + 1)] V4))))
 (R (rT #[uL v14, uI 0]) V3))
 (R (rT #[.slice none 0 0, uI v13]) V2))
 (R (rT #[.slice none 0 0, uI v11]) V1)
theorem x17 {v0 : ByteArray} {v1 v2 v3 v4 v5 v6 v7 v8 v9 : Sl} (h : w17 v0 v1 v2 v3 v4 v5 v6 v7 v8 v9 V R) : TT 17 #[uD v0 v1 v2 v3 v4 v5 v6 v7, uA #[uL v8, uL v9]] V R :=
 qGY Tryz.func17 [44] [] false (by kernel_rfl) (by kernel_rfl) h
def w20 (v0 : Sl) (v1 : Int) : MR := fun V R =>
 qAq Tryz.prog (.call { callee := (.builtin .min), args := #[(.const (.int .i64 1)), (.tmp 10)], argTypes := #[3, 3] }) 3 (gv [(10, uI (v0.n : Int))]) V fun x V1 => ∃ v2, x = uI v2 /\
 qAo [.slice none 0 0, .slice none 0 0] 34 V1 fun v3 V2 =>
 qAo [uI v2] 3 V2 fun v4 V3 =>
 StT (qAa v3 0) 0 [.slice (qAa v4 0) 1 1, .slice none 0 0] V3 fun V4 =>
 Lp [uI 0] V4 fun I n V5 => ∀ v5, I n [uI v5] V5 -> ∀ J0 : LMP, Nx I n J0 ->
 Br (v5 < (v0.n : Int))
 (Ix v0 v5 (∃ v6, V5.rowp v0.p (v5.toNat * 1) 1 = some [uI v6] /\
 IR (v5 + 2) /\ IR ((v0.n : Int) - 1) /\ Br (v5 = ((v0.n : Int) - 1))
 (¬ (qAa v3 0) = none /\ ∃ v7, V5.rowp v3 1 1 = some [uL v7] /\
 qAo [uI v1, uI v6] 3 V5 fun v8 V6 =>
 qAo [uI 0, .slice (qAa v8 0) 2 2] 99 V6 fun v9 V7 =>
 qAq Tryz.prog (.call { callee := (.builtin .append), args := #[(.tmp 30), (.tmp 35)], argTypes := #[32, 32] }) 32 (gv [(30, uL v7), (35, .slice (qAa v9 0) 1 1)]) V7 fun x V8 => ∃ v10, x = uL v10 /\
 ¬ (qAa v3 0) = none /\ StT (qAa v3 1) 0 [uL v10] V8 fun V9 =>
 IR (v5 + 1) /\ J0 [uI (v5 + 1)] V9)
 (¬ (qAa v3 0) = none /\ ∃ v7, V5.rowp v3 1 1 = some [uL v7] /\
 qAo [uI (v5 + 2), uI v6] 3 V5 fun v8 V6 =>
 qAo [uI 0, .slice (qAa v8 0) 2 2] 99 V6 fun v9 V7 =>
 qAq Tryz.prog (.call { callee := (.builtin .append), args := #[(.tmp 30), (.tmp 35)], argTypes := #[32, 32] }) 32 (gv [(30, uL v7), (35, .slice (qAa v9 0) 1 1)]) V7 fun x V8 => ∃ v10, x = uL v10 /\
 ¬ (qAa v3 0) = none /\ StT (qAa v3 1) 0 [uL v10] V8 fun V9 =>
 IR (v5 + 1) /\ J0 [uI (v5 + 1)] V9)))
 (∃ v6 v7, V5.rowp v3 ((0 : Int).toNat * 1) 2 = some [uL v6, uL v7] /\
 R (rV (uA #[uL v6, uL v7])) V5)
theorem x20 {v0 : Sl} {v1 : Int} (h : w20 v0 v1 V R) : TT 20 #[uL v0, uI v1] V R :=
 qGY Tryz.func20 [5] [] false (by kernel_rfl) (by kernel_rfl) h
def w47 (v0 : ByteArray) (v1 v2 v3 v4 v5 v6 v7 v8 v9 v10 : Sl) (v11 : Int) (v12 v13 : Sl) : MR := fun V R =>
 Lp [uL v10, uI v11, uI 0] V fun I n V1 => ∀ v14 v15 v16, I n [uL v14, uI v15, uI v16] V1 -> ∀ J0 : LMP, Nx I n J0 ->
 Br (v16 < (v12.n : Int))
 (Ix v13 v16 (∃ v17, V1.rowp v13.p (v16.toNat * 1) 1 = some [uI v17] /\
 Ix v12 v16 (¬ (qAa v12.p (v16.toNat * 2)) = none /\ ∃ v18 v19, V1.rowp v12.p (v16.toNat * 2) 2 = some [uS v18, uS v19] /\
 Br (v19 = (qAj [105, 110, 116]))
 (IR (v16 + 1) /\ J0 [uL v14, uI v15, uI (v16 + 1)] V1)
 (Ix v12 v16 (¬ (qAa v12.p (v16.toNat * 2)) = none /\ ∃ v20 v21, V1.rowp v12.p (v16.toNat * 2) 2 = some [uS v20, uS v21] /\
 Br (v21 = (qAj [98, 111, 111, 108]))
 (IR (v16 + 1) /\ J0 [uL v14, uI v15, uI (v16 + 1)] V1)
 (Br (v17 = 0)
 (IR (v16 + 1) /\ J0 [uL v14, uI v15, uI (v16 + 1)] V1)
 (TI 82 #[uL v14, uI v17] V1 fun v22 V2 =>
 Br (0 <= v22)
 (Br (v15 = 0)
 (IR (v16 + 1) /\ J0 [uL v14, uI v17, uI (v16 + 1)] V2)
 (IR (v16 + 1) /\ J0 [uL v14, uI v15, uI (v16 + 1)] V2))
 (qAo [uI v17] 3 V2 fun v23 V3 =>
 qAq Tryz.prog (.call { callee := (.builtin .append), args := #[(.tmp 52), (.tmp 54)], argTypes := #[31, 31] }) 31 (gv [(52, uL v14), (54, .slice (qAa v23 0) 1 1)]) V3 fun x V4 => ∃ v24, x = uL v24 /\
 IR (v17 - 1) /\ Ix v9 (v17 - 1) (¬ (qAa v9.p ((v17 - 1).toNat * 2)) = none /\ ∃ v25 v26, V4.rowp v9.p ((v17 - 1).toNat * 2) 2 = some [uI v25, uL v26] /\
 Ix v1 v25 (¬ (qAa v1.p (v25.toNat * 2)) = none /\ ∃ v27 v28, V4.rowp v1.p (v25.toNat * 2) 2 = some [uS v27, uL v28] /\
 IR (v17 - 1) /\ Ix v9 (v17 - 1) (¬ (qAa v9.p ((v17 - 1).toNat * 2)) = none /\ ∃ v29 v30, V4.rowp v9.p ((v17 - 1).toNat * 2) 2 = some [uI v29, uL v30] /\
 TT 47 #[uD v0 v1 v2 v3 v4 v5 v6 v7, uA #[uL v8, uL v9], uA #[uL v24, uI v15], uL v28, uL v30] V4 fun e V5 => ∃ v31 v32, e = rV (uA #[uL v31, uI v32]) /\
 IR (v16 + 1) /\ J0 [uL v31, uI v32, uI (v16 + 1)] V5)))))))))))
 (R (rV (uA #[uL v14, uI v15])) V1)
theorem x47 {v0 : ByteArray} {v1 v2 v3 v4 v5 v6 v7 v8 v9 v10 : Sl} {v11 : Int} {v12 v13 : Sl} (h : w47 v0 v1 v2 v3 v4 v5 v6 v7 v8 v9 v10 v11 v12 v13 V R) : TT 47 #[uD v0 v1 v2 v3 v4 v5 v6 v7, uA #[uL v8, uL v9], uA #[uL v10, uI v11], uL v12, uL v13] V R :=
 qGY Tryz.func47 [] [(2, [7])] false (by kernel_rfl) (by kernel_rfl) h
def w111 (v0 : Option Addr) : MR := fun V R =>
 qAq Tryz.prog (.makeFunc (.func 162) #[(.tmp 6)] #[]) 193 (gv [(6, uP v0)]) V fun x V1 => ∃ v1, K.f.ok v1 /\ x = v1 /\
 qAq Tryz.prog (.makeFunc (.func 163) #[(.tmp 8)] #[]) 193 (gv [(8, uP v0)]) V1 fun x V2 => ∃ v2, K.f.ok v2 /\ x = v2 /\
 qAq Tryz.prog (.makeFunc (.func 164) #[(.tmp 10)] #[]) 193 (gv [(10, uP v0)]) V2 fun x V3 => ∃ v3, K.f.ok v3 /\ x = v3 /\
 qAq Tryz.prog (.makeFunc (.func 165) #[(.tmp 12)] #[]) 193 (gv [(12, uP v0)]) V3 fun x V4 => ∃ v4, K.f.ok v4 /\ x = v4 /\
 qAq Tryz.prog (.makeFunc (.func 166) #[(.tmp 14)] #[]) 193 (gv [(14, uP v0)]) V4 fun x V5 => ∃ v5, K.f.ok v5 /\ x = v5 /\
 qAo [K.cast .f v1, K.cast .f v2, K.cast .f v3, K.cast .f v4, K.cast .f v5] 193 V5 fun v6 V6 =>
 Lp [uP none, uI 0] V6 fun I n V7 => ∀ v7 v8, I n [uP v7, uI v8] V7 -> ∀ J0 : LMP, Nx I n J0 ->
 Br (v8 < 5)
 (¬ (qAa v6 0) = none /\ 0 <= v8 /\ v8 < 5 /\ ∃ v9, K.f.ok v9 /\ V7.rowp (qAa v6 0) (v8.toNat * 1) 1 = some [v9] /\
 ∃ f first caps, K.cast .f v9 = .func (.func f) first caps /\ CO f /\
 TT f (first ++ #[] ++ caps) V7 fun e V8 => ∃ v10, e = rV (uP v10) /\
 Br (v10 = none)
 (IR (v8 + 1) /\ J0 [uP v7, uI (v8 + 1)] V8)
 (R (rV (uP v10)) V8))
 (R (rV (uP none)) V7)
theorem x111 {v0 : Option Addr} (h : w111 v0 V R) : TT 111 #[uP v0] V R :=
 qGY Tryz.func111 [16] [] false (by kernel_rfl) (by kernel_rfl) h
def w231 (v0 : Option Addr) (v1 : Option Nat) (v2 : Bool) (v3 : Sl) (v4 : ByteArray) (v5 : Option Addr) : MR := fun V R =>
 Lp [uI 0, uI 0, uI 0] V fun I n V1 => ∀ v6 v7 v8, I n [uI v6, uI v7, uI v8] V1 -> ∀ J0 : LMP, Nx I n J0 ->
 Br (v8 < (v3.n : Int))
 (Ix v3 v8 (∃ v9 v10 v11 v12 v13, V1.rowp v3.p (v8.toNat * 5) 5 = some [uI v9, uS v10, uL v11, uL v12, uL v13] /\
 ¬ v5 = none /\ ∃ v14, V1.rowp v5 ((0 : Int).toNat * 1) 1 = some [uI v14] /\
 ¬ v5 = none /\ ∃ v15, V1.rowp v5 ((0 : Int).toNat * 1) 1 = some [uI v15] /\
 IR (v15 + 1) /\ ¬ v5 = none /\ StT v5 0 [uI (v15 + 1)] V1 fun V2 =>
 TI 256 #[uA #[uP v0, uM v1, uB v2], uA #[uI v9, uS v10, uL v11, uL v12, uL v13], uS v4] V2 fun v16 V3 =>
 Br (v16 = 0)
 (qAo [uL v12, uL v13] 144 V3 fun v17 V4 =>
 Lp [uI v6, uI v7, uI 0] V4 fun I n V5 => ∀ v18 v19 v20, I n [uI v18, uI v19, uI v20] V5 -> ∀ J1 : LMP, Nx I n J1 ->
 Br (v20 < 2)
 (¬ (qAa v17 0) = none /\ 0 <= v20 /\ v20 < 2 /\ ∃ v21, V5.rowp (qAa v17 0) (v20.toNat * 1) 1 = some [uL v21] /\
 TT 231 #[uA #[uP v0, uM v1, uB v2], uL v21, uS v4, uP v5] V5 fun e V6 => ∃ v22 v23, e = rT #[uI v22, uI v23] /\
 Br (v23 = 0)
 (IR (v20 + 1) /\ J1 [uI v18, uI v19, uI (v20 + 1)] V6)
 (R (rT #[uI v22, uI v23]) V6))
 (IR (v8 + 1) /\ J0 [uI v18, uI v19, uI (v8 + 1)] V5))
 (R (rT #[uI v14, uI v16]) V3)))
 (R (rT #[uI 0, uI 0]) V1)
theorem x231 {v0 : Option Addr} {v1 : Option Nat} {v2 : Bool} {v3 : Sl} {v4 : ByteArray} {v5 : Option Addr} (h : w231 v0 v1 v2 v3 v4 v5 V R) : TT 231 #[uA #[uP v0, uM v1, uB v2], uL v3, uS v4, uP v5] V R :=
 qGY Tryz.func231 [44] [] false (by kernel_rfl) (by kernel_rfl) h
end
end Go.Proofs
