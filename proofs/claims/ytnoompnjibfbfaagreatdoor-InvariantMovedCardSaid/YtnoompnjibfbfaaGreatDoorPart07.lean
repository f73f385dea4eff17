/- Part 7 of a proof of a law of this seat: no statement of the seat is proved here. -/
import Derived.Test.YtnoompnjibfbfaaGreatDoorPart05
set_option linter.unusedVariables false
set_option linter.unusedSimpArgs false
namespace Go.Proofs
open Go Go.Sx
set_option maxRecDepth 100000
set_option linter.unusedVariables false
section
variable {V : Mem} {R : RP}
def w79 (v0 : ByteArray) (v1 v2 v3 v4 v5 v6 v7 : Sl) : MR := fun V R =>
 TT 126 #[uD v0 v1 v2 v3 v4 v5 v6 v7] V fun e V1 => ∃ v8 v9, e = rT #[uS v8, uI v9] /\
 Br (v9 = 0)
 (TT 127 #[uD v0 v1 v2 v3 v4 v5 v6 v7] V1 fun e V2 => ∃ v10 v11, e = rT #[uS v10, uI v11] /\
 Br (v11 = 0)
 (TT 128 #[uD v0 v1 v2 v3 v4 v5 v6 v7] V2 fun e V3 => ∃ v12 v13, e = rT #[uS v12, uI v13] /\
 Br (v13 = 0)
 (Lp [uS (qAj []), uI 0, uI 0, uI 0] V3 fun I n V4 => ∀ v14 v15 v16 v17, I n [uS v14, uI v15, uI v16, uI v17] V4 -> ∀ J0 : LMP, Nx I n J0 ->
 Br (v17 < (v3.n : Int))
 (Ix v3 v17 (∃ v18 v19 v20 v21 v22, V4.rowp v3.p (v17.toNat * 5) 5 = some [uS v18, uL v19, uS v20, uL v21, uL v22] /\
 Ix v3 v17 (¬ (qAa v3.p (v17.toNat * 5)) = none /\ ∃ v23 v24 v25 v26 v27, V4.rowp v3.p (v17.toNat * 5) 5 = some [uS v23, uL v24, uS v25, uL v26, uL v27] /\
 TT 129 #[uD v0 v1 v2 v3 v4 v5 v6 v7, uA #[uS v18, uL v19, uS v20, uL v21, uL v22], uL v27, uI 0] V4 fun e V5 => ∃ v28 v29, e = rT #[uI v28, uI v29] /\
 Br (v29 = 0)
 (IR (v17 + 1) /\ J0 [uS v14, uI v15, uI v16, uI (v17 + 1)] V5)
 (Ix v3 v17 (¬ (qAa v3.p (v17.toNat * 5)) = none /\ ∃ v30 v31 v32 v33 v34, V5.rowp v3.p (v17.toNat * 5) 5 = some [uS v30, uL v31, uS v32, uL v33, uL v34] /\
 R (rT #[uS v30, uI v28, uI v29]) V5)))))
 (TT 130 #[uD v0 v1 v2 v3 v4 v5 v6 v7] V4 fun e V5 => ∃ v18 v19, e = rT #[uS v18, uI v19] /\
 Br (v19 = 0)
 (R (rT #[uS (qAj []), uI 0, uI 0]) V5)
 (R (rT #[uS v18, uI (-1), uI v19]) V5)))
 (R (rT #[uS v12, uI (-1), uI v13]) V3))
 (R (rT #[uS v10, uI (-1), uI v11]) V2))
 (R (rT #[uS v8, uI (-1), uI v9]) V1)
theorem x79 {v0 : ByteArray} {v1 v2 v3 v4 v5 v6 v7 : Sl} (h : w79 v0 v1 v2 v3 v4 v5 v6 v7 V R) : TT 79 #[uD v0 v1 v2 v3 v4 v5 v6 v7] V R := trx Tryz.func79 h
def w80 (v0 : ByteArray) (v1 v2 v3 v4 v5 v6 v7 : Sl) : MR := fun V R =>
 TB 44 #[uD v0 v1 v2 v3 v4 v5 v6 v7] V fun v8 V1 =>
 Br (v8 = true)
 (TB 131 #[uD v0 v1 v2 v3 v4 v5 v6 v7, uL v2] V1 fun v9 V2 =>
 Br (v9 = true)
 (Lp [uB false, uI 0] V2 fun I n V3 => ∀ v10 v11, I n [uB v10, uI v11] V3 -> ∀ J0 : LMP, Nx I n J0 ->
 Br (v11 < (v1.n : Int))
 (Ix v1 v11 (¬ (qAa v1.p (v11.toNat * 2)) = none /\ ∃ v12 v13, V3.rowp v1.p (v11.toNat * 2) 2 = some [uS v12, uL v13] /\
 TI 132 #[uD v0 v1 v2 v3 v4 v5 v6 v7, uS v12] V3 fun v14 V4 =>
 Br (v14 = v11)
 (Ix v1 v11 (¬ (qAa v1.p (v11.toNat * 2)) = none /\ ∃ v15 v16, V4.rowp v1.p (v11.toNat * 2) 2 = some [uS v15, uL v16] /\
 TB 131 #[uD v0 v1 v2 v3 v4 v5 v6 v7, uL v16] V4 fun v17 V5 =>
 Br (v17 = true)
 (IR (v11 + 1) /\ J0 [uB v10, uI (v11 + 1)] V5)
 (R (rV (uB false)) V5)))
 (R (rV (uB false)) V4)))
 (R (rV (uB true)) V3))
 (R (rV (uB false)) V2))
 (R (rV (uB false)) V1)
theorem x80 {v0 : ByteArray} {v1 v2 v3 v4 v5 v6 v7 : Sl} (h : w80 v0 v1 v2 v3 v4 v5 v6 v7 V R) : TT 80 #[uD v0 v1 v2 v3 v4 v5 v6 v7] V R := trx Tryz.func80 h
def w81 (v0 : ByteArray) (v1 v2 v3 v4 v5 v6 v7 v8 v9 : Sl) (v10 : ByteArray) (v11 : Int) : MR := fun V R =>
 Br (v10 = (qAj [105, 110, 116]))
 (Br ((-1099511627776) <= v11)
 (R (rV (uB (decide (v11 <= 1099511627776)))) V)
 (R (rV (uB false)) V))
 (Br (v10 = (qAj [98, 111, 111, 108]))
 (Br (v11 = 0)
 (R (rV (uB true)) V)
 (R (rV (uB (decide (v11 = 1)))) V))
 (Br (v11 = 0)
 (R (rV (uB true)) V)
 (Br (1 <= v11)
 (Br (v11 <= (v9.n : Int))
 (IR (v11 - 1) /\ Ix v9 (v11 - 1) (¬ (qAa v9.p ((v11 - 1).toNat * 2)) = none /\ ∃ v12 v13, V.rowp v9.p ((v11 - 1).toNat * 2) 2 = some [uI v12, uL v13] /\
 TI 132 #[uD v0 v1 v2 v3 v4 v5 v6 v7, uS v10] V fun v14 V1 =>
 V1.rowp (qAa (qAa v9.p ((v11 - 1).toNat * 2)) 0) 0 1 = some [uI v12] /\ ¬ (qAa v9.p ((v11 - 1).toNat * 2)) = none /\ Ix v9 (v11 - 1) (IR (v11 - 1) /\ R (rV (uB (decide (v12 = v14)))) V1)))
 (R (rV (uB false)) V))
 (R (rV (uB false)) V))))
theorem x81 {v0 : ByteArray} {v1 v2 v3 v4 v5 v6 v7 v8 v9 : Sl} {v10 : ByteArray} {v11 : Int} (h : w81 v0 v1 v2 v3 v4 v5 v6 v7 v8 v9 v10 v11 V R) : TT 81 #[uD v0 v1 v2 v3 v4 v5 v6 v7, uA #[uL v8, uL v9], uS v10, uI v11] V R := trx Tryz.func81 h
def w82 (v0 : Sl) (v1 : Int) : MR := fun V R =>
 Lp [uI 0, uI 0] V fun I n V1 => ∀ v2 v3, I n [uI v2, uI v3] V1 -> ∀ J0 : LMP, Nx I n J0 ->
 Br (v3 < (v0.n : Int))
 (Ix v0 v3 (∃ v4, V1.rowp v0.p (v3.toNat * 1) 1 = some [uI v4] /\
 Br (v4 = v1)
 (R (rV (uI v3)) V1)
 (IR (v3 + 1) /\ J0 [uI v2, uI (v3 + 1)] V1)))
 (R (rV (uI (-1))) V1)
theorem x82 {v0 : Sl} {v1 : Int} (h : w82 v0 v1 V R) : TT 82 #[uL v0, uI v1] V R := trx Tryz.func82 h
def w83 (v0 : ByteArray) (v1 v2 v3 v4 v5 v6 v7 v8 v9 : Sl) : MR := fun V R =>
 qAq Tryz.prog (.makeMap 150 none) 150 (gv []) V fun x V1 => ∃ v10, x = uM v10 /\
 qAo [uS v0, uL v1, uL v2, uL v3, uL v4, uL v5, uL v6, uL v7, uL v8, uL v9, .slice none 0 0, uM v10, uI 0] 152 V1 fun v11 V2 =>
 TT 133 #[uP (qAa v11 0), uL v2, uL v8] V2 fun e V3 => e = rT #[] /\
 R (rV (uP (qAa v11 0))) V3
theorem x83 {v0 : ByteArray} {v1 v2 v3 v4 v5 v6 v7 v8 v9 : Sl} (h : w83 v0 v1 v2 v3 v4 v5 v6 v7 v8 v9 V R) : TT 83 #[uD v0 v1 v2 v3 v4 v5 v6 v7, uA #[uL v8, uL v9]] V R := trx Tryz.func83 h
def w84 (v0 v1 v2 : Option Addr) : MR := fun V R =>
 ∃ v3, V.rowp v0 ((0 : Int).toNat * 1) 1 = some [uP v3] /\
 ¬ v1 = none /\ ∃ v4 v5 v6 v7, V.rowp v1 2 4 = some [uI v4, uI v5, uS v6, uL v7] /\
 ∃ v8, V.rowp v2 ((0 : Int).toNat * 1) 1 = some [uI v8] /\
 TT 62 #[uP v3, uA #[uI v4, uI v5, uS v6, uL v7], uI v8] V fun e V1 => (∃ v9, e = rV (uI v9) /\
 R (rV (uI v9)) V1) ∨ ∃ ch, e = .panicked ch /\ R e V1
theorem x84 {v0 v1 v2 : Option Addr} (h : w84 v0 v1 v2 V R) : TT 84 #[uP v0, uP v1, uP v2] V R := trx Tryz.func84 h
def w85 (v0 : Sl) (v1 : Value) : MR := fun V R =>
 Lp [uI 0, uI 0] V fun I n V1 => ∀ v2 v3, I n [uI v2, uI v3] V1 -> ∀ J0 : LMP, Nx I n J0 ->
 Br (v3 < (v0.n : Int))
 (Ix v0 v3 (∃ v4 v5 v6 v7, V1.rowp v0.p (v3.toNat * 4) 4 = some [uI v4, uI v5, uS v6, uL v7] /\
 ∃ f first caps, K.cast .f v1 = .func (.func f) first caps /\ CO f /\
 TT f (first ++ #[uA #[uI v4, uI v5, uS v6, uL v7]] ++ caps) V1 fun e V2 => ∃ v8, e = rV (uB v8) /\
 Br (v8 = true)
 (R (rV (uI v3)) V2)
 (IR (v3 + 1) /\ J0 [uI v2, uI (v3 + 1)] V2)))
 (R (rV (uI (-1))) V1)
theorem x85 {v0 : Sl} {v1 : Value} (h : w85 v0 v1 V R) : TT 85 #[uL v0, K.cast .f v1] V R :=
 qBu Tryz.func85 [] [] false [uL v0, v1] (by kernel_rfl) (by kernel_rfl) h
abbrev w86_0 (v6 : Int) (v3 : Sl) (R : RP) (V3 : Mem) (v4 : Int) (v5 : Option Addr) : Prop :=
 Br (v6 < 0)
 (Br (6 < (v3.n : Int))
 (R (rV (uB false)) V3)
 (qAo [uI v4] 3 V3 fun v10 V4 =>
 qAo [uP v5] 157 V4 fun v11 V5 =>
 TB 57 #[uL v3, .func (.func 137) #[] #[uP (qAa v10 0), uP (qAa v11 0)]] V5 fun v12 V6 =>
 R (rV (uB (!v12))) V6))
 (qAo [uI v4] 3 V3 fun v10 V4 =>
 qAo [uP v5] 157 V4 fun v11 V5 =>
 TB 57 #[uL v3, .func (.func 137) #[] #[uP (qAa v10 0), uP (qAa v11 0)]] V5 fun v12 V6 =>
 R (rV (uB (!v12))) V6)
def w86 (v0 v1 : Int) (v2 : ByteArray) (v3 : Sl) (v4 : Int) (v5 : Option Addr) : MR := fun V R =>
 TT 134 #[uI v0] V fun e V1 => ∃ v6 v7, e = rT #[uI v6, uB v7] /\
 TB 135 #[uP v5] V1 fun v8 V2 =>
 Br (v8 = true)
 (Br (60 < v4)
 (R (rV (uB false)) V2)
 (Br (v7 = true)
 (TB 136 #[uA #[uI v0, uI v1, uS v2, uL v3]] V2 fun v9 V3 =>
 Br (v9 = true)
 (Br (0 <= v6)
 (Br ((v3.n : Int) = v6)
 (w86_0 v6 v3 R V3 v4 v5)
 (R (rV (uB false)) V3))
 (w86_0 v6 v3 R V3 v4 v5))
 (R (rV (uB false)) V3))
 (R (rV (uB false)) V2)))
 (R (rV (uB false)) V2)
theorem x86 {v0 v1 : Int} {v2 : ByteArray} {v3 : Sl} {v4 : Int} {v5 : Option Addr} (h : w86 v0 v1 v2 v3 v4 v5 V R) : TT 86 #[uA #[uI v0, uI v1, uS v2, uL v3], uI v4, uP v5] V R := trx Tryz.func86 h
def w88 (v0 : Option Addr) (v1 : ByteArray) : MR := fun V R =>
 ¬ v0 = none /\ ¬ v0 = none /\ ∃ v2, V.rowp v0 8 1 = some [uM v2] /\
 qBt Tryz.prog 207 (uM v2) (uS v1) true V fun x => ∃ v3 v4 v5, x = .tuple #[uA #[uS v3, uL v4], uB v5] /\
 R (rV (uB v5)) V
theorem x88 {v0 : Option Addr} {v1 : ByteArray} (h : w88 v0 v1 V R) : TT 88 #[uP v0, uS v1] V R := trx Tryz.func88 h
def w89 (v0 : Option Addr) (v1 : ByteArray) : MR := fun V R =>
 TT 138 #[uP v0, uB false, .slice none 0 0] V fun e V1 => ∃ v2 v3 v4, e = rV (uA #[uP v2, uM v3, uB v4]) /\
 Br (v1 = (qAj []))
 (R (rV (uA #[uP v2, uM v3, uB v4])) V1)
 (qGn Tryz.prog 163 (uM v3) (.string ⟨#[116, 104, 105, 115]⟩) (uS v1) V1 fun V2 =>
 R (rV (uA #[uP v2, uM v3, uB v4])) V2)
theorem x89 {v0 : Option Addr} {v1 : ByteArray} (h : w89 v0 v1 V R) : TT 89 #[uP v0, uS v1] V R := trx Tryz.func89 h
def w90 (v0 : Option Addr) (v1 : Option Nat) (v2 : Bool) (v3 v4 : Int) (v5 : ByteArray) (v6 : Sl) : MR := fun V R =>
 Br (v3 = 7)
 (TT 139 #[uA #[uP v0, uM v1, uB v2], uA #[uI v3, uI v4, uS v5, uL v6]] V fun e V1 => ∃ v7 v8, e = rT #[uS v7, uI v8] /\
 Br (v8 = 0)
 (Br (v7 = (qAj []))
 (R (rT #[uS (qAj []), uI 11]) V1)
 (R (rT #[uS v7, uI v8]) V1))
 (R (rT #[uS v7, uI v8]) V1))
 (Lp [uS (qAj []), uI 0, .slice none 0 0, uI 0] V fun I n V1 => ∀ v7 v8 v9 v10, I n [uS v7, uI v8, uL v9, uI v10] V1 -> ∀ J0 : LMP, Nx I n J0 ->
 Br (v10 < (v6.n : Int))
 (Ix v6 v10 (∃ v11 v12 v13 v14, V1.rowp v6.p (v10.toNat * 4) 4 = some [uI v11, uI v12, uS v13, uL v14] /\
 TT 90 #[uA #[uP v0, uM v1, uB v2], uA #[uI v11, uI v12, uS v13, uL v14]] V1 fun e V2 => ∃ v15 v16, e = rT #[uS v15, uI v16] /\
 Br (v16 = 0)
 (qAo [uS v15] 9 V2 fun v17 V3 =>
 qAq Tryz.prog (.call { callee := (.builtin .append), args := #[(.tmp 46), (.tmp 48)], argTypes := #[174, 174] }) 174 (gv [(46, uL v9), (48, .slice (qAa v17 0) 1 1)]) V3 fun x V4 => ∃ v18, x = uL v18 /\
 IR (v10 + 1) /\ J0 [uS v7, uI v8, uL v18, uI (v10 + 1)] V4)
 (R (rT #[uS (qAj []), uI v16]) V2)))
 (TT 140 #[uA #[uP v0, uM v1, uB v2], uA #[uI v3, uI v4, uS v5, uL v6], uL v9] V1 fun e V2 => ∃ v11 v12, e = rT #[uS v11, uI v12] /\
 R (rT #[uS v11, uI v12]) V2))
theorem x90 {v0 : Option Addr} {v1 : Option Nat} {v2 : Bool} {v3 v4 : Int} {v5 : ByteArray} {v6 : Sl} (h : w90 v0 v1 v2 v3 v4 v5 v6 V R) : TT 90 #[uA #[uP v0, uM v1, uB v2], uA #[uI v3, uI v4, uS v5, uL v6]] V R := trx Tryz.func90 h
def w91 (v0 : Int) (v1 v2 v3 : Option Addr) : MR := fun V R =>
 ∃ v4, V.rowp v1 ((0 : Int).toNat * 1) 1 = some [uP v4] /\
 ¬ v2 = none /\ ∃ v5, V.rowp v2 3 1 = some [uL v5] /\
 Ix v5 v0 (∃ v6 v7 v8 v9, V.rowp v5.p (v0.toNat * 4) 4 = some [uI v6, uI v7, uS v8, uL v9] /\
 ∃ v10, V.rowp v3 ((0 : Int).toNat * 1) 1 = some [uI v10] /\
 TT 62 #[uP v4, uA #[uI v6, uI v7, uS v8, uL v9], uI v10] V fun e V1 => (∃ v11, e = rV (uI v11) /\
 R (rV (uI v11)) V1) ∨ ∃ ch, e = .panicked ch /\ R e V1)
theorem x91 {v0 : Int} {v1 v2 v3 : Option Addr} (h : w91 v0 v1 v2 v3 V R) : TT 91 #[uI v0, uP v1, uP v2, uP v3] V R := trx Tryz.func91 h
def w92 (v0 : Option Addr) (v1 : ByteArray) (v2 : Int) : MR := fun V R =>
 Br (v1 = (qAj [116, 104, 105, 115]))
 (R (rV (uI v2)) V)
 (¬ v0 = none /\ ¬ v0 = none /\ ¬ (qAa v0 8) = none /\ ∃ v3, V.rowp v0 8 1 = some [uL v3] /\
 ¬ v0 = none /\ ¬ v0 = none /\ ¬ (qAa v0 0) = none /\ ∃ v4, V.rowp v0 2 1 = some [uL v4] /\
 qAo [uS v1] 9 V fun v5 V1 =>
 TI 141 #[uL v4, .func (.func 142) #[] #[uP (qAa v5 0)]] V1 fun v6 V2 =>
 V2.rowp (qAa v0 8) 0 1 = some [uL v3] /\ ¬ (qAa v0 8) = none /\ ¬ v0 = none /\ ¬ v0 = none /\ Ix v3 v6 (∃ v7, V2.rowp v3.p (v6.toNat * 1) 1 = some [uI v7] /\
 R (rV (uI v7)) V2))
theorem x92 {v0 : Option Addr} {v1 : ByteArray} {v2 : Int} (h : w92 v0 v1 v2 V R) : TT 92 #[uP v0, uS v1, uI v2] V R := trx Tryz.func92 h
def w93 (v0 : Option Addr) (v1 : Int) (v2 : ByteArray) : MR := fun V R =>
 Br (v1 = 0)
 (qAq Tryz.prog (.makeInterface 133 (.tmp 12)) 20 (gv [(12, uA #[uI 17])]) V fun x V1 => ∃ v3, K.r.ok v3 /\ x = v3 /\
 ∃ t x, K.cast .r v3 = .iface t x /\ R (.panicked [{ v := .iface t x, recovered := false }]) V1)
 (¬ v0 = none /\ ¬ v0 = none /\ ¬ (qAa v0 8) = none /\ ∃ v3, V.rowp v0 9 1 = some [uL v3] /\
 IR (v1 - 1) /\ Ix v3 (v1 - 1) (∃ v4 v5, V.rowp v3.p ((v1 - 1).toNat * 2) 2 = some [uI v4, uL v5] /\
 ¬ v0 = none /\ ¬ v0 = none /\ ¬ (qAa v0 0) = none /\ ∃ v6, V.rowp v0 1 1 = some [uL v6] /\
 Ix v6 v4 (∃ v7 v8, V.rowp v6.p (v4.toNat * 2) 2 = some [uS v7, uL v8] /\
 TT 143 #[uA #[uS v7, uL v8], uS v2] V fun e V1 => ∃ v9 v10, e = rT #[uI v9, uI v10] /\
 Ix v5 v9 (∃ v11, V1.rowp v5.p (v9.toNat * 1) 1 = some [uI v11] /\
 R (rV (uI v11)) V1))))
theorem x93 {v0 : Option Addr} {v1 : Int} {v2 : ByteArray} (h : w93 v0 v1 v2 V R) : TT 93 #[uP v0, uI v1, uS v2] V R := trx Tryz.func93 h
def w94 (v0 : Int) : MR := fun V R =>
 Br (v0 < (-1099511627776))
 (qAq Tryz.prog (.makeInterface 133 (.tmp 9)) 20 (gv [(9, uA #[uI 5])]) V fun x V1 => ∃ v1, K.r.ok v1 /\ x = v1 /\
 ∃ t x, K.cast .r v1 = .iface t x /\ R (.panicked [{ v := .iface t x, recovered := false }]) V1)
 (Br (1099511627776 < v0)
 (qAq Tryz.prog (.makeInterface 133 (.tmp 9)) 20 (gv [(9, uA #[uI 5])]) V fun x V1 => ∃ v1, K.r.ok v1 /\ x = v1 /\
 ∃ t x, K.cast .r v1 = .iface t x /\ R (.panicked [{ v := .iface t x, recovered := false }]) V1)
 (R (rV (uI v0)) V))
theorem x94 {v0 : Int} (h : w94 v0 V R) : TT 94 #[uI v0] V R := trx Tryz.func94 h
def w95 (v0 : Int) : MR := fun V R =>
 TI 145 #[.int .u64 v0] V fun v1 V1 =>
 R (rV (uI v1)) V1
theorem x95 {v0 : Int} (h : w95 v0 V R) : TT 95 #[.int .u64 v0] V R := trx Tryz.func95 h
def w96 (v0 v1 v2 : Int) : MR := fun V R =>
 Br (v0 = 9)
 (IR (v1 + v2) /\ TT 94 #[uI (v1 + v2)] V fun e V1 => (∃ v3, e = rV (uI v3) /\
 R (rV (uI v3)) V1) ∨ ∃ ch, e = .panicked ch /\ R e V1)
 (Br (v0 = 10)
 (IR (v1 - v2) /\ TT 94 #[uI (v1 - v2)] V fun e V1 => (∃ v3, e = rV (uI v3) /\
 R (rV (uI v3)) V1) ∨ ∃ ch, e = .panicked ch /\ R e V1)
 (Br (v0 = 11)
 (TT 146 #[uI v1, uI v2] V fun e V1 => (∃ v3, e = rV (uI v3) /\
 R (rV (uI v3)) V1) ∨ ∃ ch, e = .panicked ch /\ R e V1)
 (Br (v0 = 22)
 (qAq Tryz.prog (.call { callee := (.builtin .max), args := #[(.tmp 27), (.tmp 28)], argTypes := #[3, 3] }) 3 (gv [(27, uI v1), (28, uI v2)]) V fun x V1 => ∃ v3, x = uI v3 /\
 R (rV (uI v3)) V1)
 (Br (v0 = 23)
 (qAq Tryz.prog (.call { callee := (.builtin .min), args := #[(.tmp 32), (.tmp 33)], argTypes := #[3, 3] }) 3 (gv [(32, uI v1), (33, uI v2)]) V fun x V1 => ∃ v3, x = uI v3 /\
 R (rV (uI v3)) V1)
 (Br (v0 = 14)
 (TI 147 #[uB (decide (v1 = v2))] V fun v3 V1 =>
 R (rV (uI v3)) V1)
 (Br (v0 = 15)
 (TI 147 #[uB (!(decide (v1 = v2)))] V fun v3 V1 =>
 R (rV (uI v3)) V1)
 (Br (v0 = 16)
 (TI 147 #[uB (decide (v1 < v2))] V fun v3 V1 =>
 R (rV (uI v3)) V1)
 (Br (v0 = 17)
 (TI 147 #[uB (decide (v1 <= v2))] V fun v3 V1 =>
 R (rV (uI v3)) V1)
 (Br (v2 = 0)
 (qAq Tryz.prog (.makeInterface 133 (.tmp 61)) 20 (gv [(61, uA #[uI 18])]) V fun x V1 => ∃ v3, K.r.ok v3 /\ x = v3 /\
 ∃ t x, K.cast .r v3 = .iface t x /\ R (.panicked [{ v := .iface t x, recovered := false }]) V1)
 (Br (v0 = 12)
 (¬ v2 = 0 /\ TT 94 #[uI (IntKind.wrap .i64 ((v1).tdiv v2))] V fun e V1 => (∃ v3, e = rV (uI v3) /\
 R (rV (uI v3)) V1) ∨ ∃ ch, e = .panicked ch /\ R e V1)
 (¬ v2 = 0 /\ R (rV (uI ((v1).tmod v2))) V)))))))))))
theorem x96 {v0 v1 v2 : Int} (h : w96 v0 v1 v2 V R) : TT 96 #[uI v0, uI v1, uI v2] V R := trx Tryz.func96 h
abbrev w97_0 (v0 : Int) (v1 : Int) (v2 : ByteArray) (v3 : Sl) (V1 : Mem) (R : RP) : Prop :=
 TB 149 #[uA #[uI v0, uI v1, uS v2, uL v3]] V1 fun v5 V2 =>
 Br (v5 = true)
 (Br (v0 = 1)
 (Br (0 <= v1)
 (R (rV (uB (decide (v1 <= 1099511627776)))) V2)
 (R (rV (uB false)) V2))
 (Br (v0 = 2)
 (Br (v1 = 0)
 (R (rV (uB true)) V2)
 (R (rV (uB (decide (v1 = 1)))) V2))
 (R (rV (uB (decide (v1 = 0)))) V2)))
 (R (rV (uB false)) V2)
def w97 (v0 v1 : Int) (v2 : ByteArray) (v3 : Sl) : MR := fun V R =>
 TI 148 #[uI v0] V fun v4 V1 =>
 Br (v4 = (-2))
 (R (rV (uB false)) V1)
 (Br (0 <= v4)
 (Br ((v3.n : Int) = v4)
 (Br (v4 = (-1))
 (Br (6 < (v3.n : Int))
 (R (rV (uB false)) V1)
 (w97_0 v0 v1 v2 v3 V1 R))
 (w97_0 v0 v1 v2 v3 V1 R))
 (R (rV (uB false)) V1))
 (Br (v4 = (-1))
 (Br (6 < (v3.n : Int))
 (R (rV (uB false)) V1)
 (w97_0 v0 v1 v2 v3 V1 R))
 (w97_0 v0 v1 v2 v3 V1 R)))
theorem x97 {v0 v1 : Int} {v2 : ByteArray} {v3 : Sl} (h : w97 v0 v1 v2 v3 V R) : TT 97 #[uA #[uI v0, uI v1, uS v2, uL v3]] V R := trx Tryz.func97 h
def w98 (v0 : ByteArray) (v1 v2 v3 v4 v5 v6 v7 v8 : Sl) (v9 : Bool) (v10 v11 : Int) (v12 : ByteArray) (v13 : Sl) : MR := fun V R =>
 Lp [.slice none 0 0, uI 0, .slice none 0 0, uI 0] V fun I n V1 => ∀ v14 v15 v16 v17, I n [uL v14, uI v15, uL v16, uI v17] V1 -> ∀ J0 : LMP, Nx I n J0 ->
 Br (v17 < (v13.n : Int))
 (Ix v13 v17 (∃ v18 v19 v20 v21, V1.rowp v13.p (v17.toNat * 4) 4 = some [uI v18, uI v19, uS v20, uL v21] /\
 TT 64 #[uD v0 v1 v2 v3 v4 v5 v6 v7, uA #[uL v8, uB v9], uA #[uI v18, uI v19, uS v20, uL v21]] V1 fun e V2 => ∃ v22 v23, e = rT #[uS v22, uI v23] /\
 Br (v23 = 0)
 (qAo [uS v22] 9 V2 fun v24 V3 =>
 qAq Tryz.prog (.call { callee := (.builtin .append), args := #[(.tmp 33), (.tmp 35)], argTypes := #[174, 174] }) 174 (gv [(33, uL v16), (35, .slice (qAa v24 0) 1 1)]) V3 fun x V4 => ∃ v25, x = uL v25 /\
 IR (v17 + 1) /\ J0 [uL v14, uI v15, uL v25, uI (v17 + 1)] V4)
 (R (rT #[.slice none 0 0, uI v23]) V2)))
 (R (rT #[uL v16, uI 0]) V1)
theorem x98 {v0 : ByteArray} {v1 v2 v3 v4 v5 v6 v7 v8 : Sl} {v9 : Bool} {v10 v11 : Int} {v12 : ByteArray} {v13 : Sl} (h : w98 v0 v1 v2 v3 v4 v5 v6 v7 v8 v9 v10 v11 v12 v13 V R) : TT 98 #[uD v0 v1 v2 v3 v4 v5 v6 v7, uA #[uL v8, uB v9], uA #[uI v10, uI v11, uS v12, uL v13]] V R := trx Tryz.func98 h
def w99 (v0 : Sl) (v1 : ByteArray) : MR := fun V R =>
 Lp [uS (qAj []), uI 0] V fun I n V1 => ∀ v2 v3, I n [uS v2, uI v3] V1 -> ∀ J0 : LMP, Nx I n J0 ->
 Br (v3 < (v0.n : Int))
 (Ix v0 v3 (¬ (qAa v0.p (v3.toNat * 2)) = none /\ ∃ v4 v5, V1.rowp v0.p (v3.toNat * 2) 2 = some [uS v4, uS v5] /\
 Br (v4 = v1)
 (Ix v0 v3 (¬ (qAa v0.p (v3.toNat * 2)) = none /\ ∃ v6 v7, V1.rowp v0.p (v3.toNat * 2) 2 = some [uS v6, uS v7] /\
 R (rV (uS v7)) V1))
 (IR (v3 + 1) /\ J0 [uS v2, uI (v3 + 1)] V1)))
 (R (rV (uS (qAj []))) V1)
theorem x99 {v0 : Sl} {v1 : ByteArray} (h : w99 v0 v1 V R) : TT 99 #[uL v0, uS v1] V R := trx Tryz.func99 h
def w100 (v0 : ByteArray) (v1 v2 v3 v4 v5 v6 v7 : Sl) (v8 v9 : ByteArray) : MR := fun V R =>
 TI 132 #[uD v0 v1 v2 v3 v4 v5 v6 v7, uS v8] V fun v10 V1 =>
 Br (v10 < 0)
 (R (rT #[uS (qAj []), uI 11]) V1)
 (Ix v1 v10 (¬ (qAa v1.p (v10.toNat * 2)) = none /\ ∃ v11 v12, V1.rowp v1.p (v10.toNat * 2) 2 = some [uS v11, uL v12] /\
 TS 99 #[uL v12, uS v9] V1 fun v13 V2 =>
 Br (v13 = (qAj []))
 (R (rT #[uS (qAj []), uI 9]) V2)
 (R (rT #[uS v13, uI 0]) V2)))
theorem x100 {v0 : ByteArray} {v1 v2 v3 v4 v5 v6 v7 : Sl} {v8 v9 : ByteArray} (h : w100 v0 v1 v2 v3 v4 v5 v6 v7 v8 v9 V R) : TT 100 #[uD v0 v1 v2 v3 v4 v5 v6 v7, uS v8, uS v9] V R := trx Tryz.func100 h
def w101 (v0 : ByteArray) (v1 v2 v3 v4 v5 v6 v7 : Sl) (v8 : ByteArray) : MR := fun V R =>
 TI 132 #[uD v0 v1 v2 v3 v4 v5 v6 v7, uS v8] V fun v9 V1 =>
 R (rV (uB (decide (0 <= v9)))) V1
theorem x101 {v0 : ByteArray} {v1 v2 v3 v4 v5 v6 v7 : Sl} {v8 : ByteArray} (h : w101 v0 v1 v2 v3 v4 v5 v6 v7 v8 V R) : TT 101 #[uD v0 v1 v2 v3 v4 v5 v6 v7, uS v8] V R := trx Tryz.func101 h
def w102 (v0 : ByteArray) (v1 v2 v3 v4 v5 v6 v7 v8 : Sl) (v9 : Bool) (v10 : ByteArray) (v11 : Sl) : MR := fun V R =>
 Br (v9 = true)
 (TT 150 #[uD v0 v1 v2 v3 v4 v5 v6 v7, uS v10, uL v11] V fun e V1 => ∃ v12 v13, e = rT #[uS v12, uI v13] /\
 Br (v13 = 0)
 (Br (v12 = (qAj []))
 (R (rT #[uS (qAj []), uI 11]) V1)
 (R (rT #[uS v12, uI v13]) V1))
 (R (rT #[uS v12, uI v13]) V1))
 (TI 151 #[uD v0 v1 v2 v3 v4 v5 v6 v7, uS v10] V fun v12 V1 =>
 Br (v12 < 0)
 (R (rT #[uS (qAj []), uI 9]) V1)
 (Br ((v11.n : Int) = 1)
 (¬ v11.p = none /\ (0 : Int) <= (0 : Int) /\ 0 < (v11.n : Int) /\ ∃ v13, V1.rowp v11.p ((0 : Int).toNat * 1) 1 = some [uS v13] /\
 Ix v4 v12 (¬ (qAa v4.p (v12.toNat * 7)) = none /\ ∃ v14 v15 v16 v17 v18 v19 v20, V1.rowp v4.p (v12.toNat * 7) 7 = some [uS v14, uS v15, uI v16, uI v17, uI v18, uS v19, uL v20] /\
 TB 104 #[uD v0 v1 v2 v3 v4 v5 v6 v7, uS v13, uS v15] V1 fun v21 V2 =>
 TT 103 #[uB v21, uS (qAj [105, 110, 116])] V2 fun e V3 => ∃ v22 v23, e = rT #[uS v22, uI v23] /\
 R (rT #[uS v22, uI v23]) V3))
 (R (rT #[uS (qAj []), uI 3]) V1)))
theorem x102 {v0 : ByteArray} {v1 v2 v3 v4 v5 v6 v7 v8 : Sl} {v9 : Bool} {v10 : ByteArray} {v11 : Sl} (h : w102 v0 v1 v2 v3 v4 v5 v6 v7 v8 v9 v10 v11 V R) : TT 102 #[uD v0 v1 v2 v3 v4 v5 v6 v7, uA #[uL v8, uB v9], uS v10, uL v11] V R := trx Tryz.func102 h
def w103 (v0 : Bool) (v1 : ByteArray) : MR := fun V R =>
 Br (v0 = true)
 (R (rT #[uS v1, uI 0]) V)
 (R (rT #[uS (qAj []), uI 11]) V)
theorem x103 {v0 : Bool} {v1 : ByteArray} (h : w103 v0 v1 V R) : TT 103 #[uB v0, uS v1] V R := trx Tryz.func103 h
def w104 (v0 : ByteArray) (v1 v2 v3 v4 v5 v6 v7 : Sl) (v8 v9 : ByteArray) : MR := fun V R =>
 Br (v8 = v9)
 (R (rV (uB true)) V)
 (Br (v8 = (qAj [110, 105, 108]))
 (TB 101 #[uD v0 v1 v2 v3 v4 v5 v6 v7, uS v9] V fun v10 V1 =>
 R (rV (uB v10)) V1)
 (R (rV (uB false)) V))
theorem x104 {v0 : ByteArray} {v1 v2 v3 v4 v5 v6 v7 : Sl} {v8 v9 : ByteArray} (h : w104 v0 v1 v2 v3 v4 v5 v6 v7 v8 v9 V R) : TT 104 #[uD v0 v1 v2 v3 v4 v5 v6 v7, uS v8, uS v9] V R := trx Tryz.func104 h
def w105 (v0 : Sl) (v1 : ByteArray) : MR := fun V R =>
 Lp [uB false, uI 0] V fun I n V1 => ∀ v2 v3, I n [uB v2, uI v3] V1 -> ∀ J0 : LMP, Nx I n J0 ->
 Br (v3 < (v0.n : Int))
 (Ix v0 v3 (∃ v4, V1.rowp v0.p (v3.toNat * 1) 1 = some [uS v4] /\
 Br (v4 = v1)
 (IR (v3 + 1) /\ J0 [uB v2, uI (v3 + 1)] V1)
 (R (rV (uB false)) V1)))
 (R (rV (uB true)) V1)
theorem x105 {v0 : Sl} {v1 : ByteArray} (h : w105 v0 v1 V R) : TT 105 #[uL v0, uS v1] V R := trx Tryz.func105 h
def w106 (v0 : Sl) : MR := fun V R =>
 Br (60 < (v0.n : Int))
 (R (rV (uB true)) V)
 (Lp [uB false, uI 0] V fun I n V1 => ∀ v1 v2, I n [uB v1, uI v2] V1 -> ∀ J0 : LMP, Nx I n J0 ->
 Br (v2 < (v0.n : Int))
 (Ix v0 v2 (¬ (qAa v0.p (v2.toNat * 2)) = none /\ ∃ v3 v4, V1.rowp v0.p (v2.toNat * 2) 2 = some [uS v3, uS v4] /\
 Br (100 < (v3.size : Int))
 (R (rV (uB true)) V1)
 (Ix v0 v2 (¬ (qAa v0.p (v2.toNat * 2)) = none /\ ∃ v5 v6, V1.rowp v0.p (v2.toNat * 2) 2 = some [uS v5, uS v6] /\
 Br (100 < (v6.size : Int))
 (R (rV (uB true)) V1)
 (IR (v2 + 1) /\ J0 [uB v1, uI (v2 + 1)] V1)))))
 (R (rV (uB false)) V1))
theorem x106 {v0 : Sl} (h : w106 v0 V R) : TT 106 #[uL v0] V R := trx Tryz.func106 h
abbrev w107_0 (v11 : Int) (v0 : Sl) (v5 : Int) (V2 : Mem) (v1 : Int) (J0 : LMP) (v3 : Int) : Prop :=
 Br (0 <= v11)
 (Ix v0 v5 (¬ (qAa v0.p (v5.toNat * 5)) = none /\ ∃ v18 v19 v20 v21 v22, V2.rowp v0.p (v5.toNat * 5) 5 = some [uI v18, uS v19, uL v20, uL v21, uL v22] /\
 IR (v1 - 1) /\ TI 107 #[uL v21, uI (v1 - 1), uI v11] V2 fun v23 V3 =>
 Br (0 <= v23)
 (Ix v0 v5 (¬ (qAa v0.p (v5.toNat * 5)) = none /\ ∃ v24 v25 v26 v27 v28, V3.rowp v0.p (v5.toNat * 5) 5 = some [uI v24, uS v25, uL v26, uL v27, uL v28] /\
 IR (v1 - 1) /\ TI 107 #[uL v28, uI (v1 - 1), uI v23] V3 fun v29 V4 =>
 IR (v5 + 1) /\ J0 [uI v3, uI v29, uI (v5 + 1)] V4))
 (IR (v5 + 1) /\ J0 [uI v3, uI v23, uI (v5 + 1)] V3)))
 (Br (0 <= v11)
 (Ix v0 v5 (¬ (qAa v0.p (v5.toNat * 5)) = none /\ ∃ v18 v19 v20 v21 v22, V2.rowp v0.p (v5.toNat * 5) 5 = some [uI v18, uS v19, uL v20, uL v21, uL v22] /\
 IR (v1 - 1) /\ TI 107 #[uL v22, uI (v1 - 1), uI v11] V2 fun v23 V3 =>
 IR (v5 + 1) /\ J0 [uI v3, uI v23, uI (v5 + 1)] V3))
 (IR (v5 + 1) /\ J0 [uI v3, uI v11, uI (v5 + 1)] V2))
def w107 (v0 : Sl) (v1 v2 : Int) : MR := fun V R =>
 Br (v1 = 0)
 (R (rV (uI (-1))) V)
 (Lp [uI 0, uI v2, uI 0] V fun I n V1 => ∀ v3 v4 v5, I n [uI v3, uI v4, uI v5] V1 -> ∀ J0 : LMP, Nx I n J0 ->
 Br (v5 < (v0.n : Int))
 (Br (0 <= v4)
 (IR (v4 - 1) /\ Ix v0 v5 (¬ (qAa v0.p (v5.toNat * 5)) = none /\ ∃ v6 v7 v8 v9 v10, V1.rowp v0.p (v5.toNat * 5) 5 = some [uI v6, uS v7, uL v8, uL v9, uL v10] /\
 Br (100 < (v7.size : Int))
 (R (rV (uI (-1))) V1)
 (Lp [uI (v4 - 1), uI 0] V1 fun I n V2 => ∀ v11 v12, I n [uI v11, uI v12] V2 -> ∀ J1 : LMP, Nx I n J1 ->
 Ix v0 v5 (¬ (qAa v0.p (v5.toNat * 5)) = none /\ ∃ v13 v14 v15 v16 v17, V2.rowp v0.p (v5.toNat * 5) 5 = some [uI v13, uS v14, uL v15, uL v16, uL v17] /\
 Br (v12 < (v15.n : Int))
 (Br (0 <= v11)
 (Ix v0 v5 (¬ (qAa v0.p (v5.toNat * 5)) = none /\ ∃ v18 v19 v20 v21 v22, V2.rowp v0.p (v5.toNat * 5) 5 = some [uI v18, uS v19, uL v20, uL v21, uL v22] /\
 Ix v20 v12 (∃ v23 v24 v25 v26, V2.rowp v20.p (v12.toNat * 4) 4 = some [uI v23, uI v24, uS v25, uL v26] /\
 TI 108 #[uA #[uI v23, uI v24, uS v25, uL v26], uI 65, uI v11] V2 fun v27 V3 =>
 IR (v12 + 1) /\ J1 [uI v27, uI (v12 + 1)] V3)))
 (w107_0 v11 v0 v5 V2 v1 J0 v3))
 (w107_0 v11 v0 v5 V2 v1 J0 v3)))))
 (R (rV (uI v4)) V1))
 (R (rV (uI v4)) V1))
theorem x107 {v0 : Sl} {v1 v2 : Int} (h : w107 v0 v1 v2 V R) : TT 107 #[uL v0, uI v1, uI v2] V R := trx Tryz.func107 h
def w108 (v0 v1 : Int) (v2 : ByteArray) (v3 : Sl) (v4 v5 : Int) : MR := fun V R =>
 Br (v5 <= 0)
 (R (rV (uI (-1))) V)
 (Br (v4 = 0)
 (R (rV (uI (-1))) V)
 (Br (100 < (v2.size : Int))
 (R (rV (uI (-1))) V)
 (IR (v5 - 1) /\ Lp [uI (v5 - 1), uI 0] V fun I n V1 => ∀ v6 v7, I n [uI v6, uI v7] V1 -> ∀ J0 : LMP, Nx I n J0 ->
 Br (v7 < (v3.n : Int))
 (Br (0 <= v6)
 (Ix v3 v7 (∃ v8 v9 v10 v11, V1.rowp v3.p (v7.toNat * 4) 4 = some [uI v8, uI v9, uS v10, uL v11] /\
 IR (v4 - 1) /\ TI 108 #[uA #[uI v8, uI v9, uS v10, uL v11], uI (v4 - 1), uI v6] V1 fun v12 V2 =>
 IR (v7 + 1) /\ J0 [uI v12, uI (v7 + 1)] V2))
 (R (rV (uI v6)) V1))
 (R (rV (uI v6)) V1))))
theorem x108 {v0 v1 : Int} {v2 : ByteArray} {v3 : Sl} {v4 v5 : Int} (h : w108 v0 v1 v2 v3 v4 v5 V R) : TT 108 #[uA #[uI v0, uI v1, uS v2, uL v3], uI v4, uI v5] V R := trx Tryz.func108 h
def w109 (v0 : ByteArray) (v1 v2 v3 v4 v5 v6 v7 : Sl) : MR := fun V R =>
 TB 152 #[uS v0] V fun v8 V1 =>
 Br (v8 = true)
 (Br (12 < (v1.n : Int))
 (R (rV (uB false)) V1)
 (TB 153 #[uL v2, uI 8] V1 fun v9 V2 =>
 Br (v9 = true)
 (Br (40 < (v3.n : Int))
 (R (rV (uB false)) V2)
 (TB 154 #[uD v0 v1 v2 v3 v4 v5 v6 v7] V2 fun v10 V3 =>
 Br (v10 = true)
 (TB 155 #[uL v1, .func (.func 156) #[] #[]] V3 fun v11 V4 =>
 Br (v11 = true)
 (R (rV (uB false)) V4)
 (TB 157 #[uL v3, .func (.func 158) #[] #[]] V4 fun v12 V5 =>
 R (rV (uB (!v12))) V5))
 (R (rV (uB false)) V3)))
 (R (rV (uB false)) V2)))
 (R (rV (uB false)) V1)
theorem x109 {v0 : ByteArray} {v1 v2 v3 v4 v5 v6 v7 : Sl} (h : w109 v0 v1 v2 v3 v4 v5 v6 v7 V R) : TT 109 #[uD v0 v1 v2 v3 v4 v5 v6 v7] V R := trx Tryz.func109 h
def w112 (v0 : ByteArray) (v1 v2 v3 v4 v5 v6 v7 : Sl) : MR := fun V R =>
 TB 109 #[uD v0 v1 v2 v3 v4 v5 v6 v7] V fun v8 V1 =>
 Br (v8 = true)
 (qAq Tryz.prog (.makeMap 197 none) 197 (gv []) V1 fun x V2 => ∃ v9, x = uM v9 /\
 Lp [uM none, uI 0] V2 fun I n V3 => ∀ v10 v11, I n [uM v10, uI v11] V3 -> ∀ J0 : LMP, Nx I n J0 ->
 Br (v11 < (v1.n : Int))
 (Ix v1 v11 (∃ v12 v13, V3.rowp v1.p (v11.toNat * 2) 2 = some [uS v12, uL v13] /\
 qBt Tryz.prog 197 (uM v9) (uS v12) true V3 fun x => ∃ v14 v15, x = .tuple #[uI v14, uB v15] /\
 Br (v15 = true)
 (R (rV (uM none)) V3)
 (qGn Tryz.prog 197 (uM v9) (uS v12) (uI v11) V3 fun V4 =>
 IR (v11 + 1) /\ J0 [uM v10, uI (v11 + 1)] V4)))
 (qAo [uM v9] 197 V3 fun v12 V4 =>
 TB 167 #[uL v2, uP (qAa v12 0)] V4 fun v13 V5 =>
 Br (v13 = true)
 (qAo [.func (.func 167) #[] #[uP (qAa v12 0)]] 184 V5 fun v14 V6 =>
 TB 155 #[uL v1, .func (.func 172) #[] #[uP (qAa v14 0)]] V6 fun v15 V7 =>
 Br (v15 = true)
 (R (rV (uM none)) V7)
 (∃ v16, V7.rowp v12 ((0 : Int).toNat * 1) 1 = some [uM v16] /\
 R (rV (uM v16)) V7))
 (R (rV (uM none)) V5)))
 (R (rV (uM none)) V1)
theorem x112 {v0 : ByteArray} {v1 v2 v3 v4 v5 v6 v7 : Sl} (h : w112 v0 v1 v2 v3 v4 v5 v6 v7 V R) : TT 112 #[uD v0 v1 v2 v3 v4 v5 v6 v7] V R := trx Tryz.func112 h
def w113 (v0 : Option Nat) (v1 : ByteArray) (v2 v3 v4 v5 v6 v7 v8 v9 v10 : Sl) : MR := fun V R =>
 Br (asM (uM v0) = none)
 (R (rV (uB false)) V)
 (Br (4096 < (v10.n : Int))
 (R (rV (uB false)) V)
 (qAo [uS v1, uL v2, uL v3, uL v4, uL v5, uL v6, uL v7, uL v8] 30 V fun v11 V1 =>
 TB 173 #[uL v10, .func (.func 174) #[] #[uP (qAa v11 0)]] V1 fun v12 V2 =>
 Br (v12 = true)
 (R (rV (uB false)) V2)
 (¬ (qAa v11 0) = none /\ ∃ v13, V2.rowp v11 2 1 = some [uL v13] /\
 TB 175 #[uM v0, uA #[uL v9, uL v10], uL v13, uL v9] V2 fun v14 V3 =>
 Br (v14 = true)
 (qAo [uM v0] 197 V3 fun v15 V4 =>
 qAo [uL v9, uL v10] 34 V4 fun v16 V5 =>
 TB 173 #[uL v10, .func (.func 176) #[] #[uP (qAa v15 0), uP (qAa v16 0), uP (qAa v11 0)]] V5 fun v17 V6 =>
 R (rV (uB (!v17))) V6)
 (R (rV (uB false)) V3))))
theorem x113 {v0 : Option Nat} {v1 : ByteArray} {v2 v3 v4 v5 v6 v7 v8 v9 v10 : Sl} (h : w113 v0 v1 v2 v3 v4 v5 v6 v7 v8 v9 v10 V R) : TT 113 #[uM v0, uD v1 v2 v3 v4 v5 v6 v7 v8, uA #[uL v9, uL v10]] V R := trx Tryz.func113 h
def w120 (v0 : Int) : MR := fun V R =>
 Br (97 <= v0)
 (Br (v0 <= 122)
 (R (rV (uB true)) V)
 (Br (65 <= v0)
 (R (rV (uB (decide (v0 <= 90)))) V)
 (R (rV (uB false)) V)))
 (Br (65 <= v0)
 (R (rV (uB (decide (v0 <= 90)))) V)
 (R (rV (uB false)) V))
theorem x120 {v0 : Int} (h : w120 v0 V R) : TT 120 #[.int .u8 v0] V R := trx Tryz.func120 h
def w121 (v0 : Int) : MR := fun V R =>
 TB 120 #[.int .u8 v0] V fun v1 V1 =>
 Br (v1 = true)
 (R (rV (uB true)) V1)
 (TB 180 #[.int .u8 v0] V1 fun v2 V2 =>
 Br (v2 = true)
 (R (rV (uB true)) V2)
 (R (rV (uB (decide (v0 = 95)))) V2))
theorem x121 {v0 : Int} (h : w121 v0 V R) : TT 121 #[.int .u8 v0] V R := trx Tryz.func121 h
def w122 (v0 : ByteArray) : MR := fun V R =>
 TL 182 #[] V fun v1 V1 =>
 TB 181 #[uL v1, uS v0] V1 fun v2 V2 =>
 R (rV (uB v2)) V2
theorem x122 {v0 : ByteArray} (h : w122 v0 V R) : TT 122 #[uS v0] V R := trx Tryz.func122 h
def w123 (v0 : ByteArray) : MR := fun V R =>
 Br (v0 = (qAj [105, 110, 116]))
 (R (rV (uB true)) V)
 (Br (v0 = (qAj [98, 111, 111, 108]))
 (R (rV (uB true)) V)
 (TB 75 #[uS v0] V fun v1 V1 =>
 R (rV (uB v1)) V1))
theorem x123 {v0 : ByteArray} (h : w123 v0 V R) : TT 123 #[uS v0] V R := trx Tryz.func123 h
def w124 (v0 : Sl) (v1 : Int) : MR := fun V R =>
 Lp [uI 0, uI 0, uI 0] V fun I n V1 => ∀ v2 v3 v4, I n [uI v2, uI v3, uI v4] V1 -> ∀ J0 : LMP, Nx I n J0 ->
 Br (v4 < (v0.n : Int))
 (Br (60 < v1)
 (R (rV (uI 201)) V1)
 (Ix v0 v4 (∃ v5 v6 v7 v8 v9, V1.rowp v0.p (v4.toNat * 5) 5 = some [uI v5, uS v6, uL v7, uL v8, uL v9] /\
 TB 183 #[uA #[uI v5, uS v6, uL v7, uL v8, uL v9]] V1 fun v10 V2 =>
 Br (v10 = true)
 (IR (v2 + 1) /\ Br ((v2 + 1) <= 200)
 (Ix v0 v4 (¬ (qAa v0.p (v4.toNat * 5)) = none /\ ∃ v11 v12 v13 v14 v15, V2.rowp v0.p (v4.toNat * 5) 5 = some [uI v11, uS v12, uL v13, uL v14, uL v15] /\
 IR (v1 + 1) /\ TI 124 #[uL v14, uI (v1 + 1)] V2 fun v16 V3 =>
 IR ((v2 + 1) + v16) /\ Br (((v2 + 1) + v16) <= 200)
 (Ix v0 v4 (¬ (qAa v0.p (v4.toNat * 5)) = none /\ ∃ v17 v18 v19 v20 v21, V3.rowp v0.p (v4.toNat * 5) 5 = some [uI v17, uS v18, uL v19, uL v20, uL v21] /\
 IR (v1 + 1) /\ TI 124 #[uL v21, uI (v1 + 1)] V3 fun v22 V4 =>
 IR (((v2 + 1) + v16) + v22) /\ Br (200 < (((v2 + 1) + v16) + v22))
 (R (rV (uI (((v2 + 1) + v16) + v22))) V4)
 (IR (v4 + 1) /\ J0 [uI (((v2 + 1) + v16) + v22), uI v3, uI (v4 + 1)] V4)))
 (Br (200 < ((v2 + 1) + v16))
 (R (rV (uI ((v2 + 1) + v16))) V3)
 (IR (v4 + 1) /\ J0 [uI ((v2 + 1) + v16), uI v3, uI (v4 + 1)] V3))))
 (Br ((v2 + 1) <= 200)
 (Ix v0 v4 (¬ (qAa v0.p (v4.toNat * 5)) = none /\ ∃ v11 v12 v13 v14 v15, V2.rowp v0.p (v4.toNat * 5) 5 = some [uI v11, uS v12, uL v13, uL v14, uL v15] /\
 IR (v1 + 1) /\ TI 124 #[uL v15, uI (v1 + 1)] V2 fun v16 V3 =>
 IR ((v2 + 1) + v16) /\ Br (200 < ((v2 + 1) + v16))
 (R (rV (uI ((v2 + 1) + v16))) V3)
 (IR (v4 + 1) /\ J0 [uI ((v2 + 1) + v16), uI v3, uI (v4 + 1)] V3)))
 (Br (200 < (v2 + 1))
 (R (rV (uI (v2 + 1))) V2)
 (IR (v4 + 1) /\ J0 [uI (v2 + 1), uI v3, uI (v4 + 1)] V2))))
 (R (rV (uI 201)) V2))))
 (R (rV (uI v2)) V1)
theorem x124 {v0 : Sl} {v1 : Int} (h : w124 v0 v1 V R) : TT 124 #[uL v0, uI v1] V R := trx Tryz.func124 h
def w125 (v0 : ByteArray) : MR := fun V R =>
 Br (v0 = (qAj []))
 (R (rV (uB true)) V)
 (TB 75 #[uS v0] V fun v1 V1 =>
 R (rV (uB v1)) V1)
theorem x125 {v0 : ByteArray} (h : w125 v0 V R) : TT 125 #[uS v0] V R := trx Tryz.func125 h
def w126 (v0 : ByteArray) (v1 v2 v3 v4 v5 v6 v7 : Sl) : MR := fun V R =>
 Lp [uS (qAj []), uI 0, uI 0] V fun I n V1 => ∀ v8 v9 v10, I n [uS v8, uI v9, uI v10] V1 -> ∀ J0 : LMP, Nx I n J0 ->
 Br (v10 < (v1.n : Int))
 (Ix v1 v10 (¬ (qAa v1.p (v10.toNat * 2)) = none /\ ∃ v11 v12, V1.rowp v1.p (v10.toNat * 2) 2 = some [uS v11, uL v12] /\
 TI 132 #[uD v0 v1 v2 v3 v4 v5 v6 v7, uS v11] V1 fun v13 V2 =>
 Br (v13 < v10)
 (Ix v1 v10 (¬ (qAa v1.p (v10.toNat * 2)) = none /\ ∃ v14 v15, V2.rowp v1.p (v10.toNat * 2) 2 = some [uS v14, uL v15] /\
 R (rT #[uS v14, uI 10]) V2))
 (IR (v10 + 1) /\ J0 [uS v8, uI v9, uI (v10 + 1)] V2)))
 (Lp [uS v8, uI v9, uI 0] V1 fun I n V2 => ∀ v11 v12 v13, I n [uS v11, uI v12, uI v13] V2 -> ∀ J1 : LMP, Nx I n J1 ->
 Br (v13 < (v1.n : Int))
 (Ix v1 v13 (¬ (qAa v1.p (v13.toNat * 2)) = none /\ ∃ v14 v15, V2.rowp v1.p (v13.toNat * 2) 2 = some [uS v14, uL v15] /\
 TI 184 #[uD v0 v1 v2 v3 v4 v5 v6 v7, uL v15] V2 fun v16 V3 =>
 Br (v16 = 0)
 (IR (v13 + 1) /\ J1 [uS v11, uI v12, uI (v13 + 1)] V3)
 (Ix v1 v13 (¬ (qAa v1.p (v13.toNat * 2)) = none /\ ∃ v17 v18, V3.rowp v1.p (v13.toNat * 2) 2 = some [uS v17, uL v18] /\
 R (rT #[uS v17, uI v16]) V3))))
 (Lp [uS v11, uI v12, uI 0] V2 fun I n V3 => ∀ v14 v15 v16, I n [uS v14, uI v15, uI v16] V3 -> ∀ J2 : LMP, Nx I n J2 ->
 Br (v16 < (v2.n : Int))
 (TI 185 #[uD v0 v1 v2 v3 v4 v5 v6 v7, uL v2, uI v16] V3 fun v17 V4 =>
 Br (v17 = 0)
 (IR (v16 + 1) /\ J2 [uS v14, uI v15, uI (v16 + 1)] V4)
 (Ix v2 v16 (¬ (qAa v2.p (v16.toNat * 2)) = none /\ ∃ v18 v19, V4.rowp v2.p (v16.toNat * 2) 2 = some [uS v18, uS v19] /\
 R (rT #[uS v18, uI v17]) V4)))
 (R (rT #[uS (qAj []), uI 0]) V3)))
theorem x126 {v0 : ByteArray} {v1 v2 v3 v4 v5 v6 v7 : Sl} (h : w126 v0 v1 v2 v3 v4 v5 v6 v7 V R) : TT 126 #[uD v0 v1 v2 v3 v4 v5 v6 v7] V R := trx Tryz.func126 h
def w127 (v0 : ByteArray) (v1 v2 v3 v4 v5 v6 v7 : Sl) : MR := fun V R =>
 Lp [uS (qAj []), uI 0, uI 0] V fun I n V1 => ∀ v8 v9 v10, I n [uS v8, uI v9, uI v10] V1 -> ∀ J0 : LMP, Nx I n J0 ->
 Br (v10 < (v3.n : Int))
 (Ix v3 v10 (∃ v11 v12 v13 v14 v15, V1.rowp v3.p (v10.toNat * 5) 5 = some [uS v11, uL v12, uS v13, uL v14, uL v15] /\
 TI 186 #[uD v0 v1 v2 v3 v4 v5 v6 v7, uS v11] V1 fun v16 V2 =>
 Br (v16 < v10)
 (R (rT #[uS v11, uI 10]) V2)
 (qAo [] 110 V2 fun v17 V3 =>
 qAq Tryz.prog (.call { callee := (.builtin .append), args := #[(.tmp 28), (.tmp 30)], argTypes := #[23, 23] }) 23 (gv [(28, .slice (qAa v17 0) (0 : Int).toNat (0 : Int).toNat), (30, uL v12)]) V3 fun x V4 => ∃ v18, x = uL v18 /\
 qAq Tryz.prog (.call { callee := (.builtin .append), args := #[(.tmp 31), (.tmp 33)], argTypes := #[23, 23] }) 23 (gv [(31, uL v18), (33, uL v14)]) V4 fun x V5 => ∃ v19, x = uL v19 /\
 TI 184 #[uD v0 v1 v2 v3 v4 v5 v6 v7, uL v19] V5 fun v20 V6 =>
 Br (v20 = 0)
 (Br (v13 = (qAj []))
 (IR (v10 + 1) /\ J0 [uS v8, uI v9, uI (v10 + 1)] V6)
 (TB 187 #[uD v0 v1 v2 v3 v4 v5 v6 v7, uS v13] V6 fun v21 V7 =>
 Br (v21 = true)
 (IR (v10 + 1) /\ J0 [uS v8, uI v9, uI (v10 + 1)] V7)
 (R (rT #[uS v11, uI 9]) V7)))
 (R (rT #[uS v11, uI v20]) V6))))
 (R (rT #[uS (qAj []), uI 0]) V1)
theorem x127 {v0 : ByteArray} {v1 v2 v3 v4 v5 v6 v7 : Sl} (h : w127 v0 v1 v2 v3 v4 v5 v6 v7 V R) : TT 127 #[uD v0 v1 v2 v3 v4 v5 v6 v7] V R := trx Tryz.func127 h
def w128 (v0 : ByteArray) (v1 v2 v3 v4 v5 v6 v7 : Sl) : MR := fun V R =>
 Lp [uS (qAj []), uI 0, uI 0] V fun I n V1 => ∀ v8 v9 v10, I n [uS v8, uI v9, uI v10] V1 -> ∀ J0 : LMP, Nx I n J0 ->
 Br (v10 < (v4.n : Int))
 (Ix v4 v10 (¬ (qAa v4.p (v10.toNat * 7)) = none /\ ∃ v11 v12 v13 v14 v15 v16 v17, V1.rowp v4.p (v10.toNat * 7) 7 = some [uS v11, uS v12, uI v13, uI v14, uI v15, uS v16, uL v17] /\
 TI 151 #[uD v0 v1 v2 v3 v4 v5 v6 v7, uS v11] V1 fun v18 V2 =>
 Br (v18 < v10)
 (Ix v4 v10 (¬ (qAa v4.p (v10.toNat * 7)) = none /\ ∃ v19 v20 v21 v22 v23 v24 v25, V2.rowp v4.p (v10.toNat * 7) 7 = some [uS v19, uS v20, uI v21, uI v22, uI v23, uS v24, uL v25] /\
 R (rT #[uS v19, uI 10]) V2))
 (Ix v4 v10 (¬ (qAa v4.p (v10.toNat * 7)) = none /\ ∃ v19 v20 v21 v22 v23 v24 v25, V2.rowp v4.p (v10.toNat * 7) 7 = some [uS v19, uS v20, uI v21, uI v22, uI v23, uS v24, uL v25] /\
 TB 101 #[uD v0 v1 v2 v3 v4 v5 v6 v7, uS v20] V2 fun v26 V3 =>
 Br (v26 = true)
 (IR (v10 + 1) /\ J0 [uS v8, uI v9, uI (v10 + 1)] V3)
 (Ix v4 v10 (¬ (qAa v4.p (v10.toNat * 7)) = none /\ ∃ v27 v28 v29 v30 v31 v32 v33, V3.rowp v4.p (v10.toNat * 7) 7 = some [uS v27, uS v28, uI v29, uI v30, uI v31, uS v32, uL v33] /\
 R (rT #[uS v27, uI 9]) V3))))))
 (Lp [uS v8, uI v9, uI 0] V1 fun I n V2 => ∀ v11 v12 v13, I n [uS v11, uI v12, uI v13] V2 -> ∀ J1 : LMP, Nx I n J1 ->
 Br (v13 < (v5.n : Int))
 (Lp [uS v11, uI v12, uI 0] V2 fun I n V3 => ∀ v14 v15 v16, I n [uS v14, uI v15, uI v16] V3 -> ∀ J2 : LMP, Nx I n J2 ->
 Br (v16 < v13)
 (Ix v5 v16 (¬ (qAa v5.p (v16.toNat * 6)) = none /\ ∃ v17 v18 v19 v20 v21 v22, V3.rowp v5.p (v16.toNat * 6) 6 = some [uS v17, uS v18, uI v19, uI v20, uS v21, uL v22] /\
 Ix v5 v13 (¬ (qAa v5.p (v13.toNat * 6)) = none /\ ∃ v23 v24 v25 v26 v27 v28, V3.rowp v5.p (v13.toNat * 6) 6 = some [uS v23, uS v24, uI v25, uI v26, uS v27, uL v28] /\
 Br (v17 = v23)
 (Ix v5 v13 (¬ (qAa v5.p (v13.toNat * 6)) = none /\ ∃ v29 v30 v31 v32 v33 v34, V3.rowp v5.p (v13.toNat * 6) 6 = some [uS v29, uS v30, uI v31, uI v32, uS v33, uL v34] /\
 R (rT #[uS v29, uI 10]) V3))
 (IR (v16 + 1) /\ J2 [uS v14, uI v15, uI (v16 + 1)] V3))))
 (Ix v5 v13 (¬ (qAa v5.p (v13.toNat * 6)) = none /\ ∃ v17 v18 v19 v20 v21 v22, V3.rowp v5.p (v13.toNat * 6) 6 = some [uS v17, uS v18, uI v19, uI v20, uS v21, uL v22] /\
 Br (v18 = (qAj []))
 (IR (v13 + 1) /\ J1 [uS v14, uI v15, uI (v13 + 1)] V3)
 (Ix v5 v13 (¬ (qAa v5.p (v13.toNat * 6)) = none /\ ∃ v23 v24 v25 v26 v27 v28, V3.rowp v5.p (v13.toNat * 6) 6 = some [uS v23, uS v24, uI v25, uI v26, uS v27, uL v28] /\
 TB 101 #[uD v0 v1 v2 v3 v4 v5 v6 v7, uS v24] V3 fun v29 V4 =>
 Br (v29 = true)
 (IR (v13 + 1) /\ J1 [uS v14, uI v15, uI (v13 + 1)] V4)
 (Ix v5 v13 (¬ (qAa v5.p (v13.toNat * 6)) = none /\ ∃ v30 v31 v32 v33 v34 v35, V4.rowp v5.p (v13.toNat * 6) 6 = some [uS v30, uS v31, uI v32, uI v33, uS v34, uL v35] /\
 R (rT #[uS v30, uI 9]) V4)))))))
 (Lp [uS v11, uI v12, uI 0] V2 fun I n V3 => ∀ v14 v15 v16, I n [uS v14, uI v15, uI v16] V3 -> ∀ J2 : LMP, Nx I n J2 ->
 Br (v16 < (v6.n : Int))
 (Ix v6 v16 (¬ (qAa v6.p (v16.toNat * 5)) = none /\ ∃ v17 v18 v19 v20 v21, V3.rowp v6.p (v16.toNat * 5) 5 = some [uS v17, uI v18, uI v19, uS v20, uL v21] /\
 Br (v17 = (qAj []))
 (IR (v16 + 1) /\ J2 [uS v14, uI v15, uI (v16 + 1)] V3)
 (Ix v6 v16 (¬ (qAa v6.p (v16.toNat * 5)) = none /\ ∃ v22 v23 v24 v25 v26, V3.rowp v6.p (v16.toNat * 5) 5 = some [uS v22, uI v23, uI v24, uS v25, uL v26] /\
 TB 101 #[uD v0 v1 v2 v3 v4 v5 v6 v7, uS v22] V3 fun v27 V4 =>
 Br (v27 = true)
 (IR (v16 + 1) /\ J2 [uS v14, uI v15, uI (v16 + 1)] V4)
 (R (rT #[uS (qAj [112, 111, 116, 101, 110, 116, 105, 97, 108]), uI 9]) V4)))))
 (Lp [uS v14, uI v15, uI 0] V3 fun I n V4 => ∀ v17 v18 v19, I n [uS v17, uI v18, uI v19] V4 -> ∀ J3 : LMP, Nx I n J3 ->
 Br (v19 < (v7.n : Int))
 (Ix v7 v19 (¬ (qAa v7.p (v19.toNat * 5)) = none /\ ∃ v20 v21 v22 v23 v24, V4.rowp v7.p (v19.toNat * 5) 5 = some [uS v20, uI v21, uI v22, uS v23, uL v24] /\
 TI 186 #[uD v0 v1 v2 v3 v4 v5 v6 v7, uS v20] V4 fun v25 V5 =>
 Br (v25 < 0)
 (Ix v7 v19 (¬ (qAa v7.p (v19.toNat * 5)) = none /\ ∃ v26 v27 v28 v29 v30, V5.rowp v7.p (v19.toNat * 5) 5 = some [uS v26, uI v27, uI v28, uS v29, uL v30] /\
 R (rT #[uS v26, uI 9]) V5))
 (Lp [uS v17, uI v18, uI 0] V5 fun I n V6 => ∀ v26 v27 v28, I n [uS v26, uI v27, uI v28] V6 -> ∀ J4 : LMP, Nx I n J4 ->
 Br (v28 < v19)
 (Ix v7 v28 (¬ (qAa v7.p (v28.toNat * 5)) = none /\ ∃ v29 v30 v31 v32 v33, V6.rowp v7.p (v28.toNat * 5) 5 = some [uS v29, uI v30, uI v31, uS v32, uL v33] /\
 Ix v7 v19 (¬ (qAa v7.p (v19.toNat * 5)) = none /\ ∃ v34 v35 v36 v37 v38, V6.rowp v7.p (v19.toNat * 5) 5 = some [uS v34, uI v35, uI v36, uS v37, uL v38] /\
 Br (v29 = v34)
 (Ix v7 v19 (¬ (qAa v7.p (v19.toNat * 5)) = none /\ ∃ v39 v40 v41 v42 v43, V6.rowp v7.p (v19.toNat * 5) 5 = some [uS v39, uI v40, uI v41, uS v42, uL v43] /\
 R (rT #[uS v39, uI 10]) V6))
 (IR (v28 + 1) /\ J4 [uS v26, uI v27, uI (v28 + 1)] V6))))
 (IR (v19 + 1) /\ J3 [uS v26, uI v27, uI (v19 + 1)] V6))))
 (R (rT #[uS (qAj []), uI 0]) V4))))
theorem x128 {v0 : ByteArray} {v1 v2 v3 v4 v5 v6 v7 : Sl} (h : w128 v0 v1 v2 v3 v4 v5 v6 v7 V R) : TT 128 #[uD v0 v1 v2 v3 v4 v5 v6 v7] V R := trx Tryz.func128 h
def w129 (v0 : ByteArray) (v1 v2 v3 v4 v5 v6 v7 : Sl) (v8 : ByteArray) (v9 : Sl) (v10 : ByteArray) (v11 v12 v13 : Sl) (v14 : Int) : MR := fun V R =>
 Lp [uI 0, uI 0, uI v14, uI 0] V fun I n V1 => ∀ v15 v16 v17 v18, I n [uI v15, uI v16, uI v17, uI v18] V1 -> ∀ J0 : LMP, Nx I n J0 ->
 Br (v18 < (v13.n : Int))
 (Ix v13 v18 (∃ v19 v20 v21 v22 v23, V1.rowp v13.p (v18.toNat * 5) 5 = some [uI v19, uS v20, uL v21, uL v22, uL v23] /\
 TI 188 #[uD v0 v1 v2 v3 v4 v5 v6 v7, uA #[uS v8, uL v9, uS v10, uL v11, uL v12], uA #[uI v19, uS v20, uL v21, uL v22, uL v23]] V1 fun v24 V2 =>
 Br (v24 = 0)
 (Ix v13 v18 (¬ (qAa v13.p (v18.toNat * 5)) = none /\ ∃ v25 v26 v27 v28 v29, V2.rowp v13.p (v18.toNat * 5) 5 = some [uI v25, uS v26, uL v27, uL v28, uL v29] /\
 IR (v17 + 1) /\ TT 129 #[uD v0 v1 v2 v3 v4 v5 v6 v7, uA #[uS v8, uL v9, uS v10, uL v11, uL v12], uL v28, uI (v17 + 1)] V2 fun e V3 => ∃ v30 v31, e = rT #[uI v30, uI v31] /\
 Br (v31 = 0)
 (Ix v13 v18 (¬ (qAa v13.p (v18.toNat * 5)) = none /\ ∃ v32 v33 v34 v35 v36, V3.rowp v13.p (v18.toNat * 5) 5 = some [uI v32, uS v33, uL v34, uL v35, uL v36] /\
 TT 129 #[uD v0 v1 v2 v3 v4 v5 v6 v7, uA #[uS v8, uL v9, uS v10, uL v11, uL v12], uL v36, uI v30] V3 fun e V4 => ∃ v37 v38, e = rT #[uI v37, uI v38] /\
 Br (v38 = 0)
 (IR (v18 + 1) /\ J0 [uI v15, uI v16, uI v37, uI (v18 + 1)] V4)
 (R (rT #[uI v37, uI v38]) V4)))
 (R (rT #[uI v30, uI v31]) V3)))
 (R (rT #[uI v17, uI v24]) V2)))
 (R (rT #[uI v17, uI 0]) V1)
theorem x129 {v0 : ByteArray} {v1 v2 v3 v4 v5 v6 v7 : Sl} {v8 : ByteArray} {v9 : Sl} {v10 : ByteArray} {v11 v12 v13 : Sl} {v14 : Int} (h : w129 v0 v1 v2 v3 v4 v5 v6 v7 v8 v9 v10 v11 v12 v13 v14 V R) : TT 129 #[uD v0 v1 v2 v3 v4 v5 v6 v7, uA #[uS v8, uL v9, uS v10, uL v11, uL v12], uL v13, uI v14] V R := trx Tryz.func129 h
def w130 (v0 : ByteArray) (v1 v2 v3 v4 v5 v6 v7 : Sl) : MR := fun V R =>
 Lp [uS (qAj []), uI 0, uI 0] V fun I n V1 => ∀ v8 v9 v10, I n [uS v8, uI v9, uI v10] V1 -> ∀ J0 : LMP, Nx I n J0 ->
 Br (v10 < (v4.n : Int))
 (Ix v4 v10 (¬ (qAa v4.p (v10.toNat * 7)) = none /\ ∃ v11 v12 v13 v14 v15 v16 v17, V1.rowp v4.p (v10.toNat * 7) 7 = some [uS v11, uS v12, uI v13, uI v14, uI v15, uS v16, uL v17] /\
 Ix v4 v10 (¬ (qAa v4.p (v10.toNat * 7)) = none /\ ∃ v18 v19 v20 v21 v22 v23 v24, V1.rowp v4.p (v10.toNat * 7) 7 = some [uS v18, uS v19, uI v20, uI v21, uI v22, uS v23, uL v24] /\
 TT 65 #[uD v0 v1 v2 v3 v4 v5 v6 v7, uS v12] V1 fun e V2 => ∃ v25 v26, e = rV (uA #[uL v25, uB v26]) /\
 V2.rowp (qAa (qAa v4.p (v10.toNat * 7)) 3) 0 4 = some [uI v21, uI v22, uS v23, uL v24] /\ ¬ (qAa v4.p (v10.toNat * 7)) = none /\ Ix v4 v10 (TI 189 #[uD v0 v1 v2 v3 v4 v5 v6 v7, uA #[uL v25, uB v26], uA #[uI v21, uI v22, uS v23, uL v24], uS (qAj [105, 110, 116])] V2 fun v27 V3 =>
 Br (v27 = 0)
 (IR (v10 + 1) /\ J0 [uS v8, uI v9, uI (v10 + 1)] V3)
 (Ix v4 v10 (¬ (qAa v4.p (v10.toNat * 7)) = none /\ ∃ v28 v29 v30 v31 v32 v33 v34, V3.rowp v4.p (v10.toNat * 7) 7 = some [uS v28, uS v29, uI v30, uI v31, uI v32, uS v33, uL v34] /\
 R (rT #[uS v28, uI v27]) V3))))))
 (Lp [uS v8, uI v9, uI 0] V1 fun I n V2 => ∀ v11 v12 v13, I n [uS v11, uI v12, uI v13] V2 -> ∀ J1 : LMP, Nx I n J1 ->
 Br (v13 < (v5.n : Int))
 (Ix v5 v13 (¬ (qAa v5.p (v13.toNat * 6)) = none /\ ∃ v14 v15 v16 v17 v18 v19, V2.rowp v5.p (v13.toNat * 6) 6 = some [uS v14, uS v15, uI v16, uI v17, uS v18, uL v19] /\
 Ix v5 v13 (¬ (qAa v5.p (v13.toNat * 6)) = none /\ ∃ v20 v21 v22 v23 v24 v25, V2.rowp v5.p (v13.toNat * 6) 6 = some [uS v20, uS v21, uI v22, uI v23, uS v24, uL v25] /\
 TT 65 #[uD v0 v1 v2 v3 v4 v5 v6 v7, uS v15] V2 fun e V3 => ∃ v26 v27, e = rV (uA #[uL v26, uB v27]) /\
 V3.rowp (qAa (qAa v5.p (v13.toNat * 6)) 2) 0 4 = some [uI v22, uI v23, uS v24, uL v25] /\ ¬ (qAa v5.p (v13.toNat * 6)) = none /\ Ix v5 v13 (TI 189 #[uD v0 v1 v2 v3 v4 v5 v6 v7, uA #[uL v26, uB v27], uA #[uI v22, uI v23, uS v24, uL v25], uS (qAj [98, 111, 111, 108])] V3 fun v28 V4 =>
 Br (v28 = 0)
 (IR (v13 + 1) /\ J1 [uS v11, uI v12, uI (v13 + 1)] V4)
 (Ix v5 v13 (¬ (qAa v5.p (v13.toNat * 6)) = none /\ ∃ v29 v30 v31 v32 v33 v34, V4.rowp v5.p (v13.toNat * 6) 6 = some [uS v29, uS v30, uI v31, uI v32, uS v33, uL v34] /\
 R (rT #[uS v29, uI v28]) V4))))))
 (Lp [uS v11, uI v12, uI 0] V2 fun I n V3 => ∀ v14 v15 v16, I n [uS v14, uI v15, uI v16] V3 -> ∀ J2 : LMP, Nx I n J2 ->
 Br (v16 < (v6.n : Int))
 (Ix v6 v16 (¬ (qAa v6.p (v16.toNat * 5)) = none /\ ∃ v17 v18 v19 v20 v21, V3.rowp v6.p (v16.toNat * 5) 5 = some [uS v17, uI v18, uI v19, uS v20, uL v21] /\
 Ix v6 v16 (¬ (qAa v6.p (v16.toNat * 5)) = none /\ ∃ v22 v23 v24 v25 v26, V3.rowp v6.p (v16.toNat * 5) 5 = some [uS v22, uI v23, uI v24, uS v25, uL v26] /\
 TT 65 #[uD v0 v1 v2 v3 v4 v5 v6 v7, uS v17] V3 fun e V4 => ∃ v27 v28, e = rV (uA #[uL v27, uB v28]) /\
 V4.rowp (qAa (qAa v6.p (v16.toNat * 5)) 1) 0 4 = some [uI v23, uI v24, uS v25, uL v26] /\ ¬ (qAa v6.p (v16.toNat * 5)) = none /\ Ix v6 v16 (TI 189 #[uD v0 v1 v2 v3 v4 v5 v6 v7, uA #[uL v27, uB v28], uA #[uI v23, uI v24, uS v25, uL v26], uS (qAj [105, 110, 116])] V4 fun v29 V5 =>
 Br (v29 = 0)
 (IR (v16 + 1) /\ J2 [uS v14, uI v15, uI (v16 + 1)] V5)
 (R (rT #[uS (qAj [112, 111, 116, 101, 110, 116, 105, 97, 108]), uI v29]) V5)))))
 (Lp [uS v14, uI v15, uI 0] V3 fun I n V4 => ∀ v17 v18 v19, I n [uS v17, uI v18, uI v19] V4 -> ∀ J3 : LMP, Nx I n J3 ->
 Br (v19 < (v7.n : Int))
 (Ix v7 v19 (¬ (qAa v7.p (v19.toNat * 5)) = none /\ ∃ v20 v21 v22 v23 v24, V4.rowp v7.p (v19.toNat * 5) 5 = some [uS v20, uI v21, uI v22, uS v23, uL v24] /\
 TI 186 #[uD v0 v1 v2 v3 v4 v5 v6 v7, uS v20] V4 fun v25 V5 =>
 Ix v3 v25 (∃ v26 v27 v28 v29 v30, V5.rowp v3.p (v25.toNat * 5) 5 = some [uS v26, uL v27, uS v28, uL v29, uL v30] /\
 Ix v7 v19 (¬ (qAa v7.p (v19.toNat * 5)) = none /\ ∃ v31 v32 v33 v34 v35, V5.rowp v7.p (v19.toNat * 5) 5 = some [uS v31, uI v32, uI v33, uS v34, uL v35] /\
 TT 190 #[uD v0 v1 v2 v3 v4 v5 v6 v7, uA #[uS v26, uL v27, uS v28, uL v29, uL v30]] V5 fun e V6 => ∃ v36 v37, e = rV (uA #[uL v36, uB v37]) /\
 V6.rowp (qAa (qAa v7.p (v19.toNat * 5)) 1) 0 4 = some [uI v32, uI v33, uS v34, uL v35] /\ ¬ (qAa v7.p (v19.toNat * 5)) = none /\ Ix v7 v19 (TI 189 #[uD v0 v1 v2 v3 v4 v5 v6 v7, uA #[uL v36, uB v37], uA #[uI v32, uI v33, uS v34, uL v35], uS (qAj [105, 110, 116])] V6 fun v38 V7 =>
 Br (v38 = 0)
 (IR (v19 + 1) /\ J3 [uS v17, uI v18, uI (v19 + 1)] V7)
 (Ix v7 v19 (¬ (qAa v7.p (v19.toNat * 5)) = none /\ ∃ v39 v40 v41 v42 v43, V7.rowp v7.p (v19.toNat * 5) 5 = some [uS v39, uI v40, uI v41, uS v42, uL v43] /\
 R (rT #[uS v39, uI v38]) V7)))))))
 (R (rT #[uS (qAj []), uI 0]) V4))))
theorem x130 {v0 : ByteArray} {v1 v2 v3 v4 v5 v6 v7 : Sl} (h : w130 v0 v1 v2 v3 v4 v5 v6 v7 V R) : TT 130 #[uD v0 v1 v2 v3 v4 v5 v6 v7] V R := trx Tryz.func130 h
def w131 (v0 : ByteArray) (v1 v2 v3 v4 v5 v6 v7 v8 : Sl) : MR := fun V R =>
 Lp [uB false, uI 0] V fun I n V1 => ∀ v9 v10, I n [uB v9, uI v10] V1 -> ∀ J0 : LMP, Nx I n J0 ->
 Br (v10 < (v8.n : Int))
 (Ix v8 v10 (¬ (qAa v8.p (v10.toNat * 2)) = none /\ ∃ v11 v12, V1.rowp v8.p (v10.toNat * 2) 2 = some [uS v11, uS v12] /\
 Br (v12 = (qAj [105, 110, 116]))
 (IR (v10 + 1) /\ J0 [uB v9, uI (v10 + 1)] V1)
 (Ix v8 v10 (¬ (qAa v8.p (v10.toNat * 2)) = none /\ ∃ v13 v14, V1.rowp v8.p (v10.toNat * 2) 2 = some [uS v13, uS v14] /\
 Br (v14 = (qAj [98, 111, 111, 108]))
 (IR (v10 + 1) /\ J0 [uB v9, uI (v10 + 1)] V1)
 (Ix v8 v10 (¬ (qAa v8.p (v10.toNat * 2)) = none /\ ∃ v15 v16, V1.rowp v8.p (v10.toNat * 2) 2 = some [uS v15, uS v16] /\
 TI 132 #[uD v0 v1 v2 v3 v4 v5 v6 v7, uS v16] V1 fun v17 V2 =>
 Br (v17 < 0)
 (R (rV (uB false)) V2)
 (IR (v10 + 1) /\ J0 [uB v9, uI (v10 + 1)] V2)))))))
 (R (rV (uB true)) V1)
theorem x131 {v0 : ByteArray} {v1 v2 v3 v4 v5 v6 v7 v8 : Sl} (h : w131 v0 v1 v2 v3 v4 v5 v6 v7 v8 V R) : TT 131 #[uD v0 v1 v2 v3 v4 v5 v6 v7, uL v8] V R := trx Tryz.func131 h
def w132 (v0 : ByteArray) (v1 v2 v3 v4 v5 v6 v7 : Sl) (v8 : ByteArray) : MR := fun V R =>
 Lp [uI 0, uI 0] V fun I n V1 => ∀ v9 v10, I n [uI v9, uI v10] V1 -> ∀ J0 : LMP, Nx I n J0 ->
 Br (v10 < (v1.n : Int))
 (Ix v1 v10 (¬ (qAa v1.p (v10.toNat * 2)) = none /\ ∃ v11 v12, V1.rowp v1.p (v10.toNat * 2) 2 = some [uS v11, uL v12] /\
 Br (v11 = v8)
 (R (rV (uI v10)) V1)
 (IR (v10 + 1) /\ J0 [uI v9, uI (v10 + 1)] V1)))
 (R (rV (uI (-1))) V1)
theorem x132 {v0 : ByteArray} {v1 v2 v3 v4 v5 v6 v7 : Sl} {v8 : ByteArray} (h : w132 v0 v1 v2 v3 v4 v5 v6 v7 v8 V R) : TT 132 #[uD v0 v1 v2 v3 v4 v5 v6 v7, uS v8] V R := trx Tryz.func132 h
def w133 (v0 : Option Addr) (v1 v2 : Sl) : MR := fun V R =>
 Lp [uI 0] V fun I n V1 => ∀ v3, I n [uI v3] V1 -> ∀ J0 : LMP, Nx I n J0 ->
 Br (v3 < (v1.n : Int))
 (Ix v1 v3 (∃ v4 v5, V1.rowp v1.p (v3.toNat * 2) 2 = some [uS v4, uS v5] /\
 TB 170 #[uS v5] V1 fun v6 V2 =>
 Br (v6 = true)
 (IR (v3 + 1) /\ J0 [uI (v3 + 1)] V2)
 (Ix v2 v3 (∃ v7, V2.rowp v2.p (v3.toNat * 1) 1 = some [uI v7] /\
 Br (v7 = 0)
 (IR (v3 + 1) /\ J0 [uI (v3 + 1)] V2)
 (Ix v2 v3 (∃ v8, V2.rowp v2.p (v3.toNat * 1) 1 = some [uI v8] /\
 TT 191 #[uP v0, uI v8] V2 fun e V3 => e = rT #[] /\
 IR (v3 + 1) /\ J0 [uI (v3 + 1)] V3))))))
 (R (rT #[]) V1)
theorem x133 {v0 : Option Addr} {v1 v2 : Sl} (h : w133 v0 v1 v2 V R) : TT 133 #[uP v0, uL v1, uL v2] V R := trx Tryz.func133 h
def w134 (v0 : Int) : MR := fun V R =>
 Br (v0 = 1)
 (R (rT #[uI 0, uB true]) V)
 (Br (v0 = 2)
 (R (rT #[uI 0, uB true]) V)
 (Br (v0 = 3)
 (R (rT #[uI 0, uB true]) V)
 (Br (v0 = 4)
 (R (rT #[uI 0, uB true]) V)
 (Br (v0 = 6)
 (R (rT #[uI 0, uB true]) V)
 (Br (v0 = 7)
 (R (rT #[uI (-1), uB true]) V)
 (Br (v0 = 5)
 (R (rT #[uI 1, uB true]) V)
 (Br (v0 = 8)
 (R (rT #[uI 1, uB true]) V)
 (Br (v0 = 18)
 (R (rT #[uI 1, uB true]) V)
 (Br (v0 = 24)
 (R (rT #[uI 1, uB true]) V)
 (Br (v0 = 21)
 (R (rT #[uI 3, uB true]) V)
 (Br (9 <= v0)
 (R (rT #[uI 2, uB (decide (v0 <= 23))]) V)
 (R (rT #[uI 2, uB false]) V))))))))))))
theorem x134 {v0 : Int} (h : w134 v0 V R) : TT 134 #[uI v0] V R := trx Tryz.func134 h
def w135 (v0 : Option Addr) : MR := fun V R =>
 ¬ v0 = none /\ ¬ v0 = none /\ ∃ v1, V.rowp v0 ((0 : Int).toNat * 1) 1 = some [uI v1] /\
 IR (v1 - 1) /\ ¬ v0 = none /\ ¬ v0 = none /\ StT (qAa v0 0) 0 [uI (v1 - 1)] V fun V1 =>
 ¬ v0 = none /\ ¬ v0 = none /\ ∃ v2, V1.rowp v0 ((0 : Int).toNat * 1) 1 = some [uI v2] /\
 R (rV (uB (decide (0 <= v2)))) V1
theorem x135 {v0 : Option Addr} (h : w135 v0 V R) : TT 135 #[uP v0] V R := trx Tryz.func135 h
def w136 (v0 v1 : Int) (v2 : ByteArray) (v3 : Sl) : MR := fun V R =>
 Br (v0 = 1)
 (Br (0 <= v1)
 (Br (v1 <= 1099511627776)
 (R (rV (uB (decide (v2 = (qAj []))))) V)
 (R (rV (uB false)) V))
 (R (rV (uB false)) V))
 (Br (v0 = 2)
 (Br (v1 = 0)
 (R (rV (uB (decide (v2 = (qAj []))))) V)
 (Br (v1 = 1)
 (R (rV (uB (decide (v2 = (qAj []))))) V)
 (R (rV (uB false)) V)))
 (Br (v0 = 4)
 (Br (v1 = 0)
 (TB 152 #[uS v2] V fun v4 V1 =>
 Br (v4 = true)
 (R (rV (uB true)) V1)
 (R (rV (uB (decide (v2 = (qAj [116, 104, 105, 115]))))) V1))
 (R (rV (uB false)) V))
 (Br (v0 = 6)
 (Br (v1 = 0)
 (TB 152 #[uS v2] V fun v4 V1 =>
 R (rV (uB v4)) V1)
 (R (rV (uB false)) V))
 (Br (v0 = 5)
 (Br (v1 = 0)
 (TB 152 #[uS v2] V fun v4 V1 =>
 R (rV (uB v4)) V1)
 (R (rV (uB false)) V))
 (Br (v0 = 7)
 (Br (v1 = 0)
 (TB 152 #[uS v2] V fun v4 V1 =>
 R (rV (uB v4)) V1)
 (R (rV (uB false)) V))
 (Br (v1 = 0)
 (R (rV (uB (decide (v2 = (qAj []))))) V)
 (R (rV (uB false)) V)))))))
theorem x136 {v0 v1 : Int} {v2 : ByteArray} {v3 : Sl} (h : w136 v0 v1 v2 v3 V R) : TT 136 #[uA #[uI v0, uI v1, uS v2, uL v3]] V R := trx Tryz.func136 h
def w137 (v0 v1 : Int) (v2 : ByteArray) (v3 : Sl) (v4 v5 : Option Addr) : MR := fun V R =>
 ∃ v6, V.rowp v4 ((0 : Int).toNat * 1) 1 = some [uI v6] /\
 IR (v6 + 1) /\ ∃ v7, V.rowp v5 ((0 : Int).toNat * 1) 1 = some [uP v7] /\
 TB 86 #[uA #[uI v0, uI v1, uS v2, uL v3], uI (v6 + 1), uP v7] V fun v8 V1 =>
 R (rV (uB (!v8))) V1
theorem x137 {v0 v1 : Int} {v2 : ByteArray} {v3 : Sl} {v4 v5 : Option Addr} (h : w137 v0 v1 v2 v3 v4 v5 V R) : TT 137 #[uA #[uI v0, uI v1, uS v2, uL v3], uP v4, uP v5] V R := trx Tryz.func137 h
def w139 (v0 : Option Addr) (v1 : Option Nat) (v2 : Bool) (v3 v4 : Int) (v5 : ByteArray) (v6 : Sl) : MR := fun V R =>
 Lp [uS (qAj []), uI 0, .slice none 0 0, uI 0] V fun I n V1 => ∀ v7 v8 v9 v10, I n [uS v7, uI v8, uL v9, uI v10] V1 -> ∀ J0 : LMP, Nx I n J0 ->
 Br (v10 < (v6.n : Int))
 (Ix v6 v10 (∃ v11 v12 v13 v14, V1.rowp v6.p (v10.toNat * 4) 4 = some [uI v11, uI v12, uS v13, uL v14] /\
 TT 90 #[uA #[uP v0, uM v1, uB v2], uA #[uI v11, uI v12, uS v13, uL v14]] V1 fun e V2 => ∃ v15 v16, e = rT #[uS v15, uI v16] /\
 Br (v16 = 0)
 (qAo [uS v15] 9 V2 fun v17 V3 =>
 qAq Tryz.prog (.call { callee := (.builtin .append), args := #[(.tmp 31), (.tmp 33)], argTypes := #[174, 174] }) 174 (gv [(31, uL v9), (33, .slice (qAa v17 0) 1 1)]) V3 fun x V4 => ∃ v18, x = uL v18 /\
 IR (v10 + 1) /\ J0 [uS v7, uI v8, uL v18, uI (v10 + 1)] V4)
 (R (rT #[uS (qAj []), uI v16]) V2)))
 (Br (v2 = true)
 (¬ v0 = none /\ ¬ v0 = none /\ ∃ v11, V1.rowp v0 9 1 = some [uM v11] /\
 qBt Tryz.prog 208 (uM v11) (uS v5) true V1 fun x => ∃ v12 v13 v14 v15 v16 v17, x = .tuple #[uA #[uS v12, uL v13, uS v14, uL v15, uL v16], uB v17] /\
 Br (v17 = true)
 (Br ((v9.n : Int) = (v13.n : Int))
 (Lp [uS v7, uI v8, uI 0] V1 fun I n V2 => ∀ v18 v19 v20, I n [uS v18, uI v19, uI v20] V2 -> ∀ J1 : LMP, Nx I n J1 ->
 Br (v20 < (v9.n : Int))
 (Ix v9 v20 (∃ v21, V2.rowp v9.p (v20.toNat * 1) 1 = some [uS v21] /\
 Ix v13 v20 (¬ (qAa v13.p (v20.toNat * 2)) = none /\ ∃ v22 v23, V2.rowp v13.p (v20.toNat * 2) 2 = some [uS v22, uS v23] /\
 TB 194 #[uP v0, uS v21, uS v23] V2 fun v24 V3 =>
 Br (v24 = true)
 (IR (v20 + 1) /\ J1 [uS v18, uI v19, uI (v20 + 1)] V3)
 (R (rT #[uS (qAj []), uI 11]) V3))))
 (R (rT #[uS v14, uI 0]) V2))
 (R (rT #[uS (qAj []), uI 3]) V1))
 (R (rT #[uS (qAj []), uI 9]) V1))
 (TT 193 #[uA #[uP v0, uM v1, uB v2], uS v5, uL v9] V1 fun e V2 => ∃ v11 v12, e = rT #[uS v11, uI v12] /\
 R (rT #[uS v11, uI v12]) V2))
theorem x139 {v0 : Option Addr} {v1 : Option Nat} {v2 : Bool} {v3 v4 : Int} {v5 : ByteArray} {v6 : Sl} (h : w139 v0 v1 v2 v3 v4 v5 v6 V R) : TT 139 #[uA #[uP v0, uM v1, uB v2], uA #[uI v3, uI v4, uS v5, uL v6]] V R := trx Tryz.func139 h
abbrev w140_0 (v7 : Sl) (V : Mem) (v0 : Option Addr) (R : RP) : Prop :=
 ¬ v7.p = none /\ (0 : Int) <= (0 : Int) /\ 0 < (v7.n : Int) /\ ∃ v8, V.rowp v7.p ((0 : Int).toNat * 1) 1 = some [uS v8] /\
 ¬ v7.p = none /\ (0 : Int) <= (1 : Int) /\ 1 < (v7.n : Int) /\ ∃ v9, V.rowp v7.p 1 1 = some [uS v9] /\
 TB 194 #[uP v0, uS v8, uS v9] V fun v10 V1 =>
 Br (v10 = true)
 (R (rT #[uS (qAj [98, 111, 111, 108]), uI 0]) V1)
 (¬ v7.p = none /\ (0 : Int) <= (1 : Int) /\ 1 < (v7.n : Int) /\ ∃ v11, V1.rowp v7.p 1 1 = some [uS v11] /\
 ¬ v7.p = none /\ (0 : Int) <= (0 : Int) /\ 0 < (v7.n : Int) /\ ∃ v12, V1.rowp v7.p ((0 : Int).toNat * 1) 1 = some [uS v12] /\
 TB 194 #[uP v0, uS v11, uS v12] V1 fun v13 V2 =>
 Br (v13 = true)
 (R (rT #[uS (qAj [98, 111, 111, 108]), uI 0]) V2)
 (R (rT #[uS (qAj []), uI 11]) V2))
def w140 (v0 : Option Addr) (v1 : Option Nat) (v2 : Bool) (v3 v4 : Int) (v5 : ByteArray) (v6 v7 : Sl) : MR := fun V R =>
 Br (v3 = 1)
 (R (rT #[uS (qAj [105, 110, 116]), uI 0]) V)
 (Br (v3 = 2)
 (R (rT #[uS (qAj [98, 111, 111, 108]), uI 0]) V)
 (Br (v3 = 3)
 (R (rT #[uS (qAj [110, 105, 108]), uI 0]) V)
 (Br (v3 = 4)
 (qBt Tryz.prog 163 (uM v1) (uS v5) true V fun x => ∃ v8 v9, x = .tuple #[uS v8, uB v9] /\
 Br (v9 = true)
 (R (rT #[uS v8, uI 0]) V)
 (R (rT #[uS (qAj []), uI 9]) V))
 (Br (v3 = 5)
 (¬ v7.p = none /\ (0 : Int) <= (0 : Int) /\ 0 < (v7.n : Int) /\ ∃ v8, V.rowp v7.p ((0 : Int).toNat * 1) 1 = some [uS v8] /\
 TT 198 #[uP v0, uS v8, uS v5] V fun e V1 => ∃ v9 v10, e = rT #[uS v9, uI v10] /\
 R (rT #[uS v9, uI v10]) V1)
 (Br (v3 = 6)
 (Br (v2 = true)
 (TB 88 #[uP v0, uS v5] V fun v8 V1 =>
 Br (v8 = true)
 (R (rT #[uS v5, uI 0]) V1)
 (R (rT #[uS (qAj []), uI 9]) V1))
 (R (rT #[uS (qAj []), uI 13]) V))
 (Br (v3 = 14)
 (w140_0 v7 V v0 R)
 (Br (v3 = 15)
 (w140_0 v7 V v0 R)
 (Br (v3 = 16)
 (qAo [uL v7] 174 V fun v8 V1 =>
 TT 195 #[uS (qAj [105, 110, 116]), uS (qAj [98, 111, 111, 108]), uP (qAa v8 0)] V1 fun e V2 => ∃ v9 v10, e = rT #[uS v9, uI v10] /\
 R (rT #[uS v9, uI v10]) V2)
 (Br (v3 = 17)
 (qAo [uL v7] 174 V fun v8 V1 =>
 TT 195 #[uS (qAj [105, 110, 116]), uS (qAj [98, 111, 111, 108]), uP (qAa v8 0)] V1 fun e V2 => ∃ v9 v10, e = rT #[uS v9, uI v10] /\
 R (rT #[uS v9, uI v10]) V2)
 (Br (v3 = 18)
 (qAo [uL v7] 174 V fun v8 V1 =>
 TT 195 #[uS (qAj [98, 111, 111, 108]), uS (qAj [98, 111, 111, 108]), uP (qAa v8 0)] V1 fun e V2 => ∃ v9 v10, e = rT #[uS v9, uI v10] /\
 R (rT #[uS v9, uI v10]) V2)
 (Br (v3 = 19)
 (qAo [uL v7] 174 V fun v8 V1 =>
 TT 195 #[uS (qAj [98, 111, 111, 108]), uS (qAj [98, 111, 111, 108]), uP (qAa v8 0)] V1 fun e V2 => ∃ v9 v10, e = rT #[uS v9, uI v10] /\
 R (rT #[uS v9, uI v10]) V2)
 (Br (v3 = 20)
 (qAo [uL v7] 174 V fun v8 V1 =>
 TT 195 #[uS (qAj [98, 111, 111, 108]), uS (qAj [98, 111, 111, 108]), uP (qAa v8 0)] V1 fun e V2 => ∃ v9 v10, e = rT #[uS v9, uI v10] /\
 R (rT #[uS v9, uI v10]) V2)
 (Br (v3 = 21)
 (¬ v7.p = none /\ (0 : Int) <= (0 : Int) /\ 0 < (v7.n : Int) /\ ∃ v8, V.rowp v7.p ((0 : Int).toNat * 1) 1 = some [uS v8] /\
 Br (v8 = (qAj [98, 111, 111, 108]))
 (¬ v7.p = none /\ (0 : Int) <= (1 : Int) /\ 1 < (v7.n : Int) /\ ∃ v9, V.rowp v7.p 1 1 = some [uS v9] /\
 ¬ v7.p = none /\ (0 : Int) <= (2 : Int) /\ 2 < (v7.n : Int) /\ ∃ v10, V.rowp v7.p 2 1 = some [uS v10] /\
 TB 194 #[uP v0, uS v9, uS v10] V fun v11 V1 =>
 Br (v11 = true)
 (¬ v7.p = none /\ (0 : Int) <= (2 : Int) /\ 2 < (v7.n : Int) /\ ∃ v12, V1.rowp v7.p 2 1 = some [uS v12] /\
 R (rT #[uS v12, uI 0]) V1)
 (¬ v7.p = none /\ (0 : Int) <= (2 : Int) /\ 2 < (v7.n : Int) /\ ∃ v12, V1.rowp v7.p 2 1 = some [uS v12] /\
 ¬ v7.p = none /\ (0 : Int) <= (1 : Int) /\ 1 < (v7.n : Int) /\ ∃ v13, V1.rowp v7.p 1 1 = some [uS v13] /\
 TB 194 #[uP v0, uS v12, uS v13] V1 fun v14 V2 =>
 Br (v14 = true)
 (¬ v7.p = none /\ (0 : Int) <= (1 : Int) /\ 1 < (v7.n : Int) /\ ∃ v15, V2.rowp v7.p 1 1 = some [uS v15] /\
 R (rT #[uS v15, uI 0]) V2)
 (R (rT #[uS (qAj []), uI 11]) V2)))
 (R (rT #[uS (qAj []), uI 11]) V))
 (qAo [uL v7] 174 V fun v8 V1 =>
 TT 195 #[uS (qAj [105, 110, 116]), uS (qAj [105, 110, 116]), uP (qAa v8 0)] V1 fun e V2 => ∃ v9 v10, e = rT #[uS v9, uI v10] /\
 R (rT #[uS v9, uI v10]) V2))))))))))))))
theorem x140 {v0 : Option Addr} {v1 : Option Nat} {v2 : Bool} {v3 v4 : Int} {v5 : ByteArray} {v6 v7 : Sl} (h : w140 v0 v1 v2 v3 v4 v5 v6 v7 V R) : TT 140 #[uA #[uP v0, uM v1, uB v2], uA #[uI v3, uI v4, uS v5, uL v6], uL v7] V R := trx Tryz.func140 h
def w141 (v0 : Sl) (v1 : Value) : MR := fun V R =>
 Lp [uI 0, uI 0] V fun I n V1 => ∀ v2 v3, I n [uI v2, uI v3] V1 -> ∀ J0 : LMP, Nx I n J0 ->
 Br (v3 < (v0.n : Int))
 (Ix v0 v3 (∃ v4 v5, V1.rowp v0.p (v3.toNat * 2) 2 = some [uS v4, uS v5] /\
 ∃ f first caps, K.cast .f v1 = .func (.func f) first caps /\ CO f /\
 TT f (first ++ #[uA #[uS v4, uS v5]] ++ caps) V1 fun e V2 => ∃ v6, e = rV (uB v6) /\
 Br (v6 = true)
 (R (rV (uI v3)) V2)
 (IR (v3 + 1) /\ J0 [uI v2, uI (v3 + 1)] V2)))
 (R (rV (uI (-1))) V1)
theorem x141 {v0 : Sl} {v1 : Value} (h : w141 v0 v1 V R) : TT 141 #[uL v0, K.cast .f v1] V R :=
 qBu Tryz.func141 [] [] false [uL v0, v1] (by kernel_rfl) (by kernel_rfl) h
def w142 (v0 v1 : ByteArray) (v2 : Option Addr) : MR := fun V R =>
 ∃ v3, V.rowp v2 ((0 : Int).toNat * 1) 1 = some [uS v3] /\
 R (rV (uB (decide (v0 = v3)))) V
theorem x142 {v0 v1 : ByteArray} {v2 : Option Addr} (h : w142 v0 v1 v2 V R) : TT 142 #[uA #[uS v0, uS v1], uP v2] V R := trx Tryz.func142 h
def w143 (v0 : ByteArray) (v1 : Sl) (v2 : ByteArray) : MR := fun V R =>
 qAo [uS v2] 9 V fun v3 V1 =>
 TI 141 #[uL v1, .func (.func 200) #[] #[uP (qAa v3 0)]] V1 fun v4 V2 =>
 TT 199 #[uI v4] V2 fun e V3 => ∃ v5 v6, e = rT #[uI v5, uI v6] /\
 R (rT #[uI v5, uI v6]) V3
theorem x143 {v0 : ByteArray} {v1 : Sl} {v2 : ByteArray} (h : w143 v0 v1 v2 V R) : TT 143 #[uA #[uS v0, uL v1], uS v2] V R := trx Tryz.func143 h
abbrev qAR  : ByteArray :=
 qAj [0, 1, 2, 2, 3, 3, 3, 3, 4, 4, 4, 4, 4, 4, 4, 4, 5, 5, 5, 5, 5, 5, 5, 5, 5, 5, 5, 5, 5, 5, 5, 5, 6, 6, 6, 6, 6, 6, 6, 6, 6, 6, 6, 6, 6, 6, 6, 6, 6, 6, 6, 6, 6, 6, 6, 6, 6, 6, 6, 6, 6, 6, 6, 6, 7, 7, 7, 7, 7, 7, 7, 7, 7, 7, 7, 7, 7, 7, 7, 7, 7, 7, 7, 7, 7, 7, 7, 7, 7, 7, 7, 7, 7, 7, 7, 7, 7, 7, 7, 7, 7, 7, 7, 7, 7, 7, 7, 7, 7, 7, 7, 7, 7, 7, 7, 7, 7, 7, 7, 7, 7, 7, 7, 7, 7, 7, 7, 7, 8, 8, 8, 8, 8, 8, 8, 8, 8, 8, 8, 8, 8, 8, 8, 8, 8, 8, 8, 8, 8, 8, 8, 8, 8, 8, 8, 8, 8, 8, 8, 8, 8, 8, 8, 8, 8, 8, 8, 8, 8, 8, 8, 8, 8, 8, 8, 8, 8, 8, 8, 8, 8, 8, 8, 8, 8, 8, 8, 8, 8, 8, 8, 8, 8, 8, 8, 8, 8, 8, 8, 8, 8, 8, 8, 8, 8, 8, 8, 8, 8, 8, 8, 8, 8, 8, 8, 8, 8, 8, 8, 8, 8, 8, 8, 8, 8, 8, 8, 8, 8, 8, 8, 8, 8, 8, 8, 8, 8, 8, 8, 8, 8, 8, 8, 8, 8, 8, 8, 8, 8, 8, 8, 8, 8, 8, 8, 8]
def w145 (v0 : Int) : MR := fun V R =>
 Br (4294967296 <= v0)
 (qAq Tryz.prog (.binOp .shr 219 (.tmp 5) (.const (.int .u64 32)) 172) 219 (gv [(5, .int .u64 v0)]) V fun x V1 => ∃ v1, x = .int .u64 v1 /\
 Br (65536 <= v1)
 (qAq Tryz.prog (.binOp .shr 219 (.tmp 9) (.const (.int .u64 16)) 172) 219 (gv [(9, .int .u64 v1)]) V1 fun x V2 => ∃ v2, x = .int .u64 v2 /\
 IR ((32 : Int) + (16 : Int)) /\ Br (256 <= v2)
 (qAq Tryz.prog (.binOp .shr 219 (.tmp 15) (.const (.int .u64 8)) 172) 219 (gv [(15, .int .u64 v2)]) V2 fun x V3 => ∃ v3, x = .int .u64 v3 /\
 IR (((32 : Int) + (16 : Int)) + 8) /\ K.inR .u8 v3 /\ (0 <= v3 /\ v3 < ((qAR).size : Int)) /\ IR (qAU (qAR) v3) /\ IR ((((32 : Int) + (16 : Int)) + 8) + (qAU (qAR) v3)) /\ R (rV (uI ((((32 : Int) + (16 : Int)) + 8) + (qAU (qAR) v3)))) V3)
 (K.inR .u8 v2 /\ (0 <= v2 /\ v2 < ((qAR).size : Int)) /\ IR (qAU (qAR) v2) /\ IR (((32 : Int) + (16 : Int)) + (qAU (qAR) v2)) /\ R (rV (uI (((32 : Int) + (16 : Int)) + (qAU (qAR) v2)))) V2))
 (Br (256 <= v1)
 (qAq Tryz.prog (.binOp .shr 219 (.tmp 15) (.const (.int .u64 8)) 172) 219 (gv [(15, .int .u64 v1)]) V1 fun x V2 => ∃ v2, x = .int .u64 v2 /\
 IR ((32 : Int) + (8 : Int)) /\ K.inR .u8 v2 /\ (0 <= v2 /\ v2 < ((qAR).size : Int)) /\ IR (qAU (qAR) v2) /\ IR (((32 : Int) + (8 : Int)) + (qAU (qAR) v2)) /\ R (rV (uI (((32 : Int) + (8 : Int)) + (qAU (qAR) v2)))) V2)
 (K.inR .u8 v1 /\ (0 <= v1 /\ v1 < ((qAR).size : Int)) /\ IR (qAU (qAR) v1) /\ IR (32 + (qAU (qAR) v1)) /\ R (rV (uI (32 + (qAU (qAR) v1)))) V1)))
 (Br (65536 <= v0)
 (qAq Tryz.prog (.binOp .shr 219 (.tmp 9) (.const (.int .u64 16)) 172) 219 (gv [(9, .int .u64 v0)]) V fun x V1 => ∃ v1, x = .int .u64 v1 /\
 IR ((0 : Int) + (16 : Int)) /\ Br (256 <= v1)
 (qAq Tryz.prog (.binOp .shr 219 (.tmp 15) (.const (.int .u64 8)) 172) 219 (gv [(15, .int .u64 v1)]) V1 fun x V2 => ∃ v2, x = .int .u64 v2 /\
 IR (((0 : Int) + (16 : Int)) + 8) /\ K.inR .u8 v2 /\ (0 <= v2 /\ v2 < ((qAR).size : Int)) /\ IR (qAU (qAR) v2) /\ IR ((((0 : Int) + (16 : Int)) + 8) + (qAU (qAR) v2)) /\ R (rV (uI ((((0 : Int) + (16 : Int)) + 8) + (qAU (qAR) v2)))) V2)
 (K.inR .u8 v1 /\ (0 <= v1 /\ v1 < ((qAR).size : Int)) /\ IR (qAU (qAR) v1) /\ IR (((0 : Int) + (16 : Int)) + (qAU (qAR) v1)) /\ R (rV (uI (((0 : Int) + (16 : Int)) + (qAU (qAR) v1)))) V1))
 (Br (256 <= v0)
 (qAq Tryz.prog (.binOp .shr 219 (.tmp 15) (.const (.int .u64 8)) 172) 219 (gv [(15, .int .u64 v0)]) V fun x V1 => ∃ v1, x = .int .u64 v1 /\
 IR ((0 : Int) + (8 : Int)) /\ K.inR .u8 v1 /\ (0 <= v1 /\ v1 < ((qAR).size : Int)) /\ IR (qAU (qAR) v1) /\ IR (((0 : Int) + (8 : Int)) + (qAU (qAR) v1)) /\ R (rV (uI (((0 : Int) + (8 : Int)) + (qAU (qAR) v1)))) V1)
 (K.inR .u8 v0 /\ (0 <= v0 /\ v0 < ((qAR).size : Int)) /\ IR (qAU (qAR) v0) /\ IR (0 + (qAU (qAR) v0)) /\ R (rV (uI (0 + (qAU (qAR) v0)))) V)))
theorem x145 {v0 : Int} (h : w145 v0 V R) : TT 145 #[.int .u64 v0] V R := trx Tryz.func145 h
def w146 (v0 v1 : Int) : MR := fun V R =>
 TT 201 #[uI v0] V fun e V1 => ∃ v2, e = rV (.int .u64 v2) /\
 TT 201 #[uI v1] V1 fun e V2 => ∃ v3, e = rV (.int .u64 v3) /\
 TT 202 #[.int .u64 v2, .int .u64 v3] V2 fun e V3 => ∃ v4 v5, e = rT #[.int .u64 v4, .int .u64 v5] /\
 Br (v4 = 0)
 (Br (1099511627776 < v5)
 (qAq Tryz.prog (.makeInterface 133 (.tmp 24)) 20 (gv [(24, uA #[uI 5])]) V3 fun x V4 => ∃ v6, K.r.ok v6 /\ x = v6 /\
 ∃ t x, K.cast .r v6 = .iface t x /\ R (.panicked [{ v := .iface t x, recovered := false }]) V4)
 (IR (v0 * v1) /\ R (rV (uI (v0 * v1))) V3))
 (qAq Tryz.prog (.makeInterface 133 (.tmp 24)) 20 (gv [(24, uA #[uI 5])]) V3 fun x V4 => ∃ v6, K.r.ok v6 /\ x = v6 /\
 ∃ t x, K.cast .r v6 = .iface t x /\ R (.panicked [{ v := .iface t x, recovered := false }]) V4)
theorem x146 {v0 v1 : Int} (h : w146 v0 v1 V R) : TT 146 #[uI v0, uI v1] V R := trx Tryz.func146 h
def w147 (v0 : Bool) : MR := fun V R =>
 Br (v0 = true)
 (R (rV (uI 1)) V)
 (R (rV (uI 0)) V)
theorem x147 {v0 : Bool} (h : w147 v0 V R) : TT 147 #[uB v0] V R := trx Tryz.func147 h
abbrev w148_0 (v0 : Int) (R : RP) (V : Mem) : Prop :=
 Br (v0 = 6)
 (R (rV (uI 0)) V)
 (Br (v0 = 5)
 (R (rV (uI 1)) V)
 (Br (v0 = 8)
 (R (rV (uI 1)) V)
 (Br (v0 = 18)
 (R (rV (uI 1)) V)
 (Br (v0 = 24)
 (R (rV (uI 1)) V)
 (Br (v0 = 7)
 (R (rV (uI (-1))) V)
 (Br (v0 = 21)
 (R (rV (uI 3)) V)
 (Br (9 <= v0)
 (Br (v0 <= 23)
 (R (rV (uI 2)) V)
 (R (rV (uI (-2))) V))
 (R (rV (uI (-2))) V))))))))
def w148 (v0 : Int) : MR := fun V R =>
 Br (1 <= v0)
 (Br (v0 <= 4)
 (R (rV (uI 0)) V)
 (w148_0 v0 R V))
 (w148_0 v0 R V)
theorem x148 {v0 : Int} (h : w148 v0 V R) : TT 148 #[uI v0] V R := trx Tryz.func148 h
def w149 (v0 v1 : Int) (v2 : ByteArray) (v3 : Sl) : MR := fun V R =>
 Br (v0 = 4)
 (Br (v2 = (qAj [116, 104, 105, 115]))
 (R (rV (uB true)) V)
 (TB 75 #[uS v2] V fun v4 V1 =>
 R (rV (uB v4)) V1))
 (Br (v0 = 5)
 (TB 75 #[uS v2] V fun v4 V1 =>
 R (rV (uB v4)) V1)
 (Br (v0 = 6)
 (TB 75 #[uS v2] V fun v4 V1 =>
 R (rV (uB v4)) V1)
 (Br (v0 = 7)
 (TB 75 #[uS v2] V fun v4 V1 =>
 R (rV (uB v4)) V1)
 (R (rV (uB (decide (v2 = (qAj []))))) V))))
theorem x149 {v0 v1 : Int} {v2 : ByteArray} {v3 : Sl} (h : w149 v0 v1 v2 v3 V R) : TT 149 #[uA #[uI v0, uI v1, uS v2, uL v3]] V R := trx Tryz.func149 h
def w150 (v0 : ByteArray) (v1 v2 v3 v4 v5 v6 v7 : Sl) (v8 : ByteArray) (v9 : Sl) : MR := fun V R =>
 TI 186 #[uD v0 v1 v2 v3 v4 v5 v6 v7, uS v8] V fun v10 V1 =>
 Br (v10 < 0)
 (R (rT #[uS (qAj []), uI 9]) V1)
 (Ix v3 v10 (∃ v11 v12 v13 v14 v15, V1.rowp v3.p (v10.toNat * 5) 5 = some [uS v11, uL v12, uS v13, uL v14, uL v15] /\
 Br ((v9.n : Int) = (v12.n : Int))
 (Lp [uS (qAj []), uI 0, uI 0] V1 fun I n V2 => ∀ v16 v17 v18, I n [uS v16, uI v17, uI v18] V2 -> ∀ J0 : LMP, Nx I n J0 ->
 Br (v18 < (v9.n : Int))
 (Ix v9 v18 (∃ v19, V2.rowp v9.p (v18.toNat * 1) 1 = some [uS v19] /\
 Ix v12 v18 (¬ (qAa v12.p (v18.toNat * 2)) = none /\ ∃ v20 v21, V2.rowp v12.p (v18.toNat * 2) 2 = some [uS v20, uS v21] /\
 TB 104 #[uD v0 v1 v2 v3 v4 v5 v6 v7, uS v19, uS v21] V2 fun v22 V3 =>
 Br (v22 = true)
 (IR (v18 + 1) /\ J0 [uS v16, uI v17, uI (v18 + 1)] V3)
 (R (rT #[uS (qAj []), uI 11]) V3))))
 (R (rT #[uS v13, uI 0]) V2))
 (R (rT #[uS (qAj []), uI 3]) V1)))
theorem x150 {v0 : ByteArray} {v1 v2 v3 v4 v5 v6 v7 : Sl} {v8 : ByteArray} {v9 : Sl} (h : w150 v0 v1 v2 v3 v4 v5 v6 v7 v8 v9 V R) : TT 150 #[uD v0 v1 v2 v3 v4 v5 v6 v7, uS v8, uL v9] V R := trx Tryz.func150 h
def w151 (v0 : ByteArray) (v1 v2 v3 v4 v5 v6 v7 : Sl) (v8 : ByteArray) : MR := fun V R =>
 Lp [uI 0, uI 0] V fun I n V1 => ∀ v9 v10, I n [uI v9, uI v10] V1 -> ∀ J0 : LMP, Nx I n J0 ->
 Br (v10 < (v4.n : Int))
 (Ix v4 v10 (¬ (qAa v4.p (v10.toNat * 7)) = none /\ ∃ v11 v12 v13 v14 v15 v16 v17, V1.rowp v4.p (v10.toNat * 7) 7 = some [uS v11, uS v12, uI v13, uI v14, uI v15, uS v16, uL v17] /\
 Br (v11 = v8)
 (R (rV (uI v10)) V1)
 (IR (v10 + 1) /\ J0 [uI v9, uI (v10 + 1)] V1)))
 (R (rV (uI (-1))) V1)
theorem x151 {v0 : ByteArray} {v1 v2 v3 v4 v5 v6 v7 : Sl} {v8 : ByteArray} (h : w151 v0 v1 v2 v3 v4 v5 v6 v7 v8 V R) : TT 151 #[uD v0 v1 v2 v3 v4 v5 v6 v7, uS v8] V R := trx Tryz.func151 h
def w152 (v0 : ByteArray) : MR := fun V R =>
 Br (v0 = (qAj []))
 (R (rV (uB false)) V)
 (Br (40 < (v0.size : Int))
 (R (rV (uB false)) V)
 ((0 <= (0 : Int) /\ (0 : Int) < (v0.size : Int)) /\ TI 203 #[.int .u8 (qAU v0 (0 : Int))] V fun v1 V1 =>
 Br (v1 = 2)
 (TB 204 #[uS v0] V1 fun v2 V2 =>
 Br (v2 = true)
 (R (rV (uB false)) V2)
 (Lp [uB false, uI 0] V2 fun I n V3 => ∀ v3 v4, I n [uB v3, uI v4] V3 -> ∀ J0 : LMP, Nx I n J0 ->
 Br (v4 < (v0.size : Int))
 ((0 <= v4 /\ v4 < (v0.size : Int)) /\ TI 203 #[.int .u8 (qAU v0 v4)] V3 fun v5 V4 =>
 Br (v5 < 2)
 (R (rV (uB false)) V4)
 (IR (v4 + 1) /\ J0 [uB v3, uI (v4 + 1)] V4))
 (R (rV (uB true)) V3)))
 (R (rV (uB false)) V1)))
theorem x152 {v0 : ByteArray} (h : w152 v0 V R) : TT 152 #[uS v0] V R := trx Tryz.func152 h
def w153 (v0 : Sl) (v1 : Int) : MR := fun V R =>
 Br ((v0.n : Int) <= v1)
 (TB 168 #[uL v0, .func (.func 205) #[] #[]] V fun v2 V1 =>
 R (rV (uB (!v2))) V1)
 (R (rV (uB false)) V)
theorem x153 {v0 : Sl} {v1 : Int} (h : w153 v0 v1 V R) : TT 153 #[uL v0, uI v1] V R := trx Tryz.func153 h
def w154 (v0 : ByteArray) (v1 v2 v3 v4 v5 v6 v7 : Sl) : MR := fun V R =>
 qAq Tryz.prog (.call { callee := (.builtin .max), args := #[(.tmp 11), (.tmp 14), (.tmp 17), (.tmp 20)], argTypes := #[3, 3, 3, 3] }) 3 (gv [(11, uI (v4.n : Int)), (14, uI (v5.n : Int)), (17, uI (v6.n : Int)), (20, uI (v7.n : Int))]) V fun x V1 => ∃ v8, x = uI v8 /\
 Br (12 < v8)
 (R (rV (uB false)) V1)
 (Lp [uB false, uI 0] V1 fun I n V2 => ∀ v9 v10, I n [uB v9, uI v10] V2 -> ∀ J0 : LMP, Nx I n J0 ->
 Br (v10 < (v4.n : Int))
 (Ix v4 v10 (∃ v11 v12 v13 v14 v15 v16 v17, V2.rowp v4.p (v10.toNat * 7) 7 = some [uS v11, uS v12, uI v13, uI v14, uI v15, uS v16, uL v17] /\
 TB 152 #[uS v11] V2 fun v18 V3 =>
 Br (v18 = true)
 (TB 152 #[uS v12] V3 fun v19 V4 =>
 Br (v19 = true)
 (Br (v13 < (-1099511627776))
 (R (rV (uB false)) V4)
 (Br (1099511627776 < v13)
 (R (rV (uB false)) V4)
 (TB 59 #[uA #[uI v14, uI v15, uS v16, uL v17]] V4 fun v20 V5 =>
 Br (v20 = true)
 (IR (v10 + 1) /\ J0 [uB v9, uI (v10 + 1)] V5)
 (R (rV (uB false)) V5))))
 (R (rV (uB false)) V4))
 (R (rV (uB false)) V3)))
 (Lp [uB v9, uI 0] V2 fun I n V3 => ∀ v11 v12, I n [uB v11, uI v12] V3 -> ∀ J1 : LMP, Nx I n J1 ->
 Br (v12 < (v5.n : Int))
 (Ix v5 v12 (∃ v13 v14 v15 v16 v17 v18, V3.rowp v5.p (v12.toNat * 6) 6 = some [uS v13, uS v14, uI v15, uI v16, uS v17, uL v18] /\
 TB 152 #[uS v13] V3 fun v19 V4 =>
 Br (v19 = true)
 (TB 207 #[uS v14] V4 fun v20 V5 =>
 Br (v20 = true)
 (TB 59 #[uA #[uI v15, uI v16, uS v17, uL v18]] V5 fun v21 V6 =>
 Br (v21 = true)
 (IR (v12 + 1) /\ J1 [uB v11, uI (v12 + 1)] V6)
 (R (rV (uB false)) V6))
 (R (rV (uB false)) V5))
 (R (rV (uB false)) V4)))
 (Lp [uB v11, uI 0] V3 fun I n V4 => ∀ v13 v14, I n [uB v13, uI v14] V4 -> ∀ J2 : LMP, Nx I n J2 ->
 Br (v14 < (v6.n : Int))
 (Ix v6 v14 (∃ v15 v16 v17 v18 v19, V4.rowp v6.p (v14.toNat * 5) 5 = some [uS v15, uI v16, uI v17, uS v18, uL v19] /\
 TB 207 #[uS v15] V4 fun v20 V5 =>
 Br (v20 = true)
 (TB 59 #[uA #[uI v16, uI v17, uS v18, uL v19]] V5 fun v21 V6 =>
 Br (v21 = true)
 (IR (v14 + 1) /\ J2 [uB v13, uI (v14 + 1)] V6)
 (R (rV (uB false)) V6))
 (R (rV (uB false)) V5)))
 (TB 208 #[uL v7, .func (.func 209) #[] #[]] V4 fun v15 V5 =>
 R (rV (uB (!v15))) V5))))
theorem x154 {v0 : ByteArray} {v1 v2 v3 v4 v5 v6 v7 : Sl} (h : w154 v0 v1 v2 v3 v4 v5 v6 v7 V R) : TT 154 #[uD v0 v1 v2 v3 v4 v5 v6 v7] V R := trx Tryz.func154 h
def w155 (v0 : Sl) (v1 : Value) : MR := fun V R =>
 TI 210 #[uL v0, K.cast .f v1] V fun v2 V1 =>
 R (rV (uB (decide (0 <= v2)))) V1
theorem x155 {v0 : Sl} {v1 : Value} (h : w155 v0 v1 V R) : TT 155 #[uL v0, K.cast .f v1] V R :=
 qBu Tryz.func155 [] [] false [uL v0, v1] (by kernel_rfl) (by kernel_rfl) h
def w156 (v0 : ByteArray) (v1 : Sl) : MR := fun V R =>
 TB 152 #[uS v0] V fun v2 V1 =>
 Br (v2 = true)
 (TB 153 #[uL v1, uI 12] V1 fun v3 V2 =>
 R (rV (uB (!v3))) V2)
 (R (rV (uB true)) V1)
theorem x156 {v0 : ByteArray} {v1 : Sl} (h : w156 v0 v1 V R) : TT 156 #[uA #[uS v0, uL v1]] V R := trx Tryz.func156 h
def w157 (v0 : Sl) (v1 : Value) : MR := fun V R =>
 TI 211 #[uL v0, K.cast .f v1] V fun v2 V1 =>
 R (rV (uB (decide (0 <= v2)))) V1
theorem x157 {v0 : Sl} {v1 : Value} (h : w157 v0 v1 V R) : TT 157 #[uL v0, K.cast .f v1] V R :=
 qBu Tryz.func157 [] [] false [uL v0, v1] (by kernel_rfl) (by kernel_rfl) h
def w158 (v0 : ByteArray) (v1 : Sl) (v2 : ByteArray) (v3 v4 : Sl) : MR := fun V R =>
 TB 159 #[uA #[uS v0, uL v1, uS v2, uL v3, uL v4]] V fun v5 V1 =>
 R (rV (uB (!v5))) V1
theorem x158 {v0 : ByteArray} {v1 : Sl} {v2 : ByteArray} {v3 v4 : Sl} (h : w158 v0 v1 v2 v3 v4 V R) : TT 158 #[uA #[uS v0, uL v1, uS v2, uL v3, uL v4]] V R := trx Tryz.func158 h
def w159 (v0 : ByteArray) (v1 : Sl) (v2 : ByteArray) (v3 v4 : Sl) : MR := fun V R =>
 TB 152 #[uS v0] V fun v5 V1 =>
 Br (v5 = true)
 (TB 153 #[uL v1, uI 6] V1 fun v6 V2 =>
 Br (v6 = true)
 (TB 153 #[uL v3, uI 12] V2 fun v7 V3 =>
 Br (v7 = true)
 (Br (v2 = (qAj []))
 (qAo [uI 200] 159 V3 fun v8 V4 =>
 TB 212 #[uL v4, uI 1, uP (qAa v8 0)] V4 fun v9 V5 =>
 R (rV (uB v9)) V5)
 (TB 206 #[uS v2] V3 fun v8 V4 =>
 Br (v8 = true)
 (qAo [uI 200] 159 V4 fun v9 V5 =>
 TB 212 #[uL v4, uI 1, uP (qAa v9 0)] V5 fun v10 V6 =>
 R (rV (uB v10)) V6)
 (R (rV (uB false)) V4)))
 (R (rV (uB false)) V3))
 (R (rV (uB false)) V2))
 (R (rV (uB false)) V1)
theorem x159 {v0 : ByteArray} {v1 : Sl} {v2 : ByteArray} {v3 v4 : Sl} (h : w159 v0 v1 v2 v3 v4 V R) : TT 159 #[uA #[uS v0, uL v1, uS v2, uL v3, uL v4]] V R := trx Tryz.func159 h
def w160 (v0 : Sl) : MR := fun V R =>
 qAo [uL v0] 22 V fun v1 V1 =>
 R (rV (.func (.func 213) #[] #[uP (qAa v1 0)])) V1
theorem x160 {v0 : Sl} (h : w160 v0 V R) : TT 160 #[uL v0] V R := trx Tryz.func160 h
def w161 (v0 : Sl) : MR := fun V R =>
 qAo [uL v0] 24 V fun v1 V1 =>
 R (rV (.func (.func 214) #[] #[uP (qAa v1 0)])) V1
theorem x161 {v0 : Sl} (h : w161 v0 V R) : TT 161 #[uL v0] V R := trx Tryz.func161 h
end
end Go.Proofs
