/- Part 7 of a proof of a law of this seat: no statement of the seat is proved here. -/
import Derived.Test.YtnoompnjibfbfaaGreatDoorPart05
set_option linter.unusedVariables false
set_option linter.unusedSimpArgs false
namespace Go.Proofs
open Go Go.Sx
set_option maxRecDepth 100000
set_option linter.unusedVariables false
/- heartwood/heartwoodref12.Right -/
def w83 (v0 : ByteArray) (v1 v2 v3 v4 v5 v6 v7 v8 v9 : Sl) (V : Mem) (R : RP) : Prop :=
 GenK Tryz.prog (.makeMap 150 none) 150 (gv []) V fun x V1 => ∃ v10, x = uM v10 ∧
 PubT [uS v0, uL v1, uL v2, uL v3, uL v4, uL v5, uL v6, uL v7, uL v8, uL v9, .slice none 0 0, uM v10, uI 0] 152 V1 fun v11 V2 =>
 TT 133 #[uP (ptrAdd v11 0), uL v2, uL v8] V2 fun e V3 => e = rT #[] ∧
 R (rV (uP (ptrAdd v11 0))) V3
theorem x83 {v0 : ByteArray} {v1 v2 v3 v4 v5 v6 v7 v8 v9 : Sl} {V : Mem} {R : RP} (h : w83 v0 v1 v2 v3 v4 v5 v6 v7 v8 v9 V R) : TT 83 #[uA #[uS v0, uL v1, uL v2, uL v3, uL v4, uL v5, uL v6, uL v7], uA #[uL v8, uL v9]] V R :=
 tri_dx Tryz.func83 [] [] false (by kernel_rfl) (by kernel_rfl) h
/- (*heartwood/invariant.machine).holds$1 -/
def w84 (v0 v1 v2 : Option Addr) (V : Mem) (R : RP) : Prop :=
 ∃ v3, V.rowp v0 ((0 : Int).toNat * 1) 1 = some [uP v3] ∧
 ¬ v1 = none ∧ ∃ v4 v5 v6 v7, V.rowp v1 ((2 : Int).toNat * 1) 4 = some [uI v4, uI v5, uS v6, uL v7] ∧
 ∃ v8, V.rowp v2 ((0 : Int).toNat * 1) 1 = some [uI v8] ∧
 TT 62 #[uP v3, uA #[uI v4, uI v5, uS v6, uL v7], uI v8] V fun e V1 => (∃ v9, e = rV (uI v9) ∧
 R (rV (uI v9)) V1) ∨ ∃ ch, e = .panicked ch ∧ R e V1
theorem x84 {v0 v1 v2 : Option Addr} {V : Mem} {R : RP} (h : w84 v0 v1 v2 V R) : TT 84 #[uP v0, uP v1, uP v2] V R :=
 tri_dx Tryz.func84 [] [] false (by kernel_rfl) (by kernel_rfl) h
/- slices.IndexFunc[[]heartwood/api.Expr,heartwood/api.Expr] -/
def w85 (v0 : Sl) (v1 : Value) (V : Mem) (R : RP) : Prop :=
 ∃ (I : Nat → List Value → Mem → Prop) (n0 : Nat), I n0 [uI 0, uI 0] V ∧ ∀ n V1, ∀ v2 v3, I n [uI v2, uI v3] V1 → ∀ J0 : List Value → Mem → Prop, (∀ m ys V'', m < n → I m ys V'' → J0 ys V'') →
 Br (v3 < (v0.n : Int))
 (¬ v0.p = none ∧ 0 ≤ v3 ∧ v3 < (v0.n : Int) ∧ ∃ v4 v5 v6 v7, V1.rowp v0.p (v3.toNat * 4) 4 = some [uI v4, uI v5, uS v6, uL v7] ∧
 ∃ f first caps, K.cast .f v1 = .func (.func f) first caps ∧ (∀ args w, (callFunc f args).run Tryz.prog w = .ok (.enter f args) w) ∧
 TT f (first ++ #[uA #[uI v4, uI v5, uS v6, uL v7]] ++ caps) V1 fun e V2 => ∃ v8, e = rV (uB v8) ∧
 Br (v8 = true)
 (R (rV (uI v3)) V2)
 (IR (v3 + 1) ∧ J0 [uI v2, uI (v3 + 1)] V2))
 (R (rV (uI (-1))) V1)
theorem x85 {v0 : Sl} {v1 : Value} {V : Mem} {R : RP} (h : w85 v0 v1 V R) : TT 85 #[uL v0, K.cast .f v1] V R :=
 tri_dr Tryz.func85 [] [] false [uL v0, v1] (by kernel_rfl) (by kernel_rfl) h
/- heartwood/ast.expr -/
def w86 (v0 v1 : Int) (v2 : ByteArray) (v3 : Sl) (v4 : Int) (v5 : Option Addr) (V : Mem) (R : RP) : Prop :=
 TT 134 #[uI v0] V fun e V1 => ∃ v6 v7, e = rT #[uI v6, uB v7] ∧
 TT 135 #[uP v5] V1 fun e V2 => ∃ v8, e = rV (uB v8) ∧
 Br (v8 = true)
 (Br (60 < v4)
 (R (rV (uB false)) V2)
 (Br (v7 = true)
 (TT 136 #[uA #[uI v0, uI v1, uS v2, uL v3]] V2 fun e V3 => ∃ v9, e = rV (uB v9) ∧
 Br (v9 = true)
 (Br (0 ≤ v6)
 (Br ((v3.n : Int) = v6)
 (Br (v6 < 0)
 (Br (6 < (v3.n : Int))
 (R (rV (uB false)) V3)
 (PubT [uI v4] 3 V3 fun v10 V4 =>
 PubT [uP v5] 157 V4 fun v11 V5 =>
 TT 57 #[uL v3, .func (.func 137) #[] #[uP (ptrAdd v10 0), uP (ptrAdd v11 0)]] V5 fun e V6 => ∃ v12, e = rV (uB v12) ∧
 R (rV (uB (!v12))) V6))
 (PubT [uI v4] 3 V3 fun v10 V4 =>
 PubT [uP v5] 157 V4 fun v11 V5 =>
 TT 57 #[uL v3, .func (.func 137) #[] #[uP (ptrAdd v10 0), uP (ptrAdd v11 0)]] V5 fun e V6 => ∃ v12, e = rV (uB v12) ∧
 R (rV (uB (!v12))) V6))
 (R (rV (uB false)) V3))
 (Br (v6 < 0)
 (Br (6 < (v3.n : Int))
 (R (rV (uB false)) V3)
 (PubT [uI v4] 3 V3 fun v10 V4 =>
 PubT [uP v5] 157 V4 fun v11 V5 =>
 TT 57 #[uL v3, .func (.func 137) #[] #[uP (ptrAdd v10 0), uP (ptrAdd v11 0)]] V5 fun e V6 => ∃ v12, e = rV (uB v12) ∧
 R (rV (uB (!v12))) V6))
 (PubT [uI v4] 3 V3 fun v10 V4 =>
 PubT [uP v5] 157 V4 fun v11 V5 =>
 TT 57 #[uL v3, .func (.func 137) #[] #[uP (ptrAdd v10 0), uP (ptrAdd v11 0)]] V5 fun e V6 => ∃ v12, e = rV (uB v12) ∧
 R (rV (uB (!v12))) V6)))
 (R (rV (uB false)) V3))
 (R (rV (uB false)) V2)))
 (R (rV (uB false)) V2)
theorem x86 {v0 v1 : Int} {v2 : ByteArray} {v3 : Sl} {v4 : Int} {v5 : Option Addr} {V : Mem} {R : RP} (h : w86 v0 v1 v2 v3 v4 v5 V R) : TT 86 #[uA #[uI v0, uI v1, uS v2, uL v3], uI v4, uP v5] V R :=
 tri_dx Tryz.func86 [] [] false (by kernel_rfl) (by kernel_rfl) h
/- heartwood/typecheck.well -/
def w88 (v0 : Option Addr) (v1 : ByteArray) (V : Mem) (R : RP) : Prop :=
 ¬ v0 = none ∧ ¬ v0 = none ∧ ∃ v2, V.rowp v0 ((8 : Int).toNat * 1) 1 = some [uM v2] ∧
 LookK Tryz.prog 207 (uM v2) (uS v1) true V fun x => ∃ v3 v4 v5, x = .tuple #[uA #[uS v3, uL v4], uB v5] ∧
 R (rV (uB v5)) V
theorem x88 {v0 : Option Addr} {v1 : ByteArray} {V : Mem} {R : RP} (h : w88 v0 v1 V R) : TT 88 #[uP v0, uS v1] V R :=
 tri_dx Tryz.func88 [] [] false (by kernel_rfl) (by kernel_rfl) h
/- (*heartwood/typecheck.checker).inFormula -/
def w89 (v0 : Option Addr) (v1 : ByteArray) (V : Mem) (R : RP) : Prop :=
 TT 138 #[uP v0, uB false, .slice none 0 0] V fun e V1 => ∃ v2 v3 v4, e = rV (uA #[uP v2, uM v3, uB v4]) ∧
 Br (v1 = (strB []))
 (R (rV (uA #[uP v2, uM v3, uB v4])) V1)
 (UpdK Tryz.prog 163 (uM v3) (.string ⟨#[116, 104, 105, 115]⟩) (uS v1) V1 fun V2 =>
 R (rV (uA #[uP v2, uM v3, uB v4])) V2)
theorem x89 {v0 : Option Addr} {v1 : ByteArray} {V : Mem} {R : RP} (h : w89 v0 v1 V R) : TT 89 #[uP v0, uS v1] V R :=
 tri_dx Tryz.func89 [] [] false (by kernel_rfl) (by kernel_rfl) h
/- (heartwood/typecheck.scope).expr -/
def w90 (v0 : Option Addr) (v1 : Option Nat) (v2 : Bool) (v3 v4 : Int) (v5 : ByteArray) (v6 : Sl) (V : Mem) (R : RP) : Prop :=
 Br (v3 = 7)
 (TT 139 #[uA #[uP v0, uM v1, uB v2], uA #[uI v3, uI v4, uS v5, uL v6]] V fun e V1 => ∃ v7 v8, e = rT #[uS v7, uI v8] ∧
 Br (v8 = 0)
 (Br (v7 = (strB []))
 (R (rT #[uS (strB []), uI 11]) V1)
 (R (rT #[uS v7, uI v8]) V1))
 (R (rT #[uS v7, uI v8]) V1))
 (∃ (I : Nat → List Value → Mem → Prop) (n0 : Nat), I n0 [uS (strB []), uI 0, .slice none 0 0, uI 0] V ∧ ∀ n V1, ∀ v7 v8 v9 v10, I n [uS v7, uI v8, uL v9, uI v10] V1 → ∀ J0 : List Value → Mem → Prop, (∀ m ys V'', m < n → I m ys V'' → J0 ys V'') →
 Br (v10 < (v6.n : Int))
 (¬ v6.p = none ∧ 0 ≤ v10 ∧ v10 < (v6.n : Int) ∧ ∃ v11 v12 v13 v14, V1.rowp v6.p (v10.toNat * 4) 4 = some [uI v11, uI v12, uS v13, uL v14] ∧
 TT 90 #[uA #[uP v0, uM v1, uB v2], uA #[uI v11, uI v12, uS v13, uL v14]] V1 fun e V2 => ∃ v15 v16, e = rT #[uS v15, uI v16] ∧
 Br (v16 = 0)
 (PubT [uS v15] 9 V2 fun v17 V3 =>
 GenK Tryz.prog (.call { callee := (.builtin .append), args := #[(.tmp 46), (.tmp 48)], argTypes := #[174, 174] }) 174 (gv [(46, uL v9), (48, .slice (ptrAdd v17 0) (1 : Int).toNat (1 : Int).toNat)]) V3 fun x V4 => ∃ v18, x = uL v18 ∧
 IR (v10 + 1) ∧ J0 [uS v7, uI v8, uL v18, uI (v10 + 1)] V4)
 (R (rT #[uS (strB []), uI v16]) V2))
 (TT 140 #[uA #[uP v0, uM v1, uB v2], uA #[uI v3, uI v4, uS v5, uL v6], uL v9] V1 fun e V2 => ∃ v11 v12, e = rT #[uS v11, uI v12] ∧
 R (rT #[uS v11, uI v12]) V2))
theorem x90 {v0 : Option Addr} {v1 : Option Nat} {v2 : Bool} {v3 v4 : Int} {v5 : ByteArray} {v6 : Sl} {V : Mem} {R : RP} (h : w90 v0 v1 v2 v3 v4 v5 v6 V R) : TT 90 #[uA #[uP v0, uM v1, uB v2], uA #[uI v3, uI v4, uS v5, uL v6]] V R :=
 tri_dx Tryz.func90 [] [] false (by kernel_rfl) (by kernel_rfl) h
/- (*heartwood/invariant.machine).expr$1 -/
def w91 (v0 : Int) (v1 v2 v3 : Option Addr) (V : Mem) (R : RP) : Prop :=
 ∃ v4, V.rowp v1 ((0 : Int).toNat * 1) 1 = some [uP v4] ∧
 ¬ v2 = none ∧ ∃ v5, V.rowp v2 ((3 : Int).toNat * 1) 1 = some [uL v5] ∧
 ¬ v5.p = none ∧ 0 ≤ v0 ∧ v0 < (v5.n : Int) ∧ ∃ v6 v7 v8 v9, V.rowp v5.p (v0.toNat * 4) 4 = some [uI v6, uI v7, uS v8, uL v9] ∧
 ∃ v10, V.rowp v3 ((0 : Int).toNat * 1) 1 = some [uI v10] ∧
 TT 62 #[uP v4, uA #[uI v6, uI v7, uS v8, uL v9], uI v10] V fun e V1 => (∃ v11, e = rV (uI v11) ∧
 R (rV (uI v11)) V1) ∨ ∃ ch, e = .panicked ch ∧ R e V1
theorem x91 {v0 : Int} {v1 v2 v3 : Option Addr} {V : Mem} {R : RP} (h : w91 v0 v1 v2 v3 V R) : TT 91 #[uI v0, uP v1, uP v2, uP v3] V R :=
 tri_dx Tryz.func91 [] [] false (by kernel_rfl) (by kernel_rfl) h
/- (*heartwood/invariant.machine).name -/
def w92 (v0 : Option Addr) (v1 : ByteArray) (v2 : Int) (V : Mem) (R : RP) : Prop :=
 Br (v1 = (strB [116, 104, 105, 115]))
 (R (rV (uI v2)) V)
 (¬ v0 = none ∧ ¬ v0 = none ∧ ¬ (ptrAdd v0 8) = none ∧ ∃ v3, V.rowp v0 ((8 : Int).toNat * 1) 1 = some [uL v3] ∧
 ¬ v0 = none ∧ ¬ v0 = none ∧ ¬ (ptrAdd v0 0) = none ∧ ∃ v4, V.rowp v0 ((2 : Int).toNat * 1) 1 = some [uL v4] ∧
 PubT [uS v1] 9 V fun v5 V1 =>
 TT 141 #[uL v4, .func (.func 142) #[] #[uP (ptrAdd v5 0)]] V1 fun e V2 => ∃ v6, e = rV (uI v6) ∧
 V2.rowp (ptrAdd v0 8) 0 1 = some [uL v3] ∧ ¬ (ptrAdd v0 8) = none ∧ ¬ v0 = none ∧ ¬ v0 = none ∧ ¬ v3.p = none ∧ 0 ≤ v6 ∧ v6 < (v3.n : Int) ∧ ∃ v7, V2.rowp v3.p (v6.toNat * 1) 1 = some [uI v7] ∧
 R (rV (uI v7)) V2)
theorem x92 {v0 : Option Addr} {v1 : ByteArray} {v2 : Int} {V : Mem} {R : RP} (h : w92 v0 v1 v2 V R) : TT 92 #[uP v0, uS v1, uI v2] V R :=
 tri_dx Tryz.func92 [] [] false (by kernel_rfl) (by kernel_rfl) h
/- (*heartwood/invariant.machine).field -/
def w93 (v0 : Option Addr) (v1 : Int) (v2 : ByteArray) (V : Mem) (R : RP) : Prop :=
 Br (v1 = 0)
 (GenK Tryz.prog (.makeInterface 133 (.tmp 12)) 20 (gv [(12, uA #[uI 17])]) V fun x V1 => ∃ v3, K.r.ok v3 ∧ x = v3 ∧
 ∃ t x, K.cast .r v3 = .iface t x ∧ R (.panicked [{ v := .iface t x, recovered := false }]) V1)
 (¬ v0 = none ∧ ¬ v0 = none ∧ ¬ (ptrAdd v0 8) = none ∧ ∃ v3, V.rowp v0 ((9 : Int).toNat * 1) 1 = some [uL v3] ∧
 IR (v1 - 1) ∧ ¬ v3.p = none ∧ 0 ≤ (v1 - 1) ∧ (v1 - 1) < (v3.n : Int) ∧ ∃ v4 v5, V.rowp v3.p ((v1 - 1).toNat * 2) 2 = some [uI v4, uL v5] ∧
 ¬ v0 = none ∧ ¬ v0 = none ∧ ¬ (ptrAdd v0 0) = none ∧ ∃ v6, V.rowp v0 ((1 : Int).toNat * 1) 1 = some [uL v6] ∧
 ¬ v6.p = none ∧ 0 ≤ v4 ∧ v4 < (v6.n : Int) ∧ ∃ v7 v8, V.rowp v6.p (v4.toNat * 2) 2 = some [uS v7, uL v8] ∧
 TT 143 #[uA #[uS v7, uL v8], uS v2] V fun e V1 => ∃ v9 v10, e = rT #[uI v9, uI v10] ∧
 ¬ v5.p = none ∧ 0 ≤ v9 ∧ v9 < (v5.n : Int) ∧ ∃ v11, V1.rowp v5.p (v9.toNat * 1) 1 = some [uI v11] ∧
 R (rV (uI v11)) V1)
theorem x93 {v0 : Option Addr} {v1 : Int} {v2 : ByteArray} {V : Mem} {R : RP} (h : w93 v0 v1 v2 V R) : TT 93 #[uP v0, uI v1, uS v2] V R :=
 tri_dx Tryz.func93 [] [] false (by kernel_rfl) (by kernel_rfl) h
/- heartwood/invariant.bounded -/
def w94 (v0 : Int) (V : Mem) (R : RP) : Prop :=
 Br (v0 < (-1099511627776))
 (GenK Tryz.prog (.makeInterface 133 (.tmp 9)) 20 (gv [(9, uA #[uI 5])]) V fun x V1 => ∃ v1, K.r.ok v1 ∧ x = v1 ∧
 ∃ t x, K.cast .r v1 = .iface t x ∧ R (.panicked [{ v := .iface t x, recovered := false }]) V1)
 (Br (1099511627776 < v0)
 (GenK Tryz.prog (.makeInterface 133 (.tmp 9)) 20 (gv [(9, uA #[uI 5])]) V fun x V1 => ∃ v1, K.r.ok v1 ∧ x = v1 ∧
 ∃ t x, K.cast .r v1 = .iface t x ∧ R (.panicked [{ v := .iface t x, recovered := false }]) V1)
 (R (rV (uI v0)) V))
theorem x94 {v0 : Int} {V : Mem} {R : RP} (h : w94 v0 V R) : TT 94 #[uI v0] V R :=
 tri_dx Tryz.func94 [] [] false (by kernel_rfl) (by kernel_rfl) h
/- math/bits.Len -/
def w95 (v0 : Int) (V : Mem) (R : RP) : Prop :=
 TT 145 #[.int .u64 v0] V fun e V1 => ∃ v1, e = rV (uI v1) ∧
 R (rV (uI v1)) V1
theorem x95 {v0 : Int} {V : Mem} {R : RP} (h : w95 v0 V R) : TT 95 #[.int .u64 v0] V R :=
 tri_dx Tryz.func95 [] [] false (by kernel_rfl) (by kernel_rfl) h
/- heartwood/invariant.two -/
def w96 (v0 v1 v2 : Int) (V : Mem) (R : RP) : Prop :=
 Br (v0 = 9)
 (IR (v1 + v2) ∧ TT 94 #[uI (v1 + v2)] V fun e V1 => (∃ v3, e = rV (uI v3) ∧
 R (rV (uI v3)) V1) ∨ ∃ ch, e = .panicked ch ∧ R e V1)
 (Br (v0 = 10)
 (IR (v1 - v2) ∧ TT 94 #[uI (v1 - v2)] V fun e V1 => (∃ v3, e = rV (uI v3) ∧
 R (rV (uI v3)) V1) ∨ ∃ ch, e = .panicked ch ∧ R e V1)
 (Br (v0 = 11)
 (TT 146 #[uI v1, uI v2] V fun e V1 => (∃ v3, e = rV (uI v3) ∧
 R (rV (uI v3)) V1) ∨ ∃ ch, e = .panicked ch ∧ R e V1)
 (Br (v0 = 22)
 (GenK Tryz.prog (.call { callee := (.builtin .max), args := #[(.tmp 27), (.tmp 28)], argTypes := #[3, 3] }) 3 (gv [(27, uI v1), (28, uI v2)]) V fun x V1 => ∃ v3, x = uI v3 ∧
 R (rV (uI v3)) V1)
 (Br (v0 = 23)
 (GenK Tryz.prog (.call { callee := (.builtin .min), args := #[(.tmp 32), (.tmp 33)], argTypes := #[3, 3] }) 3 (gv [(32, uI v1), (33, uI v2)]) V fun x V1 => ∃ v3, x = uI v3 ∧
 R (rV (uI v3)) V1)
 (Br (v0 = 14)
 (TT 147 #[uB (decide (v1 = v2))] V fun e V1 => ∃ v3, e = rV (uI v3) ∧
 R (rV (uI v3)) V1)
 (Br (v0 = 15)
 (TT 147 #[uB (!(decide (v1 = v2)))] V fun e V1 => ∃ v3, e = rV (uI v3) ∧
 R (rV (uI v3)) V1)
 (Br (v0 = 16)
 (TT 147 #[uB (decide (v1 < v2))] V fun e V1 => ∃ v3, e = rV (uI v3) ∧
 R (rV (uI v3)) V1)
 (Br (v0 = 17)
 (TT 147 #[uB (decide (v1 ≤ v2))] V fun e V1 => ∃ v3, e = rV (uI v3) ∧
 R (rV (uI v3)) V1)
 (Br (v2 = 0)
 (GenK Tryz.prog (.makeInterface 133 (.tmp 61)) 20 (gv [(61, uA #[uI 18])]) V fun x V1 => ∃ v3, K.r.ok v3 ∧ x = v3 ∧
 ∃ t x, K.cast .r v3 = .iface t x ∧ R (.panicked [{ v := .iface t x, recovered := false }]) V1)
 (Br (v0 = 12)
 (¬ v2 = 0 ∧ TT 94 #[uI (IntKind.wrap .i64 ((v1).tdiv v2))] V fun e V1 => (∃ v3, e = rV (uI v3) ∧
 R (rV (uI v3)) V1) ∨ ∃ ch, e = .panicked ch ∧ R e V1)
 (¬ v2 = 0 ∧ R (rV (uI ((v1).tmod v2))) V)))))))))))
theorem x96 {v0 v1 v2 : Int} {V : Mem} {R : RP} (h : w96 v0 v1 v2 V R) : TT 96 #[uI v0, uI v1, uI v2] V R :=
 tri_dx Tryz.func96 [] [] false (by kernel_rfl) (by kernel_rfl) h
/- heartwood/heartwoodref09.node -/
def w109 (v0 : ByteArray) (v1 v2 v3 v4 v5 v6 v7 : Sl) (V : Mem) (R : RP) : Prop :=
 TT 152 #[uS v0] V fun e V1 => ∃ v8, e = rV (uB v8) ∧
 Br (v8 = true)
 (Br (12 < (v1.n : Int))
 (R (rV (uB false)) V1)
 (TT 153 #[uL v2, uI 8] V1 fun e V2 => ∃ v9, e = rV (uB v9) ∧
 Br (v9 = true)
 (Br (40 < (v3.n : Int))
 (R (rV (uB false)) V2)
 (TT 154 #[uA #[uS v0, uL v1, uL v2, uL v3, uL v4, uL v5, uL v6, uL v7]] V2 fun e V3 => ∃ v10, e = rV (uB v10) ∧
 Br (v10 = true)
 (TT 155 #[uL v1, .func (.func 156) #[] #[]] V3 fun e V4 => ∃ v11, e = rV (uB v11) ∧
 Br (v11 = true)
 (R (rV (uB false)) V4)
 (TT 157 #[uL v3, .func (.func 158) #[] #[]] V4 fun e V5 => ∃ v12, e = rV (uB v12) ∧
 R (rV (uB (!v12))) V5))
 (R (rV (uB false)) V3)))
 (R (rV (uB false)) V2)))
 (R (rV (uB false)) V1)
theorem x109 {v0 : ByteArray} {v1 v2 v3 v4 v5 v6 v7 : Sl} {V : Mem} {R : RP} (h : w109 v0 v1 v2 v3 v4 v5 v6 v7 V R) : TT 109 #[uA #[uS v0, uL v1, uL v2, uL v3, uL v4, uL v5, uL v6, uL v7]] V R :=
 tri_dx Tryz.func109 [] [] false (by kernel_rfl) (by kernel_rfl) h
/- heartwood/heap.typesOf -/
def w112 (v0 : ByteArray) (v1 v2 v3 v4 v5 v6 v7 : Sl) (V : Mem) (R : RP) : Prop :=
 TT 109 #[uA #[uS v0, uL v1, uL v2, uL v3, uL v4, uL v5, uL v6, uL v7]] V fun e V1 => ∃ v8, e = rV (uB v8) ∧
 Br (v8 = true)
 (GenK Tryz.prog (.makeMap 197 none) 197 (gv []) V1 fun x V2 => ∃ v9, x = uM v9 ∧
 ∃ (I : Nat → List Value → Mem → Prop) (n0 : Nat), I n0 [uM none, uI 0] V2 ∧ ∀ n V3, ∀ v10 v11, I n [uM v10, uI v11] V3 → ∀ J0 : List Value → Mem → Prop, (∀ m ys V'', m < n → I m ys V'' → J0 ys V'') →
 Br (v11 < (v1.n : Int))
 (¬ v1.p = none ∧ 0 ≤ v11 ∧ v11 < (v1.n : Int) ∧ ∃ v12 v13, V3.rowp v1.p (v11.toNat * 2) 2 = some [uS v12, uL v13] ∧
 LookK Tryz.prog 197 (uM v9) (uS v12) true V3 fun x => ∃ v14 v15, x = .tuple #[uI v14, uB v15] ∧
 Br (v15 = true)
 (R (rV (uM none)) V3)
 (UpdK Tryz.prog 197 (uM v9) (uS v12) (uI v11) V3 fun V4 =>
 IR (v11 + 1) ∧ J0 [uM v10, uI (v11 + 1)] V4))
 (PubT [uM v9] 197 V3 fun v12 V4 =>
 TT 167 #[uL v2, uP (ptrAdd v12 0)] V4 fun e V5 => ∃ v13, e = rV (uB v13) ∧
 Br (v13 = true)
 (PubT [.func (.func 167) #[] #[uP (ptrAdd v12 0)]] 184 V5 fun v14 V6 =>
 TT 155 #[uL v1, .func (.func 172) #[] #[uP (ptrAdd v14 0)]] V6 fun e V7 => ∃ v15, e = rV (uB v15) ∧
 Br (v15 = true)
 (R (rV (uM none)) V7)
 (∃ v16, V7.rowp v12 ((0 : Int).toNat * 1) 1 = some [uM v16] ∧
 R (rV (uM v16)) V7))
 (R (rV (uM none)) V5)))
 (R (rV (uM none)) V1)
theorem x112 {v0 : ByteArray} {v1 v2 v3 v4 v5 v6 v7 : Sl} {V : Mem} {R : RP} (h : w112 v0 v1 v2 v3 v4 v5 v6 v7 V R) : TT 112 #[uA #[uS v0, uL v1, uL v2, uL v3, uL v4, uL v5, uL v6, uL v7]] V R :=
 tri_dx Tryz.func112 [] [] false (by kernel_rfl) (by kernel_rfl) h
/- (heartwood/heap.types).valid -/
def w113 (v0 : Option Nat) (v1 : ByteArray) (v2 v3 v4 v5 v6 v7 v8 v9 v10 : Sl) (V : Mem) (R : RP) : Prop :=
 Br (asM (uM v0) = none)
 (R (rV (uB false)) V)
 (Br (4096 < (v10.n : Int))
 (R (rV (uB false)) V)
 (PubT [uS v1, uL v2, uL v3, uL v4, uL v5, uL v6, uL v7, uL v8] 30 V fun v11 V1 =>
 TT 173 #[uL v10, .func (.func 174) #[] #[uP (ptrAdd v11 0)]] V1 fun e V2 => ∃ v12, e = rV (uB v12) ∧
 Br (v12 = true)
 (R (rV (uB false)) V2)
 (¬ (ptrAdd v11 0) = none ∧ ∃ v13, V2.rowp v11 ((2 : Int).toNat * 1) 1 = some [uL v13] ∧
 TT 175 #[uM v0, uA #[uL v9, uL v10], uL v13, uL v9] V2 fun e V3 => ∃ v14, e = rV (uB v14) ∧
 Br (v14 = true)
 (PubT [uM v0] 197 V3 fun v15 V4 =>
 PubT [uL v9, uL v10] 34 V4 fun v16 V5 =>
 TT 173 #[uL v10, .func (.func 176) #[] #[uP (ptrAdd v15 0), uP (ptrAdd v16 0), uP (ptrAdd v11 0)]] V5 fun e V6 => ∃ v17, e = rV (uB v17) ∧
 R (rV (uB (!v17))) V6)
 (R (rV (uB false)) V3))))
theorem x113 {v0 : Option Nat} {v1 : ByteArray} {v2 v3 v4 v5 v6 v7 v8 v9 v10 : Sl} {V : Mem} {R : RP} (h : w113 v0 v1 v2 v3 v4 v5 v6 v7 v8 v9 v10 V R) : TT 113 #[uM v0, uA #[uS v1, uL v2, uL v3, uL v4, uL v5, uL v6, uL v7, uL v8], uA #[uL v9, uL v10]] V R :=
 tri_dx Tryz.func113 [] [] false (by kernel_rfl) (by kernel_rfl) h
/- (*heartwood/heartwoodref16.machine).name -/
def w133 (v0 : Option Addr) (v1 v2 : Sl) (V : Mem) (R : RP) : Prop :=
 ∃ (I : Nat → List Value → Mem → Prop) (n0 : Nat), I n0 [uI 0] V ∧ ∀ n V1, ∀ v3, I n [uI v3] V1 → ∀ J0 : List Value → Mem → Prop, (∀ m ys V'', m < n → I m ys V'' → J0 ys V'') →
 Br (v3 < (v1.n : Int))
 (¬ v1.p = none ∧ 0 ≤ v3 ∧ v3 < (v1.n : Int) ∧ ∃ v4 v5, V1.rowp v1.p (v3.toNat * 2) 2 = some [uS v4, uS v5] ∧
 TT 170 #[uS v5] V1 fun e V2 => ∃ v6, e = rV (uB v6) ∧
 Br (v6 = true)
 (IR (v3 + 1) ∧ J0 [uI (v3 + 1)] V2)
 (¬ v2.p = none ∧ 0 ≤ v3 ∧ v3 < (v2.n : Int) ∧ ∃ v7, V2.rowp v2.p (v3.toNat * 1) 1 = some [uI v7] ∧
 Br (v7 = 0)
 (IR (v3 + 1) ∧ J0 [uI (v3 + 1)] V2)
 (¬ v2.p = none ∧ 0 ≤ v3 ∧ v3 < (v2.n : Int) ∧ ∃ v8, V2.rowp v2.p (v3.toNat * 1) 1 = some [uI v8] ∧
 TT 191 #[uP v0, uI v8] V2 fun e V3 => e = rT #[] ∧
 IR (v3 + 1) ∧ J0 [uI (v3 + 1)] V3)))
 (R (rT #[]) V1)
theorem x133 {v0 : Option Addr} {v1 v2 : Sl} {V : Mem} {R : RP} (h : w133 v0 v1 v2 V R) : TT 133 #[uP v0, uL v1, uL v2] V R :=
 tri_dx Tryz.func133 [] [] false (by kernel_rfl) (by kernel_rfl) h
/- heartwood/ast.parts -/
def w134 (v0 : Int) (V : Mem) (R : RP) : Prop :=
 Br (v0 = 1)
 (R (rT #[uI 0, uB true]) V)
 (Br (v0 = 2)
 (R (rT #[uI 0, uB true]) V)
 (Br (v0 = 3)
 (R (rT #[uI 0, uB true]) V)
 (Br (v0 = 4)
 (R (rT #[uI 0, uB true]) V)
 (Br (v0 = 6)
 (R (rT #[uI 0, uB true]) V)
 (Br (v0 = 7)
 (R (rT #[uI (-1), uB true]) V)
 (Br (v0 = 5)
 (R (rT #[uI 1, uB true]) V)
 (Br (v0 = 8)
 (R (rT #[uI 1, uB true]) V)
 (Br (v0 = 18)
 (R (rT #[uI 1, uB true]) V)
 (Br (v0 = 24)
 (R (rT #[uI 1, uB true]) V)
 (Br (v0 = 21)
 (R (rT #[uI 3, uB true]) V)
 (Br (9 ≤ v0)
 (R (rT #[uI 2, uB (decide (v0 ≤ 23))]) V)
 (R (rT #[uI 2, uB false]) V))))))))))))
theorem x134 {v0 : Int} {V : Mem} {R : RP} (h : w134 v0 V R) : TT 134 #[uI v0] V R :=
 tri_dx Tryz.func134 [] [] false (by kernel_rfl) (by kernel_rfl) h
/- (*heartwood/ast.counter).take -/
def w135 (v0 : Option Addr) (V : Mem) (R : RP) : Prop :=
 ¬ v0 = none ∧ ¬ v0 = none ∧ ∃ v1, V.rowp v0 ((0 : Int).toNat * 1) 1 = some [uI v1] ∧
 IR (v1 - 1) ∧ ¬ v0 = none ∧ ¬ v0 = none ∧ StT (ptrAdd v0 0) 0 [uI (v1 - 1)] V fun V1 =>
 ¬ v0 = none ∧ ¬ v0 = none ∧ ∃ v2, V1.rowp v0 ((0 : Int).toNat * 1) 1 = some [uI v2] ∧
 R (rV (uB (decide (0 ≤ v2)))) V1
theorem x135 {v0 : Option Addr} {V : Mem} {R : RP} (h : w135 v0 V R) : TT 135 #[uP v0] V R :=
 tri_dx Tryz.func135 [] [] false (by kernel_rfl) (by kernel_rfl) h
/- heartwood/ast.named -/
def w136 (v0 v1 : Int) (v2 : ByteArray) (v3 : Sl) (V : Mem) (R : RP) : Prop :=
 Br (v0 = 1)
 (Br (0 ≤ v1)
 (Br (v1 ≤ 1099511627776)
 (R (rV (uB (decide (v2 = (strB []))))) V)
 (R (rV (uB false)) V))
 (R (rV (uB false)) V))
 (Br (v0 = 2)
 (Br (v1 = 0)
 (R (rV (uB (decide (v2 = (strB []))))) V)
 (Br (v1 = 1)
 (R (rV (uB (decide (v2 = (strB []))))) V)
 (R (rV (uB false)) V)))
 (Br (v0 = 4)
 (Br (v1 = 0)
 (TT 152 #[uS v2] V fun e V1 => ∃ v4, e = rV (uB v4) ∧
 Br (v4 = true)
 (R (rV (uB true)) V1)
 (R (rV (uB (decide (v2 = (strB [116, 104, 105, 115]))))) V1))
 (R (rV (uB false)) V))
 (Br (v0 = 6)
 (Br (v1 = 0)
 (TT 152 #[uS v2] V fun e V1 => ∃ v4, e = rV (uB v4) ∧
 R (rV (uB v4)) V1)
 (R (rV (uB false)) V))
 (Br (v0 = 5)
 (Br (v1 = 0)
 (TT 152 #[uS v2] V fun e V1 => ∃ v4, e = rV (uB v4) ∧
 R (rV (uB v4)) V1)
 (R (rV (uB false)) V))
 (Br (v0 = 7)
 (Br (v1 = 0)
 (TT 152 #[uS v2] V fun e V1 => ∃ v4, e = rV (uB v4) ∧
 R (rV (uB v4)) V1)
 (R (rV (uB false)) V))
 (Br (v1 = 0)
 (R (rV (uB (decide (v2 = (strB []))))) V)
 (R (rV (uB false)) V)))))))
theorem x136 {v0 v1 : Int} {v2 : ByteArray} {v3 : Sl} {V : Mem} {R : RP} (h : w136 v0 v1 v2 v3 V R) : TT 136 #[uA #[uI v0, uI v1, uS v2, uL v3]] V R :=
 tri_dx Tryz.func136 [] [] false (by kernel_rfl) (by kernel_rfl) h
/- heartwood/ast.expr$1 -/
def w137 (v0 v1 : Int) (v2 : ByteArray) (v3 : Sl) (v4 v5 : Option Addr) (V : Mem) (R : RP) : Prop :=
 ∃ v6, V.rowp v4 ((0 : Int).toNat * 1) 1 = some [uI v6] ∧
 IR (v6 + 1) ∧ ∃ v7, V.rowp v5 ((0 : Int).toNat * 1) 1 = some [uP v7] ∧
 TT 86 #[uA #[uI v0, uI v1, uS v2, uL v3], uI (v6 + 1), uP v7] V fun e V1 => ∃ v8, e = rV (uB v8) ∧
 R (rV (uB (!v8))) V1
theorem x137 {v0 v1 : Int} {v2 : ByteArray} {v3 : Sl} {v4 v5 : Option Addr} {V : Mem} {R : RP} (h : w137 v0 v1 v2 v3 v4 v5 V R) : TT 137 #[uA #[uI v0, uI v1, uS v2, uL v3], uP v4, uP v5] V R :=
 tri_dx Tryz.func137 [] [] false (by kernel_rfl) (by kernel_rfl) h
/- (heartwood/typecheck.scope).call -/
def w139 (v0 : Option Addr) (v1 : Option Nat) (v2 : Bool) (v3 v4 : Int) (v5 : ByteArray) (v6 : Sl) (V : Mem) (R : RP) : Prop :=
 ∃ (I : Nat → List Value → Mem → Prop) (n0 : Nat), I n0 [uS (strB []), uI 0, .slice none 0 0, uI 0] V ∧ ∀ n V1, ∀ v7 v8 v9 v10, I n [uS v7, uI v8, uL v9, uI v10] V1 → ∀ J0 : List Value → Mem → Prop, (∀ m ys V'', m < n → I m ys V'' → J0 ys V'') →
 Br (v10 < (v6.n : Int))
 (¬ v6.p = none ∧ 0 ≤ v10 ∧ v10 < (v6.n : Int) ∧ ∃ v11 v12 v13 v14, V1.rowp v6.p (v10.toNat * 4) 4 = some [uI v11, uI v12, uS v13, uL v14] ∧
 TT 90 #[uA #[uP v0, uM v1, uB v2], uA #[uI v11, uI v12, uS v13, uL v14]] V1 fun e V2 => ∃ v15 v16, e = rT #[uS v15, uI v16] ∧
 Br (v16 = 0)
 (PubT [uS v15] 9 V2 fun v17 V3 =>
 GenK Tryz.prog (.call { callee := (.builtin .append), args := #[(.tmp 31), (.tmp 33)], argTypes := #[174, 174] }) 174 (gv [(31, uL v9), (33, .slice (ptrAdd v17 0) (1 : Int).toNat (1 : Int).toNat)]) V3 fun x V4 => ∃ v18, x = uL v18 ∧
 IR (v10 + 1) ∧ J0 [uS v7, uI v8, uL v18, uI (v10 + 1)] V4)
 (R (rT #[uS (strB []), uI v16]) V2))
 (Br (v2 = true)
 (¬ v0 = none ∧ ¬ v0 = none ∧ ∃ v11, V1.rowp v0 ((9 : Int).toNat * 1) 1 = some [uM v11] ∧
 LookK Tryz.prog 208 (uM v11) (uS v5) true V1 fun x => ∃ v12 v13 v14 v15 v16 v17, x = .tuple #[uA #[uS v12, uL v13, uS v14, uL v15, uL v16], uB v17] ∧
 Br (v17 = true)
 (Br ((v9.n : Int) = (v13.n : Int))
 (∃ (I : Nat → List Value → Mem → Prop) (n0 : Nat), I n0 [uS v7, uI v8, uI 0] V1 ∧ ∀ n V2, ∀ v18 v19 v20, I n [uS v18, uI v19, uI v20] V2 → ∀ J1 : List Value → Mem → Prop, (∀ m ys V'', m < n → I m ys V'' → J1 ys V'') →
 Br (v20 < (v9.n : Int))
 (¬ v9.p = none ∧ 0 ≤ v20 ∧ v20 < (v9.n : Int) ∧ ∃ v21, V2.rowp v9.p (v20.toNat * 1) 1 = some [uS v21] ∧
 ¬ v13.p = none ∧ 0 ≤ v20 ∧ v20 < (v13.n : Int) ∧ ¬ (ptrAdd v13.p (v20.toNat * 2)) = none ∧ ∃ v22 v23, V2.rowp v13.p (v20.toNat * 2) 2 = some [uS v22, uS v23] ∧
 TT 194 #[uP v0, uS v21, uS v23] V2 fun e V3 => ∃ v24, e = rV (uB v24) ∧
 Br (v24 = true)
 (IR (v20 + 1) ∧ J1 [uS v18, uI v19, uI (v20 + 1)] V3)
 (R (rT #[uS (strB []), uI 11]) V3))
 (R (rT #[uS v14, uI 0]) V2))
 (R (rT #[uS (strB []), uI 3]) V1))
 (R (rT #[uS (strB []), uI 9]) V1))
 (TT 193 #[uA #[uP v0, uM v1, uB v2], uS v5, uL v9] V1 fun e V2 => ∃ v11 v12, e = rT #[uS v11, uI v12] ∧
 R (rT #[uS v11, uI v12]) V2))
theorem x139 {v0 : Option Addr} {v1 : Option Nat} {v2 : Bool} {v3 v4 : Int} {v5 : ByteArray} {v6 : Sl} {V : Mem} {R : RP} (h : w139 v0 v1 v2 v3 v4 v5 v6 V R) : TT 139 #[uA #[uP v0, uM v1, uB v2], uA #[uI v3, uI v4, uS v5, uL v6]] V R :=
 tri_dx Tryz.func139 [] [] false (by kernel_rfl) (by kernel_rfl) h
/- (heartwood/typecheck.scope).node1 -/
def w140 (v0 : Option Addr) (v1 : Option Nat) (v2 : Bool) (v3 v4 : Int) (v5 : ByteArray) (v6 v7 : Sl) (V : Mem) (R : RP) : Prop :=
 Br (v3 = 1)
 (R (rT #[uS (strB [105, 110, 116]), uI 0]) V)
 (Br (v3 = 2)
 (R (rT #[uS (strB [98, 111, 111, 108]), uI 0]) V)
 (Br (v3 = 3)
 (R (rT #[uS (strB [110, 105, 108]), uI 0]) V)
 (Br (v3 = 4)
 (LookK Tryz.prog 163 (uM v1) (uS v5) true V fun x => ∃ v8 v9, x = .tuple #[uS v8, uB v9] ∧
 Br (v9 = true)
 (R (rT #[uS v8, uI 0]) V)
 (R (rT #[uS (strB []), uI 9]) V))
 (Br (v3 = 5)
 (¬ v7.p = none ∧ (0 : Int) ≤ (0 : Int) ∧ 0 < (v7.n : Int) ∧ ∃ v8, V.rowp v7.p ((0 : Int).toNat * 1) 1 = some [uS v8] ∧
 TT 198 #[uP v0, uS v8, uS v5] V fun e V1 => ∃ v9 v10, e = rT #[uS v9, uI v10] ∧
 R (rT #[uS v9, uI v10]) V1)
 (Br (v3 = 6)
 (Br (v2 = true)
 (TT 88 #[uP v0, uS v5] V fun e V1 => ∃ v8, e = rV (uB v8) ∧
 Br (v8 = true)
 (R (rT #[uS v5, uI 0]) V1)
 (R (rT #[uS (strB []), uI 9]) V1))
 (R (rT #[uS (strB []), uI 13]) V))
 (Br (v3 = 14)
 (¬ v7.p = none ∧ (0 : Int) ≤ (0 : Int) ∧ 0 < (v7.n : Int) ∧ ∃ v8, V.rowp v7.p ((0 : Int).toNat * 1) 1 = some [uS v8] ∧
 ¬ v7.p = none ∧ (0 : Int) ≤ (1 : Int) ∧ 1 < (v7.n : Int) ∧ ∃ v9, V.rowp v7.p ((1 : Int).toNat * 1) 1 = some [uS v9] ∧
 TT 194 #[uP v0, uS v8, uS v9] V fun e V1 => ∃ v10, e = rV (uB v10) ∧
 Br (v10 = true)
 (R (rT #[uS (strB [98, 111, 111, 108]), uI 0]) V1)
 (¬ v7.p = none ∧ (0 : Int) ≤ (1 : Int) ∧ 1 < (v7.n : Int) ∧ ∃ v11, V1.rowp v7.p ((1 : Int).toNat * 1) 1 = some [uS v11] ∧
 ¬ v7.p = none ∧ (0 : Int) ≤ (0 : Int) ∧ 0 < (v7.n : Int) ∧ ∃ v12, V1.rowp v7.p ((0 : Int).toNat * 1) 1 = some [uS v12] ∧
 TT 194 #[uP v0, uS v11, uS v12] V1 fun e V2 => ∃ v13, e = rV (uB v13) ∧
 Br (v13 = true)
 (R (rT #[uS (strB [98, 111, 111, 108]), uI 0]) V2)
 (R (rT #[uS (strB []), uI 11]) V2)))
 (Br (v3 = 15)
 (¬ v7.p = none ∧ (0 : Int) ≤ (0 : Int) ∧ 0 < (v7.n : Int) ∧ ∃ v8, V.rowp v7.p ((0 : Int).toNat * 1) 1 = some [uS v8] ∧
 ¬ v7.p = none ∧ (0 : Int) ≤ (1 : Int) ∧ 1 < (v7.n : Int) ∧ ∃ v9, V.rowp v7.p ((1 : Int).toNat * 1) 1 = some [uS v9] ∧
 TT 194 #[uP v0, uS v8, uS v9] V fun e V1 => ∃ v10, e = rV (uB v10) ∧
 Br (v10 = true)
 (R (rT #[uS (strB [98, 111, 111, 108]), uI 0]) V1)
 (¬ v7.p = none ∧ (0 : Int) ≤ (1 : Int) ∧ 1 < (v7.n : Int) ∧ ∃ v11, V1.rowp v7.p ((1 : Int).toNat * 1) 1 = some [uS v11] ∧
 ¬ v7.p = none ∧ (0 : Int) ≤ (0 : Int) ∧ 0 < (v7.n : Int) ∧ ∃ v12, V1.rowp v7.p ((0 : Int).toNat * 1) 1 = some [uS v12] ∧
 TT 194 #[uP v0, uS v11, uS v12] V1 fun e V2 => ∃ v13, e = rV (uB v13) ∧
 Br (v13 = true)
 (R (rT #[uS (strB [98, 111, 111, 108]), uI 0]) V2)
 (R (rT #[uS (strB []), uI 11]) V2)))
 (Br (v3 = 16)
 (PubT [uL v7] 174 V fun v8 V1 =>
 TT 195 #[uS (strB [105, 110, 116]), uS (strB [98, 111, 111, 108]), uP (ptrAdd v8 0)] V1 fun e V2 => ∃ v9 v10, e = rT #[uS v9, uI v10] ∧
 R (rT #[uS v9, uI v10]) V2)
 (Br (v3 = 17)
 (PubT [uL v7] 174 V fun v8 V1 =>
 TT 195 #[uS (strB [105, 110, 116]), uS (strB [98, 111, 111, 108]), uP (ptrAdd v8 0)] V1 fun e V2 => ∃ v9 v10, e = rT #[uS v9, uI v10] ∧
 R (rT #[uS v9, uI v10]) V2)
 (Br (v3 = 18)
 (PubT [uL v7] 174 V fun v8 V1 =>
 TT 195 #[uS (strB [98, 111, 111, 108]), uS (strB [98, 111, 111, 108]), uP (ptrAdd v8 0)] V1 fun e V2 => ∃ v9 v10, e = rT #[uS v9, uI v10] ∧
 R (rT #[uS v9, uI v10]) V2)
 (Br (v3 = 19)
 (PubT [uL v7] 174 V fun v8 V1 =>
 TT 195 #[uS (strB [98, 111, 111, 108]), uS (strB [98, 111, 111, 108]), uP (ptrAdd v8 0)] V1 fun e V2 => ∃ v9 v10, e = rT #[uS v9, uI v10] ∧
 R (rT #[uS v9, uI v10]) V2)
 (Br (v3 = 20)
 (PubT [uL v7] 174 V fun v8 V1 =>
 TT 195 #[uS (strB [98, 111, 111, 108]), uS (strB [98, 111, 111, 108]), uP (ptrAdd v8 0)] V1 fun e V2 => ∃ v9 v10, e = rT #[uS v9, uI v10] ∧
 R (rT #[uS v9, uI v10]) V2)
 (Br (v3 = 21)
 (¬ v7.p = none ∧ (0 : Int) ≤ (0 : Int) ∧ 0 < (v7.n : Int) ∧ ∃ v8, V.rowp v7.p ((0 : Int).toNat * 1) 1 = some [uS v8] ∧
 Br (v8 = (strB [98, 111, 111, 108]))
 (¬ v7.p = none ∧ (0 : Int) ≤ (1 : Int) ∧ 1 < (v7.n : Int) ∧ ∃ v9, V.rowp v7.p ((1 : Int).toNat * 1) 1 = some [uS v9] ∧
 ¬ v7.p = none ∧ (0 : Int) ≤ (2 : Int) ∧ 2 < (v7.n : Int) ∧ ∃ v10, V.rowp v7.p ((2 : Int).toNat * 1) 1 = some [uS v10] ∧
 TT 194 #[uP v0, uS v9, uS v10] V fun e V1 => ∃ v11, e = rV (uB v11) ∧
 Br (v11 = true)
 (¬ v7.p = none ∧ (0 : Int) ≤ (2 : Int) ∧ 2 < (v7.n : Int) ∧ ∃ v12, V1.rowp v7.p ((2 : Int).toNat * 1) 1 = some [uS v12] ∧
 R (rT #[uS v12, uI 0]) V1)
 (¬ v7.p = none ∧ (0 : Int) ≤ (2 : Int) ∧ 2 < (v7.n : Int) ∧ ∃ v12, V1.rowp v7.p ((2 : Int).toNat * 1) 1 = some [uS v12] ∧
 ¬ v7.p = none ∧ (0 : Int) ≤ (1 : Int) ∧ 1 < (v7.n : Int) ∧ ∃ v13, V1.rowp v7.p ((1 : Int).toNat * 1) 1 = some [uS v13] ∧
 TT 194 #[uP v0, uS v12, uS v13] V1 fun e V2 => ∃ v14, e = rV (uB v14) ∧
 Br (v14 = true)
 (¬ v7.p = none ∧ (0 : Int) ≤ (1 : Int) ∧ 1 < (v7.n : Int) ∧ ∃ v15, V2.rowp v7.p ((1 : Int).toNat * 1) 1 = some [uS v15] ∧
 R (rT #[uS v15, uI 0]) V2)
 (R (rT #[uS (strB []), uI 11]) V2)))
 (R (rT #[uS (strB []), uI 11]) V))
 (PubT [uL v7] 174 V fun v8 V1 =>
 TT 195 #[uS (strB [105, 110, 116]), uS (strB [105, 110, 116]), uP (ptrAdd v8 0)] V1 fun e V2 => ∃ v9 v10, e = rT #[uS v9, uI v10] ∧
 R (rT #[uS v9, uI v10]) V2))))))))))))))
theorem x140 {v0 : Option Addr} {v1 : Option Nat} {v2 : Bool} {v3 v4 : Int} {v5 : ByteArray} {v6 v7 : Sl} {V : Mem} {R : RP} (h : w140 v0 v1 v2 v3 v4 v5 v6 v7 V R) : TT 140 #[uA #[uP v0, uM v1, uB v2], uA #[uI v3, uI v4, uS v5, uL v6], uL v7] V R :=
 tri_dx Tryz.func140 [] [] false (by kernel_rfl) (by kernel_rfl) h
/- slices.IndexFunc[[]heartwood/api.Field,heartwood/api.Field] -/
def w141 (v0 : Sl) (v1 : Value) (V : Mem) (R : RP) : Prop :=
 ∃ (I : Nat → List Value → Mem → Prop) (n0 : Nat), I n0 [uI 0, uI 0] V ∧ ∀ n V1, ∀ v2 v3, I n [uI v2, uI v3] V1 → ∀ J0 : List Value → Mem → Prop, (∀ m ys V'', m < n → I m ys V'' → J0 ys V'') →
 Br (v3 < (v0.n : Int))
 (¬ v0.p = none ∧ 0 ≤ v3 ∧ v3 < (v0.n : Int) ∧ ∃ v4 v5, V1.rowp v0.p (v3.toNat * 2) 2 = some [uS v4, uS v5] ∧
 ∃ f first caps, K.cast .f v1 = .func (.func f) first caps ∧ (∀ args w, (callFunc f args).run Tryz.prog w = .ok (.enter f args) w) ∧
 TT f (first ++ #[uA #[uS v4, uS v5]] ++ caps) V1 fun e V2 => ∃ v6, e = rV (uB v6) ∧
 Br (v6 = true)
 (R (rV (uI v3)) V2)
 (IR (v3 + 1) ∧ J0 [uI v2, uI (v3 + 1)] V2))
 (R (rV (uI (-1))) V1)
theorem x141 {v0 : Sl} {v1 : Value} {V : Mem} {R : RP} (h : w141 v0 v1 V R) : TT 141 #[uL v0, K.cast .f v1] V R :=
 tri_dr Tryz.func141 [] [] false [uL v0, v1] (by kernel_rfl) (by kernel_rfl) h
/- (*heartwood/invariant.machine).name$1 -/
def w142 (v0 v1 : ByteArray) (v2 : Option Addr) (V : Mem) (R : RP) : Prop :=
 ∃ v3, V.rowp v2 ((0 : Int).toNat * 1) 1 = some [uS v3] ∧
 R (rV (uB (decide (v0 = v3)))) V
theorem x142 {v0 v1 : ByteArray} {v2 : Option Addr} {V : Mem} {R : RP} (h : w142 v0 v1 v2 V R) : TT 142 #[uA #[uS v0, uS v1], uP v2] V R :=
 tri_dx Tryz.func142 [] [] false (by kernel_rfl) (by kernel_rfl) h
/- heartwood/ast.FieldIndex -/
def w143 (v0 : ByteArray) (v1 : Sl) (v2 : ByteArray) (V : Mem) (R : RP) : Prop :=
 PubT [uS v2] 9 V fun v3 V1 =>
 TT 141 #[uL v1, .func (.func 200) #[] #[uP (ptrAdd v3 0)]] V1 fun e V2 => ∃ v4, e = rV (uI v4) ∧
 TT 199 #[uI v4] V2 fun e V3 => ∃ v5 v6, e = rT #[uI v5, uI v6] ∧
 R (rT #[uI v5, uI v6]) V3
theorem x143 {v0 : ByteArray} {v1 : Sl} {v2 : ByteArray} {V : Mem} {R : RP} (h : w143 v0 v1 v2 V R) : TT 143 #[uA #[uS v0, uL v1], uS v2] V R :=
 tri_dx Tryz.func143 [] [] false (by kernel_rfl) (by kernel_rfl) h
/- math/bits.Len32 -/
def w145 (v0 : Int) (V : Mem) (R : RP) : Prop :=
 Br (4294967296 ≤ v0)
 (GenK Tryz.prog (.binOp .shr 219 (.tmp 5) (.const (.int .u64 32)) 172) 219 (gv [(5, .int .u64 v0)]) V fun x V1 => ∃ v1, x = .int .u64 v1 ∧
 Br (65536 ≤ v1)
 (GenK Tryz.prog (.binOp .shr 219 (.tmp 9) (.const (.int .u64 16)) 172) 219 (gv [(9, .int .u64 v1)]) V1 fun x V2 => ∃ v2, x = .int .u64 v2 ∧
 IR ((32 : Int) + (16 : Int)) ∧ Br (256 ≤ v2)
 (GenK Tryz.prog (.binOp .shr 219 (.tmp 15) (.const (.int .u64 8)) 172) 219 (gv [(15, .int .u64 v2)]) V2 fun x V3 => ∃ v3, x = .int .u64 v3 ∧
 IR (((32 : Int) + (16 : Int)) + 8) ∧ K.inR .u8 v3 ∧ (0 ≤ v3 ∧ v3 < ((strB [0, 1, 2, 2, 3, 3, 3, 3, 4, 4, 4, 4, 4, 4, 4, 4, 5, 5, 5, 5, 5, 5, 5, 5, 5, 5, 5, 5, 5, 5, 5, 5, 6, 6, 6, 6, 6, 6, 6, 6, 6, 6, 6, 6, 6, 6, 6, 6, 6, 6, 6, 6, 6, 6, 6, 6, 6, 6, 6, 6, 6, 6, 6, 6, 7, 7, 7, 7, 7, 7, 7, 7, 7, 7, 7, 7, 7, 7, 7, 7, 7, 7, 7, 7, 7, 7, 7, 7, 7, 7, 7, 7, 7, 7, 7, 7, 7, 7, 7, 7, 7, 7, 7, 7, 7, 7, 7, 7, 7, 7, 7, 7, 7, 7, 7, 7, 7, 7, 7, 7, 7, 7, 7, 7, 7, 7, 7, 7, 8, 8, 8, 8, 8, 8, 8, 8, 8, 8, 8, 8, 8, 8, 8, 8, 8, 8, 8, 8, 8, 8, 8, 8, 8, 8, 8, 8, 8, 8, 8, 8, 8, 8, 8, 8, 8, 8, 8, 8, 8, 8, 8, 8, 8, 8, 8, 8, 8, 8, 8, 8, 8, 8, 8, 8, 8, 8, 8, 8, 8, 8, 8, 8, 8, 8, 8, 8, 8, 8, 8, 8, 8, 8, 8, 8, 8, 8, 8, 8, 8, 8, 8, 8, 8, 8, 8, 8, 8, 8, 8, 8, 8, 8, 8, 8, 8, 8, 8, 8, 8, 8, 8, 8, 8, 8, 8, 8, 8, 8, 8, 8, 8, 8, 8, 8, 8, 8, 8, 8, 8, 8, 8, 8, 8, 8, 8, 8]).size : Int)) ∧ IR (sbyte (strB [0, 1, 2, 2, 3, 3, 3, 3, 4, 4, 4, 4, 4, 4, 4, 4, 5, 5, 5, 5, 5, 5, 5, 5, 5, 5, 5, 5, 5, 5, 5, 5, 6, 6, 6, 6, 6, 6, 6, 6, 6, 6, 6, 6, 6, 6, 6, 6, 6, 6, 6, 6, 6, 6, 6, 6, 6, 6, 6, 6, 6, 6, 6, 6, 7, 7, 7, 7, 7, 7, 7, 7, 7, 7, 7, 7, 7, 7, 7, 7, 7, 7, 7, 7, 7, 7, 7, 7, 7, 7, 7, 7, 7, 7, 7, 7, 7, 7, 7, 7, 7, 7, 7, 7, 7, 7, 7, 7, 7, 7, 7, 7, 7, 7, 7, 7, 7, 7, 7, 7, 7, 7, 7, 7, 7, 7, 7, 7, 8, 8, 8, 8, 8, 8, 8, 8, 8, 8, 8, 8, 8, 8, 8, 8, 8, 8, 8, 8, 8, 8, 8, 8, 8, 8, 8, 8, 8, 8, 8, 8, 8, 8, 8, 8, 8, 8, 8, 8, 8, 8, 8, 8, 8, 8, 8, 8, 8, 8, 8, 8, 8, 8, 8, 8, 8, 8, 8, 8, 8, 8, 8, 8, 8, 8, 8, 8, 8, 8, 8, 8, 8, 8, 8, 8, 8, 8, 8, 8, 8, 8, 8, 8, 8, 8, 8, 8, 8, 8, 8, 8, 8, 8, 8, 8, 8, 8, 8, 8, 8, 8, 8, 8, 8, 8, 8, 8, 8, 8, 8, 8, 8, 8, 8, 8, 8, 8, 8, 8, 8, 8, 8, 8, 8, 8, 8, 8]) v3) ∧ IR ((((32 : Int) + (16 : Int)) + 8) + (sbyte (strB [0, 1, 2, 2, 3, 3, 3, 3, 4, 4, 4, 4, 4, 4, 4, 4, 5, 5, 5, 5, 5, 5, 5, 5, 5, 5, 5, 5, 5, 5, 5, 5, 6, 6, 6, 6, 6, 6, 6, 6, 6, 6, 6, 6, 6, 6, 6, 6, 6, 6, 6, 6, 6, 6, 6, 6, 6, 6, 6, 6, 6, 6, 6, 6, 7, 7, 7, 7, 7, 7, 7, 7, 7, 7, 7, 7, 7, 7, 7, 7, 7, 7, 7, 7, 7, 7, 7, 7, 7, 7, 7, 7, 7, 7, 7, 7, 7, 7, 7, 7, 7, 7, 7, 7, 7, 7, 7, 7, 7, 7, 7, 7, 7, 7, 7, 7, 7, 7, 7, 7, 7, 7, 7, 7, 7, 7, 7, 7, 8, 8, 8, 8, 8, 8, 8, 8, 8, 8, 8, 8, 8, 8, 8, 8, 8, 8, 8, 8, 8, 8, 8, 8, 8, 8, 8, 8, 8, 8, 8, 8, 8, 8, 8, 8, 8, 8, 8, 8, 8, 8, 8, 8, 8, 8, 8, 8, 8, 8, 8, 8, 8, 8, 8, 8, 8, 8, 8, 8, 8, 8, 8, 8, 8, 8, 8, 8, 8, 8, 8, 8, 8, 8, 8, 8, 8, 8, 8, 8, 8, 8, 8, 8, 8, 8, 8, 8, 8, 8, 8, 8, 8, 8, 8, 8, 8, 8, 8, 8, 8, 8, 8, 8, 8, 8, 8, 8, 8, 8, 8, 8, 8, 8, 8, 8, 8, 8, 8, 8, 8, 8, 8, 8, 8, 8, 8, 8]) v3)) ∧ R (rV (uI ((((32 : Int) + (16 : Int)) + 8) + (sbyte (strB [0, 1, 2, 2, 3, 3, 3, 3, 4, 4, 4, 4, 4, 4, 4, 4, 5, 5, 5, 5, 5, 5, 5, 5, 5, 5, 5, 5, 5, 5, 5, 5, 6, 6, 6, 6, 6, 6, 6, 6, 6, 6, 6, 6, 6, 6, 6, 6, 6, 6, 6, 6, 6, 6, 6, 6, 6, 6, 6, 6, 6, 6, 6, 6, 7, 7, 7, 7, 7, 7, 7, 7, 7, 7, 7, 7, 7, 7, 7, 7, 7, 7, 7, 7, 7, 7, 7, 7, 7, 7, 7, 7, 7, 7, 7, 7, 7, 7, 7, 7, 7, 7, 7, 7, 7, 7, 7, 7, 7, 7, 7, 7, 7, 7, 7, 7, 7, 7, 7, 7, 7, 7, 7, 7, 7, 7, 7, 7, 8, 8, 8, 8, 8, 8, 8, 8, 8, 8, 8, 8, 8, 8, 8, 8, 8, 8, 8, 8, 8, 8, 8, 8, 8, 8, 8, 8, 8, 8, 8, 8, 8, 8, 8, 8, 8, 8, 8, 8, 8, 8, 8, 8, 8, 8, 8, 8, 8, 8, 8, 8, 8, 8, 8, 8, 8, 8, 8, 8, 8, 8, 8, 8, 8, 8, 8, 8, 8, 8, 8, 8, 8, 8, 8, 8, 8, 8, 8, 8, 8, 8, 8, 8, 8, 8, 8, 8, 8, 8, 8, 8, 8, 8, 8, 8, 8, 8, 8, 8, 8, 8, 8, 8, 8, 8, 8, 8, 8, 8, 8, 8, 8, 8, 8, 8, 8, 8, 8, 8, 8, 8, 8, 8, 8, 8, 8, 8]) v3)))) V3)
 (K.inR .u8 v2 ∧ (0 ≤ v2 ∧ v2 < ((strB [0, 1, 2, 2, 3, 3, 3, 3, 4, 4, 4, 4, 4, 4, 4, 4, 5, 5, 5, 5, 5, 5, 5, 5, 5, 5, 5, 5, 5, 5, 5, 5, 6, 6, 6, 6, 6, 6, 6, 6, 6, 6, 6, 6, 6, 6, 6, 6, 6, 6, 6, 6, 6, 6, 6, 6, 6, 6, 6, 6, 6, 6, 6, 6, 7, 7, 7, 7, 7, 7, 7, 7, 7, 7, 7, 7, 7, 7, 7, 7, 7, 7, 7, 7, 7, 7, 7, 7, 7, 7, 7, 7, 7, 7, 7, 7, 7, 7, 7, 7, 7, 7, 7, 7, 7, 7, 7, 7, 7, 7, 7, 7, 7, 7, 7, 7, 7, 7, 7, 7, 7, 7, 7, 7, 7, 7, 7, 7, 8, 8, 8, 8, 8, 8, 8, 8, 8, 8, 8, 8, 8, 8, 8, 8, 8, 8, 8, 8, 8, 8, 8, 8, 8, 8, 8, 8, 8, 8, 8, 8, 8, 8, 8, 8, 8, 8, 8, 8, 8, 8, 8, 8, 8, 8, 8, 8, 8, 8, 8, 8, 8, 8, 8, 8, 8, 8, 8, 8, 8, 8, 8, 8, 8, 8, 8, 8, 8, 8, 8, 8, 8, 8, 8, 8, 8, 8, 8, 8, 8, 8, 8, 8, 8, 8, 8, 8, 8, 8, 8, 8, 8, 8, 8, 8, 8, 8, 8, 8, 8, 8, 8, 8, 8, 8, 8, 8, 8, 8, 8, 8, 8, 8, 8, 8, 8, 8, 8, 8, 8, 8, 8, 8, 8, 8, 8, 8]).size : Int)) ∧ IR (sbyte (strB [0, 1, 2, 2, 3, 3, 3, 3, 4, 4, 4, 4, 4, 4, 4, 4, 5, 5, 5, 5, 5, 5, 5, 5, 5, 5, 5, 5, 5, 5, 5, 5, 6, 6, 6, 6, 6, 6, 6, 6, 6, 6, 6, 6, 6, 6, 6, 6, 6, 6, 6, 6, 6, 6, 6, 6, 6, 6, 6, 6, 6, 6, 6, 6, 7, 7, 7, 7, 7, 7, 7, 7, 7, 7, 7, 7, 7, 7, 7, 7, 7, 7, 7, 7, 7, 7, 7, 7, 7, 7, 7, 7, 7, 7, 7, 7, 7, 7, 7, 7, 7, 7, 7, 7, 7, 7, 7, 7, 7, 7, 7, 7, 7, 7, 7, 7, 7, 7, 7, 7, 7, 7, 7, 7, 7, 7, 7, 7, 8, 8, 8, 8, 8, 8, 8, 8, 8, 8, 8, 8, 8, 8, 8, 8, 8, 8, 8, 8, 8, 8, 8, 8, 8, 8, 8, 8, 8, 8, 8, 8, 8, 8, 8, 8, 8, 8, 8, 8, 8, 8, 8, 8, 8, 8, 8, 8, 8, 8, 8, 8, 8, 8, 8, 8, 8, 8, 8, 8, 8, 8, 8, 8, 8, 8, 8, 8, 8, 8, 8, 8, 8, 8, 8, 8, 8, 8, 8, 8, 8, 8, 8, 8, 8, 8, 8, 8, 8, 8, 8, 8, 8, 8, 8, 8, 8, 8, 8, 8, 8, 8, 8, 8, 8, 8, 8, 8, 8, 8, 8, 8, 8, 8, 8, 8, 8, 8, 8, 8, 8, 8, 8, 8, 8, 8, 8, 8]) v2) ∧ IR (((32 : Int) + (16 : Int)) + (sbyte (strB [0, 1, 2, 2, 3, 3, 3, 3, 4, 4, 4, 4, 4, 4, 4, 4, 5, 5, 5, 5, 5, 5, 5, 5, 5, 5, 5, 5, 5, 5, 5, 5, 6, 6, 6, 6, 6, 6, 6, 6, 6, 6, 6, 6, 6, 6, 6, 6, 6, 6, 6, 6, 6, 6, 6, 6, 6, 6, 6, 6, 6, 6, 6, 6, 7, 7, 7, 7, 7, 7, 7, 7, 7, 7, 7, 7, 7, 7, 7, 7, 7, 7, 7, 7, 7, 7, 7, 7, 7, 7, 7, 7, 7, 7, 7, 7, 7, 7, 7, 7, 7, 7, 7, 7, 7, 7, 7, 7, 7, 7, 7, 7, 7, 7, 7, 7, 7, 7, 7, 7, 7, 7, 7, 7, 7, 7, 7, 7, 8, 8, 8, 8, 8, 8, 8, 8, 8, 8, 8, 8, 8, 8, 8, 8, 8, 8, 8, 8, 8, 8, 8, 8, 8, 8, 8, 8, 8, 8, 8, 8, 8, 8, 8, 8, 8, 8, 8, 8, 8, 8, 8, 8, 8, 8, 8, 8, 8, 8, 8, 8, 8, 8, 8, 8, 8, 8, 8, 8, 8, 8, 8, 8, 8, 8, 8, 8, 8, 8, 8, 8, 8, 8, 8, 8, 8, 8, 8, 8, 8, 8, 8, 8, 8, 8, 8, 8, 8, 8, 8, 8, 8, 8, 8, 8, 8, 8, 8, 8, 8, 8, 8, 8, 8, 8, 8, 8, 8, 8, 8, 8, 8, 8, 8, 8, 8, 8, 8, 8, 8, 8, 8, 8, 8, 8, 8, 8]) v2)) ∧ R (rV (uI (((32 : Int) + (16 : Int)) + (sbyte (strB [0, 1, 2, 2, 3, 3, 3, 3, 4, 4, 4, 4, 4, 4, 4, 4, 5, 5, 5, 5, 5, 5, 5, 5, 5, 5, 5, 5, 5, 5, 5, 5, 6, 6, 6, 6, 6, 6, 6, 6, 6, 6, 6, 6, 6, 6, 6, 6, 6, 6, 6, 6, 6, 6, 6, 6, 6, 6, 6, 6, 6, 6, 6, 6, 7, 7, 7, 7, 7, 7, 7, 7, 7, 7, 7, 7, 7, 7, 7, 7, 7, 7, 7, 7, 7, 7, 7, 7, 7, 7, 7, 7, 7, 7, 7, 7, 7, 7, 7, 7, 7, 7, 7, 7, 7, 7, 7, 7, 7, 7, 7, 7, 7, 7, 7, 7, 7, 7, 7, 7, 7, 7, 7, 7, 7, 7, 7, 7, 8, 8, 8, 8, 8, 8, 8, 8, 8, 8, 8, 8, 8, 8, 8, 8, 8, 8, 8, 8, 8, 8, 8, 8, 8, 8, 8, 8, 8, 8, 8, 8, 8, 8, 8, 8, 8, 8, 8, 8, 8, 8, 8, 8, 8, 8, 8, 8, 8, 8, 8, 8, 8, 8, 8, 8, 8, 8, 8, 8, 8, 8, 8, 8, 8, 8, 8, 8, 8, 8, 8, 8, 8, 8, 8, 8, 8, 8, 8, 8, 8, 8, 8, 8, 8, 8, 8, 8, 8, 8, 8, 8, 8, 8, 8, 8, 8, 8, 8, 8, 8, 8, 8, 8, 8, 8, 8, 8, 8, 8, 8, 8, 8, 8, 8, 8, 8, 8, 8, 8, 8, 8, 8, 8, 8, 8, 8, 8]) v2)))) V2))
 (Br (256 ≤ v1)
 (GenK Tryz.prog (.binOp .shr 219 (.tmp 15) (.const (.int .u64 8)) 172) 219 (gv [(15, .int .u64 v1)]) V1 fun x V2 => ∃ v2, x = .int .u64 v2 ∧
 IR ((32 : Int) + (8 : Int)) ∧ K.inR .u8 v2 ∧ (0 ≤ v2 ∧ v2 < ((strB [0, 1, 2, 2, 3, 3, 3, 3, 4, 4, 4, 4, 4, 4, 4, 4, 5, 5, 5, 5, 5, 5, 5, 5, 5, 5, 5, 5, 5, 5, 5, 5, 6, 6, 6, 6, 6, 6, 6, 6, 6, 6, 6, 6, 6, 6, 6, 6, 6, 6, 6, 6, 6, 6, 6, 6, 6, 6, 6, 6, 6, 6, 6, 6, 7, 7, 7, 7, 7, 7, 7, 7, 7, 7, 7, 7, 7, 7, 7, 7, 7, 7, 7, 7, 7, 7, 7, 7, 7, 7, 7, 7, 7, 7, 7, 7, 7, 7, 7, 7, 7, 7, 7, 7, 7, 7, 7, 7, 7, 7, 7, 7, 7, 7, 7, 7, 7, 7, 7, 7, 7, 7, 7, 7, 7, 7, 7, 7, 8, 8, 8, 8, 8, 8, 8, 8, 8, 8, 8, 8, 8, 8, 8, 8, 8, 8, 8, 8, 8, 8, 8, 8, 8, 8, 8, 8, 8, 8, 8, 8, 8, 8, 8, 8, 8, 8, 8, 8, 8, 8, 8, 8, 8, 8, 8, 8, 8, 8, 8, 8, 8, 8, 8, 8, 8, 8, 8, 8, 8, 8, 8, 8, 8, 8, 8, 8, 8, 8, 8, 8, 8, 8, 8, 8, 8, 8, 8, 8, 8, 8, 8, 8, 8, 8, 8, 8, 8, 8, 8, 8, 8, 8, 8, 8, 8, 8, 8, 8, 8, 8, 8, 8, 8, 8, 8, 8, 8, 8, 8, 8, 8, 8, 8, 8, 8, 8, 8, 8, 8, 8, 8, 8, 8, 8, 8, 8]).size : Int)) ∧ IR (sbyte (strB [0, 1, 2, 2, 3, 3, 3, 3, 4, 4, 4, 4, 4, 4, 4, 4, 5, 5, 5, 5, 5, 5, 5, 5, 5, 5, 5, 5, 5, 5, 5, 5, 6, 6, 6, 6, 6, 6, 6, 6, 6, 6, 6, 6, 6, 6, 6, 6, 6, 6, 6, 6, 6, 6, 6, 6, 6, 6, 6, 6, 6, 6, 6, 6, 7, 7, 7, 7, 7, 7, 7, 7, 7, 7, 7, 7, 7, 7, 7, 7, 7, 7, 7, 7, 7, 7, 7, 7, 7, 7, 7, 7, 7, 7, 7, 7, 7, 7, 7, 7, 7, 7, 7, 7, 7, 7, 7, 7, 7, 7, 7, 7, 7, 7, 7, 7, 7, 7, 7, 7, 7, 7, 7, 7, 7, 7, 7, 7, 8, 8, 8, 8, 8, 8, 8, 8, 8, 8, 8, 8, 8, 8, 8, 8, 8, 8, 8, 8, 8, 8, 8, 8, 8, 8, 8, 8, 8, 8, 8, 8, 8, 8, 8, 8, 8, 8, 8, 8, 8, 8, 8, 8, 8, 8, 8, 8, 8, 8, 8, 8, 8, 8, 8, 8, 8, 8, 8, 8, 8, 8, 8, 8, 8, 8, 8, 8, 8, 8, 8, 8, 8, 8, 8, 8, 8, 8, 8, 8, 8, 8, 8, 8, 8, 8, 8, 8, 8, 8, 8, 8, 8, 8, 8, 8, 8, 8, 8, 8, 8, 8, 8, 8, 8, 8, 8, 8, 8, 8, 8, 8, 8, 8, 8, 8, 8, 8, 8, 8, 8, 8, 8, 8, 8, 8, 8, 8]) v2) ∧ IR (((32 : Int) + (8 : Int)) + (sbyte (strB [0, 1, 2, 2, 3, 3, 3, 3, 4, 4, 4, 4, 4, 4, 4, 4, 5, 5, 5, 5, 5, 5, 5, 5, 5, 5, 5, 5, 5, 5, 5, 5, 6, 6, 6, 6, 6, 6, 6, 6, 6, 6, 6, 6, 6, 6, 6, 6, 6, 6, 6, 6, 6, 6, 6, 6, 6, 6, 6, 6, 6, 6, 6, 6, 7, 7, 7, 7, 7, 7, 7, 7, 7, 7, 7, 7, 7, 7, 7, 7, 7, 7, 7, 7, 7, 7, 7, 7, 7, 7, 7, 7, 7, 7, 7, 7, 7, 7, 7, 7, 7, 7, 7, 7, 7, 7, 7, 7, 7, 7, 7, 7, 7, 7, 7, 7, 7, 7, 7, 7, 7, 7, 7, 7, 7, 7, 7, 7, 8, 8, 8, 8, 8, 8, 8, 8, 8, 8, 8, 8, 8, 8, 8, 8, 8, 8, 8, 8, 8, 8, 8, 8, 8, 8, 8, 8, 8, 8, 8, 8, 8, 8, 8, 8, 8, 8, 8, 8, 8, 8, 8, 8, 8, 8, 8, 8, 8, 8, 8, 8, 8, 8, 8, 8, 8, 8, 8, 8, 8, 8, 8, 8, 8, 8, 8, 8, 8, 8, 8, 8, 8, 8, 8, 8, 8, 8, 8, 8, 8, 8, 8, 8, 8, 8, 8, 8, 8, 8, 8, 8, 8, 8, 8, 8, 8, 8, 8, 8, 8, 8, 8, 8, 8, 8, 8, 8, 8, 8, 8, 8, 8, 8, 8, 8, 8, 8, 8, 8, 8, 8, 8, 8, 8, 8, 8, 8]) v2)) ∧ R (rV (uI (((32 : Int) + (8 : Int)) + (sbyte (strB [0, 1, 2, 2, 3, 3, 3, 3, 4, 4, 4, 4, 4, 4, 4, 4, 5, 5, 5, 5, 5, 5, 5, 5, 5, 5, 5, 5, 5, 5, 5, 5, 6, 6, 6, 6, 6, 6, 6, 6, 6, 6, 6, 6, 6, 6, 6, 6, 6, 6, 6, 6, 6, 6, 6, 6, 6, 6, 6, 6, 6, 6, 6, 6, 7, 7, 7, 7, 7, 7, 7, 7, 7, 7, 7, 7, 7, 7, 7, 7, 7, 7, 7, 7, 7, 7, 7, 7, 7, 7, 7, 7, 7, 7, 7, 7, 7, 7, 7, 7, 7, 7, 7, 7, 7, 7, 7, 7, 7, 7, 7, 7, 7, 7, 7, 7, 7, 7, 7, 7, 7, 7, 7, 7, 7, 7, 7, 7, 8, 8, 8, 8, 8, 8, 8, 8, 8, 8, 8, 8, 8, 8, 8, 8, 8, 8, 8, 8, 8, 8, 8, 8, 8, 8, 8, 8, 8, 8, 8, 8, 8, 8, 8, 8, 8, 8, 8, 8, 8, 8, 8, 8, 8, 8, 8, 8, 8, 8, 8, 8, 8, 8, 8, 8, 8, 8, 8, 8, 8, 8, 8, 8, 8, 8, 8, 8, 8, 8, 8, 8, 8, 8, 8, 8, 8, 8, 8, 8, 8, 8, 8, 8, 8, 8, 8, 8, 8, 8, 8, 8, 8, 8, 8, 8, 8, 8, 8, 8, 8, 8, 8, 8, 8, 8, 8, 8, 8, 8, 8, 8, 8, 8, 8, 8, 8, 8, 8, 8, 8, 8, 8, 8, 8, 8, 8, 8]) v2)))) V2)
 (K.inR .u8 v1 ∧ (0 ≤ v1 ∧ v1 < ((strB [0, 1, 2, 2, 3, 3, 3, 3, 4, 4, 4, 4, 4, 4, 4, 4, 5, 5, 5, 5, 5, 5, 5, 5, 5, 5, 5, 5, 5, 5, 5, 5, 6, 6, 6, 6, 6, 6, 6, 6, 6, 6, 6, 6, 6, 6, 6, 6, 6, 6, 6, 6, 6, 6, 6, 6, 6, 6, 6, 6, 6, 6, 6, 6, 7, 7, 7, 7, 7, 7, 7, 7, 7, 7, 7, 7, 7, 7, 7, 7, 7, 7, 7, 7, 7, 7, 7, 7, 7, 7, 7, 7, 7, 7, 7, 7, 7, 7, 7, 7, 7, 7, 7, 7, 7, 7, 7, 7, 7, 7, 7, 7, 7, 7, 7, 7, 7, 7, 7, 7, 7, 7, 7, 7, 7, 7, 7, 7, 8, 8, 8, 8, 8, 8, 8, 8, 8, 8, 8, 8, 8, 8, 8, 8, 8, 8, 8, 8, 8, 8, 8, 8, 8, 8, 8, 8, 8, 8, 8, 8, 8, 8, 8, 8, 8, 8, 8, 8, 8, 8, 8, 8, 8, 8, 8, 8, 8, 8, 8, 8, 8, 8, 8, 8, 8, 8, 8, 8, 8, 8, 8, 8, 8, 8, 8, 8, 8, 8, 8, 8, 8, 8, 8, 8, 8, 8, 8, 8, 8, 8, 8, 8, 8, 8, 8, 8, 8, 8, 8, 8, 8, 8, 8, 8, 8, 8, 8, 8, 8, 8, 8, 8, 8, 8, 8, 8, 8, 8, 8, 8, 8, 8, 8, 8, 8, 8, 8, 8, 8, 8, 8, 8, 8, 8, 8, 8]).size : Int)) ∧ IR (sbyte (strB [0, 1, 2, 2, 3, 3, 3, 3, 4, 4, 4, 4, 4, 4, 4, 4, 5, 5, 5, 5, 5, 5, 5, 5, 5, 5, 5, 5, 5, 5, 5, 5, 6, 6, 6, 6, 6, 6, 6, 6, 6, 6, 6, 6, 6, 6, 6, 6, 6, 6, 6, 6, 6, 6, 6, 6, 6, 6, 6, 6, 6, 6, 6, 6, 7, 7, 7, 7, 7, 7, 7, 7, 7, 7, 7, 7, 7, 7, 7, 7, 7, 7, 7, 7, 7, 7, 7, 7, 7, 7, 7, 7, 7, 7, 7, 7, 7, 7, 7, 7, 7, 7, 7, 7, 7, 7, 7, 7, 7, 7, 7, 7, 7, 7, 7, 7, 7, 7, 7, 7, 7, 7, 7, 7, 7, 7, 7, 7, 8, 8, 8, 8, 8, 8, 8, 8, 8, 8, 8, 8, 8, 8, 8, 8, 8, 8, 8, 8, 8, 8, 8, 8, 8, 8, 8, 8, 8, 8, 8, 8, 8, 8, 8, 8, 8, 8, 8, 8, 8, 8, 8, 8, 8, 8, 8, 8, 8, 8, 8, 8, 8, 8, 8, 8, 8, 8, 8, 8, 8, 8, 8, 8, 8, 8, 8, 8, 8, 8, 8, 8, 8, 8, 8, 8, 8, 8, 8, 8, 8, 8, 8, 8, 8, 8, 8, 8, 8, 8, 8, 8, 8, 8, 8, 8, 8, 8, 8, 8, 8, 8, 8, 8, 8, 8, 8, 8, 8, 8, 8, 8, 8, 8, 8, 8, 8, 8, 8, 8, 8, 8, 8, 8, 8, 8, 8, 8]) v1) ∧ IR (32 + (sbyte (strB [0, 1, 2, 2, 3, 3, 3, 3, 4, 4, 4, 4, 4, 4, 4, 4, 5, 5, 5, 5, 5, 5, 5, 5, 5, 5, 5, 5, 5, 5, 5, 5, 6, 6, 6, 6, 6, 6, 6, 6, 6, 6, 6, 6, 6, 6, 6, 6, 6, 6, 6, 6, 6, 6, 6, 6, 6, 6, 6, 6, 6, 6, 6, 6, 7, 7, 7, 7, 7, 7, 7, 7, 7, 7, 7, 7, 7, 7, 7, 7, 7, 7, 7, 7, 7, 7, 7, 7, 7, 7, 7, 7, 7, 7, 7, 7, 7, 7, 7, 7, 7, 7, 7, 7, 7, 7, 7, 7, 7, 7, 7, 7, 7, 7, 7, 7, 7, 7, 7, 7, 7, 7, 7, 7, 7, 7, 7, 7, 8, 8, 8, 8, 8, 8, 8, 8, 8, 8, 8, 8, 8, 8, 8, 8, 8, 8, 8, 8, 8, 8, 8, 8, 8, 8, 8, 8, 8, 8, 8, 8, 8, 8, 8, 8, 8, 8, 8, 8, 8, 8, 8, 8, 8, 8, 8, 8, 8, 8, 8, 8, 8, 8, 8, 8, 8, 8, 8, 8, 8, 8, 8, 8, 8, 8, 8, 8, 8, 8, 8, 8, 8, 8, 8, 8, 8, 8, 8, 8, 8, 8, 8, 8, 8, 8, 8, 8, 8, 8, 8, 8, 8, 8, 8, 8, 8, 8, 8, 8, 8, 8, 8, 8, 8, 8, 8, 8, 8, 8, 8, 8, 8, 8, 8, 8, 8, 8, 8, 8, 8, 8, 8, 8, 8, 8, 8, 8]) v1)) ∧ R (rV (uI (32 + (sbyte (strB [0, 1, 2, 2, 3, 3, 3, 3, 4, 4, 4, 4, 4, 4, 4, 4, 5, 5, 5, 5, 5, 5, 5, 5, 5, 5, 5, 5, 5, 5, 5, 5, 6, 6, 6, 6, 6, 6, 6, 6, 6, 6, 6, 6, 6, 6, 6, 6, 6, 6, 6, 6, 6, 6, 6, 6, 6, 6, 6, 6, 6, 6, 6, 6, 7, 7, 7, 7, 7, 7, 7, 7, 7, 7, 7, 7, 7, 7, 7, 7, 7, 7, 7, 7, 7, 7, 7, 7, 7, 7, 7, 7, 7, 7, 7, 7, 7, 7, 7, 7, 7, 7, 7, 7, 7, 7, 7, 7, 7, 7, 7, 7, 7, 7, 7, 7, 7, 7, 7, 7, 7, 7, 7, 7, 7, 7, 7, 7, 8, 8, 8, 8, 8, 8, 8, 8, 8, 8, 8, 8, 8, 8, 8, 8, 8, 8, 8, 8, 8, 8, 8, 8, 8, 8, 8, 8, 8, 8, 8, 8, 8, 8, 8, 8, 8, 8, 8, 8, 8, 8, 8, 8, 8, 8, 8, 8, 8, 8, 8, 8, 8, 8, 8, 8, 8, 8, 8, 8, 8, 8, 8, 8, 8, 8, 8, 8, 8, 8, 8, 8, 8, 8, 8, 8, 8, 8, 8, 8, 8, 8, 8, 8, 8, 8, 8, 8, 8, 8, 8, 8, 8, 8, 8, 8, 8, 8, 8, 8, 8, 8, 8, 8, 8, 8, 8, 8, 8, 8, 8, 8, 8, 8, 8, 8, 8, 8, 8, 8, 8, 8, 8, 8, 8, 8, 8, 8]) v1)))) V1)))
 (Br (65536 ≤ v0)
 (GenK Tryz.prog (.binOp .shr 219 (.tmp 9) (.const (.int .u64 16)) 172) 219 (gv [(9, .int .u64 v0)]) V fun x V1 => ∃ v1, x = .int .u64 v1 ∧
 IR ((0 : Int) + (16 : Int)) ∧ Br (256 ≤ v1)
 (GenK Tryz.prog (.binOp .shr 219 (.tmp 15) (.const (.int .u64 8)) 172) 219 (gv [(15, .int .u64 v1)]) V1 fun x V2 => ∃ v2, x = .int .u64 v2 ∧
 IR (((0 : Int) + (16 : Int)) + 8) ∧ K.inR .u8 v2 ∧ (0 ≤ v2 ∧ v2 < ((strB [0, 1, 2, 2, 3, 3, 3, 3, 4, 4, 4, 4, 4, 4, 4, 4, 5, 5, 5, 5, 5, 5, 5, 5, 5, 5, 5, 5, 5, 5, 5, 5, 6, 6, 6, 6, 6, 6, 6, 6, 6, 6, 6, 6, 6, 6, 6, 6, 6, 6, 6, 6, 6, 6, 6, 6, 6, 6, 6, 6, 6, 6, 6, 6, 7, 7, 7, 7, 7, 7, 7, 7, 7, 7, 7, 7, 7, 7, 7, 7, 7, 7, 7, 7, 7, 7, 7, 7, 7, 7, 7, 7, 7, 7, 7, 7, 7, 7, 7, 7, 7, 7, 7, 7, 7, 7, 7, 7, 7, 7, 7, 7, 7, 7, 7, 7, 7, 7, 7, 7, 7, 7, 7, 7, 7, 7, 7, 7, 8, 8, 8, 8, 8, 8, 8, 8, 8, 8, 8, 8, 8, 8, 8, 8, 8, 8, 8, 8, 8, 8, 8, 8, 8, 8, 8, 8, 8, 8, 8, 8, 8, 8, 8, 8, 8, 8, 8, 8, 8, 8, 8, 8, 8, 8, 8, 8, 8, 8, 8, 8, 8, 8, 8, 8, 8, 8, 8, 8, 8, 8, 8, 8, 8, 8, 8, 8, 8, 8, 8, 8, 8, 8, 8, 8, 8, 8, 8, 8, 8, 8, 8, 8, 8, 8, 8, 8, 8, 8, 8, 8, 8, 8, 8, 8, 8, 8, 8, 8, 8, 8, 8, 8, 8, 8, 8, 8, 8, 8, 8, 8, 8, 8, 8, 8, 8, 8, 8, 8, 8, 8, 8, 8, 8, 8, 8, 8]).size : Int)) ∧ IR (sbyte (strB [0, 1, 2, 2, 3, 3, 3, 3, 4, 4, 4, 4, 4, 4, 4, 4, 5, 5, 5, 5, 5, 5, 5, 5, 5, 5, 5, 5, 5, 5, 5, 5, 6, 6, 6, 6, 6, 6, 6, 6, 6, 6, 6, 6, 6, 6, 6, 6, 6, 6, 6, 6, 6, 6, 6, 6, 6, 6, 6, 6, 6, 6, 6, 6, 7, 7, 7, 7, 7, 7, 7, 7, 7, 7, 7, 7, 7, 7, 7, 7, 7, 7, 7, 7, 7, 7, 7, 7, 7, 7, 7, 7, 7, 7, 7, 7, 7, 7, 7, 7, 7, 7, 7, 7, 7, 7, 7, 7, 7, 7, 7, 7, 7, 7, 7, 7, 7, 7, 7, 7, 7, 7, 7, 7, 7, 7, 7, 7, 8, 8, 8, 8, 8, 8, 8, 8, 8, 8, 8, 8, 8, 8, 8, 8, 8, 8, 8, 8, 8, 8, 8, 8, 8, 8, 8, 8, 8, 8, 8, 8, 8, 8, 8, 8, 8, 8, 8, 8, 8, 8, 8, 8, 8, 8, 8, 8, 8, 8, 8, 8, 8, 8, 8, 8, 8, 8, 8, 8, 8, 8, 8, 8, 8, 8, 8, 8, 8, 8, 8, 8, 8, 8, 8, 8, 8, 8, 8, 8, 8, 8, 8, 8, 8, 8, 8, 8, 8, 8, 8, 8, 8, 8, 8, 8, 8, 8, 8, 8, 8, 8, 8, 8, 8, 8, 8, 8, 8, 8, 8, 8, 8, 8, 8, 8, 8, 8, 8, 8, 8, 8, 8, 8, 8, 8, 8, 8]) v2) ∧ IR ((((0 : Int) + (16 : Int)) + 8) + (sbyte (strB [0, 1, 2, 2, 3, 3, 3, 3, 4, 4, 4, 4, 4, 4, 4, 4, 5, 5, 5, 5, 5, 5, 5, 5, 5, 5, 5, 5, 5, 5, 5, 5, 6, 6, 6, 6, 6, 6, 6, 6, 6, 6, 6, 6, 6, 6, 6, 6, 6, 6, 6, 6, 6, 6, 6, 6, 6, 6, 6, 6, 6, 6, 6, 6, 7, 7, 7, 7, 7, 7, 7, 7, 7, 7, 7, 7, 7, 7, 7, 7, 7, 7, 7, 7, 7, 7, 7, 7, 7, 7, 7, 7, 7, 7, 7, 7, 7, 7, 7, 7, 7, 7, 7, 7, 7, 7, 7, 7, 7, 7, 7, 7, 7, 7, 7, 7, 7, 7, 7, 7, 7, 7, 7, 7, 7, 7, 7, 7, 8, 8, 8, 8, 8, 8, 8, 8, 8, 8, 8, 8, 8, 8, 8, 8, 8, 8, 8, 8, 8, 8, 8, 8, 8, 8, 8, 8, 8, 8, 8, 8, 8, 8, 8, 8, 8, 8, 8, 8, 8, 8, 8, 8, 8, 8, 8, 8, 8, 8, 8, 8, 8, 8, 8, 8, 8, 8, 8, 8, 8, 8, 8, 8, 8, 8, 8, 8, 8, 8, 8, 8, 8, 8, 8, 8, 8, 8, 8, 8, 8, 8, 8, 8, 8, 8, 8, 8, 8, 8, 8, 8, 8, 8, 8, 8, 8, 8, 8, 8, 8, 8, 8, 8, 8, 8, 8, 8, 8, 8, 8, 8, 8, 8, 8, 8, 8, 8, 8, 8, 8, 8, 8, 8, 8, 8, 8, 8]) v2)) ∧ R (rV (uI ((((0 : Int) + (16 : Int)) + 8) + (sbyte (strB [0, 1, 2, 2, 3, 3, 3, 3, 4, 4, 4, 4, 4, 4, 4, 4, 5, 5, 5, 5, 5, 5, 5, 5, 5, 5, 5, 5, 5, 5, 5, 5, 6, 6, 6, 6, 6, 6, 6, 6, 6, 6, 6, 6, 6, 6, 6, 6, 6, 6, 6, 6, 6, 6, 6, 6, 6, 6, 6, 6, 6, 6, 6, 6, 7, 7, 7, 7, 7, 7, 7, 7, 7, 7, 7, 7, 7, 7, 7, 7, 7, 7, 7, 7, 7, 7, 7, 7, 7, 7, 7, 7, 7, 7, 7, 7, 7, 7, 7, 7, 7, 7, 7, 7, 7, 7, 7, 7, 7, 7, 7, 7, 7, 7, 7, 7, 7, 7, 7, 7, 7, 7, 7, 7, 7, 7, 7, 7, 8, 8, 8, 8, 8, 8, 8, 8, 8, 8, 8, 8, 8, 8, 8, 8, 8, 8, 8, 8, 8, 8, 8, 8, 8, 8, 8, 8, 8, 8, 8, 8, 8, 8, 8, 8, 8, 8, 8, 8, 8, 8, 8, 8, 8, 8, 8, 8, 8, 8, 8, 8, 8, 8, 8, 8, 8, 8, 8, 8, 8, 8, 8, 8, 8, 8, 8, 8, 8, 8, 8, 8, 8, 8, 8, 8, 8, 8, 8, 8, 8, 8, 8, 8, 8, 8, 8, 8, 8, 8, 8, 8, 8, 8, 8, 8, 8, 8, 8, 8, 8, 8, 8, 8, 8, 8, 8, 8, 8, 8, 8, 8, 8, 8, 8, 8, 8, 8, 8, 8, 8, 8, 8, 8, 8, 8, 8, 8]) v2)))) V2)
 (K.inR .u8 v1 ∧ (0 ≤ v1 ∧ v1 < ((strB [0, 1, 2, 2, 3, 3, 3, 3, 4, 4, 4, 4, 4, 4, 4, 4, 5, 5, 5, 5, 5, 5, 5, 5, 5, 5, 5, 5, 5, 5, 5, 5, 6, 6, 6, 6, 6, 6, 6, 6, 6, 6, 6, 6, 6, 6, 6, 6, 6, 6, 6, 6, 6, 6, 6, 6, 6, 6, 6, 6, 6, 6, 6, 6, 7, 7, 7, 7, 7, 7, 7, 7, 7, 7, 7, 7, 7, 7, 7, 7, 7, 7, 7, 7, 7, 7, 7, 7, 7, 7, 7, 7, 7, 7, 7, 7, 7, 7, 7, 7, 7, 7, 7, 7, 7, 7, 7, 7, 7, 7, 7, 7, 7, 7, 7, 7, 7, 7, 7, 7, 7, 7, 7, 7, 7, 7, 7, 7, 8, 8, 8, 8, 8, 8, 8, 8, 8, 8, 8, 8, 8, 8, 8, 8, 8, 8, 8, 8, 8, 8, 8, 8, 8, 8, 8, 8, 8, 8, 8, 8, 8, 8, 8, 8, 8, 8, 8, 8, 8, 8, 8, 8, 8, 8, 8, 8, 8, 8, 8, 8, 8, 8, 8, 8, 8, 8, 8, 8, 8, 8, 8, 8, 8, 8, 8, 8, 8, 8, 8, 8, 8, 8, 8, 8, 8, 8, 8, 8, 8, 8, 8, 8, 8, 8, 8, 8, 8, 8, 8, 8, 8, 8, 8, 8, 8, 8, 8, 8, 8, 8, 8, 8, 8, 8, 8, 8, 8, 8, 8, 8, 8, 8, 8, 8, 8, 8, 8, 8, 8, 8, 8, 8, 8, 8, 8, 8]).size : Int)) ∧ IR (sbyte (strB [0, 1, 2, 2, 3, 3, 3, 3, 4, 4, 4, 4, 4, 4, 4, 4, 5, 5, 5, 5, 5, 5, 5, 5, 5, 5, 5, 5, 5, 5, 5, 5, 6, 6, 6, 6, 6, 6, 6, 6, 6, 6, 6, 6, 6, 6, 6, 6, 6, 6, 6, 6, 6, 6, 6, 6, 6, 6, 6, 6, 6, 6, 6, 6, 7, 7, 7, 7, 7, 7, 7, 7, 7, 7, 7, 7, 7, 7, 7, 7, 7, 7, 7, 7, 7, 7, 7, 7, 7, 7, 7, 7, 7, 7, 7, 7, 7, 7, 7, 7, 7, 7, 7, 7, 7, 7, 7, 7, 7, 7, 7, 7, 7, 7, 7, 7, 7, 7, 7, 7, 7, 7, 7, 7, 7, 7, 7, 7, 8, 8, 8, 8, 8, 8, 8, 8, 8, 8, 8, 8, 8, 8, 8, 8, 8, 8, 8, 8, 8, 8, 8, 8, 8, 8, 8, 8, 8, 8, 8, 8, 8, 8, 8, 8, 8, 8, 8, 8, 8, 8, 8, 8, 8, 8, 8, 8, 8, 8, 8, 8, 8, 8, 8, 8, 8, 8, 8, 8, 8, 8, 8, 8, 8, 8, 8, 8, 8, 8, 8, 8, 8, 8, 8, 8, 8, 8, 8, 8, 8, 8, 8, 8, 8, 8, 8, 8, 8, 8, 8, 8, 8, 8, 8, 8, 8, 8, 8, 8, 8, 8, 8, 8, 8, 8, 8, 8, 8, 8, 8, 8, 8, 8, 8, 8, 8, 8, 8, 8, 8, 8, 8, 8, 8, 8, 8, 8]) v1) ∧ IR (((0 : Int) + (16 : Int)) + (sbyte (strB [0, 1, 2, 2, 3, 3, 3, 3, 4, 4, 4, 4, 4, 4, 4, 4, 5, 5, 5, 5, 5, 5, 5, 5, 5, 5, 5, 5, 5, 5, 5, 5, 6, 6, 6, 6, 6, 6, 6, 6, 6, 6, 6, 6, 6, 6, 6, 6, 6, 6, 6, 6, 6, 6, 6, 6, 6, 6, 6, 6, 6, 6, 6, 6, 7, 7, 7, 7, 7, 7, 7, 7, 7, 7, 7, 7, 7, 7, 7, 7, 7, 7, 7, 7, 7, 7, 7, 7, 7, 7, 7, 7, 7, 7, 7, 7, 7, 7, 7, 7, 7, 7, 7, 7, 7, 7, 7, 7, 7, 7, 7, 7, 7, 7, 7, 7, 7, 7, 7, 7, 7, 7, 7, 7, 7, 7, 7, 7, 8, 8, 8, 8, 8, 8, 8, 8, 8, 8, 8, 8, 8, 8, 8, 8, 8, 8, 8, 8, 8, 8, 8, 8, 8, 8, 8, 8, 8, 8, 8, 8, 8, 8, 8, 8, 8, 8, 8, 8, 8, 8, 8, 8, 8, 8, 8, 8, 8, 8, 8, 8, 8, 8, 8, 8, 8, 8, 8, 8, 8, 8, 8, 8, 8, 8, 8, 8, 8, 8, 8, 8, 8, 8, 8, 8, 8, 8, 8, 8, 8, 8, 8, 8, 8, 8, 8, 8, 8, 8, 8, 8, 8, 8, 8, 8, 8, 8, 8, 8, 8, 8, 8, 8, 8, 8, 8, 8, 8, 8, 8, 8, 8, 8, 8, 8, 8, 8, 8, 8, 8, 8, 8, 8, 8, 8, 8, 8]) v1)) ∧ R (rV (uI (((0 : Int) + (16 : Int)) + (sbyte (strB [0, 1, 2, 2, 3, 3, 3, 3, 4, 4, 4, 4, 4, 4, 4, 4, 5, 5, 5, 5, 5, 5, 5, 5, 5, 5, 5, 5, 5, 5, 5, 5, 6, 6, 6, 6, 6, 6, 6, 6, 6, 6, 6, 6, 6, 6, 6, 6, 6, 6, 6, 6, 6, 6, 6, 6, 6, 6, 6, 6, 6, 6, 6, 6, 7, 7, 7, 7, 7, 7, 7, 7, 7, 7, 7, 7, 7, 7, 7, 7, 7, 7, 7, 7, 7, 7, 7, 7, 7, 7, 7, 7, 7, 7, 7, 7, 7, 7, 7, 7, 7, 7, 7, 7, 7, 7, 7, 7, 7, 7, 7, 7, 7, 7, 7, 7, 7, 7, 7, 7, 7, 7, 7, 7, 7, 7, 7, 7, 8, 8, 8, 8, 8, 8, 8, 8, 8, 8, 8, 8, 8, 8, 8, 8, 8, 8, 8, 8, 8, 8, 8, 8, 8, 8, 8, 8, 8, 8, 8, 8, 8, 8, 8, 8, 8, 8, 8, 8, 8, 8, 8, 8, 8, 8, 8, 8, 8, 8, 8, 8, 8, 8, 8, 8, 8, 8, 8, 8, 8, 8, 8, 8, 8, 8, 8, 8, 8, 8, 8, 8, 8, 8, 8, 8, 8, 8, 8, 8, 8, 8, 8, 8, 8, 8, 8, 8, 8, 8, 8, 8, 8, 8, 8, 8, 8, 8, 8, 8, 8, 8, 8, 8, 8, 8, 8, 8, 8, 8, 8, 8, 8, 8, 8, 8, 8, 8, 8, 8, 8, 8, 8, 8, 8, 8, 8, 8]) v1)))) V1))
 (Br (256 ≤ v0)
 (GenK Tryz.prog (.binOp .shr 219 (.tmp 15) (.const (.int .u64 8)) 172) 219 (gv [(15, .int .u64 v0)]) V fun x V1 => ∃ v1, x = .int .u64 v1 ∧
 IR ((0 : Int) + (8 : Int)) ∧ K.inR .u8 v1 ∧ (0 ≤ v1 ∧ v1 < ((strB [0, 1, 2, 2, 3, 3, 3, 3, 4, 4, 4, 4, 4, 4, 4, 4, 5, 5, 5, 5, 5, 5, 5, 5, 5, 5, 5, 5, 5, 5, 5, 5, 6, 6, 6, 6, 6, 6, 6, 6, 6, 6, 6, 6, 6, 6, 6, 6, 6, 6, 6, 6, 6, 6, 6, 6, 6, 6, 6, 6, 6, 6, 6, 6, 7, 7, 7, 7, 7, 7, 7, 7, 7, 7, 7, 7, 7, 7, 7, 7, 7, 7, 7, 7, 7, 7, 7, 7, 7, 7, 7, 7, 7, 7, 7, 7, 7, 7, 7, 7, 7, 7, 7, 7, 7, 7, 7, 7, 7, 7, 7, 7, 7, 7, 7, 7, 7, 7, 7, 7, 7, 7, 7, 7, 7, 7, 7, 7, 8, 8, 8, 8, 8, 8, 8, 8, 8, 8, 8, 8, 8, 8, 8, 8, 8, 8, 8, 8, 8, 8, 8, 8, 8, 8, 8, 8, 8, 8, 8, 8, 8, 8, 8, 8, 8, 8, 8, 8, 8, 8, 8, 8, 8, 8, 8, 8, 8, 8, 8, 8, 8, 8, 8, 8, 8, 8, 8, 8, 8, 8, 8, 8, 8, 8, 8, 8, 8, 8, 8, 8, 8, 8, 8, 8, 8, 8, 8, 8, 8, 8, 8, 8, 8, 8, 8, 8, 8, 8, 8, 8, 8, 8, 8, 8, 8, 8, 8, 8, 8, 8, 8, 8, 8, 8, 8, 8, 8, 8, 8, 8, 8, 8, 8, 8, 8, 8, 8, 8, 8, 8, 8, 8, 8, 8, 8, 8]).size : Int)) ∧ IR (sbyte (strB [0, 1, 2, 2, 3, 3, 3, 3, 4, 4, 4, 4, 4, 4, 4, 4, 5, 5, 5, 5, 5, 5, 5, 5, 5, 5, 5, 5, 5, 5, 5, 5, 6, 6, 6, 6, 6, 6, 6, 6, 6, 6, 6, 6, 6, 6, 6, 6, 6, 6, 6, 6, 6, 6, 6, 6, 6, 6, 6, 6, 6, 6, 6, 6, 7, 7, 7, 7, 7, 7, 7, 7, 7, 7, 7, 7, 7, 7, 7, 7, 7, 7, 7, 7, 7, 7, 7, 7, 7, 7, 7, 7, 7, 7, 7, 7, 7, 7, 7, 7, 7, 7, 7, 7, 7, 7, 7, 7, 7, 7, 7, 7, 7, 7, 7, 7, 7, 7, 7, 7, 7, 7, 7, 7, 7, 7, 7, 7, 8, 8, 8, 8, 8, 8, 8, 8, 8, 8, 8, 8, 8, 8, 8, 8, 8, 8, 8, 8, 8, 8, 8, 8, 8, 8, 8, 8, 8, 8, 8, 8, 8, 8, 8, 8, 8, 8, 8, 8, 8, 8, 8, 8, 8, 8, 8, 8, 8, 8, 8, 8, 8, 8, 8, 8, 8, 8, 8, 8, 8, 8, 8, 8, 8, 8, 8, 8, 8, 8, 8, 8, 8, 8, 8, 8, 8, 8, 8, 8, 8, 8, 8, 8, 8, 8, 8, 8, 8, 8, 8, 8, 8, 8, 8, 8, 8, 8, 8, 8, 8, 8, 8, 8, 8, 8, 8, 8, 8, 8, 8, 8, 8, 8, 8, 8, 8, 8, 8, 8, 8, 8, 8, 8, 8, 8, 8, 8]) v1) ∧ IR (((0 : Int) + (8 : Int)) + (sbyte (strB [0, 1, 2, 2, 3, 3, 3, 3, 4, 4, 4, 4, 4, 4, 4, 4, 5, 5, 5, 5, 5, 5, 5, 5, 5, 5, 5, 5, 5, 5, 5, 5, 6, 6, 6, 6, 6, 6, 6, 6, 6, 6, 6, 6, 6, 6, 6, 6, 6, 6, 6, 6, 6, 6, 6, 6, 6, 6, 6, 6, 6, 6, 6, 6, 7, 7, 7, 7, 7, 7, 7, 7, 7, 7, 7, 7, 7, 7, 7, 7, 7, 7, 7, 7, 7, 7, 7, 7, 7, 7, 7, 7, 7, 7, 7, 7, 7, 7, 7, 7, 7, 7, 7, 7, 7, 7, 7, 7, 7, 7, 7, 7, 7, 7, 7, 7, 7, 7, 7, 7, 7, 7, 7, 7, 7, 7, 7, 7, 8, 8, 8, 8, 8, 8, 8, 8, 8, 8, 8, 8, 8, 8, 8, 8, 8, 8, 8, 8, 8, 8, 8, 8, 8, 8, 8, 8, 8, 8, 8, 8, 8, 8, 8, 8, 8, 8, 8, 8, 8, 8, 8, 8, 8, 8, 8, 8, 8, 8, 8, 8, 8, 8, 8, 8, 8, 8, 8, 8, 8, 8, 8, 8, 8, 8, 8, 8, 8, 8, 8, 8, 8, 8, 8, 8, 8, 8, 8, 8, 8, 8, 8, 8, 8, 8, 8, 8, 8, 8, 8, 8, 8, 8, 8, 8, 8, 8, 8, 8, 8, 8, 8, 8, 8, 8, 8, 8, 8, 8, 8, 8, 8, 8, 8, 8, 8, 8, 8, 8, 8, 8, 8, 8, 8, 8, 8, 8]) v1)) ∧ R (rV (uI (((0 : Int) + (8 : Int)) + (sbyte (strB [0, 1, 2, 2, 3, 3, 3, 3, 4, 4, 4, 4, 4, 4, 4, 4, 5, 5, 5, 5, 5, 5, 5, 5, 5, 5, 5, 5, 5, 5, 5, 5, 6, 6, 6, 6, 6, 6, 6, 6, 6, 6, 6, 6, 6, 6, 6, 6, 6, 6, 6, 6, 6, 6, 6, 6, 6, 6, 6, 6, 6, 6, 6, 6, 7, 7, 7, 7, 7, 7, 7, 7, 7, 7, 7, 7, 7, 7, 7, 7, 7, 7, 7, 7, 7, 7, 7, 7, 7, 7, 7, 7, 7, 7, 7, 7, 7, 7, 7, 7, 7, 7, 7, 7, 7, 7, 7, 7, 7, 7, 7, 7, 7, 7, 7, 7, 7, 7, 7, 7, 7, 7, 7, 7, 7, 7, 7, 7, 8, 8, 8, 8, 8, 8, 8, 8, 8, 8, 8, 8, 8, 8, 8, 8, 8, 8, 8, 8, 8, 8, 8, 8, 8, 8, 8, 8, 8, 8, 8, 8, 8, 8, 8, 8, 8, 8, 8, 8, 8, 8, 8, 8, 8, 8, 8, 8, 8, 8, 8, 8, 8, 8, 8, 8, 8, 8, 8, 8, 8, 8, 8, 8, 8, 8, 8, 8, 8, 8, 8, 8, 8, 8, 8, 8, 8, 8, 8, 8, 8, 8, 8, 8, 8, 8, 8, 8, 8, 8, 8, 8, 8, 8, 8, 8, 8, 8, 8, 8, 8, 8, 8, 8, 8, 8, 8, 8, 8, 8, 8, 8, 8, 8, 8, 8, 8, 8, 8, 8, 8, 8, 8, 8, 8, 8, 8, 8]) v1)))) V1)
 (K.inR .u8 v0 ∧ (0 ≤ v0 ∧ v0 < ((strB [0, 1, 2, 2, 3, 3, 3, 3, 4, 4, 4, 4, 4, 4, 4, 4, 5, 5, 5, 5, 5, 5, 5, 5, 5, 5, 5, 5, 5, 5, 5, 5, 6, 6, 6, 6, 6, 6, 6, 6, 6, 6, 6, 6, 6, 6, 6, 6, 6, 6, 6, 6, 6, 6, 6, 6, 6, 6, 6, 6, 6, 6, 6, 6, 7, 7, 7, 7, 7, 7, 7, 7, 7, 7, 7, 7, 7, 7, 7, 7, 7, 7, 7, 7, 7, 7, 7, 7, 7, 7, 7, 7, 7, 7, 7, 7, 7, 7, 7, 7, 7, 7, 7, 7, 7, 7, 7, 7, 7, 7, 7, 7, 7, 7, 7, 7, 7, 7, 7, 7, 7, 7, 7, 7, 7, 7, 7, 7, 8, 8, 8, 8, 8, 8, 8, 8, 8, 8, 8, 8, 8, 8, 8, 8, 8, 8, 8, 8, 8, 8, 8, 8, 8, 8, 8, 8, 8, 8, 8, 8, 8, 8, 8, 8, 8, 8, 8, 8, 8, 8, 8, 8, 8, 8, 8, 8, 8, 8, 8, 8, 8, 8, 8, 8, 8, 8, 8, 8, 8, 8, 8, 8, 8, 8, 8, 8, 8, 8, 8, 8, 8, 8, 8, 8, 8, 8, 8, 8, 8, 8, 8, 8, 8, 8, 8, 8, 8, 8, 8, 8, 8, 8, 8, 8, 8, 8, 8, 8, 8, 8, 8, 8, 8, 8, 8, 8, 8, 8, 8, 8, 8, 8, 8, 8, 8, 8, 8, 8, 8, 8, 8, 8, 8, 8, 8, 8]).size : Int)) ∧ IR (sbyte (strB [0, 1, 2, 2, 3, 3, 3, 3, 4, 4, 4, 4, 4, 4, 4, 4, 5, 5, 5, 5, 5, 5, 5, 5, 5, 5, 5, 5, 5, 5, 5, 5, 6, 6, 6, 6, 6, 6, 6, 6, 6, 6, 6, 6, 6, 6, 6, 6, 6, 6, 6, 6, 6, 6, 6, 6, 6, 6, 6, 6, 6, 6, 6, 6, 7, 7, 7, 7, 7, 7, 7, 7, 7, 7, 7, 7, 7, 7, 7, 7, 7, 7, 7, 7, 7, 7, 7, 7, 7, 7, 7, 7, 7, 7, 7, 7, 7, 7, 7, 7, 7, 7, 7, 7, 7, 7, 7, 7, 7, 7, 7, 7, 7, 7, 7, 7, 7, 7, 7, 7, 7, 7, 7, 7, 7, 7, 7, 7, 8, 8, 8, 8, 8, 8, 8, 8, 8, 8, 8, 8, 8, 8, 8, 8, 8, 8, 8, 8, 8, 8, 8, 8, 8, 8, 8, 8, 8, 8, 8, 8, 8, 8, 8, 8, 8, 8, 8, 8, 8, 8, 8, 8, 8, 8, 8, 8, 8, 8, 8, 8, 8, 8, 8, 8, 8, 8, 8, 8, 8, 8, 8, 8, 8, 8, 8, 8, 8, 8, 8, 8, 8, 8, 8, 8, 8, 8, 8, 8, 8, 8, 8, 8, 8, 8, 8, 8, 8, 8, 8, 8, 8, 8, 8, 8, 8, 8, 8, 8, 8, 8, 8, 8, 8, 8, 8, 8, 8, 8, 8, 8, 8, 8, 8, 8, 8, 8, 8, 8, 8, 8, 8, 8, 8, 8, 8, 8]) v0) ∧ IR (0 + (sbyte (strB [0, 1, 2, 2, 3, 3, 3, 3, 4, 4, 4, 4, 4, 4, 4, 4, 5, 5, 5, 5, 5, 5, 5, 5, 5, 5, 5, 5, 5, 5, 5, 5, 6, 6, 6, 6, 6, 6, 6, 6, 6, 6, 6, 6, 6, 6, 6, 6, 6, 6, 6, 6, 6, 6, 6, 6, 6, 6, 6, 6, 6, 6, 6, 6, 7, 7, 7, 7, 7, 7, 7, 7, 7, 7, 7, 7, 7, 7, 7, 7, 7, 7, 7, 7, 7, 7, 7, 7, 7, 7, 7, 7, 7, 7, 7, 7, 7, 7, 7, 7, 7, 7, 7, 7, 7, 7, 7, 7, 7, 7, 7, 7, 7, 7, 7, 7, 7, 7, 7, 7, 7, 7, 7, 7, 7, 7, 7, 7, 8, 8, 8, 8, 8, 8, 8, 8, 8, 8, 8, 8, 8, 8, 8, 8, 8, 8, 8, 8, 8, 8, 8, 8, 8, 8, 8, 8, 8, 8, 8, 8, 8, 8, 8, 8, 8, 8, 8, 8, 8, 8, 8, 8, 8, 8, 8, 8, 8, 8, 8, 8, 8, 8, 8, 8, 8, 8, 8, 8, 8, 8, 8, 8, 8, 8, 8, 8, 8, 8, 8, 8, 8, 8, 8, 8, 8, 8, 8, 8, 8, 8, 8, 8, 8, 8, 8, 8, 8, 8, 8, 8, 8, 8, 8, 8, 8, 8, 8, 8, 8, 8, 8, 8, 8, 8, 8, 8, 8, 8, 8, 8, 8, 8, 8, 8, 8, 8, 8, 8, 8, 8, 8, 8, 8, 8, 8, 8]) v0)) ∧ R (rV (uI (0 + (sbyte (strB [0, 1, 2, 2, 3, 3, 3, 3, 4, 4, 4, 4, 4, 4, 4, 4, 5, 5, 5, 5, 5, 5, 5, 5, 5, 5, 5, 5, 5, 5, 5, 5, 6, 6, 6, 6, 6, 6, 6, 6, 6, 6, 6, 6, 6, 6, 6, 6, 6, 6, 6, 6, 6, 6, 6, 6, 6, 6, 6, 6, 6, 6, 6, 6, 7, 7, 7, 7, 7, 7, 7, 7, 7, 7, 7, 7, 7, 7, 7, 7, 7, 7, 7, 7, 7, 7, 7, 7, 7, 7, 7, 7, 7, 7, 7, 7, 7, 7, 7, 7, 7, 7, 7, 7, 7, 7, 7, 7, 7, 7, 7, 7, 7, 7, 7, 7, 7, 7, 7, 7, 7, 7, 7, 7, 7, 7, 7, 7, 8, 8, 8, 8, 8, 8, 8, 8, 8, 8, 8, 8, 8, 8, 8, 8, 8, 8, 8, 8, 8, 8, 8, 8, 8, 8, 8, 8, 8, 8, 8, 8, 8, 8, 8, 8, 8, 8, 8, 8, 8, 8, 8, 8, 8, 8, 8, 8, 8, 8, 8, 8, 8, 8, 8, 8, 8, 8, 8, 8, 8, 8, 8, 8, 8, 8, 8, 8, 8, 8, 8, 8, 8, 8, 8, 8, 8, 8, 8, 8, 8, 8, 8, 8, 8, 8, 8, 8, 8, 8, 8, 8, 8, 8, 8, 8, 8, 8, 8, 8, 8, 8, 8, 8, 8, 8, 8, 8, 8, 8, 8, 8, 8, 8, 8, 8, 8, 8, 8, 8, 8, 8, 8, 8, 8, 8, 8, 8]) v0)))) V)))
theorem x145 {v0 : Int} {V : Mem} {R : RP} (h : w145 v0 V R) : TT 145 #[.int .u64 v0] V R :=
 tri_dx Tryz.func145 [] [] false (by kernel_rfl) (by kernel_rfl) h
/- heartwood/invariant.times -/
def w146 (v0 v1 : Int) (V : Mem) (R : RP) : Prop :=
 TT 201 #[uI v0] V fun e V1 => ∃ v2, e = rV (.int .u64 v2) ∧
 TT 201 #[uI v1] V1 fun e V2 => ∃ v3, e = rV (.int .u64 v3) ∧
 TT 202 #[.int .u64 v2, .int .u64 v3] V2 fun e V3 => ∃ v4 v5, e = rT #[.int .u64 v4, .int .u64 v5] ∧
 Br (v4 = 0)
 (Br (1099511627776 < v5)
 (GenK Tryz.prog (.makeInterface 133 (.tmp 24)) 20 (gv [(24, uA #[uI 5])]) V3 fun x V4 => ∃ v6, K.r.ok v6 ∧ x = v6 ∧
 ∃ t x, K.cast .r v6 = .iface t x ∧ R (.panicked [{ v := .iface t x, recovered := false }]) V4)
 (IR (v0 * v1) ∧ R (rV (uI (v0 * v1))) V3))
 (GenK Tryz.prog (.makeInterface 133 (.tmp 24)) 20 (gv [(24, uA #[uI 5])]) V3 fun x V4 => ∃ v6, K.r.ok v6 ∧ x = v6 ∧
 ∃ t x, K.cast .r v6 = .iface t x ∧ R (.panicked [{ v := .iface t x, recovered := false }]) V4)
theorem x146 {v0 v1 : Int} {V : Mem} {R : RP} (h : w146 v0 v1 V R) : TT 146 #[uI v0, uI v1] V R :=
 tri_dx Tryz.func146 [] [] false (by kernel_rfl) (by kernel_rfl) h
/- heartwood/invariant.truth -/
def w147 (v0 : Bool) (V : Mem) (R : RP) : Prop :=
 Br (v0 = true)
 (R (rV (uI 1)) V)
 (R (rV (uI 0)) V)
theorem x147 {v0 : Bool} {V : Mem} {R : RP} (h : w147 v0 V R) : TT 147 #[uB v0] V R :=
 tri_dx Tryz.func147 [] [] false (by kernel_rfl) (by kernel_rfl) h
/- heartwood/heartwoodref09.Parts -/
def w152 (v0 : ByteArray) (V : Mem) (R : RP) : Prop :=
 Br (v0 = (strB []))
 (R (rV (uB false)) V)
 (Br (40 < (v0.size : Int))
 (R (rV (uB false)) V)
 ((0 ≤ (0 : Int) ∧ (0 : Int) < (v0.size : Int)) ∧ TT 203 #[.int .u8 (sbyte v0 (0 : Int))] V fun e V1 => ∃ v1, e = rV (uI v1) ∧
 Br (v1 = 2)
 (TT 204 #[uS v0] V1 fun e V2 => ∃ v2, e = rV (uB v2) ∧
 Br (v2 = true)
 (R (rV (uB false)) V2)
 (∃ (I : Nat → List Value → Mem → Prop) (n0 : Nat), I n0 [uB false, uI 0] V2 ∧ ∀ n V3, ∀ v3 v4, I n [uB v3, uI v4] V3 → ∀ J0 : List Value → Mem → Prop, (∀ m ys V'', m < n → I m ys V'' → J0 ys V'') →
 Br (v4 < (v0.size : Int))
 ((0 ≤ v4 ∧ v4 < (v0.size : Int)) ∧ TT 203 #[.int .u8 (sbyte v0 v4)] V3 fun e V4 => ∃ v5, e = rV (uI v5) ∧
 Br (v5 < 2)
 (R (rV (uB false)) V4)
 (IR (v4 + 1) ∧ J0 [uB v3, uI (v4 + 1)] V4))
 (R (rV (uB true)) V3)))
 (R (rV (uB false)) V1)))
theorem x152 {v0 : ByteArray} {V : Mem} {R : RP} (h : w152 v0 V R) : TT 152 #[uS v0] V R :=
 tri_dx Tryz.func152 [] [] false (by kernel_rfl) (by kernel_rfl) h
/- heartwood/ast.fields -/
def w153 (v0 : Sl) (v1 : Int) (V : Mem) (R : RP) : Prop :=
 Br ((v0.n : Int) ≤ v1)
 (TT 168 #[uL v0, .func (.func 205) #[] #[]] V fun e V1 => ∃ v2, e = rV (uB v2) ∧
 R (rV (uB (!v2))) V1)
 (R (rV (uB false)) V)
theorem x153 {v0 : Sl} {v1 : Int} {V : Mem} {R : RP} (h : w153 v0 v1 V R) : TT 153 #[uL v0, uI v1] V R :=
 tri_dx Tryz.func153 [] [] false (by kernel_rfl) (by kernel_rfl) h
/- heartwood/ast.formulas -/
def w154 (v0 : ByteArray) (v1 v2 v3 v4 v5 v6 v7 : Sl) (V : Mem) (R : RP) : Prop :=
 GenK Tryz.prog (.call { callee := (.builtin .max), args := #[(.tmp 11), (.tmp 14), (.tmp 17), (.tmp 20)], argTypes := #[3, 3, 3, 3] }) 3 (gv [(11, uI (v4.n : Int)), (14, uI (v5.n : Int)), (17, uI (v6.n : Int)), (20, uI (v7.n : Int))]) V fun x V1 => ∃ v8, x = uI v8 ∧
 Br (12 < v8)
 (R (rV (uB false)) V1)
 (∃ (I : Nat → List Value → Mem → Prop) (n0 : Nat), I n0 [uB false, uI 0] V1 ∧ ∀ n V2, ∀ v9 v10, I n [uB v9, uI v10] V2 → ∀ J0 : List Value → Mem → Prop, (∀ m ys V'', m < n → I m ys V'' → J0 ys V'') →
 Br (v10 < (v4.n : Int))
 (¬ v4.p = none ∧ 0 ≤ v10 ∧ v10 < (v4.n : Int) ∧ ∃ v11 v12 v13 v14 v15 v16 v17, V2.rowp v4.p (v10.toNat * 7) 7 = some [uS v11, uS v12, uI v13, uI v14, uI v15, uS v16, uL v17] ∧
 TT 152 #[uS v11] V2 fun e V3 => ∃ v18, e = rV (uB v18) ∧
 Br (v18 = true)
 (TT 152 #[uS v12] V3 fun e V4 => ∃ v19, e = rV (uB v19) ∧
 Br (v19 = true)
 (Br (v13 < (-1099511627776))
 (R (rV (uB false)) V4)
 (Br (1099511627776 < v13)
 (R (rV (uB false)) V4)
 (TT 59 #[uA #[uI v14, uI v15, uS v16, uL v17]] V4 fun e V5 => ∃ v20, e = rV (uB v20) ∧
 Br (v20 = true)
 (IR (v10 + 1) ∧ J0 [uB v9, uI (v10 + 1)] V5)
 (R (rV (uB false)) V5))))
 (R (rV (uB false)) V4))
 (R (rV (uB false)) V3))
 (∃ (I : Nat → List Value → Mem → Prop) (n0 : Nat), I n0 [uB v9, uI 0] V2 ∧ ∀ n V3, ∀ v11 v12, I n [uB v11, uI v12] V3 → ∀ J1 : List Value → Mem → Prop, (∀ m ys V'', m < n → I m ys V'' → J1 ys V'') →
 Br (v12 < (v5.n : Int))
 (¬ v5.p = none ∧ 0 ≤ v12 ∧ v12 < (v5.n : Int) ∧ ∃ v13 v14 v15 v16 v17 v18, V3.rowp v5.p (v12.toNat * 6) 6 = some [uS v13, uS v14, uI v15, uI v16, uS v17, uL v18] ∧
 TT 152 #[uS v13] V3 fun e V4 => ∃ v19, e = rV (uB v19) ∧
 Br (v19 = true)
 (TT 207 #[uS v14] V4 fun e V5 => ∃ v20, e = rV (uB v20) ∧
 Br (v20 = true)
 (TT 59 #[uA #[uI v15, uI v16, uS v17, uL v18]] V5 fun e V6 => ∃ v21, e = rV (uB v21) ∧
 Br (v21 = true)
 (IR (v12 + 1) ∧ J1 [uB v11, uI (v12 + 1)] V6)
 (R (rV (uB false)) V6))
 (R (rV (uB false)) V5))
 (R (rV (uB false)) V4))
 (∃ (I : Nat → List Value → Mem → Prop) (n0 : Nat), I n0 [uB v11, uI 0] V3 ∧ ∀ n V4, ∀ v13 v14, I n [uB v13, uI v14] V4 → ∀ J2 : List Value → Mem → Prop, (∀ m ys V'', m < n → I m ys V'' → J2 ys V'') →
 Br (v14 < (v6.n : Int))
 (¬ v6.p = none ∧ 0 ≤ v14 ∧ v14 < (v6.n : Int) ∧ ∃ v15 v16 v17 v18 v19, V4.rowp v6.p (v14.toNat * 5) 5 = some [uS v15, uI v16, uI v17, uS v18, uL v19] ∧
 TT 207 #[uS v15] V4 fun e V5 => ∃ v20, e = rV (uB v20) ∧
 Br (v20 = true)
 (TT 59 #[uA #[uI v16, uI v17, uS v18, uL v19]] V5 fun e V6 => ∃ v21, e = rV (uB v21) ∧
 Br (v21 = true)
 (IR (v14 + 1) ∧ J2 [uB v13, uI (v14 + 1)] V6)
 (R (rV (uB false)) V6))
 (R (rV (uB false)) V5))
 (TT 208 #[uL v7, .func (.func 209) #[] #[]] V4 fun e V5 => ∃ v15, e = rV (uB v15) ∧
 R (rV (uB (!v15))) V5))))
theorem x154 {v0 : ByteArray} {v1 v2 v3 v4 v5 v6 v7 : Sl} {V : Mem} {R : RP} (h : w154 v0 v1 v2 v3 v4 v5 v6 v7 V R) : TT 154 #[uA #[uS v0, uL v1, uL v2, uL v3, uL v4, uL v5, uL v6, uL v7]] V R :=
 tri_dx Tryz.func154 [] [] false (by kernel_rfl) (by kernel_rfl) h
/- slices.ContainsFunc[[]heartwood/api.NodeType,heartwood/api.NodeType] -/
def w155 (v0 : Sl) (v1 : Value) (V : Mem) (R : RP) : Prop :=
 TT 210 #[uL v0, K.cast .f v1] V fun e V1 => ∃ v2, e = rV (uI v2) ∧
 R (rV (uB (decide (0 ≤ v2)))) V1
theorem x155 {v0 : Sl} {v1 : Value} {V : Mem} {R : RP} (h : w155 v0 v1 V R) : TT 155 #[uL v0, K.cast .f v1] V R :=
 tri_dr Tryz.func155 [] [] false [uL v0, v1] (by kernel_rfl) (by kernel_rfl) h
/- heartwood/ast.Valid$1 -/
def w156 (v0 : ByteArray) (v1 : Sl) (V : Mem) (R : RP) : Prop :=
 TT 152 #[uS v0] V fun e V1 => ∃ v2, e = rV (uB v2) ∧
 Br (v2 = true)
 (TT 153 #[uL v1, uI 12] V1 fun e V2 => ∃ v3, e = rV (uB v3) ∧
 R (rV (uB (!v3))) V2)
 (R (rV (uB true)) V1)
theorem x156 {v0 : ByteArray} {v1 : Sl} {V : Mem} {R : RP} (h : w156 v0 v1 V R) : TT 156 #[uA #[uS v0, uL v1]] V R :=
 tri_dx Tryz.func156 [] [] false (by kernel_rfl) (by kernel_rfl) h
/- slices.ContainsFunc[[]heartwood/api.Proc,heartwood/api.Proc] -/
def w157 (v0 : Sl) (v1 : Value) (V : Mem) (R : RP) : Prop :=
 TT 211 #[uL v0, K.cast .f v1] V fun e V1 => ∃ v2, e = rV (uI v2) ∧
 R (rV (uB (decide (0 ≤ v2)))) V1
theorem x157 {v0 : Sl} {v1 : Value} {V : Mem} {R : RP} (h : w157 v0 v1 V R) : TT 157 #[uL v0, K.cast .f v1] V R :=
 tri_dr Tryz.func157 [] [] false [uL v0, v1] (by kernel_rfl) (by kernel_rfl) h
/- heartwood/ast.Valid$2 -/
def w158 (v0 : ByteArray) (v1 : Sl) (v2 : ByteArray) (v3 v4 : Sl) (V : Mem) (R : RP) : Prop :=
 TT 159 #[uA #[uS v0, uL v1, uS v2, uL v3, uL v4]] V fun e V1 => ∃ v5, e = rV (uB v5) ∧
 R (rV (uB (!v5))) V1
theorem x158 {v0 : ByteArray} {v1 : Sl} {v2 : ByteArray} {v3 v4 : Sl} {V : Mem} {R : RP} (h : w158 v0 v1 v2 v3 v4 V R) : TT 158 #[uA #[uS v0, uL v1, uS v2, uL v3, uL v4]] V R :=
 tri_dx Tryz.func158 [] [] false (by kernel_rfl) (by kernel_rfl) h
/- heartwood/ast.procedure -/
def w159 (v0 : ByteArray) (v1 : Sl) (v2 : ByteArray) (v3 v4 : Sl) (V : Mem) (R : RP) : Prop :=
 TT 152 #[uS v0] V fun e V1 => ∃ v5, e = rV (uB v5) ∧
 Br (v5 = true)
 (TT 153 #[uL v1, uI 6] V1 fun e V2 => ∃ v6, e = rV (uB v6) ∧
 Br (v6 = true)
 (TT 153 #[uL v3, uI 12] V2 fun e V3 => ∃ v7, e = rV (uB v7) ∧
 Br (v7 = true)
 (Br (v2 = (strB []))
 (PubT [uI 200] 159 V3 fun v8 V4 =>
 TT 212 #[uL v4, uI 1, uP (ptrAdd v8 0)] V4 fun e V5 => ∃ v9, e = rV (uB v9) ∧
 R (rV (uB v9)) V5)
 (TT 206 #[uS v2] V3 fun e V4 => ∃ v8, e = rV (uB v8) ∧
 Br (v8 = true)
 (PubT [uI 200] 159 V4 fun v9 V5 =>
 TT 212 #[uL v4, uI 1, uP (ptrAdd v9 0)] V5 fun e V6 => ∃ v10, e = rV (uB v10) ∧
 R (rV (uB v10)) V6)
 (R (rV (uB false)) V4)))
 (R (rV (uB false)) V3))
 (R (rV (uB false)) V2))
 (R (rV (uB false)) V1)
theorem x159 {v0 : ByteArray} {v1 : Sl} {v2 : ByteArray} {v3 v4 : Sl} {V : Mem} {R : RP} (h : w159 v0 v1 v2 v3 v4 V R) : TT 159 #[uA #[uS v0, uL v1, uS v2, uL v3, uL v4]] V R :=
 tri_dx Tryz.func159 [] [] false (by kernel_rfl) (by kernel_rfl) h
/- slices.Backward[[]heartwood/api.NodeType,heartwood/api.NodeType] -/
def w160 (v0 : Sl) (V : Mem) (R : RP) : Prop :=
 PubT [uL v0] 22 V fun v1 V1 =>
 R (rV (.func (.func 213) #[] #[uP (ptrAdd v1 0)])) V1
theorem x160 {v0 : Sl} {V : Mem} {R : RP} (h : w160 v0 V R) : TT 160 #[uL v0] V R :=
 tri_dx Tryz.func160 [] [] false (by kernel_rfl) (by kernel_rfl) h
/- slices.Backward[[]heartwood/api.Proc,heartwood/api.Proc] -/
def w161 (v0 : Sl) (V : Mem) (R : RP) : Prop :=
 PubT [uL v0] 24 V fun v1 V1 =>
 R (rV (.func (.func 214) #[] #[uP (ptrAdd v1 0)])) V1
theorem x161 {v0 : Sl} {V : Mem} {R : RP} (h : w161 v0 V R) : TT 161 #[uL v0] V R :=
 tri_dx Tryz.func161 [] [] false (by kernel_rfl) (by kernel_rfl) h
/- (*heartwood/typecheck.checker).types1 -/
def w162 (v0 : Option Addr) (V : Mem) (R : RP) : Prop :=
 ¬ v0 = none ∧ ¬ v0 = none ∧ ¬ (ptrAdd v0 0) = none ∧ ∃ v1, V.rowp v0 ((1 : Int).toNat * 1) 1 = some [uL v1] ∧
 ∃ (I : Nat → List Value → Mem → Prop) (n0 : Nat), I n0 [uP none, uI 0] V ∧ ∀ n V1, ∀ v2 v3, I n [uP v2, uI v3] V1 → ∀ J0 : List Value → Mem → Prop, (∀ m ys V'', m < n → I m ys V'' → J0 ys V'') →
 Br (v3 < (v1.n : Int))
 (¬ v1.p = none ∧ 0 ≤ v3 ∧ v3 < (v1.n : Int) ∧ ∃ v4 v5, V1.rowp v1.p (v3.toNat * 2) 2 = some [uS v4, uL v5] ∧
 ¬ v0 = none ∧ ¬ v0 = none ∧ ¬ (ptrAdd v0 0) = none ∧ ∃ v6, V1.rowp v0 ((1 : Int).toNat * 1) 1 = some [uL v6] ∧
 TT 215 #[uL v6, uI v3, .func (.func 216) #[] #[]] V1 fun e V2 => ∃ v7, e = rV (uB v7) ∧
 Br (v7 = true)
 (PubT [uS v4, uI (-1), uI 10] 195 V2 fun v8 V3 =>
 R (rV (uP (ptrAdd v8 0))) V3)
 (IR (v3 + 1) ∧ J0 [uP v2, uI (v3 + 1)] V2))
 (¬ v0 = none ∧ ¬ v0 = none ∧ ¬ (ptrAdd v0 0) = none ∧ ∃ v4, V1.rowp v0 ((1 : Int).toNat * 1) 1 = some [uL v4] ∧
 ∃ (I : Nat → List Value → Mem → Prop) (n0 : Nat), I n0 [uP v2, uI 0] V1 ∧ ∀ n V2, ∀ v5 v6, I n [uP v5, uI v6] V2 → ∀ J1 : List Value → Mem → Prop, (∀ m ys V'', m < n → I m ys V'' → J1 ys V'') →
 Br (v6 < (v4.n : Int))
 (¬ v4.p = none ∧ 0 ≤ v6 ∧ v6 < (v4.n : Int) ∧ ∃ v7 v8, V2.rowp v4.p (v6.toNat * 2) 2 = some [uS v7, uL v8] ∧
 TT 217 #[uP v0, uL v8] V2 fun e V3 => ∃ v9, e = rV (uI v9) ∧
 Br (v9 = 0)
 (IR (v6 + 1) ∧ J1 [uP v5, uI (v6 + 1)] V3)
 (PubT [uS v7, uI (-1), uI v9] 195 V3 fun v10 V4 =>
 R (rV (uP (ptrAdd v10 0))) V4))
 (¬ v0 = none ∧ ¬ v0 = none ∧ ¬ (ptrAdd v0 0) = none ∧ ∃ v7, V2.rowp v0 ((2 : Int).toNat * 1) 1 = some [uL v7] ∧
 ∃ (I : Nat → List Value → Mem → Prop) (n0 : Nat), I n0 [uP v5, uI 0] V2 ∧ ∀ n V3, ∀ v8 v9, I n [uP v8, uI v9] V3 → ∀ J2 : List Value → Mem → Prop, (∀ m ys V'', m < n → I m ys V'' → J2 ys V'') →
 Br (v9 < (v7.n : Int))
 (¬ v7.p = none ∧ 0 ≤ v9 ∧ v9 < (v7.n : Int) ∧ ∃ v10 v11, V3.rowp v7.p (v9.toNat * 2) 2 = some [uS v10, uS v11] ∧
 ¬ v0 = none ∧ ¬ v0 = none ∧ ¬ (ptrAdd v0 0) = none ∧ ∃ v12, V3.rowp v0 ((2 : Int).toNat * 1) 1 = some [uL v12] ∧
 TT 218 #[uL v12, uI v9, .func (.func 219) #[] #[]] V3 fun e V4 => ∃ v13, e = rV (uB v13) ∧
 Br (v13 = true)
 (PubT [uS v10, uI (-1), uI 10] 195 V4 fun v14 V5 =>
 R (rV (uP (ptrAdd v14 0))) V5)
 (TT 220 #[uP v0, uS v11] V4 fun e V5 => ∃ v14, e = rV (uB v14) ∧
 Br (v14 = true)
 (IR (v9 + 1) ∧ J2 [uP v8, uI (v9 + 1)] V5)
 (PubT [uS v10, uI (-1), uI 9] 195 V5 fun v15 V6 =>
 R (rV (uP (ptrAdd v15 0))) V6)))
 (R (rV (uP none)) V3)))
theorem x162 {v0 : Option Addr} {V : Mem} {R : RP} (h : w162 v0 V R) : TT 162 #[uP v0] V R :=
 tri_dx Tryz.func162 [] [] false (by kernel_rfl) (by kernel_rfl) h
/- (*heartwood/typecheck.checker).heads -/
def w163 (v0 : Option Addr) (V : Mem) (R : RP) : Prop :=
 ¬ v0 = none ∧ ¬ v0 = none ∧ ¬ (ptrAdd v0 0) = none ∧ ∃ v1, V.rowp v0 ((3 : Int).toNat * 1) 1 = some [uL v1] ∧
 ∃ (I : Nat → List Value → Mem → Prop) (n0 : Nat), I n0 [uP none, uI 0] V ∧ ∀ n V1, ∀ v2 v3, I n [uP v2, uI v3] V1 → ∀ J0 : List Value → Mem → Prop, (∀ m ys V'', m < n → I m ys V'' → J0 ys V'') →
 Br (v3 < (v1.n : Int))
 (¬ v1.p = none ∧ 0 ≤ v3 ∧ v3 < (v1.n : Int) ∧ ∃ v4 v5 v6 v7 v8, V1.rowp v1.p (v3.toNat * 5) 5 = some [uS v4, uL v5, uS v6, uL v7, uL v8] ∧
 ¬ v0 = none ∧ ¬ v0 = none ∧ ¬ (ptrAdd v0 0) = none ∧ ∃ v9, V1.rowp v0 ((3 : Int).toNat * 1) 1 = some [uL v9] ∧
 TT 221 #[uL v9, uI v3, .func (.func 222) #[] #[]] V1 fun e V2 => ∃ v10, e = rV (uB v10) ∧
 Br (v10 = true)
 (PubT [uS v4, uI (-1), uI 10] 195 V2 fun v11 V3 =>
 R (rV (uP (ptrAdd v11 0))) V3)
 (PubT [uL v5, uL v7] 23 V2 fun v11 V3 =>
 TT 223 #[.slice (ptrAdd v11 0) (2 : Int).toNat (2 : Int).toNat] V3 fun e V4 => ∃ v12, e = rV (uL v12) ∧
 TT 217 #[uP v0, uL v12] V4 fun e V5 => ∃ v13, e = rV (uI v13) ∧
 Br (v13 = 0)
 (Br (v6 = (strB []))
 (IR (v3 + 1) ∧ J0 [uP v2, uI (v3 + 1)] V5)
 (TT 220 #[uP v0, uS v6] V5 fun e V6 => ∃ v14, e = rV (uB v14) ∧
 Br (v14 = true)
 (IR (v3 + 1) ∧ J0 [uP v2, uI (v3 + 1)] V6)
 (PubT [uS v4, uI (-1), uI 9] 195 V6 fun v15 V7 =>
 R (rV (uP (ptrAdd v15 0))) V7)))
 (PubT [uS v4, uI (-1), uI v13] 195 V5 fun v14 V6 =>
 R (rV (uP (ptrAdd v14 0))) V6)))
 (R (rV (uP none)) V1)
theorem x163 {v0 : Option Addr} {V : Mem} {R : RP} (h : w163 v0 V R) : TT 163 #[uP v0] V R :=
 tri_dx Tryz.func163 [] [] false (by kernel_rfl) (by kernel_rfl) h
end Go.Proofs
