/- Part 18 of a proof of a law of this seat: no statement of the seat is proved here. -/
import Derived.Test.YtjnmeimbcljkjaaGreatDoorPart06
import Derived.Test.YtjnmeimbcljkjaaGreatDoorPart17
set_option linter.unusedVariables false
set_option linter.unusedSimpArgs false
namespace Go.Proofs
open Go Go.Sx
set_option maxRecDepth 100000
theorem seg_dx {H : Hint} {N : Nat} {cs : List Code} (slots : List (Nat × T)) {outs : List Nat} (ρ : List Value) {ins : List (Nat × Value)} (hins : ins = slots.map fun x => (x.1, x.2.ev ρ id)) {V : Mem} {R : List Value → Mem → Prop} {q : Prop}
    (hq : q = DT Tryz.prog (fun e V' => ∃ vs : List Value, e = .returned (.tuple vs.toArray) ∧ R vs V') (segT Tryz.prog fs { H with N := N } cs slots ρ.length outs) [] ρ V) (h : q) : Seg Tryz.prog N cs ins outs V R :=
  seg_sound (H := H) calls_ok mixed_ok rfl ρ rfl hins hq h
theorem sego_dx {H : Hint} {N : Nat} {ops : Array Oper} {k m : Nat} (slots : List (Nat × T)) {outs : List Nat} (ρ : List Value) {ins : List (Nat × Value)} (hins : ins = slots.map fun x => (x.1, x.2.ev ρ id)) {V : Mem} {R : List Value → Mem → Prop} {q : Prop}
    (hq : q = DT Tryz.prog (fun e V' => ∃ vs : List Value, e = .returned (.tuple vs.toArray) ∧ R vs V') (segOT Tryz.prog fs { H with N := N } ops k m slots ρ.length outs) [] ρ V) (h : q) : SegO Tryz.prog N ops k m ins outs V R :=
  sego_sound (H := H) calls_ok rfl ρ rfl hins hq h
noncomputable def c184a : List Code := ((subL (bodyOf Tryz.f184) []).drop 0).take 1
def w184a (v0 : Value) (v1 : Option Addr) (V : Mem) (R : Ending → Mem → Prop) : Prop :=
  ∃ v2 : Sl, V.rowp v1 (((0 : Int)).toNat * 1) 1 = some [(.slice v2.p v2.n v2.c)] ∧
  (K.inR .i64 ((v2.n : Int) - (1 : Int))) ∧ R (.returned (.tuple #[(K.cast .f v0), (.pointer v1), (.int .i64 ((v2.n : Int) - (1 : Int)))])) V
theorem s184a {v0 : Value} {v1 : Option Addr} {V : Mem} {R : List Value → Mem → Prop} (h : w184a v0 v1 V (fun e V' => ∃ vs : List Value, e = .returned (.tuple vs.toArray) ∧ R vs V')) : Seg Tryz.prog 19 c184a [(0, (K.cast .f v0)), (1, (.pointer v1))] [0, 1, 3] V R :=
  seg_dx (H := { N := 0, early := [], loops := [], keep := [0, 1, 2, 3, 4, 5, 6, 7, 8, 9, 10, 11, 12, 13, 14, 15, 16, 17, 18] }) [(0, (.var .f 0)), (1, (.var .p 1))] [v0, (.pointer v1)] rfl (by kernel_rfl) h
noncomputable def c184b : List Code := ((subL (bodyOf Tryz.f184) [1, 0, 0, 0]).drop 0).take 1
def w184b (v0 : Value) (v1 : Option Addr) (v2 : Int) (V : Mem) (R : Ending → Mem → Prop) : Prop :=
  R (.returned (.tuple #[(K.cast .f v0), (.pointer v1), (.int .i64 v2), (.bool (decide ((0 : Int) ≤ v2)))])) V
theorem s184b {v0 : Value} {v1 : Option Addr} {v2 : Int} {V : Mem} {R : List Value → Mem → Prop} (h : w184b v0 v1 v2 V (fun e V' => ∃ vs : List Value, e = .returned (.tuple vs.toArray) ∧ R vs V')) : Seg Tryz.prog 19 c184b [(0, (K.cast .f v0)), (1, (.pointer v1)), (3, (.int .i64 v2))] [0, 1, 3, 8] V R :=
  seg_dx (H := { N := 0, early := [], loops := [], keep := [0, 1, 2, 3, 4, 5, 6, 7, 8, 9, 10, 11, 12, 13, 14, 15, 16, 17, 18] }) [(0, (.var .f 0)), (1, (.var .p 1)), (3, (.var (.i .i64) 2))] [v0, (.pointer v1), (.int .i64 v2)] rfl (by kernel_rfl) h
noncomputable def c184c : Array Oper := opsOf ((subL (bodyOf Tryz.f184) [1, 0, 0, 0, 2, 0]).getD 0 .skip)
def w184c (v0 : Value) (v1 : Option Addr) (v2 : Int) (V : Mem) (R : Ending → Mem → Prop) : Prop :=
  ∃ v3 : Sl, V.rowp v1 (((0 : Int)).toNat * 1) 1 = some [(.slice v3.p v3.n v3.c)] ∧
  (¬ (v3.p = none)) ∧ ((0 : Int) ≤ v2) ∧ (v2 < (v3.n : Int)) ∧ ∃ v4 : ByteArray, ∃ v5 : ByteArray, V.rowp v3.p ((v2).toNat * 2) 2 = some [(.string v4), (.string v5)] ∧
  R (.returned (.tuple #[(K.cast .f v0), (.pointer v1), (.int .i64 v2), (K.cast .f v0), (.int .i64 v2), (.agg #[(.string v4), (.string v5)])])) V
theorem s184c {v0 : Value} {v1 : Option Addr} {v2 : Int} {V : Mem} {R : List Value → Mem → Prop} (h : w184c v0 v1 v2 V (fun e V' => ∃ vs : List Value, e = .returned (.tuple vs.toArray) ∧ R vs V')) : SegO Tryz.prog 19 c184c 0 6 [(0, (K.cast .f v0)), (1, (.pointer v1)), (3, (.int .i64 v2))] [0, 1, 3, 11, 12, 16] V R :=
  sego_dx (H := { N := 0, early := [], loops := [], keep := [0, 1, 2, 3, 4, 5, 6, 7, 8, 9, 10, 11, 12, 13, 14, 15, 16, 17, 18] }) [(0, (.var .f 0)), (1, (.var .p 1)), (3, (.var (.i .i64) 2))] [v0, (.pointer v1), (.int .i64 v2)] rfl (by kernel_rfl) h
noncomputable def c184d : Array Oper := opsOf ((subL (bodyOf Tryz.f184) [1, 0, 0, 0, 2, 0]).getD 0 .skip)
def w184d (v0 : Value) (v1 : Option Addr) (v2 : Int) (v3 : Bool) (V : Mem) (R : Ending → Mem → Prop) : Prop :=
  R (.returned (.tuple #[(K.cast .f v0), (.pointer v1), (.int .i64 v2), (.bool (!v3))])) V
theorem s184d {v0 : Value} {v1 : Option Addr} {v2 : Int} {v3 : Bool} {V : Mem} {R : List Value → Mem → Prop} (h : w184d v0 v1 v2 v3 V (fun e V' => ∃ vs : List Value, e = .returned (.tuple vs.toArray) ∧ R vs V')) : SegO Tryz.prog 19 c184d 7 1 [(0, (K.cast .f v0)), (1, (.pointer v1)), (3, (.int .i64 v2)), (17, (.bool v3))] [0, 1, 3, 18] V R :=
  sego_dx (H := { N := 0, early := [], loops := [], keep := [0, 1, 2, 3, 4, 5, 6, 7, 8, 9, 10, 11, 12, 13, 14, 15, 16, 17, 18] }) [(0, (.var .f 0)), (1, (.var .p 1)), (3, (.var (.i .i64) 2)), (17, (.var .b 3))] [v0, (.pointer v1), (.int .i64 v2), (.bool v3)] rfl (by kernel_rfl) h
noncomputable def c184e : List Code := ((subL (bodyOf Tryz.f184) [1, 0, 0, 0]).drop 3).take 1
def w184e (v0 : Value) (v1 : Option Addr) (v2 : Int) (V : Mem) (R : Ending → Mem → Prop) : Prop :=
  (K.inR .i64 (v2 - (1 : Int))) ∧ R (.returned (.tuple #[(K.cast .f v0), (.pointer v1), (.int .i64 (v2 - (1 : Int)))])) V
theorem s184e {v0 : Value} {v1 : Option Addr} {v2 : Int} {V : Mem} {R : List Value → Mem → Prop} (h : w184e v0 v1 v2 V (fun e V' => ∃ vs : List Value, e = .returned (.tuple vs.toArray) ∧ R vs V')) : Seg Tryz.prog 19 c184e [(0, (K.cast .f v0)), (1, (.pointer v1)), (3, (.int .i64 v2))] [0, 1, 3] V R :=
  seg_dx (H := { N := 0, early := [], loops := [], keep := [0, 1, 2, 3, 4, 5, 6, 7, 8, 9, 10, 11, 12, 13, 14, 15, 16, 17, 18] }) [(0, (.var .f 0)), (1, (.var .p 1)), (3, (.var (.i .i64) 2))] [v0, (.pointer v1), (.int .i64 v2)] rfl (by kernel_rfl) h
noncomputable def c129a : List Code := ((subL (bodyOf Tryz.f129) []).drop 0).take 1
def w129a (v0 : Value) (v1 : Option Addr) (V : Mem) (R : Ending → Mem → Prop) : Prop :=
  ∃ v2 : Sl, V.rowp v1 (((0 : Int)).toNat * 1) 1 = some [(.slice v2.p v2.n v2.c)] ∧
  (K.inR .i64 ((v2.n : Int) - (1 : Int))) ∧ R (.returned (.tuple #[(K.cast .f v0), (.pointer v1), (.int .i64 ((v2.n : Int) - (1 : Int)))])) V
theorem s129a {v0 : Value} {v1 : Option Addr} {V : Mem} {R : List Value → Mem → Prop} (h : w129a v0 v1 V (fun e V' => ∃ vs : List Value, e = .returned (.tuple vs.toArray) ∧ R vs V')) : Seg Tryz.prog 19 c129a [(0, (K.cast .f v0)), (1, (.pointer v1))] [0, 1, 3] V R :=
  seg_dx (H := { N := 0, early := [], loops := [], keep := [0, 1, 2, 3, 4, 5, 6, 7, 8, 9, 10, 11, 12, 13, 14, 15, 16, 17, 18] }) [(0, (.var .f 0)), (1, (.var .p 1))] [v0, (.pointer v1)] rfl (by kernel_rfl) h
noncomputable def c129b : List Code := ((subL (bodyOf Tryz.f129) [1, 0, 0, 0]).drop 0).take 1
def w129b (v0 : Value) (v1 : Option Addr) (v2 : Int) (V : Mem) (R : Ending → Mem → Prop) : Prop :=
  R (.returned (.tuple #[(K.cast .f v0), (.pointer v1), (.int .i64 v2), (.bool (decide ((0 : Int) ≤ v2)))])) V
theorem s129b {v0 : Value} {v1 : Option Addr} {v2 : Int} {V : Mem} {R : List Value → Mem → Prop} (h : w129b v0 v1 v2 V (fun e V' => ∃ vs : List Value, e = .returned (.tuple vs.toArray) ∧ R vs V')) : Seg Tryz.prog 19 c129b [(0, (K.cast .f v0)), (1, (.pointer v1)), (3, (.int .i64 v2))] [0, 1, 3, 8] V R :=
  seg_dx (H := { N := 0, early := [], loops := [], keep := [0, 1, 2, 3, 4, 5, 6, 7, 8, 9, 10, 11, 12, 13, 14, 15, 16, 17, 18] }) [(0, (.var .f 0)), (1, (.var .p 1)), (3, (.var (.i .i64) 2))] [v0, (.pointer v1), (.int .i64 v2)] rfl (by kernel_rfl) h
noncomputable def c129c : Array Oper := opsOf ((subL (bodyOf Tryz.f129) [1, 0, 0, 0, 2, 0]).getD 0 .skip)
def w129c (v0 : Value) (v1 : Option Addr) (v2 : Int) (V : Mem) (R : Ending → Mem → Prop) : Prop :=
  ∃ v3 : Sl, V.rowp v1 (((0 : Int)).toNat * 1) 1 = some [(.slice v3.p v3.n v3.c)] ∧
  (¬ (v3.p = none)) ∧ ((0 : Int) ≤ v2) ∧ (v2 < (v3.n : Int)) ∧ ∃ v4 : ByteArray, ∃ v5 : Sl, V.rowp v3.p ((v2).toNat * 2) 2 = some [(.string v4), (.slice v5.p v5.n v5.c)] ∧
  R (.returned (.tuple #[(K.cast .f v0), (.pointer v1), (.int .i64 v2), (K.cast .f v0), (.int .i64 v2), (.agg #[(.string v4), (.slice v5.p v5.n v5.c)])])) V
theorem s129c {v0 : Value} {v1 : Option Addr} {v2 : Int} {V : Mem} {R : List Value → Mem → Prop} (h : w129c v0 v1 v2 V (fun e V' => ∃ vs : List Value, e = .returned (.tuple vs.toArray) ∧ R vs V')) : SegO Tryz.prog 19 c129c 0 6 [(0, (K.cast .f v0)), (1, (.pointer v1)), (3, (.int .i64 v2))] [0, 1, 3, 11, 12, 16] V R :=
  sego_dx (H := { N := 0, early := [], loops := [], keep := [0, 1, 2, 3, 4, 5, 6, 7, 8, 9, 10, 11, 12, 13, 14, 15, 16, 17, 18] }) [(0, (.var .f 0)), (1, (.var .p 1)), (3, (.var (.i .i64) 2))] [v0, (.pointer v1), (.int .i64 v2)] rfl (by kernel_rfl) h
noncomputable def c129d : Array Oper := opsOf ((subL (bodyOf Tryz.f129) [1, 0, 0, 0, 2, 0]).getD 0 .skip)
def w129d (v0 : Value) (v1 : Option Addr) (v2 : Int) (v3 : Bool) (V : Mem) (R : Ending → Mem → Prop) : Prop :=
  R (.returned (.tuple #[(K.cast .f v0), (.pointer v1), (.int .i64 v2), (.bool (!v3))])) V
theorem s129d {v0 : Value} {v1 : Option Addr} {v2 : Int} {v3 : Bool} {V : Mem} {R : List Value → Mem → Prop} (h : w129d v0 v1 v2 v3 V (fun e V' => ∃ vs : List Value, e = .returned (.tuple vs.toArray) ∧ R vs V')) : SegO Tryz.prog 19 c129d 7 1 [(0, (K.cast .f v0)), (1, (.pointer v1)), (3, (.int .i64 v2)), (17, (.bool v3))] [0, 1, 3, 18] V R :=
  sego_dx (H := { N := 0, early := [], loops := [], keep := [0, 1, 2, 3, 4, 5, 6, 7, 8, 9, 10, 11, 12, 13, 14, 15, 16, 17, 18] }) [(0, (.var .f 0)), (1, (.var .p 1)), (3, (.var (.i .i64) 2)), (17, (.var .b 3))] [v0, (.pointer v1), (.int .i64 v2), (.bool v3)] rfl (by kernel_rfl) h
noncomputable def c129e : List Code := ((subL (bodyOf Tryz.f129) [1, 0, 0, 0]).drop 3).take 1
def w129e (v0 : Value) (v1 : Option Addr) (v2 : Int) (V : Mem) (R : Ending → Mem → Prop) : Prop :=
  (K.inR .i64 (v2 - (1 : Int))) ∧ R (.returned (.tuple #[(K.cast .f v0), (.pointer v1), (.int .i64 (v2 - (1 : Int)))])) V
theorem s129e {v0 : Value} {v1 : Option Addr} {v2 : Int} {V : Mem} {R : List Value → Mem → Prop} (h : w129e v0 v1 v2 V (fun e V' => ∃ vs : List Value, e = .returned (.tuple vs.toArray) ∧ R vs V')) : Seg Tryz.prog 19 c129e [(0, (K.cast .f v0)), (1, (.pointer v1)), (3, (.int .i64 v2))] [0, 1, 3] V R :=
  seg_dx (H := { N := 0, early := [], loops := [], keep := [0, 1, 2, 3, 4, 5, 6, 7, 8, 9, 10, 11, 12, 13, 14, 15, 16, 17, 18] }) [(0, (.var .f 0)), (1, (.var .p 1)), (3, (.var (.i .i64) 2))] [v0, (.pointer v1), (.int .i64 v2)] rfl (by kernel_rfl) h
noncomputable def c130a : List Code := ((subL (bodyOf Tryz.f130) []).drop 0).take 1
def w130a (v0 : Value) (v1 : Option Addr) (V : Mem) (R : Ending → Mem → Prop) : Prop :=
  ∃ v2 : Sl, V.rowp v1 (((0 : Int)).toNat * 1) 1 = some [(.slice v2.p v2.n v2.c)] ∧
  (K.inR .i64 ((v2.n : Int) - (1 : Int))) ∧ R (.returned (.tuple #[(K.cast .f v0), (.pointer v1), (.int .i64 ((v2.n : Int) - (1 : Int)))])) V
theorem s130a {v0 : Value} {v1 : Option Addr} {V : Mem} {R : List Value → Mem → Prop} (h : w130a v0 v1 V (fun e V' => ∃ vs : List Value, e = .returned (.tuple vs.toArray) ∧ R vs V')) : Seg Tryz.prog 19 c130a [(0, (K.cast .f v0)), (1, (.pointer v1))] [0, 1, 3] V R :=
  seg_dx (H := { N := 0, early := [], loops := [], keep := [0, 1, 2, 3, 4, 5, 6, 7, 8, 9, 10, 11, 12, 13, 14, 15, 16, 17, 18] }) [(0, (.var .f 0)), (1, (.var .p 1))] [v0, (.pointer v1)] rfl (by kernel_rfl) h
noncomputable def c130b : List Code := ((subL (bodyOf Tryz.f130) [1, 0, 0, 0]).drop 0).take 1
def w130b (v0 : Value) (v1 : Option Addr) (v2 : Int) (V : Mem) (R : Ending → Mem → Prop) : Prop :=
  R (.returned (.tuple #[(K.cast .f v0), (.pointer v1), (.int .i64 v2), (.bool (decide ((0 : Int) ≤ v2)))])) V
theorem s130b {v0 : Value} {v1 : Option Addr} {v2 : Int} {V : Mem} {R : List Value → Mem → Prop} (h : w130b v0 v1 v2 V (fun e V' => ∃ vs : List Value, e = .returned (.tuple vs.toArray) ∧ R vs V')) : Seg Tryz.prog 19 c130b [(0, (K.cast .f v0)), (1, (.pointer v1)), (3, (.int .i64 v2))] [0, 1, 3, 8] V R :=
  seg_dx (H := { N := 0, early := [], loops := [], keep := [0, 1, 2, 3, 4, 5, 6, 7, 8, 9, 10, 11, 12, 13, 14, 15, 16, 17, 18] }) [(0, (.var .f 0)), (1, (.var .p 1)), (3, (.var (.i .i64) 2))] [v0, (.pointer v1), (.int .i64 v2)] rfl (by kernel_rfl) h
noncomputable def c130c : Array Oper := opsOf ((subL (bodyOf Tryz.f130) [1, 0, 0, 0, 2, 0]).getD 0 .skip)
def w130c (v0 : Value) (v1 : Option Addr) (v2 : Int) (V : Mem) (R : Ending → Mem → Prop) : Prop :=
  ∃ v3 : Sl, V.rowp v1 (((0 : Int)).toNat * 1) 1 = some [(.slice v3.p v3.n v3.c)] ∧
  (¬ (v3.p = none)) ∧ ((0 : Int) ≤ v2) ∧ (v2 < (v3.n : Int)) ∧ ∃ v4 : ByteArray, ∃ v5 : Sl, ∃ v6 : ByteArray, ∃ v7 : Sl, ∃ v8 : Sl, V.rowp v3.p ((v2).toNat * 5) 5 = some [(.string v4), (.slice v5.p v5.n v5.c), (.string v6), (.slice v7.p v7.n v7.c), (.slice v8.p v8.n v8.c)] ∧
  R (.returned (.tuple #[(K.cast .f v0), (.pointer v1), (.int .i64 v2), (K.cast .f v0), (.int .i64 v2), (.agg #[(.string v4), (.slice v5.p v5.n v5.c), (.string v6), (.slice v7.p v7.n v7.c), (.slice v8.p v8.n v8.c)])])) V
theorem s130c {v0 : Value} {v1 : Option Addr} {v2 : Int} {V : Mem} {R : List Value → Mem → Prop} (h : w130c v0 v1 v2 V (fun e V' => ∃ vs : List Value, e = .returned (.tuple vs.toArray) ∧ R vs V')) : SegO Tryz.prog 19 c130c 0 6 [(0, (K.cast .f v0)), (1, (.pointer v1)), (3, (.int .i64 v2))] [0, 1, 3, 11, 12, 16] V R :=
  sego_dx (H := { N := 0, early := [], loops := [], keep := [0, 1, 2, 3, 4, 5, 6, 7, 8, 9, 10, 11, 12, 13, 14, 15, 16, 17, 18] }) [(0, (.var .f 0)), (1, (.var .p 1)), (3, (.var (.i .i64) 2))] [v0, (.pointer v1), (.int .i64 v2)] rfl (by kernel_rfl) h
noncomputable def c130d : Array Oper := opsOf ((subL (bodyOf Tryz.f130) [1, 0, 0, 0, 2, 0]).getD 0 .skip)
def w130d (v0 : Value) (v1 : Option Addr) (v2 : Int) (v3 : Bool) (V : Mem) (R : Ending → Mem → Prop) : Prop :=
  R (.returned (.tuple #[(K.cast .f v0), (.pointer v1), (.int .i64 v2), (.bool (!v3))])) V
theorem s130d {v0 : Value} {v1 : Option Addr} {v2 : Int} {v3 : Bool} {V : Mem} {R : List Value → Mem → Prop} (h : w130d v0 v1 v2 v3 V (fun e V' => ∃ vs : List Value, e = .returned (.tuple vs.toArray) ∧ R vs V')) : SegO Tryz.prog 19 c130d 7 1 [(0, (K.cast .f v0)), (1, (.pointer v1)), (3, (.int .i64 v2)), (17, (.bool v3))] [0, 1, 3, 18] V R :=
  sego_dx (H := { N := 0, early := [], loops := [], keep := [0, 1, 2, 3, 4, 5, 6, 7, 8, 9, 10, 11, 12, 13, 14, 15, 16, 17, 18] }) [(0, (.var .f 0)), (1, (.var .p 1)), (3, (.var (.i .i64) 2)), (17, (.var .b 3))] [v0, (.pointer v1), (.int .i64 v2), (.bool v3)] rfl (by kernel_rfl) h
noncomputable def c130e : List Code := ((subL (bodyOf Tryz.f130) [1, 0, 0, 0]).drop 3).take 1
def w130e (v0 : Value) (v1 : Option Addr) (v2 : Int) (V : Mem) (R : Ending → Mem → Prop) : Prop :=
  (K.inR .i64 (v2 - (1 : Int))) ∧ R (.returned (.tuple #[(K.cast .f v0), (.pointer v1), (.int .i64 (v2 - (1 : Int)))])) V
theorem s130e {v0 : Value} {v1 : Option Addr} {v2 : Int} {V : Mem} {R : List Value → Mem → Prop} (h : w130e v0 v1 v2 V (fun e V' => ∃ vs : List Value, e = .returned (.tuple vs.toArray) ∧ R vs V')) : Seg Tryz.prog 19 c130e [(0, (K.cast .f v0)), (1, (.pointer v1)), (3, (.int .i64 v2))] [0, 1, 3] V R :=
  seg_dx (H := { N := 0, early := [], loops := [], keep := [0, 1, 2, 3, 4, 5, 6, 7, 8, 9, 10, 11, 12, 13, 14, 15, 16, 17, 18] }) [(0, (.var .f 0)), (1, (.var .p 1)), (3, (.var (.i .i64) 2))] [v0, (.pointer v1), (.int .i64 v2)] rfl (by kernel_rfl) h
noncomputable def c113a : List Code := ((subL (bodyOf Tryz.f113) []).drop 0).take 3
def w113a (v0 : Option Addr) (v1 : Bool) (v2 : Sl) (V : Mem) (R : Ending → Mem → Prop) : Prop :=
  GenK Tryz.prog (.makeMap 117 none) 117 (gval [] [(.pointer v0), (.bool v1), (.slice v2.p v2.n v2.c)]) V fun x V1 => ∃ v3 : Option Nat, x = (.map v3) ∧
  (¬ (v0 = none)) ∧ (¬ (v0 = none)) ∧ (¬ ((ptrAdd v0 0) = none)) ∧ ∃ v4 : Sl, V1.rowp v0 (((2 : Int)).toNat * 1) 1 = some [(.slice v4.p v4.n v4.c)] ∧
  Tri Tryz.prog 158 #[(.slice v4.p v4.n v4.c)] V1 fun e V2 => ∃ v5 : Value, K.f.ok v5 ∧ e = .returned v5 ∧
  PubT [(.pointer none), (.map none), (.bool false)] 119 V2 fun v6 V3 =>
  PubT [(.pointer v0), (.map v3), (.bool v1)] 119 V3 fun v7 V4 =>
  R (.returned (.tuple #[(.pointer v0), (.bool v1), (.slice v2.p v2.n v2.c), (.pointer (ptrAdd v6 0)), (.pointer (ptrAdd v7 0)), (K.cast .f v5)])) V4
theorem s113a {v0 : Option Addr} {v1 : Bool} {v2 : Sl} {V : Mem} {R : List Value → Mem → Prop} (h : w113a v0 v1 v2 V (fun e V' => ∃ vs : List Value, e = .returned (.tuple vs.toArray) ∧ R vs V')) : Seg Tryz.prog 63 c113a [(0, (.pointer v0)), (1, (.bool v1)), (2, (.slice v2.p v2.n v2.c))] [0, 1, 2, 6, 7, 24] V R :=
  seg_dx (H := { N := 0, early := [], loops := [], keep := [0, 1, 2, 3, 4, 5, 6, 7, 8, 9, 10, 11, 12, 13, 14, 15, 16, 17, 18, 19, 20, 21, 22, 23, 24, 25, 26, 27, 28, 29, 30, 31, 32, 33, 34, 35, 36, 37, 38, 39, 40, 41, 42, 43, 44, 45, 46, 47, 48, 49, 50, 51, 52, 53, 54, 55, 56, 57, 58, 59, 60, 61, 62] }) [(0, (.var .p 0)), (1, (.var .b 1)), (2, (.var .sl 2))] [(.pointer v0), (.bool v1), (.slice v2.p v2.n v2.c)] rfl (by kernel_rfl) h
noncomputable def c113b : List Code := ((subL (bodyOf Tryz.f113) [3, 0, 0, 0]).drop 0).take 1
def w113b (v0 : Option Addr) (v1 : ByteArray) (v2 : ByteArray) (V : Mem) (R : Ending → Mem → Prop) : Prop :=
  PubT [(.string v1), (.string v2)] 67 V fun v3 V1 =>
  R (.returned (.tuple #[(.pointer v0), (.pointer (ptrAdd v3 0))])) V1
theorem s113b {v0 : Option Addr} {v1 : ByteArray} {v2 : ByteArray} {V : Mem} {R : List Value → Mem → Prop} (h : w113b v0 v1 v2 V (fun e V' => ∃ vs : List Value, e = .returned (.tuple vs.toArray) ∧ R vs V')) : Seg Tryz.prog 63 c113b [(7, (.pointer v0)), (26, (.agg #[(.string v1), (.string v2)]))] [7, 9] V R :=
  seg_dx (H := { N := 0, early := [], loops := [], keep := [0, 1, 2, 3, 4, 5, 6, 7, 8, 9, 10, 11, 12, 13, 14, 15, 16, 17, 18, 19, 20, 21, 22, 23, 24, 25, 26, 27, 28, 29, 30, 31, 32, 33, 34, 35, 36, 37, 38, 39, 40, 41, 42, 43, 44, 45, 46, 47, 48, 49, 50, 51, 52, 53, 54, 55, 56, 57, 58, 59, 60, 61, 62] }) [(7, (.var .p 0)), (26, (.agg (.cons (.var .s 1) (.cons (.var .s 2) .nil))))] [(.pointer v0), (.string v1), (.string v2)] rfl (by kernel_rfl) h
noncomputable def c113c : List Code := ((subL (bodyOf Tryz.f113) [3, 0, 0, 1]).drop 0).take 1
def w113c (v0 : Option Addr) (v1 : Option Addr) (V : Mem) (R : Ending → Mem → Prop) : Prop :=
  (¬ (v0 = none)) ∧ ∃ v2 : Option Nat, V.rowp v0 (((1 : Int)).toNat * 1) 1 = some [(.map v2)] ∧
  (¬ (v1 = none)) ∧ ∃ v3 : ByteArray, V.rowp v1 (((0 : Int)).toNat * 1) 1 = some [(.string v3)] ∧
  (¬ (v1 = none)) ∧ ∃ v4 : ByteArray, V.rowp v1 (((1 : Int)).toNat * 1) 1 = some [(.string v4)] ∧
  UpdK Tryz.prog 117 (.map v2) (.string v3) (.string v4) V fun V1 =>
  R (.returned (.tuple #[])) V1
theorem s113c {v0 : Option Addr} {v1 : Option Addr} {V : Mem} {R : List Value → Mem → Prop} (h : w113c v0 v1 V (fun e V' => ∃ vs : List Value, e = .returned (.tuple vs.toArray) ∧ R vs V')) : Seg Tryz.prog 63 c113c [(7, (.pointer v0)), (9, (.pointer v1))] [] V R :=
  seg_dx (H := { N := 0, early := [], loops := [], keep := [0, 1, 2, 3, 4, 5, 6, 7, 8, 9, 10, 11, 12, 13, 14, 15, 16, 17, 18, 19, 20, 21, 22, 23, 24, 25, 26, 27, 28, 29, 30, 31, 32, 33, 34, 35, 36, 37, 38, 39, 40, 41, 42, 43, 44, 45, 46, 47, 48, 49, 50, 51, 52, 53, 54, 55, 56, 57, 58, 59, 60, 61, 62] }) [(7, (.var .p 0)), (9, (.var .p 1))] [(.pointer v0), (.pointer v1)] rfl (by kernel_rfl) h
noncomputable def c113d : List Code := ((subL (bodyOf Tryz.f113) []).drop 4).take 4
def w113d (v0 : Option Addr) (v1 : Bool) (v2 : Sl) (v3 : Option Addr) (v4 : Option Addr) (V : Mem) (R : Ending → Mem → Prop) : Prop :=
  GenK Tryz.prog (.makeMap 193 none) 193 (gval [] [(.pointer v0), (.bool v1), (.slice v2.p v2.n v2.c), (.pointer v3), (.pointer v4)]) V fun x V1 => ∃ v5 : Option Nat, x = (.map v5) ∧
  ∃ (I : Nat → List Value → Mem → Prop) (n0 : Nat), I n0 [(.int .i64 0)] V1 ∧ ∀ n V2, ∀ v6 : Int, I n [(.int .i64 v6)] V2 → ∀ J0 : List Value → Mem → Prop, (∀ m ys V'', m < n → I m ys V'' → J0 ys V'') →
   (v6 < (v2.n : Int) →
    (¬ (v2.p = none)) ∧ ((0 : Int) ≤ v6) ∧ (v6 < (v2.n : Int)) ∧ ∃ v7 : Sl, V2.rowp v2.p ((v6).toNat * 1) 1 = some [(.slice v7.p v7.n v7.c)] ∧
    ∃ (I : Nat → List Value → Mem → Prop) (n0 : Nat), I n0 [(.int .i64 0)] V2 ∧ ∀ n V3, ∀ v8 : Int, I n [(.int .i64 v8)] V3 → ∀ J1 : List Value → Mem → Prop, (∀ m ys V'', m < n → I m ys V'' → J1 ys V'') →
     (v8 < (v7.n : Int) →
      (¬ (v7.p = none)) ∧ ((0 : Int) ≤ v8) ∧ (v8 < (v7.n : Int)) ∧ ∃ v9 : ByteArray, ∃ v10 : ByteArray, V3.rowp v7.p ((v8).toNat * 2) 2 = some [(.string v9), (.string v10)] ∧
      LookK Tryz.prog 193 (.map v5) (.string v9) false V3 fun x => ∃ v11 : Bool, x = (.bool v11) ∧
      (v11 = true →
       (K.inR .i64 (v8 + (1 : Int))) ∧ J1 [(.int .i64 (v8 + (1 : Int)))] V3) ∧ (¬ (v11 = true) →
       (¬ (v4 = none)) ∧ ∃ v12 : Option Nat, V3.rowp v4 (((1 : Int)).toNat * 1) 1 = some [(.map v12)] ∧
       UpdK Tryz.prog 117 (.map v12) (.string v9) (.string v10) V3 fun V4 =>
       UpdK Tryz.prog 193 (.map v5) (.string v9) (.bool true) V4 fun V5 =>
       (K.inR .i64 (v8 + (1 : Int))) ∧ J1 [(.int .i64 (v8 + (1 : Int)))] V5)) ∧ (¬ (v8 < (v7.n : Int)) →
      (K.inR .i64 (v6 + (1 : Int))) ∧ J0 [(.int .i64 (v6 + (1 : Int)))] V3)) ∧ (¬ (v6 < (v2.n : Int)) →
    ∃ v7 : Option Addr, ∃ v8 : Option Nat, ∃ v9 : Bool, V2.rowp v4 (((0 : Int)).toNat * 1) 3 = some [(.pointer v7), (.map v8), (.bool v9)] ∧
    StT v3 0 [(.pointer v7), (.map v8), (.bool v9)] V2 fun V3 =>
    R (.returned (.tuple #[(.pointer v3)])) V3)
theorem s113d {v0 : Option Addr} {v1 : Bool} {v2 : Sl} {v3 : Option Addr} {v4 : Option Addr} {V : Mem} {R : List Value → Mem → Prop} (h : w113d v0 v1 v2 v3 v4 V (fun e V' => ∃ vs : List Value, e = .returned (.tuple vs.toArray) ∧ R vs V')) : Seg Tryz.prog 63 c113d [(0, (.pointer v0)), (1, (.bool v1)), (2, (.slice v2.p v2.n v2.c)), (6, (.pointer v3)), (7, (.pointer v4))] [6] V R :=
  seg_dx (H := { N := 0, early := [], loops := [], keep := [0, 1, 2, 3, 4, 5, 6, 7, 8, 9, 10, 11, 12, 13, 14, 15, 16, 17, 18, 19, 20, 21, 22, 23, 24, 25, 26, 27, 28, 29, 30, 31, 32, 33, 34, 35, 36, 37, 38, 39, 40, 41, 42, 43, 44, 45, 46, 47, 48, 49, 50, 51, 52, 53, 54, 55, 56, 57, 58, 59, 60, 61, 62] }) [(0, (.var .p 0)), (1, (.var .b 1)), (2, (.var .sl 2)), (6, (.var .p 3)), (7, (.var .p 4))] [(.pointer v0), (.bool v1), (.slice v2.p v2.n v2.c), (.pointer v3), (.pointer v4)] rfl (by kernel_rfl) h
noncomputable def c50a : List Code := ((subL (bodyOf Tryz.f50) []).drop 0).take 3
def w50a (v0 : ByteArray) (v1 : Sl) (v2 : Sl) (v3 : Sl) (v4 : Sl) (v5 : Sl) (v6 : Sl) (v7 : Sl) (V : Mem) (R : Ending → Mem → Prop) : Prop :=
  GenK Tryz.prog (.makeMap 113 none) 113 (gval [] [(.string v0), (.slice v1.p v1.n v1.c), (.slice v2.p v2.n v2.c), (.slice v3.p v3.n v3.c), (.slice v4.p v4.n v4.c), (.slice v5.p v5.n v5.c), (.slice v6.p v6.n v6.c), (.slice v7.p v7.n v7.c)]) V fun x V1 => ∃ v8 : Option Nat, x = (.map v8) ∧
  GenK Tryz.prog (.makeMap 114 none) 114 (gval [] [(.string v0), (.slice v1.p v1.n v1.c), (.slice v2.p v2.n v2.c), (.slice v3.p v3.n v3.c), (.slice v4.p v4.n v4.c), (.slice v5.p v5.n v5.c), (.slice v6.p v6.n v6.c), (.slice v7.p v7.n v7.c), (.map v8)]) V1 fun x V2 => ∃ v9 : Option Nat, x = (.map v9) ∧
  Tri Tryz.prog 92 #[(.slice v1.p v1.n v1.c)] V2 fun e V3 => ∃ v10 : Value, K.f.ok v10 ∧ e = .returned v10 ∧
  PubT [(.string v0), (.slice v1.p v1.n v1.c), (.slice v2.p v2.n v2.c), (.slice v3.p v3.n v3.c), (.slice v4.p v4.n v4.c), (.slice v5.p v5.n v5.c), (.slice v6.p v6.n v6.c), (.slice v7.p v7.n v7.c)] 30 V3 fun v11 V4 =>
  PubT [(.string v0), (.slice v1.p v1.n v1.c), (.slice v2.p v2.n v2.c), (.slice v3.p v3.n v3.c), (.slice v4.p v4.n v4.c), (.slice v5.p v5.n v5.c), (.slice v6.p v6.n v6.c), (.slice v7.p v7.n v7.c), (.map v8), (.map v9)] 116 V4 fun v12 V5 =>
  PubT [(.pointer (ptrAdd v12 0))] 99 V5 fun v13 V6 =>
  R (.returned (.tuple #[(.pointer (ptrAdd v11 0)), (.pointer (ptrAdd v13 0)), (K.cast .f v10)])) V6
theorem s50a {v0 : ByteArray} {v1 : Sl} {v2 : Sl} {v3 : Sl} {v4 : Sl} {v5 : Sl} {v6 : Sl} {v7 : Sl} {V : Mem} {R : List Value → Mem → Prop} (h : w50a v0 v1 v2 v3 v4 v5 v6 v7 V (fun e V' => ∃ vs : List Value, e = .returned (.tuple vs.toArray) ∧ R vs V')) : Seg Tryz.prog 38 c50a [(0, (.agg #[(.string v0), (.slice v1.p v1.n v1.c), (.slice v2.p v2.n v2.c), (.slice v3.p v3.n v3.c), (.slice v4.p v4.n v4.c), (.slice v5.p v5.n v5.c), (.slice v6.p v6.n v6.c), (.slice v7.p v7.n v7.c)]))] [1, 3, 15] V R :=
  seg_dx (H := { N := 0, early := [], loops := [], keep := [0, 1, 2, 3, 4, 5, 6, 7, 8, 9, 10, 11, 12, 13, 14, 15, 16, 17, 18, 19, 20, 21, 22, 23, 24, 25, 26, 27, 28, 29, 30, 31, 32, 33, 34, 35, 36, 37] }) [(0, (.agg (.cons (.var .s 0) (.cons (.var .sl 1) (.cons (.var .sl 2) (.cons (.var .sl 3) (.cons (.var .sl 4) (.cons (.var .sl 5) (.cons (.var .sl 6) (.cons (.var .sl 7) .nil))))))))))] [(.string v0), (.slice v1.p v1.n v1.c), (.slice v2.p v2.n v2.c), (.slice v3.p v3.n v3.c), (.slice v4.p v4.n v4.c), (.slice v5.p v5.n v5.c), (.slice v6.p v6.n v6.c), (.slice v7.p v7.n v7.c)] rfl (by kernel_rfl) h
noncomputable def c50b : List Code := ((subL (bodyOf Tryz.f50) [3, 0, 0, 0]).drop 0).take 1
def w50b (v0 : Option Addr) (v1 : ByteArray) (v2 : Sl) (V : Mem) (R : Ending → Mem → Prop) : Prop :=
  PubT [(.string v1), (.slice v2.p v2.n v2.c)] 94 V fun v3 V1 =>
  R (.returned (.tuple #[(.pointer v0), (.pointer (ptrAdd v3 0))])) V1
theorem s50b {v0 : Option Addr} {v1 : ByteArray} {v2 : Sl} {V : Mem} {R : List Value → Mem → Prop} (h : w50b v0 v1 v2 V (fun e V' => ∃ vs : List Value, e = .returned (.tuple vs.toArray) ∧ R vs V')) : Seg Tryz.prog 38 c50b [(3, (.pointer v0)), (17, (.agg #[(.string v1), (.slice v2.p v2.n v2.c)]))] [3, 5] V R :=
  seg_dx (H := { N := 0, early := [], loops := [], keep := [0, 1, 2, 3, 4, 5, 6, 7, 8, 9, 10, 11, 12, 13, 14, 15, 16, 17, 18, 19, 20, 21, 22, 23, 24, 25, 26, 27, 28, 29, 30, 31, 32, 33, 34, 35, 36, 37] }) [(3, (.var .p 0)), (17, (.agg (.cons (.var .s 1) (.cons (.var .sl 2) .nil))))] [(.pointer v0), (.string v1), (.slice v2.p v2.n v2.c)] rfl (by kernel_rfl) h
noncomputable def c50c : List Code := ((subL (bodyOf Tryz.f50) [3, 0, 0, 1]).drop 0).take 1
def w50c (v0 : Option Addr) (v1 : Option Addr) (V : Mem) (R : Ending → Mem → Prop) : Prop :=
  ∃ v2 : Option Addr, V.rowp v0 (((0 : Int)).toNat * 1) 1 = some [(.pointer v2)] ∧
  (¬ (v2 = none)) ∧ (¬ (v2 = none)) ∧ ∃ v3 : Option Nat, V.rowp v2 (((8 : Int)).toNat * 1) 1 = some [(.map v3)] ∧
  (¬ (v1 = none)) ∧ ∃ v4 : ByteArray, V.rowp v1 (((0 : Int)).toNat * 1) 1 = some [(.string v4)] ∧
  ∃ v5 : ByteArray, ∃ v6 : Sl, V.rowp v1 (((0 : Int)).toNat * 1) 2 = some [(.string v5), (.slice v6.p v6.n v6.c)] ∧
  UpdK Tryz.prog 113 (.map v3) (.string v4) (.agg #[(.string v5), (.slice v6.p v6.n v6.c)]) V fun V1 =>
  R (.returned (.tuple #[])) V1
theorem s50c {v0 : Option Addr} {v1 : Option Addr} {V : Mem} {R : List Value → Mem → Prop} (h : w50c v0 v1 V (fun e V' => ∃ vs : List Value, e = .returned (.tuple vs.toArray) ∧ R vs V')) : Seg Tryz.prog 38 c50c [(3, (.pointer v0)), (5, (.pointer v1))] [] V R :=
  seg_dx (H := { N := 0, early := [], loops := [], keep := [0, 1, 2, 3, 4, 5, 6, 7, 8, 9, 10, 11, 12, 13, 14, 15, 16, 17, 18, 19, 20, 21, 22, 23, 24, 25, 26, 27, 28, 29, 30, 31, 32, 33, 34, 35, 36, 37] }) [(3, (.var .p 0)), (5, (.var .p 1))] [(.pointer v0), (.pointer v1)] rfl (by kernel_rfl) h
noncomputable def c50d : List Code := ((subL (bodyOf Tryz.f50) []).drop 4).take 1
def w50d (v0 : Option Addr) (v1 : Option Addr) (V : Mem) (R : Ending → Mem → Prop) : Prop :=
  (¬ (v0 = none)) ∧ ∃ v2 : Sl, V.rowp v0 (((3 : Int)).toNat * 1) 1 = some [(.slice v2.p v2.n v2.c)] ∧
  Tri Tryz.prog 93 #[(.slice v2.p v2.n v2.c)] V fun e V1 => ∃ v3 : Value, K.f.ok v3 ∧ e = .returned v3 ∧
  R (.returned (.tuple #[(.pointer v1), (K.cast .f v3)])) V1
theorem s50d {v0 : Option Addr} {v1 : Option Addr} {V : Mem} {R : List Value → Mem → Prop} (h : w50d v0 v1 V (fun e V' => ∃ vs : List Value, e = .returned (.tuple vs.toArray) ∧ R vs V')) : Seg Tryz.prog 38 c50d [(1, (.pointer v0)), (3, (.pointer v1))] [3, 27] V R :=
  seg_dx (H := { N := 0, early := [], loops := [], keep := [0, 1, 2, 3, 4, 5, 6, 7, 8, 9, 10, 11, 12, 13, 14, 15, 16, 17, 18, 19, 20, 21, 22, 23, 24, 25, 26, 27, 28, 29, 30, 31, 32, 33, 34, 35, 36, 37] }) [(1, (.var .p 0)), (3, (.var .p 1))] [(.pointer v0), (.pointer v1)] rfl (by kernel_rfl) h
noncomputable def c50e : List Code := ((subL (bodyOf Tryz.f50) [5, 0, 0, 0]).drop 0).take 1
def w50e (v0 : Option Addr) (v1 : ByteArray) (v2 : Sl) (v3 : ByteArray) (v4 : Sl) (v5 : Sl) (V : Mem) (R : Ending → Mem → Prop) : Prop :=
  PubT [(.string v1), (.slice v2.p v2.n v2.c), (.string v3), (.slice v4.p v4.n v4.c), (.slice v5.p v5.n v5.c)] 54 V fun v6 V1 =>
  R (.returned (.tuple #[(.pointer v0), (.pointer (ptrAdd v6 0))])) V1
theorem s50e {v0 : Option Addr} {v1 : ByteArray} {v2 : Sl} {v3 : ByteArray} {v4 : Sl} {v5 : Sl} {V : Mem} {R : List Value → Mem → Prop} (h : w50e v0 v1 v2 v3 v4 v5 V (fun e V' => ∃ vs : List Value, e = .returned (.tuple vs.toArray) ∧ R vs V')) : Seg Tryz.prog 38 c50e [(3, (.pointer v0)), (29, (.agg #[(.string v1), (.slice v2.p v2.n v2.c), (.string v3), (.slice v4.p v4.n v4.c), (.slice v5.p v5.n v5.c)]))] [3, 7] V R :=
  seg_dx (H := { N := 0, early := [], loops := [], keep := [0, 1, 2, 3, 4, 5, 6, 7, 8, 9, 10, 11, 12, 13, 14, 15, 16, 17, 18, 19, 20, 21, 22, 23, 24, 25, 26, 27, 28, 29, 30, 31, 32, 33, 34, 35, 36, 37] }) [(3, (.var .p 0)), (29, (.agg (.cons (.var .s 1) (.cons (.var .sl 2) (.cons (.var .s 3) (.cons (.var .sl 4) (.cons (.var .sl 5) .nil)))))))] [(.pointer v0), (.string v1), (.slice v2.p v2.n v2.c), (.string v3), (.slice v4.p v4.n v4.c), (.slice v5.p v5.n v5.c)] rfl (by kernel_rfl) h
noncomputable def c50f : List Code := ((subL (bodyOf Tryz.f50) [5, 0, 0, 1]).drop 0).take 1
def w50f (v0 : Option Addr) (v1 : Option Addr) (V : Mem) (R : Ending → Mem → Prop) : Prop :=
  ∃ v2 : Option Addr, V.rowp v0 (((0 : Int)).toNat * 1) 1 = some [(.pointer v2)] ∧
  (¬ (v2 = none)) ∧ (¬ (v2 = none)) ∧ ∃ v3 : Option Nat, V.rowp v2 (((9 : Int)).toNat * 1) 1 = some [(.map v3)] ∧
  (¬ (v1 = none)) ∧ ∃ v4 : ByteArray, V.rowp v1 (((0 : Int)).toNat * 1) 1 = some [(.string v4)] ∧
  ∃ v5 : ByteArray, ∃ v6 : Sl, ∃ v7 : ByteArray, ∃ v8 : Sl, ∃ v9 : Sl, V.rowp v1 (((0 : Int)).toNat * 1) 5 = some [(.string v5), (.slice v6.p v6.n v6.c), (.string v7), (.slice v8.p v8.n v8.c), (.slice v9.p v9.n v9.c)] ∧
  UpdK Tryz.prog 114 (.map v3) (.string v4) (.agg #[(.string v5), (.slice v6.p v6.n v6.c), (.string v7), (.slice v8.p v8.n v8.c), (.slice v9.p v9.n v9.c)]) V fun V1 =>
  R (.returned (.tuple #[])) V1
theorem s50f {v0 : Option Addr} {v1 : Option Addr} {V : Mem} {R : List Value → Mem → Prop} (h : w50f v0 v1 V (fun e V' => ∃ vs : List Value, e = .returned (.tuple vs.toArray) ∧ R vs V')) : Seg Tryz.prog 38 c50f [(3, (.pointer v0)), (7, (.pointer v1))] [] V R :=
  seg_dx (H := { N := 0, early := [], loops := [], keep := [0, 1, 2, 3, 4, 5, 6, 7, 8, 9, 10, 11, 12, 13, 14, 15, 16, 17, 18, 19, 20, 21, 22, 23, 24, 25, 26, 27, 28, 29, 30, 31, 32, 33, 34, 35, 36, 37] }) [(3, (.var .p 0)), (7, (.var .p 1))] [(.pointer v0), (.pointer v1)] rfl (by kernel_rfl) h
noncomputable def c50g : List Code := ((subL (bodyOf Tryz.f50) []).drop 6).take 1
def w50g (v0 : Option Addr) (V : Mem) (R : Ending → Mem → Prop) : Prop :=
  ∃ v1 : Option Addr, V.rowp v0 (((0 : Int)).toNat * 1) 1 = some [(.pointer v1)] ∧
  R (.returned (.tuple #[(.pointer v1)])) V
theorem s50g {v0 : Option Addr} {V : Mem} {R : List Value → Mem → Prop} (h : w50g v0 V (fun e V' => ∃ vs : List Value, e = .returned (.tuple vs.toArray) ∧ R vs V')) : Seg Tryz.prog 38 c50g [(3, (.pointer v0))] [2] V R :=
  seg_dx (H := { N := 0, early := [], loops := [], keep := [0, 1, 2, 3, 4, 5, 6, 7, 8, 9, 10, 11, 12, 13, 14, 15, 16, 17, 18, 19, 20, 21, 22, 23, 24, 25, 26, 27, 28, 29, 30, 31, 32, 33, 34, 35, 36, 37] }) [(3, (.var .p 0))] [(.pointer v0)] rfl (by kernel_rfl) h
end Go.Proofs
