/- Part 14 of a proof of a law of this seat: no statement of the seat is proved here. -/
import Derived.Test.YtnoompnjibfbfaaGreatDoorPart05
import Derived.Test.YtnoompnjibfbfaaGreatDoorPart13
import Derived.Test.YtnoompnjibfbfaaGreatDoorPart12
set_option linter.unusedVariables false
set_option linter.unusedSimpArgs false
namespace Go.Proofs
open Go Go.Sx
set_option maxRecDepth 100000
set_option linter.unusedVariables false
section
variable {V : Mem} {R : RP}
theorem qBw {H : qFS} {N : Nat} {cs : List Code} (slots : List (Nat × T)) {outs : List Nat} (ρ : List Value) {ins : List (Nat × Value)} (hins : ins = slots.map fun x => (x.1, x.2.ev ρ id)) {V : Mem} {R : List Value -> Mem -> Prop} {q : Prop}
  (hq : q = DT Tryz.prog {} (OV R) (segT Tryz.prog fs { H with N := N } cs slots ρ.length outs) [] ρ V) (h : q) : Seg Tryz.prog N cs ins outs V R :=
 seg_sound (H := H) qGO qJx rfl ρ rfl hins hq h
theorem qAm {H : qFS} {N : Nat} {ops : Array Oper} {k m : Nat} (slots : List (Nat × T)) {outs : List Nat} (ρ : List Value) {ins : List (Nat × Value)} (hins : ins = slots.map fun x => (x.1, x.2.ev ρ id)) {V : Mem} {R : List Value -> Mem -> Prop} {q : Prop}
  (hq : q = DT Tryz.prog {} (OV R) (segOT Tryz.prog fs { H with N := N } ops k m slots ρ.length outs) [] ρ V) (h : q) : qCa Tryz.prog N ops k m ins outs V R :=
 sego_sound (H := H) qGO rfl ρ rfl hins hq h
noncomputable def c238a : List Code := ((qCu (qAl Tryz.f238) []).drop 0).take 1
def w238a (v0 : Value) (v1 : Option Addr) : MR := fun V R =>
 ∃ v2, V.rowp v1 ((0 : Int).toNat * 1) 1 = some [uL v2] /\
 IR ((v2.n : Int) - 1) /\ R (rT #[K.cast .f v0, uP v1, uI ((v2.n : Int) - 1)]) V
theorem s238a {v0 : Value} {v1 : Option Addr} {V : Mem} {R : List Value -> Mem -> Prop} (h : w238a v0 v1 V (OV R)) : Seg Tryz.prog 19 c238a [(0, K.cast .f v0), (1, uP v1)] [0, 1, 3] V R :=
 qBw (H := hK 19) [(0, (.var .f 0)), (1, (.var .p 1))] [v0, uP v1] rfl (by kernel_rfl) h
noncomputable def c238b : List Code := ((qCu (qAl Tryz.f238) [1, 0, 0, 0]).drop 0).take 1
def w238b (v0 : Value) (v1 : Option Addr) (v2 : Int) : MR := fun V R =>
 R (rT #[K.cast .f v0, uP v1, uI v2, uB (decide (0 <= v2))]) V
theorem s238b {v0 : Value} {v1 : Option Addr} {v2 : Int} {V : Mem} {R : List Value -> Mem -> Prop} (h : w238b v0 v1 v2 V (OV R)) : Seg Tryz.prog 19 c238b [(0, K.cast .f v0), (1, uP v1), (3, uI v2)] [0, 1, 3, 8] V R :=
 qBw (H := hK 19) [(0, (.var .f 0)), (1, (.var .p 1)), (3, (.var (.i .i64) 2))] [v0, uP v1, uI v2] rfl (by kernel_rfl) h
noncomputable def c238c : Array Oper := qEo ((qCu (qAl Tryz.f238) [1, 0, 0, 0, 2, 0]).getD 0 .skip)
def w238c (v0 : Value) (v1 : Option Addr) (v2 : Int) : MR := fun V R =>
 ∃ v3, V.rowp v1 ((0 : Int).toNat * 1) 1 = some [uL v3] /\
 Ix v3 v2 (∃ v4 v5, V.rowp v3.p (v2.toNat * 2) 2 = some [uS v4, uS v5] /\
 R (rT #[K.cast .f v0, uP v1, uI v2, K.cast .f v0, uI v2, uA #[uS v4, uS v5]]) V)
theorem s238c {v0 : Value} {v1 : Option Addr} {v2 : Int} {V : Mem} {R : List Value -> Mem -> Prop} (h : w238c v0 v1 v2 V (OV R)) : qCa Tryz.prog 19 c238c 0 6 [(0, K.cast .f v0), (1, uP v1), (3, uI v2)] [0, 1, 3, 11, 12, 16] V R :=
 qAm (H := hK 19) [(0, (.var .f 0)), (1, (.var .p 1)), (3, (.var (.i .i64) 2))] [v0, uP v1, uI v2] rfl (by kernel_rfl) h
noncomputable def c238d : Array Oper := qEo ((qCu (qAl Tryz.f238) [1, 0, 0, 0, 2, 0]).getD 0 .skip)
def w238d (v0 : Value) (v1 : Option Addr) (v2 : Int) (v3 : Bool) : MR := fun V R =>
 R (rT #[K.cast .f v0, uP v1, uI v2, uB (!v3)]) V
theorem s238d {v0 : Value} {v1 : Option Addr} {v2 : Int} {v3 : Bool} {V : Mem} {R : List Value -> Mem -> Prop} (h : w238d v0 v1 v2 v3 V (OV R)) : qCa Tryz.prog 19 c238d 7 1 [(0, K.cast .f v0), (1, uP v1), (3, uI v2), (17, uB v3)] [0, 1, 3, 18] V R :=
 qAm (H := hK 19) [(0, (.var .f 0)), (1, (.var .p 1)), (3, (.var (.i .i64) 2)), (17, (.var .b 3))] [v0, uP v1, uI v2, uB v3] rfl (by kernel_rfl) h
noncomputable def c238e : List Code := ((qCu (qAl Tryz.f238) [1, 0, 0, 0]).drop 3).take 1
def w238e (v0 : Value) (v1 : Option Addr) (v2 : Int) : MR := fun V R =>
 IR (v2 - 1) /\ R (rT #[K.cast .f v0, uP v1, uI (v2 - 1)]) V
theorem s238e {v0 : Value} {v1 : Option Addr} {v2 : Int} {V : Mem} {R : List Value -> Mem -> Prop} (h : w238e v0 v1 v2 V (OV R)) : Seg Tryz.prog 19 c238e [(0, K.cast .f v0), (1, uP v1), (3, uI v2)] [0, 1, 3] V R :=
 qBw (H := hK 19) [(0, (.var .f 0)), (1, (.var .p 1)), (3, (.var (.i .i64) 2))] [v0, uP v1, uI v2] rfl (by kernel_rfl) h
noncomputable def c213a : List Code := ((qCu (qAl Tryz.f213) []).drop 0).take 1
def w213a (v0 : Value) (v1 : Option Addr) : MR := fun V R =>
 ∃ v2, V.rowp v1 ((0 : Int).toNat * 1) 1 = some [uL v2] /\
 IR ((v2.n : Int) - 1) /\ R (rT #[K.cast .f v0, uP v1, uI ((v2.n : Int) - 1)]) V
theorem s213a {v0 : Value} {v1 : Option Addr} {V : Mem} {R : List Value -> Mem -> Prop} (h : w213a v0 v1 V (OV R)) : Seg Tryz.prog 19 c213a [(0, K.cast .f v0), (1, uP v1)] [0, 1, 3] V R :=
 qBw (H := hK 19) [(0, (.var .f 0)), (1, (.var .p 1))] [v0, uP v1] rfl (by kernel_rfl) h
noncomputable def c213b : List Code := ((qCu (qAl Tryz.f213) [1, 0, 0, 0]).drop 0).take 1
def w213b (v0 : Value) (v1 : Option Addr) (v2 : Int) : MR := fun V R =>
 R (rT #[K.cast .f v0, uP v1, uI v2, uB (decide (0 <= v2))]) V
theorem s213b {v0 : Value} {v1 : Option Addr} {v2 : Int} {V : Mem} {R : List Value -> Mem -> Prop} (h : w213b v0 v1 v2 V (OV R)) : Seg Tryz.prog 19 c213b [(0, K.cast .f v0), (1, uP v1), (3, uI v2)] [0, 1, 3, 8] V R :=
 qBw (H := hK 19) [(0, (.var .f 0)), (1, (.var .p 1)), (3, (.var (.i .i64) 2))] [v0, uP v1, uI v2] rfl (by kernel_rfl) h
noncomputable def c213c : Array Oper := qEo ((qCu (qAl Tryz.f213) [1, 0, 0, 0, 2, 0]).getD 0 .skip)
def w213c (v0 : Value) (v1 : Option Addr) (v2 : Int) : MR := fun V R =>
 ∃ v3, V.rowp v1 ((0 : Int).toNat * 1) 1 = some [uL v3] /\
 Ix v3 v2 (∃ v4 v5, V.rowp v3.p (v2.toNat * 2) 2 = some [uS v4, uL v5] /\
 R (rT #[K.cast .f v0, uP v1, uI v2, K.cast .f v0, uI v2, uA #[uS v4, uL v5]]) V)
theorem s213c {v0 : Value} {v1 : Option Addr} {v2 : Int} {V : Mem} {R : List Value -> Mem -> Prop} (h : w213c v0 v1 v2 V (OV R)) : qCa Tryz.prog 19 c213c 0 6 [(0, K.cast .f v0), (1, uP v1), (3, uI v2)] [0, 1, 3, 11, 12, 16] V R :=
 qAm (H := hK 19) [(0, (.var .f 0)), (1, (.var .p 1)), (3, (.var (.i .i64) 2))] [v0, uP v1, uI v2] rfl (by kernel_rfl) h
noncomputable def c213d : Array Oper := qEo ((qCu (qAl Tryz.f213) [1, 0, 0, 0, 2, 0]).getD 0 .skip)
def w213d (v0 : Value) (v1 : Option Addr) (v2 : Int) (v3 : Bool) : MR := fun V R =>
 R (rT #[K.cast .f v0, uP v1, uI v2, uB (!v3)]) V
theorem s213d {v0 : Value} {v1 : Option Addr} {v2 : Int} {v3 : Bool} {V : Mem} {R : List Value -> Mem -> Prop} (h : w213d v0 v1 v2 v3 V (OV R)) : qCa Tryz.prog 19 c213d 7 1 [(0, K.cast .f v0), (1, uP v1), (3, uI v2), (17, uB v3)] [0, 1, 3, 18] V R :=
 qAm (H := hK 19) [(0, (.var .f 0)), (1, (.var .p 1)), (3, (.var (.i .i64) 2)), (17, (.var .b 3))] [v0, uP v1, uI v2, uB v3] rfl (by kernel_rfl) h
noncomputable def c213e : List Code := ((qCu (qAl Tryz.f213) [1, 0, 0, 0]).drop 3).take 1
def w213e (v0 : Value) (v1 : Option Addr) (v2 : Int) : MR := fun V R =>
 IR (v2 - 1) /\ R (rT #[K.cast .f v0, uP v1, uI (v2 - 1)]) V
theorem s213e {v0 : Value} {v1 : Option Addr} {v2 : Int} {V : Mem} {R : List Value -> Mem -> Prop} (h : w213e v0 v1 v2 V (OV R)) : Seg Tryz.prog 19 c213e [(0, K.cast .f v0), (1, uP v1), (3, uI v2)] [0, 1, 3] V R :=
 qBw (H := hK 19) [(0, (.var .f 0)), (1, (.var .p 1)), (3, (.var (.i .i64) 2))] [v0, uP v1, uI v2] rfl (by kernel_rfl) h
noncomputable def c214a : List Code := ((qCu (qAl Tryz.f214) []).drop 0).take 1
def w214a (v0 : Value) (v1 : Option Addr) : MR := fun V R =>
 ∃ v2, V.rowp v1 ((0 : Int).toNat * 1) 1 = some [uL v2] /\
 IR ((v2.n : Int) - 1) /\ R (rT #[K.cast .f v0, uP v1, uI ((v2.n : Int) - 1)]) V
theorem s214a {v0 : Value} {v1 : Option Addr} {V : Mem} {R : List Value -> Mem -> Prop} (h : w214a v0 v1 V (OV R)) : Seg Tryz.prog 19 c214a [(0, K.cast .f v0), (1, uP v1)] [0, 1, 3] V R :=
 qBw (H := hK 19) [(0, (.var .f 0)), (1, (.var .p 1))] [v0, uP v1] rfl (by kernel_rfl) h
noncomputable def c214b : List Code := ((qCu (qAl Tryz.f214) [1, 0, 0, 0]).drop 0).take 1
def w214b (v0 : Value) (v1 : Option Addr) (v2 : Int) : MR := fun V R =>
 R (rT #[K.cast .f v0, uP v1, uI v2, uB (decide (0 <= v2))]) V
theorem s214b {v0 : Value} {v1 : Option Addr} {v2 : Int} {V : Mem} {R : List Value -> Mem -> Prop} (h : w214b v0 v1 v2 V (OV R)) : Seg Tryz.prog 19 c214b [(0, K.cast .f v0), (1, uP v1), (3, uI v2)] [0, 1, 3, 8] V R :=
 qBw (H := hK 19) [(0, (.var .f 0)), (1, (.var .p 1)), (3, (.var (.i .i64) 2))] [v0, uP v1, uI v2] rfl (by kernel_rfl) h
noncomputable def c214c : Array Oper := qEo ((qCu (qAl Tryz.f214) [1, 0, 0, 0, 2, 0]).getD 0 .skip)
def w214c (v0 : Value) (v1 : Option Addr) (v2 : Int) : MR := fun V R =>
 ∃ v3, V.rowp v1 ((0 : Int).toNat * 1) 1 = some [uL v3] /\
 Ix v3 v2 (∃ v4 v5 v6 v7 v8, V.rowp v3.p (v2.toNat * 5) 5 = some [uS v4, uL v5, uS v6, uL v7, uL v8] /\
 R (rT #[K.cast .f v0, uP v1, uI v2, K.cast .f v0, uI v2, uA #[uS v4, uL v5, uS v6, uL v7, uL v8]]) V)
theorem s214c {v0 : Value} {v1 : Option Addr} {v2 : Int} {V : Mem} {R : List Value -> Mem -> Prop} (h : w214c v0 v1 v2 V (OV R)) : qCa Tryz.prog 19 c214c 0 6 [(0, K.cast .f v0), (1, uP v1), (3, uI v2)] [0, 1, 3, 11, 12, 16] V R :=
 qAm (H := hK 19) [(0, (.var .f 0)), (1, (.var .p 1)), (3, (.var (.i .i64) 2))] [v0, uP v1, uI v2] rfl (by kernel_rfl) h
noncomputable def c214d : Array Oper := qEo ((qCu (qAl Tryz.f214) [1, 0, 0, 0, 2, 0]).getD 0 .skip)
def w214d (v0 : Value) (v1 : Option Addr) (v2 : Int) (v3 : Bool) : MR := fun V R =>
 R (rT #[K.cast .f v0, uP v1, uI v2, uB (!v3)]) V
theorem s214d {v0 : Value} {v1 : Option Addr} {v2 : Int} {v3 : Bool} {V : Mem} {R : List Value -> Mem -> Prop} (h : w214d v0 v1 v2 v3 V (OV R)) : qCa Tryz.prog 19 c214d 7 1 [(0, K.cast .f v0), (1, uP v1), (3, uI v2), (17, uB v3)] [0, 1, 3, 18] V R :=
 qAm (H := hK 19) [(0, (.var .f 0)), (1, (.var .p 1)), (3, (.var (.i .i64) 2)), (17, (.var .b 3))] [v0, uP v1, uI v2, uB v3] rfl (by kernel_rfl) h
noncomputable def c214e : List Code := ((qCu (qAl Tryz.f214) [1, 0, 0, 0]).drop 3).take 1
def w214e (v0 : Value) (v1 : Option Addr) (v2 : Int) : MR := fun V R =>
 IR (v2 - 1) /\ R (rT #[K.cast .f v0, uP v1, uI (v2 - 1)]) V
theorem s214e {v0 : Value} {v1 : Option Addr} {v2 : Int} {V : Mem} {R : List Value -> Mem -> Prop} (h : w214e v0 v1 v2 V (OV R)) : Seg Tryz.prog 19 c214e [(0, K.cast .f v0), (1, uP v1), (3, uI v2)] [0, 1, 3] V R :=
 qBw (H := hK 19) [(0, (.var .f 0)), (1, (.var .p 1)), (3, (.var (.i .i64) 2))] [v0, uP v1, uI v2] rfl (by kernel_rfl) h
noncomputable def c138a : List Code := ((qCu (qAl Tryz.f138) []).drop 0).take 3
def w138a (v0 : Option Addr) (v1 : Bool) (v2 : Sl) : MR := fun V R =>
 qAq Tryz.prog (.makeMap 163 none) 163 (gv []) V fun x V1 => ∃ v3, x = uM v3 /\
 ¬ v0 = none /\ ¬ v0 = none /\ ¬ (qAa v0 0) = none /\ ∃ v4, V1.rowp v0 2 1 = some [uL v4] /\
 TT 192 #[uL v4] V1 fun e V2 => ∃ v5, K.f.ok v5 /\ e = rV v5 /\
 qAo [uP none, uM none, uB false] 165 V2 fun v6 V3 =>
 qAo [uP v0, uM v3, uB v1] 165 V3 fun v7 V4 =>
 R (rT #[uP v0, uB v1, uL v2, uP (qAa v6 0), uP (qAa v7 0), K.cast .f v5]) V4
theorem s138a {v0 : Option Addr} {v1 : Bool} {v2 : Sl} {V : Mem} {R : List Value -> Mem -> Prop} (h : w138a v0 v1 v2 V (OV R)) : Seg Tryz.prog 63 c138a [(0, uP v0), (1, uB v1), (2, uL v2)] [0, 1, 2, 6, 7, 24] V R :=
 qBw (H := hK 63) [(0, (.var .p 0)), (1, (.var .b 1)), (2, (.var .sl 2))] [uP v0, uB v1, uL v2] rfl (by kernel_rfl) h
noncomputable def c138b : List Code := ((qCu (qAl Tryz.f138) [3, 0, 0, 0]).drop 0).take 1
def w138b (v0 : Option Addr) (v1 v2 : ByteArray) : MR := fun V R =>
 qAo [uS v1, uS v2] 110 V fun v3 V1 =>
 R (rT #[uP v0, uP (qAa v3 0)]) V1
theorem s138b {v0 : Option Addr} {v1 v2 : ByteArray} {V : Mem} {R : List Value -> Mem -> Prop} (h : w138b v0 v1 v2 V (OV R)) : Seg Tryz.prog 63 c138b [(7, uP v0), (26, uA #[uS v1, uS v2])] [7, 9] V R :=
 qBw (H := hK 63) [(7, (.var .p 0)), (26, (.agg (.cons (.var .s 1) (.cons (.var .s 2) .nil))))] [uP v0, uS v1, uS v2] rfl (by kernel_rfl) h
noncomputable def c138c : List Code := ((qCu (qAl Tryz.f138) [3, 0, 0, 1]).drop 0).take 1
def w138c (v0 v1 : Option Addr) : MR := fun V R =>
 ¬ v0 = none /\ ∃ v2, V.rowp v0 1 1 = some [uM v2] /\
 ¬ v1 = none /\ ∃ v3, V.rowp v1 ((0 : Int).toNat * 1) 1 = some [uS v3] /\
 ¬ v1 = none /\ ∃ v4, V.rowp v1 1 1 = some [uS v4] /\
 qGn Tryz.prog 163 (uM v2) (uS v3) (uS v4) V fun V1 =>
 R (rT #[]) V1
theorem s138c {v0 v1 : Option Addr} {V : Mem} {R : List Value -> Mem -> Prop} (h : w138c v0 v1 V (OV R)) : Seg Tryz.prog 63 c138c [(7, uP v0), (9, uP v1)] [] V R :=
 qBw (H := hK 63) [(7, (.var .p 0)), (9, (.var .p 1))] [uP v0, uP v1] rfl (by kernel_rfl) h
noncomputable def c138d : List Code := ((qCu (qAl Tryz.f138) []).drop 4).take 4
def w138d (v0 : Option Addr) (v1 : Bool) (v2 : Sl) (v3 v4 : Option Addr) : MR := fun V R =>
 qAq Tryz.prog (.makeMap 251 none) 251 (gv []) V fun x V1 => ∃ v5, x = uM v5 /\
 Lp [uI 0] V1 fun I n V2 => ∀ v6, I n [uI v6] V2 -> ∀ J0 : LMP, Nx I n J0 ->
 Br (v6 < (v2.n : Int))
 (Ix v2 v6 (∃ v7, V2.rowp v2.p (v6.toNat * 1) 1 = some [uL v7] /\
 Lp [uI 0] V2 fun I n V3 => ∀ v8, I n [uI v8] V3 -> ∀ J1 : LMP, Nx I n J1 ->
 Br (v8 < (v7.n : Int))
 (Ix v7 v8 (∃ v9 v10, V3.rowp v7.p (v8.toNat * 2) 2 = some [uS v9, uS v10] /\
 qBt Tryz.prog 251 (uM v5) (uS v9) false V3 fun x => ∃ v11, x = uB v11 /\
 Br (v11 = true)
 (IR (v8 + 1) /\ J1 [uI (v8 + 1)] V3)
 (¬ v4 = none /\ ∃ v12, V3.rowp v4 1 1 = some [uM v12] /\
 qGn Tryz.prog 163 (uM v12) (uS v9) (uS v10) V3 fun V4 =>
 qGn Tryz.prog 251 (uM v5) (uS v9) (.bool true) V4 fun V5 =>
 IR (v8 + 1) /\ J1 [uI (v8 + 1)] V5)))
 (IR (v6 + 1) /\ J0 [uI (v6 + 1)] V3)))
 (∃ v7 v8 v9, V2.rowp v4 ((0 : Int).toNat * 1) 3 = some [uP v7, uM v8, uB v9] /\
 StT v3 0 [uP v7, uM v8, uB v9] V2 fun V3 =>
 R (rT #[uP v3]) V3)
theorem s138d {v0 : Option Addr} {v1 : Bool} {v2 : Sl} {v3 v4 : Option Addr} {V : Mem} {R : List Value -> Mem -> Prop} (h : w138d v0 v1 v2 v3 v4 V (OV R)) : Seg Tryz.prog 63 c138d [(0, uP v0), (1, uB v1), (2, uL v2), (6, uP v3), (7, uP v4)] [6] V R :=
 qBw (H := hK 63) [(0, (.var .p 0)), (1, (.var .b 1)), (2, (.var .sl 2)), (6, (.var .p 3)), (7, (.var .p 4))] [uP v0, uB v1, uL v2, uP v3, uP v4] rfl (by kernel_rfl) h
noncomputable def c110a : List Code := ((qCu (qAl Tryz.f110) []).drop 0).take 3
def w110a (v0 : ByteArray) (v1 v2 v3 v4 v5 v6 v7 : Sl) : MR := fun V R =>
 qAq Tryz.prog (.makeMap 207 none) 207 (gv []) V fun x V1 => ∃ v8, x = uM v8 /\
 qAq Tryz.prog (.makeMap 208 none) 208 (gv []) V1 fun x V2 => ∃ v9, x = uM v9 /\
 TT 160 #[uL v1] V2 fun e V3 => ∃ v10, K.f.ok v10 /\ e = rV v10 /\
 qAo [uS v0, uL v1, uL v2, uL v3, uL v4, uL v5, uL v6, uL v7] 30 V3 fun v11 V4 =>
 qAo [uS v0, uL v1, uL v2, uL v3, uL v4, uL v5, uL v6, uL v7, uM v8, uM v9] 210 V4 fun v12 V5 =>
 qAo [uP (qAa v12 0)] 160 V5 fun v13 V6 =>
 R (rT #[uP (qAa v11 0), uP (qAa v13 0), K.cast .f v10]) V6
theorem s110a {v0 : ByteArray} {v1 v2 v3 v4 v5 v6 v7 : Sl} {V : Mem} {R : List Value -> Mem -> Prop} (h : w110a v0 v1 v2 v3 v4 v5 v6 v7 V (OV R)) : Seg Tryz.prog 38 c110a [(0, uD v0 v1 v2 v3 v4 v5 v6 v7)] [1, 3, 15] V R :=
 qBw (H := hK 38) [(0, (.agg (.cons (.var .s 0) (.cons (.var .sl 1) (.cons (.var .sl 2) (.cons (.var .sl 3) (.cons (.var .sl 4) (.cons (.var .sl 5) (.cons (.var .sl 6) (.cons (.var .sl 7) .nil))))))))))] [uS v0, uL v1, uL v2, uL v3, uL v4, uL v5, uL v6, uL v7] rfl (by kernel_rfl) h
noncomputable def c110b : List Code := ((qCu (qAl Tryz.f110) [3, 0, 0, 0]).drop 0).take 1
def w110b (v0 : Option Addr) (v1 : ByteArray) (v2 : Sl) : MR := fun V R =>
 qAo [uS v1, uL v2] 101 V fun v3 V1 =>
 R (rT #[uP v0, uP (qAa v3 0)]) V1
theorem s110b {v0 : Option Addr} {v1 : ByteArray} {v2 : Sl} {V : Mem} {R : List Value -> Mem -> Prop} (h : w110b v0 v1 v2 V (OV R)) : Seg Tryz.prog 38 c110b [(3, uP v0), (17, uA #[uS v1, uL v2])] [3, 5] V R :=
 qBw (H := hK 38) [(3, (.var .p 0)), (17, (.agg (.cons (.var .s 1) (.cons (.var .sl 2) .nil))))] [uP v0, uS v1, uL v2] rfl (by kernel_rfl) h
noncomputable def c110c : List Code := ((qCu (qAl Tryz.f110) [3, 0, 0, 1]).drop 0).take 1
def w110c (v0 v1 : Option Addr) : MR := fun V R =>
 ∃ v2, V.rowp v0 ((0 : Int).toNat * 1) 1 = some [uP v2] /\
 ¬ v2 = none /\ ¬ v2 = none /\ ∃ v3, V.rowp v2 8 1 = some [uM v3] /\
 ¬ v1 = none /\ ∃ v4, V.rowp v1 ((0 : Int).toNat * 1) 1 = some [uS v4] /\
 ∃ v5 v6, V.rowp v1 ((0 : Int).toNat * 1) 2 = some [uS v5, uL v6] /\
 qGn Tryz.prog 207 (uM v3) (uS v4) (uA #[uS v5, uL v6]) V fun V1 =>
 R (rT #[]) V1
theorem s110c {v0 v1 : Option Addr} {V : Mem} {R : List Value -> Mem -> Prop} (h : w110c v0 v1 V (OV R)) : Seg Tryz.prog 38 c110c [(3, uP v0), (5, uP v1)] [] V R :=
 qBw (H := hK 38) [(3, (.var .p 0)), (5, (.var .p 1))] [uP v0, uP v1] rfl (by kernel_rfl) h
noncomputable def c110d : List Code := ((qCu (qAl Tryz.f110) []).drop 4).take 1
def w110d (v0 v1 : Option Addr) : MR := fun V R =>
 ¬ v0 = none /\ ∃ v2, V.rowp v0 3 1 = some [uL v2] /\
 TT 161 #[uL v2] V fun e V1 => ∃ v3, K.f.ok v3 /\ e = rV v3 /\
 R (rT #[uP v1, K.cast .f v3]) V1
theorem s110d {v0 v1 : Option Addr} {V : Mem} {R : List Value -> Mem -> Prop} (h : w110d v0 v1 V (OV R)) : Seg Tryz.prog 38 c110d [(1, uP v0), (3, uP v1)] [3, 27] V R :=
 qBw (H := hK 38) [(1, (.var .p 0)), (3, (.var .p 1))] [uP v0, uP v1] rfl (by kernel_rfl) h
noncomputable def c110e : List Code := ((qCu (qAl Tryz.f110) [5, 0, 0, 0]).drop 0).take 1
def w110e (v0 : Option Addr) (v1 : ByteArray) (v2 : Sl) (v3 : ByteArray) (v4 v5 : Sl) : MR := fun V R =>
 qAo [uS v1, uL v2, uS v3, uL v4, uL v5] 146 V fun v6 V1 =>
 R (rT #[uP v0, uP (qAa v6 0)]) V1
theorem s110e {v0 : Option Addr} {v1 : ByteArray} {v2 : Sl} {v3 : ByteArray} {v4 v5 : Sl} {V : Mem} {R : List Value -> Mem -> Prop} (h : w110e v0 v1 v2 v3 v4 v5 V (OV R)) : Seg Tryz.prog 38 c110e [(3, uP v0), (29, uA #[uS v1, uL v2, uS v3, uL v4, uL v5])] [3, 7] V R :=
 qBw (H := hK 38) [(3, (.var .p 0)), (29, (.agg (.cons (.var .s 1) (.cons (.var .sl 2) (.cons (.var .s 3) (.cons (.var .sl 4) (.cons (.var .sl 5) .nil)))))))] [uP v0, uS v1, uL v2, uS v3, uL v4, uL v5] rfl (by kernel_rfl) h
noncomputable def c110f : List Code := ((qCu (qAl Tryz.f110) [5, 0, 0, 1]).drop 0).take 1
def w110f (v0 v1 : Option Addr) : MR := fun V R =>
 ∃ v2, V.rowp v0 ((0 : Int).toNat * 1) 1 = some [uP v2] /\
 ¬ v2 = none /\ ¬ v2 = none /\ ∃ v3, V.rowp v2 9 1 = some [uM v3] /\
 ¬ v1 = none /\ ∃ v4, V.rowp v1 ((0 : Int).toNat * 1) 1 = some [uS v4] /\
 ∃ v5 v6 v7 v8 v9, V.rowp v1 ((0 : Int).toNat * 1) 5 = some [uS v5, uL v6, uS v7, uL v8, uL v9] /\
 qGn Tryz.prog 208 (uM v3) (uS v4) (uA #[uS v5, uL v6, uS v7, uL v8, uL v9]) V fun V1 =>
 R (rT #[]) V1
theorem s110f {v0 v1 : Option Addr} {V : Mem} {R : List Value -> Mem -> Prop} (h : w110f v0 v1 V (OV R)) : Seg Tryz.prog 38 c110f [(3, uP v0), (7, uP v1)] [] V R :=
 qBw (H := hK 38) [(3, (.var .p 0)), (7, (.var .p 1))] [uP v0, uP v1] rfl (by kernel_rfl) h
noncomputable def c110g : List Code := ((qCu (qAl Tryz.f110) []).drop 6).take 1
def w110g (v0 : Option Addr) : MR := fun V R =>
 ∃ v1, V.rowp v0 ((0 : Int).toNat * 1) 1 = some [uP v1] /\
 R (rT #[uP v1]) V
theorem s110g {v0 : Option Addr} {V : Mem} {R : List Value -> Mem -> Prop} (h : w110g v0 V (OV R)) : Seg Tryz.prog 38 c110g [(3, uP v0)] [2] V R :=
 qBw (H := hK 38) [(3, (.var .p 0))] [uP v0] rfl (by kernel_rfl) h
noncomputable def c39a : List Code := ((qCu (qAl Tryz.f39) []).drop 0).take 1
def w39a (v0 : Option Addr) (v1 : Value) : MR := fun V R =>
 qAo [uP v0] 83 V fun v2 V1 =>
 qAo [uI 0] 3 V1 fun v3 V2 =>
 qAo [uI 0] 37 V2 fun v4 V3 =>
 R (rT #[K.cast .f v1, uP (qAa v2 0), uP (qAa v3 0), uP (qAa v4 0)]) V3
theorem s39a {v0 : Option Addr} {v1 : Value} {V : Mem} {R : List Value -> Mem -> Prop} (h : w39a v0 v1 V (OV R)) : Seg Tryz.prog 9 c39a [(0, uP v0), (1, K.cast .f v1)] [1, 2, 4, 5] V R :=
 qBw (H := hK 9) [(0, (.var .p 0)), (1, (.var .f 1))] [uP v0, v1] rfl (by kernel_rfl) h
noncomputable def c39b : Array Oper := qEo ((qCu (qAl Tryz.f39) []).getD 2 .skip)
def w39b (v0 v1 : Option Addr) (v2 : Int) : MR := fun V R =>
 StT v0 0 [uI v2] V fun V1 =>
 StT v1 0 [uI 0] V1 fun V2 =>
 R (rT #[uP v0, uP v1]) V2
theorem s39b {v0 v1 : Option Addr} {v2 : Int} {V : Mem} {R : List Value -> Mem -> Prop} (h : w39b v0 v1 v2 V (OV R)) : qCa Tryz.prog 9 c39b 2 2 [(4, uP v0), (5, uP v1), (8, uI v2)] [4, 5] V R :=
 qAm (H := hK 9) [(4, (.var .p 0)), (5, (.var .p 1)), (8, (.var (.i .i64) 2))] [uP v0, uP v1, uI v2] rfl (by kernel_rfl) h
noncomputable def c72a : List Code := ((qCu (qAl Tryz.f72) []).drop 1).take 2
def w72a (v0 v1 v2 : Option Addr) (v3 : Value) : MR := fun V R =>
 qAq Tryz.prog (.binOp .neq 20 (.tmp 7) (.const .nilIface) 20) 4 (gv [(7, K.cast .r v3)]) V fun x V1 => ∃ v4, x = uB v4 /\
 Br (v4 = true)
 (qAq Tryz.prog (.typeAssert (.tmp 10) 20 133 true) 134 (gv [(10, K.cast .r v3)]) V1 fun x V2 => ∃ v5 v6, x = .tuple #[uA #[uI v5], uB v6] /\
 Br (v6 = true)
 (StT v0 0 [uI 0] V2 fun V3 =>
 StT v1 0 [uI v5] V3 fun V4 =>
 ∃ v7, V4.rowp v2 ((0 : Int).toNat * 1) 1 = some [uP v7] /\
 ¬ v7 = none /\ ¬ v7 = none /\ ∃ v8, V4.rowp v7 11 1 = some [uM v8] /\
 qAq Tryz.prog (.call { callee := (.builtin .clear), args := #[(.tmp 22)], argTypes := #[127] }) 0 (gv [(22, uM v8)]) V4 fun x V5 => x = .tuple #[] /\
 R (rT #[]) V5)
 (∃ t x, K.cast .r v3 = .iface t x /\ R (.panicked [{ v := .iface t x, recovered := false }]) V2))
 (R (rT #[]) V1)
theorem s72a {v0 v1 v2 : Option Addr} {v3 : Value} {V : Mem} {R : List Value -> Mem -> Prop} (h : w72a v0 v1 v2 v3 V (OV R)) : Seg Tryz.prog 23 c72a [(0, uP v0), (1, uP v1), (2, uP v2), (3, K.cast .r v3)] [] V R :=
 qBw (H := hK 23) [(0, (.var .p 0)), (1, (.var .p 1)), (2, (.var .p 2)), (3, (.var .r 3))] [uP v0, uP v1, uP v2, v3] rfl (by kernel_rfl) h
noncomputable def c22a : List Code := ((qCu (qAl Tryz.f22) []).drop 0).take 4
def w22a  : MR := fun V R =>
 TT 52 #[uI 4, uS (qAj [116, 104, 105, 115]), .slice none 0 0] V fun e V1 => ∃ v0 v1 v2 v3, e = rV (uA #[uI v0, uI v1, uS v2, uL v3]) /\
 qAo [uI v0, uI v1, uS v2, uL v3] 69 V1 fun v4 V2 =>
 TT 52 #[uI 5, uS (qAj [110, 101, 120, 116]), .slice (qAa v4 0) 1 1] V2 fun e V3 => ∃ v5 v6 v7 v8, e = rV (uA #[uI v5, uI v6, uS v7, uL v8]) /\
 qAo [uS (qAj []), .slice none 0 0, .slice none 0 0, .slice none 0 0, .slice none 0 0, .slice none 0 0, .slice none 0 0, .slice none 0 0] 30 V3 fun v9 V4 =>
 qAo [uI v0, uI v1, uS v2, uL v3] 69 V4 fun v10 V5 =>
 qAo [uI v5, uI v6, uS v7, uL v8] 69 V5 fun v11 V6 =>
 R (rT #[uP (qAa v9 0), .func (.func 52) #[] #[], uP (qAa v10 0), uP (qAa v11 0)]) V6
theorem s22a {V : Mem} {R : List Value -> Mem -> Prop} (h : w22a V (OV R)) : Seg Tryz.prog 50 c22a [] [0, 1, 2, 3] V R :=
 qBw (H := hK 50) [] [] rfl (by kernel_rfl) h
noncomputable def qAX : Array Oper := qEo ((qCu (qAl Tryz.f22) []).getD 4 .skip)
def w22o0  : MR := fun V R =>
 R (rT #[uA #[uS (qAj [110, 101, 120, 116]), uS (qAj [84])]]) V
theorem s22o0 {V : Mem} {R : List Value -> Mem -> Prop} (h : w22o0 V (OV R)) : qCa Tryz.prog 50 qAX 0 1 [] [10] V R :=
 qAm (H := hK 50) [] [] rfl (by kernel_rfl) h
def w22o1  : MR := fun V R =>
 R (rT #[uA #[uS (qAj [110]), uS (qAj [105, 110, 116])]]) V
theorem s22o1 {V : Mem} {R : List Value -> Mem -> Prop} (h : w22o1 V (OV R)) : qCa Tryz.prog 50 qAX 1 1 [] [11] V R :=
 qAm (H := hK 50) [] [] rfl (by kernel_rfl) h
def w22o2 (v0 v1 v2 v3 : ByteArray) : MR := fun V R =>
 qAo [uS v0, uS v1, uS v2, uS v3] 110 V fun v4 V1 =>
 R (rT #[.slice (qAa v4 0) 2 2]) V1
theorem s22o2 {v0 v1 v2 v3 : ByteArray} {V : Mem} {R : List Value -> Mem -> Prop} (h : w22o2 v0 v1 v2 v3 V (OV R)) : qCa Tryz.prog 50 qAX 2 1 [(10, uA #[uS v0, uS v1]), (11, uA #[uS v2, uS v3])] [12] V R :=
 qAm (H := hK 50) [(10, (.agg (.cons (.var .s 0) (.cons (.var .s 1) .nil)))), (11, (.agg (.cons (.var .s 2) (.cons (.var .s 3) .nil))))] [uS v0, uS v1, uS v2, uS v3] rfl (by kernel_rfl) h
def w22o3 (v0 : Sl) : MR := fun V R =>
 R (rT #[uA #[uS (qAj [84]), uL v0]]) V
theorem s22o3 {v0 : Sl} {V : Mem} {R : List Value -> Mem -> Prop} (h : w22o3 v0 V (OV R)) : qCa Tryz.prog 50 qAX 3 1 [(12, uL v0)] [13] V R :=
 qAm (H := hK 50) [(12, (.var .sl 0))] [uL v0] rfl (by kernel_rfl) h
def w22o4 (v0 : ByteArray) (v1 : Sl) : MR := fun V R =>
 qAo [uS v0, uL v1] 101 V fun v2 V1 =>
 R (rT #[.slice (qAa v2 0) 1 1]) V1
theorem s22o4 {v0 : ByteArray} {v1 : Sl} {V : Mem} {R : List Value -> Mem -> Prop} (h : w22o4 v0 v1 V (OV R)) : qCa Tryz.prog 50 qAX 4 1 [(13, uA #[uS v0, uL v1])] [14] V R :=
 qAm (H := hK 50) [(13, (.agg (.cons (.var .s 0) (.cons (.var .sl 1) .nil))))] [uS v0, uL v1] rfl (by kernel_rfl) h
def w22o5  : MR := fun V R =>
 R (rT #[uA #[uS (qAj [118]), uS (qAj [84])]]) V
theorem s22o5 {V : Mem} {R : List Value -> Mem -> Prop} (h : w22o5 V (OV R)) : qCa Tryz.prog 50 qAX 5 1 [] [15] V R :=
 qAm (H := hK 50) [] [] rfl (by kernel_rfl) h
def w22o6 (v0 v1 : ByteArray) : MR := fun V R =>
 qAo [uS v0, uS v1] 110 V fun v2 V1 =>
 R (rT #[.slice (qAa v2 0) 1 1]) V1
theorem s22o6 {v0 v1 : ByteArray} {V : Mem} {R : List Value -> Mem -> Prop} (h : w22o6 v0 v1 V (OV R)) : qCa Tryz.prog 50 qAX 6 1 [(15, uA #[uS v0, uS v1])] [16] V R :=
 qAm (H := hK 50) [(15, (.agg (.cons (.var .s 0) (.cons (.var .s 1) .nil))))] [uS v0, uS v1] rfl (by kernel_rfl) h
def w22o7 (v0 : Value) : MR := fun V R =>
 R (rT #[K.cast .f v0]) V
theorem s22o7 {v0 : Value} {V : Mem} {R : List Value -> Mem -> Prop} (h : w22o7 v0 V (OV R)) : qCa Tryz.prog 50 qAX 7 1 [(1, K.cast .f v0)] [17] V R :=
 qAm (H := hK 50) [(1, (.var .f 0))] [v0] rfl (by kernel_rfl) h
def w22o8  : MR := fun V R =>
 R (rT #[uA #[uI 1, uI 1, uS (qAj []), .slice none 0 0]]) V
theorem s22o8 {V : Mem} {R : List Value -> Mem -> Prop} (h : w22o8 V (OV R)) : qCa Tryz.prog 50 qAX 8 1 [] [18] V R :=
 qAm (H := hK 50) [] [] rfl (by kernel_rfl) h
def w22o9 (v0 : Value) : MR := fun V R =>
 R (rT #[K.cast .f v0]) V
theorem s22o9 {v0 : Value} {V : Mem} {R : List Value -> Mem -> Prop} (h : w22o9 v0 V (OV R)) : qCa Tryz.prog 50 qAX 9 1 [(1, K.cast .f v0)] [19] V R :=
 qAm (H := hK 50) [(1, (.var .f 0))] [v0] rfl (by kernel_rfl) h
def w22o10 (v0 : Option Addr) : MR := fun V R =>
 ∃ v1 v2 v3 v4, V.rowp v0 ((0 : Int).toNat * 1) 4 = some [uI v1, uI v2, uS v3, uL v4] /\
 R (rT #[uA #[uI v1, uI v2, uS v3, uL v4]]) V
theorem s22o10 {v0 : Option Addr} {V : Mem} {R : List Value -> Mem -> Prop} (h : w22o10 v0 V (OV R)) : qCa Tryz.prog 50 qAX 10 1 [(3, uP v0)] [20] V R :=
 qAm (H := hK 50) [(3, (.var .p 0))] [uP v0] rfl (by kernel_rfl) h
def w22o11 (v0 v1 : Int) (v2 : ByteArray) (v3 : Sl) : MR := fun V R =>
 qAo [uI v0, uI v1, uS v2, uL v3] 69 V fun v4 V1 =>
 R (rT #[.slice (qAa v4 0) 1 1]) V1
theorem s22o11 {v0 v1 : Int} {v2 : ByteArray} {v3 : Sl} {V : Mem} {R : List Value -> Mem -> Prop} (h : w22o11 v0 v1 v2 v3 V (OV R)) : qCa Tryz.prog 50 qAX 11 1 [(20, uA #[uI v0, uI v1, uS v2, uL v3])] [21] V R :=
 qAm (H := hK 50) [(20, (.agg (.cons (.var (.i .i64) 0) (.cons (.var (.i .i64) 1) (.cons (.var .s 2) (.cons (.var .sl 3) .nil))))))] [uI v0, uI v1, uS v2, uL v3] rfl (by kernel_rfl) h
def w22o12 (v0 : Value) (v1 : Sl) : MR := fun V R =>
 ∃ f first caps, K.cast .f v0 = .func (.func f) first caps /\ CO f /\
 TT f (first ++ #[uI 7, uS (qAj [108, 101, 110, 103, 116, 104]), uL v1] ++ caps) V fun e V1 => ∃ v2 v3 v4 v5, e = rV (uA #[uI v2, uI v3, uS v4, uL v5]) /\
 R (rT #[uA #[uI v2, uI v3, uS v4, uL v5]]) V1
theorem s22o12 {v0 : Value} {v1 : Sl} {V : Mem} {R : List Value -> Mem -> Prop} (h : w22o12 v0 v1 V (OV R)) : qCa Tryz.prog 50 qAX 12 1 [(19, K.cast .f v0), (21, uL v1)] [22] V R :=
 qAm (H := hK 50) [(19, (.var .f 0)), (21, (.var .sl 1))] [v0, uL v1] rfl (by kernel_rfl) h
def w22o13 (v0 v1 : Int) (v2 : ByteArray) (v3 : Sl) (v4 v5 : Int) (v6 : ByteArray) (v7 : Sl) : MR := fun V R =>
 qAo [uI v0, uI v1, uS v2, uL v3, uI v4, uI v5, uS v6, uL v7] 69 V fun v8 V1 =>
 R (rT #[.slice (qAa v8 0) 2 2]) V1
theorem s22o13 {v0 v1 : Int} {v2 : ByteArray} {v3 : Sl} {v4 v5 : Int} {v6 : ByteArray} {v7 : Sl} {V : Mem} {R : List Value -> Mem -> Prop} (h : w22o13 v0 v1 v2 v3 v4 v5 v6 v7 V (OV R)) : qCa Tryz.prog 50 qAX 13 1 [(18, uA #[uI v0, uI v1, uS v2, uL v3]), (22, uA #[uI v4, uI v5, uS v6, uL v7])] [23] V R :=
 qAm (H := hK 50) [(18, (.agg (.cons (.var (.i .i64) 0) (.cons (.var (.i .i64) 1) (.cons (.var .s 2) (.cons (.var .sl 3) .nil)))))), (22, (.agg (.cons (.var (.i .i64) 4) (.cons (.var (.i .i64) 5) (.cons (.var .s 6) (.cons (.var .sl 7) .nil))))))] [uI v0, uI v1, uS v2, uL v3, uI v4, uI v5, uS v6, uL v7] rfl (by kernel_rfl) h
def w22o14 (v0 : Value) (v1 : Sl) : MR := fun V R =>
 ∃ f first caps, K.cast .f v0 = .func (.func f) first caps /\ CO f /\
 TT f (first ++ #[uI 9, uS (qAj []), uL v1] ++ caps) V fun e V1 => ∃ v2 v3 v4 v5, e = rV (uA #[uI v2, uI v3, uS v4, uL v5]) /\
 R (rT #[uA #[uI v2, uI v3, uS v4, uL v5]]) V1
theorem s22o14 {v0 : Value} {v1 : Sl} {V : Mem} {R : List Value -> Mem -> Prop} (h : w22o14 v0 v1 V (OV R)) : qCa Tryz.prog 50 qAX 14 1 [(17, K.cast .f v0), (23, uL v1)] [24] V R :=
 qAm (H := hK 50) [(17, (.var .f 0)), (23, (.var .sl 1))] [v0, uL v1] rfl (by kernel_rfl) h
def w22o15 (v0 v1 : Int) (v2 : ByteArray) (v3 : Sl) : MR := fun V R =>
 R (rT #[uA #[uS (qAj [108, 101, 110, 103, 116, 104]), uS (qAj [84]), uI 0, uI v0, uI v1, uS v2, uL v3]]) V
theorem s22o15 {v0 v1 : Int} {v2 : ByteArray} {v3 : Sl} {V : Mem} {R : List Value -> Mem -> Prop} (h : w22o15 v0 v1 v2 v3 V (OV R)) : qCa Tryz.prog 50 qAX 15 1 [(24, uA #[uI v0, uI v1, uS v2, uL v3])] [25] V R :=
 qAm (H := hK 50) [(24, (.agg (.cons (.var (.i .i64) 0) (.cons (.var (.i .i64) 1) (.cons (.var .s 2) (.cons (.var .sl 3) .nil))))))] [uI v0, uI v1, uS v2, uL v3] rfl (by kernel_rfl) h
def w22o16 (v0 v1 : ByteArray) (v2 v3 v4 : Int) (v5 : ByteArray) (v6 : Sl) : MR := fun V R =>
 qAo [uS v0, uS v1, uI v2, uI v3, uI v4, uS v5, uL v6] 77 V fun v7 V1 =>
 R (rT #[.slice (qAa v7 0) 1 1]) V1
theorem s22o16 {v0 v1 : ByteArray} {v2 v3 v4 : Int} {v5 : ByteArray} {v6 : Sl} {V : Mem} {R : List Value -> Mem -> Prop} (h : w22o16 v0 v1 v2 v3 v4 v5 v6 V (OV R)) : qCa Tryz.prog 50 qAX 16 1 [(25, uA #[uS v0, uS v1, uI v2, uI v3, uI v4, uS v5, uL v6])] [26] V R :=
 qAm (H := hK 50) [(25, (.agg (.cons (.var .s 0) (.cons (.var .s 1) (.cons (.var (.i .i64) 2) (.cons (.var (.i .i64) 3) (.cons (.var (.i .i64) 4) (.cons (.var .s 5) (.cons (.var .sl 6) .nil)))))))))] [uS v0, uS v1, uI v2, uI v3, uI v4, uS v5, uL v6] rfl (by kernel_rfl) h
def w22o17 (v0 : Value) : MR := fun V R =>
 R (rT #[K.cast .f v0]) V
theorem s22o17 {v0 : Value} {V : Mem} {R : List Value -> Mem -> Prop} (h : w22o17 v0 V (OV R)) : qCa Tryz.prog 50 qAX 17 1 [(1, K.cast .f v0)] [27] V R :=
 qAm (H := hK 50) [(1, (.var .f 0))] [v0] rfl (by kernel_rfl) h
def w22o18 (v0 : Value) : MR := fun V R =>
 R (rT #[K.cast .f v0]) V
theorem s22o18 {v0 : Value} {V : Mem} {R : List Value -> Mem -> Prop} (h : w22o18 v0 V (OV R)) : qCa Tryz.prog 50 qAX 18 1 [(1, K.cast .f v0)] [28] V R :=
 qAm (H := hK 50) [(1, (.var .f 0))] [v0] rfl (by kernel_rfl) h
def w22o19 (v0 : Option Addr) : MR := fun V R =>
 ∃ v1 v2 v3 v4, V.rowp v0 ((0 : Int).toNat * 1) 4 = some [uI v1, uI v2, uS v3, uL v4] /\
 R (rT #[uA #[uI v1, uI v2, uS v3, uL v4]]) V
theorem s22o19 {v0 : Option Addr} {V : Mem} {R : List Value -> Mem -> Prop} (h : w22o19 v0 V (OV R)) : qCa Tryz.prog 50 qAX 19 1 [(3, uP v0)] [29] V R :=
 qAm (H := hK 50) [(3, (.var .p 0))] [uP v0] rfl (by kernel_rfl) h
def w22o20 (v0 : Value) : MR := fun V R =>
 R (rT #[K.cast .f v0]) V
theorem s22o20 {v0 : Value} {V : Mem} {R : List Value -> Mem -> Prop} (h : w22o20 v0 V (OV R)) : qCa Tryz.prog 50 qAX 20 1 [(1, K.cast .f v0)] [30] V R :=
 qAm (H := hK 50) [(1, (.var .f 0))] [v0] rfl (by kernel_rfl) h
def w22o21 (v0 : Value) : MR := fun V R =>
 ∃ f first caps, K.cast .f v0 = .func (.func f) first caps /\ CO f /\
 TT f (first ++ #[uI 3, uS (qAj []), .slice none 0 0] ++ caps) V fun e V1 => ∃ v1 v2 v3 v4, e = rV (uA #[uI v1, uI v2, uS v3, uL v4]) /\
 R (rT #[uA #[uI v1, uI v2, uS v3, uL v4]]) V1
theorem s22o21 {v0 : Value} {V : Mem} {R : List Value -> Mem -> Prop} (h : w22o21 v0 V (OV R)) : qCa Tryz.prog 50 qAX 21 1 [(30, K.cast .f v0)] [31] V R :=
 qAm (H := hK 50) [(30, (.var .f 0))] [v0] rfl (by kernel_rfl) h
def w22o22 (v0 v1 : Int) (v2 : ByteArray) (v3 : Sl) (v4 v5 : Int) (v6 : ByteArray) (v7 : Sl) : MR := fun V R =>
 qAo [uI v0, uI v1, uS v2, uL v3, uI v4, uI v5, uS v6, uL v7] 69 V fun v8 V1 =>
 R (rT #[.slice (qAa v8 0) 2 2]) V1
theorem s22o22 {v0 v1 : Int} {v2 : ByteArray} {v3 : Sl} {v4 v5 : Int} {v6 : ByteArray} {v7 : Sl} {V : Mem} {R : List Value -> Mem -> Prop} (h : w22o22 v0 v1 v2 v3 v4 v5 v6 v7 V (OV R)) : qCa Tryz.prog 50 qAX 22 1 [(29, uA #[uI v0, uI v1, uS v2, uL v3]), (31, uA #[uI v4, uI v5, uS v6, uL v7])] [32] V R :=
 qAm (H := hK 50) [(29, (.agg (.cons (.var (.i .i64) 0) (.cons (.var (.i .i64) 1) (.cons (.var .s 2) (.cons (.var .sl 3) .nil)))))), (31, (.agg (.cons (.var (.i .i64) 4) (.cons (.var (.i .i64) 5) (.cons (.var .s 6) (.cons (.var .sl 7) .nil))))))] [uI v0, uI v1, uS v2, uL v3, uI v4, uI v5, uS v6, uL v7] rfl (by kernel_rfl) h
def w22o23 (v0 : Value) (v1 : Sl) : MR := fun V R =>
 ∃ f first caps, K.cast .f v0 = .func (.func f) first caps /\ CO f /\
 TT f (first ++ #[uI 14, uS (qAj []), uL v1] ++ caps) V fun e V1 => ∃ v2 v3 v4 v5, e = rV (uA #[uI v2, uI v3, uS v4, uL v5]) /\
 R (rT #[uA #[uI v2, uI v3, uS v4, uL v5]]) V1
theorem s22o23 {v0 : Value} {v1 : Sl} {V : Mem} {R : List Value -> Mem -> Prop} (h : w22o23 v0 v1 V (OV R)) : qCa Tryz.prog 50 qAX 23 1 [(28, K.cast .f v0), (32, uL v1)] [33] V R :=
 qAm (H := hK 50) [(28, (.var .f 0)), (32, (.var .sl 1))] [v0, uL v1] rfl (by kernel_rfl) h
def w22o24 (v0 : Value) : MR := fun V R =>
 R (rT #[K.cast .f v0]) V
theorem s22o24 {v0 : Value} {V : Mem} {R : List Value -> Mem -> Prop} (h : w22o24 v0 V (OV R)) : qCa Tryz.prog 50 qAX 24 1 [(1, K.cast .f v0)] [34] V R :=
 qAm (H := hK 50) [(1, (.var .f 0))] [v0] rfl (by kernel_rfl) h
def w22o25 (v0 : Value) : MR := fun V R =>
 R (rT #[K.cast .f v0]) V
theorem s22o25 {v0 : Value} {V : Mem} {R : List Value -> Mem -> Prop} (h : w22o25 v0 V (OV R)) : qCa Tryz.prog 50 qAX 25 1 [(1, K.cast .f v0)] [35] V R :=
 qAm (H := hK 50) [(1, (.var .f 0))] [v0] rfl (by kernel_rfl) h
def w22o26 (v0 : Option Addr) : MR := fun V R =>
 ∃ v1 v2 v3 v4, V.rowp v0 ((0 : Int).toNat * 1) 4 = some [uI v1, uI v2, uS v3, uL v4] /\
 R (rT #[uA #[uI v1, uI v2, uS v3, uL v4]]) V
theorem s22o26 {v0 : Option Addr} {V : Mem} {R : List Value -> Mem -> Prop} (h : w22o26 v0 V (OV R)) : qCa Tryz.prog 50 qAX 26 1 [(2, uP v0)] [36] V R :=
 qAm (H := hK 50) [(2, (.var .p 0))] [uP v0] rfl (by kernel_rfl) h
def w22o27 (v0 v1 : Int) (v2 : ByteArray) (v3 : Sl) : MR := fun V R =>
 qAo [uI v0, uI v1, uS v2, uL v3] 69 V fun v4 V1 =>
 R (rT #[.slice (qAa v4 0) 1 1]) V1
theorem s22o27 {v0 v1 : Int} {v2 : ByteArray} {v3 : Sl} {V : Mem} {R : List Value -> Mem -> Prop} (h : w22o27 v0 v1 v2 v3 V (OV R)) : qCa Tryz.prog 50 qAX 27 1 [(36, uA #[uI v0, uI v1, uS v2, uL v3])] [37] V R :=
 qAm (H := hK 50) [(36, (.agg (.cons (.var (.i .i64) 0) (.cons (.var (.i .i64) 1) (.cons (.var .s 2) (.cons (.var .sl 3) .nil))))))] [uI v0, uI v1, uS v2, uL v3] rfl (by kernel_rfl) h
def w22o28 (v0 : Value) (v1 : Sl) : MR := fun V R =>
 ∃ f first caps, K.cast .f v0 = .func (.func f) first caps /\ CO f /\
 TT f (first ++ #[uI 5, uS (qAj [110]), uL v1] ++ caps) V fun e V1 => ∃ v2 v3 v4 v5, e = rV (uA #[uI v2, uI v3, uS v4, uL v5]) /\
 R (rT #[uA #[uI v2, uI v3, uS v4, uL v5]]) V1
theorem s22o28 {v0 : Value} {v1 : Sl} {V : Mem} {R : List Value -> Mem -> Prop} (h : w22o28 v0 v1 V (OV R)) : qCa Tryz.prog 50 qAX 28 1 [(35, K.cast .f v0), (37, uL v1)] [38] V R :=
 qAm (H := hK 50) [(35, (.var .f 0)), (37, (.var .sl 1))] [v0, uL v1] rfl (by kernel_rfl) h
def w22o29 (v0 : Value) : MR := fun V R =>
 R (rT #[K.cast .f v0]) V
theorem s22o29 {v0 : Value} {V : Mem} {R : List Value -> Mem -> Prop} (h : w22o29 v0 V (OV R)) : qCa Tryz.prog 50 qAX 29 1 [(1, K.cast .f v0)] [39] V R :=
 qAm (H := hK 50) [(1, (.var .f 0))] [v0] rfl (by kernel_rfl) h
def w22o30 (v0 : Option Addr) : MR := fun V R =>
 ∃ v1 v2 v3 v4, V.rowp v0 ((0 : Int).toNat * 1) 4 = some [uI v1, uI v2, uS v3, uL v4] /\
 R (rT #[uA #[uI v1, uI v2, uS v3, uL v4]]) V
theorem s22o30 {v0 : Option Addr} {V : Mem} {R : List Value -> Mem -> Prop} (h : w22o30 v0 V (OV R)) : qCa Tryz.prog 50 qAX 30 1 [(3, uP v0)] [40] V R :=
 qAm (H := hK 50) [(3, (.var .p 0))] [uP v0] rfl (by kernel_rfl) h
def w22o31 (v0 v1 : Int) (v2 : ByteArray) (v3 : Sl) : MR := fun V R =>
 qAo [uI v0, uI v1, uS v2, uL v3] 69 V fun v4 V1 =>
 R (rT #[.slice (qAa v4 0) 1 1]) V1
theorem s22o31 {v0 v1 : Int} {v2 : ByteArray} {v3 : Sl} {V : Mem} {R : List Value -> Mem -> Prop} (h : w22o31 v0 v1 v2 v3 V (OV R)) : qCa Tryz.prog 50 qAX 31 1 [(40, uA #[uI v0, uI v1, uS v2, uL v3])] [41] V R :=
 qAm (H := hK 50) [(40, (.agg (.cons (.var (.i .i64) 0) (.cons (.var (.i .i64) 1) (.cons (.var .s 2) (.cons (.var .sl 3) .nil))))))] [uI v0, uI v1, uS v2, uL v3] rfl (by kernel_rfl) h
def w22o32 (v0 : Value) (v1 : Sl) : MR := fun V R =>
 ∃ f first caps, K.cast .f v0 = .func (.func f) first caps /\ CO f /\
 TT f (first ++ #[uI 5, uS (qAj [110]), uL v1] ++ caps) V fun e V1 => ∃ v2 v3 v4 v5, e = rV (uA #[uI v2, uI v3, uS v4, uL v5]) /\
 R (rT #[uA #[uI v2, uI v3, uS v4, uL v5]]) V1
theorem s22o32 {v0 : Value} {v1 : Sl} {V : Mem} {R : List Value -> Mem -> Prop} (h : w22o32 v0 v1 V (OV R)) : qCa Tryz.prog 50 qAX 32 1 [(39, K.cast .f v0), (41, uL v1)] [42] V R :=
 qAm (H := hK 50) [(39, (.var .f 0)), (41, (.var .sl 1))] [v0, uL v1] rfl (by kernel_rfl) h
def w22o33 (v0 v1 : Int) (v2 : ByteArray) (v3 : Sl) (v4 v5 : Int) (v6 : ByteArray) (v7 : Sl) : MR := fun V R =>
 qAo [uI v0, uI v1, uS v2, uL v3, uI v4, uI v5, uS v6, uL v7] 69 V fun v8 V1 =>
 R (rT #[.slice (qAa v8 0) 2 2]) V1
theorem s22o33 {v0 v1 : Int} {v2 : ByteArray} {v3 : Sl} {v4 v5 : Int} {v6 : ByteArray} {v7 : Sl} {V : Mem} {R : List Value -> Mem -> Prop} (h : w22o33 v0 v1 v2 v3 v4 v5 v6 v7 V (OV R)) : qCa Tryz.prog 50 qAX 33 1 [(38, uA #[uI v0, uI v1, uS v2, uL v3]), (42, uA #[uI v4, uI v5, uS v6, uL v7])] [43] V R :=
 qAm (H := hK 50) [(38, (.agg (.cons (.var (.i .i64) 0) (.cons (.var (.i .i64) 1) (.cons (.var .s 2) (.cons (.var .sl 3) .nil)))))), (42, (.agg (.cons (.var (.i .i64) 4) (.cons (.var (.i .i64) 5) (.cons (.var .s 6) (.cons (.var .sl 7) .nil))))))] [uI v0, uI v1, uS v2, uL v3, uI v4, uI v5, uS v6, uL v7] rfl (by kernel_rfl) h
def w22o34 (v0 : Value) (v1 : Sl) : MR := fun V R =>
 ∃ f first caps, K.cast .f v0 = .func (.func f) first caps /\ CO f /\
 TT f (first ++ #[uI 16, uS (qAj []), uL v1] ++ caps) V fun e V1 => ∃ v2 v3 v4 v5, e = rV (uA #[uI v2, uI v3, uS v4, uL v5]) /\
 R (rT #[uA #[uI v2, uI v3, uS v4, uL v5]]) V1
theorem s22o34 {v0 : Value} {v1 : Sl} {V : Mem} {R : List Value -> Mem -> Prop} (h : w22o34 v0 v1 V (OV R)) : qCa Tryz.prog 50 qAX 34 1 [(34, K.cast .f v0), (43, uL v1)] [44] V R :=
 qAm (H := hK 50) [(34, (.var .f 0)), (43, (.var .sl 1))] [v0, uL v1] rfl (by kernel_rfl) h
def w22o35 (v0 v1 : Int) (v2 : ByteArray) (v3 : Sl) (v4 v5 : Int) (v6 : ByteArray) (v7 : Sl) : MR := fun V R =>
 qAo [uI v0, uI v1, uS v2, uL v3, uI v4, uI v5, uS v6, uL v7] 69 V fun v8 V1 =>
 R (rT #[.slice (qAa v8 0) 2 2]) V1
theorem s22o35 {v0 v1 : Int} {v2 : ByteArray} {v3 : Sl} {v4 v5 : Int} {v6 : ByteArray} {v7 : Sl} {V : Mem} {R : List Value -> Mem -> Prop} (h : w22o35 v0 v1 v2 v3 v4 v5 v6 v7 V (OV R)) : qCa Tryz.prog 50 qAX 35 1 [(33, uA #[uI v0, uI v1, uS v2, uL v3]), (44, uA #[uI v4, uI v5, uS v6, uL v7])] [45] V R :=
 qAm (H := hK 50) [(33, (.agg (.cons (.var (.i .i64) 0) (.cons (.var (.i .i64) 1) (.cons (.var .s 2) (.cons (.var .sl 3) .nil)))))), (44, (.agg (.cons (.var (.i .i64) 4) (.cons (.var (.i .i64) 5) (.cons (.var .s 6) (.cons (.var .sl 7) .nil))))))] [uI v0, uI v1, uS v2, uL v3, uI v4, uI v5, uS v6, uL v7] rfl (by kernel_rfl) h
def w22o36 (v0 : Value) (v1 : Sl) : MR := fun V R =>
 ∃ f first caps, K.cast .f v0 = .func (.func f) first caps /\ CO f /\
 TT f (first ++ #[uI 20, uS (qAj []), uL v1] ++ caps) V fun e V1 => ∃ v2 v3 v4 v5, e = rV (uA #[uI v2, uI v3, uS v4, uL v5]) /\
 R (rT #[uA #[uI v2, uI v3, uS v4, uL v5]]) V1
theorem s22o36 {v0 : Value} {v1 : Sl} {V : Mem} {R : List Value -> Mem -> Prop} (h : w22o36 v0 v1 V (OV R)) : qCa Tryz.prog 50 qAX 36 1 [(27, K.cast .f v0), (45, uL v1)] [46] V R :=
 qAm (H := hK 50) [(27, (.var .f 0)), (45, (.var .sl 1))] [v0, uL v1] rfl (by kernel_rfl) h
def w22o37 (v0 v1 : Int) (v2 : ByteArray) (v3 : Sl) : MR := fun V R =>
 R (rT #[uA #[uS (qAj [115, 111, 114, 116, 101, 100]), uS (qAj [84]), uI v0, uI v1, uS v2, uL v3]]) V
theorem s22o37 {v0 v1 : Int} {v2 : ByteArray} {v3 : Sl} {V : Mem} {R : List Value -> Mem -> Prop} (h : w22o37 v0 v1 v2 v3 V (OV R)) : qCa Tryz.prog 50 qAX 37 1 [(46, uA #[uI v0, uI v1, uS v2, uL v3])] [47] V R :=
 qAm (H := hK 50) [(46, (.agg (.cons (.var (.i .i64) 0) (.cons (.var (.i .i64) 1) (.cons (.var .s 2) (.cons (.var .sl 3) .nil))))))] [uI v0, uI v1, uS v2, uL v3] rfl (by kernel_rfl) h
def w22o38 (v0 v1 : ByteArray) (v2 v3 : Int) (v4 : ByteArray) (v5 : Sl) : MR := fun V R =>
 qAo [uS v0, uS v1, uI v2, uI v3, uS v4, uL v5] 105 V fun v6 V1 =>
 R (rT #[.slice (qAa v6 0) 1 1]) V1
theorem s22o38 {v0 v1 : ByteArray} {v2 v3 : Int} {v4 : ByteArray} {v5 : Sl} {V : Mem} {R : List Value -> Mem -> Prop} (h : w22o38 v0 v1 v2 v3 v4 v5 V (OV R)) : qCa Tryz.prog 50 qAX 38 1 [(47, uA #[uS v0, uS v1, uI v2, uI v3, uS v4, uL v5])] [48] V R :=
 qAm (H := hK 50) [(47, (.agg (.cons (.var .s 0) (.cons (.var .s 1) (.cons (.var (.i .i64) 2) (.cons (.var (.i .i64) 3) (.cons (.var .s 4) (.cons (.var .sl 5) .nil))))))))] [uS v0, uS v1, uI v2, uI v3, uS v4, uL v5] rfl (by kernel_rfl) h
def w22o39 (v0 v1 v2 v3 : Sl) : MR := fun V R =>
 R (rT #[uA #[uS (qAj [108]), uL v0, uL v1, .slice none 0 0, uL v2, uL v3, .slice none 0 0, .slice none 0 0]]) V
theorem s22o39 {v0 v1 v2 v3 : Sl} {V : Mem} {R : List Value -> Mem -> Prop} (h : w22o39 v0 v1 v2 v3 V (OV R)) : qCa Tryz.prog 50 qAX 39 1 [(14, uL v0), (16, uL v1), (26, uL v2), (48, uL v3)] [49] V R :=
 qAm (H := hK 50) [(14, (.var .sl 0)), (16, (.var .sl 1)), (26, (.var .sl 2)), (48, (.var .sl 3))] [uL v0, uL v1, uL v2, uL v3] rfl (by kernel_rfl) h
def w22o40 (v0 : Option Addr) (v1 : ByteArray) (v2 v3 v4 v5 v6 v7 v8 : Sl) : MR := fun V R =>
 StT v0 0 [uS v1, uL v2, uL v3, uL v4, uL v5, uL v6, uL v7, uL v8] V fun V1 =>
 R (rT #[]) V1
theorem s22o40 {v0 : Option Addr} {v1 : ByteArray} {v2 v3 v4 v5 v6 v7 v8 : Sl} {V : Mem} {R : List Value -> Mem -> Prop} (h : w22o40 v0 v1 v2 v3 v4 v5 v6 v7 v8 V (OV R)) : qCa Tryz.prog 50 qAX 40 1 [(0, uP v0), (49, uD v1 v2 v3 v4 v5 v6 v7 v8)] [] V R :=
 qAm (H := hK 50) [(0, (.var .p 0)), (49, (.agg (.cons (.var .s 1) (.cons (.var .sl 2) (.cons (.var .sl 3) (.cons (.var .sl 4) (.cons (.var .sl 5) (.cons (.var .sl 6) (.cons (.var .sl 7) (.cons (.var .sl 8) .nil))))))))))] [uP v0, uS v1, uL v2, uL v3, uL v4, uL v5, uL v6, uL v7, uL v8] rfl (by kernel_rfl) h
end
end Go.Proofs
namespace Go.Sx
open Go
section
variable {P : Program}
def Has (N : Nat) (a : Act) (l : List (Nat × Value)) : Prop := a.tmps.size = N /\ ∀ s v, l.lookup s = some v -> a.tmps.getD s undef = v
theorem Seg.step {r : Option Nat} {n N : Nat} {Q : Exit -> Act -> World -> Prop} {cs rest : List Code} {ins : List (Nat × Value)} {outs : List Nat} {V : Mem} {R : List Value -> Mem -> Prop} {a : Act} {w : World} (h : Seg P N cs ins outs V R) (hV : V.le w) (ha : Has N a ins)
  (k : ∀ a' w' vs V', a'.defers = a.defers -> Has N a' (outs.zip vs) -> R vs V' -> Frm V w V' w' -> wpL r n P Q rest a' w') : wpL r n P Q (cs ++ rest) a w := by
 refine qIm (qDt ?_ (h r n a w hV ha.1 ha.2))
 rintro e a' w' ⟨rfl, h1, h2, vs, V', h3, h4, h5⟩
 exact k a' w' vs V' h1 ⟨h2, h3⟩ h4 h5
theorem qCa.step {r : Option Nat} {n N k m : Nat} {Q : Exit -> Act -> World -> Prop} {ops : Array Oper} {rest : List Nat} {ins : List (Nat × Value)} {outs : List Nat} {V : Mem} {R : List Value -> Mem -> Prop} {a : Act} {w : World} (h : qCa P N ops k m ins outs V R) (hV : V.le w) (ha : Has N a ins)
  (go : ∀ a' w' vs V', a'.defers = a.defers -> Has N a' (outs.zip vs) -> R vs V' -> Frm V w V' w' -> wpOpsIn (qAt r) n P ops Q rest a' w') : wpOpsIn (qAt r) n P ops Q (List.range' k m ++ rest) a w := by
 refine qIc (fun c a w he => by cases he.1) (fun ⟨_, _, he⟩ => by cases he.1) ?_ (h r n a w hV ha.1 ha.2)
 rintro a' w' ⟨_, h1, h2, vs, V', h3, h4, h5⟩
 exact go a' w' vs V' h1 ⟨h2, h3⟩ h4 h5
theorem yield_op {ops : Array Oper} {i : Nat} {o : Oper} {c : Call} {fv : Operand} {l : Nat} {rec : Loop} {args : Array Value} {rest : List Nat} {Q : Exit -> Act -> World -> Prop} {a : Act} {w : World} (ho : ops[i]? = some o) (hg : o.guard = none) (hop : o.op = .call c) (hc : c.callee = .value fv)
  (hf : a.eval fv = .func (.yield l) #[] #[]) (hargs : c.args.map a.eval = args) (hl : w.heap[l]? = some (.loop rec)) (hs : args.size = rec.params.size)
  (hR : RoundIn (qAt none) 0 P l rec.fn ((rec.params.zip args).foldl (fun t (p, v) => t.setIfInBounds p v) rec.tmps) rec.assign rec.body w fun e w' => ∃ v, e = .returned v /\ wpOpsIn (qAt none) 0 P ops Q rest (a.put o.dst v) w') :
  wpOpsIn (qAt none) 0 P ops Q (i :: rest) a w := by
 rw [wpOpsIn_cons]
 unfold wpOpIn
 simp only [ho]
 rw [if_pos (by simp [Region.wanted, hg])]
 refine ⟨fun _ _ => trivial, ?_⟩
 rw [Oper.semAt_eq _ _ _ (fun d => by rw [hop]; intro h; cases h)]
 have hrun : (execOp a.eval o).run P w = .ok (.round l rec.fn ((rec.params.zip args).foldl (fun t (p, v) => t.setIfInBounds p v) rec.tmps) rec.assign rec.body) w := by
  unfold execOp
  simp only [hop, resolve, hc, hf, hargs, Deferred.ofValue, Sem.run_bind, Sem.run_pure, Result.andThen_ok, invoke]
  simp only [Array.append_empty, Array.empty_append]
  exact run_yield hl hs
 rw [hrun]
 refine ⟨fun h => by simp [qAt, Fence.wide] at h, hR.mono ?_⟩
 rintro e w' ⟨v, rfl, h⟩
 exact h
theorem Has.get {N : Nat} {a : Act} {l : List (Nat × Value)} (h : Has N a l) {s : Nat} {v : Value} (hs : l.lookup s = some v) : a.tmps.getD s undef = v := h.2 s v hs
theorem qHV {f : FuncId} {fn : Func} {c L B : Code} {b0 b1 id : Nat} {cA cB cE : List Code} {ops : Array Oper} {o6 : Oper} {at6 : Array TypeId} {fn' : FuncId} {tmps : Array Value} {ps : Array Tmp} {assign body : Code} {D : Nat} {l : Nat} {box : Option Addr} {n : Nat} {el : Nat -> Value} {J : Nat -> Mem -> Prop} {Bk : Mem -> Prop} {V : Mem}
  (hf : P.funcs[f]? = some fn) (hb : fn.body = some c) (e1 : flat c = cA ++ [.block b0 (.loop L)]) (e2 : flat L = cB ++ ([.cond (.tmp 8) .skip (.exit b0), .block b1 B] ++ cE)) (e3 : flat B = [.region id ops false, .cond (.tmp 18) .ret .skip])
  (ho : ops[6]? = some o6) (hgd : o6.guard = none) (hop : o6.op = .call { callee := .value (.tmp 11), args := #[.tmp 12, .tmp 16], argTypes := at6 }) (hdst : o6.dst = some 17) (hsz : ops.size = 8) (hres : fn.results = #[]) (hN : fn.ntmps = 19) (hps : ps.size = 2)
  (hA : ∀ M, Bk M -> Seg P 19 cA [(0, .func (.yield l) #[] #[]), (1, .pointer box)] [0, 1, 3] M fun vs V' => V' = M /\ vs = [.func (.yield l) #[] #[], .pointer box, .int .i64 ((n : Int) - 1)])
  (hB : ∀ M (j : Int), Seg P 19 cB [(0, .func (.yield l) #[] #[]), (1, .pointer box), (3, .int .i64 j)] [0, 1, 3, 8] M fun vs V' => V' = M /\ vs = [.func (.yield l) #[] #[], .pointer box, .int .i64 j, .bool (decide (0 <= j))])
  (hC : ∀ M (k : Nat), Bk M -> k < n -> qCa P 19 ops 0 6 [(0, .func (.yield l) #[] #[]), (1, .pointer box), (3, .int .i64 k)] [0, 1, 3, 11, 12, 16] M fun vs V' => V' = M /\ vs = [.func (.yield l) #[] #[], .pointer box, .int .i64 k, .func (.yield l) #[] #[], .int .i64 k, el k])
  (hD : ∀ M (j : Int) (b : Bool), qCa P 19 ops 7 1 [(0, .func (.yield l) #[] #[]), (1, .pointer box), (3, .int .i64 j), (17, .bool b)] [0, 1, 3, 18] M fun vs V' => V' = M /\ vs = [.func (.yield l) #[] #[], .pointer box, .int .i64 j, .bool (!b)])
  (hE : ∀ M (j : Int), Bk M -> 0 <= j -> j < n -> Seg P 19 cE [(0, .func (.yield l) #[] #[]), (1, .pointer box), (3, .int .i64 j)] [0, 1, 3] M fun vs V' => V' = M /\ vs = [.func (.yield l) #[] #[], .pointer box, .int .i64 (j - 1)])
  (hJ : ∀ i V2, J i V2 -> V2 l = none -> Bk (V2.set l (.loop (qDh fn' tmps ps assign body D))))
  (hround : ∀ k, k < n -> ∀ V2, J (n - 1 - k) V2 -> V2 l = none -> ∀ w, (V2.set l (.loop (qDh fn' tmps ps assign body D))).le w ->
   RoundIn (qAt none) 0 P l fn' ((ps.zip #[.int .i64 k, el k]).foldl (fun t (p, v) => t.setIfInBounds p v) tmps) assign body w fun e w' =>
    e = .returned (.bool true) /\ ∃ V3, J (n - k) V3 /\ V3 l = none /\ Frm (V2.set l (.loop (qDh fn' tmps ps assign body D))) w (V3.set l (.loop (qDh fn' tmps ps assign body D))) w')
  (h0 : J 0 V) (hl : V l = none) :
  Tri P f #[.func (.yield l) #[] #[], .pointer box] (V.set l (.loop (qDh fn' tmps ps assign body D))) fun e V' => (∃ v, e = .returned v) /\ ∃ V2, V' = V2.set l (.loop (qDh fn' tmps ps assign body D)) /\ V2 l = none /\ J n V2 := by
 intro w hV
 refine (callsIn_wide (n := 0)).1 (callsIn_of_wp (F := qAt none) hf hb trivial (qCE ?_) rfl)
 rw [e1]
 have hH0 : Has 19 { tmps := #[.func (.yield l) #[] #[], .pointer box] ++ Array.replicate (fn.ntmps - (#[Value.func (.yield l) #[] #[], .pointer box]).size) undef, defers := [] } [(0, .func (.yield l) #[] #[]), (1, .pointer box)] := by
  constructor
  ·simp [hN]
  ·intro s v hs
   simp only [List.lookup_cons] at hs
   split at hs
   ·rename_i e
    simp only [beq_iff_eq] at e; subst e
    cases hs
    simp [Array.getD, hN]
   ·split at hs
    ·rename_i e
     simp only [beq_iff_eq] at e; subst e
     cases hs
     simp [Array.getD, hN]
    ·cases hs
 refine (hA _ (hJ 0 V h0 hl)).step hV hH0 ?_
 rintro a1 w1 vs V1 hd1 hH1 ⟨rfl, rfl⟩ hF1
 refine wpIn_block ?_
 refine qEN (fun m a w' => ∃ (i : Nat) (V2 : Mem), i <= n /\ m = n - i /\ J i V2 /\ V2 l = none /\ a.defers = [] /\ Has 19 a [(0, .func (.yield l) #[] #[]), (1, .pointer box), (3, .int .i64 ((n : Int) - 1 - i))] /\
  Frm (V.set l (.loop (qDh fn' tmps ps assign body D))) w (V2.set l (.loop (qDh fn' tmps ps assign body D))) w') ⟨n, 0, V, by omega, rfl, h0, hl, hd1, by simpa using hH1, hF1⟩ ?_
 rintro m a2 w2 ⟨i, V2, hi, rfl, hJi, hl2, hd2, hH2, hF2⟩
 refine qCE ?_
 rw [e2]
 refine (hB _ _).step hF2.le hH2 ?_
 rintro a3 w3 vs V3 hd3 hH3 ⟨rfl, rfl⟩ hF3
 have hev8 : a3.eval (.tmp 8) = .bool (decide (0 <= (n : Int) - 1 - i)) := hH3.get rfl
 show Code.wpIn (qAt none) 0 P _ _ a3 w3
 by_cases hlt : i < n
 ·have hdc : decide (0 <= (n : Int) - 1 - i) = true := by simp; omega
  rw [hdc] at hev8
  refine wpIn_cond_true hev8 (wpIn_skip ?_)
  show Code.wpIn (qAt none) 0 P _ _ a3 w3
  refine wpIn_block (qCE ?_)
  rw [e3]
  have hk : ((n : Int) - 1 - i) = ((n - 1 - i : Nat) : Int) := by omega
  have hH3' : Has 19 a3 [(0, .func (.yield l) #[] #[]), (1, .pointer box), (3, .int .i64 ((n - 1 - i : Nat) : Int))] := ⟨hH3.1, fun s v hs => hH3.2 s v (by
   rw [hk]
   simp only [List.zip_cons_cons, List.lookup_cons] at hs ⊢
   split at hs
   ·exact hs
   ·split at hs
    ·exact hs
    ·split at hs
     ·exact hs
     ·cases hs)⟩
  refine wpIn_region ?_
  rw [hsz, show List.range 8 = List.range' 0 6 ++ [6, 7] from rfl]
  refine (hC _ (n - 1 - i) (hJ _ _ hJi hl2) (by omega)).step hF3.le hH3' ?_
  rintro a4 w4 vs V4 hd4 hH4 ⟨rfl, rfl⟩ hF4
  have hl4 : w4.heap[l]? = some (.loop (qDh fn' tmps ps assign body D)) := hF4.le _ _ (Mem.set_same _ _ _)
  refine yield_op (args := #[.int .i64 ((n - 1 - i : Nat) : Int), el (n - 1 - i)]) ho hgd hop rfl (hH4.get rfl) ?_ hl4 (by simp [qDh, hps]) ?_
  ·have g1 : a4.eval (.tmp 12) = .int .i64 ((n - 1 - i : Nat) : Int) := hH4.get rfl
   have g2 : a4.eval (.tmp 16) = el (n - 1 - i) := hH4.get rfl
   simp [g1, g2]
  refine (hround (n - 1 - i) (by omega) V2 (by rw [show n - 1 - (n - 1 - i) = i by omega]; exact hJi) hl2 w4 hF4.le).mono ?_
  rintro e w5 ⟨rfl, V5, hJ5, hl5, hF5⟩
  refine ⟨_, rfl, ?_⟩
  rw [hdst]
  have hlt17 : (17 : Nat) < a4.tmps.size := by rw [hH4.1]; decide
  have hH5 : Has 19 (a4.put (some 17) (.bool true)) [(0, .func (.yield l) #[] #[]), (1, .pointer box), (3, .int .i64 ((n - 1 - i : Nat) : Int)), (17, .bool true)] := by
   refine ⟨by simp [Act.put, hH4.1], fun s v hs => ?_⟩
   have other : ∀ s, s ≠ 17 -> (a4.put (some 17) (.bool true)).tmps.getD s undef = a4.tmps.getD s undef := fun s hs => by
    simp [Act.put, Array.getD_eq_getD_getElem?, Array.getElem?_setIfInBounds_ne (Ne.symm hs)]
   simp only [List.lookup_cons] at hs
   split at hs
   ·rename_i e; simp only [beq_iff_eq] at e; subst e; cases hs; rw [other _ (by decide)]; exact hH4.get rfl
   ·split at hs
    ·rename_i e; simp only [beq_iff_eq] at e; subst e; cases hs; rw [other _ (by decide)]; exact hH4.get rfl
    ·split at hs
     ·rename_i e; simp only [beq_iff_eq] at e; subst e; cases hs; rw [other _ (by decide)]; exact hH4.get rfl
     ·split at hs
      ·rename_i e; simp only [beq_iff_eq] at e; subst e; cases hs
       simp [Act.put, Array.getD_eq_getD_getElem?, hlt17]
      ·cases hs
  rw [show [7] = List.range' 7 1 ++ [] from rfl]
  refine (hD _ _ true).step hF5.le hH5 ?_
  rintro a6 w6 vs V6 hd6 hH6 ⟨rfl, rfl⟩ hF6
  show Code.wpIn (qAt none) 0 P (.cond (.tmp 18) .ret .skip) _ a6 w6
  refine wpIn_cond_false (hH6.get rfl) (wpIn_skip ?_)
  rw [<- List.append_nil cE]
  refine (hE _ ((n - 1 - i : Nat) : Int) (hJ _ _ hJ5 hl5) (by omega) (by omega)).step hF6.le ⟨hH6.1, fun s v hs => hH6.2 s v ?_⟩ ?_
  ·simp only [List.zip_cons_cons, List.lookup_cons] at hs ⊢
   split at hs
   ·exact hs
   ·split at hs
    ·exact hs
    ·split at hs
     ·exact hs
     ·cases hs
  rintro a7 w7 vs V7 hd7 hH7 ⟨rfl, rfl⟩ hF7
  refine ⟨n - (i + 1), by omega, i + 1, V5, by omega, rfl, ?_, hl5, ?_, ?_, ?_⟩
  ·rw [show i + 1 = n - (n - 1 - i) by omega]; exact hJ5
  ·rw [hd7, hd6]
   show a4.defers = []
   rw [hd4, hd3, hd2]
  ·rw [show (n : Int) - 1 - ((i + 1 : Nat) : Int) = ((n - 1 - i : Nat) : Int) - 1 by omega]
   exact hH7
  ·exact ((((hF2.trans hF3).trans hF4).trans hF5).trans hF6).trans hF7
 ·have hin : i = n := by omega
  subst hin
  have hdc : decide (0 <= (i : Int) - 1 - i) = false := by simp; omega
  rw [hdc] at hev8
  refine wpIn_cond_false hev8 (wpIn_exit ?_)
  show (if b0 = b0 then _ else _)
  rw [if_pos rfl]
  refine ⟨?_, _, results_none hres _ _ _, _, ⟨⟨_, rfl⟩, V2, rfl, hl2, hJi⟩, hF2.trans hF3⟩
  rw [hd3, hd2]
end
end Go.Sx
namespace Go.Proofs
open Go Go.Sx
attribute [local irreducible] Go.Sx.Tri
theorem qAq.makeMap {P : Program} {V : Mem} {t : TypeId} {ty : Nat} {vals : Operand -> Value} {q : Value -> Mem -> Prop} (hq : ∀ b, V b = none -> q (.map (some b)) (V.set b (.map #[] 0))) : qAq P (.makeMap t none) ty vals V q := by
 intro w hw
 have hn : V w.heap.size = none := by
  cases hc : V w.heap.size with
  | none => rfl
  | some o => have := (Array.getElem?_eq_some_iff.1 (hw _ o hc)).1; omega
 refine ⟨_, w.alloc (.map #[] 0), V.set w.heap.size (.map #[] 0), rfl, ?_, hq _ hn⟩
 refine ⟨by simp, fun b o hb => ?_, fun b hb _ => Go.RowKit.Below.heap_alloc _ _ _ hb, fun b hb => ?_, rfl, rfl⟩
 ·by_cases e : b = w.heap.size
  ·subst e; rw [Mem.set_same] at hb; rw [<- hb]; exact World.alloc_heap_new _ _
  ·rw [Mem.set_ne e] at hb
   have hlt := (Array.getElem?_eq_some_iff.1 (hw b o hb)).1
   exact (Go.RowKit.Below.heap_alloc _ _ _ hlt).trans (hw b o hb)
 ·by_cases e : b = w.heap.size
  ·exact .inr (by omega)
  ·rw [Mem.set_ne e] at hb; exact .inl hb
theorem qJq {α : Type} {V : Mem} {s : Sl} {sz : Nat} {row : α -> List Value} {xs : List α} (h : qAd V s sz (xs.map row)) : K.inR .i64 ((s.n : Int) - 1) := by
 have := h.cap; have := h.fit
 exact ⟨by omega, by omega⟩
theorem it238 {V : Mem} {fn' : FuncId} {tmps : Array Value} {ps : Array Tmp} {assign body : Code} {D : Nat} {l : Nat} {bx : Nat} {s : Sl} {xs : List Fld} {J : Nat -> Mem -> Prop} (hps : ps.size = 2)
  (hJ : ∀ i V2, J i V2 -> V2 l = none -> V2 bx = some (cell (.slice s.p s.n s.c) 23) /\ qAd V2 s 2 (xs.map Fld.row))
  (hround : ∀ k x, xs[k]? = some x -> ∀ V2, J (xs.length - 1 - k) V2 -> V2 l = none -> ∀ w, (V2.set l (.loop (qDh fn' tmps ps assign body D))).le w ->
   RoundIn (qAt none) 0 Tryz.prog l fn' ((ps.zip #[.int .i64 k, Fld.v x]).foldl (fun t (p, v) => t.setIfInBounds p v) tmps) assign body w fun e w' =>
    e = .returned (.bool true) /\ ∃ V3, J (xs.length - k) V3 /\ V3 l = none /\ Frm (V2.set l (.loop (qDh fn' tmps ps assign body D))) w (V3.set l (.loop (qDh fn' tmps ps assign body D))) w')
  (h0 : J 0 V) (hl : V l = none) :
  Tri Tryz.prog 238 #[.func (.yield l) #[] #[], pv bx] (V.set l (.loop (qDh fn' tmps ps assign body D))) fun e V' => (∃ v, e = .returned v) /\ ∃ V2, V' = V2.set l (.loop (qDh fn' tmps ps assign body D)) /\ V2 l = none /\ J xs.length V2 := by
 refine qHV (c := qAl Tryz.f238) (L := kid ((qCu (qAl Tryz.f238) [1, 0]).getD 0 .skip) 0) (B := kid ((qCu (qAl Tryz.f238) [1, 0, 0, 0]).getD 2 .skip) 0) (cA := c238a) (cB := c238b) (cE := c238e) (ops := c238c) (b0 := 0) (b1 := 1) (id := 3)
  (o6 := (c238c)[6]?.getD default) (at6 := #[3, 110]) (el := fun k => (xs[k]?.map Fld.v).getD undef) (Bk := fun M => M bx = some (cell (.slice s.p s.n s.c) 23) /\ qAd M s 2 (xs.map Fld.row))
  Tryz.func238 (by kernel_rfl) (by kernel_rfl) (by kernel_rfl) (by kernel_rfl) (by kernel_rfl) (by kernel_rfl) (by kernel_rfl) (by kernel_rfl) (by kernel_rfl) (by kernel_rfl) (by kernel_rfl) hps ?_ ?_ ?_ ?_ ?_ ?_ ?_ h0 hl
 ·rintro M ⟨h1, h2⟩
  refine s238a (v0 := .func (.yield l) #[] #[]) (v1 := some ⟨bx, 0, none⟩) ?_
  unfold w238a
  exact ⟨s, qBr h1, qJq h2, _, rfl, rfl, by rw [h2.n_eq]; rfl⟩
 ·intro M j
  refine s238b (v0 := .func (.yield l) #[] #[]) (v1 := some ⟨bx, 0, none⟩) ?_
  unfold w238b
  exact ⟨_, rfl, rfl, rfl⟩
 ·rintro M k ⟨h1, h2⟩ hk
  refine s238c (v0 := .func (.yield l) #[] #[]) (v1 := some ⟨bx, 0, none⟩) ?_
  unfold w238c
  obtain ⟨x, hm, hx, hdr, hlt, hnn, hz, hrow⟩ := h2.get (i := k) (by rw [h2.n_eq]; omega)
  exact ⟨s, qBr h1, hnn, hz, by rw [h2.n_eq]; omega, x.name, x.ty, hrow, _, rfl, rfl, by rw [hx]; rfl⟩
 ·intro M j b
  refine s238d (v0 := .func (.yield l) #[] #[]) (v1 := some ⟨bx, 0, none⟩) ?_
  unfold w238d
  exact ⟨_, rfl, rfl, rfl⟩
 ·rintro M j ⟨h1, h2⟩ hj hj2
  have hb1 := h2.cap
  have hb2 := h2.fit
  have hb3 := h2.n_eq
  refine s238e (v0 := .func (.yield l) #[] #[]) (v1 := some ⟨bx, 0, none⟩) ?_
  unfold w238e
  exact ⟨⟨by omega, by omega⟩, _, rfl, rfl, rfl⟩
 ·intro i V2 hj hl2
  obtain ⟨h1, h2⟩ := hJ i V2 hj hl2
  have e : bx ≠ l := fun e => by subst e; rw [hl2] at h1; cases h1
  exact ⟨by rw [Mem.set_ne e]; exact h1, h2.sub (Mem.sub_new hl2 _)⟩
 ·intro k hk V2 hj hl2 w hw
  have hx : xs[k]? = some xs[k] := by simp [hk]
  have := hround k xs[k] hx V2 hj hl2 w hw
  simp only [hx]
  exact this
theorem it213 {V : Mem} {fn' : FuncId} {tmps : Array Value} {ps : Array Tmp} {assign body : Code} {D : Nat} {l : Nat} {bx : Nat} {s : Sl} {xs : List Ty} {J : Nat -> Mem -> Prop} (hps : ps.size = 2)
  (hJ : ∀ i V2, J i V2 -> V2 l = none -> V2 bx = some (cell (.slice s.p s.n s.c) 22) /\ qAd V2 s 2 (xs.map Ty.row))
  (hround : ∀ k x, xs[k]? = some x -> ∀ V2, J (xs.length - 1 - k) V2 -> V2 l = none -> ∀ w, (V2.set l (.loop (qDh fn' tmps ps assign body D))).le w ->
   RoundIn (qAt none) 0 Tryz.prog l fn' ((ps.zip #[.int .i64 k, Ty.v x]).foldl (fun t (p, v) => t.setIfInBounds p v) tmps) assign body w fun e w' =>
    e = .returned (.bool true) /\ ∃ V3, J (xs.length - k) V3 /\ V3 l = none /\ Frm (V2.set l (.loop (qDh fn' tmps ps assign body D))) w (V3.set l (.loop (qDh fn' tmps ps assign body D))) w')
  (h0 : J 0 V) (hl : V l = none) :
  Tri Tryz.prog 213 #[.func (.yield l) #[] #[], pv bx] (V.set l (.loop (qDh fn' tmps ps assign body D))) fun e V' => (∃ v, e = .returned v) /\ ∃ V2, V' = V2.set l (.loop (qDh fn' tmps ps assign body D)) /\ V2 l = none /\ J xs.length V2 := by
 refine qHV (c := qAl Tryz.f213) (L := kid ((qCu (qAl Tryz.f213) [1, 0]).getD 0 .skip) 0) (B := kid ((qCu (qAl Tryz.f213) [1, 0, 0, 0]).getD 2 .skip) 0) (cA := c213a) (cB := c213b) (cE := c213e) (ops := c213c) (b0 := 0) (b1 := 1) (id := 3)
  (o6 := (c213c)[6]?.getD default) (at6 := #[3, 101]) (el := fun k => (xs[k]?.map Ty.v).getD undef) (Bk := fun M => M bx = some (cell (.slice s.p s.n s.c) 22) /\ qAd M s 2 (xs.map Ty.row))
  Tryz.func213 (by kernel_rfl) (by kernel_rfl) (by kernel_rfl) (by kernel_rfl) (by kernel_rfl) (by kernel_rfl) (by kernel_rfl) (by kernel_rfl) (by kernel_rfl) (by kernel_rfl) (by kernel_rfl) hps ?_ ?_ ?_ ?_ ?_ ?_ ?_ h0 hl
 ·rintro M ⟨h1, h2⟩
  refine s213a (v0 := .func (.yield l) #[] #[]) (v1 := some ⟨bx, 0, none⟩) ?_
  unfold w213a
  exact ⟨s, qBr h1, qJq h2, _, rfl, rfl, by rw [h2.n_eq]; rfl⟩
 ·intro M j
  refine s213b (v0 := .func (.yield l) #[] #[]) (v1 := some ⟨bx, 0, none⟩) ?_
  unfold w213b
  exact ⟨_, rfl, rfl, rfl⟩
 ·rintro M k ⟨h1, h2⟩ hk
  refine s213c (v0 := .func (.yield l) #[] #[]) (v1 := some ⟨bx, 0, none⟩) ?_
  unfold w213c
  obtain ⟨x, hm, hx, hdr, hlt, hnn, hz, hrow⟩ := h2.get (i := k) (by rw [h2.n_eq]; omega)
  exact ⟨s, qBr h1, hnn, hz, by rw [h2.n_eq]; omega, x.name, x.fs, hrow, _, rfl, rfl, by rw [hx]; rfl⟩
 ·intro M j b
  refine s213d (v0 := .func (.yield l) #[] #[]) (v1 := some ⟨bx, 0, none⟩) ?_
  unfold w213d
  exact ⟨_, rfl, rfl, rfl⟩
 ·rintro M j ⟨h1, h2⟩ hj hj2
  have hb1 := h2.cap
  have hb2 := h2.fit
  have hb3 := h2.n_eq
  refine s213e (v0 := .func (.yield l) #[] #[]) (v1 := some ⟨bx, 0, none⟩) ?_
  unfold w213e
  exact ⟨⟨by omega, by omega⟩, _, rfl, rfl, rfl⟩
 ·intro i V2 hj hl2
  obtain ⟨h1, h2⟩ := hJ i V2 hj hl2
  have e : bx ≠ l := fun e => by subst e; rw [hl2] at h1; cases h1
  exact ⟨by rw [Mem.set_ne e]; exact h1, h2.sub (Mem.sub_new hl2 _)⟩
 ·intro k hk V2 hj hl2 w hw
  have hx : xs[k]? = some xs[k] := by simp [hk]
  have := hround k xs[k] hx V2 hj hl2 w hw
  simp only [hx]
  exact this
theorem it214 {V : Mem} {fn' : FuncId} {tmps : Array Value} {ps : Array Tmp} {assign body : Code} {D : Nat} {l : Nat} {bx : Nat} {s : Sl} {xs : List Pr} {J : Nat -> Mem -> Prop} (hps : ps.size = 2)
  (hJ : ∀ i V2, J i V2 -> V2 l = none -> V2 bx = some (cell (.slice s.p s.n s.c) 24) /\ qAd V2 s 5 (xs.map Pr.row))
  (hround : ∀ k x, xs[k]? = some x -> ∀ V2, J (xs.length - 1 - k) V2 -> V2 l = none -> ∀ w, (V2.set l (.loop (qDh fn' tmps ps assign body D))).le w ->
   RoundIn (qAt none) 0 Tryz.prog l fn' ((ps.zip #[.int .i64 k, Pr.v x]).foldl (fun t (p, v) => t.setIfInBounds p v) tmps) assign body w fun e w' =>
    e = .returned (.bool true) /\ ∃ V3, J (xs.length - k) V3 /\ V3 l = none /\ Frm (V2.set l (.loop (qDh fn' tmps ps assign body D))) w (V3.set l (.loop (qDh fn' tmps ps assign body D))) w')
  (h0 : J 0 V) (hl : V l = none) :
  Tri Tryz.prog 214 #[.func (.yield l) #[] #[], pv bx] (V.set l (.loop (qDh fn' tmps ps assign body D))) fun e V' => (∃ v, e = .returned v) /\ ∃ V2, V' = V2.set l (.loop (qDh fn' tmps ps assign body D)) /\ V2 l = none /\ J xs.length V2 := by
 refine qHV (c := qAl Tryz.f214) (L := kid ((qCu (qAl Tryz.f214) [1, 0]).getD 0 .skip) 0) (B := kid ((qCu (qAl Tryz.f214) [1, 0, 0, 0]).getD 2 .skip) 0) (cA := c214a) (cB := c214b) (cE := c214e) (ops := c214c) (b0 := 0) (b1 := 1) (id := 3)
  (o6 := (c214c)[6]?.getD default) (at6 := #[3, 146]) (el := fun k => (xs[k]?.map Pr.v).getD undef) (Bk := fun M => M bx = some (cell (.slice s.p s.n s.c) 24) /\ qAd M s 5 (xs.map Pr.row))
  Tryz.func214 (by kernel_rfl) (by kernel_rfl) (by kernel_rfl) (by kernel_rfl) (by kernel_rfl) (by kernel_rfl) (by kernel_rfl) (by kernel_rfl) (by kernel_rfl) (by kernel_rfl) (by kernel_rfl) hps ?_ ?_ ?_ ?_ ?_ ?_ ?_ h0 hl
 ·rintro M ⟨h1, h2⟩
  refine s214a (v0 := .func (.yield l) #[] #[]) (v1 := some ⟨bx, 0, none⟩) ?_
  unfold w214a
  exact ⟨s, qBr h1, qJq h2, _, rfl, rfl, by rw [h2.n_eq]; rfl⟩
 ·intro M j
  refine s214b (v0 := .func (.yield l) #[] #[]) (v1 := some ⟨bx, 0, none⟩) ?_
  unfold w214b
  exact ⟨_, rfl, rfl, rfl⟩
 ·rintro M k ⟨h1, h2⟩ hk
  refine s214c (v0 := .func (.yield l) #[] #[]) (v1 := some ⟨bx, 0, none⟩) ?_
  unfold w214c
  obtain ⟨x, hm, hx, hdr, hlt, hnn, hz, hrow⟩ := h2.get (i := k) (by rw [h2.n_eq]; omega)
  exact ⟨s, qBr h1, hnn, hz, by rw [h2.n_eq]; omega, x.name, x.ps, x.result, x.ls, x.bs, hrow, _, rfl, rfl, by rw [hx]; rfl⟩
 ·intro M j b
  refine s214d (v0 := .func (.yield l) #[] #[]) (v1 := some ⟨bx, 0, none⟩) ?_
  unfold w214d
  exact ⟨_, rfl, rfl, rfl⟩
 ·rintro M j ⟨h1, h2⟩ hj hj2
  have hb1 := h2.cap
  have hb2 := h2.fit
  have hb3 := h2.n_eq
  refine s214e (v0 := .func (.yield l) #[] #[]) (v1 := some ⟨bx, 0, none⟩) ?_
  unfold w214e
  exact ⟨⟨by omega, by omega⟩, _, rfl, rfl, rfl⟩
 ·intro i V2 hj hl2
  obtain ⟨h1, h2⟩ := hJ i V2 hj hl2
  have e : bx ≠ l := fun e => by subst e; rw [hl2] at h1; cases h1
  exact ⟨by rw [Mem.set_ne e]; exact h1, h2.sub (Mem.sub_new hl2 _)⟩
 ·intro k hk V2 hj hl2 w hw
  have hx : xs[k]? = some xs[k] := by simp [hk]
  have := hround k xs[k] hx V2 hj hl2 w hw
  simp only [hx]
  exact this
theorem c192 {V : Mem} {s : Sl} : Tri Tryz.prog 192 #[.slice s.p s.n s.c] V fun e V' => ∃ b, V b = none /\ e = .returned (.func (.func 238) #[] #[pv b]) /\ V' = V.set b (cell (.slice s.p s.n s.c) 23) := by
 refine x192 ?_
 unfold w192
 exact fun b hb => ⟨b, hb, rfl, rfl⟩
theorem c160 {V : Mem} {s : Sl} : Tri Tryz.prog 160 #[.slice s.p s.n s.c] V fun e V' => ∃ b, V b = none /\ e = .returned (.func (.func 213) #[] #[pv b]) /\ V' = V.set b (cell (.slice s.p s.n s.c) 22) := by
 refine x160 ?_
 unfold w160
 exact fun b hb => ⟨b, hb, rfl, rfl⟩
theorem c161 {V : Mem} {s : Sl} : Tri Tryz.prog 161 #[.slice s.p s.n s.c] V fun e V' => ∃ b, V b = none /\ e = .returned (.func (.func 214) #[] #[pv b]) /\ V' = V.set b (cell (.slice s.p s.n s.c) 24) := by
 refine x161 ?_
 unfold w161
 exact fun b hb => ⟨b, hb, rfl, rfl⟩
theorem qGH {args : List Value} {N : Nat} (h : args.length <= N) : Has N { tmps := args.toArray ++ Array.replicate (N - args.toArray.size) undef, defers := [] } ((List.range args.length).zip args) := by
 refine ⟨by simp; omega, fun s v hs => ?_⟩
 rw [List.range_eq_range'] at hs
 have key : ∀ (l : List Value) (k : Nat), ((List.range' k l.length).zip l).lookup s = some v -> k <= s /\ l[s - k]? = some v := by
  intro l
  induction l with
  | nil => intro k h; simp at h
  | cons x xs ih =>
   intro k h
   simp only [List.length_cons, List.range'_succ, List.zip_cons_cons, List.lookup_cons] at h
   split at h
   ·rename_i e
    simp only [beq_iff_eq] at e
    subst e
    exact ⟨Nat.le_refl _, by simpa using h⟩
   ·have := ih _ h
    refine ⟨by omega, ?_⟩
    rw [show s - k = (s - (k + 1)) + 1 by omega]
    simpa using this.2
 obtain ⟨-, h1⟩ := key args 0 hs
 have hlt := (List.getElem?_eq_some_iff.1 h1).1
 simp only [Nat.sub_zero] at h1 hlt
 rw [Array.getD_eq_getD_getElem?, Array.getElem?_append_left (by simpa using hlt)]
 simp [h1]
theorem qJh {tmps : Array Value} {p q : Nat} {u v : Value} : ((#[p, q].zip #[u, v]).foldl (fun t (p, v) => t.setIfInBounds p v) tmps) = (tmps.setIfInBounds p u).setIfInBounds q v := by
 simp
theorem qGI {tmps : Array Value} {p s : Nat} {u : Value} (h : s ≠ p) : (tmps.setIfInBounds p u).getD s undef = tmps.getD s undef := by
 simp [Array.getD_eq_getD_getElem?, Array.getElem?_setIfInBounds_ne (Ne.symm h)]
theorem getD_same {tmps : Array Value} {p : Nat} {u : Value} (h : p < tmps.size) : (tmps.setIfInBounds p u).getD p undef = u := by
 simp [Array.getD_eq_getD_getElem?, h]
theorem qFw (f : Fld) (l : List Fld) (k : ByteArray) : qBE (f :: l) k = if k = f.name then some f.ty else qBE l k := by
 unfold qBE
 rw [List.find?_cons]
 by_cases h : f.name = k
 ·rw [decide_eq_true h, if_pos h.symm]; rfl
 ·rw [decide_eq_false h, if_neg (fun e => h e.symm)]
theorem varOf_app (a b : List Fld) (k : ByteArray) : qBE (a ++ b) k = (qBE a k).or (qBE b k) := by
 unfold qBE
 rw [List.find?_append]
 cases a.find? (fun f => decide (f.name = k)) <;> rfl
theorem varOf_any (a : List Fld) (k : ByteArray) : (qBE a k).isSome = a.any fun f => decide (f.name = k) := by
 unfold qBE
 induction a with
 | nil => rfl
 | cons f a ih =>
  rw [List.find?_cons, List.any_cons]
  by_cases h : f.name = k
  ·rw [decide_eq_true h]; rfl
  ·rw [decide_eq_false h]; exact ih
theorem seen_old {a g : List Fld} {f : Fld} (h : (a.any fun x => decide (x.name = f.name)) = true) (k : ByteArray) : qBE (a ++ [f] ++ g) k = qBE (a ++ g) k := by
 simp only [varOf_app, qFw]
 rw [<- varOf_any] at h
 by_cases e : k = f.name
 ·subst e
  rw [if_pos rfl]
  cases hv : qBE a f.name with
  | none => rw [hv] at h; cases h
  | some x => rfl
 ·rw [if_neg e]
  cases qBE a k <;> rfl
theorem seen_new {a g : List Fld} {f : Fld} (h : ¬ (a.any fun x => decide (x.name = f.name)) = true) (k : ByteArray) : qBE (a ++ [f] ++ g) k = if k = f.name then some f.ty else qBE (a ++ g) k := by
 simp only [varOf_app, qFw]
 rw [<- varOf_any] at h
 by_cases e : k = f.name
 ·subst e
  rw [if_pos rfl, if_pos rfl]
  cases hv : qBE a f.name with
  | none => rfl
  | some x => rw [hv] at h; exact absurd rfl h
 ·rw [if_neg e, if_neg e]
  cases qBE a k <;> rfl
structure SI (V : Mem) (c : Option Addr) (body : Bool) (d : Ds) (mb bx b6 b7 : Nat) (m : ByteArray -> Option Value) (V1 : Mem) : Prop where
 sub : V.sub V1
 nm : V mb = none
 n6 : V b6 = none
 map : qBf V1 mb m
 bx : V1 bx = some (cell (.slice d.gs.p d.gs.n d.gs.c) 23)
 b6 : V1 b6 = some (.cells #[.pointer none, .map none, .bool false] 165 (0, 0))
 b7 : V1 b7 = some (.cells #[.pointer c, .map (some mb), .bool body] 165 (0, 0))
section
variable {V V1 : Mem} {c : Option Addr} {body : Bool} {d : Ds} {mb bx b6 b7 : Nat} {m m' : ByteArray -> Option Value}
theorem SI.fresh (h : SI V c body d mb bx b6 b7 m V1) {b : Nat} (hb : V1 b = none) (o : Obj) : SI V c body d mb bx b6 b7 m (V1.set b o) :=
 have hs := Mem.sub_new hb o
 ⟨h.sub.trans hs, h.nm, h.n6, h.map.sub hs, hs _ _ h.bx, hs _ _ h.b6, hs _ _ h.b7⟩
theorem SI.up (h : SI V c body d mb bx b6 b7 m V1) {o : Obj} (ho : qBf (V1.set mb o) mb m') : SI V c body d mb bx b6 b7 m' (V1.set mb o) := by
 obtain ⟨es, cl, hm, -, -⟩ := h.map.at_
 have e1 : bx ≠ mb := fun e => by have := h.bx; rw [e, hm] at this; cases this
 have e2 : b6 ≠ mb := fun e => by have := h.b6; rw [e, hm] at this; cases this
 have e3 : b7 ≠ mb := fun e => by have := h.b7; rw [e, hm] at this; cases this
 exact ⟨h.sub.set h.nm o, h.nm, h.n6, ho, by rw [Mem.set_ne e1]; exact h.bx, by rw [Mem.set_ne e2]; exact h.b6, by rw [Mem.set_ne e3]; exact h.b7⟩
theorem SI.cg (h : SI V c body d mb bx b6 b7 m V1) (e : ∀ k, m k = m' k) : SI V c body d mb bx b6 b7 m' V1 := ⟨h.sub, h.nm, h.n6, h.map.congr e, h.bx, h.b6, h.b7⟩
end
section
variable {V V1 : Mem} {c : Option Addr} {body : Bool} {d : Ds} {mb bx b6 b7 : Nat} {m m' : ByteArray -> Option Value}
theorem scopeRound {l : Sl} (h : SI V c body d mb bx b6 b7 m V1) (x : Fld) (V2 : Mem) (b : Nat) (hb : V1 b = none) (e2 : V2 = V1.set b (.cells x.row.toArray 110 (0, 0))) :
  Seg Tryz.prog 63 c138c [(7, pv b7), (9, pv b)] [] V2 fun _ V3 => SI V c body d mb bx b6 b7 (fun k => if k = x.name then some (.string x.ty) else m k) V3 := by
 subst e2
 have h2 := h.fresh hb (.cells x.row.toArray 110 (0, 0))
 refine s138c ?_
 unfold w138c
 refine ⟨by simp, some mb, qAh h2.b7 1 1 (by simp), by simp, x.name, qAh mss 0 1 (by simp [Fld.row]), by simp, x.ty, qAh mss 1 1 (by simp [Fld.row]), ?_⟩
 exact qGn.str Tryz.underlying163 Tryz.underlying9 h2.map fun o ho => ⟨_, rfl, h2.up ho⟩
theorem scopeAssign (x : Fld) : Seg Tryz.prog 63 c138b [(7, pv b7), (26, Fld.v x)] [7, 9] V1 fun vs V2 => ∃ b, V1 b = none /\ V2 = V1.set b (.cells x.row.toArray 110 (0, 0)) /\ vs = [pv b7, pv b] := by
 refine s138b (v1 := x.name) (v2 := x.ty) ?_
 unfold w138b
 exact fun b hb => ⟨_, rfl, b, hb, rfl, rfl⟩
theorem zero4 (w : World) : (zeroValue 4).run Tryz.prog w = .ok (.bool false) w := by kernel_rfl
theorem scopeTail {l : Sl} {ls : List (Sl × List Fld)} (h : SI V c body d mb bx b6 b7 (fun k => (qBE d.globals k).map Value.string) V1) (hl : qAd V l 1 (ls.map fun x => [x.1.v])) (hls : ∀ x ∈ ls, qAd V x.1 2 (x.2.map Fld.row)) :
  Seg Tryz.prog 63 c138d [(0, .pointer c), (1, .bool body), (2, .slice l.p l.n l.c), (6, pv b6), (7, pv b7)] [6] V1 fun vs V2 => vs = [pv b6] /\
   V.sub V2 /\ V mb = none /\ qBf V2 mb (fun k => (qBE (ls.flatMap (·.2) ++ d.globals) k).map Value.string) /\ V2 b6 = some (.cells #[.pointer c, .map (some mb), .bool body] 165 (0, 0)) := by
 refine s138d ?_
 unfold w138d
 refine qAq.makeMap fun sb hsb => ⟨some sb, rfl, ?_⟩
 have hsV : V sb = none := by
  cases hc : V sb with
  | none => rfl
  | some o => have := h.sub _ _ hc; rw [hsb] at this; cases this
 have hne : mb ≠ sb := fun e => by
  obtain ⟨es, cl, hm, -, -⟩ := h.map.at_
  rw [e, hsb] at hm; cases hm
 let TI (done : List Fld) (V2 : Mem) : Prop := SI V c body d mb bx b6 b7 (fun k => (qBE (done ++ d.globals) k).map Value.string) V2 /\ qBf V2 sb (fun k => if (done.any fun f => decide (f.name = k)) = true then some (.bool true) else none)
 have h0 : TI [] (V1.set sb (.map #[] 0)) := ⟨h.fresh hsb _, (qBf.made V1 sb).congr fun k => by simp⟩
 refine loop1 ls.length (fun i V2 => TI ((ls.take i).flatMap (·.2)) V2) (by simpa using h0) ?_
 intro i V2 J hi hst hJ
 have hlV := hl.sub hst.1.sub
 refine ⟨fun hlt => ?_, fun hlt => ?_⟩
 ·obtain ⟨x, hm, hx, hdr, hlt', hnn, hz, hrow⟩ := hlV.get hlt
  refine ⟨hnn, hz, hlt, x.1, hrow, ?_⟩
  have htk : (ls.take (i + 1)).flatMap (·.2) = (ls.take i).flatMap (·.2) ++ x.2 := by
   rw [List.take_add_one, hx]; simp
  refine loop1 x.2.length (fun j V3 => TI ((ls.take i).flatMap (·.2) ++ x.2.take j) V3) (by simpa using hst) ?_
  intro j V3 J' hj hst' hJ'
  have hxV := (hls x hm).sub hst'.1.sub
  refine ⟨fun hlt2 => ?_, fun hlt2 => ?_⟩
  ·obtain ⟨f, hmf, hf, hdrf, hltf, hnnf, hzf, hrowf⟩ := hxV.get hlt2
   have htj : (ls.take i).flatMap (·.2) ++ x.2.take (j + 1) = ((ls.take i).flatMap (·.2) ++ x.2.take j) ++ [f] := by
    rw [List.take_add_one, hf, List.append_assoc]; rfl
   refine ⟨hnnf, hzf, hlt2, f.name, f.ty, hrowf, ?_⟩
   refine qBt.str1 Tryz.underlying251 Tryz.underlying9 zero4 hst'.2 ?_
   generalize hdone : (ls.take i).flatMap (·.2) ++ x.2.take j = done at hst' htj
   refine ⟨done.any fun y => decide (y.name = f.name), ?_, fun hs => ?_, fun hs => ?_⟩
   ·cases hs : done.any (fun y => decide (y.name = f.name)) with
    | true => simp
    | false => simp
   ·refine ⟨hxV.succ hlt2, hJ' hltf _ ?_⟩
    rw [htj]
    refine ⟨hst'.1.cg fun k => by rw [seen_old hs], hst'.2.congr fun k => ?_⟩
    rw [List.any_append]
    by_cases e : f.name = k
    ·subst e; rw [hs]; simp
    ·simp [e]
   ·refine ⟨by simp, some mb, qAh hst'.1.b7 1 1 (by simp), ?_⟩
    refine qGn.str Tryz.underlying163 Tryz.underlying9 hst'.1.map fun o ho => ?_
    have hsi := hst'.1.up ho
    refine qGn.str Tryz.underlying251 Tryz.underlying9 (hst'.2.set (o := o) (Ne.symm hne)) fun o2 ho2 => ?_
    refine ⟨hxV.succ hlt2, hJ' hltf _ ?_⟩
    rw [htj]
    have hsb6 : b6 ≠ sb := fun e => by have := h.b6; rw [e, hsb] at this; cases this
    have hsb7 : b7 ≠ sb := fun e => by have := h.b7; rw [e, hsb] at this; cases this
    have hsbx : bx ≠ sb := fun e => by have := h.bx; rw [e, hsb] at this; cases this
    refine ⟨?_, ho2.congr fun k => ?_⟩
    ·have h3 := hsi.cg (m' := fun k => (qBE (done ++ [f] ++ d.globals) k).map Value.string) fun k => by
      rw [seen_new hs]
      by_cases e : k = f.name
      ·rw [if_pos e, if_pos e]; rfl
      ·rw [if_neg e, if_neg e]
     exact ⟨h3.sub.set hsV _, h3.nm, h3.n6, h3.map.set hne, by rw [Mem.set_ne hsbx]; exact h3.bx, by rw [Mem.set_ne hsb6]; exact h3.b6, by rw [Mem.set_ne hsb7]; exact h3.b7⟩
    ·rw [List.any_append]
     by_cases e : k = f.name
     ·subst e; simp
     ·rw [if_neg e]; simp [Ne.symm e]
  ·obtain ⟨hd, hle⟩ := hxV.done hlt2
   refine ⟨hlV.succ hlt, hJ hlt' _ ?_⟩
   rw [htk]
   rw [List.take_of_length_le hle] at hst'
   exact hst'
 ·obtain ⟨hd, hle⟩ := hlV.done hlt
  rw [List.take_of_length_le hle] at hst
  have hcells := qAh hst.1.b7 0 3 (by simp)
  refine ⟨c, some mb, body, hcells, ⟨⟨b6, 0, none⟩, _, _, rfl, hst.1.b6, rfl, by simp, ?_⟩⟩
  have e7 : mb ≠ b6 := fun e => by
   obtain ⟨es, cl, hm, -, -⟩ := hst.1.map.at_
   have := hst.1.b6; rw [<- e, hm] at this; cases this
  exact ⟨_, rfl, rfl, hst.1.sub.set h.n6 _, h.nm, hst.1.map.set e7, by rw [Mem.set_same]; rfl⟩
end
theorem cell3 {b : Nat} {c : Option Addr} {mb : Option Nat} {body : Bool} {w : World} (h : w.heap[b]? = some (.cells #[.pointer c, .map mb, .bool body] 165 (0, 0))) : (loadVar 165 ⟨b, 0, none⟩).run Tryz.prog w = .ok (.agg #[.pointer c, .map mb, .bool body]) w :=
 qBI (P := Tryz.prog) (t := 165) (cs := .cons (.var .p 0) (.cons (.var .m 1) (.cons (.var .b 2) .nil))) (x := .agg (.cons (.var .p 0) (.cons (.var .m 1) (.cons (.var .b 2) .nil)))) (ρ := [.pointer c, .map mb, .bool body]) (β := id) (o := 0) h (by kernel_rfl)
theorem results113 {tmps : Array Value} {b : Nat} {c : Option Addr} {mb : Option Nat} {body : Bool} {w : World} (h6 : tmps.getD 6 undef = pv b) (h : w.heap[b]? = some (.cells #[.pointer c, .map mb, .bool body] 165 (0, 0))) :
  (results Tryz.f138 tmps).run Tryz.prog w = .ok (.agg #[.pointer c, .map mb, .bool body]) w := by
 have hr : Tryz.f138.results = #[.cell 6 165] := by kernel_rfl
 unfold results
 rw [hr]
 have e : asAddr (tmps.getD 6 undef) = pure ⟨b, 0, none⟩ := by rw [h6]; rfl
 simp only [List.mapM_toArray, List.mapM_cons, List.mapM_nil, Sem.run_bind, Sem.run_map, Sem.run_pure, Result.andThen_ok, e, cell3 h]
 rfl
theorem qED {V V1 V2 V3 : Mem} {w w1 w2 w3 : World} {D : Nat} (h1 : Frm V w V1 w1) (h2 : Frm V1 w1 V2 w2) (hD : w1.heap.size <= D) (hn : V2 D = none) (hW : w2.heap[D]? = some (.deferred (some []))) (h3 : Frm V2 w2 V3 w3) :
  Frm V w V3 w3 /\ w.heap.size <= D /\ w3.heap[D]? = some (.deferred (some [])) /\ V3 D = none := by
 have hlt := (Array.getElem?_eq_some_iff.1 hW).1
 refine ⟨(h1.trans h2).trans h3, Nat.le_trans h1.size hD, (h3.old D hlt hn).trans hW, ?_⟩
 cases hc : V3 D with
 | none => rfl
 | some o =>
  rcases h3.dom D (by rw [hc]; simp) with h | h
  ·exact absurd hn h
  ·omega
theorem scopeC : qGo := by
 intro V c d body l ls hc hl hls
 refine qFV (c := qAl Tryz.f138) Tryz.func138 (by kernel_rfl) ?_
 intro w hV
 rw [show flat (qAl Tryz.f138) = c138a ++ ([.block 0 (.rangeFunc (.tmp 24) #[25, 26] ((qCu (qAl Tryz.f138) [3, 0, 0, 0]).getD 0 .skip) ((qCu (qAl Tryz.f138) [3, 0, 0, 1]).getD 0 .skip))] ++ (c138d ++ [.ret])) from by kernel_rfl]
 have hA : Seg Tryz.prog 63 c138a [(0, .pointer c), (1, .bool body), (2, .slice l.p l.n l.c)] [0, 1, 2, 6, 7, 24] V fun vs V1 => ∃ mb bx b6 b7,
   vs = [.pointer c, .bool body, .slice l.p l.n l.c, pv b6, pv b7, .func (.func 238) #[] #[pv bx]] /\ SI V c body d mb bx b6 b7 (fun _ => none) V1 := by
  refine s138a ?_
  unfold w138a
  refine qAq.makeMap fun mb hmb => ⟨some mb, rfl, hc.nn, hc.nn, ?_, d.gs, ?_, ?_⟩
  ·obtain ⟨cb, mt, mp, t, h1, h2, h3, h4⟩ := hc.at_
   rw [h1]; simp [qAa]
  ·exact (hc.sub (Mem.sub_new hmb _)).cell (i := 2) rfl
  refine Tri.mono c192 ?_
  rintro _ V2 ⟨bx, hbx, rfl, rfl⟩
  refine ⟨.func (.func 238) #[] #[pv bx], rfl, rfl, fun b6 hb6 b7 hb7 => ⟨_, rfl, mb, bx, b6, b7, rfl, ?_⟩⟩
  have n1 : bx ≠ mb := fun e => by rw [e, Mem.set_same] at hbx; cases hbx
  have n2 : b6 ≠ bx := fun e => by rw [e, Mem.set_same] at hb6; cases hb6
  have n3 : b7 ≠ b6 := fun e => by rw [e, Mem.set_same] at hb7; cases hb7
  have s1 := Mem.sub_new hmb (.map #[] 0)
  have s2 := Mem.sub_new hbx (cell (.slice d.gs.p d.gs.n d.gs.c) 23)
  have s3 := Mem.sub_new hb6 (.cells #[.pointer none, .map none, .bool false] 165 (0, 0))
  have s4 := Mem.sub_new hb7 (.cells #[.pointer c, .map (some mb), .bool body] 165 (0, 0))
  refine ⟨s1.trans (s2.trans (s3.trans s4)), hmb, ?_, (qBf.made V mb).sub (s2.trans (s3.trans s4)), (s3.trans s4) _ _ mss, s4 _ _ mss, Mem.set_same _ _ _⟩
  cases hv : V b6 with
  | none => rfl
  | some o => have := (s1.trans s2) _ _ hv; rw [hb6] at this; cases this
 refine hA.step hV (qGH (args := [.pointer c, .bool body, .slice l.p l.n l.c]) (N := 63) (by simp)) ?_
 rintro a1 w1 vs V1 hd1 hH1 ⟨mb, bx, b6, b7, rfl, hS1⟩ hF1
 show Code.wpIn (qAt none) 0 Tryz.prog _ _ a1 w1
 refine wpIn_block ?_
 have hit := fun fn lp D hlp => it238 (V := V1) (fn' := fn) (tmps := a1.tmps) (ps := #[25, 26]) (assign := (qCu (qAl Tryz.f138) [3, 0, 0, 0]).getD 0 .skip) (body := (qCu (qAl Tryz.f138) [3, 0, 0, 1]).getD 0 .skip) (D := D) (l := lp) (bx := bx) (s := d.gs) (xs := d.globals)
  (J := fun i V2 => SI V c body d mb bx b6 b7 (fun k => (qBE (d.globals.drop (d.globals.length - i)) k).map Value.string) V2) rfl (fun i V2 hj _ => ⟨hj.bx, hc.ok.globals.sub hj.sub⟩) (fun k x hx V2 hj hl2 w2 hw2 => by
   have hk := (List.getElem?_eq_some_iff.1 hx).1
   refine qFB (N := 63) (insA := [(7, pv b7), (26, Fld.v x)]) (outsA := [7, 9]) hl2 hw2 (by rw [qJh]; simpa using hH1.1) ?_ (scopeAssign x) (fun vs V3 hvs => ?_)
   ·intro s v hs
    rw [qJh]
    simp only [List.lookup_cons] at hs
    split at hs
    ·rename_i e; simp only [beq_iff_eq] at e; subst e; cases hs
     rw [qGI (by decide), qGI (by decide)]; exact hH1.get rfl
    ·split at hs
     ·rename_i e; simp only [beq_iff_eq] at e; subst e; cases hs
      exact getD_same (by simp [hH1.1])
     ·cases hs
   ·obtain ⟨b, hb, e2, rfl⟩ := hvs
    refine (scopeRound (l := l) hj x V3 b hb e2).mono fun _ V4 h4 => h4.cg fun y => ?_
    rw [show d.globals.length - (d.globals.length - 1 - k) = k + 1 by omega, show d.globals.length - (d.globals.length - k) = k by omega]
    have e3 : d.globals.drop k = x :: d.globals.drop (k + 1) := by
     rw [List.drop_eq_getElem_cons hk]; rw [(List.getElem?_eq_some_iff.1 hx).2]
    rw [e3, qFw]
    by_cases e : y = x.name
    ·rw [if_pos e, if_pos e]; rfl
    ·rw [if_neg e, if_neg e])
  (by simpa [qBE] using hS1) hlp
 refine qFE (Φ := fun V2 => SI V c body d mb bx b6 b7 (fun k => (qBE d.globals k).map Value.string) V2) hF1.le (hH1.get (s := 24) rfl) Tryz.call238 (fun fn lp D hlp => Tri.mono (hit fn lp D hlp) fun e V' h => ?_) ?_
 ·obtain ⟨h1, V2, h2, h3, h4⟩ := h
  exact ⟨h1, V2, h2, h3, by simpa using h4⟩
 ·intro D V2 W hD hF2 hn2 hW hS2
  show wpL none 0 Tryz.prog _ (c138d ++ [.ret]) _ W
  refine (scopeTail hS2 hl hls).step hF2.le ⟨hH1.1, fun s v hs => hH1.2 s v ?_⟩ ?_
  ·simp only [List.zip_cons_cons, List.lookup_cons] at hs ⊢
   repeat' (split at hs <;> first | exact hs | skip)
   all_goals first | exact hs | (cases hs)
  ·rintro a3 w3 vs V3 hd3 hH3 ⟨rfl, h1, h2, h3, h4⟩ hF3
   show Code.wpIn (qAt none) 0 Tryz.prog .ret _ a3 w3
   refine wpIn_ret ?_
   obtain ⟨g1, g2, g3, g4⟩ := qED hF1 hF2 hD hn2 hW hF3
   refine ⟨.inr rfl, [D], ?_, by simp, V3, g1, fun D' hD' => ?_, _, fun w4 hw4 => results113 (hH3.get rfl) (hw4 _ _ h4), mb, rfl, h1, h2, h3⟩
   ·rw [hd3]; simp [hd1]
   ·simp only [List.mem_singleton] at hD'; subst hD'; exact ⟨g2, g3, g4⟩
end Go.Proofs
