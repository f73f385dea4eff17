/- Part 14 of a proof of a law of this seat: no statement of the seat is proved here. -/
import Derived.Test.YtnoompnjibfbfaaGreatDoorPart05
import Derived.Test.YtnoompnjibfbfaaGreatDoorPart13
import Derived.Test.YtnoompnjibfbfaaGreatDoorPart12
set_option linter.unusedVariables false
set_option linter.unusedSimpArgs false
namespace Go.Proofs
open Go Go.Sx
set_option maxRecDepth 100000
set_option linter.unusedVariables false
section
variable {V : Mem} {R : RP}
theorem qBy {H : qFX} {N : Nat} {cs : List Code} (slots : List (Nat × T)) {outs : List Nat} (ρ : List Value) {ins : List (Nat × Value)} (hins : ins = slots.map fun x => (x.1, x.2.ev ρ id)) {V : Mem} {R : List Value -> Mem -> Prop} {q : Prop}
  (hq : q = DT Tryz.prog {} (OV R) (segT Tryz.prog fs { H with N := N } cs slots ρ.length outs) [] ρ V) (h : q) : Seg Tryz.prog N cs ins outs V R :=
 seg_sound (H := H) qGO qJx rfl ρ rfl hins hq h
theorem qAm {H : qFX} {N : Nat} {ops : Array Oper} {k m : Nat} (slots : List (Nat × T)) {outs : List Nat} (ρ : List Value) {ins : List (Nat × Value)} (hins : ins = slots.map fun x => (x.1, x.2.ev ρ id)) {V : Mem} {R : List Value -> Mem -> Prop} {q : Prop}
  (hq : q = DT Tryz.prog {} (OV R) (segOT Tryz.prog fs { H with N := N } ops k m slots ρ.length outs) [] ρ V) (h : q) : qCc Tryz.prog N ops k m ins outs V R :=
 sego_sound (H := H) qGO rfl ρ rfl hins hq h
noncomputable def c238a : List Code := ((qCy (qAl Tryz.f238) []).drop 0).take 1
def w238a (a : Value) (b : Option Addr) : MR := fun V R => ∃ c, V.rowp b ((0 : Int).toNat * 1) 1 = some [uL c] /\ IR ((c.n : Int) - 1) /\ R (rT #[K.cast .f a, uP b, uI ((c.n : Int) - 1)]) V
theorem s238a {a : Value} {b : Option Addr} {V : Mem} {R : List Value -> Mem -> Prop} (h : w238a a b V (OV R)) : Seg Tryz.prog 19 c238a [(0, K.cast .f a), (1, uP b)] [0, 1, 3] V R :=
 qBy (H := hK 19) [(0, (.var .f 0)), (1, (.var .p 1))] [a, uP b] rfl (by kernel_rfl) h
noncomputable def c238b : List Code := ((qCy (qAl Tryz.f238) [1, 0, 0, 0]).drop 0).take 1
def w238b (a : Value) (b : Option Addr) (c : Int) : MR := fun V R => R (rT #[K.cast .f a, uP b, uI c, uB (decide (0 <= c))]) V
theorem s238b {a : Value} {b : Option Addr} {c : Int} {V : Mem} {R : List Value -> Mem -> Prop} (h : w238b a b c V (OV R)) : Seg Tryz.prog 19 c238b [(0, K.cast .f a), (1, uP b), (3, uI c)] [0, 1, 3, 8] V R :=
 qBy (H := hK 19) [(0, (.var .f 0)), (1, (.var .p 1)), (3, (.var (.i .i64) 2))] [a, uP b, uI c] rfl (by kernel_rfl) h
noncomputable def c238c : Array Oper := qEy ((qCy (qAl Tryz.f238) [1, 0, 0, 0, 2, 0]).getD 0 .skip)
def w238c (a : Value) (b : Option Addr) (c : Int) : MR := fun V R => ∃ d, V.rowp b ((0 : Int).toNat * 1) 1 = some [uL d] /\ Ix d c (∃ g i, V.rowp d.p (c.toNat * 2) 2 = some [uS g, uS i] /\ R (rT #[K.cast .f a, uP b, uI c, K.cast .f a, uI c, uA #[uS g, uS i]]) V)
theorem s238c {a : Value} {b : Option Addr} {c : Int} {V : Mem} {R : List Value -> Mem -> Prop} (h : w238c a b c V (OV R)) : qCc Tryz.prog 19 c238c 0 6 [(0, K.cast .f a), (1, uP b), (3, uI c)] [0, 1, 3, 11, 12, 16] V R :=
 qAm (H := hK 19) [(0, (.var .f 0)), (1, (.var .p 1)), (3, (.var (.i .i64) 2))] [a, uP b, uI c] rfl (by kernel_rfl) h
noncomputable def c238d : Array Oper := qEy ((qCy (qAl Tryz.f238) [1, 0, 0, 0, 2, 0]).getD 0 .skip)
def w238d (a : Value) (b : Option Addr) (c : Int) (d : Bool) : MR := fun V R => R (rT #[K.cast .f a, uP b, uI c, uB (!d)]) V
theorem s238d {a : Value} {b : Option Addr} {c : Int} {d : Bool} {V : Mem} {R : List Value -> Mem -> Prop} (h : w238d a b c d V (OV R)) : qCc Tryz.prog 19 c238d 7 1 [(0, K.cast .f a), (1, uP b), (3, uI c), (17, uB d)] [0, 1, 3, 18] V R :=
 qAm (H := hK 19) [(0, (.var .f 0)), (1, (.var .p 1)), (3, (.var (.i .i64) 2)), (17, (.var .b 3))] [a, uP b, uI c, uB d] rfl (by kernel_rfl) h
noncomputable def c238e : List Code := ((qCy (qAl Tryz.f238) [1, 0, 0, 0]).drop 3).take 1
def w238e (a : Value) (b : Option Addr) (c : Int) : MR := fun V R => IR (c - 1) /\ R (rT #[K.cast .f a, uP b, uI (c - 1)]) V
theorem s238e {a : Value} {b : Option Addr} {c : Int} {V : Mem} {R : List Value -> Mem -> Prop} (h : w238e a b c V (OV R)) : Seg Tryz.prog 19 c238e [(0, K.cast .f a), (1, uP b), (3, uI c)] [0, 1, 3] V R :=
 qBy (H := hK 19) [(0, (.var .f 0)), (1, (.var .p 1)), (3, (.var (.i .i64) 2))] [a, uP b, uI c] rfl (by kernel_rfl) h
noncomputable def c213a : List Code := ((qCy (qAl Tryz.f213) []).drop 0).take 1
def w213a (a : Value) (b : Option Addr) : MR := fun V R => ∃ c, V.rowp b ((0 : Int).toNat * 1) 1 = some [uL c] /\ IR ((c.n : Int) - 1) /\ R (rT #[K.cast .f a, uP b, uI ((c.n : Int) - 1)]) V
theorem s213a {a : Value} {b : Option Addr} {V : Mem} {R : List Value -> Mem -> Prop} (h : w213a a b V (OV R)) : Seg Tryz.prog 19 c213a [(0, K.cast .f a), (1, uP b)] [0, 1, 3] V R :=
 qBy (H := hK 19) [(0, (.var .f 0)), (1, (.var .p 1))] [a, uP b] rfl (by kernel_rfl) h
noncomputable def c213b : List Code := ((qCy (qAl Tryz.f213) [1, 0, 0, 0]).drop 0).take 1
def w213b (a : Value) (b : Option Addr) (c : Int) : MR := fun V R => R (rT #[K.cast .f a, uP b, uI c, uB (decide (0 <= c))]) V
theorem s213b {a : Value} {b : Option Addr} {c : Int} {V : Mem} {R : List Value -> Mem -> Prop} (h : w213b a b c V (OV R)) : Seg Tryz.prog 19 c213b [(0, K.cast .f a), (1, uP b), (3, uI c)] [0, 1, 3, 8] V R :=
 qBy (H := hK 19) [(0, (.var .f 0)), (1, (.var .p 1)), (3, (.var (.i .i64) 2))] [a, uP b, uI c] rfl (by kernel_rfl) h
noncomputable def c213c : Array Oper := qEy ((qCy (qAl Tryz.f213) [1, 0, 0, 0, 2, 0]).getD 0 .skip)
def w213c (a : Value) (b : Option Addr) (c : Int) : MR := fun V R => ∃ d, V.rowp b ((0 : Int).toNat * 1) 1 = some [uL d] /\ Ix d c (∃ g i, V.rowp d.p (c.toNat * 2) 2 = some [uS g, uL i] /\ R (rT #[K.cast .f a, uP b, uI c, K.cast .f a, uI c, uA #[uS g, uL i]]) V)
theorem s213c {a : Value} {b : Option Addr} {c : Int} {V : Mem} {R : List Value -> Mem -> Prop} (h : w213c a b c V (OV R)) : qCc Tryz.prog 19 c213c 0 6 [(0, K.cast .f a), (1, uP b), (3, uI c)] [0, 1, 3, 11, 12, 16] V R :=
 qAm (H := hK 19) [(0, (.var .f 0)), (1, (.var .p 1)), (3, (.var (.i .i64) 2))] [a, uP b, uI c] rfl (by kernel_rfl) h
noncomputable def c213d : Array Oper := qEy ((qCy (qAl Tryz.f213) [1, 0, 0, 0, 2, 0]).getD 0 .skip)
def w213d (a : Value) (b : Option Addr) (c : Int) (d : Bool) : MR := fun V R => R (rT #[K.cast .f a, uP b, uI c, uB (!d)]) V
theorem s213d {a : Value} {b : Option Addr} {c : Int} {d : Bool} {V : Mem} {R : List Value -> Mem -> Prop} (h : w213d a b c d V (OV R)) : qCc Tryz.prog 19 c213d 7 1 [(0, K.cast .f a), (1, uP b), (3, uI c), (17, uB d)] [0, 1, 3, 18] V R :=
 qAm (H := hK 19) [(0, (.var .f 0)), (1, (.var .p 1)), (3, (.var (.i .i64) 2)), (17, (.var .b 3))] [a, uP b, uI c, uB d] rfl (by kernel_rfl) h
noncomputable def c213e : List Code := ((qCy (qAl Tryz.f213) [1, 0, 0, 0]).drop 3).take 1
def w213e (a : Value) (b : Option Addr) (c : Int) : MR := fun V R => IR (c - 1) /\ R (rT #[K.cast .f a, uP b, uI (c - 1)]) V
theorem s213e {a : Value} {b : Option Addr} {c : Int} {V : Mem} {R : List Value -> Mem -> Prop} (h : w213e a b c V (OV R)) : Seg Tryz.prog 19 c213e [(0, K.cast .f a), (1, uP b), (3, uI c)] [0, 1, 3] V R :=
 qBy (H := hK 19) [(0, (.var .f 0)), (1, (.var .p 1)), (3, (.var (.i .i64) 2))] [a, uP b, uI c] rfl (by kernel_rfl) h
noncomputable def c214a : List Code := ((qCy (qAl Tryz.f214) []).drop 0).take 1
def w214a (a : Value) (b : Option Addr) : MR := fun V R => ∃ c, V.rowp b ((0 : Int).toNat * 1) 1 = some [uL c] /\ IR ((c.n : Int) - 1) /\ R (rT #[K.cast .f a, uP b, uI ((c.n : Int) - 1)]) V
theorem s214a {a : Value} {b : Option Addr} {V : Mem} {R : List Value -> Mem -> Prop} (h : w214a a b V (OV R)) : Seg Tryz.prog 19 c214a [(0, K.cast .f a), (1, uP b)] [0, 1, 3] V R :=
 qBy (H := hK 19) [(0, (.var .f 0)), (1, (.var .p 1))] [a, uP b] rfl (by kernel_rfl) h
noncomputable def c214b : List Code := ((qCy (qAl Tryz.f214) [1, 0, 0, 0]).drop 0).take 1
def w214b (a : Value) (b : Option Addr) (c : Int) : MR := fun V R => R (rT #[K.cast .f a, uP b, uI c, uB (decide (0 <= c))]) V
theorem s214b {a : Value} {b : Option Addr} {c : Int} {V : Mem} {R : List Value -> Mem -> Prop} (h : w214b a b c V (OV R)) : Seg Tryz.prog 19 c214b [(0, K.cast .f a), (1, uP b), (3, uI c)] [0, 1, 3, 8] V R :=
 qBy (H := hK 19) [(0, (.var .f 0)), (1, (.var .p 1)), (3, (.var (.i .i64) 2))] [a, uP b, uI c] rfl (by kernel_rfl) h
noncomputable def c214c : Array Oper := qEy ((qCy (qAl Tryz.f214) [1, 0, 0, 0, 2, 0]).getD 0 .skip)
def w214c (a : Value) (b : Option Addr) (c : Int) : MR := fun V R => ∃ d, V.rowp b ((0 : Int).toNat * 1) 1 = some [uL d] /\ Ix d c (∃ g i j k l, V.rowp d.p (c.toNat * 5) 5 = some [uS g, uL i, uS j, uL k, uL l] /\ R (rT #[K.cast .f a, uP b, uI c, K.cast .f a, uI c, uA #[uS g, uL i, uS j, uL k, uL l]]) V)
theorem s214c {a : Value} {b : Option Addr} {c : Int} {V : Mem} {R : List Value -> Mem -> Prop} (h : w214c a b c V (OV R)) : qCc Tryz.prog 19 c214c 0 6 [(0, K.cast .f a), (1, uP b), (3, uI c)] [0, 1, 3, 11, 12, 16] V R :=
 qAm (H := hK 19) [(0, (.var .f 0)), (1, (.var .p 1)), (3, (.var (.i .i64) 2))] [a, uP b, uI c] rfl (by kernel_rfl) h
noncomputable def c214d : Array Oper := qEy ((qCy (qAl Tryz.f214) [1, 0, 0, 0, 2, 0]).getD 0 .skip)
def w214d (a : Value) (b : Option Addr) (c : Int) (d : Bool) : MR := fun V R => R (rT #[K.cast .f a, uP b, uI c, uB (!d)]) V
theorem s214d {a : Value} {b : Option Addr} {c : Int} {d : Bool} {V : Mem} {R : List Value -> Mem -> Prop} (h : w214d a b c d V (OV R)) : qCc Tryz.prog 19 c214d 7 1 [(0, K.cast .f a), (1, uP b), (3, uI c), (17, uB d)] [0, 1, 3, 18] V R :=
 qAm (H := hK 19) [(0, (.var .f 0)), (1, (.var .p 1)), (3, (.var (.i .i64) 2)), (17, (.var .b 3))] [a, uP b, uI c, uB d] rfl (by kernel_rfl) h
noncomputable def c214e : List Code := ((qCy (qAl Tryz.f214) [1, 0, 0, 0]).drop 3).take 1
def w214e (a : Value) (b : Option Addr) (c : Int) : MR := fun V R => IR (c - 1) /\ R (rT #[K.cast .f a, uP b, uI (c - 1)]) V
theorem s214e {a : Value} {b : Option Addr} {c : Int} {V : Mem} {R : List Value -> Mem -> Prop} (h : w214e a b c V (OV R)) : Seg Tryz.prog 19 c214e [(0, K.cast .f a), (1, uP b), (3, uI c)] [0, 1, 3] V R :=
 qBy (H := hK 19) [(0, (.var .f 0)), (1, (.var .p 1)), (3, (.var (.i .i64) 2))] [a, uP b, uI c] rfl (by kernel_rfl) h
noncomputable def c138a : List Code := ((qCy (qAl Tryz.f138) []).drop 0).take 3
def w138a (a : Option Addr) (b : Bool) (c : Sl) : MR := fun V R => qAo Tryz.prog (.makeMap 163 none) 163 (gv []) V fun x V1 => ∃ d, x = uM d /\ ¬ a = none /\ ¬ a = none /\ ¬ (qAa a 0) = none /\ ∃ g, V1.rowp a 2 1 = some [uL g] /\ TT 192 #[uL g] V1 fun e V2 => ∃ i, K.f.ok i /\ e = rV i /\ qAn [uP none, uM none, uB false] 165 V2 fun j V3 => qAn [uP a, uM d, uB b] 165 V3 fun k V4 => R (rT #[uP a, uB b, uL c, uP (qAa j 0), uP (qAa k 0), K.cast .f i]) V4
theorem s138a {a : Option Addr} {b : Bool} {c : Sl} {V : Mem} {R : List Value -> Mem -> Prop} (h : w138a a b c V (OV R)) : Seg Tryz.prog 63 c138a [(0, uP a), (1, uB b), (2, uL c)] [0, 1, 2, 6, 7, 24] V R :=
 qBy (H := hK 63) [(0, (.var .p 0)), (1, (.var .b 1)), (2, (.var .sl 2))] [uP a, uB b, uL c] rfl (by kernel_rfl) h
noncomputable def c138b : List Code := ((qCy (qAl Tryz.f138) [3, 0, 0, 0]).drop 0).take 1
def w138b (a : Option Addr) (b c : ByteArray) : MR := fun V R => qAn [uS b, uS c] 110 V fun d V1 => R (rT #[uP a, uP (qAa d 0)]) V1
theorem s138b {a : Option Addr} {b c : ByteArray} {V : Mem} {R : List Value -> Mem -> Prop} (h : w138b a b c V (OV R)) : Seg Tryz.prog 63 c138b [(7, uP a), (26, uA #[uS b, uS c])] [7, 9] V R :=
 qBy (H := hK 63) [(7, (.var .p 0)), (26, (.agg (.cons (.var .s 1) (.cons (.var .s 2) .nil))))] [uP a, uS b, uS c] rfl (by kernel_rfl) h
noncomputable def c138c : List Code := ((qCy (qAl Tryz.f138) [3, 0, 0, 1]).drop 0).take 1
def w138c (a b : Option Addr) : MR := fun V R => ¬ a = none /\ ∃ c, V.rowp a 1 1 = some [uM c] /\ ¬ b = none /\ ∃ d, V.rowp b ((0 : Int).toNat * 1) 1 = some [uS d] /\ ¬ b = none /\ ∃ g, V.rowp b 1 1 = some [uS g] /\ qGr Tryz.prog 163 (uM c) (uS d) (uS g) V fun V1 => R (rT #[]) V1
theorem s138c {a b : Option Addr} {V : Mem} {R : List Value -> Mem -> Prop} (h : w138c a b V (OV R)) : Seg Tryz.prog 63 c138c [(7, uP a), (9, uP b)] [] V R :=
 qBy (H := hK 63) [(7, (.var .p 0)), (9, (.var .p 1))] [uP a, uP b] rfl (by kernel_rfl) h
noncomputable def c138d : List Code := ((qCy (qAl Tryz.f138) []).drop 4).take 4
def w138d (a : Option Addr) (b : Bool) (c : Sl) (d g : Option Addr) : MR := fun V R => qAo Tryz.prog (.makeMap 251 none) 251 (gv []) V fun x V1 => ∃ i, x = uM i /\ Lp [uI 0] V1 fun I n V2 => ∀ j, I n [uI j] V2 -> ∀ J0 : LMP, Nx I n J0 -> Br (j < (c.n : Int)) (Ix c j (∃ k, V2.rowp c.p (j.toNat * 1) 1 = some [uL k] /\ Lp [uI 0] V2 fun I n V3 => ∀ l, I n [uI l] V3 -> ∀ J1 : LMP, Nx I n J1 -> Br (l < (k.n : Int)) (Ix k l (∃ o p, V3.rowp k.p (l.toNat * 2) 2 = some [uS o, uS p] /\ qBv Tryz.prog 251 (uM i) (uS o) false V3 fun x => ∃ q, x = uB q /\ Br (q = true) (IR (l + 1) /\ J1 [uI (l + 1)] V3) (¬ g = none /\ ∃ r, V3.rowp g 1 1 = some [uM r] /\ qGr Tryz.prog 163 (uM r) (uS o) (uS p) V3 fun V4 => qGr Tryz.prog 251 (uM i) (uS o) (.bool true) V4 fun V5 => IR (l + 1) /\ J1 [uI (l + 1)] V5))) (IR (j + 1) /\ J0 [uI (j + 1)] V3))) (∃ k l o, V2.rowp g ((0 : Int).toNat * 1) 3 = some [uP k, uM l, uB o] /\ StT d 0 [uP k, uM l, uB o] V2 fun V3 => R (rT #[uP d]) V3)
theorem s138d {a : Option Addr} {b : Bool} {c : Sl} {d g : Option Addr} {V : Mem} {R : List Value -> Mem -> Prop} (h : w138d a b c d g V (OV R)) : Seg Tryz.prog 63 c138d [(0, uP a), (1, uB b), (2, uL c), (6, uP d), (7, uP g)] [6] V R :=
 qBy (H := hK 63) [(0, (.var .p 0)), (1, (.var .b 1)), (2, (.var .sl 2)), (6, (.var .p 3)), (7, (.var .p 4))] [uP a, uB b, uL c, uP d, uP g] rfl (by kernel_rfl) h
noncomputable def c110a : List Code := ((qCy (qAl Tryz.f110) []).drop 0).take 3
def w110a (a : ByteArray) (b c d g i j k : Sl) : MR := fun V R => qAo Tryz.prog (.makeMap 207 none) 207 (gv []) V fun x V1 => ∃ l, x = uM l /\ qAo Tryz.prog (.makeMap 208 none) 208 (gv []) V1 fun x V2 => ∃ o, x = uM o /\ TT 160 #[uL b] V2 fun e V3 => ∃ p, K.f.ok p /\ e = rV p /\ qAn [uS a, uL b, uL c, uL d, uL g, uL i, uL j, uL k] 30 V3 fun q V4 => qAn [uS a, uL b, uL c, uL d, uL g, uL i, uL j, uL k, uM l, uM o] 210 V4 fun r V5 => qAn [uP (qAa r 0)] 160 V5 fun s V6 => R (rT #[uP (qAa q 0), uP (qAa s 0), K.cast .f p]) V6
theorem s110a {a : ByteArray} {b c d g i j k : Sl} {V : Mem} {R : List Value -> Mem -> Prop} (h : w110a a b c d g i j k V (OV R)) : Seg Tryz.prog 38 c110a [(0, uD a b c d g i j k)] [1, 3, 15] V R :=
 qBy (H := hK 38) [(0, (.agg (.cons (.var .s 0) (.cons (.var .sl 1) (.cons (.var .sl 2) (.cons (.var .sl 3) (.cons (.var .sl 4) (.cons (.var .sl 5) (.cons (.var .sl 6) (.cons (.var .sl 7) .nil))))))))))] [uS a, uL b, uL c, uL d, uL g, uL i, uL j, uL k] rfl (by kernel_rfl) h
noncomputable def c110b : List Code := ((qCy (qAl Tryz.f110) [3, 0, 0, 0]).drop 0).take 1
def w110b (a : Option Addr) (b : ByteArray) (c : Sl) : MR := fun V R => qAn [uS b, uL c] 101 V fun d V1 => R (rT #[uP a, uP (qAa d 0)]) V1
theorem s110b {a : Option Addr} {b : ByteArray} {c : Sl} {V : Mem} {R : List Value -> Mem -> Prop} (h : w110b a b c V (OV R)) : Seg Tryz.prog 38 c110b [(3, uP a), (17, uA #[uS b, uL c])] [3, 5] V R :=
 qBy (H := hK 38) [(3, (.var .p 0)), (17, (.agg (.cons (.var .s 1) (.cons (.var .sl 2) .nil))))] [uP a, uS b, uL c] rfl (by kernel_rfl) h
noncomputable def c110c : List Code := ((qCy (qAl Tryz.f110) [3, 0, 0, 1]).drop 0).take 1
def w110c (a b : Option Addr) : MR := fun V R => ∃ c, V.rowp a ((0 : Int).toNat * 1) 1 = some [uP c] /\ ¬ c = none /\ ¬ c = none /\ ∃ d, V.rowp c 8 1 = some [uM d] /\ ¬ b = none /\ ∃ g, V.rowp b ((0 : Int).toNat * 1) 1 = some [uS g] /\ ∃ i j, V.rowp b ((0 : Int).toNat * 1) 2 = some [uS i, uL j] /\ qGr Tryz.prog 207 (uM d) (uS g) (uA #[uS i, uL j]) V fun V1 => R (rT #[]) V1
theorem s110c {a b : Option Addr} {V : Mem} {R : List Value -> Mem -> Prop} (h : w110c a b V (OV R)) : Seg Tryz.prog 38 c110c [(3, uP a), (5, uP b)] [] V R :=
 qBy (H := hK 38) [(3, (.var .p 0)), (5, (.var .p 1))] [uP a, uP b] rfl (by kernel_rfl) h
noncomputable def c110d : List Code := ((qCy (qAl Tryz.f110) []).drop 4).take 1
def w110d (a b : Option Addr) : MR := fun V R => ¬ a = none /\ ∃ c, V.rowp a 3 1 = some [uL c] /\ TT 161 #[uL c] V fun e V1 => ∃ d, K.f.ok d /\ e = rV d /\ R (rT #[uP b, K.cast .f d]) V1
theorem s110d {a b : Option Addr} {V : Mem} {R : List Value -> Mem -> Prop} (h : w110d a b V (OV R)) : Seg Tryz.prog 38 c110d [(1, uP a), (3, uP b)] [3, 27] V R :=
 qBy (H := hK 38) [(1, (.var .p 0)), (3, (.var .p 1))] [uP a, uP b] rfl (by kernel_rfl) h
noncomputable def c110e : List Code := ((qCy (qAl Tryz.f110) [5, 0, 0, 0]).drop 0).take 1
def w110e (a : Option Addr) (b : ByteArray) (c : Sl) (d : ByteArray) (g i : Sl) : MR := fun V R => qAn [uS b, uL c, uS d, uL g, uL i] 146 V fun j V1 => R (rT #[uP a, uP (qAa j 0)]) V1
theorem s110e {a : Option Addr} {b : ByteArray} {c : Sl} {d : ByteArray} {g i : Sl} {V : Mem} {R : List Value -> Mem -> Prop} (h : w110e a b c d g i V (OV R)) : Seg Tryz.prog 38 c110e [(3, uP a), (29, uA #[uS b, uL c, uS d, uL g, uL i])] [3, 7] V R :=
 qBy (H := hK 38) [(3, (.var .p 0)), (29, (.agg (.cons (.var .s 1) (.cons (.var .sl 2) (.cons (.var .s 3) (.cons (.var .sl 4) (.cons (.var .sl 5) .nil)))))))] [uP a, uS b, uL c, uS d, uL g, uL i] rfl (by kernel_rfl) h
noncomputable def c110f : List Code := ((qCy (qAl Tryz.f110) [5, 0, 0, 1]).drop 0).take 1
def w110f (a b : Option Addr) : MR := fun V R => ∃ c, V.rowp a ((0 : Int).toNat * 1) 1 = some [uP c] /\ ¬ c = none /\ ¬ c = none /\ ∃ d, V.rowp c 9 1 = some [uM d] /\ ¬ b = none /\ ∃ g, V.rowp b ((0 : Int).toNat * 1) 1 = some [uS g] /\ ∃ i j k l o, V.rowp b ((0 : Int).toNat * 1) 5 = some [uS i, uL j, uS k, uL l, uL o] /\ qGr Tryz.prog 208 (uM d) (uS g) (uA #[uS i, uL j, uS k, uL l, uL o]) V fun V1 => R (rT #[]) V1
theorem s110f {a b : Option Addr} {V : Mem} {R : List Value -> Mem -> Prop} (h : w110f a b V (OV R)) : Seg Tryz.prog 38 c110f [(3, uP a), (7, uP b)] [] V R :=
 qBy (H := hK 38) [(3, (.var .p 0)), (7, (.var .p 1))] [uP a, uP b] rfl (by kernel_rfl) h
noncomputable def c110g : List Code := ((qCy (qAl Tryz.f110) []).drop 6).take 1
def w110g (a : Option Addr) : MR := fun V R => ∃ b, V.rowp a ((0 : Int).toNat * 1) 1 = some [uP b] /\ R (rT #[uP b]) V
theorem s110g {a : Option Addr} {V : Mem} {R : List Value -> Mem -> Prop} (h : w110g a V (OV R)) : Seg Tryz.prog 38 c110g [(3, uP a)] [2] V R :=
 qBy (H := hK 38) [(3, (.var .p 0))] [uP a] rfl (by kernel_rfl) h
noncomputable def c39a : List Code := ((qCy (qAl Tryz.f39) []).drop 0).take 1
def w39a (a : Option Addr) (b : Value) : MR := fun V R => qAn [uP a] 83 V fun c V1 => qAn [uI 0] 3 V1 fun d V2 => qAn [uI 0] 37 V2 fun g V3 => R (rT #[K.cast .f b, uP (qAa c 0), uP (qAa d 0), uP (qAa g 0)]) V3
theorem s39a {a : Option Addr} {b : Value} {V : Mem} {R : List Value -> Mem -> Prop} (h : w39a a b V (OV R)) : Seg Tryz.prog 9 c39a [(0, uP a), (1, K.cast .f b)] [1, 2, 4, 5] V R :=
 qBy (H := hK 9) [(0, (.var .p 0)), (1, (.var .f 1))] [uP a, b] rfl (by kernel_rfl) h
noncomputable def c39b : Array Oper := qEy ((qCy (qAl Tryz.f39) []).getD 2 .skip)
def w39b (a b : Option Addr) (c : Int) : MR := fun V R => StT a 0 [uI c] V fun V1 => StT b 0 [uI 0] V1 fun V2 => R (rT #[uP a, uP b]) V2
theorem s39b {a b : Option Addr} {c : Int} {V : Mem} {R : List Value -> Mem -> Prop} (h : w39b a b c V (OV R)) : qCc Tryz.prog 9 c39b 2 2 [(4, uP a), (5, uP b), (8, uI c)] [4, 5] V R :=
 qAm (H := hK 9) [(4, (.var .p 0)), (5, (.var .p 1)), (8, (.var (.i .i64) 2))] [uP a, uP b, uI c] rfl (by kernel_rfl) h
noncomputable def c72a : List Code := ((qCy (qAl Tryz.f72) []).drop 1).take 2
def w72a (a b c : Option Addr) (d : Value) : MR := fun V R => qAo Tryz.prog (.binOp .neq 20 (.tmp 7) (.const .nilIface) 20) 4 (gv [(7, K.cast .r d)]) V fun x V1 => ∃ g, x = uB g /\ Br (g = true) (qAo Tryz.prog (.typeAssert (.tmp 10) 20 133 true) 134 (gv [(10, K.cast .r d)]) V1 fun x V2 => ∃ i j, x = .tuple #[uA #[uI i], uB j] /\ Br (j = true) (StT a 0 [uI 0] V2 fun V3 => StT b 0 [uI i] V3 fun V4 => ∃ k, V4.rowp c ((0 : Int).toNat * 1) 1 = some [uP k] /\ ¬ k = none /\ ¬ k = none /\ ∃ l, V4.rowp k 11 1 = some [uM l] /\ qAo Tryz.prog (.call { callee := (.builtin .clear), args := #[(.tmp 22)], argTypes := #[127] }) 0 (gv [(22, uM l)]) V4 fun x V5 => x = .tuple #[] /\ R (rT #[]) V5) (∃ t x, K.cast .r d = .iface t x /\ R (.panicked [{ v := .iface t x, recovered := false }]) V2)) (R (rT #[]) V1)
theorem s72a {a b c : Option Addr} {d : Value} {V : Mem} {R : List Value -> Mem -> Prop} (h : w72a a b c d V (OV R)) : Seg Tryz.prog 23 c72a [(0, uP a), (1, uP b), (2, uP c), (3, K.cast .r d)] [] V R :=
 qBy (H := hK 23) [(0, (.var .p 0)), (1, (.var .p 1)), (2, (.var .p 2)), (3, (.var .r 3))] [uP a, uP b, uP c, d] rfl (by kernel_rfl) h
noncomputable def c22a : List Code := ((qCy (qAl Tryz.f22) []).drop 0).take 4
def w22a  : MR := fun V R => TT 52 #[uI 4, uS (qAi [116, 104, 105, 115]), .slice none 0 0] V fun e V1 => ∃ a b c d, e = rV (uA #[uI a, uI b, uS c, uL d]) /\ qAn [uI a, uI b, uS c, uL d] 69 V1 fun g V2 => TT 52 #[uI 5, uS (qAi [110, 101, 120, 116]), .slice (qAa g 0) 1 1] V2 fun e V3 => ∃ i j k l, e = rV (uA #[uI i, uI j, uS k, uL l]) /\ qAn [uS (qAi []), .slice none 0 0, .slice none 0 0, .slice none 0 0, .slice none 0 0, .slice none 0 0, .slice none 0 0, .slice none 0 0] 30 V3 fun o V4 => qAn [uI a, uI b, uS c, uL d] 69 V4 fun p V5 => qAn [uI i, uI j, uS k, uL l] 69 V5 fun q V6 => R (rT #[uP (qAa o 0), .func (.func 52) #[] #[], uP (qAa p 0), uP (qAa q 0)]) V6
theorem s22a {V : Mem} {R : List Value -> Mem -> Prop} (h : w22a V (OV R)) : Seg Tryz.prog 50 c22a [] [0, 1, 2, 3] V R :=
 qBy (H := hK 50) [] [] rfl (by kernel_rfl) h
noncomputable def qAW : Array Oper := qEy ((qCy (qAl Tryz.f22) []).getD 4 .skip)
def w22o0  : MR := fun V R => R (rT #[uA #[uS (qAi [110, 101, 120, 116]), uS (qAi [84])]]) V
theorem s22o0 {V : Mem} {R : List Value -> Mem -> Prop} (h : w22o0 V (OV R)) : qCc Tryz.prog 50 qAW 0 1 [] [10] V R :=
 qAm (H := hK 50) [] [] rfl (by kernel_rfl) h
def w22o1  : MR := fun V R => R (rT #[uA #[uS (qAi [110]), uS (qAi [105, 110, 116])]]) V
theorem s22o1 {V : Mem} {R : List Value -> Mem -> Prop} (h : w22o1 V (OV R)) : qCc Tryz.prog 50 qAW 1 1 [] [11] V R :=
 qAm (H := hK 50) [] [] rfl (by kernel_rfl) h
def w22o2 (a b c d : ByteArray) : MR := fun V R => qAn [uS a, uS b, uS c, uS d] 110 V fun g V1 => R (rT #[.slice (qAa g 0) 2 2]) V1
theorem s22o2 {a b c d : ByteArray} {V : Mem} {R : List Value -> Mem -> Prop} (h : w22o2 a b c d V (OV R)) : qCc Tryz.prog 50 qAW 2 1 [(10, uA #[uS a, uS b]), (11, uA #[uS c, uS d])] [12] V R :=
 qAm (H := hK 50) [(10, (.agg (.cons (.var .s 0) (.cons (.var .s 1) .nil)))), (11, (.agg (.cons (.var .s 2) (.cons (.var .s 3) .nil))))] [uS a, uS b, uS c, uS d] rfl (by kernel_rfl) h
def w22o3 (a : Sl) : MR := fun V R => R (rT #[uA #[uS (qAi [84]), uL a]]) V
theorem s22o3 {a : Sl} {V : Mem} {R : List Value -> Mem -> Prop} (h : w22o3 a V (OV R)) : qCc Tryz.prog 50 qAW 3 1 [(12, uL a)] [13] V R :=
 qAm (H := hK 50) [(12, (.var .sl 0))] [uL a] rfl (by kernel_rfl) h
def w22o4 (a : ByteArray) (b : Sl) : MR := fun V R => qAn [uS a, uL b] 101 V fun c V1 => R (rT #[.slice (qAa c 0) 1 1]) V1
theorem s22o4 {a : ByteArray} {b : Sl} {V : Mem} {R : List Value -> Mem -> Prop} (h : w22o4 a b V (OV R)) : qCc Tryz.prog 50 qAW 4 1 [(13, uA #[uS a, uL b])] [14] V R :=
 qAm (H := hK 50) [(13, (.agg (.cons (.var .s 0) (.cons (.var .sl 1) .nil))))] [uS a, uL b] rfl (by kernel_rfl) h
def w22o5  : MR := fun V R => R (rT #[uA #[uS (qAi [118]), uS (qAi [84])]]) V
theorem s22o5 {V : Mem} {R : List Value -> Mem -> Prop} (h : w22o5 V (OV R)) : qCc Tryz.prog 50 qAW 5 1 [] [15] V R :=
 qAm (H := hK 50) [] [] rfl (by kernel_rfl) h
def w22o6 (a b : ByteArray) : MR := fun V R => qAn [uS a, uS b] 110 V fun c V1 => R (rT #[.slice (qAa c 0) 1 1]) V1
theorem s22o6 {a b : ByteArray} {V : Mem} {R : List Value -> Mem -> Prop} (h : w22o6 a b V (OV R)) : qCc Tryz.prog 50 qAW 6 1 [(15, uA #[uS a, uS b])] [16] V R :=
 qAm (H := hK 50) [(15, (.agg (.cons (.var .s 0) (.cons (.var .s 1) .nil))))] [uS a, uS b] rfl (by kernel_rfl) h
def w22o7 (a : Value) : MR := fun V R => R (rT #[K.cast .f a]) V
theorem s22o7 {a : Value} {V : Mem} {R : List Value -> Mem -> Prop} (h : w22o7 a V (OV R)) : qCc Tryz.prog 50 qAW 7 1 [(1, K.cast .f a)] [17] V R :=
 qAm (H := hK 50) [(1, (.var .f 0))] [a] rfl (by kernel_rfl) h
def w22o8  : MR := fun V R => R (rT #[uA #[uI 1, uI 1, uS (qAi []), .slice none 0 0]]) V
theorem s22o8 {V : Mem} {R : List Value -> Mem -> Prop} (h : w22o8 V (OV R)) : qCc Tryz.prog 50 qAW 8 1 [] [18] V R :=
 qAm (H := hK 50) [] [] rfl (by kernel_rfl) h
def w22o9 (a : Value) : MR := fun V R => R (rT #[K.cast .f a]) V
theorem s22o9 {a : Value} {V : Mem} {R : List Value -> Mem -> Prop} (h : w22o9 a V (OV R)) : qCc Tryz.prog 50 qAW 9 1 [(1, K.cast .f a)] [19] V R :=
 qAm (H := hK 50) [(1, (.var .f 0))] [a] rfl (by kernel_rfl) h
def w22o10 (a : Option Addr) : MR := fun V R => ∃ b c d g, V.rowp a ((0 : Int).toNat * 1) 4 = some [uI b, uI c, uS d, uL g] /\ R (rT #[uA #[uI b, uI c, uS d, uL g]]) V
theorem s22o10 {a : Option Addr} {V : Mem} {R : List Value -> Mem -> Prop} (h : w22o10 a V (OV R)) : qCc Tryz.prog 50 qAW 10 1 [(3, uP a)] [20] V R :=
 qAm (H := hK 50) [(3, (.var .p 0))] [uP a] rfl (by kernel_rfl) h
def w22o11 (a b : Int) (c : ByteArray) (d : Sl) : MR := fun V R => qAn [uI a, uI b, uS c, uL d] 69 V fun g V1 => R (rT #[.slice (qAa g 0) 1 1]) V1
theorem s22o11 {a b : Int} {c : ByteArray} {d : Sl} {V : Mem} {R : List Value -> Mem -> Prop} (h : w22o11 a b c d V (OV R)) : qCc Tryz.prog 50 qAW 11 1 [(20, uA #[uI a, uI b, uS c, uL d])] [21] V R :=
 qAm (H := hK 50) [(20, (.agg (.cons (.var (.i .i64) 0) (.cons (.var (.i .i64) 1) (.cons (.var .s 2) (.cons (.var .sl 3) .nil))))))] [uI a, uI b, uS c, uL d] rfl (by kernel_rfl) h
def w22o12 (a : Value) (b : Sl) : MR := fun V R => ∃ f first caps, K.cast .f a = .func (.func f) first caps /\ CO f /\ TT f (first ++ #[uI 7, uS (qAi [108, 101, 110, 103, 116, 104]), uL b] ++ caps) V fun e V1 => ∃ c d g i, e = rV (uA #[uI c, uI d, uS g, uL i]) /\ R (rT #[uA #[uI c, uI d, uS g, uL i]]) V1
theorem s22o12 {a : Value} {b : Sl} {V : Mem} {R : List Value -> Mem -> Prop} (h : w22o12 a b V (OV R)) : qCc Tryz.prog 50 qAW 12 1 [(19, K.cast .f a), (21, uL b)] [22] V R :=
 qAm (H := hK 50) [(19, (.var .f 0)), (21, (.var .sl 1))] [a, uL b] rfl (by kernel_rfl) h
def w22o13 (a b : Int) (c : ByteArray) (d : Sl) (g i : Int) (j : ByteArray) (k : Sl) : MR := fun V R => qAn [uI a, uI b, uS c, uL d, uI g, uI i, uS j, uL k] 69 V fun l V1 => R (rT #[.slice (qAa l 0) 2 2]) V1
theorem s22o13 {a b : Int} {c : ByteArray} {d : Sl} {g i : Int} {j : ByteArray} {k : Sl} {V : Mem} {R : List Value -> Mem -> Prop} (h : w22o13 a b c d g i j k V (OV R)) : qCc Tryz.prog 50 qAW 13 1 [(18, uA #[uI a, uI b, uS c, uL d]), (22, uA #[uI g, uI i, uS j, uL k])] [23] V R :=
 qAm (H := hK 50) [(18, (.agg (.cons (.var (.i .i64) 0) (.cons (.var (.i .i64) 1) (.cons (.var .s 2) (.cons (.var .sl 3) .nil)))))), (22, (.agg (.cons (.var (.i .i64) 4) (.cons (.var (.i .i64) 5) (.cons (.var .s 6) (.cons (.var .sl 7) .nil))))))] [uI a, uI b, uS c, uL d, uI g, uI i, uS j, uL k] rfl (by kernel_rfl) h
def w22o14 (a : Value) (b : Sl) : MR := fun V R => ∃ f first caps, K.cast .f a = .func (.func f) first caps /\ CO f /\ TT f (first ++ #[uI 9, uS (qAi []), uL b] ++ caps) V fun e V1 => ∃ c d g i, e = rV (uA #[uI c, uI d, uS g, uL i]) /\ R (rT #[uA #[uI c, uI d, uS g, uL i]]) V1
theorem s22o14 {a : Value} {b : Sl} {V : Mem} {R : List Value -> Mem -> Prop} (h : w22o14 a b V (OV R)) : qCc Tryz.prog 50 qAW 14 1 [(17, K.cast .f a), (23, uL b)] [24] V R :=
 qAm (H := hK 50) [(17, (.var .f 0)), (23, (.var .sl 1))] [a, uL b] rfl (by kernel_rfl) h
def w22o15 (a b : Int) (c : ByteArray) (d : Sl) : MR := fun V R => R (rT #[uA #[uS (qAi [108, 101, 110, 103, 116, 104]), uS (qAi [84]), uI 0, uI a, uI b, uS c, uL d]]) V
theorem s22o15 {a b : Int} {c : ByteArray} {d : Sl} {V : Mem} {R : List Value -> Mem -> Prop} (h : w22o15 a b c d V (OV R)) : qCc Tryz.prog 50 qAW 15 1 [(24, uA #[uI a, uI b, uS c, uL d])] [25] V R :=
 qAm (H := hK 50) [(24, (.agg (.cons (.var (.i .i64) 0) (.cons (.var (.i .i64) 1) (.cons (.var .s 2) (.cons (.var .sl 3) .nil))))))] [uI a, uI b, uS c, uL d] rfl (by kernel_rfl) h
def w22o16 (a b : ByteArray) (c d g : Int) (i : ByteArray) (j : Sl) : MR := fun V R => qAn [uS a, uS b, uI c, uI d, uI g, uS i, uL j] 77 V fun k V1 => R (rT #[.slice (qAa k 0) 1 1]) V1
theorem s22o16 {a b : ByteArray} {c d g : Int} {i : ByteArray} {j : Sl} {V : Mem} {R : List Value -> Mem -> Prop} (h : w22o16 a b c d g i j V (OV R)) : qCc Tryz.prog 50 qAW 16 1 [(25, uA #[uS a, uS b, uI c, uI d, uI g, uS i, uL j])] [26] V R :=
 qAm (H := hK 50) [(25, (.agg (.cons (.var .s 0) (.cons (.var .s 1) (.cons (.var (.i .i64) 2) (.cons (.var (.i .i64) 3) (.cons (.var (.i .i64) 4) (.cons (.var .s 5) (.cons (.var .sl 6) .nil)))))))))] [uS a, uS b, uI c, uI d, uI g, uS i, uL j] rfl (by kernel_rfl) h
def w22o17 (a : Value) : MR := fun V R => R (rT #[K.cast .f a]) V
theorem s22o17 {a : Value} {V : Mem} {R : List Value -> Mem -> Prop} (h : w22o17 a V (OV R)) : qCc Tryz.prog 50 qAW 17 1 [(1, K.cast .f a)] [27] V R :=
 qAm (H := hK 50) [(1, (.var .f 0))] [a] rfl (by kernel_rfl) h
def w22o18 (a : Value) : MR := fun V R => R (rT #[K.cast .f a]) V
theorem s22o18 {a : Value} {V : Mem} {R : List Value -> Mem -> Prop} (h : w22o18 a V (OV R)) : qCc Tryz.prog 50 qAW 18 1 [(1, K.cast .f a)] [28] V R :=
 qAm (H := hK 50) [(1, (.var .f 0))] [a] rfl (by kernel_rfl) h
def w22o19 (a : Option Addr) : MR := fun V R => ∃ b c d g, V.rowp a ((0 : Int).toNat * 1) 4 = some [uI b, uI c, uS d, uL g] /\ R (rT #[uA #[uI b, uI c, uS d, uL g]]) V
theorem s22o19 {a : Option Addr} {V : Mem} {R : List Value -> Mem -> Prop} (h : w22o19 a V (OV R)) : qCc Tryz.prog 50 qAW 19 1 [(3, uP a)] [29] V R :=
 qAm (H := hK 50) [(3, (.var .p 0))] [uP a] rfl (by kernel_rfl) h
def w22o20 (a : Value) : MR := fun V R => R (rT #[K.cast .f a]) V
theorem s22o20 {a : Value} {V : Mem} {R : List Value -> Mem -> Prop} (h : w22o20 a V (OV R)) : qCc Tryz.prog 50 qAW 20 1 [(1, K.cast .f a)] [30] V R :=
 qAm (H := hK 50) [(1, (.var .f 0))] [a] rfl (by kernel_rfl) h
def w22o21 (a : Value) : MR := fun V R => ∃ f first caps, K.cast .f a = .func (.func f) first caps /\ CO f /\ TT f (first ++ #[uI 3, uS (qAi []), .slice none 0 0] ++ caps) V fun e V1 => ∃ b c d g, e = rV (uA #[uI b, uI c, uS d, uL g]) /\ R (rT #[uA #[uI b, uI c, uS d, uL g]]) V1
theorem s22o21 {a : Value} {V : Mem} {R : List Value -> Mem -> Prop} (h : w22o21 a V (OV R)) : qCc Tryz.prog 50 qAW 21 1 [(30, K.cast .f a)] [31] V R :=
 qAm (H := hK 50) [(30, (.var .f 0))] [a] rfl (by kernel_rfl) h
def w22o22 (a b : Int) (c : ByteArray) (d : Sl) (g i : Int) (j : ByteArray) (k : Sl) : MR := fun V R => qAn [uI a, uI b, uS c, uL d, uI g, uI i, uS j, uL k] 69 V fun l V1 => R (rT #[.slice (qAa l 0) 2 2]) V1
theorem s22o22 {a b : Int} {c : ByteArray} {d : Sl} {g i : Int} {j : ByteArray} {k : Sl} {V : Mem} {R : List Value -> Mem -> Prop} (h : w22o22 a b c d g i j k V (OV R)) : qCc Tryz.prog 50 qAW 22 1 [(29, uA #[uI a, uI b, uS c, uL d]), (31, uA #[uI g, uI i, uS j, uL k])] [32] V R :=
 qAm (H := hK 50) [(29, (.agg (.cons (.var (.i .i64) 0) (.cons (.var (.i .i64) 1) (.cons (.var .s 2) (.cons (.var .sl 3) .nil)))))), (31, (.agg (.cons (.var (.i .i64) 4) (.cons (.var (.i .i64) 5) (.cons (.var .s 6) (.cons (.var .sl 7) .nil))))))] [uI a, uI b, uS c, uL d, uI g, uI i, uS j, uL k] rfl (by kernel_rfl) h
def w22o23 (a : Value) (b : Sl) : MR := fun V R => ∃ f first caps, K.cast .f a = .func (.func f) first caps /\ CO f /\ TT f (first ++ #[uI 14, uS (qAi []), uL b] ++ caps) V fun e V1 => ∃ c d g i, e = rV (uA #[uI c, uI d, uS g, uL i]) /\ R (rT #[uA #[uI c, uI d, uS g, uL i]]) V1
theorem s22o23 {a : Value} {b : Sl} {V : Mem} {R : List Value -> Mem -> Prop} (h : w22o23 a b V (OV R)) : qCc Tryz.prog 50 qAW 23 1 [(28, K.cast .f a), (32, uL b)] [33] V R :=
 qAm (H := hK 50) [(28, (.var .f 0)), (32, (.var .sl 1))] [a, uL b] rfl (by kernel_rfl) h
def w22o24 (a : Value) : MR := fun V R => R (rT #[K.cast .f a]) V
theorem s22o24 {a : Value} {V : Mem} {R : List Value -> Mem -> Prop} (h : w22o24 a V (OV R)) : qCc Tryz.prog 50 qAW 24 1 [(1, K.cast .f a)] [34] V R :=
 qAm (H := hK 50) [(1, (.var .f 0))] [a] rfl (by kernel_rfl) h
def w22o25 (a : Value) : MR := fun V R => R (rT #[K.cast .f a]) V
theorem s22o25 {a : Value} {V : Mem} {R : List Value -> Mem -> Prop} (h : w22o25 a V (OV R)) : qCc Tryz.prog 50 qAW 25 1 [(1, K.cast .f a)] [35] V R :=
 qAm (H := hK 50) [(1, (.var .f 0))] [a] rfl (by kernel_rfl) h
def w22o26 (a : Option Addr) : MR := fun V R => ∃ b c d g, V.rowp a ((0 : Int).toNat * 1) 4 = some [uI b, uI c, uS d, uL g] /\ R (rT #[uA #[uI b, uI c, uS d, uL g]]) V
theorem s22o26 {a : Option Addr} {V : Mem} {R : List Value -> Mem -> Prop} (h : w22o26 a V (OV R)) : qCc Tryz.prog 50 qAW 26 1 [(2, uP a)] [36] V R :=
 qAm (H := hK 50) [(2, (.var .p 0))] [uP a] rfl (by kernel_rfl) h
def w22o27 (a b : Int) (c : ByteArray) (d : Sl) : MR := fun V R => qAn [uI a, uI b, uS c, uL d] 69 V fun g V1 => R (rT #[.slice (qAa g 0) 1 1]) V1
theorem s22o27 {a b : Int} {c : ByteArray} {d : Sl} {V : Mem} {R : List Value -> Mem -> Prop} (h : w22o27 a b c d V (OV R)) : qCc Tryz.prog 50 qAW 27 1 [(36, uA #[uI a, uI b, uS c, uL d])] [37] V R :=
 qAm (H := hK 50) [(36, (.agg (.cons (.var (.i .i64) 0) (.cons (.var (.i .i64) 1) (.cons (.var .s 2) (.cons (.var .sl 3) .nil))))))] [uI a, uI b, uS c, uL d] rfl (by kernel_rfl) h
def w22o28 (a : Value) (b : Sl) : MR := fun V R => ∃ f first caps, K.cast .f a = .func (.func f) first caps /\ CO f /\ TT f (first ++ #[uI 5, uS (qAi [110]), uL b] ++ caps) V fun e V1 => ∃ c d g i, e = rV (uA #[uI c, uI d, uS g, uL i]) /\ R (rT #[uA #[uI c, uI d, uS g, uL i]]) V1
theorem s22o28 {a : Value} {b : Sl} {V : Mem} {R : List Value -> Mem -> Prop} (h : w22o28 a b V (OV R)) : qCc Tryz.prog 50 qAW 28 1 [(35, K.cast .f a), (37, uL b)] [38] V R :=
 qAm (H := hK 50) [(35, (.var .f 0)), (37, (.var .sl 1))] [a, uL b] rfl (by kernel_rfl) h
def w22o29 (a : Value) : MR := fun V R => R (rT #[K.cast .f a]) V
theorem s22o29 {a : Value} {V : Mem} {R : List Value -> Mem -> Prop} (h : w22o29 a V (OV R)) : qCc Tryz.prog 50 qAW 29 1 [(1, K.cast .f a)] [39] V R :=
 qAm (H := hK 50) [(1, (.var .f 0))] [a] rfl (by kernel_rfl) h
def w22o30 (a : Option Addr) : MR := fun V R => ∃ b c d g, V.rowp a ((0 : Int).toNat * 1) 4 = some [uI b, uI c, uS d, uL g] /\ R (rT #[uA #[uI b, uI c, uS d, uL g]]) V
theorem s22o30 {a : Option Addr} {V : Mem} {R : List Value -> Mem -> Prop} (h : w22o30 a V (OV R)) : qCc Tryz.prog 50 qAW 30 1 [(3, uP a)] [40] V R :=
 qAm (H := hK 50) [(3, (.var .p 0))] [uP a] rfl (by kernel_rfl) h
def w22o31 (a b : Int) (c : ByteArray) (d : Sl) : MR := fun V R => qAn [uI a, uI b, uS c, uL d] 69 V fun g V1 => R (rT #[.slice (qAa g 0) 1 1]) V1
theorem s22o31 {a b : Int} {c : ByteArray} {d : Sl} {V : Mem} {R : List Value -> Mem -> Prop} (h : w22o31 a b c d V (OV R)) : qCc Tryz.prog 50 qAW 31 1 [(40, uA #[uI a, uI b, uS c, uL d])] [41] V R :=
 qAm (H := hK 50) [(40, (.agg (.cons (.var (.i .i64) 0) (.cons (.var (.i .i64) 1) (.cons (.var .s 2) (.cons (.var .sl 3) .nil))))))] [uI a, uI b, uS c, uL d] rfl (by kernel_rfl) h
def w22o32 (a : Value) (b : Sl) : MR := fun V R => ∃ f first caps, K.cast .f a = .func (.func f) first caps /\ CO f /\ TT f (first ++ #[uI 5, uS (qAi [110]), uL b] ++ caps) V fun e V1 => ∃ c d g i, e = rV (uA #[uI c, uI d, uS g, uL i]) /\ R (rT #[uA #[uI c, uI d, uS g, uL i]]) V1
theorem s22o32 {a : Value} {b : Sl} {V : Mem} {R : List Value -> Mem -> Prop} (h : w22o32 a b V (OV R)) : qCc Tryz.prog 50 qAW 32 1 [(39, K.cast .f a), (41, uL b)] [42] V R :=
 qAm (H := hK 50) [(39, (.var .f 0)), (41, (.var .sl 1))] [a, uL b] rfl (by kernel_rfl) h
def w22o33 (a b : Int) (c : ByteArray) (d : Sl) (g i : Int) (j : ByteArray) (k : Sl) : MR := fun V R => qAn [uI a, uI b, uS c, uL d, uI g, uI i, uS j, uL k] 69 V fun l V1 => R (rT #[.slice (qAa l 0) 2 2]) V1
theorem s22o33 {a b : Int} {c : ByteArray} {d : Sl} {g i : Int} {j : ByteArray} {k : Sl} {V : Mem} {R : List Value -> Mem -> Prop} (h : w22o33 a b c d g i j k V (OV R)) : qCc Tryz.prog 50 qAW 33 1 [(38, uA #[uI a, uI b, uS c, uL d]), (42, uA #[uI g, uI i, uS j, uL k])] [43] V R :=
 qAm (H := hK 50) [(38, (.agg (.cons (.var (.i .i64) 0) (.cons (.var (.i .i64) 1) (.cons (.var .s 2) (.cons (.var .sl 3) .nil)))))), (42, (.agg (.cons (.var (.i .i64) 4) (.cons (.var (.i .i64) 5) (.cons (.var .s 6) (.cons (.var .sl 7) .nil))))))] [uI a, uI b, uS c, uL d, uI g, uI i, uS j, uL k] rfl (by kernel_rfl) h
def w22o34 (a : Value) (b : Sl) : MR := fun V R => ∃ f first caps, K.cast .f a = .func (.func f) first caps /\ CO f /\ TT f (first ++ #[uI 16, uS (qAi []), uL b] ++ caps) V fun e V1 => ∃ c d g i, e = rV (uA #[uI c, uI d, uS g, uL i]) /\ R (rT #[uA #[uI c, uI d, uS g, uL i]]) V1
theorem s22o34 {a : Value} {b : Sl} {V : Mem} {R : List Value -> Mem -> Prop} (h : w22o34 a b V (OV R)) : qCc Tryz.prog 50 qAW 34 1 [(34, K.cast .f a), (43, uL b)] [44] V R :=
 qAm (H := hK 50) [(34, (.var .f 0)), (43, (.var .sl 1))] [a, uL b] rfl (by kernel_rfl) h
def w22o35 (a b : Int) (c : ByteArray) (d : Sl) (g i : Int) (j : ByteArray) (k : Sl) : MR := fun V R => qAn [uI a, uI b, uS c, uL d, uI g, uI i, uS j, uL k] 69 V fun l V1 => R (rT #[.slice (qAa l 0) 2 2]) V1
theorem s22o35 {a b : Int} {c : ByteArray} {d : Sl} {g i : Int} {j : ByteArray} {k : Sl} {V : Mem} {R : List Value -> Mem -> Prop} (h : w22o35 a b c d g i j k V (OV R)) : qCc Tryz.prog 50 qAW 35 1 [(33, uA #[uI a, uI b, uS c, uL d]), (44, uA #[uI g, uI i, uS j, uL k])] [45] V R :=
 qAm (H := hK 50) [(33, (.agg (.cons (.var (.i .i64) 0) (.cons (.var (.i .i64) 1) (.cons (.var .s 2) (.cons (.var .sl 3) .nil)))))), (44, (.agg (.cons (.var (.i .i64) 4) (.cons (.var (.i .i64) 5) (.cons (.var .s 6) (.cons (.var .sl 7) .nil))))))] [uI a, uI b, uS c, uL d, uI g, uI i, uS j, uL k] rfl (by kernel_rfl) h
def w22o36 (a : Value) (b : Sl) : MR := fun V R => ∃ f first caps, K.cast .f a = .func (.func f) first caps /\ CO f /\ TT f (first ++ #[uI 20, uS (qAi []), uL b] ++ caps) V fun e V1 => ∃ c d g i, e = rV (uA #[uI c, uI d, uS g, uL i]) /\ R (rT #[uA #[uI c, uI d, uS g, uL i]]) V1
theorem s22o36 {a : Value} {b : Sl} {V : Mem} {R : List Value -> Mem -> Prop} (h : w22o36 a b V (OV R)) : qCc Tryz.prog 50 qAW 36 1 [(27, K.cast .f a), (45, uL b)] [46] V R :=
 qAm (H := hK 50) [(27, (.var .f 0)), (45, (.var .sl 1))] [a, uL b] rfl (by kernel_rfl) h
def w22o37 (a b : Int) (c : ByteArray) (d : Sl) : MR := fun V R => R (rT #[uA #[uS (qAi [115, 111, 114, 116, 101, 100]), uS (qAi [84]), uI a, uI b, uS c, uL d]]) V
theorem s22o37 {a b : Int} {c : ByteArray} {d : Sl} {V : Mem} {R : List Value -> Mem -> Prop} (h : w22o37 a b c d V (OV R)) : qCc Tryz.prog 50 qAW 37 1 [(46, uA #[uI a, uI b, uS c, uL d])] [47] V R :=
 qAm (H := hK 50) [(46, (.agg (.cons (.var (.i .i64) 0) (.cons (.var (.i .i64) 1) (.cons (.var .s 2) (.cons (.var .sl 3) .nil))))))] [uI a, uI b, uS c, uL d] rfl (by kernel_rfl) h
def w22o38 (a b : ByteArray) (c d : Int) (g : ByteArray) (i : Sl) : MR := fun V R => qAn [uS a, uS b, uI c, uI d, uS g, uL i] 105 V fun j V1 => R (rT #[.slice (qAa j 0) 1 1]) V1
theorem s22o38 {a b : ByteArray} {c d : Int} {g : ByteArray} {i : Sl} {V : Mem} {R : List Value -> Mem -> Prop} (h : w22o38 a b c d g i V (OV R)) : qCc Tryz.prog 50 qAW 38 1 [(47, uA #[uS a, uS b, uI c, uI d, uS g, uL i])] [48] V R :=
 qAm (H := hK 50) [(47, (.agg (.cons (.var .s 0) (.cons (.var .s 1) (.cons (.var (.i .i64) 2) (.cons (.var (.i .i64) 3) (.cons (.var .s 4) (.cons (.var .sl 5) .nil))))))))] [uS a, uS b, uI c, uI d, uS g, uL i] rfl (by kernel_rfl) h
def w22o39 (a b c d : Sl) : MR := fun V R => R (rT #[uA #[uS (qAi [108]), uL a, uL b, .slice none 0 0, uL c, uL d, .slice none 0 0, .slice none 0 0]]) V
theorem s22o39 {a b c d : Sl} {V : Mem} {R : List Value -> Mem -> Prop} (h : w22o39 a b c d V (OV R)) : qCc Tryz.prog 50 qAW 39 1 [(14, uL a), (16, uL b), (26, uL c), (48, uL d)] [49] V R :=
 qAm (H := hK 50) [(14, (.var .sl 0)), (16, (.var .sl 1)), (26, (.var .sl 2)), (48, (.var .sl 3))] [uL a, uL b, uL c, uL d] rfl (by kernel_rfl) h
def w22o40 (a : Option Addr) (b : ByteArray) (c d g i j k l : Sl) : MR := fun V R => StT a 0 [uS b, uL c, uL d, uL g, uL i, uL j, uL k, uL l] V fun V1 => R (rT #[]) V1
theorem s22o40 {a : Option Addr} {b : ByteArray} {c d g i j k l : Sl} {V : Mem} {R : List Value -> Mem -> Prop} (h : w22o40 a b c d g i j k l V (OV R)) : qCc Tryz.prog 50 qAW 40 1 [(0, uP a), (49, uD b c d g i j k l)] [] V R :=
 qAm (H := hK 50) [(0, (.var .p 0)), (49, (.agg (.cons (.var .s 1) (.cons (.var .sl 2) (.cons (.var .sl 3) (.cons (.var .sl 4) (.cons (.var .sl 5) (.cons (.var .sl 6) (.cons (.var .sl 7) (.cons (.var .sl 8) .nil))))))))))] [uP a, uS b, uL c, uL d, uL g, uL i, uL j, uL k, uL l] rfl (by kernel_rfl) h
end
end Go.Proofs
namespace Go.Sx
open Go
section
variable {P : Program}
def Has (N : Nat) (a : Act) (l : List (Nat × Value)) : Prop := a.tmps.size = N /\ ∀ s v, l.lookup s = some v -> a.tmps.getD s undef = v
theorem Seg.step {r : Option Nat} {n N : Nat} {Q : Exit -> Act -> World -> Prop} {cs rest : List Code} {ins : List (Nat × Value)} {outs : List Nat} {V : Mem} {R : List Value -> Mem -> Prop} {a : Act} {w : World} (h : Seg P N cs ins outs V R) (hV : V.le w) (ha : Has N a ins)
  (k : ∀ a' w' vs V', a'.defers = a.defers -> Has N a' (outs.zip vs) -> R vs V' -> Frm V w V' w' -> wpL r n P Q rest a' w') : wpL r n P Q (cs ++ rest) a w := by
 refine qIn (qDu ?_ (h r n a w hV ha.1 ha.2))
 rintro e a' w' ⟨rfl, h1, h2, vs, V', h3, h4, h5⟩
 exact k a' w' vs V' h1 ⟨h2, h3⟩ h4 h5
theorem qCc.step {r : Option Nat} {n N k m : Nat} {Q : Exit -> Act -> World -> Prop} {ops : Array Oper} {rest : List Nat} {ins : List (Nat × Value)} {outs : List Nat} {V : Mem} {R : List Value -> Mem -> Prop} {a : Act} {w : World} (h : qCc P N ops k m ins outs V R) (hV : V.le w) (ha : Has N a ins)
  (go : ∀ a' w' vs V', a'.defers = a.defers -> Has N a' (outs.zip vs) -> R vs V' -> Frm V w V' w' -> wpOpsIn (qAs r) n P ops Q rest a' w') : wpOpsIn (qAs r) n P ops Q (List.range' k m ++ rest) a w := by
 refine qIb (fun c a w he => by cases he.1) (fun ⟨_, _, he⟩ => by cases he.1) ?_ (h r n a w hV ha.1 ha.2)
 rintro a' w' ⟨_, h1, h2, vs, V', h3, h4, h5⟩
 exact go a' w' vs V' h1 ⟨h2, h3⟩ h4 h5
theorem yield_op {ops : Array Oper} {i : Nat} {o : Oper} {c : Call} {fv : Operand} {l : Nat} {rec : Loop} {args : Array Value} {rest : List Nat} {Q : Exit -> Act -> World -> Prop} {a : Act} {w : World} (ho : ops[i]? = some o) (hg : o.guard = none) (hop : o.op = .call c) (hc : c.callee = .value fv)
  (hf : a.eval fv = .func (.yield l) #[] #[]) (hargs : c.args.map a.eval = args) (hl : w.heap[l]? = some (.loop rec)) (hs : args.size = rec.params.size)
  (hR : RoundIn (qAs none) 0 P l rec.fn ((rec.params.zip args).foldl (fun t (p, v) => t.setIfInBounds p v) rec.tmps) rec.assign rec.body w fun e w' => ∃ v, e = .returned v /\ wpOpsIn (qAs none) 0 P ops Q rest (a.put o.dst v) w') :
  wpOpsIn (qAs none) 0 P ops Q (i :: rest) a w := by
 rw [wpOpsIn_cons]
 unfold wpOpIn
 simp only [ho]
 rw [if_pos (by simp [Region.wanted, hg])]
 refine ⟨fun _ _ => trivial, ?_⟩
 rw [Oper.semAt_eq _ _ _ (fun d => by rw [hop]; intro h; cases h)]
 have hrun : (execOp a.eval o).run P w = .ok (.round l rec.fn ((rec.params.zip args).foldl (fun t (p, v) => t.setIfInBounds p v) rec.tmps) rec.assign rec.body) w := by
  unfold execOp
  simp only [hop, resolve, hc, hf, hargs, Deferred.ofValue, Sem.run_bind, Sem.run_pure, Result.andThen_ok, invoke]
  simp only [Array.append_empty, Array.empty_append]
  exact run_yield hl hs
 rw [hrun]
 refine ⟨fun h => by simp [qAs, Fence.wide] at h, hR.mono ?_⟩
 rintro e w' ⟨v, rfl, h⟩
 exact h
theorem Has.get {N : Nat} {a : Act} {l : List (Nat × Value)} (h : Has N a l) {s : Nat} {v : Value} (hs : l.lookup s = some v) : a.tmps.getD s undef = v := h.2 s v hs
theorem qHT {f : FuncId} {fn : Func} {c L B : Code} {b0 b1 id : Nat} {cA cB cE : List Code} {ops : Array Oper} {o6 : Oper} {at6 : Array TypeId} {fn' : FuncId} {tmps : Array Value} {ps : Array Tmp} {assign body : Code} {D : Nat} {l : Nat} {box : Option Addr} {n : Nat} {el : Nat -> Value} {J : Nat -> Mem -> Prop} {Bk : Mem -> Prop} {V : Mem}
  (hf : P.funcs[f]? = some fn) (hb : fn.body = some c) (e1 : flat c = cA ++ [.block b0 (.loop L)]) (e2 : flat L = cB ++ ([.cond (.tmp 8) .skip (.exit b0), .block b1 B] ++ cE)) (e3 : flat B = [.region id ops false, .cond (.tmp 18) .ret .skip])
  (ho : ops[6]? = some o6) (hgd : o6.guard = none) (hop : o6.op = .call { callee := .value (.tmp 11), args := #[.tmp 12, .tmp 16], argTypes := at6 }) (hdst : o6.dst = some 17) (hsz : ops.size = 8) (hres : fn.results = #[]) (hN : fn.ntmps = 19) (hps : ps.size = 2)
  (hA : ∀ M, Bk M -> Seg P 19 cA [(0, .func (.yield l) #[] #[]), (1, .pointer box)] [0, 1, 3] M fun vs V' => V' = M /\ vs = [.func (.yield l) #[] #[], .pointer box, .int .i64 ((n : Int) - 1)])
  (hB : ∀ M (j : Int), Seg P 19 cB [(0, .func (.yield l) #[] #[]), (1, .pointer box), (3, .int .i64 j)] [0, 1, 3, 8] M fun vs V' => V' = M /\ vs = [.func (.yield l) #[] #[], .pointer box, .int .i64 j, .bool (decide (0 <= j))])
  (hC : ∀ M (k : Nat), Bk M -> k < n -> qCc P 19 ops 0 6 [(0, .func (.yield l) #[] #[]), (1, .pointer box), (3, .int .i64 k)] [0, 1, 3, 11, 12, 16] M fun vs V' => V' = M /\ vs = [.func (.yield l) #[] #[], .pointer box, .int .i64 k, .func (.yield l) #[] #[], .int .i64 k, el k])
  (hD : ∀ M (j : Int) (b : Bool), qCc P 19 ops 7 1 [(0, .func (.yield l) #[] #[]), (1, .pointer box), (3, .int .i64 j), (17, .bool b)] [0, 1, 3, 18] M fun vs V' => V' = M /\ vs = [.func (.yield l) #[] #[], .pointer box, .int .i64 j, .bool (!b)])
  (hE : ∀ M (j : Int), Bk M -> 0 <= j -> j < n -> Seg P 19 cE [(0, .func (.yield l) #[] #[]), (1, .pointer box), (3, .int .i64 j)] [0, 1, 3] M fun vs V' => V' = M /\ vs = [.func (.yield l) #[] #[], .pointer box, .int .i64 (j - 1)])
  (hJ : ∀ i V2, J i V2 -> V2 l = none -> Bk (V2.set l (.loop (qDk fn' tmps ps assign body D))))
  (hround : ∀ k, k < n -> ∀ V2, J (n - 1 - k) V2 -> V2 l = none -> ∀ w, (V2.set l (.loop (qDk fn' tmps ps assign body D))).le w ->
   RoundIn (qAs none) 0 P l fn' ((ps.zip #[.int .i64 k, el k]).foldl (fun t (p, v) => t.setIfInBounds p v) tmps) assign body w fun e w' =>
    e = .returned (.bool true) /\ ∃ V3, J (n - k) V3 /\ V3 l = none /\ Frm (V2.set l (.loop (qDk fn' tmps ps assign body D))) w (V3.set l (.loop (qDk fn' tmps ps assign body D))) w')
  (h0 : J 0 V) (hl : V l = none) :
  Tri P f #[.func (.yield l) #[] #[], .pointer box] (V.set l (.loop (qDk fn' tmps ps assign body D))) fun e V' => (∃ v, e = .returned v) /\ ∃ V2, V' = V2.set l (.loop (qDk fn' tmps ps assign body D)) /\ V2 l = none /\ J n V2 := by
 intro w hV
 refine (callsIn_wide (n := 0)).1 (callsIn_of_wp (F := qAs none) hf hb trivial (qCJ ?_) rfl)
 rw [e1]
 have hH0 : Has 19 { tmps := #[.func (.yield l) #[] #[], .pointer box] ++ Array.replicate (fn.ntmps - (#[Value.func (.yield l) #[] #[], .pointer box]).size) undef, defers := [] } [(0, .func (.yield l) #[] #[]), (1, .pointer box)] := by
  constructor
  ·simp [hN]
  ·intro s v hs
   simp only [List.lookup_cons] at hs
   split at hs
   ·rename_i e
    simp only [beq_iff_eq] at e; subst e
    cases hs
    simp [Array.getD, hN]
   ·split at hs
    ·rename_i e
     simp only [beq_iff_eq] at e; subst e
     cases hs
     simp [Array.getD, hN]
    ·cases hs
 refine (hA _ (hJ 0 V h0 hl)).step hV hH0 ?_
 rintro a1 w1 vs V1 hd1 hH1 ⟨rfl, rfl⟩ hF1
 refine wpIn_block ?_
 refine qEV (fun m a w' => ∃ (i : Nat) (V2 : Mem), i <= n /\ m = n - i /\ J i V2 /\ V2 l = none /\ a.defers = [] /\ Has 19 a [(0, .func (.yield l) #[] #[]), (1, .pointer box), (3, .int .i64 ((n : Int) - 1 - i))] /\
  Frm (V.set l (.loop (qDk fn' tmps ps assign body D))) w (V2.set l (.loop (qDk fn' tmps ps assign body D))) w') ⟨n, 0, V, by omega, rfl, h0, hl, hd1, by simpa using hH1, hF1⟩ ?_
 rintro m a2 w2 ⟨i, V2, hi, rfl, hJi, hl2, hd2, hH2, hF2⟩
 refine qCJ ?_
 rw [e2]
 refine (hB _ _).step hF2.le hH2 ?_
 rintro a3 w3 vs V3 hd3 hH3 ⟨rfl, rfl⟩ hF3
 have hev8 : a3.eval (.tmp 8) = .bool (decide (0 <= (n : Int) - 1 - i)) := hH3.get rfl
 show Code.wpIn (qAs none) 0 P _ _ a3 w3
 by_cases hlt : i < n
 ·have hdc : decide (0 <= (n : Int) - 1 - i) = true := by simp; omega
  rw [hdc] at hev8
  refine wpIn_cond_true hev8 (wpIn_skip ?_)
  show Code.wpIn (qAs none) 0 P _ _ a3 w3
  refine wpIn_block (qCJ ?_)
  rw [e3]
  have hk : ((n : Int) - 1 - i) = ((n - 1 - i : Nat) : Int) := by omega
  have hH3' : Has 19 a3 [(0, .func (.yield l) #[] #[]), (1, .pointer box), (3, .int .i64 ((n - 1 - i : Nat) : Int))] := ⟨hH3.1, fun s v hs => hH3.2 s v (by
   rw [hk]
   simp only [List.zip_cons_cons, List.lookup_cons] at hs ⊢
   split at hs
   ·exact hs
   ·split at hs
    ·exact hs
    ·split at hs
     ·exact hs
     ·cases hs)⟩
  refine wpIn_region ?_
  rw [hsz, show List.range 8 = List.range' 0 6 ++ [6, 7] from rfl]
  refine (hC _ (n - 1 - i) (hJ _ _ hJi hl2) (by omega)).step hF3.le hH3' ?_
  rintro a4 w4 vs V4 hd4 hH4 ⟨rfl, rfl⟩ hF4
  have hl4 : w4.heap[l]? = some (.loop (qDk fn' tmps ps assign body D)) := hF4.le _ _ (Mem.set_same _ _ _)
  refine yield_op (args := #[.int .i64 ((n - 1 - i : Nat) : Int), el (n - 1 - i)]) ho hgd hop rfl (hH4.get rfl) ?_ hl4 (by simp [qDk, hps]) ?_
  ·have g1 : a4.eval (.tmp 12) = .int .i64 ((n - 1 - i : Nat) : Int) := hH4.get rfl
   have g2 : a4.eval (.tmp 16) = el (n - 1 - i) := hH4.get rfl
   simp [g1, g2]
  refine (hround (n - 1 - i) (by omega) V2 (by rw [show n - 1 - (n - 1 - i) = i by omega]; exact hJi) hl2 w4 hF4.le).mono ?_
  rintro e w5 ⟨rfl, V5, hJ5, hl5, hF5⟩
  refine ⟨_, rfl, ?_⟩
  rw [hdst]
  have hlt17 : (17 : Nat) < a4.tmps.size := by rw [hH4.1]; decide
  have hH5 : Has 19 (a4.put (some 17) (.bool true)) [(0, .func (.yield l) #[] #[]), (1, .pointer box), (3, .int .i64 ((n - 1 - i : Nat) : Int)), (17, .bool true)] := by
   refine ⟨by simp [Act.put, hH4.1], fun s v hs => ?_⟩
   have other : ∀ s, s ≠ 17 -> (a4.put (some 17) (.bool true)).tmps.getD s undef = a4.tmps.getD s undef := fun s hs => by
    simp [Act.put, Array.getD_eq_getD_getElem?, Array.getElem?_setIfInBounds_ne (Ne.symm hs)]
   simp only [List.lookup_cons] at hs
   split at hs
   ·rename_i e; simp only [beq_iff_eq] at e; subst e; cases hs; rw [other _ (by decide)]; exact hH4.get rfl
   ·split at hs
    ·rename_i e; simp only [beq_iff_eq] at e; subst e; cases hs; rw [other _ (by decide)]; exact hH4.get rfl
    ·split at hs
     ·rename_i e; simp only [beq_iff_eq] at e; subst e; cases hs; rw [other _ (by decide)]; exact hH4.get rfl
     ·split at hs
      ·rename_i e; simp only [beq_iff_eq] at e; subst e; cases hs
       simp [Act.put, Array.getD_eq_getD_getElem?, hlt17]
      ·cases hs
  rw [show [7] = List.range' 7 1 ++ [] from rfl]
  refine (hD _ _ true).step hF5.le hH5 ?_
  rintro a6 w6 vs V6 hd6 hH6 ⟨rfl, rfl⟩ hF6
  show Code.wpIn (qAs none) 0 P (.cond (.tmp 18) .ret .skip) _ a6 w6
  refine wpIn_cond_false (hH6.get rfl) (wpIn_skip ?_)
  rw [<- List.append_nil cE]
  refine (hE _ ((n - 1 - i : Nat) : Int) (hJ _ _ hJ5 hl5) (by omega) (by omega)).step hF6.le ⟨hH6.1, fun s v hs => hH6.2 s v ?_⟩ ?_
  ·simp only [List.zip_cons_cons, List.lookup_cons] at hs ⊢
   split at hs
   ·exact hs
   ·split at hs
    ·exact hs
    ·split at hs
     ·exact hs
     ·cases hs
  rintro a7 w7 vs V7 hd7 hH7 ⟨rfl, rfl⟩ hF7
  refine ⟨n - (i + 1), by omega, i + 1, V5, by omega, rfl, ?_, hl5, ?_, ?_, ?_⟩
  ·rw [show i + 1 = n - (n - 1 - i) by omega]; exact hJ5
  ·rw [hd7, hd6]
   show a4.defers = []
   rw [hd4, hd3, hd2]
  ·rw [show (n : Int) - 1 - ((i + 1 : Nat) : Int) = ((n - 1 - i : Nat) : Int) - 1 by omega]
   exact hH7
  ·exact ((((hF2.trans hF3).trans hF4).trans hF5).trans hF6).trans hF7
 ·have hin : i = n := by omega
  subst hin
  have hdc : decide (0 <= (i : Int) - 1 - i) = false := by simp; omega
  rw [hdc] at hev8
  refine wpIn_cond_false hev8 (wpIn_exit ?_)
  show (if b0 = b0 then _ else _)
  rw [if_pos rfl]
  refine ⟨?_, _, results_none hres _ _ _, _, ⟨⟨_, rfl⟩, V2, rfl, hl2, hJi⟩, hF2.trans hF3⟩
  rw [hd3, hd2]
end
end Go.Sx
namespace Go.Proofs
open Go Go.Sx
attribute [local irreducible] Go.Sx.Tri
theorem qAo.makeMap {P : Program} {V : Mem} {t : TypeId} {ty : Nat} {vals : Operand -> Value} {q : Value -> Mem -> Prop} (hq : ∀ b, V b = none -> q (.map (some b)) (V.set b (.map #[] 0))) : qAo P (.makeMap t none) ty vals V q := by
 intro w hw
 have hn : V w.heap.size = none := by
  cases hc : V w.heap.size with
  | none => rfl
  | some o => have := (Array.getElem?_eq_some_iff.1 (hw _ o hc)).1; omega
 refine ⟨_, w.alloc (.map #[] 0), V.set w.heap.size (.map #[] 0), rfl, ?_, hq _ hn⟩
 refine ⟨by simp, fun b o hb => ?_, fun b hb _ => Go.RowKit.Below.heap_alloc _ _ _ hb, fun b hb => ?_, rfl, rfl⟩
 ·by_cases e : b = w.heap.size
  ·subst e; rw [Mem.set_same] at hb; rw [<- hb]; exact World.alloc_heap_new _ _
  ·rw [Mem.set_ne e] at hb
   have hlt := (Array.getElem?_eq_some_iff.1 (hw b o hb)).1
   exact (Go.RowKit.Below.heap_alloc _ _ _ hlt).trans (hw b o hb)
 ·by_cases e : b = w.heap.size
  ·exact .inr (by omega)
  ·rw [Mem.set_ne e] at hb; exact .inl hb
theorem qJp {α : Type} {V : Mem} {s : Sl} {sz : Nat} {row : α -> List Value} {xs : List α} (h : qAd V s sz (xs.map row)) : K.inR .i64 ((s.n : Int) - 1) := by
 have := h.cap; have := h.fit
 exact ⟨by omega, by omega⟩
theorem it238 {V : Mem} {fn' : FuncId} {tmps : Array Value} {ps : Array Tmp} {assign body : Code} {D : Nat} {l : Nat} {bx : Nat} {s : Sl} {xs : List Fld} {J : Nat -> Mem -> Prop} (hps : ps.size = 2)
  (hJ : ∀ i V2, J i V2 -> V2 l = none -> V2 bx = some (cell (.slice s.p s.n s.c) 23) /\ qAd V2 s 2 (xs.map Fld.row))
  (hround : ∀ k x, xs[k]? = some x -> ∀ V2, J (xs.length - 1 - k) V2 -> V2 l = none -> ∀ w, (V2.set l (.loop (qDk fn' tmps ps assign body D))).le w ->
   RoundIn (qAs none) 0 Tryz.prog l fn' ((ps.zip #[.int .i64 k, Fld.v x]).foldl (fun t (p, v) => t.setIfInBounds p v) tmps) assign body w fun e w' =>
    e = .returned (.bool true) /\ ∃ V3, J (xs.length - k) V3 /\ V3 l = none /\ Frm (V2.set l (.loop (qDk fn' tmps ps assign body D))) w (V3.set l (.loop (qDk fn' tmps ps assign body D))) w')
  (h0 : J 0 V) (hl : V l = none) :
  Tri Tryz.prog 238 #[.func (.yield l) #[] #[], pv bx] (V.set l (.loop (qDk fn' tmps ps assign body D))) fun e V' => (∃ v, e = .returned v) /\ ∃ V2, V' = V2.set l (.loop (qDk fn' tmps ps assign body D)) /\ V2 l = none /\ J xs.length V2 := by
 refine qHT (c := qAl Tryz.f238) (L := kid ((qCy (qAl Tryz.f238) [1, 0]).getD 0 .skip) 0) (B := kid ((qCy (qAl Tryz.f238) [1, 0, 0, 0]).getD 2 .skip) 0) (cA := c238a) (cB := c238b) (cE := c238e) (ops := c238c) (b0 := 0) (b1 := 1) (id := 3)
  (o6 := (c238c)[6]?.getD default) (at6 := #[3, 110]) (el := fun k => (xs[k]?.map Fld.v).getD undef) (Bk := fun M => M bx = some (cell (.slice s.p s.n s.c) 23) /\ qAd M s 2 (xs.map Fld.row))
  Tryz.func238 (by kernel_rfl) (by kernel_rfl) (by kernel_rfl) (by kernel_rfl) (by kernel_rfl) (by kernel_rfl) (by kernel_rfl) (by kernel_rfl) (by kernel_rfl) (by kernel_rfl) (by kernel_rfl) hps ?_ ?_ ?_ ?_ ?_ ?_ ?_ h0 hl
 ·rintro M ⟨h1, h2⟩
  refine s238a (a := .func (.yield l) #[] #[]) (b := some ⟨bx, 0, none⟩) ?_
  unfold w238a
  exact ⟨s, qBt h1, qJp h2, _, rfl, rfl, by rw [h2.n_eq]; rfl⟩
 ·intro M j
  refine s238b (a := .func (.yield l) #[] #[]) (b := some ⟨bx, 0, none⟩) ?_
  unfold w238b
  exact ⟨_, rfl, rfl, rfl⟩
 ·rintro M k ⟨h1, h2⟩ hk
  refine s238c (a := .func (.yield l) #[] #[]) (b := some ⟨bx, 0, none⟩) ?_
  unfold w238c
  obtain ⟨x, hm, hx, hdr, hlt, hnn, hz, hrow⟩ := h2.get (i := k) (by rw [h2.n_eq]; omega)
  exact ⟨s, qBt h1, hnn, hz, by rw [h2.n_eq]; omega, x.name, x.ty, hrow, _, rfl, rfl, by rw [hx]; rfl⟩
 ·intro M j b
  refine s238d (a := .func (.yield l) #[] #[]) (b := some ⟨bx, 0, none⟩) ?_
  unfold w238d
  exact ⟨_, rfl, rfl, rfl⟩
 ·rintro M j ⟨h1, h2⟩ hj hj2
  have hb1 := h2.cap
  have hb2 := h2.fit
  have hb3 := h2.n_eq
  refine s238e (a := .func (.yield l) #[] #[]) (b := some ⟨bx, 0, none⟩) ?_
  unfold w238e
  exact ⟨⟨by omega, by omega⟩, _, rfl, rfl, rfl⟩
 ·intro i V2 hj hl2
  obtain ⟨h1, h2⟩ := hJ i V2 hj hl2
  have e : bx ≠ l := fun e => by subst e; rw [hl2] at h1; cases h1
  exact ⟨by rw [Mem.set_ne e]; exact h1, h2.sub (Mem.sub_new hl2 _)⟩
 ·intro k hk V2 hj hl2 w hw
  have hx : xs[k]? = some xs[k] := by simp [hk]
  have := hround k xs[k] hx V2 hj hl2 w hw
  simp only [hx]
  exact this
theorem it213 {V : Mem} {fn' : FuncId} {tmps : Array Value} {ps : Array Tmp} {assign body : Code} {D : Nat} {l : Nat} {bx : Nat} {s : Sl} {xs : List Ty} {J : Nat -> Mem -> Prop} (hps : ps.size = 2)
  (hJ : ∀ i V2, J i V2 -> V2 l = none -> V2 bx = some (cell (.slice s.p s.n s.c) 22) /\ qAd V2 s 2 (xs.map Ty.row))
  (hround : ∀ k x, xs[k]? = some x -> ∀ V2, J (xs.length - 1 - k) V2 -> V2 l = none -> ∀ w, (V2.set l (.loop (qDk fn' tmps ps assign body D))).le w ->
   RoundIn (qAs none) 0 Tryz.prog l fn' ((ps.zip #[.int .i64 k, Ty.v x]).foldl (fun t (p, v) => t.setIfInBounds p v) tmps) assign body w fun e w' =>
    e = .returned (.bool true) /\ ∃ V3, J (xs.length - k) V3 /\ V3 l = none /\ Frm (V2.set l (.loop (qDk fn' tmps ps assign body D))) w (V3.set l (.loop (qDk fn' tmps ps assign body D))) w')
  (h0 : J 0 V) (hl : V l = none) :
  Tri Tryz.prog 213 #[.func (.yield l) #[] #[], pv bx] (V.set l (.loop (qDk fn' tmps ps assign body D))) fun e V' => (∃ v, e = .returned v) /\ ∃ V2, V' = V2.set l (.loop (qDk fn' tmps ps assign body D)) /\ V2 l = none /\ J xs.length V2 := by
 refine qHT (c := qAl Tryz.f213) (L := kid ((qCy (qAl Tryz.f213) [1, 0]).getD 0 .skip) 0) (B := kid ((qCy (qAl Tryz.f213) [1, 0, 0, 0]).getD 2 .skip) 0) (cA := c213a) (cB := c213b) (cE := c213e) (ops := c213c) (b0 := 0) (b1 := 1) (id := 3)
  (o6 := (c213c)[6]?.getD default) (at6 := #[3, 101]) (el := fun k => (xs[k]?.map Ty.v).getD undef) (Bk := fun M => M bx = some (cell (.slice s.p s.n s.c) 22) /\ qAd M s 2 (xs.map Ty.row))
  Tryz.func213 (by kernel_rfl) (by kernel_rfl) (by kernel_rfl) (by kernel_rfl) (by kernel_rfl) (by kernel_rfl) (by kernel_rfl) (by kernel_rfl) (by kernel_rfl) (by kernel_rfl) (by kernel_rfl) hps ?_ ?_ ?_ ?_ ?_ ?_ ?_ h0 hl
 ·rintro M ⟨h1, h2⟩
  refine s213a (a := .func (.yield l) #[] #[]) (b := some ⟨bx, 0, none⟩) ?_
  unfold w213a
  exact ⟨s, qBt h1, qJp h2, _, rfl, rfl, by rw [h2.n_eq]; rfl⟩
 ·intro M j
  refine s213b (a := .func (.yield l) #[] #[]) (b := some ⟨bx, 0, none⟩) ?_
  unfold w213b
  exact ⟨_, rfl, rfl, rfl⟩
 ·rintro M k ⟨h1, h2⟩ hk
  refine s213c (a := .func (.yield l) #[] #[]) (b := some ⟨bx, 0, none⟩) ?_
  unfold w213c
  obtain ⟨x, hm, hx, hdr, hlt, hnn, hz, hrow⟩ := h2.get (i := k) (by rw [h2.n_eq]; omega)
  exact ⟨s, qBt h1, hnn, hz, by rw [h2.n_eq]; omega, x.name, x.fs, hrow, _, rfl, rfl, by rw [hx]; rfl⟩
 ·intro M j b
  refine s213d (a := .func (.yield l) #[] #[]) (b := some ⟨bx, 0, none⟩) ?_
  unfold w213d
  exact ⟨_, rfl, rfl, rfl⟩
 ·rintro M j ⟨h1, h2⟩ hj hj2
  have hb1 := h2.cap
  have hb2 := h2.fit
  have hb3 := h2.n_eq
  refine s213e (a := .func (.yield l) #[] #[]) (b := some ⟨bx, 0, none⟩) ?_
  unfold w213e
  exact ⟨⟨by omega, by omega⟩, _, rfl, rfl, rfl⟩
 ·intro i V2 hj hl2
  obtain ⟨h1, h2⟩ := hJ i V2 hj hl2
  have e : bx ≠ l := fun e => by subst e; rw [hl2] at h1; cases h1
  exact ⟨by rw [Mem.set_ne e]; exact h1, h2.sub (Mem.sub_new hl2 _)⟩
 ·intro k hk V2 hj hl2 w hw
  have hx : xs[k]? = some xs[k] := by simp [hk]
  have := hround k xs[k] hx V2 hj hl2 w hw
  simp only [hx]
  exact this
theorem it214 {V : Mem} {fn' : FuncId} {tmps : Array Value} {ps : Array Tmp} {assign body : Code} {D : Nat} {l : Nat} {bx : Nat} {s : Sl} {xs : List Pr} {J : Nat -> Mem -> Prop} (hps : ps.size = 2)
  (hJ : ∀ i V2, J i V2 -> V2 l = none -> V2 bx = some (cell (.slice s.p s.n s.c) 24) /\ qAd V2 s 5 (xs.map Pr.row))
  (hround : ∀ k x, xs[k]? = some x -> ∀ V2, J (xs.length - 1 - k) V2 -> V2 l = none -> ∀ w, (V2.set l (.loop (qDk fn' tmps ps assign body D))).le w ->
   RoundIn (qAs none) 0 Tryz.prog l fn' ((ps.zip #[.int .i64 k, Pr.v x]).foldl (fun t (p, v) => t.setIfInBounds p v) tmps) assign body w fun e w' =>
    e = .returned (.bool true) /\ ∃ V3, J (xs.length - k) V3 /\ V3 l = none /\ Frm (V2.set l (.loop (qDk fn' tmps ps assign body D))) w (V3.set l (.loop (qDk fn' tmps ps assign body D))) w')
  (h0 : J 0 V) (hl : V l = none) :
  Tri Tryz.prog 214 #[.func (.yield l) #[] #[], pv bx] (V.set l (.loop (qDk fn' tmps ps assign body D))) fun e V' => (∃ v, e = .returned v) /\ ∃ V2, V' = V2.set l (.loop (qDk fn' tmps ps assign body D)) /\ V2 l = none /\ J xs.length V2 := by
 refine qHT (c := qAl Tryz.f214) (L := kid ((qCy (qAl Tryz.f214) [1, 0]).getD 0 .skip) 0) (B := kid ((qCy (qAl Tryz.f214) [1, 0, 0, 0]).getD 2 .skip) 0) (cA := c214a) (cB := c214b) (cE := c214e) (ops := c214c) (b0 := 0) (b1 := 1) (id := 3)
  (o6 := (c214c)[6]?.getD default) (at6 := #[3, 146]) (el := fun k => (xs[k]?.map Pr.v).getD undef) (Bk := fun M => M bx = some (cell (.slice s.p s.n s.c) 24) /\ qAd M s 5 (xs.map Pr.row))
  Tryz.func214 (by kernel_rfl) (by kernel_rfl) (by kernel_rfl) (by kernel_rfl) (by kernel_rfl) (by kernel_rfl) (by kernel_rfl) (by kernel_rfl) (by kernel_rfl) (by kernel_rfl) (by kernel_rfl) hps ?_ ?_ ?_ ?_ ?_ ?_ ?_ h0 hl
 ·rintro M ⟨h1, h2⟩
  refine s214a (a := .func (.yield l) #[] #[]) (b := some ⟨bx, 0, none⟩) ?_
  unfold w214a
  exact ⟨s, qBt h1, qJp h2, _, rfl, rfl, by rw [h2.n_eq]; rfl⟩
 ·intro M j
  refine s214b (a := .func (.yield l) #[] #[]) (b := some ⟨bx, 0, none⟩) ?_
  unfold w214b
  exact ⟨_, rfl, rfl, rfl⟩
 ·rintro M k ⟨h1, h2⟩ hk
  refine s214c (a := .func (.yield l) #[] #[]) (b := some ⟨bx, 0, none⟩) ?_
  unfold w214c
  obtain ⟨x, hm, hx, hdr, hlt, hnn, hz, hrow⟩ := h2.get (i := k) (by rw [h2.n_eq]; omega)
  exact ⟨s, qBt h1, hnn, hz, by rw [h2.n_eq]; omega, x.name, x.ps, x.result, x.ls, x.bs, hrow, _, rfl, rfl, by rw [hx]; rfl⟩
 ·intro M j b
  refine s214d (a := .func (.yield l) #[] #[]) (b := some ⟨bx, 0, none⟩) ?_
  unfold w214d
  exact ⟨_, rfl, rfl, rfl⟩
 ·rintro M j ⟨h1, h2⟩ hj hj2
  have hb1 := h2.cap
  have hb2 := h2.fit
  have hb3 := h2.n_eq
  refine s214e (a := .func (.yield l) #[] #[]) (b := some ⟨bx, 0, none⟩) ?_
  unfold w214e
  exact ⟨⟨by omega, by omega⟩, _, rfl, rfl, rfl⟩
 ·intro i V2 hj hl2
  obtain ⟨h1, h2⟩ := hJ i V2 hj hl2
  have e : bx ≠ l := fun e => by subst e; rw [hl2] at h1; cases h1
  exact ⟨by rw [Mem.set_ne e]; exact h1, h2.sub (Mem.sub_new hl2 _)⟩
 ·intro k hk V2 hj hl2 w hw
  have hx : xs[k]? = some xs[k] := by simp [hk]
  have := hround k xs[k] hx V2 hj hl2 w hw
  simp only [hx]
  exact this
theorem c192 {V : Mem} {s : Sl} : Tri Tryz.prog 192 #[.slice s.p s.n s.c] V fun e V' => ∃ b, V b = none /\ e = .returned (.func (.func 238) #[] #[pv b]) /\ V' = V.set b (cell (.slice s.p s.n s.c) 23) := by
 refine x192 ?_
 unfold w192
 exact fun b hb => ⟨b, hb, rfl, rfl⟩
theorem c160 {V : Mem} {s : Sl} : Tri Tryz.prog 160 #[.slice s.p s.n s.c] V fun e V' => ∃ b, V b = none /\ e = .returned (.func (.func 213) #[] #[pv b]) /\ V' = V.set b (cell (.slice s.p s.n s.c) 22) := by
 refine x160 ?_
 unfold w160
 exact fun b hb => ⟨b, hb, rfl, rfl⟩
theorem c161 {V : Mem} {s : Sl} : Tri Tryz.prog 161 #[.slice s.p s.n s.c] V fun e V' => ∃ b, V b = none /\ e = .returned (.func (.func 214) #[] #[pv b]) /\ V' = V.set b (cell (.slice s.p s.n s.c) 24) := by
 refine x161 ?_
 unfold w161
 exact fun b hb => ⟨b, hb, rfl, rfl⟩
theorem qGI {args : List Value} {N : Nat} (h : args.length <= N) : Has N { tmps := args.toArray ++ Array.replicate (N - args.toArray.size) undef, defers := [] } ((List.range args.length).zip args) := by
 refine ⟨by simp; omega, fun s v hs => ?_⟩
 rw [List.range_eq_range'] at hs
 have key : ∀ (l : List Value) (k : Nat), ((List.range' k l.length).zip l).lookup s = some v -> k <= s /\ l[s - k]? = some v := by
  intro l
  induction l with
  | nil => intro k h; simp at h
  | cons x xs ih =>
   intro k h
   simp only [List.length_cons, List.range'_succ, List.zip_cons_cons, List.lookup_cons] at h
   split at h
   ·rename_i e
    simp only [beq_iff_eq] at e
    subst e
    exact ⟨Nat.le_refl _, by simpa using h⟩
   ·have := ih _ h
    refine ⟨by omega, ?_⟩
    rw [show s - k = (s - (k + 1)) + 1 by omega]
    simpa using this.2
 obtain ⟨-, h1⟩ := key args 0 hs
 have hlt := (List.getElem?_eq_some_iff.1 h1).1
 simp only [Nat.sub_zero] at h1 hlt
 rw [Array.getD_eq_getD_getElem?, Array.getElem?_append_left (by simpa using hlt)]
 simp [h1]
theorem qJg {tmps : Array Value} {p q : Nat} {u v : Value} : ((#[p, q].zip #[u, v]).foldl (fun t (p, v) => t.setIfInBounds p v) tmps) = (tmps.setIfInBounds p u).setIfInBounds q v := by
 simp
theorem qGJ {tmps : Array Value} {p s : Nat} {u : Value} (h : s ≠ p) : (tmps.setIfInBounds p u).getD s undef = tmps.getD s undef := by
 simp [Array.getD_eq_getD_getElem?, Array.getElem?_setIfInBounds_ne (Ne.symm h)]
theorem getD_same {tmps : Array Value} {p : Nat} {u : Value} (h : p < tmps.size) : (tmps.setIfInBounds p u).getD p undef = u := by
 simp [Array.getD_eq_getD_getElem?, h]
theorem qFF (f : Fld) (l : List Fld) (k : ByteArray) : qBH (f :: l) k = if k = f.name then some f.ty else qBH l k := by
 unfold qBH
 rw [List.find?_cons]
 by_cases h : f.name = k
 ·rw [decide_eq_true h, if_pos h.symm]; rfl
 ·rw [decide_eq_false h, if_neg (fun e => h e.symm)]
theorem varOf_app (a b : List Fld) (k : ByteArray) : qBH (a ++ b) k = (qBH a k).or (qBH b k) := by
 unfold qBH
 rw [List.find?_append]
 cases a.find? (fun f => decide (f.name = k)) <;> rfl
theorem varOf_any (a : List Fld) (k : ByteArray) : (qBH a k).isSome = a.any fun f => decide (f.name = k) := by
 unfold qBH
 induction a with
 | nil => rfl
 | cons f a ih =>
  rw [List.find?_cons, List.any_cons]
  by_cases h : f.name = k
  ·rw [decide_eq_true h]; rfl
  ·rw [decide_eq_false h]; exact ih
theorem seen_old {a g : List Fld} {f : Fld} (h : (a.any fun x => decide (x.name = f.name)) = true) (k : ByteArray) : qBH (a ++ [f] ++ g) k = qBH (a ++ g) k := by
 simp only [varOf_app, qFF]
 rw [<- varOf_any] at h
 by_cases e : k = f.name
 ·subst e
  rw [if_pos rfl]
  cases hv : qBH a f.name with
  | none => rw [hv] at h; cases h
  | some x => rfl
 ·rw [if_neg e]
  cases qBH a k <;> rfl
theorem seen_new {a g : List Fld} {f : Fld} (h : ¬ (a.any fun x => decide (x.name = f.name)) = true) (k : ByteArray) : qBH (a ++ [f] ++ g) k = if k = f.name then some f.ty else qBH (a ++ g) k := by
 simp only [varOf_app, qFF]
 rw [<- varOf_any] at h
 by_cases e : k = f.name
 ·subst e
  rw [if_pos rfl, if_pos rfl]
  cases hv : qBH a f.name with
  | none => rfl
  | some x => rw [hv] at h; exact absurd rfl h
 ·rw [if_neg e, if_neg e]
  cases qBH a k <;> rfl
structure SI (V : Mem) (c : Option Addr) (body : Bool) (d : Ds) (mb bx b6 b7 : Nat) (m : ByteArray -> Option Value) (V1 : Mem) : Prop where
 sub : V.sub V1
 nm : V mb = none
 n6 : V b6 = none
 map : qBe V1 mb m
 bx : V1 bx = some (cell (.slice d.gs.p d.gs.n d.gs.c) 23)
 b6 : V1 b6 = some (.cells #[.pointer none, .map none, .bool false] 165 (0, 0))
 b7 : V1 b7 = some (.cells #[.pointer c, .map (some mb), .bool body] 165 (0, 0))
section
variable {V V1 : Mem} {c : Option Addr} {body : Bool} {d : Ds} {mb bx b6 b7 : Nat} {m m' : ByteArray -> Option Value}
theorem SI.fresh (h : SI V c body d mb bx b6 b7 m V1) {b : Nat} (hb : V1 b = none) (o : Obj) : SI V c body d mb bx b6 b7 m (V1.set b o) :=
 have hs := Mem.sub_new hb o
 ⟨h.sub.trans hs, h.nm, h.n6, h.map.sub hs, hs _ _ h.bx, hs _ _ h.b6, hs _ _ h.b7⟩
theorem SI.up (h : SI V c body d mb bx b6 b7 m V1) {o : Obj} (ho : qBe (V1.set mb o) mb m') : SI V c body d mb bx b6 b7 m' (V1.set mb o) := by
 obtain ⟨es, cl, hm, -, -⟩ := h.map.at_
 have e1 : bx ≠ mb := fun e => by have := h.bx; rw [e, hm] at this; cases this
 have e2 : b6 ≠ mb := fun e => by have := h.b6; rw [e, hm] at this; cases this
 have e3 : b7 ≠ mb := fun e => by have := h.b7; rw [e, hm] at this; cases this
 exact ⟨h.sub.set h.nm o, h.nm, h.n6, ho, by rw [Mem.set_ne e1]; exact h.bx, by rw [Mem.set_ne e2]; exact h.b6, by rw [Mem.set_ne e3]; exact h.b7⟩
theorem SI.cg (h : SI V c body d mb bx b6 b7 m V1) (e : ∀ k, m k = m' k) : SI V c body d mb bx b6 b7 m' V1 := ⟨h.sub, h.nm, h.n6, h.map.congr e, h.bx, h.b6, h.b7⟩
end
section
variable {V V1 : Mem} {c : Option Addr} {body : Bool} {d : Ds} {mb bx b6 b7 : Nat} {m m' : ByteArray -> Option Value}
theorem scopeRound {l : Sl} (h : SI V c body d mb bx b6 b7 m V1) (x : Fld) (V2 : Mem) (b : Nat) (hb : V1 b = none) (e2 : V2 = V1.set b (.cells x.row.toArray 110 (0, 0))) :
  Seg Tryz.prog 63 c138c [(7, pv b7), (9, pv b)] [] V2 fun _ V3 => SI V c body d mb bx b6 b7 (fun k => if k = x.name then some (.string x.ty) else m k) V3 := by
 subst e2
 have h2 := h.fresh hb (.cells x.row.toArray 110 (0, 0))
 refine s138c ?_
 unfold w138c
 refine ⟨by simp, some mb, qAg h2.b7 1 1 (by simp), by simp, x.name, qAg mss 0 1 (by simp [Fld.row]), by simp, x.ty, qAg mss 1 1 (by simp [Fld.row]), ?_⟩
 exact qGr.str Tryz.underlying163 Tryz.underlying9 h2.map fun o ho => ⟨_, rfl, h2.up ho⟩
theorem scopeAssign (x : Fld) : Seg Tryz.prog 63 c138b [(7, pv b7), (26, Fld.v x)] [7, 9] V1 fun vs V2 => ∃ b, V1 b = none /\ V2 = V1.set b (.cells x.row.toArray 110 (0, 0)) /\ vs = [pv b7, pv b] := by
 refine s138b (b := x.name) (c := x.ty) ?_
 unfold w138b
 exact fun b hb => ⟨_, rfl, b, hb, rfl, rfl⟩
theorem zero4 (w : World) : (zeroValue 4).run Tryz.prog w = .ok (.bool false) w := by kernel_rfl
theorem scopeTail {l : Sl} {ls : List (Sl × List Fld)} (h : SI V c body d mb bx b6 b7 (fun k => (qBH d.globals k).map Value.string) V1) (hl : qAd V l 1 (ls.map fun x => [x.1.v])) (hls : ∀ x ∈ ls, qAd V x.1 2 (x.2.map Fld.row)) :
  Seg Tryz.prog 63 c138d [(0, .pointer c), (1, .bool body), (2, .slice l.p l.n l.c), (6, pv b6), (7, pv b7)] [6] V1 fun vs V2 => vs = [pv b6] /\
   V.sub V2 /\ V mb = none /\ qBe V2 mb (fun k => (qBH (ls.flatMap (·.2) ++ d.globals) k).map Value.string) /\ V2 b6 = some (.cells #[.pointer c, .map (some mb), .bool body] 165 (0, 0)) := by
 refine s138d ?_
 unfold w138d
 refine qAo.makeMap fun sb hsb => ⟨some sb, rfl, ?_⟩
 have hsV : V sb = none := by
  cases hc : V sb with
  | none => rfl
  | some o => have := h.sub _ _ hc; rw [hsb] at this; cases this
 have hne : mb ≠ sb := fun e => by
  obtain ⟨es, cl, hm, -, -⟩ := h.map.at_
  rw [e, hsb] at hm; cases hm
 let TI (done : List Fld) (V2 : Mem) : Prop := SI V c body d mb bx b6 b7 (fun k => (qBH (done ++ d.globals) k).map Value.string) V2 /\ qBe V2 sb (fun k => if (done.any fun f => decide (f.name = k)) = true then some (.bool true) else none)
 have h0 : TI [] (V1.set sb (.map #[] 0)) := ⟨h.fresh hsb _, (qBe.made V1 sb).congr fun k => by simp⟩
 refine loop1 ls.length (fun i V2 => TI ((ls.take i).flatMap (·.2)) V2) (by simpa using h0) ?_
 intro i V2 J hi hst hJ
 have hlV := hl.sub hst.1.sub
 refine ⟨fun hlt => ?_, fun hlt => ?_⟩
 ·obtain ⟨x, hm, hx, hdr, hlt', hnn, hz, hrow⟩ := hlV.get hlt
  refine ⟨hnn, hz, hlt, x.1, hrow, ?_⟩
  have htk : (ls.take (i + 1)).flatMap (·.2) = (ls.take i).flatMap (·.2) ++ x.2 := by
   rw [List.take_add_one, hx]; simp
  refine loop1 x.2.length (fun j V3 => TI ((ls.take i).flatMap (·.2) ++ x.2.take j) V3) (by simpa using hst) ?_
  intro j V3 J' hj hst' hJ'
  have hxV := (hls x hm).sub hst'.1.sub
  refine ⟨fun hlt2 => ?_, fun hlt2 => ?_⟩
  ·obtain ⟨f, hmf, hf, hdrf, hltf, hnnf, hzf, hrowf⟩ := hxV.get hlt2
   have htj : (ls.take i).flatMap (·.2) ++ x.2.take (j + 1) = ((ls.take i).flatMap (·.2) ++ x.2.take j) ++ [f] := by
    rw [List.take_add_one, hf, List.append_assoc]; rfl
   refine ⟨hnnf, hzf, hlt2, f.name, f.ty, hrowf, ?_⟩
   refine qBv.str1 Tryz.underlying251 Tryz.underlying9 zero4 hst'.2 ?_
   generalize hdone : (ls.take i).flatMap (·.2) ++ x.2.take j = done at hst' htj
   refine ⟨done.any fun y => decide (y.name = f.name), ?_, fun hs => ?_, fun hs => ?_⟩
   ·cases hs : done.any (fun y => decide (y.name = f.name)) with
    | true => simp
    | false => simp
   ·refine ⟨hxV.succ hlt2, hJ' hltf _ ?_⟩
    rw [htj]
    refine ⟨hst'.1.cg fun k => by rw [seen_old hs], hst'.2.congr fun k => ?_⟩
    rw [List.any_append]
    by_cases e : f.name = k
    ·subst e; rw [hs]; simp
    ·simp [e]
   ·refine ⟨by simp, some mb, qAg hst'.1.b7 1 1 (by simp), ?_⟩
    refine qGr.str Tryz.underlying163 Tryz.underlying9 hst'.1.map fun o ho => ?_
    have hsi := hst'.1.up ho
    refine qGr.str Tryz.underlying251 Tryz.underlying9 (hst'.2.set (o := o) (Ne.symm hne)) fun o2 ho2 => ?_
    refine ⟨hxV.succ hlt2, hJ' hltf _ ?_⟩
    rw [htj]
    have hsb6 : b6 ≠ sb := fun e => by have := h.b6; rw [e, hsb] at this; cases this
    have hsb7 : b7 ≠ sb := fun e => by have := h.b7; rw [e, hsb] at this; cases this
    have hsbx : bx ≠ sb := fun e => by have := h.bx; rw [e, hsb] at this; cases this
    refine ⟨?_, ho2.congr fun k => ?_⟩
    ·have h3 := hsi.cg (m' := fun k => (qBH (done ++ [f] ++ d.globals) k).map Value.string) fun k => by
      rw [seen_new hs]
      by_cases e : k = f.name
      ·rw [if_pos e, if_pos e]; rfl
      ·rw [if_neg e, if_neg e]
     exact ⟨h3.sub.set hsV _, h3.nm, h3.n6, h3.map.set hne, by rw [Mem.set_ne hsbx]; exact h3.bx, by rw [Mem.set_ne hsb6]; exact h3.b6, by rw [Mem.set_ne hsb7]; exact h3.b7⟩
    ·rw [List.any_append]
     by_cases e : k = f.name
     ·subst e; simp
     ·rw [if_neg e]; simp [Ne.symm e]
  ·obtain ⟨hd, hle⟩ := hxV.done hlt2
   refine ⟨hlV.succ hlt, hJ hlt' _ ?_⟩
   rw [htk]
   rw [List.take_of_length_le hle] at hst'
   exact hst'
 ·obtain ⟨hd, hle⟩ := hlV.done hlt
  rw [List.take_of_length_le hle] at hst
  have hcells := qAg hst.1.b7 0 3 (by simp)
  refine ⟨c, some mb, body, hcells, ⟨⟨b6, 0, none⟩, _, _, rfl, hst.1.b6, rfl, by simp, ?_⟩⟩
  have e7 : mb ≠ b6 := fun e => by
   obtain ⟨es, cl, hm, -, -⟩ := hst.1.map.at_
   have := hst.1.b6; rw [<- e, hm] at this; cases this
  exact ⟨_, rfl, rfl, hst.1.sub.set h.n6 _, h.nm, hst.1.map.set e7, by rw [Mem.set_same]; rfl⟩
end
theorem cell3 {b : Nat} {c : Option Addr} {mb : Option Nat} {body : Bool} {w : World} (h : w.heap[b]? = some (.cells #[.pointer c, .map mb, .bool body] 165 (0, 0))) : (loadVar 165 ⟨b, 0, none⟩).run Tryz.prog w = .ok (.agg #[.pointer c, .map mb, .bool body]) w :=
 qBL (P := Tryz.prog) (t := 165) (cs := .cons (.var .p 0) (.cons (.var .m 1) (.cons (.var .b 2) .nil))) (x := .agg (.cons (.var .p 0) (.cons (.var .m 1) (.cons (.var .b 2) .nil)))) (ρ := [.pointer c, .map mb, .bool body]) (β := id) (o := 0) h (by kernel_rfl)
theorem results113 {tmps : Array Value} {b : Nat} {c : Option Addr} {mb : Option Nat} {body : Bool} {w : World} (h6 : tmps.getD 6 undef = pv b) (h : w.heap[b]? = some (.cells #[.pointer c, .map mb, .bool body] 165 (0, 0))) :
  (results Tryz.f138 tmps).run Tryz.prog w = .ok (.agg #[.pointer c, .map mb, .bool body]) w := by
 have hr : Tryz.f138.results = #[.cell 6 165] := by kernel_rfl
 unfold results
 rw [hr]
 have e : asAddr (tmps.getD 6 undef) = pure ⟨b, 0, none⟩ := by rw [h6]; rfl
 simp only [List.mapM_toArray, List.mapM_cons, List.mapM_nil, Sem.run_bind, Sem.run_map, Sem.run_pure, Result.andThen_ok, e, cell3 h]
 rfl
theorem qEM {V V1 V2 V3 : Mem} {w w1 w2 w3 : World} {D : Nat} (h1 : Frm V w V1 w1) (h2 : Frm V1 w1 V2 w2) (hD : w1.heap.size <= D) (hn : V2 D = none) (hW : w2.heap[D]? = some (.deferred (some []))) (h3 : Frm V2 w2 V3 w3) :
  Frm V w V3 w3 /\ w.heap.size <= D /\ w3.heap[D]? = some (.deferred (some [])) /\ V3 D = none := by
 have hlt := (Array.getElem?_eq_some_iff.1 hW).1
 refine ⟨(h1.trans h2).trans h3, Nat.le_trans h1.size hD, (h3.old D hlt hn).trans hW, ?_⟩
 cases hc : V3 D with
 | none => rfl
 | some o =>
  rcases h3.dom D (by rw [hc]; simp) with h | h
  ·exact absurd hn h
  ·omega
theorem scopeC : qGs := by
 intro V c d body l ls hc hl hls
 refine qGa (c := qAl Tryz.f138) Tryz.func138 (by kernel_rfl) ?_
 intro w hV
 rw [show flat (qAl Tryz.f138) = c138a ++ ([.block 0 (.rangeFunc (.tmp 24) #[25, 26] ((qCy (qAl Tryz.f138) [3, 0, 0, 0]).getD 0 .skip) ((qCy (qAl Tryz.f138) [3, 0, 0, 1]).getD 0 .skip))] ++ (c138d ++ [.ret])) from by kernel_rfl]
 have hA : Seg Tryz.prog 63 c138a [(0, .pointer c), (1, .bool body), (2, .slice l.p l.n l.c)] [0, 1, 2, 6, 7, 24] V fun vs V1 => ∃ mb bx b6 b7,
   vs = [.pointer c, .bool body, .slice l.p l.n l.c, pv b6, pv b7, .func (.func 238) #[] #[pv bx]] /\ SI V c body d mb bx b6 b7 (fun _ => none) V1 := by
  refine s138a ?_
  unfold w138a
  refine qAo.makeMap fun mb hmb => ⟨some mb, rfl, hc.nn, hc.nn, ?_, d.gs, ?_, ?_⟩
  ·obtain ⟨cb, mt, mp, t, h1, h2, h3, h4⟩ := hc.at_
   rw [h1]; simp [qAa]
  ·exact (hc.sub (Mem.sub_new hmb _)).cell (i := 2) rfl
  refine Tri.mono c192 ?_
  rintro _ V2 ⟨bx, hbx, rfl, rfl⟩
  refine ⟨.func (.func 238) #[] #[pv bx], rfl, rfl, fun b6 hb6 b7 hb7 => ⟨_, rfl, mb, bx, b6, b7, rfl, ?_⟩⟩
  have n1 : bx ≠ mb := fun e => by rw [e, Mem.set_same] at hbx; cases hbx
  have n2 : b6 ≠ bx := fun e => by rw [e, Mem.set_same] at hb6; cases hb6
  have n3 : b7 ≠ b6 := fun e => by rw [e, Mem.set_same] at hb7; cases hb7
  have s1 := Mem.sub_new hmb (.map #[] 0)
  have s2 := Mem.sub_new hbx (cell (.slice d.gs.p d.gs.n d.gs.c) 23)
  have s3 := Mem.sub_new hb6 (.cells #[.pointer none, .map none, .bool false] 165 (0, 0))
  have s4 := Mem.sub_new hb7 (.cells #[.pointer c, .map (some mb), .bool body] 165 (0, 0))
  refine ⟨s1.trans (s2.trans (s3.trans s4)), hmb, ?_, (qBe.made V mb).sub (s2.trans (s3.trans s4)), (s3.trans s4) _ _ mss, s4 _ _ mss, Mem.set_same _ _ _⟩
  cases hv : V b6 with
  | none => rfl
  | some o => have := (s1.trans s2) _ _ hv; rw [hb6] at this; cases this
 refine hA.step hV (qGI (args := [.pointer c, .bool body, .slice l.p l.n l.c]) (N := 63) (by simp)) ?_
 rintro a1 w1 vs V1 hd1 hH1 ⟨mb, bx, b6, b7, rfl, hS1⟩ hF1
 show Code.wpIn (qAs none) 0 Tryz.prog _ _ a1 w1
 refine wpIn_block ?_
 have hit := fun fn lp D hlp => it238 (V := V1) (fn' := fn) (tmps := a1.tmps) (ps := #[25, 26]) (assign := (qCy (qAl Tryz.f138) [3, 0, 0, 0]).getD 0 .skip) (body := (qCy (qAl Tryz.f138) [3, 0, 0, 1]).getD 0 .skip) (D := D) (l := lp) (bx := bx) (s := d.gs) (xs := d.globals)
  (J := fun i V2 => SI V c body d mb bx b6 b7 (fun k => (qBH (d.globals.drop (d.globals.length - i)) k).map Value.string) V2) rfl (fun i V2 hj _ => ⟨hj.bx, hc.ok.globals.sub hj.sub⟩) (fun k x hx V2 hj hl2 w2 hw2 => by
   have hk := (List.getElem?_eq_some_iff.1 hx).1
   refine qFI (N := 63) (insA := [(7, pv b7), (26, Fld.v x)]) (outsA := [7, 9]) hl2 hw2 (by rw [qJg]; simpa using hH1.1) ?_ (scopeAssign x) (fun vs V3 hvs => ?_)
   ·intro s v hs
    rw [qJg]
    simp only [List.lookup_cons] at hs
    split at hs
    ·rename_i e; simp only [beq_iff_eq] at e; subst e; cases hs
     rw [qGJ (by decide), qGJ (by decide)]; exact hH1.get rfl
    ·split at hs
     ·rename_i e; simp only [beq_iff_eq] at e; subst e; cases hs
      exact getD_same (by simp [hH1.1])
     ·cases hs
   ·obtain ⟨b, hb, e2, rfl⟩ := hvs
    refine (scopeRound (l := l) hj x V3 b hb e2).mono fun _ V4 h4 => h4.cg fun y => ?_
    rw [show d.globals.length - (d.globals.length - 1 - k) = k + 1 by omega, show d.globals.length - (d.globals.length - k) = k by omega]
    have e3 : d.globals.drop k = x :: d.globals.drop (k + 1) := by
     rw [List.drop_eq_getElem_cons hk]; rw [(List.getElem?_eq_some_iff.1 hx).2]
    rw [e3, qFF]
    by_cases e : y = x.name
    ·rw [if_pos e, if_pos e]; rfl
    ·rw [if_neg e, if_neg e])
  (by simpa [qBH] using hS1) hlp
 refine qFM (Φ := fun V2 => SI V c body d mb bx b6 b7 (fun k => (qBH d.globals k).map Value.string) V2) hF1.le (hH1.get (s := 24) rfl) Tryz.call238 (fun fn lp D hlp => Tri.mono (hit fn lp D hlp) fun e V' h => ?_) ?_
 ·obtain ⟨h1, V2, h2, h3, h4⟩ := h
  exact ⟨h1, V2, h2, h3, by simpa using h4⟩
 ·intro D V2 W hD hF2 hn2 hW hS2
  show wpL none 0 Tryz.prog _ (c138d ++ [.ret]) _ W
  refine (scopeTail hS2 hl hls).step hF2.le ⟨hH1.1, fun s v hs => hH1.2 s v ?_⟩ ?_
  ·simp only [List.zip_cons_cons, List.lookup_cons] at hs ⊢
   repeat' (split at hs <;> first | exact hs | skip)
   all_goals first | exact hs | (cases hs)
  ·rintro a3 w3 vs V3 hd3 hH3 ⟨rfl, h1, h2, h3, h4⟩ hF3
   show Code.wpIn (qAs none) 0 Tryz.prog .ret _ a3 w3
   refine wpIn_ret ?_
   obtain ⟨g1, g2, g3, g4⟩ := qEM hF1 hF2 hD hn2 hW hF3
   refine ⟨.inr rfl, [D], ?_, by simp, V3, g1, fun D' hD' => ?_, _, fun w4 hw4 => results113 (hH3.get rfl) (hw4 _ _ h4), mb, rfl, h1, h2, h3⟩
   ·rw [hd3]; simp [hd1]
   ·simp only [List.mem_singleton] at hD'; subst hD'; exact ⟨g2, g3, g4⟩
end Go.Proofs
