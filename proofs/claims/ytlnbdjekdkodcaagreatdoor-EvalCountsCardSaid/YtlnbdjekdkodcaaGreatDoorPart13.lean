/- Part 13 of a proof of a law of this seat: no statement of the seat is proved here. -/
import Derived.Test.YtlnbdjekdkodcaaGreatDoorPart05
import Derived.Test.YtlnbdjekdkodcaaGreatDoorPart12
import Derived.Test.YtlnbdjekdkodcaaGreatDoorPart10
import Derived.Test.YtlnbdjekdkodcaaGreatDoorPart11
set_option linter.unusedVariables false
set_option linter.unusedSimpArgs false
namespace Go.Proofs
open Go Go.Sx
set_option maxRecDepth 100000
set_option linter.unusedVariables false
section
variable {V : Mem} {R : RP}
theorem qBd {H : qFi} {N : Nat} {cs : List Code} (slots : List (Nat × T)) {outs : List Nat} (ρ : List Value) {ins : List (Nat × Value)} (hins : ins = slots.map fun x => (x.1, x.2.ev ρ id)) {V : Mem} {R : List Value -> Mem -> Prop} {q : Prop}
  (hq : q = DT Tryz.prog {} (OV R) (segT Tryz.prog fs { H with N := N } cs slots ρ.length outs) [] ρ V) (h : q) : Seg Tryz.prog N cs ins outs V R :=
 seg_sound (H := H) qFV qIi rfl ρ rfl hins hq h
theorem qDn {H : qFi} {N : Nat} {ops : Array Oper} {k m : Nat} (slots : List (Nat × T)) {outs : List Nat} (ρ : List Value) {ins : List (Nat × Value)} (hins : ins = slots.map fun x => (x.1, x.2.ev ρ id)) {V : Mem} {R : List Value -> Mem -> Prop} {q : Prop}
  (hq : q = DT Tryz.prog {} (OV R) (segOT Tryz.prog fs { H with N := N } ops k m slots ρ.length outs) [] ρ V) (h : q) : SegO Tryz.prog N ops k m ins outs V R :=
 sego_sound (H := H) qFV rfl ρ rfl hins hq h
noncomputable def c260a : List Code := ((qBX (qAj Tryz.f260) []).drop 0).take 1
def w260a (a : Value) (b : Option Addr) : MR := fun V R => ∃ c, V.rowp b ((0 : Int).toNat * 1) 1 = some [uL c] /\ IR ((c.n : Int) - 1) /\ R (rT #[K.cast .f a, uP b, uI ((c.n : Int) - 1)]) V
theorem s260a {a : Value} {b : Option Addr} {V : Mem} {R : List Value -> Mem -> Prop} (h : w260a a b V (OV R)) : Seg Tryz.prog 19 c260a [(0, K.cast .f a), (1, uP b)] [0, 1, 3] V R :=
 qBd (H := hK 19) [(0, (.var .f 0)), (1, (.var .p 1))] [a, uP b] rfl (by kernel_rfl) h
noncomputable def c260b : List Code := ((qBX (qAj Tryz.f260) [1, 0, 0, 0]).drop 0).take 1
def w260b (a : Value) (b : Option Addr) (c : Int) : MR := fun V R => R (rT #[K.cast .f a, uP b, uI c, uB (decide (0 <= c))]) V
theorem s260b {a : Value} {b : Option Addr} {c : Int} {V : Mem} {R : List Value -> Mem -> Prop} (h : w260b a b c V (OV R)) : Seg Tryz.prog 19 c260b [(0, K.cast .f a), (1, uP b), (3, uI c)] [0, 1, 3, 8] V R :=
 qBd (H := hK 19) [(0, (.var .f 0)), (1, (.var .p 1)), (3, (.var (.i .i64) 2))] [a, uP b, uI c] rfl (by kernel_rfl) h
noncomputable def c260c : Array Oper := qDW ((qBX (qAj Tryz.f260) [1, 0, 0, 0, 2, 0]).getD 0 .skip)
def w260c (a : Value) (b : Option Addr) (c : Int) : MR := fun V R => ∃ d, V.rowp b ((0 : Int).toNat * 1) 1 = some [uL d] /\ Ix d c (∃ g i, V.rowp d.p (c.toNat * 2) 2 = some [uS g, uS i] /\ R (rT #[K.cast .f a, uP b, uI c, K.cast .f a, uI c, uA #[uS g, uS i]]) V)
theorem s260c {a : Value} {b : Option Addr} {c : Int} {V : Mem} {R : List Value -> Mem -> Prop} (h : w260c a b c V (OV R)) : SegO Tryz.prog 19 c260c 0 6 [(0, K.cast .f a), (1, uP b), (3, uI c)] [0, 1, 3, 11, 12, 16] V R :=
 qDn (H := hK 19) [(0, (.var .f 0)), (1, (.var .p 1)), (3, (.var (.i .i64) 2))] [a, uP b, uI c] rfl (by kernel_rfl) h
noncomputable def c260d : Array Oper := qDW ((qBX (qAj Tryz.f260) [1, 0, 0, 0, 2, 0]).getD 0 .skip)
def w260d (a : Value) (b : Option Addr) (c : Int) (d : Bool) : MR := fun V R => R (rT #[K.cast .f a, uP b, uI c, uB (!d)]) V
theorem s260d {a : Value} {b : Option Addr} {c : Int} {d : Bool} {V : Mem} {R : List Value -> Mem -> Prop} (h : w260d a b c d V (OV R)) : SegO Tryz.prog 19 c260d 7 1 [(0, K.cast .f a), (1, uP b), (3, uI c), (17, uB d)] [0, 1, 3, 18] V R :=
 qDn (H := hK 19) [(0, (.var .f 0)), (1, (.var .p 1)), (3, (.var (.i .i64) 2)), (17, (.var .b 3))] [a, uP b, uI c, uB d] rfl (by kernel_rfl) h
noncomputable def c260e : List Code := ((qBX (qAj Tryz.f260) [1, 0, 0, 0]).drop 3).take 1
def w260e (a : Value) (b : Option Addr) (c : Int) : MR := fun V R => IR (c - 1) /\ R (rT #[K.cast .f a, uP b, uI (c - 1)]) V
theorem s260e {a : Value} {b : Option Addr} {c : Int} {V : Mem} {R : List Value -> Mem -> Prop} (h : w260e a b c V (OV R)) : Seg Tryz.prog 19 c260e [(0, K.cast .f a), (1, uP b), (3, uI c)] [0, 1, 3] V R :=
 qBd (H := hK 19) [(0, (.var .f 0)), (1, (.var .p 1)), (3, (.var (.i .i64) 2))] [a, uP b, uI c] rfl (by kernel_rfl) h
noncomputable def c164a : List Code := ((qBX (qAj Tryz.f164) []).drop 0).take 1
def w164a (a : Value) (b : Option Addr) : MR := fun V R => ∃ c, V.rowp b ((0 : Int).toNat * 1) 1 = some [uL c] /\ IR ((c.n : Int) - 1) /\ R (rT #[K.cast .f a, uP b, uI ((c.n : Int) - 1)]) V
theorem s164a {a : Value} {b : Option Addr} {V : Mem} {R : List Value -> Mem -> Prop} (h : w164a a b V (OV R)) : Seg Tryz.prog 19 c164a [(0, K.cast .f a), (1, uP b)] [0, 1, 3] V R :=
 qBd (H := hK 19) [(0, (.var .f 0)), (1, (.var .p 1))] [a, uP b] rfl (by kernel_rfl) h
noncomputable def c164b : List Code := ((qBX (qAj Tryz.f164) [1, 0, 0, 0]).drop 0).take 1
def w164b (a : Value) (b : Option Addr) (c : Int) : MR := fun V R => R (rT #[K.cast .f a, uP b, uI c, uB (decide (0 <= c))]) V
theorem s164b {a : Value} {b : Option Addr} {c : Int} {V : Mem} {R : List Value -> Mem -> Prop} (h : w164b a b c V (OV R)) : Seg Tryz.prog 19 c164b [(0, K.cast .f a), (1, uP b), (3, uI c)] [0, 1, 3, 8] V R :=
 qBd (H := hK 19) [(0, (.var .f 0)), (1, (.var .p 1)), (3, (.var (.i .i64) 2))] [a, uP b, uI c] rfl (by kernel_rfl) h
noncomputable def c164c : Array Oper := qDW ((qBX (qAj Tryz.f164) [1, 0, 0, 0, 2, 0]).getD 0 .skip)
def w164c (a : Value) (b : Option Addr) (c : Int) : MR := fun V R => ∃ d, V.rowp b ((0 : Int).toNat * 1) 1 = some [uL d] /\ Ix d c (∃ g i, V.rowp d.p (c.toNat * 2) 2 = some [uS g, uL i] /\ R (rT #[K.cast .f a, uP b, uI c, K.cast .f a, uI c, uA #[uS g, uL i]]) V)
theorem s164c {a : Value} {b : Option Addr} {c : Int} {V : Mem} {R : List Value -> Mem -> Prop} (h : w164c a b c V (OV R)) : SegO Tryz.prog 19 c164c 0 6 [(0, K.cast .f a), (1, uP b), (3, uI c)] [0, 1, 3, 11, 12, 16] V R :=
 qDn (H := hK 19) [(0, (.var .f 0)), (1, (.var .p 1)), (3, (.var (.i .i64) 2))] [a, uP b, uI c] rfl (by kernel_rfl) h
noncomputable def c164d : Array Oper := qDW ((qBX (qAj Tryz.f164) [1, 0, 0, 0, 2, 0]).getD 0 .skip)
def w164d (a : Value) (b : Option Addr) (c : Int) (d : Bool) : MR := fun V R => R (rT #[K.cast .f a, uP b, uI c, uB (!d)]) V
theorem s164d {a : Value} {b : Option Addr} {c : Int} {d : Bool} {V : Mem} {R : List Value -> Mem -> Prop} (h : w164d a b c d V (OV R)) : SegO Tryz.prog 19 c164d 7 1 [(0, K.cast .f a), (1, uP b), (3, uI c), (17, uB d)] [0, 1, 3, 18] V R :=
 qDn (H := hK 19) [(0, (.var .f 0)), (1, (.var .p 1)), (3, (.var (.i .i64) 2)), (17, (.var .b 3))] [a, uP b, uI c, uB d] rfl (by kernel_rfl) h
noncomputable def c164e : List Code := ((qBX (qAj Tryz.f164) [1, 0, 0, 0]).drop 3).take 1
def w164e (a : Value) (b : Option Addr) (c : Int) : MR := fun V R => IR (c - 1) /\ R (rT #[K.cast .f a, uP b, uI (c - 1)]) V
theorem s164e {a : Value} {b : Option Addr} {c : Int} {V : Mem} {R : List Value -> Mem -> Prop} (h : w164e a b c V (OV R)) : Seg Tryz.prog 19 c164e [(0, K.cast .f a), (1, uP b), (3, uI c)] [0, 1, 3] V R :=
 qBd (H := hK 19) [(0, (.var .f 0)), (1, (.var .p 1)), (3, (.var (.i .i64) 2))] [a, uP b, uI c] rfl (by kernel_rfl) h
noncomputable def c165a : List Code := ((qBX (qAj Tryz.f165) []).drop 0).take 1
def w165a (a : Value) (b : Option Addr) : MR := fun V R => ∃ c, V.rowp b ((0 : Int).toNat * 1) 1 = some [uL c] /\ IR ((c.n : Int) - 1) /\ R (rT #[K.cast .f a, uP b, uI ((c.n : Int) - 1)]) V
theorem s165a {a : Value} {b : Option Addr} {V : Mem} {R : List Value -> Mem -> Prop} (h : w165a a b V (OV R)) : Seg Tryz.prog 19 c165a [(0, K.cast .f a), (1, uP b)] [0, 1, 3] V R :=
 qBd (H := hK 19) [(0, (.var .f 0)), (1, (.var .p 1))] [a, uP b] rfl (by kernel_rfl) h
noncomputable def c165b : List Code := ((qBX (qAj Tryz.f165) [1, 0, 0, 0]).drop 0).take 1
def w165b (a : Value) (b : Option Addr) (c : Int) : MR := fun V R => R (rT #[K.cast .f a, uP b, uI c, uB (decide (0 <= c))]) V
theorem s165b {a : Value} {b : Option Addr} {c : Int} {V : Mem} {R : List Value -> Mem -> Prop} (h : w165b a b c V (OV R)) : Seg Tryz.prog 19 c165b [(0, K.cast .f a), (1, uP b), (3, uI c)] [0, 1, 3, 8] V R :=
 qBd (H := hK 19) [(0, (.var .f 0)), (1, (.var .p 1)), (3, (.var (.i .i64) 2))] [a, uP b, uI c] rfl (by kernel_rfl) h
noncomputable def c165c : Array Oper := qDW ((qBX (qAj Tryz.f165) [1, 0, 0, 0, 2, 0]).getD 0 .skip)
def w165c (a : Value) (b : Option Addr) (c : Int) : MR := fun V R => ∃ d, V.rowp b ((0 : Int).toNat * 1) 1 = some [uL d] /\ Ix d c (∃ g i j k l, V.rowp d.p (c.toNat * 5) 5 = some [uS g, uL i, uS j, uL k, uL l] /\ R (rT #[K.cast .f a, uP b, uI c, K.cast .f a, uI c, uA #[uS g, uL i, uS j, uL k, uL l]]) V)
theorem s165c {a : Value} {b : Option Addr} {c : Int} {V : Mem} {R : List Value -> Mem -> Prop} (h : w165c a b c V (OV R)) : SegO Tryz.prog 19 c165c 0 6 [(0, K.cast .f a), (1, uP b), (3, uI c)] [0, 1, 3, 11, 12, 16] V R :=
 qDn (H := hK 19) [(0, (.var .f 0)), (1, (.var .p 1)), (3, (.var (.i .i64) 2))] [a, uP b, uI c] rfl (by kernel_rfl) h
noncomputable def c165d : Array Oper := qDW ((qBX (qAj Tryz.f165) [1, 0, 0, 0, 2, 0]).getD 0 .skip)
def w165d (a : Value) (b : Option Addr) (c : Int) (d : Bool) : MR := fun V R => R (rT #[K.cast .f a, uP b, uI c, uB (!d)]) V
theorem s165d {a : Value} {b : Option Addr} {c : Int} {d : Bool} {V : Mem} {R : List Value -> Mem -> Prop} (h : w165d a b c d V (OV R)) : SegO Tryz.prog 19 c165d 7 1 [(0, K.cast .f a), (1, uP b), (3, uI c), (17, uB d)] [0, 1, 3, 18] V R :=
 qDn (H := hK 19) [(0, (.var .f 0)), (1, (.var .p 1)), (3, (.var (.i .i64) 2)), (17, (.var .b 3))] [a, uP b, uI c, uB d] rfl (by kernel_rfl) h
noncomputable def c165e : List Code := ((qBX (qAj Tryz.f165) [1, 0, 0, 0]).drop 3).take 1
def w165e (a : Value) (b : Option Addr) (c : Int) : MR := fun V R => IR (c - 1) /\ R (rT #[K.cast .f a, uP b, uI (c - 1)]) V
theorem s165e {a : Value} {b : Option Addr} {c : Int} {V : Mem} {R : List Value -> Mem -> Prop} (h : w165e a b c V (OV R)) : Seg Tryz.prog 19 c165e [(0, K.cast .f a), (1, uP b), (3, uI c)] [0, 1, 3] V R :=
 qBd (H := hK 19) [(0, (.var .f 0)), (1, (.var .p 1)), (3, (.var (.i .i64) 2))] [a, uP b, uI c] rfl (by kernel_rfl) h
noncomputable def c227a : List Code := ((qBX (qAj Tryz.f227) []).drop 0).take 3
def w227a (a : Option Addr) (b : Bool) (c : Sl) : MR := fun V R => GenK Tryz.prog (.makeMap 252 none) 252 (gv []) V fun x V1 => ∃ d, x = uM d /\ ¬ a = none /\ ¬ a = none /\ ¬ (qAb a 0) = none /\ ∃ g, V1.rowp a 2 1 = some [uL g] /\ TT 250 #[uL g] V1 fun e V2 => ∃ i, K.f.ok i /\ e = rV i /\ qAB [uP none, uM none, uB false] 254 V2 fun j V3 => qAB [uP a, uM d, uB b] 254 V3 fun k V4 => R (rT #[uP a, uB b, uL c, uP (qAb j 0), uP (qAb k 0), K.cast .f i]) V4
theorem s227a {a : Option Addr} {b : Bool} {c : Sl} {V : Mem} {R : List Value -> Mem -> Prop} (h : w227a a b c V (OV R)) : Seg Tryz.prog 63 c227a [(0, uP a), (1, uB b), (2, uL c)] [0, 1, 2, 6, 7, 24] V R :=
 qBd (H := hK 63) [(0, (.var .p 0)), (1, (.var .b 1)), (2, (.var .sl 2))] [uP a, uB b, uL c] rfl (by kernel_rfl) h
noncomputable def c227b : List Code := ((qBX (qAj Tryz.f227) [3, 0, 0, 0]).drop 0).take 1
def w227b (a : Option Addr) (b c : ByteArray) : MR := fun V R => qAB [uS b, uS c] 81 V fun d V1 => R (rT #[uP a, uP (qAb d 0)]) V1
theorem s227b {a : Option Addr} {b c : ByteArray} {V : Mem} {R : List Value -> Mem -> Prop} (h : w227b a b c V (OV R)) : Seg Tryz.prog 63 c227b [(7, uP a), (26, uA #[uS b, uS c])] [7, 9] V R :=
 qBd (H := hK 63) [(7, (.var .p 0)), (26, (.agg (.cons (.var .s 1) (.cons (.var .s 2) .nil))))] [uP a, uS b, uS c] rfl (by kernel_rfl) h
noncomputable def c227c : List Code := ((qBX (qAj Tryz.f227) [3, 0, 0, 1]).drop 0).take 1
def w227c (a b : Option Addr) : MR := fun V R => ¬ a = none /\ ∃ c, V.rowp a 1 1 = some [uM c] /\ ¬ b = none /\ ∃ d, V.rowp b ((0 : Int).toNat * 1) 1 = some [uS d] /\ ¬ b = none /\ ∃ g, V.rowp b 1 1 = some [uS g] /\ UpdK Tryz.prog 252 (uM c) (uS d) (uS g) V fun V1 => R (rT #[]) V1
theorem s227c {a b : Option Addr} {V : Mem} {R : List Value -> Mem -> Prop} (h : w227c a b V (OV R)) : Seg Tryz.prog 63 c227c [(7, uP a), (9, uP b)] [] V R :=
 qBd (H := hK 63) [(7, (.var .p 0)), (9, (.var .p 1))] [uP a, uP b] rfl (by kernel_rfl) h
noncomputable def c227d : List Code := ((qBX (qAj Tryz.f227) []).drop 4).take 4
def w227d (a : Option Addr) (b : Bool) (c : Sl) (d g : Option Addr) : MR := fun V R => GenK Tryz.prog (.makeMap 307 none) 307 (gv []) V fun x V1 => ∃ i, x = uM i /\ Lp [uI 0] V1 fun I n V2 => ∀ j, I n [uI j] V2 -> ∀ J0 : LMP, Nx I n J0 -> Br (j < (c.n : Int)) (Ix c j (∃ k, V2.rowp c.p (j.toNat * 1) 1 = some [uL k] /\ Lp [uI 0] V2 fun I n V3 => ∀ l, I n [uI l] V3 -> ∀ J1 : LMP, Nx I n J1 -> Br (l < (k.n : Int)) (Ix k l (∃ o p, V3.rowp k.p (l.toNat * 2) 2 = some [uS o, uS p] /\ qBN Tryz.prog 307 (uM i) (uS o) false V3 fun x => ∃ q, x = uB q /\ Br (q = true) (IR (l + 1) /\ J1 [uI (l + 1)] V3) (¬ g = none /\ ∃ r, V3.rowp g 1 1 = some [uM r] /\ UpdK Tryz.prog 252 (uM r) (uS o) (uS p) V3 fun V4 => UpdK Tryz.prog 307 (uM i) (uS o) (.bool true) V4 fun V5 => IR (l + 1) /\ J1 [uI (l + 1)] V5))) (IR (j + 1) /\ J0 [uI (j + 1)] V3))) (∃ k l o, V2.rowp g ((0 : Int).toNat * 1) 3 = some [uP k, uM l, uB o] /\ StT d 0 [uP k, uM l, uB o] V2 fun V3 => R (rT #[uP d]) V3)
theorem s227d {a : Option Addr} {b : Bool} {c : Sl} {d g : Option Addr} {V : Mem} {R : List Value -> Mem -> Prop} (h : w227d a b c d g V (OV R)) : Seg Tryz.prog 63 c227d [(0, uP a), (1, uB b), (2, uL c), (6, uP d), (7, uP g)] [6] V R :=
 qBd (H := hK 63) [(0, (.var .p 0)), (1, (.var .b 1)), (2, (.var .sl 2)), (6, (.var .p 3)), (7, (.var .p 4))] [uP a, uB b, uL c, uP d, uP g] rfl (by kernel_rfl) h
noncomputable def c95a : List Code := ((qBX (qAj Tryz.f95) []).drop 0).take 3
def w95a (a : ByteArray) (b c d g i j k : Sl) : MR := fun V R => GenK Tryz.prog (.makeMap 202 none) 202 (gv []) V fun x V1 => ∃ l, x = uM l /\ GenK Tryz.prog (.makeMap 203 none) 203 (gv []) V1 fun x V2 => ∃ o, x = uM o /\ TT 129 #[uL b] V2 fun e V3 => ∃ p, K.f.ok p /\ e = rV p /\ qAB [uS a, uL b, uL c, uL d, uL g, uL i, uL j, uL k] 30 V3 fun q V4 => qAB [uS a, uL b, uL c, uL d, uL g, uL i, uL j, uL k, uM l, uM o] 205 V4 fun r V5 => qAB [uP (qAb r 0)] 171 V5 fun s V6 => R (rT #[uP (qAb q 0), uP (qAb s 0), K.cast .f p]) V6
theorem s95a {a : ByteArray} {b c d g i j k : Sl} {V : Mem} {R : List Value -> Mem -> Prop} (h : w95a a b c d g i j k V (OV R)) : Seg Tryz.prog 38 c95a [(0, uD a b c d g i j k)] [1, 3, 15] V R :=
 qBd (H := hK 38) [(0, (.agg (.cons (.var .s 0) (.cons (.var .sl 1) (.cons (.var .sl 2) (.cons (.var .sl 3) (.cons (.var .sl 4) (.cons (.var .sl 5) (.cons (.var .sl 6) (.cons (.var .sl 7) .nil))))))))))] [uS a, uL b, uL c, uL d, uL g, uL i, uL j, uL k] rfl (by kernel_rfl) h
noncomputable def c95b : List Code := ((qBX (qAj Tryz.f95) [3, 0, 0, 0]).drop 0).take 1
def w95b (a : Option Addr) (b : ByteArray) (c : Sl) : MR := fun V R => qAB [uS b, uL c] 119 V fun d V1 => R (rT #[uP a, uP (qAb d 0)]) V1
theorem s95b {a : Option Addr} {b : ByteArray} {c : Sl} {V : Mem} {R : List Value -> Mem -> Prop} (h : w95b a b c V (OV R)) : Seg Tryz.prog 38 c95b [(3, uP a), (17, uA #[uS b, uL c])] [3, 5] V R :=
 qBd (H := hK 38) [(3, (.var .p 0)), (17, (.agg (.cons (.var .s 1) (.cons (.var .sl 2) .nil))))] [uP a, uS b, uL c] rfl (by kernel_rfl) h
noncomputable def c95c : List Code := ((qBX (qAj Tryz.f95) [3, 0, 0, 1]).drop 0).take 1
def w95c (a b : Option Addr) : MR := fun V R => ∃ c, V.rowp a ((0 : Int).toNat * 1) 1 = some [uP c] /\ ¬ c = none /\ ¬ c = none /\ ∃ d, V.rowp c 8 1 = some [uM d] /\ ¬ b = none /\ ∃ g, V.rowp b ((0 : Int).toNat * 1) 1 = some [uS g] /\ ∃ i j, V.rowp b ((0 : Int).toNat * 1) 2 = some [uS i, uL j] /\ UpdK Tryz.prog 202 (uM d) (uS g) (uA #[uS i, uL j]) V fun V1 => R (rT #[]) V1
theorem s95c {a b : Option Addr} {V : Mem} {R : List Value -> Mem -> Prop} (h : w95c a b V (OV R)) : Seg Tryz.prog 38 c95c [(3, uP a), (5, uP b)] [] V R :=
 qBd (H := hK 38) [(3, (.var .p 0)), (5, (.var .p 1))] [uP a, uP b] rfl (by kernel_rfl) h
noncomputable def c95d : List Code := ((qBX (qAj Tryz.f95) []).drop 4).take 1
def w95d (a b : Option Addr) : MR := fun V R => ¬ a = none /\ ∃ c, V.rowp a 3 1 = some [uL c] /\ TT 130 #[uL c] V fun e V1 => ∃ d, K.f.ok d /\ e = rV d /\ R (rT #[uP b, K.cast .f d]) V1
theorem s95d {a b : Option Addr} {V : Mem} {R : List Value -> Mem -> Prop} (h : w95d a b V (OV R)) : Seg Tryz.prog 38 c95d [(1, uP a), (3, uP b)] [3, 27] V R :=
 qBd (H := hK 38) [(1, (.var .p 0)), (3, (.var .p 1))] [uP a, uP b] rfl (by kernel_rfl) h
noncomputable def c95e : List Code := ((qBX (qAj Tryz.f95) [5, 0, 0, 0]).drop 0).take 1
def w95e (a : Option Addr) (b : ByteArray) (c : Sl) (d : ByteArray) (g i : Sl) : MR := fun V R => qAB [uS b, uL c, uS d, uL g, uL i] 79 V fun j V1 => R (rT #[uP a, uP (qAb j 0)]) V1
theorem s95e {a : Option Addr} {b : ByteArray} {c : Sl} {d : ByteArray} {g i : Sl} {V : Mem} {R : List Value -> Mem -> Prop} (h : w95e a b c d g i V (OV R)) : Seg Tryz.prog 38 c95e [(3, uP a), (29, uA #[uS b, uL c, uS d, uL g, uL i])] [3, 7] V R :=
 qBd (H := hK 38) [(3, (.var .p 0)), (29, (.agg (.cons (.var .s 1) (.cons (.var .sl 2) (.cons (.var .s 3) (.cons (.var .sl 4) (.cons (.var .sl 5) .nil)))))))] [uP a, uS b, uL c, uS d, uL g, uL i] rfl (by kernel_rfl) h
noncomputable def c95f : List Code := ((qBX (qAj Tryz.f95) [5, 0, 0, 1]).drop 0).take 1
def w95f (a b : Option Addr) : MR := fun V R => ∃ c, V.rowp a ((0 : Int).toNat * 1) 1 = some [uP c] /\ ¬ c = none /\ ¬ c = none /\ ∃ d, V.rowp c 9 1 = some [uM d] /\ ¬ b = none /\ ∃ g, V.rowp b ((0 : Int).toNat * 1) 1 = some [uS g] /\ ∃ i j k l o, V.rowp b ((0 : Int).toNat * 1) 5 = some [uS i, uL j, uS k, uL l, uL o] /\ UpdK Tryz.prog 203 (uM d) (uS g) (uA #[uS i, uL j, uS k, uL l, uL o]) V fun V1 => R (rT #[]) V1
theorem s95f {a b : Option Addr} {V : Mem} {R : List Value -> Mem -> Prop} (h : w95f a b V (OV R)) : Seg Tryz.prog 38 c95f [(3, uP a), (7, uP b)] [] V R :=
 qBd (H := hK 38) [(3, (.var .p 0)), (7, (.var .p 1))] [uP a, uP b] rfl (by kernel_rfl) h
noncomputable def c95g : List Code := ((qBX (qAj Tryz.f95) []).drop 6).take 1
def w95g (a : Option Addr) : MR := fun V R => ∃ b, V.rowp a ((0 : Int).toNat * 1) 1 = some [uP b] /\ R (rT #[uP b]) V
theorem s95g {a : Option Addr} {V : Mem} {R : List Value -> Mem -> Prop} (h : w95g a V (OV R)) : Seg Tryz.prog 38 c95g [(3, uP a)] [2] V R :=
 qBd (H := hK 38) [(3, (.var .p 0))] [uP a] rfl (by kernel_rfl) h
end
end Go.Proofs
namespace Go.Sx
open Go
section
variable {P : Program}
def Has (N : Nat) (a : Act) (l : List (Nat × Value)) : Prop := a.tmps.size = N /\ ∀ s v, l.lookup s = some v -> a.tmps.getD s undef = v
theorem Seg.step {r : Option Nat} {n N : Nat} {Q : Exit -> Act -> World -> Prop} {cs rest : List Code} {ins : List (Nat × Value)} {outs : List Nat} {V : Mem} {R : List Value -> Mem -> Prop} {a : Act} {w : World} (h : Seg P N cs ins outs V R) (hV : V.le w) (ha : Has N a ins)
  (k : ∀ a' w' vs V', a'.defers = a.defers -> Has N a' (outs.zip vs) -> R vs V' -> Frm V w V' w' -> wpL r n P Q rest a' w') : wpL r n P Q (cs ++ rest) a w := by
 refine qHp (qCc ?_ (h r n a w hV ha.1 ha.2))
 rintro e a' w' ⟨rfl, h1, h2, vs, V', h3, h4, h5⟩
 exact k a' w' vs V' h1 ⟨h2, h3⟩ h4 h5
theorem SegO.step {r : Option Nat} {n N k m : Nat} {Q : Exit -> Act -> World -> Prop} {ops : Array Oper} {rest : List Nat} {ins : List (Nat × Value)} {outs : List Nat} {V : Mem} {R : List Value -> Mem -> Prop} {a : Act} {w : World} (h : SegO P N ops k m ins outs V R) (hV : V.le w) (ha : Has N a ins)
  (go : ∀ a' w' vs V', a'.defers = a.defers -> Has N a' (outs.zip vs) -> R vs V' -> Frm V w V' w' -> wpOpsIn (qAw r) n P ops Q rest a' w') : wpOpsIn (qAw r) n P ops Q (List.range' k m ++ rest) a w := by
 refine qHd (fun c a w he => by cases he.1) (fun ⟨_, _, he⟩ => by cases he.1) ?_ (h r n a w hV ha.1 ha.2)
 rintro a' w' ⟨_, h1, h2, vs, V', h3, h4, h5⟩
 exact go a' w' vs V' h1 ⟨h2, h3⟩ h4 h5
theorem yield_op {ops : Array Oper} {i : Nat} {o : Oper} {c : Call} {fv : Operand} {l : Nat} {rec : Loop} {args : Array Value} {rest : List Nat} {Q : Exit -> Act -> World -> Prop} {a : Act} {w : World} (ho : ops[i]? = some o) (hg : o.guard = none) (hop : o.op = .call c) (hc : c.callee = .value fv)
  (hf : a.eval fv = .func (.yield l) #[] #[]) (hargs : c.args.map a.eval = args) (hl : w.heap[l]? = some (.loop rec)) (hs : args.size = rec.params.size)
  (hR : RoundIn (qAw none) 0 P l rec.fn ((rec.params.zip args).foldl (fun t (p, v) => t.setIfInBounds p v) rec.tmps) rec.assign rec.body w fun e w' => ∃ v, e = .returned v /\ wpOpsIn (qAw none) 0 P ops Q rest (a.put o.dst v) w') :
  wpOpsIn (qAw none) 0 P ops Q (i :: rest) a w := by
 rw [wpOpsIn_cons]
 unfold wpOpIn
 simp only [ho]
 rw [if_pos (by simp [Region.wanted, hg])]
 refine ⟨fun _ _ => trivial, ?_⟩
 rw [Oper.semAt_eq _ _ _ (fun d => by rw [hop]; intro h; cases h)]
 have hrun : (execOp a.eval o).run P w = .ok (.round l rec.fn ((rec.params.zip args).foldl (fun t (p, v) => t.setIfInBounds p v) rec.tmps) rec.assign rec.body) w := by
  unfold execOp
  simp only [hop, resolve, hc, hf, hargs, Deferred.ofValue, Sem.run_bind, Sem.run_pure, Result.andThen_ok, invoke]
  simp only [Array.append_empty, Array.empty_append]
  exact run_yield hl hs
 rw [hrun]
 refine ⟨fun h => by simp [qAw, Fence.wide] at h, hR.mono ?_⟩
 rintro e w' ⟨v, rfl, h⟩
 exact h
theorem Has.get {N : Nat} {a : Act} {l : List (Nat × Value)} (h : Has N a l) {s : Nat} {v : Value} (hs : l.lookup s = some v) : a.tmps.getD s undef = v := h.2 s v hs
theorem qGX {f : FuncId} {fn : Func} {c L B : Code} {b0 b1 id : Nat} {cA cB cE : List Code} {ops : Array Oper} {o6 : Oper} {at6 : Array TypeId} {fn' : FuncId} {tmps : Array Value} {ps : Array Tmp} {assign body : Code} {D : Nat} {l : Nat} {box : Option Addr} {n : Nat} {el : Nat -> Value} {J : Nat -> Mem -> Prop} {Bk : Mem -> Prop} {V : Mem}
  (hf : P.funcs[f]? = some fn) (hb : fn.body = some c) (e1 : flat c = cA ++ [.block b0 (.loop L)]) (e2 : flat L = cB ++ ([.cond (.tmp 8) .skip (.exit b0), .block b1 B] ++ cE)) (e3 : flat B = [.region id ops false, .cond (.tmp 18) .ret .skip])
  (ho : ops[6]? = some o6) (hgd : o6.guard = none) (hop : o6.op = .call { callee := .value (.tmp 11), args := #[.tmp 12, .tmp 16], argTypes := at6 }) (hdst : o6.dst = some 17) (hsz : ops.size = 8) (hres : fn.results = #[]) (hN : fn.ntmps = 19) (hps : ps.size = 2)
  (hA : ∀ M, Bk M -> Seg P 19 cA [(0, .func (.yield l) #[] #[]), (1, .pointer box)] [0, 1, 3] M fun vs V' => V' = M /\ vs = [.func (.yield l) #[] #[], .pointer box, .int .i64 ((n : Int) - 1)])
  (hB : ∀ M (j : Int), Seg P 19 cB [(0, .func (.yield l) #[] #[]), (1, .pointer box), (3, .int .i64 j)] [0, 1, 3, 8] M fun vs V' => V' = M /\ vs = [.func (.yield l) #[] #[], .pointer box, .int .i64 j, .bool (decide (0 <= j))])
  (hC : ∀ M (k : Nat), Bk M -> k < n -> SegO P 19 ops 0 6 [(0, .func (.yield l) #[] #[]), (1, .pointer box), (3, .int .i64 k)] [0, 1, 3, 11, 12, 16] M fun vs V' => V' = M /\ vs = [.func (.yield l) #[] #[], .pointer box, .int .i64 k, .func (.yield l) #[] #[], .int .i64 k, el k])
  (hD : ∀ M (j : Int) (b : Bool), SegO P 19 ops 7 1 [(0, .func (.yield l) #[] #[]), (1, .pointer box), (3, .int .i64 j), (17, .bool b)] [0, 1, 3, 18] M fun vs V' => V' = M /\ vs = [.func (.yield l) #[] #[], .pointer box, .int .i64 j, .bool (!b)])
  (hE : ∀ M (j : Int), Bk M -> 0 <= j -> j < n -> Seg P 19 cE [(0, .func (.yield l) #[] #[]), (1, .pointer box), (3, .int .i64 j)] [0, 1, 3] M fun vs V' => V' = M /\ vs = [.func (.yield l) #[] #[], .pointer box, .int .i64 (j - 1)])
  (hJ : ∀ i V2, J i V2 -> V2 l = none -> Bk (V2.set l (.loop (qCM fn' tmps ps assign body D))))
  (hround : ∀ k, k < n -> ∀ V2, J (n - 1 - k) V2 -> V2 l = none -> ∀ w, (V2.set l (.loop (qCM fn' tmps ps assign body D))).le w ->
   RoundIn (qAw none) 0 P l fn' ((ps.zip #[.int .i64 k, el k]).foldl (fun t (p, v) => t.setIfInBounds p v) tmps) assign body w fun e w' =>
    e = .returned (.bool true) /\ ∃ V3, J (n - k) V3 /\ V3 l = none /\ Frm (V2.set l (.loop (qCM fn' tmps ps assign body D))) w (V3.set l (.loop (qCM fn' tmps ps assign body D))) w')
  (h0 : J 0 V) (hl : V l = none) :
  Tri P f #[.func (.yield l) #[] #[], .pointer box] (V.set l (.loop (qCM fn' tmps ps assign body D))) fun e V' => (∃ v, e = .returned v) /\ ∃ V2, V' = V2.set l (.loop (qCM fn' tmps ps assign body D)) /\ V2 l = none /\ J n V2 := by
 intro w hV
 refine (callsIn_wide (n := 0)).1 (callsIn_of_wp (F := qAw none) hf hb trivial (qCl ?_) rfl)
 rw [e1]
 have hH0 : Has 19 { tmps := #[.func (.yield l) #[] #[], .pointer box] ++ Array.replicate (fn.ntmps - (#[Value.func (.yield l) #[] #[], .pointer box]).size) undef, defers := [] } [(0, .func (.yield l) #[] #[]), (1, .pointer box)] := by
  constructor
  ·simp [hN]
  ·intro s v hs
   simp only [List.lookup_cons] at hs
   split at hs
   ·rename_i e
    simp only [beq_iff_eq] at e; subst e
    cases hs
    simp [Array.getD, hN]
   ·split at hs
    ·rename_i e
     simp only [beq_iff_eq] at e; subst e
     cases hs
     simp [Array.getD, hN]
    ·cases hs
 refine (hA _ (hJ 0 V h0 hl)).step hV hH0 ?_
 rintro a1 w1 vs V1 hd1 hH1 ⟨rfl, rfl⟩ hF1
 refine wpIn_block ?_
 refine qEx (fun m a w' => ∃ (i : Nat) (V2 : Mem), i <= n /\ m = n - i /\ J i V2 /\ V2 l = none /\ a.defers = [] /\ Has 19 a [(0, .func (.yield l) #[] #[]), (1, .pointer box), (3, .int .i64 ((n : Int) - 1 - i))] /\
  Frm (V.set l (.loop (qCM fn' tmps ps assign body D))) w (V2.set l (.loop (qCM fn' tmps ps assign body D))) w') ⟨n, 0, V, by omega, rfl, h0, hl, hd1, by simpa using hH1, hF1⟩ ?_
 rintro m a2 w2 ⟨i, V2, hi, rfl, hJi, hl2, hd2, hH2, hF2⟩
 refine qCl ?_
 rw [e2]
 refine (hB _ _).step hF2.le hH2 ?_
 rintro a3 w3 vs V3 hd3 hH3 ⟨rfl, rfl⟩ hF3
 have hev8 : a3.eval (.tmp 8) = .bool (decide (0 <= (n : Int) - 1 - i)) := hH3.get rfl
 show Code.wpIn (qAw none) 0 P _ _ a3 w3
 by_cases hlt : i < n
 ·have hdc : decide (0 <= (n : Int) - 1 - i) = true := by simp; omega
  rw [hdc] at hev8
  refine wpIn_cond_true hev8 (wpIn_skip ?_)
  show Code.wpIn (qAw none) 0 P _ _ a3 w3
  refine wpIn_block (qCl ?_)
  rw [e3]
  have hk : ((n : Int) - 1 - i) = ((n - 1 - i : Nat) : Int) := by omega
  have hH3' : Has 19 a3 [(0, .func (.yield l) #[] #[]), (1, .pointer box), (3, .int .i64 ((n - 1 - i : Nat) : Int))] := ⟨hH3.1, fun s v hs => hH3.2 s v (by
   rw [hk]
   simp only [List.zip_cons_cons, List.lookup_cons] at hs ⊢
   split at hs
   ·exact hs
   ·split at hs
    ·exact hs
    ·split at hs
     ·exact hs
     ·cases hs)⟩
  refine wpIn_region ?_
  rw [hsz, show List.range 8 = List.range' 0 6 ++ [6, 7] from rfl]
  refine (hC _ (n - 1 - i) (hJ _ _ hJi hl2) (by omega)).step hF3.le hH3' ?_
  rintro a4 w4 vs V4 hd4 hH4 ⟨rfl, rfl⟩ hF4
  have hl4 : w4.heap[l]? = some (.loop (qCM fn' tmps ps assign body D)) := hF4.le _ _ (Mem.set_same _ _ _)
  refine yield_op (args := #[.int .i64 ((n - 1 - i : Nat) : Int), el (n - 1 - i)]) ho hgd hop rfl (hH4.get rfl) ?_ hl4 (by simp [qCM, hps]) ?_
  ·have g1 : a4.eval (.tmp 12) = .int .i64 ((n - 1 - i : Nat) : Int) := hH4.get rfl
   have g2 : a4.eval (.tmp 16) = el (n - 1 - i) := hH4.get rfl
   simp [g1, g2]
  refine (hround (n - 1 - i) (by omega) V2 (by rw [show n - 1 - (n - 1 - i) = i by omega]; exact hJi) hl2 w4 hF4.le).mono ?_
  rintro e w5 ⟨rfl, V5, hJ5, hl5, hF5⟩
  refine ⟨_, rfl, ?_⟩
  rw [hdst]
  have hlt17 : (17 : Nat) < a4.tmps.size := by rw [hH4.1]; decide
  have hH5 : Has 19 (a4.put (some 17) (.bool true)) [(0, .func (.yield l) #[] #[]), (1, .pointer box), (3, .int .i64 ((n - 1 - i : Nat) : Int)), (17, .bool true)] := by
   refine ⟨by simp [Act.put, hH4.1], fun s v hs => ?_⟩
   have other : ∀ s, s ≠ 17 -> (a4.put (some 17) (.bool true)).tmps.getD s undef = a4.tmps.getD s undef := fun s hs => by
    simp [Act.put, Array.getD_eq_getD_getElem?, Array.getElem?_setIfInBounds_ne (Ne.symm hs)]
   simp only [List.lookup_cons] at hs
   split at hs
   ·rename_i e; simp only [beq_iff_eq] at e; subst e; cases hs; rw [other _ (by decide)]; exact hH4.get rfl
   ·split at hs
    ·rename_i e; simp only [beq_iff_eq] at e; subst e; cases hs; rw [other _ (by decide)]; exact hH4.get rfl
    ·split at hs
     ·rename_i e; simp only [beq_iff_eq] at e; subst e; cases hs; rw [other _ (by decide)]; exact hH4.get rfl
     ·split at hs
      ·rename_i e; simp only [beq_iff_eq] at e; subst e; cases hs
       simp [Act.put, Array.getD_eq_getD_getElem?, hlt17]
      ·cases hs
  rw [show [7] = List.range' 7 1 ++ [] from rfl]
  refine (hD _ _ true).step hF5.le hH5 ?_
  rintro a6 w6 vs V6 hd6 hH6 ⟨rfl, rfl⟩ hF6
  show Code.wpIn (qAw none) 0 P (.cond (.tmp 18) .ret .skip) _ a6 w6
  refine wpIn_cond_false (hH6.get rfl) (wpIn_skip ?_)
  rw [<- List.append_nil cE]
  refine (hE _ ((n - 1 - i : Nat) : Int) (hJ _ _ hJ5 hl5) (by omega) (by omega)).step hF6.le ⟨hH6.1, fun s v hs => hH6.2 s v ?_⟩ ?_
  ·simp only [List.zip_cons_cons, List.lookup_cons] at hs ⊢
   split at hs
   ·exact hs
   ·split at hs
    ·exact hs
    ·split at hs
     ·exact hs
     ·cases hs
  rintro a7 w7 vs V7 hd7 hH7 ⟨rfl, rfl⟩ hF7
  refine ⟨n - (i + 1), by omega, i + 1, V5, by omega, rfl, ?_, hl5, ?_, ?_, ?_⟩
  ·rw [show i + 1 = n - (n - 1 - i) by omega]; exact hJ5
  ·rw [hd7, hd6]
   show a4.defers = []
   rw [hd4, hd3, hd2]
  ·rw [show (n : Int) - 1 - ((i + 1 : Nat) : Int) = ((n - 1 - i : Nat) : Int) - 1 by omega]
   exact hH7
  ·exact ((((hF2.trans hF3).trans hF4).trans hF5).trans hF6).trans hF7
 ·have hin : i = n := by omega
  subst hin
  have hdc : decide (0 <= (i : Int) - 1 - i) = false := by simp; omega
  rw [hdc] at hev8
  refine wpIn_cond_false hev8 (wpIn_exit ?_)
  show (if b0 = b0 then _ else _)
  rw [if_pos rfl]
  refine ⟨?_, _, results_none hres _ _ _, _, ⟨⟨_, rfl⟩, V2, rfl, hl2, hJi⟩, hF2.trans hF3⟩
  rw [hd3, hd2]
end
end Go.Sx
namespace Go.Proofs
open Go Go.Sx
attribute [local irreducible] Go.Sx.Tri
theorem GenK.makeMap {P : Program} {V : Mem} {t : TypeId} {ty : Nat} {vals : Operand -> Value} {q : Value -> Mem -> Prop} (hq : ∀ b, V b = none -> q (.map (some b)) (V.set b (.map #[] 0))) : GenK P (.makeMap t none) ty vals V q := by
 intro w hw
 have hn : V w.heap.size = none := by
  cases hc : V w.heap.size with
  | none => rfl
  | some o => have := (Array.getElem?_eq_some_iff.1 (hw _ o hc)).1; omega
 refine ⟨_, w.alloc (.map #[] 0), V.set w.heap.size (.map #[] 0), rfl, ?_, hq _ hn⟩
 refine ⟨by simp, fun b o hb => ?_, fun b hb _ => Go.RowKit.Below.heap_alloc _ _ _ hb, fun b hb => ?_, rfl, rfl⟩
 ·by_cases e : b = w.heap.size
  ·subst e; rw [Mem.set_same] at hb; rw [<- hb]; exact World.alloc_heap_new _ _
  ·rw [Mem.set_ne e] at hb
   have hlt := (Array.getElem?_eq_some_iff.1 (hw b o hb)).1
   exact (Go.RowKit.Below.heap_alloc _ _ _ hlt).trans (hw b o hb)
 ·by_cases e : b = w.heap.size
  ·exact .inr (by omega)
  ·rw [Mem.set_ne e] at hb; exact .inl hb
theorem qIa {α : Type} {V : Mem} {s : Sl} {sz : Nat} {row : α -> List Value} {xs : List α} (h : qAc V s sz (xs.map row)) : K.inR .i64 ((s.n : Int) - 1) := by
 have := h.cap; have := h.fit
 exact ⟨by omega, by omega⟩
theorem it260 {V : Mem} {fn' : FuncId} {tmps : Array Value} {ps : Array Tmp} {assign body : Code} {D : Nat} {l : Nat} {bx : Nat} {s : Sl} {xs : List Fld} {J : Nat -> Mem -> Prop} (hps : ps.size = 2)
  (hJ : ∀ i V2, J i V2 -> V2 l = none -> V2 bx = some (cell (.slice s.p s.n s.c) 23) /\ qAc V2 s 2 (xs.map Fld.row))
  (hround : ∀ k x, xs[k]? = some x -> ∀ V2, J (xs.length - 1 - k) V2 -> V2 l = none -> ∀ w, (V2.set l (.loop (qCM fn' tmps ps assign body D))).le w ->
   RoundIn (qAw none) 0 Tryz.prog l fn' ((ps.zip #[.int .i64 k, Fld.v x]).foldl (fun t (p, v) => t.setIfInBounds p v) tmps) assign body w fun e w' =>
    e = .returned (.bool true) /\ ∃ V3, J (xs.length - k) V3 /\ V3 l = none /\ Frm (V2.set l (.loop (qCM fn' tmps ps assign body D))) w (V3.set l (.loop (qCM fn' tmps ps assign body D))) w')
  (h0 : J 0 V) (hl : V l = none) :
  Tri Tryz.prog 260 #[.func (.yield l) #[] #[], pv bx] (V.set l (.loop (qCM fn' tmps ps assign body D))) fun e V' => (∃ v, e = .returned v) /\ ∃ V2, V' = V2.set l (.loop (qCM fn' tmps ps assign body D)) /\ V2 l = none /\ J xs.length V2 := by
 refine qGX (c := qAj Tryz.f260) (L := kid ((qBX (qAj Tryz.f260) [1, 0]).getD 0 .skip) 0) (B := kid ((qBX (qAj Tryz.f260) [1, 0, 0, 0]).getD 2 .skip) 0) (cA := c260a) (cB := c260b) (cE := c260e) (ops := c260c) (b0 := 0) (b1 := 1) (id := 3)
  (o6 := (c260c)[6]?.getD default) (at6 := #[3, 81]) (el := fun k => (xs[k]?.map Fld.v).getD undef) (Bk := fun M => M bx = some (cell (.slice s.p s.n s.c) 23) /\ qAc M s 2 (xs.map Fld.row))
  Tryz.func260 (by kernel_rfl) (by kernel_rfl) (by kernel_rfl) (by kernel_rfl) (by kernel_rfl) (by kernel_rfl) (by kernel_rfl) (by kernel_rfl) (by kernel_rfl) (by kernel_rfl) (by kernel_rfl) hps ?_ ?_ ?_ ?_ ?_ ?_ ?_ h0 hl
 ·rintro M ⟨h1, h2⟩
  refine s260a (a := .func (.yield l) #[] #[]) (b := some ⟨bx, 0, none⟩) ?_
  unfold w260a
  exact ⟨s, qBj h1, qIa h2, _, rfl, rfl, by rw [h2.n_eq]; rfl⟩
 ·intro M j
  refine s260b (a := .func (.yield l) #[] #[]) (b := some ⟨bx, 0, none⟩) ?_
  unfold w260b
  exact ⟨_, rfl, rfl, rfl⟩
 ·rintro M k ⟨h1, h2⟩ hk
  refine s260c (a := .func (.yield l) #[] #[]) (b := some ⟨bx, 0, none⟩) ?_
  unfold w260c
  obtain ⟨x, hm, hx, hdr, hlt, hnn, hz, hrow⟩ := h2.get (i := k) (by rw [h2.n_eq]; omega)
  exact ⟨s, qBj h1, hnn, hz, by rw [h2.n_eq]; omega, x.name, x.ty, hrow, _, rfl, rfl, by rw [hx]; rfl⟩
 ·intro M j b
  refine s260d (a := .func (.yield l) #[] #[]) (b := some ⟨bx, 0, none⟩) ?_
  unfold w260d
  exact ⟨_, rfl, rfl, rfl⟩
 ·rintro M j ⟨h1, h2⟩ hj hj2
  have hb1 := h2.cap
  have hb2 := h2.fit
  have hb3 := h2.n_eq
  refine s260e (a := .func (.yield l) #[] #[]) (b := some ⟨bx, 0, none⟩) ?_
  unfold w260e
  exact ⟨⟨by omega, by omega⟩, _, rfl, rfl, rfl⟩
 ·intro i V2 hj hl2
  obtain ⟨h1, h2⟩ := hJ i V2 hj hl2
  have e : bx ≠ l := fun e => by subst e; rw [hl2] at h1; cases h1
  exact ⟨by rw [Mem.set_ne e]; exact h1, h2.sub (Mem.sub_new hl2 _)⟩
 ·intro k hk V2 hj hl2 w hw
  have hx : xs[k]? = some xs[k] := by simp [hk]
  have := hround k xs[k] hx V2 hj hl2 w hw
  simp only [hx]
  exact this
theorem it164 {V : Mem} {fn' : FuncId} {tmps : Array Value} {ps : Array Tmp} {assign body : Code} {D : Nat} {l : Nat} {bx : Nat} {s : Sl} {xs : List Ty} {J : Nat -> Mem -> Prop} (hps : ps.size = 2)
  (hJ : ∀ i V2, J i V2 -> V2 l = none -> V2 bx = some (cell (.slice s.p s.n s.c) 22) /\ qAc V2 s 2 (xs.map Ty.row))
  (hround : ∀ k x, xs[k]? = some x -> ∀ V2, J (xs.length - 1 - k) V2 -> V2 l = none -> ∀ w, (V2.set l (.loop (qCM fn' tmps ps assign body D))).le w ->
   RoundIn (qAw none) 0 Tryz.prog l fn' ((ps.zip #[.int .i64 k, Ty.v x]).foldl (fun t (p, v) => t.setIfInBounds p v) tmps) assign body w fun e w' =>
    e = .returned (.bool true) /\ ∃ V3, J (xs.length - k) V3 /\ V3 l = none /\ Frm (V2.set l (.loop (qCM fn' tmps ps assign body D))) w (V3.set l (.loop (qCM fn' tmps ps assign body D))) w')
  (h0 : J 0 V) (hl : V l = none) :
  Tri Tryz.prog 164 #[.func (.yield l) #[] #[], pv bx] (V.set l (.loop (qCM fn' tmps ps assign body D))) fun e V' => (∃ v, e = .returned v) /\ ∃ V2, V' = V2.set l (.loop (qCM fn' tmps ps assign body D)) /\ V2 l = none /\ J xs.length V2 := by
 refine qGX (c := qAj Tryz.f164) (L := kid ((qBX (qAj Tryz.f164) [1, 0]).getD 0 .skip) 0) (B := kid ((qBX (qAj Tryz.f164) [1, 0, 0, 0]).getD 2 .skip) 0) (cA := c164a) (cB := c164b) (cE := c164e) (ops := c164c) (b0 := 0) (b1 := 1) (id := 3)
  (o6 := (c164c)[6]?.getD default) (at6 := #[3, 119]) (el := fun k => (xs[k]?.map Ty.v).getD undef) (Bk := fun M => M bx = some (cell (.slice s.p s.n s.c) 22) /\ qAc M s 2 (xs.map Ty.row))
  Tryz.func164 (by kernel_rfl) (by kernel_rfl) (by kernel_rfl) (by kernel_rfl) (by kernel_rfl) (by kernel_rfl) (by kernel_rfl) (by kernel_rfl) (by kernel_rfl) (by kernel_rfl) (by kernel_rfl) hps ?_ ?_ ?_ ?_ ?_ ?_ ?_ h0 hl
 ·rintro M ⟨h1, h2⟩
  refine s164a (a := .func (.yield l) #[] #[]) (b := some ⟨bx, 0, none⟩) ?_
  unfold w164a
  exact ⟨s, qBj h1, qIa h2, _, rfl, rfl, by rw [h2.n_eq]; rfl⟩
 ·intro M j
  refine s164b (a := .func (.yield l) #[] #[]) (b := some ⟨bx, 0, none⟩) ?_
  unfold w164b
  exact ⟨_, rfl, rfl, rfl⟩
 ·rintro M k ⟨h1, h2⟩ hk
  refine s164c (a := .func (.yield l) #[] #[]) (b := some ⟨bx, 0, none⟩) ?_
  unfold w164c
  obtain ⟨x, hm, hx, hdr, hlt, hnn, hz, hrow⟩ := h2.get (i := k) (by rw [h2.n_eq]; omega)
  exact ⟨s, qBj h1, hnn, hz, by rw [h2.n_eq]; omega, x.name, x.fs, hrow, _, rfl, rfl, by rw [hx]; rfl⟩
 ·intro M j b
  refine s164d (a := .func (.yield l) #[] #[]) (b := some ⟨bx, 0, none⟩) ?_
  unfold w164d
  exact ⟨_, rfl, rfl, rfl⟩
 ·rintro M j ⟨h1, h2⟩ hj hj2
  have hb1 := h2.cap
  have hb2 := h2.fit
  have hb3 := h2.n_eq
  refine s164e (a := .func (.yield l) #[] #[]) (b := some ⟨bx, 0, none⟩) ?_
  unfold w164e
  exact ⟨⟨by omega, by omega⟩, _, rfl, rfl, rfl⟩
 ·intro i V2 hj hl2
  obtain ⟨h1, h2⟩ := hJ i V2 hj hl2
  have e : bx ≠ l := fun e => by subst e; rw [hl2] at h1; cases h1
  exact ⟨by rw [Mem.set_ne e]; exact h1, h2.sub (Mem.sub_new hl2 _)⟩
 ·intro k hk V2 hj hl2 w hw
  have hx : xs[k]? = some xs[k] := by simp [hk]
  have := hround k xs[k] hx V2 hj hl2 w hw
  simp only [hx]
  exact this
theorem it165 {V : Mem} {fn' : FuncId} {tmps : Array Value} {ps : Array Tmp} {assign body : Code} {D : Nat} {l : Nat} {bx : Nat} {s : Sl} {xs : List Pr} {J : Nat -> Mem -> Prop} (hps : ps.size = 2)
  (hJ : ∀ i V2, J i V2 -> V2 l = none -> V2 bx = some (cell (.slice s.p s.n s.c) 24) /\ qAc V2 s 5 (xs.map Pr.row))
  (hround : ∀ k x, xs[k]? = some x -> ∀ V2, J (xs.length - 1 - k) V2 -> V2 l = none -> ∀ w, (V2.set l (.loop (qCM fn' tmps ps assign body D))).le w ->
   RoundIn (qAw none) 0 Tryz.prog l fn' ((ps.zip #[.int .i64 k, Pr.v x]).foldl (fun t (p, v) => t.setIfInBounds p v) tmps) assign body w fun e w' =>
    e = .returned (.bool true) /\ ∃ V3, J (xs.length - k) V3 /\ V3 l = none /\ Frm (V2.set l (.loop (qCM fn' tmps ps assign body D))) w (V3.set l (.loop (qCM fn' tmps ps assign body D))) w')
  (h0 : J 0 V) (hl : V l = none) :
  Tri Tryz.prog 165 #[.func (.yield l) #[] #[], pv bx] (V.set l (.loop (qCM fn' tmps ps assign body D))) fun e V' => (∃ v, e = .returned v) /\ ∃ V2, V' = V2.set l (.loop (qCM fn' tmps ps assign body D)) /\ V2 l = none /\ J xs.length V2 := by
 refine qGX (c := qAj Tryz.f165) (L := kid ((qBX (qAj Tryz.f165) [1, 0]).getD 0 .skip) 0) (B := kid ((qBX (qAj Tryz.f165) [1, 0, 0, 0]).getD 2 .skip) 0) (cA := c165a) (cB := c165b) (cE := c165e) (ops := c165c) (b0 := 0) (b1 := 1) (id := 3)
  (o6 := (c165c)[6]?.getD default) (at6 := #[3, 79]) (el := fun k => (xs[k]?.map Pr.v).getD undef) (Bk := fun M => M bx = some (cell (.slice s.p s.n s.c) 24) /\ qAc M s 5 (xs.map Pr.row))
  Tryz.func165 (by kernel_rfl) (by kernel_rfl) (by kernel_rfl) (by kernel_rfl) (by kernel_rfl) (by kernel_rfl) (by kernel_rfl) (by kernel_rfl) (by kernel_rfl) (by kernel_rfl) (by kernel_rfl) hps ?_ ?_ ?_ ?_ ?_ ?_ ?_ h0 hl
 ·rintro M ⟨h1, h2⟩
  refine s165a (a := .func (.yield l) #[] #[]) (b := some ⟨bx, 0, none⟩) ?_
  unfold w165a
  exact ⟨s, qBj h1, qIa h2, _, rfl, rfl, by rw [h2.n_eq]; rfl⟩
 ·intro M j
  refine s165b (a := .func (.yield l) #[] #[]) (b := some ⟨bx, 0, none⟩) ?_
  unfold w165b
  exact ⟨_, rfl, rfl, rfl⟩
 ·rintro M k ⟨h1, h2⟩ hk
  refine s165c (a := .func (.yield l) #[] #[]) (b := some ⟨bx, 0, none⟩) ?_
  unfold w165c
  obtain ⟨x, hm, hx, hdr, hlt, hnn, hz, hrow⟩ := h2.get (i := k) (by rw [h2.n_eq]; omega)
  exact ⟨s, qBj h1, hnn, hz, by rw [h2.n_eq]; omega, x.name, x.ps, x.result, x.ls, x.bs, hrow, _, rfl, rfl, by rw [hx]; rfl⟩
 ·intro M j b
  refine s165d (a := .func (.yield l) #[] #[]) (b := some ⟨bx, 0, none⟩) ?_
  unfold w165d
  exact ⟨_, rfl, rfl, rfl⟩
 ·rintro M j ⟨h1, h2⟩ hj hj2
  have hb1 := h2.cap
  have hb2 := h2.fit
  have hb3 := h2.n_eq
  refine s165e (a := .func (.yield l) #[] #[]) (b := some ⟨bx, 0, none⟩) ?_
  unfold w165e
  exact ⟨⟨by omega, by omega⟩, _, rfl, rfl, rfl⟩
 ·intro i V2 hj hl2
  obtain ⟨h1, h2⟩ := hJ i V2 hj hl2
  have e : bx ≠ l := fun e => by subst e; rw [hl2] at h1; cases h1
  exact ⟨by rw [Mem.set_ne e]; exact h1, h2.sub (Mem.sub_new hl2 _)⟩
 ·intro k hk V2 hj hl2 w hw
  have hx : xs[k]? = some xs[k] := by simp [hk]
  have := hround k xs[k] hx V2 hj hl2 w hw
  simp only [hx]
  exact this
theorem c250 {V : Mem} {s : Sl} : Tri Tryz.prog 250 #[.slice s.p s.n s.c] V fun e V' => ∃ b, V b = none /\ e = .returned (.func (.func 260) #[] #[pv b]) /\ V' = V.set b (cell (.slice s.p s.n s.c) 23) := by
 refine x250 ?_
 unfold w250
 exact fun b hb => ⟨b, hb, rfl, rfl⟩
theorem c129 {V : Mem} {s : Sl} : Tri Tryz.prog 129 #[.slice s.p s.n s.c] V fun e V' => ∃ b, V b = none /\ e = .returned (.func (.func 164) #[] #[pv b]) /\ V' = V.set b (cell (.slice s.p s.n s.c) 22) := by
 refine x129 ?_
 unfold w129
 exact fun b hb => ⟨b, hb, rfl, rfl⟩
theorem c130 {V : Mem} {s : Sl} : Tri Tryz.prog 130 #[.slice s.p s.n s.c] V fun e V' => ∃ b, V b = none /\ e = .returned (.func (.func 165) #[] #[pv b]) /\ V' = V.set b (cell (.slice s.p s.n s.c) 24) := by
 refine x130 ?_
 unfold w130
 exact fun b hb => ⟨b, hb, rfl, rfl⟩
theorem qFR {args : List Value} {N : Nat} (h : args.length <= N) : Has N { tmps := args.toArray ++ Array.replicate (N - args.toArray.size) undef, defers := [] } ((List.range args.length).zip args) := by
 refine ⟨by simp; omega, fun s v hs => ?_⟩
 rw [List.range_eq_range'] at hs
 have key : ∀ (l : List Value) (k : Nat), ((List.range' k l.length).zip l).lookup s = some v -> k <= s /\ l[s - k]? = some v := by
  intro l
  induction l with
  | nil => intro k h; simp at h
  | cons x xs ih =>
   intro k h
   simp only [List.length_cons, List.range'_succ, List.zip_cons_cons, List.lookup_cons] at h
   split at h
   ·rename_i e
    simp only [beq_iff_eq] at e
    subst e
    exact ⟨Nat.le_refl _, by simpa using h⟩
   ·have := ih _ h
    refine ⟨by omega, ?_⟩
    rw [show s - k = (s - (k + 1)) + 1 by omega]
    simpa using this.2
 obtain ⟨-, h1⟩ := key args 0 hs
 have hlt := (List.getElem?_eq_some_iff.1 h1).1
 simp only [Nat.sub_zero] at h1 hlt
 rw [Array.getD_eq_getD_getElem?, Array.getElem?_append_left (by simpa using hlt)]
 simp [h1]
theorem qHU {tmps : Array Value} {p q : Nat} {u v : Value} : ((#[p, q].zip #[u, v]).foldl (fun t (p, v) => t.setIfInBounds p v) tmps) = (tmps.setIfInBounds p u).setIfInBounds q v := by
 simp
theorem qFS {tmps : Array Value} {p s : Nat} {u : Value} (h : s ≠ p) : (tmps.setIfInBounds p u).getD s undef = tmps.getD s undef := by
 simp [Array.getD_eq_getD_getElem?, Array.getElem?_setIfInBounds_ne (Ne.symm h)]
theorem getD_same {tmps : Array Value} {p : Nat} {u : Value} (h : p < tmps.size) : (tmps.setIfInBounds p u).getD p undef = u := by
 simp [Array.getD_eq_getD_getElem?, h]
theorem qET (f : Fld) (l : List Fld) (k : ByteArray) : qBs (f :: l) k = if k = f.name then some f.ty else qBs l k := by
 unfold qBs
 rw [List.find?_cons]
 by_cases h : f.name = k
 ·rw [decide_eq_true h, if_pos h.symm]; rfl
 ·rw [decide_eq_false h, if_neg (fun e => h e.symm)]
theorem varOf_app (a b : List Fld) (k : ByteArray) : qBs (a ++ b) k = (qBs a k).or (qBs b k) := by
 unfold qBs
 rw [List.find?_append]
 cases a.find? (fun f => decide (f.name = k)) <;> rfl
theorem varOf_any (a : List Fld) (k : ByteArray) : (qBs a k).isSome = a.any fun f => decide (f.name = k) := by
 unfold qBs
 induction a with
 | nil => rfl
 | cons f a ih =>
  rw [List.find?_cons, List.any_cons]
  by_cases h : f.name = k
  ·rw [decide_eq_true h]; rfl
  ·rw [decide_eq_false h]; exact ih
theorem seen_old {a g : List Fld} {f : Fld} (h : (a.any fun x => decide (x.name = f.name)) = true) (k : ByteArray) : qBs (a ++ [f] ++ g) k = qBs (a ++ g) k := by
 simp only [varOf_app, qET]
 rw [<- varOf_any] at h
 by_cases e : k = f.name
 ·subst e
  rw [if_pos rfl]
  cases hv : qBs a f.name with
  | none => rw [hv] at h; cases h
  | some x => rfl
 ·rw [if_neg e]
  cases qBs a k <;> rfl
theorem seen_new {a g : List Fld} {f : Fld} (h : ¬ (a.any fun x => decide (x.name = f.name)) = true) (k : ByteArray) : qBs (a ++ [f] ++ g) k = if k = f.name then some f.ty else qBs (a ++ g) k := by
 simp only [varOf_app, qET]
 rw [<- varOf_any] at h
 by_cases e : k = f.name
 ·subst e
  rw [if_pos rfl, if_pos rfl]
  cases hv : qBs a f.name with
  | none => rfl
  | some x => rw [hv] at h; exact absurd rfl h
 ·rw [if_neg e, if_neg e]
  cases qBs a k <;> rfl
structure SI (V : Mem) (c : Option Addr) (body : Bool) (d : Ds) (mb bx b6 b7 : Nat) (m : ByteArray -> Option Value) (V1 : Mem) : Prop where
 sub : V.sub V1
 nm : V mb = none
 n6 : V b6 = none
 map : qAS V1 mb m
 bx : V1 bx = some (cell (.slice d.gs.p d.gs.n d.gs.c) 23)
 b6 : V1 b6 = some (.cells #[.pointer none, .map none, .bool false] 254 (0, 0))
 b7 : V1 b7 = some (.cells #[.pointer c, .map (some mb), .bool body] 254 (0, 0))
section
variable {V V1 : Mem} {c : Option Addr} {body : Bool} {d : Ds} {mb bx b6 b7 : Nat} {m m' : ByteArray -> Option Value}
theorem SI.fresh (h : SI V c body d mb bx b6 b7 m V1) {b : Nat} (hb : V1 b = none) (o : Obj) : SI V c body d mb bx b6 b7 m (V1.set b o) :=
 have hs := Mem.sub_new hb o
 ⟨h.sub.trans hs, h.nm, h.n6, h.map.sub hs, hs _ _ h.bx, hs _ _ h.b6, hs _ _ h.b7⟩
theorem SI.up (h : SI V c body d mb bx b6 b7 m V1) {o : Obj} (ho : qAS (V1.set mb o) mb m') : SI V c body d mb bx b6 b7 m' (V1.set mb o) := by
 obtain ⟨es, cl, hm, -, -⟩ := h.map.at_
 have e1 : bx ≠ mb := fun e => by have := h.bx; rw [e, hm] at this; cases this
 have e2 : b6 ≠ mb := fun e => by have := h.b6; rw [e, hm] at this; cases this
 have e3 : b7 ≠ mb := fun e => by have := h.b7; rw [e, hm] at this; cases this
 exact ⟨h.sub.set h.nm o, h.nm, h.n6, ho, by rw [Mem.set_ne e1]; exact h.bx, by rw [Mem.set_ne e2]; exact h.b6, by rw [Mem.set_ne e3]; exact h.b7⟩
theorem SI.cg (h : SI V c body d mb bx b6 b7 m V1) (e : ∀ k, m k = m' k) : SI V c body d mb bx b6 b7 m' V1 := ⟨h.sub, h.nm, h.n6, h.map.congr e, h.bx, h.b6, h.b7⟩
end
section
variable {V V1 : Mem} {c : Option Addr} {body : Bool} {d : Ds} {mb bx b6 b7 : Nat} {m m' : ByteArray -> Option Value}
theorem scopeRound {l : Sl} (h : SI V c body d mb bx b6 b7 m V1) (x : Fld) (V2 : Mem) (b : Nat) (hb : V1 b = none) (e2 : V2 = V1.set b (.cells x.row.toArray 81 (0, 0))) :
  Seg Tryz.prog 63 c227c [(7, pv b7), (9, pv b)] [] V2 fun _ V3 => SI V c body d mb bx b6 b7 (fun k => if k = x.name then some (.string x.ty) else m k) V3 := by
 subst e2
 have h2 := h.fresh hb (.cells x.row.toArray 81 (0, 0))
 refine s227c ?_
 unfold w227c
 refine ⟨by simp, some mb, qAd h2.b7 1 1 (by simp), by simp, x.name, qAd mss 0 1 (by simp [Fld.row]), by simp, x.ty, qAd mss 1 1 (by simp [Fld.row]), ?_⟩
 exact UpdK.str Tryz.underlying252 Tryz.underlying9 h2.map fun o ho => ⟨_, rfl, h2.up ho⟩
theorem scopeAssign (x : Fld) : Seg Tryz.prog 63 c227b [(7, pv b7), (26, Fld.v x)] [7, 9] V1 fun vs V2 => ∃ b, V1 b = none /\ V2 = V1.set b (.cells x.row.toArray 81 (0, 0)) /\ vs = [pv b7, pv b] := by
 refine s227b (b := x.name) (c := x.ty) ?_
 unfold w227b
 exact fun b hb => ⟨_, rfl, b, hb, rfl, rfl⟩
theorem zero4 (w : World) : (zeroValue 4).run Tryz.prog w = .ok (.bool false) w := by kernel_rfl
theorem scopeTail {l : Sl} {ls : List (Sl × List Fld)} (h : SI V c body d mb bx b6 b7 (fun k => (qBs d.globals k).map Value.string) V1) (hl : qAc V l 1 (ls.map fun x => [x.1.v])) (hls : ∀ x ∈ ls, qAc V x.1 2 (x.2.map Fld.row)) :
  Seg Tryz.prog 63 c227d [(0, .pointer c), (1, .bool body), (2, .slice l.p l.n l.c), (6, pv b6), (7, pv b7)] [6] V1 fun vs V2 => vs = [pv b6] /\
   V.sub V2 /\ V mb = none /\ qAS V2 mb (fun k => (qBs (ls.flatMap (·.2) ++ d.globals) k).map Value.string) /\ V2 b6 = some (.cells #[.pointer c, .map (some mb), .bool body] 254 (0, 0)) := by
 refine s227d ?_
 unfold w227d
 refine GenK.makeMap fun sb hsb => ⟨some sb, rfl, ?_⟩
 have hsV : V sb = none := by
  cases hc : V sb with
  | none => rfl
  | some o => have := h.sub _ _ hc; rw [hsb] at this; cases this
 have hne : mb ≠ sb := fun e => by
  obtain ⟨es, cl, hm, -, -⟩ := h.map.at_
  rw [e, hsb] at hm; cases hm
 let TI (done : List Fld) (V2 : Mem) : Prop := SI V c body d mb bx b6 b7 (fun k => (qBs (done ++ d.globals) k).map Value.string) V2 /\ qAS V2 sb (fun k => if (done.any fun f => decide (f.name = k)) = true then some (.bool true) else none)
 have h0 : TI [] (V1.set sb (.map #[] 0)) := ⟨h.fresh hsb _, (qAS.made V1 sb).congr fun k => by simp⟩
 refine loop1 ls.length (fun i V2 => TI ((ls.take i).flatMap (·.2)) V2) (by simpa using h0) ?_
 intro i V2 J hi hst hJ
 have hlV := hl.sub hst.1.sub
 refine ⟨fun hlt => ?_, fun hlt => ?_⟩
 ·obtain ⟨x, hm, hx, hdr, hlt', hnn, hz, hrow⟩ := hlV.get hlt
  refine ⟨hnn, hz, hlt, x.1, hrow, ?_⟩
  have htk : (ls.take (i + 1)).flatMap (·.2) = (ls.take i).flatMap (·.2) ++ x.2 := by
   rw [List.take_add_one, hx]; simp
  refine loop1 x.2.length (fun j V3 => TI ((ls.take i).flatMap (·.2) ++ x.2.take j) V3) (by simpa using hst) ?_
  intro j V3 J' hj hst' hJ'
  have hxV := (hls x hm).sub hst'.1.sub
  refine ⟨fun hlt2 => ?_, fun hlt2 => ?_⟩
  ·obtain ⟨f, hmf, hf, hdrf, hltf, hnnf, hzf, hrowf⟩ := hxV.get hlt2
   have htj : (ls.take i).flatMap (·.2) ++ x.2.take (j + 1) = ((ls.take i).flatMap (·.2) ++ x.2.take j) ++ [f] := by
    rw [List.take_add_one, hf, List.append_assoc]; rfl
   refine ⟨hnnf, hzf, hlt2, f.name, f.ty, hrowf, ?_⟩
   refine qBN.str1 Tryz.underlying307 Tryz.underlying9 zero4 hst'.2 ?_
   generalize hdone : (ls.take i).flatMap (·.2) ++ x.2.take j = done at hst' htj
   refine ⟨done.any fun y => decide (y.name = f.name), ?_, fun hs => ?_, fun hs => ?_⟩
   ·cases hs : done.any (fun y => decide (y.name = f.name)) with
    | true => simp
    | false => simp
   ·refine ⟨hxV.succ hlt2, hJ' hltf _ ?_⟩
    rw [htj]
    refine ⟨hst'.1.cg fun k => by rw [seen_old hs], hst'.2.congr fun k => ?_⟩
    rw [List.any_append]
    by_cases e : f.name = k
    ·subst e; rw [hs]; simp
    ·simp [e]
   ·refine ⟨by simp, some mb, qAd hst'.1.b7 1 1 (by simp), ?_⟩
    refine UpdK.str Tryz.underlying252 Tryz.underlying9 hst'.1.map fun o ho => ?_
    have hsi := hst'.1.up ho
    refine UpdK.str Tryz.underlying307 Tryz.underlying9 (hst'.2.set (o := o) (Ne.symm hne)) fun o2 ho2 => ?_
    refine ⟨hxV.succ hlt2, hJ' hltf _ ?_⟩
    rw [htj]
    have hsb6 : b6 ≠ sb := fun e => by have := h.b6; rw [e, hsb] at this; cases this
    have hsb7 : b7 ≠ sb := fun e => by have := h.b7; rw [e, hsb] at this; cases this
    have hsbx : bx ≠ sb := fun e => by have := h.bx; rw [e, hsb] at this; cases this
    refine ⟨?_, ho2.congr fun k => ?_⟩
    ·have h3 := hsi.cg (m' := fun k => (qBs (done ++ [f] ++ d.globals) k).map Value.string) fun k => by
      rw [seen_new hs]
      by_cases e : k = f.name
      ·rw [if_pos e, if_pos e]; rfl
      ·rw [if_neg e, if_neg e]
     exact ⟨h3.sub.set hsV _, h3.nm, h3.n6, h3.map.set hne, by rw [Mem.set_ne hsbx]; exact h3.bx, by rw [Mem.set_ne hsb6]; exact h3.b6, by rw [Mem.set_ne hsb7]; exact h3.b7⟩
    ·rw [List.any_append]
     by_cases e : k = f.name
     ·subst e; simp
     ·rw [if_neg e]; simp [Ne.symm e]
  ·obtain ⟨hd, hle⟩ := hxV.done hlt2
   refine ⟨hlV.succ hlt, hJ hlt' _ ?_⟩
   rw [htk]
   rw [List.take_of_length_le hle] at hst'
   exact hst'
 ·obtain ⟨hd, hle⟩ := hlV.done hlt
  rw [List.take_of_length_le hle] at hst
  have hcells := qAd hst.1.b7 0 3 (by simp)
  refine ⟨c, some mb, body, hcells, ⟨⟨b6, 0, none⟩, _, _, rfl, hst.1.b6, rfl, by simp, ?_⟩⟩
  have e7 : mb ≠ b6 := fun e => by
   obtain ⟨es, cl, hm, -, -⟩ := hst.1.map.at_
   have := hst.1.b6; rw [<- e, hm] at this; cases this
  exact ⟨_, rfl, rfl, hst.1.sub.set h.n6 _, h.nm, hst.1.map.set e7, by rw [Mem.set_same]; rfl⟩
end
theorem cell3 {b : Nat} {c : Option Addr} {mb : Option Nat} {body : Bool} {w : World} (h : w.heap[b]? = some (.cells #[.pointer c, .map mb, .bool body] 254 (0, 0))) : (loadVar 254 ⟨b, 0, none⟩).run Tryz.prog w = .ok (.agg #[.pointer c, .map mb, .bool body]) w :=
 qBP (P := Tryz.prog) (t := 254) (cs := .cons (.var .p 0) (.cons (.var .m 1) (.cons (.var .b 2) .nil))) (x := .agg (.cons (.var .p 0) (.cons (.var .m 1) (.cons (.var .b 2) .nil)))) (ρ := [.pointer c, .map mb, .bool body]) (β := id) (o := 0) h (by kernel_rfl)
theorem results113 {tmps : Array Value} {b : Nat} {c : Option Addr} {mb : Option Nat} {body : Bool} {w : World} (h6 : tmps.getD 6 undef = pv b) (h : w.heap[b]? = some (.cells #[.pointer c, .map mb, .bool body] 254 (0, 0))) :
  (results Tryz.f227 tmps).run Tryz.prog w = .ok (.agg #[.pointer c, .map mb, .bool body]) w := by
 have hr : Tryz.f227.results = #[.cell 6 254] := by kernel_rfl
 unfold results
 rw [hr]
 have e : asAddr (tmps.getD 6 undef) = pure ⟨b, 0, none⟩ := by rw [h6]; rfl
 simp only [List.mapM_toArray, List.mapM_cons, List.mapM_nil, Sem.run_bind, Sem.run_map, Sem.run_pure, Result.andThen_ok, e, cell3 h]
 rfl
theorem qEn {V V1 V2 V3 : Mem} {w w1 w2 w3 : World} {D : Nat} (h1 : Frm V w V1 w1) (h2 : Frm V1 w1 V2 w2) (hD : w1.heap.size <= D) (hn : V2 D = none) (hW : w2.heap[D]? = some (.deferred (some []))) (h3 : Frm V2 w2 V3 w3) :
  Frm V w V3 w3 /\ w.heap.size <= D /\ w3.heap[D]? = some (.deferred (some [])) /\ V3 D = none := by
 have hlt := (Array.getElem?_eq_some_iff.1 hW).1
 refine ⟨(h1.trans h2).trans h3, Nat.le_trans h1.size hD, (h3.old D hlt hn).trans hW, ?_⟩
 cases hc : V3 D with
 | none => rfl
 | some o =>
  rcases h3.dom D (by rw [hc]; simp) with h | h
  ·exact absurd hn h
  ·omega
theorem scopeC : qFB := by
 intro V c d body l ls hc hl hls
 refine qFk (c := qAj Tryz.f227) Tryz.func227 (by kernel_rfl) ?_
 intro w hV
 rw [show flat (qAj Tryz.f227) = c227a ++ ([.block 0 (.rangeFunc (.tmp 24) #[25, 26] ((qBX (qAj Tryz.f227) [3, 0, 0, 0]).getD 0 .skip) ((qBX (qAj Tryz.f227) [3, 0, 0, 1]).getD 0 .skip))] ++ (c227d ++ [.ret])) from by kernel_rfl]
 have hA : Seg Tryz.prog 63 c227a [(0, .pointer c), (1, .bool body), (2, .slice l.p l.n l.c)] [0, 1, 2, 6, 7, 24] V fun vs V1 => ∃ mb bx b6 b7,
   vs = [.pointer c, .bool body, .slice l.p l.n l.c, pv b6, pv b7, .func (.func 260) #[] #[pv bx]] /\ SI V c body d mb bx b6 b7 (fun _ => none) V1 := by
  refine s227a ?_
  unfold w227a
  refine GenK.makeMap fun mb hmb => ⟨some mb, rfl, hc.nn, hc.nn, ?_, d.gs, ?_, ?_⟩
  ·obtain ⟨cb, mt, mp, t, h1, h2, h3, h4⟩ := hc.at_
   rw [h1]; simp [qAb]
  ·exact (hc.sub (Mem.sub_new hmb _)).cell (i := 2) rfl
  refine Tri.mono c250 ?_
  rintro _ V2 ⟨bx, hbx, rfl, rfl⟩
  refine ⟨.func (.func 260) #[] #[pv bx], rfl, rfl, fun b6 hb6 b7 hb7 => ⟨_, rfl, mb, bx, b6, b7, rfl, ?_⟩⟩
  have n1 : bx ≠ mb := fun e => by rw [e, Mem.set_same] at hbx; cases hbx
  have n2 : b6 ≠ bx := fun e => by rw [e, Mem.set_same] at hb6; cases hb6
  have n3 : b7 ≠ b6 := fun e => by rw [e, Mem.set_same] at hb7; cases hb7
  have s1 := Mem.sub_new hmb (.map #[] 0)
  have s2 := Mem.sub_new hbx (cell (.slice d.gs.p d.gs.n d.gs.c) 23)
  have s3 := Mem.sub_new hb6 (.cells #[.pointer none, .map none, .bool false] 254 (0, 0))
  have s4 := Mem.sub_new hb7 (.cells #[.pointer c, .map (some mb), .bool body] 254 (0, 0))
  refine ⟨s1.trans (s2.trans (s3.trans s4)), hmb, ?_, (qAS.made V mb).sub (s2.trans (s3.trans s4)), (s3.trans s4) _ _ mss, s4 _ _ mss, Mem.set_same _ _ _⟩
  cases hv : V b6 with
  | none => rfl
  | some o => have := (s1.trans s2) _ _ hv; rw [hb6] at this; cases this
 refine hA.step hV (qFR (args := [.pointer c, .bool body, .slice l.p l.n l.c]) (N := 63) (by simp)) ?_
 rintro a1 w1 vs V1 hd1 hH1 ⟨mb, bx, b6, b7, rfl, hS1⟩ hF1
 show Code.wpIn (qAw none) 0 Tryz.prog _ _ a1 w1
 refine wpIn_block ?_
 have hit := fun fn lp D hlp => it260 (V := V1) (fn' := fn) (tmps := a1.tmps) (ps := #[25, 26]) (assign := (qBX (qAj Tryz.f227) [3, 0, 0, 0]).getD 0 .skip) (body := (qBX (qAj Tryz.f227) [3, 0, 0, 1]).getD 0 .skip) (D := D) (l := lp) (bx := bx) (s := d.gs) (xs := d.globals)
  (J := fun i V2 => SI V c body d mb bx b6 b7 (fun k => (qBs (d.globals.drop (d.globals.length - i)) k).map Value.string) V2) rfl (fun i V2 hj _ => ⟨hj.bx, hc.ok.globals.sub hj.sub⟩) (fun k x hx V2 hj hl2 w2 hw2 => by
   have hk := (List.getElem?_eq_some_iff.1 hx).1
   refine qEY (N := 63) (insA := [(7, pv b7), (26, Fld.v x)]) (outsA := [7, 9]) hl2 hw2 (by rw [qHU]; simpa using hH1.1) ?_ (scopeAssign x) (fun vs V3 hvs => ?_)
   ·intro s v hs
    rw [qHU]
    simp only [List.lookup_cons] at hs
    split at hs
    ·rename_i e; simp only [beq_iff_eq] at e; subst e; cases hs
     rw [qFS (by decide), qFS (by decide)]; exact hH1.get rfl
    ·split at hs
     ·rename_i e; simp only [beq_iff_eq] at e; subst e; cases hs
      exact getD_same (by simp [hH1.1])
     ·cases hs
   ·obtain ⟨b, hb, e2, rfl⟩ := hvs
    refine (scopeRound (l := l) hj x V3 b hb e2).mono fun _ V4 h4 => h4.cg fun y => ?_
    rw [show d.globals.length - (d.globals.length - 1 - k) = k + 1 by omega, show d.globals.length - (d.globals.length - k) = k by omega]
    have e3 : d.globals.drop k = x :: d.globals.drop (k + 1) := by
     rw [List.drop_eq_getElem_cons hk]; rw [(List.getElem?_eq_some_iff.1 hx).2]
    rw [e3, qET]
    by_cases e : y = x.name
    ·rw [if_pos e, if_pos e]; rfl
    ·rw [if_neg e, if_neg e])
  (by simpa [qBs] using hS1) hlp
 refine qFc (Φ := fun V2 => SI V c body d mb bx b6 b7 (fun k => (qBs d.globals k).map Value.string) V2) hF1.le (hH1.get (s := 24) rfl) Tryz.call260 (fun fn lp D hlp => Tri.mono (hit fn lp D hlp) fun e V' h => ?_) ?_
 ·obtain ⟨h1, V2, h2, h3, h4⟩ := h
  exact ⟨h1, V2, h2, h3, by simpa using h4⟩
 ·intro D V2 W hD hF2 hn2 hW hS2
  show wpL none 0 Tryz.prog _ (c227d ++ [.ret]) _ W
  refine (scopeTail hS2 hl hls).step hF2.le ⟨hH1.1, fun s v hs => hH1.2 s v ?_⟩ ?_
  ·simp only [List.zip_cons_cons, List.lookup_cons] at hs ⊢
   repeat' (split at hs <;> first | exact hs | skip)
   all_goals first | exact hs | (cases hs)
  ·rintro a3 w3 vs V3 hd3 hH3 ⟨rfl, h1, h2, h3, h4⟩ hF3
   show Code.wpIn (qAw none) 0 Tryz.prog .ret _ a3 w3
   refine wpIn_ret ?_
   obtain ⟨g1, g2, g3, g4⟩ := qEn hF1 hF2 hD hn2 hW hF3
   refine ⟨.inr rfl, [D], ?_, by simp, V3, g1, fun D' hD' => ?_, _, fun w4 hw4 => results113 (hH3.get rfl) (hw4 _ _ h4), mb, rfl, h1, h2, h3⟩
   ·rw [hd3]; simp [hd1]
   ·simp only [List.mem_singleton] at hD'; subst hD'; exact ⟨g2, g3, g4⟩
structure NI (V : Mem) (d : Ds) (cb mt mp p1 p3 : Nat) (f g : ByteArray -> Option Value) (V1 : Mem) : Prop where
 sub : V.sub V1
 nt : V mt = none
 np : V mp = none
 ne : mt ≠ mp
 ck : V1 cb = some (.cells (d.row ++ [Value.map (some mt), Value.map (some mp)]).toArray 205 (0, 0))
 b1 : V1 p1 = some (.cells d.row.toArray 30 (0, 0))
 b3 : V1 p3 = some (cell (pv cb) 171)
 mapT : qAS V1 mt f
 mapP : qAS V1 mp g
section
variable {V V1 : Mem} {d : Ds} {cb mt mp p1 p3 : Nat} {f g f' g' : ByteArray -> Option Value}
theorem NI.fresh (h : NI V d cb mt mp p1 p3 f g V1) {b : Nat} (hb : V1 b = none) (o : Obj) : NI V d cb mt mp p1 p3 f g (V1.set b o) :=
 have hs := Mem.sub_new hb o
 ⟨h.sub.trans hs, h.nt, h.np, h.ne, hs _ _ h.ck, hs _ _ h.b1, hs _ _ h.b3, h.mapT.sub hs, h.mapP.sub hs⟩
theorem qDs {V : Mem} {b m : Nat} {c : Array Value} {t : Nat} {fr : Nat × Nat} {f : ByteArray -> Option Value} (h : V b = some (.cells c t fr)) (hm : qAS V m f) : b ≠ m := fun e => by
 obtain ⟨es, cl, hm, -, -⟩ := hm.at_
 rw [e, hm] at h; cases h
theorem NI.upT (h : NI V d cb mt mp p1 p3 f g V1) {o : Obj} (ho : qAS (V1.set mt o) mt f') : NI V d cb mt mp p1 p3 f' g (V1.set mt o) :=
 ⟨h.sub.set h.nt o, h.nt, h.np, h.ne, by rw [Mem.set_ne (qDs h.ck h.mapT)]; exact h.ck, by rw [Mem.set_ne (qDs h.b1 h.mapT)]; exact h.b1, by rw [Mem.set_ne (qDs h.b3 h.mapT)]; exact h.b3, ho, h.mapP.set (Ne.symm h.ne)⟩
theorem NI.upP (h : NI V d cb mt mp p1 p3 f g V1) {o : Obj} (ho : qAS (V1.set mp o) mp g') : NI V d cb mt mp p1 p3 f g' (V1.set mp o) :=
 ⟨h.sub.set h.np o, h.nt, h.np, h.ne, by rw [Mem.set_ne (qDs h.ck h.mapP)]; exact h.ck, by rw [Mem.set_ne (qDs h.b1 h.mapP)]; exact h.b1, by rw [Mem.set_ne (qDs h.b3 h.mapP)]; exact h.b3, h.mapT.set h.ne, ho⟩
theorem NI.cg (h : NI V d cb mt mp p1 p3 f g V1) (e1 : ∀ k, f k = f' k) (e2 : ∀ k, g k = g' k) : NI V d cb mt mp p1 p3 f' g' V1 := ⟨h.sub, h.nt, h.np, h.ne, h.ck, h.b1, h.b3, h.mapT.congr e1, h.mapP.congr e2⟩
theorem newRoundT (h : NI V d cb mt mp p1 p3 f g V1) {bx : Nat} {v : Value} {ty : Nat} (hbx : V1 bx = some (cell v ty)) (x : Ty) (V2 : Mem) (b : Nat) (hb : V1 b = none) (e2 : V2 = V1.set b (.cells x.row.toArray 119 (0, 0))) :
  Seg Tryz.prog 38 c95c [(3, pv p3), (5, pv b)] [] V2 fun _ V3 => NI V d cb mt mp p1 p3 (fun k => if k = x.name then some x.v else f k) g V3 /\ V3 bx = some (cell v ty) := by
 subst e2
 have h2 := h.fresh hb (.cells x.row.toArray 119 (0, 0))
 have hbx2 := Mem.sub_new hb (.cells x.row.toArray 119 (0, 0)) _ _ hbx
 refine s95c ?_
 unfold w95c
 refine ⟨_, qBj h2.b3, by simp, by simp, some mt, qAd h2.ck 8 1 (by simp [Ds.row]), by simp, x.name, qAd mss 0 1 (by simp [Ty.row]), x.name, x.fs, qAd mss 0 2 (by simp [Ty.row]), ?_⟩
 exact UpdK.str Tryz.underlying202 Tryz.underlying9 h2.mapT fun o ho => ⟨_, rfl, h2.upT ho, by rw [Mem.set_ne (qDs hbx2 h2.mapT)]; exact hbx2⟩
theorem newRoundP (h : NI V d cb mt mp p1 p3 f g V1) {bx : Nat} {v : Value} {ty : Nat} (hbx : V1 bx = some (cell v ty)) (x : Pr) (V2 : Mem) (b : Nat) (hb : V1 b = none) (e2 : V2 = V1.set b (.cells x.row.toArray 79 (0, 0))) :
  Seg Tryz.prog 38 c95f [(3, pv p3), (7, pv b)] [] V2 fun _ V3 => NI V d cb mt mp p1 p3 f (fun k => if k = x.name then some x.v else g k) V3 /\ V3 bx = some (cell v ty) := by
 subst e2
 have h2 := h.fresh hb (.cells x.row.toArray 79 (0, 0))
 have hbx2 := Mem.sub_new hb (.cells x.row.toArray 79 (0, 0)) _ _ hbx
 refine s95f ?_
 unfold w95f
 refine ⟨_, qBj h2.b3, by simp, by simp, some mp, qAd h2.ck 9 1 (by simp [Ds.row]), by simp, x.name, qAd mss 0 1 (by simp [Pr.row]), x.name, x.ps, x.result, x.ls, x.bs, qAd mss 0 5 (by simp [Pr.row]), ?_⟩
 exact UpdK.str Tryz.underlying203 Tryz.underlying9 h2.mapP fun o ho => ⟨_, rfl, h2.upP ho, by rw [Mem.set_ne (qDs hbx2 h2.mapP)]; exact hbx2⟩
theorem newAssignT (x : Ty) : Seg Tryz.prog 38 c95b [(3, pv p3), (17, Ty.v x)] [3, 5] V1 fun vs V2 => ∃ b, V1 b = none /\ V2 = V1.set b (.cells x.row.toArray 119 (0, 0)) /\ vs = [pv p3, pv b] := by
 refine s95b (b := x.name) (c := x.fs) ?_
 unfold w95b
 exact fun b hb => ⟨_, rfl, b, hb, rfl, rfl⟩
theorem newAssignP (x : Pr) : Seg Tryz.prog 38 c95e [(3, pv p3), (29, Pr.v x)] [3, 7] V1 fun vs V2 => ∃ b, V1 b = none /\ V2 = V1.set b (.cells x.row.toArray 79 (0, 0)) /\ vs = [pv p3, pv b] := by
 refine s95e (b := x.name) (c := x.ps) (d := x.result) (g := x.ls) (i := x.bs) ?_
 unfold w95e
 exact fun b hb => ⟨_, rfl, b, hb, rfl, rfl⟩
end
theorem qIq {N : Nat} {a : Act} {p q r : Nat} {l : List (Nat × Value)} {vr u z : Value} (hH : Has N a l) (hr : l.lookup r = some vr) (hp : r ≠ p) (hq : r ≠ q) (hlt : q < N) : Has N { tmps := (#[p, q].zip #[u, z]).foldl (fun t (p, v) => t.setIfInBounds p v) a.tmps, defers := [] } [(r, vr), (q, z)] := by
 refine ⟨by rw [qHU]; simpa using hH.1, fun s v hs => ?_⟩
 rw [qHU]
 simp only [List.lookup_cons] at hs
 split at hs
 ·rename_i e; simp only [beq_iff_eq] at e; subst e; cases hs
  rw [qFS hq, qFS hp]; exact hH.get hr
 ·split at hs
  ·rename_i e; simp only [beq_iff_eq] at e; subst e; cases hs
   exact getD_same (by simp [hH.1, hlt])
  ·cases hs
theorem mark_keep {V V1 : Mem} {w w1 : World} {D : Nat} (h : Frm V w V1 w1) (hn : V D = none) (hW : w.heap[D]? = some (.deferred (some []))) : w1.heap[D]? = some (.deferred (some [])) /\ V1 D = none := by
 have hlt := (Array.getElem?_eq_some_iff.1 hW).1
 refine ⟨(h.old D hlt hn).trans hW, ?_⟩
 cases hc : V1 D with
 | none => rfl
 | some o =>
  rcases h.dom D (by rw [hc]; simp) with h | h
  ·exact absurd hn h
  ·omega
theorem find_drop {α : Type} {l : List α} {nm : α -> ByteArray} {vv : α -> Value} {k : Nat} {x : α} (hx : l[k]? = some x) (y : ByteArray) :
  (if y = nm x then some (vv x) else ((l.drop (l.length - (l.length - 1 - k))).find? fun t => decide (nm t = y)).map vv) = ((l.drop (l.length - (l.length - k))).find? fun t => decide (nm t = y)).map vv := by
 have hk := (List.getElem?_eq_some_iff.1 hx).1
 rw [show l.length - (l.length - 1 - k) = k + 1 by omega, show l.length - (l.length - k) = k by omega]
 have e3 : l.drop k = x :: l.drop (k + 1) := by
  rw [List.drop_eq_getElem_cons hk]; rw [(List.getElem?_eq_some_iff.1 hx).2]
 rw [e3, List.find?_cons]
 by_cases e : y = nm x
 ·rw [if_pos e, decide_eq_true e.symm]; rfl
 ·rw [if_neg e, decide_eq_false (fun h => e h.symm)]
theorem newC : NewC := by
 intro V d hd
 refine qFk (c := qAj Tryz.f95) Tryz.func95 (by kernel_rfl) ?_
 intro w hV
 rw [show flat (qAj Tryz.f95) = c95a ++ ([.block 0 (.rangeFunc (.tmp 15) #[16, 17] ((qBX (qAj Tryz.f95) [3, 0, 0, 0]).getD 0 .skip) ((qBX (qAj Tryz.f95) [3, 0, 0, 1]).getD 0 .skip))] ++
  (c95d ++ ([.block 2 (.rangeFunc (.tmp 27) #[28, 29] ((qBX (qAj Tryz.f95) [5, 0, 0, 0]).getD 0 .skip) ((qBX (qAj Tryz.f95) [5, 0, 0, 1]).getD 0 .skip))] ++ (c95g ++ [.ret])))) from by kernel_rfl]
 have hA : Seg Tryz.prog 38 c95a [(0, d.v)] [1, 3, 15] V fun vs V1 => ∃ cb mt mp p1 p3 bx,
   vs = [pv p1, pv p3, .func (.func 164) #[] #[pv bx]] /\ NI V d cb mt mp p1 p3 (fun _ => none) (fun _ => none) V1 /\ V1 bx = some (cell (.slice d.ts.p d.ts.n d.ts.c) 22) := by
  refine s95a (a := d.name) (b := d.ts) (c := d.gs) (d := d.ps) (g := d.ms) (i := d.is) (j := d.qs) (k := d.bs) ?_
  unfold w95a
  refine GenK.makeMap fun mt hmt => ⟨some mt, rfl, GenK.makeMap fun mp hmp => ⟨some mp, rfl, ?_⟩⟩
  refine Tri.mono c129 ?_
  rintro _ V2 ⟨bx, hbx, rfl, rfl⟩
  refine ⟨.func (.func 164) #[] #[pv bx], rfl, rfl, fun p1 hp1 cb hcb p3 hp3 => ⟨_, rfl, cb, mt, mp, p1, p3, bx, rfl, ?_, ?_⟩⟩
  all_goals
   have s1 := Mem.sub_new hmt (.map #[] 0)
   have s2 := Mem.sub_new hmp (.map #[] 0)
   have s3 := Mem.sub_new hbx (cell (.slice d.ts.p d.ts.n d.ts.c) 22)
   have s4 := Mem.sub_new hp1 (.cells d.row.toArray 30 (0, 0))
   have s5 := Mem.sub_new hcb (.cells (d.row ++ [Value.map (some mt), Value.map (some mp)]).toArray 205 (0, 0))
   have s6 := Mem.sub_new hp3 (cell (pv cb) 171)
  ·have nmp : mt ≠ mp := fun e => by rw [<- e, Mem.set_same] at hmp; cases hmp
   refine ⟨s1.trans (s2.trans (s3.trans (s4.trans (s5.trans s6)))), hmt, ?_, nmp, s6 _ _ mss, (s5.trans s6) _ _ mss, Mem.set_same _ _ _, (qAS.made V mt).sub (s2.trans (s3.trans (s4.trans (s5.trans s6)))), (qAS.made (V.set mt (.map #[] 0)) mp).sub (s3.trans (s4.trans (s5.trans s6)))⟩
   cases hv : V mp with
   | none => rfl
   | some o => have := s1 _ _ hv; rw [hmp] at this; cases this
  ·exact (s4.trans (s5.trans s6)) _ _ mss
 refine hA.step hV (qFR (args := [d.v]) (N := 38) (by simp)) ?_
 rintro a1 w1 vs V1 hd1 hH1 ⟨cb, mt, mp, p1, p3, bx, rfl, hN1, hbx1⟩ hF1
 show Code.wpIn (qAw none) 0 Tryz.prog _ _ a1 w1
 refine wpIn_block ?_
 have hit := fun fn lp D hlp => it164 (V := V1) (fn' := fn) (tmps := a1.tmps) (ps := #[16, 17]) (assign := (qBX (qAj Tryz.f95) [3, 0, 0, 0]).getD 0 .skip) (body := (qBX (qAj Tryz.f95) [3, 0, 0, 1]).getD 0 .skip) (D := D) (l := lp) (bx := bx) (s := d.ts) (xs := d.types)
  (J := fun i V2 => NI V d cb mt mp p1 p3 (fun y => ((d.types.drop (d.types.length - i)).find? fun t => decide (t.name = y)).map Ty.v) (fun _ => none) V2 /\ V2 bx = some (cell (.slice d.ts.p d.ts.n d.ts.c) 22)) rfl (fun i V2 hj _ => ⟨hj.2, hd.types.sub hj.1.sub⟩) (fun k x hx V2 hj hl2 w2 hw2 => by
   refine qEY (N := 38) (insA := [(3, pv p3), (17, Ty.v x)]) (outsA := [3, 5]) hl2 hw2 (qIq (u := .int .i64 k) (z := Ty.v x) (p := 16) (q := 17) (r := 3) hH1 rfl (by decide) (by decide) (by decide)).1 (qIq (p := 16) (q := 17) (r := 3) hH1 rfl (by decide) (by decide) (by decide)).2 (newAssignT x) (fun vs V3 hvs => ?_)
   obtain ⟨b, hb, e2, rfl⟩ := hvs
   exact (newRoundT hj.1 hj.2 x V3 b hb e2).mono fun _ V4 h4 => ⟨h4.1.cg (find_drop (nm := Ty.name) (vv := Ty.v) hx) fun _ => rfl, h4.2⟩)
  ⟨by simpa using hN1, hbx1⟩ hlp
 refine qFc (Φ := fun V2 => NI V d cb mt mp p1 p3 (fun y => (tyOf d y).map Ty.v) (fun _ => none) V2) hF1.le (hH1.get (s := 15) rfl) Tryz.call164 (fun fn lp D hlp => Tri.mono (hit fn lp D hlp) fun e V' h => ?_) ?_
 ·obtain ⟨h1, V2, h2, h3, h4⟩ := h
  exact ⟨h1, V2, h2, h3, by simpa [tyOf] using h4.1⟩
 intro D V2 W hD hF2 hn2 hW hN2
 show wpL none 0 Tryz.prog _ (c95d ++ _) _ W
 have hS : Seg Tryz.prog 38 c95d [(1, pv p1), (3, pv p3)] [3, 27] V2 fun vs V3 => ∃ bx, vs = [pv p3, .func (.func 165) #[] #[pv bx]] /\ NI V d cb mt mp p1 p3 (fun y => (tyOf d y).map Ty.v) (fun _ => none) V3 /\ V3 bx = some (cell (.slice d.ps.p d.ps.n d.ps.c) 24) := by
  refine s95d ?_
  unfold w95d
  refine ⟨by simp, d.ps, qAd hN2.b1 3 1 (by simp [Ds.row]), ?_⟩
  refine Tri.mono c130 ?_
  rintro _ V3 ⟨bx, hbx, rfl, rfl⟩
  exact ⟨.func (.func 165) #[] #[pv bx], rfl, rfl, _, rfl, bx, rfl, hN2.fresh hbx _, Mem.set_same _ _ _⟩
 refine hS.step hF2.le ⟨hH1.1, fun s v hs => hH1.2 s v ?_⟩ ?_
 ·simp only [List.zip_cons_cons, List.lookup_cons] at hs ⊢
  repeat' (split at hs <;> first | exact hs | skip)
  all_goals first | exact hs | (cases hs)
 rintro a3 w3 vs V3 hd3 hH3 ⟨bx2, rfl, hN3, hbx3⟩ hF3
 show Code.wpIn (qAw none) 0 Tryz.prog _ _ a3 w3
 refine wpIn_block ?_
 have hit2 := fun fn lp D hlp => it165 (V := V3) (fn' := fn) (tmps := a3.tmps) (ps := #[28, 29]) (assign := (qBX (qAj Tryz.f95) [5, 0, 0, 0]).getD 0 .skip) (body := (qBX (qAj Tryz.f95) [5, 0, 0, 1]).getD 0 .skip) (D := D) (l := lp) (bx := bx2) (s := d.ps) (xs := d.procs)
  (J := fun i V2 => NI V d cb mt mp p1 p3 (fun y => (tyOf d y).map Ty.v) (fun y => ((d.procs.drop (d.procs.length - i)).find? fun t => decide (t.name = y)).map Pr.v) V2 /\ V2 bx2 = some (cell (.slice d.ps.p d.ps.n d.ps.c) 24)) rfl (fun i V2 hj _ => ⟨hj.2, hd.procs.sub hj.1.sub⟩) (fun k x hx V2 hj hl2 w2 hw2 => by
   refine qEY (N := 38) (insA := [(3, pv p3), (29, Pr.v x)]) (outsA := [3, 7]) hl2 hw2 (qIq (u := .int .i64 k) (z := Pr.v x) (p := 28) (q := 29) (r := 3) hH3 rfl (by decide) (by decide) (by decide)).1 (qIq (p := 28) (q := 29) (r := 3) hH3 rfl (by decide) (by decide) (by decide)).2 (newAssignP x) (fun vs V3 hvs => ?_)
   obtain ⟨b, hb, e2, rfl⟩ := hvs
   exact (newRoundP hj.1 hj.2 x V3 b hb e2).mono fun _ V4 h4 => ⟨h4.1.cg (fun _ => rfl) (find_drop (nm := Pr.name) (vv := Pr.v) hx), h4.2⟩)
  ⟨by simpa using hN3, hbx3⟩ hlp
 refine qFc (Φ := fun V2 => NI V d cb mt mp p1 p3 (fun y => (tyOf d y).map Ty.v) (fun y => (qHB d y).map Pr.v) V2) hF3.le (hH3.get (s := 27) rfl) Tryz.call165 (fun fn lp D hlp => Tri.mono (hit2 fn lp D hlp) fun e V' h => ?_) ?_
 ·obtain ⟨h1, V2, h2, h3, h4⟩ := h
  exact ⟨h1, V2, h2, h3, by simpa [qHB] using h4.1⟩
 intro D2 V4 W4 hD2 hF4 hn4 hW4 hN4
 show wpL none 0 Tryz.prog _ (c95g ++ _) _ W4
 have hS2 : Seg Tryz.prog 38 c95g [(3, pv p3)] [2] V4 fun vs V5 => V5 = V4 /\ vs = [pv cb] := by
  refine s95g ?_
  unfold w95g
  exact ⟨_, qBj hN4.b3, _, rfl, rfl, rfl⟩
 refine hS2.step hF4.le ⟨hH3.1, fun s v hs => hH3.2 s v ?_⟩ ?_
 ·simp only [List.zip_cons_cons, List.lookup_cons] at hs ⊢
  repeat' (split at hs <;> first | exact hs | skip)
  all_goals first | exact hs | (cases hs)
 rintro a5 w5 vs V5 hd5 hH5 ⟨rfl, rfl⟩ hF5
 show Code.wpIn (qAw none) 0 Tryz.prog .ret _ a5 w5
 refine wpIn_ret ?_
 obtain ⟨g1, g2, g3, g4⟩ := qEn hF1 hF2 hD hn2 hW hF3
 obtain ⟨k1, k2, k3, k4⟩ := qEn g1 hF4 hD2 hn4 hW4 hF5
 obtain ⟨m1, m2⟩ := mark_keep (hF4.trans hF5) g4 g3
 have hDlt : D < w3.heap.size := (Array.getElem?_eq_some_iff.1 g3).1
 refine ⟨.inr rfl, [D2, D], ?_, by simp; omega, _, k1, fun D' hD' => ?_, _, fun w6 hw6 => results_tmp (t := 2) (by kernel_rfl) _ _ _, some ⟨cb, 0, none⟩, by rw [hH5.get rfl], hN4.sub, ?_⟩
 ·rw [hd5]; simp [hd3, hd1]
 ·simp only [List.mem_cons, List.not_mem_nil, or_false] at hD'
  rcases hD' with rfl | rfl
  ·exact ⟨k2, k3, k4⟩
  ·exact ⟨g2, m1, m2⟩
 ·exact ⟨⟨cb, mt, mp, 205, rfl, hN4.ck, hN4.mapT, hN4.mapP⟩, hd.sub hN4.sub⟩
section
variable {P : Program} {V : Mem} {ty : Nat} {vals : Operand -> Value}
theorem GenK.shr {t u : TypeId} {x : Operand} {k kk : IntKind} {n c : Int} (hx : vals x = .int k n) (hy : vals (.const (.int kk c)) = .int kk c) (hc : ¬ c < 0) {q : Value -> Mem -> Prop} (hq : q (.int k (n.fdiv (2 ^ (min c.toNat k.bits)))) V) : GenK P (.binOp .shr t x (.const (.int kk c)) u) ty vals V q := by
 intro w hw
 refine ⟨_, w, V, ?_, Frm.refl hw, hq⟩
 unfold execOp
 simp [hx, hy, binOp, Op.shift, hc, eqGuard]
theorem GenK.max2 {a b : Operand} {ts : Array TypeId} {n1 n2 : Int} (h1 : vals a = .int .i64 n1) (h2 : vals b = .int .i64 n2) {q : Value -> Mem -> Prop} (hq : q (.int .i64 (if n1 < n2 then n2 else n1)) V) : GenK P (.call { callee := .builtin .max, args := #[a, b], argTypes := ts }) ty vals V q := by
 intro w hw
 refine ⟨_, w, V, ?_, Frm.refl hw, hq⟩
 unfold execOp
 simp only [resolve, invoke, builtin, Sem.run_bind, Sem.run_pure, Result.andThen_ok, List.map_toArray, List.map_cons, List.map_nil, h1, h2]
 simp [Builtin.max_, Builtin.max2]
theorem GenK.min2 {a b : Operand} {ts : Array TypeId} {n1 n2 : Int} (h1 : vals a = .int .i64 n1) (h2 : vals b = .int .i64 n2) {q : Value -> Mem -> Prop} (hq : q (.int .i64 (if n2 < n1 then n2 else n1)) V) : GenK P (.call { callee := .builtin .min, args := #[a, b], argTypes := ts }) ty vals V q := by
 intro w hw
 refine ⟨_, w, V, ?_, Frm.refl hw, hq⟩
 unfold execOp
 simp only [resolve, invoke, builtin, Sem.run_bind, Sem.run_pure, Result.andThen_ok, List.map_toArray, List.map_cons, List.map_nil, h1, h2]
 simp [Builtin.min_, Builtin.min2]
theorem GenK.iface {t : TypeId} {ts : Array Field} {x : Operand} {v : Value} (ht : P.underlying t = some (.struct ts)) (hx : vals x = v) {q : Value -> Mem -> Prop} (hq : q (.iface t v) V) : GenK P (.makeInterface t x) ty vals V q := by
 intro w hw
 refine ⟨_, w, V, ?_, Frm.refl hw, hq⟩
 unfold execOp
 simp [hx, Instr.makeInterface, run_underlying ht, Sem.run_bind]
end
section
variable {V : Mem}
theorem qIw {n : Nat} {k : Nat} : ((n : Int)).fdiv (2 ^ k) = ((n / 2 ^ k : Nat) : Int) := by
 rw [show ((2 : Int) ^ k) = ((2 ^ k : Nat) : Int) by simp]; rw [Int.fdiv_eq_ediv_of_nonneg _ (Int.natCast_nonneg _)]; simp
theorem inU (n : Nat) (h : n < 18446744073709551616) : K.inR .u64 (n : Int) := K.inR_iff.2 (by simp [IntKind.min, IntKind.max, IntKind.signed, IntKind.bits]; omega)
end
abbrev qGH : ByteArray := qAo [0, 1, 2, 2, 3, 3, 3, 3, 4, 4, 4, 4, 4, 4, 4, 4, 5, 5, 5, 5, 5, 5, 5, 5, 5, 5, 5, 5, 5, 5, 5, 5, 6, 6, 6, 6, 6, 6, 6, 6, 6, 6, 6, 6, 6, 6, 6, 6, 6, 6, 6, 6, 6, 6, 6, 6, 6, 6, 6, 6, 6, 6, 6, 6, 7, 7, 7, 7, 7, 7, 7, 7, 7, 7, 7, 7, 7, 7, 7, 7, 7, 7, 7, 7, 7, 7, 7, 7, 7, 7, 7, 7, 7, 7, 7, 7, 7, 7, 7, 7, 7, 7, 7, 7, 7, 7, 7, 7, 7, 7, 7, 7, 7, 7, 7, 7, 7, 7, 7, 7, 7, 7, 7, 7, 7, 7, 7, 7, 8, 8, 8, 8, 8, 8, 8, 8, 8, 8, 8, 8, 8, 8, 8, 8, 8, 8, 8, 8, 8, 8, 8, 8, 8, 8, 8, 8, 8, 8, 8, 8, 8, 8, 8, 8, 8, 8, 8, 8, 8, 8, 8, 8, 8, 8, 8, 8, 8, 8, 8, 8, 8, 8, 8, 8, 8, 8, 8, 8, 8, 8, 8, 8, 8, 8, 8, 8, 8, 8, 8, 8, 8, 8, 8, 8, 8, 8, 8, 8, 8, 8, 8, 8, 8, 8, 8, 8, 8, 8, 8, 8, 8, 8, 8, 8, 8, 8, 8, 8, 8, 8, 8, 8, 8, 8, 8, 8, 8, 8, 8, 8, 8, 8, 8, 8, 8, 8, 8, 8, 8, 8, 8, 8, 8, 8, 8, 8]
def lenN (n : Nat) : Int := if n = 0 then 0 else (Nat.log2 n : Int) + 1
theorem lenTab_at {n : Nat} (h : n < 256) : qAW qGH (n : Int) = lenN n := by
 have : ((List.range 256).all fun n => decide (qAW qGH (n : Int) = lenN n)) = true := by kernel_rfl
 exact of_decide_eq_true (List.all_eq_true.1 this n (List.mem_range.2 h))
theorem log2_shift {n k : Nat} (h : 2 ^ k <= n) : Nat.log2 n = k + Nat.log2 (n / 2 ^ k) := by
 have hp : 0 < 2 ^ k := Nat.two_pow_pos k
 have h0 : n / 2 ^ k ≠ 0 := by
  have := (Nat.le_div_iff_mul_le hp).2 (by rw [Nat.one_mul]; exact h : 1 * 2 ^ k <= n)
  omega
 have hn : n ≠ 0 := by omega
 have key : ∀ j, j <= Nat.log2 (n / 2 ^ k) ↔ k + j <= Nat.log2 n := fun j => by
  rw [Nat.le_log2 h0, Nat.le_log2 hn, Nat.le_div_iff_mul_le hp, <- Nat.pow_add, Nat.add_comm]
 have h1 := (key (Nat.log2 (n / 2 ^ k))).1 (Nat.le_refl _)
 have h2 : k <= Nat.log2 n := (Nat.le_log2 hn).2 h
 have h3 := (key (Nat.log2 n - k)).2 (by omega)
 omega
theorem qCP {n k : Nat} (h : 2 ^ k <= n) : lenN n = k + lenN (n / 2 ^ k) := by
 have hp : 0 < 2 ^ k := Nat.two_pow_pos k
 have h0 : n / 2 ^ k ≠ 0 := by
  have := (Nat.le_div_iff_mul_le hp).2 (by rw [Nat.one_mul]; exact h : 1 * 2 ^ k <= n)
  omega
 unfold lenN
 rw [if_neg (by omega), if_neg h0, log2_shift h]
 omega
theorem lenN_small {n : Nat} (h : n < 256) : 0 <= lenN n /\ lenN n <= 8 := by
 unfold lenN
 split
 ·omega
 ·rename_i h0
  have : Nat.log2 n < 8 := (Nat.log2_lt h0).2 h
  omega
section
variable {V : Mem}
theorem c257 {n : Nat} (hn : n <= 1099511627776) : PP 257 [.int .u64 n] V (.int .i64 (lenN n)) := by
 refine x257 ?_
 unfold w257
 have shr : ∀ (k : Nat) (c : Int), min c.toNat IntKind.u64.bits = k -> (n : Int).fdiv (2 ^ (min c.toNat IntKind.u64.bits)) = ((n / 2 ^ k : Nat) : Int) := fun k c h => by rw [h, qIw]
 have leaf : ∀ (k c : Nat), k < 256 -> c <= 64 -> lenN n = c + lenN k -> ∀ v : Int, v = (k : Int) -> ∀ c' : Int, c' = (c : Int) -> K.inR .u8 v /\ (0 <= v /\ v < (qGH.size : Int)) /\ IR (qAW qGH v) /\ IR (c' + qAW qGH v) /\ (rV (uI (c' + qAW qGH v)) = Ending.returned (.int .i64 (lenN n)) /\ V = V) := by
  rintro k c h1 h2 h3 _ rfl _ rfl
  have h4 := lenN_small h1
  have hs : qGH.size = 256 := by kernel_rfl
  rw [lenTab_at h1, hs, h3]
  exact ⟨⟨by omega, by omega⟩, ⟨by omega, by omega⟩, ⟨by omega, by omega⟩, ⟨by omega, by omega⟩, rfl, rfl⟩
 refine ⟨fun h1 => GenK.shr rfl rfl (by decide) ⟨_, rfl, ?_⟩, fun h1 => ⟨fun h2 => GenK.shr rfl rfl (by decide) ⟨_, rfl, ⟨by omega, by omega⟩, ?_⟩, fun h2 => ⟨fun h3 => GenK.shr rfl rfl (by decide) ⟨_, rfl, ⟨by omega, by omega⟩, ?_⟩, fun h3 => ?_⟩⟩⟩
 ·rw [shr 32 _ rfl]
  have e := qCP (n := n) (k := 32) (by omega)
  have hb : n / 2 ^ 32 <= 256 := by omega
  refine ⟨fun h => by omega, fun _ => ⟨fun h2 => GenK.shr rfl rfl (by decide) ⟨_, rfl, ⟨by omega, by omega⟩, ?_⟩, fun h2 => leaf _ 32 (by omega) (by omega) (by omega) _ rfl _ rfl⟩⟩
  have e2 := qCP (n := n / 2 ^ 32) (k := 8) (by omega)
  have : ((n / 2 ^ 32 : Nat) : Int).fdiv (2 ^ (min (8 : Int).toNat IntKind.u64.bits)) = ((n / 2 ^ 32 / 2 ^ 8 : Nat) : Int) := by
   rw [show min (8 : Int).toNat IntKind.u64.bits = 8 from rfl, qIw]
  rw [this]
  exact leaf _ 40 (by omega) (by omega) (by omega) _ rfl _ rfl
 ·rw [shr 16 _ rfl]
  have e := qCP (n := n) (k := 16) (by omega)
  refine ⟨fun h => GenK.shr rfl rfl (by decide) ⟨_, rfl, ⟨by omega, by omega⟩, ?_⟩, fun h => leaf _ 16 (by omega) (by omega) (by omega) _ rfl _ rfl⟩
  have e2 := qCP (n := n / 2 ^ 16) (k := 8) (by omega)
  have : ((n / 2 ^ 16 : Nat) : Int).fdiv (2 ^ (min (8 : Int).toNat IntKind.u64.bits)) = ((n / 2 ^ 16 / 2 ^ 8 : Nat) : Int) := by
   rw [show min (8 : Int).toNat IntKind.u64.bits = 8 from rfl, qIw]
  rw [this]
  exact leaf _ 24 (by omega) (by omega) (by omega) _ rfl _ rfl
 ·rw [shr 8 _ rfl]
  have e := qCP (n := n) (k := 8) (by omega)
  exact leaf _ 8 (by omega) (by omega) (by omega) _ rfl _ rfl
 ·exact leaf _ 0 (by omega) (by omega) (by omega) _ rfl _ rfl
theorem c232 {n : Nat} (hn : n <= 1099511627776) : PP 232 [.int .u64 n] V (.int .i64 (lenN n)) := by
 refine x232 ?_
 unfold w232
 exact (c257 hn).call ⟨_, rfl, rfl, rfl⟩
end
end Go.Proofs
