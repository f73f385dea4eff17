/- Part 8 of a proof of a law of this seat: no statement of the seat is proved here. -/
import Derived.Test.YtlnbdjekdkodcaaGreatDoorPart05
import Derived.Test.YtlnbdjekdkodcaaGreatDoorPart06
import Derived.Test.YtlnbdjekdkodcaaGreatDoorPart07
import Derived.Shelf.Strings.Fields
import Derived.Test.YtlnbdjekdkodcaaGreatDoorProg
import Derived.Sort.Walk0
import Derived.RangeFuncRecord
set_option linter.unusedVariables false
set_option linter.unusedSimpArgs false
namespace Go.Proofs
open Go Go.Sx
set_option maxRecDepth 100000
set_option linter.unusedVariables false
section
variable {V : Mem} {R : RP}
def w218 (a : ByteArray) (b : Sl) (c d g : Option Addr) : MR := fun V R => ∃ i, K.f.ok i /\ V.rowp c ((0 : Int).toNat * 1) 1 = some [i] /\ ∃ j, K.f.ok j /\ V.rowp c ((0 : Int).toNat * 1) 1 = some [j] /\ ∃ k, V.rowp d ((0 : Int).toNat * 1) 1 = some [uL k] /\ ∃ l, V.rowp g ((0 : Int).toNat * 1) 1 = some [uI l] /\ Ix k l (∃ o p, V.rowp k.p (l.toNat * 2) 2 = some [uS o, uL p] /\ ∃ f first caps, K.cast .f i = .func (.func f) first caps /\ CO f /\ TT f (first ++ #[uA #[uS a, uL b]] ++ caps) V fun e V1 => ∃ q, e = rV (uS q) /\ V1.rowp (qAb k.p (l.toNat * 2)) 0 2 = some [uS o, uL p] /\ Ix k l (V1.rowp g 0 1 = some [uI l] /\ V1.rowp d 0 1 = some [uL k] /\ V1.rowp c 0 1 = some [K.cast .f j] /\ ∃ f first caps, K.cast .f j = .func (.func f) first caps /\ CO f /\ TT f (first ++ #[uA #[uS o, uL p]] ++ caps) V1 fun e V2 => ∃ r, e = rV (uS r) /\ R (rV (uB (decide (q = r)))) V2))
theorem x218 {a : ByteArray} {b : Sl} {c d g : Option Addr} (h : w218 a b c d g V R) : TT 218 #[uA #[uS a, uL b], uP c, uP d, uP g] V R := trx Tryz.func218 h
def w219 (a b : ByteArray) (c : Option Addr) : MR := fun V R => ¬ c = none /\ ∃ d, V.rowp c ((0 : Int).toNat * 1) 1 = some [uS d] /\ R (rV (uB (decide (a = d)))) V
theorem x219 {a b : ByteArray} {c : Option Addr} (h : w219 a b c V R) : TT 219 #[uA #[uS a, uS b], uP c] V R := trx Tryz.func219 h
def w220 (a b : ByteArray) (c d g : Option Addr) : MR := fun V R => ∃ i, K.f.ok i /\ V.rowp c ((0 : Int).toNat * 1) 1 = some [i] /\ ∃ j, K.f.ok j /\ V.rowp c ((0 : Int).toNat * 1) 1 = some [j] /\ ∃ k, V.rowp d ((0 : Int).toNat * 1) 1 = some [uL k] /\ ∃ l, V.rowp g ((0 : Int).toNat * 1) 1 = some [uI l] /\ Ix k l (∃ o p, V.rowp k.p (l.toNat * 2) 2 = some [uS o, uS p] /\ ∃ f first caps, K.cast .f i = .func (.func f) first caps /\ CO f /\ TT f (first ++ #[uA #[uS a, uS b]] ++ caps) V fun e V1 => ∃ q, e = rV (uS q) /\ V1.rowp (qAb k.p (l.toNat * 2)) 0 2 = some [uS o, uS p] /\ Ix k l (V1.rowp g 0 1 = some [uI l] /\ V1.rowp d 0 1 = some [uL k] /\ V1.rowp c 0 1 = some [K.cast .f j] /\ ∃ f first caps, K.cast .f j = .func (.func f) first caps /\ CO f /\ TT f (first ++ #[uA #[uS o, uS p]] ++ caps) V1 fun e V2 => ∃ r, e = rV (uS r) /\ R (rV (uB (decide (q = r)))) V2))
theorem x220 {a b : ByteArray} {c d g : Option Addr} (h : w220 a b c d g V R) : TT 220 #[uA #[uS a, uS b], uP c, uP d, uP g] V R := trx Tryz.func220 h
def w221 (a : ByteArray) (b : Sl) (c : ByteArray) (d g : Sl) (i j k : Option Addr) : MR := fun V R => ∃ l, K.f.ok l /\ V.rowp i ((0 : Int).toNat * 1) 1 = some [l] /\ ∃ o, K.f.ok o /\ V.rowp i ((0 : Int).toNat * 1) 1 = some [o] /\ ∃ p, V.rowp j ((0 : Int).toNat * 1) 1 = some [uL p] /\ ∃ q, V.rowp k ((0 : Int).toNat * 1) 1 = some [uI q] /\ Ix p q (∃ r s u y z, V.rowp p.p (q.toNat * 5) 5 = some [uS r, uL s, uS u, uL y, uL z] /\ ∃ f first caps, K.cast .f l = .func (.func f) first caps /\ CO f /\ TT f (first ++ #[uA #[uS a, uL b, uS c, uL d, uL g]] ++ caps) V fun e V1 => ∃ A, e = rV (uS A) /\ V1.rowp (qAb p.p (q.toNat * 5)) 0 5 = some [uS r, uL s, uS u, uL y, uL z] /\ Ix p q (V1.rowp k 0 1 = some [uI q] /\ V1.rowp j 0 1 = some [uL p] /\ V1.rowp i 0 1 = some [K.cast .f o] /\ ∃ f first caps, K.cast .f o = .func (.func f) first caps /\ CO f /\ TT f (first ++ #[uA #[uS r, uL s, uS u, uL y, uL z]] ++ caps) V1 fun e V2 => ∃ B, e = rV (uS B) /\ R (rV (uB (decide (A = B)))) V2))
theorem x221 {a : ByteArray} {b : Sl} {c : ByteArray} {d g : Sl} {i j k : Option Addr} (h : w221 a b c d g i j k V R) : TT 221 #[uA #[uS a, uL b, uS c, uL d, uL g], uP i, uP j, uP k] V R := trx Tryz.func221 h
def w222 (a : Sl) (b : Value) : MR := fun V R => TI 248 #[uL a, K.cast .f b] V fun c V1 => R (rV (uB (decide (0 <= c)))) V1
theorem x222 {a : Sl} {b : Value} (h : w222 a b V R) : TT 222 #[uL a, K.cast .f b] V R :=
 qAX Tryz.func222 [] [] false [uL a, b] (by kernel_rfl) (by kernel_rfl) h
def w223 (a b : ByteArray) (c d g : Int) (i : ByteArray) (j : Sl) (k l o : Option Addr) : MR := fun V R => ∃ p, K.f.ok p /\ V.rowp k ((0 : Int).toNat * 1) 1 = some [p] /\ ∃ q, K.f.ok q /\ V.rowp k ((0 : Int).toNat * 1) 1 = some [q] /\ ∃ r, V.rowp l ((0 : Int).toNat * 1) 1 = some [uL r] /\ ∃ s, V.rowp o ((0 : Int).toNat * 1) 1 = some [uI s] /\ Ix r s (∃ u y z A B C D, V.rowp r.p (s.toNat * 7) 7 = some [uS u, uS y, uI z, uI A, uI B, uS C, uL D] /\ ∃ f first caps, K.cast .f p = .func (.func f) first caps /\ CO f /\ TT f (first ++ #[uA #[uS a, uS b, uI c, uI d, uI g, uS i, uL j]] ++ caps) V fun e V1 => ∃ F, e = rV (uS F) /\ V1.rowp (qAb r.p (s.toNat * 7)) 0 7 = some [uS u, uS y, uI z, uI A, uI B, uS C, uL D] /\ Ix r s (V1.rowp o 0 1 = some [uI s] /\ V1.rowp l 0 1 = some [uL r] /\ V1.rowp k 0 1 = some [K.cast .f q] /\ ∃ f first caps, K.cast .f q = .func (.func f) first caps /\ CO f /\ TT f (first ++ #[uA #[uS u, uS y, uI z, uI A, uI B, uS C, uL D]] ++ caps) V1 fun e V2 => ∃ G, e = rV (uS G) /\ R (rV (uB (decide (F = G)))) V2))
theorem x223 {a b : ByteArray} {c d g : Int} {i : ByteArray} {j : Sl} {k l o : Option Addr} (h : w223 a b c d g i j k l o V R) : TT 223 #[uA #[uS a, uS b, uI c, uI d, uI g, uS i, uL j], uP k, uP l, uP o] V R := trx Tryz.func223 h
def w224 (a : Sl) (b : Value) : MR := fun V R => TI 249 #[uL a, K.cast .f b] V fun c V1 => R (rV (uB (decide (0 <= c)))) V1
theorem x224 {a : Sl} {b : Value} (h : w224 a b V R) : TT 224 #[uL a, K.cast .f b] V R :=
 qAX Tryz.func224 [] [] false [uL a, b] (by kernel_rfl) (by kernel_rfl) h
def w225 (a b : ByteArray) (c d : Int) (g : ByteArray) (i : Sl) (j k l : Option Addr) : MR := fun V R => ∃ o, K.f.ok o /\ V.rowp j ((0 : Int).toNat * 1) 1 = some [o] /\ ∃ p, K.f.ok p /\ V.rowp j ((0 : Int).toNat * 1) 1 = some [p] /\ ∃ q, V.rowp k ((0 : Int).toNat * 1) 1 = some [uL q] /\ ∃ r, V.rowp l ((0 : Int).toNat * 1) 1 = some [uI r] /\ Ix q r (∃ s u y z A B, V.rowp q.p (r.toNat * 6) 6 = some [uS s, uS u, uI y, uI z, uS A, uL B] /\ ∃ f first caps, K.cast .f o = .func (.func f) first caps /\ CO f /\ TT f (first ++ #[uA #[uS a, uS b, uI c, uI d, uS g, uL i]] ++ caps) V fun e V1 => ∃ C, e = rV (uS C) /\ V1.rowp (qAb q.p (r.toNat * 6)) 0 6 = some [uS s, uS u, uI y, uI z, uS A, uL B] /\ Ix q r (V1.rowp l 0 1 = some [uI r] /\ V1.rowp k 0 1 = some [uL q] /\ V1.rowp j 0 1 = some [K.cast .f p] /\ ∃ f first caps, K.cast .f p = .func (.func f) first caps /\ CO f /\ TT f (first ++ #[uA #[uS s, uS u, uI y, uI z, uS A, uL B]] ++ caps) V1 fun e V2 => ∃ D, e = rV (uS D) /\ R (rV (uB (decide (C = D)))) V2))
theorem x225 {a b : ByteArray} {c d : Int} {g : ByteArray} {i : Sl} {j k l : Option Addr} (h : w225 a b c d g i j k l V R) : TT 225 #[uA #[uS a, uS b, uI c, uI d, uS g, uL i], uP j, uP k, uP l] V R := trx Tryz.func225 h
def w226 (a : ByteArray) (b c : Int) (d : ByteArray) (g : Sl) (i j k : Option Addr) : MR := fun V R => ∃ l, K.f.ok l /\ V.rowp i ((0 : Int).toNat * 1) 1 = some [l] /\ ∃ o, K.f.ok o /\ V.rowp i ((0 : Int).toNat * 1) 1 = some [o] /\ ∃ p, V.rowp j ((0 : Int).toNat * 1) 1 = some [uL p] /\ ∃ q, V.rowp k ((0 : Int).toNat * 1) 1 = some [uI q] /\ Ix p q (∃ r s u y z, V.rowp p.p (q.toNat * 5) 5 = some [uS r, uI s, uI u, uS y, uL z] /\ ∃ f first caps, K.cast .f l = .func (.func f) first caps /\ CO f /\ TT f (first ++ #[uA #[uS a, uI b, uI c, uS d, uL g]] ++ caps) V fun e V1 => ∃ A, e = rV (uS A) /\ V1.rowp (qAb p.p (q.toNat * 5)) 0 5 = some [uS r, uI s, uI u, uS y, uL z] /\ Ix p q (V1.rowp k 0 1 = some [uI q] /\ V1.rowp j 0 1 = some [uL p] /\ V1.rowp i 0 1 = some [K.cast .f o] /\ ∃ f first caps, K.cast .f o = .func (.func f) first caps /\ CO f /\ TT f (first ++ #[uA #[uS r, uI s, uI u, uS y, uL z]] ++ caps) V1 fun e V2 => ∃ B, e = rV (uS B) /\ R (rV (uB (decide (A = B)))) V2))
theorem x226 {a : ByteArray} {b c : Int} {d : ByteArray} {g : Sl} {i j k : Option Addr} (h : w226 a b c d g i j k V R) : TT 226 #[uA #[uS a, uI b, uI c, uS d, uL g], uP i, uP j, uP k] V R := trx Tryz.func226 h
def w228 (a : Option Addr) (b : Option Nat) (c : Bool) (d : Int) (g : ByteArray) (i j k : Sl) (l : ByteArray) : MR := fun V R => Br (d = 6) (¬ i.p = none /\ (0 : Int) <= (0 : Int) /\ 0 < (i.n : Int) /\ ∃ o p q r, V.rowp i.p ((0 : Int).toNat * 4) 4 = some [uI o, uI p, uS q, uL r] /\ TT 251 #[uA #[uP a, uM b, uB c], uA #[uI o, uI p, uS q, uL r]] V fun e V1 => ∃ s u, e = rT #[uS s, uI u] /\ R (rV (uI u)) V1) (Lp [uI 0, .slice none 0 0, uI 0] V fun I n V1 => ∀ o p q, I n [uI o, uL p, uI q] V1 -> ∀ J0 : LMP, Nx I n J0 -> Br (q < (i.n : Int)) (Ix i q (∃ r s u y, V1.rowp i.p (q.toNat * 4) 4 = some [uI r, uI s, uS u, uL y] /\ TT 229 #[uA #[uP a, uM b, uB c], uA #[uI r, uI s, uS u, uL y]] V1 fun e V2 => ∃ z A, e = rT #[uS z, uI A] /\ Br (A = 0) (qAB [uS z] 9 V2 fun B V3 => GenK Tryz.prog (.call { callee := (.builtin .append), args := #[(.tmp 48), (.tmp 50)], argTypes := #[217, 217] }) 217 (gv [(48, uL p), (50, .slice (qAb B 0) 1 1)]) V3 fun x V4 => ∃ C, x = uL C /\ IR (q + 1) /\ J0 [uI o, uL C, uI (q + 1)] V4) (R (rV (uI A)) V2))) (Br (d = 1) (qBN Tryz.prog 252 (uM b) (uS g) true V1 fun x => ∃ r s, x = .tuple #[uS r, uB s] /\ Br (s = true) (¬ p.p = none /\ (0 : Int) <= (0 : Int) /\ 0 < (p.n : Int) /\ ∃ u, V1.rowp p.p ((0 : Int).toNat * 1) 1 = some [uS u] /\ TB 252 #[uP a, uS u, uS r] V1 fun y V2 => Br (y = true) (R (rV (uI 0)) V2) (R (rV (uI 11)) V2)) (R (rV (uI 9)) V1)) (Br (d = 2) (¬ p.p = none /\ (0 : Int) <= (0 : Int) /\ 0 < (p.n : Int) /\ ∃ r, V1.rowp p.p ((0 : Int).toNat * 1) 1 = some [uS r] /\ TT 253 #[uP a, uS r, uS g] V1 fun e V2 => ∃ s u, e = rT #[uS s, uI u] /\ Br (u = 0) (¬ p.p = none /\ (0 : Int) <= (1 : Int) /\ 1 < (p.n : Int) /\ ∃ y, V2.rowp p.p 1 1 = some [uS y] /\ TB 252 #[uP a, uS y, uS s] V2 fun z V3 => Br (z = true) (R (rV (uI 0)) V3) (R (rV (uI 11)) V3)) (R (rV (uI u)) V2)) (Br (d = 3) (¬ p.p = none /\ (0 : Int) <= (0 : Int) /\ 0 < (p.n : Int) /\ ∃ r, V1.rowp p.p ((0 : Int).toNat * 1) 1 = some [uS r] /\ Br (r = (qAo [98, 111, 111, 108])) (R (rV (uI 0)) V1) (R (rV (uI 11)) V1)) (Br (d = 4) (¬ p.p = none /\ (0 : Int) <= (0 : Int) /\ 0 < (p.n : Int) /\ ∃ r, V1.rowp p.p ((0 : Int).toNat * 1) 1 = some [uS r] /\ Br (r = (qAo [98, 111, 111, 108])) (R (rV (uI 0)) V1) (R (rV (uI 11)) V1)) (Br (d = 5) (Br ((p.n : Int) = 0) (Br (l = (qAo [])) (R (rV (uI 0)) V1) (R (rV (uI 11)) V1)) (Br (l = (qAo [])) (R (rV (uI 11)) V1) (¬ p.p = none /\ (0 : Int) <= (0 : Int) /\ 0 < (p.n : Int) /\ ∃ r, V1.rowp p.p ((0 : Int).toNat * 1) 1 = some [uS r] /\ TB 252 #[uP a, uS r, uS l] V1 fun s V2 => Br (s = true) (R (rV (uI 0)) V2) (R (rV (uI 11)) V2)))) (R (rV (uI 0)) V1)))))))
theorem x228 {a : Option Addr} {b : Option Nat} {c : Bool} {d : Int} {g : ByteArray} {i j k : Sl} {l : ByteArray} (h : w228 a b c d g i j k l V R) : TT 228 #[uA #[uP a, uM b, uB c], uA #[uI d, uS g, uL i, uL j, uL k], uS l] V R := trx Tryz.func228 h
def w229 (a : Option Addr) (b : Option Nat) (c : Bool) (d g : Int) (i : ByteArray) (j : Sl) : MR := fun V R => Br (d = 7) (TT 251 #[uA #[uP a, uM b, uB c], uA #[uI d, uI g, uS i, uL j]] V fun e V1 => ∃ k l, e = rT #[uS k, uI l] /\ Br (l = 0) (Br (k = (qAo [])) (R (rT #[uS (qAo []), uI 11]) V1) (R (rT #[uS k, uI l]) V1)) (R (rT #[uS k, uI l]) V1)) (Lp [uS (qAo []), uI 0, .slice none 0 0, uI 0] V fun I n V1 => ∀ k l o p, I n [uS k, uI l, uL o, uI p] V1 -> ∀ J0 : LMP, Nx I n J0 -> Br (p < (j.n : Int)) (Ix j p (∃ q r s u, V1.rowp j.p (p.toNat * 4) 4 = some [uI q, uI r, uS s, uL u] /\ TT 229 #[uA #[uP a, uM b, uB c], uA #[uI q, uI r, uS s, uL u]] V1 fun e V2 => ∃ y z, e = rT #[uS y, uI z] /\ Br (z = 0) (qAB [uS y] 9 V2 fun A V3 => GenK Tryz.prog (.call { callee := (.builtin .append), args := #[(.tmp 46), (.tmp 48)], argTypes := #[217, 217] }) 217 (gv [(46, uL o), (48, .slice (qAb A 0) 1 1)]) V3 fun x V4 => ∃ B, x = uL B /\ IR (p + 1) /\ J0 [uS k, uI l, uL B, uI (p + 1)] V4) (R (rT #[uS (qAo []), uI z]) V2))) (TT 254 #[uA #[uP a, uM b, uB c], uA #[uI d, uI g, uS i, uL j], uL o] V1 fun e V2 => ∃ q r, e = rT #[uS q, uI r] /\ R (rT #[uS q, uI r]) V2))
theorem x229 {a : Option Addr} {b : Option Nat} {c : Bool} {d g : Int} {i : ByteArray} {j : Sl} (h : w229 a b c d g i j V R) : TT 229 #[uA #[uP a, uM b, uB c], uA #[uI d, uI g, uS i, uL j]] V R := trx Tryz.func229 h
def w230 (a : Option Addr) (b : ByteArray) : MR := fun V R => ¬ a = none /\ ¬ a = none /\ ¬ (qAb a 0) = none /\ ∃ c, V.rowp a 1 1 = some [uL c] /\ qAB [uS b] 9 V fun d V1 => TI 83 #[uL c, .func (.func 255) #[] #[uP (qAb d 0)]] V1 fun g V2 => R (rV (uI g)) V2
theorem x230 {a : Option Addr} {b : ByteArray} (h : w230 a b V R) : TT 230 #[uP a, uS b] V R := trx Tryz.func230 h
def w231 (a : Option Addr) (b : Int) : MR := fun V R => Br (1099511627776 < b) (TT 99 #[uP a, uI 5] V fun e V1 => (e = rT #[] /\ R (rV (uI b)) V1) ∨ ∃ ch, e = .panicked ch /\ R e V1) (Br (b < (-1099511627776)) (TT 99 #[uP a, uI 5] V fun e V1 => (e = rT #[] /\ R (rV (uI b)) V1) ∨ ∃ ch, e = .panicked ch /\ R e V1) (R (rV (uI b)) V))
theorem x231 {a : Option Addr} {b : Int} (h : w231 a b V R) : TT 231 #[uP a, uI b] V R := trx Tryz.func231 h
def w232 (a : Int) : MR := fun V R => TI 257 #[.int .u64 a] V fun b V1 => R (rV (uI b)) V1
theorem x232 {a : Int} (h : w232 a V R) : TT 232 #[.int .u64 a] V R := trx Tryz.func232 h
def w233 (a b : Option Addr) (c d : Int) (g : ByteArray) (i : Sl) : MR := fun V R => Br (c = 4) (¬ b = none /\ ¬ b = none /\ ∃ j, V.rowp b ((0 : Int).toNat * 1) 1 = some [uL j] /\ TI 188 #[uL j, uS g] V fun k V1 => Br (0 <= k) (¬ b = none /\ ¬ b = none /\ ∃ l, V1.rowp b ((0 : Int).toNat * 1) 1 = some [uL l] /\ Ix l k (¬ (qAb l.p (k.toNat * 2)) = none /\ ∃ o p, V1.rowp l.p (k.toNat * 2) 2 = some [uS o, uS p] /\ R (rV (uS p)) V1)) (¬ a = none /\ ¬ a = none /\ ¬ (qAb a 0) = none /\ ∃ l, V1.rowp a 2 1 = some [uL l] /\ ¬ a = none /\ ¬ a = none /\ ¬ (qAb a 0) = none /\ ∃ o, V1.rowp a 2 1 = some [uL o] /\ TI 188 #[uL o, uS g] V1 fun p V2 => V2.rowp (qAb a 2) 0 1 = some [uL l] /\ ¬ (qAb a 0) = none /\ ¬ a = none /\ ¬ a = none /\ Ix l p (¬ (qAb l.p (p.toNat * 2)) = none /\ ∃ q r, V2.rowp l.p (p.toNat * 2) 2 = some [uS q, uS r] /\ R (rV (uS r)) V2))) (Br (c = 5) (¬ a = none /\ ¬ a = none /\ ¬ (qAb a 0) = none /\ ∃ j, V.rowp a 1 1 = some [uL j] /\ ¬ i.p = none /\ (0 : Int) <= (0 : Int) /\ 0 < (i.n : Int) /\ ∃ k l o p, V.rowp i.p ((0 : Int).toNat * 4) 4 = some [uI k, uI l, uS o, uL p] /\ TS 233 #[uP a, uP b, uA #[uI k, uI l, uS o, uL p]] V fun q V1 => V1.rowp (qAb a 1) 0 1 = some [uL j] /\ ¬ (qAb a 0) = none /\ ¬ a = none /\ ¬ a = none /\ TI 230 #[uP a, uS q] V1 fun r V2 => V2.rowp (qAb a 1) 0 1 = some [uL j] /\ ¬ (qAb a 0) = none /\ ¬ a = none /\ ¬ a = none /\ Ix j r (∃ s u, V2.rowp j.p (r.toNat * 2) 2 = some [uS s, uL u] /\ TI 188 #[uL u, uS g] V2 fun y V3 => Ix u y (¬ (qAb u.p (y.toNat * 2)) = none /\ ∃ z A, V3.rowp u.p (y.toNat * 2) 2 = some [uS z, uS A] /\ R (rV (uS A)) V3))) (Br (c = 6) (R (rV (uS g)) V) (Br (c = 7) (¬ a = none /\ ¬ a = none /\ ¬ (qAb a 0) = none /\ ∃ j, V.rowp a 3 1 = some [uL j] /\ ¬ a = none /\ ¬ a = none /\ ∃ k l o p q r s u, V.rowp a ((0 : Int).toNat * 1) 8 = some [uS k, uL l, uL o, uL p, uL q, uL r, uL s, uL u] /\ TI 97 #[uD k l o p q r s u, uS g] V fun y V1 => V1.rowp (qAb a 3) 0 1 = some [uL j] /\ ¬ (qAb a 0) = none /\ ¬ a = none /\ ¬ a = none /\ Ix j y (¬ (qAb j.p (y.toNat * 5)) = none /\ ∃ z A B C D, V1.rowp j.p (y.toNat * 5) 5 = some [uS z, uL A, uS B, uL C, uL D] /\ R (rV (uS B)) V1)) (Br (c = 21) (¬ i.p = none /\ (0 : Int) <= (1 : Int) /\ 1 < (i.n : Int) /\ ∃ j k l o, V.rowp i.p (1 * 4) 4 = some [uI j, uI k, uS l, uL o] /\ TS 233 #[uP a, uP b, uA #[uI j, uI k, uS l, uL o]] V fun p V1 => Br (p = (qAo [110, 105, 108])) (¬ i.p = none /\ (0 : Int) <= (2 : Int) /\ 2 < (i.n : Int) /\ ∃ q r s u, V1.rowp i.p (2 * 4) 4 = some [uI q, uI r, uS s, uL u] /\ TS 233 #[uP a, uP b, uA #[uI q, uI r, uS s, uL u]] V1 fun y V2 => R (rV (uS y)) V2) (R (rV (uS p)) V1)) (Br (c = 3) (R (rV (uS (qAo [110, 105, 108]))) V) (Br (c = 2) (R (rV (uS (qAo [98, 111, 111, 108]))) V) (Br (c = 18) (R (rV (uS (qAo [98, 111, 111, 108]))) V) (Br (c = 19) (R (rV (uS (qAo [98, 111, 111, 108]))) V) (Br (c = 20) (R (rV (uS (qAo [98, 111, 111, 108]))) V) (Br (c = 14) (R (rV (uS (qAo [98, 111, 111, 108]))) V) (Br (c = 15) (R (rV (uS (qAo [98, 111, 111, 108]))) V) (Br (c = 16) (R (rV (uS (qAo [98, 111, 111, 108]))) V) (Br (c = 17) (R (rV (uS (qAo [98, 111, 111, 108]))) V) (R (rV (uS (qAo [105, 110, 116]))) V))))))))))))))
theorem x233 {a b : Option Addr} {c d : Int} {g : ByteArray} {i : Sl} (h : w233 a b c d g i V R) : TT 233 #[uP a, uP b, uA #[uI c, uI d, uS g, uL i]] V R := trx Tryz.func233 h
def w234 (a : Bool) : MR := fun V R => Br (a = true) (R (rV (uI 1)) V) (R (rV (uI 0)) V)
theorem x234 {a : Bool} (h : w234 a V R) : TT 234 #[uB a] V R := trx Tryz.func234 h
abbrev w235_0 (d : Int) (a : Option Addr) (V : Mem) (b : Int) (R : RP) (c : Int) : Prop := Br (d = 0) (TT 99 #[uP a, uI 18] V fun e V1 => (e = rT #[] /\ Br (b = 12) (¬ d = 0 /\ R (rV (uI (IntKind.wrap .i64 ((c).tdiv d)))) V1) (¬ d = 0 /\ R (rV (uI ((c).tmod d))) V1)) ∨ ∃ ch, e = .panicked ch /\ R e V1) (Br (b = 12) (¬ d = 0 /\ R (rV (uI (IntKind.wrap .i64 ((c).tdiv d)))) V) (¬ d = 0 /\ R (rV (uI ((c).tmod d))) V))
def w235 (a : Option Addr) (b c d : Int) : MR := fun V R => Br (b = 9) (IR (c + d) /\ TT 231 #[uP a, uI (c + d)] V fun e V1 => (∃ g, e = rV (uI g) /\ R (rV (uI g)) V1) ∨ ∃ ch, e = .panicked ch /\ R e V1) (Br (b = 10) (IR (c - d) /\ TT 231 #[uP a, uI (c - d)] V fun e V1 => (∃ g, e = rV (uI g) /\ R (rV (uI g)) V1) ∨ ∃ ch, e = .panicked ch /\ R e V1) (Br (b = 11) (Br (c = 0) (IR (c * d) /\ R (rV (uI (c * d))) V) (TI 258 #[uI d] V fun g V1 => TI 258 #[uI c] V1 fun i V2 => ¬ i = 0 /\ Br ((IntKind.wrap .i64 (((1099511627776 : Int)).tdiv i)) < g) (TT 99 #[uP a, uI 5] V2 fun e V3 => (e = rT #[] /\ IR (c * d) /\ R (rV (uI (c * d))) V3) ∨ ∃ ch, e = .panicked ch /\ R e V3) (IR (c * d) /\ R (rV (uI (c * d))) V2))) (Br (b = 12) (w235_0 d a V b R c) (Br (b = 13) (w235_0 d a V b R c) (Br (b = 22) (GenK Tryz.prog (.call { callee := (.builtin .max), args := #[(.tmp 58), (.tmp 59)], argTypes := #[3, 3] }) 3 (gv [(58, uI c), (59, uI d)]) V fun x V1 => ∃ g, x = uI g /\ R (rV (uI g)) V1) (GenK Tryz.prog (.call { callee := (.builtin .min), args := #[(.tmp 61), (.tmp 62)], argTypes := #[3, 3] }) 3 (gv [(61, uI c), (62, uI d)]) V fun x V1 => ∃ g, x = uI g /\ R (rV (uI g)) V1))))))
theorem x235 {a : Option Addr} {b c d : Int} (h : w235 a b c d V R) : TT 235 #[uP a, uI b, uI c, uI d] V R := trx Tryz.func235 h
def w236 (a b : ByteArray) (c : Option Addr) : MR := fun V R => ∃ d, V.rowp c ((0 : Int).toNat * 1) 1 = some [uS d] /\ R (rV (uB (decide (a = d)))) V
theorem x236 {a b : ByteArray} {c : Option Addr} (h : w236 a b c V R) : TT 236 #[uA #[uS a, uS b], uP c] V R := trx Tryz.func236 h
def w237 (a : ByteArray) : MR := fun V R => R (rV (uB (!(decide (a = a))))) V
theorem x237 {a : ByteArray} (h : w237 a V R) : TT 237 #[uS a] V R := trx Tryz.func237 h
def w248 (a : Sl) (b : Value) : MR := fun V R => Lp [uI 0, uI 0] V fun I n V1 => ∀ c d, I n [uI c, uI d] V1 -> ∀ J0 : LMP, Nx I n J0 -> Br (d < (a.n : Int)) (Ix a d (∃ g i j k l o p, V1.rowp a.p (d.toNat * 7) 7 = some [uS g, uS i, uI j, uI k, uI l, uS o, uL p] /\ ∃ f first caps, K.cast .f b = .func (.func f) first caps /\ CO f /\ TT f (first ++ #[uA #[uS g, uS i, uI j, uI k, uI l, uS o, uL p]] ++ caps) V1 fun e V2 => ∃ q, e = rV (uB q) /\ Br (q = true) (R (rV (uI d)) V2) (IR (d + 1) /\ J0 [uI c, uI (d + 1)] V2))) (R (rV (uI (-1))) V1)
theorem x248 {a : Sl} {b : Value} (h : w248 a b V R) : TT 248 #[uL a, K.cast .f b] V R :=
 qAX Tryz.func248 [] [] false [uL a, b] (by kernel_rfl) (by kernel_rfl) h
def w249 (a : Sl) (b : Value) : MR := fun V R => Lp [uI 0, uI 0] V fun I n V1 => ∀ c d, I n [uI c, uI d] V1 -> ∀ J0 : LMP, Nx I n J0 -> Br (d < (a.n : Int)) (Ix a d (∃ g i j k l o, V1.rowp a.p (d.toNat * 6) 6 = some [uS g, uS i, uI j, uI k, uS l, uL o] /\ ∃ f first caps, K.cast .f b = .func (.func f) first caps /\ CO f /\ TT f (first ++ #[uA #[uS g, uS i, uI j, uI k, uS l, uL o]] ++ caps) V1 fun e V2 => ∃ p, e = rV (uB p) /\ Br (p = true) (R (rV (uI d)) V2) (IR (d + 1) /\ J0 [uI c, uI (d + 1)] V2))) (R (rV (uI (-1))) V1)
theorem x249 {a : Sl} {b : Value} (h : w249 a b V R) : TT 249 #[uL a, K.cast .f b] V R :=
 qAX Tryz.func249 [] [] false [uL a, b] (by kernel_rfl) (by kernel_rfl) h
def w250 (a : Sl) : MR := fun V R => qAB [uL a] 23 V fun b V1 => R (rV (.func (.func 260) #[] #[uP (qAb b 0)])) V1
theorem x250 {a : Sl} (h : w250 a V R) : TT 250 #[uL a] V R := trx Tryz.func250 h
def w251 (a : Option Addr) (b : Option Nat) (c : Bool) (d g : Int) (i : ByteArray) (j : Sl) : MR := fun V R => Lp [uS (qAo []), uI 0, .slice none 0 0, uI 0] V fun I n V1 => ∀ k l o p, I n [uS k, uI l, uL o, uI p] V1 -> ∀ J0 : LMP, Nx I n J0 -> Br (p < (j.n : Int)) (Ix j p (∃ q r s u, V1.rowp j.p (p.toNat * 4) 4 = some [uI q, uI r, uS s, uL u] /\ TT 229 #[uA #[uP a, uM b, uB c], uA #[uI q, uI r, uS s, uL u]] V1 fun e V2 => ∃ y z, e = rT #[uS y, uI z] /\ Br (z = 0) (qAB [uS y] 9 V2 fun A V3 => GenK Tryz.prog (.call { callee := (.builtin .append), args := #[(.tmp 31), (.tmp 33)], argTypes := #[217, 217] }) 217 (gv [(31, uL o), (33, .slice (qAb A 0) 1 1)]) V3 fun x V4 => ∃ B, x = uL B /\ IR (p + 1) /\ J0 [uS k, uI l, uL B, uI (p + 1)] V4) (R (rT #[uS (qAo []), uI z]) V2))) (Br (c = true) (¬ a = none /\ ¬ a = none /\ ∃ q, V1.rowp a 9 1 = some [uM q] /\ qBN Tryz.prog 203 (uM q) (uS i) true V1 fun x => ∃ r s u y z A, x = .tuple #[uA #[uS r, uL s, uS u, uL y, uL z], uB A] /\ Br (A = true) (Br ((o.n : Int) = (s.n : Int)) (Lp [uS k, uI l, uI 0] V1 fun I n V2 => ∀ B C D, I n [uS B, uI C, uI D] V2 -> ∀ J1 : LMP, Nx I n J1 -> Br (D < (o.n : Int)) (Ix o D (∃ F, V2.rowp o.p (D.toNat * 1) 1 = some [uS F] /\ Ix s D (¬ (qAb s.p (D.toNat * 2)) = none /\ ∃ G H, V2.rowp s.p (D.toNat * 2) 2 = some [uS G, uS H] /\ TB 252 #[uP a, uS F, uS H] V2 fun L V3 => Br (L = true) (IR (D + 1) /\ J1 [uS B, uI C, uI (D + 1)] V3) (R (rT #[uS (qAo []), uI 11]) V3)))) (R (rT #[uS u, uI 0]) V2)) (R (rT #[uS (qAo []), uI 3]) V1)) (R (rT #[uS (qAo []), uI 9]) V1)) (TT 261 #[uA #[uP a, uM b, uB c], uS i, uL o] V1 fun e V2 => ∃ q r, e = rT #[uS q, uI r] /\ R (rT #[uS q, uI r]) V2))
theorem x251 {a : Option Addr} {b : Option Nat} {c : Bool} {d g : Int} {i : ByteArray} {j : Sl} (h : w251 a b c d g i j V R) : TT 251 #[uA #[uP a, uM b, uB c], uA #[uI d, uI g, uS i, uL j]] V R := trx Tryz.func251 h
def w252 (a : Option Addr) (b c : ByteArray) : MR := fun V R => Br (b = c) (R (rV (uB true)) V) (Br (b = (qAo [110, 105, 108])) (TB 176 #[uP a, uS c] V fun d V1 => R (rV (uB d)) V1) (R (rV (uB false)) V))
theorem x252 {a : Option Addr} {b c : ByteArray} (h : w252 a b c V R) : TT 252 #[uP a, uS b, uS c] V R := trx Tryz.func252 h
def w253 (a : Option Addr) (b c : ByteArray) : MR := fun V R => ¬ a = none /\ ¬ a = none /\ ∃ d, V.rowp a 8 1 = some [uM d] /\ qBN Tryz.prog 202 (uM d) (uS b) true V fun x => ∃ g i j, x = .tuple #[uA #[uS g, uL i], uB j] /\ Br (j = true) (Lp [uS (qAo []), uI 0, uI 0] V fun I n V1 => ∀ k l o, I n [uS k, uI l, uI o] V1 -> ∀ J0 : LMP, Nx I n J0 -> Br (o < (i.n : Int)) (Ix i o (∃ p q, V1.rowp i.p (o.toNat * 2) 2 = some [uS p, uS q] /\ Br (p = c) (R (rT #[uS q, uI 0]) V1) (IR (o + 1) /\ J0 [uS k, uI l, uI (o + 1)] V1))) (R (rT #[uS (qAo []), uI 9]) V1)) (R (rT #[uS (qAo []), uI 11]) V)
theorem x253 {a : Option Addr} {b c : ByteArray} (h : w253 a b c V R) : TT 253 #[uP a, uS b, uS c] V R := trx Tryz.func253 h
abbrev w254_0 (k : Sl) (V : Mem) (a : Option Addr) (R : RP) : Prop := ¬ k.p = none /\ (0 : Int) <= (0 : Int) /\ 0 < (k.n : Int) /\ ∃ l, V.rowp k.p ((0 : Int).toNat * 1) 1 = some [uS l] /\ ¬ k.p = none /\ (0 : Int) <= (1 : Int) /\ 1 < (k.n : Int) /\ ∃ o, V.rowp k.p 1 1 = some [uS o] /\ TB 252 #[uP a, uS l, uS o] V fun p V1 => Br (p = true) (R (rT #[uS (qAo [98, 111, 111, 108]), uI 0]) V1) (¬ k.p = none /\ (0 : Int) <= (1 : Int) /\ 1 < (k.n : Int) /\ ∃ q, V1.rowp k.p 1 1 = some [uS q] /\ ¬ k.p = none /\ (0 : Int) <= (0 : Int) /\ 0 < (k.n : Int) /\ ∃ r, V1.rowp k.p ((0 : Int).toNat * 1) 1 = some [uS r] /\ TB 252 #[uP a, uS q, uS r] V1 fun s V2 => Br (s = true) (R (rT #[uS (qAo [98, 111, 111, 108]), uI 0]) V2) (R (rT #[uS (qAo []), uI 11]) V2))
def w254 (a : Option Addr) (b : Option Nat) (c : Bool) (d g : Int) (i : ByteArray) (j k : Sl) : MR := fun V R => Br (d = 1) (R (rT #[uS (qAo [105, 110, 116]), uI 0]) V) (Br (d = 2) (R (rT #[uS (qAo [98, 111, 111, 108]), uI 0]) V) (Br (d = 3) (R (rT #[uS (qAo [110, 105, 108]), uI 0]) V) (Br (d = 4) (qBN Tryz.prog 252 (uM b) (uS i) true V fun x => ∃ l o, x = .tuple #[uS l, uB o] /\ Br (o = true) (R (rT #[uS l, uI 0]) V) (R (rT #[uS (qAo []), uI 9]) V)) (Br (d = 5) (¬ k.p = none /\ (0 : Int) <= (0 : Int) /\ 0 < (k.n : Int) /\ ∃ l, V.rowp k.p ((0 : Int).toNat * 1) 1 = some [uS l] /\ TT 253 #[uP a, uS l, uS i] V fun e V1 => ∃ o p, e = rT #[uS o, uI p] /\ R (rT #[uS o, uI p]) V1) (Br (d = 6) (Br (c = true) (TB 176 #[uP a, uS i] V fun l V1 => Br (l = true) (R (rT #[uS i, uI 0]) V1) (R (rT #[uS (qAo []), uI 9]) V1)) (R (rT #[uS (qAo []), uI 13]) V)) (Br (d = 14) (w254_0 k V a R) (Br (d = 15) (w254_0 k V a R) (Br (d = 16) (qAB [uL k] 217 V fun l V1 => TT 262 #[uS (qAo [105, 110, 116]), uS (qAo [98, 111, 111, 108]), uP (qAb l 0)] V1 fun e V2 => ∃ o p, e = rT #[uS o, uI p] /\ R (rT #[uS o, uI p]) V2) (Br (d = 17) (qAB [uL k] 217 V fun l V1 => TT 262 #[uS (qAo [105, 110, 116]), uS (qAo [98, 111, 111, 108]), uP (qAb l 0)] V1 fun e V2 => ∃ o p, e = rT #[uS o, uI p] /\ R (rT #[uS o, uI p]) V2) (Br (d = 18) (qAB [uL k] 217 V fun l V1 => TT 262 #[uS (qAo [98, 111, 111, 108]), uS (qAo [98, 111, 111, 108]), uP (qAb l 0)] V1 fun e V2 => ∃ o p, e = rT #[uS o, uI p] /\ R (rT #[uS o, uI p]) V2) (Br (d = 19) (qAB [uL k] 217 V fun l V1 => TT 262 #[uS (qAo [98, 111, 111, 108]), uS (qAo [98, 111, 111, 108]), uP (qAb l 0)] V1 fun e V2 => ∃ o p, e = rT #[uS o, uI p] /\ R (rT #[uS o, uI p]) V2) (Br (d = 20) (qAB [uL k] 217 V fun l V1 => TT 262 #[uS (qAo [98, 111, 111, 108]), uS (qAo [98, 111, 111, 108]), uP (qAb l 0)] V1 fun e V2 => ∃ o p, e = rT #[uS o, uI p] /\ R (rT #[uS o, uI p]) V2) (Br (d = 21) (¬ k.p = none /\ (0 : Int) <= (0 : Int) /\ 0 < (k.n : Int) /\ ∃ l, V.rowp k.p ((0 : Int).toNat * 1) 1 = some [uS l] /\ Br (l = (qAo [98, 111, 111, 108])) (¬ k.p = none /\ (0 : Int) <= (1 : Int) /\ 1 < (k.n : Int) /\ ∃ o, V.rowp k.p 1 1 = some [uS o] /\ ¬ k.p = none /\ (0 : Int) <= (2 : Int) /\ 2 < (k.n : Int) /\ ∃ p, V.rowp k.p 2 1 = some [uS p] /\ TB 252 #[uP a, uS o, uS p] V fun q V1 => Br (q = true) (¬ k.p = none /\ (0 : Int) <= (2 : Int) /\ 2 < (k.n : Int) /\ ∃ r, V1.rowp k.p 2 1 = some [uS r] /\ R (rT #[uS r, uI 0]) V1) (¬ k.p = none /\ (0 : Int) <= (2 : Int) /\ 2 < (k.n : Int) /\ ∃ r, V1.rowp k.p 2 1 = some [uS r] /\ ¬ k.p = none /\ (0 : Int) <= (1 : Int) /\ 1 < (k.n : Int) /\ ∃ s, V1.rowp k.p 1 1 = some [uS s] /\ TB 252 #[uP a, uS r, uS s] V1 fun u V2 => Br (u = true) (¬ k.p = none /\ (0 : Int) <= (1 : Int) /\ 1 < (k.n : Int) /\ ∃ y, V2.rowp k.p 1 1 = some [uS y] /\ R (rT #[uS y, uI 0]) V2) (R (rT #[uS (qAo []), uI 11]) V2))) (R (rT #[uS (qAo []), uI 11]) V)) (qAB [uL k] 217 V fun l V1 => TT 262 #[uS (qAo [105, 110, 116]), uS (qAo [105, 110, 116]), uP (qAb l 0)] V1 fun e V2 => ∃ o p, e = rT #[uS o, uI p] /\ R (rT #[uS o, uI p]) V2))))))))))))))
theorem x254 {a : Option Addr} {b : Option Nat} {c : Bool} {d g : Int} {i : ByteArray} {j k : Sl} (h : w254 a b c d g i j k V R) : TT 254 #[uA #[uP a, uM b, uB c], uA #[uI d, uI g, uS i, uL j], uL k] V R := trx Tryz.func254 h
def w255 (a : ByteArray) (b : Sl) (c : Option Addr) : MR := fun V R => ∃ d, V.rowp c ((0 : Int).toNat * 1) 1 = some [uS d] /\ R (rV (uB (decide (a = d)))) V
theorem x255 {a : ByteArray} {b : Sl} {c : Option Addr} (h : w255 a b c V R) : TT 255 #[uA #[uS a, uL b], uP c] V R := trx Tryz.func255 h
abbrev qAI  : ByteArray :=
 qAo [0, 1, 2, 2, 3, 3, 3, 3, 4, 4, 4, 4, 4, 4, 4, 4, 5, 5, 5, 5, 5, 5, 5, 5, 5, 5, 5, 5, 5, 5, 5, 5, 6, 6, 6, 6, 6, 6, 6, 6, 6, 6, 6, 6, 6, 6, 6, 6, 6, 6, 6, 6, 6, 6, 6, 6, 6, 6, 6, 6, 6, 6, 6, 6, 7, 7, 7, 7, 7, 7, 7, 7, 7, 7, 7, 7, 7, 7, 7, 7, 7, 7, 7, 7, 7, 7, 7, 7, 7, 7, 7, 7, 7, 7, 7, 7, 7, 7, 7, 7, 7, 7, 7, 7, 7, 7, 7, 7, 7, 7, 7, 7, 7, 7, 7, 7, 7, 7, 7, 7, 7, 7, 7, 7, 7, 7, 7, 7, 8, 8, 8, 8, 8, 8, 8, 8, 8, 8, 8, 8, 8, 8, 8, 8, 8, 8, 8, 8, 8, 8, 8, 8, 8, 8, 8, 8, 8, 8, 8, 8, 8, 8, 8, 8, 8, 8, 8, 8, 8, 8, 8, 8, 8, 8, 8, 8, 8, 8, 8, 8, 8, 8, 8, 8, 8, 8, 8, 8, 8, 8, 8, 8, 8, 8, 8, 8, 8, 8, 8, 8, 8, 8, 8, 8, 8, 8, 8, 8, 8, 8, 8, 8, 8, 8, 8, 8, 8, 8, 8, 8, 8, 8, 8, 8, 8, 8, 8, 8, 8, 8, 8, 8, 8, 8, 8, 8, 8, 8, 8, 8, 8, 8, 8, 8, 8, 8, 8, 8, 8, 8, 8, 8, 8, 8, 8, 8]
def w257 (a : Int) : MR := fun V R => Br (4294967296 <= a) (GenK Tryz.prog (.binOp .shr 314 (.tmp 5) (.const (.int .u64 32)) 264) 314 (gv [(5, .int .u64 a)]) V fun x V1 => ∃ b, x = .int .u64 b /\ Br (65536 <= b) (GenK Tryz.prog (.binOp .shr 314 (.tmp 9) (.const (.int .u64 16)) 264) 314 (gv [(9, .int .u64 b)]) V1 fun x V2 => ∃ c, x = .int .u64 c /\ IR ((32 : Int) + (16 : Int)) /\ Br (256 <= c) (GenK Tryz.prog (.binOp .shr 314 (.tmp 15) (.const (.int .u64 8)) 264) 314 (gv [(15, .int .u64 c)]) V2 fun x V3 => ∃ d, x = .int .u64 d /\ IR (((32 : Int) + (16 : Int)) + 8) /\ K.inR .u8 d /\ (0 <= d /\ d < ((qAI).size : Int)) /\ IR (qAW (qAI) d) /\ IR ((((32 : Int) + (16 : Int)) + 8) + (qAW (qAI) d)) /\ R (rV (uI ((((32 : Int) + (16 : Int)) + 8) + (qAW (qAI) d)))) V3) (K.inR .u8 c /\ (0 <= c /\ c < ((qAI).size : Int)) /\ IR (qAW (qAI) c) /\ IR (((32 : Int) + (16 : Int)) + (qAW (qAI) c)) /\ R (rV (uI (((32 : Int) + (16 : Int)) + (qAW (qAI) c)))) V2)) (Br (256 <= b) (GenK Tryz.prog (.binOp .shr 314 (.tmp 15) (.const (.int .u64 8)) 264) 314 (gv [(15, .int .u64 b)]) V1 fun x V2 => ∃ c, x = .int .u64 c /\ IR ((32 : Int) + (8 : Int)) /\ K.inR .u8 c /\ (0 <= c /\ c < ((qAI).size : Int)) /\ IR (qAW (qAI) c) /\ IR (((32 : Int) + (8 : Int)) + (qAW (qAI) c)) /\ R (rV (uI (((32 : Int) + (8 : Int)) + (qAW (qAI) c)))) V2) (K.inR .u8 b /\ (0 <= b /\ b < ((qAI).size : Int)) /\ IR (qAW (qAI) b) /\ IR (32 + (qAW (qAI) b)) /\ R (rV (uI (32 + (qAW (qAI) b)))) V1))) (Br (65536 <= a) (GenK Tryz.prog (.binOp .shr 314 (.tmp 9) (.const (.int .u64 16)) 264) 314 (gv [(9, .int .u64 a)]) V fun x V1 => ∃ b, x = .int .u64 b /\ IR ((0 : Int) + (16 : Int)) /\ Br (256 <= b) (GenK Tryz.prog (.binOp .shr 314 (.tmp 15) (.const (.int .u64 8)) 264) 314 (gv [(15, .int .u64 b)]) V1 fun x V2 => ∃ c, x = .int .u64 c /\ IR (((0 : Int) + (16 : Int)) + 8) /\ K.inR .u8 c /\ (0 <= c /\ c < ((qAI).size : Int)) /\ IR (qAW (qAI) c) /\ IR ((((0 : Int) + (16 : Int)) + 8) + (qAW (qAI) c)) /\ R (rV (uI ((((0 : Int) + (16 : Int)) + 8) + (qAW (qAI) c)))) V2) (K.inR .u8 b /\ (0 <= b /\ b < ((qAI).size : Int)) /\ IR (qAW (qAI) b) /\ IR (((0 : Int) + (16 : Int)) + (qAW (qAI) b)) /\ R (rV (uI (((0 : Int) + (16 : Int)) + (qAW (qAI) b)))) V1)) (Br (256 <= a) (GenK Tryz.prog (.binOp .shr 314 (.tmp 15) (.const (.int .u64 8)) 264) 314 (gv [(15, .int .u64 a)]) V fun x V1 => ∃ b, x = .int .u64 b /\ IR ((0 : Int) + (8 : Int)) /\ K.inR .u8 b /\ (0 <= b /\ b < ((qAI).size : Int)) /\ IR (qAW (qAI) b) /\ IR (((0 : Int) + (8 : Int)) + (qAW (qAI) b)) /\ R (rV (uI (((0 : Int) + (8 : Int)) + (qAW (qAI) b)))) V1) (K.inR .u8 a /\ (0 <= a /\ a < ((qAI).size : Int)) /\ IR (qAW (qAI) a) /\ IR (0 + (qAW (qAI) a)) /\ R (rV (uI (0 + (qAW (qAI) a)))) V)))
theorem x257 {a : Int} (h : w257 a V R) : TT 257 #[.int .u64 a] V R := trx Tryz.func257 h
def w258 (a : Int) : MR := fun V R => IR (0 - a) /\ GenK Tryz.prog (.call { callee := (.builtin .max), args := #[(.tmp 3), (.tmp 5)], argTypes := #[3, 3] }) 3 (gv [(3, uI a), (5, uI (0 - a))]) V fun x V1 => ∃ b, x = uI b /\ R (rV (uI b)) V1
theorem x258 {a : Int} (h : w258 a V R) : TT 258 #[uI a] V R := trx Tryz.func258 h
def w261 (a : Option Addr) (b : Option Nat) (c : Bool) (d : ByteArray) (g : Sl) : MR := fun V R => ¬ a = none /\ ¬ a = none /\ ¬ (qAb a 0) = none /\ ∃ i, V.rowp a 4 1 = some [uL i] /\ qAB [uS d] 9 V fun j V1 => TI 248 #[uL i, .func (.func 267) #[] #[uP (qAb j 0)]] V1 fun k V2 => Br (k < 0) (R (rT #[uS (qAo []), uI 9]) V2) (Br ((g.n : Int) = 1) (¬ g.p = none /\ (0 : Int) <= (0 : Int) /\ 0 < (g.n : Int) /\ ∃ l, V2.rowp g.p ((0 : Int).toNat * 1) 1 = some [uS l] /\ ¬ a = none /\ ¬ a = none /\ ¬ (qAb a 0) = none /\ ∃ o, V2.rowp a 4 1 = some [uL o] /\ Ix o k (¬ (qAb o.p (k.toNat * 7)) = none /\ ∃ p q r s u y z, V2.rowp o.p (k.toNat * 7) 7 = some [uS p, uS q, uI r, uI s, uI u, uS y, uL z] /\ TB 252 #[uP a, uS l, uS q] V2 fun A V3 => Br (A = true) (R (rT #[uS (qAo [105, 110, 116]), uI 0]) V3) (R (rT #[uS (qAo []), uI 11]) V3))) (R (rT #[uS (qAo []), uI 3]) V2))
theorem x261 {a : Option Addr} {b : Option Nat} {c : Bool} {d : ByteArray} {g : Sl} (h : w261 a b c d g V R) : TT 261 #[uA #[uP a, uM b, uB c], uS d, uL g] V R := trx Tryz.func261 h
def w262 (a b : ByteArray) (c : Option Addr) : MR := fun V R => ∃ d, V.rowp c ((0 : Int).toNat * 1) 1 = some [uL d] /\ qAB [uS a] 9 V fun g V1 => TB 263 #[uL d, .func (.func 264) #[] #[uP (qAb g 0)]] V1 fun i V2 => Br (i = true) (R (rT #[uS (qAo []), uI 11]) V2) (R (rT #[uS b, uI 0]) V2)
theorem x262 {a b : ByteArray} {c : Option Addr} (h : w262 a b c V R) : TT 262 #[uS a, uS b, uP c] V R := trx Tryz.func262 h
def w263 (a : Sl) (b : Value) : MR := fun V R => TI 268 #[uL a, K.cast .f b] V fun c V1 => R (rV (uB (decide (0 <= c)))) V1
theorem x263 {a : Sl} {b : Value} (h : w263 a b V R) : TT 263 #[uL a, K.cast .f b] V R :=
 qAX Tryz.func263 [] [] false [uL a, b] (by kernel_rfl) (by kernel_rfl) h
def w264 (a : ByteArray) (b : Option Addr) : MR := fun V R => ∃ c, V.rowp b ((0 : Int).toNat * 1) 1 = some [uS c] /\ R (rV (uB (!(decide (a = c))))) V
theorem x264 {a : ByteArray} {b : Option Addr} (h : w264 a b V R) : TT 264 #[uS a, uP b] V R := trx Tryz.func264 h
def w267 (a b : ByteArray) (c d g : Int) (i : ByteArray) (j : Sl) (k : Option Addr) : MR := fun V R => ∃ l, V.rowp k ((0 : Int).toNat * 1) 1 = some [uS l] /\ R (rV (uB (decide (a = l)))) V
theorem x267 {a b : ByteArray} {c d g : Int} {i : ByteArray} {j : Sl} {k : Option Addr} (h : w267 a b c d g i j k V R) : TT 267 #[uA #[uS a, uS b, uI c, uI d, uI g, uS i, uL j], uP k] V R := trx Tryz.func267 h
def w268 (a : Sl) (b : Value) : MR := fun V R => Lp [uI 0, uI 0] V fun I n V1 => ∀ c d, I n [uI c, uI d] V1 -> ∀ J0 : LMP, Nx I n J0 -> Br (d < (a.n : Int)) (Ix a d (∃ g, V1.rowp a.p (d.toNat * 1) 1 = some [uS g] /\ ∃ f first caps, K.cast .f b = .func (.func f) first caps /\ CO f /\ TT f (first ++ #[uS g] ++ caps) V1 fun e V2 => ∃ i, e = rV (uB i) /\ Br (i = true) (R (rV (uI d)) V2) (IR (d + 1) /\ J0 [uI c, uI (d + 1)] V2))) (R (rV (uI (-1))) V1)
theorem x268 {a : Sl} {b : Value} (h : w268 a b V R) : TT 268 #[uL a, K.cast .f b] V R :=
 qAX Tryz.func268 [] [] false [uL a, b] (by kernel_rfl) (by kernel_rfl) h
end
end Go.Proofs
namespace Go.Proofs
open Go Go.Sx
set_option maxRecDepth 100000
set_option linter.unusedVariables false
section
variable {V : Mem} {R : RP}
def w38 (a b : Sl) : MR := fun V R => TL 66 #[uL a] V fun c V1 => Lp [uL c, .slice none 0 0, uI 0] V1 fun I n V2 => ∀ d g i, I n [uL d, uL g, uI i] V2 -> ∀ J0 : LMP, Nx I n J0 -> Br (i < (b.n : Int)) (Ix b i (∃ j k, V2.rowp b.p (i.toNat * 2) 2 = some [uI j, uL k] /\ TL 66 #[uL k] V2 fun l V3 => qAB [uI j, uL l] 102 V3 fun o V4 => GenK Tryz.prog (.call { callee := (.builtin .append), args := #[(.tmp 18), (.tmp 25)], argTypes := #[32, 32] }) 32 (gv [(18, uL g), (25, .slice (qAb o 0) 1 1)]) V4 fun x V5 => ∃ p, x = uL p /\ IR (i + 1) /\ J0 [uL d, uL p, uI (i + 1)] V5)) (R (rV (uA #[uL d, uL g])) V2)
theorem x38 {a b : Sl} (h : w38 a b V R) : TT 38 #[uA #[uL a, uL b]] V R :=
 tri_dx Tryz.func38 [] [(3, [3])] false (by kernel_rfl) (by kernel_rfl) h
def w96 (a : Option Addr) : MR := fun V R => GenK Tryz.prog (.makeFunc (.func 131) #[(.tmp 6)] #[]) 173 (gv [(6, uP a)]) V fun x V1 => ∃ b, K.f.ok b /\ x = b /\ GenK Tryz.prog (.makeFunc (.func 132) #[(.tmp 8)] #[]) 173 (gv [(8, uP a)]) V1 fun x V2 => ∃ c, K.f.ok c /\ x = c /\ GenK Tryz.prog (.makeFunc (.func 133) #[(.tmp 10)] #[]) 173 (gv [(10, uP a)]) V2 fun x V3 => ∃ d, K.f.ok d /\ x = d /\ GenK Tryz.prog (.makeFunc (.func 134) #[(.tmp 12)] #[]) 173 (gv [(12, uP a)]) V3 fun x V4 => ∃ g, K.f.ok g /\ x = g /\ GenK Tryz.prog (.makeFunc (.func 135) #[(.tmp 14)] #[]) 173 (gv [(14, uP a)]) V4 fun x V5 => ∃ i, K.f.ok i /\ x = i /\ qAB [K.cast .f b, K.cast .f c, K.cast .f d, K.cast .f g, K.cast .f i] 173 V5 fun j V6 => Lp [uP none, uI 0] V6 fun I n V7 => ∀ k l, I n [uP k, uI l] V7 -> ∀ J0 : LMP, Nx I n J0 -> Br (l < 5) (¬ (qAb j 0) = none /\ 0 <= l /\ l < 5 /\ ∃ o, K.f.ok o /\ V7.rowp (qAb j 0) (l.toNat * 1) 1 = some [o] /\ ∃ f first caps, K.cast .f o = .func (.func f) first caps /\ CO f /\ TT f (first ++ #[] ++ caps) V7 fun e V8 => ∃ p, e = rV (uP p) /\ Br (p = none) (IR (l + 1) /\ J0 [uP k, uI (l + 1)] V8) (R (rV (uP p)) V8)) (R (rV (uP none)) V7)
theorem x96 {a : Option Addr} (h : w96 a V R) : TT 96 #[uP a] V R :=
 tri_dx Tryz.func96 [16] [] false (by kernel_rfl) (by kernel_rfl) h
def w182 (a : Option Addr) (b : Option Nat) (c : Bool) (d : Sl) (g : ByteArray) (i : Option Addr) : MR := fun V R => Lp [uI 0, uI 0, uI 0] V fun I n V1 => ∀ j k l, I n [uI j, uI k, uI l] V1 -> ∀ J0 : LMP, Nx I n J0 -> Br (l < (d.n : Int)) (Ix d l (∃ o p q r s, V1.rowp d.p (l.toNat * 5) 5 = some [uI o, uS p, uL q, uL r, uL s] /\ ¬ i = none /\ ∃ u, V1.rowp i ((0 : Int).toNat * 1) 1 = some [uI u] /\ ¬ i = none /\ ∃ y, V1.rowp i ((0 : Int).toNat * 1) 1 = some [uI y] /\ IR (y + 1) /\ ¬ i = none /\ StT i 0 [uI (y + 1)] V1 fun V2 => TI 228 #[uA #[uP a, uM b, uB c], uA #[uI o, uS p, uL q, uL r, uL s], uS g] V2 fun z V3 => Br (z = 0) (qAB [uL r, uL s] 77 V3 fun A V4 => Lp [uI j, uI k, uI 0] V4 fun I n V5 => ∀ B C D, I n [uI B, uI C, uI D] V5 -> ∀ J1 : LMP, Nx I n J1 -> Br (D < 2) (¬ (qAb A 0) = none /\ 0 <= D /\ D < 2 /\ ∃ F, V5.rowp (qAb A 0) (D.toNat * 1) 1 = some [uL F] /\ TT 182 #[uA #[uP a, uM b, uB c], uL F, uS g, uP i] V5 fun e V6 => ∃ G H, e = rT #[uI G, uI H] /\ Br (H = 0) (IR (D + 1) /\ J1 [uI B, uI C, uI (D + 1)] V6) (R (rT #[uI G, uI H]) V6)) (IR (l + 1) /\ J0 [uI B, uI C, uI (l + 1)] V5)) (R (rT #[uI u, uI z]) V3))) (R (rT #[uI 0, uI 0]) V1)
theorem x182 {a : Option Addr} {b : Option Nat} {c : Bool} {d : Sl} {g : ByteArray} {i : Option Addr} (h : w182 a b c d g i V R) : TT 182 #[uA #[uP a, uM b, uB c], uL d, uS g, uP i] V R :=
 tri_dx Tryz.func182 [44] [] false (by kernel_rfl) (by kernel_rfl) h
end
end Go.Proofs
namespace Go.Proofs
open Go Go.Sx
abbrev PP (f : FuncId) (args : List Value) (V : Mem) (v : Value) : Prop := Pur Tryz.prog f args V v
def qCB (c : Int) : Bool := decide (97 <= c /\ c <= 122 ∨ 65 <= c /\ c <= 90)
def qGJ (c : Int) : Bool := decide (48 <= c /\ c <= 57)
def qHL (c : Int) : Bool := qCB c || qGJ c || decide (c = 95)
def cls (c : Int) : Int := if c = 32 ∨ c = 9 ∨ c = 13 ∨ c = 10 then 1 else if qCB c then 2 else if qGJ c then 3 else if c = 95 then 4 else 0
theorem c103 {V : Mem} {c : Int} : PP 103 [.int .u8 c] V (.int .i64 (cls c)) := by
 refine x103 ?_
 unfold w103
 have key : ∀ n : Int, cls c = n -> (Ending.returned (.int .i64 n) = Ending.returned (.int .i64 (cls c)) /\ V = V) := fun n h => by rw [h]; exact ⟨rfl, rfl⟩
 unfold cls qCB qGJ at key
 repeat' (first | intro _ | apply And.intro)
 all_goals first | rfl | (refine (key _ ?_).1; grind)
theorem cls_two (c : Int) : cls c = 2 ↔ qCB c = true := by
 unfold cls qCB qGJ; grind
theorem cls_word (c : Int) : cls c < 2 ↔ qHL c = false := by
 unfold qHL cls qCB qGJ; grind
def kwList : List ByteArray := [[116, 121, 112, 101], [118, 97, 114], [112, 114, 111, 99], [108, 111, 99, 97, 108], [109, 101, 97, 115, 117, 114, 101], [105, 110, 118, 97, 114, 105, 97, 110, 116], [112, 111, 116, 101, 110, 116, 105, 97, 108], [98, 111, 117, 110, 100], [105, 102], [101, 108, 115, 101], [119, 104, 105, 108, 101], [114, 101, 116, 117, 114, 110], [110, 101, 119], [110, 105, 108], [116, 114, 117, 101], [102, 97, 108, 115, 101], [97, 110, 100], [111, 114], [110, 111, 116], [109, 97, 120], [109, 105, 110], [108, 111, 103], [105, 110, 116], [98, 111, 111, 108], [116, 104, 105, 115], [115, 111, 114, 116], [111, 112], [114, 117, 108, 101], [115, 112, 101, 99], [100, 101, 115, 99], [115, 99, 114, 105, 112, 116]].map qAo
def hasS (xs : List ByteArray) (s : ByteArray) : Bool := xs.any fun x => decide (x = s)
def isKw (s : ByteArray) : Bool := hasS kwList s
def qAL (s : ByteArray) : Bool := decide (s.size ≠ 0 /\ s.size <= 40 /\ qCB (qAW s 0) = true /\ (∀ i : Nat, i < s.size -> qHL (qAW s i) = true)) && !isKw s
end Go.Proofs
namespace Go.Proofs
open Go Go.Sx
attribute [local irreducible] Go.Sx.Tri
def qBu (s : ByteArray) : List Value := [vS s]
def strV (s : ByteArray) : Value := vS s
section
variable {α : Type}
def IdxP (f : FuncId) (row : α -> List Value) (v : α -> Value) (sz : Nat) : Prop := ∀ {V : Mem} {l : Sl} {xs : List α} {g : Nat} {first caps : List Value} (hg : qHc g) (St Hit : Nat -> Mem -> Prop) (hrows : ∀ i V1, St i V1 -> qAc V1 l sz (xs.map row)) (h0 : St 0 V)
  (hp : ∀ i x V1, xs[i]? = some x -> St i V1 -> Tri Tryz.prog g (first.toArray ++ #[v x] ++ caps.toArray) V1 fun e V2 => ∃ b : Bool, e = .returned (.bool b) /\ (b = true -> Hit i V2) /\ (b = false -> St (i + 1) V2)),
  Tri Tryz.prog f #[l.v, .func (.func g) first.toArray caps.toArray] V fun e V' => (∃ i : Nat, e = .returned (.int .i64 i) /\ Hit i V') ∨ (e = .returned (.int .i64 (-1)) /\ St xs.length V')
def ConP (f : FuncId) (row : α -> List Value) (v : α -> Value) (sz : Nat) : Prop := ∀ {V : Mem} {l : Sl} {xs : List α} {g : Nat} {first caps : List Value} (hg : qHc g) (St Hit : Nat -> Mem -> Prop) (hrows : ∀ i V1, St i V1 -> qAc V1 l sz (xs.map row)) (h0 : St 0 V)
  (hp : ∀ i x V1, xs[i]? = some x -> St i V1 -> Tri Tryz.prog g (first.toArray ++ #[v x] ++ caps.toArray) V1 fun e V2 => ∃ b : Bool, e = .returned (.bool b) /\ (b = true -> Hit i V2) /\ (b = false -> St (i + 1) V2)),
  Tri Tryz.prog f #[l.v, .func (.func g) first.toArray caps.toArray] V fun e V' => (∃ i : Nat, e = .returned (.bool true) /\ Hit i V') ∨ (e = .returned (.bool false) /\ St xs.length V')
def ConC (f : FuncId) (row : α -> List Value) (v : α -> Value) (sz : Nat) : Prop := ∀ {V : Mem} {l : Sl} {xs : List α} {g : Nat} {first caps : List Value} (h : qAc V l sz (xs.map row)) (hg : qHc g) (p : α -> Bool) (hp : ∀ x ∈ xs, PP g (first ++ [v x] ++ caps) V (.bool (p x))), PP f [l.v, .func (.func g) first.toArray caps.toArray] V (.bool (xs.any p))
variable {f fc : FuncId} {row : α -> List Value} {v : α -> Value} {sz : Nat}
theorem conG (h : IdxP f row v sz) (hx : ∀ {l : Sl} {c : Value} {V : Mem} {R : RP}, (TT f #[uL l, K.cast .f c] V fun e V1 => ∃ v2, e = rV (uI v2) /\ R (rV (uB (decide (0 <= v2)))) V1) -> TT fc #[uL l, K.cast .f c] V R) : ConP fc row v sz := by
 intro V l xs g first caps hg St Hit hrows h0 hp
 refine hx (c := .func (.func g) first.toArray caps.toArray) (Tri.mono (h hg St Hit hrows h0 hp) ?_)
 rintro e V' (⟨i, rfl, h⟩ | ⟨rfl, h⟩)
 ·refine ⟨_, rfl, .inl ⟨i, ?_, h⟩⟩
  have : (0 : Int) <= (i : Int) := by omega
  simp [this]
 ·exact ⟨_, rfl, .inr ⟨rfl, h⟩⟩
theorem conC (H : ConP fc row v sz) : ConC fc row v sz := by
 intro V l xs g first caps h hg p hp
 refine Tri.mono (H hg (fun i V1 => V1 = V /\ ∀ j x, j < i -> xs[j]? = some x -> p x = false) (fun i V1 => V1 = V /\ ∃ x ∈ xs, p x = true) (fun i V1 hs => hs.1 ▸ h) ⟨rfl, fun j x hj => absurd hj (Nat.not_lt_zero _)⟩ ?_) ?_
 ·rintro i x _ hx ⟨rfl, hs⟩
  have hm : x ∈ xs := List.mem_of_getElem? hx
  have := (hp x hm).callv (q := fun e V2 => ∃ b : Bool, e = .returned (.bool b) /\ (b = true -> V2 = _ /\ ∃ x ∈ xs, p x = true) /\ (b = false -> V2 = _ /\ ∀ j x, j < i + 1 -> xs[j]? = some x -> p x = false)) ⟨_, rfl, fun hb => ⟨rfl, x, hm, hb⟩, fun hb => ⟨rfl, fun j y hj hy => by
   rcases Nat.lt_succ_iff_lt_or_eq.1 hj with h' | rfl
   ·exact hs j y h' hy
   ·rw [hx] at hy; cases hy; exact hb⟩⟩
  exact this
 ·rintro e V' (⟨i, rfl, rfl, x, hm, hx⟩ | ⟨rfl, rfl, hs⟩)
  ·rw [List.any_eq_true.2 ⟨x, hm, hx⟩]; exact ⟨rfl, rfl⟩
  ·have : xs.any p = false := List.any_eq_false.2 fun x hm hx => by
    obtain ⟨j, hj, rfl⟩ := List.mem_iff_getElem.1 hm
    rw [hs j _ hj (List.getElem?_eq_getElem hj)] at hx; cases hx
   rw [this]; exact ⟨rfl, rfl⟩
end
theorem g82 : IdxP 82 Fld.row Fld.v 2 := by
 intro V l xs g first caps hg St Hit hrows h0 hp
 refine x82 (a := l) (b := .func (.func g) first.toArray caps.toArray) ?_
 unfold w82
 refine qBf xs.length St h0 ?_
 intro i b V1 J hi hs hJ
 have h := hrows i V1 hs
 refine ⟨fun hlt => ?_, fun hge => ?_⟩
 ·obtain ⟨x, hm, hx, hd, hl, hp0, hz, hrow⟩ := h.get hlt
  refine ⟨hp0, hz, hlt, _, _, hrow, g, _, _, rfl, hg, Tri.mono (hp i x V1 hx hs) ?_⟩
  rintro e V2 ⟨b, rfl, h1, h2⟩
  exact ⟨b, rfl, fun hb => .inl ⟨i, rfl, h1 hb⟩, fun hb => ⟨h.succ hlt, hJ hl _ _ (h2 (by simpa using hb))⟩⟩
 ·have e : i = xs.length := by have := (h.done hge).2; omega
  exact .inr ⟨rfl, e ▸ hs⟩
theorem g50 : ConP 50 Fld.row Fld.v 2 := conG g82 x50
theorem c50 : ConC 50 Fld.row Fld.v 2 := conC g50
theorem g249 : IdxP 249 Iv.row Iv.v 6 := by
 intro V l xs g first caps hg St Hit hrows h0 hp
 refine x249 (a := l) (b := .func (.func g) first.toArray caps.toArray) ?_
 unfold w249
 refine qBf xs.length St h0 ?_
 intro i b V1 J hi hs hJ
 have h := hrows i V1 hs
 refine ⟨fun hlt => ?_, fun hge => ?_⟩
 ·obtain ⟨x, hm, hx, hd, hl, hp0, hz, hrow⟩ := h.get hlt
  refine ⟨hp0, hz, hlt, _, _, _, _, _, _, hrow, g, _, _, rfl, hg, Tri.mono (hp i x V1 hx hs) ?_⟩
  rintro e V2 ⟨b, rfl, h1, h2⟩
  exact ⟨b, rfl, fun hb => .inl ⟨i, rfl, h1 hb⟩, fun hb => ⟨h.succ hlt, hJ hl _ _ (h2 (by simpa using hb))⟩⟩
 ·have e : i = xs.length := by have := (h.done hge).2; omega
  exact .inr ⟨rfl, e ▸ hs⟩
theorem g224 : ConP 224 Iv.row Iv.v 6 := conG g249 x224
theorem c224 : ConC 224 Iv.row Iv.v 6 := conC g224
theorem g83 : IdxP 83 Ty.row Ty.v 2 := by
 intro V l xs g first caps hg St Hit hrows h0 hp
 refine x83 (a := l) (b := .func (.func g) first.toArray caps.toArray) ?_
 unfold w83
 refine qBf xs.length St h0 ?_
 intro i b V1 J hi hs hJ
 have h := hrows i V1 hs
 refine ⟨fun hlt => ?_, fun hge => ?_⟩
 ·obtain ⟨x, hm, hx, hd, hl, hp0, hz, hrow⟩ := h.get hlt
  refine ⟨hp0, hz, hlt, _, _, hrow, g, _, _, rfl, hg, Tri.mono (hp i x V1 hx hs) ?_⟩
  rintro e V2 ⟨b, rfl, h1, h2⟩
  exact ⟨b, rfl, fun hb => .inl ⟨i, rfl, h1 hb⟩, fun hb => ⟨h.succ hlt, hJ hl _ _ (h2 (by simpa using hb))⟩⟩
 ·have e : i = xs.length := by have := (h.done hge).2; omega
  exact .inr ⟨rfl, e ▸ hs⟩
theorem g54 : ConP 54 Ty.row Ty.v 2 := conG g83 x54
theorem c54 : ConC 54 Ty.row Ty.v 2 := conC g54
theorem g111 : IdxP 111 Pr.row Pr.v 5 := by
 intro V l xs g first caps hg St Hit hrows h0 hp
 refine x111 (a := l) (b := .func (.func g) first.toArray caps.toArray) ?_
 unfold w111
 refine qBf xs.length St h0 ?_
 intro i b V1 J hi hs hJ
 have h := hrows i V1 hs
 refine ⟨fun hlt => ?_, fun hge => ?_⟩
 ·obtain ⟨x, hm, hx, hd, hl, hp0, hz, hrow⟩ := h.get hlt
  refine ⟨hp0, hz, hlt, _, _, _, _, _, hrow, g, _, _, rfl, hg, Tri.mono (hp i x V1 hx hs) ?_⟩
  rintro e V2 ⟨b, rfl, h1, h2⟩
  exact ⟨b, rfl, fun hb => .inl ⟨i, rfl, h1 hb⟩, fun hb => ⟨h.succ hlt, hJ hl _ _ (h2 (by simpa using hb))⟩⟩
 ·have e : i = xs.length := by have := (h.done hge).2; omega
  exact .inr ⟨rfl, e ▸ hs⟩
theorem g79 : ConP 79 Pr.row Pr.v 5 := conG g111 x79
theorem c79 : ConC 79 Pr.row Pr.v 5 := conC g79
theorem g142 : IdxP 142 Bd.row Bd.v 5 := by
 intro V l xs g first caps hg St Hit hrows h0 hp
 refine x142 (a := l) (b := .func (.func g) first.toArray caps.toArray) ?_
 unfold w142
 refine qBf xs.length St h0 ?_
 intro i b V1 J hi hs hJ
 have h := hrows i V1 hs
 refine ⟨fun hlt => ?_, fun hge => ?_⟩
 ·obtain ⟨x, hm, hx, hd, hl, hp0, hz, hrow⟩ := h.get hlt
  refine ⟨hp0, hz, hlt, _, _, _, _, _, hrow, g, _, _, rfl, hg, Tri.mono (hp i x V1 hx hs) ?_⟩
  rintro e V2 ⟨b, rfl, h1, h2⟩
  exact ⟨b, rfl, fun hb => .inl ⟨i, rfl, h1 hb⟩, fun hb => ⟨h.succ hlt, hJ hl _ _ (h2 (by simpa using hb))⟩⟩
 ·have e : i = xs.length := by have := (h.done hge).2; omega
  exact .inr ⟨rfl, e ▸ hs⟩
theorem g109 : ConP 109 Bd.row Bd.v 5 := conG g142 x109
theorem c109 : ConC 109 Bd.row Bd.v 5 := conC g109
theorem g198 : IdxP 198 E.row E.v 4 := by
 intro V l xs g first caps hg St Hit hrows h0 hp
 refine x198 (a := l) (b := .func (.func g) first.toArray caps.toArray) ?_
 unfold w198
 refine qBf xs.length St h0 ?_
 intro i b V1 J hi hs hJ
 have h := hrows i V1 hs
 refine ⟨fun hlt => ?_, fun hge => ?_⟩
 ·obtain ⟨x, hm, hx, hd, hl, hp0, hz, hrow⟩ := h.get hlt
  refine ⟨hp0, hz, hlt, _, _, _, _, hrow, g, _, _, rfl, hg, Tri.mono (hp i x V1 hx hs) ?_⟩
  rintro e V2 ⟨b, rfl, h1, h2⟩
  exact ⟨b, rfl, fun hb => .inl ⟨i, rfl, h1 hb⟩, fun hb => ⟨h.succ hlt, hJ hl _ _ (h2 (by simpa using hb))⟩⟩
 ·have e : i = xs.length := by have := (h.done hge).2; omega
  exact .inr ⟨rfl, e ▸ hs⟩
theorem g145 : ConP 145 E.row E.v 4 := conG g198 x145
theorem c145 : ConC 145 E.row E.v 4 := conC g145
theorem g248 : IdxP 248 Ms.row Ms.v 7 := by
 intro V l xs g first caps hg St Hit hrows h0 hp
 refine x248 (a := l) (b := .func (.func g) first.toArray caps.toArray) ?_
 unfold w248
 refine qBf xs.length St h0 ?_
 intro i b V1 J hi hs hJ
 have h := hrows i V1 hs
 refine ⟨fun hlt => ?_, fun hge => ?_⟩
 ·obtain ⟨x, hm, hx, hd, hl, hp0, hz, hrow⟩ := h.get hlt
  refine ⟨hp0, hz, hlt, _, _, _, _, _, _, _, hrow, g, _, _, rfl, hg, Tri.mono (hp i x V1 hx hs) ?_⟩
  rintro e V2 ⟨b, rfl, h1, h2⟩
  exact ⟨b, rfl, fun hb => .inl ⟨i, rfl, h1 hb⟩, fun hb => ⟨h.succ hlt, hJ hl _ _ (h2 (by simpa using hb))⟩⟩
 ·have e : i = xs.length := by have := (h.done hge).2; omega
  exact .inr ⟨rfl, e ▸ hs⟩
theorem g222 : ConP 222 Ms.row Ms.v 7 := conG g248 x222
theorem c222 : ConC 222 Ms.row Ms.v 7 := conC g222
theorem g268 : IdxP 268 qBu strV 1 := by
 intro V l xs g first caps hg St Hit hrows h0 hp
 refine x268 (a := l) (b := .func (.func g) first.toArray caps.toArray) ?_
 unfold w268
 refine qBf xs.length St h0 ?_
 intro i b V1 J hi hs hJ
 have h := hrows i V1 hs
 refine ⟨fun hlt => ?_, fun hge => ?_⟩
 ·obtain ⟨x, hm, hx, hd, hl, hp0, hz, hrow⟩ := h.get hlt
  refine ⟨hp0, hz, hlt, _, hrow, g, _, _, rfl, hg, Tri.mono (hp i x V1 hx hs) ?_⟩
  rintro e V2 ⟨b, rfl, h1, h2⟩
  exact ⟨b, rfl, fun hb => .inl ⟨i, rfl, h1 hb⟩, fun hb => ⟨h.succ hlt, hJ hl _ _ (h2 (by simpa using hb))⟩⟩
 ·have e : i = xs.length := by have := (h.done hge).2; omega
  exact .inr ⟨rfl, e ▸ hs⟩
theorem g263 : ConP 263 qBu strV 1 := conG g268 x263
theorem c263 : ConC 263 qBu strV 1 := conC g263
end Go.Proofs
namespace Go.Proofs
open Go.Shelf
def Tryz.lays157_ren : Go.Shelf.Ren := ⟨fun | 157 => 194 | 229 => 238 | 199 => 239 | 261 => 259 | 311 => 265 | 312 => 266 | n => n, fun | 9 => 9 | 31 => 217 | 3 => 3 | 5 => 5 | 4 => 4 | 119 => 295 | 0 => 0 | 40 => 297 | 152 => 315 | 21 => 21 | 154 => 317 | 51 => 312 | 141 => 319 | 196 => 326 | 193 => 323 | 198 => 328 | 49 => 51 | 194 => 324 | 201 => 331 | 226 => 334 | 46 => 264 | 227 => 335 | n => n, fun | 0 => 0 | 6 => 1 | n => n⟩
theorem Tryz.lays157 : Go.Proofs.Lays.n157 Tryz.prog Tryz.lays157_ren := {
 mixed := by kernel_rfl
 f157 := Tryz.func194.trans (congrArg some (by kernel_rfl))
 f199 := Tryz.func239.trans (congrArg some (by kernel_rfl))
 f229 := Tryz.func238.trans (congrArg some (by kernel_rfl))
 f261 := Tryz.func259.trans (congrArg some (by kernel_rfl))
 f311 := Tryz.func265.trans (congrArg some (by kernel_rfl))
 f312 := Tryz.func266.trans (congrArg some (by kernel_rfl))
 t0 := Tryz.underlying0
 a0 := Tryz.isAgg0
 z0 := Tryz.sizeOf0
 v0 := Tryz.zeroValue0
 t3 := Tryz.underlying3
 a3 := Tryz.isAgg3
 z3 := Tryz.sizeOf3
 v3 := Tryz.zeroValue3
 t4 := Tryz.underlying4
 a4 := Tryz.isAgg4
 z4 := Tryz.sizeOf4
 v4 := Tryz.zeroValue4
 t5 := Tryz.underlying5
 a5 := Tryz.isAgg5
 z5 := Tryz.sizeOf5
 v5 := Tryz.zeroValue5
 t9 := Tryz.underlying9
 a9 := Tryz.isAgg9
 z9 := Tryz.sizeOf9
 v9 := Tryz.zeroValue9
 t21 := Tryz.underlying21
 a21 := Tryz.isAgg21
 z21 := Tryz.sizeOf21
 v21 := Tryz.zeroValue21
 t31 := Tryz.underlying217
 a31 := Tryz.isAgg217
 z31 := Tryz.sizeOf217
 v31 := Tryz.zeroValue217
 t40 := Tryz.underlying297
 a40 := Tryz.isAgg297
 z40 := Tryz.sizeOf297
 v40 := Tryz.zeroValue297
 t46 := Tryz.underlying264
 a46 := Tryz.isAgg264
 z46 := Tryz.sizeOf264
 v46 := Tryz.zeroValue264
 t49 := Tryz.underlying51
 a49 := Tryz.isAgg51
 z49 := Tryz.sizeOf51
 v49 := Tryz.zeroValue51
 t51 := Tryz.underlying312
 a51 := Tryz.isAgg312
 z51 := Tryz.sizeOf312
 v51 := Tryz.zeroValue312
 t119 := Tryz.underlying295
 a119 := Tryz.isAgg295
 z119 := Tryz.sizeOf295
 t141 := Tryz.underlying319
 a141 := Tryz.isAgg319
 z141 := Tryz.sizeOf319
 v141 := Tryz.zeroValue319
 t152 := Tryz.underlying315
 a152 := Tryz.isAgg315
 z152 := Tryz.sizeOf315
 v152 := Tryz.zeroValue315
 t154 := Tryz.underlying317
 a154 := Tryz.isAgg317
 z154 := Tryz.sizeOf317
 v154 := Tryz.zeroValue317
 t193 := Tryz.underlying323
 a193 := Tryz.isAgg323
 z193 := Tryz.sizeOf323
 v193 := Tryz.zeroValue323
 t194 := Tryz.underlying324
 a194 := Tryz.isAgg324
 z194 := Tryz.sizeOf324
 v194 := Tryz.zeroValue324
 t196 := Tryz.underlying326
 a196 := Tryz.isAgg326
 z196 := Tryz.sizeOf326
 v196 := Tryz.zeroValue326
 t198 := Tryz.underlying328
 a198 := Tryz.isAgg328
 z198 := Tryz.sizeOf328
 v198 := Tryz.zeroValue328
 t201 := Tryz.underlying331
 a201 := Tryz.isAgg331
 z201 := Tryz.sizeOf331
 v201 := Tryz.zeroValue331
 t226 := Tryz.underlying334
 a226 := Tryz.isAgg334
 z226 := Tryz.sizeOf334
 v226 := Tryz.zeroValue334
 t227 := Tryz.underlying335
 a227 := Tryz.isAgg335
 z227 := Tryz.sizeOf335
 v227 := Tryz.zeroValue335
 g0 := by kernel_rfl
 g6 := by kernel_rfl }
open Go.RowKit Go.Lib in
theorem Tryz.strings_Fields (s : ByteArray) (w : World) (hs : s.size < 4294967281) (hascii : ∀ (j : Nat) b, s.data.toList[j]? = some b -> b.toNat < 128) (htab : Lib.TabIs Tryz.prog w "strings.asciiSpace" .u8 Lib.asciiSpaceTab) :
  Calls Tryz.prog 194 #[.string s] w fun e w' =>
   e = .returned (.slice (some ⟨w.heap.size, 0, none⟩) (Lib.fields s.data.toList).length (Lib.fields s.data.toList).length) /\ w' = w.alloc (.cells ((Lib.fields s.data.toList).map fun l => Value.string ⟨l.toArray⟩).toArray 9) := Any.strings_Fields Tryz.lays157 (by kernel_rfl) (by kernel_rfl) s w hs hascii htab
end Go.Proofs
namespace Go.Proofs
open Go Go.Sx
attribute [local irreducible] Go.Sx.Tri
class Tab (V : Mem) : Prop where
 at_ : ∃ t fr, V 0 = some (.cells (Lib.asciiSpaceTab.map fun z => Value.int .u8 z).toArray t fr)
theorem Tab.sub {V V' : Mem} (h : Tab V) (hs : V.sub V') : Tab V' := by
 obtain ⟨t, fr, h⟩ := h.at_
 exact ⟨t, fr, hs _ _ h⟩
theorem Tab.is {V : Mem} {w : World} (h : Tab V) (hV : V.le w) : Lib.TabIs Tryz.prog w "strings.asciiSpace" .u8 Lib.asciiSpaceTab := by
 obtain ⟨t, fr, h⟩ := h.at_
 have hg : Tryz.prog.globalNamed "strings.asciiSpace" = some 0 := by kernel_rfl
 unfold Lib.TabIs World.var?
 rw [hg, Option.bind_some, hV _ _ h]
theorem frm_new {V : Mem} {w : World} (hw : V.le w) (o : Obj) : V w.heap.size = none /\ Frm V w (V.set w.heap.size o) (w.alloc o) := by
 have hn : V w.heap.size = none := by
  cases hc : V w.heap.size with
  | none => rfl
  | some o => have := (Array.getElem?_eq_some_iff.1 (hw _ o hc)).1; omega
 refine ⟨hn, by simp, fun b o hb => ?_, fun b hb _ => Go.RowKit.Below.heap_alloc _ _ _ hb, fun b hb => ?_, rfl, rfl⟩
 ·by_cases e : b = w.heap.size
  ·subst e; rw [Mem.set_same] at hb; rw [<- hb]; exact World.alloc_heap_new _ _
  ·rw [Mem.set_ne e] at hb
   have hlt := (Array.getElem?_eq_some_iff.1 (hw b o hb)).1
   exact (Go.RowKit.Below.heap_alloc _ _ _ hlt).trans (hw b o hb)
 ·by_cases e : b = w.heap.size
  ·exact .inr (by omega)
  ·rw [Mem.set_ne e] at hb; exact .inl hb
def qHK : ByteArray := qAo [97, 110, 100, 32, 98, 111, 111, 108, 32, 98, 111, 117, 110, 100, 32, 100, 101, 115, 99, 32, 101, 108, 115, 101, 32, 102, 97, 108, 115, 101, 32, 105, 102, 32, 105, 110, 116, 32, 105, 110, 118, 97, 114, 105, 97, 110, 116, 32, 108, 111, 99, 97, 108, 32, 108, 111, 103, 32, 109, 97, 120, 32, 109, 101, 97, 115, 117, 114, 101, 32, 109, 105, 110, 32, 110, 101, 119, 32, 110, 105, 108, 32, 110, 111, 116, 32, 111, 112, 32, 111, 114, 32, 112, 111, 116, 101, 110, 116, 105, 97, 108, 32, 112, 114, 111, 99, 32, 114, 101, 116, 117, 114, 110, 32, 114, 117, 108, 101, 32, 115, 99, 114, 105, 112, 116, 32, 115, 111, 114, 116, 32, 115, 112, 101, 99, 32, 116, 104, 105, 115, 32, 116, 114, 117, 101, 32, 116, 121, 112, 101, 32, 118, 97, 114, 32, 119, 104, 105, 108, 101]
def qBx : List ByteArray := (Lib.fields qHK.data.toList).map fun l => ⟨l.toArray⟩
theorem kwText_size : qHK.size = 160 := by kernel_rfl
theorem qFv : qBx.length = 31 := by kernel_rfl
theorem c140 {V : Mem} (ht : Tab V) : Tri Tryz.prog 140 #[] V fun e V' => ∃ b, V b = none /\ e = .returned (.slice (sa b) 31 31) /\ V' = V.set b (.cells (qBx.map Value.string).toArray 9 (0, 0)) := by
 refine x140 ?_
 unfold w140
 refine Tri.mono (R := fun e V' => ∃ b, V b = none /\ e = .returned (.slice (sa b) 31 31) /\ V' = V.set b (.cells (qBx.map Value.string).toArray 9 (0, 0))) ?_ ?_
 ·unfold Tri
  intro w hw
  refine qCk (Tryz.strings_Fields qHK w (by rw [kwText_size]; decide) ?_ (ht.is hw)) ?_
  ·have hall : (qHK.data.toList.all fun b => decide (b.toNat < 128)) = true := by kernel_rfl
   intro j b hb
   have := List.all_eq_true.1 hall b (List.mem_of_getElem? hb)
   simpa using this
  ·rintro e w' ⟨rfl, rfl⟩
   obtain ⟨hn, hf⟩ := frm_new hw (.cells (qBx.map Value.string).toArray 9)
   refine ⟨_, ⟨w.heap.size, hn, ?_, rfl⟩, ?_⟩
   ·rw [show (Lib.fields qHK.data.toList).length = 31 by kernel_rfl]
   ·have e : ((Lib.fields qHK.data.toList).map fun l => Value.string ⟨l.toArray⟩) = qBx.map Value.string := by
     unfold qBx; rw [List.map_map]; rfl
    rw [e]; exact hf
 ·rintro e V' ⟨b, hb, rfl, rfl⟩
  exact ⟨⟨some ⟨b, 0, none⟩, 31, 31⟩, rfl, b, hb, rfl, rfl⟩
theorem c237 {V : Mem} {s : ByteArray} : PP 237 [.string s] V (.bool false) := by
 refine x237 ?_
 unfold w237
 simp
theorem c193 {V : Mem} {s : ByteArray} : PP 193 [.string s] V (.bool false) := by
 refine x193 ?_
 unfold w193
 simp
def ltB (s t : ByteArray) : Bool := Op.bytesLess s.toList t.toList
theorem c192 {V : Mem} {s t : ByteArray} : PP 192 [.string s, .string t] V (.bool (ltB s t)) := by
 refine x192 ?_
 unfold w192
 refine c237.call ⟨_, rfl, fun h => ?_, fun _ => ⟨rfl, rfl⟩⟩
 cases h
theorem bl_trans : ∀ {a b c : List UInt8}, Op.bytesLess a b = true -> Op.bytesLess b c = true -> Op.bytesLess a c = true
 | _, [], _, h, _ => by simp [Op.bytesLess] at h
 | _, _ :: _, [], _, k => by simp [Op.bytesLess] at k
 | [], _ :: _, _ :: _, _, _ => rfl
 | a :: x, b :: y, c :: z, h, k => by
  simp only [Op.bytesLess, Bool.or_eq_true, decide_eq_true_eq, Bool.and_eq_true, beq_iff_eq] at h k ⊢
  rcases h with h | ⟨rfl, h⟩
  ·rcases k with k | ⟨rfl, k⟩
   ·left; rw [UInt8.lt_iff_toNat_lt] at *; omega
   ·exact .inl h
  ·rcases k with k | ⟨rfl, k⟩
   ·exact .inl k
   ·exact .inr ⟨rfl, bl_trans h k⟩
theorem qGB {a b c : ByteArray} (h : ltB a b = true) (k : ltB b c = true) : ltB a c = true := bl_trans h k
theorem bl_irrefl : ∀ l : List UInt8, Op.bytesLess l l = false
 | [] => rfl
 | a :: l => by
  have h1 : ¬ (a < a) := by rw [UInt8.lt_iff_toNat_lt]; omega
  simp [Op.bytesLess, bl_irrefl l, h1]
theorem ltB_irrefl (a : ByteArray) : ltB a a = false := bl_irrefl _
def qHX : List ByteArray -> Bool
 | a :: b :: l => ltB a b && qHX (b :: l)
 | _ => true
theorem qDm : ∀ {l : List ByteArray}, qHX l = true -> ∀ (i j : Nat) (x y : ByteArray), i < j -> l[i]? = some x -> l[j]? = some y -> ltB x y = true
 | [], _, i, j, x, y, _, hx, _ => by simp at hx
 | [a], _, i, j, x, y, hij, hx, hy => by
  have := (List.getElem?_eq_some_iff.1 hy).1
  simp only [List.length_singleton] at this; omega
 | a :: b :: l, h, i, j, x, y, hij, hx, hy => by
  simp only [qHX, Bool.and_eq_true] at h
  cases j with
  | zero => omega
  | succ j =>
   rw [List.getElem?_cons_succ] at hy
   cases i with
   | succ i => rw [List.getElem?_cons_succ] at hx; exact qDm h.2 i j x y (by omega) hx hy
   | zero =>
    simp only [List.getElem?_cons_zero, Option.some.injEq] at hx; subst hx
    cases j with
    | zero => simp only [List.getElem?_cons_zero, Option.some.injEq] at hy; subst hy; exact h.1
    | succ j => exact qGB h.1 (qDm h.2 0 (j + 1) b y (by omega) rfl hy)
theorem GenK.shr1 {V : Mem} {vals : Operand -> Value} {t ty : TypeId} {n : Int} (hv : vals (.tmp 19) = .int .u64 n) (hv2 : vals (.const (.int .u64 1)) = .int .u64 1) {q : Value -> Mem -> Prop} (hq : q (.int .u64 (n / 2)) V) :
  GenK Tryz.prog (.binOp .shr t (.tmp 19) (.const (.int .u64 1)) t) ty vals V q := by
 intro w hw
 refine ⟨_, w, V, ?_, Frm.refl hw, hq⟩
 have e : Op.shift .shr .u64 n .u64 1 = pure (.int .u64 (n / 2)) := by
  unfold Op.shift
  rw [if_neg (by decide)]
  show pure (Value.int .u64 (n.fdiv (2 ^ 1))) = _
  rw [Int.fdiv_eq_ediv_of_nonneg _ (by decide)]
  rfl
 unfold execOp
 simp only [hv, hv2]
 simp [eqGuard, binOp_shr, e]
theorem qCZ {xs : List ByteArray} {s : ByteArray} : hasS xs s = true ↔ s ∈ xs := by
 unfold hasS
 rw [List.any_eq_true]
 exact ⟨fun ⟨x, hx, e⟩ => by rw [decide_eq_true_eq] at e; exact e ▸ hx, fun h => ⟨s, h, by simp⟩⟩
def kwIx (s : ByteArray) : Bool := hasS qBx s
theorem kwIx_eq (s : ByteArray) : kwIx s = isKw s := by
 have h1 : (qBx.all fun x => kwList.any fun y => decide (y = x)) = true := by kernel_rfl
 have h2 : (kwList.all fun x => qBx.any fun y => decide (y = x)) = true := by kernel_rfl
 unfold kwIx isKw
 rw [Bool.eq_iff_iff, qCZ, qCZ]
 constructor
 ·intro h
  exact qCZ.1 (List.all_eq_true.1 h1 s h)
 ·intro h
  exact qCZ.1 (List.all_eq_true.1 h2 s h)
theorem c139 {V : Mem} {l : Sl} {xs : List ByteArray} {s : ByteArray} (h : qAc V l 1 (xs.map fun x => [vS x])) (hs : qHX xs = true) (hlen : xs.length <= 1000) :
  Tri Tryz.prog 139 #[l.v, .string s] V fun e V' => ∃ n : Int, e = .returned (.tuple #[.int .i64 n, .bool (hasS xs s)]) /\ V' = V := by
 refine x139 ?_
 unfold w139
 have hn := h.n_eq
 have hc := h.cap
 have hf := h.fit
 refine ⟨fun n ys V1 => ∃ i j : Nat, ys = [.int .i64 i, .int .i64 j] /\ V1 = V /\ i <= j /\ j <= xs.length /\ n = j - i /\ (∀ (k : Nat) x, k < i -> xs[k]? = some x -> ltB x s = true) /\ (∀ (k : Nat) x, j <= k -> xs[k]? = some x -> ltB x s = false), xs.length,
  ⟨0, xs.length, by rw [hn]; rfl, rfl, by omega, by omega, by omega, fun k x hk => by omega, fun k x hk hx => by have := (List.getElem?_eq_some_iff.1 hx).1; omega⟩, ?_⟩
 rintro n V1 v2 v3 ⟨i, j, hy, rfl, hij, hj, rfl, hlo, hhi⟩ J hJ
 simp only [List.cons.injEq, Value.int.injEq, true_and, and_true] at hy
 obtain ⟨rfl, rfl⟩ := hy
 refine ⟨fun hlt => ?_, fun hge => ?_⟩
 ·refine ⟨⟨by omega, by omega⟩, ⟨by show (0 : Int) <= _; omega, by show _ <= (18446744073709551615 : Int); omega⟩, ?_⟩
  refine GenK.shr1 (n := (i : Int) + j) rfl rfl ⟨_, rfl, ⟨by omega, by omega⟩, ?_⟩
  have hm : ((i : Int) + j) / 2 = ((i + j) / 2 : Nat) := by omega
  rw [hm]
  obtain ⟨x, hmx, hx, hd, hl, hp, h0, hrow⟩ := h.get (i := (i + j) / 2) (by omega)
  refine ⟨hp, h0, by omega, x, hrow, c192.call ⟨_, rfl, fun hb => ⟨⟨by omega, by omega⟩, ?_⟩, fun hb => ?_⟩⟩
  ·refine hJ (j - ((i + j) / 2 + 1)) _ _ (by omega) ⟨(i + j) / 2 + 1, j, rfl, rfl, by omega, hj, rfl, fun k y hk hy => ?_, hhi⟩
   rcases Nat.lt_or_ge k ((i + j) / 2) with h' | h'
   ·exact qGB (qDm hs k _ y x h' hy hx) hb
   ·have : k = (i + j) / 2 := by omega
    subst this; rw [hx] at hy; cases hy; exact hb
  ·refine hJ ((i + j) / 2 - i) _ _ (by omega) ⟨i, (i + j) / 2, rfl, rfl, by omega, by omega, rfl, hlo, fun k y hk hy => ?_⟩
   cases hz : ltB y s with
   | false => rfl
   | true =>
    rcases Nat.lt_or_ge ((i + j) / 2) k with h' | h'
    ·exact absurd (qGB (qDm hs _ k x y h' hx hy) hz) hb
    ·have : k = (i + j) / 2 := by omega
     subst this; rw [hx] at hy; cases hy; exact absurd hz hb
 ·have hij' : i = j := by omega
  subst hij'
  have key : s ∈ xs -> xs[i]? = some s := fun hm => by
   obtain ⟨k, hk, e⟩ := List.mem_iff_getElem.1 hm
   have hk' : xs[k]? = some s := by rw [List.getElem?_eq_getElem hk, e]
   rcases Nat.lt_trichotomy k i with h' | h' | h'
   ·have := hlo k s h' hk'; rw [ltB_irrefl] at this; cases this
   ·subst h'; exact hk'
   ·have hi' : i < xs.length := by omega
    have h2 := qDm hs i k xs[i] s h' (List.getElem?_eq_getElem hi') hk'
    have h3 := hhi i xs[i] (Nat.le_refl _) (List.getElem?_eq_getElem hi')
    rw [h2] at h3; cases h3
  refine ⟨fun hlt => ?_, fun hge2 => ?_⟩
  ·obtain ⟨x, hmx, hx, hd, hl, hp, h0, hrow⟩ := h.get (i := i) hlt
   refine ⟨hp, h0, hlt, x, hrow, fun e => ?_, fun e => ⟨hp, h0, hlt, x, hrow, c193.call ⟨_, rfl, fun hb => ?_, fun _ => ?_⟩⟩⟩
   ·subst e
    exact ⟨i, by rw [qCZ.2 hmx], rfl⟩
   ·cases hb
   ·refine ⟨i, ?_, rfl⟩
    have : hasS xs s = false := by
     cases hz : hasS xs s with
     | false => rfl
     | true => have := key (qCZ.1 hz); rw [hx] at this; exact absurd (by simpa using this) e
    rw [this]
  ·refine ⟨i, ?_, rfl⟩
   have : hasS xs s = false := by
    cases hz : hasS xs s with
    | false => rfl
    | true => have := (List.getElem?_eq_some_iff.1 (key (qCZ.1 hz))).1; omega
   rw [this]
theorem c104 {V : Mem} {s : ByteArray} (ht : Tab V) : PP 104 [.string s] V (.bool (isKw s)) := by
 refine Pur.mk ?_
 refine x104 ?_
 unfold w104
 refine Tri.mono (c140 ht) ?_
 rintro _ V' ⟨b, hb, rfl, rfl⟩
 refine ⟨⟨some ⟨b, 0, none⟩, 31, 31⟩, rfl, ?_⟩
 have hrows : qAc (V.set b (.cells ((qBx.map Value.string).toArray) 9 (0, 0))) ⟨some ⟨b, 0, none⟩, 31, 31⟩ 1 (qBx.map fun x => [vS x]) :=
  qAc.cells (xs := qBx) (row := fun x => [vS x]) mss (by simp; rfl) (fun _ => rfl) qFv.symm (Nat.le_of_ble_eq_true rfl)
 refine Tri.mono (c139 hrows (by kernel_rfl) (by rw [qFv]; decide)) ?_
 rintro _ V2 ⟨n, rfl, rfl⟩
 exact ⟨n, _, rfl, by rw [<- kwIx_eq]; rfl, Mem.sub_new hb _⟩
theorem c75 {V : Mem} [Tab V] {s : ByteArray} : PP 75 [.string s] V (.bool (qAL s)) := by
 refine x75 ?_
 unfold w75
 refine ⟨fun h => ?_, fun h => ⟨fun h1 => ?_, fun h1 => ?_⟩⟩
 ·subst h; exact ⟨rfl, rfl⟩
 ·have : ¬ s.size <= 40 := by omega
  simp [qAL, this]
 ·have h0 : s.size ≠ 0 := fun e => h (by
   have : s.data = #[] := Array.eq_empty_of_size_eq_zero e
   cases s; simp only at this; subst this; rfl)
  refine ⟨by omega, c103.call ⟨_, rfl, fun h2 => ?_, fun h2 => ?_⟩⟩
  ·refine (c104 inferInstance).call ⟨_, rfl, fun hk => ?_, fun hk => ?_⟩
   ·simp [qAL, hk]
   ·refine qBf s.size (fun i V1 => V1 = V /\ ∀ j : Nat, j < i -> qHL (qAW s j) = true) ⟨rfl, by simp⟩ ?_
    rintro i b _ J hi ⟨rfl, hj⟩ hJ
    refine ⟨fun hlt => ⟨by omega, c103.call ⟨_, rfl, fun hw => ?_, fun hw => ⟨⟨by omega, by omega⟩, hJ (by omega) _ _ ⟨rfl, fun j hj' => ?_⟩⟩⟩⟩, fun hge => ?_⟩
    ·rw [cls_word] at hw
     have : ¬ ∀ i : Nat, i < s.size -> qHL (qAW s i) = true := fun hf => by rw [hf i (by omega)] at hw; cases hw
     simp [qAL, this]
    ·rcases Nat.lt_succ_iff_lt_or_eq.1 hj' with h' | rfl
     ·exact hj j h'
     ·rw [cls_word] at hw; simpa using hw
    ·have a2 : s.size <= 40 := by omega
     have a3 : ∀ i : Nat, i < s.size -> qHL (qAW s i) = true := fun j hj' => hj j (by omega)
     have : qAL s = !isKw s := by unfold qAL; rw [decide_eq_true ⟨h0, a2, (cls_two _).1 h2, a3⟩]; simp
     simp [this, hk]
  ·rw [cls_two] at h2
   have : qCB (qAW s 0) = false := by simpa using h2
   simp [qAL, this]
/-! Nodes. -/
def qAG (op : Int) : Int := if (1 <= op /\ op <= 4) ∨ op = 6 then 0 else if op = 5 ∨ op = 8 ∨ op = 18 ∨ op = 24 then 1 else if op = 7 then -1 else if op = 21 then 3 else if 9 <= op /\ op <= 23 then 2 else -2
theorem c195 {V : Mem} {op : Int} : PP 195 [.int .i64 op] V (.tuple #[.int .i64 (if qAG op = -2 then 2 else qAG op), .bool (decide (qAG op ≠ -2))]) := by
 refine x195 ?_
 unfold w195
 have key : ∀ (n : Int) (b : Bool), (if qAG op = -2 then 2 else qAG op) = n -> decide (qAG op ≠ -2) = b -> Ending.returned (.tuple #[.int .i64 n, .bool b]) = Ending.returned (.tuple #[.int .i64 (if qAG op = -2 then 2 else qAG op), .bool (decide (qAG op ≠ -2))]) := fun n b h k => by rw [h, k]
 unfold qAG at key
 repeat' (first | intro _ | apply And.intro)
 all_goals first | rfl | (refine key _ _ ?_ ?_ <;> grind)
def sThis : ByteArray := qAo [116, 104, 105, 115]
def nmB (op : Int) (s : ByteArray) : Bool := if op = 4 then decide (s = sThis) || qAL s else if op = 5 ∨ op = 6 ∨ op = 7 then qAL s else decide (s = qAo [])
def numB (op n : Int) : Bool := if op = 1 then decide (0 <= n /\ n <= 1099511627776) else if op = 2 then decide (n = 0 ∨ n = 1) else decide (n = 0)
def qDX (op n : Int) (s : ByteArray) (len : Int) : Bool := decide (qAG op ≠ -2 /\ (0 <= qAG op -> len = qAG op) /\ (qAG op = -1 -> len <= 6)) && nmB op s && numB op n
theorem c196 {V : Mem} [Tab V] {e : E} : PP 196 [e.v] V (.bool (nmB e.op e.s && numB e.op e.n)) := by
 refine x196 ?_
 unfold w196
 have key : ∀ b : Bool, (nmB e.op e.s && numB e.op e.n) = b -> Ending.returned (.bool b) = Ending.returned (.bool (nmB e.op e.s && numB e.op e.n)) := fun n h => by rw [h]
 unfold nmB numB sThis at key
 repeat' (first | refine c75.call ⟨_, rfl, ?_⟩ | intro _ | apply And.intro)
 all_goals first | rfl | (refine key _ ?_; grind)
mutual
def okE (d : Int) : E -> Bool | .mk op n s _ k => decide (d <= 60) && qDX op n s k.length && okEs (d + 1) k
def okEs (d : Int) : List E -> Bool | [] => true | x :: xs => okE d x && okEs d xs
end
mutual
def szE : E -> Nat | .mk _ _ _ _ k => 1 + szEs k
def szEs : List E -> Nat | [] => 0 | x :: xs => szE x + szEs xs
end
mutual
def cntE (d : Int) : E -> Int | .mk op n s _ k => if 60 < d then 1001 else if qDX op n s k.length = true then qIF (d + 1) 1 k else 1001
def qIF (d acc : Int) : List E -> Int | [] => acc | x :: xs => if 1000 < acc + cntE d x then acc + cntE d x else qIF d (acc + cntE d x) xs
end
mutual
def vE (left d : Int) : E -> Bool × Int | .mk op n s _ k => if 0 <= left - 1 /\ d <= 60 /\ qDX op n s k.length = true then vEs (left - 1) (d + 1) k else (false, left - 1)
def vEs (left d : Int) : List E -> Bool × Int | [] => (true, left) | x :: xs => if (vE left d x).1 = true then vEs (vE left d x).2 d xs else (false, (vE left d x).2)
end
def qAN (e : E) : Bool := decide (okE 1 e = true /\ szE e <= 1000)
mutual
theorem vE_ok : ∀ (left d : Int) (e : E), ((vE left d e).1 = true ↔ okE d e = true /\ (szE e : Int) <= left) /\ ((vE left d e).1 = true -> (vE left d e).2 = left - szE e)
 | left, d, .mk op n s l k => by
  have ih := vEs_ok (left - 1) (d + 1) k
  unfold vE okE szE
  split
  ·rename_i h
   have := ih
   grind
  ·rename_i h
   grind
theorem vEs_ok : ∀ (left d : Int) (k : List E), 0 <= left -> ((vEs left d k).1 = true ↔ okEs d k = true /\ (szEs k : Int) <= left) /\ ((vEs left d k).1 = true -> (vEs left d k).2 = left - szEs k)
 | left, d, [], h => by simp [vEs, okEs, szEs, h]
 | left, d, x :: xs, h => by
  have h1 := vE_ok left d x
  have h2 := vEs_ok (vE left d x).2 d xs
  unfold vEs okEs szEs
  split
  ·rename_i hx
   have e := h1.2 hx
   have k := h1.1.1 hx
   have h2 := h2 (by omega)
   grind
  ·grind
end
mutual
theorem cntE_ok : ∀ (d : Int) (e : E), 1 <= cntE d e /\ (cntE d e <= 1000 ↔ okE d e = true /\ szE e <= 1000) /\ (cntE d e <= 1000 -> cntE d e = szE e) /\ cntE d e <= 1001 + 1000 * (61 - d).toNat
 | d, .mk op n s l k => by
  have ih := cntEs_ok (d + 1) 1 k (by omega) (by omega)
  unfold cntE okE szE
  split
  ·grind
  ·split
   ·have : (61 - d).toNat = (61 - (d + 1)).toNat + 1 := by omega
    grind
   ·grind
theorem cntEs_ok : ∀ (d acc : Int) (k : List E), 1 <= acc -> acc <= 1000 -> acc <= qIF d acc k /\ (qIF d acc k <= 1000 ↔ okEs d k = true /\ acc + szEs k <= 1000) /\ (qIF d acc k <= 1000 -> qIF d acc k = acc + szEs k) /\ qIF d acc k <= 2001 + 1000 * (61 - d).toNat
 | d, acc, [], h, h' => by simp [qIF, okEs, szEs]; omega
 | d, acc, x :: xs, h, h' => by
  have h1 := cntE_ok d x
  have h2 := cntEs_ok d (acc + cntE d x) xs (by omega)
  unfold qIF okEs szEs
  split
  ·grind
  ·have h2 := h2 (by omega)
   grind
end
theorem validE_v (e : E) : (vE 1000 1 e).1 = qAN e := by
 have := (vE_ok 1000 1 e).1
 unfold qAN
 grind
theorem vE_bound {left d : Int} {e : E} (h : (vE left d e).1 = true) : 0 <= (vE left d e).2 /\ (vE left d e).2 <= left := by
 have := vE_ok left d e
 grind
theorem vE_eq (left d : Int) (e : E) : vE left d e = if 0 <= left - 1 /\ d <= 60 /\ qDX e.op e.n e.s e.k.length = true then vEs (left - 1) (d + 1) e.k else (false, left - 1) := by
 cases e; unfold vE; rfl
theorem vEs_cons (left d : Int) (x : E) (xs : List E) : vEs left d (x :: xs) = if (vE left d x).1 = true then vEs (vE left d x).2 d xs else (false, (vE left d x).2) := by rw [vEs]
theorem vEs_nil (left d : Int) : vEs left d [] = (true, left) := by rw [vEs]
theorem c143 {V : Mem} {b t : Nat} {n : Int} (h : V b = some (cell (.int .i64 n) t)) (h0 : -1000 <= n) (h1 : n <= 100000) :
  Tri Tryz.prog 143 #[pv b] V fun e V' => e = .returned (.bool (decide (0 <= n - 1))) /\ V' = V.set b (cell (.int .i64 (n - 1)) t) := by
 refine x143 ?_
 unfold w143
 refine ⟨by simp, by simp, _, qBj h, ⟨by omega, by omega⟩, by simp, by simp, StT.cell h ⟨by simp, by simp, _, qBj mss, rfl, rfl⟩⟩
set_option maxRecDepth 10000 in
theorem c141 {V0 : Mem} [hT : Tab V0] {b t : Nat} (hb : V0 b = none) : ∀ e : E, E.Ok V0 e -> ∀ (V : Mem), V0.sub V -> ∀ left d : Int, V b = some (cell (.int .i64 left) t) -> 0 <= left -> left <= 1000 -> 0 <= d -> d <= 61 ->
    Tri Tryz.prog 141 #[e.v, .int .i64 d, pv b] V fun r V' => r = .returned (.bool (vE left d e).1) /\ V' = V.set b (cell (.int .i64 (vE left d e).2) t) := by
  intro e
  induction e using E.ind with
  | h e ih =>
  intro ho V hV left d hl hl0 hl1 hd0 hd
  have hr := ho.rows
  have hn := hr.n_eq
  refine Tri.less (x141 ?_)
  unfold w141
  refine c195.call ⟨_, _, rfl, Tri.mono (c143 hl (by omega) (by omega)) ?_⟩
  rintro _ _ ⟨rfl, rfl⟩
  refine ⟨_, rfl, ?_⟩
  -- no
  have no : ¬ (0 <= left - 1 /\ d <= 60 /\ qDX e.op e.n e.s e.k.length = true) -> ∃ W, (Ending.returned (.bool false) = Ending.returned (.bool (vE left d e).1) /\ W = V.set b (cell (.int .i64 (vE left d e).2) t)) /\ W.sub (V.set b (cell (.int .i64 (left - 1)) t)) := by
    intro h
    rw [vE_eq, if_neg h]
    exact ⟨_, ⟨rfl, rfl⟩, Mem.sub.refl _⟩
  -- yes
  have yes : (0 <= left - 1 /\ d <= 60 /\ qDX e.op e.n e.s e.k.length = true) -> qAB [(.int .i64 d)] 3 (V.set b (cell (.int .i64 (left - 1)) t)) fun v10 V4 =>
        qAB [(pv b)] 191 V4 fun v11 V5 =>
        Tri Tryz.prog 145 #[(.slice e.l.p e.l.n e.l.c), (.func (.func 197) #[] #[(.pointer (qAb v10 0)), (.pointer (qAb v11 0))])] V5 fun r V6 => ∃ v12 : Bool, r = .returned (.bool v12) /\
        ∃ W, (Ending.returned (.bool (!v12)) = Ending.returned (.bool (vE left d e).1) /\ W = V.set b (cell (.int .i64 (vE left d e).2) t)) /\ W.sub V6 := by
    intro h b1 hb1 b2 hb2
    rw [vE_eq, if_pos h]
    have n1 : b ≠ b1 := fun e => by subst e; rw [Mem.set_same] at hb1; cases hb1
    have n2 : b1 ≠ b2 := fun e => by subst e; rw [Mem.set_same] at hb2; cases hb2
    have n3 : b ≠ b2 := fun e => by subst e; rw [Mem.set_ne n1, Mem.set_same] at hb2; cases hb2
    rw [Mem.set_ne (fun e => n1 e.symm)] at hb1
    rw [Mem.set_ne (fun e => n2 e.symm), Mem.set_ne (fun e => n3 e.symm)] at hb2
    have v1 : V0 b1 = none := by cases h' : V0 b1 with
      | none => rfl
      | some x => rw [hV _ _ h'] at hb1; cases hb1
    have v2 : V0 b2 = none := by cases h' : V0 b2 with
      | none => rfl
      | some x => rw [hV _ _ h'] at hb2; cases hb2
    let M : Int -> Mem := fun lf => ((V.set b (cell (.int .i64 lf) t)).set b1 (cell (.int .i64 d) 3)).set b2 (cell (pv b) 191)
    have hM : ∀ lf, V0.sub (M lf) := fun lf => ((hV.set hb _).set v1 _).set v2 _
    have hMb : ∀ lf, M lf b = some (cell (.int .i64 lf) t) := fun lf => by simp only [M]; rw [Mem.set_ne n3, Mem.set_ne n1, Mem.set_same]
    have hM1 : ∀ lf, M lf b1 = some (cell (.int .i64 d) 3) := fun lf => by simp only [M]; rw [Mem.set_ne n2, Mem.set_same]
    have hM2 : ∀ lf, M lf b2 = some (cell (pv b) 191) := fun lf => by simp only [M]; rw [Mem.set_same]
    have hMs : ∀ lf lf', (M lf).set b (cell (.int .i64 lf') t) = M lf' := fun lf lf' => by
      simp only [M]
      rw [Mem.set_comm _ (fun e => n3 e.symm), Mem.set_comm _ (fun e => n1 e.symm), Mem.set_set]
    have hW : ∀ lf, (V.set b (cell (.int .i64 lf) t)).sub (M lf) := fun lf => by
      refine ((Mem.sub.refl _).set ?_ _).set ?_ _
      · rw [Mem.set_ne (fun e => n1 e.symm)]; exact hb1
      · rw [Mem.set_ne (fun e => n3 e.symm)]; exact hb2
    refine Tri.mono (g145 (l := e.l) (xs := e.k) (first := []) (caps := [pv b1, pv b2]) Tryz.call197
      (fun i V1 => ∃ lf, V1 = M lf /\ 0 <= lf /\ lf <= 1000 /\ vEs (left - 1) (d + 1) e.k = vEs lf (d + 1) (e.k.drop i)) (fun i V1 => ∃ lf, V1 = M lf /\ vEs (left - 1) (d + 1) e.k = (false, lf)) ?_ ⟨left - 1, rfl, by omega, by omega, rfl⟩ ?_) ?_
    · rintro i _ ⟨lf, rfl, -⟩; exact hr.sub (hM lf)
    · rintro i x _ hx ⟨lf, rfl, hf0, hf1, he⟩
      have hm := List.mem_of_getElem? hx
      have hil := (List.getElem?_eq_some_iff.1 hx).1
      have hdr : e.k.drop i = x :: e.k.drop (i + 1) := by rw [List.drop_eq_getElem_cons hil, (List.getElem?_eq_some_iff.1 hx).2]
      rw [hdr, vEs_cons] at he
      refine x197 ?_
      unfold w197
      refine ⟨_, qBj (hM1 lf), ⟨by omega, by omega⟩, _, qBj (hM2 lf), Tri.mono (ih x hm (ho.kids x hm) (M lf) (hM lf) lf (d + 1) (hMb lf) hf0 hf1 (by omega) (by omega)) ?_⟩
      rintro _ _ ⟨rfl, rfl⟩
      refine ⟨_, rfl, _, rfl, fun hb => ?_, fun hb => ?_⟩
      · have hb : (vE lf (d + 1) x).1 = false := by simpa using hb
        rw [if_neg (by rw [hb]; simp)] at he
        exact ⟨_, hMs _ _, he⟩
      · have hb : (vE lf (d + 1) x).1 = true := by simpa using hb
        have := vE_bound hb
        rw [if_pos hb] at he
        exact ⟨_, hMs _ _, by omega, by omega, he⟩
    · rintro _ _ (⟨i, rfl, lf, rfl, he⟩ | ⟨rfl, lf, rfl, hf0, hf1, he⟩)
      · exact ⟨_, rfl, _, ⟨by rw [he]; rfl, rfl⟩, by rw [he]; exact hW lf⟩
      · rw [List.drop_length, vEs_nil] at he
        exact ⟨_, rfl, _, ⟨by rw [he]; rfl, rfl⟩, by rw [he]; exact hW lf⟩
  have key : qDX e.op e.n e.s e.k.length = (decide (qAG e.op ≠ -2 /\ (0 <= qAG e.op -> (e.k.length : Int) = qAG e.op) /\ (qAG e.op = -1 -> (e.k.length : Int) <= 6)) && (nmB e.op e.s && numB e.op e.n)) := by unfold qDX; rw [Bool.and_assoc]
  have pr : -2 <= qAG e.op := by unfold qAG; grind
  rw [key] at no yes
  have hnI : (e.k.length : Int) = (e.l.n : Int) := by rw [hn]
  rw [hnI] at no yes
  generalize hkn : (e.l.n : Int) = kn at no yes ⊢
  generalize hpn : qAG e.op = pn at no yes pr ⊢
  generalize hnm : (nmB e.op e.s && numB e.op e.n) = nm at no yes ⊢
  haveI : Tab (V.set b (cell (.int .i64 (left - 1)) t)) := Tab.sub hT (hV.set hb _)
  refine ⟨fun h8 => ⟨fun h60 => no fun h => absurd h.2.1 (Int.not_le.2 h60), fun h60 => ⟨fun h7 => (c196 (e := e)).call ⟨nm, by rw [hnm], fun h9 => ?_, fun h9 => no ?_⟩, fun h7 => no ?_⟩⟩, fun h8 => no ?_⟩
  · have h7 : pn ≠ -2 := of_decide_eq_true h7
    have h8 : 0 <= left - 1 := of_decide_eq_true h8
    rw [if_neg h7]
    have bad : ¬ ((0 <= pn -> kn = pn) /\ (pn = -1 -> kn <= 6)) -> ¬ (0 <= left - 1 /\ d <= 60 /\ (decide (pn ≠ -2 /\ (0 <= pn -> kn = pn) /\ (pn = -1 -> kn <= 6)) && nm) = true) := fun hb h => by
      have := h.2.2
      rw [Bool.and_eq_true, decide_eq_true_eq] at this
      exact hb this.1.2
    have good : ((0 <= pn -> kn = pn) /\ (pn = -1 -> kn <= 6)) -> (0 <= left - 1 /\ d <= 60 /\ (decide (pn ≠ -2 /\ (0 <= pn -> kn = pn) /\ (pn = -1 -> kn <= 6)) && nm) = true) := fun hb => by
      refine ⟨h8, by omega, ?_⟩
      rw [Bool.and_eq_true, decide_eq_true_eq]
      exact ⟨⟨h7, hb⟩, h9⟩
    refine ⟨fun hp => ⟨fun hq => ⟨fun hm => ⟨fun h6 => no (bad (by omega)), fun h6 => yes (good (by omega))⟩, fun hm => yes (good (by omega))⟩, fun hq => no (bad (by omega))⟩, fun hp => ⟨fun hm => ⟨fun h6 => no (bad (by omega)), fun h6 => yes (good (by omega))⟩, fun hm => yes (good (by omega))⟩⟩
  · intro h; have := h.2.2; rw [Bool.and_eq_true] at this; exact h9 this.2
  · intro h; have := h.2.2; rw [Bool.and_eq_true, decide_eq_true_eq] at this; exact h7 (decide_eq_true this.1.1)
  · intro h; exact h8 (decide_eq_true h.1)
theorem c107 {V : Mem} [Tab V] {e : E} (h : E.Ok V e) : PP 107 [e.v] V (.bool (qAN e)) := by
 refine Pur.mk (x107 ?_)
 unfold w107
 intro b hb
 refine Tri.mono (c141 hb e h _ (Mem.sub_new hb _) 1000 1 mss (by omega) (by omega) (by omega) (by omega)) ?_
 rintro _ _ ⟨rfl, rfl⟩
 rw [validE_v, Mem.set_set]
 exact ⟨_, rfl, rfl, Mem.sub_new hb _⟩
def fop : List E -> Int | [] => 0 | e :: _ => e.op
def qGl (op : Int) (s : ByteArray) (es : List E) (nl nx : Int) : Bool :=
 if op = 1 then qAL s && decide ((es.length : Int) = 1 /\ nl = 0 /\ nx = 0) else if op = 2 then qAL s && decide ((es.length : Int) = 2 /\ nl = 0 /\ nx = 0) else if op = 3 then decide (s = qAo [] /\ (es.length : Int) = 1)
 else if op = 4 then decide (s = qAo [] /\ (es.length : Int) = 1 /\ nx = 0) else if op = 5 then decide (s = qAo [] /\ (es.length : Int) <= 1 /\ nl = 0 /\ nx = 0) else if op = 6 then decide (s = qAo [] /\ (es.length : Int) = 1 /\ fop es = 7 /\ nl = 0 /\ nx = 0) else false
def qCn (op : Int) (s : ByteArray) (es : List E) (nl nx : Int) : Bool := qGl op s es nl nx && es.all qAN
theorem first_row {V : Mem} {s : S} (h : S.Ok V s) : (s.es = [] /\ s.el.n = 0) ∨ ∃ e0 r, s.es = e0 :: r /\ 0 < s.el.n /\ ¬ (s.el.p = none) /\ ¬ (qAb s.el.p 0 = none) /\ V.rowp s.el.p 0 4 = some [.int .i64 e0.op, .int .i64 e0.n, .string e0.s, .slice e0.l.p e0.l.n e0.l.c] := by
 have hr := h.eRows
 have hn := hr.n_eq
 cases hes : s.es with
 | nil => exact .inl ⟨rfl, by rw [hn, hes]; rfl⟩
 | cons e0 r =>
  have h0 : ((0 : Nat) : Int) < (s.el.n : Int) := by rw [hn, hes, List.length_cons]; omega
  obtain ⟨x, hm, hx, hdr, hl, hp, hz, hrow⟩ := hr.get h0
  rw [hes] at hx
  simp only [List.getElem?_cons_zero, Option.some.injEq] at hx
  subst hx
  refine .inr ⟨e0, r, rfl, by omega, hp, fun e => ?_, ?_⟩
  ·cases hq : s.el.p with
   | none => exact hp hq
   | some a => rw [hq] at e; cases e
  ·simpa [E.row, vI, vS, Sl.v] using hrow
end Go.Proofs
