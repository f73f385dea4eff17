/- Part 9 of a proof of a law of this seat: no statement of the seat is proved here. -/
import Derived.Test.YtlnbdjekdkodcaaGreatDoorPart08
set_option linter.unusedVariables false
set_option linter.unusedSimpArgs false
namespace Go.Proofs
open Go Go.Sx
attribute [local irreducible] Go.Sx.Tri
mutual
def okS (d : Int) : S -> Bool | .mk op s _ es _ ls _ xs => decide (d <= 60) && qCn op s es ls.length xs.length && qGx (d + 1) ls && qGx (d + 1) xs
def qGx (d : Int) : List S -> Bool | [] => true | x :: xs => okS d x && qGx d xs
end
mutual
def szS : S -> Nat | .mk _ _ _ _ _ ls _ xs => 1 + qGf ls + qGf xs
def qGf : List S -> Nat | [] => 0 | x :: xs => szS x + qGf xs
end
mutual
def cntS (d acc : Int) : S -> Int
 | .mk op s _ es _ ls _ xs =>
  if 60 < d then 201 else if qCn op s es ls.length xs.length = true then
    if acc + 1 <= 200 then
      if acc + 1 + qFH (d + 1) 0 ls <= 200 then acc + 1 + qFH (d + 1) 0 ls + qFH (d + 1) 0 xs else acc + 1 + qFH (d + 1) 0 ls
    else acc + 1
  else 201
def qFH (d acc : Int) : List S -> Int | [] => acc | x :: xs => if 200 < cntS d acc x then cntS d acc x else qFH d (cntS d acc x) xs
end
def gd {α : Type} (d left : Int) (l : List α) (r : Bool × Int) : Bool × Int := if 60 < d /\ l ≠ [] then (false, left) else r
mutual
def vS (left d : Int) : S -> Bool × Int
 | .mk op s _ es _ ls _ xs =>
  if 0 <= left - 1 /\ qCn op s es ls.length xs.length = true then
    if (gd (d + 1) (left - 1) ls (vSs (left - 1) (d + 1) ls)).1 = true then
      gd (d + 1) (gd (d + 1) (left - 1) ls (vSs (left - 1) (d + 1) ls)).2 xs (vSs (gd (d + 1) (left - 1) ls (vSs (left - 1) (d + 1) ls)).2 (d + 1) xs)
    else (false, (gd (d + 1) (left - 1) ls (vSs (left - 1) (d + 1) ls)).2)
  else (false, left - 1)
def vSs (left d : Int) : List S -> Bool × Int | [] => (true, left) | x :: xs => if (vS left d x).1 = true then vSs (vS left d x).2 d xs else (false, (vS left d x).2)
end
def vSl (left d : Int) (l : List S) : Bool × Int := gd d left l (vSs left d l)
theorem vSs_cons (left d : Int) (x : S) (xs : List S) : vSs left d (x :: xs) = if (vS left d x).1 = true then vSs (vS left d x).2 d xs else (false, (vS left d x).2) := by rw [vSs]
theorem vSs_nil (left d : Int) : vSs left d [] = (true, left) := by rw [vSs]
theorem vS_eq (left d : Int) (x : S) : vS left d x = if 0 <= left - 1 /\ qCn x.op x.s x.es x.ls.length x.xs.length = true then (if (vSl (left - 1) (d + 1) x.ls).1 = true then vSl (vSl (left - 1) (d + 1) x.ls).2 (d + 1) x.xs else (false, (vSl (left - 1) (d + 1) x.ls).2)) else (false, left - 1) := by
 cases x; unfold vS; rfl
mutual
theorem cntS_ok : ∀ (d acc : Int) (e : S), 0 <= acc -> acc <= 200 -> acc + 1 <= cntS d acc e /\ (cntS d acc e <= 200 ↔ okS d e = true /\ acc + szS e <= 200) /\ (cntS d acc e <= 200 -> cntS d acc e = acc + szS e) /\ cntS d acc e <= 201 + 200 * (61 - d).toNat
 | d, acc, .mk op s _ es _ ls _ xs, h, h' => by
  have i1 := qIE (d + 1) 0 ls (by omega) (by omega)
  have i2 := qIE (d + 1) 0 xs (by omega) (by omega)
  unfold cntS okS szS
  have : 60 < d ∨ (61 - d).toNat = (61 - (d + 1)).toNat + 1 := by omega
  split
  ·grind
  ·split
   ·split
    ·split <;> grind
    ·grind
   ·grind
theorem qIE : ∀ (d acc : Int) (k : List S), 0 <= acc -> acc <= 200 -> acc <= qFH d acc k /\ (qFH d acc k <= 200 ↔ qGx d k = true /\ acc + qGf k <= 200) /\ (qFH d acc k <= 200 -> qFH d acc k = acc + qGf k) /\ qFH d acc k <= 201 + 200 * (61 - d).toNat
 | d, acc, [], h, h' => by simp [qFH, qGx, qGf]; omega
 | d, acc, x :: xs, h, h' => by
  have h1 := cntS_ok d acc x h h'
  have h2 := qIE d (cntS d acc x) xs (by omega)
  unfold qFH qGx qGf
  split
  ·grind
  ·have h2 := h2 (by omega)
   grind
end
theorem okSs_deep {d : Int} (h : 60 < d) : ∀ l : List S, l ≠ [] -> qGx d l = false
 | [], hl => absurd rfl hl
 | .mk _ _ _ _ _ _ _ _ :: xs, _ => by
  have : ¬ d <= 60 := by omega
  simp [qGx, okS, this]
mutual
theorem vS_ok : ∀ (left d : Int) (e : S), d <= 60 -> ((vS left d e).1 = true ↔ okS d e = true /\ (szS e : Int) <= left) /\ ((vS left d e).1 = true -> (vS left d e).2 = left - szS e)
 | left, d, .mk op s _ es _ ls _ xs, hd => by
  have i1 := vSs_ok (left - 1) (d + 1) ls
  have i2 := fun l => vSs_ok l (d + 1) xs
  have d1 := fun h => okSs_deep (d := d + 1) h ls
  have d2 := fun h => okSs_deep (d := d + 1) h xs
  unfold vS okS szS gd
  by_cases h0 : 0 <= left - 1 /\ qCn op s es ls.length xs.length = true
  ·rw [if_pos h0]
   by_cases hl : 60 < d + 1 /\ ls ≠ []
   ·have := d1 hl.1 hl.2
    simp [hl, this]
   ·rw [if_neg hl]
    have i1 := i1 h0.1 hl
    by_cases hx : 60 < d + 1 /\ xs ≠ []
    ·have := d2 hx.1 hx.2
     simp [hx, this]
    ·simp only [if_neg hx]
     by_cases hv : (vSs (left - 1) (d + 1) ls).1 = true
     ·have e1 := i1.2 hv
      have k1 := i1.1.1 hv
      have i2 := i2 (vSs (left - 1) (d + 1) ls).2 (by omega) hx
      rw [if_pos hv]
      rw [Bool.and_eq_true, Bool.and_eq_true, Bool.and_eq_true, decide_eq_true_eq]
      refine ⟨⟨fun h => ?_, fun h => ?_⟩, fun h => ?_⟩
      ·have := i2.1.1 h
       exact ⟨⟨⟨⟨hd, h0.2⟩, k1.1⟩, this.1⟩, by omega⟩
      ·exact i2.1.2 ⟨h.1.2, by omega⟩
      ·rw [i2.2 h]; omega
     ·rw [if_neg hv]
      have : ¬ (qGx (d + 1) ls = true /\ (qGf ls : Int) <= left - 1) := fun h => hv (i1.1.2 h)
      refine ⟨⟨fun h => absurd h (by simp), fun h => ?_⟩, fun h => absurd h (by simp)⟩
      rw [Bool.and_eq_true, Bool.and_eq_true] at h
      exact absurd ⟨h.1.1.2, by omega⟩ this
  ·rw [if_neg h0]
   refine ⟨⟨fun h => absurd h (by simp), fun h => ?_⟩, fun h => absurd h (by simp)⟩
   rw [Bool.and_eq_true, Bool.and_eq_true, Bool.and_eq_true] at h
   exact absurd ⟨by omega, h.1.1.1.2⟩ h0
theorem vSs_ok : ∀ (left d : Int) (k : List S), 0 <= left -> ¬ (60 < d /\ k ≠ []) -> ((vSs left d k).1 = true ↔ qGx d k = true /\ (qGf k : Int) <= left) /\ ((vSs left d k).1 = true -> (vSs left d k).2 = left - qGf k)
 | left, d, [], h, _ => by simp [vSs, qGx, qGf, h]
 | left, d, x :: xs, h, hd => by
  have h1 := vS_ok left d x (by simp at hd; omega)
  have h2 := vSs_ok (vS left d x).2 d xs
  rw [vSs_cons]
  unfold qGx qGf
  split
  ·rename_i hx
   have e := h1.2 hx
   have k := h1.1.1 hx
   have h2 := h2 (by omega) (by simp at hd; omega)
   grind
  ·grind
end
def qGd (l : List S) : Bool := decide (qGx 1 l = true /\ qGf l <= 200)
theorem validSs_v (l : List S) : (vSl 200 1 l).1 = qGd l := by
 have := (vSs_ok 200 1 l (by omega) (by omega)).1
 unfold qGd vSl gd
 rw [if_neg (by omega)]
 grind
theorem S.v_eq (s : S) : s.v = .agg #[.int .i64 s.op, .string s.s, .slice s.el.p s.el.n s.el.c, .slice s.ll.p s.ll.n s.ll.c, .slice s.xl.p s.xl.n s.xl.c] := by unfold S.v; rw [S.row_eq]; rfl
theorem S.row_get {V : Mem} {p : Option Addr} {i : Nat} {x : S} (h : V.rowp p i 5 = some x.row) : V.rowp p i 5 = some [.int .i64 x.op, .string x.s, .slice x.el.p x.el.n x.el.c, .slice x.ll.p x.ll.n x.ll.c, .slice x.xl.p x.xl.n x.xl.c] := by
 rw [h, S.row_eq]; rfl
theorem qAe {p : Option Addr} {n : Nat} (h : ¬ (p = none)) : ¬ (qAb p n = none) := by
 cases p with
 | none => exact absurd rfl h
 | some a => intro e; cases e
set_option maxRecDepth 4000 in
theorem c144 {V : Mem} [Tab V] {s : S} (h : S.Ok V s) : PP 144 [s.v] V (.bool (qGl s.op s.s s.es s.ls.length s.xs.length)) := by
 have hf := first_row h
 have hnl := h.lRows.n_eq
 have hnx := h.xRows.n_eq
 have hne := h.eRows.n_eq
 rw [S.v_eq]
 refine x144 ?_
 unfold w144
 rw [<- hnl, <- hnx]
 generalize hX : qGl s.op s.s s.es s.ll.n s.xl.n = X
 have key : ∀ b : Bool, X = b -> Ending.returned (.bool b) = Ending.returned (.bool X) := fun n h => by rw [h]
 unfold qGl at hX
 rw [<- hne] at hX
 have hn0 : (0 : Int) <= (s.el.n : Int) := by omega
 have hn1 : (0 : Int) <= (s.ll.n : Int) := by omega
 have hn2 : (0 : Int) <= (s.xl.n : Int) := by omega
 generalize hne' : (s.el.n : Int) = ne at hX hn0
 generalize (s.ll.n : Int) = nl at hX hn1
 generalize (s.xl.n : Int) = nx at hX hn2
 rcases hf with ⟨he, hn⟩ | ⟨e0, r, he, hn, hp, hp2, hrow⟩
 ·have : ne = 0 := by omega
  subst this
  clear hnl hnx hne hn
  repeat' (first | refine c75.call ⟨_, rfl, ?_⟩ | apply And.intro | intro _)
  all_goals first | rfl | (refine key _ ?_; clear key h he; grind) | (exfalso; clear key h he; grind)
 ·have hfo : fop s.es = e0.op := by rw [he]; rfl
  rw [hfo] at hX
  have hn' : 0 < ne := by omega
  clear hnl hnx hne hn
  repeat' (first | refine c75.call ⟨_, rfl, ?_⟩ | refine ⟨_, _, _, _, hrow, ?_⟩ | exact hp | exact hp2 | exact hn' | apply And.intro | intro _)
  all_goals first | rfl | (refine key _ ?_; clear key h he hrow hp hp2; grind) | (exfalso; clear key h he hrow hp hp2; grind) | omega
theorem c146 {V : Mem} [Tab V] {e : E} (h : E.Ok V e) : PP 146 [e.v] V (.bool (!qAN e)) := by
 refine x146 ?_
 unfold w146
 exact (c107 h).call ⟨_, rfl, rfl, rfl⟩
theorem vSl_bound {left d : Int} {l : List S} (h0 : 0 <= left) (h : (vSl left d l).1 = true) : 0 <= (vSl left d l).2 /\ (vSl left d l).2 <= left := by
 unfold vSl gd at h ⊢
 split at h
 ·cases h
 ·rename_i hn
  rw [if_neg hn]
  have := vSs_ok left d l h0 hn
  grind
theorem vSl_eq {left d : Int} {l : List S} (h : ¬ (60 < d /\ l ≠ [])) : vSl left d l = vSs left d l := by unfold vSl gd; rw [if_neg h]
section
variable {V0 : Mem} {b t : Nat}
def StP (V0 : Mem) (b t : Nat) (l : List S) : Prop := ∀ (sl : Sl) (d left : Int) (V : Mem), qAc V0 sl 5 (l.map S.row) -> (∀ x ∈ l, S.Ok V0 x) -> V0.sub V -> V b = some (cell (.int .i64 left) t) -> 0 <= left -> left <= 200 -> 0 <= d -> d <= 61 ->
 Tri Tryz.prog 112 #[sl.v, .int .i64 d, pv b] V fun r V' => r = .returned (.bool (vSl left d l).1) /\ V' = V.set b (cell (.int .i64 (vSl left d l).2) t)
theorem qHW [hT : Tab V0] (hb : V0 b = none) {l : List S} (hk : ∀ x ∈ l, StP V0 b t x.ls /\ StP V0 b t x.xs) : StP V0 b t l := by
 intro sl d left V hr hok hV hcell hl0 hl1 hd0 hd
 have hn := hr.n_eq
 refine x112 ?_
 unfold w112
 have hM : ∀ lf, V0.sub (V.set b (cell (.int .i64 lf) t)) := fun lf => hV.set hb _
 refine ⟨fun h0 => ⟨fun h60 => ?_, fun h60 => ?_⟩, fun h0 => ?_⟩
 ·have : vSl left d l = (false, left) := by
   unfold vSl gd
   rw [if_pos ⟨h60, fun e => by rw [e] at hn; simp at hn; omega⟩]
  rw [this]
  exact ⟨rfl, (Mem.set_eq hcell).symm⟩
 all_goals
  have hnd : ¬ (60 < d /\ l ≠ []) := by
   first
   | exact fun h => h60 h.1
   | exact fun h => h.2 (List.eq_nil_of_length_eq_zero (by omega))
  rw [vSl_eq hnd]
  refine qBf l.length (fun i V1 => ∃ lf, V1 = V.set b (cell (.int .i64 lf) t) /\ 0 <= lf /\ lf <= 200 /\ vSs left d l = vSs lf d (l.drop i)) ⟨left, (Mem.set_eq hcell).symm, hl0, hl1, rfl⟩ ?_
  rintro i c _ J hi ⟨lf, rfl, hf0, hf1, he⟩ hJ
  refine ⟨fun hlt => ?_, fun hge => ?_⟩
  ·obtain ⟨x, hm, hx, hdr, hl, hp, hz, hrow⟩ := (hr.sub (hM lf)).get hlt
   have hrow := S.row_get hrow
   have hox := hok x hm
   rw [hdr, vSs_cons] at he
   have hv := vS_eq lf d x
   have cs := fun V (h0 : V0.sub V) (h : S.Ok V x) => (haveI : Tab V := Tab.sub hT h0; c144 h)
   rw [S.v_eq] at cs
   have no : ∀ n, vS lf d x = (false, n) -> (Ending.returned (.bool false) = Ending.returned (.bool (vSs left d l).1) /\ V.set b (cell (.int .i64 n) t) = V.set b (cell (.int .i64 (vSs left d l).2) t)) := fun n h => by
    rw [h] at he
    rw [he]; exact ⟨rfl, rfl⟩
   refine ⟨hp, hz, hlt, _, _, _, _, _, hrow, Tri.mono (c143 mss (by omega) (by omega)) ?_⟩
   rintro _ _ ⟨rfl, rfl⟩
   rw [Mem.set_set]
   refine ⟨_, rfl, fun h8 => (cs _ (hM _) (hox.sub (hM _))).call ⟨_, rfl, fun hs => ?_, fun hs => ?_⟩, fun h8 => ?_⟩
   ·have h8 : 0 <= lf - 1 := of_decide_eq_true h8
    refine (c145 (first := []) (caps := []) (l := x.el) (hox.eRows.sub (hM _)) Tryz.call146 (fun e => !qAN e) (fun e hm => haveI : Tab (V.set b (cell (.int .i64 (lf - 1)) t)) := Tab.sub hT (hM (lf - 1)); c146 ((hox.eOk e hm).sub (hM _)))).call ⟨_, rfl, fun ha => ?_, fun ha => ?_⟩
    ·have hal : x.es.all qAN = false := by
      rw [List.any_eq_not_all_not] at ha
      simpa using ha
     rw [if_neg (fun h => by have := h.2; unfold qCn at this; rw [hal, Bool.and_false] at this; cases this)] at hv
     exact no _ hv
    ·have hal : x.es.all qAN = true := by
      rw [List.any_eq_not_all_not] at ha
      simpa using ha
     have hsr : qCn x.op x.s x.es x.ls.length x.xs.length = true := by unfold qCn; rw [hs, hal]; rfl
     rw [if_pos ⟨h8, hsr⟩] at hv
     refine ⟨⟨by omega, by omega⟩, Tri.mono ((hk x hm).1 x.ll (d + 1) (lf - 1) _ hox.lRows hox.lOk (hM _) mss h8 (by omega) (by omega) (by omega)) ?_⟩
     rintro _ _ ⟨rfl, rfl⟩
     rw [Mem.set_set]
     refine ⟨_, rfl, fun h1 => ⟨⟨by omega, by omega⟩, ?_⟩, fun h1 => ?_⟩
     ·rw [if_pos h1] at hv
      have b1 := vSl_bound h8 h1
      refine Tri.mono ((hk x hm).2 x.xl (d + 1) _ _ hox.xRows hox.xOk (hM _) mss b1.1 (by omega) (by omega) (by omega)) ?_
      rintro _ _ ⟨rfl, rfl⟩
      rw [Mem.set_set]
      refine ⟨_, rfl, fun h2 => ?_, fun h2 => ?_⟩
      ·have b2 := vSl_bound b1.1 h2
       rw [hv, if_pos h2] at he
       exact ⟨(hr.sub (hM lf)).succ hlt, hJ hl _ _ ⟨_, rfl, b2.1, by omega, he⟩⟩
      ·rw [<- hv] at h2 ⊢
       exact no _ (Prod.ext (eq_false_of_ne_true h2) rfl)
     ·rw [if_neg h1] at hv
      exact no _ hv
   ·rw [if_neg (fun h => by have := h.2; unfold qCn at this; rw [eq_false_of_ne_true hs, Bool.false_and] at this; cases this)] at hv
    exact no _ hv
   ·rw [if_neg (fun h => h8 (decide_eq_true h.1))] at hv
    exact no _ hv
  ·rw [((hr.sub (hM lf)).done hge).1, vSs_nil] at he
   rw [he]; exact ⟨rfl, rfl⟩
theorem stP_S [hT : Tab V0] (hb : V0 b = none) : ∀ s : S, StP V0 b t s.ls /\ StP V0 b t s.xs := by
 intro s
 induction s using S.ind with
 | h s i1 i2 => exact ⟨qHW hb i1, qHW hb i2⟩
theorem c112 [hT : Tab V0] (hb : V0 b = none) (l : List S) : StP V0 b t l := qHW hb fun x _ => stP_S hb x
end
def qCV {α : Type} (p : α -> Bool) (xs : List α) (i : Nat) : Prop := ∀ j x, j < i -> xs[j]? = some x -> p x = true
theorem qCV.zero {α : Type} (p : α -> Bool) (xs : List α) : qCV p xs 0 := fun _ _ h => absurd h (Nat.not_lt_zero _)
theorem qCV.succ {α : Type} {p : α -> Bool} {xs : List α} {i : Nat} {x : α} (h : qCV p xs i) (hx : xs[i]? = some x) (hp : p x = true) : qCV p xs (i + 1) := fun j y hj hy => by
 rcases Nat.lt_succ_iff_lt_or_eq.1 hj with h' | rfl
 ·exact h j y h' hy
 ·rw [hx] at hy; cases hy; exact hp
theorem qCV.all {α : Type} {p : α -> Bool} {xs : List α} {i : Nat} (h : qCV p xs i) (hi : xs.length <= i) : xs.all p = true :=
 List.all_eq_true.2 fun x hx => by
  obtain ⟨j, hj, rfl⟩ := List.mem_iff_getElem.1 hx
  exact h j _ (by omega) (List.getElem?_eq_getElem hj)
theorem qGZ {α : Type} {p : α -> Bool} {xs : List α} {x : α} (h : x ∈ xs) (hp : ¬ p x = true) : xs.all p = false := by
 cases h' : xs.all p with
 | false => rfl
 | true => exact absurd (List.all_eq_true.1 h' x h) hp
def qAV : ByteArray := qAo [105, 110, 116]
def qAr : ByteArray := qAo [98, 111, 111, 108]
def typB (s : ByteArray) : Bool := decide (s = qAV) || decide (s = qAr) || qAL s
def openB (s : ByteArray) : Bool := decide (s = qAo []) || qAL s
def fldB (f : Fld) : Bool := qAL f.name && typB f.ty
def qEo (l : List Fld) (most : Int) : Bool := decide ((l.length : Int) <= most) && l.all fldB
def tyB (t : Ty) : Bool := qAL t.name && qEo t.fields 12
def prB (p : Pr) : Bool := qAL p.name && qEo p.params 6 && qEo p.locals 12 && (decide (p.result = qAo []) || typB p.result) && qGd p.body
def msB (m : Ms) : Bool := qAL m.name && qAL m.ty && decide (-1099511627776 <= m.nil /\ m.nil <= 1099511627776) && qAN m.x
def ivB (m : Iv) : Bool := qAL m.name && openB m.ty && qAN m.x
def poB (m : Po) : Bool := openB m.ty && qAN m.x
def bdB (m : Bd) : Bool := qAL m.proc && qAN m.x
def formB (d : Ds) : Bool := d.measures.all msB && d.invs.all ivB && d.pots.all poB && d.bounds.all bdB
def lensB (d : Ds) : Bool := decide ((d.measures.length : Int) <= 12 /\ (d.invs.length : Int) <= 12 /\ (d.pots.length : Int) <= 12 /\ (d.bounds.length : Int) <= 12)
def qBc (d : Ds) : Bool := qAL d.name && decide ((d.types.length : Int) <= 12) && qEo d.globals 8 && decide ((d.procs.length : Int) <= 40) && lensB d && d.types.all tyB && d.procs.all prB && formB d
theorem c106 {V : Mem} [Tab V] {s : ByteArray} : PP 106 [.string s] V (.bool (typB s)) := by
 refine x106 ?_
 unfold w106
 refine ⟨fun h => ?_, fun h => ⟨fun h1 => ?_, fun h1 => c75.call ⟨_, rfl, ?_⟩⟩⟩ <;> simp [typB, qAV, qAr, *]
theorem c108 {V : Mem} [Tab V] {s : ByteArray} : PP 108 [.string s] V (.bool (openB s)) := by
 refine x108 ?_
 unfold w108
 refine ⟨fun h => ?_, fun h => c75.call ⟨_, rfl, ?_⟩⟩ <;> simp [openB, *]
theorem c105 {V : Mem} [Tab V] {f : Fld} : PP 105 [f.v] V (.bool (!fldB f)) := by
 refine x105 ?_
 unfold w105
 refine c75.call ⟨_, rfl, fun h => c106.call ⟨_, rfl, ?_⟩, fun h => ?_⟩ <;> simp [fldB, *]
theorem c76 {V : Mem} [Tab V] {l : Sl} {xs : List Fld} {n : Int} (hr : qAc V l 2 (xs.map Fld.row)) : PP 76 [l.v, .int .i64 n] V (.bool (qEo xs n)) := by
 refine x76 ?_
 unfold w76
 have hn := hr.n_eq
 refine ⟨fun h => (c50 (first := []) (caps := []) hr Tryz.call105 (fun f => !fldB f) fun f _ => c105).call ⟨_, rfl, ?_⟩, fun h => ?_⟩
 ·have hle : (xs.length : Int) <= n := by omega
  rw [List.any_eq_not_all_not]
  simp [qEo, hle]
 ·have : ¬ ((xs.length : Int) <= n) := by omega
  simp [qEo, this]
theorem c81 {V : Mem} [Tab V] {p : Pr} (h : Pr.Ok V p) : PP 81 [p.v] V (.bool (prB p)) := by
  refine Pur.mk (x81 ?_)
  unfold w81
  have cs : (qGd p.body = prB p) -> qAB [(.int .i64 200)] 193 V fun v9 V5 =>
       Tri Tryz.prog 112 #[(.slice p.bs.p p.bs.n p.bs.c), (.int .i64 1), (.pointer (qAb v9 0))] V5 fun e V6 => ∃ v10 : Bool, e = .returned (.bool v10) /\ (Ending.returned (.bool v10) = Ending.returned (.bool (prB p)) /\ V.sub V6) := fun e b hb => by
    refine Tri.mono (c112 hb p.body p.bs 1 200 _ h.body h.stmts (Mem.sub_new hb _) mss (by omega) (by omega) (by omega) (by omega)) ?_
    rintro _ _ ⟨rfl, rfl⟩
    rw [validSs_v, Mem.set_set, e]
    exact ⟨_, rfl, rfl, Mem.sub_new hb _⟩
  refine c75.call ⟨_, rfl, fun h1 => (c76 h.params).call ⟨_, rfl, fun h2 => (c76 h.locals).call ⟨_, rfl, fun h3 => ⟨fun h4 => cs ?_, fun h4 => c106.call ⟨_, rfl, fun h5 => cs ?_, fun h5 => ⟨?_, Mem.sub.refl _⟩⟩⟩, fun h3 => ⟨?_, Mem.sub.refl _⟩⟩, fun h2 => ⟨?_, Mem.sub.refl _⟩⟩, fun h1 => ⟨?_, Mem.sub.refl _⟩⟩
  all_goals simp [prB, *]
theorem c110 {V : Mem} [Tab V] {b : Bd} (h : E.Ok V b.x) : PP 110 [b.v] V (.bool (!bdB b)) := by
 refine x110 ?_
 unfold w110
 refine c75.call ⟨_, rfl, fun h1 => (c107 h).call ⟨_, rfl, ?_⟩, fun h1 => ?_⟩ <;> simp [bdB, *]
theorem c78 {V : Mem} [Tab V] {t : Ty} (h : Ty.Ok V t) : PP 78 [t.v] V (.bool (!tyB t)) := by
 refine x78 ?_
 unfold w78
 refine c75.call ⟨_, rfl, fun h1 => (c76 h.fields).call ⟨_, rfl, ?_⟩, fun h1 => ?_⟩ <;> simp [tyB, *]
theorem c80 {V : Mem} [Tab V] {t : Pr} (h : Pr.Ok V t) : PP 80 [t.v] V (.bool (!prB t)) := by
 refine x80 ?_
 unfold w80
 exact (c81 h).call ⟨_, rfl, rfl, rfl⟩
theorem GenK.max4 {P : Program} {V : Mem} {a b c d : Operand} {ty : Nat} {ts : Array TypeId} {vals : Operand -> Value} {n1 n2 n3 n4 : Int} (h1 : vals a = .int .i64 n1) (h2 : vals b = .int .i64 n2) (h3 : vals c = .int .i64 n3) (h4 : vals d = .int .i64 n4) {q : Value -> Mem -> Prop}
  (hq : ∀ m : Int, n1 <= m -> n2 <= m -> n3 <= m -> n4 <= m -> (m = n1 ∨ m = n2 ∨ m = n3 ∨ m = n4) -> q (.int .i64 m) V) : GenK P (.call { callee := .builtin .max, args := #[a, b, c, d], argTypes := ts }) ty vals V q := by
 intro w hw
 refine ⟨_, w, V, ?_, Frm.refl hw, hq (max (max (max n1 n2) n3) n4) (by omega) (by omega) (by omega) (by omega) (by omega)⟩
 unfold execOp
 have e : ∀ x y : Int, (if y > x then y else x) = max x y := fun x y => by split <;> omega
 simp only [resolve, invoke, builtin, Sem.run_bind, Sem.run_pure, Result.andThen_ok, List.map_toArray, List.map_cons, List.map_nil, h1, h2, h3, h4]
 simp [Builtin.max_, Builtin.max2, e]
theorem c77 {V : Mem} [Tab V] {d : Ds} (h : Ds.Ok V d) : PP 77 [d.v] V (.bool (lensB d && formB d)) := by
 refine x77 ?_
 unfold w77
 have n1 := h.measures.n_eq
 have n2 := h.invs.n_eq
 have n3 := h.pots.n_eq
 have n4 := h.bounds.n_eq
 generalize hX : (lensB d && formB d) = X
 have key : ∀ b : Bool, X = b -> (Ending.returned (.bool b) = Ending.returned (.bool X) /\ V = V) := fun n h => by rw [h]; exact ⟨rfl, rfl⟩
 unfold formB lensB at hX
 refine GenK.max4 (n1 := d.ms.n) (n2 := d.is.n) (n3 := d.qs.n) (n4 := d.bs.n) rfl rfl rfl rfl fun mx l1 l2 l3 l4 le => ⟨_, rfl, fun hb => key _ ?_, fun hb => ?_⟩
 ·rw [<- hX, decide_eq_false (by omega)]; rfl
 rw [decide_eq_true (by omega), Bool.true_and] at hX
 refine qBf d.measures.length (fun i V1 => V = V1 /\ qCV msB d.measures i) ⟨rfl, qCV.zero _ _⟩ ?_
 rintro i b V1 J hi ⟨rfl, ha⟩ hJ
 refine ⟨fun hlt => ?_, fun hge => ?_⟩
 ·obtain ⟨x, hm, hx, hdr, hl, hp, hz, hrow⟩ := h.measures.get hlt
  have no : msB x = false -> X = false := fun h => by rw [<- hX, qGZ hm (by rw [h]; simp)]; rfl
  refine ⟨hp, hz, hlt, _, _, _, _, _, _, _, hrow, c75.call ⟨_, rfl, fun h1 => c75.call ⟨_, rfl, fun h2 => ⟨fun h3 => key _ (no ?_), fun h3 => ⟨fun h4 => key _ (no ?_), fun h4 => (c107 (h.measuresOk x hm).x).call ⟨_, rfl, fun h5 => ⟨h.measures.succ hlt, hJ hl _ _ ⟨rfl, ha.succ hx ?_⟩⟩, fun h5 => key _ (no ?_)⟩⟩⟩, fun h2 => key _ (no ?_)⟩, fun h1 => key _ (no ?_)⟩⟩
  ·have : ¬ (-1099511627776 <= x.nil /\ x.nil <= 1099511627776) := by omega
   simp [msB, *]
  ·have : ¬ (-1099511627776 <= x.nil /\ x.nil <= 1099511627776) := by omega
   simp [msB, *]
  ·have : (-1099511627776 <= x.nil /\ x.nil <= 1099511627776) := by omega
   simp [msB, *]
  all_goals simp [msB, *]
 have a1 := ha.all (h.measures.done hge).2
 refine qBf d.invs.length (fun i V1 => V = V1 /\ qCV ivB d.invs i) ⟨rfl, qCV.zero _ _⟩ ?_
 rintro i b V1 J hi ⟨rfl, ha⟩ hJ
 refine ⟨fun hlt => ?_, fun hge => ?_⟩
 ·obtain ⟨x, hm, hx, hdr, hl, hp, hz, hrow⟩ := h.invs.get hlt
  have no : ivB x = false -> X = false := fun h => by rw [<- hX, qGZ hm (by rw [h]; simp)]; simp
  refine ⟨hp, hz, hlt, _, _, _, _, _, _, hrow, c75.call ⟨_, rfl, fun h1 => c108.call ⟨_, rfl, fun h2 => (c107 (h.invsOk x hm)).call ⟨_, rfl, fun h5 => ⟨h.invs.succ hlt, hJ hl _ _ ⟨rfl, ha.succ hx ?_⟩⟩, fun h5 => key _ (no ?_)⟩, fun h2 => key _ (no ?_)⟩, fun h1 => key _ (no ?_)⟩⟩
  all_goals simp [ivB, *]
 have a2 := ha.all (h.invs.done hge).2
 refine qBf d.pots.length (fun i V1 => V = V1 /\ qCV poB d.pots i) ⟨rfl, qCV.zero _ _⟩ ?_
 rintro i b V1 J hi ⟨rfl, ha⟩ hJ
 refine ⟨fun hlt => ?_, fun hge => ?_⟩
 ·obtain ⟨x, hm, hx, hdr, hl, hp, hz, hrow⟩ := h.pots.get hlt
  have no : poB x = false -> X = false := fun h => by rw [<- hX, qGZ (p := poB) hm (by rw [h]; simp)]; simp
  refine ⟨hp, hz, hlt, _, _, _, _, _, hrow, c108.call ⟨_, rfl, fun h2 => (c107 (h.potsOk x hm)).call ⟨_, rfl, fun h5 => ⟨h.pots.succ hlt, hJ hl _ _ ⟨rfl, ha.succ hx ?_⟩⟩, fun h5 => key _ (no ?_)⟩, fun h2 => key _ (no ?_)⟩⟩
  all_goals simp [poB, *]
 have a3 := ha.all (h.pots.done hge).2
 refine (c109 (first := []) (caps := []) h.bounds Tryz.call110 (fun f => !bdB f) fun f hm => c110 (h.boundsOk f hm)).call ⟨_, rfl, key _ ?_⟩
 rw [<- hX, a1, a2, a3, List.any_eq_not_all_not]
 simp
theorem c48 {V : Mem} [Tab V] {d : Ds} (h : Ds.Ok V d) : PP 48 [d.v] V (.bool (qBc d)) := by
 refine x48 ?_
 unfold w48
 have n5 := h.types.n_eq
 have n6 := h.procs.n_eq
 generalize hX : qBc d = X
 have key : ∀ b : Bool, X = b -> (Ending.returned (.bool b) = Ending.returned (.bool X) /\ V = V) := fun n h => by rw [h]; exact ⟨rfl, rfl⟩
 unfold qBc at hX
 refine c75.call ⟨_, rfl, fun h1 => ⟨fun h2 => key _ ?_, fun h2 => (c76 h.globals).call ⟨_, rfl, fun h3 => ⟨fun h4 => key _ ?_, fun h4 => (c77 h).call ⟨_, rfl, fun h5 => (c54 (first := []) (caps := []) h.types Tryz.call78 (fun f => !tyB f) fun f hm => c78 (h.typesOk f hm)).call ⟨_, rfl, fun h6 => key _ ?_, fun h6 =>
   (c79 (first := []) (caps := []) h.procs Tryz.call80 (fun f => !prB f) fun f hm => c80 (h.procsOk f hm)).call ⟨_, rfl, key _ ?_⟩⟩, fun h5 => key _ ?_⟩⟩, fun h3 => key _ ?_⟩⟩, fun h1 => key _ ?_⟩
 ·rw [<- hX, decide_eq_false (by omega)]; simp
 ·rw [<- hX, decide_eq_false (p := (d.procs.length : Int) <= 40) (by omega)]; simp
 ·rw [List.any_eq_not_all_not] at h6
  have : d.types.all tyB = false := by simpa using h6
  rw [<- hX, this]; simp
 ·rw [List.any_eq_not_all_not] at h6 ⊢
  have : d.types.all tyB = true := by simpa using h6
  rw [Bool.and_eq_true] at h5
  rw [<- hX, h1, decide_eq_true (p := (d.types.length : Int) <= 12) (by omega), h3, decide_eq_true (p := (d.procs.length : Int) <= 40) (by omega), h5.1, h5.2, this]
  simp
 ·have : (lensB d && formB d) = false := eq_false_of_ne_true h5
  rw [<- hX]
  cases hl : lensB d with
  | false => simp
  | true => rw [hl, Bool.true_and] at this; rw [this]; simp
 ·rw [<- hX, eq_false_of_ne_true h3]; simp
 ·rw [<- hX, eq_false_of_ne_true h1]; simp
end Go.Proofs
namespace Go.Proofs
open Go Go.Sx
def sNil : ByteArray := qAo [110, 105, 108]
def sE : ByteArray := qAo []
def qBh (d : Ds) (s : ByteArray) : Bool := d.types.any fun t => decide (t.name = s)
def qBv (d : Ds) (s : ByteArray) : Bool := decide (s = qAV) || decide (s = qAr) || qBh d s
def qDB (d : Ds) (a b : ByteArray) : Bool := decide (a = b) || (decide (a = sNil) && qBh d b)
def qCa : List Fld -> ByteArray -> ByteArray
 | [], _ => sE
 | f :: l, s => if f.name = s then f.ty else qCa l s
def tyOf (d : Ds) (s : ByteArray) : Option Ty := d.types.find? fun t => decide (t.name = s)
def qHB (d : Ds) (s : ByteArray) : Option Pr := d.procs.find? fun t => decide (t.name = s)
def meOf (d : Ds) (s : ByteArray) : Option Ms := d.measures.find? fun t => decide (t.name = s)
def qCs (d : Ds) (t name : ByteArray) : ByteArray × Int :=
 match tyOf d t with
 | none => (sE, 11)
 | some ty => if qCa ty.fields name = sE then (sE, 9) else (qCa ty.fields name, 0)
def qEd (d : Ds) : List ByteArray -> List Fld -> Bool
 | a :: l, f :: fs => qDB d a f.ty && qEd d l fs
 | _, _ => true
def qHm (d : Ds) (name : ByteArray) (l : List ByteArray) : ByteArray × Int :=
 match qHB d name with
 | none => (sE, 9)
 | some p => if l.length ≠ p.params.length then (sE, 3) else if qEd d l p.params = true then (p.result, 0) else (sE, 11)
def qEF (ok : Bool) (t : ByteArray) : ByteArray × Int := if ok = true then (t, 0) else (sE, 11)
structure Sc where
 vars : List Fld
 body : Bool
def qIk (d : Ds) (name : ByteArray) (l : List ByteArray) : ByteArray × Int :=
 match meOf d name with
 | none => (sE, 9)
 | some m => if l.length ≠ 1 then (sE, 3) else qEF (qDB d (l.getD 0 sE) m.ty) qAV
def callE (d : Ds) (sc : Sc) (name : ByteArray) (l : List ByteArray) : ByteArray × Int :=
 if sc.body = true then (if (qHm d name l).2 = 0 /\ (qHm d name l).1 = sE then (sE, 11) else qHm d name l) else qIk d name l
def allT (l : List ByteArray) (t : ByteArray) : Bool := l.all fun x => decide (x = t)
def qHh (d : Ds) (sc : Sc) (op : Int) (s : ByteArray) (l : List ByteArray) : ByteArray × Int :=
 if op = 1 then (qAV, 0) else if op = 2 then (qAr, 0) else if op = 3 then (sNil, 0)
 else if op = 4 then (if qCa sc.vars s = sE then (sE, 9) else (qCa sc.vars s, 0))
 else if op = 5 then qCs d (l.getD 0 sE) s
 else if op = 6 then (if sc.body = false then (sE, 13) else if qBh d s = false then (sE, 9) else (s, 0))
 else if op = 7 then callE d sc s l
 else if op = 14 ∨ op = 15 then qEF (qDB d (l.getD 0 sE) (l.getD 1 sE) || qDB d (l.getD 1 sE) (l.getD 0 sE)) qAr
 else if op = 16 ∨ op = 17 then qEF (allT l qAV) qAr
 else if op = 18 ∨ op = 19 ∨ op = 20 then qEF (allT l qAr) qAr
 else if op = 21 then qEF (decide (l.getD 0 sE = qAr) && (qDB d (l.getD 1 sE) (l.getD 2 sE) || qDB d (l.getD 2 sE) (l.getD 1 sE))) (if l.getD 1 sE = sNil then l.getD 2 sE else l.getD 1 sE)
 else qEF (allT l qAV) qAV
mutual
def qAl (d : Ds) (sc : Sc) : E -> ByteArray × Int
 | .mk op _ s _ k => if (partsT d sc [] k).2 ≠ 0 then (sE, (partsT d sc [] k).2) else qHh d sc op s (partsT d sc [] k).1
def partsT (d : Ds) (sc : Sc) (acc : List ByteArray) : List E -> List ByteArray × Int
 | [] => (acc, 0)
 | x :: xs => if (qAl d sc x).2 ≠ 0 then ([], (qAl d sc x).2) else partsT d sc (acc ++ [(qAl d sc x).1]) xs
end
theorem qIy (d : Ds) (sc : Sc) (e : E) : qAl d sc e = if (partsT d sc [] e.k).2 ≠ 0 then (sE, (partsT d sc [] e.k).2) else qHh d sc e.op e.s (partsT d sc [] e.k).1 := by
 cases e; unfold qAl; rfl
theorem qCq (d : Ds) (sc : Sc) (acc : List ByteArray) (x : E) (xs : List E) : partsT d sc acc (x :: xs) = if (qAl d sc x).2 ≠ 0 then ([], (qAl d sc x).2) else partsT d sc (acc ++ [(qAl d sc x).1]) xs := by rw [partsT]
theorem qCN (d : Ds) (sc : Sc) (acc : List ByteArray) : partsT d sc acc [] = (acc, 0) := by rw [partsT]
theorem qHD (d : Ds) (sc : Sc) : ∀ (k : List E) (acc : List ByteArray), (partsT d sc acc k).2 = 0 -> (partsT d sc acc k).1.length = acc.length + k.length
 | [], acc, _ => by rw [qCN]; rfl
 | x :: xs, acc, h => by
  rw [qCq] at h ⊢
  split at h
  ·rename_i h'; exact absurd h h'
  ·rename_i h'
   rw [if_neg h', qHD d sc xs _ h, List.length_append, List.length_cons, List.length_cons, List.length_nil]
   omega
def qAh (d : Ds) (p : Pr) : Sc := ⟨p.params ++ p.locals ++ d.globals, true⟩
def sThisF : ByteArray := qAo [116, 104, 105, 115]
def qAH (d : Ds) (t : ByteArray) : Sc := ⟨(if t = sE then [] else [⟨sThisF, t⟩]) ++ d.globals, false⟩
def qCh (d : Ds) (p : Pr) : Sc := ⟨p.params ++ d.globals, false⟩
def qGi (d : Ds) (sc : Sc) (result : ByteArray) (op : Int) (s : ByteArray) (es : List E) : Int :=
 if op = 6 then
  match es with
  | [] => 0
  | e :: _ => if (partsT d sc [] e.k).2 ≠ 0 then (partsT d sc [] e.k).2 else (qHm d e.s (partsT d sc [] e.k).1).2
 else if (partsT d sc [] es).2 ≠ 0 then (partsT d sc [] es).2
 else if op = 1 then (if qCa sc.vars s = sE then 9 else if qDB d ((partsT d sc [] es).1.getD 0 sE) (qCa sc.vars s) = true then 0 else 11)
 else if op = 2 then (if (qCs d ((partsT d sc [] es).1.getD 0 sE) s).2 ≠ 0 then (qCs d ((partsT d sc [] es).1.getD 0 sE) s).2 else if qDB d ((partsT d sc [] es).1.getD 1 sE) (qCs d ((partsT d sc [] es).1.getD 0 sE) s).1 = true then 0 else 11)
 else if op = 3 ∨ op = 4 then (if (partsT d sc [] es).1.getD 0 sE = qAr then 0 else 11)
 else if op = 5 then (if (partsT d sc [] es).1.length = 0 then (if result = sE then 0 else 11) else if result ≠ sE /\ qDB d ((partsT d sc [] es).1.getD 0 sE) result = true then 0 else 11)
 else 0
mutual
def stT (d : Ds) (sc : Sc) (result : ByteArray) (n : Int) : S -> Int × Int
 | .mk op s _ es _ ls _ xs =>
  if qGi d sc result op s es ≠ 0 then (n, qGi d sc result op s es)
  else if (qBO d sc result (n + 1) ls).2 ≠ 0 then qBO d sc result (n + 1) ls
  else qBO d sc result (qBO d sc result (n + 1) ls).1 xs
def qBO (d : Ds) (sc : Sc) (result : ByteArray) (n : Int) : List S -> Int × Int
 | [] => (n, 0)
 | x :: xs => if (stT d sc result n x).2 ≠ 0 then stT d sc result n x else qBO d sc result (stT d sc result n x).1 xs
end
theorem stT_eq (d : Ds) (sc : Sc) (result : ByteArray) (n : Int) (x : S) : stT d sc result n x = if qGi d sc result x.op x.s x.es ≠ 0 then (n, qGi d sc result x.op x.s x.es) else if (qBO d sc result (n + 1) x.ls).2 ≠ 0 then qBO d sc result (n + 1) x.ls else qBO d sc result (qBO d sc result (n + 1) x.ls).1 x.xs := by
 cases x; unfold stT; rfl
theorem qGh (d : Ds) (sc : Sc) (result : ByteArray) (n : Int) (x : S) (xs : List S) : qBO d sc result n (x :: xs) = if (stT d sc result n x).2 ≠ 0 then stT d sc result n x else qBO d sc result (stT d sc result n x).1 xs := by rw [qBO]
theorem stsT_nil (d : Ds) (sc : Sc) (result : ByteArray) (n : Int) : qBO d sc result n [] = (n, 0) := by rw [qBO]
def qFG (d : Ds) (l : List Fld) (i : Nat) (f : Fld) : Int := if (l.take i).any (fun g => decide (g.name = f.name)) = true then 10 else if qBv d f.ty = true then 0 else 9
def qAi {α β : Type} (f : Nat -> α -> Option β) : Nat -> List α -> Option β
 | _, [] => none
 | i, x :: xs => match f i x with | some b => some b | none => qAi f (i + 1) xs
def qEa (d : Ds) (l : List Fld) : Int := (qAi (fun i f => if qFG d l i f ≠ 0 then some (qFG d l i f) else none) 0 l).getD 0
abbrev Flt := ByteArray × Int × Int
def types1 (d : Ds) : Option Flt := qAi (fun i t => if (d.types.take i).any (fun g => decide (g.name = t.name)) = true then some (t.name, -1, 10) else none) 0 d.types
def types2 (d : Ds) : Option Flt := qAi (fun _ t => if qEa d t.fields ≠ 0 then some (t.name, -1, qEa d t.fields) else none) 0 d.types
def types3 (d : Ds) : Option Flt := qAi (fun i f => if qFG d d.globals i f ≠ 0 then some (f.name, -1, qFG d d.globals i f) else none) 0 d.globals
def typesT (d : Ds) : Option Flt := (types1 d).or ((types2 d).or (types3 d))
def qGL (d : Ds) : Option Flt := qAi (fun i p => if (d.procs.take i).any (fun g => decide (g.name = p.name)) = true then some (p.name, -1, 10) else if qEa d (p.params ++ p.locals) ≠ 0 then some (p.name, -1, qEa d (p.params ++ p.locals)) else if p.result ≠ sE /\ qBv d p.result = false then some (p.name, -1, 9) else none) 0 d.procs
def form1 (d : Ds) : Option Flt := qAi (fun i m => if (d.measures.take i).any (fun g => decide (g.name = m.name)) = true then some (m.name, -1, 10) else if qBh d m.ty = false then some (m.name, -1, 9) else none) 0 d.measures
def form2 (d : Ds) : Option Flt := qAi (fun i m => if (d.invs.take i).any (fun g => decide (g.name = m.name)) = true then some (m.name, -1, 10) else if m.ty ≠ sE /\ qBh d m.ty = false then some (m.name, -1, 9) else none) 0 d.invs
def sPot : ByteArray := qAo [112, 111, 116, 101, 110, 116, 105, 97, 108]
def form3 (d : Ds) : Option Flt := qAi (fun _ m => if m.ty ≠ sE /\ qBh d m.ty = false then some (sPot, -1, 9) else none) 0 d.pots
def form4 (d : Ds) : Option Flt := qAi (fun i b => if (qHB d b.proc).isNone = true then some (b.proc, -1, 9) else if (d.bounds.take i).any (fun g => decide (g.proc = b.proc)) = true then some (b.proc, -1, 10) else none) 0 d.bounds
def qFf (d : Ds) : Option Flt := (form1 d).or ((form2 d).or ((form3 d).or (form4 d)))
def qDg (d : Ds) : Option Flt := qAi (fun _ p => if (qBO d (qAh d p) p.result 0 p.body).2 ≠ 0 then some (p.name, (qBO d (qAh d p) p.result 0 p.body).1, (qBO d (qAh d p) p.result 0 p.body).2) else none) 0 d.procs
def qBG (d : Ds) (sc : Sc) (e : E) (t : ByteArray) : Int := if (qAl d sc e).2 ≠ 0 then (qAl d sc e).2 else if (qAl d sc e).1 = t then 0 else 11
def exp1 (d : Ds) : Option Flt := qAi (fun _ m => if qBG d (qAH d m.ty) m.x qAV ≠ 0 then some (m.name, -1, qBG d (qAH d m.ty) m.x qAV) else none) 0 d.measures
def exp2 (d : Ds) : Option Flt := qAi (fun _ m => if qBG d (qAH d m.ty) m.x qAr ≠ 0 then some (m.name, -1, qBG d (qAH d m.ty) m.x qAr) else none) 0 d.invs
def exp3 (d : Ds) : Option Flt := qAi (fun _ m => if qBG d (qAH d m.ty) m.x qAV ≠ 0 then some (sPot, -1, qBG d (qAH d m.ty) m.x qAV) else none) 0 d.pots
def prD : Pr := ⟨sE, ⟨none, 0, 0⟩, [], sE, ⟨none, 0, 0⟩, [], ⟨none, 0, 0⟩, []⟩
def exp4 (d : Ds) : Option Flt := qAi (fun _ m => if qBG d (qCh d ((qHB d m.proc).getD prD)) m.x qAV ≠ 0 then some (m.proc, -1, qBG d (qCh d ((qHB d m.proc).getD prD)) m.x qAV) else none) 0 d.bounds
def qIx (d : Ds) : Option Flt := (exp1 d).or ((exp2 d).or ((exp3 d).or (exp4 d)))
def chkT (d : Ds) : Option Flt := (typesT d).or ((qGL d).or ((qFf d).or ((qDg d).or (qIx d))))
def fltR (o : Option Flt) : Flt := o.getD (sE, 0, 0)
end Go.Proofs
namespace Go.Proofs
open Go Go.Sx
attribute [local irreducible] Go.Sx.Tri
noncomputable def ti (t : Nat) : TypeInfo := (Tryz.prog.info? t).getD default
section
variable {α : Type}
def AppP (t e sz : Nat) (row : α -> List Value) : Prop := ∀ {V0 V : Mem} {ty : Nat} {x y : Operand} {vals : Operand -> Value} {s u : Sl} {xs ys : List α} (hx : vals x = .slice s.p s.n s.c) (hy : vals y = .slice u.p u.n u.c) (own : Sx.Own V0 V e sz s (xs.flatMap row)) (hnew : qAc V u sz (ys.map row))
 (hfit : xs.length + ys.length <= 2147483648) {q : Value -> Mem -> Prop} (hq : ∀ s' V', Sx.Own V0 V' e sz s' ((xs ++ ys).flatMap row) -> q (.slice s'.p s'.n s'.c) V'),
 GenK Tryz.prog (.call { callee := .builtin .append, args := #[x, y], argTypes := #[t, t] }) ty vals V q
theorem appG {t e sz : Nat} {row : α -> List Value} (ht : Tryz.prog.underlying t = some (.slice e)) (hi : Tryz.prog.info? e = some (ti e)) (hz : (ti e).zero = some ((ti e).zero.getD undef)) (h1 : (ti e).size = sz) (h2 : ((ti e).zero.getD undef).cells.size = sz) (h3 : decide ((ti e).bytes <= 65536) = true)
  (h0 : 0 < sz) (hr : ∀ x, (row x).length = sz) (hu : ∀ x, ∀ u ∈ row x, u.oneCell' = true) : AppP t e sz row := by
 intro V0 V ty x y vals s u xs ys hx hy own hnew hfit q hq
 exact GenK.appendS ht hi hz h1 h2 h0 (of_decide_eq_true h3) hx hy own hr hnew hu hfit hq
end
theorem app217 : AppP 217 9 1 qBu := appG Tryz.underlying217 (by kernel_rfl) (by kernel_rfl) (by kernel_rfl) (by kernel_rfl) (by kernel_rfl) (by decide) (by intro _; rfl) fun x u hu => by simp [qBu, vS] at hu; rw [hu]; rfl
theorem app23 : AppP 23 81 2 Fld.row := appG Tryz.underlying23 (by kernel_rfl) (by kernel_rfl) (by kernel_rfl) (by kernel_rfl) (by kernel_rfl) (by decide) (by intro _; rfl) fun x u hu => by simp [Fld.row, vS] at hu; rcases hu with rfl | rfl <;> rfl
def idxI {α : Type} (p : α -> Bool) (xs : List α) : Int := match xs.findIdx? p with | some i => (i : Int) | none => -1
theorem idxI_found {α : Type} {p : α -> Bool} {xs : List α} {i : Nat} {x : α} (h : qCV (fun y => !p y) xs i) (hx : xs[i]? = some x) (hp : p x = true) : idxI p xs = i := by
 have hl := (List.getElem?_eq_some_iff.1 hx).1
 have hg := (List.getElem?_eq_some_iff.1 hx).2
 have : xs.findIdx? p = some i := List.findIdx?_eq_some_iff_getElem.2 ⟨hl, by rw [hg]; exact hp, fun j hj => by
  have := h j _ hj (List.getElem?_eq_getElem (Nat.lt_trans hj hl))
  simpa using this⟩
 unfold idxI; rw [this]
theorem idxI_none {α : Type} {p : α -> Bool} {xs : List α} {i : Nat} (h : qCV (fun y => !p y) xs i) (hi : xs.length <= i) : idxI p xs = -1 := by
 have : xs.findIdx? p = none := List.findIdx?_eq_none_iff.2 fun x hx => by
  obtain ⟨j, hj, rfl⟩ := List.mem_iff_getElem.1 hx
  have := h j _ (by omega) (List.getElem?_eq_getElem hj)
  simpa using this
 unfold idxI; rw [this]
theorem qBk {α : Type} (p : α -> Bool) (xs : List α) : (idxI p xs = -1 /\ xs.find? p = none /\ xs.any p = false) ∨ ∃ (i : Nat) (x : α), idxI p xs = i /\ xs[i]? = some x /\ xs.find? p = some x /\ i < xs.length /\ p x = true /\ x ∈ xs /\ xs.any p = true /\ (xs.take i).any p = false := by
 cases h : xs.findIdx? p with
 | none =>
  have h' := List.findIdx?_eq_none_iff.1 h
  refine .inl ⟨by unfold idxI; rw [h], List.find?_eq_none.2 fun x hx => by rw [h' x hx]; simp, List.any_eq_false.2 fun x hx => by rw [h' x hx]; simp⟩
 | some i =>
  obtain ⟨hl, hp, hn⟩ := List.findIdx?_eq_some_iff_getElem.1 h
  refine .inr ⟨i, xs[i], by unfold idxI; rw [h], List.getElem?_eq_getElem hl, ?_, hl, hp, List.getElem_mem _, List.any_eq_true.2 ⟨_, List.getElem_mem _, hp⟩, ?_⟩
  ·rw [List.find?_eq_some_iff_getElem]
   exact ⟨hp, i, hl, rfl, fun j hj => by simpa using hn j hj⟩
  ·rw [List.any_eq_false]
   intro x hx
   obtain ⟨j, hj, rfl⟩ := List.mem_iff_getElem.1 hx
   rw [List.length_take] at hj
   rw [List.getElem_take]
   exact hn j (by omega)
theorem notAll_succ {α : Type} {p : α -> Bool} {xs : List α} {i : Nat} {x : α} (h : qCV (fun y => !p y) xs i) (hx : xs[i]? = some x) (hp : p x = false) : qCV (fun y => !p y) xs (i + 1) := h.succ hx (by simp [hp])
section
variable {V : Mem} {d : Ds}
theorem fitAll_nil (fs : List Fld) : qEd d [] fs = true := by simp [qEd]
theorem qHt {l : Sl} {xs : List ByteArray} (hl : qAc V l 1 (xs.map qBu)) {i : Nat} (hi : i < xs.length) : ¬ (l.p = none) /\ (i : Int) < (l.n : Int) /\ V.rowp l.p i 1 = some [.string (xs.getD i sE)] := by
 have hn := hl.n_eq
 have hlt : (i : Int) < (l.n : Int) := by omega
 obtain ⟨y, hm', hx', hdr', hl', hp', hz', hrow'⟩ := hl.get hlt
 rw [List.getD_eq_getElem?_getD, hx']
 rw [Nat.mul_one] at hrow'
 exact ⟨hp', hlt, hrow'⟩
end
theorem arity {op n : Int} {s : ByteArray} {len : Int} (h : qDX op n s len = true) : (op = 5 -> len = 1) /\ (op = 14 ∨ op = 15 -> len = 2) /\ (op = 21 -> len = 3) /\ len <= 6 := by
 unfold qDX qAG at h
 rw [Bool.and_eq_true, Bool.and_eq_true, decide_eq_true_eq] at h
 obtain ⟨⟨h, -⟩, -⟩ := h
 grind
theorem qIg {d : Int} {e : E} (h : okE d e = true) : qDX e.op e.n e.s e.k.length = true := by
 cases e
 unfold okE at h
 rw [Bool.and_eq_true, Bool.and_eq_true] at h
 exact h.1.2
theorem okEs_mem {d : Int} : ∀ {l : List E}, okEs d l = true -> ∀ x ∈ l, okE d x = true
 | [], _, x, hx => absurd hx List.not_mem_nil
 | y :: l, h, x, hx => by
  unfold okEs at h
  rw [Bool.and_eq_true] at h
  rcases List.mem_cons.1 hx with rfl | hx
  ·exact h.1
  ·exact okEs_mem h.2 x hx
theorem okE_kids {d : Int} {e : E} (h : okE d e = true) : ∀ x ∈ e.k, okE (d + 1) x = true := by
 cases e
 unfold okE at h
 rw [Bool.and_eq_true] at h
 exact okEs_mem h.2
theorem ownS {V0 V : Mem} {s : Sl} {l : List ByteArray} (h : Own V0 V 9 1 s (l.flatMap qBu)) : qAc V s 1 (l.map qBu) := h.rows (fun _ => rfl) (by decide)
theorem one_row {V : Mem} {b : Nat} {s : ByteArray} {t : Nat} (h : V b = some (.cells #[.string s] t (0, 0))) : qAc V ⟨some ⟨b, 0, none⟩, 1, 1⟩ 1 ([s].map qBu) :=
 qAc.cells (xs := [s]) (row := qBu) h rfl (fun _ => rfl) rfl (by simp)
section
variable {V : Mem} {d : Ds} {sc : Sc} {sl : Sl}
end
theorem ownF {V0 V : Mem} {s : Sl} {l : List Fld} (h : Own V0 V 81 2 s (l.flatMap Fld.row)) : qAc V s 2 (l.map Fld.row) := h.rows (fun _ => rfl) (by decide)
section
variable {V : Mem} {d : Ds}
def Small (d : Ds) : Prop := d.globals.length <= 1000 /\ ∀ p ∈ d.procs, p.params.length <= 1000 /\ p.locals.length <= 1000
theorem shape_arity {op : Int} {s : ByteArray} {es : List E} {nl nx : Int} (h : qCn op s es nl nx = true) : (op = 6 -> ∃ e0, es = [e0] /\ e0.op = 7) /\ (op = 1 ∨ op = 3 ∨ op = 4 -> es.length = 1) /\ (op = 2 -> es.length = 2) /\ (op = 5 -> es.length <= 1) /\ es.length <= 2 /\ (∀ x ∈ es, okE 1 x = true) := by
 unfold qCn at h
 rw [Bool.and_eq_true] at h
 obtain ⟨h, hv⟩ := h
 have hall : ∀ x ∈ es, okE 1 x = true := fun x hx => by
  have := List.all_eq_true.1 hv x hx
  unfold qAN at this
  exact (of_decide_eq_true this).1
 unfold qGl at h
 have h6 : op = 6 -> ∃ e0, es = [e0] /\ e0.op = 7 := fun h6 => by
  subst h6
  simp only [show ¬ ((6 : Int) = 1) by decide, show ¬ ((6 : Int) = 2) by decide, show ¬ ((6 : Int) = 3) by decide, show ¬ ((6 : Int) = 4) by decide, show ¬ ((6 : Int) = 5) by decide, if_false, if_true, decide_eq_true_eq] at h
  match es, h with
  | [e0], h => exact ⟨e0, rfl, h.2.2.1⟩
  | [], h => simp at h
  | _ :: _ :: _, h => simp at h; omega
 refine ⟨h6, ?_, ?_, ?_, ?_, hall⟩ <;> grind
end
theorem okS_shape {d : Int} {x : S} (h : okS d x = true) : qCn x.op x.s x.es x.ls.length x.xs.length = true /\ qGx (d + 1) x.ls = true /\ qGx (d + 1) x.xs = true := by
 cases x
 unfold okS at h
 rw [Bool.and_eq_true, Bool.and_eq_true, Bool.and_eq_true] at h
 exact ⟨h.1.1.2, h.1.2, h.2⟩
theorem okSs_mem {d : Int} : ∀ {l : List S}, qGx d l = true -> ∀ x ∈ l, okS d x = true
 | [], _, x, hx => absurd hx List.not_mem_nil
 | y :: l, h, x, hx => by
  unfold qGx at h
  rw [Bool.and_eq_true] at h
  rcases List.mem_cons.1 hx with rfl | hx
  ·exact h.1
  ·exact okSs_mem h.2 x hx
theorem szS_eq (x : S) : szS x = 1 + qGf x.ls + qGf x.xs := by cases x; unfold szS; rfl
theorem szSs_cons (x : S) (l : List S) : qGf (x :: l) = szS x + qGf l := by rw [qGf]
mutual
theorem stT_n (d : Ds) (sc : Sc) (result : ByteArray) (n : Int) : ∀ x : S, (stT d sc result n x).2 = 0 -> (stT d sc result n x).1 = n + szS x
 | .mk op s _ es _ ls _ xs => by
  have h1 := stsT_n d sc result (n + 1) ls
  have h2 := stsT_n d sc result (qBO d sc result (n + 1) ls).1 xs
  unfold stT szS
  intro h
  split at h
  ·rename_i h'; exact absurd h h'
  ·rename_i h'
   rw [if_neg h']
   split at h
   ·rename_i h3; exact absurd h h3
   ·rename_i h3
    rw [if_neg h3, h2 h, h1 (by simpa using h3)]
    omega
theorem stsT_n (d : Ds) (sc : Sc) (result : ByteArray) (n : Int) : ∀ l : List S, (qBO d sc result n l).2 = 0 -> (qBO d sc result n l).1 = n + qGf l
 | [] => by simp [qBO, qGf]
 | x :: xs => by
  have h1 := stT_n d sc result n x
  have h2 := stsT_n d sc result (stT d sc result n x).1 xs
  rw [qGh, szSs_cons]
  intro h
  split at h
  ·rename_i h'; exact absurd h h'
  ·rename_i h'
   rw [if_neg h', h2 h, h1 (by simpa using h')]
   omega
end
theorem qAk {α β : Type} {f : Nat -> α -> Option β} {i : Nat} {x : α} {xs : List α} {b : β} (h : f i x = some b) : qAi f i (x :: xs) = some b := by unfold qAi; rw [h]
theorem qAn {α β : Type} {f : Nat -> α -> Option β} {i : Nat} {x : α} {xs : List α} (h : f i x = none) : qAi f i (x :: xs) = qAi f (i + 1) xs := by rw [qAi, h]
section
variable {V : Mem} {d : Ds}
end
section
variable {V : Mem} {d : Ds}
end
section
variable {V : Mem} {d : Ds}
end
structure VParts (d : Ds) : Prop where
 small : Small d
 ms : ∀ m ∈ d.measures, okE 1 m.x = true
 is : ∀ m ∈ d.invs, okE 1 m.x = true
 qs : ∀ m ∈ d.pots, okE 1 m.x = true
 bs : ∀ m ∈ d.bounds, okE 1 m.x = true
 ps : ∀ p ∈ d.procs, qGx 1 p.body = true /\ qGf p.body <= 200
theorem qEz {e : E} (h : qAN e = true) : okE 1 e = true := by
 unfold qAN at h; exact (of_decide_eq_true h).1
theorem vparts {d : Ds} (h : qBc d = true) : VParts d := by
 unfold qBc formB at h
 simp only [Bool.and_eq_true, decide_eq_true_eq, List.all_eq_true] at h
 obtain ⟨⟨⟨⟨⟨⟨⟨-, -⟩, hg⟩, -⟩, -⟩, -⟩, hp⟩, ⟨⟨hm, hi⟩, hq⟩, hb⟩ := h
 have fl : ∀ {l : List Fld} {n : Int}, qEo l n = true -> n <= 100 -> l.length <= 1000 := fun h h' => by
  unfold qEo at h
  rw [Bool.and_eq_true, decide_eq_true_eq] at h
  omega
 refine ⟨⟨fl hg (by omega), fun p hpp => ?_⟩, fun m hmm => ?_, fun m hmm => ?_, fun m hmm => ?_, fun m hmm => ?_, fun p hpp => ?_⟩
 ·have := hp p hpp
  unfold prB at this
  simp only [Bool.and_eq_true] at this
  exact ⟨fl this.1.1.1.2 (by omega), fl this.1.1.2 (by omega)⟩
 ·have := hm m hmm
  unfold msB at this
  simp only [Bool.and_eq_true] at this
  exact qEz this.2
 ·have := hi m hmm
  unfold ivB at this
  simp only [Bool.and_eq_true] at this
  exact qEz this.2
 ·have := hq m hmm
  unfold poB at this
  simp only [Bool.and_eq_true] at this
  exact qEz this.2
 ·have := hb m hmm
  unfold bdB at this
  simp only [Bool.and_eq_true] at this
  exact qEz this.2
 ·have := hp p hpp
  unfold prB at this
  simp only [Bool.and_eq_true] at this
  have := this.2
  unfold qGd at this
  exact of_decide_eq_true this
theorem qCj {α β : Type} {f : Nat -> α -> Option β} {b : β} : ∀ {i : Nat} {xs : List α}, qAi f i xs = some b -> ∃ j x, x ∈ xs /\ f j x = some b
 | _, [], h => by cases h
 | i, x :: xs, h => by
  cases hx : f i x with
  | some c => rw [qAk hx] at h; cases h; exact ⟨i, x, by simp, hx⟩
  | none =>
   rw [qAn hx] at h
   obtain ⟨j, y, hy, e⟩ := qCj h
   exact ⟨j, y, by simp [hy], e⟩
def Bad (r : Flt) : Prop := r.2.2 ≠ 0 /\ r.2.1 = -1
theorem qFr {P : Flt -> Prop} {a b : Option Flt} (ha : ∀ r, a = some r -> P r) (hb : ∀ r, b = some r -> P r) : ∀ r, a.or b = some r -> P r := fun r h => by
 cases a with
 | none => exact hb r (by simpa using h)
 | some x => exact ha r (by simpa using h)
theorem types_bad (d : Ds) : ∀ r, typesT d = some r -> Bad r := by
 refine qFr (fun r h => ?_) (qFr (fun r h => ?_) (fun r h => ?_)) <;> obtain ⟨j, x, hx, e⟩ := qCj h
 ·split at e
  ·cases e; exact ⟨by simp, rfl⟩
  ·cases e
 ·split at e
  ·rename_i h'; cases e; exact ⟨h', rfl⟩
  ·cases e
 ·split at e
  ·rename_i h'; cases e; exact ⟨h', rfl⟩
  ·cases e
theorem heads_bad (d : Ds) : ∀ r, qGL d = some r -> Bad r := fun r h => by
 obtain ⟨j, x, hx, e⟩ := qCj h
 split at e
 ·cases e; exact ⟨by simp, rfl⟩
 ·split at e
  ·rename_i h'; cases e; exact ⟨h', rfl⟩
  ·split at e
   ·cases e; exact ⟨by simp, rfl⟩
   ·cases e
theorem form_bad (d : Ds) : ∀ r, qFf d = some r -> Bad r := by
 refine qFr (fun r h => ?_) (qFr (fun r h => ?_) (qFr (fun r h => ?_) (fun r h => ?_))) <;> obtain ⟨j, x, hx, e⟩ := qCj h
 ·split at e
  ·cases e; exact ⟨by simp, rfl⟩
  ·split at e
   ·cases e; exact ⟨by simp, rfl⟩
   ·cases e
 ·split at e
  ·cases e; exact ⟨by simp, rfl⟩
  ·split at e
   ·cases e; exact ⟨by simp, rfl⟩
   ·cases e
 ·split at e
  ·cases e; exact ⟨by simp, rfl⟩
  ·cases e
 ·split at e
  ·cases e; exact ⟨by simp, rfl⟩
  ·split at e
   ·cases e; exact ⟨by simp, rfl⟩
   ·cases e
theorem exps_bad (d : Ds) : ∀ r, qIx d = some r -> Bad r := by
 refine qFr (fun r h => ?_) (qFr (fun r h => ?_) (qFr (fun r h => ?_) (fun r h => ?_))) <;> obtain ⟨j, x, hx, e⟩ := qCj h <;> split at e
 all_goals first | (cases e; done) | (rename_i h'; cases e; exact ⟨h', rfl⟩)
theorem bounds_proc {d : Ds} (hform : qFf d = none) : ∀ g ∈ d.bounds, ∃ p, qHB d g.proc = some p := by
 have h4 : form4 d = none := by
  unfold qFf at hform
  cases h : form4 d with
  | none => rfl
  | some r => rw [h] at hform; simp at hform
 have aux : ∀ (l : List Bd) (i : Nat), qAi (fun i b => if (qHB d b.proc).isNone = true then some ((b.proc, -1, 9) : Flt) else if (d.bounds.take i).any (fun g => decide (g.proc = b.proc)) = true then some (b.proc, -1, 10) else none) i l = none -> ∀ g ∈ l, ∃ p, qHB d g.proc = some p := by
  intro l
  induction l with
  | nil => intro i _ g hg; exact absurd hg List.not_mem_nil
  | cons y l ih =>
   intro i h g hg
   cases hy : qHB d y.proc with
   | none => rw [qAk (b := (y.proc, -1, 9)) (if_pos (by rw [hy]; rfl))] at h; cases h
   | some p =>
    rcases List.mem_cons.1 hg with rfl | hg
    ·exact ⟨p, hy⟩
    ·by_cases ht : (d.bounds.take i).any (fun g => decide (g.proc = y.proc)) = true
     ·rw [qAk (b := (y.proc, -1, 10)) ((if_neg (by rw [hy]; simp)).trans (if_pos ht))] at h; cases h
     ·rw [qAn ((if_neg (by rw [hy]; simp)).trans (if_neg ht))] at h
      exact ih _ h g hg
 exact aux d.bounds 0 h4
section
variable {V : Mem} {d : Ds}
def f3 (o : Option Flt) : Value := .tuple #[.string (fltR o).1, .int .i64 (fltR o).2.1, .int .i64 (fltR o).2.2]
end
structure qBo (V : Mem) (c : Option Addr) (d : Ds) : Prop where
 at_ : ∃ cb mt mp t, c = some ⟨cb, 0, none⟩ /\ V cb = some (.cells (d.row ++ [Value.map (some mt), Value.map (some mp)]).toArray t (0, 0)) /\ qAS V mt (fun k => (tyOf d k).map Ty.v) /\ qAS V mp (fun k => (qHB d k).map Pr.v)
 ok : Ds.Ok V d
theorem qBo.sub {V V' : Mem} {c : Option Addr} {d : Ds} (h : qBo V c d) (hs : V.sub V') : qBo V' c d := by
 obtain ⟨cb, mt, mp, t, h1, h2, h3, h4⟩ := h.at_
 exact ⟨⟨cb, mt, mp, t, h1, hs _ _ h2, h3.sub hs, h4.sub hs⟩, h.ok.sub hs⟩
theorem qBo.nn {V : Mem} {c : Option Addr} {d : Ds} (h : qBo V c d) : ¬ (c = none) := by
 obtain ⟨cb, mt, mp, t, h1, h2, h3, h4⟩ := h.at_
 rw [h1]; simp
theorem qBo.cell {V : Mem} {c : Option Addr} {d : Ds} (h : qBo V c d) {i : Nat} {v : Value} (hv : (d.row)[i]? = some v) : V.rowp c (i * 1) 1 = some [v] := by
 obtain ⟨cb, mt, mp, t, h1, h2, h3, h4⟩ := h.at_
 rw [h1, Nat.mul_one]
 have hi := (List.getElem?_eq_some_iff.1 hv).1
 have h8 : d.row.length = 8 := rfl
 rw [qAd h2 i 1 (by simp; omega)]
 have : (d.row ++ [Value.map (some mt), Value.map (some mp)])[i]? = some v := by rw [List.getElem?_append_left hi]; exact hv
 have hl : i < (d.row ++ [Value.map (some mt), Value.map (some mp)]).length := by rw [List.length_append]; omega
 show some (((d.row ++ [Value.map (some mt), Value.map (some mp)]).drop i).take 1) = _
 rw [List.drop_eq_getElem_cons hl, (List.getElem?_eq_some_iff.1 this).2]
 rfl
theorem qBo.types {V : Mem} {c : Option Addr} {d : Ds} (h : qBo V c d) : ∃ mt, V.rowp c 8 1 = some [.map (some mt)] /\ qAS V mt (fun k => (tyOf d k).map Ty.v) := by
 obtain ⟨cb, mt, mp, t, h1, h2, h3, h4⟩ := h.at_
 exact ⟨mt, by rw [h1, qAd h2 8 1 (by simp [Ds.row])]; rfl, h3⟩
theorem qBo.procs {V : Mem} {c : Option Addr} {d : Ds} (h : qBo V c d) : ∃ mt, V.rowp c 9 1 = some [.map (some mt)] /\ qAS V mt (fun k => (qHB d k).map Pr.v) := by
 obtain ⟨cb, mt, mp, t, h1, h2, h3, h4⟩ := h.at_
 exact ⟨mp, by rw [h1, qAd h2 9 1 (by simp [Ds.row])]; rfl, h4⟩
def qBs (l : List Fld) (k : ByteArray) : Option ByteArray := (l.find? fun f => decide (f.name = k)).map (·.ty)
theorem qHs (l : List Fld) (k : ByteArray) : qCa l k = (qBs l k).getD sE := by
 induction l with
 | nil => rfl
 | cons f l ih =>
  unfold qBs qCa
  rw [List.find?_cons]
  by_cases h : f.name = k
  ·rw [if_pos h, decide_eq_true h]; rfl
  ·rw [if_neg h, decide_eq_false h]; exact ih
def NE (l : List Fld) : Prop := ∀ f ∈ l, f.ty ≠ sE
theorem NE.some {l : List Fld} (h : NE l) {k t : ByteArray} (hv : qBs l k = some t) : t ≠ sE := by
 unfold qBs at hv
 obtain ⟨f, hf, rfl⟩ := Option.map_eq_some_iff.1 hv
 exact h f (List.mem_of_find?_eq_some hf)
structure qFI (V : Mem) (m : Option Nat) (sc : Sc) : Prop where
 at_ : ∃ mb, m = some mb /\ qAS V mb (fun k => (qBs sc.vars k).map Value.string)
 ne : NE sc.vars
theorem qFI.sub {V V' : Mem} {m : Option Nat} {sc : Sc} (h : qFI V m sc) (hs : V.sub V') : qFI V' m sc := by
 obtain ⟨mb, h1, h2⟩ := h.at_
 exact ⟨⟨mb, h1, h2.sub hs⟩, h.ne⟩
def sV (c : Option Addr) (m : Option Nat) (sc : Sc) : Value := .agg #[.pointer c, .map m, .bool sc.body]
structure VNe (d : Ds) : Prop where
 types : ∀ t ∈ d.types, NE t.fields
 globals : NE d.globals
 params : ∀ p ∈ d.procs, NE p.params /\ NE p.locals
theorem typB_ne {s : ByteArray} (h : typB s = true) : s ≠ sE := by
 intro e
 subst e
 have : typB sE = false := by
  unfold typB qAL
  have h1 : ¬ (sE = qAV) := by decide
  have h2 : ¬ (sE = qAr) := by decide
  rw [decide_eq_false h1, decide_eq_false h2, decide_eq_false (fun h => h.1 rfl)]
  rfl
 rw [this] at h; cases h
theorem qIu {l : List Fld} {n : Int} (h : qEo l n = true) : NE l := fun f hf => by
 unfold qEo at h
 rw [Bool.and_eq_true] at h
 have := List.all_eq_true.1 h.2 f hf
 unfold fldB at this
 rw [Bool.and_eq_true] at this
 exact typB_ne this.2
theorem vne {d : Ds} (h : qBc d = true) : VNe d := by
 unfold qBc at h
 simp only [Bool.and_eq_true, decide_eq_true_eq, List.all_eq_true] at h
 obtain ⟨⟨⟨⟨⟨⟨⟨-, -⟩, hg⟩, -⟩, -⟩, ht⟩, hp⟩, -⟩ := h
 refine ⟨fun t htt => ?_, qIu hg, fun p hpp => ?_⟩
 ·have := ht t htt
  unfold tyB at this
  rw [Bool.and_eq_true] at this
  exact qIu this.2
 ·have := hp p hpp
  unfold prB at this
  simp only [Bool.and_eq_true] at this
  exact ⟨qIu this.1.1.1.2, qIu this.1.1.2⟩
theorem zero119 (w : World) : (zeroValue 119).run Tryz.prog w = .ok (.agg #[.string ByteArray.empty, .slice none 0 0]) w := by kernel_rfl
theorem zero79 (w : World) : (zeroValue 79).run Tryz.prog w = .ok (.agg #[.string ByteArray.empty, .slice none 0 0, .string ByteArray.empty, .slice none 0 0, .slice none 0 0]) w := by kernel_rfl
theorem zero9 (w : World) : (zeroValue 9).run Tryz.prog w = .ok (.string ByteArray.empty) w := by kernel_rfl
theorem tyOf_node (d : Ds) (s : ByteArray) : (tyOf d s).isSome = qBh d s := by
 unfold tyOf qBh
 rcases qBk (fun t : Ty => decide (t.name = s)) d.types with ⟨h1, h2, h3⟩ | ⟨i, x, h1, h2, h3, h4, h5, h6, h7, _⟩
 ·rw [h2, h3]; rfl
 ·rw [h3, h7]; rfl
theorem tyOf_mem {d : Ds} {s : ByteArray} {t : Ty} (h : tyOf d s = some t) : t ∈ d.types := List.mem_of_find?_eq_some h
theorem qIe {d : Ds} {s : ByteArray} {t : Pr} (h : qHB d s = some t) : t ∈ d.procs := List.mem_of_find?_eq_some h
section
variable {V : Mem} {d : Ds} {c : Option Addr} {m : Option Nat} {sc : Sc}
theorem c176 (h : qBo V c d) {s : ByteArray} : PP 176 [.pointer c, .string s] V (.bool (qBh d s)) := by
 refine x176 ?_
 unfold w176
 obtain ⟨mt, h1, h2⟩ := h.types
 refine ⟨h.nn, h.nn, _, h1, qBN.str Tryz.underlying202 Tryz.underlying9 zero119 h2 ?_⟩
 rw [<- tyOf_node]
 cases ht : tyOf d s with
 | none => exact ⟨_, ⟨none, 0, 0⟩, _, rfl, rfl, rfl⟩
 | some t => exact ⟨_, t.fs, _, rfl, rfl, rfl⟩
theorem c171 (h : qBo V c d) {s : ByteArray} : PP 171 [.pointer c, .string s] V (.bool (qBv d s)) := by
 refine x171 ?_
 unfold w171
 refine ⟨fun h1 => ?_, fun h1 => ⟨fun h2 => ?_, fun h2 => (c176 h).call ⟨_, rfl, ?_⟩⟩⟩ <;> simp [qBv, qAV, qAr, *]
theorem c252 (h : qBo V c d) {s t : ByteArray} : PP 252 [.pointer c, .string s, .string t] V (.bool (qDB d s t)) := by
 refine x252 ?_
 unfold w252 qDB sNil
 refine ⟨fun h1 => ?_, fun h1 => ⟨fun h2 => (c176 h).call ⟨_, rfl, ?_⟩, fun h2 => ?_⟩⟩
 ·rw [decide_eq_true h1]; exact ⟨rfl, rfl⟩
 ·rw [decide_eq_false h1, decide_eq_true h2]; exact ⟨rfl, rfl⟩
 ·rw [decide_eq_false h1, decide_eq_false h2]; exact ⟨rfl, rfl⟩
theorem c253 (h : qBo V c d) (hv : VNe d) {s t : ByteArray} : PP 253 [.pointer c, .string s, .string t] V (.tuple #[.string (qCs d s t).1, .int .i64 (qCs d s t).2]) := by
 refine x253 ?_
 unfold w253
 obtain ⟨mt, h1, h2⟩ := h.types
 refine ⟨h.nn, h.nn, _, h1, qBN.str Tryz.underlying202 Tryz.underlying9 zero119 h2 ?_⟩
 unfold qCs
 cases ht : tyOf d s with
 | none => exact ⟨_, ⟨none, 0, 0⟩, _, rfl, fun h => absurd h (by simp), fun _ => ⟨rfl, rfl⟩⟩
 | some ty =>
  refine ⟨_, ty.fs, _, rfl, fun _ => ?_, fun h => absurd rfl h⟩
  have hr := (h.ok.typesOk ty (tyOf_mem ht)).fields
  have hne := hv.types ty (tyOf_mem ht)
  simp only
  refine loop3 ty.fields.length (fun i V1 => V = V1 /\ qCa ty.fields t = qCa (ty.fields.drop i) t) ⟨rfl, rfl⟩ ?_
  rintro i b c V1 J hi ⟨rfl, ha⟩ hJ
  refine ⟨fun hlt => ?_, fun hge => ?_⟩
  ·obtain ⟨x, hm, hx, hdr, hl, hp, hz, hrow⟩ := hr.get hlt
   rw [hdr, qCa] at ha
   refine ⟨hp, hz, hlt, _, _, hrow, fun he => ?_, fun he => ⟨hr.succ hlt, hJ hl _ _ _ ⟨rfl, ?_⟩⟩⟩
   ·rw [if_pos he] at ha
    rw [ha, if_neg (hne x hm)]; exact ⟨rfl, rfl⟩
   ·rw [ha, if_neg he]
  ·rw [(hr.done hge).1, qCa] at ha
   rw [ha, if_pos rfl]; exact ⟨rfl, rfl⟩
theorem c267 {b : Nat} {s : ByteArray} {t : Nat} (hb : V b = some (cell (.string s) t)) {x : Ms} : PP 267 [x.v, pv b] V (.bool (decide (x.name = s))) := by
 refine x267 ?_
 unfold w267
 exact ⟨_, qBj hb, rfl, rfl⟩
def IdC {α : Type} (f : FuncId) (row : α -> List Value) (v : α -> Value) (sz : Nat) : Prop := ∀ {V : Mem} {l : Sl} {xs : List α} {g : Nat} {first caps : List Value} (h : qAc V l sz (xs.map row)) (hg : qHc g) (p : α -> Bool) (hp : ∀ x ∈ xs, PP g (first ++ [v x] ++ caps) V (.bool (p x))), PP f [l.v, .func (.func g) first.toArray caps.toArray] V (.int .i64 (idxI p xs))
theorem idC {α : Type} {f : FuncId} {row : α -> List Value} {v : α -> Value} {sz : Nat} (H : IdxP f row v sz) : IdC f row v sz := by
 intro V l xs g first caps h hg p hp
 refine Tri.mono (H hg (fun i V1 => V = V1 /\ qCV (fun y => !p y) xs i) (fun i V1 => V = V1 /\ ∃ x, xs[i]? = some x /\ p x = true /\ qCV (fun y => !p y) xs i) (fun i V1 hs => hs.1 ▸ h) ⟨rfl, qCV.zero _ _⟩ ?_) ?_
 ·rintro i x V1 hx ⟨rfl, hs⟩
  have hm : x ∈ xs := List.mem_of_getElem? hx
  exact (hp x hm).callv ⟨_, rfl, fun hb => ⟨rfl, x, hx, hb, hs⟩, fun hb => ⟨rfl, notAll_succ hs hx hb⟩⟩
 ·rintro e V' (⟨i, rfl, rfl, x, hx, hb, hs⟩ | ⟨rfl, rfl, hs⟩)
  ·rw [idxI_found hs hx hb]; exact ⟨rfl, rfl⟩
  ·rw [idxI_none hs (Nat.le_refl _)]; exact ⟨rfl, rfl⟩
theorem idxMs : IdC 248 Ms.row Ms.v 7 := idC g248
theorem c261 (h : qBo V c d) {s : ByteArray} {l : Sl} {xs : List ByteArray} (hl : qAc V l 1 (xs.map qBu)) : PP 261 [sV c m sc, .string s, l.v] V (.tuple #[.string (qIk d s xs).1, .int .i64 (qIk d s xs).2]) := by
 refine Pur.mk (x261 ?_)
 unfold w261
 refine ⟨h.nn, h.nn, qAe h.nn, d.ms, h.cell (i := 4) rfl, fun b hb => ?_⟩
 have hs := Mem.sub_new hb (cell (.string s) 9)
 have h1 := h.sub hs
 have hl1 := hl.sub hs
 refine (idxMs (l := d.ms) (first := []) (caps := [pv b]) h1.ok.measures Tryz.call267 (fun t => decide (t.name = s)) (fun x _ => c267 mss)).call ⟨_, rfl, ?_⟩
 unfold qIk meOf
 have key : ∀ {X : ByteArray × Int} (a : ByteArray) (n : Int), X = (a, n) -> (Ending.returned (.tuple #[.string a, .int .i64 n]) = Ending.returned (.tuple #[.string X.1, .int .i64 X.2]) /\ V.sub (V.set b (cell (.string s) 9))) := fun a n h => by rw [h]; exact ⟨rfl, hs⟩
 rcases qBk (fun t : Ms => decide (t.name = s)) d.measures with ⟨h1, h2, h3⟩ | ⟨i, x, i1, i2, i3, i4, i5, i6, i7, _⟩
 ·rw [h1, h2]; exact ⟨fun _ => key _ _ rfl, fun h => absurd h (by decide)⟩
 ·rw [i1, i3]
  have hn := h1.ok.measures.n_eq
  have hlt : (i : Int) < (d.ms.n : Int) := by omega
  obtain ⟨y, hm, hx, hdr, hll, hp, hz, hrow⟩ := h1.ok.measures.get hlt
  rw [i2] at hx
  cases hx
  have e1 := hl1.n_eq
  refine ⟨fun h => absurd h (by omega), fun _ => ⟨fun he => ?_, fun he => key _ _ (if_pos (by omega))⟩⟩
  obtain ⟨a1, a2, a3⟩ := qHt hl1 (i := 0) (by omega)
  have e2 : ¬ (xs.length ≠ 1) := by omega
  refine ⟨a1, by omega, by omega, _, a3, h.nn, h.nn, qAe h.nn, d.ms, h1.cell (i := 4) rfl, hp, hz, hlt, qAe hp, _, _, _, _, _, _, _, hrow, (c252 h1).call ⟨_, rfl, fun hf => key _ _ ?_, fun hf => key _ _ ?_⟩⟩
  ·simp only [e2, if_false]; unfold qEF; rw [if_pos hf]; rfl
  ·simp only [e2, if_false]; unfold qEF; rw [if_neg hf]; rfl
theorem c264 {b : Nat} {s : ByteArray} {t : Nat} (hb : V b = some (cell (.string s) t)) {x : ByteArray} : PP 264 [strV x, pv b] V (.bool (!decide (x = s))) := by
 refine x264 ?_
 unfold w264
 exact ⟨_, qBj hb, rfl, rfl⟩
theorem c262 {b t : Nat} {l : Sl} {xs : List ByteArray} (hb : V b = some (cell (.slice l.p l.n l.c) t)) (hl : qAc V l 1 (xs.map qBu)) {s r : ByteArray} :
  PP 262 [.string s, .string r, pv b] V (.tuple #[.string (qEF (allT xs s) r).1, .int .i64 (qEF (allT xs s) r).2]) := by
 refine Pur.mk (x262 ?_)
 unfold w262
 refine ⟨l, qBj hb, fun b1 hb1 => ?_⟩
 have hs := Mem.sub_new hb1 (cell (.string s) 9)
 refine (c263 (l := l) (first := []) (caps := [pv b1]) (hl.sub hs) Tryz.call264 (fun x => !decide (x = s)) (fun x _ => c264 mss)).call ⟨_, rfl, fun h => ?_, fun h => ?_⟩
 ·rw [List.any_eq_not_all_not] at h
  have : allT xs s = false := by unfold allT; simpa using h
  rw [this]; exact ⟨rfl, hs⟩
 ·rw [List.any_eq_not_all_not] at h
  have : allT xs s = true := by unfold allT; simpa using h
  rw [this]; exact ⟨rfl, hs⟩
end
theorem fits_first {d : Ds} {a b : ByteArray} (h : qDB d a b = true) : (if a = sNil then b else a) = b := by
 unfold qDB at h
 split
 ·rfl
 ·rename_i hn
  rw [decide_eq_false hn, Bool.false_and, Bool.or_false] at h
  exact of_decide_eq_true h
theorem fits_second {d : Ds} {a b : ByteArray} (h : ¬ qDB d a b = true) (h2 : qDB d b a = true) : (if a = sNil then b else a) = a := by
 split
 ·rename_i hn
  unfold qDB at h h2
  by_cases e : b = a
  ·exact e
  ·rw [decide_eq_false e, Bool.false_or, Bool.and_eq_true] at h2
   exact absurd (by rw [hn, of_decide_eq_true h2.1]; simp) h
 ·rfl
def qEs (d : Ds) (sc : Sc) (s : ByteArray) (l : List ByteArray) : ByteArray × Int := if sc.body = true then qHm d s l else qIk d s l
theorem measT_ne {d : Ds} {s : ByteArray} {l : List ByteArray} (h : (qIk d s l).2 = 0) : (qIk d s l).1 ≠ sE := by
 unfold qIk at h ⊢
 split at h
 ·exact absurd h (by decide)
 ·split at h
  ·exact absurd h (by decide)
  ·rename_i h'
   simp only [if_neg h']
   unfold qEF at h ⊢
   split at h
   ·rename_i h2; rw [if_pos h2]; simp only; decide
   ·exact absurd h (by decide)
theorem callE_raw (d : Ds) (sc : Sc) (s : ByteArray) (l : List ByteArray) : callE d sc s l = if (qEs d sc s l).2 = 0 /\ (qEs d sc s l).1 = sE then (sE, 11) else qEs d sc s l := by
 unfold callE qEs
 by_cases hb : sc.body = true
 ·simp only [if_pos hb]
 ·simp only [if_neg hb]
  split
  ·rename_i h; exact absurd h.2 (measT_ne h.1)
  ·rfl
section
variable {V : Mem} {d : Ds} {c : Option Addr} {m : Option Nat} {sc : Sc}
def ImpE (V : Mem) (d : Ds) (c : Option Addr) (m : Option Nat) (sc : Sc) (e : E) : Prop := ∀ V1, V.sub V1 -> PP 229 [sV c m sc, e.v] V1 (.tuple #[.string (qAl d sc e).1, .int .i64 (qAl d sc e).2])
def rawT (d : Ds) (sc : Sc) (e : E) : ByteArray × Int := if (partsT d sc [] e.k).2 ≠ 0 then (sE, (partsT d sc [] e.k).2) else qEs d sc e.s (partsT d sc [] e.k).1
theorem impCall (h : qBo V c d) (e : E) (he : E.Ok V e) (hlen : (e.k.length : Int) <= 6) (hk : ∀ x ∈ e.k, ImpE V d c m sc x) :
  PP 251 [sV c m sc, e.v] V (.tuple #[.string (rawT d sc e).1, .int .i64 (rawT d sc e).2]) := by
 have hr := he.rows
 refine Pur.mk (x251 ?_)
 unfold w251 rawT
 refine loop4s (mk := .string) (mc := .int .i64) (md := fun s : Sl => .slice s.p s.n s.c) (qAo []) 0 ⟨none, 0, 0⟩ qFx e.k.length (fun i s V1 => ∃ acc, Own V V1 9 1 s (acc.flatMap qBu) /\ partsT d sc [] e.k = partsT d sc acc (e.k.drop i) /\ acc.length = i) ⟨[], Own.nil (Mem.sub.refl _) _ _, rfl, rfl⟩ ?_
 rintro i b b' s V1 J hi ⟨acc, hown, hp, hlen'⟩ hJ
 have hr1 := hr.sub hown.sub
 refine ⟨fun hlt => ?_, fun hge => ?_⟩
 ·obtain ⟨x, hm, hx, hdr, hl, hpp, hz, hrow⟩ := hr1.get hlt
  rw [hdr, qCq] at hp
  refine ⟨hpp, hz, hlt, _, _, _, _, hrow, (hk x hm V1 hown.sub).call ⟨_, _, rfl, fun h0 => ?_, fun h0 => ?_⟩⟩
  ·intro b1 hb1
   rw [if_neg (fun h => h h0)] at hp
   refine app217 (s := s) (u := ⟨some ⟨b1, 0, none⟩, 1, 1⟩) (xs := acc) (ys := [(qAl d sc x).1]) rfl rfl (hown.new hb1 _) (one_row mss) (by simp; omega) fun s' V' ho => ⟨s', rfl, hr1.succ hlt, hJ hl _ _ _ _ ⟨_, ho, hp, by simp [hlen']⟩⟩
  ·rw [if_pos h0] at hp
   rw [hp]
   simp only [ne_eq, h0, not_false_eq_true, if_true]
   exact ⟨by trivial, hown.sub⟩
 ·rw [(hr1.done hge).1, qCN] at hp
  rw [hp]
  simp only [ne_eq, not_true_eq_false, if_false]
  have hrows := ownS hown
  have h1 := h.sub hown.sub
  have key : ∀ {X : ByteArray × Int} (a : ByteArray) (n : Int), X = (a, n) -> (Ending.returned (.tuple #[.string a, .int .i64 n]) = Ending.returned (.tuple #[.string X.1, .int .i64 X.2]) /\ V.sub V1) := fun a n h => by rw [h]; exact ⟨rfl, hown.sub⟩
  unfold qEs
  refine ⟨fun hb => ?_, fun hb => ?_⟩
  ·rw [if_pos hb]
   obtain ⟨mt, q1, q2⟩ := h1.procs
   refine ⟨h.nn, h.nn, _, q1, qBN.str Tryz.underlying203 Tryz.underlying9 zero79 q2 ?_⟩
   unfold qHm
   cases hpr : qHB d e.s with
   | none => exact ⟨_, ⟨none, 0, 0⟩, _, ⟨none, 0, 0⟩, ⟨none, 0, 0⟩, _, rfl, fun h => absurd h (by simp), fun _ => key _ _ rfl⟩
   | some p =>
    have hox := h1.ok.procsOk p (qIe hpr)
    have e1 := hrows.n_eq
    have e2 := hox.params.n_eq
    refine ⟨_, p.ps, _, p.ls, p.bs, _, rfl, fun _ => ⟨fun he => ?_, fun he => key _ _ (if_pos (by omega))⟩, fun h => absurd rfl h⟩
    have hle : acc.length = p.params.length := by omega
    simp only [hle, ne_eq, not_true_eq_false, if_false]
    refine loop3 acc.length (fun i V2 => V1 = V2 /\ qEd d acc p.params = qEd d (acc.drop i) (p.params.drop i)) ⟨rfl, rfl⟩ ?_
    rintro j b c' V2 J hi ⟨rfl, ha⟩ hJ
    refine ⟨fun hlt => ?_, fun hge => ?_⟩
    ·obtain ⟨y, hm', hx', hdr', hl', hp', hz', hrow'⟩ := hrows.get hlt
     obtain ⟨f, hmf, hxf, hdf, hlf, hpf, hzf, hrowf⟩ := hox.params.get (i := j) (by omega)
     rw [hdr', hdf, qEd] at ha
     refine ⟨hp', hz', hlt, _, hrow', hpf, hzf, by omega, qAe hpf, _, _, hrowf, (c252 h1).call ⟨_, rfl, fun hb => ⟨hrows.succ hlt, hJ hl' _ _ _ ⟨rfl, ?_⟩⟩, fun hb => key _ _ ?_⟩⟩
     ·rw [ha, hb, Bool.true_and]
     ·rw [eq_false_of_ne_true hb, Bool.false_and] at ha; rw [ha]; rfl
    ·rw [(hrows.done hge).1, fitAll_nil] at ha
     exact key _ _ (by rw [ha]; rfl)
  ·rw [if_neg hb]
   exact (c261 h1 hrows).call ⟨_, _, rfl, key _ _ rfl⟩
theorem impNode (h : qBo V c d) (hv : VNe d) (hs : qFI V m sc) {e : E} {l : Sl} {xs : List ByteArray} (hl : qAc V l 1 (xs.map qBu)) (hlen : xs.length = e.k.length) (hok : qDX e.op e.n e.s e.k.length = true) (h7 : e.op ≠ 7) :
  PP 254 [sV c m sc, e.v, l.v] V (.tuple #[.string (qHh d sc e.op e.s xs).1, .int .i64 (qHh d sc e.op e.s xs).2]) := by
 have har := arity hok
 refine Pur.mk (x254 ?_)
 unfold w254
 generalize hX : qHh d sc e.op e.s xs = X
 have key : ∀ {V1 : Mem} (a : ByteArray) (n : Int), V.sub V1 -> X = (a, n) -> (Ending.returned (.tuple #[.string a, .int .i64 n]) = Ending.returned (.tuple #[.string X.1, .int .i64 X.2]) /\ V.sub V1) := fun a n h1 h => by rw [h]; exact ⟨rfl, h1⟩
 have rf := Mem.sub.refl V
 have cFits := fun a b => c252 h (s := a) (t := b)
 have at0 := fun h : 0 < xs.length => qHt hl h
 have at1 := fun h : 1 < xs.length => qHt hl h
 have at2 := fun h : 2 < xs.length => qHt hl h
 have call : ∀ (s r : ByteArray), X = qEF (allT xs s) r -> qAB [(.slice l.p l.n l.c)] 217 V fun v8 V1 =>
   Tri Tryz.prog 262 #[(.string s), (.string r), (.pointer (qAb v8 0))] V1 fun z V2 => ∃ v9 : ByteArray, ∃ v10 : Int, z = .returned (.tuple #[(.string v9), (.int .i64 v10)]) /\ (Ending.returned (.tuple #[(.string v9), (.int .i64 v10)]) = Ending.returned (.tuple #[.string X.1, .int .i64 X.2]) /\ V.sub V2) := fun s r hx b hb => by
  have h1 := Mem.sub_new hb (cell (.slice l.p l.n l.c) 217)
  exact (c262 (l := l) mss (hl.sub h1)).call ⟨_, _, rfl, key _ _ h1 (by rw [hx])⟩
 unfold qHh at hX
 refine ⟨fun o1 => key _ _ rf ?_, fun o1 => ⟨fun o2 => key _ _ rf ?_, fun o2 => ⟨fun o3 => key _ _ rf ?_, fun o3 => ⟨fun o4 => ?_, fun o4 => ⟨fun o5 => ?_, fun o5 => ⟨fun o6 => ?_, fun o6 => ⟨fun o14 => ?_, fun o14 => ⟨fun o15 => ?_, fun o15 => ⟨fun o16 => call _ _ ?_, fun o16 => ⟨fun o17 => call _ _ ?_, fun o17 => ⟨fun o18 => call _ _ ?_, fun o18 => ⟨fun o19 => call _ _ ?_, fun o19 => ⟨fun o20 => call _ _ ?_, fun o20 => ⟨fun o21 => ?_, fun o21 => call _ _ ?_⟩⟩⟩⟩⟩⟩⟩⟩⟩⟩⟩⟩⟩⟩
 ·rw [<- hX, if_pos o1]; rfl
 ·rw [<- hX, if_neg o1, if_pos o2]; rfl
 ·rw [<- hX, if_neg o1, if_neg o2, if_pos o3]; rfl
 ·rw [if_neg o1, if_neg o2, if_neg o3, if_pos o4, qHs] at hX
  obtain ⟨mb, rfl, hmap⟩ := hs.at_
  refine qBN.str Tryz.underlying252 Tryz.underlying9 zero9 hmap ?_
  cases hvv : qBs sc.vars e.s with
  | none =>
   rw [hvv, Option.getD_none] at hX
   exact ⟨_, _, rfl, fun h => absurd h (by simp), fun _ => key _ _ rf (by rw [<- hX, if_pos rfl]; rfl)⟩
  | some t =>
   rw [hvv, Option.getD_some] at hX
   exact ⟨t, _, rfl, fun _ => key _ _ rf (by rw [<- hX, if_neg (hs.ne.some hvv)]), fun h => absurd rfl h⟩
 ·rw [if_neg o1, if_neg o2, if_neg o3, if_neg o4, if_pos o5] at hX
  obtain ⟨a1, a2, a3⟩ := at0 (by have := har.1 o5; omega)
  exact ⟨a1, by omega, a2, _, a3, (c253 h hv).call ⟨_, _, rfl, key _ _ rf (by rw [<- hX])⟩⟩
 ·rw [if_neg o1, if_neg o2, if_neg o3, if_neg o4, if_neg o5, if_pos o6] at hX
  refine ⟨fun hb => (c176 h).call ⟨_, rfl, fun hn => key _ _ rf ?_, fun hn => key _ _ rf ?_⟩, fun hb => key _ _ rf ?_⟩
  ·rw [<- hX, if_neg (by rw [hb]; simp), if_neg (by rw [hn]; simp)]
  ·rw [<- hX, if_neg (by rw [hb]; simp), if_pos (eq_false_of_ne_true hn)]; rfl
  ·rw [<- hX, if_pos (eq_false_of_ne_true hb)]; rfl
 iterate 2
  ·rw [if_neg o1, if_neg o2, if_neg o3, if_neg o4, if_neg o5, if_neg o6, if_neg h7, if_pos (by omega)] at hX
   obtain ⟨a1, a2, a3⟩ := at0 (by have := har.2.1 (by omega); omega)
   obtain ⟨b1, b2, b3⟩ := at1 (by have := har.2.1 (by omega); omega)
   refine ⟨a1, by omega, a2, _, a3, b1, by omega, b2, _, b3, (cFits _ _).call ⟨_, rfl, fun h => key _ _ rf ?_, fun h => ⟨b1, by omega, b2, _, b3, a1, by omega, a2, _, a3, (cFits _ _).call ⟨_, rfl, fun h2 => key _ _ rf ?_, fun h2 => key _ _ rf ?_⟩⟩⟩⟩
   ·rw [<- hX, h]; rfl
   ·rw [<- hX, h2, Bool.or_true]; rfl
   ·rw [<- hX, eq_false_of_ne_true h, eq_false_of_ne_true h2]; rfl
 iterate 2
  ·rw [if_neg o1, if_neg o2, if_neg o3, if_neg o4, if_neg o5, if_neg o6, if_neg h7, if_neg (by omega), if_pos (by omega)] at hX
   exact hX.symm
 iterate 3
  ·rw [if_neg o1, if_neg o2, if_neg o3, if_neg o4, if_neg o5, if_neg o6, if_neg h7, if_neg (by omega), if_neg (by omega), if_pos (by omega)] at hX
   exact hX.symm
 ·rw [if_neg o1, if_neg o2, if_neg o3, if_neg o4, if_neg o5, if_neg o6, if_neg h7, if_neg (by omega), if_neg (by omega), if_neg (by omega), if_pos o21] at hX
  obtain ⟨a1, a2, a3⟩ := at0 (by have := har.2.2.1 o21; omega)
  obtain ⟨b1, b2, b3⟩ := at1 (by have := har.2.2.1 o21; omega)
  obtain ⟨c1, c2, c3⟩ := at2 (by have := har.2.2.1 o21; omega)
  refine ⟨a1, by omega, a2, _, a3, fun h0 => ⟨b1, by omega, b2, _, b3, c1, by omega, c2, _, c3, (cFits _ _).call ⟨_, rfl, fun h => ⟨c1, by omega, c2, _, c3, key _ _ rf ?_⟩, fun h => ⟨c1, by omega, c2, _, c3, b1, by omega, b2, _, b3, (cFits _ _).call ⟨_, rfl, fun h2 => ⟨b1, by omega, b2, _, b3, key _ _ rf ?_⟩, fun h2 => key _ _ rf ?_⟩⟩⟩⟩, fun h0 => key _ _ rf ?_⟩
  ·rw [<- hX, decide_eq_true (show xs.getD 0 sE = qAr from h0), h, fits_first h]; rfl
  ·rw [<- hX, decide_eq_true (show xs.getD 0 sE = qAr from h0), h2, Bool.or_true, fits_second h h2]; rfl
  ·rw [<- hX, decide_eq_true (show xs.getD 0 sE = qAr from h0), eq_false_of_ne_true h, eq_false_of_ne_true h2]; rfl
  ·rw [<- hX, decide_eq_false (show ¬ xs.getD 0 sE = qAr from h0)]; rfl
 ·rw [if_neg o1, if_neg o2, if_neg o3, if_neg o4, if_neg o5, if_neg o6, if_neg h7, if_neg (by omega), if_neg (by omega), if_neg (by omega), if_neg o21] at hX
  exact hX.symm
theorem impExpr (h : qBo V c d) (hv : VNe d) (hs : qFI V m sc) : ∀ (e : E), E.Ok V e -> ∀ dd, okE dd e = true -> ImpE V d c m sc e := by
 intro e
 induction e using E.ind with
 | h e ih =>
 intro he dd hok V1 hV
 have har := arity (qIg hok)
 have hk : ∀ x ∈ e.k, ImpE V1 d c m sc x := fun x hx V2 h2 => ih x hx (he.kids x hx) (dd + 1) (okE_kids hok x hx) V2 (hV.trans h2)
 have h1 := h.sub hV
 refine Pur.mk (x229 ?_)
 unfold w229
 have hlen := qHD d sc e.k []
 refine ⟨fun o7 => (impCall h1 e (he.sub hV) har.2.2.2 hk).call ⟨_, _, rfl, ?_⟩, fun o7 => ?_⟩
 ·have hex : qAl d sc e = if (rawT d sc e).2 = 0 /\ (rawT d sc e).1 = sE then (sE, 11) else rawT d sc e := by
   rw [qIy]
   unfold rawT
   by_cases h0 : (partsT d sc [] e.k).2 ≠ 0
   ·rw [if_pos h0, if_pos h0, if_neg (fun h => h0 h.1)]
   ·rw [if_neg h0, if_neg h0]
    unfold qHh
    rw [if_neg (by omega), if_neg (by omega), if_neg (by omega), if_neg (by omega), if_neg (by omega), if_neg (by omega), if_pos o7, callE_raw]
  rw [hex]
  refine ⟨fun h0 => ⟨fun h2 => ?_, fun h2 => ?_⟩, fun h0 => ?_⟩
  ·rw [if_pos ⟨h0, h2⟩]; exact ⟨rfl, Mem.sub.refl _⟩
  ·rw [if_neg (fun h => h2 h.2)]; exact ⟨rfl, Mem.sub.refl _⟩
  ·rw [if_neg (fun h => h0 h.1)]; exact ⟨rfl, Mem.sub.refl _⟩
 ·rw [qIy]
  have hr := (he.sub hV).rows
  refine loop4s (mk := .string) (mc := .int .i64) (md := fun s : Sl => .slice s.p s.n s.c) (qAo []) 0 ⟨none, 0, 0⟩ qFx e.k.length (fun i s V2 => ∃ acc, Own V1 V2 9 1 s (acc.flatMap qBu) /\ partsT d sc [] e.k = partsT d sc acc (e.k.drop i) /\ acc.length = i) ⟨[], Own.nil (Mem.sub.refl _) _ _, rfl, rfl⟩ ?_
  rintro i b b' s V2 J hi ⟨acc, hown, hp, hlen'⟩ hJ
  have hr1 := hr.sub hown.sub
  refine ⟨fun hlt => ?_, fun hge => ?_⟩
  ·obtain ⟨x, hm, hx, hdr, hl, hpp, hz, hrow⟩ := hr1.get hlt
   rw [hdr, qCq] at hp
   refine ⟨hpp, hz, hlt, _, _, _, _, hrow, (hk x hm V2 hown.sub).call ⟨_, _, rfl, fun h0 => ?_, fun h0 => ?_⟩⟩
   ·intro b1 hb1
    rw [if_neg (fun h => h h0)] at hp
    refine app217 (s := s) (u := ⟨some ⟨b1, 0, none⟩, 1, 1⟩) (xs := acc) (ys := [(qAl d sc x).1]) rfl rfl (hown.new hb1 _) (one_row mss) (by simp; omega) fun s' V' ho => ⟨s', rfl, hr1.succ hlt, hJ hl _ _ _ _ ⟨_, ho, hp, by simp [hlen']⟩⟩
   ·rw [if_pos h0] at hp
    rw [hp]
    simp only [ne_eq, h0, not_false_eq_true, if_true]
    exact ⟨by trivial, hown.sub⟩
  ·have hge' := (hr1.done hge).2
   rw [(hr1.done hge).1, qCN] at hp
   rw [hp]
   simp only [ne_eq, not_true_eq_false, if_false]
   refine (impNode (h1.sub hown.sub) hv ((hs.sub hV).sub hown.sub) (ownS hown) (by omega) (qIg hok) o7).call ⟨_, _, rfl, rfl, hown.sub⟩
end
end Go.Proofs
