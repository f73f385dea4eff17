/- Part 10 of a proof of a law of this seat: no statement of the seat is proved here. -/
import Derived.Test.YtnoompnjibfbfaaGreatDoorPart09
set_option linter.unusedVariables false
set_option linter.unusedSimpArgs false
namespace Go.Proofs
open Go Go.Sx
attribute [local irreducible] Go.Sx.Tri
theorem S.v_eq (s : S) : s.v = .agg #[.int .i64 s.op, .string s.s, .slice s.el.p s.el.n s.el.c, .slice s.ll.p s.ll.n s.ll.c, .slice s.xl.p s.xl.n s.xl.c] := by unfold S.v; rw [S.row_eq]; rfl
theorem S.row_get {V : Mem} {p : Option Addr} {i : Nat} {x : S} (h : V.rowp p i 5 = some x.row) : V.rowp p i 5 = some [.int .i64 x.op, .string x.s, .slice x.el.p x.el.n x.el.c, .slice x.ll.p x.ll.n x.ll.c, .slice x.xl.p x.xl.n x.xl.c] := by
 rw [h, S.row_eq]; rfl
theorem ptrAdd_ne {p : Option Addr} {n : Nat} (h : ¬ (p = none)) : ¬ (ptrAdd p n = none) := by
 cases p with
 | none => exact absurd rfl h
 | some a => intro e; cases e
def CntP (V : Mem) (l : List S) : Prop := ∀ (sl : Sl) (d : Int), RowsAt V sl 5 (l.map S.row) -> (∀ x ∈ l, S.Ok V x) -> 0 <= d -> d <= 61 -> PP 124 [sl.v, .int .i64 d] V (.int .i64 (cntSs d 0 l))
theorem cntP_step {V : Mem} {l : List S} (hk : ∀ x ∈ l, CntP V x.ls /\ CntP V x.xs) : CntP V l := by
 intro sl d hr hok hd0 hd
 refine x124 (v0 := sl) (v1 := d) ?_
 unfold w124
 refine loop3s inj_i l.length (fun i acc V1 => V1 = V /\ 0 <= acc /\ acc <= 200 /\ cntSs d 0 l = cntSs d acc (l.drop i)) ⟨rfl, by omega, by omega, rfl⟩ ?_
 rintro i acc c V1 J hi ⟨rfl, ha0, ha, he⟩ hJ
 refine ⟨fun hlt => ?_, fun hge => ?_⟩
 ·obtain ⟨x, hm, hx, hdr, hl, hp, hz, hrow⟩ := hr.get hlt
  have hrow := S.row_get hrow
  have hox := hok x hm
  have hn1 := hox.lRows.n_eq
  have hn2 := hox.xRows.n_eq
  rw [hdr, cntSs_cons] at he
  have hc := cntS_eq d acc x
  have cs := c183 hox
  rw [S.v_eq] at cs
  have bad : cntS d acc x = 201 -> (Ending.returned (.int .i64 201) = Ending.returned (.int .i64 (cntSs d 0 l)) /\ V1 = V1) := fun h => by
   rw [h, if_pos (by omega)] at he; rw [he]; exact ⟨rfl, rfl⟩
  have over : ∀ n, cntS d acc x = n -> 200 < n -> (Ending.returned (.int .i64 n) = Ending.returned (.int .i64 (cntSs d 0 l)) /\ V1 = V1) := fun n h hn => by
   rw [h, if_pos hn] at he; rw [he]; exact ⟨rfl, rfl⟩
  have on : ∀ n c', cntS d acc x = n -> 0 <= n -> ¬ 200 < n -> J [.int .i64 n, .int .i64 c',   .int .i64 ((i : Int) + 1)] V1 := fun n c' h h0 hn => by
   rw [h, if_neg hn] at he
   exact hJ hl _ _ _ ⟨rfl, h0, by omega, he⟩
  refine ⟨fun h60 => bad (by rw [hc, if_pos h60]), fun h60 => ⟨hp, hz, hlt, _, _, _, _, _, hrow, cs.call ⟨_, rfl, fun hs => ⟨⟨by omega, by omega⟩, fun h1 => ?_, fun h1 => ?_⟩, fun hs => bad (by rw [hc, if_neg h60, if_neg hs])⟩⟩⟩
  ·rw [if_neg h60, if_pos hs, if_pos h1] at hc
   have b1 := cntSs_ok (d + 1) 0 x.ls (by omega) (by omega)
   have b2 := cntSs_ok (d + 1) 0 x.xs (by omega) (by omega)
   refine ⟨hp, hz, hlt, ptrAdd_ne hp, _, _, _, _, _, hrow, ⟨by omega, by omega⟩, ((hk x hm).1 x.ll (d + 1) hox.lRows hox.lOk (by omega) (by omega)).call ⟨_, rfl, ⟨by omega, by omega⟩, fun h2 => ?_, fun h2 => ?_⟩⟩
   ·rw [if_pos h2] at hc
    refine ⟨hp, hz, hlt, ptrAdd_ne hp, _, _, _, _, _, hrow, ⟨by omega, by omega⟩, ((hk x hm).2 x.xl (d + 1) hox.xRows hox.xOk (by omega) (by omega)).call ⟨_, rfl, ⟨by omega, by omega⟩, fun h3 => over _ hc h3, fun h3 => ⟨hr.succ hlt, on _ _ hc (by omega) h3⟩⟩⟩
   ·rw [if_neg h2] at hc
    exact ⟨fun h3 => over _ hc h3, fun h3 => absurd h3 (by omega)⟩
  ·rw [if_neg h60, if_pos hs, if_neg h1] at hc
   exact ⟨fun h2 => absurd h2 h1, fun h2 => ⟨fun h3 => over _ hc h3, fun h3 => absurd h3 (by omega)⟩⟩
 ·rw [(hr.done hge).1, cntSs_nil] at he; rw [he]; exact ⟨rfl, rfl⟩
theorem cntP_S (V : Mem) : ∀ s : S, CntP V s.ls /\ CntP V s.xs := by
 intro s
 induction s using S.ind with
 | h s i1 i2 => exact ⟨cntP_step i1, cntP_step i2⟩
theorem c124 {V : Mem} {l : List S} {sl : Sl} {d : Int} (hr : RowsAt V sl 5 (l.map S.row)) (hok : ∀ x ∈ l, S.Ok V x) (h0 : 0 <= d) (h1 : d <= 61) : PP 124 [sl.v, .int .i64 d] V (.int .i64 (cntSs d 0 l)) :=
 cntP_step (fun x _ => cntP_S V x) sl d hr hok h0 h1
set_option maxRecDepth 4000 in
theorem c244 {V : Mem} [Tab V] {s : S} (h : S.Ok V s) : PP 244 [s.v] V (.bool (shapeB s.op s.s s.es s.ls.length s.xs.length)) := by
 have hf := first_row h
 have hnl := h.lRows.n_eq
 have hnx := h.xRows.n_eq
 have hne := h.eRows.n_eq
 rw [S.v_eq]
 refine x244 (v0 := s.op) (v1 := s.s) (v2 := s.el) (v3 := s.ll) (v4 := s.xl) ?_
 unfold w244
 rw [<- hnl, <- hnx]
 generalize hX : shapeB s.op s.s s.es s.ll.n s.xl.n = X
 have key : ∀ b : Bool, X = b -> Ending.returned (.bool b) = Ending.returned (.bool X) := fun n h => by rw [h]
 unfold shapeB at hX
 rw [<- hne] at hX
 have hn0 : (0 : Int) <= (s.el.n : Int) := by omega
 have hn1 : (0 : Int) <= (s.ll.n : Int) := by omega
 have hn2 : (0 : Int) <= (s.xl.n : Int) := by omega
 generalize hne' : (s.el.n : Int) = ne at hX hn0
 generalize (s.ll.n : Int) = nl at hX hn1
 generalize (s.xl.n : Int) = nx at hX hn2
 rcases hf with ⟨he, hn⟩ | ⟨e0, r, he, hn, hp, hp2, hrow⟩
 ·have : ne = 0 := by omega
  subst this
  clear hnl hnx hne hne' hn
  repeat' (first | refine c152.call ⟨_, rfl, ?_⟩ | apply And.intro | intro _)
  all_goals first | rfl | (refine key _ ?_; clear key h he; grind) | (exfalso; clear key h he; grind)
 ·have hfo : fop s.es = e0.op := by rw [he]; rfl
  rw [hfo] at hX
  have hn' : 0 < ne := by omega
  clear hnl hnx hne hne' hn
  repeat' (first | refine c152.call ⟨_, rfl, ?_⟩ | refine ⟨_, _, _, _, hrow, ?_⟩ | exact hp | exact hp2 | exact hn' | apply And.intro | intro _)
  all_goals first | rfl | (refine key _ ?_; clear key h he hrow hp hp2; grind) | (exfalso; clear key h he hrow hp hp2; grind) | omega
theorem c245 {V : Mem} [Tab V] {e : E} (h : E.Ok V e) : PP 245 [e.v] V (.bool (!validE e)) := by
 refine x245 (v0 := e.op) (v1 := e.n) (v2 := e.s) (v3 := e.l) ?_
 unfold w245
 exact (c59 h).call ⟨_, rfl, rfl, rfl⟩
theorem vSl_bound {left d : Int} {l : List S} (h0 : 0 <= left) (h : (vSl left d l).1 = true) : 0 <= (vSl left d l).2 /\ (vSl left d l).2 <= left := by
 unfold vSl gd at h ⊢
 split at h
 ·cases h
 ·rename_i hn
  rw [if_neg hn]
  have := vSs_ok left d l h0 hn
  grind
theorem vSl_eq {left d : Int} {l : List S} (h : ¬ (60 < d /\ l ≠ [])) : vSl left d l = vSs left d l := by unfold vSl gd; rw [if_neg h]
section
variable {V0 : Mem} {b t : Nat}
def StP (V0 : Mem) (b t : Nat) (l : List S) : Prop := ∀ (sl : Sl) (d left : Int) (V : Mem), RowsAt V0 sl 5 (l.map S.row) -> (∀ x ∈ l, S.Ok V0 x) -> V0.sub V -> V b = some (cell (.int .i64 left) t) -> 0 <= left -> left <= 200 -> 0 <= d -> d <= 61 ->
 Tri Tryz.prog 212 #[sl.v, .int .i64 d, .pointer (some ⟨b, 0, none⟩)] V fun r V' => r = .returned (.bool (vSl left d l).1) /\ V' = V.set b (cell (.int .i64 (vSl left d l).2) t)
theorem stP_step [hT : Tab V0] (hb : V0 b = none) {l : List S} (hk : ∀ x ∈ l, StP V0 b t x.ls /\ StP V0 b t x.xs) : StP V0 b t l := by
 intro sl d left V hr hok hV hcell hl0 hl1 hd0 hd
 have hn := hr.n_eq
 refine x212 (v0 := sl) (v1 := d) (v2 := some ⟨b, 0, none⟩) ?_
 unfold w212
 have hM : ∀ lf, V0.sub (V.set b (cell (.int .i64 lf) t)) := fun lf => hV.set hb _
 refine ⟨fun h0 => ⟨fun h60 => ?_, fun h60 => ?_⟩, fun h0 => ?_⟩
 ·have : vSl left d l = (false, left) := by
   unfold vSl gd
   rw [if_pos ⟨h60, fun e => by rw [e] at hn; simp at hn; omega⟩]
  rw [this]
  exact ⟨rfl, (Mem.set_eq hcell).symm⟩
 all_goals
  have hnd : ¬ (60 < d /\ l ≠ []) := by
   first
   | exact fun h => h60 h.1
   | exact fun h => h.2 (List.eq_nil_of_length_eq_zero (by omega))
  rw [vSl_eq hnd]
  refine loop2 l.length (fun i V1 => ∃ lf, V1 = V.set b (cell (.int .i64 lf) t) /\ 0 <= lf /\ lf <= 200 /\ vSs left d l = vSs lf d (l.drop i)) ⟨left, (Mem.set_eq hcell).symm, hl0, hl1, rfl⟩ ?_
  rintro i c _ J hi ⟨lf, rfl, hf0, hf1, he⟩ hJ
  refine ⟨fun hlt => ?_, fun hge => ?_⟩
  ·obtain ⟨x, hm, hx, hdr, hl, hp, hz, hrow⟩ := (hr.sub (hM lf)).get hlt
   have hrow := S.row_get hrow
   have hox := hok x hm
   rw [hdr, vSs_cons] at he
   have hv := vS_eq lf d x
   have cs := fun V (h0 : V0.sub V) (h : S.Ok V x) => (haveI : Tab V := Tab.sub hT h0; c244 h)
   rw [S.v_eq] at cs
   have no : ∀ n, vS lf d x = (false, n) -> (Ending.returned (.bool false) = Ending.returned (.bool (vSs left d l).1) /\ V.set b (cell (.int .i64 n) t) = V.set b (cell (.int .i64 (vSs left d l).2) t)) := fun n h => by
    rw [h] at he
    rw [he]; exact ⟨rfl, rfl⟩
   refine ⟨hp, hz, hlt, _, _, _, _, _, hrow, Tri.mono (c135 (Mem.set_same _ _ _) (by omega) (by omega)) ?_⟩
   rintro _ _ ⟨rfl, rfl⟩
   rw [Mem.set_set]
   refine ⟨_, rfl, fun h8 => (cs _ (hM _) (hox.sub (hM _))).call ⟨_, rfl, fun hs => ?_, fun hs => ?_⟩, fun h8 => ?_⟩
   ·have h8 : 0 <= lf - 1 := of_decide_eq_true h8
    refine (c57 (first := []) (caps := []) (l := x.el) (hox.eRows.sub (hM _)) Tryz.call245 (fun e => !validE e) (fun e hm => haveI : Tab (V.set b (cell (.int .i64 (lf - 1)) t)) := Tab.sub hT (hM (lf - 1)); c245 ((hox.eOk e hm).sub (hM _)))).call ⟨_, rfl, fun ha => ?_, fun ha => ?_⟩
    ·have hal : x.es.all validE = false := by
      rw [List.any_eq_not_all_not] at ha
      simpa using ha
     rw [if_neg (fun h => by have := h.2; unfold shapeR at this; rw [hal, Bool.and_false] at this; cases this)] at hv
     exact no _ hv
    ·have hal : x.es.all validE = true := by
      rw [List.any_eq_not_all_not] at ha
      simpa using ha
     have hsr : shapeR x.op x.s x.es x.ls.length x.xs.length = true := by unfold shapeR; rw [hs, hal]; rfl
     rw [if_pos ⟨h8, hsr⟩] at hv
     refine ⟨⟨by omega, by omega⟩, Tri.mono ((hk x hm).1 x.ll (d + 1) (lf - 1) _ hox.lRows hox.lOk (hM _) (Mem.set_same _ _ _) h8 (by omega) (by omega) (by omega)) ?_⟩
     rintro _ _ ⟨rfl, rfl⟩
     rw [Mem.set_set]
     refine ⟨_, rfl, fun h1 => ⟨⟨by omega, by omega⟩, ?_⟩, fun h1 => ?_⟩
     ·rw [if_pos h1] at hv
      have b1 := vSl_bound h8 h1
      refine Tri.mono ((hk x hm).2 x.xl (d + 1) _ _ hox.xRows hox.xOk (hM _) (Mem.set_same _ _ _) b1.1 (by omega) (by omega) (by omega)) ?_
      rintro _ _ ⟨rfl, rfl⟩
      rw [Mem.set_set]
      refine ⟨_, rfl, fun h2 => ?_, fun h2 => ?_⟩
      ·have b2 := vSl_bound b1.1 h2
       rw [hv, if_pos h2] at he
       exact ⟨(hr.sub (hM lf)).succ hlt, hJ hl _ _ ⟨_, rfl, b2.1, by omega, he⟩⟩
      ·rw [<- hv] at h2 ⊢
       exact no _ (Prod.ext (eq_false_of_ne_true h2) rfl)
     ·rw [if_neg h1] at hv
      exact no _ hv
   ·rw [if_neg (fun h => by have := h.2; unfold shapeR at this; rw [eq_false_of_ne_true hs, Bool.false_and] at this; cases this)] at hv
    exact no _ hv
   ·rw [if_neg (fun h => h8 (decide_eq_true h.1))] at hv
    exact no _ hv
  ·rw [((hr.sub (hM lf)).done hge).1, vSs_nil] at he
   rw [he]; exact ⟨rfl, rfl⟩
theorem stP_S [hT : Tab V0] (hb : V0 b = none) : ∀ s : S, StP V0 b t s.ls /\ StP V0 b t s.xs := by
 intro s
 induction s using S.ind with
 | h s i1 i2 => exact ⟨stP_step hb i1, stP_step hb i2⟩
theorem c212 [hT : Tab V0] (hb : V0 b = none) (l : List S) : StP V0 b t l := stP_step hb fun x _ => stP_S hb x
end
def AllTo {α : Type} (p : α -> Bool) (xs : List α) (i : Nat) : Prop := ∀ j x, j < i -> xs[j]? = some x -> p x = true
theorem AllTo.zero {α : Type} (p : α -> Bool) (xs : List α) : AllTo p xs 0 := fun _ _ h => absurd h (Nat.not_lt_zero _)
theorem AllTo.succ {α : Type} {p : α -> Bool} {xs : List α} {i : Nat} {x : α} (h : AllTo p xs i) (hx : xs[i]? = some x) (hp : p x = true) : AllTo p xs (i + 1) := fun j y hj hy => by
 rcases Nat.lt_succ_iff_lt_or_eq.1 hj with h' | rfl
 ·exact h j y h' hy
 ·rw [hx] at hy; cases hy; exact hp
theorem AllTo.all {α : Type} {p : α -> Bool} {xs : List α} {i : Nat} (h : AllTo p xs i) (hi : xs.length <= i) : xs.all p = true :=
 List.all_eq_true.2 fun x hx => by
  obtain ⟨j, hj, rfl⟩ := List.mem_iff_getElem.1 hx
  exact h j _ (by omega) (List.getElem?_eq_getElem hj)
theorem all_false {α : Type} {p : α -> Bool} {xs : List α} {x : α} (h : x ∈ xs) (hp : ¬ p x = true) : xs.all p = false := by
 cases h' : xs.all p with
 | false => rfl
 | true => exact absurd (List.all_eq_true.1 h' x h) hp
def sInt : ByteArray := strB [105, 110, 116]
def sBool : ByteArray := strB [98, 111, 111, 108]
def typB (s : ByteArray) : Bool := decide (s = sInt) || decide (s = sBool) || isName s
def openB (s : ByteArray) : Bool := decide (s = strB []) || isName s
def fldB (f : Fld) : Bool := isName f.name && typB f.ty
def fldsB (l : List Fld) (most : Int) : Bool := decide ((l.length : Int) <= most) && l.all fldB
def tyB (t : Ty) : Bool := isName t.name && fldsB t.fields 12
def prB (p : Pr) : Bool := isName p.name && fldsB p.params 6 && fldsB p.locals 12 && (decide (p.result = strB []) || typB p.result) && validSs p.body
def msB (m : Ms) : Bool := isName m.name && isName m.ty && decide (-1099511627776 <= m.nil /\ m.nil <= 1099511627776) && validE m.x
def ivB (m : Iv) : Bool := isName m.name && openB m.ty && validE m.x
def poB (m : Po) : Bool := openB m.ty && validE m.x
def bdB (m : Bd) : Bool := isName m.proc && validE m.x
def formB (d : Ds) : Bool := d.measures.all msB && d.invs.all ivB && d.pots.all poB && d.bounds.all bdB
def lensB (d : Ds) : Bool := decide ((d.measures.length : Int) <= 12 /\ (d.invs.length : Int) <= 12 /\ (d.pots.length : Int) <= 12 /\ (d.bounds.length : Int) <= 12)
def validD (d : Ds) : Bool := isName d.name && decide ((d.types.length : Int) <= 12) && fldsB d.globals 8 && decide ((d.procs.length : Int) <= 40) && lensB d && d.types.all tyB && d.procs.all prB && formB d
theorem c123 {V : Mem} {s : ByteArray} : PP 123 [.string s] V (.bool (typB s)) := by
 refine x123 ?_
 unfold w123
 refine ⟨fun h => ?_, fun h => ⟨fun h1 => ?_, fun h1 => c75.call ⟨_, rfl, ?_⟩⟩⟩ <;> simp [typB, sInt, sBool, *]
theorem c206 {V : Mem} [Tab V] {s : ByteArray} : PP 206 [.string s] V (.bool (typB s)) := by
 refine x206 ?_
 unfold w206
 refine ⟨fun h => ?_, fun h => ⟨fun h1 => ?_, fun h1 => c152.call ⟨_, rfl, ?_⟩⟩⟩ <;> simp [typB, sInt, sBool, *]
theorem c125 {V : Mem} {s : ByteArray} : PP 125 [.string s] V (.bool (openB s)) := by
 refine x125 ?_
 unfold w125
 refine ⟨fun h => ?_, fun h => c75.call ⟨_, rfl, ?_⟩⟩ <;> simp [openB, *]
theorem c207 {V : Mem} [Tab V] {s : ByteArray} : PP 207 [.string s] V (.bool (openB s)) := by
 refine x207 ?_
 unfold w207
 refine ⟨fun h => ?_, fun h => c152.call ⟨_, rfl, ?_⟩⟩ <;> simp [openB, *]
theorem c76 {V : Mem} {l : Sl} {xs : List Fld} {n : Int} (hr : RowsAt V l 2 (xs.map Fld.row)) : PP 76 [l.v, .int .i64 n] V (.bool (fldsB xs n)) := by
 refine x76 (v0 := l) (v1 := n) ?_
 unfold w76
 have hn := hr.n_eq
 refine ⟨fun h => ?_, fun h => ?_⟩
 ·have : ¬ ((xs.length : Int) <= n) := by omega
  simp [fldsB, this]
 ·have hle : (xs.length : Int) <= n := by omega
  refine loop2 xs.length (fun i V1 => V1 = V /\ AllTo fldB xs i) ⟨rfl, AllTo.zero _ _⟩ ?_
  rintro i b V1 J hi ⟨rfl, ha⟩ hJ
  refine ⟨fun hlt => ?_, fun hge => ?_⟩
  ·obtain ⟨x, hm, hx, hdr, hl, hp, hz, hrow⟩ := hr.get hlt
   have no : fldB x = false -> (Ending.returned (.bool false) = Ending.returned (.bool (fldsB xs n)) /\ V1 = V1) := fun h => by
    unfold fldsB; rw [all_false hm (by rw [h]; simp), Bool.and_false]; exact ⟨rfl, rfl⟩
   refine ⟨hp, hz, hlt, ptrAdd_ne hp, _, _, hrow, c75.call ⟨_, rfl, fun h1 => ⟨hp, hz, hlt, ptrAdd_ne hp, _, _, hrow, c123.call ⟨_, rfl, fun h2 => ⟨hr.succ hlt, hJ hl _ _ ⟨rfl, ha.succ hx (by simp [fldB, *])⟩⟩, fun h2 => no (by simp [fldB, *])⟩⟩, fun h1 => no (by simp [fldB, *])⟩⟩
  ·have := ha.all (hr.done hge).2
   simp [fldsB, this, hle]
theorem c205 {V : Mem} [Tab V] {f : Fld} : PP 205 [f.v] V (.bool (!fldB f)) := by
 refine x205 (v0 := f.name) (v1 := f.ty) ?_
 unfold w205
 refine c152.call ⟨_, rfl, fun h => c206.call ⟨_, rfl, ?_⟩, fun h => ?_⟩ <;> simp [fldB, *]
theorem c153 {V : Mem} [Tab V] {l : Sl} {xs : List Fld} {n : Int} (hr : RowsAt V l 2 (xs.map Fld.row)) : PP 153 [l.v, .int .i64 n] V (.bool (fldsB xs n)) := by
 refine x153 (v0 := l) (v1 := n) ?_
 unfold w153
 have hn := hr.n_eq
 refine ⟨fun h => (c168 (first := []) (caps := []) hr Tryz.call205 (fun f => !fldB f) fun f _ => c205).call ⟨_, rfl, ?_⟩, fun h => ?_⟩
 ·have hle : (xs.length : Int) <= n := by omega
  rw [List.any_eq_not_all_not]
  simp [fldsB, hle]
 ·have : ¬ ((xs.length : Int) <= n) := by omega
  simp [fldsB, this]
theorem c77 {V : Mem} {p : Pr} (h : Pr.Ok V p) : PP 77 [p.v] V (.bool (prB p)) := by
 refine x77 (v0 := p.name) (v1 := p.ps) (v2 := p.result) (v3 := p.ls) (v4 := p.bs) ?_
 unfold w77
 have cs := c124 (d := 1) h.body h.stmts (by omega) (by omega)
 refine c75.call ⟨_, rfl, fun h1 => (c76 h.params).call ⟨_, rfl, fun h2 => (c76 h.locals).call ⟨_, rfl, fun h3 => ⟨fun h4 => cs.call ⟨_, rfl, ?_⟩, fun h4 => c123.call ⟨_, rfl, fun h5 => cs.call ⟨_, rfl, ?_⟩, fun h5 => ?_⟩⟩, fun h3 => ?_⟩, fun h2 => ?_⟩, fun h1 => ?_⟩
 all_goals simp [prB, <- validSs_cnt, *]
theorem c159 {V : Mem} [Tab V] {p : Pr} (h : Pr.Ok V p) : PP 159 [p.v] V (.bool (prB p)) := by
  refine Pur.mk (x159 (v0 := p.name) (v1 := p.ps) (v2 := p.result) (v3 := p.ls) (v4 := p.bs) ?_)
  unfold w159
  have cs : (validSs p.body = prB p) -> PubT [(.int .i64 200)] 159 V fun v9 V5 =>
       Tri Tryz.prog 212 #[(.slice p.bs.p p.bs.n p.bs.c), (.int .i64 1), (.pointer (ptrAdd v9 0))] V5 fun e V6 => ∃ v10 : Bool, e = .returned (.bool v10) /\ (Ending.returned (.bool v10) = Ending.returned (.bool (prB p)) /\ V.sub V6) := fun e b hb => by
    refine Tri.mono (c212 hb p.body p.bs 1 200 _ h.body h.stmts (Mem.sub_new hb _) (Mem.set_same _ _ _) (by omega) (by omega) (by omega) (by omega)) ?_
    rintro _ _ ⟨rfl, rfl⟩
    rw [validSs_v, Mem.set_set, e]
    exact ⟨_, rfl, rfl, Mem.sub_new hb _⟩
  refine c152.call ⟨_, rfl, fun h1 => (c153 h.params).call ⟨_, rfl, fun h2 => (c153 h.locals).call ⟨_, rfl, fun h3 => ⟨fun h4 => cs ?_, fun h4 => c206.call ⟨_, rfl, fun h5 => cs ?_, fun h5 => ⟨?_, Mem.sub.refl _⟩⟩⟩, fun h3 => ⟨?_, Mem.sub.refl _⟩⟩, fun h2 => ⟨?_, Mem.sub.refl _⟩⟩, fun h1 => ⟨?_, Mem.sub.refl _⟩⟩
  all_goals simp [prB, *]
theorem c209 {V : Mem} [Tab V] {b : Bd} (h : E.Ok V b.x) : PP 209 [b.v] V (.bool (!bdB b)) := by
 refine x209 (v0 := b.proc) (v1 := b.x.op) (v2 := b.x.n) (v3 := b.x.s) (v4 := b.x.l) ?_
 unfold w209
 refine c152.call ⟨_, rfl, fun h1 => (c59 h).call ⟨_, rfl, ?_⟩, fun h1 => ?_⟩ <;> simp [bdB, *]
theorem c156 {V : Mem} [Tab V] {t : Ty} (h : Ty.Ok V t) : PP 156 [t.v] V (.bool (!tyB t)) := by
 refine x156 (v0 := t.name) (v1 := t.fs) ?_
 unfold w156
 refine c152.call ⟨_, rfl, fun h1 => (c153 h.fields).call ⟨_, rfl, ?_⟩, fun h1 => ?_⟩ <;> simp [tyB, *]
theorem c158 {V : Mem} [Tab V] {t : Pr} (h : Pr.Ok V t) : PP 158 [t.v] V (.bool (!prB t)) := by
 refine x158 (v0 := t.name) (v1 := t.ps) (v2 := t.result) (v3 := t.ls) (v4 := t.bs) ?_
 unfold w158
 exact (c159 h).call ⟨_, rfl, rfl, rfl⟩
theorem GenK.max4 {P : Program} {V : Mem} {a b c d : Operand} {ty : Nat} {ts : Array TypeId} {vals : Operand -> Value} {n1 n2 n3 n4 : Int} (h1 : vals a = .int .i64 n1) (h2 : vals b = .int .i64 n2) (h3 : vals c = .int .i64 n3) (h4 : vals d = .int .i64 n4) {q : Value -> Mem -> Prop}
  (hq : ∀ m : Int, n1 <= m -> n2 <= m -> n3 <= m -> n4 <= m -> (m = n1 ∨ m = n2 ∨ m = n3 ∨ m = n4) -> q (.int .i64 m) V) : GenK P (.call { callee := .builtin .max, args := #[a, b, c, d], argTypes := ts }) ty vals V q := by
 intro w hw
 refine ⟨_, w, V, ?_, Frm.refl hw, hq (max (max (max n1 n2) n3) n4) (by omega) (by omega) (by omega) (by omega) (by omega)⟩
 unfold execOp
 have e : ∀ x y : Int, (if y > x then y else x) = max x y := fun x y => by split <;> omega
 simp only [resolve, invoke, builtin, Sem.run_bind, Sem.run_pure, Result.andThen_ok, List.map_toArray, List.map_cons, List.map_nil, h1, h2, h3, h4]
 simp [Builtin.max_, Builtin.max2, e]
theorem c78 {V : Mem} {d : Ds} (h : Ds.Ok V d) : PP 78 [d.v] V (.bool (formB d)) := by
 refine x78 (v0 := d.name) (v1 := d.ts) (v2 := d.gs) (v3 := d.ps) (v4 := d.ms) (v5 := d.is) (v6 := d.qs) (v7 := d.bs) ?_
 unfold w78
 generalize hX : formB d = X
 have key : ∀ b : Bool, X = b -> (Ending.returned (.bool b) = Ending.returned (.bool X) /\ V = V) := fun n h => by rw [h]; exact ⟨rfl, rfl⟩
 unfold formB at hX
 refine loop2 d.measures.length (fun i V1 => V = V1 /\ AllTo msB d.measures i) ⟨rfl, AllTo.zero _ _⟩ ?_
 rintro i b V1 J hi ⟨rfl, ha⟩ hJ
 refine ⟨fun hlt => ?_, fun hge => ?_⟩
 ·obtain ⟨x, hm, hx, hdr, hl, hp, hz, hrow⟩ := h.measures.get hlt
  have no : msB x = false -> X = false := fun h => by rw [<- hX, all_false hm (by rw [h]; simp)]; rfl
  refine ⟨hp, hz, hlt, _, _, _, _, _, _, _, hrow, c75.call ⟨_, rfl, fun h1 => c75.call ⟨_, rfl, fun h2 => ⟨fun h3 => key _ (no ?_), fun h3 => ⟨fun h4 => key _ (no ?_), fun h4 => (c29 (h.measuresOk x hm).x).call ⟨_, rfl, fun h5 => ⟨h.measures.succ hlt, hJ hl _ _ ⟨rfl, ha.succ hx ?_⟩⟩, fun h5 => key _ (no ?_)⟩⟩⟩, fun h2 => key _ (no ?_)⟩, fun h1 => key _ (no ?_)⟩⟩
  ·have : ¬ (-1099511627776 <= x.nil /\ x.nil <= 1099511627776) := by omega
   simp [msB, *]
  ·have : ¬ (-1099511627776 <= x.nil /\ x.nil <= 1099511627776) := by omega
   simp [msB, *]
  ·have : (-1099511627776 <= x.nil /\ x.nil <= 1099511627776) := by omega
   simp [msB, *]
  all_goals simp [msB, *]
 have a1 := ha.all (h.measures.done hge).2
 refine loop2 d.invs.length (fun i V1 => V = V1 /\ AllTo ivB d.invs i) ⟨rfl, AllTo.zero _ _⟩ ?_
 rintro i b V1 J hi ⟨rfl, ha⟩ hJ
 refine ⟨fun hlt => ?_, fun hge => ?_⟩
 ·obtain ⟨x, hm, hx, hdr, hl, hp, hz, hrow⟩ := h.invs.get hlt
  have no : ivB x = false -> X = false := fun h => by rw [<- hX, all_false hm (by rw [h]; simp)]; simp
  refine ⟨hp, hz, hlt, ptrAdd_ne hp, _, _, _, _, _, _, hrow, c75.call ⟨_, rfl, fun h1 => ⟨hp, hz, hlt, ptrAdd_ne hp, _, _, _, _, _, _, hrow, c125.call ⟨_, rfl, fun h2 => ⟨hp, hz, hlt, ptrAdd_ne hp, _, _, _, _, _, _, hrow, (c29 (h.invsOk x hm)).call ⟨_, rfl, fun h5 => ⟨h.invs.succ hlt, hJ hl _ _ ⟨rfl, ha.succ hx ?_⟩⟩, fun h5 => key _ (no ?_)⟩⟩, fun h2 => key _ (no ?_)⟩⟩, fun h1 => key _ (no ?_)⟩⟩
  all_goals simp [ivB, *]
 have a2 := ha.all (h.invs.done hge).2
 refine loop2 d.pots.length (fun i V1 => V = V1 /\ AllTo poB d.pots i) ⟨rfl, AllTo.zero _ _⟩ ?_
 rintro i b V1 J hi ⟨rfl, ha⟩ hJ
 refine ⟨fun hlt => ?_, fun hge => ?_⟩
 ·obtain ⟨x, hm, hx, hdr, hl, hp, hz, hrow⟩ := h.pots.get hlt
  have no : poB x = false -> X = false := fun h => by rw [<- hX, all_false (p := poB) hm (by rw [h]; simp)]; simp
  refine ⟨hp, hz, hlt, ptrAdd_ne hp, _, _, _, _, _, hrow, c125.call ⟨_, rfl, fun h2 => ⟨hp, hz, hlt, ptrAdd_ne hp, _, _, _, _, _, hrow, (c29 (h.potsOk x hm)).call ⟨_, rfl, fun h5 => ⟨h.pots.succ hlt, hJ hl _ _ ⟨rfl, ha.succ hx ?_⟩⟩, fun h5 => key _ (no ?_)⟩⟩, fun h2 => key _ (no ?_)⟩⟩
  all_goals simp [poB, *]
 have a3 := ha.all (h.pots.done hge).2
 refine loop2 d.bounds.length (fun i V1 => V = V1 /\ AllTo bdB d.bounds i) ⟨rfl, AllTo.zero _ _⟩ ?_
 rintro i b V1 J hi ⟨rfl, ha⟩ hJ
 refine ⟨fun hlt => ?_, fun hge => ?_⟩
 ·obtain ⟨x, hm, hx, hdr, hl, hp, hz, hrow⟩ := h.bounds.get hlt
  have no : bdB x = false -> X = false := fun h => by rw [<- hX, all_false (p := bdB) hm (by rw [h]; simp)]; simp
  refine ⟨hp, hz, hlt, ptrAdd_ne hp, _, _, _, _, _, hrow, c75.call ⟨_, rfl, fun h2 => ⟨hp, hz, hlt, ptrAdd_ne hp, _, _, _, _, _, hrow, (c29 (h.boundsOk x hm)).call ⟨_, rfl, fun h5 => ⟨h.bounds.succ hlt, hJ hl _ _ ⟨rfl, ha.succ hx ?_⟩⟩, fun h5 => key _ (no ?_)⟩⟩, fun h2 => key _ (no ?_)⟩⟩
  all_goals simp [bdB, *]
 have a4 := ha.all (h.bounds.done hge).2
 refine key _ ?_
 rw [<- hX, a1, a2, a3, a4]; rfl
theorem c154 {V : Mem} [Tab V] {d : Ds} (h : Ds.Ok V d) : PP 154 [d.v] V (.bool (lensB d && formB d)) := by
 refine x154 (v0 := d.name) (v1 := d.ts) (v2 := d.gs) (v3 := d.ps) (v4 := d.ms) (v5 := d.is) (v6 := d.qs) (v7 := d.bs) ?_
 unfold w154
 have n1 := h.measures.n_eq
 have n2 := h.invs.n_eq
 have n3 := h.pots.n_eq
 have n4 := h.bounds.n_eq
 generalize hX : (lensB d && formB d) = X
 have key : ∀ b : Bool, X = b -> (Ending.returned (.bool b) = Ending.returned (.bool X) /\ V = V) := fun n h => by rw [h]; exact ⟨rfl, rfl⟩
 unfold formB lensB at hX
 refine GenK.max4 (n1 := d.ms.n) (n2 := d.is.n) (n3 := d.qs.n) (n4 := d.bs.n) rfl rfl rfl rfl fun mx l1 l2 l3 l4 le => ⟨_, rfl, fun hb => key _ ?_, fun hb => ?_⟩
 ·rw [<- hX, decide_eq_false (by omega)]; rfl
 rw [decide_eq_true (by omega), Bool.true_and] at hX
 refine loop2 d.measures.length (fun i V1 => V = V1 /\ AllTo msB d.measures i) ⟨rfl, AllTo.zero _ _⟩ ?_
 rintro i b V1 J hi ⟨rfl, ha⟩ hJ
 refine ⟨fun hlt => ?_, fun hge => ?_⟩
 ·obtain ⟨x, hm, hx, hdr, hl, hp, hz, hrow⟩ := h.measures.get hlt
  have no : msB x = false -> X = false := fun h => by rw [<- hX, all_false hm (by rw [h]; simp)]; rfl
  refine ⟨hp, hz, hlt, _, _, _, _, _, _, _, hrow, c152.call ⟨_, rfl, fun h1 => c152.call ⟨_, rfl, fun h2 => ⟨fun h3 => key _ (no ?_), fun h3 => ⟨fun h4 => key _ (no ?_), fun h4 => (c59 (h.measuresOk x hm).x).call ⟨_, rfl, fun h5 => ⟨h.measures.succ hlt, hJ hl _ _ ⟨rfl, ha.succ hx ?_⟩⟩, fun h5 => key _ (no ?_)⟩⟩⟩, fun h2 => key _ (no ?_)⟩, fun h1 => key _ (no ?_)⟩⟩
  ·have : ¬ (-1099511627776 <= x.nil /\ x.nil <= 1099511627776) := by omega
   simp [msB, *]
  ·have : ¬ (-1099511627776 <= x.nil /\ x.nil <= 1099511627776) := by omega
   simp [msB, *]
  ·have : (-1099511627776 <= x.nil /\ x.nil <= 1099511627776) := by omega
   simp [msB, *]
  all_goals simp [msB, *]
 have a1 := ha.all (h.measures.done hge).2
 refine loop2 d.invs.length (fun i V1 => V = V1 /\ AllTo ivB d.invs i) ⟨rfl, AllTo.zero _ _⟩ ?_
 rintro i b V1 J hi ⟨rfl, ha⟩ hJ
 refine ⟨fun hlt => ?_, fun hge => ?_⟩
 ·obtain ⟨x, hm, hx, hdr, hl, hp, hz, hrow⟩ := h.invs.get hlt
  have no : ivB x = false -> X = false := fun h => by rw [<- hX, all_false hm (by rw [h]; simp)]; simp
  refine ⟨hp, hz, hlt, _, _, _, _, _, _, hrow, c152.call ⟨_, rfl, fun h1 => c207.call ⟨_, rfl, fun h2 => (c59 (h.invsOk x hm)).call ⟨_, rfl, fun h5 => ⟨h.invs.succ hlt, hJ hl _ _ ⟨rfl, ha.succ hx ?_⟩⟩, fun h5 => key _ (no ?_)⟩, fun h2 => key _ (no ?_)⟩, fun h1 => key _ (no ?_)⟩⟩
  all_goals simp [ivB, *]
 have a2 := ha.all (h.invs.done hge).2
 refine loop2 d.pots.length (fun i V1 => V = V1 /\ AllTo poB d.pots i) ⟨rfl, AllTo.zero _ _⟩ ?_
 rintro i b V1 J hi ⟨rfl, ha⟩ hJ
 refine ⟨fun hlt => ?_, fun hge => ?_⟩
 ·obtain ⟨x, hm, hx, hdr, hl, hp, hz, hrow⟩ := h.pots.get hlt
  have no : poB x = false -> X = false := fun h => by rw [<- hX, all_false (p := poB) hm (by rw [h]; simp)]; simp
  refine ⟨hp, hz, hlt, _, _, _, _, _, hrow, c207.call ⟨_, rfl, fun h2 => (c59 (h.potsOk x hm)).call ⟨_, rfl, fun h5 => ⟨h.pots.succ hlt, hJ hl _ _ ⟨rfl, ha.succ hx ?_⟩⟩, fun h5 => key _ (no ?_)⟩, fun h2 => key _ (no ?_)⟩⟩
  all_goals simp [poB, *]
 have a3 := ha.all (h.pots.done hge).2
 refine (c208 (first := []) (caps := []) h.bounds Tryz.call209 (fun f => !bdB f) fun f hm => c209 (h.boundsOk f hm)).call ⟨_, rfl, key _ ?_⟩
 rw [<- hX, a1, a2, a3, List.any_eq_not_all_not]
 simp
theorem c44 {V : Mem} {d : Ds} (h : Ds.Ok V d) : PP 44 [d.v] V (.bool (validD d)) := by
 refine x44 (v0 := d.name) (v1 := d.ts) (v2 := d.gs) (v3 := d.ps) (v4 := d.ms) (v5 := d.is) (v6 := d.qs) (v7 := d.bs) ?_
 unfold w44
 have n1 := h.measures.n_eq
 have n2 := h.invs.n_eq
 have n3 := h.pots.n_eq
 have n4 := h.bounds.n_eq
 have n5 := h.types.n_eq
 have n6 := h.procs.n_eq
 generalize hX : validD d = X
 have key : ∀ b : Bool, X = b -> (Ending.returned (.bool b) = Ending.returned (.bool X) /\ V = V) := fun n h => by rw [h]; exact ⟨rfl, rfl⟩
 unfold validD at hX
 have nol : lensB d = false -> X = false := fun h => by rw [<- hX, h]; simp
 refine c75.call ⟨_, rfl, fun h1 => ⟨fun h2 => key _ ?_, fun h2 => (c76 h.globals).call ⟨_, rfl, fun h3 => ⟨fun h4 => key _ ?_, fun h4 => ⟨fun h5 => key _ (nol ?_), fun h5 => ⟨fun h6 => key _ (nol ?_), fun h6 => ⟨fun h7 => key _ (nol ?_), fun h7 => ⟨fun h8 => key _ (nol ?_), fun h8 => ?_⟩⟩⟩⟩⟩, fun h3 => key _ ?_⟩⟩, fun h1 => key _ ?_⟩
 ·rw [<- hX, decide_eq_false (by omega)]; simp
 ·rw [<- hX, decide_eq_false (p := (d.procs.length : Int) <= 40) (by omega)]; simp
 ·exact decide_eq_false (by omega)
 ·exact decide_eq_false (by omega)
 ·exact decide_eq_false (by omega)
 ·exact decide_eq_false (by omega)
 ·have hl : lensB d = true := decide_eq_true (by omega)
  rw [h1, decide_eq_true (p := (d.types.length : Int) <= 12) (by omega), h3, decide_eq_true (p := (d.procs.length : Int) <= 40) (by omega), hl] at hX
  simp only [Bool.true_and] at hX
  refine loop2 d.types.length (fun i V1 => V = V1 /\ AllTo tyB d.types i) ⟨rfl, AllTo.zero _ _⟩ ?_
  rintro i b V1 J hi ⟨rfl, ha⟩ hJ
  refine ⟨fun hlt => ?_, fun hge => ?_⟩
  ·obtain ⟨x, hm, hx, hdr, hl, hp, hz, hrow⟩ := h.types.get hlt
   have no : tyB x = false -> X = false := fun h => by rw [<- hX, all_false hm (by rw [h]; simp)]; rfl
   refine ⟨hp, hz, hlt, ptrAdd_ne hp, _, _, hrow, c75.call ⟨_, rfl, fun h1 => ⟨hp, hz, hlt, ptrAdd_ne hp, _, _, hrow, (c76 (h.typesOk x hm).fields).call ⟨_, rfl, fun h5 => ⟨h.types.succ hlt, hJ hl _ _ ⟨rfl, ha.succ hx ?_⟩⟩, fun h5 => key _ (no ?_)⟩⟩, fun h1 => key _ (no ?_)⟩⟩
   all_goals simp [tyB, *]
  have a1 := ha.all (h.types.done hge).2
  refine loop2 d.procs.length (fun i V1 => V = V1 /\ AllTo prB d.procs i) ⟨rfl, AllTo.zero _ _⟩ ?_
  rintro i b V1 J hi ⟨rfl, ha⟩ hJ
  refine ⟨fun hlt => ?_, fun hge => ?_⟩
  ·obtain ⟨x, hm, hx, hdr, hl, hp, hz, hrow⟩ := h.procs.get hlt
   have no : prB x = false -> X = false := fun h => by rw [<- hX, all_false hm (by rw [h]; simp)]; simp
   exact ⟨hp, hz, hlt, _, _, _, _, _, hrow, (c77 (h.procsOk x hm)).call ⟨_, rfl, fun h5 => ⟨h.procs.succ hlt, hJ hl _ _ ⟨rfl, ha.succ hx h5⟩⟩, fun h5 => key _ (no (eq_false_of_ne_true h5))⟩⟩
  have a2 := ha.all (h.procs.done hge).2
  refine (c78 h).call ⟨_, rfl, key _ ?_⟩
  rw [<- hX, a1, a2]; rfl
 ·rw [<- hX, eq_false_of_ne_true h3]; simp
 ·rw [<- hX, eq_false_of_ne_true h1]; simp
theorem c109 {V : Mem} [Tab V] {d : Ds} (h : Ds.Ok V d) : PP 109 [d.v] V (.bool (validD d)) := by
 refine x109 (v0 := d.name) (v1 := d.ts) (v2 := d.gs) (v3 := d.ps) (v4 := d.ms) (v5 := d.is) (v6 := d.qs) (v7 := d.bs) ?_
 unfold w109
 have n5 := h.types.n_eq
 have n6 := h.procs.n_eq
 generalize hX : validD d = X
 have key : ∀ b : Bool, X = b -> (Ending.returned (.bool b) = Ending.returned (.bool X) /\ V = V) := fun n h => by rw [h]; exact ⟨rfl, rfl⟩
 unfold validD at hX
 refine c152.call ⟨_, rfl, fun h1 => ⟨fun h2 => key _ ?_, fun h2 => (c153 h.globals).call ⟨_, rfl, fun h3 => ⟨fun h4 => key _ ?_, fun h4 => (c154 h).call ⟨_, rfl, fun h5 => (c155 (first := []) (caps := []) h.types Tryz.call156 (fun f => !tyB f) fun f hm => c156 (h.typesOk f hm)).call ⟨_, rfl, fun h6 => key _ ?_, fun h6 =>
   (c157 (first := []) (caps := []) h.procs Tryz.call158 (fun f => !prB f) fun f hm => c158 (h.procsOk f hm)).call ⟨_, rfl, key _ ?_⟩⟩, fun h5 => key _ ?_⟩⟩, fun h3 => key _ ?_⟩⟩, fun h1 => key _ ?_⟩
 ·rw [<- hX, decide_eq_false (by omega)]; simp
 ·rw [<- hX, decide_eq_false (p := (d.procs.length : Int) <= 40) (by omega)]; simp
 ·rw [List.any_eq_not_all_not] at h6
  have : d.types.all tyB = false := by simpa using h6
  rw [<- hX, this]; simp
 ·rw [List.any_eq_not_all_not] at h6 ⊢
  have : d.types.all tyB = true := by simpa using h6
  rw [Bool.and_eq_true] at h5
  rw [<- hX, h1, decide_eq_true (p := (d.types.length : Int) <= 12) (by omega), h3, decide_eq_true (p := (d.procs.length : Int) <= 40) (by omega), h5.1, h5.2, this]
  simp
 ·have : (lensB d && formB d) = false := eq_false_of_ne_true h5
  rw [<- hX]
  cases hl : lensB d with
  | false => simp
  | true => rw [hl, Bool.true_and] at this; rw [this]; simp
 ·rw [<- hX, eq_false_of_ne_true h3]; simp
 ·rw [<- hX, eq_false_of_ne_true h1]; simp
end Go.Proofs
namespace Go.Proofs
open Go Go.Sx
def sNil : ByteArray := strB [110, 105, 108]
def sE : ByteArray := strB []
def isNode (d : Ds) (s : ByteArray) : Bool := d.types.any fun t => decide (t.name = s)
def known (d : Ds) (s : ByteArray) : Bool := decide (s = sInt) || decide (s = sBool) || isNode d s
def fits (d : Ds) (a b : ByteArray) : Bool := decide (a = b) || (decide (a = sNil) && isNode d b)
def lookF : List Fld -> ByteArray -> ByteArray
 | [], _ => sE
 | f :: l, s => if f.name = s then f.ty else lookF l s
def tyOf (d : Ds) (s : ByteArray) : Option Ty := d.types.find? fun t => decide (t.name = s)
def prOf (d : Ds) (s : ByteArray) : Option Pr := d.procs.find? fun t => decide (t.name = s)
def meOf (d : Ds) (s : ByteArray) : Option Ms := d.measures.find? fun t => decide (t.name = s)
def fieldT (d : Ds) (t name : ByteArray) : ByteArray × Int :=
 match tyOf d t with
 | none => (sE, 11)
 | some ty => if lookF ty.fields name = sE then (sE, 9) else (lookF ty.fields name, 0)
def fitAll (d : Ds) : List ByteArray -> List Fld -> Bool
 | a :: l, f :: fs => fits d a f.ty && fitAll d l fs
 | _, _ => true
def callT (d : Ds) (name : ByteArray) (l : List ByteArray) : ByteArray × Int :=
 match prOf d name with
 | none => (sE, 9)
 | some p => if l.length ≠ p.params.length then (sE, 3) else if fitAll d l p.params = true then (p.result, 0) else (sE, 11)
def needT (ok : Bool) (t : ByteArray) : ByteArray × Int := if ok = true then (t, 0) else (sE, 11)
structure Sc where
 vars : List Fld
 body : Bool
def measT (d : Ds) (name : ByteArray) (l : List ByteArray) : ByteArray × Int :=
 match meOf d name with
 | none => (sE, 9)
 | some m => if l.length ≠ 1 then (sE, 3) else needT (fits d (l.getD 0 sE) m.ty) sInt
def callE (d : Ds) (sc : Sc) (name : ByteArray) (l : List ByteArray) : ByteArray × Int :=
 if sc.body = true then (if (callT d name l).2 = 0 /\ (callT d name l).1 = sE then (sE, 11) else callT d name l) else measT d name l
def allT (l : List ByteArray) (t : ByteArray) : Bool := l.all fun x => decide (x = t)
def nodeT (d : Ds) (sc : Sc) (op : Int) (s : ByteArray) (l : List ByteArray) : ByteArray × Int :=
 if op = 1 then (sInt, 0) else if op = 2 then (sBool, 0) else if op = 3 then (sNil, 0)
 else if op = 4 then (if lookF sc.vars s = sE then (sE, 9) else (lookF sc.vars s, 0))
 else if op = 5 then fieldT d (l.getD 0 sE) s
 else if op = 6 then (if sc.body = false then (sE, 13) else if isNode d s = false then (sE, 9) else (s, 0))
 else if op = 7 then callE d sc s l
 else if op = 14 ∨ op = 15 then needT (fits d (l.getD 0 sE) (l.getD 1 sE) || fits d (l.getD 1 sE) (l.getD 0 sE)) sBool
 else if op = 16 ∨ op = 17 then needT (allT l sInt) sBool
 else if op = 18 ∨ op = 19 ∨ op = 20 then needT (allT l sBool) sBool
 else if op = 21 then needT (decide (l.getD 0 sE = sBool) && (fits d (l.getD 1 sE) (l.getD 2 sE) || fits d (l.getD 2 sE) (l.getD 1 sE))) (if l.getD 1 sE = sNil then l.getD 2 sE else l.getD 1 sE)
 else needT (allT l sInt) sInt
mutual
def exprT (d : Ds) (sc : Sc) : E -> ByteArray × Int
 | .mk op _ s _ k => if (partsT d sc [] k).2 ≠ 0 then (sE, (partsT d sc [] k).2) else nodeT d sc op s (partsT d sc [] k).1
def partsT (d : Ds) (sc : Sc) (acc : List ByteArray) : List E -> List ByteArray × Int
 | [] => (acc, 0)
 | x :: xs => if (exprT d sc x).2 ≠ 0 then ([], (exprT d sc x).2) else partsT d sc (acc ++ [(exprT d sc x).1]) xs
end
theorem exprT_eq (d : Ds) (sc : Sc) (e : E) : exprT d sc e = if (partsT d sc [] e.k).2 ≠ 0 then (sE, (partsT d sc [] e.k).2) else nodeT d sc e.op e.s (partsT d sc [] e.k).1 := by
 cases e; unfold exprT; rfl
theorem partsT_cons (d : Ds) (sc : Sc) (acc : List ByteArray) (x : E) (xs : List E) : partsT d sc acc (x :: xs) = if (exprT d sc x).2 ≠ 0 then ([], (exprT d sc x).2) else partsT d sc (acc ++ [(exprT d sc x).1]) xs := by rw [partsT]
theorem partsT_nil (d : Ds) (sc : Sc) (acc : List ByteArray) : partsT d sc acc [] = (acc, 0) := by rw [partsT]
theorem partsT_len (d : Ds) (sc : Sc) : ∀ (k : List E) (acc : List ByteArray), (partsT d sc acc k).2 = 0 -> (partsT d sc acc k).1.length = acc.length + k.length
 | [], acc, _ => by rw [partsT_nil]; rfl
 | x :: xs, acc, h => by
  rw [partsT_cons] at h ⊢
  split at h
  ·rename_i h'; exact absurd h h'
  ·rename_i h'
   rw [if_neg h', partsT_len d sc xs _ h, List.length_append, List.length_cons, List.length_cons, List.length_nil]
   omega
def inProcS (d : Ds) (p : Pr) : Sc := ⟨p.params ++ p.locals ++ d.globals, true⟩
def sThisF : ByteArray := strB [116, 104, 105, 115]
def inFormS (d : Ds) (t : ByteArray) : Sc := ⟨(if t = sE then [] else [⟨sThisF, t⟩]) ++ d.globals, false⟩
def inBoundS (d : Ds) (p : Pr) : Sc := ⟨p.params ++ d.globals, false⟩
def stmtT (d : Ds) (sc : Sc) (result : ByteArray) (op : Int) (s : ByteArray) (es : List E) : Int :=
 if op = 6 then
  match es with
  | [] => 0
  | e :: _ => if (partsT d sc [] e.k).2 ≠ 0 then (partsT d sc [] e.k).2 else (callT d e.s (partsT d sc [] e.k).1).2
 else if (partsT d sc [] es).2 ≠ 0 then (partsT d sc [] es).2
 else if op = 1 then (if lookF sc.vars s = sE then 9 else if fits d ((partsT d sc [] es).1.getD 0 sE) (lookF sc.vars s) = true then 0 else 11)
 else if op = 2 then (if (fieldT d ((partsT d sc [] es).1.getD 0 sE) s).2 ≠ 0 then (fieldT d ((partsT d sc [] es).1.getD 0 sE) s).2 else if fits d ((partsT d sc [] es).1.getD 1 sE) (fieldT d ((partsT d sc [] es).1.getD 0 sE) s).1 = true then 0 else 11)
 else if op = 3 ∨ op = 4 then (if (partsT d sc [] es).1.getD 0 sE = sBool then 0 else 11)
 else if op = 5 then (if (partsT d sc [] es).1.length = 0 then (if result = sE then 0 else 11) else if result ≠ sE /\ fits d ((partsT d sc [] es).1.getD 0 sE) result = true then 0 else 11)
 else 0
mutual
def stT (d : Ds) (sc : Sc) (result : ByteArray) (n : Int) : S -> Int × Int
 | .mk op s _ es _ ls _ xs =>
  if stmtT d sc result op s es ≠ 0 then (n, stmtT d sc result op s es)
  else if (stsT d sc result (n + 1) ls).2 ≠ 0 then stsT d sc result (n + 1) ls
  else stsT d sc result (stsT d sc result (n + 1) ls).1 xs
def stsT (d : Ds) (sc : Sc) (result : ByteArray) (n : Int) : List S -> Int × Int
 | [] => (n, 0)
 | x :: xs => if (stT d sc result n x).2 ≠ 0 then stT d sc result n x else stsT d sc result (stT d sc result n x).1 xs
end
theorem stT_eq (d : Ds) (sc : Sc) (result : ByteArray) (n : Int) (x : S) : stT d sc result n x = if stmtT d sc result x.op x.s x.es ≠ 0 then (n, stmtT d sc result x.op x.s x.es) else if (stsT d sc result (n + 1) x.ls).2 ≠ 0 then stsT d sc result (n + 1) x.ls else stsT d sc result (stsT d sc result (n + 1) x.ls).1 x.xs := by
 cases x; unfold stT; rfl
theorem stsT_cons (d : Ds) (sc : Sc) (result : ByteArray) (n : Int) (x : S) (xs : List S) : stsT d sc result n (x :: xs) = if (stT d sc result n x).2 ≠ 0 then stT d sc result n x else stsT d sc result (stT d sc result n x).1 xs := by rw [stsT]
theorem stsT_nil (d : Ds) (sc : Sc) (result : ByteArray) (n : Int) : stsT d sc result n [] = (n, 0) := by rw [stsT]
def oneT (d : Ds) (l : List Fld) (i : Nat) (f : Fld) : Int := if (l.take i).any (fun g => decide (g.name = f.name)) = true then 10 else if known d f.ty = true then 0 else 9
def firstE {α β : Type} (f : Nat -> α -> Option β) : Nat -> List α -> Option β
 | _, [] => none
 | i, x :: xs => match f i x with | some b => some b | none => firstE f (i + 1) xs
def declT (d : Ds) (l : List Fld) : Int := (firstE (fun i f => if oneT d l i f ≠ 0 then some (oneT d l i f) else none) 0 l).getD 0
abbrev Flt := ByteArray × Int × Int
def types1 (d : Ds) : Option Flt := firstE (fun i t => if (d.types.take i).any (fun g => decide (g.name = t.name)) = true then some (t.name, -1, 10) else none) 0 d.types
def types2 (d : Ds) : Option Flt := firstE (fun _ t => if declT d t.fields ≠ 0 then some (t.name, -1, declT d t.fields) else none) 0 d.types
def types3 (d : Ds) : Option Flt := firstE (fun i f => if oneT d d.globals i f ≠ 0 then some (f.name, -1, oneT d d.globals i f) else none) 0 d.globals
def typesT (d : Ds) : Option Flt := (types1 d).or ((types2 d).or (types3 d))
def headsT (d : Ds) : Option Flt := firstE (fun i p => if (d.procs.take i).any (fun g => decide (g.name = p.name)) = true then some (p.name, -1, 10) else if declT d (p.params ++ p.locals) ≠ 0 then some (p.name, -1, declT d (p.params ++ p.locals)) else if p.result ≠ sE /\ known d p.result = false then some (p.name, -1, 9) else none) 0 d.procs
def form1 (d : Ds) : Option Flt := firstE (fun i m => if (d.measures.take i).any (fun g => decide (g.name = m.name)) = true then some (m.name, -1, 10) else if isNode d m.ty = false then some (m.name, -1, 9) else none) 0 d.measures
def form2 (d : Ds) : Option Flt := firstE (fun i m => if (d.invs.take i).any (fun g => decide (g.name = m.name)) = true then some (m.name, -1, 10) else if m.ty ≠ sE /\ isNode d m.ty = false then some (m.name, -1, 9) else none) 0 d.invs
def sPot : ByteArray := strB [112, 111, 116, 101, 110, 116, 105, 97, 108]
def form3 (d : Ds) : Option Flt := firstE (fun _ m => if m.ty ≠ sE /\ isNode d m.ty = false then some (sPot, -1, 9) else none) 0 d.pots
def form4 (d : Ds) : Option Flt := firstE (fun i b => if (prOf d b.proc).isNone = true then some (b.proc, -1, 9) else if (d.bounds.take i).any (fun g => decide (g.proc = b.proc)) = true then some (b.proc, -1, 10) else none) 0 d.bounds
def formT (d : Ds) : Option Flt := (form1 d).or ((form2 d).or ((form3 d).or (form4 d)))
def bodiesT (d : Ds) : Option Flt := firstE (fun _ p => if (stsT d (inProcS d p) p.result 0 p.body).2 ≠ 0 then some (p.name, (stsT d (inProcS d p) p.result 0 p.body).1, (stsT d (inProcS d p) p.result 0 p.body).2) else none) 0 d.procs
def wantT (d : Ds) (sc : Sc) (e : E) (t : ByteArray) : Int := if (exprT d sc e).2 ≠ 0 then (exprT d sc e).2 else if (exprT d sc e).1 = t then 0 else 11
def exp1 (d : Ds) : Option Flt := firstE (fun _ m => if wantT d (inFormS d m.ty) m.x sInt ≠ 0 then some (m.name, -1, wantT d (inFormS d m.ty) m.x sInt) else none) 0 d.measures
def exp2 (d : Ds) : Option Flt := firstE (fun _ m => if wantT d (inFormS d m.ty) m.x sBool ≠ 0 then some (m.name, -1, wantT d (inFormS d m.ty) m.x sBool) else none) 0 d.invs
def exp3 (d : Ds) : Option Flt := firstE (fun _ m => if wantT d (inFormS d m.ty) m.x sInt ≠ 0 then some (sPot, -1, wantT d (inFormS d m.ty) m.x sInt) else none) 0 d.pots
def prD : Pr := ⟨sE, ⟨none, 0, 0⟩, [], sE, ⟨none, 0, 0⟩, [], ⟨none, 0, 0⟩, []⟩
def exp4 (d : Ds) : Option Flt := firstE (fun _ m => if wantT d (inBoundS d ((prOf d m.proc).getD prD)) m.x sInt ≠ 0 then some (m.proc, -1, wantT d (inBoundS d ((prOf d m.proc).getD prD)) m.x sInt) else none) 0 d.bounds
def expsT (d : Ds) : Option Flt := (exp1 d).or ((exp2 d).or ((exp3 d).or (exp4 d)))
def chkT (d : Ds) : Option Flt := (typesT d).or ((headsT d).or ((formT d).or ((bodiesT d).or (expsT d))))
def fltR (o : Option Flt) : Flt := o.getD (sE, 0, 0)
end Go.Proofs
namespace Go.Proofs
open Go Go.Sx
attribute [local irreducible] Go.Sx.Tri
noncomputable def ti (t : Nat) : TypeInfo := (Tryz.prog.info? t).getD default
theorem app174 {V0 V : Mem} {ty : Nat} {x y : Operand} {vals : Operand -> Value} {s u : Sl} {xs ys : List ByteArray} (hx : vals x = .slice s.p s.n s.c) (hy : vals y = .slice u.p u.n u.c) (own : Own V0 V 9 1 s (xs.flatMap strRow1)) (hnew : RowsAt V u 1 (ys.map strRow1))
  (hfit : xs.length + ys.length <= 2147483648) {q : Value -> Mem -> Prop} (hq : ∀ s' V', Own V0 V' 9 1 s' ((xs ++ ys).flatMap strRow1) -> q (.slice s'.p s'.n s'.c) V') :
  GenK Tryz.prog (.call { callee := .builtin .append, args := #[x, y], argTypes := #[174, 174] }) ty vals V q := by
 have hi : Tryz.prog.info? 9 = some (ti 9) := by kernel_rfl
 have hz : (ti 9).zero = some ((ti 9).zero.getD undef) := by kernel_rfl
 have h1 : (ti 9).size = 1 := by kernel_rfl
 have h2 : ((ti 9).zero.getD undef).cells.size = 1 := by kernel_rfl
 have h3 : (ti 9).bytes <= 65536 := by rw [show (ti 9).bytes = 16 by kernel_rfl]; omega
 exact GenK.appendS Tryz.underlying174 hi hz h1 h2 (by decide) h3 hx hy own (fun _ => rfl) hnew (fun x u hu => by simp [strRow1, vS, vI, Sl.v] at hu; rcases hu with rfl | rfl <;> rfl) hfit hq
theorem app23 {V0 V : Mem} {ty : Nat} {x y : Operand} {vals : Operand -> Value} {s u : Sl} {xs ys : List Fld} (hx : vals x = .slice s.p s.n s.c) (hy : vals y = .slice u.p u.n u.c) (own : Own V0 V 110 2 s (xs.flatMap Fld.row)) (hnew : RowsAt V u 2 (ys.map Fld.row))
  (hfit : xs.length + ys.length <= 2147483648) {q : Value -> Mem -> Prop} (hq : ∀ s' V', Own V0 V' 110 2 s' ((xs ++ ys).flatMap Fld.row) -> q (.slice s'.p s'.n s'.c) V') :
  GenK Tryz.prog (.call { callee := .builtin .append, args := #[x, y], argTypes := #[23, 23] }) ty vals V q := by
 have hi : Tryz.prog.info? 110 = some (ti 110) := by kernel_rfl
 have hz : (ti 110).zero = some ((ti 110).zero.getD undef) := by kernel_rfl
 have h1 : (ti 110).size = 2 := by kernel_rfl
 have h2 : ((ti 110).zero.getD undef).cells.size = 2 := by kernel_rfl
 have h3 : (ti 110).bytes <= 65536 := by rw [show (ti 110).bytes = 32 by kernel_rfl]; omega
 exact GenK.appendS Tryz.underlying23 hi hz h1 h2 (by decide) h3 hx hy own (fun _ => rfl) hnew (fun x u hu => by simp [Fld.row, vS, vI, Sl.v] at hu; rcases hu with rfl | rfl <;> rfl) hfit hq
def idxI {α : Type} (p : α -> Bool) (xs : List α) : Int := match xs.findIdx? p with | some i => (i : Int) | none => -1
theorem idxI_found {α : Type} {p : α -> Bool} {xs : List α} {i : Nat} {x : α} (h : AllTo (fun y => !p y) xs i) (hx : xs[i]? = some x) (hp : p x = true) : idxI p xs = i := by
 have hl := (List.getElem?_eq_some_iff.1 hx).1
 have hg := (List.getElem?_eq_some_iff.1 hx).2
 have : xs.findIdx? p = some i := List.findIdx?_eq_some_iff_getElem.2 ⟨hl, by rw [hg]; exact hp, fun j hj => by
  have := h j _ hj (List.getElem?_eq_getElem (Nat.lt_trans hj hl))
  simpa using this⟩
 unfold idxI; rw [this]
theorem idxI_none {α : Type} {p : α -> Bool} {xs : List α} {i : Nat} (h : AllTo (fun y => !p y) xs i) (hi : xs.length <= i) : idxI p xs = -1 := by
 have : xs.findIdx? p = none := List.findIdx?_eq_none_iff.2 fun x hx => by
  obtain ⟨j, hj, rfl⟩ := List.mem_iff_getElem.1 hx
  have := h j _ (by omega) (List.getElem?_eq_getElem hj)
  simpa using this
 unfold idxI; rw [this]
theorem idx_cases {α : Type} (p : α -> Bool) (xs : List α) : (idxI p xs = -1 /\ xs.find? p = none /\ xs.any p = false) ∨ ∃ (i : Nat) (x : α), idxI p xs = i /\ xs[i]? = some x /\ xs.find? p = some x /\ i < xs.length /\ p x = true /\ x ∈ xs /\ xs.any p = true /\ (xs.take i).any p = false := by
 cases h : xs.findIdx? p with
 | none =>
  have h' := List.findIdx?_eq_none_iff.1 h
  refine .inl ⟨by unfold idxI; rw [h], List.find?_eq_none.2 fun x hx => by rw [h' x hx]; simp, List.any_eq_false.2 fun x hx => by rw [h' x hx]; simp⟩
 | some i =>
  obtain ⟨hl, hp, hn⟩ := List.findIdx?_eq_some_iff_getElem.1 h
  refine .inr ⟨i, xs[i], by unfold idxI; rw [h], List.getElem?_eq_getElem hl, ?_, hl, hp, List.getElem_mem _, List.any_eq_true.2 ⟨_, List.getElem_mem _, hp⟩, ?_⟩
  ·rw [List.find?_eq_some_iff_getElem]
   exact ⟨hp, i, hl, rfl, fun j hj => by simpa using hn j hj⟩
  ·rw [List.any_eq_false]
   intro x hx
   obtain ⟨j, hj, rfl⟩ := List.mem_iff_getElem.1 hx
   rw [List.length_take] at hj
   rw [List.getElem_take]
   exact hn j (by omega)
theorem notAll_succ {α : Type} {p : α -> Bool} {xs : List α} {i : Nat} {x : α} (h : AllTo (fun y => !p y) xs i) (hx : xs[i]? = some x) (hp : p x = false) : AllTo (fun y => !p y) xs (i + 1) := h.succ hx (by simp [hp])
theorem c132 {V : Mem} {d : Ds} (h : Ds.Ok V d) {s : ByteArray} : PP 132 [d.v, .string s] V (.int .i64 (idxI (fun t => decide (t.name = s)) d.types)) := by
 refine x132 (v0 := d.name) (v1 := d.ts) (v2 := d.gs) (v3 := d.ps) (v4 := d.ms) (v5 := d.is) (v6 := d.qs) (v7 := d.bs) ?_
 unfold w132
 refine loop2 d.types.length (fun i V1 => V = V1 /\ AllTo (fun t => !decide (t.name = s)) d.types i) ⟨rfl, AllTo.zero _ _⟩ ?_
 rintro i b V1 J hi ⟨rfl, ha⟩ hJ
 refine ⟨fun hlt => ?_, fun hge => ?_⟩
 ·obtain ⟨x, hm, hx, hdr, hl, hp, hz, hrow⟩ := h.types.get hlt
  refine ⟨hp, hz, hlt, ptrAdd_ne hp, _, _, hrow, fun he => ?_, fun he => ⟨h.types.succ hlt, hJ hl _ _ ⟨rfl, notAll_succ (p := fun t => decide (t.name = s)) ha hx (decide_eq_false he)⟩⟩⟩
  rw [idxI_found (p := fun t => decide (t.name = s)) ha hx (decide_eq_true he)]; exact ⟨rfl, rfl⟩
 ·rw [idxI_none (p := fun t => decide (t.name = s)) ha (h.types.done hge).2]; exact ⟨rfl, rfl⟩
theorem c186 {V : Mem} {d : Ds} (h : Ds.Ok V d) {s : ByteArray} : PP 186 [d.v, .string s] V (.int .i64 (idxI (fun t => decide (t.name = s)) d.procs)) := by
 refine x186 (v0 := d.name) (v1 := d.ts) (v2 := d.gs) (v3 := d.ps) (v4 := d.ms) (v5 := d.is) (v6 := d.qs) (v7 := d.bs) ?_
 unfold w186
 refine loop2 d.procs.length (fun i V1 => V = V1 /\ AllTo (fun t => !decide (t.name = s)) d.procs i) ⟨rfl, AllTo.zero _ _⟩ ?_
 rintro i b V1 J hi ⟨rfl, ha⟩ hJ
 refine ⟨fun hlt => ?_, fun hge => ?_⟩
 ·obtain ⟨x, hm, hx, hdr, hl, hp, hz, hrow⟩ := h.procs.get hlt
  refine ⟨hp, hz, hlt, ptrAdd_ne hp, _, _, _, _, _, hrow, fun he => ?_, fun he => ⟨h.procs.succ hlt, hJ hl _ _ ⟨rfl, notAll_succ (p := fun t => decide (t.name = s)) ha hx (decide_eq_false he)⟩⟩⟩
  rw [idxI_found (p := fun t => decide (t.name = s)) ha hx (decide_eq_true he)]; exact ⟨rfl, rfl⟩
 ·rw [idxI_none (p := fun t => decide (t.name = s)) ha (h.procs.done hge).2]; exact ⟨rfl, rfl⟩
theorem c151 {V : Mem} {d : Ds} (h : Ds.Ok V d) {s : ByteArray} : PP 151 [d.v, .string s] V (.int .i64 (idxI (fun t => decide (t.name = s)) d.measures)) := by
 refine x151 (v0 := d.name) (v1 := d.ts) (v2 := d.gs) (v3 := d.ps) (v4 := d.ms) (v5 := d.is) (v6 := d.qs) (v7 := d.bs) ?_
 unfold w151
 refine loop2 d.measures.length (fun i V1 => V = V1 /\ AllTo (fun t => !decide (t.name = s)) d.measures i) ⟨rfl, AllTo.zero _ _⟩ ?_
 rintro i b V1 J hi ⟨rfl, ha⟩ hJ
 refine ⟨fun hlt => ?_, fun hge => ?_⟩
 ·obtain ⟨x, hm, hx, hdr, hl, hp, hz, hrow⟩ := h.measures.get hlt
  refine ⟨hp, hz, hlt, ptrAdd_ne hp, _, _, _, _, _, _, _, hrow, fun he => ?_, fun he => ⟨h.measures.succ hlt, hJ hl _ _ ⟨rfl, notAll_succ (p := fun t => decide (t.name = s)) ha hx (decide_eq_false he)⟩⟩⟩
  rw [idxI_found (p := fun t => decide (t.name = s)) ha hx (decide_eq_true he)]; exact ⟨rfl, rfl⟩
 ·rw [idxI_none (p := fun t => decide (t.name = s)) ha (h.measures.done hge).2]; exact ⟨rfl, rfl⟩
section
variable {V : Mem} {d : Ds}
theorem c101 (h : Ds.Ok V d) {s : ByteArray} : PP 101 [d.v, .string s] V (.bool (isNode d s)) := by
 refine x101 (v0 := d.name) (v1 := d.ts) (v2 := d.gs) (v3 := d.ps) (v4 := d.ms) (v5 := d.is) (v6 := d.qs) (v7 := d.bs) ?_
 unfold w101
 refine (c132 h).call ⟨_, rfl, ?_⟩
 rcases idx_cases (fun t : Ty => decide (t.name = s)) d.types with ⟨h1, h2, h3⟩ | ⟨i, x, h1, h2, h3, h4, h5, h6, h7, _⟩
 ·rw [h1, isNode, h3]; exact ⟨rfl, rfl⟩
 ·rw [h1, isNode, h7, decide_eq_true (by omega)]; exact ⟨rfl, rfl⟩
theorem c187 (h : Ds.Ok V d) {s : ByteArray} : PP 187 [d.v, .string s] V (.bool (known d s)) := by
 refine x187 (v0 := d.name) (v1 := d.ts) (v2 := d.gs) (v3 := d.ps) (v4 := d.ms) (v5 := d.is) (v6 := d.qs) (v7 := d.bs) ?_
 unfold w187
 refine ⟨fun h1 => ?_, fun h1 => ⟨fun h2 => ?_, fun h2 => (c101 h).call ⟨_, rfl, ?_⟩⟩⟩ <;> simp [known, sInt, sBool, *]
theorem c104 (h : Ds.Ok V d) {s t : ByteArray} : PP 104 [d.v, .string s, .string t] V (.bool (fits d s t)) := by
 refine x104 (v0 := d.name) (v1 := d.ts) (v2 := d.gs) (v3 := d.ps) (v4 := d.ms) (v5 := d.is) (v6 := d.qs) (v7 := d.bs) ?_
 unfold w104
 unfold fits sNil
 refine ⟨fun h1 => ?_, fun h1 => ⟨fun h2 => (c101 h).call ⟨_, rfl, ?_⟩, fun h2 => ?_⟩⟩
 ·rw [decide_eq_true h1]; exact ⟨rfl, rfl⟩
 ·rw [decide_eq_false h1, decide_eq_true h2]; exact ⟨rfl, rfl⟩
 ·rw [decide_eq_false h1, decide_eq_false h2]; exact ⟨rfl, rfl⟩
theorem fitAll_nil (fs : List Fld) : fitAll d [] fs = true := by simp [fitAll]
theorem c99 {l : Sl} {xs : List Fld} (h : RowsAt V l 2 (xs.map Fld.row)) {s : ByteArray} : PP 99 [l.v, .string s] V (.string (lookF xs s)) := by
 refine x99 (v0 := l) ?_
 unfold w99
 refine loop2 xs.length (fun i V1 => V = V1 /\ lookF xs s = lookF (xs.drop i) s) ⟨rfl, rfl⟩ ?_
 rintro i b V1 J hi ⟨rfl, ha⟩ hJ
 refine ⟨fun hlt => ?_, fun hge => ?_⟩
 ·obtain ⟨x, hm, hx, hdr, hl, hp, hz, hrow⟩ := h.get hlt
  rw [hdr, lookF] at ha
  refine ⟨hp, hz, hlt, ptrAdd_ne hp, _, _, hrow, fun he => ⟨hp, hz, hlt, ptrAdd_ne hp, _, _, hrow, ?_⟩, fun he => ⟨h.succ hlt, hJ hl _ _ ⟨rfl, ?_⟩⟩⟩
  ·rw [ha, if_pos he]; exact ⟨rfl, rfl⟩
  ·rw [ha, if_neg he]
 ·rw [ha, (h.done hge).1]; exact ⟨rfl, rfl⟩
theorem c100 (h : Ds.Ok V d) {s t : ByteArray} : PP 100 [d.v, .string s, .string t] V (.tuple #[.string (fieldT d s t).1, .int .i64 (fieldT d s t).2]) := by
 refine x100 (v0 := d.name) (v1 := d.ts) (v2 := d.gs) (v3 := d.ps) (v4 := d.ms) (v5 := d.is) (v6 := d.qs) (v7 := d.bs) ?_
 unfold w100
 refine (c132 h).call ⟨_, rfl, ?_⟩
 unfold fieldT tyOf
 rcases idx_cases (fun t : Ty => decide (t.name = s)) d.types with ⟨h1, h2, h3⟩ | ⟨i, x, h1, h2, h3, h4, h5, h6, h7, _⟩
 ·rw [h1, h2]; exact ⟨fun _ => ⟨rfl, rfl⟩, fun h => absurd h (by decide)⟩
 ·rw [h1, h3]
  have hn := h.types.n_eq
  have hlt : (i : Int) < (d.ts.n : Int) := by omega
  obtain ⟨y, hm, hx, hdr, hl, hp, hz, hrow⟩ := h.types.get hlt
  rw [h2] at hx
  cases hx
  refine ⟨fun h => absurd h (by omega), fun _ => ⟨hp, hz, hlt, ptrAdd_ne hp, _, _, hrow, (c99 (h.typesOk x h6).fields).call ⟨_, rfl, fun he => ?_, fun he => ?_⟩⟩⟩
  ·simp only [sE, he, if_true]; exact ⟨by first | rfl | trivial, by first | rfl | trivial⟩
  ·simp only [sE, he, if_false]; exact ⟨by first | rfl | trivial, by first | rfl | trivial⟩
theorem c103 {b : Bool} {s : ByteArray} : PP 103 [.bool b, .string s] V (.tuple #[.string (needT b s).1, .int .i64 (needT b s).2]) := by
 refine x103 ?_
 unfold w103
 refine ⟨fun h => ?_, fun h => ?_⟩
 ·unfold needT; rw [if_pos h]; exact ⟨rfl, rfl⟩
 ·unfold needT; rw [if_neg h]; exact ⟨rfl, rfl⟩
theorem c105 {l : Sl} {xs : List ByteArray} (h : RowsAt V l 1 (xs.map strRow1)) {s : ByteArray} : PP 105 [l.v, .string s] V (.bool (allT xs s)) := by
 refine x105 (v0 := l) ?_
 unfold w105
 refine loop2 xs.length (fun i V1 => V = V1 /\ AllTo (fun x => decide (x = s)) xs i) ⟨rfl, AllTo.zero _ _⟩ ?_
 rintro i b V1 J hi ⟨rfl, ha⟩ hJ
 refine ⟨fun hlt => ?_, fun hge => ?_⟩
 ·obtain ⟨x, hm, hx, hdr, hl, hp, hz, hrow⟩ := h.get hlt
  refine ⟨hp, hz, hlt, _, hrow, fun he => ⟨h.succ hlt, hJ hl _ _ ⟨rfl, ha.succ hx (decide_eq_true he)⟩⟩, fun he => ?_⟩
  unfold allT; rw [all_false (p := fun x => decide (x = s)) hm (by simpa using he)]; exact ⟨rfl, rfl⟩
 ·unfold allT; rw [ha.all (h.done hge).2]; exact ⟨rfl, rfl⟩
theorem c150 (h : Ds.Ok V d) {s : ByteArray} {l : Sl} {xs : List ByteArray} (hl : RowsAt V l 1 (xs.map strRow1)) : PP 150 [d.v, .string s, l.v] V (.tuple #[.string (callT d s xs).1, .int .i64 (callT d s xs).2]) := by
 refine x150 (v0 := d.name) (v1 := d.ts) (v2 := d.gs) (v3 := d.ps) (v4 := d.ms) (v5 := d.is) (v6 := d.qs) (v7 := d.bs) (v9 := l) ?_
 unfold w150
 refine (c186 h).call ⟨_, rfl, ?_⟩
 unfold callT prOf
 rcases idx_cases (fun t : Pr => decide (t.name = s)) d.procs with ⟨h1, h2, h3⟩ | ⟨i, x, h1, h2, h3, h4, h5, h6, h7, _⟩
 ·rw [h1, h2]; exact ⟨fun _ => ⟨rfl, rfl⟩, fun h => absurd h (by decide)⟩
 ·rw [h1, h3]
  have hn := h.procs.n_eq
  have hlt : (i : Int) < (d.ps.n : Int) := by omega
  obtain ⟨y, hm, hx, hdr, hll, hp, hz, hrow⟩ := h.procs.get hlt
  rw [h2] at hx
  cases hx
  have hox := h.procsOk x h6
  have e1 := hl.n_eq
  have e2 := hox.params.n_eq
  refine ⟨fun h => absurd h (by omega), fun _ => ⟨hp, hz, hlt, _, _, _, _, _, hrow, fun he => ?_, fun he => ?_⟩⟩
  ·have hle : xs.length = x.params.length := by omega
   simp only [hle, ne_eq, not_true_eq_false, if_false]
   refine loop3 xs.length (fun i V1 => V = V1 /\ fitAll d xs x.params = fitAll d (xs.drop i) (x.params.drop i)) ⟨rfl, rfl⟩ ?_
   rintro j b c V1 J hi ⟨rfl, ha⟩ hJ
   refine ⟨fun hlt => ?_, fun hge => ?_⟩
   ·obtain ⟨y, hm', hx', hdr', hl', hp', hz', hrow'⟩ := hl.get hlt
    obtain ⟨f, hmf, hxf, hdf, hlf, hpf, hzf, hrowf⟩ := hox.params.get (i := j) (by omega)
    rw [hdr', hdf, fitAll] at ha
    refine ⟨hp', hz', hlt, _, hrow', hpf, hzf, by omega, ptrAdd_ne hpf, _, _, hrowf, (c104 h).call ⟨_, rfl, fun hb => ⟨hl.succ hlt, hJ hl' _ _ _ ⟨rfl, ?_⟩⟩, fun hb => ?_⟩⟩
    ·rw [ha, hb, Bool.true_and]
    ·rw [eq_false_of_ne_true hb, Bool.false_and] at ha; rw [ha]; exact ⟨rfl, rfl⟩
   ·rw [(hl.done hge).1, fitAll_nil] at ha
    rw [ha]; exact ⟨rfl, rfl⟩
  ·have hle : ¬ xs.length = x.params.length := by omega
   simp only [ne_eq, hle, not_false_eq_true, if_true]; exact ⟨by first | rfl | trivial, by first | rfl | trivial⟩
theorem str_at {l : Sl} {xs : List ByteArray} (hl : RowsAt V l 1 (xs.map strRow1)) {i : Nat} (hi : i < xs.length) : ¬ (l.p = none) /\ (i : Int) < (l.n : Int) /\ V.rowp l.p i 1 = some [.string (xs.getD i sE)] := by
 have hn := hl.n_eq
 have hlt : (i : Int) < (l.n : Int) := by omega
 obtain ⟨y, hm', hx', hdr', hl', hp', hz', hrow'⟩ := hl.get hlt
 rw [List.getD_eq_getElem?_getD, hx']
 rw [Nat.mul_one] at hrow'
 exact ⟨hp', hlt, hrow'⟩
theorem c102 (h : Ds.Ok V d) {sl : Sl} {sc : Sc} {s : ByteArray} {l : Sl} {xs : List ByteArray} (hl : RowsAt V l 1 (xs.map strRow1)) :
  PP 102 [d.v, .agg #[sl.v, .bool sc.body], .string s, l.v] V (.tuple #[.string (callE d sc s xs).1, .int .i64 (callE d sc s xs).2]) := by
 refine x102 (v0 := d.name) (v1 := d.ts) (v2 := d.gs) (v3 := d.ps) (v4 := d.ms) (v5 := d.is) (v6 := d.qs) (v7 := d.bs) (v8 := sl) (v9 := sc.body) (v11 := l) ?_
 unfold w102
 refine ⟨fun hb => (c150 h hl).call ⟨_, _, rfl, fun h0 => ⟨fun h1 => ?_, fun h1 => ?_⟩, fun h0 => ?_⟩, fun hb => ?_⟩
 ·unfold callE sE; rw [if_pos hb, if_pos ⟨h0, h1⟩]; exact ⟨rfl, rfl⟩
 ·unfold callE sE; rw [if_pos hb, if_neg (fun h => h1 h.2)]; exact ⟨rfl, rfl⟩
 ·unfold callE; rw [if_pos hb, if_neg (fun h => h0 h.1)]; exact ⟨rfl, rfl⟩
 ·unfold callE; rw [if_neg hb]
  refine (c151 h).call ⟨_, rfl, ?_⟩
  unfold measT meOf
  rcases idx_cases (fun t : Ms => decide (t.name = s)) d.measures with ⟨h1, h2, h3⟩ | ⟨i, x, h1, h2, h3, h4, h5, h6, h7, _⟩
  ·rw [h1, h2]; exact ⟨fun _ => ⟨rfl, rfl⟩, fun h => absurd h (by decide)⟩
  ·rw [h1, h3]
   have hn := h.measures.n_eq
   have hlt : (i : Int) < (d.ms.n : Int) := by omega
   obtain ⟨y, hm, hx, hdr, hll, hp, hz, hrow⟩ := h.measures.get hlt
   rw [h2] at hx
   cases hx
   have e1 := hl.n_eq
   refine ⟨fun h => absurd h (by omega), fun _ => ⟨fun he => ?_, fun he => ?_⟩⟩
   ·have hle : xs.length = 1 := by omega
    obtain ⟨a1, a2, a3⟩ := str_at hl (i := 0) (by omega)
    simp only [hle, ne_eq, not_true_eq_false, if_false]
    exact ⟨a1, by omega, by omega, _, a3, hp, hz, hlt, ptrAdd_ne hp, _, _, _, _, _, _, _, hrow, (c104 h).call ⟨_, rfl, c103.call ⟨_, _, rfl, rfl, rfl⟩⟩⟩
   ·have hle : ¬ xs.length = 1 := by omega
    simp only [ne_eq, hle, not_false_eq_true, if_true]; exact ⟨by first | rfl | trivial, by first | rfl | trivial⟩
end
theorem arity {op n : Int} {s : ByteArray} {len : Int} (h : nodeB op n s len = true) : (op = 5 -> len = 1) /\ (op = 14 ∨ op = 15 -> len = 2) /\ (op = 21 -> len = 3) /\ len <= 6 := by
 unfold nodeB partsN at h
 rw [Bool.and_eq_true, Bool.and_eq_true, decide_eq_true_eq] at h
 obtain ⟨⟨h, -⟩, -⟩ := h
 grind
theorem okE_node {d : Int} {e : E} (h : okE d e = true) : nodeB e.op e.n e.s e.k.length = true := by
 cases e
 unfold okE at h
 rw [Bool.and_eq_true, Bool.and_eq_true] at h
 exact h.1.2
theorem okEs_mem {d : Int} : ∀ {l : List E}, okEs d l = true -> ∀ x ∈ l, okE d x = true
 | [], _, x, hx => absurd hx List.not_mem_nil
 | y :: l, h, x, hx => by
  unfold okEs at h
  rw [Bool.and_eq_true] at h
  rcases List.mem_cons.1 hx with rfl | hx
  ·exact h.1
  ·exact okEs_mem h.2 x hx
theorem okE_kids {d : Int} {e : E} (h : okE d e = true) : ∀ x ∈ e.k, okE (d + 1) x = true := by
 cases e
 unfold okE at h
 rw [Bool.and_eq_true] at h
 exact okEs_mem h.2
theorem ownS {V0 V : Mem} {s : Sl} {l : List ByteArray} (h : Own V0 V 9 1 s (l.flatMap strRow1)) : RowsAt V s 1 (l.map strRow1) := h.rows (fun _ => rfl) (by decide)
theorem one_row {V : Mem} {b : Nat} {s : ByteArray} {t : Nat} (h : V b = some (.cells #[.string s] t (0, 0))) : RowsAt V ⟨some ⟨b, 0, none⟩, 1, 1⟩ 1 ([s].map strRow1) :=
 RowsAt.cells (xs := [s]) (row := strRow1) h rfl (fun _ => rfl) rfl (by simp)
def scV (sl : Sl) (sc : Sc) : Value := .agg #[sl.v, .bool sc.body]
section
variable {V : Mem} {d : Ds} {sc : Sc} {sl : Sl}
def RefE (V : Mem) (d : Ds) (sl : Sl) (sc : Sc) (e : E) : Prop := ∀ V1, V.sub V1 -> PP 64 [d.v, scV sl sc, e.v] V1 (.tuple #[.string (exprT d sc e).1, .int .i64 (exprT d sc e).2])
theorem refParts (e : E) (he : E.Ok V e) (hlen : (e.k.length : Int) <= 6) (hk : ∀ x ∈ e.k, RefE V d sl sc x) :
  Tri Tryz.prog 98 #[d.v, scV sl sc, e.v] V fun r V' => ∃ s' : Sl, r = .returned (.tuple #[.slice s'.p s'.n s'.c, .int .i64 (partsT d sc [] e.k).2]) /\ V.sub V' /\ RowsAt V' s' 1 ((partsT d sc [] e.k).1.map strRow1) := by
 have hr := he.rows
 refine x98 (v0 := d.name) (v1 := d.ts) (v2 := d.gs) (v3 := d.ps) (v4 := d.ms) (v5 := d.is) (v6 := d.qs) (v7 := d.bs) (v8 := sl) (v9 := sc.body) (v10 := e.op) (v11 := e.n) (v12 := e.s) (v13 := e.l) ?_
 unfold w98
 refine loop4s (mk := fun s : Sl => .slice s.p s.n s.c) (mc := .int .i64) (md := fun s : Sl => .slice s.p s.n s.c) ⟨none, 0, 0⟩ 0 ⟨none, 0, 0⟩ inj_sl e.k.length (fun i s V1 => ∃ acc, Own V V1 9 1 s (acc.flatMap strRow1) /\ partsT d sc [] e.k = partsT d sc acc (e.k.drop i) /\ acc.length = i) ⟨[], Own.nil (Mem.sub.refl _) _ _, rfl, rfl⟩ ?_
 rintro i b c s V1 J hi ⟨acc, hown, hp, hlen'⟩ hJ
 have hr1 := hr.sub hown.sub
 refine ⟨fun hlt => ?_, fun hge => ?_⟩
 ·obtain ⟨x, hm, hx, hdr, hl, hpp, hz, hrow⟩ := hr1.get hlt
  rw [hdr, partsT_cons] at hp
  refine ⟨hpp, hz, hlt, _, _, _, _, hrow, (hk x hm V1 hown.sub).call ⟨_, _, rfl, fun h0 => ?_, fun h0 => ?_⟩⟩
  ·intro b1 hb1
   rw [if_neg (fun h => h h0)] at hp
   refine app174 (s := s) (u := ⟨some ⟨b1, 0, none⟩, 1, 1⟩) (xs := acc) (ys := [(exprT d sc x).1]) rfl rfl (hown.new hb1 _) (one_row (Mem.set_same _ _ _)) (by simp; omega) fun s' V' ho => ⟨s', rfl, hr1.succ hlt, hJ hl _ _ _ _ ⟨_, ho, hp, by simp [hlen']⟩⟩
  ·rw [if_pos h0] at hp
   exact ⟨⟨none, 0, 0⟩, by rw [hp], hown.sub, by rw [hp]; exact RowsAt.nil⟩
 ·rw [(hr1.done hge).1, partsT_nil] at hp
  exact ⟨s, by rw [hp], hown.sub, by rw [hp]; exact ownS hown⟩
set_option maxRecDepth 4000 in
theorem refExpr (hd : Ds.Ok V d) (hsl : RowsAt V sl 2 (sc.vars.map Fld.row)) : ∀ (e : E), E.Ok V e -> ∀ dd, okE dd e = true -> RefE V d sl sc e := by
 intro e
 induction e using E.ind with
 | h e ih =>
 intro he dd hok V1 hV
 have har := arity (okE_node hok)
 have hk : ∀ x ∈ e.k, RefE V1 d sl sc x := fun x hx V2 h2 => ih x hx (he.kids x hx) (dd + 1) (okE_kids hok x hx) V2 (hV.trans h2)
 refine Pur.mk (x64 (v0 := d.name) (v1 := d.ts) (v2 := d.gs) (v3 := d.ps) (v4 := d.ms) (v5 := d.is) (v6 := d.qs) (v7 := d.bs) (v8 := sl) (v9 := sc.body) (v10 := e.op) (v11 := e.n) (v12 := e.s) (v13 := e.l) ?_)
 unfold w64
 refine Tri.mono (refParts e (he.sub hV) har.2.2.2 hk) ?_
 rintro _ V2 ⟨s', rfl, h12, hrows⟩
 rw [exprT_eq]
 have hlen := partsT_len d sc e.k []
 generalize hPT : partsT d sc [] e.k = pt at hrows hlen
 obtain ⟨l, f⟩ := pt
 refine ⟨s', f, rfl, fun h0 => ?_, fun h0 => ?_⟩
 ·subst h0
  have hlen : l.length = e.k.length := by simpa using hlen rfl
  simp only [ne_eq, not_true_eq_false, if_false]
  have hd2 := hd.sub (hV.trans h12)
  have hsl2 := hsl.sub (hV.trans h12)
  generalize hX : nodeT d sc e.op e.s l = X
  have key : ∀ a b, X = (a, b) -> (Ending.returned (.tuple #[.string a, .int .i64 b]) = Ending.returned (.tuple #[.string X.1, .int .i64 X.2]) /\ V1.sub V2) := fun a b h => by rw [h]; exact ⟨rfl, h12⟩
  have cAll := fun t => c105 hrows (s := t)
  have cFits := fun a b => c104 hd2 (s := a) (t := b)
  have at0 := fun h : 0 < l.length => str_at hrows h
  have at1 := fun h : 1 < l.length => str_at hrows h
  have at2 := fun h : 2 < l.length => str_at hrows h
  unfold nodeT at hX
  refine ⟨fun o1 => key _ _ ?_, fun o1 => ⟨fun o2 => key _ _ ?_, fun o2 => ⟨fun o3 => key _ _ ?_, fun o3 => ⟨fun o4 => ?_, fun o4 => ⟨fun o5 => ?_, fun o5 => ⟨fun o6 => ?_, fun o6 => ⟨fun o7 => ?_, fun o7 => ⟨fun o14 => ?_, fun o14 => ⟨fun o15 => ?_, fun o15 => ⟨fun o16 => ?_, fun o16 => ⟨fun o17 => ?_, fun o17 => ⟨fun o18 => ?_, fun o18 => ⟨fun o19 => ?_, fun o19 => ⟨fun o20 => ?_, fun o20 => ⟨fun o21 => ?_, fun o21 => ?_⟩⟩⟩⟩⟩⟩⟩⟩⟩⟩⟩⟩⟩⟩⟩
  ·rw [<- hX, if_pos o1]; rfl
  ·rw [<- hX, if_neg o1, if_pos o2]; rfl
  ·rw [<- hX, if_neg o1, if_neg o2, if_pos o3]; rfl
  ·rw [if_neg o1, if_neg o2, if_neg o3, if_pos o4] at hX
   refine (c99 hsl2).call ⟨_, rfl, fun h => key _ _ ?_, fun h => key _ _ ?_⟩
   ·rw [<- hX, if_pos (show lookF sc.vars e.s = sE from h)]; rfl
   ·rw [<- hX, if_neg (show ¬ lookF sc.vars e.s = sE from h)]
  ·rw [if_neg o1, if_neg o2, if_neg o3, if_neg o4, if_pos o5] at hX
   obtain ⟨a1, a2, a3⟩ := at0 (by have := har.1 o5; omega)
   exact ⟨a1, by omega, a2, _, a3, (c100 hd2).call ⟨_, _, rfl, key _ _ (by rw [<- hX])⟩⟩
  ·rw [if_neg o1, if_neg o2, if_neg o3, if_neg o4, if_neg o5, if_pos o6] at hX
   refine ⟨fun hb => (c101 hd2).call ⟨_, rfl, fun hn => key _ _ ?_, fun hn => key _ _ ?_⟩, fun hb => key _ _ ?_⟩
   ·rw [<- hX, if_neg (by rw [hb]; simp), if_neg (by rw [hn]; simp)]
   ·rw [<- hX, if_neg (by rw [hb]; simp), if_pos (eq_false_of_ne_true hn)]; rfl
   ·rw [<- hX, if_pos (eq_false_of_ne_true hb)]; rfl
  ·rw [if_neg o1, if_neg o2, if_neg o3, if_neg o4, if_neg o5, if_neg o6, if_pos o7] at hX
   exact (c102 hd2 (sl := sl) hrows).call ⟨_, _, rfl, key _ _ (by rw [<- hX])⟩
  iterate 2
   ·rw [if_neg o1, if_neg o2, if_neg o3, if_neg o4, if_neg o5, if_neg o6, if_neg o7, if_pos (by omega)] at hX
    obtain ⟨a1, a2, a3⟩ := at0 (by have := har.2.1 (by omega); omega)
    obtain ⟨b1, b2, b3⟩ := at1 (by have := har.2.1 (by omega); omega)
    refine ⟨a1, by omega, a2, _, a3, b1, by omega, b2, _, b3, (cFits _ _).call ⟨_, rfl, fun h => c103.call ⟨_, _, rfl, key _ _ ?_⟩, fun h => ⟨b1, by omega, b2, _, b3, a1, by omega, a2, _, a3, (cFits _ _).call ⟨_, rfl, c103.call ⟨_, _, rfl, key _ _ ?_⟩⟩⟩⟩⟩
    ·rw [<- hX, h]; rfl
    ·rw [<- hX, eq_false_of_ne_true h]; rfl
  iterate 2
   ·rw [if_neg o1, if_neg o2, if_neg o3, if_neg o4, if_neg o5, if_neg o6, if_neg o7, if_neg (by omega), if_pos (by omega)] at hX
    exact (cAll _).call ⟨_, rfl, c103.call ⟨_, _, rfl, key _ _ (by rw [<- hX]; rfl)⟩⟩
  iterate 3
   ·rw [if_neg o1, if_neg o2, if_neg o3, if_neg o4, if_neg o5, if_neg o6, if_neg o7, if_neg (by omega), if_neg (by omega), if_pos (by omega)] at hX
    exact (cAll _).call ⟨_, rfl, c103.call ⟨_, _, rfl, key _ _ (by rw [<- hX]; rfl)⟩⟩
  ·rw [if_neg o1, if_neg o2, if_neg o3, if_neg o4, if_neg o5, if_neg o6, if_neg o7, if_neg (by omega), if_neg (by omega), if_neg (by omega), if_pos o21] at hX
   obtain ⟨a1, a2, a3⟩ := at0 (by have := har.2.2.1 o21; omega)
   obtain ⟨b1, b2, b3⟩ := at1 (by have := har.2.2.1 o21; omega)
   obtain ⟨c1, c2, c3⟩ := at2 (by have := har.2.2.1 o21; omega)
   have fin : ∀ t, (if l.getD 1 sE = sNil then l.getD 2 sE else l.getD 1 sE) = t ->
     (l.getD 0 sE = sBool -> fits d (l.getD 1 sE) (l.getD 2 sE) = true -> X = needT true t) /\ (l.getD 0 sE = sBool -> ¬ fits d (l.getD 1 sE) (l.getD 2 sE) = true -> X = needT (fits d (l.getD 2 sE) (l.getD 1 sE)) t) /\ (¬ l.getD 0 sE = sBool -> X = needT false t) := fun t ht => by
    rw [ht] at hX
    refine ⟨fun x y => ?_, fun x y => ?_, fun x => ?_⟩
    ·rw [<- hX, decide_eq_true x, y]; rfl
    ·rw [<- hX, decide_eq_true x, eq_false_of_ne_true y]; rfl
    ·rw [<- hX, decide_eq_false x]; rfl
   refine ⟨b1, by omega, b2, _, b3, fun hn => ?_, fun hn => ?_⟩
   ·have hf := fin _ (if_pos hn)
    refine ⟨c1, by omega, c2, _, c3, a1, by omega, a2, _, a3, fun h0 => ⟨b1, by omega, b2, _, b3, c1, by omega, c2, _, c3, (cFits _ _).call ⟨_, rfl, fun h => c103.call ⟨_, _, rfl, key _ _ ?_⟩, fun h => ⟨c1, by omega, c2, _, c3, b1, by omega, b2, _, b3, (cFits _ _).call ⟨_, rfl, c103.call ⟨_, _, rfl, key _ _ ?_⟩⟩⟩⟩⟩, fun h0 => c103.call ⟨_, _, rfl, key _ _ ?_⟩⟩
    ·exact hf.1 h0 h
    ·exact hf.2.1 h0 h
    ·exact hf.2.2 h0
   ·have hf := fin _ (if_neg hn)
    refine ⟨a1, by omega, a2, _, a3, fun h0 => ⟨b1, by omega, b2, _, b3, c1, by omega, c2, _, c3, (cFits _ _).call ⟨_, rfl, fun h => c103.call ⟨_, _, rfl, key _ _ ?_⟩, fun h => ⟨c1, by omega, c2, _, c3, b1, by omega, b2, _, b3, (cFits _ _).call ⟨_, rfl, c103.call ⟨_, _, rfl, key _ _ ?_⟩⟩⟩⟩⟩, fun h0 => c103.call ⟨_, _, rfl, key _ _ ?_⟩⟩
    ·exact hf.1 h0 h
    ·exact hf.2.1 h0 h
    ·exact hf.2.2 h0
  ·rw [if_neg o1, if_neg o2, if_neg o3, if_neg o4, if_neg o5, if_neg o6, if_neg o7, if_neg (by omega), if_neg (by omega), if_neg (by omega), if_neg o21] at hX
   exact (cAll _).call ⟨_, rfl, c103.call ⟨_, _, rfl, key _ _ (by rw [<- hX]; rfl)⟩⟩
 ·simp only [ne_eq, h0, not_false_eq_true, if_true]
  exact ⟨rfl, h12⟩
end
theorem ownF {V0 V : Mem} {s : Sl} {l : List Fld} (h : Own V0 V 110 2 s (l.flatMap Fld.row)) : RowsAt V s 2 (l.map Fld.row) := h.rows (fun _ => rfl) (by decide)
theorem one_fld {V : Mem} {b : Nat} {f : Fld} {t : Nat} (h : V b = some (.cells #[.string f.name, .string f.ty] t (0, 0))) : RowsAt V ⟨some ⟨b, 0, none⟩, 1, 1⟩ 2 ([f].map Fld.row) :=
 RowsAt.cells (xs := [f]) (row := Fld.row) h rfl (fun _ => rfl) rfl (by simp)
section
variable {V : Mem} {d : Ds}
def Small (d : Ds) : Prop := d.globals.length <= 1000 /\ ∀ p ∈ d.procs, p.params.length <= 1000 /\ p.locals.length <= 1000
theorem refInProc (hd : Ds.Ok V d) {p : Pr} (hp : Pr.Ok V p) (h1 : d.globals.length <= 1000) (h2 : p.params.length <= 1000 /\ p.locals.length <= 1000) :
  Tri Tryz.prog 237 #[d.v, p.v] V fun r V' => ∃ s' : Sl, r = .returned (scV s' (inProcS d p)) /\ V.sub V' /\ RowsAt V' s' 2 ((inProcS d p).vars.map Fld.row) := by
 refine x237 (v0 := d.name) (v1 := d.ts) (v2 := d.gs) (v3 := d.ps) (v4 := d.ms) (v5 := d.is) (v6 := d.qs) (v7 := d.bs) (v8 := p.name) (v9 := p.ps) (v10 := p.result) (v11 := p.ls) (v12 := p.bs) ?_
 unfold w237
 intro b hb
 have hs := Mem.sub_new hb (.cells #[] 110 (0, 0))
 refine app23 (s := ⟨some ⟨b, 0, none⟩, 0, 0⟩) (u := p.ps) (xs := []) (ys := p.params) rfl rfl (Own.empty hs _ _ _) (hp.params.sub hs) (by first | omega | (simp; omega)) fun s1 V1 o1 => ⟨s1, rfl, ?_⟩
 refine app23 (s := s1) (u := p.ls) (xs := p.params) (ys := p.locals) rfl rfl o1 (hp.locals.sub o1.sub) (by first | omega | (simp; omega)) fun s2 V2 o2 => ⟨s2, rfl, ?_⟩
 refine app23 (s := s2) (u := d.gs) (xs := p.params ++ p.locals) (ys := d.globals) rfl rfl o2 (hd.globals.sub o2.sub) (by first | omega | (simp; omega)) fun s3 V3 o3 => ⟨s3, rfl, ?_⟩
 exact ⟨s3, rfl, o3.sub, ownF o3⟩
theorem refInBound (hd : Ds.Ok V d) {p : Pr} (hp : Pr.Ok V p) (h1 : d.globals.length <= 1000) (h2 : p.params.length <= 1000 /\ p.locals.length <= 1000) :
  Tri Tryz.prog 190 #[d.v, p.v] V fun r V' => ∃ s' : Sl, r = .returned (scV s' (inBoundS d p)) /\ V.sub V' /\ RowsAt V' s' 2 ((inBoundS d p).vars.map Fld.row) := by
 refine x190 (v0 := d.name) (v1 := d.ts) (v2 := d.gs) (v3 := d.ps) (v4 := d.ms) (v5 := d.is) (v6 := d.qs) (v7 := d.bs) (v8 := p.name) (v9 := p.ps) (v10 := p.result) (v11 := p.ls) (v12 := p.bs) ?_
 unfold w190
 intro b hb
 have hs := Mem.sub_new hb (.cells #[] 110 (0, 0))
 refine app23 (s := ⟨some ⟨b, 0, none⟩, 0, 0⟩) (u := p.ps) (xs := []) (ys := p.params) rfl rfl (Own.empty hs _ _ _) (hp.params.sub hs) (by first | omega | (simp; omega)) fun s1 V1 o1 => ⟨s1, rfl, ?_⟩
 refine app23 (s := s1) (u := d.gs) (xs := p.params) (ys := d.globals) rfl rfl o1 (hd.globals.sub o1.sub) (by first | omega | (simp; omega)) fun s3 V3 o3 => ⟨s3, rfl, ?_⟩
 exact ⟨s3, rfl, o3.sub, ownF o3⟩
theorem refInFormula (hd : Ds.Ok V d) {t : ByteArray} (h1 : d.globals.length <= 1000) :
  Tri Tryz.prog 65 #[d.v, .string t] V fun r V' => ∃ s' : Sl, r = .returned (scV s' (inFormS d t)) /\ V.sub V' /\ RowsAt V' s' 2 ((inFormS d t).vars.map Fld.row) := by
 refine x65 (v0 := d.name) (v1 := d.ts) (v2 := d.gs) (v3 := d.ps) (v4 := d.ms) (v5 := d.is) (v6 := d.qs) (v7 := d.bs) ?_
 unfold w65
 refine ⟨fun he => ?_, fun he => ?_⟩
 ·refine app23 (s := ⟨none, 0, 0⟩) (u := d.gs) (xs := []) (ys := d.globals) rfl rfl (Own.nil (Mem.sub.refl V) _ _) hd.globals (by first | omega | (simp; omega)) fun s1 V1 o1 => ⟨s1, rfl, ?_⟩
  refine ⟨s1, rfl, o1.sub, ?_⟩
  unfold inFormS sE
  rw [if_pos he]
  exact ownF o1
 ·intro b hb
  have hs := Mem.sub_new hb (.cells #[.string (strB [116, 104, 105, 115]), .string t] 110 (0, 0))
  refine app23 (s := ⟨none, 0, 0⟩) (u := ⟨some ⟨b, 0, none⟩, 1, 1⟩) (xs := []) (ys := [⟨sThisF, t⟩]) rfl rfl (Own.nil hs _ _) (one_fld (Mem.set_same _ _ _)) (by simp) fun s1 V1 o1 => ⟨s1, rfl, ?_⟩
  refine app23 (s := s1) (u := d.gs) (xs := [⟨sThisF, t⟩]) (ys := d.globals) rfl rfl o1 (hd.globals.sub o1.sub) (by first | omega | (simp; omega)) fun s2 V2 o2 => ⟨s2, rfl, ?_⟩
  refine ⟨s2, rfl, o2.sub, ?_⟩
  unfold inFormS sE
  rw [if_neg he]
  exact ownF o2
theorem shape_arity {op : Int} {s : ByteArray} {es : List E} {nl nx : Int} (h : shapeR op s es nl nx = true) : (op = 6 -> ∃ e0, es = [e0] /\ e0.op = 7) /\ (op = 1 ∨ op = 3 ∨ op = 4 -> es.length = 1) /\ (op = 2 -> es.length = 2) /\ (op = 5 -> es.length <= 1) /\ es.length <= 2 /\ (∀ x ∈ es, okE 1 x = true) := by
 unfold shapeR at h
 rw [Bool.and_eq_true] at h
 obtain ⟨h, hv⟩ := h
 have hall : ∀ x ∈ es, okE 1 x = true := fun x hx => by
  have := List.all_eq_true.1 hv x hx
  unfold validE at this
  exact (of_decide_eq_true this).1
 unfold shapeB at h
 have h6 : op = 6 -> ∃ e0, es = [e0] /\ e0.op = 7 := fun h6 => by
  subst h6
  simp only [show ¬ ((6 : Int) = 1) by decide, show ¬ ((6 : Int) = 2) by decide, show ¬ ((6 : Int) = 3) by decide, show ¬ ((6 : Int) = 4) by decide, show ¬ ((6 : Int) = 5) by decide, if_false, if_true, decide_eq_true_eq] at h
  match es, h with
  | [e0], h => exact ⟨e0, rfl, h.2.2.1⟩
  | [], h => simp at h
  | _ :: _ :: _, h => simp at h; omega
 refine ⟨h6, ?_, ?_, ?_, ?_, hall⟩ <;> grind
theorem c188 (hd : Ds.Ok V d) {p : Pr} (hp : Pr.Ok V p) (h1 : d.globals.length <= 1000) (h2 : p.params.length <= 1000 /\ p.locals.length <= 1000) {x : S} (hx : S.Ok V x) (hs : shapeR x.op x.s x.es x.ls.length x.xs.length = true) :
  PP 188 [d.v, p.v, x.v] V (.int .i64 (stmtT d (inProcS d p) p.result x.op x.s x.es)) := by
 obtain ⟨a6, a134, a2, a5, alen, aok⟩ := shape_arity hs
 rw [S.v_eq]
 refine Pur.mk (x188 (v0 := d.name) (v1 := d.ts) (v2 := d.gs) (v3 := d.ps) (v4 := d.ms) (v5 := d.is) (v6 := d.qs) (v7 := d.bs) (v8 := p.name) (v9 := p.ps) (v10 := p.result) (v11 := p.ls) (v12 := p.bs) (v13 := x.op) (v14 := x.s) (v15 := x.el) (v16 := x.ll) (v17 := x.xl) ?_)
 unfold w188
 refine Tri.mono (refInProc hd hp h1 h2) ?_
 rintro _ V1 ⟨sv, rfl, hV1, hsc⟩
 generalize hscE : inProcS d p = sc at hsc
 have hbody : sc.body = true := by rw [<- hscE]; rfl
 have hd1 := hd.sub hV1
 have hf := first_row (hx.sub hV1)
 refine ⟨sv, sc.body, rfl, fun o6 => ?_, fun o6 => ?_⟩
 ·obtain ⟨e0, he0, -⟩ := a6 o6
  rcases hf with ⟨h, -⟩ | ⟨e0', r, he, hn, hp0, hp2, hrow⟩
  ·rw [he0] at h; cases h
  ·rw [he0] at he
   cases he
   have hok := aok e0 (by rw [he0]; simp)
   have hoe := (hx.sub hV1).eOk e0 (by rw [he0]; simp)
   have hk : ∀ y ∈ e0.k, RefE V1 d sv sc y := fun y hy => refExpr hd1 hsc y (hoe.kids y hy) 2 (okE_kids hok y hy)
   refine ⟨hp0, by omega, by omega, _, _, _, _, hrow, Tri.mono (refParts e0 hoe (arity (okE_node hok)).2.2.2 hk) ?_⟩
   rintro _ V2 ⟨s', rfl, h12, hrows⟩
   unfold stmtT
   rw [if_pos o6, he0]
   simp only
   generalize hPT : partsT d sc [] e0.k = pt at hrows
   obtain ⟨l, f⟩ := pt
   have hrow2 := h12.rowp hrow
   refine ⟨s', f, rfl, fun h0 => ⟨hp0, by omega, by omega, hp2, _, _, _, _, hrow2, (c150 (hd1.sub h12) hrows).call ⟨_, _, rfl, ?_, hV1.trans h12⟩⟩, fun h0 => ?_⟩
   ·simp only [h0, ne_eq, not_true_eq_false, if_false]
   ·simp only [h0, ne_eq, not_false_eq_true, if_true]; exact ⟨by trivial, hV1.trans h12⟩
 ·unfold stmtT
  rw [if_neg o6]
  have hr := (hx.sub hV1).eRows
  refine loop3t (mk := .int .i64) (mc := fun s : Sl => .slice s.p s.n s.c) 0 ⟨none, 0, 0⟩ inj_sl x.es.length (fun i s V2 => ∃ acc, Own V1 V2 9 1 s (acc.flatMap strRow1) /\ partsT d sc [] x.es = partsT d sc acc (x.es.drop i) /\ acc.length = i) ⟨[], Own.nil (Mem.sub.refl _) _ _, rfl, rfl⟩ ?_
  rintro i b s V2 J hi ⟨acc, hown, hpt, hlen'⟩ hJ
  have hr1 := hr.sub hown.sub
  refine ⟨fun hlt => ?_, fun hge => ?_⟩
  ·obtain ⟨y, hm, hxy, hdr, hl, hpp, hz, hrow⟩ := hr1.get hlt
   rw [hdr, partsT_cons] at hpt
   refine ⟨hpp, hz, hlt, _, _, _, _, hrow, (refExpr hd1 hsc y ((hx.sub hV1).eOk y hm) 1 (aok y hm) V2 hown.sub).call ⟨_, _, rfl, fun h0 => ?_, fun h0 => ?_⟩⟩
   ·intro b1 hb1
    rw [if_neg (fun h => h h0)] at hpt
    refine app174 (s := s) (u := ⟨some ⟨b1, 0, none⟩, 1, 1⟩) (xs := acc) (ys := [(exprT d sc y).1]) rfl rfl (hown.new hb1 _) (one_row (Mem.set_same _ _ _)) (by first | omega | (simp; omega)) fun s' V' ho => ⟨s', rfl, hr1.succ hlt, hJ hl _ _ _ ⟨_, ho, hpt, by simp [hlen']⟩⟩
   ·rw [if_pos h0] at hpt
    rw [hpt]
    simp only [h0, ne_eq, not_false_eq_true, if_true]
    exact ⟨by trivial, hV1.trans hown.sub⟩
  ·have hge' := (hr1.done hge).2
   rw [(hr1.done hge).1, partsT_nil] at hpt
   rw [hpt]
   simp only [ne_eq, not_true_eq_false, if_false]
   have hrows := ownS hown
   have hal : acc.length = x.es.length := by omega
   have hsub := hV1.trans hown.sub
   have hd2 := hd1.sub hown.sub
   have hsc2 := hsc.sub hown.sub
   have sln := hrows.n_eq
   have at0 := fun h : 0 < acc.length => str_at hrows h
   have at1 := fun h : 1 < acc.length => str_at hrows h
   have key : ∀ X n : Int, X = n -> (Ending.returned (.int .i64 n) = Ending.returned (.int .i64 X) /\ V.sub V2) := fun X n h => by rw [h]; exact ⟨rfl, hsub⟩
   refine ⟨fun o1 => (c99 hsc2).call ⟨_, rfl, fun hl => key _ _ ?_, fun hl => ?_⟩, fun o1 => ⟨fun o2 => ?_, fun o2 => ⟨fun o3 => ?_, fun o3 => ⟨fun o4 => ?_, fun o4 => ⟨fun o5 => ?_, fun o5 => key _ _ ?_⟩⟩⟩⟩⟩
   ·rw [if_pos o1, if_pos (show lookF sc.vars x.s = sE from hl)]
   ·obtain ⟨b1, b2, b3⟩ := at0 (by have := a134 (by omega); omega)
    refine ⟨b1, by omega, b2, _, b3, (c104 hd2).call ⟨_, rfl, fun hb => key _ _ ?_, fun hb => key _ _ ?_⟩⟩
    ·rw [if_pos o1, if_neg (show ¬ lookF sc.vars x.s = sE from hl), if_pos hb]
    ·rw [if_pos o1, if_neg (show ¬ lookF sc.vars x.s = sE from hl), if_neg hb]
   ·obtain ⟨b1, b2, b3⟩ := at0 (by have := a2 o2; omega)
    obtain ⟨c1, c2, c3⟩ := at1 (by have := a2 o2; omega)
    rw [if_neg o1, if_pos o2]
    refine ⟨b1, by omega, b2, _, b3, (c100 hd2).call ⟨_, _, rfl, fun hb => ⟨c1, by omega, c2, _, c3, (c104 hd2).call ⟨_, rfl, fun hc => key _ _ ?_, fun hc => key _ _ ?_⟩⟩, fun hb => key _ _ ?_⟩⟩
    ·rw [if_neg (fun h => h hb), if_pos hc]
    ·rw [if_neg (fun h => h hb), if_neg hc]
    ·rw [if_pos hb]
   ·obtain ⟨b1, b2, b3⟩ := at0 (by have := a134 (by omega); omega)
    rw [if_neg o1, if_neg o2, if_pos (Or.inl o3)]
    exact ⟨b1, by omega, b2, _, b3, fun h => key _ _ (by rw [if_pos (show _ = sBool from h)]), fun h => key _ _ (by rw [if_neg (show ¬ _ = sBool from h)])⟩
   ·obtain ⟨b1, b2, b3⟩ := at0 (by have := a134 (by omega); omega)
    rw [if_neg o1, if_neg o2, if_pos (Or.inr o4)]
    exact ⟨b1, by omega, b2, _, b3, fun h => key _ _ (by rw [if_pos (show _ = sBool from h)]), fun h => key _ _ (by rw [if_neg (show ¬ _ = sBool from h)])⟩
   ·have h5 := a5 o5
    rw [if_neg o1, if_neg o2, if_neg (by omega), if_pos o5]
    have rest : ¬ (acc.length = 0) -> ((s.n : Int) = 1) /\ ¬ (s.p = none) /\ (0 : Int) < (s.n : Int) /\ V2.rowp s.p 0 1 = some [.string (acc.getD 0 sE)] := fun h => by
     obtain ⟨b1, b2, b3⟩ := at0 (by omega)
     exact ⟨by omega, b1, b2, b3⟩
    refine ⟨fun hn => ?_, fun hn => ?_⟩
    ·have h0 : acc.length = 0 := by omega
     rw [if_pos h0]
     refine ⟨fun he => key _ _ (by rw [if_pos (show p.result = sE from he)]), fun he => ⟨fun h => absurd h (by omega), fun h => key _ _ (by rw [if_neg (show ¬ p.result = sE from he)])⟩⟩
    ·have h0 : ¬ acc.length = 0 := by omega
     obtain ⟨r1, r2, r3, r4⟩ := rest h0
     rw [if_neg h0]
     refine ⟨fun _ => ⟨fun he => key _ _ (by rw [if_neg (fun h => h.1 (show p.result = sE from he))]), fun he => ⟨r2, by omega, r3, _, r4, (c104 hd2).call ⟨_, rfl, fun hb => key _ _ ?_, fun hb => key _ _ ?_⟩⟩⟩, fun h => absurd r1 h⟩
     ·rw [if_pos ⟨show ¬ p.result = sE from he, hb⟩]
     ·rw [if_neg (fun h => hb h.2)]
   ·rw [if_neg o1, if_neg o2, if_neg (by omega), if_neg o5]
end
end Go.Proofs
