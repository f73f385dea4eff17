/- Part 10 of a proof of a law of this seat: no statement of the seat is proved here. -/
import Derived.Test.YtnoompnjibfbfaaGreatDoorPart09
set_option linter.unusedVariables false
set_option linter.unusedSimpArgs false
namespace Go.Proofs
open Go Go.Sx
attribute [local irreducible] Go.Sx.Tri
theorem c245 {V : Mem} [Tab V] {e : E} (h : E.Ok V e) : PP 245 [e.v] V (.bool (!qBy e)) := by
 refine x245 ?_
 unfold w245
 exact (c59 h).call ⟨_, rfl, rfl, rfl⟩
theorem vSl_bound {left d : Int} {l : List S} (h0 : 0 <= left) (h : (vSl left d l).1 = true) : 0 <= (vSl left d l).2 /\ (vSl left d l).2 <= left := by
 unfold vSl gd at h ⊢
 split at h
 ·cases h
 ·rename_i hn
  rw [if_neg hn]
  have := vSs_ok left d l h0 hn
  grind
theorem vSl_eq {left d : Int} {l : List S} (h : ¬ (60 < d /\ l ≠ [])) : vSl left d l = vSs left d l := by unfold vSl gd; rw [if_neg h]
section
variable {V0 : Mem} {b t : Nat}
def StP (V0 : Mem) (b t : Nat) (l : List S) : Prop := ∀ (sl : Sl) (d left : Int) (V : Mem), qAc V0 sl 5 (l.map S.row) -> (∀ x ∈ l, S.Ok V0 x) -> V0.sub V -> V b = some (cell (.int .i64 left) t) -> 0 <= left -> left <= 200 -> 0 <= d -> d <= 61 ->
 Tri Tryz.prog 212 #[sl.v, .int .i64 d, pv b] V fun r V' => r = .returned (.bool (vSl left d l).1) /\ V' = V.set b (cell (.int .i64 (vSl left d l).2) t)
theorem qJf [hT : Tab V0] (hb : V0 b = none) {l : List S} (hk : ∀ x ∈ l, StP V0 b t x.ls /\ StP V0 b t x.xs) : StP V0 b t l := by
 intro sl d left V hr hok hV hcell hl0 hl1 hd0 hd
 have hn := hr.n_eq
 refine x212 ?_
 unfold w212
 have hM : ∀ lf, V0.sub (V.set b (cell (.int .i64 lf) t)) := fun lf => hV.set hb _
 refine ⟨fun h0 => ⟨fun h60 => ?_, fun h60 => ?_⟩, fun h0 => ?_⟩
 ·have : vSl left d l = (false, left) := by
   unfold vSl gd
   rw [if_pos ⟨h60, fun e => by rw [e] at hn; simp at hn; omega⟩]
  rw [this]
  exact ⟨rfl, (Mem.set_eq hcell).symm⟩
 all_goals
  have hnd : ¬ (60 < d /\ l ≠ []) := by
   first
   | exact fun h => h60 h.1
   | exact fun h => h.2 (List.eq_nil_of_length_eq_zero (by omega))
  rw [vSl_eq hnd]
  refine qAA l.length (fun i V1 => ∃ lf, V1 = V.set b (cell (.int .i64 lf) t) /\ 0 <= lf /\ lf <= 200 /\ vSs left d l = vSs lf d (l.drop i)) ⟨left, (Mem.set_eq hcell).symm, hl0, hl1, rfl⟩ ?_
  rintro i c _ J hi ⟨lf, rfl, hf0, hf1, he⟩ hJ
  refine ⟨fun hlt => ?_, fun hge => ?_⟩
  ·obtain ⟨x, hm, hx, hdr, hl, hp, hz, hrow⟩ := (hr.sub (hM lf)).get hlt
   have hrow := S.row_get hrow
   have hox := hok x hm
   rw [hdr, vSs_cons] at he
   have hv := vS_eq lf d x
   have cs := fun V (h0 : V0.sub V) (h : S.Ok V x) => (haveI : Tab V := Tab.sub hT h0; c244 h)
   rw [S.v_eq] at cs
   have no : ∀ n, vS lf d x = (false, n) -> (Ending.returned (.bool false) = Ending.returned (.bool (vSs left d l).1) /\ V.set b (cell (.int .i64 n) t) = V.set b (cell (.int .i64 (vSs left d l).2) t)) := fun n h => by
    rw [h] at he
    rw [he]; exact ⟨rfl, rfl⟩
   refine ⟨hp, hz, hlt, _, _, _, _, _, hrow, Tri.mono (c135 mss (by omega) (by omega)) ?_⟩
   rintro _ _ ⟨rfl, rfl⟩
   rw [Mem.set_set]
   refine ⟨_, rfl, fun h8 => (cs _ (hM _) (hox.sub (hM _))).call ⟨_, rfl, fun hs => ?_, fun hs => ?_⟩, fun h8 => ?_⟩
   ·have h8 : 0 <= lf - 1 := of_decide_eq_true h8
    refine (c57 (first := []) (caps := []) (l := x.el) (hox.eRows.sub (hM _)) Tryz.call245 (fun e => !qBy e) (fun e hm => haveI : Tab (V.set b (cell (.int .i64 (lf - 1)) t)) := Tab.sub hT (hM (lf - 1)); c245 ((hox.eOk e hm).sub (hM _)))).call ⟨_, rfl, fun ha => ?_, fun ha => ?_⟩
    ·have hal : x.es.all qBy = false := by
      rw [List.any_eq_not_all_not] at ha
      simpa using ha
     rw [if_neg (fun h => by have := h.2; unfold qCg at this; rw [hal, Bool.and_false] at this; cases this)] at hv
     exact no _ hv
    ·have hal : x.es.all qBy = true := by
      rw [List.any_eq_not_all_not] at ha
      simpa using ha
     have hsr : qCg x.op x.s x.es x.ls.length x.xs.length = true := by unfold qCg; rw [hs, hal]; rfl
     rw [if_pos ⟨h8, hsr⟩] at hv
     refine ⟨⟨by omega, by omega⟩, Tri.mono ((hk x hm).1 x.ll (d + 1) (lf - 1) _ hox.lRows hox.lOk (hM _) mss h8 (by omega) (by omega) (by omega)) ?_⟩
     rintro _ _ ⟨rfl, rfl⟩
     rw [Mem.set_set]
     refine ⟨_, rfl, fun h1 => ⟨⟨by omega, by omega⟩, ?_⟩, fun h1 => ?_⟩
     ·rw [if_pos h1] at hv
      have b1 := vSl_bound h8 h1
      refine Tri.mono ((hk x hm).2 x.xl (d + 1) _ _ hox.xRows hox.xOk (hM _) mss b1.1 (by omega) (by omega) (by omega)) ?_
      rintro _ _ ⟨rfl, rfl⟩
      rw [Mem.set_set]
      refine ⟨_, rfl, fun h2 => ?_, fun h2 => ?_⟩
      ·have b2 := vSl_bound b1.1 h2
       rw [hv, if_pos h2] at he
       exact ⟨(hr.sub (hM lf)).succ hlt, hJ hl _ _ ⟨_, rfl, b2.1, by omega, he⟩⟩
      ·rw [<- hv] at h2 ⊢
       exact no _ (Prod.ext (eq_false_of_ne_true h2) rfl)
     ·rw [if_neg h1] at hv
      exact no _ hv
   ·rw [if_neg (fun h => by have := h.2; unfold qCg at this; rw [eq_false_of_ne_true hs, Bool.false_and] at this; cases this)] at hv
    exact no _ hv
   ·rw [if_neg (fun h => h8 (decide_eq_true h.1))] at hv
    exact no _ hv
  ·rw [((hr.sub (hM lf)).done hge).1, vSs_nil] at he
   rw [he]; exact ⟨rfl, rfl⟩
theorem stP_S [hT : Tab V0] (hb : V0 b = none) : ∀ s : S, StP V0 b t s.ls /\ StP V0 b t s.xs := by
 intro s
 induction s using S.ind with
 | h s i1 i2 => exact ⟨qJf hb i1, qJf hb i2⟩
theorem c212 [hT : Tab V0] (hb : V0 b = none) (l : List S) : StP V0 b t l := qJf hb fun x _ => stP_S hb x
end
def qAD {α : Type} (p : α -> Bool) (xs : List α) (i : Nat) : Prop := ∀ j x, j < i -> xs[j]? = some x -> p x = true
theorem qAD.zero {α : Type} (p : α -> Bool) (xs : List α) : qAD p xs 0 := fun _ _ h => absurd h (Nat.not_lt_zero _)
theorem qAD.succ {α : Type} {p : α -> Bool} {xs : List α} {i : Nat} {x : α} (h : qAD p xs i) (hx : xs[i]? = some x) (hp : p x = true) : qAD p xs (i + 1) := fun j y hj hy => by
 rcases Nat.lt_succ_iff_lt_or_eq.1 hj with h' | rfl
 ·exact h j y h' hy
 ·rw [hx] at hy; cases hy; exact hp
theorem qAD.all {α : Type} {p : α -> Bool} {xs : List α} {i : Nat} (h : qAD p xs i) (hi : xs.length <= i) : xs.all p = true :=
 List.all_eq_true.2 fun x hx => by
  obtain ⟨j, hj, rfl⟩ := List.mem_iff_getElem.1 hx
  exact h j _ (by omega) (List.getElem?_eq_getElem hj)
theorem qBp {α : Type} {p : α -> Bool} {xs : List α} {x : α} (h : x ∈ xs) (hp : ¬ p x = true) : xs.all p = false := by
 cases h' : xs.all p with
 | false => rfl
 | true => exact absurd (List.all_eq_true.1 h' x h) hp
def qAQ : ByteArray := qAj [105, 110, 116]
def qAs : ByteArray := qAj [98, 111, 111, 108]
def typB (s : ByteArray) : Bool := decide (s = qAQ) || decide (s = qAs) || qAx s
def openB (s : ByteArray) : Bool := decide (s = qAj []) || qAx s
def fldB (f : Fld) : Bool := qAx f.name && typB f.ty
def qEa (l : List Fld) (most : Int) : Bool := decide ((l.length : Int) <= most) && l.all fldB
def tyB (t : Ty) : Bool := qAx t.name && qEa t.fields 12
def prB (p : Pr) : Bool := qAx p.name && qEa p.params 6 && qEa p.locals 12 && (decide (p.result = qAj []) || typB p.result) && qEz p.body
def msB (m : Ms) : Bool := qAx m.name && qAx m.ty && decide (-1099511627776 <= m.nil /\ m.nil <= 1099511627776) && qBy m.x
def ivB (m : Iv) : Bool := qAx m.name && openB m.ty && qBy m.x
def poB (m : Po) : Bool := openB m.ty && qBy m.x
def bdB (m : Bd) : Bool := qAx m.proc && qBy m.x
def qIb (d : Ds) : Bool := d.measures.all msB && d.invs.all ivB && d.pots.all poB && d.bounds.all bdB
def qHZ (d : Ds) : Bool := decide ((d.measures.length : Int) <= 12 /\ (d.invs.length : Int) <= 12 /\ (d.pots.length : Int) <= 12 /\ (d.bounds.length : Int) <= 12)
def qAP (d : Ds) : Bool := qAx d.name && decide ((d.types.length : Int) <= 12) && qEa d.globals 8 && decide ((d.procs.length : Int) <= 40) && qHZ d && d.types.all tyB && d.procs.all prB && qIb d
theorem c123 {V : Mem} {s : ByteArray} : PP 123 [.string s] V (.bool (typB s)) := by
 refine x123 ?_
 unfold w123
 refine ⟨fun h => ?_, fun h => ⟨fun h1 => ?_, fun h1 => c75.call ⟨_, rfl, ?_⟩⟩⟩ <;> simp [typB, qAQ, qAs, *]
theorem c206 {V : Mem} [Tab V] {s : ByteArray} : PP 206 [.string s] V (.bool (typB s)) := by
 refine x206 ?_
 unfold w206
 refine ⟨fun h => ?_, fun h => ⟨fun h1 => ?_, fun h1 => c152.call ⟨_, rfl, ?_⟩⟩⟩ <;> simp [typB, qAQ, qAs, *]
theorem c125 {V : Mem} {s : ByteArray} : PP 125 [.string s] V (.bool (openB s)) := by
 refine x125 ?_
 unfold w125
 refine ⟨fun h => ?_, fun h => c75.call ⟨_, rfl, ?_⟩⟩ <;> simp [openB, *]
theorem c207 {V : Mem} [Tab V] {s : ByteArray} : PP 207 [.string s] V (.bool (openB s)) := by
 refine x207 ?_
 unfold w207
 refine ⟨fun h => ?_, fun h => c152.call ⟨_, rfl, ?_⟩⟩ <;> simp [openB, *]
theorem c76 {V : Mem} {l : Sl} {xs : List Fld} {n : Int} (hr : qAc V l 2 (xs.map Fld.row)) : PP 76 [l.v, .int .i64 n] V (.bool (qEa xs n)) := by
 refine x76 ?_
 unfold w76
 have hn := hr.n_eq
 refine ⟨fun h => ?_, fun h => ?_⟩
 ·have : ¬ ((xs.length : Int) <= n) := by omega
  simp [qEa, this]
 ·have hle : (xs.length : Int) <= n := by omega
  refine qAA xs.length (fun i V1 => V1 = V /\ qAD fldB xs i) ⟨rfl, qAD.zero _ _⟩ ?_
  rintro i b V1 J hi ⟨rfl, ha⟩ hJ
  refine ⟨fun hlt => ?_, fun hge => ?_⟩
  ·obtain ⟨x, hm, hx, hdr, hl, hp, hz, hrow⟩ := hr.get hlt
   have no : fldB x = false -> (Ending.returned (.bool false) = Ending.returned (.bool (qEa xs n)) /\ V1 = V1) := fun h => by
    unfold qEa; rw [qBp hm (by rw [h]; simp), Bool.and_false]; exact ⟨rfl, rfl⟩
   refine ⟨hp, hz, hlt, qAd hp, _, _, hrow, c75.call ⟨_, rfl, fun h1 => ⟨hp, hz, hlt, qAd hp, _, _, hrow, c123.call ⟨_, rfl, fun h2 => ⟨hr.succ hlt, hJ hl _ _ ⟨rfl, ha.succ hx (by simp [fldB, *])⟩⟩, fun h2 => no (by simp [fldB, *])⟩⟩, fun h1 => no (by simp [fldB, *])⟩⟩
  ·have := ha.all (hr.done hge).2
   simp [qEa, this, hle]
theorem c205 {V : Mem} [Tab V] {f : Fld} : PP 205 [f.v] V (.bool (!fldB f)) := by
 refine x205 ?_
 unfold w205
 refine c152.call ⟨_, rfl, fun h => c206.call ⟨_, rfl, ?_⟩, fun h => ?_⟩ <;> simp [fldB, *]
theorem c153 {V : Mem} [Tab V] {l : Sl} {xs : List Fld} {n : Int} (hr : qAc V l 2 (xs.map Fld.row)) : PP 153 [l.v, .int .i64 n] V (.bool (qEa xs n)) := by
 refine x153 ?_
 unfold w153
 have hn := hr.n_eq
 refine ⟨fun h => (c168 (first := []) (caps := []) hr Tryz.call205 (fun f => !fldB f) fun f _ => c205).call ⟨_, rfl, ?_⟩, fun h => ?_⟩
 ·have hle : (xs.length : Int) <= n := by omega
  rw [List.any_eq_not_all_not]
  simp [qEa, hle]
 ·have : ¬ ((xs.length : Int) <= n) := by omega
  simp [qEa, this]
theorem c77 {V : Mem} {p : Pr} (h : Pr.Ok V p) : PP 77 [p.v] V (.bool (prB p)) := by
 refine x77 ?_
 unfold w77
 have cs := c124 (d := 1) h.body h.stmts (by omega) (by omega)
 refine c75.call ⟨_, rfl, fun h1 => (c76 h.params).call ⟨_, rfl, fun h2 => (c76 h.locals).call ⟨_, rfl, fun h3 => ⟨fun h4 => cs.call ⟨_, rfl, ?_⟩, fun h4 => c123.call ⟨_, rfl, fun h5 => cs.call ⟨_, rfl, ?_⟩, fun h5 => ?_⟩⟩, fun h3 => ?_⟩, fun h2 => ?_⟩, fun h1 => ?_⟩
 all_goals simp [prB, <- validSs_cnt, *]
theorem c159 {V : Mem} [Tab V] {p : Pr} (h : Pr.Ok V p) : PP 159 [p.v] V (.bool (prB p)) := by
  refine Pur.mk (x159 ?_)
  unfold w159
  have cs : (qEz p.body = prB p) -> qAo [(.int .i64 200)] 159 V fun v9 V5 =>
       Tri Tryz.prog 212 #[(.slice p.bs.p p.bs.n p.bs.c), (.int .i64 1), (.pointer (qAa v9 0))] V5 fun e V6 => ∃ v10 : Bool, e = .returned (.bool v10) /\ (Ending.returned (.bool v10) = Ending.returned (.bool (prB p)) /\ V.sub V6) := fun e b hb => by
    refine Tri.mono (c212 hb p.body p.bs 1 200 _ h.body h.stmts (Mem.sub_new hb _) mss (by omega) (by omega) (by omega) (by omega)) ?_
    rintro _ _ ⟨rfl, rfl⟩
    rw [validSs_v, Mem.set_set, e]
    exact ⟨_, rfl, rfl, Mem.sub_new hb _⟩
  refine c152.call ⟨_, rfl, fun h1 => (c153 h.params).call ⟨_, rfl, fun h2 => (c153 h.locals).call ⟨_, rfl, fun h3 => ⟨fun h4 => cs ?_, fun h4 => c206.call ⟨_, rfl, fun h5 => cs ?_, fun h5 => ⟨?_, Mem.sub.refl _⟩⟩⟩, fun h3 => ⟨?_, Mem.sub.refl _⟩⟩, fun h2 => ⟨?_, Mem.sub.refl _⟩⟩, fun h1 => ⟨?_, Mem.sub.refl _⟩⟩
  all_goals simp [prB, *]
theorem c209 {V : Mem} [Tab V] {b : Bd} (h : E.Ok V b.x) : PP 209 [b.v] V (.bool (!bdB b)) := by
 refine x209 ?_
 unfold w209
 refine c152.call ⟨_, rfl, fun h1 => (c59 h).call ⟨_, rfl, ?_⟩, fun h1 => ?_⟩ <;> simp [bdB, *]
theorem c156 {V : Mem} [Tab V] {t : Ty} (h : Ty.Ok V t) : PP 156 [t.v] V (.bool (!tyB t)) := by
 refine x156 ?_
 unfold w156
 refine c152.call ⟨_, rfl, fun h1 => (c153 h.fields).call ⟨_, rfl, ?_⟩, fun h1 => ?_⟩ <;> simp [tyB, *]
theorem c158 {V : Mem} [Tab V] {t : Pr} (h : Pr.Ok V t) : PP 158 [t.v] V (.bool (!prB t)) := by
 refine x158 ?_
 unfold w158
 exact (c159 h).call ⟨_, rfl, rfl, rfl⟩
theorem qAn.max4 {P : Program} {V : Mem} {a b c d : Operand} {ty : Nat} {ts : Array TypeId} {vals : Operand -> Value} {n1 n2 n3 n4 : Int} (h1 : vals a = .int .i64 n1) (h2 : vals b = .int .i64 n2) (h3 : vals c = .int .i64 n3) (h4 : vals d = .int .i64 n4) {q : Value -> Mem -> Prop}
  (hq : ∀ m : Int, n1 <= m -> n2 <= m -> n3 <= m -> n4 <= m -> (m = n1 ∨ m = n2 ∨ m = n3 ∨ m = n4) -> q (.int .i64 m) V) : qAn P (.call { callee := .builtin .max, args := #[a, b, c, d], argTypes := ts }) ty vals V q := by
 intro w hw
 refine ⟨_, w, V, ?_, Frm.refl hw, hq (max (max (max n1 n2) n3) n4) (by omega) (by omega) (by omega) (by omega) (by omega)⟩
 unfold execOp
 have e : ∀ x y : Int, (if y > x then y else x) = max x y := fun x y => by split <;> omega
 simp only [resolve, invoke, builtin, Sem.run_bind, Sem.run_pure, Result.andThen_ok, List.map_toArray, List.map_cons, List.map_nil, h1, h2, h3, h4]
 simp [Builtin.max_, Builtin.max2, e]
theorem c78 {V : Mem} {d : Ds} (h : Ds.Ok V d) : PP 78 [d.v] V (.bool (qIb d)) := by
 refine x78 ?_
 unfold w78
 generalize hX : qIb d = X
 have key : ∀ b : Bool, X = b -> (Ending.returned (.bool b) = Ending.returned (.bool X) /\ V = V) := fun n h => by rw [h]; exact ⟨rfl, rfl⟩
 unfold qIb at hX
 refine qAA d.measures.length (fun i V1 => V = V1 /\ qAD msB d.measures i) ⟨rfl, qAD.zero _ _⟩ ?_
 rintro i b V1 J hi ⟨rfl, ha⟩ hJ
 refine ⟨fun hlt => ?_, fun hge => ?_⟩
 ·obtain ⟨x, hm, hx, hdr, hl, hp, hz, hrow⟩ := h.measures.get hlt
  have no : msB x = false -> X = false := fun h => by rw [<- hX, qBp hm (by rw [h]; simp)]; rfl
  refine ⟨hp, hz, hlt, _, _, _, _, _, _, _, hrow, c75.call ⟨_, rfl, fun h1 => c75.call ⟨_, rfl, fun h2 => ⟨fun h3 => key _ (no ?_), fun h3 => ⟨fun h4 => key _ (no ?_), fun h4 => (c29 (h.measuresOk x hm).x).call ⟨_, rfl, fun h5 => ⟨h.measures.succ hlt, hJ hl _ _ ⟨rfl, ha.succ hx ?_⟩⟩, fun h5 => key _ (no ?_)⟩⟩⟩, fun h2 => key _ (no ?_)⟩, fun h1 => key _ (no ?_)⟩⟩
  ·have : ¬ (-1099511627776 <= x.nil /\ x.nil <= 1099511627776) := by omega
   simp [msB, *]
  ·have : ¬ (-1099511627776 <= x.nil /\ x.nil <= 1099511627776) := by omega
   simp [msB, *]
  ·have : (-1099511627776 <= x.nil /\ x.nil <= 1099511627776) := by omega
   simp [msB, *]
  all_goals simp [msB, *]
 have a1 := ha.all (h.measures.done hge).2
 refine qAA d.invs.length (fun i V1 => V = V1 /\ qAD ivB d.invs i) ⟨rfl, qAD.zero _ _⟩ ?_
 rintro i b V1 J hi ⟨rfl, ha⟩ hJ
 refine ⟨fun hlt => ?_, fun hge => ?_⟩
 ·obtain ⟨x, hm, hx, hdr, hl, hp, hz, hrow⟩ := h.invs.get hlt
  have no : ivB x = false -> X = false := fun h => by rw [<- hX, qBp hm (by rw [h]; simp)]; simp
  refine ⟨hp, hz, hlt, qAd hp, _, _, _, _, _, _, hrow, c75.call ⟨_, rfl, fun h1 => ⟨hp, hz, hlt, qAd hp, _, _, _, _, _, _, hrow, c125.call ⟨_, rfl, fun h2 => ⟨hp, hz, hlt, qAd hp, _, _, _, _, _, _, hrow, (c29 (h.invsOk x hm)).call ⟨_, rfl, fun h5 => ⟨h.invs.succ hlt, hJ hl _ _ ⟨rfl, ha.succ hx ?_⟩⟩, fun h5 => key _ (no ?_)⟩⟩, fun h2 => key _ (no ?_)⟩⟩, fun h1 => key _ (no ?_)⟩⟩
  all_goals simp [ivB, *]
 have a2 := ha.all (h.invs.done hge).2
 refine qAA d.pots.length (fun i V1 => V = V1 /\ qAD poB d.pots i) ⟨rfl, qAD.zero _ _⟩ ?_
 rintro i b V1 J hi ⟨rfl, ha⟩ hJ
 refine ⟨fun hlt => ?_, fun hge => ?_⟩
 ·obtain ⟨x, hm, hx, hdr, hl, hp, hz, hrow⟩ := h.pots.get hlt
  have no : poB x = false -> X = false := fun h => by rw [<- hX, qBp (p := poB) hm (by rw [h]; simp)]; simp
  refine ⟨hp, hz, hlt, qAd hp, _, _, _, _, _, hrow, c125.call ⟨_, rfl, fun h2 => ⟨hp, hz, hlt, qAd hp, _, _, _, _, _, hrow, (c29 (h.potsOk x hm)).call ⟨_, rfl, fun h5 => ⟨h.pots.succ hlt, hJ hl _ _ ⟨rfl, ha.succ hx ?_⟩⟩, fun h5 => key _ (no ?_)⟩⟩, fun h2 => key _ (no ?_)⟩⟩
  all_goals simp [poB, *]
 have a3 := ha.all (h.pots.done hge).2
 refine qAA d.bounds.length (fun i V1 => V = V1 /\ qAD bdB d.bounds i) ⟨rfl, qAD.zero _ _⟩ ?_
 rintro i b V1 J hi ⟨rfl, ha⟩ hJ
 refine ⟨fun hlt => ?_, fun hge => ?_⟩
 ·obtain ⟨x, hm, hx, hdr, hl, hp, hz, hrow⟩ := h.bounds.get hlt
  have no : bdB x = false -> X = false := fun h => by rw [<- hX, qBp (p := bdB) hm (by rw [h]; simp)]; simp
  refine ⟨hp, hz, hlt, qAd hp, _, _, _, _, _, hrow, c75.call ⟨_, rfl, fun h2 => ⟨hp, hz, hlt, qAd hp, _, _, _, _, _, hrow, (c29 (h.boundsOk x hm)).call ⟨_, rfl, fun h5 => ⟨h.bounds.succ hlt, hJ hl _ _ ⟨rfl, ha.succ hx ?_⟩⟩, fun h5 => key _ (no ?_)⟩⟩, fun h2 => key _ (no ?_)⟩⟩
  all_goals simp [bdB, *]
 have a4 := ha.all (h.bounds.done hge).2
 refine key _ ?_
 rw [<- hX, a1, a2, a3, a4]; rfl
theorem c154 {V : Mem} [Tab V] {d : Ds} (h : Ds.Ok V d) : PP 154 [d.v] V (.bool (qHZ d && qIb d)) := by
 refine x154 ?_
 unfold w154
 have n1 := h.measures.n_eq
 have n2 := h.invs.n_eq
 have n3 := h.pots.n_eq
 have n4 := h.bounds.n_eq
 generalize hX : (qHZ d && qIb d) = X
 have key : ∀ b : Bool, X = b -> (Ending.returned (.bool b) = Ending.returned (.bool X) /\ V = V) := fun n h => by rw [h]; exact ⟨rfl, rfl⟩
 unfold qIb qHZ at hX
 refine qAn.max4 (n1 := d.ms.n) (n2 := d.is.n) (n3 := d.qs.n) (n4 := d.bs.n) rfl rfl rfl rfl fun mx l1 l2 l3 l4 le => ⟨_, rfl, fun hb => key _ ?_, fun hb => ?_⟩
 ·rw [<- hX, decide_eq_false (by omega)]; rfl
 rw [decide_eq_true (by omega), Bool.true_and] at hX
 refine qAA d.measures.length (fun i V1 => V = V1 /\ qAD msB d.measures i) ⟨rfl, qAD.zero _ _⟩ ?_
 rintro i b V1 J hi ⟨rfl, ha⟩ hJ
 refine ⟨fun hlt => ?_, fun hge => ?_⟩
 ·obtain ⟨x, hm, hx, hdr, hl, hp, hz, hrow⟩ := h.measures.get hlt
  have no : msB x = false -> X = false := fun h => by rw [<- hX, qBp hm (by rw [h]; simp)]; rfl
  refine ⟨hp, hz, hlt, _, _, _, _, _, _, _, hrow, c152.call ⟨_, rfl, fun h1 => c152.call ⟨_, rfl, fun h2 => ⟨fun h3 => key _ (no ?_), fun h3 => ⟨fun h4 => key _ (no ?_), fun h4 => (c59 (h.measuresOk x hm).x).call ⟨_, rfl, fun h5 => ⟨h.measures.succ hlt, hJ hl _ _ ⟨rfl, ha.succ hx ?_⟩⟩, fun h5 => key _ (no ?_)⟩⟩⟩, fun h2 => key _ (no ?_)⟩, fun h1 => key _ (no ?_)⟩⟩
  ·have : ¬ (-1099511627776 <= x.nil /\ x.nil <= 1099511627776) := by omega
   simp [msB, *]
  ·have : ¬ (-1099511627776 <= x.nil /\ x.nil <= 1099511627776) := by omega
   simp [msB, *]
  ·have : (-1099511627776 <= x.nil /\ x.nil <= 1099511627776) := by omega
   simp [msB, *]
  all_goals simp [msB, *]
 have a1 := ha.all (h.measures.done hge).2
 refine qAA d.invs.length (fun i V1 => V = V1 /\ qAD ivB d.invs i) ⟨rfl, qAD.zero _ _⟩ ?_
 rintro i b V1 J hi ⟨rfl, ha⟩ hJ
 refine ⟨fun hlt => ?_, fun hge => ?_⟩
 ·obtain ⟨x, hm, hx, hdr, hl, hp, hz, hrow⟩ := h.invs.get hlt
  have no : ivB x = false -> X = false := fun h => by rw [<- hX, qBp hm (by rw [h]; simp)]; simp
  refine ⟨hp, hz, hlt, _, _, _, _, _, _, hrow, c152.call ⟨_, rfl, fun h1 => c207.call ⟨_, rfl, fun h2 => (c59 (h.invsOk x hm)).call ⟨_, rfl, fun h5 => ⟨h.invs.succ hlt, hJ hl _ _ ⟨rfl, ha.succ hx ?_⟩⟩, fun h5 => key _ (no ?_)⟩, fun h2 => key _ (no ?_)⟩, fun h1 => key _ (no ?_)⟩⟩
  all_goals simp [ivB, *]
 have a2 := ha.all (h.invs.done hge).2
 refine qAA d.pots.length (fun i V1 => V = V1 /\ qAD poB d.pots i) ⟨rfl, qAD.zero _ _⟩ ?_
 rintro i b V1 J hi ⟨rfl, ha⟩ hJ
 refine ⟨fun hlt => ?_, fun hge => ?_⟩
 ·obtain ⟨x, hm, hx, hdr, hl, hp, hz, hrow⟩ := h.pots.get hlt
  have no : poB x = false -> X = false := fun h => by rw [<- hX, qBp (p := poB) hm (by rw [h]; simp)]; simp
  refine ⟨hp, hz, hlt, _, _, _, _, _, hrow, c207.call ⟨_, rfl, fun h2 => (c59 (h.potsOk x hm)).call ⟨_, rfl, fun h5 => ⟨h.pots.succ hlt, hJ hl _ _ ⟨rfl, ha.succ hx ?_⟩⟩, fun h5 => key _ (no ?_)⟩, fun h2 => key _ (no ?_)⟩⟩
  all_goals simp [poB, *]
 have a3 := ha.all (h.pots.done hge).2
 refine (c208 (first := []) (caps := []) h.bounds Tryz.call209 (fun f => !bdB f) fun f hm => c209 (h.boundsOk f hm)).call ⟨_, rfl, key _ ?_⟩
 rw [<- hX, a1, a2, a3, List.any_eq_not_all_not]
 simp
theorem c44 {V : Mem} {d : Ds} (h : Ds.Ok V d) : PP 44 [d.v] V (.bool (qAP d)) := by
 refine x44 ?_
 unfold w44
 have n1 := h.measures.n_eq
 have n2 := h.invs.n_eq
 have n3 := h.pots.n_eq
 have n4 := h.bounds.n_eq
 have n5 := h.types.n_eq
 have n6 := h.procs.n_eq
 generalize hX : qAP d = X
 have key : ∀ b : Bool, X = b -> (Ending.returned (.bool b) = Ending.returned (.bool X) /\ V = V) := fun n h => by rw [h]; exact ⟨rfl, rfl⟩
 unfold qAP at hX
 have nol : qHZ d = false -> X = false := fun h => by rw [<- hX, h]; simp
 refine c75.call ⟨_, rfl, fun h1 => ⟨fun h2 => key _ ?_, fun h2 => (c76 h.globals).call ⟨_, rfl, fun h3 => ⟨fun h4 => key _ ?_, fun h4 => ⟨fun h5 => key _ (nol ?_), fun h5 => ⟨fun h6 => key _ (nol ?_), fun h6 => ⟨fun h7 => key _ (nol ?_), fun h7 => ⟨fun h8 => key _ (nol ?_), fun h8 => ?_⟩⟩⟩⟩⟩, fun h3 => key _ ?_⟩⟩, fun h1 => key _ ?_⟩
 ·rw [<- hX, decide_eq_false (by omega)]; simp
 ·rw [<- hX, decide_eq_false (p := (d.procs.length : Int) <= 40) (by omega)]; simp
 ·exact decide_eq_false (by omega)
 ·exact decide_eq_false (by omega)
 ·exact decide_eq_false (by omega)
 ·exact decide_eq_false (by omega)
 ·have hl : qHZ d = true := decide_eq_true (by omega)
  rw [h1, decide_eq_true (p := (d.types.length : Int) <= 12) (by omega), h3, decide_eq_true (p := (d.procs.length : Int) <= 40) (by omega), hl] at hX
  simp only [Bool.true_and] at hX
  refine qAA d.types.length (fun i V1 => V = V1 /\ qAD tyB d.types i) ⟨rfl, qAD.zero _ _⟩ ?_
  rintro i b V1 J hi ⟨rfl, ha⟩ hJ
  refine ⟨fun hlt => ?_, fun hge => ?_⟩
  ·obtain ⟨x, hm, hx, hdr, hl, hp, hz, hrow⟩ := h.types.get hlt
   have no : tyB x = false -> X = false := fun h => by rw [<- hX, qBp hm (by rw [h]; simp)]; rfl
   refine ⟨hp, hz, hlt, qAd hp, _, _, hrow, c75.call ⟨_, rfl, fun h1 => ⟨hp, hz, hlt, qAd hp, _, _, hrow, (c76 (h.typesOk x hm).fields).call ⟨_, rfl, fun h5 => ⟨h.types.succ hlt, hJ hl _ _ ⟨rfl, ha.succ hx ?_⟩⟩, fun h5 => key _ (no ?_)⟩⟩, fun h1 => key _ (no ?_)⟩⟩
   all_goals simp [tyB, *]
  have a1 := ha.all (h.types.done hge).2
  refine qAA d.procs.length (fun i V1 => V = V1 /\ qAD prB d.procs i) ⟨rfl, qAD.zero _ _⟩ ?_
  rintro i b V1 J hi ⟨rfl, ha⟩ hJ
  refine ⟨fun hlt => ?_, fun hge => ?_⟩
  ·obtain ⟨x, hm, hx, hdr, hl, hp, hz, hrow⟩ := h.procs.get hlt
   have no : prB x = false -> X = false := fun h => by rw [<- hX, qBp hm (by rw [h]; simp)]; simp
   exact ⟨hp, hz, hlt, _, _, _, _, _, hrow, (c77 (h.procsOk x hm)).call ⟨_, rfl, fun h5 => ⟨h.procs.succ hlt, hJ hl _ _ ⟨rfl, ha.succ hx h5⟩⟩, fun h5 => key _ (no (eq_false_of_ne_true h5))⟩⟩
  have a2 := ha.all (h.procs.done hge).2
  refine (c78 h).call ⟨_, rfl, key _ ?_⟩
  rw [<- hX, a1, a2]; rfl
 ·rw [<- hX, eq_false_of_ne_true h3]; simp
 ·rw [<- hX, eq_false_of_ne_true h1]; simp
theorem c109 {V : Mem} [Tab V] {d : Ds} (h : Ds.Ok V d) : PP 109 [d.v] V (.bool (qAP d)) := by
 refine x109 ?_
 unfold w109
 have n5 := h.types.n_eq
 have n6 := h.procs.n_eq
 generalize hX : qAP d = X
 have key : ∀ b : Bool, X = b -> (Ending.returned (.bool b) = Ending.returned (.bool X) /\ V = V) := fun n h => by rw [h]; exact ⟨rfl, rfl⟩
 unfold qAP at hX
 refine c152.call ⟨_, rfl, fun h1 => ⟨fun h2 => key _ ?_, fun h2 => (c153 h.globals).call ⟨_, rfl, fun h3 => ⟨fun h4 => key _ ?_, fun h4 => (c154 h).call ⟨_, rfl, fun h5 => (c155 (first := []) (caps := []) h.types Tryz.call156 (fun f => !tyB f) fun f hm => c156 (h.typesOk f hm)).call ⟨_, rfl, fun h6 => key _ ?_, fun h6 =>
   (c157 (first := []) (caps := []) h.procs Tryz.call158 (fun f => !prB f) fun f hm => c158 (h.procsOk f hm)).call ⟨_, rfl, key _ ?_⟩⟩, fun h5 => key _ ?_⟩⟩, fun h3 => key _ ?_⟩⟩, fun h1 => key _ ?_⟩
 ·rw [<- hX, decide_eq_false (by omega)]; simp
 ·rw [<- hX, decide_eq_false (p := (d.procs.length : Int) <= 40) (by omega)]; simp
 ·rw [List.any_eq_not_all_not] at h6
  have : d.types.all tyB = false := by simpa using h6
  rw [<- hX, this]; simp
 ·rw [List.any_eq_not_all_not] at h6 ⊢
  have : d.types.all tyB = true := by simpa using h6
  rw [Bool.and_eq_true] at h5
  rw [<- hX, h1, decide_eq_true (p := (d.types.length : Int) <= 12) (by omega), h3, decide_eq_true (p := (d.procs.length : Int) <= 40) (by omega), h5.1, h5.2, this]
  simp
 ·have : (qHZ d && qIb d) = false := eq_false_of_ne_true h5
  rw [<- hX]
  cases hl : qHZ d with
  | false => simp
  | true => rw [hl, Bool.true_and] at this; rw [this]; simp
 ·rw [<- hX, eq_false_of_ne_true h3]; simp
 ·rw [<- hX, eq_false_of_ne_true h1]; simp
end Go.Proofs
namespace Go.Proofs
open Go Go.Sx
def sNil : ByteArray := qAj [110, 105, 108]
def sE : ByteArray := qAj []
def qAJ (d : Ds) (s : ByteArray) : Bool := d.types.any fun t => decide (t.name = s)
def known (d : Ds) (s : ByteArray) : Bool := decide (s = qAQ) || decide (s = qAs) || qAJ d s
def qFv (d : Ds) (a b : ByteArray) : Bool := decide (a = b) || (decide (a = sNil) && qAJ d b)
def qBK : List Fld -> ByteArray -> ByteArray
 | [], _ => sE
 | f :: l, s => if f.name = s then f.ty else qBK l s
def tyOf (d : Ds) (s : ByteArray) : Option Ty := d.types.find? fun t => decide (t.name = s)
def qEW (d : Ds) (s : ByteArray) : Option Pr := d.procs.find? fun t => decide (t.name = s)
def meOf (d : Ds) (s : ByteArray) : Option Ms := d.measures.find? fun t => decide (t.name = s)
def qCL (d : Ds) (t name : ByteArray) : ByteArray × Int :=
 match tyOf d t with
 | none => (sE, 11)
 | some ty => if qBK ty.fields name = sE then (sE, 9) else (qBK ty.fields name, 0)
def qEx (d : Ds) : List ByteArray -> List Fld -> Bool
 | a :: l, f :: fs => qFv d a f.ty && qEx d l fs
 | _, _ => true
def qJK (d : Ds) (name : ByteArray) (l : List ByteArray) : ByteArray × Int :=
 match qEW d name with
 | none => (sE, 9)
 | some p => if l.length ≠ p.params.length then (sE, 3) else if qEx d l p.params = true then (p.result, 0) else (sE, 11)
def qCX (ok : Bool) (t : ByteArray) : ByteArray × Int := if ok = true then (t, 0) else (sE, 11)
structure Sc where
 vars : List Fld
 body : Bool
def qHY (d : Ds) (name : ByteArray) (l : List ByteArray) : ByteArray × Int :=
 match meOf d name with
 | none => (sE, 9)
 | some m => if l.length ≠ 1 then (sE, 3) else qCX (qFv d (l.getD 0 sE) m.ty) qAQ
def qId (d : Ds) (sc : Sc) (name : ByteArray) (l : List ByteArray) : ByteArray × Int :=
 if sc.body = true then (if (qJK d name l).2 = 0 /\ (qJK d name l).1 = sE then (sE, 11) else qJK d name l) else qHY d name l
def allT (l : List ByteArray) (t : ByteArray) : Bool := l.all fun x => decide (x = t)
def qHi (d : Ds) (sc : Sc) (op : Int) (s : ByteArray) (l : List ByteArray) : ByteArray × Int :=
 if op = 1 then (qAQ, 0) else if op = 2 then (qAs, 0) else if op = 3 then (sNil, 0)
 else if op = 4 then (if qBK sc.vars s = sE then (sE, 9) else (qBK sc.vars s, 0))
 else if op = 5 then qCL d (l.getD 0 sE) s
 else if op = 6 then (if sc.body = false then (sE, 13) else if qAJ d s = false then (sE, 9) else (s, 0))
 else if op = 7 then qId d sc s l
 else if op = 14 ∨ op = 15 then qCX (qFv d (l.getD 0 sE) (l.getD 1 sE) || qFv d (l.getD 1 sE) (l.getD 0 sE)) qAs
 else if op = 16 ∨ op = 17 then qCX (allT l qAQ) qAs
 else if op = 18 ∨ op = 19 ∨ op = 20 then qCX (allT l qAs) qAs
 else if op = 21 then qCX (decide (l.getD 0 sE = qAs) && (qFv d (l.getD 1 sE) (l.getD 2 sE) || qFv d (l.getD 2 sE) (l.getD 1 sE))) (if l.getD 1 sE = sNil then l.getD 2 sE else l.getD 1 sE)
 else qCX (allT l qAQ) qAQ
mutual
def qAy (d : Ds) (sc : Sc) : E -> ByteArray × Int
 | .mk op _ s _ k => if (partsT d sc [] k).2 ≠ 0 then (sE, (partsT d sc [] k).2) else qHi d sc op s (partsT d sc [] k).1
def partsT (d : Ds) (sc : Sc) (acc : List ByteArray) : List E -> List ByteArray × Int
 | [] => (acc, 0)
 | x :: xs => if (qAy d sc x).2 ≠ 0 then ([], (qAy d sc x).2) else partsT d sc (acc ++ [(qAy d sc x).1]) xs
end
theorem qGH (d : Ds) (sc : Sc) (e : E) : qAy d sc e = if (partsT d sc [] e.k).2 ≠ 0 then (sE, (partsT d sc [] e.k).2) else qHi d sc e.op e.s (partsT d sc [] e.k).1 := by
 cases e; unfold qAy; rfl
theorem qBS (d : Ds) (sc : Sc) (acc : List ByteArray) (x : E) (xs : List E) : partsT d sc acc (x :: xs) = if (qAy d sc x).2 ≠ 0 then ([], (qAy d sc x).2) else partsT d sc (acc ++ [(qAy d sc x).1]) xs := by rw [partsT]
theorem qCi (d : Ds) (sc : Sc) (acc : List ByteArray) : partsT d sc acc [] = (acc, 0) := by rw [partsT]
theorem qFG (d : Ds) (sc : Sc) : ∀ (k : List E) (acc : List ByteArray), (partsT d sc acc k).2 = 0 -> (partsT d sc acc k).1.length = acc.length + k.length
 | [], acc, _ => by rw [qCi]; rfl
 | x :: xs, acc, h => by
  rw [qBS] at h ⊢
  split at h
  ·rename_i h'; exact absurd h h'
  ·rename_i h'
   rw [if_neg h', qFG d sc xs _ h, List.length_append, List.length_cons, List.length_cons, List.length_nil]
   omega
def qAH (d : Ds) (p : Pr) : Sc := ⟨p.params ++ p.locals ++ d.globals, true⟩
def qBI : ByteArray := qAj [116, 104, 105, 115]
def qAk (d : Ds) (t : ByteArray) : Sc := ⟨(if t = sE then [] else [⟨qBI, t⟩]) ++ d.globals, false⟩
def qBj (d : Ds) (p : Pr) : Sc := ⟨p.params ++ d.globals, false⟩
def qES (d : Ds) (sc : Sc) (result : ByteArray) (op : Int) (s : ByteArray) (es : List E) : Int :=
 if op = 6 then
  match es with
  | [] => 0
  | e :: _ => if (partsT d sc [] e.k).2 ≠ 0 then (partsT d sc [] e.k).2 else (qJK d e.s (partsT d sc [] e.k).1).2
 else if (partsT d sc [] es).2 ≠ 0 then (partsT d sc [] es).2
 else if op = 1 then (if qBK sc.vars s = sE then 9 else if qFv d ((partsT d sc [] es).1.getD 0 sE) (qBK sc.vars s) = true then 0 else 11)
 else if op = 2 then (if (qCL d ((partsT d sc [] es).1.getD 0 sE) s).2 ≠ 0 then (qCL d ((partsT d sc [] es).1.getD 0 sE) s).2 else if qFv d ((partsT d sc [] es).1.getD 1 sE) (qCL d ((partsT d sc [] es).1.getD 0 sE) s).1 = true then 0 else 11)
 else if op = 3 ∨ op = 4 then (if (partsT d sc [] es).1.getD 0 sE = qAs then 0 else 11)
 else if op = 5 then (if (partsT d sc [] es).1.length = 0 then (if result = sE then 0 else 11) else if result ≠ sE /\ qFv d ((partsT d sc [] es).1.getD 0 sE) result = true then 0 else 11)
 else 0
mutual
def stT (d : Ds) (sc : Sc) (result : ByteArray) (n : Int) : S -> Int × Int
 | .mk op s _ es _ ls _ xs =>
  if qES d sc result op s es ≠ 0 then (n, qES d sc result op s es)
  else if (qBL d sc result (n + 1) ls).2 ≠ 0 then qBL d sc result (n + 1) ls
  else qBL d sc result (qBL d sc result (n + 1) ls).1 xs
def qBL (d : Ds) (sc : Sc) (result : ByteArray) (n : Int) : List S -> Int × Int
 | [] => (n, 0)
 | x :: xs => if (stT d sc result n x).2 ≠ 0 then stT d sc result n x else qBL d sc result (stT d sc result n x).1 xs
end
theorem stT_eq (d : Ds) (sc : Sc) (result : ByteArray) (n : Int) (x : S) : stT d sc result n x = if qES d sc result x.op x.s x.es ≠ 0 then (n, qES d sc result x.op x.s x.es) else if (qBL d sc result (n + 1) x.ls).2 ≠ 0 then qBL d sc result (n + 1) x.ls else qBL d sc result (qBL d sc result (n + 1) x.ls).1 x.xs := by
 cases x; unfold stT; rfl
theorem qGT (d : Ds) (sc : Sc) (result : ByteArray) (n : Int) (x : S) (xs : List S) : qBL d sc result n (x :: xs) = if (stT d sc result n x).2 ≠ 0 then stT d sc result n x else qBL d sc result (stT d sc result n x).1 xs := by rw [qBL]
theorem stsT_nil (d : Ds) (sc : Sc) (result : ByteArray) (n : Int) : qBL d sc result n [] = (n, 0) := by rw [qBL]
def qFI (d : Ds) (l : List Fld) (i : Nat) (f : Fld) : Int := if (l.take i).any (fun g => decide (g.name = f.name)) = true then 10 else if known d f.ty = true then 0 else 9
def qAf {α β : Type} (f : Nat -> α -> Option β) : Nat -> List α -> Option β
 | _, [] => none
 | i, x :: xs => match f i x with | some b => some b | none => qAf f (i + 1) xs
def qCP (d : Ds) (l : List Fld) : Int := (qAf (fun i f => if qFI d l i f ≠ 0 then some (qFI d l i f) else none) 0 l).getD 0
abbrev Flt := ByteArray × Int × Int
def types1 (d : Ds) : Option Flt := qAf (fun i t => if (d.types.take i).any (fun g => decide (g.name = t.name)) = true then some (t.name, -1, 10) else none) 0 d.types
def types2 (d : Ds) : Option Flt := qAf (fun _ t => if qCP d t.fields ≠ 0 then some (t.name, -1, qCP d t.fields) else none) 0 d.types
def types3 (d : Ds) : Option Flt := qAf (fun i f => if qFI d d.globals i f ≠ 0 then some (f.name, -1, qFI d d.globals i f) else none) 0 d.globals
def qGP (d : Ds) : Option Flt := (types1 d).or ((types2 d).or (types3 d))
def qGk (d : Ds) : Option Flt := qAf (fun i p => if (d.procs.take i).any (fun g => decide (g.name = p.name)) = true then some (p.name, -1, 10) else if qCP d (p.params ++ p.locals) ≠ 0 then some (p.name, -1, qCP d (p.params ++ p.locals)) else if p.result ≠ sE /\ known d p.result = false then some (p.name, -1, 9) else none) 0 d.procs
def form1 (d : Ds) : Option Flt := qAf (fun i m => if (d.measures.take i).any (fun g => decide (g.name = m.name)) = true then some (m.name, -1, 10) else if qAJ d m.ty = false then some (m.name, -1, 9) else none) 0 d.measures
def form2 (d : Ds) : Option Flt := qAf (fun i m => if (d.invs.take i).any (fun g => decide (g.name = m.name)) = true then some (m.name, -1, 10) else if m.ty ≠ sE /\ qAJ d m.ty = false then some (m.name, -1, 9) else none) 0 d.invs
def sPot : ByteArray := qAj [112, 111, 116, 101, 110, 116, 105, 97, 108]
def form3 (d : Ds) : Option Flt := qAf (fun _ m => if m.ty ≠ sE /\ qAJ d m.ty = false then some (sPot, -1, 9) else none) 0 d.pots
def form4 (d : Ds) : Option Flt := qAf (fun i b => if (qEW d b.proc).isNone = true then some (b.proc, -1, 9) else if (d.bounds.take i).any (fun g => decide (g.proc = b.proc)) = true then some (b.proc, -1, 10) else none) 0 d.bounds
def qDZ (d : Ds) : Option Flt := (form1 d).or ((form2 d).or ((form3 d).or (form4 d)))
def qDI (d : Ds) : Option Flt := qAf (fun _ p => if (qBL d (qAH d p) p.result 0 p.body).2 ≠ 0 then some (p.name, (qBL d (qAH d p) p.result 0 p.body).1, (qBL d (qAH d p) p.result 0 p.body).2) else none) 0 d.procs
def qAZ (d : Ds) (sc : Sc) (e : E) (t : ByteArray) : Int := if (qAy d sc e).2 ≠ 0 then (qAy d sc e).2 else if (qAy d sc e).1 = t then 0 else 11
def exp1 (d : Ds) : Option Flt := qAf (fun _ m => if qAZ d (qAk d m.ty) m.x qAQ ≠ 0 then some (m.name, -1, qAZ d (qAk d m.ty) m.x qAQ) else none) 0 d.measures
def exp2 (d : Ds) : Option Flt := qAf (fun _ m => if qAZ d (qAk d m.ty) m.x qAs ≠ 0 then some (m.name, -1, qAZ d (qAk d m.ty) m.x qAs) else none) 0 d.invs
def exp3 (d : Ds) : Option Flt := qAf (fun _ m => if qAZ d (qAk d m.ty) m.x qAQ ≠ 0 then some (sPot, -1, qAZ d (qAk d m.ty) m.x qAQ) else none) 0 d.pots
def prD : Pr := ⟨sE, ⟨none, 0, 0⟩, [], sE, ⟨none, 0, 0⟩, [], ⟨none, 0, 0⟩, []⟩
def exp4 (d : Ds) : Option Flt := qAf (fun _ m => if qAZ d (qBj d ((qEW d m.proc).getD prD)) m.x qAQ ≠ 0 then some (m.proc, -1, qAZ d (qBj d ((qEW d m.proc).getD prD)) m.x qAQ) else none) 0 d.bounds
def qGv (d : Ds) : Option Flt := (exp1 d).or ((exp2 d).or ((exp3 d).or (exp4 d)))
def qIS (d : Ds) : Option Flt := (qGP d).or ((qGk d).or ((qDZ d).or ((qDI d).or (qGv d))))
def fltR (o : Option Flt) : Flt := o.getD (sE, 0, 0)
end Go.Proofs
namespace Go.Proofs
open Go Go.Sx
attribute [local irreducible] Go.Sx.Tri
noncomputable def ti (t : Nat) : TypeInfo := (Tryz.prog.info? t).getD default
theorem app174 {V0 V : Mem} {ty : Nat} {x y : Operand} {vals : Operand -> Value} {s u : Sl} {xs ys : List ByteArray} (hx : vals x = .slice s.p s.n s.c) (hy : vals y = .slice u.p u.n u.c) (own : Own V0 V 9 1 s (xs.flatMap qAM)) (hnew : qAc V u 1 (ys.map qAM))
  (hfit : xs.length + ys.length <= 2147483648) {q : Value -> Mem -> Prop} (hq : ∀ s' V', Own V0 V' 9 1 s' ((xs ++ ys).flatMap qAM) -> q (.slice s'.p s'.n s'.c) V') :
  qAn Tryz.prog (.call { callee := .builtin .append, args := #[x, y], argTypes := #[174, 174] }) ty vals V q := by
 have hi : Tryz.prog.info? 9 = some (ti 9) := by kernel_rfl
 have hz : (ti 9).zero = some ((ti 9).zero.getD undef) := by kernel_rfl
 have h1 : (ti 9).size = 1 := by kernel_rfl
 have h2 : ((ti 9).zero.getD undef).cells.size = 1 := by kernel_rfl
 have h3 : (ti 9).bytes <= 65536 := by rw [show (ti 9).bytes = 16 by kernel_rfl]; omega
 exact qAn.appendS Tryz.underlying174 hi hz h1 h2 (by decide) h3 hx hy own (fun _ => rfl) hnew (fun x u hu => by simp [qAM, vS, vI, Sl.v] at hu; rcases hu with rfl | rfl <;> rfl) hfit hq
theorem qHO {V0 V : Mem} {ty : Nat} {x y : Operand} {vals : Operand -> Value} {s u : Sl} {xs ys : List Fld} (hx : vals x = .slice s.p s.n s.c) (hy : vals y = .slice u.p u.n u.c) (own : Own V0 V 110 2 s (xs.flatMap Fld.row)) (hnew : qAc V u 2 (ys.map Fld.row))
  (hfit : xs.length + ys.length <= 2147483648) {q : Value -> Mem -> Prop} (hq : ∀ s' V', Own V0 V' 110 2 s' ((xs ++ ys).flatMap Fld.row) -> q (.slice s'.p s'.n s'.c) V') :
  qAn Tryz.prog (.call { callee := .builtin .append, args := #[x, y], argTypes := #[23, 23] }) ty vals V q := by
 have hi : Tryz.prog.info? 110 = some (ti 110) := by kernel_rfl
 have hz : (ti 110).zero = some ((ti 110).zero.getD undef) := by kernel_rfl
 have h1 : (ti 110).size = 2 := by kernel_rfl
 have h2 : ((ti 110).zero.getD undef).cells.size = 2 := by kernel_rfl
 have h3 : (ti 110).bytes <= 65536 := by rw [show (ti 110).bytes = 32 by kernel_rfl]; omega
 exact qAn.appendS Tryz.underlying23 hi hz h1 h2 (by decide) h3 hx hy own (fun _ => rfl) hnew (fun x u hu => by simp [Fld.row, vS, vI, Sl.v] at hu; rcases hu with rfl | rfl <;> rfl) hfit hq
def qJy {α : Type} (p : α -> Bool) (xs : List α) : Int := match xs.findIdx? p with | some i => (i : Int) | none => -1
theorem qBX {α : Type} {p : α -> Bool} {xs : List α} {i : Nat} {x : α} (h : qAD (fun y => !p y) xs i) (hx : xs[i]? = some x) (hp : p x = true) : qJy p xs = i := by
 have hl := (List.getElem?_eq_some_iff.1 hx).1
 have hg := (List.getElem?_eq_some_iff.1 hx).2
 have : xs.findIdx? p = some i := List.findIdx?_eq_some_iff_getElem.2 ⟨hl, by rw [hg]; exact hp, fun j hj => by
  have := h j _ hj (List.getElem?_eq_getElem (Nat.lt_trans hj hl))
  simpa using this⟩
 unfold qJy; rw [this]
theorem qCp {α : Type} {p : α -> Bool} {xs : List α} {i : Nat} (h : qAD (fun y => !p y) xs i) (hi : xs.length <= i) : qJy p xs = -1 := by
 have : xs.findIdx? p = none := List.findIdx?_eq_none_iff.2 fun x hx => by
  obtain ⟨j, hj, rfl⟩ := List.mem_iff_getElem.1 hx
  have := h j _ (by omega) (List.getElem?_eq_getElem hj)
  simpa using this
 unfold qJy; rw [this]
theorem qAK {α : Type} (p : α -> Bool) (xs : List α) : (qJy p xs = -1 /\ xs.find? p = none /\ xs.any p = false) ∨ ∃ (i : Nat) (x : α), qJy p xs = i /\ xs[i]? = some x /\ xs.find? p = some x /\ i < xs.length /\ p x = true /\ x ∈ xs /\ xs.any p = true /\ (xs.take i).any p = false := by
 cases h : xs.findIdx? p with
 | none =>
  have h' := List.findIdx?_eq_none_iff.1 h
  refine .inl ⟨by unfold qJy; rw [h], List.find?_eq_none.2 fun x hx => by rw [h' x hx]; simp, List.any_eq_false.2 fun x hx => by rw [h' x hx]; simp⟩
 | some i =>
  obtain ⟨hl, hp, hn⟩ := List.findIdx?_eq_some_iff_getElem.1 h
  refine .inr ⟨i, xs[i], by unfold qJy; rw [h], List.getElem?_eq_getElem hl, ?_, hl, hp, List.getElem_mem _, List.any_eq_true.2 ⟨_, List.getElem_mem _, hp⟩, ?_⟩
  ·rw [List.find?_eq_some_iff_getElem]
   exact ⟨hp, i, hl, rfl, fun j hj => by simpa using hn j hj⟩
  ·rw [List.any_eq_false]
   intro x hx
   obtain ⟨j, hj, rfl⟩ := List.mem_iff_getElem.1 hx
   rw [List.length_take] at hj
   rw [List.getElem_take]
   exact hn j (by omega)
theorem qBB {α : Type} {p : α -> Bool} {xs : List α} {i : Nat} {x : α} (h : qAD (fun y => !p y) xs i) (hx : xs[i]? = some x) (hp : p x = false) : qAD (fun y => !p y) xs (i + 1) := h.succ hx (by simp [hp])
theorem c132 {V : Mem} {d : Ds} (h : Ds.Ok V d) {s : ByteArray} : PP 132 [d.v, .string s] V (.int .i64 (qJy (fun t => decide (t.name = s)) d.types)) := by
 refine x132 ?_
 unfold w132
 refine qAA d.types.length (fun i V1 => V = V1 /\ qAD (fun t => !decide (t.name = s)) d.types i) ⟨rfl, qAD.zero _ _⟩ ?_
 rintro i b V1 J hi ⟨rfl, ha⟩ hJ
 refine ⟨fun hlt => ?_, fun hge => ?_⟩
 ·obtain ⟨x, hm, hx, hdr, hl, hp, hz, hrow⟩ := h.types.get hlt
  refine ⟨hp, hz, hlt, qAd hp, _, _, hrow, fun he => ?_, fun he => ⟨h.types.succ hlt, hJ hl _ _ ⟨rfl, qBB (p := fun t => decide (t.name = s)) ha hx (decide_eq_false he)⟩⟩⟩
  rw [qBX (p := fun t => decide (t.name = s)) ha hx (decide_eq_true he)]; exact ⟨rfl, rfl⟩
 ·rw [qCp (p := fun t => decide (t.name = s)) ha (h.types.done hge).2]; exact ⟨rfl, rfl⟩
theorem c186 {V : Mem} {d : Ds} (h : Ds.Ok V d) {s : ByteArray} : PP 186 [d.v, .string s] V (.int .i64 (qJy (fun t => decide (t.name = s)) d.procs)) := by
 refine x186 ?_
 unfold w186
 refine qAA d.procs.length (fun i V1 => V = V1 /\ qAD (fun t => !decide (t.name = s)) d.procs i) ⟨rfl, qAD.zero _ _⟩ ?_
 rintro i b V1 J hi ⟨rfl, ha⟩ hJ
 refine ⟨fun hlt => ?_, fun hge => ?_⟩
 ·obtain ⟨x, hm, hx, hdr, hl, hp, hz, hrow⟩ := h.procs.get hlt
  refine ⟨hp, hz, hlt, qAd hp, _, _, _, _, _, hrow, fun he => ?_, fun he => ⟨h.procs.succ hlt, hJ hl _ _ ⟨rfl, qBB (p := fun t => decide (t.name = s)) ha hx (decide_eq_false he)⟩⟩⟩
  rw [qBX (p := fun t => decide (t.name = s)) ha hx (decide_eq_true he)]; exact ⟨rfl, rfl⟩
 ·rw [qCp (p := fun t => decide (t.name = s)) ha (h.procs.done hge).2]; exact ⟨rfl, rfl⟩
theorem c151 {V : Mem} {d : Ds} (h : Ds.Ok V d) {s : ByteArray} : PP 151 [d.v, .string s] V (.int .i64 (qJy (fun t => decide (t.name = s)) d.measures)) := by
 refine x151 ?_
 unfold w151
 refine qAA d.measures.length (fun i V1 => V = V1 /\ qAD (fun t => !decide (t.name = s)) d.measures i) ⟨rfl, qAD.zero _ _⟩ ?_
 rintro i b V1 J hi ⟨rfl, ha⟩ hJ
 refine ⟨fun hlt => ?_, fun hge => ?_⟩
 ·obtain ⟨x, hm, hx, hdr, hl, hp, hz, hrow⟩ := h.measures.get hlt
  refine ⟨hp, hz, hlt, qAd hp, _, _, _, _, _, _, _, hrow, fun he => ?_, fun he => ⟨h.measures.succ hlt, hJ hl _ _ ⟨rfl, qBB (p := fun t => decide (t.name = s)) ha hx (decide_eq_false he)⟩⟩⟩
  rw [qBX (p := fun t => decide (t.name = s)) ha hx (decide_eq_true he)]; exact ⟨rfl, rfl⟩
 ·rw [qCp (p := fun t => decide (t.name = s)) ha (h.measures.done hge).2]; exact ⟨rfl, rfl⟩
section
variable {V : Mem} {d : Ds}
theorem c101 (h : Ds.Ok V d) {s : ByteArray} : PP 101 [d.v, .string s] V (.bool (qAJ d s)) := by
 refine x101 ?_
 unfold w101
 refine (c132 h).call ⟨_, rfl, ?_⟩
 rcases qAK (fun t : Ty => decide (t.name = s)) d.types with ⟨h1, h2, h3⟩ | ⟨i, x, h1, h2, h3, h4, h5, h6, h7, _⟩
 ·rw [h1, qAJ, h3]; exact ⟨rfl, rfl⟩
 ·rw [h1, qAJ, h7, decide_eq_true (by omega)]; exact ⟨rfl, rfl⟩
theorem c187 (h : Ds.Ok V d) {s : ByteArray} : PP 187 [d.v, .string s] V (.bool (known d s)) := by
 refine x187 ?_
 unfold w187
 refine ⟨fun h1 => ?_, fun h1 => ⟨fun h2 => ?_, fun h2 => (c101 h).call ⟨_, rfl, ?_⟩⟩⟩ <;> simp [known, qAQ, qAs, *]
theorem c104 (h : Ds.Ok V d) {s t : ByteArray} : PP 104 [d.v, .string s, .string t] V (.bool (qFv d s t)) := by
 refine x104 ?_
 unfold w104
 unfold qFv sNil
 refine ⟨fun h1 => ?_, fun h1 => ⟨fun h2 => (c101 h).call ⟨_, rfl, ?_⟩, fun h2 => ?_⟩⟩
 ·rw [decide_eq_true h1]; exact ⟨rfl, rfl⟩
 ·rw [decide_eq_false h1, decide_eq_true h2]; exact ⟨rfl, rfl⟩
 ·rw [decide_eq_false h1, decide_eq_false h2]; exact ⟨rfl, rfl⟩
theorem qIM (fs : List Fld) : qEx d [] fs = true := by simp [qEx]
theorem c99 {l : Sl} {xs : List Fld} (h : qAc V l 2 (xs.map Fld.row)) {s : ByteArray} : PP 99 [l.v, .string s] V (.string (qBK xs s)) := by
 refine x99 ?_
 unfold w99
 refine qAA xs.length (fun i V1 => V = V1 /\ qBK xs s = qBK (xs.drop i) s) ⟨rfl, rfl⟩ ?_
 rintro i b V1 J hi ⟨rfl, ha⟩ hJ
 refine ⟨fun hlt => ?_, fun hge => ?_⟩
 ·obtain ⟨x, hm, hx, hdr, hl, hp, hz, hrow⟩ := h.get hlt
  rw [hdr, qBK] at ha
  refine ⟨hp, hz, hlt, qAd hp, _, _, hrow, fun he => ⟨hp, hz, hlt, qAd hp, _, _, hrow, ?_⟩, fun he => ⟨h.succ hlt, hJ hl _ _ ⟨rfl, ?_⟩⟩⟩
  ·rw [ha, if_pos he]; exact ⟨rfl, rfl⟩
  ·rw [ha, if_neg he]
 ·rw [ha, (h.done hge).1]; exact ⟨rfl, rfl⟩
theorem c100 (h : Ds.Ok V d) {s t : ByteArray} : PP 100 [d.v, .string s, .string t] V (.tuple #[.string (qCL d s t).1, .int .i64 (qCL d s t).2]) := by
 refine x100 ?_
 unfold w100
 refine (c132 h).call ⟨_, rfl, ?_⟩
 unfold qCL tyOf
 rcases qAK (fun t : Ty => decide (t.name = s)) d.types with ⟨h1, h2, h3⟩ | ⟨i, x, h1, h2, h3, h4, h5, h6, h7, _⟩
 ·rw [h1, h2]; exact ⟨fun _ => ⟨rfl, rfl⟩, fun h => absurd h (by decide)⟩
 ·rw [h1, h3]
  have hn := h.types.n_eq
  have hlt : (i : Int) < (d.ts.n : Int) := by omega
  obtain ⟨y, hm, hx, hdr, hl, hp, hz, hrow⟩ := h.types.get hlt
  rw [h2] at hx
  cases hx
  refine ⟨fun h => absurd h (by omega), fun _ => ⟨hp, hz, hlt, qAd hp, _, _, hrow, (c99 (h.typesOk x h6).fields).call ⟨_, rfl, fun he => ?_, fun he => ?_⟩⟩⟩
  ·simp only [sE, he, if_true]; exact ⟨by first | rfl | trivial, by first | rfl | trivial⟩
  ·simp only [sE, he, if_false]; exact ⟨by first | rfl | trivial, by first | rfl | trivial⟩
theorem c103 {b : Bool} {s : ByteArray} : PP 103 [.bool b, .string s] V (.tuple #[.string (qCX b s).1, .int .i64 (qCX b s).2]) := by
 refine x103 ?_
 unfold w103
 refine ⟨fun h => ?_, fun h => ?_⟩
 ·unfold qCX; rw [if_pos h]; exact ⟨rfl, rfl⟩
 ·unfold qCX; rw [if_neg h]; exact ⟨rfl, rfl⟩
theorem c105 {l : Sl} {xs : List ByteArray} (h : qAc V l 1 (xs.map qAM)) {s : ByteArray} : PP 105 [l.v, .string s] V (.bool (allT xs s)) := by
 refine x105 ?_
 unfold w105
 refine qAA xs.length (fun i V1 => V = V1 /\ qAD (fun x => decide (x = s)) xs i) ⟨rfl, qAD.zero _ _⟩ ?_
 rintro i b V1 J hi ⟨rfl, ha⟩ hJ
 refine ⟨fun hlt => ?_, fun hge => ?_⟩
 ·obtain ⟨x, hm, hx, hdr, hl, hp, hz, hrow⟩ := h.get hlt
  refine ⟨hp, hz, hlt, _, hrow, fun he => ⟨h.succ hlt, hJ hl _ _ ⟨rfl, ha.succ hx (decide_eq_true he)⟩⟩, fun he => ?_⟩
  unfold allT; rw [qBp (p := fun x => decide (x = s)) hm (by simpa using he)]; exact ⟨rfl, rfl⟩
 ·unfold allT; rw [ha.all (h.done hge).2]; exact ⟨rfl, rfl⟩
theorem c150 (h : Ds.Ok V d) {s : ByteArray} {l : Sl} {xs : List ByteArray} (hl : qAc V l 1 (xs.map qAM)) : PP 150 [d.v, .string s, l.v] V (.tuple #[.string (qJK d s xs).1, .int .i64 (qJK d s xs).2]) := by
 refine x150 ?_
 unfold w150
 refine (c186 h).call ⟨_, rfl, ?_⟩
 unfold qJK qEW
 rcases qAK (fun t : Pr => decide (t.name = s)) d.procs with ⟨h1, h2, h3⟩ | ⟨i, x, h1, h2, h3, h4, h5, h6, h7, _⟩
 ·rw [h1, h2]; exact ⟨fun _ => ⟨rfl, rfl⟩, fun h => absurd h (by decide)⟩
 ·rw [h1, h3]
  have hn := h.procs.n_eq
  have hlt : (i : Int) < (d.ps.n : Int) := by omega
  obtain ⟨y, hm, hx, hdr, hll, hp, hz, hrow⟩ := h.procs.get hlt
  rw [h2] at hx
  cases hx
  have hox := h.procsOk x h6
  have e1 := hl.n_eq
  have e2 := hox.params.n_eq
  refine ⟨fun h => absurd h (by omega), fun _ => ⟨hp, hz, hlt, _, _, _, _, _, hrow, fun he => ?_, fun he => ?_⟩⟩
  ·have hle : xs.length = x.params.length := by omega
   simp only [hle, ne_eq, not_true_eq_false, if_false]
   refine qDx xs.length (fun i V1 => V = V1 /\ qEx d xs x.params = qEx d (xs.drop i) (x.params.drop i)) ⟨rfl, rfl⟩ ?_
   rintro j b c V1 J hi ⟨rfl, ha⟩ hJ
   refine ⟨fun hlt => ?_, fun hge => ?_⟩
   ·obtain ⟨y, hm', hx', hdr', hl', hp', hz', hrow'⟩ := hl.get hlt
    obtain ⟨f, hmf, hxf, hdf, hlf, hpf, hzf, hrowf⟩ := hox.params.get (i := j) (by omega)
    rw [hdr', hdf, qEx] at ha
    refine ⟨hp', hz', hlt, _, hrow', hpf, hzf, by omega, qAd hpf, _, _, hrowf, (c104 h).call ⟨_, rfl, fun hb => ⟨hl.succ hlt, hJ hl' _ _ _ ⟨rfl, ?_⟩⟩, fun hb => ?_⟩⟩
    ·rw [ha, hb, Bool.true_and]
    ·rw [eq_false_of_ne_true hb, Bool.false_and] at ha; rw [ha]; exact ⟨rfl, rfl⟩
   ·rw [(hl.done hge).1, qIM] at ha
    rw [ha]; exact ⟨rfl, rfl⟩
  ·have hle : ¬ xs.length = x.params.length := by omega
   simp only [ne_eq, hle, not_false_eq_true, if_true]; exact ⟨by first | rfl | trivial, by first | rfl | trivial⟩
theorem qDJ {l : Sl} {xs : List ByteArray} (hl : qAc V l 1 (xs.map qAM)) {i : Nat} (hi : i < xs.length) : ¬ (l.p = none) /\ (i : Int) < (l.n : Int) /\ V.rowp l.p i 1 = some [.string (xs.getD i sE)] := by
 have hn := hl.n_eq
 have hlt : (i : Int) < (l.n : Int) := by omega
 obtain ⟨y, hm', hx', hdr', hl', hp', hz', hrow'⟩ := hl.get hlt
 rw [List.getD_eq_getElem?_getD, hx']
 rw [Nat.mul_one] at hrow'
 exact ⟨hp', hlt, hrow'⟩
theorem c102 (h : Ds.Ok V d) {sl : Sl} {sc : Sc} {s : ByteArray} {l : Sl} {xs : List ByteArray} (hl : qAc V l 1 (xs.map qAM)) :
  PP 102 [d.v, .agg #[sl.v, .bool sc.body], .string s, l.v] V (.tuple #[.string (qId d sc s xs).1, .int .i64 (qId d sc s xs).2]) := by
 refine x102 ?_
 unfold w102
 refine ⟨fun hb => (c150 h hl).call ⟨_, _, rfl, fun h0 => ⟨fun h1 => ?_, fun h1 => ?_⟩, fun h0 => ?_⟩, fun hb => ?_⟩
 ·unfold qId sE; rw [if_pos hb, if_pos ⟨h0, h1⟩]; exact ⟨rfl, rfl⟩
 ·unfold qId sE; rw [if_pos hb, if_neg (fun h => h1 h.2)]; exact ⟨rfl, rfl⟩
 ·unfold qId; rw [if_pos hb, if_neg (fun h => h0 h.1)]; exact ⟨rfl, rfl⟩
 ·unfold qId; rw [if_neg hb]
  refine (c151 h).call ⟨_, rfl, ?_⟩
  unfold qHY meOf
  rcases qAK (fun t : Ms => decide (t.name = s)) d.measures with ⟨h1, h2, h3⟩ | ⟨i, x, h1, h2, h3, h4, h5, h6, h7, _⟩
  ·rw [h1, h2]; exact ⟨fun _ => ⟨rfl, rfl⟩, fun h => absurd h (by decide)⟩
  ·rw [h1, h3]
   have hn := h.measures.n_eq
   have hlt : (i : Int) < (d.ms.n : Int) := by omega
   obtain ⟨y, hm, hx, hdr, hll, hp, hz, hrow⟩ := h.measures.get hlt
   rw [h2] at hx
   cases hx
   have e1 := hl.n_eq
   refine ⟨fun h => absurd h (by omega), fun _ => ⟨fun he => ?_, fun he => ?_⟩⟩
   ·have hle : xs.length = 1 := by omega
    obtain ⟨a1, a2, a3⟩ := qDJ hl (i := 0) (by omega)
    simp only [hle, ne_eq, not_true_eq_false, if_false]
    exact ⟨a1, by omega, by omega, _, a3, hp, hz, hlt, qAd hp, _, _, _, _, _, _, _, hrow, (c104 h).call ⟨_, rfl, c103.call ⟨_, _, rfl, rfl, rfl⟩⟩⟩
   ·have hle : ¬ xs.length = 1 := by omega
    simp only [ne_eq, hle, not_false_eq_true, if_true]; exact ⟨by first | rfl | trivial, by first | rfl | trivial⟩
end
theorem arity {op n : Int} {s : ByteArray} {len : Int} (h : qCW op n s len = true) : (op = 5 -> len = 1) /\ (op = 14 ∨ op = 15 -> len = 2) /\ (op = 21 -> len = 3) /\ len <= 6 := by
 unfold qCW qAI at h
 rw [Bool.and_eq_true, Bool.and_eq_true, decide_eq_true_eq] at h
 obtain ⟨⟨h, -⟩, -⟩ := h
 grind
theorem qEZ {d : Int} {e : E} (h : okE d e = true) : qCW e.op e.n e.s e.k.length = true := by
 cases e
 unfold okE at h
 rw [Bool.and_eq_true, Bool.and_eq_true] at h
 exact h.1.2
theorem okEs_mem {d : Int} : ∀ {l : List E}, okEs d l = true -> ∀ x ∈ l, okE d x = true
 | [], _, x, hx => absurd hx List.not_mem_nil
 | y :: l, h, x, hx => by
  unfold okEs at h
  rw [Bool.and_eq_true] at h
  rcases List.mem_cons.1 hx with rfl | hx
  ·exact h.1
  ·exact okEs_mem h.2 x hx
theorem qGz {d : Int} {e : E} (h : okE d e = true) : ∀ x ∈ e.k, okE (d + 1) x = true := by
 cases e
 unfold okE at h
 rw [Bool.and_eq_true] at h
 exact okEs_mem h.2
theorem ownS {V0 V : Mem} {s : Sl} {l : List ByteArray} (h : Own V0 V 9 1 s (l.flatMap qAM)) : qAc V s 1 (l.map qAM) := h.rows (fun _ => rfl) (by decide)
theorem qHh {V : Mem} {b : Nat} {s : ByteArray} {t : Nat} (h : V b = some (.cells #[.string s] t (0, 0))) : qAc V ⟨some ⟨b, 0, none⟩, 1, 1⟩ 1 ([s].map qAM) :=
 qAc.cells (xs := [s]) (row := qAM) h rfl (fun _ => rfl) rfl (by simp)
def scV (sl : Sl) (sc : Sc) : Value := .agg #[sl.v, .bool sc.body]
section
variable {V : Mem} {d : Ds} {sc : Sc} {sl : Sl}
def RefE (V : Mem) (d : Ds) (sl : Sl) (sc : Sc) (e : E) : Prop := ∀ V1, V.sub V1 -> PP 64 [d.v, scV sl sc, e.v] V1 (.tuple #[.string (qAy d sc e).1, .int .i64 (qAy d sc e).2])
theorem refParts (e : E) (he : E.Ok V e) (hlen : (e.k.length : Int) <= 6) (hk : ∀ x ∈ e.k, RefE V d sl sc x) :
  Tri Tryz.prog 98 #[d.v, scV sl sc, e.v] V fun r V' => ∃ s' : Sl, r = .returned (.tuple #[.slice s'.p s'.n s'.c, .int .i64 (partsT d sc [] e.k).2]) /\ V.sub V' /\ qAc V' s' 1 ((partsT d sc [] e.k).1.map qAM) := by
 have hr := he.rows
 refine x98 ?_
 unfold w98
 refine loop4s (mk := fun s : Sl => .slice s.p s.n s.c) (mc := .int .i64) (md := fun s : Sl => .slice s.p s.n s.c) ⟨none, 0, 0⟩ 0 ⟨none, 0, 0⟩ qEv e.k.length (fun i s V1 => ∃ acc, Own V V1 9 1 s (acc.flatMap qAM) /\ partsT d sc [] e.k = partsT d sc acc (e.k.drop i) /\ acc.length = i) ⟨[], Own.nil (Mem.sub.refl _) _ _, rfl, rfl⟩ ?_
 rintro i b c s V1 J hi ⟨acc, hown, hp, hlen'⟩ hJ
 have hr1 := hr.sub hown.sub
 refine ⟨fun hlt => ?_, fun hge => ?_⟩
 ·obtain ⟨x, hm, hx, hdr, hl, hpp, hz, hrow⟩ := hr1.get hlt
  rw [hdr, qBS] at hp
  refine ⟨hpp, hz, hlt, _, _, _, _, hrow, (hk x hm V1 hown.sub).call ⟨_, _, rfl, fun h0 => ?_, fun h0 => ?_⟩⟩
  ·intro b1 hb1
   rw [if_neg (fun h => h h0)] at hp
   refine app174 (s := s) (u := ⟨some ⟨b1, 0, none⟩, 1, 1⟩) (xs := acc) (ys := [(qAy d sc x).1]) rfl rfl (hown.new hb1 _) (qHh mss) (by simp; omega) fun s' V' ho => ⟨s', rfl, hr1.succ hlt, hJ hl _ _ _ _ ⟨_, ho, hp, by simp [hlen']⟩⟩
  ·rw [if_pos h0] at hp
   exact ⟨⟨none, 0, 0⟩, by rw [hp], hown.sub, by rw [hp]; exact qAc.nil⟩
 ·rw [(hr1.done hge).1, qCi] at hp
  exact ⟨s, by rw [hp], hown.sub, by rw [hp]; exact ownS hown⟩
set_option maxRecDepth 4000 in
theorem refExpr (hd : Ds.Ok V d) (hsl : qAc V sl 2 (sc.vars.map Fld.row)) : ∀ (e : E), E.Ok V e -> ∀ dd, okE dd e = true -> RefE V d sl sc e := by
 intro e
 induction e using E.ind with
 | h e ih =>
 intro he dd hok V1 hV
 have har := arity (qEZ hok)
 have hk : ∀ x ∈ e.k, RefE V1 d sl sc x := fun x hx V2 h2 => ih x hx (he.kids x hx) (dd + 1) (qGz hok x hx) V2 (hV.trans h2)
 refine Pur.mk (x64 ?_)
 unfold w64
 refine Tri.mono (refParts e (he.sub hV) har.2.2.2 hk) ?_
 rintro _ V2 ⟨s', rfl, h12, hrows⟩
 rw [qGH]
 have hlen := qFG d sc e.k []
 generalize hPT : partsT d sc [] e.k = pt at hrows hlen
 obtain ⟨l, f⟩ := pt
 refine ⟨s', f, rfl, fun h0 => ?_, fun h0 => ?_⟩
 ·subst h0
  have hlen : l.length = e.k.length := by simpa using hlen rfl
  simp only [ne_eq, not_true_eq_false, if_false]
  have hd2 := hd.sub (hV.trans h12)
  have hsl2 := hsl.sub (hV.trans h12)
  generalize hX : qHi d sc e.op e.s l = X
  have key : ∀ a b, X = (a, b) -> (Ending.returned (.tuple #[.string a, .int .i64 b]) = Ending.returned (.tuple #[.string X.1, .int .i64 X.2]) /\ V1.sub V2) := fun a b h => by rw [h]; exact ⟨rfl, h12⟩
  have cAll := fun t => c105 hrows (s := t)
  have cFits := fun a b => c104 hd2 (s := a) (t := b)
  have at0 := fun h : 0 < l.length => qDJ hrows h
  have at1 := fun h : 1 < l.length => qDJ hrows h
  have at2 := fun h : 2 < l.length => qDJ hrows h
  unfold qHi at hX
  refine ⟨fun o1 => key _ _ ?_, fun o1 => ⟨fun o2 => key _ _ ?_, fun o2 => ⟨fun o3 => key _ _ ?_, fun o3 => ⟨fun o4 => ?_, fun o4 => ⟨fun o5 => ?_, fun o5 => ⟨fun o6 => ?_, fun o6 => ⟨fun o7 => ?_, fun o7 => ⟨fun o14 => ?_, fun o14 => ⟨fun o15 => ?_, fun o15 => ⟨fun o16 => ?_, fun o16 => ⟨fun o17 => ?_, fun o17 => ⟨fun o18 => ?_, fun o18 => ⟨fun o19 => ?_, fun o19 => ⟨fun o20 => ?_, fun o20 => ⟨fun o21 => ?_, fun o21 => ?_⟩⟩⟩⟩⟩⟩⟩⟩⟩⟩⟩⟩⟩⟩⟩
  ·rw [<- hX, if_pos o1]; rfl
  ·rw [<- hX, if_neg o1, if_pos o2]; rfl
  ·rw [<- hX, if_neg o1, if_neg o2, if_pos o3]; rfl
  ·rw [if_neg o1, if_neg o2, if_neg o3, if_pos o4] at hX
   refine (c99 hsl2).call ⟨_, rfl, fun h => key _ _ ?_, fun h => key _ _ ?_⟩
   ·rw [<- hX, if_pos (show qBK sc.vars e.s = sE from h)]; rfl
   ·rw [<- hX, if_neg (show ¬ qBK sc.vars e.s = sE from h)]
  ·rw [if_neg o1, if_neg o2, if_neg o3, if_neg o4, if_pos o5] at hX
   obtain ⟨a1, a2, a3⟩ := at0 (by have := har.1 o5; omega)
   exact ⟨a1, by omega, a2, _, a3, (c100 hd2).call ⟨_, _, rfl, key _ _ (by rw [<- hX])⟩⟩
  ·rw [if_neg o1, if_neg o2, if_neg o3, if_neg o4, if_neg o5, if_pos o6] at hX
   refine ⟨fun hb => (c101 hd2).call ⟨_, rfl, fun hn => key _ _ ?_, fun hn => key _ _ ?_⟩, fun hb => key _ _ ?_⟩
   ·rw [<- hX, if_neg (by rw [hb]; simp), if_neg (by rw [hn]; simp)]
   ·rw [<- hX, if_neg (by rw [hb]; simp), if_pos (eq_false_of_ne_true hn)]; rfl
   ·rw [<- hX, if_pos (eq_false_of_ne_true hb)]; rfl
  ·rw [if_neg o1, if_neg o2, if_neg o3, if_neg o4, if_neg o5, if_neg o6, if_pos o7] at hX
   exact (c102 hd2 (sl := sl) hrows).call ⟨_, _, rfl, key _ _ (by rw [<- hX])⟩
  iterate 2
   ·rw [if_neg o1, if_neg o2, if_neg o3, if_neg o4, if_neg o5, if_neg o6, if_neg o7, if_pos (by omega)] at hX
    obtain ⟨a1, a2, a3⟩ := at0 (by have := har.2.1 (by omega); omega)
    obtain ⟨b1, b2, b3⟩ := at1 (by have := har.2.1 (by omega); omega)
    refine ⟨a1, by omega, a2, _, a3, b1, by omega, b2, _, b3, (cFits _ _).call ⟨_, rfl, fun h => c103.call ⟨_, _, rfl, key _ _ ?_⟩, fun h => ⟨b1, by omega, b2, _, b3, a1, by omega, a2, _, a3, (cFits _ _).call ⟨_, rfl, c103.call ⟨_, _, rfl, key _ _ ?_⟩⟩⟩⟩⟩
    ·rw [<- hX, h]; rfl
    ·rw [<- hX, eq_false_of_ne_true h]; rfl
  iterate 2
   ·rw [if_neg o1, if_neg o2, if_neg o3, if_neg o4, if_neg o5, if_neg o6, if_neg o7, if_neg (by omega), if_pos (by omega)] at hX
    exact (cAll _).call ⟨_, rfl, c103.call ⟨_, _, rfl, key _ _ (by rw [<- hX]; rfl)⟩⟩
  iterate 3
   ·rw [if_neg o1, if_neg o2, if_neg o3, if_neg o4, if_neg o5, if_neg o6, if_neg o7, if_neg (by omega), if_neg (by omega), if_pos (by omega)] at hX
    exact (cAll _).call ⟨_, rfl, c103.call ⟨_, _, rfl, key _ _ (by rw [<- hX]; rfl)⟩⟩
  ·rw [if_neg o1, if_neg o2, if_neg o3, if_neg o4, if_neg o5, if_neg o6, if_neg o7, if_neg (by omega), if_neg (by omega), if_neg (by omega), if_pos o21] at hX
   obtain ⟨a1, a2, a3⟩ := at0 (by have := har.2.2.1 o21; omega)
   obtain ⟨b1, b2, b3⟩ := at1 (by have := har.2.2.1 o21; omega)
   obtain ⟨c1, c2, c3⟩ := at2 (by have := har.2.2.1 o21; omega)
   have fin : ∀ t, (if l.getD 1 sE = sNil then l.getD 2 sE else l.getD 1 sE) = t ->
     (l.getD 0 sE = qAs -> qFv d (l.getD 1 sE) (l.getD 2 sE) = true -> X = qCX true t) /\ (l.getD 0 sE = qAs -> ¬ qFv d (l.getD 1 sE) (l.getD 2 sE) = true -> X = qCX (qFv d (l.getD 2 sE) (l.getD 1 sE)) t) /\ (¬ l.getD 0 sE = qAs -> X = qCX false t) := fun t ht => by
    rw [ht] at hX
    refine ⟨fun x y => ?_, fun x y => ?_, fun x => ?_⟩
    ·rw [<- hX, decide_eq_true x, y]; rfl
    ·rw [<- hX, decide_eq_true x, eq_false_of_ne_true y]; rfl
    ·rw [<- hX, decide_eq_false x]; rfl
   refine ⟨b1, by omega, b2, _, b3, fun hn => ?_, fun hn => ?_⟩
   ·have hf := fin _ (if_pos hn)
    refine ⟨c1, by omega, c2, _, c3, a1, by omega, a2, _, a3, fun h0 => ⟨b1, by omega, b2, _, b3, c1, by omega, c2, _, c3, (cFits _ _).call ⟨_, rfl, fun h => c103.call ⟨_, _, rfl, key _ _ ?_⟩, fun h => ⟨c1, by omega, c2, _, c3, b1, by omega, b2, _, b3, (cFits _ _).call ⟨_, rfl, c103.call ⟨_, _, rfl, key _ _ ?_⟩⟩⟩⟩⟩, fun h0 => c103.call ⟨_, _, rfl, key _ _ ?_⟩⟩
    ·exact hf.1 h0 h
    ·exact hf.2.1 h0 h
    ·exact hf.2.2 h0
   ·have hf := fin _ (if_neg hn)
    refine ⟨a1, by omega, a2, _, a3, fun h0 => ⟨b1, by omega, b2, _, b3, c1, by omega, c2, _, c3, (cFits _ _).call ⟨_, rfl, fun h => c103.call ⟨_, _, rfl, key _ _ ?_⟩, fun h => ⟨c1, by omega, c2, _, c3, b1, by omega, b2, _, b3, (cFits _ _).call ⟨_, rfl, c103.call ⟨_, _, rfl, key _ _ ?_⟩⟩⟩⟩⟩, fun h0 => c103.call ⟨_, _, rfl, key _ _ ?_⟩⟩
    ·exact hf.1 h0 h
    ·exact hf.2.1 h0 h
    ·exact hf.2.2 h0
  ·rw [if_neg o1, if_neg o2, if_neg o3, if_neg o4, if_neg o5, if_neg o6, if_neg o7, if_neg (by omega), if_neg (by omega), if_neg (by omega), if_neg o21] at hX
   exact (cAll _).call ⟨_, rfl, c103.call ⟨_, _, rfl, key _ _ (by rw [<- hX]; rfl)⟩⟩
 ·simp only [ne_eq, h0, not_false_eq_true, if_true]
  exact ⟨rfl, h12⟩
end
theorem ownF {V0 V : Mem} {s : Sl} {l : List Fld} (h : Own V0 V 110 2 s (l.flatMap Fld.row)) : qAc V s 2 (l.map Fld.row) := h.rows (fun _ => rfl) (by decide)
theorem one_fld {V : Mem} {b : Nat} {f : Fld} {t : Nat} (h : V b = some (.cells #[.string f.name, .string f.ty] t (0, 0))) : qAc V ⟨some ⟨b, 0, none⟩, 1, 1⟩ 2 ([f].map Fld.row) :=
 qAc.cells (xs := [f]) (row := Fld.row) h rfl (fun _ => rfl) rfl (by simp)
section
variable {V : Mem} {d : Ds}
def Small (d : Ds) : Prop := d.globals.length <= 1000 /\ ∀ p ∈ d.procs, p.params.length <= 1000 /\ p.locals.length <= 1000
theorem refInProc (hd : Ds.Ok V d) {p : Pr} (hp : Pr.Ok V p) (h1 : d.globals.length <= 1000) (h2 : p.params.length <= 1000 /\ p.locals.length <= 1000) :
  Tri Tryz.prog 237 #[d.v, p.v] V fun r V' => ∃ s' : Sl, r = .returned (scV s' (qAH d p)) /\ V.sub V' /\ qAc V' s' 2 ((qAH d p).vars.map Fld.row) := by
 refine x237 ?_
 unfold w237
 intro b hb
 have hs := Mem.sub_new hb (.cells #[] 110 (0, 0))
 refine qHO (s := ⟨some ⟨b, 0, none⟩, 0, 0⟩) (u := p.ps) (xs := []) (ys := p.params) rfl rfl (Own.empty hs _ _ _) (hp.params.sub hs) (by first | omega | (simp; omega)) fun s1 V1 o1 => ⟨s1, rfl, ?_⟩
 refine qHO (s := s1) (u := p.ls) (xs := p.params) (ys := p.locals) rfl rfl o1 (hp.locals.sub o1.sub) (by first | omega | (simp; omega)) fun s2 V2 o2 => ⟨s2, rfl, ?_⟩
 refine qHO (s := s2) (u := d.gs) (xs := p.params ++ p.locals) (ys := d.globals) rfl rfl o2 (hd.globals.sub o2.sub) (by first | omega | (simp; omega)) fun s3 V3 o3 => ⟨s3, rfl, ?_⟩
 exact ⟨s3, rfl, o3.sub, ownF o3⟩
theorem refInBound (hd : Ds.Ok V d) {p : Pr} (hp : Pr.Ok V p) (h1 : d.globals.length <= 1000) (h2 : p.params.length <= 1000 /\ p.locals.length <= 1000) :
  Tri Tryz.prog 190 #[d.v, p.v] V fun r V' => ∃ s' : Sl, r = .returned (scV s' (qBj d p)) /\ V.sub V' /\ qAc V' s' 2 ((qBj d p).vars.map Fld.row) := by
 refine x190 ?_
 unfold w190
 intro b hb
 have hs := Mem.sub_new hb (.cells #[] 110 (0, 0))
 refine qHO (s := ⟨some ⟨b, 0, none⟩, 0, 0⟩) (u := p.ps) (xs := []) (ys := p.params) rfl rfl (Own.empty hs _ _ _) (hp.params.sub hs) (by first | omega | (simp; omega)) fun s1 V1 o1 => ⟨s1, rfl, ?_⟩
 refine qHO (s := s1) (u := d.gs) (xs := p.params) (ys := d.globals) rfl rfl o1 (hd.globals.sub o1.sub) (by first | omega | (simp; omega)) fun s3 V3 o3 => ⟨s3, rfl, ?_⟩
 exact ⟨s3, rfl, o3.sub, ownF o3⟩
theorem qDR (hd : Ds.Ok V d) {t : ByteArray} (h1 : d.globals.length <= 1000) :
  Tri Tryz.prog 65 #[d.v, .string t] V fun r V' => ∃ s' : Sl, r = .returned (scV s' (qAk d t)) /\ V.sub V' /\ qAc V' s' 2 ((qAk d t).vars.map Fld.row) := by
 refine x65 ?_
 unfold w65
 refine ⟨fun he => ?_, fun he => ?_⟩
 ·refine qHO (s := ⟨none, 0, 0⟩) (u := d.gs) (xs := []) (ys := d.globals) rfl rfl (Own.nil (Mem.sub.refl V) _ _) hd.globals (by first | omega | (simp; omega)) fun s1 V1 o1 => ⟨s1, rfl, ?_⟩
  refine ⟨s1, rfl, o1.sub, ?_⟩
  unfold qAk sE
  rw [if_pos he]
  exact ownF o1
 ·intro b hb
  have hs := Mem.sub_new hb (.cells #[.string (qAj [116, 104, 105, 115]), .string t] 110 (0, 0))
  refine qHO (s := ⟨none, 0, 0⟩) (u := ⟨some ⟨b, 0, none⟩, 1, 1⟩) (xs := []) (ys := [⟨qBI, t⟩]) rfl rfl (Own.nil hs _ _) (one_fld mss) (by simp) fun s1 V1 o1 => ⟨s1, rfl, ?_⟩
  refine qHO (s := s1) (u := d.gs) (xs := [⟨qBI, t⟩]) (ys := d.globals) rfl rfl o1 (hd.globals.sub o1.sub) (by first | omega | (simp; omega)) fun s2 V2 o2 => ⟨s2, rfl, ?_⟩
  refine ⟨s2, rfl, o2.sub, ?_⟩
  unfold qAk sE
  rw [if_neg he]
  exact ownF o2
theorem qGW {op : Int} {s : ByteArray} {es : List E} {nl nx : Int} (h : qCg op s es nl nx = true) : (op = 6 -> ∃ e0, es = [e0] /\ e0.op = 7) /\ (op = 1 ∨ op = 3 ∨ op = 4 -> es.length = 1) /\ (op = 2 -> es.length = 2) /\ (op = 5 -> es.length <= 1) /\ es.length <= 2 /\ (∀ x ∈ es, okE 1 x = true) := by
 unfold qCg at h
 rw [Bool.and_eq_true] at h
 obtain ⟨h, hv⟩ := h
 have hall : ∀ x ∈ es, okE 1 x = true := fun x hx => by
  have := List.all_eq_true.1 hv x hx
  unfold qBy at this
  exact (of_decide_eq_true this).1
 unfold qIn at h
 have h6 : op = 6 -> ∃ e0, es = [e0] /\ e0.op = 7 := fun h6 => by
  subst h6
  simp only [show ¬ ((6 : Int) = 1) by decide, show ¬ ((6 : Int) = 2) by decide, show ¬ ((6 : Int) = 3) by decide, show ¬ ((6 : Int) = 4) by decide, show ¬ ((6 : Int) = 5) by decide, if_false, if_true, decide_eq_true_eq] at h
  match es, h with
  | [e0], h => exact ⟨e0, rfl, h.2.2.1⟩
  | [], h => simp at h
  | _ :: _ :: _, h => simp at h; omega
 refine ⟨h6, ?_, ?_, ?_, ?_, hall⟩ <;> grind
theorem c188 (hd : Ds.Ok V d) {p : Pr} (hp : Pr.Ok V p) (h1 : d.globals.length <= 1000) (h2 : p.params.length <= 1000 /\ p.locals.length <= 1000) {x : S} (hx : S.Ok V x) (hs : qCg x.op x.s x.es x.ls.length x.xs.length = true) :
  PP 188 [d.v, p.v, x.v] V (.int .i64 (qES d (qAH d p) p.result x.op x.s x.es)) := by
 obtain ⟨a6, a134, a2, a5, alen, aok⟩ := qGW hs
 rw [S.v_eq]
 refine Pur.mk (x188 ?_)
 unfold w188
 refine Tri.mono (refInProc hd hp h1 h2) ?_
 rintro _ V1 ⟨sv, rfl, hV1, hsc⟩
 generalize hscE : qAH d p = sc at hsc
 have hbody : sc.body = true := by rw [<- hscE]; rfl
 have hd1 := hd.sub hV1
 have hf := qFh (hx.sub hV1)
 refine ⟨sv, sc.body, rfl, fun o6 => ?_, fun o6 => ?_⟩
 ·obtain ⟨e0, he0, -⟩ := a6 o6
  rcases hf with ⟨h, -⟩ | ⟨e0', r, he, hn, hp0, hp2, hrow⟩
  ·rw [he0] at h; cases h
  ·rw [he0] at he
   cases he
   have hok := aok e0 (by rw [he0]; simp)
   have hoe := (hx.sub hV1).eOk e0 (by rw [he0]; simp)
   have hk : ∀ y ∈ e0.k, RefE V1 d sv sc y := fun y hy => refExpr hd1 hsc y (hoe.kids y hy) 2 (qGz hok y hy)
   refine ⟨hp0, by omega, by omega, _, _, _, _, hrow, Tri.mono (refParts e0 hoe (arity (qEZ hok)).2.2.2 hk) ?_⟩
   rintro _ V2 ⟨s', rfl, h12, hrows⟩
   unfold qES
   rw [if_pos o6, he0]
   simp only
   generalize hPT : partsT d sc [] e0.k = pt at hrows
   obtain ⟨l, f⟩ := pt
   have hrow2 := h12.rowp hrow
   refine ⟨s', f, rfl, fun h0 => ⟨hp0, by omega, by omega, hp2, _, _, _, _, hrow2, (c150 (hd1.sub h12) hrows).call ⟨_, _, rfl, ?_, hV1.trans h12⟩⟩, fun h0 => ?_⟩
   ·simp only [h0, ne_eq, not_true_eq_false, if_false]
   ·simp only [h0, ne_eq, not_false_eq_true, if_true]; exact ⟨by trivial, hV1.trans h12⟩
 ·unfold qES
  rw [if_neg o6]
  have hr := (hx.sub hV1).eRows
  refine qGe (mk := .int .i64) (mc := fun s : Sl => .slice s.p s.n s.c) 0 ⟨none, 0, 0⟩ qEv x.es.length (fun i s V2 => ∃ acc, Own V1 V2 9 1 s (acc.flatMap qAM) /\ partsT d sc [] x.es = partsT d sc acc (x.es.drop i) /\ acc.length = i) ⟨[], Own.nil (Mem.sub.refl _) _ _, rfl, rfl⟩ ?_
  rintro i b s V2 J hi ⟨acc, hown, hpt, hlen'⟩ hJ
  have hr1 := hr.sub hown.sub
  refine ⟨fun hlt => ?_, fun hge => ?_⟩
  ·obtain ⟨y, hm, hxy, hdr, hl, hpp, hz, hrow⟩ := hr1.get hlt
   rw [hdr, qBS] at hpt
   refine ⟨hpp, hz, hlt, _, _, _, _, hrow, (refExpr hd1 hsc y ((hx.sub hV1).eOk y hm) 1 (aok y hm) V2 hown.sub).call ⟨_, _, rfl, fun h0 => ?_, fun h0 => ?_⟩⟩
   ·intro b1 hb1
    rw [if_neg (fun h => h h0)] at hpt
    refine app174 (s := s) (u := ⟨some ⟨b1, 0, none⟩, 1, 1⟩) (xs := acc) (ys := [(qAy d sc y).1]) rfl rfl (hown.new hb1 _) (qHh mss) (by first | omega | (simp; omega)) fun s' V' ho => ⟨s', rfl, hr1.succ hlt, hJ hl _ _ _ ⟨_, ho, hpt, by simp [hlen']⟩⟩
   ·rw [if_pos h0] at hpt
    rw [hpt]
    simp only [h0, ne_eq, not_false_eq_true, if_true]
    exact ⟨by trivial, hV1.trans hown.sub⟩
  ·have hge' := (hr1.done hge).2
   rw [(hr1.done hge).1, qCi] at hpt
   rw [hpt]
   simp only [ne_eq, not_true_eq_false, if_false]
   have hrows := ownS hown
   have hal : acc.length = x.es.length := by omega
   have hsub := hV1.trans hown.sub
   have hd2 := hd1.sub hown.sub
   have hsc2 := hsc.sub hown.sub
   have sln := hrows.n_eq
   have at0 := fun h : 0 < acc.length => qDJ hrows h
   have at1 := fun h : 1 < acc.length => qDJ hrows h
   have key : ∀ X n : Int, X = n -> (Ending.returned (.int .i64 n) = Ending.returned (.int .i64 X) /\ V.sub V2) := fun X n h => by rw [h]; exact ⟨rfl, hsub⟩
   refine ⟨fun o1 => (c99 hsc2).call ⟨_, rfl, fun hl => key _ _ ?_, fun hl => ?_⟩, fun o1 => ⟨fun o2 => ?_, fun o2 => ⟨fun o3 => ?_, fun o3 => ⟨fun o4 => ?_, fun o4 => ⟨fun o5 => ?_, fun o5 => key _ _ ?_⟩⟩⟩⟩⟩
   ·rw [if_pos o1, if_pos (show qBK sc.vars x.s = sE from hl)]
   ·obtain ⟨b1, b2, b3⟩ := at0 (by have := a134 (by omega); omega)
    refine ⟨b1, by omega, b2, _, b3, (c104 hd2).call ⟨_, rfl, fun hb => key _ _ ?_, fun hb => key _ _ ?_⟩⟩
    ·rw [if_pos o1, if_neg (show ¬ qBK sc.vars x.s = sE from hl), if_pos hb]
    ·rw [if_pos o1, if_neg (show ¬ qBK sc.vars x.s = sE from hl), if_neg hb]
   ·obtain ⟨b1, b2, b3⟩ := at0 (by have := a2 o2; omega)
    obtain ⟨c1, c2, c3⟩ := at1 (by have := a2 o2; omega)
    rw [if_neg o1, if_pos o2]
    refine ⟨b1, by omega, b2, _, b3, (c100 hd2).call ⟨_, _, rfl, fun hb => ⟨c1, by omega, c2, _, c3, (c104 hd2).call ⟨_, rfl, fun hc => key _ _ ?_, fun hc => key _ _ ?_⟩⟩, fun hb => key _ _ ?_⟩⟩
    ·rw [if_neg (fun h => h hb), if_pos hc]
    ·rw [if_neg (fun h => h hb), if_neg hc]
    ·rw [if_pos hb]
   ·obtain ⟨b1, b2, b3⟩ := at0 (by have := a134 (by omega); omega)
    rw [if_neg o1, if_neg o2, if_pos (Or.inl o3)]
    exact ⟨b1, by omega, b2, _, b3, fun h => key _ _ (by rw [if_pos (show _ = qAs from h)]), fun h => key _ _ (by rw [if_neg (show ¬ _ = qAs from h)])⟩
   ·obtain ⟨b1, b2, b3⟩ := at0 (by have := a134 (by omega); omega)
    rw [if_neg o1, if_neg o2, if_pos (Or.inr o4)]
    exact ⟨b1, by omega, b2, _, b3, fun h => key _ _ (by rw [if_pos (show _ = qAs from h)]), fun h => key _ _ (by rw [if_neg (show ¬ _ = qAs from h)])⟩
   ·have h5 := a5 o5
    rw [if_neg o1, if_neg o2, if_neg (by omega), if_pos o5]
    have rest : ¬ (acc.length = 0) -> ((s.n : Int) = 1) /\ ¬ (s.p = none) /\ (0 : Int) < (s.n : Int) /\ V2.rowp s.p 0 1 = some [.string (acc.getD 0 sE)] := fun h => by
     obtain ⟨b1, b2, b3⟩ := at0 (by omega)
     exact ⟨by omega, b1, b2, b3⟩
    refine ⟨fun hn => ?_, fun hn => ?_⟩
    ·have h0 : acc.length = 0 := by omega
     rw [if_pos h0]
     refine ⟨fun he => key _ _ (by rw [if_pos (show p.result = sE from he)]), fun he => ⟨fun h => absurd h (by omega), fun h => key _ _ (by rw [if_neg (show ¬ p.result = sE from he)])⟩⟩
    ·have h0 : ¬ acc.length = 0 := by omega
     obtain ⟨r1, r2, r3, r4⟩ := rest h0
     rw [if_neg h0]
     refine ⟨fun _ => ⟨fun he => key _ _ (by rw [if_neg (fun h => h.1 (show p.result = sE from he))]), fun he => ⟨r2, by omega, r3, _, r4, (c104 hd2).call ⟨_, rfl, fun hb => key _ _ ?_, fun hb => key _ _ ?_⟩⟩⟩, fun h => absurd r1 h⟩
     ·rw [if_pos ⟨show ¬ p.result = sE from he, hb⟩]
     ·rw [if_neg (fun h => hb h.2)]
   ·rw [if_neg o1, if_neg o2, if_neg (by omega), if_neg o5]
end
theorem okS_shape {d : Int} {x : S} (h : okS d x = true) : qCg x.op x.s x.es x.ls.length x.xs.length = true /\ qIx (d + 1) x.ls = true /\ qIx (d + 1) x.xs = true := by
 cases x
 unfold okS at h
 rw [Bool.and_eq_true, Bool.and_eq_true, Bool.and_eq_true] at h
 exact ⟨h.1.1.2, h.1.2, h.2⟩
theorem qJr {d : Int} : ∀ {l : List S}, qIx d l = true -> ∀ x ∈ l, okS d x = true
 | [], _, x, hx => absurd hx List.not_mem_nil
 | y :: l, h, x, hx => by
  unfold qIx at h
  rw [Bool.and_eq_true] at h
  rcases List.mem_cons.1 hx with rfl | hx
  ·exact h.1
  ·exact qJr h.2 x hx
theorem szS_eq (x : S) : szS x = 1 + qGq x.ls + qGq x.xs := by cases x; unfold szS; rfl
theorem qGR (x : S) (l : List S) : qGq (x :: l) = szS x + qGq l := by rw [qGq]
mutual
theorem stT_n (d : Ds) (sc : Sc) (result : ByteArray) (n : Int) : ∀ x : S, (stT d sc result n x).2 = 0 -> (stT d sc result n x).1 = n + szS x
 | .mk op s _ es _ ls _ xs => by
  have h1 := qGS d sc result (n + 1) ls
  have h2 := qGS d sc result (qBL d sc result (n + 1) ls).1 xs
  unfold stT szS
  intro h
  split at h
  ·rename_i h'; exact absurd h h'
  ·rename_i h'
   rw [if_neg h']
   split at h
   ·rename_i h3; exact absurd h h3
   ·rename_i h3
    rw [if_neg h3, h2 h, h1 (by simpa using h3)]
    omega
theorem qGS (d : Ds) (sc : Sc) (result : ByteArray) (n : Int) : ∀ l : List S, (qBL d sc result n l).2 = 0 -> (qBL d sc result n l).1 = n + qGq l
 | [] => by simp [qBL, qGq]
 | x :: xs => by
  have h1 := stT_n d sc result n x
  have h2 := qGS d sc result (stT d sc result n x).1 xs
  rw [qGT, qGR]
  intro h
  split at h
  ·rename_i h'; exact absurd h h'
  ·rename_i h'
   rw [if_neg h', h2 h, h1 (by simpa using h')]
   omega
end
theorem qAe {α β : Type} {f : Nat -> α -> Option β} {i : Nat} {x : α} {xs : List α} {b : β} (h : f i x = some b) : qAf f i (x :: xs) = some b := by unfold qAf; rw [h]
theorem qAh {α β : Type} {f : Nat -> α -> Option β} {i : Nat} {x : α} {xs : List α} (h : f i x = none) : qAf f i (x :: xs) = qAf f (i + 1) xs := by rw [qAf, h]
section
variable {V : Mem} {d : Ds}
def RefS (V : Mem) (d : Ds) (p : Pr) (l : List S) : Prop := ∀ (sl : Sl) (n dd : Int), qAc V sl 5 (l.map S.row) -> (∀ x ∈ l, S.Ok V x) -> qIx dd l = true -> 0 <= n -> n + qGq l <= 1000 ->
 PP 129 [d.v, p.v, sl.v, .int .i64 n] V (.tuple #[.int .i64 (qBL d (qAH d p) p.result n l).1, .int .i64 (qBL d (qAH d p) p.result n l).2])
theorem refStep (hd : Ds.Ok V d) {p : Pr} (hp : Pr.Ok V p) (h1 : d.globals.length <= 1000) (h2 : p.params.length <= 1000 /\ p.locals.length <= 1000) {l : List S} (hk : ∀ x ∈ l, RefS V d p x.ls /\ RefS V d p x.xs) : RefS V d p l := by
 intro sl n dd hr hok hokS hn0 hn1
 refine x129 ?_
 unfold w129
 generalize hsc : qAH d p = sc
 refine loop4s (mk := .int .i64) (mc := .int .i64) (md := .int .i64) 0 0 n qFN l.length (fun i at_ V1 => V = V1 /\ 0 <= at_ /\ at_ + qGq (l.drop i) <= 1000 /\ qBL d sc p.result n l = qBL d sc p.result at_ (l.drop i)) ⟨rfl, hn0, hn1, rfl⟩ ?_
 rintro i b c a V1 J hi ⟨rfl, ha0, ha1, he⟩ hJ
 refine ⟨fun hlt => ?_, fun hge => ?_⟩
 ·obtain ⟨x, hm, hx, hdr, hl, hpp, hz, hrow⟩ := hr.get hlt
  have hrow := S.row_get hrow
  have hox := hok x hm
  obtain ⟨hsh, hk1, hk2⟩ := okS_shape (qJr hokS x hm)
  rw [hdr, qGR, szS_eq] at ha1
  rw [hdr, qGT, stT_eq] at he
  have cs := c188 hd hp h1 h2 hox hsh
  rw [hsc, S.v_eq] at cs
  refine ⟨hpp, hz, hlt, _, _, _, _, _, hrow, cs.call ⟨_, rfl, fun h0 => ?_, fun h0 => ?_⟩⟩
  ·have e1 : ¬ (qES d sc p.result x.op x.s x.es ≠ 0) := fun h => h h0
   rw [if_neg e1] at he
   have r1 := (hk x hm).1 x.ll (a + 1) (dd + 1) hox.lRows hox.lOk hk1 (by omega) (by omega)
   rw [hsc] at r1
   refine ⟨hpp, hz, hlt, qAd hpp, _, _, _, _, _, hrow, ⟨by omega, by omega⟩, r1.call ⟨_, _, rfl, fun h3 => ?_, fun h3 => ?_⟩⟩
   ·have e2 : ¬ ((qBL d sc p.result (a + 1) x.ls).2 ≠ 0) := fun h => h h3
    rw [if_neg e2] at he
    have hn := qGS d sc p.result (a + 1) x.ls h3
    have r2 := (hk x hm).2 x.xl (qBL d sc p.result (a + 1) x.ls).1 (dd + 1) hox.xRows hox.xOk hk2 (by omega) (by omega)
    rw [hsc] at r2
    refine ⟨hpp, hz, hlt, qAd hpp, _, _, _, _, _, hrow, r2.call ⟨_, _, rfl, fun h4 => ?_, fun h4 => ?_⟩⟩
    ·rw [if_neg (fun h => h h4)] at he
     have hn2 := qGS d sc p.result _ x.xs h4
     exact ⟨hr.succ hlt, hJ hl _ _ _ _ ⟨rfl, by omega, by omega, he⟩⟩
    ·rw [if_pos h4] at he
     rw [he]; exact ⟨rfl, rfl⟩
   ·have e2 : (qBL d sc p.result (a + 1) x.ls).2 ≠ 0 := h3
    rw [if_pos e2, if_pos e2] at he
    rw [he]; exact ⟨rfl, rfl⟩
  ·have e1 : qES d sc p.result x.op x.s x.es ≠ 0 := h0
   rw [if_pos e1, if_pos e1] at he
   rw [he]; exact ⟨rfl, rfl⟩
 ·rw [(hr.done hge).1, stsT_nil] at he
  rw [he]; exact ⟨rfl, rfl⟩
theorem refStmts (hd : Ds.Ok V d) {p : Pr} (hp : Pr.Ok V p) (h1 : d.globals.length <= 1000) (h2 : p.params.length <= 1000 /\ p.locals.length <= 1000) (l : List S) : RefS V d p l := by
 have hS : ∀ s : S, RefS V d p s.ls /\ RefS V d p s.xs := by
  intro s
  induction s using S.ind with
  | h s i1 i2 => exact ⟨refStep hd hp h1 h2 i1, refStep hd hp h1 h2 i2⟩
 exact refStep hd hp h1 h2 fun x _ => hS x
theorem c185 (hd : Ds.Ok V d) {l : Sl} {xs : List Fld} (hl : qAc V l 2 (xs.map Fld.row)) {i : Nat} {f : Fld} (hf : xs[i]? = some f) : PP 185 [d.v, l.v, .int .i64 i] V (.int .i64 (qFI d xs i f)) := by
 refine x185 ?_
 unfold w185
 have hn := hl.n_eq
 have hil := (List.getElem?_eq_some_iff.1 hf).1
 have hlt : (i : Int) < (l.n : Int) := by omega
 obtain ⟨f', hm, hx, hdr, -, hpp, hz, hrow⟩ := hl.get hlt
 rw [hf] at hx
 cases hx
 refine qAA i (fun k V1 => V = V1 /\ ∀ j g, j < k -> xs[j]? = some g -> ¬ (g.name = f.name)) ⟨rfl, fun _ _ h => absurd h (Nat.not_lt_zero _)⟩ ?_
 rintro k b V1 J hi ⟨rfl, ha⟩ hJ
 refine ⟨fun hk => ?_, fun hk => ?_⟩
 ·obtain ⟨g, hmg, hxg, hdg, hlg, hpg, hzg, hrowg⟩ := hl.get (i := k) (by omega)
  refine ⟨hpg, hzg, by omega, qAd hpg, _, _, hrowg, hpp, hz, hlt, qAd hpp, _, _, hrow, fun he => ?_, fun he => ⟨hl.succ (by omega), hJ (by omega) _ _ ⟨rfl, fun j y hj hy => ?_⟩⟩⟩
  ·have : (xs.take i).any (fun g => decide (g.name = f.name)) = true := List.any_eq_true.2 ⟨g, by
    rw [List.mem_take_iff_getElem]
    exact ⟨k, by omega, (List.getElem?_eq_some_iff.1 hxg).2⟩, decide_eq_true he⟩
   unfold qFI
   rw [if_pos this]; exact ⟨rfl, rfl⟩
  ·rcases Nat.lt_succ_iff_lt_or_eq.1 hj with h' | rfl
   ·exact ha j y h' hy
   ·rw [hxg] at hy; cases hy; exact he
 ·have : ¬ (xs.take i).any (fun g => decide (g.name = f.name)) = true := fun h => by
   obtain ⟨g, hg, he⟩ := List.any_eq_true.1 h
   rw [List.mem_take_iff_getElem] at hg
   obtain ⟨j, hj, e⟩ := hg
   exact ha j g (by omega) (by rw [List.getElem?_eq_getElem (by omega), e]) (of_decide_eq_true he)
  unfold qFI
  rw [if_neg this]
  refine ⟨hpp, hz, hlt, qAd hpp, _, _, hrow, (c187 hd).call ⟨_, rfl, fun h => ?_, fun h => ?_⟩⟩
  ·rw [if_pos h]; exact ⟨rfl, rfl⟩
  ·rw [if_neg h]; exact ⟨rfl, rfl⟩
theorem c184 (hd : Ds.Ok V d) {l : Sl} {xs : List Fld} (hl : qAc V l 2 (xs.map Fld.row)) : PP 184 [d.v, l.v] V (.int .i64 (qCP d xs)) := by
 refine x184 ?_
 unfold w184 qCP
 generalize hf : (fun i f => if qFI d xs i f ≠ 0 then some (qFI d xs i f) else none) = fn
 refine qAA xs.length (fun k V1 => V = V1 /\ qAf fn 0 xs = qAf fn k (xs.drop k)) ⟨rfl, rfl⟩ ?_
 rintro k b V1 J hi ⟨rfl, ha⟩ hJ
 refine ⟨fun hk => ?_, fun hk => ?_⟩
 ·obtain ⟨g, hmg, hxg, hdg, hlg, hpg, hzg, hrowg⟩ := hl.get hk
  rw [hdg] at ha
  refine (c185 hd hl hxg).call ⟨_, rfl, fun h => ?_, fun h => ?_⟩
  ·rw [qAh (by rw [<- hf]; simp [h])] at ha
   exact ⟨hl.succ hk, hJ hlg _ _ ⟨rfl, ha⟩⟩
  ·rw [qAe (b := qFI d xs k g) (by rw [<- hf]; simp only [ne_eq, h, not_false_eq_true, if_true])] at ha
   rw [ha]; exact ⟨rfl, rfl⟩
 ·rw [(hl.done hk).1, qAf] at ha
  rw [ha]; exact ⟨rfl, rfl⟩
theorem c189 (hd : Ds.Ok V d) {sl : Sl} {sc : Sc} (hsl : qAc V sl 2 (sc.vars.map Fld.row)) {e : E} (he : E.Ok V e) (hok : okE 1 e = true) {t : ByteArray} : PP 189 [d.v, scV sl sc, e.v, .string t] V (.int .i64 (qAZ d sc e t)) := by
 refine x189 ?_
 unfold w189 qAZ
 refine (refExpr hd hsl e he 1 hok V (Mem.sub.refl _)).call ⟨_, _, rfl, fun h => ⟨fun h1 => ?_, fun h1 => ?_⟩, fun h => ?_⟩
 ·rw [if_neg (fun x => x h), if_pos h1]; exact ⟨rfl, rfl⟩
 ·rw [if_neg (fun x => x h), if_neg h1]; exact ⟨rfl, rfl⟩
 ·rw [if_pos h]; exact ⟨rfl, rfl⟩
def qGb (s : ByteArray) : Bool := decide (s = qAQ) || decide (s = qAs)
end
end Go.Proofs
