/- Part 23 of a proof of a law of this seat: no statement of the seat is proved here. -/
import Derived.Test.YtjnmeimbcljkjaaGreatDoorPart22
import Derived.Test.YtjnmeimbcljkjaaGreatDoorPart16
import Derived.Test.YtjnmeimbcljkjaaGreatDoorPart20
set_option linter.unusedVariables false
set_option linter.unusedSimpArgs false
namespace Go.Proofs
open Go Go.Sx
theorem firstE_iff {α β : Type} {f : Nat → α → Option β} : ∀ {xs : List α} {i : Nat}, firstE f i xs = none ↔ ∀ j x, xs[j]? = some x → f (i + j) x = none
  | [], i => by simp [firstE]
  | x :: xs, i => by
    constructor
    · intro h
      cases hx : f i x with
      | some b => rw [firstE_some hx] at h; cases h
      | none =>
        rw [firstE_none hx] at h
        intro j y hy
        cases j with
        | zero => simp only [List.getElem?_cons_zero, Option.some.injEq] at hy; subst hy; exact hx
        | succ j =>
          have := firstE_iff.1 h j y (by simpa using hy)
          rwa [show i + (j + 1) = i + 1 + j by omega]
    · intro h
      rw [firstE_none (by simpa using h 0 x rfl)]
      exact firstE_iff.2 fun j y hy => by
        have := h (j + 1) y (by simpa using hy)
        rwa [show i + 1 + j = i + (j + 1) by omega]
theorem firstE_at {α β : Type} {f : Nat → α → Option β} {b : β} {y : α} : ∀ {xs : List α} {i k : Nat}, (∀ j x, j < k → xs[j]? = some x → f (i + j) x = none) → xs[k]? = some y → f (i + k) y = some b → firstE f i xs = some b
  | [], _, _, _, hy, _ => by simp at hy
  | x :: xs, i, k, h, hy, hb => by
    cases k with
    | zero => simp only [List.getElem?_cons_zero, Option.some.injEq] at hy; subst hy; exact firstE_some hb
    | succ k =>
      rw [firstE_none (by simpa using h 0 x (Nat.succ_pos k) rfl)]
      refine firstE_at (k := k) (fun j z hj hz => ?_) (by simpa using hy) (by rwa [show i + 1 + k = i + (k + 1) by omega])
      have := h (j + 1) z (by omega) (by simpa using hz)
      rwa [show i + 1 + j = i + (j + 1) by omega]
theorem or_none {α : Type} {a b : Option α} : a.or b = none ↔ a = none ∧ b = none := by cases a <;> simp
theorem distinct {α : Type} (key : α → ByteArray) (xs : List α) : (∀ j x, xs[j]? = some x → (xs.take j).any (fun g => decide (key g = key x)) = false) ↔ xs.Pairwise (fun a b => key a ≠ key b) := by
  rw [List.pairwise_iff_getElem]
  constructor
  · intro h i j hi hj hij e
    have := h j _ (List.getElem?_eq_getElem hj)
    rw [List.any_eq_false] at this
    exact this xs[i] (List.mem_take_iff_getElem.2 ⟨i, by omega, rfl⟩) (by simpa using e)
  · intro h j x hx
    rw [List.any_eq_false]
    intro g hg e
    obtain ⟨i, hi, rfl⟩ := List.mem_take_iff_getElem.1 hg
    obtain ⟨hj, rfl⟩ := List.getElem?_eq_some_iff.1 hx
    exact h i j (by omega) hj (by omega) (by simpa using e)
structure Alike (d d' : Ds) : Prop where
  types : d'.types = d.types
  call : ∀ s l, callT d' s l = callT d s l
  meas : d'.measures = d.measures
section
variable {d d' : Ds}
theorem Alike.isNode (h : Alike d d') (s : ByteArray) : isNode d' s = isNode d s := by unfold Go.Proofs.isNode; rw [h.types]
theorem Alike.known (h : Alike d d') (s : ByteArray) : known d' s = known d s := by unfold Go.Proofs.known; rw [h.isNode]
theorem Alike.fits (h : Alike d d') (a b : ByteArray) : fits d' a b = fits d a b := by unfold Go.Proofs.fits; rw [h.isNode]
theorem Alike.fieldT (h : Alike d d') (a b : ByteArray) : fieldT d' a b = fieldT d a b := by unfold Go.Proofs.fieldT tyOf; rw [h.types]
theorem Alike.measT (h : Alike d d') (s : ByteArray) (l : List ByteArray) : measT d' s l = measT d s l := by
  unfold Go.Proofs.measT meOf; rw [h.meas]; simp only [h.fits]
theorem Alike.callE (h : Alike d d') (sc : Sc) (s : ByteArray) (l : List ByteArray) : callE d' sc s l = callE d sc s l := by
  unfold Go.Proofs.callE; rw [h.call, h.measT]
theorem Alike.nodeT (h : Alike d d') (sc : Sc) (op : Int) (s : ByteArray) (l : List ByteArray) : nodeT d' sc op s l = nodeT d sc op s l := by
  unfold Go.Proofs.nodeT; simp only [h.fieldT, h.isNode, h.callE, h.fits]
mutual
theorem Alike.exprT (h : Alike d d') (sc : Sc) : ∀ e : E, exprT d' sc e = exprT d sc e
  | .mk op n s l k => by unfold Go.Proofs.exprT; rw [Alike.partsT h sc k [], h.nodeT]
theorem Alike.partsT (h : Alike d d') (sc : Sc) : ∀ (k : List E) (acc : List ByteArray), partsT d' sc acc k = partsT d sc acc k
  | [], acc => by rw [partsT_nil, partsT_nil]
  | x :: xs, acc => by rw [partsT_cons, partsT_cons, Alike.exprT h sc x, Alike.partsT h sc xs]
end
theorem Alike.stmtT (h : Alike d d') (sc : Sc) (result : ByteArray) (op : Int) (s : ByteArray) (es : List E) : stmtT d' sc result op s es = stmtT d sc result op s es := by
  unfold Go.Proofs.stmtT
  simp only [h.partsT, h.fieldT, h.fits, h.call]
mutual
theorem Alike.stT (h : Alike d d') (sc : Sc) (result : ByteArray) : ∀ (s : S) (n : Int), stT d' sc result n s = stT d sc result n s
  | .mk op s el es ll ls xl xs, n => by unfold Go.Proofs.stT; rw [h.stmtT, Alike.stsT h sc result ls, Alike.stsT h sc result xs]
theorem Alike.stsT (h : Alike d d') (sc : Sc) (result : ByteArray) : ∀ (l : List S) (n : Int), stsT d' sc result n l = stsT d sc result n l
  | [], n => by rw [stsT_nil, stsT_nil]
  | x :: xs, n => by rw [stsT_cons, stsT_cons, Alike.stT h sc result x, Alike.stsT h sc result xs]
end
theorem Alike.wantT (h : Alike d d') (sc : Sc) (e : E) (t : ByteArray) : wantT d' sc e t = wantT d sc e t := by unfold Go.Proofs.wantT; rw [h.exprT]
theorem Alike.oneT (h : Alike d d') (l : List Fld) (i : Nat) (f : Fld) : oneT d' l i f = oneT d l i f := by unfold Go.Proofs.oneT; rw [h.known]
theorem Alike.declT (h : Alike d d') (l : List Fld) : declT d' l = declT d l := by unfold Go.Proofs.declT; simp only [h.oneT]
end
theorem chk_parts {d : Ds} : chkT d = none ↔ (types1 d = none ∧ types2 d = none ∧ types3 d = none) ∧ headsT d = none ∧ (form1 d = none ∧ form2 d = none ∧ form3 d = none ∧ form4 d = none) ∧ bodiesT d = none ∧ exp1 d = none ∧ exp2 d = none ∧ exp3 d = none ∧ exp4 d = none := by
  unfold chkT typesT formT expsT
  simp only [or_none]
end Go.Proofs
namespace Go.Proofs
open Go Go.Sx
theorem valid_iff {d : Ds} : validD d = true ↔ isName d.name = true ∧ (d.types.length : Int) ≤ 12 ∧ fldsB d.globals 8 = true ∧ (d.procs.length : Int) ≤ 40 ∧ (d.measures.length : Int) ≤ 12 ∧ (d.invs.length : Int) ≤ 12 ∧ (d.pots.length : Int) ≤ 12 ∧ (d.bounds.length : Int) ≤ 12 ∧
    (∀ t ∈ d.types, tyB t = true) ∧ (∀ t ∈ d.procs, prB t = true) ∧ (∀ t ∈ d.measures, msB t = true) ∧ (∀ t ∈ d.invs, ivB t = true) ∧ (∀ t ∈ d.pots, poB t = true) ∧ ∀ t ∈ d.bounds, bdB t = true := by
  unfold validD lensB formB
  simp only [Bool.and_eq_true, decide_eq_true_eq, List.all_eq_true, and_assoc]
theorem firstE_all {α β : Type} {c : α → Prop} [DecidablePred c] {r : α → β} {i : Nat} {xs : List α} : firstE (fun _ m => if c m then some (r m) else none) i xs = none ↔ ∀ m ∈ xs, ¬ c m := by
  rw [firstE_iff]
  constructor
  · intro h m hm hc
    obtain ⟨j, hj, rfl⟩ := List.mem_iff_getElem.1 hm
    have := h j _ (List.getElem?_eq_getElem hj)
    rw [if_pos hc] at this
    cases this
  · intro h j x hx
    exact if_neg (h x (List.mem_of_getElem? hx))
theorem form2_iff {d : Ds} : form2 d = none ↔ d.invs.Pairwise (fun a b => a.name ≠ b.name) ∧ ∀ m ∈ d.invs, ¬ (m.ty ≠ sE ∧ isNode d m.ty = false) := by
  unfold form2
  rw [firstE_iff, ← distinct]
  constructor
  · intro h
    refine ⟨fun j x hx => ?_, fun m hm hc => ?_⟩
    · have := h j x hx
      rw [Nat.zero_add] at this
      split at this
      · cases this
      · rename_i h'; simpa using h'
    · obtain ⟨j, hj, rfl⟩ := List.mem_iff_getElem.1 hm
      have := h j _ (List.getElem?_eq_getElem hj)
      split at this
      · cases this
      · first | (cases this; done) | (rw [if_pos hc] at this; cases this)
  · rintro ⟨h1, h2⟩ j x hx
    rw [Nat.zero_add, if_neg (by rw [h1 j x hx]; decide), if_neg (h2 x (List.mem_of_getElem? hx))]
theorem form4_iff {d : Ds} : form4 d = none ↔ d.bounds.Pairwise (fun a b => a.proc ≠ b.proc) ∧ ∀ m ∈ d.bounds, ¬ ((prOf d m.proc).isNone = true) := by
  unfold form4
  rw [firstE_iff, ← distinct]
  constructor
  · intro h
    refine ⟨fun j x hx => ?_, fun m hm hc => ?_⟩
    · have := h j x hx
      rw [Nat.zero_add] at this
      split at this
      · cases this
      · split at this
        · cases this
        · rename_i h'; simpa using h'
    · obtain ⟨j, hj, rfl⟩ := List.mem_iff_getElem.1 hm
      have := h j _ (List.getElem?_eq_getElem hj)
      rw [if_pos hc] at this; cases this
  · rintro ⟨h1, h2⟩ j x hx
    rw [Nat.zero_add, if_neg (h2 x (List.mem_of_getElem? hx)), if_neg (by rw [h1 j x hx]; decide)]
theorem form3_iff {d : Ds} : form3 d = none ↔ ∀ m ∈ d.pots, ¬ (m.ty ≠ sE ∧ isNode d m.ty = false) := firstE_all
theorem exp2_iff {d : Ds} : exp2 d = none ↔ ∀ m ∈ d.invs, ¬ wantT d (inFormS d m.ty) m.x sBool ≠ 0 := firstE_all
theorem exp3_iff {d : Ds} : exp3 d = none ↔ ∀ m ∈ d.pots, ¬ wantT d (inFormS d m.ty) m.x sInt ≠ 0 := firstE_all
theorem exp4_iff {d : Ds} : exp4 d = none ↔ ∀ m ∈ d.bounds, ¬ wantT d (inBoundS d ((prOf d m.proc).getD prD)) m.x sInt ≠ 0 := firstE_all
theorem alike_chk {d d' : Ds} (al : Alike d d') (hg : d'.globals = d.globals) (hp : d'.procs = d.procs) (hc : chkT d = none) (h2 : form2 d' = none) (h3 : form3 d' = none) (h4 : form4 d' = none) (e2 : exp2 d' = none) (e3 : exp3 d' = none) (e4 : exp4 d' = none) : chkT d' = none := by
  rw [chk_parts] at hc ⊢
  obtain ⟨⟨t1, t2, t3⟩, hh, ⟨f1, -, -, -⟩, hb, x1, -, -, -⟩ := hc
  refine ⟨⟨?_, ?_, ?_⟩, ?_, ⟨?_, h2, h3, h4⟩, ?_, ?_, e2, e3, e4⟩
  · unfold types1 at t1 ⊢; rw [al.types]; exact t1
  · unfold types2 at t2 ⊢; rw [al.types]; simp only [al.declT]; exact t2
  · unfold types3 at t3 ⊢; rw [hg]; simp only [al.oneT]; exact t3
  · unfold headsT at hh ⊢; rw [hp]; simp only [al.declT, al.known]; exact hh
  · unfold form1 at f1 ⊢; rw [al.meas]; simp only [al.isNode]; exact f1
  · unfold bodiesT inProcS at hb ⊢; rw [hp, hg]; simp only [al.stsT]; exact hb
  · unfold exp1 inFormS at x1 ⊢; rw [al.meas, hg]; simp only [al.wantT]; exact x1
section
variable {d : Ds} {sl : Sl}
theorem fitAll_types {d d' : Ds} (ht : d'.types = d.types) : ∀ (l : List ByteArray) (fs : List Fld), fitAll d' l fs = fitAll d l fs := by
  intro l
  induction l with
  | nil => intro fs; simp [fitAll]
  | cons a l ih =>
    intro fs
    cases fs with
    | nil => simp [fitAll]
    | cons f fs => unfold fitAll fits isNode; rw [ht, ih]
theorem callT_same {d d' : Ds} (ht : d'.types = d.types) (hp : d'.procs = d.procs) (s : ByteArray) (l : List ByteArray) : callT d' s l = callT d s l := by
  unfold callT prOf; rw [hp]; simp only [fitAll_types ht]
structure Good (d : Ds) : Prop where
  valid : validD d = true
  chk : chkT d = none
end
end Go.Proofs
namespace Go.Proofs
open Go Go.Sx
attribute [local irreducible] Go.Sx.Tri
theorem chk_err (d : Ds) : ∀ r, chkT d = some r → r.2.2 ≠ 0 := by
  unfold chkT
  exact or_bad (fun r h => (types_bad d r h).1) (or_bad (fun r h => (heads_bad d r h).1) (or_bad (fun r h => (form_bad d r h).1) (or_bad (bodies_bad d) fun r h => (exps_bad d r h).1)))
theorem wellT_iff {d : Ds} : wellT d = true ↔ validD d = true ∧ chkT d = none := by
  unfold wellT
  rw [Bool.and_eq_true, decide_eq_true_eq, (fltR_cases (P := fun _ => True) fun r h => ⟨chk_err d r h, trivial⟩).1]
theorem wellE_1 {d : Ds} {ok : Bool} (h : ¬ (validD d = true ∧ ok = true)) : wellE d ok = 1 := by
  unfold wellE; rw [if_neg h]
theorem wellE_13 {d : Ds} {ok : Bool} (h : validD d = true ∧ ok = true) (hw : ¬ wellT d = true) : wellE d ok = 13 := by
  unfold wellE; rw [if_pos h, if_neg fun k => hw (wellT_iff.2 ⟨h.1, k⟩)]
theorem wellE_0 {d : Ds} {ok : Bool} (hw : wellT d = true) (hok : ok = true) : wellE d ok = 0 := by
  obtain ⟨h1, h2⟩ := wellT_iff.1 hw
  unfold wellE; rw [if_pos ⟨h1, hok⟩, if_pos h2]
section
variable {V : Mem} {d : Ds} {e : E} {s : ByteArray}
theorem exprR_e {n : Int} (h : wellE d (validE e) = n) (hn : n ≠ 0) : exprR d s e = (sE, n) := by
  unfold exprR; rw [h, if_pos hn]
theorem exprR_none (h : wellE d (validE e) = 0) (hp : prOf d s = none) : exprR d s e = (sE, 12) := by
  unfold exprR; rw [if_neg fun k => k h, hp]
theorem exprR_some {p : Pr} (h : wellE d (validE e) = 0) (hp : prOf d s = some p) : exprR d s e = exprT d (inProcS d p) e := by
  unfold exprR; rw [if_neg fun k => k h, hp]
theorem measR_e {n : Int} (h : wellE d (validE e) = n) (hn : n ≠ 0) : measR d s e = (sE, n) := by
  unfold measR; rw [h, if_pos hn]
theorem measR_none (h : wellE d (validE e) = 0) (hp : s ≠ sE ∧ isNode d s = false) : measR d s e = (sE, 12) := by
  unfold measR; rw [if_neg fun k => k h, if_pos hp]
theorem measR_some (h : wellE d (validE e) = 0) (hp : ¬ (s ≠ sE ∧ isNode d s = false)) : measR d s e = exprT d (inFormS d s) e := by
  unfold measR; rw [if_neg fun k => k h, if_neg hp]
theorem awakeAt [hT : Tab V] {V2 : Mem} (h : V.sub V2) : Tri Tryz.prog 10 #[] V2 fun r V3 => ∃ v : Bool, r = .returned (.bool v) ∧ (Ending.returned (.bool v) = Ending.returned (.bool true) ∧ V.sub V3) := by
  haveI : Tab V2 := hT.sub h
  exact (awakeC V2).call ⟨_, rfl, rfl, h⟩
end
end Go.Proofs
namespace Go.Proofs
open Go Go.Sx
attribute [local irreducible] Go.Sx.Tri
theorem RowsAt.post {α : Type} {V : Mem} {l : Sl} {sz : Nat} {row : α → List Value} {xs : List α} (h : RowsAt V l sz (xs.map row)) {j : Nat} (hj : j ≤ xs.length) :
    RowsAt V ⟨if (l.c : Int) = (j : Int) then l.p else ptrAdd l.p ((j : Int).toNat * sz), ((l.n : Int) - (j : Int)).toNat, ((l.c : Int) - (j : Int)).toNat⟩ sz ((xs.drop j).map row) := by
  have hn := h.n_eq
  have hc := h.cap
  have hf := h.fit
  refine ⟨?_, ?_, ?_, fun r hr => h.size r ?_, fun i r hi => ?_⟩
  · show ((l.n : Int) - (j : Int)).toNat = _
    rw [List.length_map, List.length_drop]; omega
  · show ((l.n : Int) - (j : Int)).toNat ≤ ((l.c : Int) - (j : Int)).toNat; omega
  · show ((l.c : Int) - (j : Int)).toNat ≤ _; omega
  · rw [List.map_drop] at hr; exact List.mem_of_mem_drop hr
  · rw [List.map_drop, List.getElem?_drop] at hi
    obtain ⟨a, ha, hrow⟩ := h.at_ _ _ hi
    have hlt : j + i < (xs.map row).length := (List.getElem?_eq_some_iff.1 hi).1
    rw [List.length_map] at hlt
    refine ⟨a.add (j * sz), ?_, ?_⟩
    · show (if (l.c : Int) = (j : Int) then l.p else ptrAdd l.p ((j : Int).toNat * sz)) = _
      rw [if_neg (by omega), ha]; rfl
    · rw [add_add, ← Nat.add_mul]; exact hrow
theorem mod_nat {k : Int} {n : Nat} (hk : 0 ≤ k) (hn : 0 < n) : ∃ i : Nat, i < n ∧ k.tmod (n : Int) = (i : Int) := by
  obtain ⟨m, rfl⟩ := Int.eq_ofNat_of_zero_le hk
  exact ⟨m % n, Nat.mod_lt _ hn, rfl⟩
theorem app24 {V0 V : Mem} {ty : Nat} {x y : Operand} {vals : Operand → Value} {s u : Sl} {xs ys : List Pr} (hx : vals x = .slice s.p s.n s.c) (hy : vals y = .slice u.p u.n u.c) (own : Sx.Own V0 V 54 5 s (xs.flatMap Pr.row)) (hnew : RowsAt V u 5 (ys.map Pr.row))
    (hfit : xs.length + ys.length ≤ 2147483648) {q : Value → Mem → Prop} (hq : ∀ s' V', Sx.Own V0 V' 54 5 s' ((xs ++ ys).flatMap Pr.row) → q (.slice s'.p s'.n s'.c) V') :
    GenK Tryz.prog (.call { callee := .builtin .append, args := #[x, y], argTypes := #[24, 24] }) ty vals V q := by
  have hi : Tryz.prog.info? 54 = some (ti 54) := by kernel_rfl
  have hz : (ti 54).zero = some ((ti 54).zero.getD undef) := by kernel_rfl
  have h1 : (ti 54).size = 5 := by kernel_rfl
  have h2 : ((ti 54).zero.getD undef).cells.size = 5 := by kernel_rfl
  have h3 : (ti 54).bytes ≤ 65536 := of_decide_eq_true (by kernel_rfl)
  exact GenK.appendS Tryz.underlying24 hi hz h1 h2 (by decide) h3 hx hy own (fun _ => rfl) hnew (fun x u hu => by
    simp only [Pr.row, List.mem_cons, List.not_mem_nil, or_false] at hu
    rcases hu with rfl | rfl | rfl | rfl | rfl <;> rfl) hfit hq
theorem c31 {V : Mem} {l : Sl} {xs : List Pr} (h : RowsAt V l 5 (xs.map Pr.row)) (hl : xs.length ≤ 1000) : Tri Tryz.prog 31 #[l.v] V fun r V' => ∃ s : Sl, r = .returned (.slice s.p s.n s.c) ∧ Sx.Own V V' 54 5 s (xs.flatMap Pr.row) := by
  refine x31 ?_
  unfold w31
  refine ⟨fun hp => ?_, fun hp => ?_⟩
  · have : xs = [] := by
      cases xs with
      | nil => rfl
      | cons x xs =>
        have := h.base (i := 0) (by simp)
        rw [hp] at this; cases this
    subst this
    exact ⟨⟨none, 0, 0⟩, rfl, Sx.Own.nil (Mem.sub.refl _) _ _⟩
  · intro b hb
    have hs := Mem.sub_new hb (.cells #[] 54 (0, 0))
    exact app24 (s := ⟨some ⟨b, 0, none⟩, 0, 0⟩) (u := l) (xs := []) (ys := xs) rfl rfl (Sx.Own.empty hs _ _ _) (h.sub hs) (by simp; omega) fun s1 V1 o1 => ⟨s1, rfl, s1, rfl, o1⟩
theorem app38 {V0 V : Mem} {ty : Nat} {x y : Operand} {vals : Operand → Value} {s u : Sl} {xs ys : List E} (hx : vals x = .slice s.p s.n s.c) (hy : vals y = .slice u.p u.n u.c) (own : Sx.Own V0 V 40 4 s (xs.flatMap E.row)) (hnew : RowsAt V u 4 (ys.map E.row))
    (hfit : xs.length + ys.length ≤ 2147483648) {q : Value → Mem → Prop} (hq : ∀ s' V', Sx.Own V0 V' 40 4 s' ((xs ++ ys).flatMap E.row) → q (.slice s'.p s'.n s'.c) V') :
    GenK Tryz.prog (.call { callee := .builtin .append, args := #[x, y], argTypes := #[38, 38] }) ty vals V q := by
  have hi : Tryz.prog.info? 40 = some (ti 40) := by kernel_rfl
  have hz : (ti 40).zero = some ((ti 40).zero.getD undef) := by kernel_rfl
  have h1 : (ti 40).size = 4 := by kernel_rfl
  have h2 : ((ti 40).zero.getD undef).cells.size = 4 := by kernel_rfl
  have h3 : (ti 40).bytes ≤ 65536 := of_decide_eq_true (by kernel_rfl)
  exact GenK.appendS Tryz.underlying38 hi hz h1 h2 (by decide) h3 hx hy own (fun _ => rfl) hnew (fun x u hu => by
    simp only [E.row, List.mem_cons, List.not_mem_nil, or_false] at hu
    rcases hu with rfl | rfl | rfl | rfl <;> rfl) hfit hq
theorem c40 {V : Mem} {l : Sl} {xs : List E} (h : RowsAt V l 4 (xs.map E.row)) (hl : xs.length ≤ 1000) : Tri Tryz.prog 40 #[l.v] V fun r V' => ∃ s : Sl, r = .returned (.slice s.p s.n s.c) ∧ Sx.Own V V' 40 4 s (xs.flatMap E.row) := by
  refine x40 ?_
  unfold w40
  refine ⟨fun hp => ?_, fun hp => ?_⟩
  · have : xs = [] := by
      cases xs with
      | nil => rfl
      | cons x xs =>
        have := h.base (i := 0) (by simp)
        rw [hp] at this; cases this
    subst this
    exact ⟨⟨none, 0, 0⟩, rfl, Sx.Own.nil (Mem.sub.refl _) _ _⟩
  · intro b hb
    have hs := Mem.sub_new hb (.cells #[] 40 (0, 0))
    exact app38 (s := ⟨some ⟨b, 0, none⟩, 0, 0⟩) (u := l) (xs := []) (ys := xs) rfl rfl (Sx.Own.empty hs _ _ _) (h.sub hs) (by simp; omega) fun s1 V1 o1 => ⟨s1, rfl, s1, rfl, o1⟩
theorem app52 {V0 V : Mem} {ty : Nat} {x y : Operand} {vals : Operand → Value} {s u : Sl} {xs ys : List S} (hx : vals x = .slice s.p s.n s.c) (hy : vals y = .slice u.p u.n u.c) (own : Sx.Own V0 V 75 5 s (xs.flatMap S.row)) (hnew : RowsAt V u 5 (ys.map S.row))
    (hfit : xs.length + ys.length ≤ 2147483648) {q : Value → Mem → Prop} (hq : ∀ s' V', Sx.Own V0 V' 75 5 s' ((xs ++ ys).flatMap S.row) → q (.slice s'.p s'.n s'.c) V') :
    GenK Tryz.prog (.call { callee := .builtin .append, args := #[x, y], argTypes := #[52, 52] }) ty vals V q := by
  have hi : Tryz.prog.info? 75 = some (ti 75) := by kernel_rfl
  have hz : (ti 75).zero = some ((ti 75).zero.getD undef) := by kernel_rfl
  have h1 : (ti 75).size = 5 := by kernel_rfl
  have h2 : ((ti 75).zero.getD undef).cells.size = 5 := by kernel_rfl
  have h3 : (ti 75).bytes ≤ 65536 := of_decide_eq_true (by kernel_rfl)
  exact GenK.appendS Tryz.underlying52 hi hz h1 h2 (by decide) h3 hx hy own (fun s => by cases s; rfl) hnew (fun x u hu => by
    simp only [S.row_eq, List.mem_cons, List.not_mem_nil, or_false] at hu
    rcases hu with rfl | rfl | rfl | rfl | rfl <;> rfl) hfit hq
theorem c34 {V : Mem} {l : Sl} {xs : List Fld} (h : RowsAt V l 2 (xs.map Fld.row)) (hl : xs.length ≤ 1000) : Tri Tryz.prog 34 #[l.v] V fun r V' => ∃ s : Sl, r = .returned (.slice s.p s.n s.c) ∧ Sx.Own V V' 67 2 s (xs.flatMap Fld.row) := by
  refine x34 ?_
  unfold w34
  refine ⟨fun hp => ?_, fun hp => ?_⟩
  · have : xs = [] := by
      cases xs with
      | nil => rfl
      | cons x xs =>
        have := h.base (i := 0) (by simp)
        rw [hp] at this; cases this
    subst this
    exact ⟨⟨none, 0, 0⟩, rfl, Sx.Own.nil (Mem.sub.refl _) _ _⟩
  · intro b hb
    have hs := Mem.sub_new hb (.cells #[] 67 (0, 0))
    exact app23 (s := ⟨some ⟨b, 0, none⟩, 0, 0⟩) (u := l) (xs := []) (ys := xs) rfl rfl (Sx.Own.empty hs _ _ _) (h.sub hs) (by simp; omega) fun s1 V1 o1 => ⟨s1, rfl, s1, rfl, o1⟩
end Go.Proofs
namespace Go.Proofs
open Go Go.Sx
attribute [local irreducible] Go.Sx.Tri
section
variable {V : Mem} {d : Ds}
theorem Good.of (h : wellT d = true) : Good d := ⟨(wellT_iff.1 h).1, (wellT_iff.1 h).2⟩
theorem Good.well (h : Good d) : wellT d = true := wellT_iff.2 ⟨h.valid, h.chk⟩
theorem c22 [Tab V] (hd : Ds.Ok V d) : PP 22 [d.v] V (.bool (wellT d)) := by
  refine x22 (v0 := d.name) (v1 := d.ts) (v2 := d.gs) (v3 := d.ps) (v4 := d.ms) (v5 := d.is) (v6 := d.qs) (v7 := d.bs) ?_
  unfold w22
  refine (c12 scopeC newC hd).call ?_
  by_cases hv : validD d = true
  · rw [if_pos hv]
    cases hc : chkT d with
    | none =>
      rw [wellT_iff.2 ⟨hv, hc⟩]
      exact ⟨_, _, _, rfl, fun _ => ⟨fun _ => ⟨rfl, rfl⟩, fun h => absurd rfl h⟩, fun h => absurd rfl h⟩
    | some r =>
      have hw : wellT d = false := by
        cases h : wellT d with
        | false => rfl
        | true => have := (wellT_iff.1 h).2; rw [hc] at this; cases this
      rw [hw]
      refine ⟨_, _, _, rfl, fun _ => ⟨fun _ => ⟨?_, rfl⟩, fun _ => ⟨rfl, rfl⟩⟩, fun _ => ⟨rfl, rfl⟩⟩
      rw [show decide ((fltR (some r)).2.2 = 0) = false from decide_eq_false (chk_err d r hc)]
  · rw [if_neg hv]
    have hw : wellT d = false := by
      cases h : wellT d with
      | false => rfl
      | true => exact absurd (wellT_iff.1 h).1 hv
    rw [hw]
    exact ⟨_, _, _, rfl, fun _ => ⟨fun _ => ⟨rfl, rfl⟩, fun h => absurd rfl h⟩, fun h => absurd rfl h⟩
end
end Go.Proofs
namespace Go.Proofs
open Go Go.Sx
def sigP (p : Pr) : ByteArray × List Fld × List Fld × ByteArray := (p.name, p.params, p.locals, p.result)
def setP (d : Ds) (sl : Sl) (l : List Pr) : Ds := { d with ps := sl, procs := l }
def setG (d : Ds) (sl : Sl) (l : List Fld) : Ds := { d with gs := sl, globals := l }
section
variable {d : Ds} {sl : Sl}
theorem prOf_sig (d : Ds) (s : ByteArray) : (prOf d s).map sigP = (d.procs.map sigP).find? (fun q => decide (q.1 = s)) := by
  rw [List.find?_map]; rfl
theorem callT_sig {d d' : Ds} (ht : d'.types = d.types) (h : d'.procs.map sigP = d.procs.map sigP) (s : ByteArray) (l : List ByteArray) : callT d' s l = callT d s l := by
  have e : (prOf d' s).map sigP = (prOf d s).map sigP := by rw [prOf_sig, prOf_sig, h]
  have hf := fitAll_types ht
  unfold callT
  cases h1 : prOf d' s with
  | none =>
    rw [h1] at e
    cases h2 : prOf d s with
    | none => rfl
    | some q => rw [h2] at e; cases e
  | some p =>
    rw [h1] at e
    cases h2 : prOf d s with
    | none => rw [h2] at e; cases e
    | some q =>
      rw [h2] at e
      simp only [Option.map_some, Option.some.injEq, sigP, Prod.mk.injEq] at e
      obtain ⟨-, e2, -, e4⟩ := e
      simp only [e2, e4, hf]
theorem any_sig (l : List Pr) (j : Nat) (s : ByteArray) : (l.take j).any (fun g => decide (g.name = s)) = ((l.map sigP).take j).any (fun q => decide (q.1 = s)) := by
  rw [← List.map_take, List.any_map]; rfl
/-- A procedure's body has another statement in front. -/
theorem undeclared {p : Pr} {i : Nat} {el bs : Sl} {e0 : E} {s : ByteArray} (h : Good d) (hi : d.procs[i]? = some p) (hs : lookF (p.params ++ p.locals ++ d.globals) s = sE) (he : exprT d (inProcS d p) e0 = (sInt, 0)) (l1 l2 : Sl) :
    chkT (setP d sl (d.procs.set i { p with bs := bs, body := .mk 1 s el [e0] l1 [] l2 [] :: p.body })) = some (p.name, 0, 9) := by
  obtain ⟨⟨t1, t2, t3⟩, hh, ⟨f1, f2, f3, f4⟩, hb, -⟩ := chk_parts.1 h.chk
  generalize hp' : ({ p with bs := bs, body := .mk 1 s el [e0] l1 [] l2 [] :: p.body } : Pr) = p'
  have hsg : sigP p' = sigP p := by subst hp'; rfl
  obtain ⟨hil, hie⟩ := List.getElem?_eq_some_iff.1 hi
  have hm : (d.procs.set i p').map sigP = d.procs.map sigP := by
    rw [List.map_set, hsg, ← hie]
    apply List.ext_getElem?
    intro j
    rw [List.getElem?_set]
    split
    · rename_i e; subst e
      simp [hil]
    · rfl
  have al : Alike d (setP d sl (d.procs.set i p')) := ⟨rfl, callT_sig rfl hm, rfl⟩
  have hg : (setP d sl (d.procs.set i p')).globals = d.globals := rfl
  have hpr : (setP d sl (d.procs.set i p')).procs = d.procs.set i p' := rfl
  have T : typesT (setP d sl (d.procs.set i p')) = none := by
    unfold typesT; rw [or_none, or_none]
    refine ⟨?_, ?_, ?_⟩
    · unfold types1 at t1 ⊢; rw [al.types]; exact t1
    · unfold types2 at t2 ⊢; rw [al.types]; simp only [al.declT]; exact t2
    · unfold types3 at t3 ⊢; rw [hg]; simp only [al.oneT]; exact t3
  have H : headsT (setP d sl (d.procs.set i p')) = none := by
    unfold headsT at hh ⊢
    rw [firstE_iff] at hh ⊢
    intro j x hx
    rw [hpr] at hx ⊢
    have hx2 : ((d.procs.set i p').map sigP)[j]? = some (sigP x) := by rw [List.getElem?_map, hx]; rfl
    rw [hm, List.getElem?_map, Option.map_eq_some_iff] at hx2
    obtain ⟨y, hy, e⟩ := hx2
    have := hh j y hy
    simp only [sigP, Prod.mk.injEq] at e
    obtain ⟨e1, e2, e3, e4⟩ := e
    rw [any_sig, hm, ← any_sig]
    simp only [al.declT, al.known]
    rw [← e1, ← e2, ← e3, ← e4]
    exact this
  have F : formT (setP d sl (d.procs.set i p')) = none := by
    unfold formT; rw [or_none, or_none, or_none]
    refine ⟨?_, ?_, ?_, ?_⟩
    · unfold form1 at f1 ⊢; rw [al.meas]; simp only [al.isNode]; exact f1
    · exact form2_iff.2 (form2_iff.1 f2)
    · exact form3_iff.2 (form3_iff.1 f3)
    · refine form4_iff.2 ⟨(form4_iff.1 f4).1, fun m hm2 k => (form4_iff.1 f4).2 m hm2 ?_⟩
      have e : (prOf (setP d sl (d.procs.set i p')) m.proc).map sigP = (prOf d m.proc).map sigP := by rw [prOf_sig, prOf_sig, hpr, hm]
      rw [Option.isNone_iff_eq_none] at k ⊢
      rw [k] at e
      simpa using e.symm
  have B : bodiesT (setP d sl (d.procs.set i p')) = some (p.name, 0, 9) := by
    unfold bodiesT at hb ⊢
    rw [firstE_iff] at hb
    refine firstE_at (k := i) (y := p') (fun j x hj hx => ?_) (by rw [hpr, List.getElem?_set_self hil]) ?_
    · rw [hpr, List.getElem?_set_ne (by omega)] at hx
      have := hb j x hx
      simp only [al.stsT]
      exact this
    · have : (stsT (setP d sl (d.procs.set i p')) (inProcS (setP d sl (d.procs.set i p')) p') p'.result 0 p'.body) = (0, 9) := by
        rw [al.stsT]
        have e0' : inProcS (setP d sl (d.procs.set i p')) p' = inProcS d p := by subst hp'; rfl
        rw [e0', show p'.body = .mk 1 s el [e0] l1 [] l2 [] :: p.body by subst hp'; rfl, stsT_cons]
        have st : stmtT d (inProcS d p) p'.result 1 s [e0] = 9 := by
          unfold stmtT
          rw [if_neg (by decide), partsT_cons, he]
          simp only [ne_eq, not_true_eq_false, if_false, partsT_nil, if_true]
          rw [if_pos (show lookF (inProcS d p).vars s = sE from hs)]
        have : stT d (inProcS d p) p'.result 0 (.mk 1 s el [e0] l1 [] l2 []) = (0, 9) := by
          rw [stT_eq]
          show (if stmtT d (inProcS d p) p'.result 1 s [e0] ≠ 0 then ((0 : Int), stmtT d (inProcS d p) p'.result 1 s [e0]) else _) = _
          rw [st]; rfl
        rw [this]; rfl
      rw [this, if_pos (by decide), show p'.name = p.name by subst hp'; rfl]
  unfold chkT
  rw [T, H, F, B]; rfl
theorem twiceProc {p : Pr} {i : Nat} (h : Good d) (hi : d.procs[i]? = some p) : chkT (setP d sl (d.procs ++ [p])) = some (p.name, -1, 10) := by
  obtain ⟨⟨t1, t2, t3⟩, hh, -⟩ := chk_parts.1 h.chk
  have T : typesT (setP d sl (d.procs ++ [p])) = none := by
    unfold typesT; rw [or_none, or_none]; exact ⟨t1, t2, t3⟩
  have H : headsT (setP d sl (d.procs ++ [p])) = some (p.name, -1, 10) := by
    unfold headsT at hh ⊢
    rw [firstE_iff] at hh
    refine firstE_at (k := d.procs.length) (y := p) (fun j x hj hx => ?_) (by show (d.procs ++ [p])[d.procs.length]? = some p; simp) ?_
    · have hx2 : d.procs[j]? = some x := by
        rw [← hx]; show d.procs[j]? = (d.procs ++ [p])[j]?
        rw [List.getElem?_append_left hj]
      have := hh j x hx2
      rw [Nat.zero_add] at this ⊢
      rw [show (setP d sl (d.procs ++ [p])).procs.take j = d.procs.take j from List.take_append_of_le_length (by omega)]
      exact this
    · rw [Nat.zero_add, show (setP d sl (d.procs ++ [p])).procs.take d.procs.length = d.procs from List.take_left' rfl, if_pos (List.any_eq_true.2 ⟨p, List.mem_of_getElem? hi, decide_eq_true rfl⟩)]
  unfold chkT
  rw [T, H]; rfl
theorem twiceGlobal {g : Fld} (h : Good d) (hi : d.globals[0]? = some g) (hl : (d.globals.length : Int) < 8) : validD (setG d sl (d.globals ++ [g])) = true ∧ chkT (setG d sl (d.globals ++ [g])) = some (g.name, -1, 10) := by
  refine ⟨?_, ?_⟩
  · have hv := h.valid
    rw [valid_iff] at hv ⊢
    obtain ⟨a1, a2, a3, a4, a5⟩ := hv
    refine ⟨a1, a2, ?_, a4, a5⟩
    unfold fldsB at a3 ⊢
    simp only [Bool.and_eq_true, decide_eq_true_eq, List.all_eq_true] at a3 ⊢
    refine ⟨by show ((d.globals ++ [g]).length : Int) ≤ 8; simp; omega, fun f hf => ?_⟩
    rcases List.mem_append.1 hf with hf | hf
    · exact a3.2 f hf
    · rw [List.mem_singleton.1 hf]; exact a3.2 g (List.mem_of_getElem? hi)
  · obtain ⟨⟨t1, t2, t3⟩, -⟩ := chk_parts.1 h.chk
    have T : types3 (setG d sl (d.globals ++ [g])) = some (g.name, -1, 10) := by
      unfold types3 at t3 ⊢
      rw [firstE_iff] at t3
      have ot : oneT (setG d sl (d.globals ++ [g])) (d.globals ++ [g]) d.globals.length g = 10 := by
        unfold oneT
        rw [List.take_left' rfl, if_pos (List.any_eq_true.2 ⟨g, List.mem_of_getElem? hi, decide_eq_true rfl⟩)]
      refine firstE_at (k := d.globals.length) (y := g) (fun j x hj hx => ?_) (by show (d.globals ++ [g])[d.globals.length]? = some g; simp) ?_
      · have hx2 : d.globals[j]? = some x := by
          rw [← hx]; show d.globals[j]? = (d.globals ++ [g])[j]?
          rw [List.getElem?_append_left hj]
        have := t3 j x hx2
        rw [Nat.zero_add] at this ⊢
        have e : oneT (setG d sl (d.globals ++ [g])) (setG d sl (d.globals ++ [g])).globals j x = oneT d d.globals j x := by
          unfold oneT
          rw [show (setG d sl (d.globals ++ [g])).globals.take j = d.globals.take j from List.take_append_of_le_length (by omega)]
          rfl
        rw [e]
        exact this
      · rw [Nat.zero_add]
        show (if oneT (setG d sl (d.globals ++ [g])) (d.globals ++ [g]) d.globals.length g ≠ 0 then some ((g.name, -1, oneT (setG d sl (d.globals ++ [g])) (d.globals ++ [g]) d.globals.length g) : Flt) else none) = _
        rw [ot]; rfl
    unfold chkT typesT
    rw [show types1 (setG d sl (d.globals ++ [g])) = none from t1, show types2 (setG d sl (d.globals ++ [g])) = none from t2, T]; rfl
end
end Go.Proofs
namespace Go.Proofs
open Go Go.Sx
attribute [local irreducible] Go.Sx.Tri
theorem ptr_off (g o m : Nat) : ptrAdd (some ⟨g, o, none⟩) m = some ⟨g, o + m, none⟩ := by
  show some (Addr.add ⟨g, o, none⟩ m) = _
  unfold Addr.add
  split
  · rename_i h; subst h; rfl
  · rfl
theorem flat_set {α : Type} {row : α → List Value} {sz : Nat} (hr : ∀ x, (row x).length = sz) {x' : α} {j : Nat} {v : Value} (hj : j < sz) : ∀ {xs : List α} {i : Nat} {x : α}, xs[i]? = some x → row x' = (row x).set j v → (xs.set i x').flatMap row = (xs.flatMap row).set (i * sz + j) v
  | [], _, _, h, _ => by simp at h
  | y :: ys, 0, x, h, e => by
    simp only [List.getElem?_cons_zero, Option.some.injEq] at h
    subst h
    rw [List.set_cons_zero, List.flatMap_cons, List.flatMap_cons, e, Nat.zero_mul, Nat.zero_add, List.set_append_left _ _ (by rw [hr]; exact hj)]
  | y :: ys, i + 1, x, h, e => by
    rw [List.getElem?_cons_succ] at h
    rw [List.set_cons_succ, List.flatMap_cons, List.flatMap_cons, flat_set hr hj h e, List.set_append_right _ _ (by rw [hr, Nat.add_mul]; omega)]
    congr 2
    rw [hr, Nat.add_mul]; omega
theorem own_put {α : Type} {row : α → List Value} {sz : Nat} (hr : ∀ x, (row x).length = sz) {V0 V : Mem} {e : TypeId} {s : Sl} {xs : List α} (o : Sx.Own V0 V e sz s (xs.flatMap row)) {i j : Nat} {x x' : α} {v : Value} (hx : xs[i]? = some x) (hrow : row x' = (row x).set j v) (hj : j < sz) {q : Mem → Prop}
    (hq : ∀ g obj, s.p = some ⟨g, 0, none⟩ → V0 g = none → Sx.Own V0 (V.set g obj) e sz s ((xs.set i x').flatMap row) → q (V.set g obj)) : StT (ptrAdd (ptrAdd s.p (i * sz)) j) 0 [v] V q := by
  have hn : s.n = xs.length := o.n_eq hr (by omega)
  have hi : i < xs.length := (List.getElem?_eq_some_iff.1 hx).1
  rcases o.at_ with ⟨h1, -, -⟩ | ⟨g, cur, hp, hg, hV, hnc, hcm, hcs, htake⟩
  · omega
  · have h2 : (i + 1) * sz ≤ s.n * sz := Nat.mul_le_mul_right _ (by omega)
    have h3 : s.n * sz ≤ s.c * sz := Nat.mul_le_mul_right _ hnc
    rw [Nat.add_mul, Nat.one_mul] at h2
    refine ⟨⟨g, i * sz + j, none⟩, cur, e, ?_, hV, rfl, by simp only [List.length_cons, List.length_nil]; omega, hq g _ hp hg ?_⟩
    · rw [hp, ptr_off, ptr_off, Nat.zero_add]
    · have hset : cur.toList.take (i * sz + j + 0) ++ [v] ++ cur.toList.drop (i * sz + j + 0 + [v].length) = cur.toList.set (i * sz + j) v := by
        rw [List.set_eq_take_append_cons_drop, if_pos (by rw [Array.length_toList]; omega)]
        simp
      rw [hset]
      refine ⟨fun b ob hb => ?_, by rw [flatMap_len hr, List.length_set, hn], .inr ⟨g, _, hp, hg, Mem.set_same _ _ _, hnc, hcm, by simp [hcs], ?_⟩⟩
      · rw [Mem.set_ne (fun e => by subst e; rw [hg] at hb; cases hb)]
        exact o.sub _ _ hb
      · rw [flat_set hr hj hx hrow, ← htake, List.take_set]
theorem own_sub {V0 V V' : Mem} {e : TypeId} {sz : Nat} {s : Sl} {vs : List Value} (o : Sx.Own V0 V e sz s vs) (h : V.sub V') : Sx.Own V0 V' e sz s vs := by
  refine ⟨o.sub.trans h, o.len, ?_⟩
  rcases o.at_ with h1 | ⟨g, cur, hp, hg, hV, r⟩
  · exact .inl h1
  · exact .inr ⟨g, cur, hp, hg, h _ _ hV, r⟩
theorem own_move {V0 V1 V : Mem} {e : TypeId} {sz : Nat} {s : Sl} {vs : List Value} (o : Sx.Own V0 V e sz s vs) {g : Nat} {obj ob : Obj} (hg : V0 g = some ob) (h1 : V1.sub (V.set g obj)) (h2 : V1.sub V0) : Sx.Own V1 (V.set g obj) e sz s vs := by
  refine ⟨h1, o.len, ?_⟩
  rcases o.at_ with h | ⟨b, cur, hp, hb, hV, r⟩
  · exact .inl h
  · refine .inr ⟨b, cur, hp, ?_, ?_, r⟩
    · cases hx : V1 b with
      | none => rfl
      | some y => rw [h2 _ _ hx] at hb; cases hb
    · rw [Mem.set_ne (fun e => by subst e; rw [hg] at hb; cases hb)]; exact hV
theorem szS_len : ∀ l : List S, l.length ≤ szSs l
  | [] => Nat.zero_le _
  | x :: xs => by
    have := szS_len xs
    cases x with
    | mk => unfold szSs szS; simp only [List.length_cons]; omega
theorem lookF_none {s : ByteArray} : ∀ {l : List Fld}, l.any (fun f => decide (f.name = s)) = false → lookF l s = sE
  | [], _ => rfl
  | f :: l, h => by
    rw [List.any_cons, Bool.or_eq_false_iff] at h
    unfold lookF
    rw [if_neg (of_decide_eq_false h.1), lookF_none h.2]
def sUnk : ByteArray := strB [117, 110, 107, 110, 111, 119, 110, 95, 118, 97, 114, 105, 97, 98, 108, 101]
def unkB (l : List Fld) : Bool := l.any fun f => decide (f.name = sUnk)
theorem procRows {V : Mem} {b : Nat} {p : Pr} (h : V b = some (.cells #[.string p.name, .slice p.ps.p p.ps.n p.ps.c, .string p.result, .slice p.ls.p p.ls.n p.ls.c, .slice p.bs.p p.bs.n p.bs.c] 54 (0, 0))) : RowsAt V ⟨some ⟨b, 0, none⟩, 1, 1⟩ 5 ([p].map Pr.row) :=
  RowsAt.cells (xs := [p]) (row := Pr.row) h rfl (fun _ => rfl) rfl (by simp)
theorem mem_snoc {α : Type} {q : α → Prop} {l : List α} {x : α} (h : ∀ y ∈ l, q y) (hx : q x) : ∀ y ∈ l ++ [x], q y := fun y hy => by
  rcases List.mem_append.1 hy with hy | hy
  · exact h y hy
  · rw [List.mem_singleton.1 hy]; exact hx
section
variable {V : Mem} {d : Ds}
theorem c33 {f : Fld} : PP 33 [f.v] V (.bool (decide (f.name = sUnk))) := by
  refine x33 (v0 := f.name) (v1 := f.ty) ?_
  unfold w33
  exact ⟨rfl, rfl⟩
theorem c32 {l : Sl} {xs : List Fld} (h : RowsAt V l 2 (xs.map Fld.row)) : PP 32 [l.v] V (.bool (!(unkB xs))) := by
  refine x32 (v0 := l) ?_
  unfold w32
  exact (c26 (first := []) (caps := []) h Tryz.call33 (fun f => decide (f.name = sUnk)) (fun f _ => c33)).call ⟨_, rfl, rfl, rfl⟩
theorem okP {sl : Sl} {l : List Pr} (h : Ds.Ok V d) (r : RowsAt V sl 5 (l.map Pr.row)) (k : ∀ p ∈ l, Pr.Ok V p) : Ds.Ok V (setP d sl l) := ⟨h.types, h.typesOk, h.globals, r, k, h.measures, h.measuresOk, h.invs, h.invsOk, h.pots, h.potsOk, h.bounds, h.boundsOk⟩
theorem okG {sl : Sl} {l : List Fld} (h : Ds.Ok V d) (r : RowsAt V sl 2 (l.map Fld.row)) : Ds.Ok V (setG d sl l) := ⟨h.types, h.typesOk, r, h.procs, h.procsOk, h.measures, h.measuresOk, h.invs, h.invsOk, h.pots, h.potsOk, h.bounds, h.boundsOk⟩
def xInt0 : E := .mk 1 0 (strB []) nilSl []
def unkS (l : Sl) : S := .mk 1 sUnk l [xInt0] nilSl [] nilSl []
theorem xInt0_t (sc : Sc) : exprT d sc xInt0 = (sInt, 0) := by kernel_rfl
theorem checkR {x : Ds} {r : Flt} (h : validD x = true → chkT x = some r) : ∃ r' : Flt, (if validD x = true then f3 (chkT x) else .tuple #[.string sE, .int .i64 0, .int .i64 1]) = .tuple #[.string r'.1, .int .i64 r'.2.1, .int .i64 r'.2.2] ∧ (r'.2.2 = 1 ∨ r' = r) := by
  by_cases hv : validD x = true
  · rw [if_pos hv, h hv]; exact ⟨r, rfl, .inr rfl⟩
  · rw [if_neg hv]; exact ⟨(sE, 0, 1), rfl, .inl rfl⟩
theorem checkR' {x : Ds} {p : Prop} {r : Flt} (h : p → chkT x = some r) : ∃ r' : Flt, (if validD x = true then f3 (chkT x) else .tuple #[.string sE, .int .i64 0, .int .i64 1]) = .tuple #[.string r'.1, .int .i64 r'.2.1, .int .i64 r'.2.2] ∧ (p → r'.2.2 = 1 ∨ r' = r) := by
  by_cases hv : validD x = true
  · rw [if_pos hv]; exact ⟨fltR (chkT x), rfl, fun hp => .inr (by rw [h hp]; rfl)⟩
  · rw [if_neg hv]; exact ⟨(sE, 0, 1), rfl, fun _ => .inl rfl⟩
end
end Go.Proofs
namespace Go.Proofs
open Go Go.Sx
attribute [local irreducible] Go.Sx.Tri
section
variable {V : Mem} {d : Ds}
set_option maxRecDepth 10000 in
theorem cDeclared [hT : Tab V] (hd : Ds.Ok V d) {k : Int} (hk : 0 ≤ k ∧ k ≤ 255) : PP 6 [d.v, .int .u8 k] V (.bool true) := by
  refine Pur.mk (x6 (v0 := d.name) (v1 := d.ts) (v2 := d.gs) (v3 := d.ps) (v4 := d.ms) (v5 := d.is) (v6 := d.qs) (v7 := d.bs) ?_)
  unfold w6
  refine (awakeC V).call ⟨_, rfl, fun _ => Tri.mono (c11 hd) ?_, fun h => absurd rfl h⟩
  rintro _ V1 ⟨ok, rfl, e1⟩
  obtain rfl : V = V1 := e1.symm
  refine ⟨ok, rfl, fun _ => ⟨fun _ => awakeAt (Mem.sub.refl _), fun h0 => (c22 hd).call ⟨_, rfl, fun hw => ?_, fun _ => awakeAt (Mem.sub.refl _)⟩⟩, fun _ => awakeAt (Mem.sub.refl _)⟩
  have good := Good.of hw
  have hvp := vparts good.valid
  obtain ⟨-, -, -, a4, -⟩ := valid_iff.1 good.valid
  have hpn := hd.procs.n_eq
  have hgn := hd.globals.n_eq
  obtain ⟨i, hi, he⟩ := mod_nat (n := d.ps.n) hk.1 (by omega)
  obtain ⟨p, hm, hx, hdr, hl, hp, hz, hrow⟩ := hd.procs.get (i := i) (by omega)
  have hpo := hd.procsOk p hm
  have hbl := szS_len p.body
  have hbl2 := (hvp.ps p hm).2
  rw [he]
  refine ⟨⟨by omega, by omega⟩, h0, hp, by omega, by omega, _, _, _, _, _, hrow, ?_⟩
  refine Tri.mono (c31 hd.procs (by omega)) ?_
  rintro _ V4 ⟨s17, rfl, o4⟩
  refine ⟨s17, rfl, fun b1 hb1 b2 hb2 => ?_⟩
  have hs1 := Mem.sub_new hb1 (.cells #[.int .i64 1, .int .i64 0, .string (strB []), .slice none 0 0] 40 (0, 0))
  have hs2 := Mem.sub_new hb2 (.cells #[.int .i64 1, .string sUnk, .slice (some ⟨b1, 0, none⟩) 1 1, .slice none 0 0, .slice none 0 0] 75 (0, 0))
  have hE1 := Mem.set_same V4 b1 (.cells #[.int .i64 1, .int .i64 0, .string (strB []), .slice none 0 0] 40 (0, 0))
  have oS : Sx.Own _ _ 75 5 ⟨some ⟨b2, 0, none⟩, 1, 1⟩ ([unkS ⟨some ⟨b1, 0, none⟩, 1, 1⟩].flatMap S.row) := ⟨hs2, rfl, .inr ⟨b2, _, rfl, hb2, Mem.set_same _ _ _, Nat.le_refl _, (show 1 ≤ maxLen by decide), rfl, rfl⟩⟩
  refine app52 (s := ⟨some ⟨b2, 0, none⟩, 1, 1⟩) (u := p.bs) (xs := [unkS ⟨some ⟨b1, 0, none⟩, 1, 1⟩]) (ys := p.body) rfl rfl oS (hpo.body.sub (o4.sub.trans (hs1.trans hs2))) (by simp; omega) fun s20 V7 o7 => ⟨s20, rfl, ?_⟩
  generalize hV5 : V4.set b1 (.cells #[.int .i64 1, .int .i64 0, .string (strB []), .slice none 0 0] 40 (0, 0)) = V5 at *
  have o4' := own_sub o4 (hs1.trans o7.sub)
  have hn17 : s17.n = d.procs.length := o4.n_eq (fun _ => rfl) (by decide)
  obtain ⟨g0, cur, hp17, -, hV4, -⟩ : ∃ g cur, s17.p = some ⟨g, 0, none⟩ ∧ V g = none ∧ V4 g = some (.cells cur 54 (0, 0)) ∧ True := by
    rcases o4.at_ with ⟨h1, -, -⟩ | ⟨g, cur, h1, h2, h3, -⟩
    · omega
    · exact ⟨g, cur, h1, h2, h3, trivial⟩
  have hp0 : ¬ s17.p = none := by rw [hp17]; simp
  refine ⟨hp0, by omega, by omega, ptrAdd_ne hp0, ?_⟩
  refine own_put (row := Pr.row) (fun _ => rfl) o4' (x' := { p with bs := s20, body := unkS ⟨some ⟨b1, 0, none⟩, 1, 1⟩ :: p.body }) hx rfl (by decide) fun g obj hpg hg ho => ?_
  obtain rfl : g = g0 := by rw [hp17] at hpg; simpa using hpg.symm
  have hm8 := ho.sub
  have hd8 := hd.sub hm8
  haveI hT8 : Tab (V7.set g obj) := hT.sub hm8
  have o20 := own_move o7 (hs1 _ _ hV4) hm8 (o4.sub.trans hs1)
  have hE8 : (V7.set g obj) b1 = some (.cells #[.int .i64 1, .int .i64 0, .string (strB []), .slice none 0 0] 40 (0, 0)) := by
    rw [Mem.set_ne (fun e => by subst e; rw [hb1] at hV4; cases hV4)]
    exact o7.sub _ _ hE1
  have okX : Ds.Ok (V7.set g obj) (setP d s17 (d.procs.set i { p with bs := s20, body := unkS ⟨some ⟨b1, 0, none⟩, 1, 1⟩ :: p.body })) := okP hd8 (ho.rows (fun _ => rfl) (by decide)) fun z hzm => by
    rcases List.mem_or_eq_of_mem_set hzm with hzm | rfl
    · exact hd8.procsOk z hzm
    · refine ⟨hpo.params.sub hm8, hpo.locals.sub hm8, o20.rows (fun s => by cases s; rfl) (by decide), fun y hy => ?_⟩
      rcases List.mem_cons.1 hy with rfl | hy
      · exact .mk (RowsAt.cells (xs := [xInt0]) (row := E.row) hE8 rfl (fun _ => rfl) rfl (by simp)) (fun e he => by rw [List.mem_singleton.1 he]; exact leafOk (by decide) (by decide)) RowsAt.nil (fun _ h => absurd h List.not_mem_nil) RowsAt.nil (fun _ h => absurd h List.not_mem_nil) (by decide)
      · exact (hpo.stmts y hy).sub hm8
  generalize V7.set g obj = V8 at *
  refine (c12 scopeC newC okX).call ?_
  obtain ⟨r, hr, hr2⟩ := checkR' (x := setP d s17 (d.procs.set i { p with bs := s20, body := unkS ⟨some ⟨b1, 0, none⟩, 1, 1⟩ :: p.body })) (p := unkB d.globals = false ∧ unkB p.params = false ∧ unkB p.locals = false) (r := (p.name, 0, 9)) fun h => by
    refine undeclared good hx (lookF_none ?_) (xInt0_t _) nilSl nilSl
    rw [List.any_append, List.any_append]
    show ((unkB p.params || unkB p.locals) || unkB d.globals) = false
    rw [h.1, h.2.1, h.2.2]; rfl
  rw [hr]
  refine ⟨_, _, _, rfl, (c32 hd8.globals).call ⟨_, rfl, fun u1 => (c32 (hpo.params.sub hm8)).call ⟨_, rfl, fun u2 => (c32 (hpo.locals.sub hm8)).call ⟨_, rfl, fun u3 => ?_, fun _ => ?_⟩, fun _ => ?_⟩, fun _ => ?_⟩⟩
  · have hu : r.2.2 = 1 ∨ r = (p.name, 0, 9) := hr2 ⟨by simpa using u1, by simpa using u2, by simpa using u3⟩
    clear hr2
    refine ⟨fun _ => ?_, fun h1 => ?_⟩
    · clear hu
      refine ⟨?_, ?_⟩
      all_goals
        refine Tri.mono (c31 hd8.procs (by omega)) ?_
        rintro _ V13 ⟨s27, rfl, o27⟩
        refine ⟨s27, rfl, fun b7 hb7 => ?_⟩
        refine app24 (s := s27) (u := ⟨some ⟨b7, 0, none⟩, 1, 1⟩) (xs := d.procs) (ys := [p]) rfl rfl (o27.new hb7 _) (procRows (Mem.set_same _ _ _)) (by simp; omega) fun s29 V15 o29 => ⟨s29, rfl, ?_⟩
        have hm9 := hm8.trans o29.sub
        have hd9 := hd.sub hm9
        haveI hT9 : Tab V15 := hT.sub hm9
        refine (c12 scopeC newC (okP hd9 (o29.rows (fun _ => rfl) (by decide)) (mem_snoc hd9.procsOk (hpo.sub hm9)))).call ?_
        obtain ⟨r9, hr9, hu9⟩ := checkR (x := setP d s29 (d.procs ++ [p])) fun _ => twiceProc good hx
        rw [hr9]
        refine ⟨_, _, _, rfl, fun _ => ?_, fun h9 => ?_⟩
        · clear hu9
          refine ⟨fun _ => ⟨rfl, hm9⟩, fun hn => ⟨fun _ => ⟨rfl, hm9⟩, fun h8 => ?_⟩⟩
          obtain ⟨g1, hgm, hgx, -, -, hgp, hgz, hgrow⟩ := hd9.globals.get (i := 0) (by omega)
          refine ⟨hgp, by omega, by omega, _, _, hgrow, ?_, ?_⟩
          all_goals
            refine Tri.mono (c34 hd9.globals (by omega)) ?_
            rintro _ V17 ⟨s35, rfl, o35⟩
            refine ⟨s35, rfl, ?_⟩
            first
            | refine ⟨rowp_self ((hd9.globals.sub o35.sub).at_get hgx), hgp, by omega, by omega, ?_⟩
            | skip
            intro b9 hb9
            refine app23 (s := s35) (u := ⟨some ⟨b9, 0, none⟩, 1, 1⟩) (xs := d.globals) (ys := [g1]) rfl rfl (o35.new hb9 _) (one_fld (Mem.set_same _ _ _)) (by simp; omega) fun s37 V19 o37 => ⟨s37, rfl, ?_⟩
            have hm10 := hm9.trans o37.sub
            haveI : Tab V19 := hT.sub hm10
            obtain ⟨gv, gc⟩ := twiceGlobal (sl := s37) good hgx (by omega)
            refine (c12 scopeC newC (okG (hd.sub hm10) (ownF o37))).call ?_
            rw [if_pos gv, gc]
            obtain ⟨g2, -, hgx2, -, -, -, -, hgrow2⟩ := (hd.sub hm10).globals.get (i := 0) (by omega)
            obtain rfl : g2 = g1 := Option.some.inj (hgx2.symm.trans hgx)
            exact ⟨_, _, _, rfl, hgp, by omega, by omega, ptrAdd_ne hgp, _, _, hgrow2, fun _ => ⟨fun _ => ⟨rfl, hm10⟩, fun h => absurd rfl h⟩, fun h => absurd rfl h⟩
        · rcases hu9 with hu9 | rfl
          · exact absurd hu9 h9
          · refine ⟨fun _ => ⟨fun _ => ⟨fun _ => ?_, fun h => absurd rfl h⟩, fun h => absurd rfl h⟩, fun h => absurd rfl h⟩
            refine ⟨fun _ => ⟨rfl, hm9⟩, fun hn => ⟨fun _ => ⟨rfl, hm9⟩, fun h8 => ?_⟩⟩
            obtain ⟨g1, hgm, hgx, -, -, hgp, hgz, hgrow⟩ := hd9.globals.get (i := 0) (by omega)
            refine ⟨hgp, by omega, by omega, _, _, hgrow, ?_, ?_⟩
            all_goals
              refine Tri.mono (c34 hd9.globals (by omega)) ?_
              rintro _ V17 ⟨s35, rfl, o35⟩
              refine ⟨s35, rfl, ?_⟩
              first
              | refine ⟨rowp_self ((hd9.globals.sub o35.sub).at_get hgx), hgp, by omega, by omega, ?_⟩
              | skip
              intro b9 hb9
              refine app23 (s := s35) (u := ⟨some ⟨b9, 0, none⟩, 1, 1⟩) (xs := d.globals) (ys := [g1]) rfl rfl (o35.new hb9 _) (one_fld (Mem.set_same _ _ _)) (by simp; omega) fun s37 V19 o37 => ⟨s37, rfl, ?_⟩
              have hm10 := hm9.trans o37.sub
              haveI : Tab V19 := hT.sub hm10
              obtain ⟨gv, gc⟩ := twiceGlobal (sl := s37) good hgx (by omega)
              refine (c12 scopeC newC (okG (hd.sub hm10) (ownF o37))).call ?_
              rw [if_pos gv, gc]
              obtain ⟨g2, -, hgx2, -, -, -, -, hgrow2⟩ := (hd.sub hm10).globals.get (i := 0) (by omega)
              obtain rfl : g2 = g1 := Option.some.inj (hgx2.symm.trans hgx)
              exact ⟨_, _, _, rfl, hgp, by omega, by omega, ptrAdd_ne hgp, _, _, hgrow2, fun _ => ⟨fun _ => ⟨rfl, hm10⟩, fun h => absurd rfl h⟩, fun h => absurd rfl h⟩
    · rcases hu with hu | rfl
      · exact absurd hu h1
      · refine ⟨fun _ => ⟨fun _ => ⟨fun _ => ?_, fun h => absurd rfl h⟩, fun h => absurd rfl h⟩, fun h => absurd rfl h⟩
        refine ⟨?_, ?_⟩
        all_goals
          refine Tri.mono (c31 hd8.procs (by omega)) ?_
          rintro _ V13 ⟨s27, rfl, o27⟩
          refine ⟨s27, rfl, fun b7 hb7 => ?_⟩
          refine app24 (s := s27) (u := ⟨some ⟨b7, 0, none⟩, 1, 1⟩) (xs := d.procs) (ys := [p]) rfl rfl (o27.new hb7 _) (procRows (Mem.set_same _ _ _)) (by simp; omega) fun s29 V15 o29 => ⟨s29, rfl, ?_⟩
          have hm9 := hm8.trans o29.sub
          have hd9 := hd.sub hm9
          haveI hT9 : Tab V15 := hT.sub hm9
          refine (c12 scopeC newC (okP hd9 (o29.rows (fun _ => rfl) (by decide)) (mem_snoc hd9.procsOk (hpo.sub hm9)))).call ?_
          obtain ⟨r9, hr9, hu9⟩ := checkR (x := setP d s29 (d.procs ++ [p])) fun _ => twiceProc good hx
          rw [hr9]
          refine ⟨_, _, _, rfl, fun _ => ?_, fun h9 => ?_⟩
          · clear hu9
            refine ⟨fun _ => ⟨rfl, hm9⟩, fun hn => ⟨fun _ => ⟨rfl, hm9⟩, fun h8 => ?_⟩⟩
            obtain ⟨g1, hgm, hgx, -, -, hgp, hgz, hgrow⟩ := hd9.globals.get (i := 0) (by omega)
            refine ⟨hgp, by omega, by omega, _, _, hgrow, ?_, ?_⟩
            all_goals
              refine Tri.mono (c34 hd9.globals (by omega)) ?_
              rintro _ V17 ⟨s35, rfl, o35⟩
              refine ⟨s35, rfl, ?_⟩
              first
              | refine ⟨rowp_self ((hd9.globals.sub o35.sub).at_get hgx), hgp, by omega, by omega, ?_⟩
              | skip
              intro b9 hb9
              refine app23 (s := s35) (u := ⟨some ⟨b9, 0, none⟩, 1, 1⟩) (xs := d.globals) (ys := [g1]) rfl rfl (o35.new hb9 _) (one_fld (Mem.set_same _ _ _)) (by simp; omega) fun s37 V19 o37 => ⟨s37, rfl, ?_⟩
              have hm10 := hm9.trans o37.sub
              haveI : Tab V19 := hT.sub hm10
              obtain ⟨gv, gc⟩ := twiceGlobal (sl := s37) good hgx (by omega)
              refine (c12 scopeC newC (okG (hd.sub hm10) (ownF o37))).call ?_
              rw [if_pos gv, gc]
              obtain ⟨g2, -, hgx2, -, -, -, -, hgrow2⟩ := (hd.sub hm10).globals.get (i := 0) (by omega)
              obtain rfl : g2 = g1 := Option.some.inj (hgx2.symm.trans hgx)
              exact ⟨_, _, _, rfl, hgp, by omega, by omega, ptrAdd_ne hgp, _, _, hgrow2, fun _ => ⟨fun _ => ⟨rfl, hm10⟩, fun h => absurd rfl h⟩, fun h => absurd rfl h⟩
          · rcases hu9 with hu9 | rfl
            · exact absurd hu9 h9
            · refine ⟨fun _ => ⟨fun _ => ⟨fun _ => ?_, fun h => absurd rfl h⟩, fun h => absurd rfl h⟩, fun h => absurd rfl h⟩
              refine ⟨fun _ => ⟨rfl, hm9⟩, fun hn => ⟨fun _ => ⟨rfl, hm9⟩, fun h8 => ?_⟩⟩
              obtain ⟨g1, hgm, hgx, -, -, hgp, hgz, hgrow⟩ := hd9.globals.get (i := 0) (by omega)
              refine ⟨hgp, by omega, by omega, _, _, hgrow, ?_, ?_⟩
              all_goals
                refine Tri.mono (c34 hd9.globals (by omega)) ?_
                rintro _ V17 ⟨s35, rfl, o35⟩
                refine ⟨s35, rfl, ?_⟩
                first
                | refine ⟨rowp_self ((hd9.globals.sub o35.sub).at_get hgx), hgp, by omega, by omega, ?_⟩
                | skip
                intro b9 hb9
                refine app23 (s := s35) (u := ⟨some ⟨b9, 0, none⟩, 1, 1⟩) (xs := d.globals) (ys := [g1]) rfl rfl (o35.new hb9 _) (one_fld (Mem.set_same _ _ _)) (by simp; omega) fun s37 V19 o37 => ⟨s37, rfl, ?_⟩
                have hm10 := hm9.trans o37.sub
                haveI : Tab V19 := hT.sub hm10
                obtain ⟨gv, gc⟩ := twiceGlobal (sl := s37) good hgx (by omega)
                refine (c12 scopeC newC (okG (hd.sub hm10) (ownF o37))).call ?_
                rw [if_pos gv, gc]
                obtain ⟨g2, -, hgx2, -, -, -, -, hgrow2⟩ := (hd.sub hm10).globals.get (i := 0) (by omega)
                obtain rfl : g2 = g1 := Option.some.inj (hgx2.symm.trans hgx)
                exact ⟨_, _, _, rfl, hgp, by omega, by omega, ptrAdd_ne hgp, _, _, hgrow2, fun _ => ⟨fun _ => ⟨rfl, hm10⟩, fun h => absurd rfl h⟩, fun h => absurd rfl h⟩
  all_goals
    clear hr2
    refine ⟨?_, ?_⟩
    all_goals
      refine Tri.mono (c31 hd8.procs (by omega)) ?_
      rintro _ V13 ⟨s27, rfl, o27⟩
      refine ⟨s27, rfl, fun b7 hb7 => ?_⟩
      refine app24 (s := s27) (u := ⟨some ⟨b7, 0, none⟩, 1, 1⟩) (xs := d.procs) (ys := [p]) rfl rfl (o27.new hb7 _) (procRows (Mem.set_same _ _ _)) (by simp; omega) fun s29 V15 o29 => ⟨s29, rfl, ?_⟩
      have hm9 := hm8.trans o29.sub
      have hd9 := hd.sub hm9
      haveI hT9 : Tab V15 := hT.sub hm9
      refine (c12 scopeC newC (okP hd9 (o29.rows (fun _ => rfl) (by decide)) (mem_snoc hd9.procsOk (hpo.sub hm9)))).call ?_
      obtain ⟨r9, hr9, hu9⟩ := checkR (x := setP d s29 (d.procs ++ [p])) fun _ => twiceProc good hx
      rw [hr9]
      refine ⟨_, _, _, rfl, fun _ => ?_, fun h9 => ?_⟩
      · clear hu9
        refine ⟨fun _ => ⟨rfl, hm9⟩, fun hn => ⟨fun _ => ⟨rfl, hm9⟩, fun h8 => ?_⟩⟩
        obtain ⟨g1, hgm, hgx, -, -, hgp, hgz, hgrow⟩ := hd9.globals.get (i := 0) (by omega)
        refine ⟨hgp, by omega, by omega, _, _, hgrow, ?_, ?_⟩
        all_goals
          refine Tri.mono (c34 hd9.globals (by omega)) ?_
          rintro _ V17 ⟨s35, rfl, o35⟩
          refine ⟨s35, rfl, ?_⟩
          first
          | refine ⟨rowp_self ((hd9.globals.sub o35.sub).at_get hgx), hgp, by omega, by omega, ?_⟩
          | skip
          intro b9 hb9
          refine app23 (s := s35) (u := ⟨some ⟨b9, 0, none⟩, 1, 1⟩) (xs := d.globals) (ys := [g1]) rfl rfl (o35.new hb9 _) (one_fld (Mem.set_same _ _ _)) (by simp; omega) fun s37 V19 o37 => ⟨s37, rfl, ?_⟩
          have hm10 := hm9.trans o37.sub
          haveI : Tab V19 := hT.sub hm10
          obtain ⟨gv, gc⟩ := twiceGlobal (sl := s37) good hgx (by omega)
          refine (c12 scopeC newC (okG (hd.sub hm10) (ownF o37))).call ?_
          rw [if_pos gv, gc]
          obtain ⟨g2, -, hgx2, -, -, -, -, hgrow2⟩ := (hd.sub hm10).globals.get (i := 0) (by omega)
          obtain rfl : g2 = g1 := Option.some.inj (hgx2.symm.trans hgx)
          exact ⟨_, _, _, rfl, hgp, by omega, by omega, ptrAdd_ne hgp, _, _, hgrow2, fun _ => ⟨fun _ => ⟨rfl, hm10⟩, fun h => absurd rfl h⟩, fun h => absurd rfl h⟩
      · rcases hu9 with hu9 | rfl
        · exact absurd hu9 h9
        · refine ⟨fun _ => ⟨fun _ => ⟨fun _ => ?_, fun h => absurd rfl h⟩, fun h => absurd rfl h⟩, fun h => absurd rfl h⟩
          refine ⟨fun _ => ⟨rfl, hm9⟩, fun hn => ⟨fun _ => ⟨rfl, hm9⟩, fun h8 => ?_⟩⟩
          obtain ⟨g1, hgm, hgx, -, -, hgp, hgz, hgrow⟩ := hd9.globals.get (i := 0) (by omega)
          refine ⟨hgp, by omega, by omega, _, _, hgrow, ?_, ?_⟩
          all_goals
            refine Tri.mono (c34 hd9.globals (by omega)) ?_
            rintro _ V17 ⟨s35, rfl, o35⟩
            refine ⟨s35, rfl, ?_⟩
            first
            | refine ⟨rowp_self ((hd9.globals.sub o35.sub).at_get hgx), hgp, by omega, by omega, ?_⟩
            | skip
            intro b9 hb9
            refine app23 (s := s35) (u := ⟨some ⟨b9, 0, none⟩, 1, 1⟩) (xs := d.globals) (ys := [g1]) rfl rfl (o35.new hb9 _) (one_fld (Mem.set_same _ _ _)) (by simp; omega) fun s37 V19 o37 => ⟨s37, rfl, ?_⟩
            have hm10 := hm9.trans o37.sub
            haveI : Tab V19 := hT.sub hm10
            obtain ⟨gv, gc⟩ := twiceGlobal (sl := s37) good hgx (by omega)
            refine (c12 scopeC newC (okG (hd.sub hm10) (ownF o37))).call ?_
            rw [if_pos gv, gc]
            obtain ⟨g2, -, hgx2, -, -, -, -, hgrow2⟩ := (hd.sub hm10).globals.get (i := 0) (by omega)
            obtain rfl : g2 = g1 := Option.some.inj (hgx2.symm.trans hgx)
            exact ⟨_, _, _, rfl, hgp, by omega, by omega, ptrAdd_ne hgp, _, _, hgrow2, fun _ => ⟨fun _ => ⟨rfl, hm10⟩, fun h => absurd rfl h⟩, fun h => absurd rfl h⟩
end
end Go.Proofs
