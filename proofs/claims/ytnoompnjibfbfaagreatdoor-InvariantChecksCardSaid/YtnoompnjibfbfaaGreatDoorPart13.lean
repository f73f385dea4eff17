/- Part 13 of a proof of a law of this seat: no statement of the seat is proved here. -/
import Derived.Test.YtnoompnjibfbfaaGreatDoorPart12
import Derived.Test.YtnoompnjibfbfaaGreatDoorPart04
import Derived.OrdersIn
import Derived.OwnWalkIn
import Derived.RangeFuncRecord
import Derived.Tactics
import Derived.TacticsIn
import Derived.RangeFuncNested
set_option linter.unusedVariables false
set_option linter.unusedSimpArgs false
namespace Go.Proofs
open Go Go.Sx
structure qBF (d : Ds) (m : Mm) : Prop where
 valid : qAQ d = true
 chk : qIZ d = none
 mem : qAY d m = true
def VE (e : E) : Prop := ∃ k, okE k e = true
theorem VE.of_valid {e : E} (h : qBx e = true) : VE e := ⟨1, (of_decide_eq_true h).1⟩
theorem okE_eq (k : Int) (e : E) : okE k e = (decide (k <= 60) && qDb e.op e.n e.s e.k.length && okEs (k + 1) e.k) := by cases e; unfold okE; rfl
theorem okEs_all {k : Int} : ∀ {l : List E}, okEs k l = true -> ∀ x ∈ l, okE k x = true
 | [], _, x, hx => by cases hx
 | e :: l, h, x, hx => by
  unfold okEs at h
  rw [Bool.and_eq_true] at h
  rcases List.mem_cons.1 hx with rfl | hx
  ·exact h.1
  ·exact okEs_all h.2 x hx
theorem VE.node {e : E} (h : VE e) : qDb e.op e.n e.s e.k.length = true := by
 obtain ⟨k, h⟩ := h
 rw [okE_eq, Bool.and_eq_true, Bool.and_eq_true] at h
 exact h.1.2
theorem VE.kids {e : E} (h : VE e) : ∀ x ∈ e.k, VE x := by
 obtain ⟨k, h⟩ := h
 rw [okE_eq, Bool.and_eq_true] at h
 exact fun x hx => ⟨_, okEs_all h.2 x hx⟩
theorem qIE (d : Ds) (sc : Sc) : ∀ (k : List E) (acc : List ByteArray), (partsT d sc acc k).2 = 0 -> (∀ x ∈ k, (qAy d sc x).2 = 0) /\ (partsT d sc acc k).1 = acc ++ k.map fun x => (qAy d sc x).1
 | [], acc, _ => by rw [qCi]; simp
 | x :: xs, acc, h => by
  rw [qBR] at h ⊢
  split at h
  ·rename_i h'; exact absurd h h'
  ·rename_i h'
   rw [if_neg h']
   obtain ⟨h1, h2⟩ := qIE d sc xs _ h
   refine ⟨List.forall_mem_cons.2 ⟨by simpa using h', h1⟩, ?_⟩
   rw [h2]; simp
theorem qGX {d : Ds} {sc : Sc} {e : E} {t : ByteArray} (h : qAy d sc e = (t, 0)) : (∀ x ∈ e.k, (qAy d sc x).2 = 0) /\ qHr d sc e.op e.s (e.k.map fun x => (qAy d sc x).1) = (t, 0) := by
 rw [qGN] at h
 split at h
 ·rename_i h'
  simp only [Prod.mk.injEq] at h
  exact absurd h.2 h'
 ·rename_i h'
  have h' : (partsT d sc [] e.k).2 = 0 := by simpa using h'
  obtain ⟨h1, h2⟩ := qIE d sc e.k [] h'
  rw [h2, List.nil_append] at h
  exact ⟨h1, h⟩
theorem arityB {op n : Int} {s : ByteArray} {l : Int} (h : qDb op n s l = true) : qAM op ≠ -2 /\ (0 <= qAM op -> l = qAM op) /\ nmB op s = true /\ numB op n = true := by
 unfold qDb at h
 rw [Bool.and_eq_true, Bool.and_eq_true, decide_eq_true_eq] at h
 exact ⟨h.1.1.1, h.1.1.2.1, h.1.2, h.2⟩
theorem list1 {α : Type} {k : List α} (h : (k.length : Int) = 1) : ∃ a, k = [a] := by
 match k, h with
 | [a], _ => exact ⟨a, rfl⟩
 | [], h => simp at h
 | _ :: _ :: _, h => simp at h; omega
theorem list2 {α : Type} {k : List α} (h : (k.length : Int) = 2) : ∃ a b, k = [a, b] := by
 match k, h with
 | [a, b], _ => exact ⟨a, b, rfl⟩
 | [], h => simp at h
 | [_], h => simp at h
 | _ :: _ :: _ :: _, h => simp at h; omega
theorem list3 {α : Type} {k : List α} (h : (k.length : Int) = 3) : ∃ a b c, k = [a, b, c] := by
 match k, h with
 | [a, b, c], _ => exact ⟨a, b, c, rfl⟩
 | [], h => simp at h
 | [_], h => simp at h
 | [_, _], h => simp at h
 | _ :: _ :: _ :: _ :: _, h => simp at h; omega
theorem name_kw {s : ByteArray} (h : qAz s = true) : isKw s = false := by
 unfold qAz at h
 rw [Bool.and_eq_true] at h
 simpa using h.2
theorem qBI {s t : ByteArray} (h : qAz s = true) (ht : isKw t = true) : s ≠ t := fun e => by rw [e] at h; rw [name_kw h] at ht; cases ht
theorem qJA : isKw sNil = true := by kernel_rfl
theorem kwInt : isKw qAP = true := by kernel_rfl
theorem kwBool : isKw qAt = true := by kernel_rfl
theorem kwThis : isKw qBG = true := by kernel_rfl
theorem name_E {s : ByteArray} (h : qAz s = true) : s ≠ sE := fun e => by
 rw [e] at h
 have : qAz sE = false := by unfold qAz; rw [decide_eq_false (fun c => c.1 (by kernel_rfl))]; rfl
 rw [this] at h; cases h
section
variable {d : Ds} {m : Mm}
theorem qBj (h : qAQ d = true) : (∀ t ∈ d.types, qAz t.name = true) /\ (∀ f ∈ d.globals, qAz f.name = true) /\ (∀ x ∈ d.measures, msB x = true) /\ (∀ x ∈ d.invs, ivB x = true) := by
 unfold qAQ at h
 simp only [Bool.and_eq_true] at h
 obtain ⟨⟨⟨⟨⟨h1, h2⟩, -⟩, hT⟩, -⟩, hF⟩ := h
 unfold qIi at hF
 simp only [Bool.and_eq_true, List.all_eq_true] at hF hT
 refine ⟨fun t ht => ?_, fun f hf => ?_, hF.1.1.1, hF.1.1.2⟩
 ·have := hT t ht
  unfold tyB at this
  rw [Bool.and_eq_true] at this
  exact this.1
 ·have hg := h1.2
  unfold qEg at hg
  simp only [Bool.and_eq_true, List.all_eq_true] at hg
  have := hg.2 f hf
  unfold fldB at this
  rw [Bool.and_eq_true] at this
  exact this.1
theorem qBW (h : qAQ d = true) {s : ByteArray} (hs : qAN d s = true) : qAz s = true := by
 obtain ⟨t, ht, e⟩ := List.any_eq_true.1 hs
 rw [<- of_decide_eq_true e]
 exact (qBj h).1 t ht
def qBk (d : Ds) (m : Mm) (t : ByteArray) (v : Int) : Prop := if t = sNil then v = 0 else qAR d m t v = true
theorem qHh : sNil ≠ qAP /\ sNil ≠ qAt /\ qAP ≠ sNil /\ qAt ≠ sNil /\ qAP ≠ qAt /\ qAt ≠ qAP := by
 refine ⟨of_decide_eq_false ?_, of_decide_eq_false ?_, of_decide_eq_false ?_, of_decide_eq_false ?_, of_decide_eq_false ?_, of_decide_eq_false ?_⟩ <;> kernel_rfl
theorem qBn {v : Int} : qBk d m qAP v ↔ -1099511627776 <= v /\ v <= 1099511627776 := by
 unfold qBk qAR
 rw [if_neg qHh.2.2.1, if_pos rfl, decide_eq_true_eq]
theorem qBs {v : Int} : qBk d m qAt v ↔ v = 0 ∨ v = 1 := by
 unfold qBk qAR
 rw [if_neg qHh.2.2.2.1, if_neg qHh.2.2.2.2.2, if_pos rfl, decide_eq_true_eq]
theorem qGU (h : qAQ d = true) {t : ByteArray} (ht : known d t = true) {v : Int} : qBk d m t v ↔ qAR d m t v = true := by
 unfold qBk
 rw [if_neg]
 intro e
 subst e
 unfold known at ht
 rw [decide_eq_false qHh.1, decide_eq_false qHh.2.1] at ht
 exact qBI (qBW h (by simpa using ht)) qJA rfl
theorem qIz {t : ByteArray} (h : qAz t = true) : qAR d m t 0 = true := by
 unfold qAR
 rw [if_neg (qBI h kwInt), if_neg (qBI h kwBool)]
 exact decide_eq_true (.inl rfl)
theorem qDh (h : qAQ d = true) {a b : ByteArray} (hf : qFD d a b = true) {v : Int} (hv : qBk d m a v) : qBk d m b v := by
 unfold qFD at hf
 simp only [Bool.or_eq_true, Bool.and_eq_true, decide_eq_true_eq] at hf
 rcases hf with rfl | ⟨rfl, hb⟩
 ·exact hv
 ·have hn := qBW h hb
  unfold qBk at hv ⊢
  rw [if_pos rfl] at hv
  rw [if_neg (qBI hn qJA), hv]
  exact qIz hn
def This (d : Ds) (m : Mm) (T : ByteArray) (x : Int) : Prop := (T = sE /\ x = 0) ∨ (qAN d T = true /\ x ≠ 0 /\ qAR d m T x = true)
theorem qIN : ∀ (l : List Fld) (s : ByteArray), qBJ l s = ((l.find? fun f => decide (f.name = s)).map (·.ty)).getD sE
 | [], _ => rfl
 | f :: l, s => by
  unfold qBJ
  rw [List.find?_cons]
  by_cases h : f.name = s
  ·rw [if_pos h, decide_eq_true h]; rfl
  ·rw [if_neg h, decide_eq_false h, qIN l s]
theorem qHw (l : List Fld) (s : ByteArray) : (qBJ l s = sE /\ qIh l s = -1) ∨ ∃ (i : Nat) (f : Fld), qIh l s = i /\ l[i]? = some f /\ qBJ l s = f.ty /\ f.name = s := by
 rw [qIN]
 unfold qIh
 rcases qAI (fun f : Fld => decide (f.name = s)) l with ⟨h1, h2, -⟩ | ⟨i, x, h1, h2, h3, -, h5, -⟩
 ·exact .inl ⟨by rw [h2]; rfl, h1⟩
 ·exact .inr ⟨i, x, h1, h2, by rw [h3]; rfl, of_decide_eq_true h5⟩
theorem qEL (h : hasT d = true) : qCe d d.globals = true /\ (∀ (i : Nat) (x : Ty), d.types[i]? = some x -> qEd d x.name = (i : Int)) /\ ∀ x ∈ d.types, qCe d x.fields = true := by
 unfold hasT at h
 rw [Bool.and_eq_true, Bool.and_eq_true, qCE] at h
 obtain ⟨⟨-, h1⟩, h2⟩ := h
 refine ⟨h1, fun i x hx => ?_, fun x hx => ?_⟩
 ·have := h2 i x hx
  rw [Bool.and_eq_true, decide_eq_true_eq] at this
  exact this.1
 ·obtain ⟨i, hi, rfl⟩ := List.mem_iff_getElem.1 hx
  have := h2 i _ (List.getElem?_eq_getElem hi)
  rw [Bool.and_eq_true] at this
  exact this.2
theorem qAq (h : qAY d m = true) : hasT d = true /\ m.nodes.length <= 4096 /\ (∀ n ∈ m.nodes, qDl d n = true) /\ qAC d m d.globals m.globals = true /\ ∀ n ∈ m.nodes, qAC d m (qAK d n.ty) n.f = true := by
 unfold qAY at h
 simp only [Bool.and_eq_true, List.all_eq_true, decide_eq_true_eq] at h
 exact ⟨h.1.1.1.1, h.1.1.1.2, h.1.1.2, h.1.2, h.2⟩
theorem qGS {l : List Fld} {vs : List Int} (h : qAC d m l vs = true) {i : Nat} {f : Fld} (hi : l[i]? = some f) : ∃ v, vs[i]? = some v /\ qAR d m f.ty v = true := by
 unfold qAC at h
 rw [Bool.and_eq_true, decide_eq_true_eq, qCE] at h
 have hl := (List.getElem?_eq_some_iff.1 hi).1
 have hv : vs[i]? = some (vs[i]'(by omega)) := List.getElem?_eq_getElem _
 refine ⟨_, hv, ?_⟩
 have := h.2 i _ hv
 unfold tyAt at this
 rw [hi] at this
 exact this
theorem qFJ {t : ByteArray} (hn : qAz t = true) {a : Int} (h : qAR d m t a = true) (h0 : a ≠ 0) : 1 <= a /\ a <= (m.nodes.length : Int) /\ ∃ n, m.nodes[(a - 1).toNat]? = some n /\ n ∈ m.nodes /\ n.ty = qEd d t := by
 unfold qAR at h
 rw [if_neg (qBI hn kwInt), if_neg (qBI hn kwBool), decide_eq_true_eq] at h
 rcases h with h | ⟨h1, h2, h3⟩
 ·exact absurd h h0
 ·refine ⟨h1, h2, ?_⟩
  cases hx : m.nodes[(a - 1).toNat]? with
  | none => rw [hx] at h3; cases h3
  | some n => rw [hx] at h3; exact ⟨n, rfl, List.mem_of_getElem? hx, by simpa using h3⟩
theorem tyOf_idx {s : ByteArray} {t : Ty} (h : tyOf d s = some t) : ∃ i : Nat, qEd d s = (i : Int) /\ d.types[i]? = some t /\ t.name = s /\ qAN d s = true := by
 unfold tyOf at h
 unfold qEd qAN
 rcases qAI (fun t : Ty => decide (t.name = s)) d.types with ⟨-, h2, -⟩ | ⟨i, x, h1, h2, h3, -, h5, -, h7, -⟩
 ·rw [h2] at h; cases h
 ·rw [h3] at h; cases h; exact ⟨i, h1, h2, of_decide_eq_true h5, h7⟩
theorem fld_ok (G : qBF d m) {t s ty : ByteArray} (ht : qCO d t s = (ty, 0)) {a : Int} (ha : qBk d m t a) (h0 : a ≠ 0) :
  ∃ (n : Nd) (i j : Nat) (tt : Ty) (f : Fld) (v : Int), m.nodes[(a - 1).toNat]? = some n /\ n ∈ m.nodes /\ 1 <= a /\ a <= (m.nodes.length : Int) /\ n.ty = (j : Int) /\ d.types[j]? = some tt /\ tt ∈ d.types /\ qIh tt.fields s = i /\ tt.fields[i]? = some f /\ n.f[i]? = some v /\ qBk d m ty v /\ qEs d m a s = .ok v /\ f.ty = ty := by
 unfold qCO at ht
 cases hty : tyOf d t with
 | none => rw [hty] at ht; simp at ht
 | some tt =>
  rw [hty] at ht
  simp only at ht
  split at ht
  ·simp at ht
  ·rename_i hl
   simp only [Prod.mk.injEq, and_true] at ht
   obtain ⟨j, hj, hj2, rfl, hnode⟩ := tyOf_idx hty
   have hname := qBW G.valid hnode
   have ha' : qAR d m tt.name a = true := by
    unfold qBk at ha; rw [if_neg (qBI hname qJA)] at ha; exact ha
   obtain ⟨b1, b2, n, b3, b4, b5⟩ := qFJ hname ha' h0
   rcases qHw tt.fields s with ⟨c1, -⟩ | ⟨i, f, c1, c2, c3, c4⟩
   ·exact absurd c1 hl
   ·have hfo : qAK d n.ty = tt.fields := qCl hj2 (b5.trans hj)
    obtain ⟨p1, -, -, -, p5⟩ := qAq G.mem
    have hv := p5 n b4
    rw [hfo] at hv
    obtain ⟨v, hv1, hv2⟩ := qGS hv c2
    have hmem := List.mem_of_getElem? hj2
    have hkn : known d f.ty = true := List.all_eq_true.1 ((qEL p1).2.2 tt hmem) f (List.mem_of_getElem? c2)
    refine ⟨n, i, j, tt, f, v, b3, b4, b1, b2, b5.trans hj, hj2, hmem, c1, c2, hv1, ?_, ?_, c3.symm.trans ht⟩
    ·rw [<- ht, c3]; exact (qGU G.valid hkn).2 hv2
    ·unfold qEs
     rw [if_neg h0, b3]
     simp only
     rw [hfo, c1, Int.toNat_natCast, hv1]; rfl
theorem var_ok (G : qBF d m) {T s t : ByteArray} {x : Int} (hT : This d m T x) (ht : qBJ (qAk d T).vars s = t) (hne : t ≠ sE) :
  (s = qBG /\ qBk d m t x /\ T = t) ∨ (s ≠ qBG /\ ∃ (i : Nat) (f : Fld) (v : Int), qIh d.globals s = i /\ d.globals[i]? = some f /\ m.globals[i]? = some v /\ qBk d m t v /\ varV d m x s = v /\ f.ty = t) := by
 obtain ⟨p1, -, -, p4, -⟩ := qAq G.mem
 unfold qAk at ht
 by_cases hs : s = qBG
 ·left
  refine ⟨hs, ?_⟩
  rcases hT with ⟨rfl, rfl⟩ | ⟨h1, h2, h3⟩
  ·rw [if_pos rfl, List.nil_append, hs] at ht
   rcases qHw d.globals qBG with ⟨c1, -⟩ | ⟨i, f, -, c2, -, c4⟩
   ·exact absurd (ht.symm.trans c1) hne
   ·have := (qBj G.valid).2.1 f (List.mem_of_getElem? c2)
    rw [c4] at this
    exact absurd rfl (qBI this kwThis)
  ·have hname := qBW G.valid h1
   rw [if_neg (name_E hname), hs] at ht
   simp only [List.singleton_append, qBJ, if_true] at ht
   refine ⟨?_, ht⟩
   rw [<- ht]
   unfold qBk
   rw [if_neg (qBI hname qJA)]; exact h3
 ·right
  refine ⟨hs, ?_⟩
  have ht' : qBJ d.globals s = t := by
   rw [<- ht]
   split
   ·rfl
   ·simp only [List.singleton_append]
    rw [qBJ, if_neg fun e => hs e.symm]
  rcases qHw d.globals s with ⟨c1, -⟩ | ⟨i, f, c1, c2, c3, -⟩
  ·exact absurd (ht'.symm.trans c1) hne
  ·obtain ⟨v, hv1, hv2⟩ := qGS p4 c2
   have hkn : known d f.ty = true := List.all_eq_true.1 (qEL p1).1 f (List.mem_of_getElem? c2)
   refine ⟨i, f, v, c1, c2, hv1, ?_, ?_, c3.symm.trans ht'⟩
   ·rw [<- ht', c3]; exact (qGU G.valid hkn).2 hv2
   ·unfold varV
    rw [if_neg hs, c1, Int.toNat_natCast, hv1]; rfl
theorem qDo {α β : Type} {f : Nat -> α -> Option β} : ∀ {l : List α} {i : Nat}, qAf f i l = none -> ∀ j x, l[j]? = some x -> f (i + j) x = none
 | [], _, _, j, x, hx => by simp at hx
 | y :: l, i, h, j, x, hx => by
  unfold qAf at h
  cases hy : f i y with
  | some b => rw [hy] at h; cases h
  | none =>
   rw [hy] at h
   cases j with
   | zero => simp at hx; subst hx; exact hy
   | succ j => rw [show i + (j + 1) = i + 1 + j by omega]; exact qDo h j x (by simpa using hx)
theorem or_none {α : Type} {a b : Option α} (h : a.or b = none) : a = none /\ b = none := by
 cases a with
 | none => exact ⟨rfl, by simpa using h⟩
 | some x => simp at h
theorem qDp (h : qIZ d = none) : (∀ x ∈ d.measures, qAN d x.ty = true /\ qAy d (qAk d x.ty) x.x = (qAP, 0)) /\ (∀ x ∈ d.invs, (x.ty = sE ∨ qAN d x.ty = true) /\ qAy d (qAk d x.ty) x.x = (qAt, 0)) := by
 unfold qIZ at h
 obtain ⟨-, h⟩ := or_none h
 obtain ⟨-, h⟩ := or_none h
 obtain ⟨hf, h⟩ := or_none h
 obtain ⟨-, h⟩ := or_none h
 unfold qEf at hf
 obtain ⟨f1, hf⟩ := or_none hf
 obtain ⟨f2, -⟩ := or_none hf
 unfold qGB at h
 obtain ⟨e1, h⟩ := or_none h
 obtain ⟨e2, -⟩ := or_none h
 have want : ∀ {sc : Sc} {e : E} {t : ByteArray}, qBa d sc e t = 0 -> qAy d sc e = (t, 0) := fun {sc e t} h => by
  unfold qBa at h
  split at h
  ·rename_i h'; exact absurd h h'
  ·rename_i h'
   split at h
   ·rename_i h2
    exact Prod.ext h2 (by simpa using h')
   ·cases h
 refine ⟨fun x hx => ?_, fun x hx => ?_⟩
 ·obtain ⟨i, hi, rfl⟩ := List.mem_iff_getElem.1 hx
  have a1 := qDo f1 i _ (List.getElem?_eq_getElem hi)
  have a2 := qDo e1 i _ (List.getElem?_eq_getElem hi)
  constructor
  ·split at a1
   ·cases a1
   ·split at a1
    ·cases a1
    ·rename_i h; simpa using h
  ·split at a2
   ·cases a2
   ·rename_i h; exact want (by simpa using h)
 ·obtain ⟨i, hi, rfl⟩ := List.mem_iff_getElem.1 hx
  have a1 := qDo f2 i _ (List.getElem?_eq_getElem hi)
  have a2 := qDo e2 i _ (List.getElem?_eq_getElem hi)
  constructor
  ·split at a1
   ·cases a1
   ·split at a1
    ·cases a1
    ·rename_i h
     by_cases hs : d.invs[i].ty = sE
     ·exact .inl hs
     ·right
      cases hn : qAN d d.invs[i].ty with
      | true => rfl
      | false => exact absurd ⟨hs, hn⟩ h
  ·split at a2
   ·cases a2
   ·rename_i h; exact want (by simpa using h)
end
end Go.Proofs
namespace Go.Proofs
open Go Go.Sx
section
variable {d : Ds} {m : Mm}
theorem qJB {f : E -> Rs} {k : List E} {i : Nat} {e : E} (h : k[i]? = some e) : qDD (k.map f) i = f e := by
 unfold qDD
 rw [List.getD_eq_getElem?_getD, List.getElem?_map, h]; rfl
theorem qCa {r : Rs} {f : Int -> Rs} {v : Int} (h : r.bind f = .ok v) : ∃ a, r = .ok a /\ f a = .ok v := by
 cases r with
 | ok a => exact ⟨a, rfl, h⟩
 | bad e => cases h
theorem big_ok {n v : Int} (h : big n = .ok v) : v = n /\ -1099511627776 <= v /\ v <= 1099511627776 := by
 unfold big at h
 split at h
 ·cases h; rename_i h1; exact ⟨rfl, h1⟩
 ·cases h
theorem trI_b (b : Bool) : trI b = 0 ∨ trI b = 1 := by cases b <;> simp [trI]
theorem qDz {ok : Bool} {t t' : ByteArray} (h : qDc ok t = (t', 0)) : ok = true /\ t = t' := by
 unfold qDc at h
 split at h
 ·rename_i h1; simp only [Prod.mk.injEq, and_true] at h; exact ⟨h1, h⟩
 ·simp at h
theorem qJi {a b : Int} (ha : -1099511627776 <= a /\ a <= 1099511627776) : -1099511627776 <= a.tdiv b /\ a.tdiv b <= 1099511627776 := by
 have := Int.natAbs_tdiv_le_natAbs a b
 omega
theorem tmod_in {a b : Int} (ha : -1099511627776 <= a /\ a <= 1099511627776) : -1099511627776 <= a.tmod b /\ a.tmod b <= 1099511627776 := by
 have h1 := Int.natAbs_tmod a b
 have := Nat.mod_le a.natAbs b.natAbs
 omega
theorem log_in {a : Int} (ha : a <= 1099511627776) : 0 <= qHz a /\ qHz a <= 1099511627776 := by
 unfold qHz
 have : Nat.log2 a.toNat <= a.toNat := Nat.log2_le_self _
 omega
inductive Kind (d : Ds) (sc : Sc) (e : E) : ByteArray -> Prop where
 | int (h : e.op = 1) (hn : 0 <= e.n /\ e.n <= 1099511627776) : Kind d sc e qAP
 | bool (h : e.op = 2) (hn : e.n = 0 ∨ e.n = 1) : Kind d sc e qAt
 | nil (h : e.op = 3) (hn : e.n = 0) : Kind d sc e sNil
 | var {t} (h : e.op = 4) (hl : qBJ sc.vars e.s = t) (hne : t ≠ sE) : Kind d sc e t
 | fld {t u} {a : E} (h : e.op = 5) (hk : e.k = [a]) (ha : qAy d sc a = (u, 0)) (ht : qCO d u e.s = (t, 0)) : Kind d sc e t
 | call {u} {a : E} {ms : Ms} {i : Nat} (h : e.op = 7) (hk : e.k = [a]) (ha : qAy d sc a = (u, 0)) (hi : qGh d e.s = i) (hms : d.measures[i]? = some ms) (hf : qFD d u ms.ty = true) : Kind d sc e qAP
 | neg {a : E} (h : e.op = 8) (hk : e.k = [a]) (ha : qAy d sc a = (qAP, 0)) : Kind d sc e qAP
 | not {a : E} (h : e.op = 18) (hk : e.k = [a]) (ha : qAy d sc a = (qAt, 0)) : Kind d sc e qAt
 | log {a : E} (h : e.op = 24) (hk : e.k = [a]) (ha : qAy d sc a = (qAP, 0)) : Kind d sc e qAP
 | and {a b : E} (h : e.op = 19) (hk : e.k = [a, b]) (ha : qAy d sc a = (qAt, 0)) (hb : qAy d sc b = (qAt, 0)) : Kind d sc e qAt
 | or {a b : E} (h : e.op = 20) (hk : e.k = [a, b]) (ha : qAy d sc a = (qAt, 0)) (hb : qAy d sc b = (qAt, 0)) : Kind d sc e qAt
 | cond {a b c : E} {t u w} (h : e.op = 21) (hk : e.k = [a, b, c]) (ha : qAy d sc a = (qAt, 0)) (hb : qAy d sc b = (u, 0)) (hc : qAy d sc c = (w, 0)) (hu : u = t ∨ qFD d u t = true) (hw : w = t ∨ qFD d w t = true) : Kind d sc e t
 | eq {a b : E} {u w} (h : e.op = 14 ∨ e.op = 15) (hk : e.k = [a, b]) (ha : qAy d sc a = (u, 0)) (hb : qAy d sc b = (w, 0)) : Kind d sc e qAt
 | cmp {a b : E} (h : e.op = 16 ∨ e.op = 17) (hk : e.k = [a, b]) (ha : qAy d sc a = (qAP, 0)) (hb : qAy d sc b = (qAP, 0)) : Kind d sc e qAt
 | ari {a b : E} (h : e.op = 9 ∨ e.op = 10 ∨ e.op = 11 ∨ e.op = 12 ∨ e.op = 13 ∨ e.op = 22 ∨ e.op = 23) (hk : e.k = [a, b]) (ha : qAy d sc a = (qAP, 0)) (hb : qAy d sc b = (qAP, 0)) : Kind d sc e qAP
theorem allT1 {t u : ByteArray} (h : allT [t] u = true) : t = u := by simpa [allT] using h
theorem allT2 {t t' u : ByteArray} (h : allT [t, t'] u = true) : t = u /\ t' = u := by simpa [allT] using h
theorem qDx {p : ByteArray × Int} {t : ByteArray} (h1 : p.1 = t) (h2 : p.2 = 0) : p = (t, 0) := Prod.ext h1 h2
theorem kind {sc : Sc} (hsc : sc.body = false) {e : E} {t : ByteArray} (hv : VE e) (ht : qAy d sc e = (t, 0)) : Kind d sc e t := by
 obtain ⟨hk, hn⟩ := qGX ht
 obtain ⟨a1, a2, a3, a4⟩ := arityB hv.node
 unfold qHr at hn
 unfold numB at a4
 have one : qAM e.op = 1 -> ∃ a, e.k = [a] := fun h => list1 ((a2 (by omega)).trans h)
 have two : qAM e.op = 2 -> ∃ a b, e.k = [a, b] := fun h => list2 ((a2 (by omega)).trans h)
 have three : qAM e.op = 3 -> ∃ a b c, e.k = [a, b, c] := fun h => list3 ((a2 (by omega)).trans h)
 by_cases h1 : e.op = 1
 ·rw [if_pos h1] at hn a4
  cases hn; exact .int h1 (of_decide_eq_true a4)
 rw [if_neg h1] at hn a4
 by_cases h2 : e.op = 2
 ·rw [if_pos h2] at hn a4
  cases hn; exact .bool h2 (of_decide_eq_true a4)
 rw [if_neg h2] at hn a4
 have a4 : e.n = 0 := of_decide_eq_true a4
 by_cases h3 : e.op = 3
 ·rw [if_pos h3] at hn
  cases hn; exact .nil h3 a4
 rw [if_neg h3] at hn
 by_cases h4 : e.op = 4
 ·rw [if_pos h4] at hn
  split at hn
  ·simp at hn
  ·rename_i hne
   simp only [Prod.mk.injEq, and_true] at hn
   exact .var h4 hn (hn ▸ hne)
 rw [if_neg h4] at hn
 by_cases h5 : e.op = 5
 ·obtain ⟨a, ha⟩ := one (by rw [h5]; rfl)
  rw [if_pos h5, ha] at hn
  rw [ha] at hk
  exact .fld h5 ha (qDx rfl (hk a (by simp))) hn
 rw [if_neg h5] at hn
 by_cases h6 : e.op = 6
 ·rw [if_pos h6, if_pos hsc] at hn
  simp at hn
 rw [if_neg h6] at hn
 by_cases h7 : e.op = 7
 ·rw [if_pos h7] at hn
  unfold qIk at hn
  rw [if_neg (by rw [hsc]; decide)] at hn
  unfold qIf meOf at hn
  unfold qGh at *
  rcases qAI (fun x : Ms => decide (x.name = e.s)) d.measures with ⟨-, q2, -⟩ | ⟨i, ms, q1, q2, q3, -⟩
  ·rw [q2] at hn; simp at hn
  ·rw [q3] at hn
   simp only at hn
   split at hn
   ·simp at hn
   ·rename_i hl
    obtain ⟨a, ha⟩ : ∃ a, e.k = [a] := list1 (by simp at hl; omega)
    rw [ha] at hn hk
    obtain ⟨b1, rfl⟩ := qDz hn
    exact .call h7 ha (qDx rfl (hk a (by simp))) q1 q2 (by simpa using b1)
 rw [if_neg h7] at hn
 by_cases h14 : e.op = 14 ∨ e.op = 15
 ·obtain ⟨a, b, hab⟩ := two (by rcases h14 with h | h <;> (rw [h]; rfl))
  rw [if_pos h14] at hn
  rw [hab] at hk
  obtain ⟨-, rfl⟩ := qDz hn
  exact .eq h14 hab (qDx rfl (hk a (by simp))) (qDx rfl (hk b (by simp)))
 rw [if_neg h14] at hn
 by_cases h16 : e.op = 16 ∨ e.op = 17
 ·obtain ⟨a, b, hab⟩ := two (by rcases h16 with h | h <;> (rw [h]; rfl))
  rw [if_pos h16, hab] at hn
  rw [hab] at hk
  obtain ⟨g, rfl⟩ := qDz hn
  obtain ⟨g1, g2⟩ := allT2 g
  exact .cmp h16 hab (qDx g1 (hk a (by simp))) (qDx g2 (hk b (by simp)))
 rw [if_neg h16] at hn
 by_cases h18 : e.op = 18 ∨ e.op = 19 ∨ e.op = 20
 ·rw [if_pos h18] at hn
  rcases h18 with h | h
  ·obtain ⟨a, ha⟩ := one (by rw [h]; rfl)
   rw [ha] at hn hk
   obtain ⟨g, rfl⟩ := qDz hn
   exact .not h ha (qDx (allT1 g) (hk a (by simp)))
  ·obtain ⟨a, b, hab⟩ := two (by rcases h with h | h <;> (rw [h]; rfl))
   rw [hab] at hn hk
   obtain ⟨g, rfl⟩ := qDz hn
   obtain ⟨g1, g2⟩ := allT2 g
   rcases h with h | h
   ·exact .and h hab (qDx g1 (hk a (by simp))) (qDx g2 (hk b (by simp)))
   ·exact .or h hab (qDx g1 (hk a (by simp))) (qDx g2 (hk b (by simp)))
 rw [if_neg h18] at hn
 by_cases h21 : e.op = 21
 ·obtain ⟨a, b, c, habc⟩ := three (by rw [h21]; rfl)
  rw [if_pos h21, habc] at hn
  rw [habc] at hk
  obtain ⟨g, g2⟩ := qDz hn
  simp only [List.map_cons, List.map_nil, List.getD_cons_zero, List.getD_cons_succ, Bool.and_eq_true, decide_eq_true_eq, Bool.or_eq_true] at g g2
  refine .cond h21 habc (qDx g.1 (hk a (by simp))) (qDx rfl (hk b (by simp))) (qDx rfl (hk c (by simp))) ?_ ?_
  ·split at g2
   ·rename_i g3
    subst g2
    rcases g.2 with g | g
    ·exact .inr g
    ·unfold qFD at g ⊢
     simp only [Bool.or_eq_true, decide_eq_true_eq, Bool.and_eq_true] at g ⊢
     rcases g with g | g
     ·exact .inl g.symm
     ·exact .inl (g3.trans g.1.symm)
   ·exact .inl g2
  ·split at g2
   ·exact .inl g2
   ·rename_i g3
    subst g2
    rcases g.2 with g | g
    ·unfold qFD at g ⊢
     simp only [Bool.or_eq_true, decide_eq_true_eq, Bool.and_eq_true] at g ⊢
     rcases g with g | g
     ·exact .inl g.symm
     ·exact absurd g.1 g3
    ·exact .inr g
 rw [if_neg h21] at hn
 obtain ⟨g, rfl⟩ := qDz hn
 have hop : e.op = 8 ∨ e.op = 24 ∨ (e.op = 9 ∨ e.op = 10 ∨ e.op = 11 ∨ e.op = 12 ∨ e.op = 13 ∨ e.op = 22 ∨ e.op = 23) := by
  unfold qAM at a1
  grind
 rcases hop with h | h | h
 ·obtain ⟨a, ha⟩ := one (by rw [h]; rfl)
  rw [ha] at g hk
  exact .neg h ha (qDx (allT1 g) (hk a (by simp)))
 ·obtain ⟨a, ha⟩ := one (by rw [h]; rfl)
  rw [ha] at g hk
  exact .log h ha (qDx (allT1 g) (hk a (by simp)))
 ·obtain ⟨a, b, hab⟩ := two (by rcases h with h | h | h | h | h | h | h <;> (rw [h]; rfl))
  rw [hab] at g hk
  obtain ⟨g1, g2⟩ := allT2 g
  exact .ari h hab (qDx g1 (hk a (by simp))) (qDx g2 (hk b (by simp)))
theorem two_ok {op a b v : Int} (h : op = 9 ∨ op = 10 ∨ op = 11 ∨ op = 12 ∨ op = 13 ∨ op = 22 ∨ op = 23) (ha : -1099511627776 <= a /\ a <= 1099511627776) (hb : -1099511627776 <= b /\ b <= 1099511627776) (hv : qCz op a b = .ok v) : -1099511627776 <= v /\ v <= 1099511627776 := by
 unfold qCz at hv
 split at hv
 ·exact (big_ok hv).2
 split at hv
 ·exact (big_ok hv).2
 split at hv
 ·exact (big_ok hv).2
 split at hv
 ·cases hv; split <;> assumption
 split at hv
 ·cases hv; split <;> assumption
 repeat' (split at hv; (first | omega | cases hv))
 ·exact qJi ha
 ·cases hv; exact tmod_in ha
theorem twoB_ok {op a b v : Int} (h : op = 14 ∨ op = 15 ∨ op = 16 ∨ op = 17) (hv : qCz op a b = .ok v) : v = 0 ∨ v = 1 := by
 rcases h with rfl | rfl | rfl | rfl
 ·have : trI (decide (a = b)) = v := by injection hv
  rw [<- this]; exact trI_b _
 ·have : trI (!decide (a = b)) = v := by injection hv
  rw [<- this]; exact trI_b _
 ·have : trI (decide (a < b)) = v := by injection hv
  rw [<- this]; exact trI_b _
 ·have : trI (decide (a <= b)) = v := by injection hv
  rw [<- this]; exact trI_b _
theorem qIr (G : qBF d m) {F : Int -> Int -> Rs} (hF : ∀ (i : Nat) ms x v, d.measures[i]? = some ms -> qBk d m ms.ty x -> F i x = .ok v -> qBk d m qAP v) {T : ByteArray} {x : Int} (hT : This d m T x) :
  ∀ (e : E) (t : ByteArray) (v : Int), VE e -> qAy d (qAk d T) e = (t, 0) -> evE d m F x e = .ok v -> qBk d m t v := by
 intro e
 induction e using E.ind with
 | h e ih =>
 intro t v hv ht he
 rw [qIX] at he
 have k0 : ∀ {a : E} {l : List E}, e.k = a :: l -> qDD (e.k.map (evE d m F x)) 0 = evE d m F x a := fun h => qJB (by rw [h]; rfl)
 have k1 : ∀ {a b : E} {l : List E}, e.k = a :: b :: l -> qDD (e.k.map (evE d m F x)) 1 = evE d m F x b := fun h => qJB (by rw [h]; rfl)
 have k2 : ∀ {a b c : E} {l : List E}, e.k = a :: b :: c :: l -> qDD (e.k.map (evE d m F x)) 2 = evE d m F x c := fun h => qJB (by rw [h]; rfl)
 have mem0 : ∀ {a : E} {l : List E}, e.k = a :: l -> a ∈ e.k := fun h => by rw [h]; simp
 have mem1 : ∀ {a b : E} {l : List E}, e.k = a :: b :: l -> b ∈ e.k := fun h => by rw [h]; simp
 have mem2 : ∀ {a b c : E} {l : List E}, e.k = a :: b :: c :: l -> c ∈ e.k := fun h => by rw [h]; simp
 have I : ∀ {a : E} {u : ByteArray} {w : Int}, a ∈ e.k -> qAy d (qAk d T) a = (u, 0) -> evE d m F x a = .ok w -> qBk d m u w := fun hm ha hw => ih _ hm _ _ (hv.kids _ hm) ha hw
 cases kind (d := d) (sc := qAk d T) rfl hv ht with
 | int h hn =>
  rw [comb1 (.inl h)] at he
  injection he with he
  rw [qBn]; omega
 | bool h hn =>
  rw [comb1 (.inr h)] at he
  injection he with he
  rw [qBs]; omega
 | nil h hn =>
  rw [comb3 h] at he
  injection he with he
  unfold qBk; rw [if_pos rfl]; exact he.symm
 | var h hl hne =>
  rw [comb4 h] at he
  injection he with he
  rcases var_ok G hT hl hne with ⟨h1, h2, -⟩ | ⟨h1, i, f, v', h2, h3, h4, h5, h6, -⟩
  ·unfold varV at he; rw [if_pos h1] at he; rw [<- he]; exact h2
  ·rw [<- he, h6]; exact h5
 | fld h hk ha hf =>
  rw [comb5 h, k0 hk] at he
  obtain ⟨a, h1, h2⟩ := qCa he
  have hav := I (mem0 hk) ha h1
  by_cases h0 : a = 0
  ·unfold qEs at h2; rw [if_pos h0] at h2; cases h2
  ·obtain ⟨_, _, _, _, _, w, -, -, -, -, -, -, -, -, -, -, g1, g2, -⟩ := fld_ok G hf hav h0
   rw [g2] at h2; cases h2; exact g1
 | call h hk ha hi hms hf =>
  rw [comb7 h, k0 hk, hi] at he
  obtain ⟨a, h1, h2⟩ := qCa he
  exact hF _ _ _ _ hms (qDh G.valid hf (I (mem0 hk) ha h1)) h2
 | neg h hk ha =>
  rw [comb8 h, k0 hk] at he
  obtain ⟨a, h1, h2⟩ := qCa he
  rw [qBn]; exact (big_ok h2).2
 | not h hk ha =>
  rw [comb18 h, k0 hk] at he
  obtain ⟨a, h1, h2⟩ := qCa he
  cases h2
  have := qBs.1 (I (mem0 hk) ha h1)
  rw [qBs]; omega
 | log h hk ha =>
  rw [comb24 h, k0 hk] at he
  obtain ⟨a, h1, h2⟩ := qCa he
  cases h2
  have := qBn.1 (I (mem0 hk) ha h1)
  have := log_in (a := a) this.2
  rw [qBn]; omega
 | and h hk ha hb =>
  rw [comb19 h, k0 hk, k1 hk] at he
  obtain ⟨a, h1, h2⟩ := qCa he
  split at h2
  ·cases h2; rw [qBs]; exact .inl rfl
  ·exact I (mem1 hk) hb h2
 | or h hk ha hb =>
  rw [comb20 h, k0 hk, k1 hk] at he
  obtain ⟨a, h1, h2⟩ := qCa he
  split at h2
  ·exact I (mem1 hk) hb h2
  ·cases h2; rw [qBs]; exact .inr rfl
 | cond h hk ha hb hc hu hw =>
  rw [comb21 h, k0 hk, k1 hk, k2 hk] at he
  obtain ⟨a, h1, h2⟩ := qCa he
  split at h2
  ·have := I (mem2 hk) hc h2
   rcases hw with rfl | hw
   ·exact this
   ·exact qDh G.valid hw this
  ·have := I (mem1 hk) hb h2
   rcases hu with rfl | hu
   ·exact this
   ·exact qDh G.valid hu this
 | eq h hk ha hb =>
  rw [qEi (by omega), k0 hk, k1 hk] at he
  obtain ⟨a, h1, h2⟩ := qCa he
  obtain ⟨b, h3, h4⟩ := qCa h2
  rw [qBs]; exact twoB_ok (by omega) h4
 | cmp h hk ha hb =>
  rw [qEi (by omega), k0 hk, k1 hk] at he
  obtain ⟨a, h1, h2⟩ := qCa he
  obtain ⟨b, h3, h4⟩ := qCa h2
  rw [qBs]; exact twoB_ok (by omega) h4
 | ari h hk ha hb =>
  rw [qEi (by omega), k0 hk, k1 hk] at he
  obtain ⟨a, h1, h2⟩ := qCa he
  obtain ⟨b, h3, h4⟩ := qCa h2
  rw [qBn]; exact two_ok h (qBn.1 (I (mem0 hk) ha h1)) (qBn.1 (I (mem1 hk) hb h3)) h4
theorem qFh {x : Ms} (h : msB x = true) : qAz x.ty = true /\ (-1099511627776 <= x.nil /\ x.nil <= 1099511627776) /\ VE x.x := by
 unfold msB at h
 simp only [Bool.and_eq_true, decide_eq_true_eq] at h
 exact ⟨h.1.1.2, h.1.2, VE.of_valid h.2⟩
theorem sound_M (G : qBF d m) : ∀ (n : Nat) (i : Nat) ms x v, d.measures[i]? = some ms -> qBk d m ms.ty x -> evM d m n i x = .ok v -> qBk d m qAP v := by
 intro n
 have hnil : ∀ (i : Nat) ms, d.measures[i]? = some ms -> qBk d m qAP (nilM d i) := fun i ms h => by
  rw [qBn]
  unfold nilM
  rw [Int.toNat_natCast, h]
  exact (qFh ((qBj G.valid).2.2.1 ms (List.mem_of_getElem? h))).2.1
 induction n with
 | zero =>
  intro i ms x v hms hx hv
  unfold evM at hv
  split at hv
  ·cases hv; exact hnil i ms hms
  ·cases hv
 | succ n ih =>
  intro i ms x v hms hx hv
  rw [evM] at hv
  split at hv
  ·cases hv; exact hnil i ms hms
  ·rename_i h0
   rw [Int.toNat_natCast, hms] at hv
   simp only at hv
   have hmem := List.mem_of_getElem? hms
   obtain ⟨c1, c2⟩ := (qDp G.chk).1 ms hmem
   have hT : This d m ms.ty x := .inr ⟨c1, h0, by
    unfold qBk at hx
    rw [if_neg (qBI (qBW G.valid c1) qJA)] at hx
    exact hx⟩
   exact qIr G ih hT ms.x qAP v (qFh ((qBj G.valid).2.2.1 ms hmem)).2.2 c2 hv
theorem sound (G : qBF d m) {T : ByteArray} {x : Int} (hT : This d m T x) {e : E} {t : ByteArray} {v : Int} (hv : VE e) (ht : qAy d (qAk d T) e = (t, 0)) {n : Nat} (he : evE d m (evM d m n) x e = .ok v) : qBk d m t v :=
 qIr G (sound_M G n) hT e t v hv ht he
end
end Go.Proofs
namespace Go.Sx
open Go
def qAs (r : Option Nat) : Fence := { Fence.wide with round := r }
section
variable {P : Program} {r : Option Nat} {n : Nat}
theorem qDL {f : FuncId} {args : Array Value} {w : World} {R : Ending -> World -> Prop} : CallsIn (qAs r) n P f args w R ↔ Calls P f args w R := callsIn_wide (n := n)
theorem rowsIn_wideR {row : String} {args : Array Value} {w : World} {R : Value -> World -> Prop} (h : Rows P row args w R) : RowsIn (qAs r) n P row args w R := fun c cs _ =>
 let ⟨v, w', q, s⟩ := h c cs
 ⟨v, w', q, stepsIn_wide.2 s⟩
theorem qIo {o : Oper} {a : Act} {w : World} {next : Act -> World -> Prop} {Q : Exit -> Act -> World -> Prop} (hd : ∀ c, o.op ≠ .defer c) (h : o.wp P a w next Q) : o.wpIn (qAs r) n P a w next Q := by
 refine ⟨fun _ _ => trivial, ?_⟩
 rw [Oper.semAt_eq _ _ _ hd]
 unfold Oper.wp at h
 revert h
 generalize (execOp a.eval o).run P w = res
 intro h
 cases res with
 | ok x w' =>
  cases x with
  | enter f args => exact ⟨fun h => by simp [qAs, Fence.wide] at h, qDL.2 h⟩
  | row row args => exact ⟨fun h => by simp [qAs, Fence.wide] at h, rowsIn_wideR h⟩
  | value v => exact h
  | skip => exact h
  | defer d => exact h
  | _ => exact h.elim
 | halt x w' => cases x <;> first | exact h | exact h.elim
def qFe : Op -> Bool
 | .defer _ => false
 | _ => true
theorem qCZ {o : Op} (h : qFe o = true) : ∀ c, o ≠ .defer c := fun c e => by subst e; cases h
def qCM : Code -> Bool
 | .region _ ops _ => ops.all fun o => qFe o.op
 | .seq x y => qCM x && qCM y
 | .block _ b => qCM b
 | .cond _ x y => qCM x && qCM y
 | .loop b => qCM b
 | _ => true
theorem qDg {ops : Array Oper} {Q : Exit -> Act -> World -> Prop} (hno : ¬ LetsOut Q) (hd : ∀ o ∈ ops, ∀ c, o.op ≠ .defer c) (l : List Oper) : ∀ k, (∀ j, j < l.length -> l[j]? = ops[k + j]?) -> ∀ a w, wpList P ops Q l a w ->
  wpOpsIn (qAs r) n P ops Q (List.range' k l.length) a w := by
 induction l with
 | nil => intro k _ a w h; simpa [wpOpsIn, wpList] using h
 | cons o l ih =>
  intro k h a w hw
  have h0 : ops[k]? = some o := by simpa using (h 0 (by simp)).symm
  have ih' := ih (k + 1) (fun j hj => by have := h (j + 1) (by simpa using hj); simpa [Nat.add_assoc, Nat.add_comm 1 j] using this)
  simp only [List.length_cons, List.range'_succ, wpOpsIn, h0]
  simp only [wpList] at hw
  split
  ·rename_i hy
   rw [if_pos hy] at hw
   rcases hw with hw | ⟨_, hw⟩
   ·exact qIo (hd o (Array.mem_of_getElem? h0)) (Oper.wp_mono (fun a w h => ih' a w h) hw)
   ·exact (hno hw).elim
  ·rename_i hy
   rw [if_neg hy] at hw
   exact ⟨fun _ _ => trivial, ih' _ _ hw⟩
theorem qGu {ops : Array Oper} {Q : Exit -> Act -> World -> Prop} (hno : ¬ LetsOut Q) (hd : ∀ o ∈ ops, ∀ c, o.op ≠ .defer c) {md : Region.Mode} : ∀ fuel listed a w, wpAny P md ops Q fuel listed a w ->
  wpAnyIn (qAs r) n P md ops Q fuel listed a w := by
 intro fuel
 induction fuel with
 | zero => exact fun _ _ _ h => h
 | succ fuel ih =>
  rintro listed a w ⟨h1, h2⟩
  refine ⟨h1, fun i hi => ?_⟩
  have := h2 i hi
  unfold wpOp at this
  unfold wpOpIn
  split
  ·rename_i ho
   simp only [ho] at this
   exact ih _ _ _ this
  ·rename_i o ho
   simp only [ho] at this
   split
   ·rename_i hy
    rw [if_pos hy] at this
    rcases this with hw | ⟨_, hw⟩
    ·exact qIo (hd o (Array.mem_of_getElem? ho)) (Oper.wp_mono (fun a w h => ih _ a w h) hw)
    ·exact (hno hw).elim
   ·rename_i hy
    rw [if_neg hy] at this
    exact ⟨fun _ _ => trivial, ih _ _ _ this⟩
end
open Classical in
theorem qEV {P : Program} {F : Fence} {n₀ : Nat} {c : Code} {Q : Exit -> Act -> World -> Prop} {a : Act} {w : World} (Inv : Nat -> Act -> World -> Prop) (h0 : ∃ n, Inv n a w)
  (round : ∀ n a w, Inv n a w -> c.wpIn F n₀ P (Exit.then (fun a' w' => ∃ n', n' < n /\ Inv n' a' w') Q) a w) : (Code.loop c).wpIn F n₀ P Q a w := by
 let m : Act -> World -> Nat := fun a w => if h : ∃ n, Inv n a w then Classical.choose (qBE _ h) else 0
 have hm : ∀ a w (h : ∃ n, Inv n a w), Inv (m a w) a w /\ ∀ k, Inv k a w -> m a w <= k := fun a w h => by
  have e : m a w = Classical.choose (qBE _ h) := by simp only [m, dif_pos h]
  rw [e]; exact Classical.choose_spec (qBE _ h)
 refine wpIn_loop (fun a w => ∃ n, Inv n a w) m h0 fun a w hI => ?_
 obtain ⟨h1, h2⟩ := hm a w hI
 refine wpIn_mono (round _ a w h1) (fun e a' w' q => ?_)
 cases e with
 | normal =>
  obtain ⟨n', h3, h4⟩ := q
  exact ⟨⟨n', h4⟩, Nat.lt_of_le_of_lt ((hm a' w' ⟨n', h4⟩).2 n' h4) h3⟩
 | _ => exact q
section
variable {all : Array Oper} {k : St -> Tr} {Q : Exit -> Act -> World -> Prop}
variable {P : Program} {R : Ending -> Mem -> Prop} {V0 : Mem} {w0 : World} {L : List (List Value -> Mem -> Prop)} {ρ0 : List Value} {fs : List Nat} {H : qFX}
theorem qHl (hcalls : qBT P fs) {st : St} {a : Act} {w : World} (hQ : qIl R V0 w0 a.defers Q) (h : qCt P R noO V0 w0 H.N L ρ0 a.tmps w st (qCs P fs H all st k))
  (hlo : LetsOut (fun (_ : Exit) (_ : Act) (_ : World) => False) -> LetsOut Q)
  (hk : ∀ st' a' w', a'.defers = a.defers -> qCt P R noO V0 w0 H.N L ρ0 a'.tmps w' st' (k st') -> Q .normal a' w') : wpAny P .any all Q all.size (Array.replicate all.size false) a { w with drawn := w.drawn + 1 } := by
 unfold qCs at h
 simp only at h
 obtain ⟨β, ρ, V, hp, hr, hD⟩ := h
 split at hD
 case isFalse => exact hD.elim
 rename_i hc
 simp only [Bool.and_eq_true, List.all_eq_true] at hc
 obtain ⟨hc1, hc2⟩ := hc
 obtain ⟨hok, h2, h3, h4, h5⟩ := qHP hc1
 have hrep : ∀ j d, j < all.size -> (Array.replicate all.size false).getD j d = false := fun j d hj => by simp [Array.getD, hj]
 refine (any_sound hcalls hok (fun i o ho => hc2 o (by have := Array.mem_of_getElem? ho; simpa using this)) hQ hlo hk all.size (List.range all.size) (qFO all (qAE all.toList []) all.size 0) [] st _ a _ a [] noO (fun x => x) ?_ rfl List.nodup_range (by simp) fun j => ?_)
 ·exact
  {lsize := by simp
   closed := fun j oj hj hl => by
    rw [hrep j _ (Array.getElem?_eq_some_iff.1 hj).1] at hl; cases hl
   chain := h5
   nd := h3
   bound := h4
   unl := fun j hj _ => .inr (nodup_all h3 h4 h2 hj)
   pu := fun j hj => by cases hj
   ru := fun j hj => .inl (hrep j _ (h4 j hj))
   boi := fun i hi j hj hl => by rw [hrep i _ (h4 i hi)] at hl; cases hl
   fsize := rfl
   fdef := rfl
   fill := fun s _ => rfl
   goes := ⟨_, β, ρ, V, hp, hr.drawn _, hD⟩ }
 ·rw [List.mem_range]
  constructor
  ·exact fun h => ⟨h, hrep j _ h⟩
  ·exact fun h => h.1
end
section
variable {P : Program} {R : Ending -> Mem -> Prop} {O V0 : Mem} {w0 : World} {fs : List Nat} {H : qFX}
theorem noOut (Q : Exit -> Act -> World -> Prop) : ¬ LetsOut (fun e a' w' => e ≠ .outgrown /\ Q e a' w') := fun ⟨_, _, h⟩ => h.1 rfl
theorem nd1 {x y : Bool} (h : (x && y) = true) : x = true := by cases x <;> simp_all
theorem nd2 {x y : Bool} (h : (x && y) = true) : y = true := by cases x <;> simp_all
theorem ndOps {id : Nat} {ops : Array Oper} {d : Bool} (h : qCM (.region id ops d) = true) : ∀ o ∈ ops, qFe o.op = true := by
 simp only [qCM, Array.all_eq_true'] at h
 exact h
theorem ex_sound_in {r : Option Nat} {n₀ : Nat} (hcalls : qBT P fs) (hm : P.follows .mixedOrders = true) : ∀ (c : Code), qCM c = true -> ∀ (L : List (List Value -> Mem -> Prop)) (ρ0 : List Value) (st : St) (k : Ex -> St -> Tr) (a : Act) (w : World) (Q : Exit -> Act -> World -> Prop),
  qIl R V0 w0 a.defers Q -> qCt P R noO V0 w0 H.N L ρ0 a.tmps w st (ex P fs H c st k) ->
  (∀ e st' a' w' L', L <+: L' -> a'.defers = a.defers -> qCt P R noO V0 w0 H.N L' ρ0 a'.tmps w' st' (k e st') -> Q e.toExit a' w') -> c.wpIn (qAs r) n₀ P Q a w := by
 intro c
 induction c with
 | skip => intro nd L ρ0 st k a w Q hQ h hk; exact wpIn_skip (hk .normal st a w L (List.prefix_refl _) rfl h)
 | ret => intro nd L ρ0 st k a w Q hQ h hk; exact wpIn_ret (hk .ret st a w L (List.prefix_refl _) rfl h)
 | exit id => intro nd L ρ0 st k a w Q hQ h hk; exact wpIn_exit (hk (.exit id) st a w L (List.prefix_refl _) rfl h)
 | seq x y ihx ihy =>
  intro nd L ρ0 st k a w Q hQ h hk
  refine wpIn_seq (ihx (nd1 nd) L ρ0 st _ a w _ hQ h fun e st' a' w' L' hL hd hg => ?_)
  cases e with
  | normal => exact ihy (nd2 nd) L' ρ0 st' k a' w' Q (by rw [hd]; exact hQ) hg fun e st'' a'' w'' L'' hL' hd' hg' => hk e st'' a'' w'' L'' (hL.trans hL') (hd'.trans hd) hg'
  | exit i => exact hk (.exit i) st' a' w' L' hL hd hg
  | ret => exact hk .ret st' a' w' L' hL hd hg
 | block id b ih =>
  intro nd L ρ0 st k a w Q hQ h hk
  refine wpIn_block (ih nd L ρ0 st _ a w _ hQ h fun e st' a' w' L' hL hd hg => ?_)
  cases e with
  | normal => exact hk .normal st' a' w' L' hL hd hg
  | exit i =>
   simp only at hg
   show (if i = id then Q .normal a' w' else Q (.exit i) a' w')
   split
   ·rename_i e; rw [if_pos e] at hg; exact hk .normal st' a' w' L' hL hd hg
   ·rename_i e; rw [if_neg e] at hg; exact hk (.exit i) st' a' w' L' hL hd hg
  | ret => exact hk .ret st' a' w' L' hL hd hg
 | cond c x y ihx ihy =>
  intro nd L ρ0 st k a w Q hQ h hk
  obtain ⟨β, ρ, V, hp, hr, hD⟩ := h
  simp only [ex] at hD
  split at hD
  ·rename_i v hv
   have he : a.eval c = .bool v := qAB hr hv
   cases v with
   | true => exact wpIn_cond_true he (ihx (nd1 nd) L ρ0 st k a w Q hQ ⟨β, ρ, V, hp, hr, hD⟩ hk)
   | false => exact wpIn_cond_false he (ihy (nd2 nd) L ρ0 st k a w Q hQ ⟨β, ρ, V, hp, hr, hD⟩ hk)
  ·rename_i t _ ht
   split at hD
   ·rename_i hc
    obtain ⟨hc1, hc2⟩ := hc
    obtain ⟨b, hb⟩ := qFm (ρ := ρ) (β := β) hc1
    have he : a.eval c = .bool b := (qAB hr ht).trans hb
    have hfr := (T.ev_free (β := id) (β' := β) (ρ := ρ) t hc2).1
    split at hD
    ·rename_i d
     simp only [D, hfr, hb, asB] at hD
     have hlearn : Rel noO V0 w0 H.N β (st.now d (.bool b)) ρ V a.tmps w := hr.now (t := t) ht (by rw [hb]; rfl)
     cases b with
     | true => exact wpIn_cond_true he (ihx (nd1 nd) L ρ0 _ k a w Q hQ ⟨β, ρ, V, hp.now _ _, hlearn, hD.1 rfl⟩ hk)
     | false => exact wpIn_cond_false he (ihy (nd2 nd) L ρ0 _ k a w Q hQ ⟨β, ρ, V, hp.now _ _, hlearn, hD.2 rfl⟩ hk)
    ·simp only [D, hfr, hb, asB] at hD
     cases b with
     | true => exact wpIn_cond_true he (ihx (nd1 nd) L ρ0 _ k a w Q hQ ⟨β, ρ, V, hp, hr, hD.1 rfl⟩ hk)
     | false => exact wpIn_cond_false he (ihy (nd2 nd) L ρ0 _ k a w Q hQ ⟨β, ρ, V, hp, hr, hD.2 rfl⟩ hk)
   ·exact hD.elim
  ·exact hD.elim
 | region id ops draw =>
  intro nd L ρ0 st k a w Q hQ h hk
  cases draw with
  | true =>
   refine wpIn_mono (wpIn_region_any (Q := fun e a' w' => e ≠ .outgrown /\ Q e a' w') hm (qGu (noOut Q) (fun o ho => qCZ (ndOps nd o ho)) _ _ _ _ (qHl hcalls (fun ch a' w' hd hR => ⟨by simp, hQ ch a' w' hd hR⟩) h (fun ⟨_, _, h⟩ => h.elim) fun st' a' w' hd hg => ⟨by simp, hk .normal st' a' w' L (List.prefix_refl _) hd hg⟩))) fun e a w h => h.2
  | false =>
   refine wpIn_mono (wpIn_region (Q := fun e a' w' => e ≠ .outgrown /\ Q e a' w') ?_) fun e a w h => h.2
   rw [List.range_eq_range', <- Array.length_toList]
   exact qDg (noOut Q) (fun o ho => qCZ (ndOps nd o ho)) _ _ (fun j _ => by simp) _ _ (qCP hcalls ops.toList st a w (fun ch a' w' hd hR => ⟨by simp, hQ ch a' w' hd hR⟩) h fun st' a' w' hd hg => ⟨by simp, hk .normal st' a' w' L (List.prefix_refl _) hd hg⟩)
 | loop b ih =>
  intro nd L ρ0 st k a w Q hQ h hk
  obtain ⟨β, ρ, V, hp, hr, hD⟩ := h
  simp only [ex, exLoop] at hD
  generalize dedup (qFY b) = ws at hD
  generalize (((qBA b).bind fun i => H.loops.lookup i).getD []) = hint at hD
  obtain ⟨st', t, hg, hfree, β', ρ', V', hp', hr', hD'⟩ := qAJ _ _ _ _ ⟨β, ρ, V, hp, hr, hD⟩
  split at hD'
  case isFalse => exact hD'.elim
  rename_i hw
  split at hD'
  ·exact hD'.elim
  ·rename_i st1 bs hgb
   split at hD'
   ·exact hD'.elim
   ·rename_i init hinit
    split at hD'
    case isFalse => exact hD'.elim
    rename_i hok
    simp only [D] at hD'
    obtain ⟨I, μ, hI, hround⟩ := hD'
    obtain ⟨hrh, hsh⟩ := qGH hw hr'.nv (List.prefix_refl _) hgb hinit hok hr'
    let Inv : Nat -> Act -> World -> Prop := fun n a' w' => ∃ β xs V', Shaped (bs.flatMap (·.2.2) ++ (qAv ws st1).2.flatMap (·.2.2)) xs /\ I xs V' /\ μ xs V' = n /\
     Rel noO V0 w0 H.N β { (qAv ws st1).1 with depth := st'.depth + 1 } (ρ' ++ xs) V' a'.tmps w' /\ a'.defers = a.defers
    refine qEV Inv ⟨_, β', init.evs ρ' id, V', hsh, hI, rfl, hrh, rfl⟩ ?_
    rintro n a1 w1 ⟨β1, xs, V1, hsh1, hI1, rfl, hr1, hd1⟩
    have hDb := hround xs V1 hsh1 hI1
    refine ih nd (L ++ [fun ys V'' => I ys V'' /\ μ ys V'' < μ xs V1]) ρ' _ _ a1 w1 _ (by rw [hd1]; exact hQ) ⟨β1, ρ' ++ xs, V1, ⟨List.prefix_append _ _, ?_⟩, hr1, hDb⟩ ?_
    ·simp [hp'.2]
    ·intro e st2 a2 w2 L2 hL2 hd2 hg2
     cases e with
     | normal =>
      obtain ⟨β2, ρ2, V2, hp2, hr2, hD2⟩ := hg2
      simp only at hD2
      split at hD2
      ·rename_i vs hvs
       split at hD2
       ·rename_i hok2
        simp only [D] at hD2
        obtain ⟨J, hJ, hJ2⟩ := hD2
        have hlvl : L2[st'.depth]? = some (fun ys V'' => I ys V'' /\ μ ys V'' < μ xs V1) := by
         obtain ⟨σ, rfl⟩ := hL2
         rw [<- hp'.2, List.getElem?_append_left (by simp), List.getElem?_append_right (Nat.le_refl _)]
         simp
        rw [hlvl] at hJ
        simp only [Option.some.injEq] at hJ
        subst hJ
        obtain ⟨hrh2, hsh2⟩ := qGH hw hr'.nv hp2.1 hgb hvs hok2 hr2
        exact ⟨_, hJ2.2, β2, vs.evs ρ2 id, V2, hsh2, hJ2.1, rfl, hrh2, hd2.trans hd1⟩
       ·exact hD2.elim
      ·exact hD2.elim
     | exit i => exact hk (.exit i) st2 a2 w2 L2 ((List.prefix_append _ _).trans hL2) (hd2.trans hd1) (hg2.weak hp'.1)
     | ret => exact hk .ret st2 a2 w2 L2 ((List.prefix_append _ _).trans hL2) (hd2.trans hd1) (hg2.weak hp'.1)
 | rangeFunc _ _ _ _ _ _ => intro nd L ρ0 st k a w Q hQ h hk; obtain ⟨β, ρ, V, hp, hr, hD⟩ := h; exact hD.elim
 | scope _ _ => intro nd L ρ0 st k a w Q hQ h hk; obtain ⟨β, ρ, V, hp, hr, hD⟩ := h; exact hD.elim
 | label _ => intro nd L ρ0 st k a w Q hQ h hk; obtain ⟨β, ρ, V, hp, hr, hD⟩ := h; exact hD.elim
 | goto _ => intro nd L ρ0 st k a w Q hQ h hk; obtain ⟨β, ρ, V, hp, hr, hD⟩ := h; exact hD.elim
 | refuse _ => intro nd L ρ0 st k a w Q hQ h hk; obtain ⟨β, ρ, V, hp, hr, hD⟩ := h; exact hD.elim
end
section
variable {P : Program} {fs : List Nat} {H : qFX}
def wpL (r : Option Nat) (n : Nat) (P : Program) (Q : Exit -> Act -> World -> Prop) : List Code -> Act -> World -> Prop
 | [], a, w => Q .normal a w
 | c :: cs, a, w => c.wpIn (qAs r) n P (Exit.then (wpL r n P Q cs) Q) a w
def flat : Code -> List Code
 | .seq x y => flat x ++ flat y
 | c => [c]
theorem qIn {r : Option Nat} {n : Nat} {Q : Exit -> Act -> World -> Prop} {l2 : List Code} : ∀ {l1 : List Code} {a : Act} {w : World}, wpL r n P (Exit.then (wpL r n P Q l2) Q) l1 a w -> wpL r n P Q (l1 ++ l2) a w
 | [], _, _, h => h
 | c :: cs, a, w, h => by
  refine wpIn_mono (show c.wpIn (qAs r) n P _ a w from h) fun e a' w' he => ?_
  cases e with
  | normal => exact qIn he
  | _ => exact he
theorem qDu {r : Option Nat} {n : Nat} {Q Q' : Exit -> Act -> World -> Prop} (hq : ∀ e a w, Q e a w -> Q' e a w) : ∀ {l : List Code} {a : Act} {w : World}, wpL r n P Q l a w -> wpL r n P Q' l a w
 | [], _, _, h => hq _ _ _ h
 | c :: cs, a, w, h => by
  refine wpIn_mono (show c.wpIn (qAs r) n P _ a w from h) fun e a' w' he => ?_
  cases e with
  | normal => exact qDu hq he
  | _ => exact hq _ _ _ he
theorem qGQ {r : Option Nat} {n : Nat} {Q : Exit -> Act -> World -> Prop} {l2 : List Code} : ∀ {l1 : List Code} {a : Act} {w : World}, wpL r n P Q (l1 ++ l2) a w -> wpL r n P (Exit.then (wpL r n P Q l2) Q) l1 a w
 | [], _, _, h => h
 | c :: cs, a, w, h => by
  refine wpIn_mono (show c.wpIn (qAs r) n P _ a w from h) fun e a' w' he => ?_
  cases e with
  | normal => exact qGQ he
  | _ => exact he
theorem qCJ {r : Option Nat} {n : Nat} : ∀ {c : Code} {Q : Exit -> Act -> World -> Prop} {a : Act} {w : World}, wpL r n P Q (flat c) a w -> c.wpIn (qAs r) n P Q a w := by
 intro c
 induction c with
 | seq x y ihx ihy =>
  intro Q a w h
  refine wpIn_seq (ihx ?_)
  refine qDu (fun e a w he => ?_) (qGQ h)
  cases e with
  | normal => exact ihy he
  | _ => exact he
 | _ =>
  intro Q a w h
  refine wpIn_mono (show Code.wpIn (qAs r) n P _ _ a w from h) fun e a' w' he => ?_
  cases e with
  | normal => exact he
  | _ => exact he
def Seg (P : Program) (N : Nat) (cs : List Code) (ins : List (Nat × Value)) (outs : List Nat) (V : Mem) (R : List Value -> Mem -> Prop) : Prop :=
 ∀ r n a w, V.le w -> a.tmps.size = N -> (∀ s v, ins.lookup s = some v -> a.tmps.getD s undef = v) ->
  wpL r n P (fun e a' w' => e = .normal /\ a'.defers = a.defers /\ a'.tmps.size = N /\ ∃ vs V', (∀ s v, (outs.zip vs).lookup s = some v -> a'.tmps.getD s undef = v) /\ R vs V' /\ Frm V w V' w') cs a w
theorem Seg.mono {N : Nat} {cs : List Code} {ins : List (Nat × Value)} {outs : List Nat} {V : Mem} {R R' : List Value -> Mem -> Prop} (h : Seg P N cs ins outs V R) (hr : ∀ vs V', R vs V' -> R' vs V') : Seg P N cs ins outs V R' :=
 fun r n a w hV hN hs => qDu (fun _ _ _ ⟨h1, h2, h3, vs, V', h4, h5, h6⟩ => ⟨h1, h2, h3, vs, V', h4, hr _ _ h5, h6⟩) (h r n a w hV hN hs)
def exL (P : Program) (fs : List Nat) (H : qFX) : List Code -> St -> (Ex -> St -> Tr) -> Tr
 | [], st, k => k .normal st
 | c :: cs, st, k => ex P fs H c st fun e st => match e with | .normal => exL P fs H cs st k | e => k e st
def segT (P : Program) (fs : List Nat) (H : qFX) (cs : List Code) (slots : List (Nat × T)) (nv : Nat) (outs : List Nat) : Tr :=
 if (slots.all fun x => x.2.wf nv 0) /\ cs.all qCM then
  exL P fs H cs { slots, boxes := [], nv, nb := 0, depth := 0 } fun e st =>
   match e with
   | .normal => pubT (st.nb + 2) st (fun st => (qEe st outs).map T.tup) fun _ t => .ret t
   | _ => .bad 60 0
 else .bad 61 0
theorem exL_sound {R : Ending -> Mem -> Prop} {V0 : Mem} {w0 : World} {r : Option Nat} {n : Nat} (hcalls : qBT P fs) (hm : P.follows .mixedOrders = true) {k : Ex -> St -> Tr} {Q : Exit -> Act -> World -> Prop} {ρ0 : List Value} : ∀ {cs : List Code} {L : List (List Value -> Mem -> Prop)} {st : St} {a : Act} {w : World},
  qIl R V0 w0 a.defers Q -> qCt P R noO V0 w0 H.N L ρ0 a.tmps w st (exL P fs H cs st k) -> cs.all qCM = true ->
  (∀ e st' a' w' L', L <+: L' -> a'.defers = a.defers -> qCt P R noO V0 w0 H.N L' ρ0 a'.tmps w' st' (k e st') -> Q e.toExit a' w') -> wpL r n P Q cs a w
 | [], L, st, a, w, _, h, _, hk => hk .normal st a w L (List.prefix_refl _) rfl h
 | c :: cs, L, st, a, w, hQ, h, hnd, hk => by
  simp only [List.all_cons, Bool.and_eq_true] at hnd
  refine ex_sound_in hcalls hm c hnd.1 L ρ0 st _ a w _ hQ h fun e st' a' w' L' hL hd hg => ?_
  cases e with
  | normal => exact exL_sound hcalls hm (by rw [hd]; exact hQ) hg hnd.2 fun e st'' a'' w'' L'' hL' hd' hg' => hk e st'' a'' w'' L'' (hL.trans hL') (hd'.trans hd) hg'
  | exit i => exact hk (.exit i) st' a' w' L' hL hd hg
  | ret => exact hk .ret st' a' w' L' hL hd hg
end
section
variable {P : Program} {fs : List Nat} {H : qFX}
theorem qDd {f : T -> Value} : ∀ {l : List Nat} {ts : List T} {s : Nat} {v : Value}, (l.zip (ts.map f)).lookup s = some v -> ∃ t, (l.zip ts).lookup s = some t /\ f t = v /\ s ∈ l
 | [], _, s, v, h => by simp at h
 | x :: xs, [], s, v, h => by simp at h
 | x :: xs, t :: ts, s, v, h => by
  simp only [List.map_cons, List.zip_cons_cons, List.lookup_cons] at h ⊢
  by_cases e : s = x
  ·subst e
   simp only [beq_self_eq_true, Option.some.injEq] at h ⊢
   exact ⟨t, rfl, h, by simp⟩
  ·have : (s == x) = false := by simpa using e
   rw [this] at h ⊢
   obtain ⟨t', h1, h2, h3⟩ := qDd h
   exact ⟨t', h1, h2, by simp [h3]⟩
theorem qDe {f : T -> Value} : ∀ {l : List (Nat × T)} {s : Nat} {t : T}, l.lookup s = some t -> (l.map fun x => (x.1, f x.2)).lookup s = some (f t)
 | [], s, t, h => by simp at h
 | (x, u) :: xs, s, t, h => by
  simp only [List.map_cons, List.lookup_cons] at h ⊢
  split at h
  ·rename_i e
   simp only [Option.some.injEq] at h; subst h; rfl
  ·exact qDe h
theorem seg_sound (hcalls : qBT P fs) (hm : P.follows .mixedOrders = true) {N : Nat} {cs : List Code} {slots : List (Nat × T)} {nv : Nat} {outs : List Nat} {t : Tr} (ht : segT P fs { H with N := N } cs slots nv outs = t) (ρ : List Value) (hn : ρ.length = nv)
  {ins : List (Nat × Value)} (hins : ins = slots.map fun x => (x.1, x.2.ev ρ id)) {V : Mem} {R : List Value -> Mem -> Prop} {q : Prop} (hq : q = DT P {} (fun e V' => ∃ vs : List Value, e = .returned (.tuple vs.toArray) /\ R vs V') t [] ρ V) (h : q) :
  Seg P N cs ins outs V R := by
 intro r n a w hV hN hs
 subst hq hins ht
 have hD := qBB _ _ _ _ h
 unfold segT at hD
 split at hD
 case isFalse => exact hD.elim
 rename_i hw
 obtain ⟨hwf, hnd⟩ := hw
 refine exL_sound (L := []) (ρ0 := ρ) (V0 := V) (w0 := w) hcalls hm (fun _ _ _ _ h => by obtain ⟨_, ⟨_, h, _⟩, _⟩ := h; cases h) ⟨id, ρ, V, ⟨List.prefix_refl _, rfl⟩, ?_, hD⟩ hnd ?_
 ·exact
   {nv := hn
    size := hN
    slots := fun s t hg => by
     have hl := qCk hg
     exact hs s _ (qDe (f := fun t => t.ev ρ id) hl)
    frm := Frm.refl hV
    boxes := fun i cs ty hi => by simp [St.box] at hi
    hid := fun b o hb => by cases hb
    inj := fun i j hi _ _ => by simp [St.box] at hi }
 ·intro e st' a' w' L' _ hd hg
  cases e with
  | exit j => obtain ⟨β, ρ2, V2, hp, hr, hD⟩ := hg; exact hD.elim
  | ret => obtain ⟨β, ρ2, V2, hp, hr, hD⟩ := hg; exact hD.elim
  | normal =>
   obtain ⟨st2, t2, hg2, hfree, β, ρ2, V2, hp, hr, hD⟩ := qAJ _ _ _ _ hg
   simp only [Option.map_eq_some_iff] at hg2
   obtain ⟨x, hx, rfl⟩ := hg2
   simp only [D] at hD
   obtain ⟨vs, h1, h2⟩ := hD
   simp only [T.ev, Ending.returned.injEq, Value.tuple.injEq] at h1
   have h1' : T.evs ρ2 id x = vs := by simpa using congrArg Array.toList h1
   refine ⟨rfl, hd, hr.size, vs, V2, fun s v hsv => ?_, h2, hr.frm⟩
   rw [<- h1', qAw] at hsv
   obtain ⟨t, g1, g2, g3⟩ := qDd hsv
   obtain ⟨y, g4, g5⟩ := qDG hx s g3
   have g6 := qCD hx s g3
   rw [g1, g4] at g6
   simp only [Option.some.injEq] at g6; subst g6
   rw [hr.slots s t g4, <- g2]
   have hf : t.firstBox = none := qGL (by simpa [T.firstBox] using hfree) g5
   exact (T.ev_free t hf).1
end
section
variable {P : Program}
def qDk (fn : FuncId) (tmps : Array Value) (ps : Array Tmp) (assign body : Code) (D : Nat) : Loop := { state := .ready, pending := none, fn, tmps, params := ps, assign, body, defers := D }
theorem qFM {g : Operand} {ps : Array Tmp} {assign body : Code} {a : Act} {w : World} {V : Mem} {f : FuncId} {caps : Array Value} {n : Nat} {Q : Exit -> Act -> World -> Prop} {Φ : Mem -> Prop}
  (hV : V.le w) (hg : a.eval g = .func (.func f) #[] caps) (eg : ∀ args w, (callFunc f args).run P w = .ok (.enter f args) w)
  (hit : ∀ fn l D, V l = none -> Tri P f (#[.func (.yield l) #[] #[]] ++ caps) (V.set l (.loop (qDk fn a.tmps ps assign body D))) fun e V' => (∃ v, e = .returned v) /\ ∃ V2, V' = V2.set l (.loop (qDk fn a.tmps ps assign body D)) /\ V2 l = none /\ Φ V2)
  (hdone : ∀ D V' W, w.heap.size <= D -> Frm V w V' W -> V' D = none -> W.heap[D]? = some (.deferred (some [])) -> Φ V' -> Q .normal { a with defers := { target := .collected D, args := #[] } :: a.defers } W) :
  (Code.rangeFunc g ps assign body).wpIn (qAs none) n P Q a w := by
 refine wpIn_rangeFunc fun fn _ => ?_
 obtain ⟨W1, hW1⟩ : ∃ W1, (w.alloc (.deferred (some []))).alloc (.loop (qDk fn a.tmps ps assign body w.heap.size)) = W1 := ⟨_, rfl⟩
 have hs1 : W1.heap.size = w.heap.size + 2 := by rw [<- hW1]; simp
 have hL1 : W1.heap[w.heap.size + 1]? = some (.loop (qDk fn a.tmps ps assign body w.heap.size)) := by
  rw [<- hW1]; have := World.alloc_heap_new (w.alloc (.deferred (some []))) (.loop (qDk fn a.tmps ps assign body w.heap.size)); rwa [World.size_alloc] at this
 have hK1 : W1.heap[w.heap.size]? = some (.deferred (some [])) := by
  rw [<- hW1]; exact (Go.RowKit.Below.heap_alloc _ _ _ (by simp)).trans (World.alloc_heap_new w _)
 have hold : ∀ b, b < w.heap.size -> W1.heap[b]? = w.heap[b]? := fun b hb => by
  rw [<- hW1]; exact (Go.RowKit.Below.heap_alloc _ _ _ (by simp; omega)).trans (Go.RowKit.Below.heap_alloc _ _ _ hb)
 have hVn : ∀ b, w.heap.size <= b -> V b = none := fun b hb => by
  cases hc : V b with
  | none => rfl
  | some o => have := (Array.getElem?_eq_some_iff.1 (hV b o hc)).1; omega
 have hle : (V.set (w.heap.size + 1) (.loop (qDk fn a.tmps ps assign body w.heap.size))).le W1 := fun b o hb => by
  by_cases e : b = w.heap.size + 1
  ·subst e; rw [Mem.set_same] at hb; rw [hL1, <- hb]
  ·rw [Mem.set_ne e] at hb
   have := (Array.getElem?_eq_some_iff.1 (hV b o hb)).1
   rw [hold b this]; exact hV b o hb
 refine ⟨w.heap.size + 1, [{ target := .collected w.heap.size, args := #[] }], W1, { target := .fn (.func f) caps, args := #[.func (.yield (w.heap.size + 1)) #[] #[]] }, W1, f,
  #[.func (.yield (w.heap.size + 1)) #[] #[]] ++ caps, W1, ?_, ?_, ?_, ?_, fun h => by simp [qAs, Fence.wide] at h, ?_⟩
 ·rw [<- hW1]; exact run_enterLoop_outer _ _ _ _ _
 ·simp only [resolve, hg]
  simp [go_sem]
 ·intro f' hf'; trivial
 ·simp [invoke, go_sem, eg]
 ·refine qDL.2 (qCI (hit fn (w.heap.size + 1) w.heap.size (hVn _ (by omega)) W1 hle) ?_)
  rintro e W3 ⟨V', ⟨⟨v, rfl⟩, V2, rfl, h2, hΦ⟩, hF⟩
  have hl3 : W3.heap[w.heap.size + 1]? = some (.loop (qDk fn a.tmps ps assign body w.heap.size)) := hF.le _ _ (Mem.set_same _ _ _)
  have hlt : w.heap.size + 1 < W3.heap.size := (Array.getElem?_eq_some_iff.1 hl3).1
  refine ⟨none, _, run_endLoop (P := P) hl3 (by simp [qDk]), ?_⟩
  have hD0 : (V.set (w.heap.size + 1) (.loop (qDk fn a.tmps ps assign body w.heap.size))) w.heap.size = none := by
   rw [Mem.set_ne (by omega)]; exact hVn _ (Nat.le_refl _)
  have hD3 : W3.heap[w.heap.size]? = some (.deferred (some [])) := (hF.old _ (by omega) hD0).trans hK1
  refine hdone w.heap.size V2 _ (Nat.le_refl _) ?_ ?_ ((World.putObj_heap_other (by omega)).trans hD3) hΦ
  ·refine ⟨?_, fun b o hb => ?_, fun b hb hn => ?_, fun b hb => ?_, ?_, ?_⟩
   ·have := hF.size; rw [World.putObj_size]; omega
   ·have e : b ≠ w.heap.size + 1 := fun e => by subst e; rw [h2] at hb; cases hb
    refine (World.putObj_heap_other e).trans (hF.le b o ?_)
    rw [Mem.set_ne e]; exact hb
   ·refine (World.putObj_heap_other (by omega)).trans ((hF.old b (by omega) ?_).trans (hold b hb))
    rw [Mem.set_ne (by omega)]; exact hn
   ·have e : b ≠ w.heap.size + 1 := fun e => by subst e; exact hb h2
    rcases hF.dom b (by rw [Mem.set_ne e]; exact hb) with h | h
    ·rw [Mem.set_ne e] at h; exact .inl h
    ·exact .inr (by omega)
   ·show W3.os = w.os; rw [hF.os, <- hW1]; rfl
   ·show W3.output = w.output; rw [hF.out, <- hW1]; rfl
  ·cases hc : V2 w.heap.size with
   | none => rfl
   | some o =>
    rcases hF.dom w.heap.size (by rw [Mem.set_ne (by omega), hc]; simp) with h | h
    ·exact absurd hD0 h
    ·omega
theorem qFI {l : Nat} {V : Mem} {w : World} {fn : FuncId} {tmps : Array Value} {ps : Array Tmp} {assign body : Code} {D : Nat} {args : Array Value} {N n : Nat} (hl : V l = none)
  (hV : (V.set l (.loop (qDk fn tmps ps assign body D))).le w) {insA : List (Nat × Value)} {outsA : List Nat} {RA : List Value -> Mem -> Prop} {J : Mem -> Prop} (hN : ((ps.zip args).foldl (fun t (p, v) => t.setIfInBounds p v) tmps).size = N)
  (hins : ∀ s v, insA.lookup s = some v -> ((ps.zip args).foldl (fun t (p, v) => t.setIfInBounds p v) tmps).getD s undef = v)
  (hA : Seg P N [assign] insA outsA V RA) (hB : ∀ vs V1, RA vs V1 -> Seg P N [body] (outsA.zip vs) [] V1 fun _ V2 => J V2) :
  RoundIn (qAs none) n P l fn ((ps.zip args).foldl (fun t (p, v) => t.setIfInBounds p v) tmps) assign body w fun e w' =>
   e = .returned (.bool true) /\ ∃ V2, J V2 /\ V2 l = none /\ Frm (V.set l (.loop (qDk fn tmps ps assign body D))) w (V2.set l (.loop (qDk fn tmps ps assign body D))) w' := by
 have hlw : w.heap[l]? = some (.loop (qDk fn tmps ps assign body D)) := hV l _ (Mem.set_same _ _ _)
 have hllt : l < w.heap.size := (Array.getElem?_eq_some_iff.1 hlw).1
 have hVle : V.le w := fun b o hb => by
  have e : b ≠ l := fun e => by subst e; rw [hl] at hb; cases hb
  exact hV b o (by rw [Mem.set_ne e]; exact hb)
 refine roundIn_of_wpIn (F := qAs none) trivial ?_
 have h1 := hA (some l) n { tmps := (ps.zip args).foldl (fun t (p, v) => t.setIfInBounds p v) tmps, defers := [] } w hVle hN hins
 refine wpIn_mono (show assign.wpIn (qAs (some l)) n P _ _ w from h1) ?_
 rintro e a1 w1 he
 cases e with
 | normal =>
  obtain ⟨_, hd1, hN1, vs, V1, hs1, hR1, hF1⟩ := he
  have hl1 : w1.heap[l]? = some (.loop (qDk fn tmps ps assign body D)) := (hF1.old l hllt hl).trans hlw
  refine ⟨_, run_beginRound hl1 rfl, ?_⟩
  have hlt1 : l < w1.heap.size := (Array.getElem?_eq_some_iff.1 hl1).1
  have hV1l : V1 l = none := by
   cases hc : V1 l with
   | none => rfl
   | some o =>
    rcases hF1.dom l (by rw [hc]; simp) with h | h
    ·exact absurd hl h
    ·omega
  have hV1 : V1.le (w1.putObj l (.loop { qDk fn tmps ps assign body D with state := .busy })) := fun b o hb => by
   have e : b ≠ l := fun e => by subst e; rw [hV1l] at hb; cases hb
   exact (World.putObj_heap_other e).trans (hF1.le b o hb)
  have h2 := hB vs V1 hR1 (some l) n a1 _ hV1 hN1 hs1
  refine wpIn_mono (show body.wpIn (qAs (some l)) n P _ _ _ from h2) ?_
  rintro e a2 w2 he2
  cases e with
  | normal =>
   obtain ⟨_, _, _, _, V2, _, hJ, hF2⟩ := he2
   have hl2 : w2.heap[l]? = some (.loop { qDk fn tmps ps assign body D with state := .busy }) := (hF2.old l (by rw [World.putObj_size]; exact hlt1) hV1l).trans (World.putObj_heap_same hlt1)
   have hlt2 : l < w2.heap.size := (Array.getElem?_eq_some_iff.1 hl2).1
   have hV2l : V2 l = none := by
    cases hc : V2 l with
    | none => rfl
    | some o =>
     rcases hF2.dom l (by rw [hc]; simp) with h | h
     ·exact absurd hV1l h
     ·rw [World.putObj_size] at h; omega
   refine ⟨_, _, run_endRound (P := P) none hl2, rfl, V2, hJ, hV2l, ?_⟩
   have z2 := hF2.size
   rw [World.putObj_size] at z2
   have z1 := hF1.size
   refine ⟨?_, fun b o hb => ?_, fun b hb hn => ?_, fun b hb => ?_, ?_, ?_⟩
   ·rw [World.putObj_size]; omega
   ·by_cases e : b = l
    ·subst e
     rw [Mem.set_same] at hb
     rw [<- hb]; exact World.putObj_heap_same hlt2
    ·rw [Mem.set_ne e] at hb
     exact (World.putObj_heap_other e).trans (hF2.le b o hb)
   ·have e : b ≠ l := fun e => by subst e; rw [Mem.set_same] at hn; cases hn
    rw [Mem.set_ne e] at hn
    have hn1 : V1 b = none := by
     cases hc : V1 b with
     | none => rfl
     | some o =>
      rcases hF1.dom b (by rw [hc]; simp) with h | h
      ·exact absurd hn h
      ·omega
    refine (World.putObj_heap_other e).trans ((hF2.old b (by rw [World.putObj_size]; omega) hn1).trans ((World.putObj_heap_other e).trans (hF1.old b hb hn)))
   ·by_cases e : b = l
    ·subst e; exact .inl (by rw [Mem.set_same]; simp)
    ·rw [Mem.set_ne e] at hb ⊢
     rcases hF2.dom b hb with h | h
     ·rcases hF1.dom b h with h | h
      ·exact .inl h
      ·exact .inr h
     ·exact .inr (by rw [World.putObj_size] at h; omega)
   ·show w2.os = w.os; rw [hF2.os]; exact hF1.os
   ·show w2.output = w.output; rw [hF2.out]; exact hF1.out
  | _ => exact absurd he2.1 (by simp)
 | _ => exact absurd he.1 (by simp)
theorem qGa {f : FuncId} {fn : Func} {c : Code} {args : Array Value} {V : Mem} {R : Ending -> Mem -> Prop} (hf : P.funcs[f]? = some fn) (hb : fn.body = some c)
  (h : ∀ w, V.le w -> wpL none 0 P (fun e a' w' => (e = .normal ∨ e = .ret) /\ ∃ Ds : List Nat, a'.defers = Ds.map (fun D => { target := .collected D, args := #[] }) /\ Ds.Nodup /\ ∃ V', Frm V w V' w' /\
    (∀ D ∈ Ds, w.heap.size <= D /\ w'.heap[D]? = some (.deferred (some [])) /\ V' D = none) /\ ∃ v, (∀ w'', V'.le w'' -> (results fn a'.tmps).run P w'' = .ok v w'') /\ R (.returned v) V')
   (flat c) { tmps := args ++ Array.replicate (fn.ntmps - args.size) undef, defers := [] } w) : Tri P f args V R := by
 intro w hV
 have key : ∀ (Ds : List Nat) (a' : Act) (V' : Mem) (v : Value) (w' : World), Ds.Nodup -> Frm V w V' w' -> (∀ D ∈ Ds, w.heap.size <= D /\ w'.heap[D]? = some (.deferred (some [])) /\ V' D = none) ->
   (∀ w'', V'.le w'' -> (results fn a'.tmps).run P w'' = .ok v w'') -> R (.returned v) V' ->
   LeavesInM (qAs none) 0 P fn a'.tmps (fun e w' => ∃ V', R e V' /\ Frm V w V' w') (Ds.map fun D => { target := .collected D, args := #[] }) .returning w' := by
  intro Ds a' V' v
  induction Ds with
  | nil => intro w' _ hF _ hr hR; exact ⟨v, hr w' hF.le, V', hR, hF⟩
  | cons D Ds ih =>
   intro w' hnd hF hD hr hR
   obtain ⟨hD1, hD2, hD3⟩ := hD D (by simp)
   have hlt := (Array.getElem?_eq_some_iff.1 hD2).1
   refine ⟨by simp, .inl ⟨D, _, rfl, run_takeDeferred hD2, ih _ (List.nodup_cons.1 hnd).2 ?_ ?_ hr hR⟩⟩
   ·refine ⟨by rw [World.putObj_size]; exact hF.size, fun b o hb => ?_, fun b hb hn => ?_, hF.dom, hF.os, hF.out⟩
    ·have e : b ≠ D := fun e => by subst e; rw [hD3] at hb; cases hb
     exact (World.putObj_heap_other e).trans (hF.le b o hb)
    ·exact (World.putObj_heap_other (by omega)).trans (hF.old b hb hn)
   ·intro D' hD'
    obtain ⟨g1, g2, g3⟩ := hD D' (by simp [hD'])
    have e : D' ≠ D := fun e => by subst e; exact (List.nodup_cons.1 hnd).1 hD'
    exact ⟨g1, (World.putObj_heap_other e).trans g2, g3⟩
 refine (callsIn_wide (n := 0)).1 (callsIn_of_wp_marks (F := qAs none) hf hb trivial (qCJ ?_) rfl)
 refine qDu ?_ (h w hV)
 rintro e a' w' ⟨he, Ds, hd, hnd, V', hF, hD, v, hr, hR⟩
 rcases he with rfl | rfl
 ·show LeavesInM _ _ _ _ _ _ a'.defers _ _
  rw [hd]; exact key Ds a' V' v w' hnd hF hD hr hR
 ·show LeavesInM _ _ _ _ _ _ a'.defers _ _
  rw [hd]; exact key Ds a' V' v w' hnd hF hD hr hR
end
def kid : Code -> Nat -> Code
 | .block _ b, _ => b
 | .loop b, _ => b
 | .cond _ x y, j => if j = 0 then x else y
 | .rangeFunc _ _ x y, j => if j = 0 then x else y
 | c, _ => c
def qCy (c : Code) : List Nat -> List Code
 | i :: j :: p => match (flat c)[i]? with | some d => qCy (kid d j) p | none => []
 | _ => flat c
def qEy : Code -> Array Oper
 | .region _ ops _ => ops
 | _ => #[]
def qAl (f : Func) : Code := f.body.getD .skip
section
variable {P : Program} {fs : List Nat} {H : qFX}
def qCc (P : Program) (N : Nat) (ops : Array Oper) (k m : Nat) (ins : List (Nat × Value)) (outs : List Nat) (V : Mem) (R : List Value -> Mem -> Prop) : Prop :=
 ∀ r n a w, V.le w -> a.tmps.size = N -> (∀ s v, ins.lookup s = some v -> a.tmps.getD s undef = v) ->
  wpOpsIn (qAs r) n P ops (fun e a' w' => e = .normal /\ a'.defers = a.defers /\ a'.tmps.size = N /\ ∃ vs V', (∀ s v, (outs.zip vs).lookup s = some v -> a'.tmps.getD s undef = v) /\ R vs V' /\ Frm V w V' w') (List.range' k m) a w
def segOT (P : Program) (fs : List Nat) (H : qFX) (ops : Array Oper) (k m : Nat) (slots : List (Nat × T)) (nv : Nat) (outs : List Nat) : Tr :=
 if (slots.all fun x => x.2.wf nv 0) /\ (ops.all fun o => qFe o.op) /\ ((ops.toList.drop k).take m).length = m then
  qJO P fs H ops ((ops.toList.drop k).take m) { slots, boxes := [], nv, nb := 0, depth := 0 } fun st =>
   pubT (st.nb + 2) st (fun st => (qEe st outs).map T.tup) fun _ t => .ret t
 else .bad 61 0
theorem sego_sound (hcalls : qBT P fs) {N : Nat} {ops : Array Oper} {k m : Nat} {slots : List (Nat × T)} {nv : Nat} {outs : List Nat} {t : Tr} (ht : segOT P fs { H with N := N } ops k m slots nv outs = t) (ρ : List Value) (hn : ρ.length = nv)
  {ins : List (Nat × Value)} (hins : ins = slots.map fun x => (x.1, x.2.ev ρ id)) {V : Mem} {R : List Value -> Mem -> Prop} {q : Prop} (hq : q = DT P {} (fun e V' => ∃ vs : List Value, e = .returned (.tuple vs.toArray) /\ R vs V') t [] ρ V) (h : q) :
  qCc P N ops k m ins outs V R := by
 intro r n a w hV hN hs
 subst hq hins ht
 have hD := qBB _ _ _ _ h
 unfold segOT at hD
 split at hD
 case isFalse => exact hD.elim
 rename_i hw
 obtain ⟨hwf, hnd, hlen⟩ := hw
 have e1 : (List.range' k m) = List.range' k ((ops.toList.drop k).take m).length := by rw [hlen]
 rw [e1]
 refine qDg (fun h => by obtain ⟨_, _, h, _⟩ := h; cases h) (fun o ho => qCZ (by simp only [Array.all_eq_true'] at hnd; exact hnd o ho)) _ _ (fun j hj => ?_) a w ?_
 ·rw [hlen] at hj
  simp [hj, List.getElem?_drop]
 refine qCP (L := []) (ρ0 := ρ) (V0 := V) (w0 := w) (O := noO) hcalls _ _ a w (fun _ _ _ _ h => by obtain ⟨_, ⟨_, h, _⟩, _⟩ := h; cases h) ⟨id, ρ, V, ⟨List.prefix_refl _, rfl⟩, ?_, hD⟩ ?_
 ·exact
   {nv := hn
    size := hN
    slots := fun s t hg => by
     have hl := qCk hg
     exact hs s _ (qDe (f := fun t => t.ev ρ id) hl)
    frm := Frm.refl hV
    boxes := fun i cs ty hi => by simp [St.box] at hi
    hid := fun b o hb => by cases hb
    inj := fun i j hi _ _ => by simp [St.box] at hi }
 ·intro st' a' w' hd hg
  obtain ⟨st2, t2, hg2, hfree, β, ρ2, V2, hp, hr, hD⟩ := qAJ _ _ _ _ hg
  simp only [Option.map_eq_some_iff] at hg2
  obtain ⟨x, hx, rfl⟩ := hg2
  simp only [D] at hD
  obtain ⟨vs, h1, h2⟩ := hD
  simp only [T.ev, Ending.returned.injEq, Value.tuple.injEq] at h1
  have h1' : T.evs ρ2 id x = vs := by simpa using congrArg Array.toList h1
  refine ⟨rfl, hd, hr.size, vs, V2, fun s v hsv => ?_, h2, hr.frm⟩
  rw [<- h1', qAw] at hsv
  obtain ⟨t, g1, g2, g3⟩ := qDd hsv
  obtain ⟨y, g4, g5⟩ := qDG hx s g3
  have g6 := qCD hx s g3
  rw [g1, g4] at g6
  simp only [Option.some.injEq] at g6; subst g6
  rw [hr.slots s t g4, <- g2]
  have hf : t.firstBox = none := qGL (by simpa [T.firstBox] using hfree) g5
  exact (T.ev_free t hf).1
theorem wpOpIn_monoQ {F : Fence} {n : Nat} {ops : Array Oper} {Q Q' : Exit -> Act -> World -> Prop} (hp : ∀ c a w, Q' (.panic c) a w -> Q (.panic c) a w) (ho : LetsOut Q' -> LetsOut Q) {i : Nat} {a : Act} {w : World} {K K' : Act -> World -> Prop} (h : ∀ a w, K a w -> K' a w)
  (hh : wpOpIn F n P ops Q' i K a w) : wpOpIn F n P ops Q i K' a w := by
 unfold wpOpIn at *
 split
 ·exact h _ _ (by simpa [*] using hh)
 ·rename_i o hoi
  simp only [hoi] at hh
  split
  ·rename_i hw
   simp only [hw, if_true] at hh
   unfold Oper.wpIn at *
   refine ⟨hh.1, ?_⟩
   have hh := hh.2
   generalize (o.semAt F.round a.eval).run P w = r at *
   cases r with
   | ok x w' =>
    cases x <;> simp only [Oper.uponIn] at hh ⊢ <;>
     first
      | exact h _ _ hh
      | exact ⟨hh.1, CallsIn.mono hh.2 (fun e w'' he => by cases e <;> first | exact h _ _ he | exact hp _ _ _ he | exact ho he)⟩
      | exact ⟨hh.1, RowsIn.mono hh.2 (fun _ _ he => h _ _ he)⟩
      | exact ⟨hh.1, RoundIn.mono hh.2 (fun e w'' he => by cases e <;> first | exact h _ _ he | exact hp _ _ _ he | exact ho he)⟩
   | halt x w' => cases x <;> simp only [Oper.uponIn] at hh ⊢ <;> first | exact hp _ _ _ hh | exact hh
  ·rename_i hw; simp only [hw] at hh; exact ⟨hh.1, h _ _ hh.2⟩
theorem qIb {F : Fence} {n : Nat} {ops : Array Oper} {Q Q' : Exit -> Act -> World -> Prop} (hp : ∀ c a w, Q' (.panic c) a w -> Q (.panic c) a w) (ho : LetsOut Q' -> LetsOut Q) {l2 : List Nat} (hq : ∀ a w, Q' .normal a w -> wpOpsIn F n P ops Q l2 a w) : ∀ {l1 : List Nat} {a : Act} {w : World},
  wpOpsIn F n P ops Q' l1 a w -> wpOpsIn F n P ops Q (l1 ++ l2) a w := by
 intro l1
 induction l1 with
 | nil => exact fun h => hq _ _ h
 | cons i l1 ih =>
  intro a w h
  rw [List.cons_append]
  rw [wpOpsIn_cons] at h ⊢
  exact wpOpIn_monoQ hp ho (fun a w => ih) h
end
end Go.Sx
