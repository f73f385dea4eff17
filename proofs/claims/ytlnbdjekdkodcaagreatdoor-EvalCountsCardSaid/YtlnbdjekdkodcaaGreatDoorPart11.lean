/- Part 11 of a proof of a law of this seat: no statement of the seat is proved here. -/
import Derived.Test.YtlnbdjekdkodcaaGreatDoorPart10
import Derived.Test.YtlnbdjekdkodcaaGreatDoorPart05
set_option linter.unusedVariables false
set_option linter.unusedSimpArgs false
namespace Go.Proofs
open Go Go.Sx
structure qAD (d : Ds) (m : Mm) : Prop where
 valid : qBc d = true
 chk : chkT d = none
 mem : qCb d m = true
def VE (e : E) : Prop := ∃ k, okE k e = true
theorem VE.of_valid {e : E} (h : qAN e = true) : VE e := ⟨1, (of_decide_eq_true h).1⟩
theorem okE_eq (k : Int) (e : E) : okE k e = (decide (k <= 60) && qDX e.op e.n e.s e.k.length && okEs (k + 1) e.k) := by cases e; unfold okE; rfl
theorem okEs_all {k : Int} : ∀ {l : List E}, okEs k l = true -> ∀ x ∈ l, okE k x = true
 | [], _, x, hx => by cases hx
 | e :: l, h, x, hx => by
  unfold okEs at h
  rw [Bool.and_eq_true] at h
  rcases List.mem_cons.1 hx with rfl | hx
  ·exact h.1
  ·exact okEs_all h.2 x hx
theorem VE.node {e : E} (h : VE e) : qDX e.op e.n e.s e.k.length = true := by
 obtain ⟨k, h⟩ := h
 rw [okE_eq, Bool.and_eq_true, Bool.and_eq_true] at h
 exact h.1.2
theorem VE.kids {e : E} (h : VE e) : ∀ x ∈ e.k, VE x := by
 obtain ⟨k, h⟩ := h
 rw [okE_eq, Bool.and_eq_true] at h
 exact fun x hx => ⟨_, okEs_all h.2 x hx⟩
theorem qDL (d : Ds) (sc : Sc) : ∀ (k : List E) (acc : List ByteArray), (partsT d sc acc k).2 = 0 -> (∀ x ∈ k, (qAl d sc x).2 = 0) /\ (partsT d sc acc k).1 = acc ++ k.map fun x => (qAl d sc x).1
 | [], acc, _ => by rw [qCN]; simp
 | x :: xs, acc, h => by
  rw [qCq] at h ⊢
  split at h
  ·rename_i h'; exact absurd h h'
  ·rename_i h'
   rw [if_neg h']
   obtain ⟨h1, h2⟩ := qDL d sc xs _ h
   refine ⟨List.forall_mem_cons.2 ⟨by simpa using h', h1⟩, ?_⟩
   rw [h2]; simp
theorem qGe {d : Ds} {sc : Sc} {e : E} {t : ByteArray} (h : qAl d sc e = (t, 0)) : (∀ x ∈ e.k, (qAl d sc x).2 = 0) /\ qHh d sc e.op e.s (e.k.map fun x => (qAl d sc x).1) = (t, 0) := by
 rw [qIy] at h
 split at h
 ·rename_i h'
  simp only [Prod.mk.injEq] at h
  exact absurd h.2 h'
 ·rename_i h'
  have h' : (partsT d sc [] e.k).2 = 0 := by simpa using h'
  obtain ⟨h1, h2⟩ := qDL d sc e.k [] h'
  rw [h2, List.nil_append] at h
  exact ⟨h1, h⟩
theorem arityB {op n : Int} {s : ByteArray} {l : Int} (h : qDX op n s l = true) : qAG op ≠ -2 /\ (0 <= qAG op -> l = qAG op) /\ nmB op s = true /\ numB op n = true := by
 unfold qDX at h
 rw [Bool.and_eq_true, Bool.and_eq_true, decide_eq_true_eq] at h
 exact ⟨h.1.1.1, h.1.1.2.1, h.1.2, h.2⟩
theorem list1 {α : Type} {k : List α} (h : (k.length : Int) = 1) : ∃ a, k = [a] := by
 match k, h with
 | [a], _ => exact ⟨a, rfl⟩
 | [], h => simp at h
 | _ :: _ :: _, h => simp at h; omega
theorem list2 {α : Type} {k : List α} (h : (k.length : Int) = 2) : ∃ a b, k = [a, b] := by
 match k, h with
 | [a, b], _ => exact ⟨a, b, rfl⟩
 | [], h => simp at h
 | [_], h => simp at h
 | _ :: _ :: _ :: _, h => simp at h; omega
theorem list3 {α : Type} {k : List α} (h : (k.length : Int) = 3) : ∃ a b c, k = [a, b, c] := by
 match k, h with
 | [a, b, c], _ => exact ⟨a, b, c, rfl⟩
 | [], h => simp at h
 | [_], h => simp at h
 | [_, _], h => simp at h
 | _ :: _ :: _ :: _ :: _, h => simp at h; omega
theorem name_kw {s : ByteArray} (h : qAL s = true) : isKw s = false := by
 unfold qAL at h
 rw [Bool.and_eq_true] at h
 simpa using h.2
theorem qCF {s t : ByteArray} (h : qAL s = true) (ht : isKw t = true) : s ≠ t := fun e => by rw [e] at h; rw [name_kw h] at ht; cases ht
theorem kwNil : isKw sNil = true := by kernel_rfl
theorem kwInt : isKw qAV = true := by kernel_rfl
theorem kwBool : isKw qAr = true := by kernel_rfl
section
variable {d : Ds} {m : Mm}
theorem validD_types (h : qBc d = true) : (∀ t ∈ d.types, qAL t.name = true) /\ (∀ f ∈ d.globals, qAL f.name = true) /\ (∀ x ∈ d.measures, msB x = true) /\ (∀ x ∈ d.invs, ivB x = true) := by
 unfold qBc at h
 simp only [Bool.and_eq_true] at h
 obtain ⟨⟨⟨⟨⟨h1, h2⟩, -⟩, hT⟩, -⟩, hF⟩ := h
 unfold formB at hF
 simp only [Bool.and_eq_true, List.all_eq_true] at hF hT
 refine ⟨fun t ht => ?_, fun f hf => ?_, hF.1.1.1, hF.1.1.2⟩
 ·have := hT t ht
  unfold tyB at this
  rw [Bool.and_eq_true] at this
  exact this.1
 ·have hg := h1.2
  unfold qEo at hg
  simp only [Bool.and_eq_true, List.all_eq_true] at hg
  have := hg.2 f hf
  unfold fldB at this
  rw [Bool.and_eq_true] at this
  exact this.1
theorem qDt (h : qBc d = true) {s : ByteArray} (hs : qBh d s = true) : qAL s = true := by
 obtain ⟨t, ht, e⟩ := List.any_eq_true.1 hs
 rw [<- of_decide_eq_true e]
 exact (validD_types h).1 t ht
def qBt (d : Ds) (m : Mm) (t : ByteArray) (v : Int) : Prop := if t = sNil then v = 0 else qAp d m t v = true
theorem qEW : sNil ≠ qAV /\ sNil ≠ qAr /\ qAV ≠ sNil /\ qAr ≠ sNil /\ qAV ≠ qAr /\ qAr ≠ qAV := by
 refine ⟨of_decide_eq_false ?_, of_decide_eq_false ?_, of_decide_eq_false ?_, of_decide_eq_false ?_, of_decide_eq_false ?_, of_decide_eq_false ?_⟩ <;> kernel_rfl
theorem qBi {v : Int} : qBt d m qAV v ↔ -1099511627776 <= v /\ v <= 1099511627776 := by
 unfold qBt qAp
 rw [if_neg qEW.2.2.1, if_pos rfl, decide_eq_true_eq]
theorem qAJ {v : Int} : qBt d m qAr v ↔ v = 0 ∨ v = 1 := by
 unfold qBt qAp
 rw [if_neg qEW.2.2.2.1, if_neg qEW.2.2.2.2.2, if_pos rfl, decide_eq_true_eq]
theorem qAY (h : qBc d = true) {t : ByteArray} (ht : qBv d t = true) {v : Int} : qBt d m t v ↔ qAp d m t v = true := by
 unfold qBt
 rw [if_neg]
 intro e
 subst e
 unfold qBv at ht
 rw [decide_eq_false qEW.1, decide_eq_false qEW.2.1] at ht
 exact qCF (qDt h (by simpa using ht)) kwNil rfl
theorem qHy {t : ByteArray} (h : qAL t = true) : qAp d m t 0 = true := by
 unfold qAp
 rw [if_neg (qCF h kwInt), if_neg (qCF h kwBool)]
 exact decide_eq_true (.inl rfl)
theorem qBI (h : qBc d = true) {a b : ByteArray} (hf : qDB d a b = true) {v : Int} (hv : qBt d m a v) : qBt d m b v := by
 unfold qDB at hf
 simp only [Bool.or_eq_true, Bool.and_eq_true, decide_eq_true_eq] at hf
 rcases hf with rfl | ⟨rfl, hb⟩
 ·exact hv
 ·have hn := qDt h hb
  unfold qBt at hv ⊢
  rw [if_pos rfl] at hv
  rw [if_neg (qCF hn kwNil), hv]
  exact qHy hn
theorem qCO : ∀ (l : List Fld) (s : ByteArray), qCa l s = ((l.find? fun f => decide (f.name = s)).map (·.ty)).getD sE
 | [], _ => rfl
 | f :: l, s => by
  unfold qCa
  rw [List.find?_cons]
  by_cases h : f.name = s
  ·rw [if_pos h, decide_eq_true h]; rfl
  ·rw [if_neg h, decide_eq_false h, qCO l s]
theorem qDv (l : List Fld) (s : ByteArray) : (qCa l s = sE /\ qER l s = -1) ∨ ∃ (i : Nat) (f : Fld), qER l s = i /\ l[i]? = some f /\ qCa l s = f.ty /\ f.name = s := by
 rw [qCO]
 unfold qER
 rcases qBk (fun f : Fld => decide (f.name = s)) l with ⟨h1, h2, -⟩ | ⟨i, x, h1, h2, h3, -, h5, -⟩
 ·exact .inl ⟨by rw [h2]; rfl, h1⟩
 ·exact .inr ⟨i, x, h1, h2, by rw [h3]; rfl, of_decide_eq_true h5⟩
theorem qBl (h : hasT d = true) : qDk d d.globals = true /\ (∀ (i : Nat) (x : Ty), d.types[i]? = some x -> qDj d x.name = (i : Int)) /\ ∀ x ∈ d.types, qDk d x.fields = true := by
 unfold hasT at h
 rw [Bool.and_eq_true, Bool.and_eq_true, qDT] at h
 obtain ⟨⟨-, h1⟩, h2⟩ := h
 refine ⟨h1, fun i x hx => ?_, fun x hx => ?_⟩
 ·have := h2 i x hx
  rw [Bool.and_eq_true, decide_eq_true_eq] at this
  exact this.1
 ·obtain ⟨i, hi, rfl⟩ := List.mem_iff_getElem.1 hx
  have := h2 i _ (List.getElem?_eq_getElem hi)
  rw [Bool.and_eq_true] at this
  exact this.2
theorem qAt (h : qCb d m = true) : hasT d = true /\ m.nodes.length <= 4096 /\ (∀ n ∈ m.nodes, qDu d n = true) /\ qAg d m d.globals m.globals = true /\ ∀ n ∈ m.nodes, qAg d m (qAF d n.ty) n.f = true := by
 unfold qCb at h
 simp only [Bool.and_eq_true, List.all_eq_true, decide_eq_true_eq] at h
 exact ⟨h.1.1.1.1, h.1.1.1.2, h.1.1.2, h.1.2, h.2⟩
theorem qGc {l : List Fld} {vs : List Int} (h : qAg d m l vs = true) {i : Nat} {f : Fld} (hi : l[i]? = some f) : ∃ v, vs[i]? = some v /\ qAp d m f.ty v = true := by
 unfold qAg at h
 rw [Bool.and_eq_true, decide_eq_true_eq, qDT] at h
 have hl := (List.getElem?_eq_some_iff.1 hi).1
 have hv : vs[i]? = some (vs[i]'(by omega)) := List.getElem?_eq_getElem _
 refine ⟨_, hv, ?_⟩
 have := h.2 i _ hv
 unfold tyAt at this
 rw [hi] at this
 exact this
theorem right_node {t : ByteArray} (hn : qAL t = true) {a : Int} (h : qAp d m t a = true) (h0 : a ≠ 0) : 1 <= a /\ a <= (m.nodes.length : Int) /\ ∃ n, m.nodes[(a - 1).toNat]? = some n /\ n ∈ m.nodes /\ n.ty = qDj d t := by
 unfold qAp at h
 rw [if_neg (qCF hn kwInt), if_neg (qCF hn kwBool), decide_eq_true_eq] at h
 rcases h with h | ⟨h1, h2, h3⟩
 ·exact absurd h h0
 ·refine ⟨h1, h2, ?_⟩
  cases hx : m.nodes[(a - 1).toNat]? with
  | none => rw [hx] at h3; cases h3
  | some n => rw [hx] at h3; exact ⟨n, rfl, List.mem_of_getElem? hx, by simpa using h3⟩
theorem tyOf_idx {s : ByteArray} {t : Ty} (h : tyOf d s = some t) : ∃ i : Nat, qDj d s = (i : Int) /\ d.types[i]? = some t /\ t.name = s /\ qBh d s = true := by
 unfold tyOf at h
 unfold qDj qBh
 rcases qBk (fun t : Ty => decide (t.name = s)) d.types with ⟨-, h2, -⟩ | ⟨i, x, h1, h2, h3, -, h5, -, h7, -⟩
 ·rw [h2] at h; cases h
 ·rw [h3] at h; cases h; exact ⟨i, h1, h2, of_decide_eq_true h5, h7⟩
theorem fld_ok (G : qAD d m) {t s ty : ByteArray} (ht : qCs d t s = (ty, 0)) {a : Int} (ha : qBt d m t a) (h0 : a ≠ 0) :
  ∃ (n : Nd) (i j : Nat) (tt : Ty) (f : Fld) (v : Int), m.nodes[(a - 1).toNat]? = some n /\ n ∈ m.nodes /\ 1 <= a /\ a <= (m.nodes.length : Int) /\ n.ty = (j : Int) /\ d.types[j]? = some tt /\ tt ∈ d.types /\ qER tt.fields s = i /\ tt.fields[i]? = some f /\ n.f[i]? = some v /\ qBt d m ty v /\ fldV d m a s = .ok v /\ f.ty = ty := by
 unfold qCs at ht
 cases hty : tyOf d t with
 | none => rw [hty] at ht; simp at ht
 | some tt =>
  rw [hty] at ht
  simp only at ht
  split at ht
  ·simp at ht
  ·rename_i hl
   simp only [Prod.mk.injEq, and_true] at ht
   obtain ⟨j, hj, hj2, rfl, hnode⟩ := tyOf_idx hty
   have hname := qDt G.valid hnode
   have ha' : qAp d m tt.name a = true := by
    unfold qBt at ha; rw [if_neg (qCF hname kwNil)] at ha; exact ha
   obtain ⟨b1, b2, n, b3, b4, b5⟩ := right_node hname ha' h0
   rcases qDv tt.fields s with ⟨c1, -⟩ | ⟨i, f, c1, c2, c3, c4⟩
   ·exact absurd c1 hl
   ·have hfo : qAF d n.ty = tt.fields := qBM hj2 (b5.trans hj)
    obtain ⟨p1, -, -, -, p5⟩ := qAt G.mem
    have hv := p5 n b4
    rw [hfo] at hv
    obtain ⟨v, hv1, hv2⟩ := qGc hv c2
    have hmem := List.mem_of_getElem? hj2
    have hkn : qBv d f.ty = true := List.all_eq_true.1 ((qBl p1).2.2 tt hmem) f (List.mem_of_getElem? c2)
    refine ⟨n, i, j, tt, f, v, b3, b4, b1, b2, b5.trans hj, hj2, hmem, c1, c2, hv1, ?_, ?_, c3.symm.trans ht⟩
    ·rw [<- ht, c3]; exact (qAY G.valid hkn).2 hv2
    ·unfold fldV
     rw [if_neg h0, b3]
     simp only
     rw [hfo, c1, Int.toNat_natCast, hv1]; rfl
theorem qDP {α β : Type} {f : Nat -> α -> Option β} : ∀ {l : List α} {i : Nat}, qAi f i l = none -> ∀ j x, l[j]? = some x -> f (i + j) x = none
 | [], _, _, j, x, hx => by simp at hx
 | y :: l, i, h, j, x, hx => by
  unfold qAi at h
  cases hy : f i y with
  | some b => rw [hy] at h; cases h
  | none =>
   rw [hy] at h
   cases j with
   | zero => simp at hx; subst hx; exact hy
   | succ j => rw [show i + (j + 1) = i + 1 + j by omega]; exact qDP h j x (by simpa using hx)
theorem or_none {α : Type} {a b : Option α} (h : a.or b = none) : a = none /\ b = none := by
 cases a with
 | none => exact ⟨rfl, by simpa using h⟩
 | some x => simp at h
end
end Go.Proofs
namespace Go.Proofs
open Go Go.Sx
section
variable {d : Ds} {m : Mm}
theorem big_ok {n v : Int} (h : big n = .ok v) : v = n /\ -1099511627776 <= v /\ v <= 1099511627776 := by
 unfold big at h
 split at h
 ·cases h; rename_i h1; exact ⟨rfl, h1⟩
 ·cases h
theorem trI_b (b : Bool) : trI b = 0 ∨ trI b = 1 := by cases b <;> simp [trI]
theorem qBq {ok : Bool} {t t' : ByteArray} (h : qEF ok t = (t', 0)) : ok = true /\ t = t' := by
 unfold qEF at h
 split at h
 ·rename_i h1; simp only [Prod.mk.injEq, and_true] at h; exact ⟨h1, h⟩
 ·simp at h
theorem tdiv_in {a b : Int} (ha : -1099511627776 <= a /\ a <= 1099511627776) : -1099511627776 <= a.tdiv b /\ a.tdiv b <= 1099511627776 := by
 have := Int.natAbs_tdiv_le_natAbs a b
 omega
theorem tmod_in {a b : Int} (ha : -1099511627776 <= a /\ a <= 1099511627776) : -1099511627776 <= a.tmod b /\ a.tmod b <= 1099511627776 := by
 have h1 := Int.natAbs_tmod a b
 have := Nat.mod_le a.natAbs b.natAbs
 omega
theorem log_in {a : Int} (ha : a <= 1099511627776) : 0 <= logV a /\ logV a <= 1099511627776 := by
 unfold logV
 have : Nat.log2 a.toNat <= a.toNat := Nat.log2_le_self _
 omega
inductive Kind (d : Ds) (sc : Sc) (e : E) : ByteArray -> Prop where
 | int (h : e.op = 1) (hn : 0 <= e.n /\ e.n <= 1099511627776) : Kind d sc e qAV
 | bool (h : e.op = 2) (hn : e.n = 0 ∨ e.n = 1) : Kind d sc e qAr
 | nil (h : e.op = 3) (hn : e.n = 0) : Kind d sc e sNil
 | var {t} (h : e.op = 4) (hl : qCa sc.vars e.s = t) (hne : t ≠ sE) : Kind d sc e t
 | fld {t u} {a : E} (h : e.op = 5) (hk : e.k = [a]) (ha : qAl d sc a = (u, 0)) (ht : qCs d u e.s = (t, 0)) : Kind d sc e t
 | call {u} {a : E} {ms : Ms} {i : Nat} (h : e.op = 7) (hk : e.k = [a]) (ha : qAl d sc a = (u, 0)) (hi : mIdx d e.s = i) (hms : d.measures[i]? = some ms) (hf : qDB d u ms.ty = true) : Kind d sc e qAV
 | neg {a : E} (h : e.op = 8) (hk : e.k = [a]) (ha : qAl d sc a = (qAV, 0)) : Kind d sc e qAV
 | not {a : E} (h : e.op = 18) (hk : e.k = [a]) (ha : qAl d sc a = (qAr, 0)) : Kind d sc e qAr
 | log {a : E} (h : e.op = 24) (hk : e.k = [a]) (ha : qAl d sc a = (qAV, 0)) : Kind d sc e qAV
 | and {a b : E} (h : e.op = 19) (hk : e.k = [a, b]) (ha : qAl d sc a = (qAr, 0)) (hb : qAl d sc b = (qAr, 0)) : Kind d sc e qAr
 | or {a b : E} (h : e.op = 20) (hk : e.k = [a, b]) (ha : qAl d sc a = (qAr, 0)) (hb : qAl d sc b = (qAr, 0)) : Kind d sc e qAr
 | cond {a b c : E} {t u w} (h : e.op = 21) (hk : e.k = [a, b, c]) (ha : qAl d sc a = (qAr, 0)) (hb : qAl d sc b = (u, 0)) (hc : qAl d sc c = (w, 0)) (hu : u = t ∨ qDB d u t = true) (hw : w = t ∨ qDB d w t = true) : Kind d sc e t
 | eq {a b : E} {u w} (h : e.op = 14 ∨ e.op = 15) (hk : e.k = [a, b]) (ha : qAl d sc a = (u, 0)) (hb : qAl d sc b = (w, 0)) : Kind d sc e qAr
 | cmp {a b : E} (h : e.op = 16 ∨ e.op = 17) (hk : e.k = [a, b]) (ha : qAl d sc a = (qAV, 0)) (hb : qAl d sc b = (qAV, 0)) : Kind d sc e qAr
 | ari {a b : E} (h : e.op = 9 ∨ e.op = 10 ∨ e.op = 11 ∨ e.op = 12 ∨ e.op = 13 ∨ e.op = 22 ∨ e.op = 23) (hk : e.k = [a, b]) (ha : qAl d sc a = (qAV, 0)) (hb : qAl d sc b = (qAV, 0)) : Kind d sc e qAV
theorem allT1 {t u : ByteArray} (h : allT [t] u = true) : t = u := by simpa [allT] using h
theorem allT2 {t t' u : ByteArray} (h : allT [t, t'] u = true) : t = u /\ t' = u := by simpa [allT] using h
theorem qAZ {p : ByteArray × Int} {t : ByteArray} (h1 : p.1 = t) (h2 : p.2 = 0) : p = (t, 0) := Prod.ext h1 h2
theorem kind {sc : Sc} (hsc : sc.body = false) {e : E} {t : ByteArray} (hv : VE e) (ht : qAl d sc e = (t, 0)) : Kind d sc e t := by
 obtain ⟨hk, hn⟩ := qGe ht
 obtain ⟨a1, a2, a3, a4⟩ := arityB hv.node
 unfold qHh at hn
 unfold numB at a4
 have one : qAG e.op = 1 -> ∃ a, e.k = [a] := fun h => list1 ((a2 (by omega)).trans h)
 have two : qAG e.op = 2 -> ∃ a b, e.k = [a, b] := fun h => list2 ((a2 (by omega)).trans h)
 have three : qAG e.op = 3 -> ∃ a b c, e.k = [a, b, c] := fun h => list3 ((a2 (by omega)).trans h)
 by_cases h1 : e.op = 1
 ·rw [if_pos h1] at hn a4
  cases hn; exact .int h1 (of_decide_eq_true a4)
 rw [if_neg h1] at hn a4
 by_cases h2 : e.op = 2
 ·rw [if_pos h2] at hn a4
  cases hn; exact .bool h2 (of_decide_eq_true a4)
 rw [if_neg h2] at hn a4
 have a4 : e.n = 0 := of_decide_eq_true a4
 by_cases h3 : e.op = 3
 ·rw [if_pos h3] at hn
  cases hn; exact .nil h3 a4
 rw [if_neg h3] at hn
 by_cases h4 : e.op = 4
 ·rw [if_pos h4] at hn
  split at hn
  ·simp at hn
  ·rename_i hne
   simp only [Prod.mk.injEq, and_true] at hn
   exact .var h4 hn (hn ▸ hne)
 rw [if_neg h4] at hn
 by_cases h5 : e.op = 5
 ·obtain ⟨a, ha⟩ := one (by rw [h5]; rfl)
  rw [if_pos h5, ha] at hn
  rw [ha] at hk
  exact .fld h5 ha (qAZ rfl (hk a (by simp))) hn
 rw [if_neg h5] at hn
 by_cases h6 : e.op = 6
 ·rw [if_pos h6, if_pos hsc] at hn
  simp at hn
 rw [if_neg h6] at hn
 by_cases h7 : e.op = 7
 ·rw [if_pos h7] at hn
  unfold callE at hn
  rw [if_neg (by rw [hsc]; decide)] at hn
  unfold qIk meOf at hn
  unfold mIdx at *
  rcases qBk (fun x : Ms => decide (x.name = e.s)) d.measures with ⟨-, q2, -⟩ | ⟨i, ms, q1, q2, q3, -⟩
  ·rw [q2] at hn; simp at hn
  ·rw [q3] at hn
   simp only at hn
   split at hn
   ·simp at hn
   ·rename_i hl
    obtain ⟨a, ha⟩ : ∃ a, e.k = [a] := list1 (by simp at hl; omega)
    rw [ha] at hn hk
    obtain ⟨b1, rfl⟩ := qBq hn
    exact .call h7 ha (qAZ rfl (hk a (by simp))) q1 q2 (by simpa using b1)
 rw [if_neg h7] at hn
 by_cases h14 : e.op = 14 ∨ e.op = 15
 ·obtain ⟨a, b, hab⟩ := two (by rcases h14 with h | h <;> (rw [h]; rfl))
  rw [if_pos h14] at hn
  rw [hab] at hk
  obtain ⟨-, rfl⟩ := qBq hn
  exact .eq h14 hab (qAZ rfl (hk a (by simp))) (qAZ rfl (hk b (by simp)))
 rw [if_neg h14] at hn
 by_cases h16 : e.op = 16 ∨ e.op = 17
 ·obtain ⟨a, b, hab⟩ := two (by rcases h16 with h | h <;> (rw [h]; rfl))
  rw [if_pos h16, hab] at hn
  rw [hab] at hk
  obtain ⟨g, rfl⟩ := qBq hn
  obtain ⟨g1, g2⟩ := allT2 g
  exact .cmp h16 hab (qAZ g1 (hk a (by simp))) (qAZ g2 (hk b (by simp)))
 rw [if_neg h16] at hn
 by_cases h18 : e.op = 18 ∨ e.op = 19 ∨ e.op = 20
 ·rw [if_pos h18] at hn
  rcases h18 with h | h
  ·obtain ⟨a, ha⟩ := one (by rw [h]; rfl)
   rw [ha] at hn hk
   obtain ⟨g, rfl⟩ := qBq hn
   exact .not h ha (qAZ (allT1 g) (hk a (by simp)))
  ·obtain ⟨a, b, hab⟩ := two (by rcases h with h | h <;> (rw [h]; rfl))
   rw [hab] at hn hk
   obtain ⟨g, rfl⟩ := qBq hn
   obtain ⟨g1, g2⟩ := allT2 g
   rcases h with h | h
   ·exact .and h hab (qAZ g1 (hk a (by simp))) (qAZ g2 (hk b (by simp)))
   ·exact .or h hab (qAZ g1 (hk a (by simp))) (qAZ g2 (hk b (by simp)))
 rw [if_neg h18] at hn
 by_cases h21 : e.op = 21
 ·obtain ⟨a, b, c, habc⟩ := three (by rw [h21]; rfl)
  rw [if_pos h21, habc] at hn
  rw [habc] at hk
  obtain ⟨g, g2⟩ := qBq hn
  simp only [List.map_cons, List.map_nil, List.getD_cons_zero, List.getD_cons_succ, Bool.and_eq_true, decide_eq_true_eq, Bool.or_eq_true] at g g2
  refine .cond h21 habc (qAZ g.1 (hk a (by simp))) (qAZ rfl (hk b (by simp))) (qAZ rfl (hk c (by simp))) ?_ ?_
  ·split at g2
   ·rename_i g3
    subst g2
    rcases g.2 with g | g
    ·exact .inr g
    ·unfold qDB at g ⊢
     simp only [Bool.or_eq_true, decide_eq_true_eq, Bool.and_eq_true] at g ⊢
     rcases g with g | g
     ·exact .inl g.symm
     ·exact .inl (g3.trans g.1.symm)
   ·exact .inl g2
  ·split at g2
   ·exact .inl g2
   ·rename_i g3
    subst g2
    rcases g.2 with g | g
    ·unfold qDB at g ⊢
     simp only [Bool.or_eq_true, decide_eq_true_eq, Bool.and_eq_true] at g ⊢
     rcases g with g | g
     ·exact .inl g.symm
     ·exact absurd g.1 g3
    ·exact .inr g
 rw [if_neg h21] at hn
 obtain ⟨g, rfl⟩ := qBq hn
 have hop : e.op = 8 ∨ e.op = 24 ∨ (e.op = 9 ∨ e.op = 10 ∨ e.op = 11 ∨ e.op = 12 ∨ e.op = 13 ∨ e.op = 22 ∨ e.op = 23) := by
  unfold qAG at a1
  grind
 rcases hop with h | h | h
 ·obtain ⟨a, ha⟩ := one (by rw [h]; rfl)
  rw [ha] at g hk
  exact .neg h ha (qAZ (allT1 g) (hk a (by simp)))
 ·obtain ⟨a, ha⟩ := one (by rw [h]; rfl)
  rw [ha] at g hk
  exact .log h ha (qAZ (allT1 g) (hk a (by simp)))
 ·obtain ⟨a, b, hab⟩ := two (by rcases h with h | h | h | h | h | h | h <;> (rw [h]; rfl))
  rw [hab] at g hk
  obtain ⟨g1, g2⟩ := allT2 g
  exact .ari h hab (qAZ g1 (hk a (by simp))) (qAZ g2 (hk b (by simp)))
theorem two_ok {op a b v : Int} (h : op = 9 ∨ op = 10 ∨ op = 11 ∨ op = 12 ∨ op = 13 ∨ op = 22 ∨ op = 23) (ha : -1099511627776 <= a /\ a <= 1099511627776) (hb : -1099511627776 <= b /\ b <= 1099511627776) (hv : qDH op a b = .ok v) : -1099511627776 <= v /\ v <= 1099511627776 := by
 unfold qDH at hv
 split at hv
 ·exact (big_ok hv).2
 split at hv
 ·exact (big_ok hv).2
 split at hv
 ·exact (big_ok hv).2
 split at hv
 ·cases hv; split <;> assumption
 split at hv
 ·cases hv; split <;> assumption
 repeat' (split at hv; (first | omega | cases hv))
 ·exact tdiv_in ha
 ·cases hv; exact tmod_in ha
theorem twoB_ok {op a b v : Int} (h : op = 14 ∨ op = 15 ∨ op = 16 ∨ op = 17) (hv : qDH op a b = .ok v) : v = 0 ∨ v = 1 := by
 rcases h with rfl | rfl | rfl | rfl
 ·have : trI (decide (a = b)) = v := by injection hv
  rw [<- this]; exact trI_b _
 ·have : trI (!decide (a = b)) = v := by injection hv
  rw [<- this]; exact trI_b _
 ·have : trI (decide (a < b)) = v := by injection hv
  rw [<- this]; exact trI_b _
 ·have : trI (decide (a <= b)) = v := by injection hv
  rw [<- this]; exact trI_b _
end
end Go.Proofs
namespace Go.Proofs
open Go Go.Sx
structure St where
 g : List Int
 ns : List (Int × List Int)
 tk : Nat
 cm : Nat
 lg : List (Int × Int × Int)
inductive Rx (α : Type) where
 | ok (v : α) (s : St)
 | bad (c : Int) (s : St)
def Rx.bind {α β : Type} : Rx α -> (α -> St -> Rx β) -> Rx β
 | .ok v s, f => f v s
 | .bad c s, _ => .bad c s
def qBZ : Sl := ⟨none, 0, 0⟩
def St.mm (s : St) : Mm := ⟨qBZ, s.g, qBZ, s.ns.map fun n => ⟨n.1, qBZ, n.2⟩⟩
def St.note (s : St) (a : Int × Int × Int) : St := { s with lg := s.lg ++ [a] }
def noE : E := .mk 0 0 sE qBZ []
def qFq (d : Ds) (s : ByteArray) : Int := idxI (fun t => decide (t.name = s)) d.procs
def qHi : Rs -> St -> Rx Int
 | .ok v, s => .ok v s
 | .bad c, s => .bad c s
def seqX : List (St -> Rx Int) -> List Int -> St -> Rx (List Int)
 | [], acc, st => .ok acc st
 | f :: fs, acc, st => (f st).bind fun v st => seqX fs (acc ++ [v]) st
def qDx (ks : List (St -> Rx Int)) (i : Nat) : St -> Rx Int := ks.getD i fun st => .bad 0 st
def _root_.Go.Sx.Pr.vars (p : Pr) : List Fld := p.params ++ p.locals
def cntX (b : Bool) (op : Int) (st : St) : St := if op = 16 ∨ op = 17 ∨ ((op = 14 ∨ op = 15) /\ b = true) then { st with cm := st.cm + 1 } else st
abbrev Cf := Int -> List Int -> St -> Rx Int
abbrev Rt := List Int × Option Int
abbrev Sf := Nat -> Pr -> List S -> List Int -> St -> Rx Rt
def qDl (F : Nat) (st : St) : Rx Unit := if F <= st.tk then .bad 20 st else .ok () { st with tk := st.tk + 1 }
section
variable (d : Ds)
def varX (p : Pr) (vals : List Int) (s : ByteArray) (st : St) : Rx Int :=
 if 0 <= qER p.vars s then .ok ((vals[(qER p.vars s).toNat]?).getD 0) st else .ok ((st.g[(qER d.globals s).toNat]?).getD 0) (st.note (1, 0, qER d.globals s))
def fldX (a : Int) (s : ByteArray) (st : St) : Rx Int :=
 if a = 0 then .bad 17 st else match st.ns[(a - 1).toNat]? with
  | none => .bad 0 st
  | some n => .ok ((n.2[(qER (qAF d n.1) s).toNat]?).getD 0) (st.note (1, a, qER (qAF d n.1) s))
def newX (s : ByteArray) (st : St) : Rx Int :=
 if 4096 <= st.ns.length then .bad 21 st else .ok ((st.ns.length : Int) + 1) { st with ns := st.ns ++ [(qDj d s, List.replicate (qAF d (qDj d s)).length 0)], lg := st.lg ++ [(3, (st.ns.length : Int) + 1, qDj d s)] }
def intB (sc : Sc) : List E -> Bool
 | [] => false
 | a :: _ => decide ((qAl d sc a).1 = qAV)
def qCR (C : Cf) (p : Pr) (vals : List Int) (b : Bool) (op n : Int) (s : ByteArray) (ks : List (St -> Rx Int)) (st : St) : Rx Int :=
 if op = 1 ∨ op = 2 then .ok n st else if op = 3 then .ok 0 st else if op = 4 then varX d p vals s st
 else if op = 5 then (qDx ks 0 st).bind fun a st => fldX d a s st
 else if op = 6 then newX d s st
 else if op = 7 then (seqX ks [] st).bind fun l st => C (qFq d s) l st
 else if op = 8 then (qDx ks 0 st).bind fun a st => qHi (big (-a)) st
 else if op = 18 then (qDx ks 0 st).bind fun a st => .ok (1 - a) st
 else if op = 24 then (qDx ks 0 st).bind fun a st => .ok (logV a) st
 else if op = 19 then (qDx ks 0 st).bind fun a st => if a = 0 then .ok 0 st else qDx ks 1 st
 else if op = 20 then (qDx ks 0 st).bind fun a st => if a = 0 then qDx ks 1 st else .ok 1 st
 else if op = 21 then (qDx ks 0 st).bind fun a st => if a = 0 then qDx ks 2 st else qDx ks 1 st
 else (qDx ks 0 st).bind fun v st => (qDx ks 1 st).bind fun w st => qHi (qDH op v w) (cntX b op st)
mutual
def evX (C : Cf) (p : Pr) (vals : List Int) : E -> St -> Rx Int
 | .mk op n s _ k => qCR d C p vals (intB d (qAh d p) k) op n s (evXs C p vals k)
def evXs (C : Cf) (p : Pr) (vals : List Int) : List E -> List (St -> Rx Int)
 | [] => []
 | e :: es => evX C p vals e :: evXs C p vals es
end
def qCJ (Sn : Sf) (c : Nat) (i : Int) (args : List Int) (st : St) : Rx Int :=
 if 200 <= c then .bad 19 st else match d.procs[i.toNat]? with
  | none => .bad 0 st
  | some p => (Sn (c + 1) p p.body (args ++ List.replicate p.locals.length 0) st).bind fun r st => .ok (r.2.getD 0) st
def setX (p : Pr) (s : ByteArray) (v : Int) (vals : List Int) (st : St) : Rx Rt :=
 if 0 <= qER p.vars s then .ok (vals.set (qER p.vars s).toNat v, none) st else .ok (vals, none) { st with g := st.g.set (qER d.globals s).toNat v, lg := st.lg ++ [(2, 0, qER d.globals s)] }
def putX (a v : Int) (s : ByteArray) (st : St) : Rx Unit :=
 if a = 0 then .bad 17 st else match st.ns[(a - 1).toNat]? with
  | none => .bad 0 st
  | some n => .ok () { st with ns := st.ns.set (a - 1).toNat (n.1, n.2.set (qER (qAF d n.1) s).toNat v), lg := st.lg ++ [(2, a, qER (qAF d n.1) s)] }
section
variable (F : Nat) (Sn : Sf) (c : Nat) (p : Pr)
def evS (vals : List Int) (e : E) (st : St) : Rx Int := evX d (qCJ d Sn c) p vals e st
def whX (cond : E) (body : List S) : Nat -> List Int -> St -> Rx Rt
 | 0, _, st => .bad 20 st
 | n + 1, vals, st => (evS d Sn c p vals cond st).bind fun a st => if a = 0 then .ok (vals, none) st else (Sn c p body vals st).bind fun r st => match r.2 with
  | some _ => .ok r st
  | none => (qDl F st).bind fun _ st => whX cond body n r.1 st
def qHn (n : Nat) (s : S) (vals : List Int) (st : St) : Rx Rt :=
 if s.op = 1 then (evS d Sn c p vals (s.es.getD 0 noE) st).bind fun v st => setX d p s.s v vals st
 else if s.op = 2 then (evS d Sn c p vals (s.es.getD 0 noE) st).bind fun a st => (evS d Sn c p vals (s.es.getD 1 noE) st).bind fun v st => (putX d a v s.s st).bind fun _ st => .ok (vals, none) st
 else if s.op = 3 then (evS d Sn c p vals (s.es.getD 0 noE) st).bind fun a st => if a = 0 then Sn c p s.xs vals st else Sn c p s.ls vals st
 else if s.op = 4 then whX d F Sn c p (s.es.getD 0 noE) s.ls n vals st
 else if s.op = 5 then match s.es with
  | [] => .ok (vals, some 0) st
  | e :: _ => (evS d Sn c p vals e st).bind fun v st => .ok (vals, some v) st
 else if s.op = 6 then (evS d Sn c p vals (s.es.getD 0 noE) st).bind fun _ st => .ok (vals, none) st
 else .ok (vals, none) st
def stX (n : Nat) (s : S) (vals : List Int) (st : St) : Rx Rt := (qDl F st).bind fun _ st => qHn d F Sn c p n s vals st
end
def qDY (f : S -> List Int -> St -> Rx Rt) : List S -> List Int -> St -> Rx Rt
 | [], vals, st => .ok (vals, none) st
 | s :: l, vals, st => (f s vals st).bind fun r st => match r.2 with
  | some _ => .ok r st
  | none => qDY f l r.1 st
def qEv (F : Nat) : Nat -> Sf
 | 0 => fun _ _ _ _ st => .bad 20 st
 | n + 1 => fun c p l vals st => qDY (stX d F (qEv F n) c p (n + 1)) l vals st
def qDU (F : Nat) (i : Int) (args : List Int) (st : St) : Rx Int := qCJ d (qEv d F (F + 1)) 0 i args st
end
variable {d : Ds}
theorem evXs_map (C : Cf) (p : Pr) (vals : List Int) : ∀ k : List E, evXs d C p vals k = k.map (evX d C p vals)
 | [] => by unfold evXs; rfl
 | e :: es => by unfold evXs; rw [evXs_map C p vals es]; rfl
theorem qGS (C : Cf) (p : Pr) (vals : List Int) (e : E) (st : St) : evX d C p vals e st = qCR d C p vals (intB d (qAh d p) e.k) e.op e.n e.s (e.k.map (evX d C p vals)) st := by
 cases e; unfold evX; rw [evXs_map]; rfl
theorem kidX_at {f : E -> St -> Rx Int} {k : List E} {i : Nat} {e : E} (h : k[i]? = some e) : qDx (k.map f) i = f e := by
 unfold qDx
 rw [List.getD_eq_getElem?_getD, List.getElem?_map, h]; rfl
section
variable {C : Cf} {p : Pr} {vals : List Int} {b : Bool} {op n : Int} {s : ByteArray} {ks : List (St -> Rx Int)} {st : St}
theorem cX1 (h : op = 1 ∨ op = 2) : qCR d C p vals b op n s ks st = .ok n st := by rcases h with rfl | rfl <;> rfl
theorem cX3 (h : op = 3) : qCR d C p vals b op n s ks st = .ok 0 st := by subst h; rfl
theorem cX4 (h : op = 4) : qCR d C p vals b op n s ks st = varX d p vals s st := by subst h; rfl
theorem cX5 (h : op = 5) : qCR d C p vals b op n s ks st = (qDx ks 0 st).bind fun a st => fldX d a s st := by subst h; rfl
theorem cX6 (h : op = 6) : qCR d C p vals b op n s ks st = newX d s st := by subst h; rfl
theorem cX7 (h : op = 7) : qCR d C p vals b op n s ks st = (seqX ks [] st).bind fun l st => C (qFq d s) l st := by subst h; rfl
theorem cX8 (h : op = 8) : qCR d C p vals b op n s ks st = (qDx ks 0 st).bind fun a st => qHi (big (-a)) st := by subst h; rfl
theorem cX18 (h : op = 18) : qCR d C p vals b op n s ks st = (qDx ks 0 st).bind fun a st => .ok (1 - a) st := by subst h; rfl
theorem cX24 (h : op = 24) : qCR d C p vals b op n s ks st = (qDx ks 0 st).bind fun a st => .ok (logV a) st := by subst h; rfl
theorem cX19 (h : op = 19) : qCR d C p vals b op n s ks st = (qDx ks 0 st).bind fun a st => if a = 0 then .ok 0 st else qDx ks 1 st := by subst h; rfl
theorem cX20 (h : op = 20) : qCR d C p vals b op n s ks st = (qDx ks 0 st).bind fun a st => if a = 0 then qDx ks 1 st else .ok 1 st := by subst h; rfl
theorem cX21 (h : op = 21) : qCR d C p vals b op n s ks st = (qDx ks 0 st).bind fun a st => if a = 0 then qDx ks 2 st else qDx ks 1 st := by subst h; rfl
theorem cXTwo (h : 9 <= op /\ op <= 23 /\ op ≠ 18 /\ op ≠ 19 /\ op ≠ 20 /\ op ≠ 21) : qCR d C p vals b op n s ks st = (qDx ks 0 st).bind fun v st => (qDx ks 1 st).bind fun w st => qHi (qDH op v w) (cntX b op st) := by
 unfold qCR
 rw [if_neg (by omega), if_neg (by omega), if_neg (by omega), if_neg (by omega), if_neg (by omega), if_neg (by omega), if_neg (by omega), if_neg (by omega), if_neg (by omega), if_neg (by omega), if_neg (by omega), if_neg (by omega)]
end
end Go.Proofs
namespace Go.Proofs
open Go Go.Sx
section
variable {d : Ds} {sc : Sc} {e : E} {p : Pr}
structure CallK (d : Ds) (sc : Sc) (e : E) (pr : Pr) (i : Nat) : Prop where
 idx : qFq d e.s = i
 at_ : d.procs[i]? = some pr
 len : e.k.length = pr.params.length
 fit : ∀ (j : Nat) a f, e.k[j]? = some a -> pr.params[j]? = some f -> ∃ u, qAl d sc a = (u, 0) /\ qDB d u f.ty = true
theorem fitAll_at : ∀ {l : List ByteArray} {fs : List Fld}, qEd d l fs = true -> ∀ (j : Nat) a f, l[j]? = some a -> fs[j]? = some f -> qDB d a f.ty = true
 | [], _, _, j, a, f, h, _ => by simp at h
 | _ :: _, [], _, j, a, f, _, h => by simp at h
 | b :: l, g :: fs, h, j, a, f, h1, h2 => by
  unfold qEd at h
  rw [Bool.and_eq_true] at h
  cases j with
  | zero => simp at h1 h2; subst h1; subst h2; exact h.1
  | succ j => exact fitAll_at h.2 j a f (by simpa using h1) (by simpa using h2)
theorem callT_ok {s t : ByteArray} {l : List ByteArray} (h : qHm d s l = (t, 0)) : ∃ (pr : Pr) (i : Nat), qFq d s = i /\ d.procs[i]? = some pr /\ l.length = pr.params.length /\ qEd d l pr.params = true /\ t = pr.result := by
 unfold qHm qHB at h
 unfold qFq
 rcases qBk (fun x : Pr => decide (x.name = s)) d.procs with ⟨-, q2, -⟩ | ⟨i, pr, q1, q2, q3, -⟩
 ·rw [q2] at h; simp at h
 ·rw [q3] at h
  simp only at h
  split at h
  ·simp at h
  ·rename_i hl
   split at h
   ·rename_i hf
    simp only [Prod.mk.injEq, and_true] at h
    exact ⟨pr, i, q1, q2, by simpa using hl, hf, h.symm⟩
   ·simp at h
theorem callK_of (hk : ∀ x ∈ e.k, (qAl d sc x).2 = 0) {t : ByteArray} (h : qHm d e.s (e.k.map fun x => (qAl d sc x).1) = (t, 0)) : ∃ pr i, CallK d sc e pr i /\ t = pr.result := by
 obtain ⟨pr, i, h1, h2, h3, h4, h5⟩ := callT_ok h
 refine ⟨pr, i, ⟨h1, h2, by simpa using h3, fun j a f ha hf => ⟨(qAl d sc a).1, qAZ rfl (hk a (List.mem_of_getElem? ha)), fitAll_at h4 j _ f (by simp [ha]) hf⟩⟩, h5⟩
inductive qDE (d : Ds) (sc : Sc) (e : E) : ByteArray -> Prop where
 | int (h : e.op = 1) (hn : 0 <= e.n /\ e.n <= 1099511627776) : qDE d sc e qAV
 | bool (h : e.op = 2) (hn : e.n = 0 ∨ e.n = 1) : qDE d sc e qAr
 | nil (h : e.op = 3) (hn : e.n = 0) : qDE d sc e sNil
 | var {t} (h : e.op = 4) (hl : qCa sc.vars e.s = t) (hne : t ≠ sE) : qDE d sc e t
 | fld {t u} {a : E} (h : e.op = 5) (hk : e.k = [a]) (ha : qAl d sc a = (u, 0)) (ht : qCs d u e.s = (t, 0)) : qDE d sc e t
 | new (h : e.op = 6) (hn : qBh d e.s = true) : qDE d sc e e.s
 | call {pr : Pr} {i : Nat} (h : e.op = 7) (hc : CallK d sc e pr i) (hr : pr.result ≠ sE) : qDE d sc e pr.result
 | neg {a : E} (h : e.op = 8) (hk : e.k = [a]) (ha : qAl d sc a = (qAV, 0)) : qDE d sc e qAV
 | not {a : E} (h : e.op = 18) (hk : e.k = [a]) (ha : qAl d sc a = (qAr, 0)) : qDE d sc e qAr
 | log {a : E} (h : e.op = 24) (hk : e.k = [a]) (ha : qAl d sc a = (qAV, 0)) : qDE d sc e qAV
 | and {a b : E} (h : e.op = 19) (hk : e.k = [a, b]) (ha : qAl d sc a = (qAr, 0)) (hb : qAl d sc b = (qAr, 0)) : qDE d sc e qAr
 | or {a b : E} (h : e.op = 20) (hk : e.k = [a, b]) (ha : qAl d sc a = (qAr, 0)) (hb : qAl d sc b = (qAr, 0)) : qDE d sc e qAr
 | cond {a b c : E} {t u w} (h : e.op = 21) (hk : e.k = [a, b, c]) (ha : qAl d sc a = (qAr, 0)) (hb : qAl d sc b = (u, 0)) (hc : qAl d sc c = (w, 0)) (hu : u = t ∨ qDB d u t = true) (hw : w = t ∨ qDB d w t = true) (ht : t = if u = sNil then w else u) : qDE d sc e t
 | eq {a b : E} {u w} (h : e.op = 14 ∨ e.op = 15) (hk : e.k = [a, b]) (ha : qAl d sc a = (u, 0)) (hb : qAl d sc b = (w, 0)) (hf : qDB d u w = true ∨ qDB d w u = true) : qDE d sc e qAr
 | cmp {a b : E} (h : e.op = 16 ∨ e.op = 17) (hk : e.k = [a, b]) (ha : qAl d sc a = (qAV, 0)) (hb : qAl d sc b = (qAV, 0)) : qDE d sc e qAr
 | ari {a b : E} (h : e.op = 9 ∨ e.op = 10 ∨ e.op = 11 ∨ e.op = 12 ∨ e.op = 13 ∨ e.op = 22 ∨ e.op = 23) (hk : e.k = [a, b]) (ha : qAl d sc a = (qAV, 0)) (hb : qAl d sc b = (qAV, 0)) : qDE d sc e qAV
theorem kindX (hsc : sc.body = true) {t : ByteArray} (hv : VE e) (ht : qAl d sc e = (t, 0)) : qDE d sc e t := by
 obtain ⟨hk, hn⟩ := qGe ht
 obtain ⟨a1, a2, a3, a4⟩ := arityB hv.node
 unfold qHh at hn
 unfold numB at a4
 have one : qAG e.op = 1 -> ∃ a, e.k = [a] := fun h => list1 ((a2 (by omega)).trans h)
 have two : qAG e.op = 2 -> ∃ a b, e.k = [a, b] := fun h => list2 ((a2 (by omega)).trans h)
 have three : qAG e.op = 3 -> ∃ a b c, e.k = [a, b, c] := fun h => list3 ((a2 (by omega)).trans h)
 by_cases h1 : e.op = 1
 ·rw [if_pos h1] at hn a4
  cases hn; exact .int h1 (of_decide_eq_true a4)
 rw [if_neg h1] at hn a4
 by_cases h2 : e.op = 2
 ·rw [if_pos h2] at hn a4
  cases hn; exact .bool h2 (of_decide_eq_true a4)
 rw [if_neg h2] at hn a4
 have a4 : e.n = 0 := of_decide_eq_true a4
 by_cases h3 : e.op = 3
 ·rw [if_pos h3] at hn
  cases hn; exact .nil h3 a4
 rw [if_neg h3] at hn
 by_cases h4 : e.op = 4
 ·rw [if_pos h4] at hn
  split at hn
  ·simp at hn
  ·rename_i hne
   simp only [Prod.mk.injEq, and_true] at hn
   exact .var h4 hn (hn ▸ hne)
 rw [if_neg h4] at hn
 by_cases h5 : e.op = 5
 ·obtain ⟨a, ha⟩ := one (by rw [h5]; rfl)
  rw [if_pos h5, ha] at hn
  rw [ha] at hk
  exact .fld h5 ha (qAZ rfl (hk a (by simp))) hn
 rw [if_neg h5] at hn
 by_cases h6 : e.op = 6
 ·rw [if_pos h6, if_neg (by rw [hsc]; decide)] at hn
  split at hn
  ·simp at hn
  ·rename_i hno
   simp only [Prod.mk.injEq, and_true] at hn
   subst hn
   exact .new h6 (by simpa using hno)
 rw [if_neg h6] at hn
 by_cases h7 : e.op = 7
 ·rw [if_pos h7] at hn
  unfold callE at hn
  rw [if_pos hsc] at hn
  split at hn
  ·simp at hn
  ·rename_i hne
   obtain ⟨pr, i, hc, rfl⟩ := callK_of hk hn
   exact .call h7 hc fun h => hne ⟨by rw [hn], by rw [hn]; exact h⟩
 rw [if_neg h7] at hn
 by_cases h14 : e.op = 14 ∨ e.op = 15
 ·obtain ⟨a, b, hab⟩ := two (by rcases h14 with h | h <;> (rw [h]; rfl))
  rw [if_pos h14, hab] at hn
  rw [hab] at hk
  obtain ⟨g, rfl⟩ := qBq hn
  exact .eq h14 hab (qAZ rfl (hk a (by simp))) (qAZ rfl (hk b (by simp))) (by simpa using g)
 rw [if_neg h14] at hn
 by_cases h16 : e.op = 16 ∨ e.op = 17
 ·obtain ⟨a, b, hab⟩ := two (by rcases h16 with h | h <;> (rw [h]; rfl))
  rw [if_pos h16, hab] at hn
  rw [hab] at hk
  obtain ⟨g, rfl⟩ := qBq hn
  obtain ⟨g1, g2⟩ := allT2 g
  exact .cmp h16 hab (qAZ g1 (hk a (by simp))) (qAZ g2 (hk b (by simp)))
 rw [if_neg h16] at hn
 by_cases h18 : e.op = 18 ∨ e.op = 19 ∨ e.op = 20
 ·rw [if_pos h18] at hn
  rcases h18 with h | h
  ·obtain ⟨a, ha⟩ := one (by rw [h]; rfl)
   rw [ha] at hn hk
   obtain ⟨g, rfl⟩ := qBq hn
   exact .not h ha (qAZ (allT1 g) (hk a (by simp)))
  ·obtain ⟨a, b, hab⟩ := two (by rcases h with h | h <;> (rw [h]; rfl))
   rw [hab] at hn hk
   obtain ⟨g, rfl⟩ := qBq hn
   obtain ⟨g1, g2⟩ := allT2 g
   rcases h with h | h
   ·exact .and h hab (qAZ g1 (hk a (by simp))) (qAZ g2 (hk b (by simp)))
   ·exact .or h hab (qAZ g1 (hk a (by simp))) (qAZ g2 (hk b (by simp)))
 rw [if_neg h18] at hn
 by_cases h21 : e.op = 21
 ·obtain ⟨a, b, c, habc⟩ := three (by rw [h21]; rfl)
  rw [if_pos h21, habc] at hn
  rw [habc] at hk
  obtain ⟨g, g2⟩ := qBq hn
  simp only [List.map_cons, List.map_nil, List.getD_cons_zero, List.getD_cons_succ, Bool.and_eq_true, decide_eq_true_eq, Bool.or_eq_true] at g g2
  refine .cond h21 habc (qAZ g.1 (hk a (by simp))) (qAZ rfl (hk b (by simp))) (qAZ rfl (hk c (by simp))) ?_ ?_ g2.symm
  ·split at g2
   ·rename_i g3
    subst g2
    rcases g.2 with g | g
    ·exact .inr g
    ·unfold qDB at g ⊢
     simp only [Bool.or_eq_true, decide_eq_true_eq, Bool.and_eq_true] at g ⊢
     rcases g with g | g
     ·exact .inl g.symm
     ·exact .inl (g3.trans g.1.symm)
   ·exact .inl g2
  ·split at g2
   ·exact .inl g2
   ·rename_i g3
    subst g2
    rcases g.2 with g | g
    ·unfold qDB at g ⊢
     simp only [Bool.or_eq_true, decide_eq_true_eq, Bool.and_eq_true] at g ⊢
     rcases g with g | g
     ·exact .inl g.symm
     ·exact absurd g.1 g3
    ·exact .inr g
 rw [if_neg h21] at hn
 obtain ⟨g, rfl⟩ := qBq hn
 have hop : e.op = 8 ∨ e.op = 24 ∨ (e.op = 9 ∨ e.op = 10 ∨ e.op = 11 ∨ e.op = 12 ∨ e.op = 13 ∨ e.op = 22 ∨ e.op = 23) := by
  unfold qAG at a1
  grind
 rcases hop with h | h | h
 ·obtain ⟨a, ha⟩ := one (by rw [h]; rfl)
  rw [ha] at g hk
  exact .neg h ha (qAZ (allT1 g) (hk a (by simp)))
 ·obtain ⟨a, ha⟩ := one (by rw [h]; rfl)
  rw [ha] at g hk
  exact .log h ha (qAZ (allT1 g) (hk a (by simp)))
 ·obtain ⟨a, b, hab⟩ := two (by rcases h with h | h | h | h | h | h | h <;> (rw [h]; rfl))
  rw [hab] at g hk
  obtain ⟨g1, g2⟩ := allT2 g
  exact .ari h hab (qAZ g1 (hk a (by simp))) (qAZ g2 (hk b (by simp)))
def TyS (d : Ds) (p : Pr) (s : S) : Prop := (∃ n, (stT d (qAh d p) p.result n s).2 = 0) /\ ∃ k, okS k s = true
theorem qFL {res : ByteArray} : ∀ {l : List S} {n : Int}, (qBO d sc res n l).2 = 0 -> ∀ s ∈ l, ∃ n', (stT d sc res n' s).2 = 0
 | [], _, _, s, hs => by cases hs
 | x :: l, n, h, s, hs => by
  rw [qGh] at h
  split at h
  ·rename_i h'; exact absurd h h'
  ·rename_i h'
   rcases List.mem_cons.1 hs with rfl | hs
   ·exact ⟨n, by simpa using h'⟩
   ·exact qFL h s hs
theorem qFN {k : Int} : ∀ {l : List S}, qGx k l = true -> ∀ s ∈ l, okS k s = true
 | [], _, s, hs => by cases hs
 | x :: l, h, s, hs => by
  unfold qGx at h
  rw [Bool.and_eq_true] at h
  rcases List.mem_cons.1 hs with rfl | hs
  ·exact h.1
  ·exact qFN h.2 s hs
theorem okS_eq (k : Int) (s : S) : okS k s = (decide (k <= 60) && qCn s.op s.s s.es s.ls.length s.xs.length && qGx (k + 1) s.ls && qGx (k + 1) s.xs) := by cases s; unfold okS; rfl
theorem TyS.parts {s : S} (h : TyS d p s) : qGi d (qAh d p) p.result s.op s.s s.es = 0 /\ qGl s.op s.s s.es s.ls.length s.xs.length = true /\ (∀ e ∈ s.es, qAN e = true) /\ (∀ x ∈ s.ls, TyS d p x) /\ ∀ x ∈ s.xs, TyS d p x := by
 obtain ⟨⟨n, h1⟩, k, h2⟩ := h
 rw [okS_eq] at h2
 simp only [Bool.and_eq_true] at h2
 obtain ⟨⟨⟨-, h3⟩, h4⟩, h5⟩ := h2
 unfold qCn at h3
 rw [Bool.and_eq_true, List.all_eq_true] at h3
 rw [stT_eq] at h1
 split at h1
 ·rename_i h'; exact absurd h1 h'
 ·rename_i h'
  split at h1
  ·rename_i h6; exact absurd h1 h6
  ·rename_i h6
   exact ⟨by simpa using h', h3.1, h3.2, fun x hx => ⟨qFL (by simpa using h6) x hx, _, qFN h4 x hx⟩, fun x hx => ⟨qFL h1 x hx, _, qFN h5 x hx⟩⟩
inductive KindS (d : Ds) (p : Pr) (s : S) : Prop where
 | set {e : E} {u t : ByteArray} (h : s.op = 1) (he : s.es = [e]) (hv : qAN e = true) (ht : qAl d (qAh d p) e = (u, 0)) (hl : qCa (qAh d p).vars s.s = t) (hne : t ≠ sE) (hf : qDB d u t = true)
 | put {a e : E} {u w t : ByteArray} (h : s.op = 2) (he : s.es = [a, e]) (hv : qAN a = true) (hw : qAN e = true) (ha : qAl d (qAh d p) a = (u, 0)) (ht : qAl d (qAh d p) e = (w, 0)) (hl : qCs d u s.s = (t, 0)) (hf : qDB d w t = true)
 | cond {e : E} (h : s.op = 3) (he : s.es = [e]) (hv : qAN e = true) (ht : qAl d (qAh d p) e = (qAr, 0))
 | loop {e : E} (h : s.op = 4) (he : s.es = [e]) (hv : qAN e = true) (ht : qAl d (qAh d p) e = (qAr, 0))
 | ret0 (h : s.op = 5) (he : s.es = []) (hr : p.result = sE)
 | ret1 {e : E} {u : ByteArray} (h : s.op = 5) (he : s.es = [e]) (hv : qAN e = true) (ht : qAl d (qAh d p) e = (u, 0)) (hr : p.result ≠ sE) (hf : qDB d u p.result = true)
 | call {e : E} {pr : Pr} {i : Nat} (h : s.op = 6) (he : s.es = [e]) (hv : qAN e = true) (ho : e.op = 7) (hc : CallK d (qAh d p) e pr i)
theorem kindS {s : S} (h : TyS d p s) : KindS d p s := by
 obtain ⟨h1, h2, h3, -⟩ := h.parts
 unfold qGi at h1
 unfold qGl at h2
 by_cases o6 : s.op = 6
 ·rw [if_pos o6] at h1
  rw [if_neg (by omega), if_neg (by omega), if_neg (by omega), if_neg (by omega), if_neg (by omega), if_pos o6] at h2
  obtain ⟨-, h4, h5, -⟩ := of_decide_eq_true h2
  obtain ⟨e, he⟩ := list1 h4
  rw [he] at h1 h5
  simp only at h1
  split at h1
  ·rename_i h'; exact absurd h1 h'
  ·rename_i h'
   obtain ⟨q1, q2⟩ := qDL d (qAh d p) e.k [] (by simpa using h')
   rw [q2, List.nil_append] at h1
   obtain ⟨pr, i, hc, -⟩ := callK_of (t := (qHm d e.s (e.k.map fun x => (qAl d (qAh d p) x).1)).1) q1 (Prod.ext rfl h1)
   exact .call o6 he (h3 e (by rw [he]; simp)) h5 hc
 rw [if_neg o6] at h1
 split at h1
 ·rename_i h'; exact absurd h1 h'
 rename_i h'
 obtain ⟨q1, q2⟩ := qDL d (qAh d p) s.es [] (by simpa using h')
 rw [q2, List.nil_append] at h1
 have ty : ∀ {e : E}, e ∈ s.es -> qAl d (qAh d p) e = ((qAl d (qAh d p) e).1, 0) := fun he => qAZ rfl (q1 _ he)
 by_cases o1 : s.op = 1
 ·rw [if_pos o1] at h1
  rw [if_pos o1, Bool.and_eq_true] at h2
  obtain ⟨e, he⟩ := list1 (of_decide_eq_true h2.2).1
  have hm : e ∈ s.es := by rw [he]; simp
  split at h1
  ·cases h1
  rename_i hne
  split at h1
  ·rename_i hf
   rw [he] at hf
   exact .set o1 he (h3 e hm) (ty hm) rfl hne hf
  ·cases h1
 rw [if_neg o1] at h1 h2
 by_cases o2 : s.op = 2
 ·rw [if_pos o2] at h1
  rw [if_pos o2, Bool.and_eq_true] at h2
  obtain ⟨a, e, he⟩ := list2 (of_decide_eq_true h2.2).1
  have hm : a ∈ s.es := by rw [he]; simp
  have hm2 : e ∈ s.es := by rw [he]; simp
  split at h1
  ·rename_i h4; exact absurd h1 h4
  rename_i h4
  split at h1
  ·rename_i hf
   rw [he] at hf h4
   simp only [List.map_cons, List.getD_cons_zero, List.getD_cons_succ] at hf h4
   exact .put o2 he (h3 a hm) (h3 e hm2) (ty hm) (ty hm2) (Prod.ext rfl (by simpa using h4)) hf
  ·cases h1
 rw [if_neg o2] at h1 h2
 by_cases o3 : s.op = 3
 ·rw [if_pos (.inl o3)] at h1
  rw [if_pos o3] at h2
  obtain ⟨e, he⟩ := list1 (of_decide_eq_true h2).2
  have hm : e ∈ s.es := by rw [he]; simp
  split at h1
  ·rename_i hf
   rw [he] at hf
   exact .cond o3 he (h3 e hm) (qAZ hf (q1 e hm))
  ·cases h1
 rw [if_neg o3] at h2
 by_cases o4 : s.op = 4
 ·rw [if_pos (.inr o4)] at h1
  rw [if_pos o4] at h2
  obtain ⟨e, he⟩ := list1 (of_decide_eq_true h2).2.1
  have hm : e ∈ s.es := by rw [he]; simp
  split at h1
  ·rename_i hf
   rw [he] at hf
   exact .loop o4 he (h3 e hm) (qAZ hf (q1 e hm))
  ·cases h1
 rw [if_neg (by omega)] at h1
 rw [if_neg o4] at h2
 by_cases o5 : s.op = 5
 ·rw [if_pos o5] at h1 h2
  obtain ⟨-, hl, -⟩ := of_decide_eq_true h2
  cases he : s.es with
  | nil =>
   rw [he] at h1
   simp only [List.map_nil, List.length_nil, if_true] at h1
   split at h1
   ·rename_i hr; exact .ret0 o5 he hr
   ·cases h1
  | cons e r =>
   have hr : r = [] := by
    rw [he] at hl
    cases r with
    | nil => rfl
    | cons _ _ => simp at hl; omega
   subst hr
   have hm : e ∈ s.es := by rw [he]; simp
   rw [he] at h1
   simp only [List.map_cons, List.map_nil, List.length_cons, List.length_nil, List.getD_cons_zero] at h1
   rw [if_neg (by omega)] at h1
   split at h1
   ·rename_i hf; exact .ret1 o5 he (h3 e hm) (ty hm) hf.1 hf.2
   ·cases h1
 ·rw [if_neg o5, if_neg o6] at h2
  cases h2
structure qCw (d : Ds) (p : Pr) : Prop where
 body : ∀ s ∈ p.body, TyS d p s
 vars : ∀ f ∈ p.vars, qBv d f.ty = true
 res : p.result = sE ∨ qBv d p.result = true
 lens : p.params.length <= 6 /\ p.locals.length <= 12
theorem oneT_known {l : List Fld} {i : Nat} {f : Fld} (h : qFG d l i f = 0) : qBv d f.ty = true := by
 unfold qFG at h
 split at h
 ·cases h
 ·split at h
  ·assumption
  ·cases h
theorem declT_known {l : List Fld} (h : qEa d l = 0) : ∀ f ∈ l, qBv d f.ty = true := by
 intro f hf
 obtain ⟨i, hi⟩ := List.mem_iff_getElem?.1 hf
 unfold qEa at h
 cases hq : qAi (fun i f => if qFG d l i f ≠ 0 then some (qFG d l i f) else none) 0 l with
 | none =>
  have := qDP hq i f hi
  split at this
  ·cases this
  ·rename_i h'; exact oneT_known (i := 0 + i) (by simpa using h')
 | some b =>
  exfalso
  rw [hq] at h
  simp only [Option.getD_some] at h
  subst h
  have key : ∀ (l' : List Fld) (i : Nat), qAi (fun i f => if qFG d l i f ≠ 0 then some (qFG d l i f) else none) i l' ≠ some 0 := by
   intro l'
   induction l' with
   | nil => intro i h; cases h
   | cons x l' ih =>
    intro i h
    unfold qAi at h
    by_cases hx : qFG d l i x = 0
    ·simp only [hx, ne_eq, not_true_eq_false, if_false] at h; exact ih _ h
    ·simp only [ne_eq, hx, not_false_eq_true, if_true, Option.some.injEq] at h
  exact key l 0 hq
theorem qId (hv : qBc d = true) (hc : chkT d = none) : ∀ p ∈ d.procs, qCw d p := by
 intro p hp
 obtain ⟨i, hi⟩ := List.mem_iff_getElem?.1 hp
 unfold chkT at hc
 obtain ⟨-, h⟩ := or_none hc
 obtain ⟨hh, h⟩ := or_none h
 obtain ⟨-, h⟩ := or_none h
 obtain ⟨hb, -⟩ := or_none h
 unfold qGL at hh
 unfold qDg at hb
 have a1 := qDP hh i p hi
 have a2 := qDP hb i p hi
 unfold qBc at hv
 simp only [Bool.and_eq_true, List.all_eq_true] at hv
 have hpb := hv.1.2 p hp
 unfold prB at hpb
 simp only [Bool.and_eq_true] at hpb
 obtain ⟨⟨⟨⟨-, f1⟩, f2⟩, -⟩, hs⟩ := hpb
 unfold qEo at f1 f2
 rw [Bool.and_eq_true, decide_eq_true_eq] at f1 f2
 have l1 := f1.1
 have l2 := f2.1
 refine ⟨fun s hsm => ⟨?_, 1, qFN (of_decide_eq_true hs).1 s hsm⟩, ?_, ?_, by omega, by omega⟩
 ·split at a2
  ·cases a2
  ·rename_i h'; exact qFL (by simpa using h') s hsm
 ·split at a1
  ·cases a1
  split at a1
  ·cases a1
  rename_i h'
  have h' : qEa d (p.params ++ p.locals) = 0 := by simpa using h'
  exact declT_known h'
 ·split at a1
  ·cases a1
  split at a1
  ·cases a1
  split at a1
  ·cases a1
  rename_i h'
  by_cases hr : p.result = sE
  ·exact .inl hr
  ·right
   cases hk : qBv d p.result with
   | true => rfl
   | false => exact absurd ⟨hr, hk⟩ h'
end
end Go.Proofs
namespace Go.Proofs
open Go Go.Sx
section
variable {d : Ds} {F : Nat}
def Rx.st {α : Type} : Rx α -> St | .ok _ s => s | .bad _ s => s
inductive LgOk : Nat -> List (Int × Int × Int) -> Nat -> Prop where
 | nil (n : Nat) : LgOk n [] n
 | acc {n m : Nat} {k a f : Int} {l : List (Int × Int × Int)} (hk : k = 1 ∨ k = 2) (h0 : 0 <= a) (h1 : a <= (n : Int)) (h2 : 0 <= f) (h : LgOk n l m) : LgOk n ((k, a, f) :: l) m
 | alloc {n m : Nat} {f : Int} {l : List (Int × Int × Int)} (h2 : 0 <= f) (h : LgOk (n + 1) l m) : LgOk n ((3, (n : Int) + 1, f) :: l) m
theorem LgOk.app {n m k : Nat} {l l' : List (Int × Int × Int)} (h : LgOk n l m) (h' : LgOk m l' k) : LgOk n (l ++ l') k := by
 induction h with
 | nil => exact h'
 | acc a b c d _ ih => exact .acc a b c d (ih h')
 | alloc a _ ih => exact .alloc a (ih h')
structure Gr (F n : Nat) (s s' : St) : Prop where
 ty : ∀ (i : Nat) x, s.ns[i]? = some x -> ∃ y, s'.ns[i]? = some y /\ y.1 = x.1
 tk : s.tk <= s'.tk
 fu : s.tk <= F -> s'.tk <= F
 lg : ∃ l, s'.lg = s.lg ++ l /\ LgOk s.ns.length l s'.ns.length /\ ((∀ a ∈ l, a.1 = 1) -> s'.g = s.g /\ s'.ns = s.ns)
 w : s'.lg.length + s'.cm + 4000 * s.tk <= s.lg.length + s.cm + n + 4000 * s'.tk
theorem Gr.refl (s : St) : Gr F 0 s s := ⟨fun _ x h => ⟨x, h, rfl⟩, Nat.le_refl _, fun h => h, ⟨[], by simp, .nil _, fun _ => ⟨rfl, rfl⟩⟩, by omega⟩
theorem Gr.trans {n m : Nat} {a b c : St} (h : Gr F n a b) (k : Gr F m b c) : Gr F (n + m) a c := ⟨fun i x hx => by
 obtain ⟨y, h1, h2⟩ := h.ty i x hx
 obtain ⟨z, h3, h4⟩ := k.ty i y h1
 exact ⟨z, h3, h4.trans h2⟩, Nat.le_trans h.tk k.tk, fun e => k.fu (h.fu e), by
 obtain ⟨l, e1, e2, e3⟩ := h.lg
 obtain ⟨l', e1', e2', e3'⟩ := k.lg
 refine ⟨l ++ l', by rw [e1', e1, List.append_assoc], e2.app e2', fun ha => ?_⟩
 obtain ⟨q1, q2⟩ := e3 fun a m => ha a (List.mem_append_left _ m)
 obtain ⟨q3, q4⟩ := e3' fun a m => ha a (List.mem_append_right _ m)
 exact ⟨q3.trans q1, q4.trans q2⟩, by have := h.w; have := k.w; omega⟩
theorem Gr.le {n m : Nat} {a b : St} (h : Gr F n a b) (hn : n <= m) : Gr F m a b := ⟨h.ty, h.tk, h.fu, h.lg, by have := h.w; omega⟩
theorem Gr.len {n : Nat} {a b : St} (h : Gr F n a b) : a.ns.length <= b.ns.length := by
 cases hk : a.ns.length with
 | zero => omega
 | succ k =>
  obtain ⟨y, hy, -⟩ := h.ty k _ (List.getElem?_eq_getElem (by omega))
  have := (List.getElem?_eq_some_iff.1 hy).1
  omega
theorem qGz {s : St} {i : Nat} : s.mm.nodes[i]? = (s.ns[i]?).map fun n => ⟨n.1, qBZ, n.2⟩ := List.getElem?_map ..
theorem mm_len {s : St} : s.mm.nodes.length = s.ns.length := List.length_map ..
theorem qEZ {m m' : Mm} (hl : m.nodes.length <= m'.nodes.length) (hn : ∀ (i : Nat) x, m.nodes[i]? = some x -> ∃ y, m'.nodes[i]? = some y /\ y.ty = x.ty) {t : ByteArray} {v : Int} (h : qAp d m t v = true) : qAp d m' t v = true := by
 unfold qAp at h ⊢
 split
 ·rename_i h1; rw [if_pos h1] at h; exact h
 rename_i h1
 rw [if_neg h1] at h
 split
 ·rename_i h2; rw [if_pos h2] at h; exact h
 rename_i h2
 rw [if_neg h2, decide_eq_true_eq] at h
 refine decide_eq_true ?_
 rcases h with h | ⟨p1, p2, p3⟩
 ·exact .inl h
 ·refine .inr ⟨p1, by omega, ?_⟩
  cases hx : m.nodes[(v - 1).toNat]? with
  | none => rw [hx] at p3; cases p3
  | some x =>
   rw [hx] at p3
   obtain ⟨y, e1, e2⟩ := hn _ _ hx
   rw [e1]
   simpa [e2] using p3
theorem Gr.right {n : Nat} {a b : St} (h : Gr F n a b) {t : ByteArray} {v : Int} (hr : qAp d a.mm t v = true) : qAp d b.mm t v = true := by
 refine qEZ (m := a.mm) (by rw [mm_len, mm_len]; exact h.len) (fun i x hx => ?_) hr
 rw [qGz] at hx
 cases hy : a.ns[i]? with
 | none => rw [hy] at hx; cases hx
 | some y =>
  rw [hy] at hx; cases hx
  obtain ⟨z, e1, e2⟩ := h.ty i y hy
  exact ⟨⟨z.1, qBZ, z.2⟩, by rw [qGz, e1]; rfl, e2⟩
theorem Gr.val {n : Nat} {a b : St} (h : Gr F n a b) {t : ByteArray} {v : Int} (hr : qBt d a.mm t v) : qBt d b.mm t v := by
 unfold qBt at hr ⊢
 split
 ·rename_i h1; rw [if_pos h1] at hr; exact hr
 ·rename_i h1; rw [if_neg h1] at hr; exact h.right hr
theorem qAC {m : Mm} {l : List Fld} {vs : List Int} : qAg d m l vs = true ↔ l.length = vs.length /\ ∀ (j : Nat) f v, l[j]? = some f -> vs[j]? = some v -> qAp d m f.ty v = true := by
 unfold qAg
 rw [Bool.and_eq_true, decide_eq_true_eq, qDT]
 refine ⟨fun ⟨h1, h2⟩ => ⟨h1, fun j f v hf hv => ?_⟩, fun ⟨h1, h2⟩ => ⟨h1, fun j v hv => ?_⟩⟩
 ·have := h2 j v hv
  unfold tyAt at this
  rw [hf] at this; exact this
 ·have hl := (List.getElem?_eq_some_iff.1 hv).1
  have hf : l[j]? = some (l[j]'(by omega)) := List.getElem?_eq_getElem _
  unfold tyAt
  rw [hf]; exact h2 j _ v hf hv
theorem qAf {m m' : Mm} (hr : ∀ {t v}, qAp d m t v = true -> qAp d m' t v = true) {l : List Fld} {vs : List Int} (h : qAg d m l vs = true) : qAg d m' l vs = true := by
 rw [qAC] at h ⊢
 exact ⟨h.1, fun j f v hf hv => hr (h.2 j f v hf hv)⟩
theorem qEU {m : Mm} {l : List Fld} {vs : List Int} (h : qAg d m l vs = true) {i : Nat} {f : Fld} (hf : l[i]? = some f) {v : Int} (hv : qAp d m f.ty v = true) : qAg d m l (vs.set i v) = true := by
 rw [qAC] at h ⊢
 refine ⟨by rw [List.length_set]; exact h.1, fun j g w hg hw => ?_⟩
 rw [List.getElem?_set] at hw
 split at hw
 ·rename_i e; subst e
  rw [hf] at hg; cases hg
  split at hw
  ·cases hw; exact hv
  ·cases hw
 ·exact h.2 j g w hg hw
theorem qGr (hv : qBc d = true) {m : Mm} {t : ByteArray} (h : qBv d t = true) : qAp d m t 0 = true := by
 unfold qBv at h
 simp only [Bool.or_eq_true, decide_eq_true_eq] at h
 rcases h with (rfl | rfl) | h
 ·unfold qAp; rw [if_pos rfl]; exact decide_eq_true ⟨by omega, by omega⟩
 ·unfold qAp; rw [if_neg qEW.2.2.2.2.2, if_pos rfl]; exact decide_eq_true (.inl rfl)
 ·exact qHy (qDt hv h)
theorem qEh (hv : qBc d = true) {m : Mm} {l : List Fld} (h : ∀ f ∈ l, qBv d f.ty = true) : qAg d m l (List.replicate l.length 0) = true := by
 rw [qAC]
 refine ⟨by simp, fun j f v hf hj => ?_⟩
 rw [List.getElem?_replicate] at hj
 split at hj
 ·cases hj; exact qGr hv (h f (List.mem_of_getElem? hf))
 ·cases hj
theorem qDG {m : Mm} {l l' : List Fld} {vs vs' : List Int} (h : qAg d m l vs = true) (h' : qAg d m l' vs' = true) : qAg d m (l ++ l') (vs ++ vs') = true := by
 rw [qAC] at h h' ⊢
 refine ⟨by rw [List.length_append, List.length_append, h.1, h'.1], fun j f v hf hv => ?_⟩
 by_cases hj : j < l.length
 ·rw [List.getElem?_append_left hj] at hf
  rw [List.getElem?_append_left (by omega)] at hv
  exact h.2 j f v hf hv
 ·rw [List.getElem?_append_right (by omega)] at hf
  rw [List.getElem?_append_right (by omega), <- h.1] at hv
  exact h'.2 _ f v hf hv
theorem qEy {m : Mm} (h1 : hasT d = true) (h2 : m.nodes.length <= 4096) (h3 : ∀ n ∈ m.nodes, qDu d n = true) (h4 : qAg d m d.globals m.globals = true) (h5 : ∀ n ∈ m.nodes, qAg d m (qAF d n.ty) n.f = true) : qCb d m = true := by
 unfold qCb
 rw [h1, decide_eq_true h2, List.all_eq_true.2 h3, h4, List.all_eq_true.2 h5]; rfl
structure RxP {α : Type} (d : Ds) (F n : Nat) (s : St) (r : Rx α) (Q : α -> St -> Prop) : Prop where
 good : qAD d r.st.mm
 gr : Gr F n s r.st
 q : ∀ v s', r = .ok v s' -> Q v s'
section
variable {α β : Type} {n m : Nat} {s : St} {r : Rx α} {Q : α -> St -> Prop}
theorem RxP.ok {v : α} (G : qAD d s.mm) (h : Q v s) : RxP d F 0 s (.ok v s) Q := ⟨G, Gr.refl s, fun _ _ e => by cases e; exact h⟩
theorem RxP.bad {c : Int} (G : qAD d s.mm) : RxP d F 0 s (.bad c s : Rx α) Q := ⟨G, Gr.refl s, fun _ _ e => by cases e⟩
theorem RxP.le (h : RxP d F n s r Q) (hn : n <= m) : RxP d F m s r Q := ⟨h.good, h.gr.le hn, h.q⟩
theorem RxP.mono {Q' : α -> St -> Prop} (h : RxP d F n s r Q) (k : ∀ v s', r = .ok v s' -> Q v s' -> Q' v s') : RxP d F n s r Q' := ⟨h.good, h.gr, fun v s' e => k v s' e (h.q v s' e)⟩
theorem RxP.bind {f : α -> St -> Rx β} {Q' : β -> St -> Prop} (h : RxP d F n s r Q) (k : ∀ v s', r = .ok v s' -> Q v s' -> qAD d s'.mm -> Gr F n s s' -> RxP d F m s' (f v s') Q') : RxP d F (n + m) s (r.bind f) Q' := by
 cases r with
 | ok v s' =>
  have H := k v s' rfl (h.q v s' rfl) h.good h.gr
  exact ⟨H.good, h.gr.trans H.gr, H.q⟩
 | bad c s' => exact ⟨h.good, h.gr.le (by omega), fun _ _ e => by cases e⟩
end
section
variable {s : St} (G : qAD d s.mm)
include G
omit G in
theorem qIo {n : Nat} {r : Rs} {s' : St} (G' : qAD d s'.mm) (g : Gr F n s s') {Q : Int -> St -> Prop} (h : ∀ v, r = .ok v -> Q v s') : RxP d F n s (qHi r s') Q := by
 cases r with
 | ok v => exact ⟨G', g, fun _ _ e => by cases e; exact h v rfl⟩
 | bad c => exact ⟨G', g, fun _ _ e => by cases e⟩
theorem qGb {p : Pr} {vals : List Int} (hv : qAg d s.mm p.vars vals = true) (P : ∀ f ∈ p.vars, qBv d f.ty = true) {nm t : ByteArray} (hl : qCa (qAh d p).vars nm = t) (hne : t ≠ sE) :
  (∃ (i : Nat) (f : Fld) (v : Int), qER p.vars nm = i /\ p.vars[i]? = some f /\ vals[i]? = some v /\ f.ty = t /\ qBt d s.mm t v /\ varX d p vals nm s = .ok v s) ∨
  ∃ (i : Nat) (f : Fld) (v : Int), qER p.vars nm = -1 /\ qER d.globals nm = i /\ d.globals[i]? = some f /\ s.g[i]? = some v /\ f.ty = t /\ qBt d s.mm t v /\ varX d p vals nm s = .ok v (s.note (1, 0, i)) := by
 obtain ⟨p1, -, -, p4, -⟩ := qAt G.mem
 have hl : qCa (p.vars ++ d.globals) nm = t := hl
 have app : ∀ (a b : List Fld), qCa (a ++ b) nm = if 0 <= qER a nm then qCa a nm else qCa b nm := fun a b => by
  rw [qCO, qCO, qCO, List.find?_append]
  unfold qER
  rcases qBk (fun f : Fld => decide (f.name = nm)) a with ⟨h1, h2, -⟩ | ⟨i, x, h1, -, h3, -⟩
  ·rw [h1, h2, if_neg (by decide)]; rfl
  ·rw [h1, h3, if_pos (by omega)]; rfl
 rw [app] at hl
 by_cases h0 : 0 <= qER p.vars nm
 ·left
  rw [if_pos h0] at hl
  rcases qDv p.vars nm with ⟨c1, -⟩ | ⟨i, f, c1, c2, c3, -⟩
  ·exact absurd (hl.symm.trans c1) hne
  ·obtain ⟨v, hv1, hv2⟩ := qGc hv c2
   have e : f.ty = t := c3.symm.trans hl
   refine ⟨i, f, v, c1, c2, hv1, e, ?_, ?_⟩
   ·rw [<- e]; exact (qAY G.valid (P f (List.mem_of_getElem? c2))).2 hv2
   ·unfold varX; rw [if_pos h0, c1, Int.toNat_natCast, hv1]; rfl
 ·right
  rw [if_neg h0] at hl
  rcases qDv d.globals nm with ⟨c1, -⟩ | ⟨i, f, c1, c2, c3, -⟩
  ·exact absurd (hl.symm.trans c1) hne
  ·obtain ⟨v, hv1, hv2⟩ := qGc p4 c2
   have e : f.ty = t := c3.symm.trans hl
   have hkn : qBv d f.ty = true := List.all_eq_true.1 (qBl p1).1 f (List.mem_of_getElem? c2)
   refine ⟨i, f, v, ?_, c1, c2, hv1, e, ?_, ?_⟩
   ·rcases qDv p.vars nm with ⟨-, c⟩ | ⟨j, _, c, -⟩
    ·exact c
    ·rw [c] at h0; omega
   ·rw [<- e]; exact (qAY G.valid hkn).2 hv2
   ·unfold varX; rw [if_neg h0, c1, Int.toNat_natCast]
    have hv1 : s.g[i]? = some v := hv1
    rw [hv1]; rfl
theorem qFO {t nm ty : ByteArray} (ht : qCs d t nm = (ty, 0)) {a : Int} (ha : qBt d s.mm t a) (h0 : a ≠ 0) :
  ∃ (q i j : Nat) (tt : Ty) (f : Fld) (fs : List Int) (v : Int), a = (q : Int) + 1 /\ s.ns[q]? = some ((j : Int), fs) /\ d.types[j]? = some tt /\ tt ∈ d.types /\ qAF d j = tt.fields /\ qER tt.fields nm = i /\ tt.fields[i]? = some f /\ fs[i]? = some v /\ qBt d s.mm ty v /\ f.ty = ty /\ qBv d ty = true := by
 obtain ⟨n, i, j, tt, f, v, b1, -, b3, b4, b5, b6, b7, b8, b9, b10, b11, -, b13⟩ := fld_ok G ht ha h0
 obtain ⟨q, rfl⟩ : ∃ q : Nat, a = (q : Int) + 1 := ⟨(a - 1).toNat, by omega⟩
 rw [show ((q : Int) + 1 - 1).toNat = q by omega, qGz] at b1
 cases hx : s.ns[q]? with
 | none => rw [hx] at b1; cases b1
 | some x =>
  rw [hx] at b1; cases b1
  obtain ⟨p1, -⟩ := qAt G.mem
  have hkn : qBv d f.ty = true := List.all_eq_true.1 ((qBl p1).2.2 tt b7) f (List.mem_of_getElem? b9)
  exact ⟨q, i, j, tt, f, x.2, v, rfl, by rw [hx, <- b5], b6, b7, qBM b6 rfl, b8, b9, b10, b11, b13, b13 ▸ hkn⟩
omit G in
theorem gr_note {a f : Int} (h0 : 0 <= a) (h1 : a <= (s.ns.length : Int)) (h2 : 0 <= f) : Gr F 1 s (s.note (1, a, f)) := ⟨fun _ x h => ⟨x, h, rfl⟩, Nat.le_refl _, fun h => h, ⟨[(1, a, f)], rfl, .acc (.inl rfl) h0 h1 h2 (.nil _), fun _ => ⟨rfl, rfl⟩⟩, by show (s.lg ++ [_]).length + _ + _ <= _; rw [List.length_append, List.length_singleton]; show s.lg.length + 1 + s.cm + 4000 * s.tk <= s.lg.length + s.cm + 1 + 4000 * s.tk; omega⟩
omit G in
theorem gr_cnt {b : Bool} {op : Int} : Gr F 1 s (cntX b op s) := by
 unfold cntX
 split
 ·exact ⟨fun _ x h => ⟨x, h, rfl⟩, Nat.le_refl _, fun h => h, ⟨[], by simp, .nil _, fun _ => ⟨rfl, rfl⟩⟩, by show s.lg.length + (s.cm + 1) + 4000 * s.tk <= s.lg.length + s.cm + 1 + 4000 * s.tk; omega⟩
 ·exact (Gr.refl s).le (by omega)
theorem qIs {b : Bool} {op : Int} : qAD d (cntX b op s).mm := by
 unfold cntX
 split
 ·exact ⟨G.valid, G.chk, G.mem⟩
 ·exact G
theorem new_snd {nm : ByteArray} (hn : qBh d nm = true) : RxP d F 1 s (newX d nm s) fun v s' => qBt d s'.mm nm v := by
 unfold newX
 split
 ·exact (RxP.bad G).le (by omega)
 rename_i hlen
 obtain ⟨p1, p2, p3, p4, p5⟩ := qAt G.mem
 have hname := qDt G.valid hn
 obtain ⟨tt, htm, hte⟩ := List.any_eq_true.1 hn
 have hte : tt.name = nm := of_decide_eq_true hte
 obtain ⟨j, hj⟩ := List.mem_iff_getElem?.1 htm
 have hidx : qDj d nm = (j : Int) := hte ▸ (qBl p1).2.1 j tt hj
 have hjl := (List.getElem?_eq_some_iff.1 hj).1
 rw [hidx]
 have hfo : qAF d (j : Int) = tt.fields := qBM hj rfl
 rw [hfo]
 obtain ⟨s', hs'⟩ : ∃ s' : St, s' = { s with ns := s.ns ++ [((j : Int), List.replicate tt.fields.length 0)], lg := s.lg ++ [(3, (s.ns.length : Int) + 1, (j : Int))] } := ⟨_, rfl⟩
 rw [<- hs']
 have g : Gr F 1 s s' := by
  rw [hs']
  refine ⟨fun i x hx => ⟨x, ?_, rfl⟩, Nat.le_refl _, fun h => h, ⟨[_], rfl, .alloc (by omega) ?_, fun h => (by have := h _ (List.mem_singleton.2 rfl); simp at this)⟩, ?_⟩
  ·rw [List.getElem?_append_left (List.getElem?_eq_some_iff.1 hx).1]; exact hx
  ·show LgOk (s.ns.length + 1) [] (s.ns ++ [_]).length
   rw [List.length_append, List.length_singleton]; exact .nil _
  ·show (s.lg ++ [_]).length + _ + _ <= _
   rw [List.length_append, List.length_singleton]
   show s.lg.length + 1 + s.cm + 4000 * s.tk <= s.lg.length + s.cm + 1 + 4000 * s.tk
   omega
 have hnodes : s'.mm.nodes = s.mm.nodes ++ [⟨(j : Int), qBZ, List.replicate tt.fields.length 0⟩] := by rw [hs']; simp [St.mm]
 have G' : qAD d s'.mm := by
  refine ⟨G.valid, G.chk, qEy p1 ?_ (fun n hm => ?_) ?_ fun n hm => ?_⟩
  ·rw [hnodes, List.length_append, List.length_singleton, mm_len]; omega
  ·rw [hnodes] at hm
   rcases List.mem_append.1 hm with hm | hm
   ·exact p3 n hm
   ·rw [List.mem_singleton.1 hm]; exact decide_eq_true ⟨by show (0 : Int) <= (j : Int); omega, by show (j : Int) < _; omega⟩
  ·have : s'.mm.globals = s.mm.globals := by rw [hs']; rfl
   rw [this]; exact qAf (fun h => g.right h) p4
  ·rw [hnodes] at hm
   rcases List.mem_append.1 hm with hm | hm
   ·exact qAf (fun h => g.right h) (p5 n hm)
   ·rw [List.mem_singleton.1 hm]
    show qAg d s'.mm (qAF d (j : Int)) (List.replicate tt.fields.length 0) = true
    rw [hfo]
    exact qEh G.valid fun f hf => List.all_eq_true.1 ((qBl p1).2.2 tt htm) f hf
 refine ⟨G', g, fun v s2 e => ?_⟩
 cases e
 unfold qBt qAp
 rw [if_neg (qCF hname kwNil), if_neg (qCF hname kwInt), if_neg (qCF hname kwBool), decide_eq_true_eq]
 refine .inr ⟨by omega, by rw [hnodes, List.length_append, List.length_singleton, mm_len]; omega, ?_⟩
 rw [hnodes, show ((s.ns.length : Int) + 1 - 1).toNat = s.mm.nodes.length by rw [mm_len]; omega, List.getElem?_concat_length, hidx]; rfl
end
def CSnd (d : Ds) (F : Nat) (C : Cf) : Prop := ∀ (i : Nat) pr args s, d.procs[i]? = some pr -> qAD d s.mm -> qAg d s.mm pr.params args = true -> RxP d F 0 s (C i args s) fun v s' => pr.result ≠ sE -> qBt d s'.mm pr.result v
theorem szEs_sum : ∀ l : List E, szEs l = (l.map szE).sum
 | [] => by unfold szEs; rfl
 | e :: l => by unfold szEs; rw [szEs_sum l]; rfl
theorem szE_eq (e : E) : szE e = 1 + (e.k.map szE).sum := by cases e; unfold szE; rw [szEs_sum]; rfl
theorem seq_snd {sc : Sc} {f : E -> St -> Rx Int} : ∀ (k : List E) (fs : List Fld) (acc : List Int) (gs : List Fld) (s : St), qAD d s.mm -> qAg d s.mm gs acc = true -> k.length = fs.length -> (∀ f ∈ fs, qBv d f.ty = true) ->
  (∀ (j : Nat) a g, k[j]? = some a -> fs[j]? = some g -> ∃ u, qAl d sc a = (u, 0) /\ qDB d u g.ty = true) ->
  (∀ a ∈ k, ∀ (u : ByteArray) (s1 : St) (n : Nat), qAl d sc a = (u, 0) -> qAD d s1.mm -> Gr F n s s1 -> RxP d F (szE a) s1 (f a s1) fun v s' => qBt d s'.mm u v) ->
  RxP d F (k.map szE).sum s (seqX (k.map f) acc s) fun l s' => qAg d s'.mm (gs ++ fs) l = true
 | [], fs, acc, gs, s, G, ha, hl, _, _, _ => by
  obtain rfl : fs = [] := List.eq_nil_of_length_eq_zero (by simpa using hl.symm)
  rw [List.append_nil]
  exact RxP.ok G ha
 | a :: k, fs, acc, gs, s, G, ha, hl, hkn, ht, H => by
  cases fs with
  | nil => simp at hl
  | cons g fs =>
   obtain ⟨u, hu, hfit⟩ := ht 0 a g rfl rfl
   have h1 := H a List.mem_cons_self u s 0 hu G (Gr.refl s)
   rw [List.map_cons, List.map_cons, List.sum_cons]
   show RxP d F _ s ((f a s).bind fun v st => seqX (k.map f) (acc ++ [v]) st) _
   refine h1.bind fun v s1 _ hv G1 g1 => ?_
   have hv' := (qAY G.valid (hkn g List.mem_cons_self)).1 (qBI G.valid hfit hv)
   have ha1 : qAg d s1.mm (gs ++ [g]) (acc ++ [v]) = true := qDG (qAf (fun h => g1.right h) ha) (qAC.2 ⟨rfl, fun j f w hf hw => by
    cases j with
    | zero => simp at hf hw; subst hf; subst hw; exact hv'
    | succ j => simp at hf⟩)
   have := seq_snd k fs (acc ++ [v]) (gs ++ [g]) s1 G1 ha1 (by simpa using hl) (fun f hf => hkn f (List.mem_cons_of_mem _ hf)) (fun j a g ha hg => ht (j + 1) a g (by simpa using ha) (by simpa using hg)) (fun b hb u s2 n hu G2 g2 => H b (List.mem_cons_of_mem _ hb) u s2 _ hu G2 (g1.trans g2))
   rwa [List.append_assoc, List.singleton_append] at this
theorem qDp (hp : ∀ p ∈ d.procs, qCw d p) {i : Nat} {pr : Pr} (h : d.procs[i]? = some pr) : ∀ f ∈ pr.params, qBv d f.ty = true := fun f hf => (hp pr (List.mem_of_getElem? h)).vars f (List.mem_append_left _ hf)
theorem ev_snd (hp : ∀ p ∈ d.procs, qCw d p) {C : Cf} (hC : CSnd d F C) {p : Pr} (hpo : qCw d p) {vals : List Int} :
  ∀ (e : E) (t : ByteArray) (s : St), VE e -> qAl d (qAh d p) e = (t, 0) -> qAD d s.mm -> qAg d s.mm p.vars vals = true -> RxP d F (szE e) s (evX d C p vals e s) fun v s' => qBt d s'.mm t v := by
 intro e
 induction e using E.ind with
 | h e ih =>
 intro t s hv ht G hvals
 rw [qGS, szE_eq]
 have I : ∀ {a : E} {u : ByteArray} {s1 : St} {n : Nat}, a ∈ e.k -> qAl d (qAh d p) a = (u, 0) -> qAD d s1.mm -> Gr F n s s1 -> RxP d F (szE a) s1 (evX d C p vals a s1) fun v s' => qBt d s'.mm u v := fun hm ha G1 g1 => ih _ hm _ _ (hv.kids _ hm) ha G1 (qAf (fun h => g1.right h) hvals)
 have K : ∀ {i : Nat} {a : E}, e.k[i]? = some a -> qDx (e.k.map (evX d C p vals)) i = evX d C p vals a := fun h => kidX_at h
 have b0 : ∀ {v : Int}, v = 0 ∨ v = 1 -> qBt d s.mm qAr v := fun h => qAJ.2 h
 cases kindX (sc := qAh d p) rfl hv ht with
 | int h hn => rw [cX1 (.inl h)]; exact (RxP.ok G (qBi.2 (by omega))).le (by omega)
 | bool h hn => rw [cX1 (.inr h)]; exact (RxP.ok G (qAJ.2 (by omega))).le (by omega)
 | nil h hn => rw [cX3 h]; exact (RxP.ok G (by unfold qBt; rw [if_pos rfl])).le (by omega)
 | var h hl hne =>
  rw [cX4 h]
  rcases qGb G hvals hpo.vars hl hne with ⟨i, f, v, -, -, -, -, h5, h6⟩ | ⟨i, f, v, -, -, -, -, -, h5, h6⟩
  ·rw [h6]; exact (RxP.ok G h5).le (by omega)
  ·rw [h6]; exact ⟨⟨G.valid, G.chk, G.mem⟩, (gr_note (by omega) (by omega) (by omega)).le (by omega), fun _ _ e => by cases e; exact h5⟩
 | @fld _ u a h hk ha hf =>
  rw [cX5 h, K (i := 0) (by rw [hk]; rfl), hk]
  refine ((I (by rw [hk]; simp) ha G (Gr.refl s)).bind (m := 1) fun v s1 _ hv1 G1 g1 => ?_).le (by simp <;> omega)
  unfold fldX
  by_cases h0 : v = 0
  ·rw [if_pos h0]; exact (RxP.bad G1).le (by omega)
  ·rw [if_neg h0]
   obtain ⟨q, i, j, tt, f, fs, w, rfl, h2, h3, -, h5, h6, h7, h8, h9, -⟩ := qFO G1 hf hv1 h0
   rw [show ((q : Int) + 1 - 1).toNat = q by omega, h2]
   simp only
   rw [h5, h6, Int.toNat_natCast, h8]
   exact ⟨⟨G1.valid, G1.chk, G1.mem⟩, gr_note (by omega) (by have := (List.getElem?_eq_some_iff.1 h2).1; omega) (by omega), fun _ _ e => by cases e; exact h9⟩
 | new h hn => rw [cX6 h]; exact (new_snd G hn).le (by omega)
 | @call pr i h hc hr =>
  rw [cX7 h, hc.idx]
  refine ((seq_snd e.k pr.params [] [] s G (qAC.2 ⟨rfl, fun j f v h => by simp at h⟩) hc.len (qDp hp hc.at_) hc.fit (fun a hm u s1 n hu G1 g1 => I hm hu G1 g1)).bind (m := 0) fun l s1 _ hl G1 g1 => ?_).le (by omega)
  exact (hC i pr l s1 hc.at_ G1 hl).mono fun v s' _ h => h hr
 | @neg a h hk ha =>
  rw [cX8 h, K (i := 0) (by rw [hk]; rfl), hk]
  refine ((I (by rw [hk]; simp) ha G (Gr.refl s)).bind (m := 0) fun v s1 _ hv1 G1 g1 => qIo G1 (Gr.refl s1) fun w hw => qBi.2 (big_ok hw).2).le (by simp <;> omega)
 | @not a h hk ha =>
  rw [cX18 h, K (i := 0) (by rw [hk]; rfl), hk]
  refine ((I (by rw [hk]; simp) ha G (Gr.refl s)).bind (m := 0) fun v s1 _ hv1 G1 g1 => RxP.ok G1 ?_).le (by simp <;> omega)
  have := qAJ.1 hv1
  exact qAJ.2 (by omega)
 | @log a h hk ha =>
  rw [cX24 h, K (i := 0) (by rw [hk]; rfl), hk]
  refine ((I (by rw [hk]; simp) ha G (Gr.refl s)).bind (m := 0) fun v s1 _ hv1 G1 g1 => RxP.ok G1 ?_).le (by simp <;> omega)
  have := log_in (a := v) (qBi.1 hv1).2
  exact qBi.2 (by omega)
 | @and a b h hk ha hb =>
  rw [cX19 h, K (i := 0) (by rw [hk]; rfl), K (i := 1) (by rw [hk]; rfl)]
  refine ((I (by rw [hk]; simp) ha G (Gr.refl s)).bind (m := szE b) fun v s1 _ hv1 G1 g1 => ?_).le (by rw [hk]; simp <;> omega)
  split
  ·exact (RxP.ok G1 (qAJ.2 (.inl rfl))).le (by omega)
  ·exact I (by rw [hk]; simp) hb G1 g1
 | @or a b h hk ha hb =>
  rw [cX20 h, K (i := 0) (by rw [hk]; rfl), K (i := 1) (by rw [hk]; rfl)]
  refine ((I (by rw [hk]; simp) ha G (Gr.refl s)).bind (m := szE b) fun v s1 _ hv1 G1 g1 => ?_).le (by rw [hk]; simp <;> omega)
  split
  ·exact I (by rw [hk]; simp) hb G1 g1
  ·exact (RxP.ok G1 (qAJ.2 (.inr rfl))).le (by omega)
 | @cond a b c _ u w h hk ha hb hc hu hw _ =>
  rw [cX21 h, K (i := 0) (by rw [hk]; rfl), K (i := 1) (by rw [hk]; rfl), K (i := 2) (by rw [hk]; rfl)]
  refine ((I (by rw [hk]; simp) ha G (Gr.refl s)).bind (m := szE b + szE c) fun v s1 _ hv1 G1 g1 => ?_).le (by rw [hk]; simp <;> omega)
  split
  ·exact ((I (by rw [hk]; simp) hc G1 g1).mono fun v s' _ h => by
    rcases hw with rfl | hw
    ·exact h
    ·exact qBI G.valid hw h).le (by omega)
  ·exact ((I (by rw [hk]; simp) hb G1 g1).mono fun v s' _ h => by
    rcases hu with rfl | hu
    ·exact h
    ·exact qBI G.valid hu h).le (by omega)
 | @eq a b u w h hk ha hb _ =>
  rw [cXTwo (by omega), K (i := 0) (by rw [hk]; rfl), K (i := 1) (by rw [hk]; rfl)]
  refine ((I (by rw [hk]; simp) ha G (Gr.refl s)).bind (m := szE b + 1) fun v s1 _ hv1 G1 g1 => (I (by rw [hk]; simp) hb G1 g1).bind (m := 1) fun z s2 _ hv2 G2 g2 => qIo (qIs G2) gr_cnt fun x hx => qAJ.2 (twoB_ok (by omega) hx)).le (by rw [hk]; simp <;> omega)
 | @cmp a b h hk ha hb =>
  rw [cXTwo (by omega), K (i := 0) (by rw [hk]; rfl), K (i := 1) (by rw [hk]; rfl)]
  refine ((I (by rw [hk]; simp) ha G (Gr.refl s)).bind (m := szE b + 1) fun v s1 _ hv1 G1 g1 => (I (by rw [hk]; simp) hb G1 g1).bind (m := 1) fun z s2 _ hv2 G2 g2 => qIo (qIs G2) gr_cnt fun x hx => qAJ.2 (twoB_ok (by omega) hx)).le (by rw [hk]; simp <;> omega)
 | @ari a b h hk ha hb =>
  rw [cXTwo (by omega), K (i := 0) (by rw [hk]; rfl), K (i := 1) (by rw [hk]; rfl)]
  refine ((I (by rw [hk]; simp) ha G (Gr.refl s)).bind (m := szE b + 1) fun v s1 _ hv1 G1 g1 => (I (by rw [hk]; simp) hb G1 g1).bind (m := 1) fun z s2 _ hv2 G2 g2 => qIo (qIs G2) gr_cnt fun x hx => qBi.2 (two_ok h (qBi.1 hv1) (qBi.1 hv2) hx)).le (by rw [hk]; simp <;> omega)
end
end Go.Proofs
namespace Go.Proofs
open Go Go.Sx
section
variable {d : Ds} {F : Nat}
theorem qBH {e : E} (h : qAN e = true) : VE e /\ szE e <= 1000 := ⟨VE.of_valid h, (of_decide_eq_true h).2⟩
def RtOk (d : Ds) (p : Pr) (r : Rt) (s : St) : Prop := qAg d s.mm p.vars r.1 = true /\ ∀ v, r.2 = some v -> p.result ≠ sE -> qBt d s.mm p.result v
def SSnd (d : Ds) (F : Nat) (Sn : Sf) : Prop := ∀ c p l vals s, qCw d p -> (∀ x ∈ l, TyS d p x) -> qAD d s.mm -> qAg d s.mm p.vars vals = true -> RxP d F 0 s (Sn c p l vals s) fun r s' => RtOk d p r s'
theorem qDR (hp : ∀ p ∈ d.procs, qCw d p) {Sn : Sf} (hS : SSnd d F Sn) (c : Nat) : CSnd d F (qCJ d Sn c) := by
 intro i pr args s hpr G ha
 unfold qCJ
 split
 ·exact RxP.bad G
 rw [Int.toNat_natCast, hpr]
 simp only
 have hpo := hp pr (List.mem_of_getElem? hpr)
 refine (hS (c + 1) pr pr.body _ s hpo hpo.body G (qDG ha (qEh G.valid fun f hf => hpo.vars f (List.mem_append_right _ hf)))).bind (m := 0) fun r s1 _ hr G1 g1 => RxP.ok G1 fun hne => ?_
 cases h : r.2 with
 | some v => exact hr.2 v h hne
 | none =>
  have hk := hpo.res.resolve_left hne
  exact (qAY G.valid hk).2 (qGr G.valid hk)
theorem Gr.tick {n : Nat} {s s' : St} (h : Gr F n { s with tk := s.tk + 1 } s') (hn : n <= 4000) (hF : s.tk < F) : Gr F 0 s s' :=
 ⟨h.ty, Nat.le_trans (Nat.le_succ _) h.tk, fun _ => h.fu hF, h.lg, by have h := h.w; have h : s'.lg.length + s'.cm + 4000 * (s.tk + 1) <= s.lg.length + s.cm + n + 4000 * s'.tk := h; omega⟩
theorem RxP.tick {α : Type} {n : Nat} {s : St} {f : Unit -> St -> Rx α} {Q : α -> St -> Prop} (G : qAD d s.mm) (h : qAD d ({ s with tk := s.tk + 1 } : St).mm -> RxP d F n { s with tk := s.tk + 1 } (f () { s with tk := s.tk + 1 }) Q) (hn : n <= 4000) : RxP d F 0 s ((qDl F s).bind f) Q := by
 unfold qDl
 split
 ·exact RxP.bad G
 ·rename_i hlt
  have H := h ⟨G.valid, G.chk, G.mem⟩
  exact ⟨H.good, H.gr.tick hn (by omega), H.q⟩
section
variable {Sn : Sf} {c : Nat} {p : Pr} (hp : ∀ p ∈ d.procs, qCw d p) (hS : SSnd d F Sn) (hpo : qCw d p)
include hp hS hpo
theorem qEr {vals : List Int} {e : E} {t : ByteArray} {s : St} (hv : qAN e = true) (ht : qAl d (qAh d p) e = (t, 0)) (G : qAD d s.mm) (hvals : qAg d s.mm p.vars vals = true) : RxP d F 1000 s (evS d Sn c p vals e s) fun v s' => qBt d s'.mm t v :=
 (ev_snd hp (qDR hp hS c) hpo e t s (qBH hv).1 ht G hvals).le (qBH hv).2
theorem wh_snd {cond : E} {body : List S} (hv : qAN cond = true) (ht : qAl d (qAh d p) cond = (qAr, 0)) (hb : ∀ x ∈ body, TyS d p x) : ∀ (n : Nat) (vals : List Int) (s : St), qAD d s.mm -> qAg d s.mm p.vars vals = true -> RxP d F 1000 s (whX d F Sn c p cond body n vals s) fun r s' => RtOk d p r s'
 | 0, vals, s, G, _ => by unfold whX; exact (RxP.bad G).le (by omega)
 | n + 1, vals, s, G, hvals => by
  rw [whX]
  refine ((qEr hp hS hpo hv ht G hvals).bind (m := 0) fun v s1 _ _ G1 g1 => ?_).le (by omega)
  have v1 := qAf (fun h => g1.right h) hvals
  split
  ·exact RxP.ok G1 ⟨v1, fun _ h => by cases h⟩
  ·refine ((hS c p body vals s1 hpo hb G1 v1).bind (m := 0) fun r s2 _ hr G2 g2 => ?_).le (by omega)
   split
   ·exact RxP.ok G2 hr
   ·exact RxP.tick (n := 1000) G2 (fun G3 => wh_snd hv ht hb n r.1 _ G3 hr.1) (by omega)
theorem body_snd {n : Nat} {x : S} (hx : TyS d p x) {vals : List Int} {s : St} (G : qAD d s.mm) (hvals : qAg d s.mm p.vars vals = true) : RxP d F 2001 s (qHn d F Sn c p n x vals s) fun r s' => RtOk d p r s' := by
 unfold qHn
 obtain ⟨p1, p2, p3, p4, p5⟩ := qAt G.mem
 cases kindS hx with
 | @set e u t h he hv ht hl hne hf =>
  rw [if_pos h, he, List.getD_cons_zero]
  refine ((qEr hp hS hpo hv ht G hvals).bind (m := 1) fun v s1 _ hv1 G1 g1 => ?_).le (by omega)
  have v1 := qAf (fun h => g1.right h) hvals
  have hv2 := qBI G.valid hf hv1
  unfold setX
  rcases qGb G1 v1 hpo.vars hl hne with ⟨i, f, w, q1, q2, q3, q4, -⟩ | ⟨i, f, w, q0, q1, q2, q3, q4, -⟩
  ·rw [if_pos (by omega), q1, Int.toNat_natCast]
   have hr : qAp d s1.mm f.ty v = true := (qAY G.valid (hpo.vars f (List.mem_of_getElem? q2))).1 (q4 ▸ hv2)
   exact (RxP.ok G1 ⟨qEU v1 q2 hr, fun _ h => by cases h⟩).le (by omega)
  ·rw [if_neg (by omega), q1, Int.toNat_natCast]
   obtain ⟨o1, o2, o3, o4, o5⟩ := qAt G1.mem
   have hr : qAp d s1.mm f.ty v = true := (qAY G.valid (List.all_eq_true.1 (qBl o1).1 f (List.mem_of_getElem? q2))).1 (q4 ▸ hv2)
   have G2 : qAD d ({ s1 with g := s1.g.set i v, lg := s1.lg ++ [(2, 0, (i : Int))] } : St).mm := ⟨G.valid, G.chk, qEy o1 o2 o3 (qEU (m := s1.mm) (vs := s1.g) o4 q2 hr) o5⟩
   exact ⟨G2, ⟨fun _ x h => ⟨x, h, rfl⟩, Nat.le_refl _, fun h => h, ⟨[_], rfl, .acc (.inr rfl) (by omega) (by omega) (by omega) (.nil _), fun h => (by have := h _ (List.mem_singleton.2 rfl); simp at this)⟩, by show (s1.lg ++ [_]).length + _ + _ <= _; rw [List.length_append, List.length_singleton]; show s1.lg.length + 1 + s1.cm + 4000 * s1.tk <= s1.lg.length + s1.cm + 1 + 4000 * s1.tk; omega⟩, fun _ _ e => by cases e; exact ⟨v1, fun _ h => by cases h⟩⟩
 | @put a e u w t h he hv hw ha ht hl hf =>
  rw [if_neg (by omega), if_pos h, he, List.getD_cons_zero, List.getD_cons_succ, List.getD_cons_zero]
  refine ((qEr hp hS hpo hv ha G hvals).bind (m := 1001) fun x1 s1 _ hv1 G1 g1 => ?_).le (by omega)
  have v1 := qAf (fun h => g1.right h) hvals
  refine ((qEr hp hS hpo hw ht G1 v1).bind (m := 1) fun x2 s2 _ hv2 G2 g2 => ?_).le (by omega)
  have v2 := qAf (fun h => g2.right h) v1
  have ha2 := g2.val hv1
  unfold putX
  by_cases h0 : x1 = 0
  ·rw [if_pos h0]; exact (RxP.bad G2).le (by omega)
  rw [if_neg h0]
  obtain ⟨q, i, j, tt, f, fs, y, rfl, e2, e3, e4, e5, e6, e7, e8, e9, e10, e11⟩ := qFO G2 hl ha2 h0
  rw [show ((q : Int) + 1 - 1).toNat = q by omega, e2]
  simp only
  rw [e5, e6, Int.toNat_natCast]
  obtain ⟨o1, o2, o3, o4, o5⟩ := qAt G2.mem
  have hr : qAp d s2.mm f.ty x2 = true := (qAY G.valid (e10 ▸ e11)).1 (e10 ▸ qBI G.valid hf hv2)
  have hql := (List.getElem?_eq_some_iff.1 e2).1
  obtain ⟨s3, hs3⟩ : ∃ s3 : St, s3 = { s2 with ns := s2.ns.set q ((j : Int), fs.set i x2), lg := s2.lg ++ [(2, (q : Int) + 1, (i : Int))] } := ⟨_, rfl⟩
  have g3 : Gr F 1 s2 s3 := by
   rw [hs3]
   refine ⟨fun k x hk => ?_, Nat.le_refl _, fun h => h, ⟨[_], rfl, .acc (.inr rfl) (by omega) (by omega) (by omega) ?_, fun h => (by have := h _ (List.mem_singleton.2 rfl); simp at this)⟩, ?_⟩
   ·by_cases hkq : q = k
    ·subst hkq
     rw [e2] at hk; cases hk
     exact ⟨_, List.getElem?_set_self hql, rfl⟩
    ·exact ⟨x, by show (s2.ns.set q _)[k]? = _; rw [List.getElem?_set_ne hkq]; exact hk, rfl⟩
   ·show LgOk s2.ns.length [] (s2.ns.set q _).length
    rw [List.length_set]; exact .nil _
   ·show (s2.lg ++ [_]).length + _ + _ <= _; rw [List.length_append, List.length_singleton]; show s2.lg.length + 1 + s2.cm + 4000 * s2.tk <= s2.lg.length + s2.cm + 1 + 4000 * s2.tk; omega
  have hn3 : s3.mm.nodes = s2.mm.nodes.set q ⟨(j : Int), qBZ, fs.set i x2⟩ := by rw [hs3]; simp [St.mm, List.map_set]
  have G3 : qAD d s3.mm := by
   refine ⟨G.valid, G.chk, qEy o1 ?_ (fun n hm => ?_) ?_ fun n hm => ?_⟩
   ·rw [hn3, List.length_set]; exact o2
   ·rw [hn3] at hm
    rcases List.mem_or_eq_of_mem_set hm with hm | rfl
    ·exact o3 n hm
    ·exact o3 (⟨(j : Int), qBZ, fs⟩) (List.mem_of_getElem? (i := q) (by rw [qGz, e2]; rfl))
   ·have : s3.mm.globals = s2.mm.globals := by rw [hs3]; rfl
    rw [this]; exact qAf (fun h => g3.right h) o4
   ·rw [hn3] at hm
    rcases List.mem_or_eq_of_mem_set hm with hm | rfl
    ·exact qAf (fun h => g3.right h) (o5 n hm)
    ·have := o5 (⟨(j : Int), qBZ, fs⟩) (List.mem_of_getElem? (i := q) (by rw [qGz, e2]; rfl))
     have this : qAg d s2.mm (qAF d (j : Int)) fs = true := this
     show qAg d s3.mm (qAF d (j : Int)) (fs.set i x2) = true
     rw [e5] at this ⊢
     exact qAf (fun h => g3.right h) (qEU this e7 hr)
  rw [<- hs3]
  exact ⟨G3, g3, fun _ _ e => by cases e; exact ⟨qAf (fun h => g3.right h) v2, fun _ h => by cases h⟩⟩
 | @cond e h he hv ht =>
  rw [if_neg (by omega), if_neg (by omega), if_pos h, he, List.getD_cons_zero]
  refine ((qEr hp hS hpo hv ht G hvals).bind (m := 0) fun v s1 _ hv1 G1 g1 => ?_).le (by omega)
  have v1 := qAf (fun h => g1.right h) hvals
  obtain ⟨-, -, -, hl, hx⟩ := hx.parts
  split
  ·exact hS c p _ vals s1 hpo hx G1 v1
  ·exact hS c p _ vals s1 hpo hl G1 v1
 | @loop e h he hv ht =>
  rw [if_neg (by omega), if_neg (by omega), if_neg (by omega), if_pos h, he, List.getD_cons_zero]
  exact (wh_snd hp hS hpo hv ht hx.parts.2.2.2.1 n vals s G hvals).le (by omega)
 | ret0 h he hr =>
  rw [if_neg (by omega), if_neg (by omega), if_neg (by omega), if_neg (by omega), if_pos h, he]
  exact (RxP.ok G ⟨hvals, fun _ _ k => absurd hr k⟩).le (by omega)
 | @ret1 e u h he hv ht hr hf =>
  rw [if_neg (by omega), if_neg (by omega), if_neg (by omega), if_neg (by omega), if_pos h, he]
  refine ((qEr hp hS hpo hv ht G hvals).bind (m := 0) fun v s1 _ hv1 G1 g1 => ?_).le (by omega)
  exact RxP.ok G1 ⟨qAf (fun h => g1.right h) hvals, fun w h _ => by cases h; exact qBI G.valid hf hv1⟩
 | @call e pr i h he hv ho hc =>
  rw [if_neg (by omega), if_neg (by omega), if_neg (by omega), if_neg (by omega), if_neg (by omega), if_pos h, he, List.getD_cons_zero]
  unfold evS
  rw [qGS, cX7 ho, hc.idx]
  have hV := (qBH hv).1
  have hsz := (qBH hv).2
  rw [szE_eq] at hsz
  refine (((seq_snd e.k pr.params [] [] s G (qAC.2 ⟨rfl, fun j f v h => by simp at h⟩) hc.len (qDp hp hc.at_) hc.fit (fun a hm u s1 n hu G1 g1 => ev_snd hp (qDR hp hS c) hpo a u s1 (hV.kids a hm) hu G1 (qAf (fun h => g1.right h) hvals))).bind (m := 0) fun l s1 _ hl G1 g1 => ?_).bind (m := 0) (Q := fun _ s' => qAg d s'.mm p.vars vals = true) fun _ s2 _ hq G2 g2 => RxP.ok G2 ⟨hq, fun _ h => by cases h⟩).le (by omega)
  have R := qDR hp hS c i pr l s1 hc.at_ G1 hl
  refine ⟨R.good, R.gr, fun v s2 e => ?_⟩
  have := qAf (fun h => R.gr.right h) (qAf (fun h => g1.right h) hvals)
  rw [e] at this
  exact this
theorem st_snd {n : Nat} {x : S} (hx : TyS d p x) {vals : List Int} {s : St} (G : qAD d s.mm) (hvals : qAg d s.mm p.vars vals = true) : RxP d F 0 s (stX d F Sn c p n x vals s) fun r s' => RtOk d p r s' := by
 unfold stX
 exact RxP.tick (n := 2001) G (fun G1 => body_snd hp hS hpo hx G1 hvals) (by omega)
end
theorem list_snd {p : Pr} {f : S -> List Int -> St -> Rx Rt} : ∀ (l : List S) (vals : List Int) (s : St), (∀ x ∈ l, ∀ vals s, qAD d s.mm -> qAg d s.mm p.vars vals = true -> RxP d F 0 s (f x vals s) fun r s' => RtOk d p r s') -> qAD d s.mm -> qAg d s.mm p.vars vals = true -> RxP d F 0 s (qDY f l vals s) fun r s' => RtOk d p r s'
 | [], vals, s, _, G, hv => by unfold qDY; exact RxP.ok G ⟨hv, fun _ h => by cases h⟩
 | x :: l, vals, s, H, G, hv => by
  rw [qDY]
  refine (H x List.mem_cons_self vals s G hv).bind (m := 0) fun r s1 _ hr G1 g1 => ?_
  split
  ·exact RxP.ok G1 hr
  ·exact list_snd l r.1 s1 (fun y hy => H y (List.mem_cons_of_mem _ hy)) G1 hr.1
theorem qEV (hp : ∀ p ∈ d.procs, qCw d p) : ∀ n, SSnd d F (qEv d F n)
 | 0 => fun _ _ _ _ _ _ _ G _ => RxP.bad G
 | n + 1 => fun c p l vals s hpo hl G hv => list_snd l vals s (fun _ hx _ _ G hv => st_snd hp (qEV hp n) hpo (hl _ hx) G hv) G hv
theorem play_snd (hp : ∀ p ∈ d.procs, qCw d p) {i : Nat} {pr : Pr} {args : List Int} {s : St} (h : d.procs[i]? = some pr) (G : qAD d s.mm) (ha : qAg d s.mm pr.params args = true) : RxP d F 0 s (qDU d F i args s) fun v s' => pr.result ≠ sE -> qBt d s'.mm pr.result v :=
 qDR hp (qEV hp (F + 1)) 0 i pr args s h G ha
end
end Go.Proofs
namespace Go.Sx
open Go
open Classical
section
variable {P : Program} {V0 V1 V : Mem} {e : TypeId} {sz : Nat} {s : Sl} {vs : List Value}
def Blk (s : Sl) (c : Nat) : Prop := s.c ≠ 0 /\ s.p = some ⟨c, 0, none⟩
noncomputable def Mem.but (V : Mem) (s : Sl) : Mem := fun c => if Blk s c then none else V c
theorem Mem.but_sub (V : Mem) (s : Sl) : (V.but s).sub V := fun c o h => by
 unfold Mem.but at h
 split at h
 ·cases h
 ·exact h
theorem Mem.but_at {c : Nat} {o : Obj} (h : V c = some o) (hn : ¬ Blk s c) : V.but s c = some o := by
 unfold Mem.but; rw [if_neg hn]; exact h
theorem Own.cases0 (h : Own V0 V e sz s vs) : (s.n = 0 /\ s.c = 0 /\ vs = []) ∨ (s.c ≠ 0 /\ ∃ g cur, s.p = some ⟨g, 0, none⟩ /\ V0 g = none /\ V g = some (.cells cur e (0, 0)) /\ s.n <= s.c /\ s.c <= maxLen /\ cur.size = s.c * sz /\ cur.toList.take (s.n * sz) = vs) := by
 rcases h.at_ with h1 | ⟨g, cur, h1, h2, h3, h4, h5⟩
 ·exact .inl h1
 ·by_cases hc : s.c = 0
  ·have hn : s.n = 0 := by omega
   refine .inl ⟨hn, hc, ?_⟩
   have := h.len
   rw [hn, Nat.zero_mul] at this
   exact List.eq_nil_of_length_eq_zero this
  ·exact .inr ⟨hc, g, cur, h1, h2, h3, h4, h5⟩
theorem Own.but (h : Own V0 V e sz s vs) : Own (V.but s) V e sz s vs := by
 refine ⟨Mem.but_sub V s, h.len, ?_⟩
 rcases h.cases0 with h1 | ⟨hc, g, cur, h1, h2, h3⟩
 ·exact .inl h1
 ·refine .inr ⟨g, cur, h1, ?_, h3⟩
  unfold Mem.but
  rw [if_pos ⟨hc, h1⟩]
theorem Own.apart (h : Own V0 V e sz s vs) {c : Nat} (hc : ∀ cur, V c ≠ some (.cells cur e (0, 0))) : ¬ Blk s c := by
 rintro ⟨h0, hp⟩
 rcases h.cases0 with ⟨-, h1, -⟩ | ⟨-, g, cur, h1, h2, h3, -⟩
 ·exact h0 h1
 ·rw [h1] at hp; cases hp; exact hc cur h3
theorem Own.apart0 (h : Own V0 V e sz s vs) {c : Nat} {o : Obj} (hc : V0 c = some o) : ¬ Blk s c := by
 rintro ⟨h0, hp⟩
 rcases h.cases0 with ⟨-, h1, -⟩ | ⟨-, g, cur, h1, h2, -⟩
 ·exact h0 h1
 ·rw [h1] at hp; cases hp; rw [h2] at hc; cases hc
theorem Own.sub_but (h : Own V0 V e sz s vs) : V0.sub (V.but s) := fun _ _ hc => Mem.but_at (h.sub _ _ hc) (h.apart0 hc)
theorem Own.narrow (h : Own V1 V e sz s vs) (hs : V0.sub V1) : Own V0 V e sz s vs := ⟨hs.trans h.sub, h.len, by
 rcases h.at_ with h1 | ⟨g, cur, h1, h2, h3⟩
 ·exact .inl h1
 ·refine .inr ⟨g, cur, h1, ?_, h3⟩
  cases hg : V0 g with
  | none => rfl
  | some o => rw [hs _ _ hg] at h2; cases h2⟩
end
end Go.Sx
