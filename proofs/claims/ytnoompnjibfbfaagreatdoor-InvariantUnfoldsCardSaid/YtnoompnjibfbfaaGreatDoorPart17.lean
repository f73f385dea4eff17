/- Part 17 of a proof of a law of this seat: no statement of the seat is proved here. -/
import Derived.Test.YtnoompnjibfbfaaGreatDoorPart13
import Derived.Test.YtnoompnjibfbfaaGreatDoorPart15
import Derived.Test.YtnoompnjibfbfaaGreatDoorPart16
import Derived.Test.YtnoompnjibfbfaaGreatDoorPart05
import Derived.Test.YtnoompnjibfbfaaGreatDoorPart12
set_option linter.unusedVariables false
set_option linter.unusedSimpArgs false
namespace Go.Proofs
open Go Go.Sx
def lsT : ByteArray := strB [84]
def lsNext : ByteArray := strB [110, 101, 120, 116]
def lsN : ByteArray := strB [110]
def lsV : ByteArray := strB [118]
def lsLen : ByteArray := strB [108, 101, 110, 103, 116, 104]
def lsSort : ByteArray := strB [115, 111, 114, 116, 101, 100]
def lsL : ByteArray := strB [108]
def IsThis (e : E) : Prop := ∃ l, e = .mk 4 0 sThisF l []
def IsNext (e : E) : Prop := ∃ l a, IsThis a /\ e = .mk 5 0 lsNext l [a]
def IsPlus (e : E) : Prop := ∃ l l1 l2 a, IsNext a /\ e = .mk 9 0 sE l [.mk 1 1 sE l1 [], .mk 7 0 lsLen l2 [a]]
def IsEq (e : E) : Prop := ∃ l l1 a, IsNext a /\ e = .mk 14 0 sE l [a, .mk 3 0 sE l1 []]
def IsLess (e : E) : Prop := ∃ l l1 l2 a b, IsThis a /\ IsNext b /\ e = .mk 16 0 sE l [.mk 5 0 lsN l1 [a], .mk 5 0 lsN l2 [b]]
def IsSort (e : E) : Prop := ∃ l a b, IsEq a /\ IsLess b /\ e = .mk 20 0 sE l [a, b]
def IsList (d : Ds) : Prop := ∃ ts fs gs ps ms is qs bs p q, IsPlus p /\ IsSort q /\ d = ⟨lsL, ts, [⟨lsT, fs, [⟨lsNext, lsT⟩, ⟨lsN, sInt⟩]⟩], gs, [⟨lsV, lsT⟩], ps, [], ms, [⟨lsLen, lsT, 0, p⟩], is, [⟨lsSort, lsT, q⟩], qs, [], bs, []⟩
def nxtI (l : List Int) (last : Int) (i : Nat) : Int := if i + 1 = l.length then last else (i : Int) + 2
structure IsChain (l : List Int) (last : Int) (m : Mm) : Prop where
 globals : m.globals = [if (1 : Int) < l.length then 1 else (l.length : Int)]
 len : m.nodes.length = l.length
 at_ : ∀ i, i < l.length -> ∃ s, m.nodes[i]? = some ⟨0, s, [nxtI l last i, l.getD i 0]⟩
section
variable {d : Ds} {m : Mm} {l : List Int} {last : Int}
theorem listD_valid (h : IsList d) : validD d = true := by
 obtain ⟨ts, fs, gs, ps, ms, is, qs, bs, p, q, ⟨l, l1, l2, a, ⟨l3, a1, ⟨l4, rfl⟩, rfl⟩, rfl⟩, ⟨k, x, y, ⟨k1, k2, b, ⟨k3, b1, ⟨k4, rfl⟩, rfl⟩, rfl⟩, ⟨k5, k6, k7, c, c1, ⟨k8, rfl⟩, ⟨k9, c2, ⟨k10, rfl⟩, rfl⟩, rfl⟩, rfl⟩, rfl⟩ := h
 kernel_rfl
theorem listD_chk (h : IsList d) : chkT d = none := by
 obtain ⟨ts, fs, gs, ps, ms, is, qs, bs, p, q, ⟨l, l1, l2, a, ⟨l3, a1, ⟨l4, rfl⟩, rfl⟩, rfl⟩, ⟨k, x, y, ⟨k1, k2, b, ⟨k3, b1, ⟨k4, rfl⟩, rfl⟩, rfl⟩, ⟨k5, k6, k7, c, c1, ⟨k8, rfl⟩, ⟨k9, c2, ⟨k10, rfl⟩, rfl⟩, rfl⟩, rfl⟩, rfl⟩ := h
 kernel_rfl
theorem listD_hasT (h : IsList d) : hasT d = true := by
 have hv := listD_valid h
 obtain ⟨ts, fs, gs, ps, ms, is, qs, bs, p, q, -, -, e⟩ := h
 have h1 : typedB d d.globals = true := by rw [e]; kernel_rfl
 have h2 : allI (fun i t => decide (idxT d t.name = (i : Int)) && typedB d t.fields) d.types = true := by rw [e]; kernel_rfl
 unfold hasT
 rw [hv, h1, h2]; rfl
theorem listD_idxT (h : IsList d) : idxT d lsT = 0 := by
 obtain ⟨ts, fs, gs, ps, ms, is, qs, bs, p, q, -, -, rfl⟩ := h
 kernel_rfl
theorem listD_mIdx (h : IsList d) : mIdx d lsLen = 0 := by
 obtain ⟨ts, fs, gs, ps, ms, is, qs, bs, p, q, -, -, rfl⟩ := h
 kernel_rfl
theorem listD_fields (h : IsList d) : fieldsOf d 0 = [⟨lsNext, lsT⟩, ⟨lsN, sInt⟩] := by
 obtain ⟨ts, fs, gs, ps, ms, is, qs, bs, p, q, -, -, rfl⟩ := h
 rfl
theorem listD_parts (h : IsList d) : (∃ fs, d.types = [⟨lsT, fs, [⟨lsNext, lsT⟩, ⟨lsN, sInt⟩]⟩]) /\ d.globals = [⟨lsV, lsT⟩] /\ (∃ p, IsPlus p /\ d.measures = [⟨lsLen, lsT, 0, p⟩]) /\ ∃ q, IsSort q /\ d.invs = [⟨lsSort, lsT, q⟩] := by
 obtain ⟨ts, fs, gs, ps, ms, is, qs, bs, p, q, h1, h2, rfl⟩ := h
 exact ⟨⟨fs, rfl⟩, rfl, ⟨p, h1, rfl⟩, q, h2, rfl⟩
theorem right_T (h : IsList d) (hm : IsChain l last m) {v : Int} (hv : 0 <= v /\ v <= (l.length : Int)) : rightB d m lsT v = true := by
 have e1 : lsT ≠ sInt := of_decide_eq_false (by kernel_rfl)
 have e2 : lsT ≠ sBool := of_decide_eq_false (by kernel_rfl)
 unfold rightB
 rw [if_neg e1, if_neg e2, decide_eq_true_eq]
 by_cases h0 : v = 0
 ·exact .inl h0
 ·refine .inr ⟨by omega, by rw [hm.len]; omega, ?_⟩
  obtain ⟨i, rfl⟩ : ∃ i : Nat, v = (i : Int) + 1 := ⟨(v - 1).toNat, by omega⟩
  obtain ⟨s, hs⟩ := hm.at_ i (by omega)
  rw [show ((i : Int) + 1 - 1).toNat = i by omega, hs, listD_idxT h]; rfl
theorem nxtI_in (h : 0 <= last /\ last <= (l.length : Int)) {i : Nat} (hi : i < l.length) : 0 <= nxtI l last i /\ nxtI l last i <= (l.length : Int) := by
 unfold nxtI; split <;> omega
theorem chain_node (hm : IsChain l last m) {n : Nd} (hn : n ∈ m.nodes) : ∃ i s, i < l.length /\ n = ⟨0, s, [nxtI l last i, l.getD i 0]⟩ := by
 obtain ⟨i, hi, rfl⟩ := List.mem_iff_getElem.1 hn
 have hl := hm.len
 obtain ⟨s, hs⟩ := hm.at_ i (by omega)
 rw [List.getElem?_eq_getElem hi] at hs
 exact ⟨i, s, by omega, Option.some.inj hs⟩
theorem chain_valid (h : IsList d) (hm : IsChain l last m) (hl : l.length <= 60) (hb : 0 <= last /\ last <= (l.length : Int)) (hv : ∀ n ∈ l, -1099511627776 <= n /\ n <= 1099511627776) : validM d m = true := by
 obtain ⟨⟨fs, hT⟩, hG, -⟩ := listD_parts h
 unfold validM
 simp only [Bool.and_eq_true, List.all_eq_true, decide_eq_true_eq]
 refine ⟨⟨⟨⟨listD_hasT h, by rw [hm.len]; omega⟩, fun n hn => ?_⟩, ?_⟩, fun n hn => ?_⟩
 ·obtain ⟨i, s, -, rfl⟩ := chain_node hm hn
  unfold nodeTy
  rw [hT]
  show decide ((0 : Int) <= 0 /\ (0 : Int) < 1) = true
  decide
 ·unfold valuesB
  rw [Bool.and_eq_true, decide_eq_true_eq, allI_iff, hG, hm.globals]
  refine ⟨rfl, fun j x hx => ?_⟩
  match j, hx with
  | 0, hx =>
   have : x = if (1 : Int) < l.length then 1 else (l.length : Int) := by simpa using hx.symm
   have hr : 0 <= x /\ x <= (l.length : Int) := by rw [this]; split <;> omega
   exact right_T h hm hr
  | j + 1, hx => simp at hx
 ·obtain ⟨i, s, hi, rfl⟩ := chain_node hm hn
  unfold valuesB
  rw [Bool.and_eq_true, decide_eq_true_eq, allI_iff]
  show _ = _ /\ ∀ j x, _ -> rightB d m (tyAt (fieldsOf d 0) j) x = true
  rw [listD_fields h]
  refine ⟨rfl, fun j x hx => ?_⟩
  match j, hx with
  | 0, hx =>
   have hx : some (nxtI l last i) = some x := hx
   cases hx
   exact right_T h hm (nxtI_in hb hi)
  | 1, hx =>
   have hx : some (l.getD i 0) = some x := hx
   cases hx
   have hmem : l.getD i 0 ∈ l := by rw [List.getD_eq_getElem?_getD, List.getElem?_eq_getElem hi]; exact List.getElem_mem hi
   show rightB _ _ sInt _ = true
   unfold rightB
   rw [if_pos rfl]
   exact decide_eq_true (hv _ hmem)
  | j + 2, hx => cases hx
section
variable {F : Int -> Int -> Rs} {x v : Int} {e : E}
theorem evMk {op n : Int} {s : ByteArray} {l : Sl} {k : List E} : evE d m F x (.mk op n s l k) = comb d m F x op n s (k.map (evE d m F x)) := evE_eq F x (.mk op n s l k)
theorem evThis (h : IsThis e) : evE d m F x e = .ok x := by
 obtain ⟨l, rfl⟩ := h
 rw [evMk, comb4 rfl]
 unfold varV
 rw [if_pos rfl]
theorem evNext (h : IsNext e) (hv : fldV d m x lsNext = .ok v) : evE d m F x e = .ok v := by
 obtain ⟨l, a, ha, rfl⟩ := h
 rw [evMk, comb5 rfl]
 show (evE d m F x a).bind (fun a => fldV d m a lsNext) = _
 rw [evThis ha]; exact hv
theorem evPlus (h : IsPlus e) (hL : mIdx d lsLen = 0) (hv : fldV d m x lsNext = .ok v) : evE d m F x e = (F 0 v).bind fun b => twoV 9 1 b := by
 obtain ⟨l, l1, l2, a, ha, rfl⟩ := h
 rw [evMk, combTwo (by omega)]
 show (evE d m F x (.mk 1 1 sE l1 [])).bind (fun p => (evE d m F x (.mk 7 0 lsLen l2 [a])).bind fun b => twoV 9 p b) = _
 rw [evMk, comb1 (.inl rfl)]
 show (evE d m F x (.mk 7 0 lsLen l2 [a])).bind (fun b => twoV 9 1 b) = _
 rw [evMk, comb7 rfl]
 show ((evE d m F x a).bind fun a => F (mIdx d lsLen) a).bind (fun b => twoV 9 1 b) = _
 rw [hL, evNext ha hv]; rfl
theorem evEq (h : IsEq e) (hv : fldV d m x lsNext = .ok v) : evE d m F x e = .ok (trI (decide (v = 0))) := by
 obtain ⟨l, l1, a, ha, rfl⟩ := h
 rw [evMk, combTwo (by omega)]
 show (evE d m F x a).bind (fun p => (evE d m F x (.mk 3 0 sE l1 [])).bind fun b => twoV 14 p b) = _
 rw [evNext ha hv, evMk, comb3 rfl]; rfl
theorem evLess (h : IsLess e) (hv : fldV d m x lsNext = .ok v) {a b : Int} (h1 : fldV d m x lsN = .ok a) (h2 : fldV d m v lsN = .ok b) : evE d m F x e = .ok (trI (decide (a < b))) := by
 obtain ⟨l, l1, l2, p, q, hp, hq, rfl⟩ := h
 rw [evMk, combTwo (by omega)]
 show (evE d m F x (.mk 5 0 lsN l1 [p])).bind (fun a => (evE d m F x (.mk 5 0 lsN l2 [q])).bind fun b => twoV 16 a b) = _
 rw [evMk, comb5 rfl]
 show ((evE d m F x p).bind fun a => fldV d m a lsN).bind (fun a => (evE d m F x (.mk 5 0 lsN l2 [q])).bind fun b => twoV 16 a b) = _
 rw [evThis hp]
 show (fldV d m x lsN).bind (fun a => (evE d m F x (.mk 5 0 lsN l2 [q])).bind fun b => twoV 16 a b) = _
 rw [h1, evMk, comb5 rfl]
 show ((evE d m F x q).bind fun a => fldV d m a lsN).bind (fun b => twoV 16 a b) = _
 rw [evNext hq hv]
 show (fldV d m v lsN).bind (fun b => twoV 16 a b) = _
 rw [h2]; rfl
theorem evSort (h : IsSort e) (hv : fldV d m x lsNext = .ok v) {a : Int} (h1 : fldV d m x lsN = .ok a) (h2 : v ≠ 0 -> ∃ b, fldV d m v lsN = .ok b) :
  evE d m F x e = .ok (if v = 0 then 1 else match fldV d m v lsN with | .ok b => trI (decide (a < b)) | .bad _ => 0) := by
 obtain ⟨l, p, q, hp, hq, rfl⟩ := h
 rw [evMk, comb20 rfl]
 show (evE d m F x p).bind (fun a => if a = 0 then evE d m F x q else .ok 1) = _
 rw [evEq hp hv]
 show (if trI (decide (v = 0)) = 0 then evE d m F x q else .ok 1) = _
 by_cases h0 : v = 0
 ·rw [if_pos h0, decide_eq_true h0]; rfl
 ·obtain ⟨b, hb⟩ := h2 h0
  rw [if_neg h0, decide_eq_false h0, evLess hq hv h1 hb, hb]; rfl
end
theorem evM_list (h : IsList d) {n : Nat} {x v : Int} (h0 : x ≠ 0) (hv : fldV d m x lsNext = .ok v) : evM d m (n + 1) 0 x = (evM d m n 0 v).bind fun b => twoV 9 1 b := by
 obtain ⟨-, -, ⟨p, hp, hM⟩, -⟩ := listD_parts h
 rw [evM, if_neg h0, hM]
 show evE d m (evM d m n) x p = _
 exact evPlus hp (listD_mIdx h) hv
theorem fld_next (h : IsList d) (hm : IsChain l last m) {i : Nat} (hi : i < l.length) : fldV d m ((i : Int) + 1) lsNext = .ok (nxtI l last i) := by
 obtain ⟨s, hs⟩ := hm.at_ i hi
 have e : idxF [⟨lsNext, lsT⟩, ⟨lsN, sInt⟩] lsNext = 0 := by kernel_rfl
 unfold fldV
 rw [if_neg (by omega), show ((i : Int) + 1 - 1).toNat = i by omega, hs]
 show Rs.ok (([nxtI l last i, l.getD i 0][(idxF (fieldsOf d 0) lsNext).toNat]?).getD 0) = _
 rw [listD_fields h, e]; rfl
theorem fld_n (h : IsList d) (hm : IsChain l last m) {i : Nat} (hi : i < l.length) : fldV d m ((i : Int) + 1) lsN = .ok (l.getD i 0) := by
 obtain ⟨s, hs⟩ := hm.at_ i hi
 have e : idxF [⟨lsNext, lsT⟩, ⟨lsN, sInt⟩] lsN = 1 := by kernel_rfl
 unfold fldV
 rw [if_neg (by omega), show ((i : Int) + 1 - 1).toNat = i by omega, hs]
 show Rs.ok (([nxtI l last i, l.getD i 0][(idxF (fieldsOf d 0) lsN).toNat]?).getD 0) = _
 rw [listD_fields h, e]; rfl
theorem two_plus {b : Nat} (h : b < 1000) : twoV 9 1 (b : Int) = .ok ((b : Int) + 1) := by
 unfold twoV big
 rw [if_pos rfl, if_pos (by omega), Int.add_comm]
theorem nil_list (h : IsList d) (n : Nat) : evM d m n 0 0 = .ok 0 := by
 obtain ⟨-, -, ⟨p, hp, hM⟩, -⟩ := listD_parts h
 have e : nilM d 0 = 0 := by unfold nilM; rw [hM]; rfl
 cases n with
 | zero => rw [evM, if_pos rfl, e]
 | succ n => rw [evM, if_pos rfl, e]
theorem list_len (h : IsList d) (hm : IsChain l 0 m) (hl : l.length <= 60) : ∀ (k i n : Nat), i + k = l.length -> k <= n -> evM d m n 0 (if k = 0 then 0 else (i : Int) + 1) = .ok k
 | 0, i, n, _, _ => by rw [if_pos rfl]; exact nil_list h n
 | k + 1, i, n, hi, hn => by
  rw [if_neg (by omega)]
  obtain ⟨n, rfl⟩ : ∃ n', n = n' + 1 := ⟨n - 1, by omega⟩
  rw [evM_list h (by omega) (fld_next h hm (by omega))]
  have ih := list_len h hm hl k (i + 1) n (by omega) (by omega)
  have e : nxtI l 0 i = if k = 0 then 0 else ((i + 1 : Nat) : Int) + 1 := by
   unfold nxtI
   by_cases hk : k = 0
   ·rw [if_pos hk, if_pos (by omega)]
   ·rw [if_neg hk, if_neg (by omega)]; omega
  rw [e, ih]
  show twoV 9 1 (k : Int) = _
  rw [two_plus (by omega)]
  simp
theorem list_cycle (h : IsList d) (hm : IsChain l last m) (hb : 1 <= last /\ last <= (l.length : Int)) : ∀ (n : Nat) (x : Int), 1 <= x -> x <= (l.length : Int) -> evM d m n 0 x = .bad 16
 | 0, x, h1, _ => by unfold evM; rw [if_neg (by omega)]
 | n + 1, x, h1, h2 => by
  obtain ⟨i, rfl⟩ : ∃ i : Nat, x = (i : Int) + 1 := ⟨(x - 1).toNat, by omega⟩
  have hi : i < l.length := by omega
  rw [evM_list h (by omega) (fld_next h hm hi)]
  have hn : 1 <= nxtI l last i /\ nxtI l last i <= (l.length : Int) := by unfold nxtI; split <;> omega
  rw [list_cycle h hm hb n _ hn.1 hn.2]; rfl
theorem list_sort (h : IsList d) (hm : IsChain l 0 m) {q : E} (hq : IsSort q) {F : Int -> Int -> Rs} {i : Nat} (hi : i < l.length) : evE d m F ((i : Int) + 1) q = .ok (if i + 1 < l.length then trI (decide (l.getD i 0 < l.getD (i + 1) 0)) else 1) := by
 have e0 : i + 1 < l.length -> nxtI l 0 i = ((i + 1 : Nat) : Int) + 1 := fun hl => by unfold nxtI; rw [if_neg (by omega)]; omega
 have e1 : ¬ i + 1 < l.length -> nxtI l 0 i = 0 := fun hl => by unfold nxtI; rw [if_pos (by omega)]
 rw [evSort hq (fld_next h hm hi) (fld_n h hm hi) fun hne => ?_]
 ·by_cases hl : i + 1 < l.length
  ·rw [if_pos hl, e0 hl, if_neg (by omega), fld_n h hm hl]
  ·rw [if_neg hl, e1 hl, if_pos rfl]
 ·by_cases hl : i + 1 < l.length
  ·rw [e0 hl]; exact ⟨_, fld_n h hm hl⟩
  ·exact absurd (e1 hl) hne
end
end Go.Proofs
namespace Go.Proofs
open Go Go.Sx
structure Sr where
 order : List Int
 again : Int
def isRef (x : Fld × Int) : Bool := !plainT x.1.ty && decide (x.2 ≠ 0)
def tgtI (l : List Fld) (vs : List Int) (i : Nat) : List Int := (((l.zip vs).take i).filter isRef).map (·.2)
def tgt (l : List Fld) (vs : List Int) : List Int := ((l.zip vs).filter isRef).map (·.2)
def nodeTgt (d : Ds) (m : Mm) (n : Int) : List Int := match m.nodes[(n - 1).toNat]? with | some x => tgt (fieldsOf d x.ty) x.f | none => []
def entP (d : Ds) (m : Mm) : Nat -> Sr -> Int -> Sr
 | 0, st, _ => st
 | f + 1, st, n => if n ∈ st.order then ⟨st.order, if st.again = 0 then n else st.again⟩ else (nodeTgt d m n).foldl (entP d m f) ⟨st.order ++ [n], st.again⟩
def lookP (d : Ds) (m : Mm) (f : Nat) (st : Sr) (l : List Fld) (vs : List Int) : Sr := (tgt l vs).foldl (entP d m f) st
def reachP (d : Ds) (m : Mm) : Sr := lookP d m (m.nodes.length + 1) ⟨[], 0⟩ d.globals m.globals
theorem tgtI_zero (l : List Fld) (vs : List Int) : tgtI l vs 0 = [] := rfl
theorem tgtI_succ {l : List Fld} {vs : List Int} {i : Nat} {f : Fld} {v : Int} (hf : l[i]? = some f) (hv : vs[i]? = some v) : tgtI l vs (i + 1) = tgtI l vs i ++ if isRef (f, v) = true then [v] else [] := by
 have hz : (l.zip vs)[i]? = some (f, v) := by rw [List.getElem?_zip_eq_some]; exact ⟨hf, hv⟩
 unfold tgtI
 rw [List.take_add_one, hz, List.filter_append, List.map_append]
 by_cases h : isRef (f, v) = true
 ·simp [h]
 ·simp [h]
theorem tgtI_all {l : List Fld} {vs : List Int} {i : Nat} (h : l.length <= i) : tgtI l vs i = tgt l vs := by
 unfold tgtI tgt
 rw [List.take_of_length_le]
 rw [List.length_zip]; omega
def unS (m : Mm) (st : Sr) : Nat := ((List.range m.nodes.length).filter fun (i : Nat) => !decide (((i : Int) + 1) ∈ st.order)).length
theorem entP_sub (d : Ds) (m : Mm) : ∀ (f : Nat) (st : Sr) (n : Int), ∀ x ∈ st.order, x ∈ (entP d m f st n).order
 | 0, st, n, x, h => h
 | f + 1, st, n, x, h => by
  unfold entP
  split
  ·exact h
  ·have : ∀ (l : List Int) (s : Sr), x ∈ s.order -> x ∈ (l.foldl (entP d m f) s).order := fun l => by
    induction l with
    | nil => exact fun s h => h
    | cons a l ih => exact fun s h => ih _ (entP_sub d m f s a x h)
   exact this _ _ (List.mem_append_left _ h)
theorem foldP_sub (d : Ds) (m : Mm) (f : Nat) (x : Int) : ∀ (l : List Int) (s : Sr), x ∈ s.order -> x ∈ (l.foldl (entP d m f) s).order := fun l => by
 induction l with
 | nil => exact fun s h => h
 | cons a l ih => exact fun s h => ih _ (entP_sub d m f s a x h)
section
variable {d : Ds} {m : Mm} {l : List Int}
theorem chain_tgt (h : IsList d) (hm : IsChain l 0 m) {i : Nat} (hi : i < l.length) : nodeTgt d m ((i : Int) + 1) = if i + 1 = l.length then [] else [(i : Int) + 2] := by
 obtain ⟨s, hs⟩ := hm.at_ i hi
 unfold nodeTgt
 rw [show ((i : Int) + 1 - 1).toNat = i by omega, hs]
 have e1 : plainT lsT = false := by kernel_rfl
 have e2 : plainT sInt = true := by kernel_rfl
 show tgt (fieldsOf d 0) [nxtI l 0 i, l.getD i 0] = _
 rw [listD_fields h]
 unfold tgt
 rw [List.zip_cons_cons, List.zip_cons_cons, List.zip_nil_left, List.filter_cons, List.filter_cons, List.filter_nil]
 unfold isRef
 simp only [e1, e2, Bool.not_true, Bool.false_and, Bool.not_false, Bool.true_and]
 by_cases h : i + 1 = l.length
 ·rw [show nxtI l 0 i = 0 by unfold nxtI; rw [if_pos h], if_pos h]; rfl
 ·rw [show nxtI l 0 i = (i : Int) + 2 by unfold nxtI; rw [if_neg h], if_neg h, decide_eq_true (show (i : Int) + 2 ≠ 0 by omega)]; rfl
theorem chain_ent (h : IsList d) (hm : IsChain l 0 m) : ∀ (k i f : Nat) (a : Int), i + k + 1 = l.length -> k < f -> entP d m f ⟨(List.range i).map fun (j : Nat) => (j : Int) + 1, a⟩ ((i : Int) + 1) = ⟨(List.range l.length).map fun (j : Nat) => (j : Int) + 1, a⟩
 | k, i, 0, a, _, h => by omega
 | k, i, f + 1, a, hi, hf => by
  unfold entP
  have hno : ¬ ((i : Int) + 1) ∈ (List.range i).map fun (j : Nat) => (j : Int) + 1 := by
   simp only [List.mem_map, List.mem_range, not_exists, not_and]
   intro j hj; omega
  rw [if_neg hno, chain_tgt h hm (by omega)]
  have happ : ((List.range i).map fun (j : Nat) => (j : Int) + 1) ++ [(i : Int) + 1] = (List.range (i + 1)).map fun (j : Nat) => (j : Int) + 1 := by
   rw [List.range_succ, List.map_append]; rfl
  simp only [happ]
  cases k with
  | zero => rw [if_pos (by omega), List.foldl_nil, show i + 1 = l.length by omega]
  | succ k =>
   rw [if_neg (by omega), List.foldl_cons, List.foldl_nil]
   have := chain_ent h hm k (i + 1) f a (by omega) (by omega)
   rw [show (i : Int) + 2 = ((i + 1 : Nat) : Int) + 1 by omega]
   exact this
theorem chain_reach (h : IsList d) (hm : IsChain l 0 m) (h0 : 0 < l.length) : (reachP d m).order = (List.range l.length).map fun (j : Nat) => (j : Int) + 1 := by
 have e1 : plainT lsT = false := by kernel_rfl
 obtain ⟨-, hG, -⟩ := listD_parts h
 unfold reachP lookP
 have e : tgt d.globals m.globals = [1] := by
  rw [hG, hm.globals, show (if (1 : Int) < l.length then (1 : Int) else l.length) = 1 by split <;> omega]
  unfold tgt isRef
  simp [e1]
 rw [e, List.foldl_cons, List.foldl_nil, hm.len]
 have := chain_ent h hm (l.length - 1) 0 (l.length + 1) 0 (by omega) (by omega)
 simp only [List.range_zero, List.map_nil, Int.natCast_zero, Int.zero_add] at this
 exact congrArg Sr.order this
end
end Go.Proofs
namespace Go.Proofs
open Go Go.Sx
open Classical in
noncomputable def holdB (d : Ds) (m : Mm) (e : E) (x : Int) : Bool := decide (∃ n, evE d m (evM d m n) x e = .ok 1)
noncomputable def badB (d : Ds) (m : Mm) (v : Iv) (x : Int) : Bool := decide (typV d m x = v.ty) && !holdB d m v.x x
noncomputable def allOf (d : Ds) (m : Mm) (v : Iv) (l : List Int) : List (ByteArray × Int) := (l.filter (badB d m v)).map fun x => (v.name, x)
def nodesOf (d : Ds) (m : Mm) (v : Iv) : List Int := if v.ty = sE then [0] else (reachP d m).order
noncomputable def allP (d : Ds) (m : Mm) : List (ByteArray × Int) := d.invs.flatMap fun v => allOf d m v (nodesOf d m v)
theorem holdB_out {d : Ds} {m : Mm} {e : E} {x : Int} {rs : Rs} (h : Out d m (fun _ _ => False) (fun n => evE d m (evM d m n) x e) rs) : holdB d m e x = decide (rs = .ok 1) := by
 unfold holdB
 rw [decide_eq_decide]
 constructor
 ·rintro ⟨n, hn⟩
  exact Out.unique (mono_evE x e) h (show Out d m (fun _ _ => False) _ (Rs.ok 1) from ⟨n, hn⟩)
 ·rintro rfl; exact h
section
variable {d : Ds} {m : Mm} {l : List Int}
def dropB (l : List Int) (i : Nat) : Bool := decide (i + 1 < l.length) && !decide (l.getD i 0 < l.getD (i + 1) 0)
theorem list_typ (h : IsList d) {last : Int} (hm : IsChain l last m) {i : Nat} (hi : i < l.length) : typV d m ((i : Int) + 1) = lsT := by
 obtain ⟨⟨fs, hT⟩, -⟩ := listD_parts h
 obtain ⟨s, hs⟩ := hm.at_ i hi
 unfold typV
 rw [if_neg (by omega), show ((i : Int) + 1 - 1).toNat = i by omega, hs, hT]; rfl
theorem list_hold (h : IsList d) (hm : IsChain l 0 m) {q : E} (hq : IsSort q) {i : Nat} (hi : i < l.length) : holdB d m q ((i : Int) + 1) = !dropB l i := by
 have ho : Out d m (fun _ _ => False) (fun n => evE d m (evM d m n) ((i : Int) + 1) q) (.ok (if i + 1 < l.length then trI (decide (l.getD i 0 < l.getD (i + 1) 0)) else 1)) := ⟨0, list_sort h hm hq hi⟩
 rw [holdB_out ho]
 unfold dropB
 by_cases h1 : i + 1 < l.length
 ·by_cases h2 : l.getD i 0 < l.getD (i + 1) 0
  ·rw [if_pos h1, decide_eq_true h1, decide_eq_true h2]; decide
  ·rw [if_pos h1, decide_eq_true h1, decide_eq_false h2]; decide
 ·rw [if_neg h1, decide_eq_false h1]; rfl
theorem list_all (h : IsList d) (hm : IsChain l 0 m) (h0 : 0 < l.length) : allP d m = ((List.range l.length).filter (dropB l)).map fun (i : Nat) => (lsSort, (i : Int) + 1) := by
 obtain ⟨-, -, -, q, hq, hI⟩ := listD_parts h
 unfold allP
 rw [hI, List.flatMap_cons, List.flatMap_nil, List.append_nil]
 unfold nodesOf allOf
 have e : lsT ≠ sE := of_decide_eq_false (by kernel_rfl)
 rw [if_neg (show ¬ (⟨lsSort, lsT, q⟩ : Iv).ty = sE from e), chain_reach h hm h0, List.filter_map, List.map_map]
 have : (List.range l.length).filter (badB d m ⟨lsSort, lsT, q⟩ ∘ fun (j : Nat) => (j : Int) + 1) = (List.range l.length).filter (dropB l) := by
  refine List.filter_congr fun i hi => ?_
  have hi := List.mem_range.1 hi
  show badB d m ⟨lsSort, lsT, q⟩ ((i : Int) + 1) = dropB l i
  unfold badB
  rw [list_typ h hm hi, decide_eq_true (show lsT = (⟨lsSort, lsT, q⟩ : Iv).ty from rfl), Bool.true_and]
  show (!holdB d m q ((i : Int) + 1)) = _
  rw [list_hold h hm hq hi, Bool.not_not]
 rw [this]; rfl
end
end Go.Proofs
namespace Go.Proofs
open Go Go.Sx
attribute [local irreducible] Go.Sx.Tri
theorem chk_zero {d : Ds} (h : (fltR (chkT d)).2.2 = 0) : chkT d = none := by
 have key : ∀ {a : Option Flt}, (∀ r, a = some r -> r.2.2 ≠ 0) -> (fltR a).2.2 = 0 -> a = none := fun {a} hb h => by
  cases a with
  | none => rfl
  | some r => exact absurd h (hb r rfl)
 refine key (fun r hr => ?_) h
 unfold chkT at hr
 have orC : ∀ {a b : Option Flt} {r}, a.or b = some r -> a = some r ∨ b = some r := fun {a b r} h => by
  cases a with
  | none => exact .inr (by simpa using h)
  | some x => exact .inl (by simpa using h)
 rcases orC hr with h1 | hr
 ·exact (types_bad d r h1).1
 rcases orC hr with h1 | hr
 ·exact (heads_bad d r h1).1
 rcases orC hr with h1 | hr
 ·exact (form_bad d r h1).1
 rcases orC hr with h1 | hr
 ·unfold bodiesT at h1
  obtain ⟨j, x, -, hx⟩ := firstE_mem h1
  split at hx
  ·rename_i hne; cases hx; exact hne
  ·cases hx
 ·exact (exps_bad d r hr).1
theorem ivB_parts {x : Iv} (h : ivB x = true) : isName x.name = true /\ openB x.ty = true /\ VE x.x := by
 unfold ivB at h
 simp only [Bool.and_eq_true] at h
 exact ⟨h.1.1, h.1.2, VE.of_valid h.2⟩
section
variable {V : Mem} {d : Ds} {m : Mm}
def kn0 : Int × Int -> Option Int := fun _ => none
def bz0 : Int × Int -> Bool := fun _ => false
theorem c35 [Tab V] (hd : Ds.Ok V d) (hm : Mm.Ok V m) : Tri Tryz.prog 35 #[d.v, m.v] V fun e V' =>
  (∃ p kb bb, e = .returned (.tuple #[.pointer (some ⟨p, 0, none⟩), .int .i64 0]) /\ Stat V d m p kb bb /\ Mach V d m p kb bb V' kn0 bz0) ∨ (¬ GoodD d m /\ e = .returned (.tuple #[.pointer none, .int .i64 1]) /\ V.sub V') := by
 refine x35 (v0 := d.name) (v1 := d.ts) (v2 := d.gs) (v3 := d.ps) (v4 := d.ms) (v5 := d.is) (v6 := d.qs) (v7 := d.bs) (v8 := m.gs) (v9 := m.ns) ?_
 unfold w35
 refine (c68 scopeC newC hd).call ?_
 have bad : ∀ {V1 : Mem}, V.sub V1 -> ¬ GoodD d m -> (∃ p kb bb, Ending.returned (.tuple #[.pointer none, .int .i64 1]) = .returned (.tuple #[.pointer (some ⟨p, 0, none⟩), .int .i64 0]) /\ Stat V d m p kb bb /\ Mach V d m p kb bb V1 kn0 bz0) ∨ (¬ GoodD d m /\ Ending.returned (.tuple #[.pointer none, .int .i64 1]) = .returned (.tuple #[.pointer none, .int .i64 1]) /\ V.sub V1) := fun hs h => .inr ⟨h, rfl, hs⟩
 by_cases hv : validD d = true
 ·rw [if_pos hv]
  refine ⟨_, _, _, rfl, fun h0 => (c69 hd hm).call ⟨_, rfl, fun h1 => ?_, fun h1 => bad (Mem.sub.refl _) fun k => h1 k.mem⟩, fun h0 => bad (Mem.sub.refl _) fun k => h0 (by rw [k.chk]; rfl)⟩
  have G : GoodD d m := ⟨hv, chk_zero h0, h1⟩
  refine GenK.makeMap fun kb hkb => ⟨some kb, rfl, GenK.makeMap fun bb hbb => ⟨some bb, rfl, fun p hp => ?_⟩⟩
  have n1 : bb ≠ kb := fun e => by rw [e, Mem.set_same] at hbb; cases hbb
  have n2 : p ≠ bb := fun e => by rw [e, Mem.set_same] at hp; cases hp
  have n3 : p ≠ kb := fun e => by rw [e, Mem.set_ne n1.symm, Mem.set_same] at hp; cases hp
  have s1 := Mem.sub_new hkb (.map #[] 0)
  have s2 := Mem.sub_new hbb (.map #[] 0)
  have s3 := Mem.sub_new hp (.cells (mrow d m kb bb).toArray 129 (0, 0))
  have hb0 : V bb = none := by rw [Mem.set_ne n1] at hbb; exact hbb
  have hp0 : V p = none := by rw [Mem.set_ne n2, Mem.set_ne n3] at hp; exact hp
  refine .inl ⟨p, kb, bb, rfl, ⟨G, hd, hm, hp0, hkb, hb0, n3, n2, n1.symm⟩, (s1.trans s2).trans s3, Mem.set_same _ _ _, ?_, ?_⟩
  ·exact (((MapV.made V kb).sub s2).sub s3).congr fun _ => rfl
  ·exact ((MapV.made _ bb).sub s3).congr fun _ => rfl
 ·rw [if_neg hv]
  refine ⟨_, _, _, rfl, fun h => absurd h (by decide), fun _ => bad (Mem.sub.refl _) fun k => hv k.valid⟩
section
variable {V0 : Mem} {p kb bb : Nat} {kn : Int × Int -> Option Int} {bz : Int × Int -> Bool}
theorem postOf {f : FuncId} {args : Array Value} {g : Nat -> Rs} (h : Tri Tryz.prog f args V (Post V0 d m p kb bb V kn bz g)) : Tri Tryz.prog f args V fun e V1 => (∃ v, e = .returned (.int .i64 v) /\ Post V0 d m p kb bb V kn bz g (.returned (.int .i64 v)) V1) ∨ ∃ ch, e = .panicked ch /\ Post V0 d m p kb bb V kn bz g e V1 :=
 Tri.mono h fun e V' ⟨rs, he, hp⟩ => by
  subst he
  cases rs with
  | ok a => exact .inl ⟨a, rfl, .ok a, rfl, hp⟩
  | bad e => exact .inr ⟨_, rfl, .bad e, rfl, hp⟩
theorem c40 (S : Stat V0 d m p kb bb) (M : Mach V0 d m p kb bb V kn bz) (K : KnOk d m kn) {b1 b2 b3 t1 t2 t3 : Nat} {i : Nat} {x : Int} (h1 : V b1 = some (cell (.pointer (some ⟨p, 0, none⟩)) t1)) (h2 : V b2 = some (cell (.int .i64 i) t2)) (h3 : V b3 = some (cell (.int .i64 x) t3)) {ms : Ms} (hms : d.measures[i]? = some ms) (hx : valOk d m ms.ty x) :
  Tri Tryz.prog 40 #[.pointer (some ⟨b1, 0, none⟩), .pointer (some ⟨b2, 0, none⟩), .pointer (some ⟨b3, 0, none⟩)] V (Post V0 d m p kb bb V kn bz fun n => evM d m n i x) := by
 refine x40 (v0 := some ⟨b1, 0, none⟩) (v1 := some ⟨b2, 0, none⟩) (v2 := some ⟨b3, 0, none⟩) (R := Post V0 d m p kb bb V kn bz fun n => evM d m n i x) ?_
 unfold w40
 exact ⟨_, row1 h1, _, row1 h2, _, row1 h3, postOf (measAll S (unseen d m kn bz) i ms x V kn bz hms hx M K (Nat.le_refl _))⟩
theorem c61 (S : Stat V0 d m p kb bb) (M : Mach V0 d m p kb bb V kn bz) (K : KnOk d m kn) {b1 b2 b3 t1 t2 t3 : Nat} {e : E} {T t : ByteArray} {x : Int} (h1 : V b1 = some (cell (.pointer (some ⟨p, 0, none⟩)) t1)) (h2 : V b2 = some (.cells e.row.toArray t2 (0, 0))) (h3 : V b3 = some (cell (.int .i64 x) t3))
  (hv : VE e) (he : E.Ok V0 e) (ht : exprT d (inFormS d T) e = (t, 0)) (hT : This d m T x) :
  Tri Tryz.prog 61 #[.pointer (some ⟨b1, 0, none⟩), .pointer (some ⟨b2, 0, none⟩), .pointer (some ⟨b3, 0, none⟩)] V (Post V0 d m p kb bb V kn bz fun n => evE d m (evM d m n) x e) := by
 refine x61 (v0 := some ⟨b1, 0, none⟩) (v1 := some ⟨b2, 0, none⟩) (v2 := some ⟨b3, 0, none⟩) (R := Post V0 d m p kb bb V kn bz fun n => evE d m (evM d m n) x e) ?_
 unfold w61
 exact ⟨_, row1 h1, _, _, _, _, row_cells h2 0 4 (by simp [E.row]), _, row1 h3, postOf (exprAll S (unseen d m kn bz) e T t x V kn bz hv he ht hT M K (Nat.le_refl _))⟩
theorem c84 (S : Stat V0 d m p kb bb) (M : Mach V0 d m p kb bb V kn bz) (K : KnOk d m kn) {b1 b2 b3 t1 t2 t3 : Nat} {v : Iv} {T t : ByteArray} {x : Int} (h1 : V b1 = some (cell (.pointer (some ⟨p, 0, none⟩)) t1)) (h2 : V b2 = some (.cells v.row.toArray t2 (0, 0))) (h3 : V b3 = some (cell (.int .i64 x) t3))
  (hv : VE v.x) (he : E.Ok V0 v.x) (ht : exprT d (inFormS d T) v.x = (t, 0)) (hT : This d m T x) :
  Tri Tryz.prog 84 #[.pointer (some ⟨b1, 0, none⟩), .pointer (some ⟨b2, 0, none⟩), .pointer (some ⟨b3, 0, none⟩)] V (Post V0 d m p kb bb V kn bz fun n => evE d m (evM d m n) x v.x) := by
 refine x84 (v0 := some ⟨b1, 0, none⟩) (v1 := some ⟨b2, 0, none⟩) (v2 := some ⟨b3, 0, none⟩) (R := Post V0 d m p kb bb V kn bz fun n => evE d m (evM d m n) x v.x) ?_
 unfold w84
 exact ⟨_, row1 h1, nn, _, _, _, _, row_cells h2 2 4 (by simp [Iv.row]), _, row1 h3, postOf (exprAll S (unseen d m kn bz) v.x T t x V kn bz hv he ht hT M K (Nat.le_refl _))⟩
theorem c50 (S : Stat V0 d m p kb bb) (M : Mach V0 d m p kb bb V kn bz0) (K : KnOk d m kn) {v : Iv} {x : Int} (hv : v ∈ d.invs) (hT : This d m v.ty x) :
  Tri Tryz.prog 50 #[.pointer (some ⟨p, 0, none⟩), v.v, .int .i64 x] V fun e V' => e = .returned (.bool (holdB d m v.x x)) /\ Keep kb bb V V' /\ ∃ kn', Mach V0 d m p kb bb V' kn' bz0 /\ KnOk d m kn' := by
 refine x50 (v0 := some ⟨p, 0, none⟩) (v1 := v.name) (v2 := v.ty) (v3 := v.x.op) (v4 := v.x.n) (v5 := v.x.s) (v6 := v.x.l) (v7 := x) ?_
 unfold w50
 intro b1 hb1 b2 hb2 b3 hb3
 have s1 := Mem.sub_new hb1 (cell (.pointer (some ⟨p, 0, none⟩)) 83)
 have s2 := Mem.sub_new hb2 (.cells v.row.toArray 105 (0, 0))
 have s3 := Mem.sub_new hb3 (cell (.int .i64 x) 3)
 have s := s1.trans (s2.trans s3)
 have hvE := (ivB_parts ((validD_types S.good.valid).2.2.2 v hv)).2.2
 obtain ⟨-, c2⟩ := (chk_parts S.good.chk).2 v hv
 refine Tri.mono (tryC S (M.grow s) (g := fun n => evE d m (evM d m n) x v.x) (caps := [.pointer (some ⟨b1, 0, none⟩), .pointer (some ⟨b2, 0, none⟩), .pointer (some ⟨b3, 0, none⟩)]) Tryz.call84 fun V1 hs1 =>
  c84 S ((M.grow s).grow hs1) K (hs1 _ _ ((s2.trans s3) _ _ (Mem.set_same _ _ _))) (hs1 _ _ (s3 _ _ (Mem.set_same _ _ _))) (hs1 _ _ (Mem.set_same _ _ _)) hvE (S.ds.invsOk v hv) c2 hT) ?_
 rintro _ V' ⟨rs, rfl, ho, hk, kn', m1, m2⟩
 have hh := holdB_out ho
 refine ⟨_, _, rfl, fun h0 => ⟨?_, (Keep.of_sub s).trans hk, kn', m1, m2⟩, fun h0 => ⟨?_, (Keep.of_sub s).trans hk, kn', m1, m2⟩⟩
 ·rw [hh]
  cases rs with
  | ok a => rw [show decide (Rs.ok a = Rs.ok 1) = decide (a = 1) by rw [decide_eq_decide]; simp]; rfl
  | bad c => rfl
 ·rw [hh]
  cases rs with
  | ok a => exact absurd rfl h0
  | bad c => rfl
end
end
section
variable {V : Mem} {d : Ds} {m : Mm}
def tyM (d : Ds) (k : Int) : ByteArray := ((d.measures[k.toNat]?).map (·.ty)).getD sE
inductive MeaP (d : Ds) (m : Mm) (name : ByteArray) (x : Int) : Int -> Int -> Prop where
 | arg (h : ¬ GoodD d m) : MeaP d m name x 0 1
 | range (h : GoodD d m) (h1 : ¬ (0 <= x /\ x <= (m.nodes.length : Int))) : MeaP d m name x 0 2
 | name (h : GoodD d m) (h1 : 0 <= x /\ x <= (m.nodes.length : Int)) (h2 : mIdx d name < 0) : MeaP d m name x 0 9
 | type (h : GoodD d m) (h1 : 0 <= x /\ x <= (m.nodes.length : Int)) (h2 : 0 <= mIdx d name) (h3 : x ≠ 0 /\ typV d m x ≠ tyM d (mIdx d name)) : MeaP d m name x 0 11
 | val (h : GoodD d m) (h1 : 0 <= x /\ x <= (m.nodes.length : Int)) (h2 : 0 <= mIdx d name) (h3 : x = 0 ∨ typV d m x = tyM d (mIdx d name)) (rs : Rs) (h4 : Out d m (fun _ _ => False) (fun n => evM d m n (mIdx d name) x) rs) : MeaP d m name x (valRs rs) (errRs rs)
theorem mIdx_at {name : ByteArray} (h : ¬ mIdx d name < 0) : ∃ (i : Nat) (ms : Ms), mIdx d name = i /\ d.measures[i]? = some ms /\ ms ∈ d.measures /\ ms.name = name := by
 unfold mIdx at h ⊢
 rcases idx_cases (fun t : Ms => decide (t.name = name)) d.measures with ⟨h1, -, -⟩ | ⟨i, x, h1, h2, h3, h4, h5, -⟩
 ·rw [h1] at h; exact absurd (by decide) h
 ·exact ⟨i, x, h1, h2, List.mem_of_getElem? h2, of_decide_eq_true h5⟩
theorem c12 [Tab V] (hd : Ds.Ok V d) (hm : Mm.Ok V m) {name : ByteArray} {x : Int} : Tri Tryz.prog 12 #[d.v, m.v, .string name, .int .i64 x] V fun e V' => V' = V /\ ∃ v f, e = .returned (.tuple #[.int .i64 v, .int .i64 f]) /\ MeaP d m name x v f := by
 refine Tri.less ?_
 refine x12 (v0 := d.name) (v1 := d.ts) (v2 := d.gs) (v3 := d.ps) (v4 := d.ms) (v5 := d.is) (v6 := d.qs) (v7 := d.bs) (v8 := m.gs) (v9 := m.ns) (v10 := name) (v11 := x) ?_
 unfold w12
 have ret : ∀ {V1 : Mem} {v f : Int}, V.sub V1 -> MeaP d m name x v f -> ∃ W, (W = V /\ ∃ v' f', Ending.returned (.tuple #[.int .i64 v, .int .i64 f]) = .returned (.tuple #[.int .i64 v', .int .i64 f']) /\ MeaP d m name x v' f') /\ W.sub V1 := fun hs hp => ⟨V, ⟨rfl, _, _, rfl, hp⟩, hs⟩
 refine Tri.mono (c35 hd hm) ?_
 rintro _ V1 (⟨p, kb, bb, rfl, S, M⟩ | ⟨hG, rfl, hs⟩)
 rotate_left
 ·exact ⟨_, _, rfl, fun h => absurd h (by decide), fun _ => ret hs (.arg hG)⟩
 refine ⟨_, _, rfl, fun _ => (c36 S M).call ⟨_, rfl, fun h1 => ?_, fun h1 => ret M.sub (.range S.good fun k => h1 (decide_eq_true k))⟩, fun h => absurd rfl h⟩
 have h1 : 0 <= x /\ x <= (m.nodes.length : Int) := of_decide_eq_true h1
 refine (c37 S M).call ⟨_, rfl, fun h2 => ret M.sub (.name S.good h1 h2), fun h2 => ?_⟩
 obtain ⟨i, ms, hi, hms, hmem, -⟩ := mIdx_at h2
 obtain ⟨c1, c2⟩ := (chk_parts S.good.chk).1 ms hmem
 have hname := node_name S.good.valid c1
 have hty : tyM d (mIdx d name) = ms.ty := by unfold tyM; rw [hi, Int.toNat_natCast, hms]; rfl
 have go : valOk d m ms.ty x -> (∀ rs, Out d m (fun _ _ => False) (fun n => evM d m n (mIdx d name) x) rs -> MeaP d m name x (valRs rs) (errRs rs)) ->
   PubT [.pointer (some ⟨p, 0, none⟩)] 83 V1 fun v16 V4 => PubT [.int .i64 (mIdx d name)] 3 V4 fun v17 V5 => PubT [.int .i64 x] 3 V5 fun v18 V6 =>
    Tri Tryz.prog 39 #[.pointer (some ⟨p, 0, none⟩), .func (.func 40) #[] #[.pointer (ptrAdd v16 0), .pointer (ptrAdd v17 0), .pointer (ptrAdd v18 0)]] V6 fun e V7 => ∃ v19 v20, e = .returned (.tuple #[.int .i64 v19, .int .i64 v20]) /\ ∃ W, (W = V /\ ∃ v' f', Ending.returned (.tuple #[.int .i64 v19, .int .i64 v20]) = .returned (.tuple #[.int .i64 v', .int .i64 f']) /\ MeaP d m name x v' f') /\ W.sub V7 := fun hx hR b1 hb1 b2 hb2 b3 hb3 => by
  have s1 := Mem.sub_new hb1 (cell (.pointer (some ⟨p, 0, none⟩)) 83)
  have s2 := Mem.sub_new hb2 (cell (.int .i64 (mIdx d name)) 3)
  have s3 := Mem.sub_new hb3 (cell (.int .i64 x) 3)
  have s := s1.trans (s2.trans s3)
  refine Tri.mono (tryC S (M.grow s) (g := fun n => evM d m n (mIdx d name) x) (caps := [.pointer (some ⟨b1, 0, none⟩), .pointer (some ⟨b2, 0, none⟩), .pointer (some ⟨b3, 0, none⟩)]) Tryz.call40 fun V2 hs1 => ?_) ?_
  ·have h2 := hs1 _ _ (s3 _ _ (Mem.set_same _ _ _))
   rw [hi] at h2 ⊢
   exact c40 S ((M.grow s).grow hs1) (fun _ _ h => by cases h) (hs1 _ _ ((s2.trans s3) _ _ (Mem.set_same _ _ _))) h2 (hs1 _ _ (Mem.set_same _ _ _)) hms hx
  ·rintro _ V' ⟨rs, rfl, ho, -, kn', m1, -⟩
   exact ⟨_, _, rfl, ret m1.sub (hR rs ho)⟩
 have hd1 := hd.sub M.sub
 have hil := (List.getElem?_eq_some_iff.1 hms).1
 have hn := hd1.measures.n_eq
 refine ⟨fun h0 => ?_, fun h0 => ?_⟩
 ·have h0 : x = 0 := h0
  refine go (by rw [h0]; unfold valOk; rw [if_neg (name_ne hname kwNil)]; exact right_zero hname) fun rs ho => .val S.good h1 (by omega) (.inl h0) rs ho
 ·have h0 : ¬ x = 0 := h0
  obtain ⟨y, -, hy, -, hl, hp, hz, hrow⟩ := hd1.measures.get (i := i) (by omega)
  rw [hms] at hy; cases hy
  rw [hi] at go ⊢
  refine ⟨hp, hz, by omega, ptrAdd_ne hp, _, _, _, _, _, _, _, hrow, (c38 S M h1).call ⟨_, rfl, rowp_part (j := 1) (m := 1) hrow (by decide) (by decide), ptrAdd_ne hp, hp, hz, by omega, fun h3 => ?_, fun h3 => ?_⟩⟩
  ·have h3 : typV d m x = ms.ty := h3
   refine go ?_ fun rs ho => ?_
   ·rcases this_typ S.good h1.1 h1.2 with ⟨-, h⟩ | ⟨-, -, h⟩
    ·exact absurd h h0
    ·unfold valOk; rw [if_neg (name_ne hname kwNil), <- h3]; exact h
   ·have := MeaP.val (name := name) S.good h1 (by omega) (.inr (h3.trans hty.symm)) rs (by rw [hi]; exact ho)
    exact this
  ·exact ret M.sub (.type S.good h1 (by omega) ⟨h0, fun h => h3 (h.trans hty)⟩)
end
end Go.Proofs
namespace Go.Sx
open Go
open Classical
section
variable {P : Program} {V0 V1 V : Mem} {e : TypeId} {sz : Nat} {s : Sl} {vs : List Value}
def Blk (s : Sl) (c : Nat) : Prop := s.c ≠ 0 /\ s.p = some ⟨c, 0, none⟩
noncomputable def Mem.but (V : Mem) (s : Sl) : Mem := fun c => if Blk s c then none else V c
theorem Mem.but_sub (V : Mem) (s : Sl) : (V.but s).sub V := fun c o h => by
 unfold Mem.but at h
 split at h
 ·cases h
 ·exact h
theorem Mem.but_at {c : Nat} {o : Obj} (h : V c = some o) (hn : ¬ Blk s c) : V.but s c = some o := by
 unfold Mem.but; rw [if_neg hn]; exact h
theorem Own.cases0 (h : Own V0 V e sz s vs) : (s.n = 0 /\ s.c = 0 /\ vs = []) ∨ (s.c ≠ 0 /\ ∃ g cur, s.p = some ⟨g, 0, none⟩ /\ V0 g = none /\ V g = some (.cells cur e (0, 0)) /\ s.n <= s.c /\ s.c <= maxLen /\ cur.size = s.c * sz /\ cur.toList.take (s.n * sz) = vs) := by
 rcases h.at_ with h1 | ⟨g, cur, h1, h2, h3, h4, h5⟩
 ·exact .inl h1
 ·by_cases hc : s.c = 0
  ·have hn : s.n = 0 := by omega
   refine .inl ⟨hn, hc, ?_⟩
   have := h.len
   rw [hn, Nat.zero_mul] at this
   exact List.eq_nil_of_length_eq_zero this
  ·exact .inr ⟨hc, g, cur, h1, h2, h3, h4, h5⟩
theorem Own.but (h : Own V0 V e sz s vs) : Own (V.but s) V e sz s vs := by
 refine ⟨Mem.but_sub V s, h.len, ?_⟩
 rcases h.cases0 with h1 | ⟨hc, g, cur, h1, h2, h3⟩
 ·exact .inl h1
 ·refine .inr ⟨g, cur, h1, ?_, h3⟩
  unfold Mem.but
  rw [if_pos ⟨hc, h1⟩]
theorem Own.apart (h : Own V0 V e sz s vs) {c : Nat} (hc : ∀ cur, V c ≠ some (.cells cur e (0, 0))) : ¬ Blk s c := by
 rintro ⟨h0, hp⟩
 rcases h.cases0 with ⟨-, h1, -⟩ | ⟨-, g, cur, h1, h2, h3, -⟩
 ·exact h0 h1
 ·rw [h1] at hp; cases hp; exact hc cur h3
theorem Own.apart0 (h : Own V0 V e sz s vs) {c : Nat} {o : Obj} (hc : V0 c = some o) : ¬ Blk s c := by
 rintro ⟨h0, hp⟩
 rcases h.cases0 with ⟨-, h1, -⟩ | ⟨-, g, cur, h1, h2, -⟩
 ·exact h0 h1
 ·rw [h1] at hp; cases hp; rw [h2] at hc; cases hc
theorem Own.sub_but (h : Own V0 V e sz s vs) : V0.sub (V.but s) := fun _ _ hc => Mem.but_at (h.sub _ _ hc) (h.apart0 hc)
theorem Own.narrow (h : Own V1 V e sz s vs) (hs : V0.sub V1) : Own V0 V e sz s vs := ⟨hs.trans h.sub, h.len, by
 rcases h.at_ with h1 | ⟨g, cur, h1, h2, h3⟩
 ·exact .inl h1
 ·refine .inr ⟨g, cur, h1, ?_, h3⟩
  cases hg : V0 g with
  | none => rfl
  | some o => rw [hs _ _ hg] at h2; cases h2⟩
theorem Own.put (h : Own V0 V e sz s vs) {c : Nat} (hn : ¬ Blk s c) (h0 : V0 c = none) (o : Obj) : Own V0 (V.set c o) e sz s vs := ⟨h.sub.set h0 o, h.len, by
 rcases h.cases0 with h1 | ⟨hc, g, cur, h1, h2, h3, h4⟩
 ·exact .inl h1
 ·refine .inr ⟨g, cur, h1, h2, ?_, h4⟩
  rw [Mem.set_ne fun e => hn ⟨hc, by rw [<- e]; exact h1⟩]; exact h3⟩
theorem findNow_int (k : Int) : ∀ (es : List MapEntry) (i : Nat), (∀ e ∈ es, ∃ n, e.key = .int .i64 n) ->
  Instr.findNow (.int .i64) (.int .i64 k) es i = some ((es.findIdx? fun e => decide (e.key = .int .i64 k)).bind fun j => (es[j]?).map fun e => (i + j, e.val))
 | [], _, _ => rfl
 | e :: es, i, h => by
  obtain ⟨s, hs⟩ := h e (by simp)
  have ih := findNow_int k es (i + 1) fun x hx => h x (by simp [hx])
  unfold Instr.findNow
  simp only [hs, Instr.sameNow, List.findIdx?_cons]
  by_cases hk : k = s
  ·subst hk
   simp
  ·have hk' : ¬ s = k := fun e => hk e.symm
   simp only [ih]
   have hb : (k == s) = false := by simpa using hk
   cases h' : List.findIdx? (fun e => decide (e.key = Value.int .i64 k)) es with
   | none => simp [hk', hb]
   | some j => simp [hk', hb, Nat.add_assoc, Nat.add_comm 1 j]
theorem keyInt {kt : TypeId} (hk : P.underlying kt = some (.int .i64)) : KeyOf P kt (Value.int .i64) where
 inj := fun a b h => by cases h; rfl
 find := fun a es w h => by
  unfold Instr.findKey
  simp only [Sem.run_bind, run_underlying hk, Result.andThen_ok, findNow_int a es 0 h, Nat.zero_add]
  rfl
 check := fun b a w => by
  unfold Instr.checkKey
  simp only [Sem.run_bind, run_underlying hk, Result.andThen_ok]
  rfl
 stays := fun a w => by
  have h : Instr.sameBits 10000 (.int .i64 a) (.int .i64 a) = true := by
   rw [show (10000 : Nat) = 9999 + 1 from rfl]
   simp [Instr.sameBits]
  unfold Instr.keyThatStays
  rw [if_pos h]; rfl
end
end Go.Sx
namespace Go.Proofs
open Go Go.Sx
attribute [local irreducible] Go.Sx.Tri
theorem app31 {V0 V : Mem} {ty : Nat} {x y : Operand} {vals : Operand -> Value} {s u : Sl} {xs ys : List Int} (hx : vals x = .slice s.p s.n s.c) (hy : vals y = .slice u.p u.n u.c) (own : Sx.Own V0 V 3 1 s (xs.flatMap intRow)) (hnew : RowsAt V u 1 (ys.map intRow))
  (hfit : xs.length + ys.length <= 2147483648) {q : Value -> Mem -> Prop} (hq : ∀ s' V', Sx.Own V0 V' 3 1 s' ((xs ++ ys).flatMap intRow) -> q (.slice s'.p s'.n s'.c) V') :
  GenK Tryz.prog (.call { callee := .builtin .append, args := #[x, y], argTypes := #[31, 31] }) ty vals V q := by
 have hi : Tryz.prog.info? 3 = some (ti 3) := by kernel_rfl
 have hz : (ti 3).zero = some ((ti 3).zero.getD undef) := by kernel_rfl
 have h1 : (ti 3).size = 1 := by kernel_rfl
 have h2 : ((ti 3).zero.getD undef).cells.size = 1 := by kernel_rfl
 have h3 : (ti 3).bytes <= 65536 := of_decide_eq_true (by kernel_rfl)
 exact GenK.appendS Tryz.underlying31 hi hz h1 h2 (by decide) h3 hx hy own (fun _ => rfl) hnew (fun x u hu => by
  simp only [intRow, List.mem_cons, List.not_mem_nil, or_false] at hu
  first
  | (rcases hu with rfl | rfl <;> rfl)
  | (subst hu; rfl)) hfit hq
def vioRow (x : ByteArray × Int) : List Value := [.string x.1, .int .i64 x.2]
theorem app48 {V0 V : Mem} {ty : Nat} {x y : Operand} {vals : Operand -> Value} {s u : Sl} {xs ys : List (ByteArray × Int)} (hx : vals x = .slice s.p s.n s.c) (hy : vals y = .slice u.p u.n u.c) (own : Sx.Own V0 V 52 2 s (xs.flatMap vioRow)) (hnew : RowsAt V u 2 (ys.map vioRow))
  (hfit : xs.length + ys.length <= 2147483648) {q : Value -> Mem -> Prop} (hq : ∀ s' V', Sx.Own V0 V' 52 2 s' ((xs ++ ys).flatMap vioRow) -> q (.slice s'.p s'.n s'.c) V') :
  GenK Tryz.prog (.call { callee := .builtin .append, args := #[x, y], argTypes := #[48, 48] }) ty vals V q := by
 have hi : Tryz.prog.info? 52 = some (ti 52) := by kernel_rfl
 have hz : (ti 52).zero = some ((ti 52).zero.getD undef) := by kernel_rfl
 have h1 : (ti 52).size = 2 := by kernel_rfl
 have h2 : ((ti 52).zero.getD undef).cells.size = 2 := by kernel_rfl
 have h3 : (ti 52).bytes <= 65536 := of_decide_eq_true (by kernel_rfl)
 exact GenK.appendS Tryz.underlying48 hi hz h1 h2 (by decide) h3 hx hy own (fun _ => rfl) hnew (fun x u hu => by
  simp only [vioRow, List.mem_cons, List.not_mem_nil, or_false] at hu
  first
  | (rcases hu with rfl | rfl <;> rfl)
  | (subst hu; rfl)) hfit hq
theorem app32 {V0 V : Mem} {ty : Nat} {x y : Operand} {vals : Operand -> Value} {s u : Sl} {xs ys : List Nd} (hx : vals x = .slice s.p s.n s.c) (hy : vals y = .slice u.p u.n u.c) (own : Sx.Own V0 V 99 2 s (xs.flatMap Nd.row)) (hnew : RowsAt V u 2 (ys.map Nd.row))
  (hfit : xs.length + ys.length <= 2147483648) {q : Value -> Mem -> Prop} (hq : ∀ s' V', Sx.Own V0 V' 99 2 s' ((xs ++ ys).flatMap Nd.row) -> q (.slice s'.p s'.n s'.c) V') :
  GenK Tryz.prog (.call { callee := .builtin .append, args := #[x, y], argTypes := #[32, 32] }) ty vals V q := by
 have hi : Tryz.prog.info? 99 = some (ti 99) := by kernel_rfl
 have hz : (ti 99).zero = some ((ti 99).zero.getD undef) := by kernel_rfl
 have h1 : (ti 99).size = 2 := by kernel_rfl
 have h2 : ((ti 99).zero.getD undef).cells.size = 2 := by kernel_rfl
 have h3 : (ti 99).bytes <= 65536 := of_decide_eq_true (by kernel_rfl)
 exact GenK.appendS Tryz.underlying32 hi hz h1 h2 (by decide) h3 hx hy own (fun _ => rfl) hnew (fun x u hu => by
  simp only [Nd.row, Sl.v, List.mem_cons, List.not_mem_nil, or_false] at hu
  first
  | (rcases hu with rfl | rfl <;> rfl)
  | (subst hu; rfl)) hfit hq
theorem one_int {V : Mem} {b : Nat} {n : Int} {t : Nat} (h : V b = some (.cells #[.int .i64 n] t (0, 0))) : RowsAt V ⟨some ⟨b, 0, none⟩, 1, 1⟩ 1 ([n].map intRow) :=
 RowsAt.cells (xs := [n]) (row := intRow) h rfl (fun _ => rfl) rfl (by simp)
section
variable {V0 V V1 : Mem} {d : Ds} {m : Mm} {p ib : Nat} {st : Sr} {o : Sl}
theorem StT.at2 {V : Mem} {b : Nat} {c : Array Value} {t off : Nat} {vs : List Value} {q : Mem -> Prop} (h : V b = some (.cells c t (0, 0))) (hl : off + vs.length <= c.size)
  (hq : q (V.set b (.cells (c.toList.take off ++ vs ++ c.toList.drop (off + vs.length)).toArray t (0, 0)))) : StT (ptrAdd (some ⟨b, 0, none⟩) off) 0 vs V q := by
 have e : ptrAdd (some ⟨b, 0, none⟩) off = some ⟨b, off, none⟩ := by
  unfold ptrAdd Addr.add
  simp only [Option.map_some]
  split <;> simp_all
 rw [e]
 exact ⟨⟨b, off, none⟩, c, t, rfl, h, rfl, by simpa using hl, by simpa using hq⟩
def srow (d : Ds) (m : Mm) (o : Sl) (ib : Nat) (a : Int) : List Value := [Go.Sx.vS d.name, d.ts.v, d.gs.v, d.ps.v, d.ms.v, d.is.v, d.qs.v, d.bs.v, m.gs.v, m.ns.v, o.v, .map (some ib), .int .i64 a]
structure SrAt (V0 : Mem) (d : Ds) (m : Mm) (p ib : Nat) (V : Mem) (st : Sr) (o : Sl) : Prop where
 at_ : V p = some (.cells (srow d m o ib st.again).toArray 152 (0, 0))
 own : Sx.Own V0 V 3 1 o (st.order.flatMap intRow)
 map : ∃ f : Int -> Option Int, MapV (Value.int .i64) V ib (fun n => (f n).map (Value.int .i64)) /\ ∀ n, (n ∈ st.order -> ∃ j, f n = some j /\ 1 <= j) /\ (¬ n ∈ st.order -> f n = none)
 cap : st.order.length + unS m st <= m.nodes.length
 rng : ∀ x ∈ st.order, 1 <= x /\ x <= (m.nodes.length : Int)
structure SrS (V0 : Mem) (d : Ds) (m : Mm) (p ib : Nat) : Prop where
 valid : validD d = true
 mem : validM d m = true
 ds : Ds.Ok V0 d
 mm : Mm.Ok V0 m
 p0 : V0 p = none
 i0 : V0 ib = none
 pi : p ≠ ib
theorem SrAt.cell (h : SrAt V0 d m p ib V st o) (i n : Nat) (hi : i + n <= 13) : V.rowp (some ⟨p, 0, none⟩) i n = some (((srow d m o ib st.again).drop i).take n) := row_cells h.at_ i n hi
theorem unS_le {a b : Sr} (h : ∀ x ∈ a.order, x ∈ b.order) : unS m b <= unS m a := by
 unfold unS
 refine filter_le fun i _ hi => ?_
 simp only [Bool.not_eq_true', decide_eq_false_iff_not] at hi ⊢
 exact fun k => hi (h _ k)
theorem unS_lt {n : Int} (hn : 1 <= n /\ n <= (m.nodes.length : Int)) (h : ¬ n ∈ st.order) {a : Int} : unS m ⟨st.order ++ [n], a⟩ < unS m st := by
 unfold unS
 obtain ⟨i, rfl⟩ : ∃ i : Nat, n = (i : Int) + 1 := ⟨(n - 1).toNat, by omega⟩
 refine filter_lt (fun j _ hj => ?_) i (List.mem_range.2 (by omega)) (by simpa using h) (by simp)
 simp only [Bool.not_eq_true', decide_eq_false_iff_not] at hj ⊢
 exact fun k => hj (List.mem_append_left _ k)
theorem ref_in {xs : List Fld} {vs : List Int} (h : valuesB d m xs vs = true) {i : Nat} {f : Fld} {v : Int} (hf : xs[i]? = some f) (hvv : vs[i]? = some v) (hp : plainT f.ty = false) (h0 : v ≠ 0) : 1 <= v /\ v <= (m.nodes.length : Int) := by
 obtain ⟨v', hv', hr⟩ := values_at h hf
 rw [hvv] at hv'; cases hv'
 unfold plainT at hp
 simp only [Bool.or_eq_false_iff, decide_eq_false_iff_not] at hp
 unfold rightB at hr
 rw [if_neg hp.1, if_neg hp.2, decide_eq_true_eq] at hr
 rcases hr with h | ⟨h1, h2, -⟩
 ·exact absurd h h0
 ·exact ⟨h1, h2⟩
def SrPost (V0 : Mem) (d : Ds) (m : Mm) (p ib : Nat) (st : Sr) : Ending -> Mem -> Prop := fun e V' => e = .returned (.tuple #[]) /\ ∃ o, SrAt V0 d m p ib V' st o
variable (V0 d m p ib) in
def EntC (N : Nat) : Prop := ∀ (st : Sr) (n : Int) (f : Nat) V o, SrAt V0 d m p ib V st o -> 1 <= n /\ n <= (m.nodes.length : Int) -> unS m st <= N -> unS m st < f ->
 Tri Tryz.prog 191 #[.pointer (some ⟨p, 0, none⟩), .int .i64 n] V (SrPost V0 d m p ib (entP d m f st n))
theorem lookC {N : Nat} (hE : EntC V0 d m p ib N) {l s : Sl} {xs : List Fld} {vs : List Int} (hl : RowsAt V0 l 2 (xs.map Fld.row)) (hs : RowsAt V0 s 1 (vs.map intRow)) (hv : valuesB d m xs vs = true) {f : Nat} (h : SrAt V0 d m p ib V st o) (hN : unS m st <= N) (hf : unS m st < f) :
  Tri Tryz.prog 133 #[.pointer (some ⟨p, 0, none⟩), l.v, s.v] V (SrPost V0 d m p ib ((tgt xs vs).foldl (entP d m f) st)) := by
 refine Tri.mono (x133 (v0 := some ⟨p, 0, none⟩) (v1 := l) (v2 := s) (R := SrPost V0 d m p ib ((tgt xs vs).foldl (entP d m f) st)) ?_) fun _ _ h => h
 unfold w133
 have hlen : xs.length = vs.length := by
  unfold valuesB at hv
  rw [Bool.and_eq_true, decide_eq_true_eq] at hv
  exact hv.1
 refine loop1 xs.length (fun i V1 => ∃ o1, SrAt V0 d m p ib V1 ((tgtI xs vs i).foldl (entP d m f) st) o1) ⟨o, by rw [tgtI_zero]; exact h⟩ ?_
 rintro i V1 J hi ⟨o1, h1⟩ hJ
 have hl1 := hl.sub h1.own.sub
 have hs1 := hs.sub h1.own.sub
 refine ⟨fun hlt => ?_, fun hge => ?_⟩
 ·obtain ⟨x, hxm, hx, -, hil, hp, hz, hrow⟩ := hl1.get hlt
  have n1 := hl1.n_eq
  have n2 := hs1.n_eq
  obtain ⟨y, hym, hy, -, hjl, hpy, hzy, hrowy⟩ := hs1.get (i := i) (by omega)
  have hu : unS m ((tgtI xs vs i).foldl (entP d m f) st) <= unS m st := unS_le fun z hz => foldP_sub d m f z _ _ hz
  have same : isRef (x, y) = false -> ∃ o2, SrAt V0 d m p ib V1 ((tgtI xs vs (i + 1)).foldl (entP d m f) st) o2 := fun hr => by
   rw [tgtI_succ hx hy, hr, if_neg (by decide), List.append_nil]; exact ⟨o1, h1⟩
  refine ⟨hp, hz, hlt, _, _, hrow, c170.call ⟨_, rfl, fun h2 => ⟨hl1.succ hlt, hJ hil _ (same ?_)⟩, fun h2 => ⟨hpy, hzy, by omega, _, hrowy, fun h3 => ⟨hl1.succ hlt, hJ hil _ (same ?_)⟩, fun h3 => ⟨hpy, hzy, by omega, _, hrowy, ?_⟩⟩⟩⟩
  ·unfold isRef; rw [show plainT x.ty = true from h2]; rfl
  ·have h3 : y = 0 := h3
   unfold isRef; rw [h3]; simp
  ·have hpl : plainT x.ty = false := (Bool.not_eq_true _).mp h2
   have h3 : ¬ y = 0 := h3
   have hr : isRef (x, y) = true := by unfold isRef; rw [hpl, decide_eq_true h3]; rfl
   refine Tri.mono (hE _ y f V1 o1 h1 (ref_in hv hx hy hpl h3) (by omega) (by omega)) ?_
   rintro _ V2 ⟨rfl, o2, h4⟩
   refine ⟨rfl, hl1.succ hlt, hJ hil _ ⟨o2, ?_⟩⟩
   rw [tgtI_succ hx hy, hr, if_pos rfl, List.foldl_append, List.foldl_cons, List.foldl_nil]
   exact h4
 ·have hd := (hl1.done hge).2
  rw [tgtI_all hd] at h1
  exact ⟨rfl, o1, h1⟩
theorem enterC (S : SrS V0 d m p ib) (N : Nat) (ih : ∀ N', N' < N -> EntC V0 d m p ib N') : EntC V0 d m p ib N := by
 intro st n f V o h hn hN hf
 obtain ⟨f, rfl⟩ : ∃ f', f = f' + 1 := ⟨f - 1, by omega⟩
 refine Tri.mono (x191 (v0 := some ⟨p, 0, none⟩) (v1 := n) (R := SrPost V0 d m p ib (entP d m (f + 1) st n)) ?_) fun _ _ h => h
 unfold w191
 obtain ⟨g, hg, hgm⟩ := h.map
 refine ⟨nn, nn, _, h.cell 11 1 (by decide), LookK.key1 (k := n) (keyInt Tryz.underlying3) Tryz.underlying150 zeroInt hg ?_⟩
 by_cases hin : n ∈ st.order
 ·obtain ⟨j, hj, hj1⟩ := (hgm n).1 hin
  rw [hj]
  refine ⟨j, rfl, fun h0 => ?_, fun _ => ⟨nn, nn, _, h.cell 12 1 (by decide), fun h0 => ⟨nn, nn, ?_⟩, fun h0 => ?_⟩⟩
  ·have h0 : j = 0 := h0
   omega
  ·have h0 : st.again = 0 := h0
   have e : entP d m (f + 1) st n = ⟨st.order, n⟩ := by unfold entP; rw [if_pos hin, if_pos h0]
   rw [e]
   refine StT.at2 (off := 12) h.at_ (by simp [srow]) ⟨rfl, o, ?_, h.own.put (h.own.apart fun cur hc => ?_) S.p0 _, ⟨g, hg.set S.pi.symm, hgm⟩, h.cap, h.rng⟩
   ·rw [Mem.set_same]; rfl
   ·rw [h.at_] at hc; cases hc
  ·have h0 : ¬ st.again = 0 := h0
   have e : entP d m (f + 1) st n = st := by unfold entP; rw [if_pos hin, if_neg h0]
   rw [e]
   exact ⟨rfl, o, h⟩
 ·rw [(hgm n).2 hin]
  have hcap := h.cap
  have hlt := unS_lt (st := st) hn hin (a := st.again)
  refine ⟨0, rfl, fun _ => ⟨nn, nn, o, h.cell 10 1 (by decide), fun tb htb => ?_⟩, fun h0 => absurd rfl h0⟩
  have pne : ∀ cur, V p ≠ some (.cells cur 3 (0, 0)) := fun cur hc => by rw [h.at_] at hc; cases hc
  have ine : ∀ cur, V ib ≠ some (.cells cur 3 (0, 0)) := fun cur hc => by
   obtain ⟨e1, c1, k1, -⟩ := hg.at_
   rw [k1] at hc; cases hc
  have hpt : tb ≠ p := fun e => by rw [e, h.at_] at htb; cases htb
  have hit : tb ≠ ib := fun e => by
   obtain ⟨e1, c1, k1, -⟩ := hg.at_
   rw [e, k1] at htb; cases htb
  have m4 := (validM_parts S.mem).2.1
  have hown2 := (h.own.but).new htb (.cells #[.int .i64 n] 3 (0, 0))
  refine app31 (s := o) (u := ⟨some ⟨tb, 0, none⟩, 1, 1⟩) (xs := st.order) (ys := [n]) rfl rfl hown2 (one_int (Mem.set_same _ _ _)) (by simp; omega) fun o2 V2 ho2 => ⟨o2, rfl, nn, nn, ?_⟩
  have hsub := ho2.sub
  have hp2 : V2 p = some (.cells (srow d m o ib st.again).toArray 152 (0, 0)) := hsub _ _ (Mem.but_at h.at_ (h.own.apart pne))
  have hg2 : MapV (Value.int .i64) V2 ib fun n => (g n).map (Value.int .i64) := by
   obtain ⟨e1, c1, k1, k2⟩ := hg.at_
   exact ⟨e1, c1, hsub _ _ (Mem.but_at k1 (h.own.apart ine)), k2⟩
  have ho3 : Sx.Own V0 V2 3 1 o2 ((st.order ++ [n]).flatMap intRow) := ho2.narrow h.own.sub_but
  refine StT.at2 (off := 10) hp2 (by simp [srow]) ?_
  obtain ⟨V3, hV3⟩ : ∃ V3, V3 = V2.set p (.cells (srow d m o2 ib st.again).toArray 152 (0, 0)) := ⟨_, rfl⟩
  have hgoal : V2.set p (.cells ((srow d m o ib st.again).toArray.toList.take 10 ++ [uL o2] ++ (srow d m o ib st.again).toArray.toList.drop (10 + [uL o2].length)).toArray 152 (0, 0)) = V3 := hV3.symm
  have hp3 : V3 p = some (.cells (srow d m o2 ib st.again).toArray 152 (0, 0)) := by rw [hV3, Mem.set_same]
  have hg3 : MapV (Value.int .i64) V3 ib fun n => (g n).map (Value.int .i64) := by rw [hV3]; exact hg2.set S.pi.symm
  have pne2 : ∀ cur, V2 p ≠ some (.cells cur 3 (0, 0)) := fun cur hc => by rw [hp2] at hc; cases hc
  have ho4 : Sx.Own V0 V3 3 1 o2 ((st.order ++ [n]).flatMap intRow) := by rw [hV3]; exact ho3.put (ho3.apart pne2) S.p0 _
  show ¬ _ /\ _
  rw [hgoal]
  refine ⟨nn, nn, _, row_cells hp3 11 1 (by simp [srow]), nn, nn, o2, row_cells hp3 10 1 (by simp [srow]), UpdK.key (k := n) (keyInt Tryz.underlying3) Tryz.underlying150 hg3 fun ob hob => ?_⟩
  have hn2 := ho4.n_eq (fun _ => rfl) (by decide)
  have h5 : SrAt V0 d m p ib (V3.set ib ob) ⟨st.order ++ [n], st.again⟩ o2 := by
   refine ⟨by rw [Mem.set_ne S.pi]; exact hp3, ho4.put (ho4.apart fun cur hc => ?_) S.i0 _, ⟨fun x => if x = n then some (o2.n : Int) else g x, hob.congr fun x => ?_, fun x => ⟨fun hx => ?_, fun hx => ?_⟩⟩, ?_, fun x hx => ?_⟩
   ·obtain ⟨e1, c1, k1, -⟩ := hg3.at_
    rw [k1] at hc; cases hc
   ·by_cases hx : x = n <;> simp [hx]
   ·by_cases hxn : x = n
    ·refine ⟨o2.n, by simp [hxn], ?_⟩
     rw [hn2, List.length_append, List.length_singleton]; omega
    ·obtain ⟨j, hj, hj1⟩ := (hgm x).1 (by simpa [hxn] using hx)
     exact ⟨j, by simp [hxn, hj], hj1⟩
   ·have hx' : ¬ x ∈ st.order /\ ¬ x = n := by simpa using hx
    simp [hx'.2, (hgm x).2 hx'.1]
   ·show (st.order ++ [n]).length + _ <= _
    rw [List.length_append, List.length_singleton]; omega
   ·rcases List.mem_append.1 hx with hx | hx
    ·exact h.rng x hx
    ·rw [List.mem_singleton.1 hx]; exact hn
  obtain ⟨q, rfl⟩ : ∃ q : Nat, n = (q : Int) + 1 := ⟨(n - 1).toNat, by omega⟩
  have hmm := S.mm.sub h5.own.sub
  have hdd := S.ds.sub h5.own.sub
  have hnn := hmm.nodes.n_eq
  obtain ⟨x, hxm, hx, -, hl2, hpx, hzx, hrowx⟩ := hmm.nodes.get (i := q) (by omega)
  have hty := (validM_parts S.mem).2.2.1 x hxm
  obtain ⟨c1, c2⟩ := of_decide_eq_true hty
  obtain ⟨j, hj⟩ : ∃ j : Nat, x.ty = (j : Int) := ⟨_, (Int.toNat_of_nonneg c1).symm⟩
  have htn := hdd.types.n_eq
  obtain ⟨t, htm, ht, -, hl3, hpt3, hzt, hrowt⟩ := hdd.types.get (i := j) (by omega)
  have hI : IR ((q : Int)) := ⟨by omega, by have := (hmm.nodes.succ (i := q) (by omega)).2; omega⟩
  rw [show ((q : Int) + 1 - 1) = (q : Int) by omega]
  refine ⟨nn, nn, pnn, m.ns, h5.cell 9 1 (by decide), hI, hpx, hzx, by omega, _, _, hrowx, nn, nn, pnn, d.ts, h5.cell 1 1 (by decide), ?_⟩
  rw [hj]
  have hfo := fieldsOf_at ht hj
  have hvals := (validM_parts S.mem).2.2.2.2 x hxm
  rw [hfo] at hvals
  refine ⟨hpt3, hzt, by omega, ptrAdd_ne hpt3, _, _, hrowt, Tri.mono (lookC (ih (unS m ⟨st.order ++ [(q : Int) + 1], st.again⟩) (by omega)) (S.ds.typesOk t htm).fields (S.mm.nodesOk x hxm).rows hvals (f := f) h5 (Nat.le_refl _) (by omega)) ?_⟩
  rintro _ V5 ⟨rfl, o5, h6⟩
  refine ⟨rfl, rfl, o5, ?_⟩
  have e : entP d m (f + 1) st ((q : Int) + 1) = (tgt t.fields x.f).foldl (entP d m f) ⟨st.order ++ [(q : Int) + 1], st.again⟩ := by
   rw [entP, if_neg hin]
   unfold nodeTgt
   rw [show ((q : Int) + 1 - 1).toNat = q by omega, hx]
   show (tgt (fieldsOf d x.ty) x.f).foldl _ _ = _
   rw [hfo]
  rw [e]; exact h6
theorem entAll (S : SrS V0 d m p ib) : ∀ N, EntC V0 d m p ib N := fun N => Nat.strongRecOn N fun N ih => enterC S N ih
end
section
variable {V : Mem} {d : Ds} {m : Mm}
theorem c83 (hv : validD d = true) (hmv : validM d m = true) (hd : Ds.Ok V d) (hm : Mm.Ok V m) : Tri Tryz.prog 83 #[d.v, m.v] V fun e V' => ∃ p ib o, e = .returned (.pointer (some ⟨p, 0, none⟩)) /\ SrAt V d m p ib V' (reachP d m) o := by
 refine x83 (v0 := d.name) (v1 := d.ts) (v2 := d.gs) (v3 := d.ps) (v4 := d.ms) (v5 := d.is) (v6 := d.qs) (v7 := d.bs) (v8 := m.gs) (v9 := m.ns) ?_
 unfold w83
 refine GenK.makeMap fun ib hib => ⟨some ib, rfl, fun p hp => ?_⟩
 have n1 : p ≠ ib := fun e => by rw [e, Mem.set_same] at hp; cases hp
 have hp0 : V p = none := by rw [Mem.set_ne n1] at hp; exact hp
 have s1 := Mem.sub_new hib (.map #[] 0)
 have s2 := Mem.sub_new hp (.cells (srow d m ⟨none, 0, 0⟩ ib 0).toArray 152 (0, 0))
 have S : SrS V d m p ib := ⟨hv, hmv, hd, hm, hp0, hib, n1⟩
 have h0 : SrAt V d m p ib ((V.set ib (.map #[] 0)).set p (.cells (srow d m ⟨none, 0, 0⟩ ib 0).toArray 152 (0, 0))) ⟨[], 0⟩ ⟨none, 0, 0⟩ :=
  ⟨Mem.set_same _ _ _, Own.nil (s1.trans s2) _ _, ⟨fun _ => none, (((MapV.made V ib).sub s2)).congr fun _ => rfl, fun _ => ⟨fun h => by simp at h, fun _ => rfl⟩⟩, by
   show 0 + unS m ⟨[], 0⟩ <= _
   unfold unS
   have := List.length_filter_le (fun i : Nat => !decide (((i : Int) + 1) ∈ (⟨[], 0⟩ : Sr).order)) (List.range m.nodes.length)
   rw [List.length_range] at this
   omega, fun x h => by simp at h⟩
 have hu : unS m ⟨[], 0⟩ <= m.nodes.length := by have := h0.cap; simp at this; omega
 refine Tri.mono (lookC (entAll S m.nodes.length) hd.globals hm.globals (validM_parts hmv).2.2.2.1 (f := m.nodes.length + 1) h0 hu (by omega)) ?_
 rintro _ V2 ⟨rfl, o, h⟩
 exact ⟨rfl, p, ib, o, rfl, h⟩
theorem c49 [Tab V] (hv : validD d = true) (hmv : validM d m = true) (hd : Ds.Ok V d) (hm : Mm.Ok V m) : Tri Tryz.prog 49 #[d.v, m.v] V fun e V' => ∃ o : Sl, e = .returned (.tuple #[.slice o.p o.n o.c, .int .i64 0]) /\ Sx.Own V V' 3 1 o ((reachP d m).order.flatMap intRow) /\ (reachP d m).order.length <= m.nodes.length /\ ∀ x ∈ (reachP d m).order, 1 <= x /\ x <= (m.nodes.length : Int) := by
 refine x49 (v0 := d.name) (v1 := d.ts) (v2 := d.gs) (v3 := d.ps) (v4 := d.ms) (v5 := d.is) (v6 := d.qs) (v7 := d.bs) (v8 := m.gs) (v9 := m.ns) ?_
 unfold w49
 refine (c69 hd hm).call ⟨_, rfl, fun _ => Tri.mono (c83 hv hmv hd hm) ?_, fun h => absurd hmv h⟩
 rintro _ V2 ⟨p, ib, o, rfl, h⟩
 have hc := h.cap
 exact ⟨_, rfl, nn, nn, o, h.cell 10 1 (by decide), o, rfl, h.own, by omega, h.rng⟩
end
theorem Own.keep {W V V' : Mem} {e : TypeId} {sz : Nat} {s : Sl} {vs : List Value} {kb bb : Nat} (h : Sx.Own W V e sz s vs) (hk : Keep kb bb V V') (hs : W.sub V') (h1 : ∀ c, V kb ≠ some (.cells c e (0, 0))) (h2 : ∀ c, V bb ≠ some (.cells c e (0, 0))) : Sx.Own W V' e sz s vs := ⟨hs, h.len, by
 rcases h.at_ with h' | ⟨g, cur, a, b, c, d⟩
 ·exact .inl h'
 ·exact .inr ⟨g, cur, a, b, hk _ _ (fun e => h1 cur (by rw [<- e]; exact c)) (fun e => h2 cur (by rw [<- e]; exact c)) c, d⟩⟩
section
variable {W V : Mem} {d : Ds} {m : Mm} {p kb bb : Nat} {kn : Int × Int -> Option Int} {bz : Int × Int -> Bool}
theorem Mach.kMap (M : Mach W d m p kb bb V kn bz) {e : TypeId} : ∀ c, V kb ≠ some (.cells c e (0, 0)) := fun c hc => by
 obtain ⟨e1, c1, k1, -⟩ := M.known.at_
 rw [k1] at hc; cases hc
theorem Mach.bMap (M : Mach W d m p kb bb V kn bz) {e : TypeId} : ∀ c, V bb ≠ some (.cells c e (0, 0)) := fun c hc => by
 obtain ⟨e1, c1, k1, -⟩ := M.busy.at_
 rw [k1] at hc; cases hc
structure AllSt (W : Mem) (d : Ds) (m : Mm) (p kb bb : Nat) (V : Mem) (s : Sl) (xs : List (ByteArray × Int)) : Prop where
 own : Sx.Own W V 52 2 s (xs.flatMap vioRow)
 mach : ∃ kn, Mach W d m p kb bb V kn bz0 /\ KnOk d m kn
theorem AllSt.hold (S : Stat W d m p kb bb) {s : Sl} {xs : List (ByteArray × Int)} (h : AllSt W d m p kb bb V s xs) {v : Iv} {x : Int} (hv : v ∈ d.invs) (hT : This d m v.ty x) :
  Tri Tryz.prog 50 #[.pointer (some ⟨p, 0, none⟩), v.v, .int .i64 x] V fun e V' => e = .returned (.bool (holdB d m v.x x)) /\ AllSt W d m p kb bb V' s xs := by
 obtain ⟨kn, M, K⟩ := h.mach
 refine Tri.mono (c50 S M K hv hT) ?_
 rintro _ V' ⟨rfl, hk, kn', M', K'⟩
 exact ⟨rfl, Own.keep h.own hk M'.sub M.kMap M.bMap, kn', M', K'⟩
theorem AllSt.add {s : Sl} {xs : List (ByteArray × Int)} (h : AllSt W d m p kb bb V s xs) {y : ByteArray × Int} {t : Nat} {ty : Nat} {a b : Operand} {vals : Operand -> Value} {q : Value -> Mem -> Prop} {tb : Nat} (htb : V tb = none)
  (ha : vals a = .slice s.p s.n s.c) (hb : vals b = .slice (some ⟨tb, 0, none⟩) 1 1) (hfit : xs.length + 1 <= 2147483648) (hq : ∀ s' V', AllSt W d m p kb bb V' s' (xs ++ [y]) -> q (.slice s'.p s'.n s'.c) V') :
  GenK Tryz.prog (.call { callee := .builtin .append, args := #[a, b], argTypes := #[48, 48] }) ty vals (V.set tb (.cells (vioRow y).toArray t (0, 0))) q := by
 obtain ⟨kn, M, K⟩ := h.mach
 refine app48 (s := s) (u := ⟨some ⟨tb, 0, none⟩, 1, 1⟩) (xs := xs) (ys := [y]) ha hb ((h.own.but).new htb _) (RowsAt.cells (xs := [y]) (row := vioRow) (Mem.set_same _ _ _) (by simp) (fun _ => rfl) rfl (by simp)) (by simpa using hfit) fun s' V' ho => hq s' V' ⟨ho.narrow h.own.sub_but, kn, ⟨(h.own.sub_but).trans ho.sub, ?_, ?_, ?_⟩, K⟩
 ·exact ho.sub _ _ (Mem.but_at M.at_ (h.own.apart fun cur hc => by rw [M.at_] at hc; cases hc))
 ·obtain ⟨e1, c1, k1, k2⟩ := M.known.at_
  exact ⟨e1, c1, ho.sub _ _ (Mem.but_at k1 (h.own.apart M.kMap)), k2⟩
 ·obtain ⟨e1, c1, k1, k2⟩ := M.busy.at_
  exact ⟨e1, c1, ho.sub _ _ (Mem.but_at k1 (h.own.apart M.bMap)), k2⟩
theorem Mem.set_sub {A B : Mem} (h : A.sub B) (b : Nat) (o : Obj) : (A.set b o).sub (B.set b o) := fun c x hc => by
 by_cases e : c = b
 ·subst e; rw [Mem.set_same] at hc ⊢; exact hc
 ·rw [Mem.set_ne e] at hc ⊢; exact h _ _ hc
theorem AllSt.wide {s : Sl} {xs : List (ByteArray × Int)} (h : AllSt W d m p kb bb V s xs) {b : Nat} (hb : V b = none) (o : Obj) : AllSt (W.set b o) d m p kb bb (V.set b o) s xs := by
 obtain ⟨kn, M, K⟩ := h.mach
 have hs := Mem.set_sub h.own.sub b o
 refine ⟨⟨hs, h.own.len, ?_⟩, kn, ⟨hs, (M.grow (Mem.sub_new hb o)).at_, (M.grow (Mem.sub_new hb o)).known, (M.grow (Mem.sub_new hb o)).busy⟩, K⟩
 rcases h.own.at_ with h' | ⟨g, cur, a, b', c, dd⟩
 ·exact .inl h'
 ·have hne : g ≠ b := fun e => by rw [e, hb] at c; cases c
  exact .inr ⟨g, cur, a, by rw [Mem.set_ne hne]; exact b', by rw [Mem.set_ne hne]; exact c, dd⟩
theorem AllSt.narrow {W' : Mem} {s : Sl} {xs : List (ByteArray × Int)} (h : AllSt W' d m p kb bb V s xs) (hs : W.sub W') : AllSt W d m p kb bb V s xs := by
 obtain ⟨kn, M, K⟩ := h.mach
 exact ⟨h.own.narrow hs, kn, ⟨hs.trans M.sub, M.at_, M.known, M.busy⟩, K⟩
theorem AllSt.wideS (S : Stat W d m p kb bb) {s : Sl} {xs : List (ByteArray × Int)} (h : AllSt W d m p kb bb V s xs) {b : Nat} (hb : V b = none) (o : Obj) : Stat (W.set b o) d m p kb bb := by
 obtain ⟨kn, M, K⟩ := h.mach
 have hW : W b = none := by
  cases hc : W b with
  | none => rfl
  | some x => rw [M.sub _ _ hc] at hb; cases hb
 have s1 := Mem.sub_new hW o
 obtain ⟨e1, c1, k1, -⟩ := M.known.at_
 obtain ⟨e2, c2, k2, -⟩ := M.busy.at_
 refine ⟨S.good, S.ds.sub s1, S.mm.sub s1, ?_, ?_, ?_, S.pk, S.pb, S.kb⟩
 ·rw [Mem.set_ne fun e => by rw [<- e, M.at_] at hb; cases hb]; exact S.p0
 ·rw [Mem.set_ne fun e => by rw [<- e, k1] at hb; cases hb]; exact S.k0
 ·rw [Mem.set_ne fun e => by rw [<- e, k2] at hb; cases hb]; exact S.b0
theorem allOf_take {v : Iv} {l : List Int} {j : Nat} {n : Int} (hn : l[j]? = some n) : allOf d m v (l.take (j + 1)) = allOf d m v (l.take j) ++ if badB d m v n = true then [(v.name, n)] else [] := by
 unfold allOf
 rw [List.take_add_one, hn, List.filter_append, List.map_append]
 by_cases h : badB d m v n = true <;> simp [h]
theorem allOf_len {v : Iv} {l : List Int} : (allOf d m v l).length <= l.length := by
 unfold allOf
 rw [List.length_map]; exact List.length_filter_le _ _
theorem flat_len {l : List Iv} (h : ∀ v ∈ l, (nodesOf d m v).length <= 4097) : (l.flatMap fun v => allOf d m v (nodesOf d m v)).length <= l.length * 4097 := by
 induction l with
 | nil => simp
 | cons v l ih =>
  rw [List.flatMap_cons, List.length_append, List.length_cons, Nat.add_mul]
  have h1 := allOf_len (d := d) (m := m) (v := v) (l := nodesOf d m v)
  have h2 := h v List.mem_cons_self
  have h3 := ih fun x hx => h x (List.mem_cons_of_mem _ hx)
  omega
theorem validD_lens (h : validD d = true) : d.invs.length <= 12 := by
 unfold validD at h
 simp only [Bool.and_eq_true] at h
 obtain ⟨⟨⟨⟨_, hL⟩, -⟩, -⟩, -⟩ := h
 unfold lensB at hL
 have := of_decide_eq_true hL
 omega
theorem nodes_ty (G : GoodD d m) {x : Int} (h : 0 <= x /\ x <= (m.nodes.length : Int)) {v : Iv} (hT : typV d m x = v.ty) : This d m v.ty x := hT ▸ this_typ G h.1 h.2
theorem allRound (S : Stat W d m p kb bb) {s : Sl} {A : List (ByteArray × Int)} {v : Iv} {ns : List Int} {j : Nat} {n : Int} (hv : v ∈ d.invs) (h : AllSt W d m p kb bb V s (A ++ allOf d m v (ns.take j))) (hn : ns[j]? = some n) (hr : 0 <= n /\ n <= (m.nodes.length : Int)) (hl : A.length + ns.length <= 2147483000) (hI : IR ((j : Int) + 1))
  {J : List Value -> Mem -> Prop} (hJ : ∀ s' V', AllSt W d m p kb bb V' s' (A ++ allOf d m v (ns.take (j + 1))) -> J [uL s', uI ((j : Int) + 1)] V') :
  TT 38 #[uP (some ⟨p, 0, none⟩), uI n] V fun e V6 => ∃ v26, e = rV (uS v26) /\
   Br (v26 = v.ty)
   (TT 50 #[uP (some ⟨p, 0, none⟩), uA #[uS v.name, uS v.ty, uI v.x.op, uI v.x.n, uS v.x.s, uL v.x.l], uI n] V6 fun e V7 => ∃ v27, e = rV (uB v27) /\
    Br (v27 = true)
    (IR ((j : Int) + 1) /\ J [uL s, uI ((j : Int) + 1)] V7)
    (PubT [uS v.name, uI n] 52 V7 fun v28 V8 =>
     GenK Tryz.prog (.call { callee := (.builtin .append), args := #[(.tmp 64), (.tmp 69)], argTypes := #[48, 48] }) 48 (gv [(64, uL s), (69, .slice (ptrAdd v28 0) (1 : Int).toNat (1 : Int).toNat)]) V8 fun x V9 => ∃ v29, x = uL v29 /\
      IR ((j : Int) + 1) /\ J [uL v29, uI ((j : Int) + 1)] V9))
   (IR ((j : Int) + 1) /\ J [uL s, uI ((j : Int) + 1)] V6) := by
 obtain ⟨kn, M, -⟩ := h.mach
 have hlen := allOf_len (d := d) (m := m) (v := v) (l := ns.take j)
 have htl : (ns.take j).length <= ns.length := by rw [List.length_take]; omega
 refine (c38 S M hr).call ⟨_, rfl, fun hT => ?_, fun hT => ⟨hI, hJ s V ?_⟩⟩
 ·have hT : typV d m n = v.ty := hT
  refine Tri.mono (h.hold S hv (nodes_ty S.good hr hT)) ?_
  rintro _ V7 ⟨rfl, h7⟩
  refine ⟨_, rfl, fun hh => ⟨hI, hJ s V7 ?_⟩, fun hh tb htb => h7.add (y := (v.name, n)) htb rfl rfl (by rw [List.length_append]; omega) fun s' V' h' => ⟨s', rfl, hI, hJ s' V' ?_⟩⟩
  ·rw [allOf_take hn]
   have hb : badB d m v n = false := by unfold badB; rw [show holdB d m v.x n = true from hh, Bool.not_true, Bool.and_false]
   rw [hb, if_neg (by decide), List.append_nil]; exact h7
  ·rw [allOf_take hn]
   have hb : badB d m v n = true := by unfold badB; rw [decide_eq_true hT, (Bool.not_eq_true _).mp hh]; rfl
   rw [hb, if_pos rfl, <- List.append_assoc]; exact h'
 ·have hT : ¬ typV d m n = v.ty := hT
  rw [allOf_take hn]
  have hb : badB d m v n = false := by unfold badB; rw [decide_eq_false hT, Bool.false_and]
  rw [hb, if_neg (by decide), List.append_nil]; exact h
end
section
variable {V : Mem} {d : Ds} {m : Mm}
def Mem.no3 (V : Mem) (a b c : Nat) : Mem := fun x => if x = a ∨ x = b ∨ x = c then none else V x
theorem no3_sub (V : Mem) (a b c : Nat) : (Mem.no3 V a b c).sub V := fun x o h => by
 unfold Mem.no3 at h
 split at h
 ·cases h
 ·exact h
theorem no3_at {a b c x : Nat} {o : Obj} (h : V x = some o) (h1 : x ≠ a) (h2 : x ≠ b) (h3 : x ≠ c) : Mem.no3 V a b c x = some o := by
 unfold Mem.no3; rw [if_neg (by simp [h1, h2, h3])]; exact h
theorem no3_none {a b c x : Nat} (h : x = a ∨ x = b ∨ x = c) : Mem.no3 V a b c x = none := by
 unfold Mem.no3; rw [if_pos h]
theorem c17 [Tab V] (hd : Ds.Ok V d) (hm : Mm.Ok V m) : Tri Tryz.prog 17 #[d.v, m.v] V fun e V' => V.sub V' /\ ((GoodD d m /\ ∃ s : Sl, e = .returned (.tuple #[.slice s.p s.n s.c, .int .i64 0]) /\ RowsAt V' s 2 ((allP d m).map vioRow)) ∨ (¬ GoodD d m /\ e = .returned (.tuple #[.slice none 0 0, .int .i64 1]))) := by
 refine x17 (v0 := d.name) (v1 := d.ts) (v2 := d.gs) (v3 := d.ps) (v4 := d.ms) (v5 := d.is) (v6 := d.qs) (v7 := d.bs) (v8 := m.gs) (v9 := m.ns) ?_
 unfold w17
 refine Tri.mono (c35 hd hm) ?_
 rintro _ V1 (⟨p, kb, bb, rfl, S, M⟩ | ⟨hG, rfl, hs⟩)
 rotate_left
 ·exact ⟨_, _, rfl, fun h => absurd h (by decide), fun _ => ⟨hs, .inr ⟨hG, rfl⟩⟩⟩
 have G := S.good
 haveI : Tab V1 := Tab.sub (V := V) inferInstance M.sub
 refine ⟨_, _, rfl, fun _ => Tri.mono (c49 G.valid G.mem (hd.sub M.sub) (hm.sub M.sub)) ?_, fun h => absurd rfl h⟩
 rintro _ V2 ⟨o, rfl, ho, hcap, hrng⟩
 refine ⟨o, _, rfl, fun _ => ?_, fun h => absurd rfl h⟩
 have M2 := M.grow ho.sub
 have hsW := no3_sub V2 p kb bb
 have hVW : V.sub (Mem.no3 V2 p kb bb) := fun c x hc => no3_at (M2.sub _ _ hc) (fun e => by rw [e, S.p0] at hc; cases hc) (fun e => by rw [e, S.k0] at hc; cases hc) (fun e => by rw [e, S.b0] at hc; cases hc)
 have S' : Stat (Mem.no3 V2 p kb bb) d m p kb bb := ⟨G, hd.sub hVW, hm.sub hVW, no3_none (.inl rfl), no3_none (.inr (.inl rfl)), no3_none (.inr (.inr rfl)), S.pk, S.pb, S.kb⟩
 have hoW : RowsAt (Mem.no3 V2 p kb bb) o 1 ((reachP d m).order.map intRow) := by
  have : Sx.Own (fun _ => none) (Mem.no3 V2 p kb bb) 3 1 o ((reachP d m).order.flatMap intRow) := ⟨(fun _ _ h => by cases h), ho.len, by
   rcases ho.at_ with h | ⟨g, cur, a, b, c, dd⟩
   ·exact .inl h
   ·refine .inr ⟨g, cur, a, rfl, no3_at c (fun e => ?_) (fun e => ?_) (fun e => ?_), dd⟩
    ·rw [e, M.at_] at b; cases b
    ·obtain ⟨e1, c1, k1, -⟩ := M.known.at_
     rw [e, k1] at b; cases b
    ·obtain ⟨e1, c1, k1, -⟩ := M.busy.at_
     rw [e, k1] at b; cases b⟩
  exact this.rows (fun _ => rfl) (by decide)
 have hnl : ∀ v : Iv, (nodesOf d m v).length <= 4097 := fun v => by
  unfold nodesOf
  have := (validM_parts G.mem).2.1
  split
  ·simp
  ·omega
 have hil := validD_lens G.valid
 refine loop2s (mk := fun s : Sl => .slice s.p s.n s.c) (b0 := ⟨none, 0, 0⟩) inj_sl d.invs.length (fun i s V3 => AllSt (Mem.no3 V2 p kb bb) d m p kb bb V3 s ((d.invs.take i).flatMap fun v => allOf d m v (nodesOf d m v))) ⟨Own.nil hsW _ _, kn0, ⟨hsW, M2.at_, M2.known, M2.busy⟩, fun _ _ h => by cases h⟩ ?_
 rintro i s V3 J hi h3 hJ
 have hd3 := (hd.sub hVW).sub h3.own.sub
 refine ⟨fun hlt => ?_, fun hge => ?_⟩
 ·obtain ⟨v, hvm, hv, -, hil', hp, hz, hrow⟩ := hd3.invs.get hlt
  have hflat := flat_len (d := d) (m := m) (l := d.invs.take i) fun v _ => hnl v
  have htl : (d.invs.take i).length <= 12 := by rw [List.length_take]; omega
  have hA : ((d.invs.take i).flatMap fun v => allOf d m v (nodesOf d m v)).length + (nodesOf d m v).length <= 2147483000 := by
   have := hnl v
   have : (d.invs.take i).length * 4097 <= 12 * 4097 := Nat.mul_le_mul_right _ htl
   omega
  have next : ∀ s' V', AllSt (Mem.no3 V2 p kb bb) d m p kb bb V' s' (((d.invs.take i).flatMap fun v => allOf d m v (nodesOf d m v)) ++ allOf d m v (nodesOf d m v)) -> J [uL s', uI ((i : Int) + 1)] V' := fun s' V' h => hJ hil' _ _ (by
   rw [List.take_add_one, hv, List.flatMap_append]
   simpa using h)
  refine ⟨hp, hz, hlt, _, _, _, _, _, _, hrow, fun hE => fun tb htb => ?_, fun hE => ?_⟩
  ·have hE : v.ty = sE := hE
   have hns : nodesOf d m v = [0] := by unfold nodesOf; rw [if_pos hE]
   rw [hns] at hA next
   have hwS := h3.wideS S' htb (.cells #[.int .i64 0] 3 (0, 0))
   have hw3 := h3.wide htb (.cells #[.int .i64 0] 3 (0, 0))
   have hW0 : Mem.no3 V2 p kb bb tb = none := by
    cases hc : Mem.no3 V2 p kb bb tb with
    | none => rfl
    | some x => rw [h3.own.sub _ _ hc] at htb; cases htb
   have hsub := Mem.sub_new hW0 (.cells #[.int .i64 0] 3 (0, 0))
   have hrow0 : RowsAt ((Mem.no3 V2 p kb bb).set tb (.cells #[.int .i64 0] 3 (0, 0))) ⟨some ⟨tb, 0, none⟩, 1, 1⟩ 1 ([(0 : Int)].map intRow) := one_int (Mem.set_same _ _ _)
   refine loop2s (mk := fun s : Sl => .slice s.p s.n s.c) (b0 := s) inj_sl 1 (fun j s' V' => AllSt ((Mem.no3 V2 p kb bb).set tb (.cells #[.int .i64 0] 3 (0, 0))) d m p kb bb V' s' (((d.invs.take i).flatMap fun v => allOf d m v (nodesOf d m v)) ++ allOf d m v ([0].take j))) ?_ ?_
   ·simpa [allOf] using hw3
   ·rintro j s4 V4 J1 hj h4 hJ1
    have ho4 := hrow0.sub h4.own.sub
    refine ⟨fun hlt2 => ?_, fun hge2 => ?_⟩
    ·obtain ⟨n, hnm, hn, -, hjl, hpo, hzo, hrowo⟩ := ho4.get (i := j) hlt2
     have hn0 : n = 0 := by simpa using hnm
     exact ⟨nn, hzo, hlt2, _, hrowo, allRound hwS hvm h4 hn ⟨by omega, by omega⟩ hA (ho4.succ (i := j) hlt2) fun s' V' h' => hJ1 hjl _ _ h'⟩
    ·have hge2 : ¬ (j : Int) < 1 := hge2
     rw [show ([0] : List Int).take j = [0] from List.take_of_length_le (by show 1 <= j; omega)] at h4
     exact ⟨hd3.invs.succ hlt, next _ _ (h4.narrow hsub)⟩
  ·have hE : ¬ v.ty = sE := hE
   have hns : nodesOf d m v = (reachP d m).order := by unfold nodesOf; rw [if_neg hE]
   rw [hns] at hA next
   refine loop2s (mk := fun s : Sl => .slice s.p s.n s.c) (b0 := s) inj_sl (reachP d m).order.length (fun j s' V' => AllSt (Mem.no3 V2 p kb bb) d m p kb bb V' s' (((d.invs.take i).flatMap fun v => allOf d m v (nodesOf d m v)) ++ allOf d m v ((reachP d m).order.take j))) ?_ ?_
   ·simpa [allOf] using h3
   ·rintro j s4 V4 J1 hj h4 hJ1
    have ho4 := hoW.sub h4.own.sub
    refine ⟨fun hlt2 => ?_, fun hge2 => ?_⟩
    ·obtain ⟨n, hnm, hn, -, hjl, hpo, hzo, hrowo⟩ := ho4.get hlt2
     have hr := hrng n hnm
     exact ⟨hpo, hzo, hlt2, _, hrowo, allRound S' hvm h4 hn ⟨by omega, hr.2⟩ hA (ho4.succ hlt2) fun s' V' h' => hJ1 hjl _ _ h'⟩
    ·have hdn := (ho4.done hge2).2
     rw [List.take_of_length_le hdn] at h4
     exact ⟨hd3.invs.succ hlt, next _ _ h4⟩
 ·have hdn := (hd3.invs.done hge).2
  rw [List.take_of_length_le hdn] at h3
  exact ⟨hVW.trans h3.own.sub, .inl ⟨G, s, rfl, h3.own.rows (fun _ => rfl) (by decide)⟩⟩
theorem rowp_add0 (V : Mem) (p : Option Addr) (k n : Nat) : V.rowp (ptrAdd p k) 0 n = V.rowp p k n := by
 cases p with
 | none => rfl
 | some a =>
  show V.row ((a.add k).add 0) n = V.row (a.add k) n
  rw [add_add, Nat.add_zero]
inductive CheP (d : Ds) (m : Mm) : Bool -> ByteArray -> Int -> Int -> Prop where
 | arg (h : ¬ GoodD d m) : CheP d m false sE 0 1
 | ok (h : GoodD d m) (h1 : allP d m = []) : CheP d m true sE 0 0
 | bad (h : GoodD d m) {x : ByteArray × Int} {l : List (ByteArray × Int)} (h1 : allP d m = x :: l) : CheP d m false x.1 x.2 0
theorem c21 [Tab V] (hd : Ds.Ok V d) (hm : Mm.Ok V m) : Tri Tryz.prog 21 #[d.v, m.v] V fun e V' => V' = V /\ ∃ b s x f, e = .returned (.tuple #[.bool b, .agg #[.string s, .int .i64 x], .int .i64 f]) /\ CheP d m b s x f := by
 refine Tri.less ?_
 refine x21 (v0 := d.name) (v1 := d.ts) (v2 := d.gs) (v3 := d.ps) (v4 := d.ms) (v5 := d.is) (v6 := d.qs) (v7 := d.bs) (v8 := m.gs) (v9 := m.ns) ?_
 unfold w21
 refine Tri.mono (c17 hd hm) ?_
 rintro _ V1 ⟨hs, ⟨G, s, rfl, hr⟩ | ⟨hG, rfl⟩⟩
 ·refine ⟨s, _, rfl, fun _ => ⟨fun hlt => ?_, fun hge => ?_⟩, fun h => absurd rfl h⟩
  ·obtain ⟨x, hxm, hx, hdr, hl, hp, hz, hrow⟩ := hr.get (i := 0) hlt
   refine ⟨hp, hz, hlt, _, _, hrow, (rowp_add0 _ _ _ _).trans hrow, hp, hz, hlt, V, ⟨rfl, _, _, _, _, rfl, .bad (l := (allP d m).drop 1) G (by rw [List.drop_zero] at hdr; exact hdr)⟩, hs⟩
  ·have := (hr.done (i := 0) hge).2
   exact ⟨V, ⟨rfl, _, _, _, _, rfl, .ok G (List.eq_nil_of_length_eq_zero (by omega))⟩, hs⟩
 ·exact ⟨⟨none, 0, 0⟩, _, rfl, fun h => absurd h (by decide), fun _ => ⟨V, ⟨rfl, _, _, _, _, rfl, .arg hG⟩, hs⟩⟩
end
end Go.Proofs
