/- Part 12 of a proof of a law of this seat: no statement of the seat is proved here. -/
import Derived.Test.YtnoompnjibfbfaaGreatDoorPart11
import Derived.Test.YtnoompnjibfbfaaGreatDoorPart05
set_option linter.unusedVariables false
set_option linter.unusedSimpArgs false
namespace Go.Proofs
open Go Go.Sx
theorem wrap_id {n : Nat} (h : n <= 2147483648) : IntKind.wrap .i64 (n : Int) = n := inr_in ⟨by show (-9223372036854775808 : Int) <= n; omega, by show (n : Int) <= 9223372036854775807; omega⟩
theorem run_append_zeros {P : Program} (w : World) (t u ty e : TypeId) (i : TypeInfo) (z : Value) (ht : P.underlying t = some (.slice e)) (hu : P.underlying u = some (.int .i64)) (hi : P.info? e = some i) (hz : i.zero = some z)
  (n : Nat) (h0 : 0 < n) (hn : n <= 2147483648) (hb : i.bytes <= 65536) (hs : 0 < i.size) :
  (Builtin.append_ #[t, u] ty #[.slice none 0 0, .int .i64 n]).run P w =
   .ok (.slice (some ⟨w.heap.size, 0, none⟩) n (grownCap w n 0 e)) (w.drew.alloc (.cells (Builtin.zeroCells z.cells n ++ Builtin.zeroCells z.cells (grownCap w n 0 e - n)) e)) := by
 have hn' : n ≠ 0 := by omega
 have h63' : ¬ (9223372036854775807 < (n : Int)) := by omega
 have hbm : n * i.bytes <= 281474976710656 := Nat.le_trans (Nat.mul_le_mul hn hb) (by decide)
 have h48' : ¬ (281474976710656 < Builtin.nextslicecap n 0 * i.bytes) := by rw [nextslicecap_zero h0]; omega
 have h48i : ¬ (281474976710656 < (n : Int) * (i.bytes : Int)) := by omega
 have hlt : ¬ ((n : Int) < 0) := by omega
 have hsz : i.size ≠ 0 := by omega
 simp [Builtin.append_, run_underlying ht, run_underlying hu, sizeOf, typeInfo, zeroValue, hi, hz, hn', h63', h48', h48i, hlt, hsz, wrap_id hn, asInt, asIntOf, Question.forced, run_firstCells_none, newRow, grownCap]
 exact fun h => absurd h (Nat.ne_of_gt (Nat.mul_pos h0 hs))
theorem GenK.appendZ {P : Program} {V0 V : Mem} {t u e ty : TypeId} {i : TypeInfo} {z : Value} {sz : Nat} (ht : P.underlying t = some (.slice e)) (hu : P.underlying u = some (.int .i64)) (hi : P.info? e = some i) (hz : i.zero = some z) (hsize : i.size = sz) (hzs : z.cells.size = sz) (hsz : 0 < sz) (hby : i.bytes <= 65536)
  {x y : Operand} {vals : Operand -> Value} {n : Nat} (hx : vals x = .slice none 0 0) (hy : vals y = .int .i64 n) (h0 : 0 < n) (hn : n <= 2147483648) (hV : V0.sub V) {q : Value -> Mem -> Prop}
  (hq : ∀ b c V', Own V0 V' e sz ⟨some ⟨b, 0, none⟩, 0, c⟩ [] -> n <= c -> c <= 9223372036854775807 -> q (.slice (some ⟨b, 0, none⟩) n c) V') :
  GenK P (.call { callee := .builtin .append, args := #[x, y], argTypes := #[t, u] }) ty vals V q := by
 intro w hw
 subst hsize
 have hr := run_append_zeros (P := P) w t u ty e i z ht hu hi hz n h0 hn hby hsz
 obtain ⟨hnone, hf⟩ := Frm.new hw (.cells (Builtin.zeroCells z.cells n ++ Builtin.zeroCells z.cells (grownCap w n 0 e - n)) e)
 have hge := grownCap_ge w n 0 e
 have hle := grownCap_le_maxLen w n 0 e (by simp only [maxLen]; omega)
 refine ⟨_, _, _, ?_, hf, hq w.heap.size (grownCap w n 0 e) _ ⟨Mem.sub.new hV hnone _, by simp, .inr ⟨w.heap.size, _, rfl, ?_, Mem.set_same _ _ _, Nat.zero_le _, hle, ?_, by simp⟩⟩ hge (by simp only [maxLen] at hle; omega)⟩
 ·unfold execOp
  simp only [resolve, invoke, builtin, Sem.run_bind, Sem.run_pure, Result.andThen_ok, List.map_toArray, List.map_cons, List.map_nil, hx, hy, hr]
 ·cases h : V0 w.heap.size with
  | none => rfl
  | some x => rw [hV _ _ h] at hnone; cases hnone
 ·simp only [Array.size_append, size_zeroCells, hzs, <- Nat.add_mul]
  congr 1
  show _ = grownCap w n 0 e
  omega
section
variable {V : Mem}
theorem growF {V0 : Mem} (hV : V0.sub V) {n : Nat} (hn : n <= 1000000) : Tri Tryz.prog 250 #[.slice none 0 0, .int .i64 n] V fun r V' => ∃ s : Sl, r = .returned (.slice s.p s.n s.c) /\ Own V0 V' 110 2 s [] := by
 refine x250 (v0 := ⟨none, 0, 0⟩) ?_
 unfold w250
 refine ⟨fun h => absurd h (by omega), fun _ => ⟨⟨by simp, by simp⟩, ⟨by simp <;> omega, by simp <;> omega⟩, fun h => ⟨⟨by simp, by simp, by simp⟩, ?_⟩, fun h => ⟨⟨none, 0, 0⟩, rfl, Own.nil hV _ _⟩⟩⟩
 have hi : Tryz.prog.info? 110 = some (ti 110) := by kernel_rfl
 have hz : (ti 110).zero = some ((ti 110).zero.getD undef) := by kernel_rfl
 have h1 : (ti 110).size = 2 := by kernel_rfl
 have h2 : ((ti 110).zero.getD undef).cells.size = 2 := by kernel_rfl
 have h3 : (ti 110).bytes <= 65536 := by rw [show (ti 110).bytes = 32 by kernel_rfl]; omega
 refine GenK.appendZ (n := n) Tryz.underlying23 Tryz.underlying3 hi hz h1 h2 (by decide) h3 rfl ?_ (by simp at h; omega) (by omega) hV fun b c V' ho hc hc2 => ⟨⟨some ⟨b, 0, none⟩, n, c⟩, rfl, ⟨by simp, by simp, by simp⟩, ?_⟩
 ·show Value.int .i64 ((n : Int) - (((0 : Nat) : Int) - ((0 : Nat) : Int))) = _
  congr 1 <;> omega
 ·simp only [pre_eq]
  exact ⟨⟨some ⟨b, 0, none⟩, 0, c⟩, by simp, ho⟩
theorem concatF {l : Sl} {ls : List (Sl × List Fld)} (h : RowsAt V l 1 (ls.map fun x => [x.1.v])) (hls : ∀ x ∈ ls, RowsAt V x.1 2 (x.2.map Fld.row)) (hlen : ls.length <= 100) (hle : ∀ x ∈ ls, x.2.length <= 1000) :
  Tri Tryz.prog 223 #[.slice l.p l.n l.c] V fun r V' => ∃ s : Sl, r = .returned (.slice s.p s.n s.c) /\ V.sub V' /\ RowsAt V' s 2 ((ls.flatMap (·.2)).map Fld.row) := by
 refine x223 (v0 := l) ?_
 unfold w223
 have hn := h.n_eq
 refine loop2s (mk := .int .i64) inj_i ls.length (fun i n V1 => V = V1 /\ 0 <= n /\ n <= 1000 * i) ⟨rfl, by omega, by omega⟩ ?_
 rintro i n V1 J hi ⟨rfl, h0, hb⟩ hJ
 refine ⟨fun hlt => ?_, fun hge => ?_⟩
 ·obtain ⟨x, hm, hx, hdr, hl, hp, hz, hrow⟩ := h.get hlt
  have e1 := (hls x hm).n_eq
  have e2 := hle x hm
  exact ⟨hp, hz, hlt, x.1, hrow, ⟨by omega, by omega⟩, fun hneg => absurd hneg (by omega), fun _ => ⟨h.succ hlt, hJ hl _ _ ⟨rfl, by omega, by omega⟩⟩⟩
 ·obtain ⟨k, rfl⟩ := Int.eq_ofNat_of_zero_le h0
  refine Tri.mono (growF (Mem.sub.refl V) (n := k) (by omega)) ?_
  rintro _ V1 ⟨s, rfl, ho⟩
  refine ⟨s, rfl, ?_⟩
  refine loop2s (mk := fun s : Sl => .slice s.p s.n s.c) (b0 := s) inj_sl ls.length (fun i s V2 => Own V V2 110 2 s (((ls.take i).flatMap (·.2)).flatMap Fld.row) /\ ((ls.take i).flatMap (·.2)).length <= 1000 * i) ⟨ho, by simp⟩ ?_
  rintro i s V2 J hi ⟨ho, hb⟩ hJ
  have h2 := h.sub ho.sub
  refine ⟨fun hlt => ?_, fun hge => ?_⟩
  ·obtain ⟨x, hm, hx, hdr, hl, hp, hz, hrow⟩ := h2.get hlt
   have e2 := hle x hm
   refine ⟨hp, hz, hlt, x.1, hrow, ?_⟩
   refine app23 (s := s) (u := x.1) (xs := (ls.take i).flatMap (·.2)) (ys := x.2) rfl rfl ho ((hls x hm).sub ho.sub) (by omega) fun s' V' ho' => ⟨s', rfl, h2.succ hlt, hJ hl _ _ ?_⟩
   have ht : (ls.take (i + 1)).flatMap (·.2) = (ls.take i).flatMap (·.2) ++ x.2 := by
    rw [List.take_add_one, hx, List.flatMap_append]
    simp
   rw [ht]
   exact ⟨ho', by rw [List.length_append]; omega⟩
  ·have := (h2.done hge).2
   rw [List.take_of_length_le this] at ho
   exact ⟨s, rfl, ho.sub, ownF ho⟩
end
end Go.Proofs
namespace Go.Proofs
open Go Go.Sx
attribute [local irreducible] Go.Sx.Tri
section
variable {V : Mem} {d : Ds} {c : Option Addr} {m : Option Nat} {sc : Sc}
theorem c256 (h : ChkAt V c d) (hv : VNe d) (hs : ScpAt V m sc) (hbody : sc.body = true) {x : S} (hx : S.Ok V x) (hsh : shapeR x.op x.s x.es x.ls.length x.xs.length = true) {res : ByteArray} :
  PP 256 [sV c m sc, x.v, .string res] V (.int .i64 (stmtT d sc res x.op x.s x.es)) := by
 obtain ⟨a6, a134, a2, a5, alen, aok⟩ := shape_arity hsh
 rw [S.v_eq]
 refine Pur.mk (x256 (v0 := c) (v1 := m) (v2 := sc.body) (v3 := x.op) (v4 := x.s) (v5 := x.el) (v6 := x.ll) (v7 := x.xl) ?_)
 unfold w256
 have hf := first_row hx
 refine ⟨fun o6 => ?_, fun o6 => ?_⟩
 ·obtain ⟨e0, he0, -⟩ := a6 o6
  rcases hf with ⟨h', -⟩ | ⟨e0', r, he, hn, hp0, hp2, hrow⟩
  ·rw [he0] at h'; cases h'
  ·rw [he0] at he
   cases he
   have hok := aok e0 (by rw [he0]; simp)
   have hoe := hx.eOk e0 (by rw [he0]; simp)
   have hk : ∀ y ∈ e0.k, ImpE V d c m sc y := fun y hy => impExpr h hv hs y (hoe.kids y hy) 2 (okE_kids hok y hy)
   refine ⟨hp0, by omega, by omega, _, _, _, _, hrow, (impCall h e0 hoe (arity (okE_node hok)).2.2.2 hk).call ⟨_, _, rfl, ?_⟩⟩
   unfold stmtT rawT callRaw
   rw [if_pos o6, he0]
   simp only [if_pos hbody]
   split
   ·exact ⟨rfl, Mem.sub.refl _⟩
   ·exact ⟨rfl, Mem.sub.refl _⟩
 ·unfold stmtT
  rw [if_neg o6]
  have hr := hx.eRows
  refine loop3t (mk := .int .i64) (mc := fun s : Sl => .slice s.p s.n s.c) 0 ⟨none, 0, 0⟩ inj_sl x.es.length (fun i s V2 => ∃ acc, Own V V2 9 1 s (acc.flatMap strRow1) /\ partsT d sc [] x.es = partsT d sc acc (x.es.drop i) /\ acc.length = i) ⟨[], Own.nil (Mem.sub.refl _) _ _, rfl, rfl⟩ ?_
  rintro i b s V2 J hi ⟨acc, hown, hpt, hlen'⟩ hJ
  have hr1 := hr.sub hown.sub
  refine ⟨fun hlt => ?_, fun hge => ?_⟩
  ·obtain ⟨y, hm, hxy, hdr, hl, hpp, hz, hrow⟩ := hr1.get hlt
   rw [hdr, partsT_cons] at hpt
   refine ⟨hpp, hz, hlt, _, _, _, _, hrow, (impExpr h hv hs y (hx.eOk y hm) 1 (aok y hm) V2 hown.sub).call ⟨_, _, rfl, fun h0 => ?_, fun h0 => ?_⟩⟩
   ·intro b1 hb1
    rw [if_neg (fun h => h h0)] at hpt
    refine app174 (s := s) (u := ⟨some ⟨b1, 0, none⟩, 1, 1⟩) (xs := acc) (ys := [(exprT d sc y).1]) rfl rfl (hown.new hb1 _) (one_row (Mem.set_same _ _ _)) (by first | omega | (simp; omega)) fun s' V' ho => ⟨s', rfl, hr1.succ hlt, hJ hl _ _ _ ⟨_, ho, hpt, by simp [hlen']⟩⟩
   ·rw [if_pos h0] at hpt
    rw [hpt]
    simp only [h0, ne_eq, not_false_eq_true, if_true]
    exact ⟨by trivial, hown.sub⟩
  ·have hge' := (hr1.done hge).2
   rw [(hr1.done hge).1, partsT_nil] at hpt
   rw [hpt]
   simp only [ne_eq, not_true_eq_false, if_false]
   have hrows := ownS hown
   have hal : acc.length = x.es.length := by omega
   have hsub := hown.sub
   have h2 := h.sub hown.sub
   have sln := hrows.n_eq
   have at0 := fun h : 0 < acc.length => str_at hrows h
   have at1 := fun h : 1 < acc.length => str_at hrows h
   have key : ∀ X n : Int, X = n -> (Ending.returned (.int .i64 n) = Ending.returned (.int .i64 X) /\ V.sub V2) := fun X n h => by rw [h]; exact ⟨rfl, hsub⟩
   refine ⟨fun o1 => ?_, fun o1 => ⟨fun o2 => ?_, fun o2 => ⟨fun o3 => ?_, fun o3 => ⟨fun o4 => ?_, fun o4 => ⟨fun o5 => ?_, fun o5 => key _ _ ?_⟩⟩⟩⟩⟩
   ·obtain ⟨b1, b2, b3⟩ := at0 (by have := a134 (by omega); omega)
    obtain ⟨mb, rfl, hmap⟩ := (hs.sub hown.sub).at_
    rw [if_pos o1, varOf_look]
    refine LookK.str Tryz.underlying163 Tryz.underlying9 zero9 hmap ?_
    cases hvv : varOf sc.vars x.s with
    | none =>
     rw [Option.getD_none]
     exact ⟨_, _, rfl, fun h => absurd h (by simp), fun _ => key _ _ (if_pos rfl)⟩
    | some t =>
     rw [Option.getD_some]
     refine ⟨t, _, rfl, fun _ => ⟨b1, by omega, b2, _, b3, (c194 h2).call ⟨_, rfl, fun hb => key _ _ ?_, fun hb => key _ _ ?_⟩⟩, fun h => absurd rfl h⟩
     ·rw [if_neg (hs.ne.some hvv), if_pos hb]
     ·rw [if_neg (hs.ne.some hvv), if_neg hb]
   ·obtain ⟨b1, b2, b3⟩ := at0 (by have := a2 o2; omega)
    obtain ⟨c1, c2, c3⟩ := at1 (by have := a2 o2; omega)
    rw [if_neg o1, if_pos o2]
    refine ⟨b1, by omega, b2, _, b3, (c198 h2 hv).call ⟨_, _, rfl, fun hb => ⟨c1, by omega, c2, _, c3, (c194 h2).call ⟨_, rfl, fun hc => key _ _ ?_, fun hc => key _ _ ?_⟩⟩, fun hb => key _ _ ?_⟩⟩
    ·rw [if_neg (fun h => h hb), if_pos hc]
    ·rw [if_neg (fun h => h hb), if_neg hc]
    ·rw [if_pos hb]
   ·obtain ⟨b1, b2, b3⟩ := at0 (by have := a134 (by omega); omega)
    rw [if_neg o1, if_neg o2, if_pos (Or.inl o3)]
    exact ⟨b1, by omega, b2, _, b3, fun h => key _ _ (by rw [if_pos (show _ = sBool from h)]), fun h => key _ _ (by rw [if_neg (show ¬ _ = sBool from h)])⟩
   ·obtain ⟨b1, b2, b3⟩ := at0 (by have := a134 (by omega); omega)
    rw [if_neg o1, if_neg o2, if_pos (Or.inr o4)]
    exact ⟨b1, by omega, b2, _, b3, fun h => key _ _ (by rw [if_pos (show _ = sBool from h)]), fun h => key _ _ (by rw [if_neg (show ¬ _ = sBool from h)])⟩
   ·have h5 := a5 o5
    rw [if_neg o1, if_neg o2, if_neg (by omega), if_pos o5]
    refine ⟨fun hn => ?_, fun hn => ?_⟩
    ·have h0 : acc.length = 0 := by omega
     rw [if_pos h0]
     exact ⟨fun he => key _ _ (by rw [if_pos (show res = sE from he)]), fun he => key _ _ (by rw [if_neg (show ¬ res = sE from he)])⟩
    ·have h0 : ¬ acc.length = 0 := by omega
     obtain ⟨b1, b2, b3⟩ := at0 (by omega)
     rw [if_neg h0]
     refine ⟨fun he => key _ _ (by rw [if_neg (fun h => h.1 (show res = sE from he))]), fun he => ⟨b1, by omega, b2, _, b3, (c194 h2).call ⟨_, rfl, fun hb => key _ _ ?_, fun hb => key _ _ ?_⟩⟩⟩
     ·rw [if_pos ⟨show ¬ res = sE from he, hb⟩]
     ·rw [if_neg (fun h => hb h.2)]
   ·rw [if_neg o1, if_neg o2, if_neg (by omega), if_neg o5]
def placeT (r : Int × Int) : Int := if r.2 = 0 then 0 else r.1
def Cnt (V : Mem) (b t : Nat) (a : Int) (V1 : Mem) : Prop := (V.set b (cell (.int .i64 a) t)).sub V1
theorem Cnt.st {b t : Nat} {a k : Int} {V1 : Mem} (h : Cnt V b t a V1) : Cnt V b t k (V1.set b (cell (.int .i64 k) t)) := fun q o hq => by
 by_cases e : q = b
 ·subst e; rw [Mem.set_same] at hq ⊢; exact hq
 ·rw [Mem.set_ne e] at hq ⊢
  exact h q o (by rw [Mem.set_ne e]; exact hq)
theorem Cnt.call {b t : Nat} {a k : Int} {V1 V2 : Mem} (h : Cnt V b t a V1) (h2 : Cnt V1 b t k V2) : Cnt V b t k V2 := (Cnt.st h).trans h2
theorem Cnt.cell {b t : Nat} {a : Int} {V1 : Mem} (h : Cnt V b t a V1) : V1 b = some (Sx.cell (.int .i64 a) t) := h _ _ (Mem.set_same _ _ _)
theorem Cnt.base {V0 : Mem} {b t : Nat} {a : Int} {V1 : Mem} (h : Cnt V b t a V1) (h0 : V0.sub V) (hb : V0 b = none) : V0.sub V1 := (h0.set hb _).trans h
theorem Cnt.other {b t q : Nat} {a : Int} {V1 : Mem} {o : Obj} (h : Cnt V b t a V1) (hq : V q = some o) (hn : q ≠ b) : V1 q = some o := h _ _ (by rw [Mem.set_ne hn]; exact hq)
def ImpS (V0 : Mem) (d : Ds) (c : Option Addr) (m : Option Nat) (sc : Sc) (res : ByteArray) (b t : Nat) (l : List S) : Prop := ∀ (V : Mem) (sl : Sl) (n dd : Int), V0.sub V -> V b = some (cell (.int .i64 n) t) -> RowsAt V0 sl 5 (l.map S.row) -> (∀ x ∈ l, S.Ok V0 x) -> okSs dd l = true -> 0 <= n -> n + szSs l <= 1000 ->
 Tri Tryz.prog 231 #[sV c m sc, .slice sl.p sl.n sl.c, .string res, .pointer (some ⟨b, 0, none⟩)] V fun r V' => r = .returned (.tuple #[.int .i64 (placeT (stsT d sc res n l)), .int .i64 (stsT d sc res n l).2]) /\ ∃ n', Cnt V b t n' V' /\ ((stsT d sc res n l).2 = 0 -> n' = (stsT d sc res n l).1)
theorem impStep {V0 : Mem} {b t : Nat} {res : ByteArray} (hb : V0 b = none) (h : ChkAt V0 c d) (hv : VNe d) (hs : ScpAt V0 m sc) (hbody : sc.body = true) {l : List S} (hk : ∀ x ∈ l, ImpS V0 d c m sc res b t x.ls /\ ImpS V0 d c m sc res b t x.xs) : ImpS V0 d c m sc res b t l := by
 intro V sl n dd hV hcell hr hok hokS hn0 hn1
 refine x231 (v0 := c) (v1 := m) (v2 := sc.body) (v3 := sl) (v5 := some ⟨b, 0, none⟩) ?_
 unfold w231
 refine loop3 l.length (fun i V1 => ∃ a, Cnt V b t a V1 /\ 0 <= a /\ a + szSs (l.drop i) <= 1000 /\ stsT d sc res n l = stsT d sc res a (l.drop i)) ⟨n, by unfold Cnt; rw [Mem.set_eq hcell]; exact Mem.sub.refl _, hn0, hn1, rfl⟩ ?_
 rintro i b' c' V1 J hi ⟨a, hV1, ha0, ha1, he⟩ hJ
 have hV01 := hV1.base hV hb
 have hcell1 := hV1.cell
 have bad : ∀ {V2 : Mem} (p e k : Int), Cnt V b t k V2 -> e ≠ 0 -> stsT d sc res n l = (p, e) -> (Ending.returned (.tuple #[.int .i64 p, .int .i64 e]) = Ending.returned (.tuple #[.int .i64 (placeT (stsT d sc res n l)), .int .i64 (stsT d sc res n l).2]) /\ ∃ n', Cnt V b t n' V2 /\ ((stsT d sc res n l).2 = 0 -> n' = (stsT d sc res n l).1)) := fun {V2} p e k h1 h2 h3 => by
  rw [h3]
  unfold placeT
  rw [if_neg h2]
  exact ⟨rfl, k, h1, fun h => absurd h h2⟩
 refine ⟨fun hlt => ?_, fun hge => ?_⟩
 ·obtain ⟨x, hm, hx, hdr, hl, hpp, hz, hrow⟩ := (hr.sub hV01).get hlt
  have hrow := S.row_get hrow
  have hox := hok x hm
  obtain ⟨hsh, hk1, hk2⟩ := okS_shape (okSs_mem hokS x hm)
  rw [hdr, szSs_cons, szS_eq] at ha1
  rw [hdr, stsT_cons, stT_eq] at he
  have hC := Cnt.st (k := a + 1) hV1
  have hW2 := hC.base hV hb
  have cs := c256 (h.sub hW2) hv (hs.sub hW2) hbody (hox.sub hW2) hsh (res := res)
  rw [S.v_eq] at cs
  refine ⟨hpp, hz, hlt, _, _, _, _, _, hrow, by simp, _, row1 hcell1, by simp, _, row1 hcell1, ⟨by omega, by omega⟩, by simp, StT.cell hcell1 (cs.call ⟨_, rfl, fun h0 => ?_, fun h0 => ?_⟩)⟩
  ·have e1 : ¬ (stmtT d sc res x.op x.s x.es ≠ 0) := fun h => h h0
   rw [if_neg e1] at he
   intro b1 hb1
   have hbb : b1 ≠ b := fun e => by subst e; rw [Mem.set_same] at hb1; cases hb1
   have hC2 : Cnt V b t (a + 1) _ := Mem.sub.new hC hb1 (.cells #[.slice x.ll.p x.ll.n x.ll.c, .slice x.xl.p x.xl.n x.xl.c] 144 (0, 0))
   have hn1' := stsT_n d sc res (a + 1) x.ls
   refine loop3 2 (fun j V2 => ∃ k, Cnt V b t k V2 /\ V2 b1 = some (.cells #[.slice x.ll.p x.ll.n x.ll.c, .slice x.xl.p x.xl.n x.xl.c] 144 (0, 0)) /\ ((j = 0 /\ k = a + 1) ∨ (j = 1 /\ (stsT d sc res (a + 1) x.ls).2 = 0 /\ k = (stsT d sc res (a + 1) x.ls).1) ∨ (j = 2 /\ (stsT d sc res (a + 1) x.ls).2 = 0 /\ (stsT d sc res (stsT d sc res (a + 1) x.ls).1 x.xs).2 = 0 /\ k = (stsT d sc res (stsT d sc res (a + 1) x.ls).1 x.xs).1))) ⟨a + 1, hC2, Mem.set_same _ _ _, .inl ⟨rfl, rfl⟩⟩ ?_
   rintro j b'' c'' V2 J1 hj ⟨k, hk2', hb1V, hst⟩ hJ1
   have hV02 := hk2'.base hV hb
   refine ⟨fun hj2 => ?_, fun hj2 => ?_⟩
   ·rcases hst with ⟨rfl, rfl⟩ | ⟨rfl, hz1, rfl⟩ | ⟨rfl, -⟩
    ·refine ⟨by simp [ptrAdd], by omega, by omega, x.ll, row_cells hb1V 0 1 (by simp), Tri.mono ((hk x hm).1 V2 x.ll (a + 1) (dd + 1) hV02 hk2'.cell hox.lRows hox.lOk hk1 (by omega) (by omega)) ?_⟩
     rintro _ V3 ⟨rfl, n', hn', hn2⟩
     refine ⟨_, _, rfl, fun h3 => ?_, fun h3 => ?_⟩
     ·have := hn2 h3
      subst this
      exact ⟨⟨by omega, by omega⟩, hJ1 (by omega) _ _ _ ⟨_, hk2'.call hn', hn'.other hb1V hbb, .inr (.inl ⟨rfl, h3, rfl⟩)⟩⟩
     ·have e2 : (stsT d sc res (a + 1) x.ls).2 ≠ 0 := h3
      rw [if_pos e2, if_pos e2] at he
      refine bad _ _ _ (hk2'.call hn') e2 ?_
      rw [he]; unfold placeT; rw [if_neg e2]
    ·have e2 : ¬ (stsT d sc res (a + 1) x.ls).2 ≠ 0 := fun h => h hz1
     rw [if_neg e2] at he
     have hn1' := hn1' hz1
     refine ⟨by simp [ptrAdd], by omega, by omega, x.xl, row_cells hb1V 1 1 (by simp), Tri.mono ((hk x hm).2 V2 x.xl _ (dd + 1) hV02 hk2'.cell hox.xRows hox.xOk hk2 (by omega) (by omega)) ?_⟩
     rintro _ V3 ⟨rfl, n', hn', hn2⟩
     refine ⟨_, _, rfl, fun h3 => ?_, fun h3 => ?_⟩
     ·have := hn2 h3
      subst this
      exact ⟨⟨by omega, by omega⟩, hJ1 (by omega) _ _ _ ⟨_, hk2'.call hn', hn'.other hb1V hbb, .inr (.inr ⟨rfl, hz1, h3, rfl⟩)⟩⟩
     ·have e3 : (stsT d sc res (stsT d sc res (a + 1) x.ls).1 x.xs).2 ≠ 0 := h3
      rw [if_pos e3] at he
      refine bad _ _ _ (hk2'.call hn') e3 ?_
      rw [he]; unfold placeT; rw [if_neg e3]
    ·omega
   ·rcases hst with ⟨rfl, -⟩ | ⟨rfl, -⟩ | ⟨rfl, hz1, hz2, rfl⟩
    ·omega
    ·omega
    ·have e2 : ¬ (stsT d sc res (a + 1) x.ls).2 ≠ 0 := fun h => h hz1
     have e3 : ¬ (stsT d sc res (stsT d sc res (a + 1) x.ls).1 x.xs).2 ≠ 0 := fun h => h hz2
     rw [if_neg e2, if_neg e3] at he
     have hn1' := hn1' hz1
     have hn2' := stsT_n d sc res _ x.xs hz2
     exact ⟨(hr.sub hV01).succ hlt, hJ hl _ _ _ ⟨_, hk2', by omega, by omega, he⟩⟩
  ·have e1 : stmtT d sc res x.op x.s x.es ≠ 0 := h0
   rw [if_pos e1, if_pos e1] at he
   exact bad _ _ _ hC e1 he
 ·rw [((hr.sub hV01).done hge).1, stsT_nil] at he
  rw [he]
  exact ⟨rfl, a, hV1, fun _ => rfl⟩
theorem impStmts {V0 : Mem} {b t : Nat} {res : ByteArray} (hb : V0 b = none) (h : ChkAt V0 c d) (hv : VNe d) (hs : ScpAt V0 m sc) (hbody : sc.body = true) (l : List S) : ImpS V0 d c m sc res b t l := by
 have hS : ∀ s : S, ImpS V0 d c m sc res b t s.ls /\ ImpS V0 d c m sc res b t s.xs := by
  intro s
  induction s using S.ind with
  | h s i1 i2 => exact ⟨impStep hb h hv hs hbody i1, impStep hb h hv hs hbody i2⟩
 exact impStep hb h hv hs hbody fun x _ => hS x
theorem c247 {b t : Nat} {f x : Fld} (hb : V b = some (.cells #[.string f.name, .string f.ty] t (0, 0))) : PP 247 [x.v, .pointer (some ⟨b, 0, none⟩)] V (.bool (decide (x.name = f.name))) := by
 refine x247 (v0 := x.name) (v1 := x.ty) ?_
 unfold w247
 exact ⟨by simp, _, row_cells hb 0 1 (by simp), rfl, rfl⟩
theorem c217 (h : ChkAt V c d) {l : Sl} {xs : List Fld} (hl : RowsAt V l 2 (xs.map Fld.row)) : PP 217 [.pointer c, l.v] V (.int .i64 (declT d xs)) := by
 refine Pur.mk (x217 (v1 := l) ?_)
 unfold w217 declT
 generalize hf : (fun i f => if oneT d xs i f ≠ 0 then some (oneT d xs i f) else none) = fn
 refine loop2 xs.length (fun k V1 => V.sub V1 /\ firstE fn 0 xs = firstE fn k (xs.drop k)) ⟨Mem.sub.refl _, rfl⟩ ?_
 rintro k b V1 J hi ⟨hV, ha⟩ hJ
 have hl1 := hl.sub hV
 refine ⟨fun hk => ?_, fun hk => ?_⟩
 ·obtain ⟨g, hmg, hxg, hdg, hlg, hpg, hzg, hrowg⟩ := hl1.get hk
  rw [hdg] at ha
  have hc := hl1.cap
  refine ⟨hpg, hzg, hk, _, _, hrowg, ⟨by omega, by omega, by omega⟩, fun b1 hb1 => ?_⟩
  have s1 := Mem.sub_new hb1 (.cells #[.string g.name, .string g.ty] 110 (0, 0))
  have hV2 := hV.trans s1
  simp only [pre_eq, sub0]
  have key : ∀ X n : Int, X = n -> (Ending.returned (.int .i64 n) = Ending.returned (.int .i64 X) /\ V.sub (V1.set b1 (.cells #[.string g.name, .string g.ty] 110 (0, 0)))) := fun X n h => by rw [h]; exact ⟨rfl, hV2⟩
  refine (c168 (l := ⟨l.p, k, l.c⟩) (first := []) (caps := [.pointer (some ⟨b1, 0, none⟩)]) (RowsAt.pre (hl.sub hV2) (by omega)) Tryz.call247 (fun x => decide (x.name = g.name)) (fun x _ => c247 (f := g) (Mem.set_same _ _ _))).call ⟨_, rfl, fun h1 => ?_, fun h1 => ⟨by simp [ptrAdd], _, row_cells (Mem.set_same _ _ _) 1 1 (by simp), (c220 (h.sub hV2)).call ⟨_, rfl, fun h2 => ?_, fun h2 => ?_⟩⟩⟩
  ·have e : oneT d xs k g = 10 := by unfold oneT; rw [if_pos h1]
   rw [ha, firstE_some (b := 10) (by rw [<- hf]; exact (if_pos (by rw [e]; decide)).trans (by rw [e]))]
   exact key _ _ rfl
  ·have e : oneT d xs k g = 0 := by unfold oneT; rw [if_neg h1, if_pos h2]
   exact ⟨hl1.succ hk, hJ hlg _ _ ⟨hV2, by rw [ha, firstE_none (by rw [<- hf]; exact if_neg fun h => h e)]⟩⟩
  ·have e : oneT d xs k g = 9 := by unfold oneT; rw [if_neg h1, if_neg h2]
   rw [ha, firstE_some (b := 9) (by rw [<- hf]; exact (if_pos (by rw [e]; decide)).trans (by rw [e]))]
   exact key _ _ rfl
 ·rw [(hl1.done hk).1, firstE] at ha
  rw [ha]; exact ⟨rfl, hV⟩
def FltAt (V : Mem) (p : Option Addr) (o : Option Flt) : Prop := match o with
 | none => p = none
 | some r => ∃ b t, p = some ⟨b, 0, none⟩ /\ V b = some (.cells #[.string r.1, .int .i64 r.2.1, .int .i64 r.2.2] t (0, 0))
def FltC (f : FuncId) (args : List Value) (V : Mem) (o : Option Flt) : Prop := Tri Tryz.prog f args.toArray V fun r V' => ∃ p, r = .returned (.pointer p) /\ V.sub V' /\ FltAt V' p o
theorem c232 (h : ChkAt V c d) (hv : VNe d) (hs : ScpAt V m sc) {e : E} (he : E.Ok V e) (hok : okE 1 e = true) {s t : ByteArray} :
  FltC 232 [sV c m sc, .string s, e.v, .string t] V (if wantT d sc e t ≠ 0 then some (s, -1, wantT d sc e t) else none) := by
 refine x232 (v0 := c) (v1 := m) (v2 := sc.body) (v4 := e.op) (v5 := e.n) (v6 := e.s) (v7 := e.l) ?_
 unfold w232 wantT
 refine (impExpr h hv hs e he 1 hok V (Mem.sub.refl _)).call ⟨_, _, rfl, fun h0 => ⟨fun h1 => ?_, fun h1 => fun b hb => ?_⟩, fun h0 => fun b hb => ?_⟩
 ·simp only [h0, h1, ne_eq, not_true_eq_false, if_false, if_true]; exact ⟨_, rfl, Mem.sub.refl _, rfl⟩
 ·simp only [h0, h1, ne_eq, not_true_eq_false, if_false]; exact ⟨_, rfl, Mem.sub_new hb _, b, _, rfl, Mem.set_same _ _ _⟩
 ·simp only [h0, ne_eq, not_false_eq_true, if_true]; exact ⟨_, rfl, Mem.sub_new hb _, b, _, rfl, Mem.set_same _ _ _⟩
end
def ScopeC : Prop := ∀ (V : Mem) (c : Option Addr) (d : Ds) (body : Bool) (l : Sl) (ls : List (Sl × List Fld)), ChkAt V c d -> RowsAt V l 1 (ls.map fun x => [x.1.v]) -> (∀ x ∈ ls, RowsAt V x.1 2 (x.2.map Fld.row)) ->
 Tri Tryz.prog 138 #[.pointer c, .bool body, .slice l.p l.n l.c] V fun r V' => ∃ mb, r = .returned (.agg #[.pointer c, .map (some mb), .bool body]) /\ V.sub V' /\ V mb = none /\ MapAt V' mb (fun k => (varOf (ls.flatMap (·.2) ++ d.globals) k).map Value.string)
def NewC : Prop := ∀ (V : Mem) (d : Ds), Ds.Ok V d -> Tri Tryz.prog 110 #[d.v] V fun r V' => ∃ c, r = .returned (.pointer c) /\ V.sub V' /\ ChkAt V' c d
section
variable {V : Mem} {d : Ds} {c : Option Addr}
theorem ne_append {a b : List Fld} (h : NE a) (k : NE b) : NE (a ++ b) := fun f hf => by
 rcases List.mem_append.1 hf with h' | h'
 ·exact h f h'
 ·exact k f h'
theorem impInProc (hS : ScopeC) (h : ChkAt V c d) (hv : VNe d) {p : Pr} (hm : p ∈ d.procs) (hp : Pr.Ok V p) : Tri Tryz.prog 230 #[.pointer c, p.v] V fun r V' => ∃ m, r = .returned (sV c m (inProcS d p)) /\ V.sub V' /\ ScpAt V' m (inProcS d p) := by
 refine x230 (v1 := p.name) (v2 := p.ps) (v3 := p.result) (v4 := p.ls) (v5 := p.bs) ?_
 unfold w230
 intro b hb
 have hs := Mem.sub_new hb (.cells #[.slice p.ps.p p.ps.n p.ps.c, .slice p.ls.p p.ls.n p.ls.c] 23 (0, 0))
 refine Tri.mono (hS _ c d true ⟨some ⟨b, 0, none⟩, 2, 2⟩ [(p.ps, p.params), (p.ls, p.locals)] (h.sub hs) (RowsAt.cells (xs := [(p.ps, p.params), (p.ls, p.locals)]) (row := fun x => [x.1.v]) (Mem.set_same _ _ _) rfl (fun _ => rfl) rfl (by simp)) ?_) ?_
 ·intro x hx
  simp only [List.mem_cons, List.not_mem_nil, or_false] at hx
  rcases hx with rfl | rfl
  ·exact hp.params.sub hs
  ·exact hp.locals.sub hs
 ·rintro _ V' ⟨mb, rfl, h1, h2, h3⟩
  refine ⟨_, _, _, rfl, some mb, rfl, hs.trans h1, ⟨mb, rfl, h3.congr fun k => ?_⟩, ne_append (ne_append (hv.params p hm).1 (hv.params p hm).2) hv.globals⟩
  simp [inProcS]
theorem impInBound (hS : ScopeC) (h : ChkAt V c d) (hv : VNe d) {p : Pr} (hm : p ∈ d.procs) (hp : Pr.Ok V p) : Tri Tryz.prog 233 #[.pointer c, p.v] V fun r V' => ∃ m, r = .returned (sV c m (inBoundS d p)) /\ V.sub V' /\ ScpAt V' m (inBoundS d p) := by
 refine x233 (v1 := p.name) (v2 := p.ps) (v3 := p.result) (v4 := p.ls) (v5 := p.bs) ?_
 unfold w233
 intro b hb
 have hs := Mem.sub_new hb (.cells #[.slice p.ps.p p.ps.n p.ps.c] 23 (0, 0))
 refine Tri.mono (hS _ c d false ⟨some ⟨b, 0, none⟩, 1, 1⟩ [(p.ps, p.params)] (h.sub hs) (RowsAt.cells (xs := [(p.ps, p.params)]) (row := fun x => [x.1.v]) (Mem.set_same _ _ _) rfl (fun _ => rfl) rfl (by simp)) ?_) ?_
 ·intro x hx
  simp only [List.mem_cons, List.not_mem_nil, or_false] at hx
  rcases hx with rfl
  exact hp.params.sub hs
 ·rintro _ V' ⟨mb, rfl, h1, h2, h3⟩
  refine ⟨_, _, _, rfl, some mb, rfl, hs.trans h1, ⟨mb, rfl, h3.congr fun k => ?_⟩, ne_append (hv.params p hm).1 hv.globals⟩
  simp [inBoundS]
theorem impInFormula (hS : ScopeC) (h : ChkAt V c d) (hv : VNe d) {t : ByteArray} : Tri Tryz.prog 89 #[.pointer c, .string t] V fun r V' => ∃ m, r = .returned (sV c m (inFormS d t)) /\ V.sub V' /\ ScpAt V' m (inFormS d t) := by
 refine x89 ?_
 unfold w89
 refine Tri.mono (hS V c d false ⟨none, 0, 0⟩ [] h RowsAt.nil (by simp)) ?_
 rintro _ V' ⟨mb, rfl, h1, h2, h3⟩
 refine ⟨_, _, _, rfl, fun he => ?_, fun he => ?_⟩
 ·refine ⟨some mb, rfl, h1, ⟨mb, rfl, h3.congr fun k => ?_⟩, ?_⟩
  ·unfold inFormS sE; rw [if_pos he]; rfl
  ·unfold inFormS sE; rw [if_pos he]; exact hv.globals
 ·refine UpdK.str Tryz.underlying163 Tryz.underlying9 h3 fun o ho => ?_
  refine ⟨some mb, rfl, h1.set h2 _, ⟨mb, rfl, ho.congr fun k => ?_⟩, ?_⟩
  ·unfold inFormS sE
   rw [if_neg he]
   unfold varOf
   simp only [List.flatMap_nil, List.nil_append, List.cons_append, List.find?_cons]
   rw [show (⟨#[116, 104, 105, 115]⟩ : ByteArray) = sThisF from rfl]
   by_cases hk : k = sThisF
   ·subst hk
    rw [if_pos rfl, decide_eq_true rfl]; rfl
   ·rw [if_neg (fun e => hk e), decide_eq_false (fun e : sThisF = k => hk e.symm)]
  ·unfold inFormS sE
   rw [if_neg he]
   refine ne_append (fun f hf => ?_) hv.globals
   simp only [List.mem_cons, List.not_mem_nil, or_false] at hf
   subst hf
   exact he
theorem pubFlt {V1 : Mem} {X : Option Flt} {s : ByteArray} {n e : Int} (hX : X = some (s, n, e)) (h : V.sub V1) : PubT [(.string s), (.int .i64 n), (.int .i64 e)] 195 V1 fun v8 V2 => (∃ p, Ending.returned (.pointer (ptrAdd v8 0)) = .returned (.pointer p) /\ V.sub V2 /\ FltAt V2 p X) := fun b hb => by
 subst hX
 exact ⟨some ⟨b, 0, none⟩, rfl, h.trans (Mem.sub_new hb _), b, _, rfl, Mem.set_same _ _ _⟩
theorem oneT_cases (d : Ds) (l : List Fld) (i : Nat) (f : Fld) : ((l.take i).any (fun g => decide (g.name = f.name)) = true /\ oneT d l i f = 10) ∨ (¬ (l.take i).any (fun g => decide (g.name = f.name)) = true /\ known d f.ty = true /\ oneT d l i f = 0) ∨ (¬ (l.take i).any (fun g => decide (g.name = f.name)) = true /\ ¬ known d f.ty = true /\ oneT d l i f = 9) := by
 unfold oneT
 by_cases h : (l.take i).any (fun g => decide (g.name = f.name)) = true
 ·exact .inl ⟨h, if_pos h⟩
 ·by_cases k : known d f.ty = true
  ·exact .inr (.inl ⟨h, k, by rw [if_neg h, if_pos k]⟩)
  ·exact .inr (.inr ⟨h, k, by rw [if_neg h, if_neg k]⟩)
theorem impTypes (h : ChkAt V c d) : FltC 162 [.pointer c] V (typesT d) := by
 refine x162 ?_
 unfold w162 typesT
 refine ⟨h.nn, h.nn, ptrAdd_ne h.nn, d.ts, h.cell (i := 1) rfl, ?_⟩
 unfold types1
 generalize hf1 : (fun i (t : Ty) => if (d.types.take i).any (fun g => decide (g.name = t.name)) = true then some ((t.name, -1, 10) : Flt) else none) = F1
 refine loop2 d.types.length (fun k V1 => V = V1 /\ firstE F1 0 d.types = firstE F1 k (d.types.drop k)) ⟨rfl, rfl⟩ ?_
 rintro k b V1 J hi ⟨rfl, ha⟩ hJ
 have rf := Mem.sub.refl V
 refine ⟨fun hk => ?_, fun hk => ?_⟩
 ·obtain ⟨g, hm, hx, hdr, hl, hp, hz, hrow⟩ := h.ok.types.get hk
  rw [hdr] at ha
  refine ⟨hp, hz, hk, _, _, hrow, h.nn, h.nn, ptrAdd_ne h.nn, d.ts, h.cell (i := 1) rfl, (c215 h.ok.types hx).call ⟨_, rfl, fun h1 => pubFlt ?_ rf, fun h1 => ⟨h.ok.types.succ hk, hJ hl _ _ ⟨rfl, ?_⟩⟩⟩⟩
  ·rw [ha, firstE_some (b := (g.name, -1, 10)) (by rw [<- hf1]; exact if_pos h1)]; rfl
  ·rw [ha, firstE_none (by rw [<- hf1]; exact if_neg h1)]
 rw [(h.ok.types.done hk).1, firstE] at ha
 rw [ha, Option.none_or]
 refine ⟨h.nn, h.nn, ptrAdd_ne h.nn, d.ts, h.cell (i := 1) rfl, ?_⟩
 unfold types2
 generalize hf2 : (fun (_ : Nat) (t : Ty) => if declT d t.fields ≠ 0 then some ((t.name, -1, declT d t.fields) : Flt) else none) = F2
 refine loop2 d.types.length (fun k V1 => V = V1 /\ firstE F2 0 d.types = firstE F2 k (d.types.drop k)) ⟨rfl, rfl⟩ ?_
 rintro k b V1 J hi ⟨rfl, ha⟩ hJ
 refine ⟨fun hk => ?_, fun hk => ?_⟩
 ·obtain ⟨g, hm, hx, hdr, hl, hp, hz, hrow⟩ := h.ok.types.get hk
  rw [hdr] at ha
  refine ⟨hp, hz, hk, _, _, hrow, (c217 h (h.ok.typesOk g hm).fields).call ⟨_, rfl, fun h1 => ⟨h.ok.types.succ hk, hJ hl _ _ ⟨rfl, ?_⟩⟩, fun h1 => pubFlt ?_ rf⟩⟩
  ·rw [ha, firstE_none (by rw [<- hf2]; exact if_neg fun e => e h1)]
  ·rw [ha, firstE_some (b := (g.name, -1, declT d g.fields)) (by rw [<- hf2]; exact if_pos h1)]; rfl
 rw [(h.ok.types.done hk).1, firstE] at ha
 rw [ha, Option.none_or]
 refine ⟨h.nn, h.nn, ptrAdd_ne h.nn, d.gs, h.cell (i := 2) rfl, ?_⟩
 unfold types3
 generalize hf3 : (fun i (f : Fld) => if oneT d d.globals i f ≠ 0 then some ((f.name, -1, oneT d d.globals i f) : Flt) else none) = F3
 refine loop2 d.globals.length (fun k V1 => V = V1 /\ firstE F3 0 d.globals = firstE F3 k (d.globals.drop k)) ⟨rfl, rfl⟩ ?_
 rintro k b V1 J hi ⟨rfl, ha⟩ hJ
 refine ⟨fun hk => ?_, fun hk => ?_⟩
 ·obtain ⟨g, hm, hx, hdr, hl, hp, hz, hrow⟩ := h.ok.globals.get hk
  rw [hdr] at ha
  have ho := oneT_cases d d.globals k g
  refine ⟨hp, hz, hk, _, _, hrow, h.nn, h.nn, ptrAdd_ne h.nn, d.gs, h.cell (i := 2) rfl, (c218 h.ok.globals hx).call ⟨_, rfl, fun h1 => pubFlt ?_ rf, fun h1 => (c220 h).call ⟨_, rfl, fun h2 => ⟨h.ok.globals.succ hk, hJ hl _ _ ⟨rfl, ?_⟩⟩, fun h2 => pubFlt ?_ rf⟩⟩⟩
  ·rcases ho with ⟨_, e⟩ | ⟨h', _⟩ | ⟨h', _⟩
   ·rw [ha, firstE_some (b := (g.name, -1, 10)) (by rw [<- hf3]; exact (if_pos (by rw [e]; decide)).trans (by rw [e]))]
   ·exact absurd h1 h'
   ·exact absurd h1 h'
  ·rcases ho with ⟨h', _⟩ | ⟨_, _, e⟩ | ⟨_, h', _⟩
   ·exact absurd h' h1
   ·rw [ha, firstE_none (by rw [<- hf3]; exact if_neg fun h => h e)]
   ·exact absurd h2 h'
  ·rcases ho with ⟨h', _⟩ | ⟨_, h', _⟩ | ⟨_, _, e⟩
   ·exact absurd h' h1
   ·exact absurd h' h2
   ·rw [ha, firstE_some (b := (g.name, -1, 9)) (by rw [<- hf3]; exact (if_pos (by rw [e]; decide)).trans (by rw [e]))]
 rw [(h.ok.globals.done hk).1, firstE] at ha
 rw [ha]
 exact ⟨none, rfl, rf, rfl⟩
theorem impHeads (h : ChkAt V c d) (hsm : Small d) : FltC 163 [.pointer c] V (headsT d) := by
 refine x163 ?_
 unfold w163 headsT
 refine ⟨h.nn, h.nn, ptrAdd_ne h.nn, d.ps, h.cell (i := 3) rfl, ?_⟩
 generalize hf1 : (fun i (p : Pr) => if (d.procs.take i).any (fun g => decide (g.name = p.name)) = true then some ((p.name, -1, 10) : Flt) else if declT d (p.params ++ p.locals) ≠ 0 then some (p.name, -1, declT d (p.params ++ p.locals)) else if p.result ≠ sE /\ known d p.result = false then some (p.name, -1, 9) else none) = F1
 refine loop2 d.procs.length (fun k V1 => V.sub V1 /\ firstE F1 0 d.procs = firstE F1 k (d.procs.drop k)) ⟨Mem.sub.refl _, rfl⟩ ?_
 rintro k b V1 J hi ⟨hV, ha⟩ hJ
 have h1 := h.sub hV
 refine ⟨fun hk => ?_, fun hk => ?_⟩
 ·obtain ⟨g, hm, hx, hdr, hl, hp, hz, hrow⟩ := h1.ok.procs.get hk
  rw [hdr] at ha
  have hg := h1.ok.procsOk g hm
  have hs := hsm.2 g hm
  refine ⟨hp, hz, hk, _, _, _, _, _, hrow, h.nn, h.nn, ptrAdd_ne h.nn, d.ps, h1.cell (i := 3) rfl, (c221 h1.ok.procs hx).call ⟨_, rfl, fun n1 => pubFlt ?_ hV, fun n1 => ?_⟩⟩
  ·rw [ha, firstE_some (b := (g.name, -1, 10)) (by rw [<- hf1]; exact if_pos n1)]
  intro b1 hb1
  have s1 := Mem.sub_new hb1 (.cells #[.slice g.ps.p g.ps.n g.ps.c, .slice g.ls.p g.ls.n g.ls.c] 23 (0, 0))
  refine Tri.mono (concatF (l := ⟨some ⟨b1, 0, none⟩, 2, 2⟩) (ls := [(g.ps, g.params), (g.ls, g.locals)]) (RowsAt.cells (xs := [(g.ps, g.params), (g.ls, g.locals)]) (row := fun x => [x.1.v]) (Mem.set_same _ _ _) rfl (fun _ => rfl) rfl (by simp)) ?_ (by simp) ?_) ?_
  ·intro x hx
   simp only [List.mem_cons, List.not_mem_nil, or_false] at hx
   rcases hx with rfl | rfl
   ·exact hg.params.sub s1
   ·exact hg.locals.sub s1
  ·intro x hx
   simp only [List.mem_cons, List.not_mem_nil, or_false] at hx
   rcases hx with rfl | rfl
   ·exact hs.1
   ·exact hs.2
  rintro _ V2 ⟨s', rfl, h12, hrows⟩
  have hV2 := hV.trans (s1.trans h12)
  have hfl : ([(g.ps, g.params), (g.ls, g.locals)] : List (Sl × List Fld)).flatMap (·.2) = g.params ++ g.locals := by simp
  rw [hfl] at hrows
  refine ⟨s', rfl, (c217 (h.sub hV2) hrows).call ⟨_, rfl, fun h2 => ?_, fun h2 => pubFlt ?_ hV2⟩⟩
  ·have n2 : ¬ (declT d (g.params ++ g.locals) ≠ 0) := fun e => e h2
   refine ⟨fun h3 => ⟨h1.ok.procs.succ hk, hJ hl _ _ ⟨hV2, ?_⟩⟩, fun h3 => (c220 (h.sub hV2)).call ⟨_, rfl, fun h4 => ⟨h1.ok.procs.succ hk, hJ hl _ _ ⟨hV2, ?_⟩⟩, fun h4 => pubFlt ?_ hV2⟩⟩
   ·rw [ha, firstE_none (by rw [<- hf1]; exact (if_neg n1).trans ((if_neg n2).trans (if_neg fun e => e.1 h3)))]
   ·rw [ha, firstE_none (by rw [<- hf1]; exact (if_neg n1).trans ((if_neg n2).trans (if_neg fun e => by rw [h4] at e; exact absurd e.2 (by simp))))]
   ·rw [ha, firstE_some (b := (g.name, -1, 9)) (by rw [<- hf1]; exact (if_neg n1).trans ((if_neg n2).trans (if_pos ⟨h3, eq_false_of_ne_true h4⟩)))]
  ·rw [ha, firstE_some (b := (g.name, -1, declT d (g.params ++ g.locals))) (by rw [<- hf1]; exact (if_neg n1).trans (if_pos h2))]
 rw [(h1.ok.procs.done hk).1, firstE] at ha
 rw [ha]
 exact ⟨none, rfl, hV, rfl⟩
end
section
variable {V : Mem} {d : Ds} {c : Option Addr}
theorem impForm (h : ChkAt V c d) : FltC 164 [.pointer c] V (formT d) := by
 refine x164 ?_
 unfold w164 formT
 have rf := Mem.sub.refl V
 refine ⟨h.nn, h.nn, ptrAdd_ne h.nn, d.ms, h.cell (i := 4) rfl, ?_⟩
 unfold form1
 generalize hf1 : (fun i (m : Ms) => if (d.measures.take i).any (fun g => decide (g.name = m.name)) = true then some ((m.name, -1, 10) : Flt) else if isNode d m.ty = false then some (m.name, -1, 9) else none) = F1
 refine loop2 d.measures.length (fun k V1 => V = V1 /\ firstE F1 0 d.measures = firstE F1 k (d.measures.drop k)) ⟨rfl, rfl⟩ ?_
 rintro k b V1 J hi ⟨rfl, ha⟩ hJ
 refine ⟨fun hk => ?_, fun hk => ?_⟩
 ·obtain ⟨g, hm, hx, hdr, hl, hp, hz, hrow⟩ := h.ok.measures.get hk
  rw [hdr] at ha
  refine ⟨hp, hz, hk, _, _, _, _, _, _, _, hrow, h.nn, h.nn, ptrAdd_ne h.nn, d.ms, h.cell (i := 4) rfl, (c224 h.ok.measures hx).call ⟨_, rfl, fun h1 => pubFlt ?_ rf, fun h1 => (c88 h).call ⟨_, rfl, fun h2 => ⟨h.ok.measures.succ hk, hJ hl _ _ ⟨rfl, ?_⟩⟩, fun h2 => pubFlt ?_ rf⟩⟩⟩
  ·rw [ha, firstE_some (b := (g.name, -1, 10)) (by rw [<- hf1]; exact if_pos h1)]; rfl
  ·rw [ha, firstE_none (by rw [<- hf1]; exact (if_neg h1).trans (if_neg (by rw [h2]; simp)))]
  ·rw [ha, firstE_some (b := (g.name, -1, 9)) (by rw [<- hf1]; exact (if_neg h1).trans (if_pos (eq_false_of_ne_true h2)))]; rfl
 rw [(h.ok.measures.done hk).1, firstE] at ha
 rw [ha, Option.none_or]
 refine ⟨h.nn, h.nn, ptrAdd_ne h.nn, d.is, h.cell (i := 5) rfl, ?_⟩
 unfold form2
 generalize hf2 : (fun i (m : Iv) => if (d.invs.take i).any (fun g => decide (g.name = m.name)) = true then some ((m.name, -1, 10) : Flt) else if m.ty ≠ sE /\ isNode d m.ty = false then some (m.name, -1, 9) else none) = F2
 refine loop2 d.invs.length (fun k V1 => V = V1 /\ firstE F2 0 d.invs = firstE F2 k (d.invs.drop k)) ⟨rfl, rfl⟩ ?_
 rintro k b V1 J hi ⟨rfl, ha⟩ hJ
 refine ⟨fun hk => ?_, fun hk => ?_⟩
 ·obtain ⟨g, hm, hx, hdr, hl, hp, hz, hrow⟩ := h.ok.invs.get hk
  rw [hdr] at ha
  refine ⟨hp, hz, hk, _, _, _, _, _, _, hrow, h.nn, h.nn, ptrAdd_ne h.nn, d.is, h.cell (i := 5) rfl, (c226 h.ok.invs hx).call ⟨_, rfl, fun h1 => pubFlt ?_ rf, fun h1 => ⟨fun h3 => ⟨h.ok.invs.succ hk, hJ hl _ _ ⟨rfl, ?_⟩⟩, fun h3 => (c88 h).call ⟨_, rfl, fun h2 => ⟨h.ok.invs.succ hk, hJ hl _ _ ⟨rfl, ?_⟩⟩, fun h2 => pubFlt ?_ rf⟩⟩⟩⟩
  ·rw [ha, firstE_some (b := (g.name, -1, 10)) (by rw [<- hf2]; exact if_pos h1)]; rfl
  ·rw [ha, firstE_none (by rw [<- hf2]; exact (if_neg h1).trans (if_neg fun e => e.1 h3))]
  ·rw [ha, firstE_none (by rw [<- hf2]; exact (if_neg h1).trans (if_neg fun e => by rw [h2] at e; exact absurd e.2 (by simp)))]
  ·rw [ha, firstE_some (b := (g.name, -1, 9)) (by rw [<- hf2]; exact (if_neg h1).trans (if_pos ⟨h3, eq_false_of_ne_true h2⟩))]; rfl
 rw [(h.ok.invs.done hk).1, firstE] at ha
 rw [ha, Option.none_or]
 refine ⟨h.nn, h.nn, ptrAdd_ne h.nn, d.qs, h.cell (i := 6) rfl, ?_⟩
 unfold form3
 generalize hf3 : (fun (_ : Nat) (m : Po) => if m.ty ≠ sE /\ isNode d m.ty = false then some ((sPot, -1, 9) : Flt) else none) = F3
 refine loop2 d.pots.length (fun k V1 => V = V1 /\ firstE F3 0 d.pots = firstE F3 k (d.pots.drop k)) ⟨rfl, rfl⟩ ?_
 rintro k b V1 J hi ⟨rfl, ha⟩ hJ
 refine ⟨fun hk => ?_, fun hk => ?_⟩
 ·obtain ⟨g, hm, hx, hdr, hl, hp, hz, hrow⟩ := h.ok.pots.get hk
  rw [hdr] at ha
  refine ⟨hp, hz, hk, _, _, _, _, _, hrow, fun h3 => ⟨h.ok.pots.succ hk, hJ hl _ _ ⟨rfl, ?_⟩⟩, fun h3 => (c88 h).call ⟨_, rfl, fun h2 => ⟨h.ok.pots.succ hk, hJ hl _ _ ⟨rfl, ?_⟩⟩, fun h2 => pubFlt ?_ rf⟩⟩
  ·rw [ha, firstE_none (by rw [<- hf3]; exact if_neg fun e => e.1 h3)]
  ·rw [ha, firstE_none (by rw [<- hf3]; exact if_neg fun e => by rw [h2] at e; exact absurd e.2 (by simp))]
  ·rw [ha, firstE_some (b := (sPot, -1, 9)) (by rw [<- hf3]; exact if_pos ⟨h3, eq_false_of_ne_true h2⟩)]; rfl
 rw [(h.ok.pots.done hk).1, firstE] at ha
 rw [ha, Option.none_or]
 refine ⟨h.nn, h.nn, ptrAdd_ne h.nn, d.bs, h.cell (i := 7) rfl, ?_⟩
 unfold form4
 generalize hf4 : (fun i (b : Bd) => if (prOf d b.proc).isNone = true then some ((b.proc, -1, 9) : Flt) else if (d.bounds.take i).any (fun g => decide (g.proc = b.proc)) = true then some (b.proc, -1, 10) else none) = F4
 refine loop2 d.bounds.length (fun k V1 => V = V1 /\ firstE F4 0 d.bounds = firstE F4 k (d.bounds.drop k)) ⟨rfl, rfl⟩ ?_
 rintro k b V1 J hi ⟨rfl, ha⟩ hJ
 refine ⟨fun hk => ?_, fun hk => ?_⟩
 ·obtain ⟨g, hm, hx, hdr, hl, hp, hz, hrow⟩ := h.ok.bounds.get hk
  rw [hdr] at ha
  obtain ⟨mt, q1, q2⟩ := h.procs
  refine ⟨hp, hz, hk, _, _, _, _, _, hrow, h.nn, h.nn, _, q1, LookK.str Tryz.underlying208 Tryz.underlying9 zero146 q2 ?_⟩
  cases hpr : prOf d g.proc with
  | none =>
   refine ⟨_, ⟨none, 0, 0⟩, _, ⟨none, 0, 0⟩, ⟨none, 0, 0⟩, _, rfl, fun h => absurd h (by simp), fun _ => pubFlt ?_ rf⟩
   rw [ha, firstE_some (b := (g.proc, -1, 9)) (by rw [<- hf4]; exact if_pos (by rw [hpr]; rfl))]
  | some p =>
   have n0 : ¬ (prOf d g.proc).isNone = true := by rw [hpr]; simp
   refine ⟨_, p.ps, _, p.ls, p.bs, _, rfl, fun _ => ⟨h.nn, h.nn, ptrAdd_ne h.nn, d.bs, h.cell (i := 7) rfl, (c228 h.ok.bounds hx).call ⟨_, rfl, fun h1 => pubFlt ?_ rf, fun h1 => ⟨h.ok.bounds.succ hk, hJ hl _ _ ⟨rfl, ?_⟩⟩⟩⟩, fun h => absurd rfl h⟩
   ·rw [ha, firstE_some (b := (g.proc, -1, 10)) (by rw [<- hf4]; exact (if_neg n0).trans (if_pos h1))]
   ·rw [ha, firstE_none (by rw [<- hf4]; exact (if_neg n0).trans (if_neg h1))]
 rw [(h.ok.bounds.done hk).1, firstE] at ha
 rw [ha]
 exact ⟨none, rfl, rf, rfl⟩
theorem impBodies (hS : ScopeC) (h : ChkAt V c d) (hv : VNe d) (hp : VParts d) : FltC 165 [.pointer c] V (bodiesT d) := by
 refine x165 ?_
 unfold w165 bodiesT
 refine ⟨h.nn, h.nn, ptrAdd_ne h.nn, d.ps, h.cell (i := 3) rfl, ?_⟩
 generalize hf1 : (fun (_ : Nat) (p : Pr) => if (stsT d (inProcS d p) p.result 0 p.body).2 ≠ 0 then some ((p.name, (stsT d (inProcS d p) p.result 0 p.body).1, (stsT d (inProcS d p) p.result 0 p.body).2) : Flt) else none) = F1
 refine loop2 d.procs.length (fun k V1 => V.sub V1 /\ firstE F1 0 d.procs = firstE F1 k (d.procs.drop k)) ⟨Mem.sub.refl _, rfl⟩ ?_
 rintro k b V1 J hi ⟨hV, ha⟩ hJ
 have h1 := h.sub hV
 refine ⟨fun hk => ?_, fun hk => ?_⟩
 ·obtain ⟨g, hm, hx, hdr, hl, hpp, hz, hrow⟩ := h1.ok.procs.get hk
  rw [hdr] at ha
  have hg := h1.ok.procsOk g hm
  refine ⟨hpp, hz, hk, _, _, _, _, _, hrow, Tri.mono (impInProc hS h1 hv hm hg) ?_⟩
  rintro _ V2 ⟨m, rfl, h12, hsc⟩
  refine ⟨_, _, _, rfl, fun b1 hb1 => ?_⟩
  obtain ⟨hs1, hs2⟩ := hp.ps g hm
  have s1 := Mem.sub_new hb1 (cell (.int .i64 0) 3)
  refine Tri.mono (impStmts hb1 (h1.sub h12) hv hsc rfl g.body _ g.bs 0 1 s1 (Mem.set_same _ _ _) (hg.sub h12).body (hg.sub h12).stmts hs1 (by omega) (by omega)) ?_
  rintro _ V3 ⟨rfl, n', hn', -⟩
  have hV3 := hV.trans (h12.trans (hn'.base s1 hb1))
  refine ⟨_, _, rfl, fun h2 => ⟨h1.ok.procs.succ hk, hJ hl _ _ ⟨hV3, ?_⟩⟩, fun h2 => pubFlt ?_ hV3⟩
  ·rw [ha, firstE_none (by rw [<- hf1]; exact if_neg fun e => e h2)]
  ·have : placeT (stsT d (inProcS d g) g.result 0 g.body) = (stsT d (inProcS d g) g.result 0 g.body).1 := if_neg h2
   rw [this, ha, firstE_some (b := (g.name, (stsT d (inProcS d g) g.result 0 g.body).1, (stsT d (inProcS d g) g.result 0 g.body).2)) (by rw [<- hf1]; exact if_pos h2)]
 rw [(h1.ok.procs.done hk).1, firstE] at ha
 rw [ha]
 exact ⟨none, rfl, hV, rfl⟩
theorem flt_none {V1 : Mem} {X : Option Flt} (h : FltAt V1 none X) : X = none := by
 cases X with
 | none => rfl
 | some r => obtain ⟨b, t, h1, _⟩ := h; cases h1
theorem flt_some {V1 : Mem} {X : Option Flt} {p : Option Addr} (h : FltAt V1 p X) (hp : ¬ p = none) : ∃ r, X = some r := by
 cases X with
 | none => exact absurd h hp
 | some r => exact ⟨r, rfl⟩
theorem impExps (hS : ScopeC) (h : ChkAt V c d) (hv : VNe d) (hp : VParts d) (hform : formT d = none) : FltC 166 [.pointer c] V (expsT d) := by
 refine x166 ?_
 unfold w166 expsT
 refine ⟨h.nn, h.nn, ptrAdd_ne h.nn, d.ms, h.cell (i := 4) rfl, ?_⟩
 unfold exp1
 generalize hf1 : (fun (_ : Nat) (m : Ms) => if wantT d (inFormS d m.ty) m.x sInt ≠ 0 then some ((m.name, -1, wantT d (inFormS d m.ty) m.x sInt) : Flt) else none) = F1
 refine loop2 d.measures.length (fun k V1 => V.sub V1 /\ firstE F1 0 d.measures = firstE F1 k (d.measures.drop k)) ⟨Mem.sub.refl _, rfl⟩ ?_
 rintro k b V1 J hi ⟨hV, ha⟩ hJ
 have h1 := h.sub hV
 refine ⟨fun hk => ?_, fun hk => ?_⟩
 ·obtain ⟨g, hm, hx, hdr, hl, hpp, hz, hrow⟩ := h1.ok.measures.get hk
  rw [hdr] at ha
  refine ⟨hpp, hz, hk, _, _, _, _, _, _, _, hrow, Tri.mono (impInFormula hS h1 hv) ?_⟩
  rintro _ V2 ⟨m, rfl, h12, hsc⟩
  refine ⟨_, _, _, rfl, Tri.mono (c232 (e := g.x) (h1.sub h12) hv hsc ((h1.sub h12).ok.measuresOk g hm).x (hp.ms g hm)) ?_⟩
  rintro _ V3 ⟨p, rfl, h23, hfl⟩
  have hV3 := hV.trans (h12.trans h23)
  have hfe : (if wantT d (inFormS d g.ty) g.x sInt ≠ 0 then some ((g.name, -1, wantT d (inFormS d g.ty) g.x sInt) : Flt) else none) = F1 k g := by rw [<- hf1]
  rw [show strB [105, 110, 116] = sInt from rfl] at hfl
  rw [hfe] at hfl
  refine ⟨_, rfl, fun hn => ?_, fun hn => ?_⟩
  ·subst hn
   exact ⟨h1.ok.measures.succ hk, hJ hl _ _ ⟨hV3, by rw [ha, firstE_none (flt_none hfl)]⟩⟩
  ·obtain ⟨r, hr⟩ := flt_some hfl hn
   rw [ha, firstE_some hr]
   rw [hr] at hfl
   exact ⟨p, rfl, hV3, hfl⟩
 rw [(h1.ok.measures.done hk).1, firstE] at ha
 rw [ha, Option.none_or]
 refine ⟨h.nn, h.nn, ptrAdd_ne h.nn, d.is, h1.cell (i := 5) rfl, ?_⟩
 unfold exp2
 generalize hf2 : (fun (_ : Nat) (m : Iv) => if wantT d (inFormS d m.ty) m.x sBool ≠ 0 then some ((m.name, -1, wantT d (inFormS d m.ty) m.x sBool) : Flt) else none) = F2
 refine loop2 d.invs.length (fun k V1 => V.sub V1 /\ firstE F2 0 d.invs = firstE F2 k (d.invs.drop k)) ⟨hV, rfl⟩ ?_
 rintro k b V1 J hi ⟨hV, ha⟩ hJ
 have h1 := h.sub hV
 refine ⟨fun hk => ?_, fun hk => ?_⟩
 ·obtain ⟨g, hm, hx, hdr, hl, hpp, hz, hrow⟩ := h1.ok.invs.get hk
  rw [hdr] at ha
  refine ⟨hpp, hz, hk, _, _, _, _, _, _, hrow, Tri.mono (impInFormula hS h1 hv) ?_⟩
  rintro _ V2 ⟨m, rfl, h12, hsc⟩
  refine ⟨_, _, _, rfl, Tri.mono (c232 (e := g.x) (h1.sub h12) hv hsc ((h1.sub h12).ok.invsOk g hm) (hp.is g hm)) ?_⟩
  rintro _ V3 ⟨p, rfl, h23, hfl⟩
  have hV3 := hV.trans (h12.trans h23)
  have hfe : (if wantT d (inFormS d g.ty) g.x sBool ≠ 0 then some ((g.name, -1, wantT d (inFormS d g.ty) g.x sBool) : Flt) else none) = F2 k g := by rw [<- hf2]
  rw [show strB [98, 111, 111, 108] = sBool from rfl] at hfl
  rw [hfe] at hfl
  refine ⟨_, rfl, fun hn => ?_, fun hn => ?_⟩
  ·subst hn
   exact ⟨h1.ok.invs.succ hk, hJ hl _ _ ⟨hV3, by rw [ha, firstE_none (flt_none hfl)]⟩⟩
  ·obtain ⟨r, hr⟩ := flt_some hfl hn
   rw [ha, firstE_some hr]
   rw [hr] at hfl
   exact ⟨p, rfl, hV3, hfl⟩
 rw [(h1.ok.invs.done hk).1, firstE] at ha
 rw [ha, Option.none_or]
 refine ⟨h.nn, h.nn, ptrAdd_ne h.nn, d.qs, h1.cell (i := 6) rfl, ?_⟩
 unfold exp3
 generalize hf3 : (fun (_ : Nat) (m : Po) => if wantT d (inFormS d m.ty) m.x sInt ≠ 0 then some ((sPot, -1, wantT d (inFormS d m.ty) m.x sInt) : Flt) else none) = F3
 refine loop2 d.pots.length (fun k V1 => V.sub V1 /\ firstE F3 0 d.pots = firstE F3 k (d.pots.drop k)) ⟨hV, rfl⟩ ?_
 rintro k b V1 J hi ⟨hV, ha⟩ hJ
 have h1 := h.sub hV
 refine ⟨fun hk => ?_, fun hk => ?_⟩
 ·obtain ⟨g, hm, hx, hdr, hl, hpp, hz, hrow⟩ := h1.ok.pots.get hk
  rw [hdr] at ha
  refine ⟨hpp, hz, hk, _, _, _, _, _, hrow, Tri.mono (impInFormula hS h1 hv) ?_⟩
  rintro _ V2 ⟨m, rfl, h12, hsc⟩
  refine ⟨_, _, _, rfl, Tri.mono (c232 (e := g.x) (h1.sub h12) hv hsc ((h1.sub h12).ok.potsOk g hm) (hp.qs g hm)) ?_⟩
  rintro _ V3 ⟨p, rfl, h23, hfl⟩
  have hV3 := hV.trans (h12.trans h23)
  have hfe : (if wantT d (inFormS d g.ty) g.x sInt ≠ 0 then some ((sPot, -1, wantT d (inFormS d g.ty) g.x sInt) : Flt) else none) = F3 k g := by rw [<- hf3]
  rw [show strB [105, 110, 116] = sInt from rfl, show strB [112, 111, 116, 101, 110, 116, 105, 97, 108] = sPot from rfl] at hfl
  rw [hfe] at hfl
  refine ⟨_, rfl, fun hn => ?_, fun hn => ?_⟩
  ·subst hn
   exact ⟨h1.ok.pots.succ hk, hJ hl _ _ ⟨hV3, by rw [ha, firstE_none (flt_none hfl)]⟩⟩
  ·obtain ⟨r, hr⟩ := flt_some hfl hn
   rw [ha, firstE_some hr]
   rw [hr] at hfl
   exact ⟨p, rfl, hV3, hfl⟩
 rw [(h1.ok.pots.done hk).1, firstE] at ha
 rw [ha, Option.none_or]
 refine ⟨h.nn, h.nn, ptrAdd_ne h.nn, d.bs, h1.cell (i := 7) rfl, ?_⟩
 have hpr := bounds_proc hform
 unfold exp4
 generalize hf4 : (fun (_ : Nat) (m : Bd) => if wantT d (inBoundS d ((prOf d m.proc).getD prD)) m.x sInt ≠ 0 then some ((m.proc, -1, wantT d (inBoundS d ((prOf d m.proc).getD prD)) m.x sInt) : Flt) else none) = F4
 refine loop2 d.bounds.length (fun k V1 => V.sub V1 /\ firstE F4 0 d.bounds = firstE F4 k (d.bounds.drop k)) ⟨hV, rfl⟩ ?_
 rintro k b V1 J hi ⟨hV, ha⟩ hJ
 have h1 := h.sub hV
 refine ⟨fun hk => ?_, fun hk => ?_⟩
 ·obtain ⟨g, hm, hx, hdr, hl, hpp, hz, hrow⟩ := h1.ok.bounds.get hk
  rw [hdr] at ha
  obtain ⟨q, hq⟩ := hpr g hm
  obtain ⟨mt, q1, q2⟩ := h1.procs
  refine ⟨hpp, hz, hk, _, _, _, _, _, hrow, h.nn, h.nn, _, q1, LookK.str1 Tryz.underlying208 Tryz.underlying9 zero146 q2 ?_⟩
  rw [hq]
  refine ⟨_, q.ps, _, q.ls, q.bs, rfl, Tri.mono (impInBound hS h1 hv (prOf_mem hq) (h1.ok.procsOk q (prOf_mem hq))) ?_⟩
  rintro _ V2 ⟨m, rfl, h12, hsc⟩
  refine ⟨_, _, _, rfl, Tri.mono (c232 (e := g.x) (h1.sub h12) hv hsc ((h1.sub h12).ok.boundsOk g hm) (hp.bs g hm)) ?_⟩
  rintro _ V3 ⟨p, rfl, h23, hfl⟩
  have hV3 := hV.trans (h12.trans h23)
  have hfe : (if wantT d (inBoundS d q) g.x sInt ≠ 0 then some ((g.proc, -1, wantT d (inBoundS d q) g.x sInt) : Flt) else none) = F4 k g := by rw [<- hf4]; simp only [hq, Option.getD_some]
  rw [show strB [105, 110, 116] = sInt from rfl] at hfl
  rw [hfe] at hfl
  refine ⟨_, rfl, fun hn => ?_, fun hn => ?_⟩
  ·subst hn
   exact ⟨h1.ok.bounds.succ hk, hJ hl _ _ ⟨hV3, by rw [ha, firstE_none (flt_none hfl)]⟩⟩
  ·obtain ⟨r, hr⟩ := flt_some hfl hn
   rw [ha, firstE_some hr]
   rw [hr] at hfl
   exact ⟨p, rfl, hV3, hfl⟩
 rw [(h1.ok.bounds.done hk).1, firstE] at ha
 rw [ha]
 exact ⟨none, rfl, hV, rfl⟩
end
theorem GenK.makeF1 {P : Program} {V : Mem} {f : FuncId} {x : Operand} {ty : Nat} {vals : Operand -> Value} {v : Value} (hx : vals x = v) {q : Value -> Mem -> Prop} (hq : q (.func (.func f) #[v] #[]) V) : GenK P (.makeFunc (.func f) #[x] #[]) ty vals V q := by
 intro w hw
 refine ⟨_, w, V, ?_, Frm.refl hw, hq⟩
 unfold execOp Instr.makeFunc
 simp only [Sem.run_bind, Sem.run_pure, Result.andThen_ok, List.map_toArray, List.map_cons, List.map_nil, hx]
section
variable {V : Mem} {d : Ds} {c : Option Addr}
theorem impFirst (hS : ScopeC) (h : ChkAt V c d) (hv : VNe d) (hp : VParts d) : FltC 111 [.pointer c] V (chkT d) := by
 refine x111 ?_
 unfold w111
 have F1 := fun V1 (hs : V.sub V1) => impTypes (h.sub hs)
 have F2 := fun V1 (hs : V.sub V1) => impHeads (h.sub hs) hp.small
 have F3 := fun V1 (hs : V.sub V1) => impForm (h.sub hs)
 have F4 := fun V1 (hs : V.sub V1) => impBodies hS (h.sub hs) hv hp
 have F5 := fun V1 (hs : V.sub V1) (hf : formT d = none) => impExps hS (h.sub hs) hv hp hf
 refine GenK.makeF1 (v := .pointer c) rfl ⟨.func (.func 162) #[.pointer c] #[], rfl, rfl, GenK.makeF1 (v := .pointer c) rfl ⟨.func (.func 163) #[.pointer c] #[], rfl, rfl, GenK.makeF1 (v := .pointer c) rfl ⟨.func (.func 164) #[.pointer c] #[], rfl, rfl, GenK.makeF1 (v := .pointer c) rfl ⟨.func (.func 165) #[.pointer c] #[], rfl, rfl, GenK.makeF1 (v := .pointer c) rfl ⟨.func (.func 166) #[.pointer c] #[], rfl, rfl, fun b hb => ?_⟩⟩⟩⟩⟩
 have hs1 := Mem.sub_new hb (.cells #[.func (.func 162) #[.pointer c] #[], .func (.func 163) #[.pointer c] #[], .func (.func 164) #[.pointer c] #[], .func (.func 165) #[.pointer c] #[], .func (.func 166) #[.pointer c] #[]] 193 (0, 0))
 refine loop2 5 (fun i V1 => V.sub V1 /\ V1 b = some (.cells #[.func (.func 162) #[.pointer c] #[], .func (.func 163) #[.pointer c] #[], .func (.func 164) #[.pointer c] #[], .func (.func 165) #[.pointer c] #[], .func (.func 166) #[.pointer c] #[]] 193 (0, 0)) /\
  ((i = 0 /\ chkT d = (typesT d).or ((headsT d).or ((formT d).or ((bodiesT d).or (expsT d))))) ∨ (i = 1 /\ chkT d = (headsT d).or ((formT d).or ((bodiesT d).or (expsT d)))) ∨ (i = 2 /\ chkT d = (formT d).or ((bodiesT d).or (expsT d))) ∨ (i = 3 /\ formT d = none /\ chkT d = (bodiesT d).or (expsT d)) ∨ (i = 4 /\ formT d = none /\ chkT d = expsT d) ∨ (i = 5 /\ chkT d = none))) ⟨hs1, Mem.set_same _ _ _, .inl ⟨rfl, rfl⟩⟩ ?_
 rintro i b' V1 J hi ⟨hV, hrow, hst⟩ hJ
 have fin : ∀ {V2 : Mem} {X Y : Option Flt} {p : Option Addr}, V.sub V2 -> FltAt V2 p X -> ¬ (p = none) -> chkT d = X.or Y -> (∃ p', Ending.returned (.pointer p) = .returned (.pointer p') /\ V.sub V2 /\ FltAt V2 p' (chkT d)) := fun {V2 X Y p} hs hf hn he => by
  obtain ⟨r, rfl⟩ := flt_some hf hn
  rw [he]
  exact ⟨p, rfl, hs, hf⟩
 refine ⟨fun hlt => ?_, fun hge => ?_⟩
 ·rcases hst with ⟨rfl, he⟩ | ⟨rfl, he⟩ | ⟨rfl, he⟩ | ⟨rfl, hf, he⟩ | ⟨rfl, hf, he⟩ | ⟨rfl, he⟩
  ·refine ⟨by simp [ptrAdd], by omega, by omega, .func (.func 162) #[.pointer c] #[], rfl, row_cells hrow 0 1 (by simp), _, _, _, rfl, Tryz.call162, Tri.mono (F1 V1 hV) ?_⟩
   rintro _ V2 ⟨p, rfl, h12, hfl⟩
   refine ⟨_, rfl, fun hn => ⟨⟨by omega, by omega⟩, hJ (by omega) _ _ ⟨hV.trans h12, h12 _ _ hrow, ?_⟩⟩, fun hn => fin (hV.trans h12) hfl hn he⟩
   subst hn
   exact .inr (.inl ⟨rfl, by rw [he, flt_none hfl, Option.none_or]⟩)
  ·refine ⟨by simp [ptrAdd], by omega, by omega, .func (.func 163) #[.pointer c] #[], rfl, row_cells hrow 1 1 (by simp), _, _, _, rfl, Tryz.call163, Tri.mono (F2 V1 hV) ?_⟩
   rintro _ V2 ⟨p, rfl, h12, hfl⟩
   refine ⟨_, rfl, fun hn => ⟨⟨by omega, by omega⟩, hJ (by omega) _ _ ⟨hV.trans h12, h12 _ _ hrow, ?_⟩⟩, fun hn => fin (hV.trans h12) hfl hn he⟩
   subst hn
   exact .inr (.inr (.inl ⟨rfl, by rw [he, flt_none hfl, Option.none_or]⟩))
  ·refine ⟨by simp [ptrAdd], by omega, by omega, .func (.func 164) #[.pointer c] #[], rfl, row_cells hrow 2 1 (by simp), _, _, _, rfl, Tryz.call164, Tri.mono (F3 V1 hV) ?_⟩
   rintro _ V2 ⟨p, rfl, h12, hfl⟩
   refine ⟨_, rfl, fun hn => ⟨⟨by omega, by omega⟩, hJ (by omega) _ _ ⟨hV.trans h12, h12 _ _ hrow, ?_⟩⟩, fun hn => fin (hV.trans h12) hfl hn he⟩
   subst hn
   exact .inr (.inr (.inr (.inl ⟨rfl, flt_none hfl, by rw [he, flt_none hfl, Option.none_or]⟩)))
  ·refine ⟨by simp [ptrAdd], by omega, by omega, .func (.func 165) #[.pointer c] #[], rfl, row_cells hrow 3 1 (by simp), _, _, _, rfl, Tryz.call165, Tri.mono (F4 V1 hV) ?_⟩
   rintro _ V2 ⟨p, rfl, h12, hfl⟩
   refine ⟨_, rfl, fun hn => ⟨⟨by omega, by omega⟩, hJ (by omega) _ _ ⟨hV.trans h12, h12 _ _ hrow, ?_⟩⟩, fun hn => fin (hV.trans h12) hfl hn he⟩
   subst hn
   exact .inr (.inr (.inr (.inr (.inl ⟨rfl, hf, by rw [he, flt_none hfl, Option.none_or]⟩))))
  ·refine ⟨by simp [ptrAdd], by omega, by omega, .func (.func 166) #[.pointer c] #[], rfl, row_cells hrow 4 1 (by simp), _, _, _, rfl, Tryz.call166, Tri.mono (F5 V1 hV hf) ?_⟩
   rintro _ V2 ⟨p, rfl, h12, hfl⟩
   refine ⟨_, rfl, fun hn => ⟨⟨by omega, by omega⟩, hJ (by omega) _ _ ⟨hV.trans h12, h12 _ _ hrow, ?_⟩⟩, fun hn => fin (Y := none) (hV.trans h12) hfl hn (by rw [he, Option.or_none])⟩
   subst hn
   exact .inr (.inr (.inr (.inr (.inr ⟨rfl, by rw [he, flt_none hfl]⟩))))
  ·omega
 ·rcases hst with ⟨rfl, he⟩ | ⟨rfl, he⟩ | ⟨rfl, he⟩ | ⟨rfl, hf, he⟩ | ⟨rfl, hf, he⟩ | ⟨rfl, he⟩
  ·omega
  ·omega
  ·omega
  ·omega
  ·omega
  ·rw [he]; exact ⟨none, rfl, hV, rfl⟩
theorem c68 [Tab V] (hS : ScopeC) (hN : NewC) (hd : Ds.Ok V d) : PP 68 [d.v] V (if validD d = true then f3 (chkT d) else .tuple #[.string sE, .int .i64 0, .int .i64 1]) := by
 refine Pur.mk (x68 (v0 := d.name) (v1 := d.ts) (v2 := d.gs) (v3 := d.ps) (v4 := d.ms) (v5 := d.is) (v6 := d.qs) (v7 := d.bs) ?_)
 unfold w68
 refine (c109 hd).call ⟨_, rfl, fun hval => ?_, fun hval => ?_⟩
 ·rw [if_pos hval]
  refine Tri.mono (hN V d hd) ?_
  rintro _ V1 ⟨c, rfl, h1, hc⟩
  refine ⟨c, rfl, Tri.mono (impFirst hS hc (vne hval) (vparts hval)) ?_⟩
  rintro _ V2 ⟨p, rfl, h2, hfl⟩
  refine ⟨p, rfl, fun hn => ?_, fun hn => ?_⟩
  ·subst hn
   rw [flt_none hfl]
   exact ⟨rfl, h1.trans h2⟩
  ·obtain ⟨r, hr⟩ := flt_some hfl hn
   rw [hr] at hfl ⊢
   obtain ⟨b, t, rfl, hb⟩ := hfl
   exact ⟨hn, hn, _, row_cells hb 0 1 (by simp), hn, hn, _, row_cells hb 1 1 (by simp), hn, hn, _, row_cells hb 2 1 (by simp), rowp_self (p := some ⟨b, 0, none⟩) (row_cells hb 2 1 (by simp)), hn, hn, rowp_self (p := some ⟨b, 0, none⟩) (row_cells hb 1 1 (by simp)), hn, hn, rowp_self (p := some ⟨b, 0, none⟩) (row_cells hb 2 1 (by simp)), hn, hn, rfl, h1.trans h2⟩
 ·rw [if_neg hval]; exact ⟨rfl, Mem.sub.refl _⟩
def wellE (d : Ds) (ok : Bool) : Int := if validD d = true /\ ok = true then (if chkT d = none then 0 else 13) else 1
theorem impWell [Tab V] (hS : ScopeC) (hN : NewC) (hd : Ds.Ok V d) {ok : Bool} : Tri Tryz.prog 87 #[d.v, .bool ok] V fun r V' => ∃ c, r = .returned (.tuple #[.pointer c, .int .i64 (wellE d ok)]) /\ V.sub V' /\ (wellE d ok = 0 -> ChkAt V' c d) := by
 refine x87 (v0 := d.name) (v1 := d.ts) (v2 := d.gs) (v3 := d.ps) (v4 := d.ms) (v5 := d.is) (v6 := d.qs) (v7 := d.bs) ?_
 unfold w87
 refine (c109 hd).call ⟨_, rfl, fun hval => ⟨fun hok => ?_, fun hok => ?_⟩, fun hval => ?_⟩
 ·refine Tri.mono (hN V d hd) ?_
  rintro _ V1 ⟨c, rfl, h1, hc⟩
  refine ⟨c, rfl, Tri.mono (impFirst hS hc (vne hval) (vparts hval)) ?_⟩
  rintro _ V2 ⟨p, rfl, h2, hfl⟩
  refine ⟨p, rfl, fun hn => ?_, fun hn => ?_⟩
  ·subst hn
   have e : wellE d ok = 0 := by unfold wellE; rw [if_pos ⟨hval, hok⟩, if_pos (flt_none hfl)]
   rw [e]
   exact ⟨c, rfl, h1.trans h2, fun _ => hc.sub h2⟩
  ·obtain ⟨r, hr⟩ := flt_some hfl hn
   have e : wellE d ok = 13 := by unfold wellE; rw [if_pos ⟨hval, hok⟩, if_neg (by rw [hr]; simp)]
   rw [e]
   exact ⟨none, rfl, h1.trans h2, fun h => absurd h (by decide)⟩
 ·have e : wellE d ok = 1 := by unfold wellE; rw [if_neg (fun h => hok h.2)]
  rw [e]
  exact ⟨none, rfl, Mem.sub.refl _, fun h => absurd h (by decide)⟩
 ·have e : wellE d ok = 1 := by unfold wellE; rw [if_neg (fun h => hval h.1)]
  rw [e]
  exact ⟨none, rfl, Mem.sub.refl _, fun h => absurd h (by decide)⟩
theorem wellE_zero {d : Ds} {ok : Bool} (h : wellE d ok = 0) : validD d = true /\ ok = true /\ chkT d = none := by
 unfold wellE at h
 split at h
 ·rename_i h1
  split at h
  ·rename_i h2; exact ⟨h1.1, h1.2, h2⟩
  ·exact absurd h (by decide)
 ·exact absurd h (by decide)
def measR (d : Ds) (t : ByteArray) (e : E) : ByteArray × Int := if wellE d (validE e) ≠ 0 then (sE, wellE d (validE e)) else if t ≠ sE /\ isNode d t = false then (sE, 12) else exprT d (inFormS d t) e
theorem c60 [Tab V] (hS : ScopeC) (hN : NewC) (hd : Ds.Ok V d) {s : ByteArray} {e : E} (he : E.Ok V e) : PP 60 [d.v, .string s, e.v] V (.tuple #[.string (measR d s e).1, .int .i64 (measR d s e).2]) := by
 refine Pur.mk (x60 (v0 := d.name) (v1 := d.ts) (v2 := d.gs) (v3 := d.ps) (v4 := d.ms) (v5 := d.is) (v6 := d.qs) (v7 := d.bs) (v9 := e.op) (v10 := e.n) (v11 := e.s) (v12 := e.l) ?_)
 unfold w60 measR
 refine (c59 he).call ⟨_, rfl, Tri.mono (impWell hS hN hd) ?_⟩
 rintro _ V1 ⟨c, rfl, h1, hc⟩
 refine ⟨c, _, rfl, fun h0 => ?_, fun h0 => ?_⟩
 ·obtain ⟨hval, hok, -⟩ := wellE_zero h0
  have hc := hc h0
  rw [if_neg (fun h => h h0)]
  have go : ¬ (s ≠ sE /\ isNode d s = false) -> Tri Tryz.prog 89 #[.pointer c, .string s] V1 fun z V3 => ∃ v16 : Option Addr, ∃ v17 : Option Nat, ∃ v18 : Bool, z = .returned (.agg #[(.pointer v16), (.map v17), (.bool v18)]) /\
    Tri Tryz.prog 90 #[(.agg #[(.pointer v16), (.map v17), (.bool v18)]), (.agg #[(.int .i64 e.op), (.int .i64 e.n), (.string e.s), (.slice e.l.p e.l.n e.l.c)])] V3 fun z V4 => ∃ v19 : ByteArray, ∃ v20 : Int, z = .returned (.tuple #[(.string v19), (.int .i64 v20)]) /\
    (Ending.returned (.tuple #[(.string v19), (.int .i64 v20)]) = .returned (.tuple #[.string (if s ≠ sE /\ isNode d s = false then (sE, 12) else exprT d (inFormS d s) e).1, .int .i64 (if s ≠ sE /\ isNode d s = false then (sE, 12) else exprT d (inFormS d s) e).2]) /\ V.sub V4) := fun hn => by
   rw [if_neg hn]
   refine Tri.mono (impInFormula hS hc (vne hval)) ?_
   rintro _ V2 ⟨m, rfl, h12, hsc⟩
   exact ⟨_, _, _, rfl, (impExpr (hc.sub h12) (vne hval) hsc e (he.sub (h1.trans h12)) 1 (validE_ok hok) V2 (Mem.sub.refl _)).call ⟨_, _, rfl, rfl, h1.trans h12⟩⟩
  refine ⟨fun hs => go (fun h => h.1 hs), fun hs => (c88 hc).call ⟨_, rfl, fun hn => go (fun h => by rw [hn] at h; exact absurd h.2 (by simp)), fun hn => ?_⟩⟩
  rw [if_pos ⟨hs, eq_false_of_ne_true hn⟩]; exact ⟨rfl, h1⟩
 ·rw [if_pos h0]; exact ⟨rfl, h1⟩
end
end Go.Proofs
namespace Go.Sx
open Go
open Classical
structure KeyOf (P : Program) (kt : TypeId) {α : Type} (enc : α -> Value) : Prop where
 inj : ∀ a b, enc a = enc b -> a = b
 find : ∀ (a : α) (es : List MapEntry) (w : World), (∀ e ∈ es, ∃ b, e.key = enc b) -> (Instr.findKey kt (enc a) es).run P w = .ok ((es.findIdx? fun e => decide (e.key = enc a)).bind fun j => (es[j]?).map fun e => (j, e.val)) w
 check : ∀ (b : Bool) (a : α) (w : World), (Instr.checkKey b 10000 kt (enc a)).run P w = .ok () w
 stays : ∀ (a : α) (w : World), (Instr.keyThatStays (enc a) (enc a)).run P w = .ok (enc a) w
noncomputable def lookV (es : List MapEntry) (k : Value) : Option Value := (es.find? fun e => decide (e.key = k)).map (·.val)
structure MapV {α : Type} (enc : α -> Value) (V : Mem) (b : Nat) (m : α -> Option Value) : Prop where
 at_ : ∃ es clock, V b = some (.map es clock) /\ (∀ e ∈ es.toList, ∃ a, e.key = enc a) /\ es.toList.Pairwise (fun e f => e.key ≠ f.key) /\ ∀ a, lookV es.toList (enc a) = m a
section
variable {α : Type} {enc : α -> Value} {P : Program} {t kt et : TypeId} {V V' : Mem} {b c : Nat} {m m' : α -> Option Value}
theorem MapV.sub (h : MapV enc V b m) (hs : V.sub V') : MapV enc V' b m := by
 obtain ⟨es, c, h1, h2⟩ := h.at_
 exact ⟨es, c, hs _ _ h1, h2⟩
theorem MapV.set {o : Obj} (h : MapV enc V b m) (hn : b ≠ c) : MapV enc (V.set c o) b m := by
 obtain ⟨es, c, h1, h2⟩ := h.at_
 exact ⟨es, c, by rw [Mem.set_ne hn]; exact h1, h2⟩
theorem MapV.made (V : Mem) (b : Nat) : MapV enc (V.set b (.map #[] 0)) b fun _ => none :=
 ⟨#[], 0, Mem.set_same _ _ _, by simp, by simp, by simp [lookV]⟩
theorem MapV.congr (h : MapV enc V b m) (e : ∀ k, m k = m' k) : MapV enc V b m' := by
 obtain ⟨es, c, h1, h2, h3, h4⟩ := h.at_
 exact ⟨es, c, h1, h2, h3, fun k => (h4 k).trans (e k)⟩
theorem lookV_idx (k : Value) : ∀ es : List MapEntry, lookV es k = (es.findIdx? fun e => decide (e.key = k)).bind fun j => (es[j]?).map (·.val)
 | [] => rfl
 | e :: es => by
  have ih := lookV_idx k es
  unfold lookV at ih ⊢
  simp only [List.find?_cons, List.findIdx?_cons]
  by_cases hk : e.key = k
  ·simp [hk]
  ·simp only [hk, decide_false, Bool.false_eq_true, if_false, ih]
   cases h' : List.findIdx? (fun e => decide (e.key = k)) es <;> simp
theorem LookK.key2 (K : KeyOf P kt enc) (ht : P.underlying t = some (.map kt et)) {z : Value} (hz : ∀ w, (zeroValue et).run P w = .ok z w) (hm : MapV enc V b m) {k : α} {q : Value -> Prop} (hq : q (.tuple #[(m k).getD z, .bool (m k).isSome])) : LookK P t (.map (some b)) (enc k) true V q := by
 intro w hw
 obtain ⟨es, c, h1, h2, -, h3⟩ := hm.at_
 refine ⟨_, ?_, hq⟩
 unfold Instr.lookup
 simp only [Sem.run_bind, run_underlying ht, Result.andThen_ok, MapKept.run_getObj_map (hw _ _ h1), Sem.run_pure, K.check, K.find k _ w h2]
 rw [<- h3 k, lookV_idx]
 cases h' : List.findIdx? (fun e => decide (e.key = enc k)) es.toList with
 | none => simp [Sem.run_bind, hz, Result.andThen_ok]
 | some j =>
  have hj : j < es.toList.length := (List.findIdx?_eq_some_iff_getElem.1 h').1
  simp [Sem.run_pure, List.getElem?_eq_getElem hj, Array.getElem?_eq_getElem (show j < es.size by simpa using hj)]
theorem LookK.key1 (K : KeyOf P kt enc) (ht : P.underlying t = some (.map kt et)) {z : Value} (hz : ∀ w, (zeroValue et).run P w = .ok z w) (hm : MapV enc V b m) {k : α} {q : Value -> Prop} (hq : q ((m k).getD z)) : LookK P t (.map (some b)) (enc k) false V q := by
 intro w hw
 obtain ⟨es, c, h1, h2, -, h3⟩ := hm.at_
 refine ⟨_, ?_, hq⟩
 unfold Instr.lookup
 simp only [Sem.run_bind, run_underlying ht, Result.andThen_ok, MapKept.run_getObj_map (hw _ _ h1), Sem.run_pure, K.check, K.find k _ w h2]
 rw [<- h3 k, lookV_idx]
 cases h' : List.findIdx? (fun e => decide (e.key = enc k)) es.toList with
 | none => simp [Sem.run_bind, hz, Result.andThen_ok]
 | some j =>
  have hj : j < es.toList.length := (List.findIdx?_eq_some_iff_getElem.1 h').1
  simp [Sem.run_pure, List.getElem?_eq_getElem hj, Array.getElem?_eq_getElem (show j < es.size by simpa using hj)]
theorem find_none {es : List MapEntry} {k : Value} (h : es.findIdx? (fun e => decide (e.key = k)) = none) : ∀ e ∈ es, e.key ≠ k := fun e he => by
 have := (List.findIdx?_eq_none_iff.1 h) e he
 simpa using this
theorem lookV_push {es : List MapEntry} {k val : Value} {c : Nat} (h : es.findIdx? (fun e => decide (e.key = k)) = none) (x : Value) : lookV (es ++ [{ key := k, val := val, born := c }]) x = if x = k then some val else lookV es x := by
 unfold lookV
 rw [List.find?_append]
 by_cases e : x = k
 ·subst e
  have : es.find? (fun e => decide (e.key = x)) = none := by
   rw [List.find?_eq_none]
   intro y hy
   simpa using find_none h y hy
  simp [this]
 ·have e' : ¬ k = x := fun h => e h.symm
  simp [e, e']
theorem lookV_modify (k val : Value) : ∀ (es : List MapEntry) (i : Nat) (h : es.findIdx? (fun e => decide (e.key = k)) = some i) (x : Value), lookV (es.modify i fun e => { e with key := k, val := val }) x = if x = k then some val else lookV es x
 | [], _, h, _ => by simp at h
 | e :: es, i, h, x => by
  rw [List.findIdx?_cons] at h
  by_cases hk : e.key = k
  ·simp only [hk, decide_true, if_true, Option.some.injEq] at h
   subst h
   unfold lookV
   by_cases hx : x = k
   ·subst hx; simp
   ·have hx' : ¬ k = x := fun h => hx h.symm
    simp [hx, hx', hk]
  ·simp only [hk, decide_false, Bool.false_eq_true, if_false, Option.map_eq_some_iff] at h
   obtain ⟨j, hj, rfl⟩ := h
   have ih := lookV_modify k val es j hj x
   unfold lookV at ih ⊢
   simp only [List.modify_succ_cons, List.find?_cons]
   by_cases hx : e.key = x
   ·have : ¬ x = k := fun h => hk (hx.trans h)
    simp [hx, this]
   ·simp only [hx, decide_false]
    exact ih
theorem modify_keys (k val : Value) : ∀ (es : List MapEntry) (i : Nat), es.findIdx? (fun e => decide (e.key = k)) = some i -> (es.modify i fun e => { e with key := k, val := val }).map (·.key) = es.map (·.key)
 | [], _, h => by simp at h
 | e :: es, i, h => by
  rw [List.findIdx?_cons] at h
  by_cases hk : e.key = k
  ·simp only [hk, decide_true, if_true, Option.some.injEq] at h
   subst h
   simp [hk]
  ·simp only [hk, decide_false, Bool.false_eq_true, if_false, Option.map_eq_some_iff] at h
   obtain ⟨j, hj, rfl⟩ := h
   simp [modify_keys k val es j hj]
theorem pair_keys {es : List MapEntry} : es.Pairwise (fun e f => e.key ≠ f.key) ↔ (es.map (·.key)).Pairwise (· ≠ ·) := by rw [List.pairwise_map]
theorem UpdK.key (K : KeyOf P kt enc) (ht : P.underlying t = some (.map kt et)) (hm : MapV enc V b m) {k : α} {val : Value} {q : Mem -> Prop} (hq : ∀ o, MapV enc (V.set b o) b (fun x => if x = k then some val else m x) -> q (V.set b o)) : UpdK P t (.map (some b)) (enc k) val V q := by
 intro w hw
 obtain ⟨es, c, h1, h2, hd, h3⟩ := hm.at_
 have hrun : (Instr.mapUpdate t (.map (some b)) (enc k) val).run P w =
   (match es.toList.findIdx? (fun e => decide (e.key = enc k)) with
   | some i => (setObj b (.map (es.modify i fun e => { e with key := enc k, val := val }) c)).run P w
   | none => (setObj b (.map (es.push { key := enc k, val := val, born := c }) (c + 1))).run P w) := by
  unfold Instr.mapUpdate
  simp only [Sem.run_bind, run_underlying ht, Result.andThen_ok, MapKept.run_getObj_map (hw _ _ h1), K.check, K.find k _ w h2]
  cases h' : List.findIdx? (fun e => decide (e.key = enc k)) es.toList with
  | none => rfl
  | some j =>
   obtain ⟨hj1, hj2, _⟩ := List.findIdx?_eq_some_iff_getElem.1 h'
   have hj3 : j < es.size := by simpa using hj1
   have hkey : (es[j]?).map (·.key) = some (enc k) := by
    rw [Array.getElem?_eq_getElem hj3]
    simp only [Array.getElem_toList] at hj2
    simpa using hj2
   simp only [List.getElem?_eq_getElem hj1, Option.bind_some, Option.map_some, Sem.run_bind, hkey, Option.getD_some, K.stays, Result.andThen_ok]
 have hif : ∀ a, (if enc a = enc k then some val else lookV es.toList (enc a)) = if a = k then some val else m a := fun a => by
  by_cases e : a = k
  ·rw [if_pos e, if_pos (by rw [e])]
  ·rw [if_neg e, if_neg (fun h => e (K.inj _ _ h)), h3]
 cases h' : List.findIdx? (fun e => decide (e.key = enc k)) es.toList with
 | none =>
  rw [h'] at hrun
  refine ⟨_, V.set b (.map (es.push { key := enc k, val := val, born := c }) (c + 1)), hrun.trans (MapKept.run_setObj_map _ (hw _ _ h1)), Frm.put hw h1, hq _ ⟨_, _, Mem.set_same _ _ _, ?_, ?_, fun x => ?_⟩⟩
  ·intro e he
   simp only [Array.toList_push, List.mem_append, List.mem_singleton] at he
   rcases he with he | rfl
   ·exact h2 e he
   ·exact ⟨_, rfl⟩
  ·rw [Array.toList_push]
   exact List.pairwise_append.2 ⟨hd, by simp, fun e he f hf => by rw [List.mem_singleton.1 hf]; exact find_none h' e he⟩
  ·rw [Array.toList_push, lookV_push h', hif]
 | some j =>
  rw [h'] at hrun
  refine ⟨_, V.set b (.map (es.modify j fun e => { e with key := enc k, val := val }) c), hrun.trans (MapKept.run_setObj_map _ (hw _ _ h1)), Frm.put hw h1, hq _ ⟨_, _, Mem.set_same _ _ _, ?_, ?_, fun x => ?_⟩⟩
  ·intro e he
   rw [Array.toList_modify] at he
   obtain ⟨i, hi, rfl⟩ := List.mem_iff_getElem.1 he
   rw [List.getElem_modify]
   split
   ·exact ⟨_, rfl⟩
   ·exact h2 _ (List.getElem_mem _)
  ·rw [Array.toList_modify, pair_keys, modify_keys _ _ _ _ h', <- pair_keys]; exact hd
  ·rw [Array.toList_modify, lookV_modify _ _ _ _ h', hif]
theorem lookV_erase : ∀ (es : List MapEntry) (k : Value) (i : Nat), es.Pairwise (fun e f => e.key ≠ f.key) -> es.findIdx? (fun e => decide (e.key = k)) = some i -> ∀ x, lookV (es.eraseIdx i) x = if x = k then none else lookV es x
 | [], _, _, _, h, _ => by simp at h
 | e :: es, k, i, hd, h, x => by
  obtain ⟨hd1, hd2⟩ := List.pairwise_cons.1 hd
  rw [List.findIdx?_cons] at h
  by_cases hk : e.key = k
  ·simp only [hk, decide_true, if_true, Option.some.injEq] at h
   subst h
   rw [List.eraseIdx_cons_zero]
   by_cases hx : x = k
   ·rw [if_pos hx]
    unfold lookV
    have : es.find? (fun e => decide (e.key = x)) = none := by
     rw [List.find?_eq_none]
     intro y hy
     have := hd1 y hy
     rw [hk] at this
     rw [hx]
     simpa using fun e => this e.symm
    rw [this]; rfl
   ·rw [if_neg hx]
    unfold lookV
    rw [List.find?_cons]
    have hx' : ¬ e.key = x := fun h => hx (h.symm.trans hk)
    simp [hx']
  ·simp only [hk, decide_false, Bool.false_eq_true, if_false, Option.map_eq_some_iff] at h
   obtain ⟨j, hj, rfl⟩ := h
   have ih := lookV_erase es k j hd2 hj x
   rw [List.eraseIdx_cons_succ]
   unfold lookV at ih ⊢
   simp only [List.find?_cons]
   by_cases hx : e.key = x
   ·have : ¬ x = k := fun h => hk (hx.trans h)
    simp [hx, this]
   ·simp only [hx, decide_false]
    exact ih
theorem GenK.delete (K : KeyOf P kt enc) (ht : P.underlying t = some (.map kt et)) (hm : MapV enc V b m) {k : α} {x y : Operand} {t2 ty : TypeId} {vals : Operand -> Value} (hx : vals x = .map (some b)) (hy : vals y = enc k) {q : Value -> Mem -> Prop}
  (hq : ∀ o, MapV enc (V.set b o) b (fun x => if x = k then none else m x) -> q (.tuple #[]) (V.set b o)) : GenK P (.call { callee := .builtin .delete, args := #[x, y], argTypes := #[t, t2] }) ty vals V q := by
 intro w hw
 obtain ⟨es, c, h1, h2, hd, h3⟩ := hm.at_
 have hrun : (execOp vals { dst := none, op := .call { callee := .builtin .delete, args := #[x, y], argTypes := #[t, t2] }, type := ty, pos := "", after := #[], guard := none }).run P w =
   (Sem.run P (match es.toList.findIdx? (fun (e : MapEntry) => decide (e.key = enc k)) with
   | some i => setObj b (.map (es.eraseIdxIfInBounds i) c)
   | none => setObj b (.map es c)) w).andThen fun _ w' => .ok (.value (.tuple #[])) w' := by
  unfold execOp
  simp only [resolve, invoke, builtin, Sem.run_bind, Sem.run_pure, Result.andThen_ok, List.map_toArray, List.map_cons, List.map_nil, hx, hy, Builtin.delete_]
  simp only [List.getElem?_toArray, List.getElem?_cons_zero, List.getElem?_cons_succ, Sem.run_bind, run_underlying ht, Result.andThen_ok, MapKept.run_getObj_map (hw _ _ h1), K.check, K.find k _ w h2]
  cases h' : List.findIdx? (fun e => decide (e.key = enc k)) es.toList with
  | none => simp [Sem.run_bind, Sem.run_pure, MapKept.run_setObj_map _ (hw _ _ h1), Result.andThen_ok]
  | some j =>
   have hj1 := (List.findIdx?_eq_some_iff_getElem.1 h').1
   have hj2 : es[j]? = some es[j] := Array.getElem?_eq_getElem (show j < es.size by simpa using hj1)
   simp [Sem.run_bind, Sem.run_pure, MapKept.run_setObj_map _ (hw _ _ h1), Result.andThen_ok, hj2]
 cases h' : List.findIdx? (fun e => decide (e.key = enc k)) es.toList with
 | none =>
  rw [h'] at hrun
  simp only [MapKept.run_setObj_map _ (hw _ _ h1), Result.andThen_ok] at hrun
  refine ⟨_, _, V.set b (.map es c), hrun, Frm.put hw h1, hq _ ⟨_, _, Mem.set_same _ _ _, h2, hd, fun a => ?_⟩⟩
  by_cases e : a = k
  ·subst e
   rw [if_pos rfl, lookV_idx, h']; rfl
  ·rw [if_neg e, h3]
 | some j =>
  rw [h'] at hrun
  simp only [MapKept.run_setObj_map _ (hw _ _ h1), Result.andThen_ok] at hrun
  refine ⟨_, _, V.set b (.map (es.eraseIdxIfInBounds j) c), hrun, Frm.put hw h1, hq _ ⟨_, _, Mem.set_same _ _ _, ?_, ?_, fun a => ?_⟩⟩
  ·intro e he
   rw [Array.toList_eraseIdxIfInBounds] at he
   exact h2 e (List.mem_of_mem_eraseIdx he)
  ·rw [Array.toList_eraseIdxIfInBounds]
   exact hd.sublist (List.eraseIdx_sublist _ _)
  ·rw [Array.toList_eraseIdxIfInBounds, lookV_erase _ _ _ hd h', h3]
   by_cases e : a = k
   ·rw [if_pos e, if_pos (by rw [e])]
   ·rw [if_neg e, if_neg (fun h => e (K.inj _ _ h))]
end
end Go.Sx
