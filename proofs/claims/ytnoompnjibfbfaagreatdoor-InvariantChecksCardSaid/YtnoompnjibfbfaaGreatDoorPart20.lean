/- Part 20 of a proof of a law of this seat: no statement of the seat is proved here. -/
import Derived.Test.YtnoompnjibfbfaaGreatDoorPart19
import Derived.Test.YtnoompnjibfbfaaGreatDoorPart18
set_option linter.unusedVariables false
set_option linter.unusedSimpArgs false
namespace Go.Proofs
open Go Go.Sx
attribute [local irreducible] Go.Sx.Tri
section
variable {V0 V V1 V2 V' : Mem} {d : Ds} {m : Mm} {x : Int} {nm : ByteArray}
theorem c53 (G : qBF d m) (hd : Ds.Ok V d) (hm : Mm.Ok V m) {v : Iv} (hv : v ∈ d.invs) (hT : This d m v.ty x) : Tri Tryz.prog 53 #[d.v, m.v, v.v, .int .i64 x] V fun e V' => V.sub V' /\ e = .returned (.bool (qGA d m v.x x)) := by
 refine x53 ?_
 unfold w53
 obtain ⟨-, c2⟩ := (qDp G.chk).2 v hv
 refine Tri.mono (c66 G hd hm (ivB_parts ((qBj G.valid).2.2.2 v hv)).2.2 (hd.invsOk v hv) c2 hT) ?_
 rintro _ V1 ⟨hs, rs, rfl, ho⟩
 have hh := qHE ho
 refine ⟨_, _, rfl, fun h0 => ⟨hs, ?_⟩, fun h0 => ⟨hs, ?_⟩⟩
 ·rw [hh]
  cases rs with
  | ok a => show Ending.returned (.bool (decide (a = 1))) = _; rw [show decide (Rs.ok a = .ok 1) = decide (a = 1) by simp]
  | bad c => rw [show decide (Rs.bad c = .ok 1) = false by simp]; rfl
 ·rw [hh]
  cases rs with
  | ok a => exact absurd rfl h0
  | bad c => rw [show decide (Rs.bad c = .ok 1) = false by simp]
end
theorem loop3b {V : Mem} {β γ : Type} {mk : β -> Value} {mc : γ -> Value} {B : β -> γ -> Int -> Mem -> (List Value -> Mem -> Prop) -> Prop} {b0 : β} {c0 : γ} (ib : ∀ x y, mk x = mk y -> x = y) (ic : ∀ x y, mc x = mc y -> x = y) (len : Nat) (St : Nat -> β -> γ -> Mem -> Prop) (h0 : St 0 b0 c0 V)
  (step : ∀ (i : Nat) (b : β) (c : γ) V1 J, i <= len -> St i b c V1 -> (i < len -> ∀ b' c' V2, St (i + 1) b' c' V2 -> J [mk b', mc c', .int .i64 ((i : Int) + 1)] V2) -> B b c (i : Int) V1 J) :
  ∃ (I : Nat -> List Value -> Mem -> Prop) (n0 : Nat), I n0 [mk b0, mc c0, .int .i64 0] V /\ ∀ n V1, ∀ b : β, ∀ c : γ, ∀ v : Int, I n [mk b, mc c, .int .i64 v] V1 -> ∀ J : List Value -> Mem -> Prop, (∀ m ys V'', m < n -> I m ys V'' -> J ys V'') -> B b c v V1 J := by
 refine ⟨LI len fun i xs V => ∃ b c, xs = [mk b, mc c, .int .i64 i] /\ St i b c V, len, LI.start ⟨b0, c0, rfl, h0⟩, ?_⟩
 rintro n V1 b c v ⟨i, rfl, hi, b', c', hx, hs⟩ J hJ
 simp only [List.cons.injEq, Value.int.injEq, true_and, and_true] at hx
 obtain ⟨hb, hc, rfl⟩ := hx
 cases ib _ _ hb; cases ic _ _ hc
 exact step i b c V1 J hi hs fun hlt b' c' V2 h2 => LI.next hJ hlt ⟨b', c', rfl, h2⟩
section
variable {V0 V : Mem} {d : Ds} {m : Mm}
theorem c82 {s : Sl} {l : List Int} (h : qAd V s 1 (l.map qAH)) {x : Int} : PP 82 [s.v, .int .i64 x] V (.int .i64 (posI l x)) := by
 refine x82 ?_
 unfold w82
 refine qAA (mk := .int .i64) (b0 := 0) l.length (fun j V1 => V = V1 /\ qAG (fun y : Int => !decide (y = x)) l j) ⟨rfl, qAG.zero _ _⟩ ?_
 rintro j b V1 J hj ⟨rfl, ha⟩ hJ
 refine ⟨fun hlt => ?_, fun hge => ?_⟩
 ·obtain ⟨y, hym, hy, -, hjl, hp, hz, hrow⟩ := h.get hlt
  refine ⟨hp, hz, hlt, _, hrow, fun hE => ?_, fun hE => ⟨h.succ hlt, hJ hjl _ _ ⟨rfl, qBz ha hy (decide_eq_false hE)⟩⟩⟩
  have e : posI l x = (j : Int) := by unfold posI; exact qBV ha hy (decide_eq_true hE)
  rw [e]; exact ⟨rfl, rfl⟩
 ·have e : posI l x = -1 := by unfold posI; exact qCr ha (h.done hge).2
  rw [e]; exact ⟨rfl, rfl⟩
theorem pos_neg {l : List Int} {x : Int} : ¬ (0 <= posI l x) ↔ ¬ x ∈ l := by
 unfold posI
 rcases qAI (fun y => decide (y = x)) l with ⟨h1, -, h2⟩ | ⟨i, y, h1, h2, -, h3, h4, -⟩
 ·rw [h1]
  refine ⟨fun _ hx => ?_, fun _ => by decide⟩
  rw [List.any_eq_false] at h2
  exact absurd (decide_eq_true rfl) (h2 x hx)
 ·rw [h1]
  have e : y = x := of_decide_eq_true h4
  exact ⟨fun h => absurd (Int.natCast_nonneg _) h, fun h => absurd (e ▸ List.mem_of_getElem? h2) h⟩
theorem tgtI_in {xs : List Fld} {vs : List Int} (h : qAC d m xs vs = true) {i : Nat} : ∀ y ∈ tgtI xs vs i, 1 <= y /\ y <= (m.nodes.length : Int) := fun y hy => by
 have : y ∈ tgt xs vs := by
  unfold tgtI at hy; unfold tgt
  obtain ⟨a, ha, rfl⟩ := List.mem_map.1 hy
  obtain ⟨h1, h2⟩ := List.mem_filter.1 ha
  exact List.mem_map.2 ⟨a, List.mem_filter.2 ⟨List.mem_of_mem_take h1, h2⟩, rfl⟩
 obtain ⟨j, f, h1, h2, h3, h4⟩ := tgt_mem.1 this
 exact ref_in h h1 h2 h3 h4
def LookRP (V0 : Mem) (st : Sr) : Ending -> Mem -> Prop := fun e V' => ∃ s : Sl, e = .returned (.agg #[s.v, .int .i64 st.again]) /\ Sx.Own V0 V' 3 1 s (st.order.flatMap qAH)
variable (V0 d m) in
def LookRC (N : Nat) : Prop := ∀ (st : Sr) (f : Nat) V (s l q : Sl) (xs : List Fld) (vs : List Int), unS m st <= N -> unS m st < f -> st.order.length + unS m st <= m.nodes.length -> qAd V0 l 2 (xs.map Fld.row) -> qAd V0 q 1 (vs.map qAH) -> qAC d m xs vs = true -> Sx.Own V0 V 3 1 s (st.order.flatMap qAH) ->
 Tri Tryz.prog 47 #[d.v, m.v, .agg #[s.v, .int .i64 st.again], l.v, q.v] V (LookRP V0 (lookP d m f st xs vs))
theorem lookRC (hmv : qAY d m = true) (hd : Ds.Ok V0 d) (hm : Mm.Ok V0 m) (N : Nat) (ih : ∀ N', N' < N -> LookRC V0 d m N') : LookRC V0 d m N := by
 intro st f V s l q xs vs hN hf hcap hl hq hv ho
 refine Tri.mono (x47 (R := LookRP V0 (lookP d m f st xs vs)) ?_) fun _ _ h => h
 unfold w47
 have hlen : xs.length = vs.length := by
  unfold qAC at hv
  rw [Bool.and_eq_true, decide_eq_true_eq] at hv
  exact hv.1
 have m4 := (qAq hmv).2.1
 refine loop3b (mk := fun s : Sl => .slice s.p s.n s.c) (mc := .int .i64) (b0 := s) (c0 := st.again) qDn qFo xs.length (fun i s1 a V1 => a = ((tgtI xs vs i).foldl (qDK d m f) st).again /\ Sx.Own V0 V1 3 1 s1 (((tgtI xs vs i).foldl (qDK d m f) st).order.flatMap qAH)) ⟨rfl, ho⟩ ?_
 rintro i s1 a V1 J hi ⟨rfl, h1⟩ hJ
 obtain ⟨sti, hsti⟩ : ∃ sti, sti = (tgtI xs vs i).foldl (qDK d m f) st := ⟨_, rfl⟩
 rw [<- hsti] at h1 ⊢
 have hu : unS m sti <= unS m st := by rw [hsti]; exact unS_le fun z hz => foldP_sub d m f z _ _ hz
 have hcl : Cl d m st sti := by rw [hsti]; exact (qJH (ent_cl hmv f) (tgtI xs vs i) st (tgtI_in hv) hf).1
 have hcap1 := hcl.cap hcap
 have hl1 := hl.sub h1.sub
 have hq1 := hq.sub h1.sub
 refine ⟨fun hlt => ?_, fun hge => ?_⟩
 ·obtain ⟨x, hxm, hx, -, hil, hp, hz, hrow⟩ := hl1.get hlt
  have n1 := hl1.n_eq
  have n2 := hq1.n_eq
  obtain ⟨y, hym, hy, -, hjl, hpy, hzy, hrowy⟩ := hq1.get (i := i) (by omega)
  have same : qDR (x, y) = false -> J [.slice s1.p s1.n s1.c, .int .i64 sti.again, .int .i64 ((i : Int) + 1)] V1 := fun hr => by
   refine hJ hil s1 sti.again V1 ?_
   rw [qEY hx hy, hr, if_neg (by decide), List.append_nil, <- hsti]; exact ⟨rfl, h1⟩
  have pl : qCL x.ty = true -> qDR (x, y) = false := fun h => by unfold qDR; rw [show qCL x.ty = true from h]; rfl
  refine ⟨hpy, hzy, by omega, _, hrowy, hp, hz, hlt, qAc hp, _, _, hrow, fun h2 => ⟨hl1.succ hlt, same (pl ?_)⟩, fun h2 => ⟨hp, hz, hlt, qAc hp, _, _, hrow, fun h3 => ⟨hl1.succ hlt, same (pl ?_)⟩, fun h3 => ⟨fun h4 => ⟨hl1.succ hlt, same ?_⟩, fun h4 => ?_⟩⟩⟩
  ·have h2 : x.ty = qAP := h2
   unfold qCL; simp [h2]
  ·have h3 : x.ty = qAt := h3
   unfold qCL; simp [h3]
  ·have h4 : y = 0 := h4
   unfold qDR; rw [h4]; simp
  have hpl : qCL x.ty = false := by
   have h2 : ¬ x.ty = qAP := h2
   have h3 : ¬ x.ty = qAt := h3
   unfold qCL; simp [h2, h3]
  have h4 : ¬ y = 0 := h4
  have hr : qDR (x, y) = true := by unfold qDR; rw [hpl, decide_eq_true h4]; rfl
  have hy1 := ref_in hv hx hy hpl h4
  have next : ∀ (s' : Sl) V2, Sx.Own V0 V2 3 1 s' ((qDK d m f sti y).order.flatMap qAH) -> J [.slice s'.p s'.n s'.c, .int .i64 (qDK d m f sti y).again, .int .i64 ((i : Int) + 1)] V2 := fun s' V2 h => by
   refine hJ hil s' _ V2 ?_
   rw [qEY hx hy, hr, if_pos rfl, List.foldl_append, List.foldl_cons, List.foldl_nil, <- hsti]
   exact ⟨rfl, h⟩
  obtain ⟨f, rfl⟩ : ∃ f', f = f' + 1 := ⟨f - 1, by omega⟩
  refine (c82 (h1.rows (fun _ => rfl) (by decide))).call ⟨_, rfl, fun h5 => ?_, fun h5 => ?_⟩
  ·have hin : y ∈ sti.order := Classical.not_not.1 fun h => pos_neg.2 h h5
   have e : qDK d m (f + 1) sti y = ⟨sti.order, if sti.again = 0 then y else sti.again⟩ := by unfold qDK; rw [if_pos hin]
   rw [e] at next
   refine ⟨fun h6 => ⟨hl1.succ hlt, ?_⟩, fun h6 => ⟨hl1.succ hlt, ?_⟩⟩
   ·have h6 : sti.again = 0 := h6
    rw [if_pos h6] at next
    exact next s1 V1 h1
   ·have h6 : ¬ sti.again = 0 := h6
    rw [if_neg h6] at next
    exact next s1 V1 h1
  ·have hin : ¬ y ∈ sti.order := pos_neg.1 h5
   have hlt2 := unS_lt (st := sti) hy1 hin (a := sti.again)
   intro tb htb
   refine app31 (s := s1) (u := ⟨some ⟨tb, 0, none⟩, 1, 1⟩) (xs := sti.order) (ys := [y]) rfl rfl (h1.but.new htb (.cells #[.int .i64 y] 3 (0, 0))) (qHq mss) (by simp; omega) fun o2 V2 ho2 => ⟨o2, rfl, ?_⟩
   have ho3 : Sx.Own V0 V2 3 1 o2 ((sti.order ++ [y]).flatMap qAH) := ho2.narrow h1.sub_but
   obtain ⟨k, rfl⟩ : ∃ k : Nat, y = (k : Int) + 1 := ⟨(y - 1).toNat, by omega⟩
   have hmm := hm.sub ho3.sub
   have hdd := hd.sub ho3.sub
   have hnn := hmm.nodes.n_eq
   obtain ⟨z, hzm, hz', -, hl2, hpx, hzx, hrowx⟩ := hmm.nodes.get (i := k) (by omega)
   obtain ⟨c1, c2⟩ := of_decide_eq_true ((qAq hmv).2.2.1 z hzm)
   obtain ⟨j, hj⟩ : ∃ j : Nat, z.ty = (j : Int) := ⟨_, (Int.toNat_of_nonneg c1).symm⟩
   have htn := hdd.types.n_eq
   obtain ⟨t, htm, ht, -, hl3, hpt3, hzt, hrowt⟩ := hdd.types.get (i := j) (by omega)
   have hI : IR ((k : Int)) := ⟨by omega, by have := (hmm.nodes.succ (i := k) (by omega)).2; omega⟩
   have hfo := qCl ht hj
   have hvals := (qAq hmv).2.2.2.2 z hzm
   rw [hfo] at hvals
   rw [show ((k : Int) + 1 - 1) = (k : Int) by omega]
   refine ⟨hI, hpx, hzx, by omega, qAc hpx, _, _, hrowx, ?_⟩
   rw [hj]
   refine ⟨hpt3, hzt, by omega, qAc hpt3, _, _, hrowt, hI, hpx, hzx, by omega, qAc hpx, _, _, hrowx, ?_⟩
   refine Tri.mono (ih (unS m ⟨sti.order ++ [(k : Int) + 1], sti.again⟩) (by omega) ⟨sti.order ++ [(k : Int) + 1], sti.again⟩ f V2 o2 t.fs z.sl t.fields z.f (Nat.le_refl _) (by omega) ?_ (hd.typesOk t htm).fields (hm.nodesOk z hzm).rows hvals ho3) ?_
   ·show (sti.order ++ [(k : Int) + 1]).length + _ <= _
    rw [List.length_append, List.length_singleton]; omega
   rintro _ V5 ⟨s5, rfl, h6⟩
   have e : qDK d m (f + 1) sti ((k : Int) + 1) = lookP d m f ⟨sti.order ++ [(k : Int) + 1], sti.again⟩ t.fields z.f := by
    rw [qDK, if_neg hin]
    unfold qDa lookP
    rw [show ((k : Int) + 1 - 1).toNat = k by omega, hz']
    show (tgt (qAK d z.ty) z.f).foldl _ _ = _
    rw [hfo]
   rw [<- e] at h6 ⊢
   exact ⟨_, _, rfl, hl1.succ hlt, next s5 V5 h6⟩
 ·have hdn := (hl1.done hge).2
  rw [tgtI_all hdn] at hsti
  have e : lookP d m f st xs vs = sti := hsti.symm
  rw [e]
  exact ⟨s1, rfl, h1⟩
theorem c15 (hmv : qAY d m = true) (hd : Ds.Ok V d) (hm : Mm.Ok V m) : Tri Tryz.prog 15 #[d.v, m.v] V (LookRP V (qBN d m)) := by
 refine Tri.mono (x15 (R := LookRP V (qBN d m)) ?_) fun _ _ h => h
 unfold w15
 have hu := unS_zero (m := m)
 have all : ∀ N, LookRC V d m N := fun N => Nat.strongRecOn N fun N ih => lookRC hmv hd hm N ih
 refine Tri.mono (all m.nodes.length ⟨[], 0⟩ (m.nodes.length + 1) V ⟨none, 0, 0⟩ d.gs m.gs d.globals m.globals hu (by omega) (by show 0 + _ <= _; omega) hd.globals hm.globals (qAq hmv).2.2.2.1 (Own.nil (Mem.sub.refl V) _ _)) ?_
 rintro _ V2 ⟨s, rfl, h⟩
 exact ⟨_, _, rfl, s, rfl, h⟩
end
theorem Own.grow {V0 V V' : Mem} {e : TypeId} {sz : Nat} {s : Sl} {vs : List Value} (h : Sx.Own V0 V e sz s vs) (hs : V.sub V') : Sx.Own V0 V' e sz s vs := Own.move h (h.sub.trans hs) fun _ _ k => hs _ _ k
section
variable {V0 V : Mem} {d : Ds} {m : Mm}
theorem vioAdd {s : Sl} {xs : List (ByteArray × Int)} (h : Sx.Own V0 V 52 2 s (xs.flatMap qCx)) {y : ByteArray × Int} {t : Nat} {ty : Nat} {a b : Operand} {vals : Operand -> Value} {q : Value -> Mem -> Prop} {tb : Nat} (htb : V tb = none)
  (ha : vals a = .slice s.p s.n s.c) (hb : vals b = .slice (sa tb) 1 1) (hfit : xs.length + 1 <= 2147483648) (hq : ∀ s' V', Sx.Own V0 V' 52 2 s' ((xs ++ [y]).flatMap qCx) -> q (.slice s'.p s'.n s'.c) V') :
  qAo Tryz.prog (.call { callee := .builtin .append, args := #[a, b], argTypes := #[48, 48] }) ty vals (V.set tb (.cells (qCx y).toArray t (0, 0))) q :=
 app48 (s := s) (u := ⟨some ⟨tb, 0, none⟩, 1, 1⟩) (xs := xs) (ys := [y]) ha hb (h.but.new htb _) (qAd.cells (xs := [y]) (row := qCx) mss (by simp) (fun _ => rfl) rfl (by simp)) (by simpa using hfit) fun s' V' ho => hq s' V' (ho.narrow h.sub_but)
theorem c23 (G : qBF d m) (hd : Ds.Ok V d) (hm : Mm.Ok V m) : Tri Tryz.prog 23 #[d.v, m.v] V fun e V' => V.sub V' /\ ∃ s : Sl, e = .returned (.slice s.p s.n s.c) /\ qAd V' s 2 ((allP d m).map qCx) := by
 refine x23 ?_
 unfold w23
 refine Tri.mono (c15 G.mem hd hm) ?_
 rintro _ V1 ⟨o, rfl, ho⟩
 refine ⟨o, _, rfl, ?_⟩
 have hR := reach_ok G.mem
 have hoR := ho.rows (fun _ => rfl) (by decide)
 have hnl : ∀ v : Iv, (qAF d m v).length <= 4097 := fun v => by
  unfold qAF
  have := (qAq G.mem).2.1
  have := hR.cap
  split
  ·simp
  ·omega
 have hil := qGT G.valid
 refine qEB (mk := fun s : Sl => .slice s.p s.n s.c) (b0 := ⟨none, 0, 0⟩) qDn d.invs.length (fun i s V3 => Sx.Own V1 V3 52 2 s (((d.invs.take i).flatMap fun v => qCm d m v (qAF d m v)).flatMap qCx)) (Own.nil (Mem.sub.refl _) _ _) ?_
 rintro i s V3 J hi h3 hJ
 have hV3 := ho.sub.trans h3.sub
 have hd3 := hd.sub hV3
 have hm3 := hm.sub hV3
 refine ⟨fun hlt => ?_, fun hge => ?_⟩
 ·obtain ⟨v, hvm, hv, -, hil', hp, hz, hrow⟩ := hd3.invs.get hlt
  have hflat := flat_len (d := d) (m := m) (l := d.invs.take i) fun v _ => hnl v
  have htl : (d.invs.take i).length <= 12 := by rw [List.length_take]; omega
  obtain ⟨A, hA'⟩ : ∃ A, A = (d.invs.take i).flatMap fun v => qCm d m v (qAF d m v) := ⟨_, rfl⟩
  rw [<- hA'] at h3 hflat
  have hA : A.length + (qAF d m v).length <= 2147483000 := by
   have := hnl v
   have : (d.invs.take i).length * 4097 <= 12 * 4097 := Nat.mul_le_mul_right _ htl
   omega
  have next : ∀ s' V', Sx.Own V1 V' 52 2 s' ((A ++ qCm d m v (qAF d m v)).flatMap qCx) -> J [uL s', uI ((i : Int) + 1)] V' := fun s' V' h => hJ hil' _ _ (by
   rw [List.take_add_one, hv, List.flatMap_append, <- hA']
   simpa using h)
  refine ⟨hp, hz, hlt, _, _, _, _, _, _, hrow, fun hE => ?_, fun hE => ?_⟩
  ·have hE : v.ty = sE := hE
   have hns : qAF d m v = [0] := by unfold qAF; rw [if_pos hE]
   rw [hns] at hA next
   have ht : qIc d m 0 = v.ty := by rw [hE]; unfold qIc; rw [if_pos rfl]
   refine Tri.mono (c53 G hd3 hm3 hvm (qJw G (x := 0) ⟨by omega, by omega⟩ ht)) ?_
   rintro _ V4 ⟨hs4, rfl⟩
   have h4 := Own.grow h3 hs4
   have one : qCm d m v [0] = if qGA d m v.x 0 = true then [] else [(v.name, 0)] := by
    unfold qCm
    rw [List.filter_cons, List.filter_nil]
    unfold qJS
    rw [decide_eq_true ht]
    cases qGA d m v.x 0 <;> rfl
   rw [one] at next
   refine ⟨_, rfl, fun hh => ⟨hd3.invs.succ hlt, ?_⟩, fun hh => fun tb htb => ?_⟩
   ·rw [if_pos hh, List.append_nil] at next
    exact next s V4 h4
   ·rw [if_neg hh] at next
    exact vioAdd h4 (y := (v.name, 0)) htb rfl rfl (by simp at hA; omega) fun s' V' h' => ⟨s', rfl, hd3.invs.succ hlt, next s' V' h'⟩
  ·have hE : ¬ v.ty = sE := hE
   have hns : qAF d m v = (qBN d m).order := by unfold qAF; rw [if_neg hE]
   rw [hns] at hA next
   refine qEB (mk := fun s : Sl => .slice s.p s.n s.c) (b0 := s) qDn (qBN d m).order.length (fun j s' V' => Sx.Own V1 V' 52 2 s' ((A ++ qCm d m v ((qBN d m).order.take j)).flatMap qCx)) (by simpa [qCm] using h3) ?_
   rintro j s4 V4 J1 hj h4 hJ1
   have hV4 := ho.sub.trans h4.sub
   have ho4 := hoR.sub h4.sub
   refine ⟨fun hlt2 => ?_, fun hge2 => ?_⟩
   ·obtain ⟨n, hnm, hn, -, hjl, hpo, hzo, hrowo⟩ := ho4.get hlt2
    have hr := hR.rng n hnm
    have hr0 : 0 <= n /\ n <= (m.nodes.length : Int) := ⟨by omega, hr.2⟩
    have htk := qEw (d := d) (m := m) (v := v) hn
    have hlen := qHW (d := d) (m := m) (v := v) (l := (qBN d m).order.take j)
    have htl : ((qBN d m).order.take j).length <= (qBN d m).order.length := by rw [List.length_take]; omega
    refine ⟨hpo, hzo, hlt2, _, hrowo, (c31 G (hd.sub hV4) (hm.sub hV4) hr0).call ⟨_, rfl, fun hT => ⟨hpo, hzo, hlt2, _, hrowo, ?_⟩, fun hT => ⟨ho4.succ hlt2, hJ1 hjl _ _ ?_⟩⟩⟩
    ·have hT : qIc d m n = v.ty := hT
     refine Tri.mono (c53 G (hd.sub hV4) (hm.sub hV4) hvm (qJw G hr0 hT)) ?_
     rintro _ V5 ⟨hs5, rfl⟩
     have h5 := Own.grow h4 hs5
     have ho5 := ho4.sub hs5
     obtain ⟨n', hnm', hn', -, -, hpo5, hzo5, hrowo5⟩ := ho5.get hlt2
     rw [hn] at hn'; cases hn'
     refine ⟨_, rfl, fun hh => ⟨ho4.succ hlt2, hJ1 hjl _ _ ?_⟩, fun hh => ⟨hpo5, hzo5, hlt2, _, hrowo5, fun tb htb => vioAdd h5 (y := (v.name, n)) htb rfl rfl (by rw [List.length_append]; omega) fun s' V' h' => ⟨s', rfl, ho4.succ hlt2, hJ1 hjl _ _ ?_⟩⟩⟩
     ·rw [htk]
      have hb : qJS d m v n = false := by unfold qJS; rw [show qGA d m v.x n = true from hh, Bool.not_true, Bool.and_false]
      rw [hb, if_neg (by decide), List.append_nil]; exact h5
     ·rw [htk]
      have hb : qJS d m v n = true := by unfold qJS; rw [decide_eq_true hT, (Bool.not_eq_true _).mp hh]; rfl
      rw [hb, if_pos rfl, <- List.append_assoc]; exact h'
    ·have hT : ¬ qIc d m n = v.ty := hT
     rw [htk]
     have hb : qJS d m v n = false := by unfold qJS; rw [decide_eq_false hT, Bool.false_and]
     rw [hb, if_neg (by decide), List.append_nil]; exact h4
   ·have hdn := (ho4.done hge2).2
    rw [List.take_of_length_le hdn] at h4
    exact ⟨hd3.invs.succ hlt, next _ _ h4⟩
 ·have hdn := (hd3.invs.done hge).2
  rw [List.take_of_length_le hdn] at h3
  exact ⟨hV3, s, rfl, h3.rows (fun _ => rfl) (by decide)⟩
end
section
variable {V : Mem} {d : Ds} {m : Mm}
theorem take_eq {α : Type} {xs ys : List α} {i : Nat} {x y : α} (h : xs.take i = ys.take i) (hx : xs[i]? = some x) (hy : ys[i]? = some y) (e : x = y) : xs.take (i + 1) = ys.take (i + 1) := by
 rw [List.take_add_one, List.take_add_one, h, hx, hy, e]
theorem c24 {s t : Sl} {xs ys : List (ByteArray × Int)} (h : qAd V s 2 (xs.map qCx)) (k : qAd V t 2 (ys.map qCx)) : PP 24 [.slice s.p s.n s.c, .slice t.p t.n t.c] V (.bool (decide (xs = ys))) := by
 refine x24 ?_
 unfold w24
 have n1 := h.n_eq
 have n2 := k.n_eq
 refine ⟨fun hl => ?_, fun hl => ?_⟩
 ·refine qAA (mk := .bool) (b0 := false) xs.length (fun i V1 => V = V1 /\ xs.take i = ys.take i) ⟨rfl, rfl⟩ ?_
  rintro i b V1 J hi ⟨rfl, he⟩ hJ
  refine ⟨fun hlt => ?_, fun hge => ?_⟩
  ·obtain ⟨x, hxm, hx, -, hil, hp, hz, hrow⟩ := h.get hlt
   obtain ⟨y, hym, hy, -, hjl, hp2, hz2, hrow2⟩ := k.get (i := i) (by omega)
   refine ⟨hp, hz, hlt, _, _, hrow, hp2, hz2, by omega, _, _, hrow2, fun hE => ⟨h.succ hlt, hJ hil _ _ ⟨rfl, take_eq he hx hy (Prod.ext hE.1 hE.2)⟩⟩, fun hE => ?_⟩
   rw [decide_eq_false fun e => ?_]
   ·exact ⟨rfl, rfl⟩
   ·rw [e, hy] at hx; cases hx; exact hE ⟨rfl, rfl⟩
  ·have hd := (h.done hge).2
   rw [List.take_of_length_le hd, List.take_of_length_le (by omega)] at he
   rw [decide_eq_true he]; exact ⟨rfl, rfl⟩
 ·rw [decide_eq_false fun e => hl (by rw [n1, n2, e])]; exact ⟨rfl, rfl⟩
theorem c6 [Tab V] (hd : Ds.Ok V d) (hm : Mm.Ok V m) : PP 6 [d.v, m.v] V (.bool true) := by
 refine Pur.mk (x6 ?_)
 unfold w6
 refine c10.call ⟨_, rfl, fun _ => Tri.mono (largeC hd hm) ?_, fun h => absurd rfl h⟩
 rintro _ _ ⟨rfl, b, rfl⟩
 refine ⟨_, rfl, fun _ => ⟨rfl, Mem.sub.refl _⟩, fun _ => Tri.mono (c21 hd hm) ?_⟩
 rintro _ _ ⟨rfl, b1, s1, x1, f1, rfl, HC⟩
 refine ⟨_, _, _, _, rfl, Tri.mono (c17 hd hm) ?_⟩
 rintro _ V4 ⟨s4, ⟨G, s, rfl, hr⟩ | ⟨hG, rfl⟩⟩
 ·have gb : gB d m = true := gB_iff.2 G
  refine ⟨s, _, rfl, (c14 (hd.sub s4) (hm.sub s4)).call ⟨_, rfl, fun _ => ?_, fun hg => absurd (if_pos gb) hg⟩⟩
  refine Tri.mono (c23 G (hd.sub s4) (hm.sub s4)) ?_
  rintro _ V6 ⟨s6, t, rfl, hr2⟩
  have s5 := s4.trans s6
  have tt : ∀ {a b : Prop} [Decidable a] [Decidable b], a -> b -> Ending.returned (.bool (decide a && decide b)) = Ending.returned (.bool true) := fun h k => by rw [decide_eq_true h, decide_eq_true k]; rfl
  have hn := hr2.n_eq
  have eq := (c24 (hr.sub s6) hr2)
  refine ⟨t, rfl, ?_⟩
  cases HC with
  | arg h => exact absurd G h
  | ok h h1 =>
   have h0 : (t.n : Int) = 0 := by rw [hn, h1]; rfl
   refine ⟨fun _ => ⟨fun _ => eq.call ⟨_, rfl, fun _ => ⟨fun _ => ⟨fun _ => ⟨tt rfl rfl, s5⟩, fun h => absurd rfl h⟩, fun h => absurd (by rw [decide_eq_true h0]; rfl) h⟩, fun h => absurd (decide_eq_true rfl) h⟩, fun h => absurd rfl h⟩, fun h => absurd rfl h⟩
  | @bad h y l h1 =>
   have h0 : ¬ (t.n : Int) = 0 := by rw [hn, h1, List.length_cons]; omega
   obtain ⟨y', -, hy, -, hil, hp, hz, hrow⟩ := hr2.get (i := 0) (by omega)
   rw [h1] at hy
   simp only [List.getElem?_cons_zero, Option.some.injEq] at hy
   subst hy
   refine ⟨fun _ => ⟨fun _ => eq.call ⟨_, rfl, fun _ => ⟨fun _ => ⟨fun h => (by cases h), fun _ => ⟨hp, hz, by omega, _, _, hrow, ⟨tt rfl rfl, s5⟩⟩⟩, fun h => absurd (by rw [decide_eq_false h0]; rfl) h⟩, fun h => absurd (decide_eq_true rfl) h⟩, fun h => absurd rfl h⟩, fun h => absurd rfl h⟩
 ·have gb : ¬ gB d m = true := fun h => hG (gB_iff.1 h)
  refine ⟨⟨none, 0, 0⟩, _, rfl, (c14 (hd.sub s4) (hm.sub s4)).call ⟨_, rfl, fun hg => ?_, fun _ => ?_⟩⟩
  ·have hg : (if gB d m = true then (0 : Int) else 1) = 0 := hg
   rw [if_neg gb] at hg; cases hg
  cases HC with
  | arg h => exact ⟨fun h => (by cases h), fun _ => ⟨fun _ => ⟨fun _ => ⟨fun _ => ⟨rfl, s4⟩, fun h => absurd rfl h⟩, fun h => absurd rfl h⟩, fun h => absurd ⟨rfl, rfl⟩ h⟩⟩
  | ok h h1 => exact absurd h hG
  | bad h h1 => exact absurd h hG
end
end Go.Proofs
namespace Go.Proofs.YtnoompnjibfbfaaGreatDoor
open Go
set_option maxRecDepth 100000
theorem qEQ {a b : Bool} (h : a = true) (k : b = true) : (a && b) = true := by rw [h, k]; rfl
theorem ichecks_j1 : (Rows.invariantChecksRow.wf (OpenSpec.ofChange Rows.invariantChecksSpec)) = true := by kernel_rfl
theorem ichecks_j2 : (laidOutB Tryz.prog) = true := by kernel_rfl
theorem ichecks_j3 : (mapsRowed Tryz.prog) = true := by kernel_rfl
theorem ichecks_j4 : (Tryz.f6.params.all (Tryz.prog.readableRec ·)) = true := by kernel_rfl
theorem ichecks_j5 : (namedTie Tryz.prog Rows.invariantChecksRow.named Rows.invariantChecksSpec.vars) = true := by kernel_rfl
theorem ichecks_j6 : ((Rows.invariantChecksRow.stops == [])) = true := by kernel_rfl
theorem ichecks_j7 : ((Tryz.prog.stops == [])) = true := by kernel_rfl
theorem ichecks_j8 : ((Rows.invariantChecksRow.knobs == [])) = true := by kernel_rfl
theorem ichecks_j9 : ((Tryz.prog.stopKnobs == [])) = true := by kernel_rfl
theorem ichecks_j10 : ((Rows.invariantChecksRow.inPlace == Tryz.prog.inPlace 6)) = true := by kernel_rfl
theorem ichecks_j11 : ((Rows.invariantChecksRow.unfollowed == Tryz.prog.unfollowed 6)) = true := by kernel_rfl
theorem ichecks_j12 : ((Rows.invariantChecksRow.recurses == Tryz.prog.recurses 6)) = true := by kernel_rfl
theorem ichecks_j13 : ((Rows.invariantChecksRow.named == Tryz.prog.varsNamed 6)) = true := by kernel_rfl
theorem ichecks_j14 : ((Rows.invariantChecksRow.maps == (Tryz.f6.params.toList ++ Rows.invariantChecksSpec.plain.varTypes Tryz.prog).any (Tryz.prog.mapsRec ·))) = true := by kernel_rfl
theorem ichecks_j15 : ((Rows.invariantChecksRow.ifaces == (Tryz.f6.params.toList ++ Rows.invariantChecksSpec.plain.varTypes Tryz.prog).any (Tryz.prog.ifacesRec ·))) = true := by kernel_rfl
theorem ichecks_j16 : ((Rows.invariantChecksRow.mapsOut == Tryz.prog.mapsAmong Tryz.f6.resultTypes.toList)) = true := by kernel_rfl
theorem ichecks_j17 : ((Rows.invariantChecksRow.loops == (Tryz.f6.params.toList ++ Rows.invariantChecksSpec.plain.varTypes Tryz.prog).any (Tryz.prog.loopsFrom ·))) = true := by kernel_rfl
theorem ichecks_j18 : ((Rows.invariantChecksRow.wideKeys == (Tryz.f6.params.toList ++ Rows.invariantChecksSpec.plain.varTypes Tryz.prog ++ Tryz.f6.resultTypes.toList).any (Tryz.prog.wideKeysFrom ·))) = true := by kernel_rfl
theorem ichecks_j19 : (Rows.invariantChecksSpec.vars.all (Tryz.prog.varReadable ·)) = true := by kernel_rfl
theorem ichecks_j20 : (Tryz.f6.resultTypes.all (fun t => Tryz.prog.readableRec t && decide (t < Tryz.prog.types.size))) = true := by kernel_rfl
theorem ichecks_j21 : ((Rows.invariantChecksRow.ifacesOut == Tryz.f6.resultTypes.toList.any (Tryz.prog.ifacesRec ·))) = true := by kernel_rfl
theorem ichecks_j22 : ((Rows.invariantChecksRow.loopsOut == Tryz.f6.resultTypes.toList.any (Tryz.prog.loopsFrom ·))) = true := by kernel_rfl
theorem ichecks_j23 : ((Rows.invariantChecksRow.plainKeys == Tryz.prog.plainKeys)) = true := by kernel_rfl
theorem ichecks_j24 : (Rows.invariantChecksRow.shortTexts.isNone) = true := by kernel_rfl
theorem ichecks_j25 : (Tryz.prog.stopsHeard) = true := by kernel_rfl
theorem ichecks_j26 : (Tryz.prog.mayEnter) = true := by kernel_rfl
theorem ichecks_j27 : ((Rows.invariantChecksRow.lifted == Tryz.prog.liftsFinal)) = true := by kernel_rfl
theorem ichecks_j28 : ((Tryz.prog.make == some Rows.invariantChecksRow.make)) = true := by kernel_rfl
theorem ichecks_j29 : ((Rows.invariantChecksRow.kinds == (if Rows.invariantChecksRow.domain.isEmpty then [] else Tryz.f6.params.toList.map fun t => match Tryz.prog.underlying t with | some (.int k) => some k | _ => none))) = true := by kernel_rfl
theorem ichecks_j30 : ((Rows.invariantChecksRow.pinned == Rows.invariantChecksRow.pinnedBy)) = true := by kernel_rfl
theorem ichecks_j31 : ((Rows.invariantChecksRow.veiled == (Tryz.f6.params.toList ++ Rows.invariantChecksSpec.plain.varTypes Tryz.prog ++ Tryz.f6.resultTypes.toList).any (Tryz.prog.veiledRec ·))) = true := by kernel_rfl
theorem ichecks_j32 : (Rows.invariantChecksRow.veiledFits Tryz.prog Tryz.f6.params.toList (Tryz.f6.params.toList ++ Rows.invariantChecksSpec.plain.varTypes Tryz.prog ++ Tryz.f6.resultTypes.toList)) = true := by kernel_rfl
theorem qJD : joinedFacts Tryz.prog 6 Tryz.f6 Rows.invariantChecksSpec Rows.invariantChecksRow = true := (qEQ (qEQ (qEQ (qEQ (qEQ (qEQ (qEQ (qEQ (qEQ (qEQ (qEQ (qEQ (qEQ (qEQ (qEQ (qEQ (qEQ (qEQ (qEQ (qEQ (qEQ (qEQ (qEQ (qEQ (qEQ (qEQ (qEQ (qEQ (qEQ (qEQ (qEQ ichecks_j1 ichecks_j2) ichecks_j3) ichecks_j4) ichecks_j5) ichecks_j6) ichecks_j7) ichecks_j8) ichecks_j9) ichecks_j10) ichecks_j11) ichecks_j12) ichecks_j13) ichecks_j14) ichecks_j15) ichecks_j16) ichecks_j17) ichecks_j18) ichecks_j19) ichecks_j20) ichecks_j21) ichecks_j22) ichecks_j23) ichecks_j24) ichecks_j25) ichecks_j26) ichecks_j27) ichecks_j28) ichecks_j29) ichecks_j30) ichecks_j31) ichecks_j32)
end Go.Proofs.YtnoompnjibfbfaaGreatDoor
