/- Part 17 of a proof of a law of this seat: no statement of the seat is proved here. -/
import Derived.Test.YtnoompnjibfbfaaGreatDoorPart16
set_option linter.unusedVariables false
set_option linter.unusedSimpArgs false
namespace Go.Proofs
open Go Go.Sx
attribute [local irreducible] Go.Sx.Tri
def qCx (x : ByteArray × Int) : List Value := [.string x.1, .int .i64 x.2]
theorem app31 : AppP 31 3 1 qAH := appG Tryz.underlying31 (by kernel_rfl) (by kernel_rfl) (by kernel_rfl) (by kernel_rfl) (by kernel_rfl) (by decide) (by intro _; rfl) fun x u hu => by simp only [qAH, List.mem_cons, List.not_mem_nil, or_false] at hu; subst hu; rfl
theorem app48 : AppP 48 52 2 qCx := appG Tryz.underlying48 (by kernel_rfl) (by kernel_rfl) (by kernel_rfl) (by kernel_rfl) (by kernel_rfl) (by decide) (by intro _; rfl) fun x u hu => by simp only [qCx, List.mem_cons, List.not_mem_nil, or_false] at hu; rcases hu with rfl | rfl <;> rfl
theorem app32 : AppP 32 99 2 Nd.row := appG Tryz.underlying32 (by kernel_rfl) (by kernel_rfl) (by kernel_rfl) (by kernel_rfl) (by kernel_rfl) (by decide) (by intro _; rfl) fun x u hu => by simp only [Nd.row, Sl.v, List.mem_cons, List.not_mem_nil, or_false] at hu; rcases hu with rfl | rfl <;> rfl
theorem qHq {V : Mem} {b : Nat} {n : Int} {t : Nat} (h : V b = some (.cells #[.int .i64 n] t (0, 0))) : qAd V ⟨some ⟨b, 0, none⟩, 1, 1⟩ 1 ([n].map qAH) :=
 qAd.cells (xs := [n]) (row := qAH) h rfl (fun _ => rfl) rfl (by simp)
section
variable {V0 V V1 : Mem} {d : Ds} {m : Mm} {p ib : Nat} {st : Sr} {o : Sl}
theorem StT.at2 {V : Mem} {b : Nat} {c : Array Value} {t off : Nat} {vs : List Value} {q : Mem -> Prop} (h : V b = some (.cells c t (0, 0))) (hl : off + vs.length <= c.size)
  (hq : q (V.set b (.cells (c.toList.take off ++ vs ++ c.toList.drop (off + vs.length)).toArray t (0, 0)))) : StT (qAa (sa b) off) 0 vs V q := by
 have e : qAa (sa b) off = some ⟨b, off, none⟩ := by
  unfold qAa Addr.add
  simp only [Option.map_some]
  split <;> simp_all
 rw [e]
 exact ⟨⟨b, off, none⟩, c, t, rfl, h, rfl, by simpa using hl, by simpa using hq⟩
def srow (d : Ds) (m : Mm) (o : Sl) (ib : Nat) (a : Int) : List Value := [Go.Sx.vS d.name, d.ts.v, d.gs.v, d.ps.v, d.ms.v, d.is.v, d.qs.v, d.bs.v, m.gs.v, m.ns.v, o.v, .map (some ib), .int .i64 a]
structure SrAt (V0 : Mem) (d : Ds) (m : Mm) (p ib : Nat) (V : Mem) (st : Sr) (o : Sl) : Prop where
 at_ : V p = some (.cells (srow d m o ib st.again).toArray 152 (0, 0))
 own : Sx.Own V0 V 3 1 o (st.order.flatMap qAH)
 map : ∃ f : Int -> Option Int, qES (Value.int .i64) V ib (fun n => (f n).map (Value.int .i64)) /\ ∀ n, (n ∈ st.order -> ∃ j, f n = some j /\ 1 <= j) /\ (¬ n ∈ st.order -> f n = none)
 cap : st.order.length + unS m st <= m.nodes.length
 rng : ∀ x ∈ st.order, 1 <= x /\ x <= (m.nodes.length : Int)
structure SrS (V0 : Mem) (d : Ds) (m : Mm) (p ib : Nat) : Prop where
 valid : qAQ d = true
 mem : qAY d m = true
 ds : Ds.Ok V0 d
 mm : Mm.Ok V0 m
 p0 : V0 p = none
 i0 : V0 ib = none
 pi : p ≠ ib
theorem SrAt.cell (h : SrAt V0 d m p ib V st o) (i n : Nat) (hi : i + n <= 13) : V.rowp (sa p) i n = some (((srow d m o ib st.again).drop i).take n) := qAg h.at_ i n hi
theorem unS_le {a b : Sr} (h : ∀ x ∈ a.order, x ∈ b.order) : unS m b <= unS m a := by
 unfold unS
 refine qEh fun i _ hi => ?_
 simp only [Bool.not_eq_true', decide_eq_false_iff_not] at hi ⊢
 exact fun k => hi (h _ k)
theorem unS_lt {n : Int} (hn : 1 <= n /\ n <= (m.nodes.length : Int)) (h : ¬ n ∈ st.order) {a : Int} : unS m ⟨st.order ++ [n], a⟩ < unS m st := by
 unfold unS
 obtain ⟨i, rfl⟩ : ∃ i : Nat, n = (i : Int) + 1 := ⟨(n - 1).toNat, by omega⟩
 refine qFr (fun j _ hj => ?_) i (List.mem_range.2 (by omega)) (by simpa using h) (by simp)
 simp only [Bool.not_eq_true', decide_eq_false_iff_not] at hj ⊢
 exact fun k => hj (List.mem_append_left _ k)
theorem ref_in {xs : List Fld} {vs : List Int} (h : qAC d m xs vs = true) {i : Nat} {f : Fld} {v : Int} (hf : xs[i]? = some f) (hvv : vs[i]? = some v) (hp : qCL f.ty = false) (h0 : v ≠ 0) : 1 <= v /\ v <= (m.nodes.length : Int) := by
 obtain ⟨v', hv', hr⟩ := qGS h hf
 rw [hvv] at hv'; cases hv'
 unfold qCL at hp
 simp only [Bool.or_eq_false_iff, decide_eq_false_iff_not] at hp
 unfold qAR at hr
 rw [if_neg hp.1, if_neg hp.2, decide_eq_true_eq] at hr
 rcases hr with h | ⟨h1, h2, -⟩
 ·exact absurd h h0
 ·exact ⟨h1, h2⟩
def SrPost (V0 : Mem) (d : Ds) (m : Mm) (p ib : Nat) (st : Sr) : Ending -> Mem -> Prop := fun e V' => e = .returned (.tuple #[]) /\ ∃ o, SrAt V0 d m p ib V' st o
variable (V0 d m p ib) in
def EntC (N : Nat) : Prop := ∀ (st : Sr) (n : Int) (f : Nat) V o, SrAt V0 d m p ib V st o -> 1 <= n /\ n <= (m.nodes.length : Int) -> unS m st <= N -> unS m st < f ->
 Tri Tryz.prog 191 #[pv p, .int .i64 n] V (SrPost V0 d m p ib (qDK d m f st n))
theorem lookC {N : Nat} (hE : EntC V0 d m p ib N) {l s : Sl} {xs : List Fld} {vs : List Int} (hl : qAd V0 l 2 (xs.map Fld.row)) (hs : qAd V0 s 1 (vs.map qAH)) (hv : qAC d m xs vs = true) {f : Nat} (h : SrAt V0 d m p ib V st o) (hN : unS m st <= N) (hf : unS m st < f) :
  Tri Tryz.prog 133 #[pv p, l.v, s.v] V (SrPost V0 d m p ib ((tgt xs vs).foldl (qDK d m f) st)) := by
 refine Tri.mono (x133 (R := SrPost V0 d m p ib ((tgt xs vs).foldl (qDK d m f) st)) ?_) fun _ _ h => h
 unfold w133
 have hlen : xs.length = vs.length := by
  unfold qAC at hv
  rw [Bool.and_eq_true, decide_eq_true_eq] at hv
  exact hv.1
 refine loop1 xs.length (fun i V1 => ∃ o1, SrAt V0 d m p ib V1 ((tgtI xs vs i).foldl (qDK d m f) st) o1) ⟨o, by rw [tgtI_zero]; exact h⟩ ?_
 rintro i V1 J hi ⟨o1, h1⟩ hJ
 have hl1 := hl.sub h1.own.sub
 have hs1 := hs.sub h1.own.sub
 refine ⟨fun hlt => ?_, fun hge => ?_⟩
 ·obtain ⟨x, hxm, hx, -, hil, hp, hz, hrow⟩ := hl1.get hlt
  have n1 := hl1.n_eq
  have n2 := hs1.n_eq
  obtain ⟨y, hym, hy, -, hjl, hpy, hzy, hrowy⟩ := hs1.get (i := i) (by omega)
  have hu : unS m ((tgtI xs vs i).foldl (qDK d m f) st) <= unS m st := unS_le fun z hz => foldP_sub d m f z _ _ hz
  have same : qDR (x, y) = false -> ∃ o2, SrAt V0 d m p ib V1 ((tgtI xs vs (i + 1)).foldl (qDK d m f) st) o2 := fun hr => by
   rw [qEY hx hy, hr, if_neg (by decide), List.append_nil]; exact ⟨o1, h1⟩
  refine ⟨hp, hz, hlt, _, _, hrow, c170.call ⟨_, rfl, fun h2 => ⟨hl1.succ hlt, hJ hil _ (same ?_)⟩, fun h2 => ⟨hpy, hzy, by omega, _, hrowy, fun h3 => ⟨hl1.succ hlt, hJ hil _ (same ?_)⟩, fun h3 => ⟨hpy, hzy, by omega, _, hrowy, ?_⟩⟩⟩⟩
  ·unfold qDR; rw [show qCL x.ty = true from h2]; rfl
  ·have h3 : y = 0 := h3
   unfold qDR; rw [h3]; simp
  ·have hpl : qCL x.ty = false := (Bool.not_eq_true _).mp h2
   have h3 : ¬ y = 0 := h3
   have hr : qDR (x, y) = true := by unfold qDR; rw [hpl, decide_eq_true h3]; rfl
   refine Tri.mono (hE _ y f V1 o1 h1 (ref_in hv hx hy hpl h3) (by omega) (by omega)) ?_
   rintro _ V2 ⟨rfl, o2, h4⟩
   refine ⟨rfl, hl1.succ hlt, hJ hil _ ⟨o2, ?_⟩⟩
   rw [qEY hx hy, hr, if_pos rfl, List.foldl_append, List.foldl_cons, List.foldl_nil]
   exact h4
 ·have hd := (hl1.done hge).2
  rw [tgtI_all hd] at h1
  exact ⟨rfl, o1, h1⟩
theorem enterC (S : SrS V0 d m p ib) (N : Nat) (ih : ∀ N', N' < N -> EntC V0 d m p ib N') : EntC V0 d m p ib N := by
 intro st n f V o h hn hN hf
 obtain ⟨f, rfl⟩ : ∃ f', f = f' + 1 := ⟨f - 1, by omega⟩
 refine Tri.mono (x191 (R := SrPost V0 d m p ib (qDK d m (f + 1) st n)) ?_) fun _ _ h => h
 unfold w191
 obtain ⟨g, hg, hgm⟩ := h.map
 refine ⟨nn, nn, _, h.cell 11 1 (by decide), qBv.key1 (k := n) (keyInt Tryz.underlying3) Tryz.underlying150 qGP hg ?_⟩
 by_cases hin : n ∈ st.order
 ·obtain ⟨j, hj, hj1⟩ := (hgm n).1 hin
  rw [hj]
  refine ⟨j, rfl, fun h0 => ?_, fun _ => ⟨nn, nn, _, h.cell 12 1 (by decide), fun h0 => ⟨nn, nn, ?_⟩, fun h0 => ?_⟩⟩
  ·have h0 : j = 0 := h0
   omega
  ·have h0 : st.again = 0 := h0
   have e : qDK d m (f + 1) st n = ⟨st.order, n⟩ := by unfold qDK; rw [if_pos hin, if_pos h0]
   rw [e]
   refine StT.at2 (off := 12) h.at_ (by simp [srow]) ⟨rfl, o, ?_, h.own.put (h.own.apart fun cur hc => ?_) S.p0 _, ⟨g, hg.set S.pi.symm, hgm⟩, h.cap, h.rng⟩
   ·rw [Mem.set_same]; rfl
   ·rw [h.at_] at hc; cases hc
  ·have h0 : ¬ st.again = 0 := h0
   have e : qDK d m (f + 1) st n = st := by unfold qDK; rw [if_pos hin, if_neg h0]
   rw [e]
   exact ⟨rfl, o, h⟩
 ·rw [(hgm n).2 hin]
  have hcap := h.cap
  have hlt := unS_lt (st := st) hn hin (a := st.again)
  refine ⟨0, rfl, fun _ => ⟨nn, nn, o, h.cell 10 1 (by decide), fun tb htb => ?_⟩, fun h0 => absurd rfl h0⟩
  have pne : ∀ cur, V p ≠ some (.cells cur 3 (0, 0)) := fun cur hc => by rw [h.at_] at hc; cases hc
  have ine : ∀ cur, V ib ≠ some (.cells cur 3 (0, 0)) := fun cur hc => by
   obtain ⟨e1, c1, k1, -⟩ := hg.at_
   rw [k1] at hc; cases hc
  have hpt : tb ≠ p := fun e => by rw [e, h.at_] at htb; cases htb
  have hit : tb ≠ ib := fun e => by
   obtain ⟨e1, c1, k1, -⟩ := hg.at_
   rw [e, k1] at htb; cases htb
  have m4 := (qAq S.mem).2.1
  have hown2 := (h.own.but).new htb (.cells #[.int .i64 n] 3 (0, 0))
  refine app31 (s := o) (u := ⟨some ⟨tb, 0, none⟩, 1, 1⟩) (xs := st.order) (ys := [n]) rfl rfl hown2 (qHq mss) (by simp; omega) fun o2 V2 ho2 => ⟨o2, rfl, nn, nn, ?_⟩
  have hsub := ho2.sub
  have hp2 : V2 p = some (.cells (srow d m o ib st.again).toArray 152 (0, 0)) := hsub _ _ (Mem.but_at h.at_ (h.own.apart pne))
  have hg2 : qES (Value.int .i64) V2 ib fun n => (g n).map (Value.int .i64) := by
   obtain ⟨e1, c1, k1, k2⟩ := hg.at_
   exact ⟨e1, c1, hsub _ _ (Mem.but_at k1 (h.own.apart ine)), k2⟩
  have ho3 : Sx.Own V0 V2 3 1 o2 ((st.order ++ [n]).flatMap qAH) := ho2.narrow h.own.sub_but
  refine StT.at2 (off := 10) hp2 (by simp [srow]) ?_
  obtain ⟨V3, hV3⟩ : ∃ V3, V3 = V2.set p (.cells (srow d m o2 ib st.again).toArray 152 (0, 0)) := ⟨_, rfl⟩
  have hgoal : V2.set p (.cells ((srow d m o ib st.again).toArray.toList.take 10 ++ [uL o2] ++ (srow d m o ib st.again).toArray.toList.drop (10 + [uL o2].length)).toArray 152 (0, 0)) = V3 := hV3.symm
  have hp3 : V3 p = some (.cells (srow d m o2 ib st.again).toArray 152 (0, 0)) := by rw [hV3, Mem.set_same]
  have hg3 : qES (Value.int .i64) V3 ib fun n => (g n).map (Value.int .i64) := by rw [hV3]; exact hg2.set S.pi.symm
  have pne2 : ∀ cur, V2 p ≠ some (.cells cur 3 (0, 0)) := fun cur hc => by rw [hp2] at hc; cases hc
  have ho4 : Sx.Own V0 V3 3 1 o2 ((st.order ++ [n]).flatMap qAH) := by rw [hV3]; exact ho3.put (ho3.apart pne2) S.p0 _
  show ¬ _ /\ _
  rw [hgoal]
  refine ⟨nn, nn, _, qAg hp3 11 1 (by simp [srow]), nn, nn, o2, qAg hp3 10 1 (by simp [srow]), qGr.key (k := n) (keyInt Tryz.underlying3) Tryz.underlying150 hg3 fun ob hob => ?_⟩
  have hn2 := ho4.n_eq (fun _ => rfl) (by decide)
  have h5 : SrAt V0 d m p ib (V3.set ib ob) ⟨st.order ++ [n], st.again⟩ o2 := by
   refine ⟨by rw [Mem.set_ne S.pi]; exact hp3, ho4.put (ho4.apart fun cur hc => ?_) S.i0 _, ⟨fun x => if x = n then some (o2.n : Int) else g x, hob.congr fun x => ?_, fun x => ⟨fun hx => ?_, fun hx => ?_⟩⟩, ?_, fun x hx => ?_⟩
   ·obtain ⟨e1, c1, k1, -⟩ := hg3.at_
    rw [k1] at hc; cases hc
   ·by_cases hx : x = n <;> simp [hx]
   ·by_cases hxn : x = n
    ·refine ⟨o2.n, by simp [hxn], ?_⟩
     rw [hn2, List.length_append, List.length_singleton]; omega
    ·obtain ⟨j, hj, hj1⟩ := (hgm x).1 (by simpa [hxn] using hx)
     exact ⟨j, by simp [hxn, hj], hj1⟩
   ·have hx' : ¬ x ∈ st.order /\ ¬ x = n := by simpa using hx
    simp [hx'.2, (hgm x).2 hx'.1]
   ·show (st.order ++ [n]).length + _ <= _
    rw [List.length_append, List.length_singleton]; omega
   ·rcases List.mem_append.1 hx with hx | hx
    ·exact h.rng x hx
    ·rw [List.mem_singleton.1 hx]; exact hn
  obtain ⟨q, rfl⟩ : ∃ q : Nat, n = (q : Int) + 1 := ⟨(n - 1).toNat, by omega⟩
  have hmm := S.mm.sub h5.own.sub
  have hdd := S.ds.sub h5.own.sub
  have hnn := hmm.nodes.n_eq
  obtain ⟨x, hxm, hx, -, hl2, hpx, hzx, hrowx⟩ := hmm.nodes.get (i := q) (by omega)
  have hty := (qAq S.mem).2.2.1 x hxm
  obtain ⟨c1, c2⟩ := of_decide_eq_true hty
  obtain ⟨j, hj⟩ : ∃ j : Nat, x.ty = (j : Int) := ⟨_, (Int.toNat_of_nonneg c1).symm⟩
  have htn := hdd.types.n_eq
  obtain ⟨t, htm, ht, -, hl3, hpt3, hzt, hrowt⟩ := hdd.types.get (i := j) (by omega)
  have hI : IR ((q : Int)) := ⟨by omega, by have := (hmm.nodes.succ (i := q) (by omega)).2; omega⟩
  rw [show ((q : Int) + 1 - 1) = (q : Int) by omega]
  refine ⟨nn, nn, pnn, m.ns, h5.cell 9 1 (by decide), hI, hpx, hzx, by omega, _, _, hrowx, nn, nn, pnn, d.ts, h5.cell 1 1 (by decide), ?_⟩
  rw [hj]
  have hfo := qCl ht hj
  have hvals := (qAq S.mem).2.2.2.2 x hxm
  rw [hfo] at hvals
  refine ⟨hpt3, hzt, by omega, qAc hpt3, _, _, hrowt, Tri.mono (lookC (ih (unS m ⟨st.order ++ [(q : Int) + 1], st.again⟩) (by omega)) (S.ds.typesOk t htm).fields (S.mm.nodesOk x hxm).rows hvals (f := f) h5 (Nat.le_refl _) (by omega)) ?_⟩
  rintro _ V5 ⟨rfl, o5, h6⟩
  refine ⟨rfl, rfl, o5, ?_⟩
  have e : qDK d m (f + 1) st ((q : Int) + 1) = (tgt t.fields x.f).foldl (qDK d m f) ⟨st.order ++ [(q : Int) + 1], st.again⟩ := by
   rw [qDK, if_neg hin]
   unfold qDa
   rw [show ((q : Int) + 1 - 1).toNat = q by omega, hx]
   show (tgt (qAK d x.ty) x.f).foldl _ _ = _
   rw [hfo]
  rw [e]; exact h6
theorem entAll (S : SrS V0 d m p ib) : ∀ N, EntC V0 d m p ib N := fun N => Nat.strongRecOn N fun N ih => enterC S N ih
end
section
variable {V : Mem} {d : Ds} {m : Mm}
theorem c83 (hv : qAQ d = true) (hmv : qAY d m = true) (hd : Ds.Ok V d) (hm : Mm.Ok V m) : Tri Tryz.prog 83 #[d.v, m.v] V fun e V' => ∃ p ib o, e = .returned (pv p) /\ SrAt V d m p ib V' (qBN d m) o := by
 refine x83 ?_
 unfold w83
 refine qAo.makeMap fun ib hib => ⟨some ib, rfl, fun p hp => ?_⟩
 have n1 : p ≠ ib := fun e => by rw [e, Mem.set_same] at hp; cases hp
 have hp0 : V p = none := by rw [Mem.set_ne n1] at hp; exact hp
 have s1 := Mem.sub_new hib (.map #[] 0)
 have s2 := Mem.sub_new hp (.cells (srow d m ⟨none, 0, 0⟩ ib 0).toArray 152 (0, 0))
 have S : SrS V d m p ib := ⟨hv, hmv, hd, hm, hp0, hib, n1⟩
 have h0 : SrAt V d m p ib ((V.set ib (.map #[] 0)).set p (.cells (srow d m ⟨none, 0, 0⟩ ib 0).toArray 152 (0, 0))) ⟨[], 0⟩ ⟨none, 0, 0⟩ :=
  ⟨Mem.set_same _ _ _, Own.nil (s1.trans s2) _ _, ⟨fun _ => none, (((qES.made V ib).sub s2)).congr fun _ => rfl, fun _ => ⟨fun h => by simp at h, fun _ => rfl⟩⟩, by
   show 0 + unS m ⟨[], 0⟩ <= _
   unfold unS
   have := List.length_filter_le (fun i : Nat => !decide (((i : Int) + 1) ∈ (⟨[], 0⟩ : Sr).order)) (List.range m.nodes.length)
   rw [List.length_range] at this
   omega, fun x h => by simp at h⟩
 have hu : unS m ⟨[], 0⟩ <= m.nodes.length := by have := h0.cap; simp at this; omega
 refine Tri.mono (lookC (entAll S m.nodes.length) hd.globals hm.globals (qAq hmv).2.2.2.1 (f := m.nodes.length + 1) h0 hu (by omega)) ?_
 rintro _ V2 ⟨rfl, o, h⟩
 exact ⟨rfl, p, ib, o, rfl, h⟩
theorem c49 [Tab V] (hv : qAQ d = true) (hmv : qAY d m = true) (hd : Ds.Ok V d) (hm : Mm.Ok V m) : Tri Tryz.prog 49 #[d.v, m.v] V fun e V' => ∃ o : Sl, e = .returned (.tuple #[.slice o.p o.n o.c, .int .i64 0]) /\ Sx.Own V V' 3 1 o ((qBN d m).order.flatMap qAH) /\ (qBN d m).order.length <= m.nodes.length /\ ∀ x ∈ (qBN d m).order, 1 <= x /\ x <= (m.nodes.length : Int) := by
 refine x49 ?_
 unfold w49
 refine (c69 hd hm).call ⟨_, rfl, fun _ => Tri.mono (c83 hv hmv hd hm) ?_, fun h => absurd hmv h⟩
 rintro _ V2 ⟨p, ib, o, rfl, h⟩
 have hc := h.cap
 exact ⟨_, rfl, nn, nn, o, h.cell 10 1 (by decide), o, rfl, h.own, by omega, h.rng⟩
end
theorem Own.keep {W V V' : Mem} {e : TypeId} {sz : Nat} {s : Sl} {vs : List Value} {kb bb : Nat} (h : Sx.Own W V e sz s vs) (hk : qIa kb bb V V') (hs : W.sub V') (h1 : ∀ c, V kb ≠ some (.cells c e (0, 0))) (h2 : ∀ c, V bb ≠ some (.cells c e (0, 0))) : Sx.Own W V' e sz s vs := ⟨hs, h.len, by
 rcases h.at_ with h' | ⟨g, cur, a, b, c, d⟩
 ·exact .inl h'
 ·exact .inr ⟨g, cur, a, b, hk _ _ (fun e => h1 cur (by rw [<- e]; exact c)) (fun e => h2 cur (by rw [<- e]; exact c)) c, d⟩⟩
section
variable {W V : Mem} {d : Ds} {m : Mm} {p kb bb : Nat} {kn : Int × Int -> Option Int} {bz : Int × Int -> Bool}
theorem qDP.kMap (M : qDP W d m p kb bb V kn bz) {e : TypeId} : ∀ c, V kb ≠ some (.cells c e (0, 0)) := fun c hc => by
 obtain ⟨e1, c1, k1, -⟩ := M.known.at_
 rw [k1] at hc; cases hc
theorem qDP.bMap (M : qDP W d m p kb bb V kn bz) {e : TypeId} : ∀ c, V bb ≠ some (.cells c e (0, 0)) := fun c hc => by
 obtain ⟨e1, c1, k1, -⟩ := M.busy.at_
 rw [k1] at hc; cases hc
structure qDt (W : Mem) (d : Ds) (m : Mm) (p kb bb : Nat) (V : Mem) (s : Sl) (xs : List (ByteArray × Int)) : Prop where
 own : Sx.Own W V 52 2 s (xs.flatMap qCx)
 mach : ∃ kn, qDP W d m p kb bb V kn bz0 /\ KnOk d m kn
theorem qDt.hold (S : qHZ W d m p kb bb) {s : Sl} {xs : List (ByteArray × Int)} (h : qDt W d m p kb bb V s xs) {v : Iv} {x : Int} (hv : v ∈ d.invs) (hT : This d m v.ty x) :
  Tri Tryz.prog 50 #[pv p, v.v, .int .i64 x] V fun e V' => e = .returned (.bool (qGA d m v.x x)) /\ qDt W d m p kb bb V' s xs := by
 obtain ⟨kn, M, K⟩ := h.mach
 refine Tri.mono (c50 S M K hv hT) ?_
 rintro _ V' ⟨rfl, hk, kn', M', K'⟩
 exact ⟨rfl, Own.keep h.own hk M'.sub M.kMap M.bMap, kn', M', K'⟩
theorem qDt.add {s : Sl} {xs : List (ByteArray × Int)} (h : qDt W d m p kb bb V s xs) {y : ByteArray × Int} {t : Nat} {ty : Nat} {a b : Operand} {vals : Operand -> Value} {q : Value -> Mem -> Prop} {tb : Nat} (htb : V tb = none)
  (ha : vals a = .slice s.p s.n s.c) (hb : vals b = .slice (sa tb) 1 1) (hfit : xs.length + 1 <= 2147483648) (hq : ∀ s' V', qDt W d m p kb bb V' s' (xs ++ [y]) -> q (.slice s'.p s'.n s'.c) V') :
  qAo Tryz.prog (.call { callee := .builtin .append, args := #[a, b], argTypes := #[48, 48] }) ty vals (V.set tb (.cells (qCx y).toArray t (0, 0))) q := by
 obtain ⟨kn, M, K⟩ := h.mach
 refine app48 (s := s) (u := ⟨some ⟨tb, 0, none⟩, 1, 1⟩) (xs := xs) (ys := [y]) ha hb ((h.own.but).new htb _) (qAd.cells (xs := [y]) (row := qCx) mss (by simp) (fun _ => rfl) rfl (by simp)) (by simpa using hfit) fun s' V' ho => hq s' V' ⟨ho.narrow h.own.sub_but, kn, ⟨(h.own.sub_but).trans ho.sub, ?_, ?_, ?_⟩, K⟩
 ·exact ho.sub _ _ (Mem.but_at M.at_ (h.own.apart fun cur hc => by rw [M.at_] at hc; cases hc))
 ·obtain ⟨e1, c1, k1, k2⟩ := M.known.at_
  exact ⟨e1, c1, ho.sub _ _ (Mem.but_at k1 (h.own.apart M.kMap)), k2⟩
 ·obtain ⟨e1, c1, k1, k2⟩ := M.busy.at_
  exact ⟨e1, c1, ho.sub _ _ (Mem.but_at k1 (h.own.apart M.bMap)), k2⟩
theorem Mem.set_sub {A B : Mem} (h : A.sub B) (b : Nat) (o : Obj) : (A.set b o).sub (B.set b o) := fun c x hc => by
 by_cases e : c = b
 ·subst e; rw [Mem.set_same] at hc ⊢; exact hc
 ·rw [Mem.set_ne e] at hc ⊢; exact h _ _ hc
theorem qDt.wide {s : Sl} {xs : List (ByteArray × Int)} (h : qDt W d m p kb bb V s xs) {b : Nat} (hb : V b = none) (o : Obj) : qDt (W.set b o) d m p kb bb (V.set b o) s xs := by
 obtain ⟨kn, M, K⟩ := h.mach
 have hs := Mem.set_sub h.own.sub b o
 refine ⟨⟨hs, h.own.len, ?_⟩, kn, ⟨hs, (M.grow (Mem.sub_new hb o)).at_, (M.grow (Mem.sub_new hb o)).known, (M.grow (Mem.sub_new hb o)).busy⟩, K⟩
 rcases h.own.at_ with h' | ⟨g, cur, a, b', c, dd⟩
 ·exact .inl h'
 ·have hne : g ≠ b := fun e => by rw [e, hb] at c; cases c
  exact .inr ⟨g, cur, a, by rw [Mem.set_ne hne]; exact b', by rw [Mem.set_ne hne]; exact c, dd⟩
theorem qDt.narrow {W' : Mem} {s : Sl} {xs : List (ByteArray × Int)} (h : qDt W' d m p kb bb V s xs) (hs : W.sub W') : qDt W d m p kb bb V s xs := by
 obtain ⟨kn, M, K⟩ := h.mach
 exact ⟨h.own.narrow hs, kn, ⟨hs.trans M.sub, M.at_, M.known, M.busy⟩, K⟩
theorem qDt.wideS (S : qHZ W d m p kb bb) {s : Sl} {xs : List (ByteArray × Int)} (h : qDt W d m p kb bb V s xs) {b : Nat} (hb : V b = none) (o : Obj) : qHZ (W.set b o) d m p kb bb := by
 obtain ⟨kn, M, K⟩ := h.mach
 have hW : W b = none := by
  cases hc : W b with
  | none => rfl
  | some x => rw [M.sub _ _ hc] at hb; cases hb
 have s1 := Mem.sub_new hW o
 obtain ⟨e1, c1, k1, -⟩ := M.known.at_
 obtain ⟨e2, c2, k2, -⟩ := M.busy.at_
 refine ⟨S.good, S.ds.sub s1, S.mm.sub s1, ?_, ?_, ?_, S.pk, S.pb, S.kb⟩
 ·rw [Mem.set_ne fun e => by rw [<- e, M.at_] at hb; cases hb]; exact S.p0
 ·rw [Mem.set_ne fun e => by rw [<- e, k1] at hb; cases hb]; exact S.k0
 ·rw [Mem.set_ne fun e => by rw [<- e, k2] at hb; cases hb]; exact S.b0
theorem qEw {v : Iv} {l : List Int} {j : Nat} {n : Int} (hn : l[j]? = some n) : qCm d m v (l.take (j + 1)) = qCm d m v (l.take j) ++ if qJS d m v n = true then [(v.name, n)] else [] := by
 unfold qCm
 rw [List.take_add_one, hn, List.filter_append, List.map_append]
 by_cases h : qJS d m v n = true <;> simp [h]
theorem qHW {v : Iv} {l : List Int} : (qCm d m v l).length <= l.length := by
 unfold qCm
 rw [List.length_map]; exact List.length_filter_le _ _
theorem flat_len {l : List Iv} (h : ∀ v ∈ l, (qAF d m v).length <= 4097) : (l.flatMap fun v => qCm d m v (qAF d m v)).length <= l.length * 4097 := by
 induction l with
 | nil => simp
 | cons v l ih =>
  rw [List.flatMap_cons, List.length_append, List.length_cons, Nat.add_mul]
  have h1 := qHW (d := d) (m := m) (v := v) (l := qAF d m v)
  have h2 := h v List.mem_cons_self
  have h3 := ih fun x hx => h x (List.mem_cons_of_mem _ hx)
  omega
theorem qGT (h : qAQ d = true) : d.invs.length <= 12 := by
 unfold qAQ at h
 simp only [Bool.and_eq_true] at h
 obtain ⟨⟨⟨⟨_, hL⟩, -⟩, -⟩, -⟩ := h
 unfold qIg at hL
 have := of_decide_eq_true hL
 omega
theorem qJw (G : qBF d m) {x : Int} (h : 0 <= x /\ x <= (m.nodes.length : Int)) {v : Iv} (hT : qIc d m x = v.ty) : This d m v.ty x := hT ▸ this_typ G h.1 h.2
theorem allRound (S : qHZ W d m p kb bb) {s : Sl} {A : List (ByteArray × Int)} {v : Iv} {ns : List Int} {j : Nat} {n : Int} (hv : v ∈ d.invs) (h : qDt W d m p kb bb V s (A ++ qCm d m v (ns.take j))) (hn : ns[j]? = some n) (hr : 0 <= n /\ n <= (m.nodes.length : Int)) (hl : A.length + ns.length <= 2147483000) (hI : IR ((j : Int) + 1))
  {J : List Value -> Mem -> Prop} (hJ : ∀ s' V', qDt W d m p kb bb V' s' (A ++ qCm d m v (ns.take (j + 1))) -> J [uL s', uI ((j : Int) + 1)] V') :
  TT 38 #[uP (sa p), uI n] V fun e V6 => ∃ v26, e = rV (uS v26) /\
   Br (v26 = v.ty)
   (TT 50 #[uP (sa p), uA #[uS v.name, uS v.ty, uI v.x.op, uI v.x.n, uS v.x.s, uL v.x.l], uI n] V6 fun e V7 => ∃ v27, e = rV (uB v27) /\
    Br (v27 = true)
    (IR ((j : Int) + 1) /\ J [uL s, uI ((j : Int) + 1)] V7)
    (qAn [uS v.name, uI n] 52 V7 fun v28 V8 =>
     qAo Tryz.prog (.call { callee := (.builtin .append), args := #[(.tmp 64), (.tmp 69)], argTypes := #[48, 48] }) 48 (gv [(64, uL s), (69, .slice (qAa v28 0) (1 : Int).toNat (1 : Int).toNat)]) V8 fun x V9 => ∃ v29, x = uL v29 /\
      IR ((j : Int) + 1) /\ J [uL v29, uI ((j : Int) + 1)] V9))
   (IR ((j : Int) + 1) /\ J [uL s, uI ((j : Int) + 1)] V6) := by
 obtain ⟨kn, M, -⟩ := h.mach
 have hlen := qHW (d := d) (m := m) (v := v) (l := ns.take j)
 have htl : (ns.take j).length <= ns.length := by rw [List.length_take]; omega
 refine (c38 S M hr).call ⟨_, rfl, fun hT => ?_, fun hT => ⟨hI, hJ s V ?_⟩⟩
 ·have hT : qIc d m n = v.ty := hT
  refine Tri.mono (h.hold S hv (qJw S.good hr hT)) ?_
  rintro _ V7 ⟨rfl, h7⟩
  refine ⟨_, rfl, fun hh => ⟨hI, hJ s V7 ?_⟩, fun hh tb htb => h7.add (y := (v.name, n)) htb rfl rfl (by rw [List.length_append]; omega) fun s' V' h' => ⟨s', rfl, hI, hJ s' V' ?_⟩⟩
  ·rw [qEw hn]
   have hb : qJS d m v n = false := by unfold qJS; rw [show qGA d m v.x n = true from hh, Bool.not_true, Bool.and_false]
   rw [hb, if_neg (by decide), List.append_nil]; exact h7
  ·rw [qEw hn]
   have hb : qJS d m v n = true := by unfold qJS; rw [decide_eq_true hT, (Bool.not_eq_true _).mp hh]; rfl
   rw [hb, if_pos rfl, <- List.append_assoc]; exact h'
 ·have hT : ¬ qIc d m n = v.ty := hT
  rw [qEw hn]
  have hb : qJS d m v n = false := by unfold qJS; rw [decide_eq_false hT, Bool.false_and]
  rw [hb, if_neg (by decide), List.append_nil]; exact h
end
section
variable {V : Mem} {d : Ds} {m : Mm}
def Mem.no3 (V : Mem) (a b c : Nat) : Mem := fun x => if x = a ∨ x = b ∨ x = c then none else V x
theorem no3_sub (V : Mem) (a b c : Nat) : (Mem.no3 V a b c).sub V := fun x o h => by
 unfold Mem.no3 at h
 split at h
 ·cases h
 ·exact h
theorem no3_at {a b c x : Nat} {o : Obj} (h : V x = some o) (h1 : x ≠ a) (h2 : x ≠ b) (h3 : x ≠ c) : Mem.no3 V a b c x = some o := by
 unfold Mem.no3; rw [if_neg (by simp [h1, h2, h3])]; exact h
theorem qGG {a b c x : Nat} (h : x = a ∨ x = b ∨ x = c) : Mem.no3 V a b c x = none := by
 unfold Mem.no3; rw [if_pos h]
theorem c17 [Tab V] (hd : Ds.Ok V d) (hm : Mm.Ok V m) : Tri Tryz.prog 17 #[d.v, m.v] V fun e V' => V.sub V' /\ ((qBF d m /\ ∃ s : Sl, e = .returned (.tuple #[.slice s.p s.n s.c, .int .i64 0]) /\ qAd V' s 2 ((allP d m).map qCx)) ∨ (¬ qBF d m /\ e = .returned (.tuple #[.slice none 0 0, .int .i64 1]))) := by
 refine x17 ?_
 unfold w17
 refine Tri.mono (c35 hd hm) ?_
 rintro _ V1 (⟨p, kb, bb, rfl, S, M⟩ | ⟨hG, rfl, hs⟩)
 rotate_left
 ·exact ⟨_, _, rfl, fun h => absurd h (by decide), fun _ => ⟨hs, .inr ⟨hG, rfl⟩⟩⟩
 have G := S.good
 haveI : Tab V1 := Tab.sub (V := V) inferInstance M.sub
 refine ⟨_, _, rfl, fun _ => Tri.mono (c49 G.valid G.mem (hd.sub M.sub) (hm.sub M.sub)) ?_, fun h => absurd rfl h⟩
 rintro _ V2 ⟨o, rfl, ho, hcap, hrng⟩
 refine ⟨o, _, rfl, fun _ => ?_, fun h => absurd rfl h⟩
 have M2 := M.grow ho.sub
 have hsW := no3_sub V2 p kb bb
 have hVW : V.sub (Mem.no3 V2 p kb bb) := fun c x hc => no3_at (M2.sub _ _ hc) (fun e => by rw [e, S.p0] at hc; cases hc) (fun e => by rw [e, S.k0] at hc; cases hc) (fun e => by rw [e, S.b0] at hc; cases hc)
 have S' : qHZ (Mem.no3 V2 p kb bb) d m p kb bb := ⟨G, hd.sub hVW, hm.sub hVW, qGG (.inl rfl), qGG (.inr (.inl rfl)), qGG (.inr (.inr rfl)), S.pk, S.pb, S.kb⟩
 have hoW : qAd (Mem.no3 V2 p kb bb) o 1 ((qBN d m).order.map qAH) := by
  have : Sx.Own (fun _ => none) (Mem.no3 V2 p kb bb) 3 1 o ((qBN d m).order.flatMap qAH) := ⟨(fun _ _ h => by cases h), ho.len, by
   rcases ho.at_ with h | ⟨g, cur, a, b, c, dd⟩
   ·exact .inl h
   ·refine .inr ⟨g, cur, a, rfl, no3_at c (fun e => ?_) (fun e => ?_) (fun e => ?_), dd⟩
    ·rw [e, M.at_] at b; cases b
    ·obtain ⟨e1, c1, k1, -⟩ := M.known.at_
     rw [e, k1] at b; cases b
    ·obtain ⟨e1, c1, k1, -⟩ := M.busy.at_
     rw [e, k1] at b; cases b⟩
  exact this.rows (fun _ => rfl) (by decide)
 have hnl : ∀ v : Iv, (qAF d m v).length <= 4097 := fun v => by
  unfold qAF
  have := (qAq G.mem).2.1
  split
  ·simp
  ·omega
 have hil := qGT G.valid
 refine qEB (mk := fun s : Sl => .slice s.p s.n s.c) (b0 := ⟨none, 0, 0⟩) qDn d.invs.length (fun i s V3 => qDt (Mem.no3 V2 p kb bb) d m p kb bb V3 s ((d.invs.take i).flatMap fun v => qCm d m v (qAF d m v))) ⟨Own.nil hsW _ _, kn0, ⟨hsW, M2.at_, M2.known, M2.busy⟩, fun _ _ h => by cases h⟩ ?_
 rintro i s V3 J hi h3 hJ
 have hd3 := (hd.sub hVW).sub h3.own.sub
 refine ⟨fun hlt => ?_, fun hge => ?_⟩
 ·obtain ⟨v, hvm, hv, -, hil', hp, hz, hrow⟩ := hd3.invs.get hlt
  have hflat := flat_len (d := d) (m := m) (l := d.invs.take i) fun v _ => hnl v
  have htl : (d.invs.take i).length <= 12 := by rw [List.length_take]; omega
  have hA : ((d.invs.take i).flatMap fun v => qCm d m v (qAF d m v)).length + (qAF d m v).length <= 2147483000 := by
   have := hnl v
   have : (d.invs.take i).length * 4097 <= 12 * 4097 := Nat.mul_le_mul_right _ htl
   omega
  have next : ∀ s' V', qDt (Mem.no3 V2 p kb bb) d m p kb bb V' s' (((d.invs.take i).flatMap fun v => qCm d m v (qAF d m v)) ++ qCm d m v (qAF d m v)) -> J [uL s', uI ((i : Int) + 1)] V' := fun s' V' h => hJ hil' _ _ (by
   rw [List.take_add_one, hv, List.flatMap_append]
   simpa using h)
  refine ⟨hp, hz, hlt, _, _, _, _, _, _, hrow, fun hE => fun tb htb => ?_, fun hE => ?_⟩
  ·have hE : v.ty = sE := hE
   have hns : qAF d m v = [0] := by unfold qAF; rw [if_pos hE]
   rw [hns] at hA next
   have hwS := h3.wideS S' htb (.cells #[.int .i64 0] 3 (0, 0))
   have hw3 := h3.wide htb (.cells #[.int .i64 0] 3 (0, 0))
   have hW0 : Mem.no3 V2 p kb bb tb = none := by
    cases hc : Mem.no3 V2 p kb bb tb with
    | none => rfl
    | some x => rw [h3.own.sub _ _ hc] at htb; cases htb
   have hsub := Mem.sub_new hW0 (.cells #[.int .i64 0] 3 (0, 0))
   have hrow0 : qAd ((Mem.no3 V2 p kb bb).set tb (.cells #[.int .i64 0] 3 (0, 0))) ⟨some ⟨tb, 0, none⟩, 1, 1⟩ 1 ([(0 : Int)].map qAH) := qHq mss
   refine qEB (mk := fun s : Sl => .slice s.p s.n s.c) (b0 := s) qDn 1 (fun j s' V' => qDt ((Mem.no3 V2 p kb bb).set tb (.cells #[.int .i64 0] 3 (0, 0))) d m p kb bb V' s' (((d.invs.take i).flatMap fun v => qCm d m v (qAF d m v)) ++ qCm d m v ([0].take j))) ?_ ?_
   ·simpa [qCm] using hw3
   ·rintro j s4 V4 J1 hj h4 hJ1
    have ho4 := hrow0.sub h4.own.sub
    refine ⟨fun hlt2 => ?_, fun hge2 => ?_⟩
    ·obtain ⟨n, hnm, hn, -, hjl, hpo, hzo, hrowo⟩ := ho4.get (i := j) hlt2
     have hn0 : n = 0 := by simpa using hnm
     exact ⟨nn, hzo, hlt2, _, hrowo, allRound hwS hvm h4 hn ⟨by omega, by omega⟩ hA (ho4.succ (i := j) hlt2) fun s' V' h' => hJ1 hjl _ _ h'⟩
    ·have hge2 : ¬ (j : Int) < 1 := hge2
     rw [show ([0] : List Int).take j = [0] from List.take_of_length_le (by show 1 <= j; omega)] at h4
     exact ⟨hd3.invs.succ hlt, next _ _ (h4.narrow hsub)⟩
  ·have hE : ¬ v.ty = sE := hE
   have hns : qAF d m v = (qBN d m).order := by unfold qAF; rw [if_neg hE]
   rw [hns] at hA next
   refine qEB (mk := fun s : Sl => .slice s.p s.n s.c) (b0 := s) qDn (qBN d m).order.length (fun j s' V' => qDt (Mem.no3 V2 p kb bb) d m p kb bb V' s' (((d.invs.take i).flatMap fun v => qCm d m v (qAF d m v)) ++ qCm d m v ((qBN d m).order.take j))) ?_ ?_
   ·simpa [qCm] using h3
   ·rintro j s4 V4 J1 hj h4 hJ1
    have ho4 := hoW.sub h4.own.sub
    refine ⟨fun hlt2 => ?_, fun hge2 => ?_⟩
    ·obtain ⟨n, hnm, hn, -, hjl, hpo, hzo, hrowo⟩ := ho4.get hlt2
     have hr := hrng n hnm
     exact ⟨hpo, hzo, hlt2, _, hrowo, allRound S' hvm h4 hn ⟨by omega, hr.2⟩ hA (ho4.succ hlt2) fun s' V' h' => hJ1 hjl _ _ h'⟩
    ·have hdn := (ho4.done hge2).2
     rw [List.take_of_length_le hdn] at h4
     exact ⟨hd3.invs.succ hlt, next _ _ h4⟩
 ·have hdn := (hd3.invs.done hge).2
  rw [List.take_of_length_le hdn] at h3
  exact ⟨hVW.trans h3.own.sub, .inl ⟨G, s, rfl, h3.own.rows (fun _ => rfl) (by decide)⟩⟩
theorem rowp_add0 (V : Mem) (p : Option Addr) (k n : Nat) : V.rowp (qAa p k) 0 n = V.rowp p k n := by
 cases p with
 | none => rfl
 | some a =>
  show V.row ((a.add k).add 0) n = V.row (a.add k) n
  rw [qER, Nat.add_zero]
inductive CheP (d : Ds) (m : Mm) : Bool -> ByteArray -> Int -> Int -> Prop where
 | arg (h : ¬ qBF d m) : CheP d m false sE 0 1
 | ok (h : qBF d m) (h1 : allP d m = []) : CheP d m true sE 0 0
 | bad (h : qBF d m) {x : ByteArray × Int} {l : List (ByteArray × Int)} (h1 : allP d m = x :: l) : CheP d m false x.1 x.2 0
theorem c21 [Tab V] (hd : Ds.Ok V d) (hm : Mm.Ok V m) : Tri Tryz.prog 21 #[d.v, m.v] V fun e V' => V' = V /\ ∃ b s x f, e = .returned (.tuple #[.bool b, .agg #[.string s, .int .i64 x], .int .i64 f]) /\ CheP d m b s x f := by
 refine Tri.less ?_
 refine x21 ?_
 unfold w21
 refine Tri.mono (c17 hd hm) ?_
 rintro _ V1 ⟨hs, ⟨G, s, rfl, hr⟩ | ⟨hG, rfl⟩⟩
 ·refine ⟨s, _, rfl, fun _ => ⟨fun hlt => ?_, fun hge => ?_⟩, fun h => absurd rfl h⟩
  ·obtain ⟨x, hxm, hx, hdr, hl, hp, hz, hrow⟩ := hr.get (i := 0) hlt
   refine ⟨hp, hz, hlt, _, _, hrow, (rowp_add0 _ _ _ _).trans hrow, hp, hz, hlt, V, ⟨rfl, _, _, _, _, rfl, .bad (l := (allP d m).drop 1) G (by rw [List.drop_zero] at hdr; exact hdr)⟩, hs⟩
  ·have := (hr.done (i := 0) hge).2
   exact ⟨V, ⟨rfl, _, _, _, _, rfl, .ok G (List.eq_nil_of_length_eq_zero (by omega))⟩, hs⟩
 ·exact ⟨⟨none, 0, 0⟩, _, rfl, fun h => absurd h (by decide), fun _ => ⟨V, ⟨rfl, _, _, _, _, rfl, .arg hG⟩, hs⟩⟩
end
end Go.Proofs
namespace Go.Sx
open Go
section
variable {P : Program} {n : Nat} {ops : Array Oper} {Q : Exit -> Act -> World -> Prop}
theorem qIm {F : Fence} {i : Nat} {o : Oper} {a : Act} {w : World} {K : Act -> World -> Prop} (ho : ops[i]? = some o) (hg : o.guard = none) (h : wpOpIn F n P ops Q i K a w) : wpOpIn F n P ops Q i (fun a' w' => (∃ v, a'.tmps = (a.put o.dst v).tmps) /\ K a' w') a w := by
 unfold wpOpIn at *
 simp only [ho] at *
 have hw := qBQ (ops := ops) (a := a) hg
 rw [if_pos hw] at h ⊢
 unfold Oper.wpIn at *
 refine ⟨h.1, ?_⟩
 have h := h.2
 generalize (o.semAt F.round a.eval).run P w = r at *
 have put_d : ∀ (ds : List Deferred) (v : Value), (({ a with defers := ds } : Act).put o.dst v).tmps = (a.put o.dst v).tmps := fun ds v => by
  cases o.dst <;> rfl
 cases r with
 | ok x w' =>
  cases x <;> simp only [Oper.uponIn] at h ⊢ <;>
   first
    | exact ⟨⟨_, rfl⟩, h⟩
    | exact ⟨⟨_, put_d _ _⟩, h⟩
    | exact ⟨h.1, CallsIn.mono h.2 (fun e w'' he => by cases e <;> first | exact ⟨⟨_, rfl⟩, he⟩ | exact he)⟩
    | exact ⟨h.1, RowsIn.mono h.2 (fun _ _ he => ⟨⟨_, rfl⟩, he⟩)⟩
    | exact ⟨h.1, RoundIn.mono h.2 (fun e w'' he => by cases e <;> first | exact ⟨⟨_, rfl⟩, he⟩ | exact he)⟩
    | exact h
 | halt x w' => cases x <;> simp only [Oper.uponIn] at h ⊢ <;> exact h
theorem qFZ {F : Fence} {i : Nat} {o : Oper} {a : Act} {w : World} {K K' : Act -> World -> Prop} {Q' : Exit -> Act -> World -> Prop} (ho : ops[i]? = some o) (hg : o.guard = none) (h : wpOpIn F n P ops Q' i K a w) (hp : ∀ ch a w, ¬ Q' (.panic ch) a w) (hl : ¬ LetsOut Q') (hK : ∀ a w, K a w -> K' a w) :
  wpOpIn F n P ops Q i K' a w := by
 unfold wpOpIn at *
 simp only [ho] at *
 have hw := qBQ (ops := ops) (a := a) hg
 rw [if_pos hw] at h ⊢
 unfold Oper.wpIn at *
 refine ⟨h.1, ?_⟩
 have h := h.2
 generalize (o.semAt F.round a.eval).run P w = r at *
 cases r with
 | ok x w' =>
  cases x <;> simp only [Oper.uponIn] at h ⊢ <;>
   first
    | exact hK _ _ h
    | exact ⟨h.1, CallsIn.mono h.2 (fun e w'' he => by cases e <;> first | exact hK _ _ he | exact (hp _ _ _ he).elim | exact (hl he).elim)⟩
    | exact ⟨h.1, RowsIn.mono h.2 (fun _ _ he => hK _ _ he)⟩
    | exact ⟨h.1, RoundIn.mono h.2 (fun e w'' he => by cases e <;> first | exact hK _ _ he | exact (hp _ _ _ he).elim | exact (hl he).elim)⟩
    | exact h
 | halt x w' =>
  cases x <;> simp only [Oper.uponIn] at h ⊢
  all_goals first | exact (hp _ _ _ h).elim | exact h
def aft (ops : Array Oper) (i : Nat) : List Nat := ((ops[i]?).map fun o => (o.after.toList.filter (Region.binds .any)).map (·.on)).getD []
def anyOk (ops : Array Oper) (M k0 : Nat) (deps : Nat -> List Nat) : Bool :=
 decide (ops.size = M + 1) && decide ((ops[M]?).map (·.dst) = some none) && (List.range M).all (fun i => decide ((ops[i]?).map (·.dst) = some (some (k0 + i)))) && (List.range (M + 1)).all (fun i => ((ops[i]?).map fun o => o.guard.isNone).getD false && (aft ops i).all (fun j => decide (j < i)) && (deps i).all fun j => decide (j ∈ aft ops i)) &&
  (List.range M).all fun j => (List.range (M + 1)).any fun i => decide (j < i) && decide (j ∈ aft ops i)
theorem qIA {ops : Array Oper} {listed : Array Bool} {i : Nat} (h : i ∈ Region.ready .any ops listed) : i < ops.size /\ listed.getD i true = false /\ ∀ j ∈ aft ops i, listed.getD j false = true := by
 unfold Region.ready at h
 rw [List.mem_filter, List.mem_range, Bool.and_eq_true] at h
 refine ⟨h.1, by simpa using h.2.1, fun j hj => ?_⟩
 unfold aft at hj
 have h2 := h.2.2
 cases ho : ops[i]? with
 | none => rw [ho] at hj; simp at hj
 | some o =>
  rw [ho] at hj h2
  simp only [Option.map_some, Option.getD_some, List.mem_map, List.mem_filter, Array.mem_toList_iff, Array.all_eq_true'] at hj h2
  obtain ⟨e, ⟨he, hb⟩, rfl⟩ := hj
  have := h2 e he
  rw [hb] at this
  simpa using this
theorem ready_in {ops : Array Oper} {listed : Array Bool} {i : Nat} (hi : i < ops.size) (h1 : listed.getD i true = false) (h2 : ∀ j ∈ aft ops i, listed.getD j false = true) : i ∈ Region.ready .any ops listed := by
 unfold Region.ready
 rw [List.mem_filter, List.mem_range, Bool.and_eq_true]
 refine ⟨hi, by simp [h1], ?_⟩
 have ho : ops[i]? = some ops[i] := Array.getElem?_eq_getElem hi
 unfold aft at h2
 rw [ho] at h2 ⊢
 simp only [Option.map_some, Option.getD_some, List.mem_map, List.mem_filter, Array.mem_toList_iff, Array.all_eq_true'] at h2 ⊢
 intro e he
 cases hb : Region.binds .any e with
 | false => rfl
 | true => simpa using h2 e.on ⟨e, ⟨he, hb⟩, rfl⟩
theorem qFp {l : Array Bool} {i : Nat} (hi : i < l.size) (a b : Bool) : l.getD i a = l.getD i b := by simp [Array.getD, hi]
def unl (listed : Array Bool) (M : Nat) : Nat := ((List.range M).filter fun i => !listed.getD i true).length
theorem filt_le {α : Type} {p q : α -> Bool} : ∀ {l : List α}, (∀ a ∈ l, q a = true -> p a = true) -> (l.filter q).length <= (l.filter p).length
 | [], _ => Nat.le_refl _
 | a :: l, h => by
  have ih := filt_le (l := l) fun x hx => h x (List.mem_cons_of_mem _ hx)
  have ha := h a List.mem_cons_self
  rw [List.filter_cons, List.filter_cons]
  cases hq : q a with
  | true => rw [ha hq]; simpa using ih
  | false =>
   cases hp : p a with
   | true => simp; omega
   | false => simpa using ih
theorem filt_lt {α : Type} {p q : α -> Bool} : ∀ {l : List α}, (∀ a ∈ l, q a = true -> p a = true) -> ∀ a ∈ l, p a = true -> q a = false -> (l.filter q).length < (l.filter p).length
 | [], _, a, ha, _, _ => by cases ha
 | b :: l, h, a, ha, hp, hq => by
  have h' : ∀ x ∈ l, q x = true -> p x = true := fun x hx => h x (List.mem_cons_of_mem _ hx)
  rw [List.filter_cons, List.filter_cons]
  rcases List.mem_cons.1 ha with rfl | hm
  ·rw [hp, hq]
   have := filt_le h'
   simp; omega
  ·have ih := filt_lt h' a hm hp hq
   have hb := h b List.mem_cons_self
   cases hqb : q b with
   | true => rw [hb hqb]; simpa using ih
   | false =>
    cases hpb : p b with
    | true => simp; omega
    | false => simpa using ih
theorem unl_set {listed : Array Bool} {M i : Nat} (hi : i < M) (hs : listed.size = M) (h : listed.getD i true = false) : unl (listed.setIfInBounds i true) M < unl listed M := by
 have h1 : (listed.setIfInBounds i true).getD i true = true := by simp [Array.getD, hs, hi]
 refine filt_lt (fun j _ hj => ?_) i (List.mem_range.2 hi) (by rw [h]; rfl) (by rw [h1]; rfl)
 by_cases hx : j = i
 ·subst hx; rw [h1] at hj; cases hj
 ·have : (listed.setIfInBounds i true).getD j true = listed.getD j true := by
   simp [Array.getD_eq_getD_getElem?, Array.getElem?_setIfInBounds_ne (Ne.symm hx)]
  rw [this] at hj; exact hj
theorem unl_zero {listed : Array Bool} {M : Nat} (hs : listed.size = M) (h : unl listed M = 0) : ∀ i, i < M -> listed.getD i false = true := fun i hi => by
 unfold unl at h
 have := List.eq_nil_of_length_eq_zero h
 rw [List.filter_eq_nil_iff] at this
 have := this i (List.mem_range.2 hi)
 rw [qFp (by omega) false true]
 simpa using this
section
variable {M k0 N : Nat} {deps : Nat -> List Nat} {Pr : Nat -> Value -> Mem -> Prop} {Φ : Mem -> Prop} {V : Mem} {base : List (Nat × Value)} {a0 : Act} {w0 : World}
theorem anyR_sound (chk : anyOk ops M k0 deps = true) (mono : ∀ i v V1 V2, V1.sub V2 -> Pr i v V1 -> Pr i v V2) (hbase : ∀ s v, base.lookup s = some v -> s < k0)
  (hN : k0 + M <= N)
  (hstep : ∀ i, i < M -> ∀ V1, V.sub V1 -> ∀ val : Nat -> Value, (∀ j ∈ deps i, Pr j (val j) V1) -> ∃ ins, (∀ s v, ins.lookup s = some v -> base.lookup s = some v ∨ ∃ j ∈ deps i, s = k0 + j /\ v = val j) /\ qCc P N ops i 1 ins [k0 + i] V1 fun vs V2 => ∃ v, vs = [v] /\ V1.sub V2 /\ Pr i v V2)
  (hlast : ∀ V1, V.sub V1 -> ∀ val : Nat -> Value, (∀ j ∈ deps M, Pr j (val j) V1) -> ∃ ins, (∀ s v, ins.lookup s = some v -> base.lookup s = some v ∨ ∃ j ∈ deps M, s = k0 + j /\ v = val j) /\ qCc P N ops M 1 ins [] V1 fun _ V2 => Φ V2)
  (hQ : ∀ a' w' V', a'.defers = a0.defers -> Has N a' base -> Φ V' -> Frm V w0 V' w' -> Q .normal a' w') :
  ∀ (fuel : Nat) (listed : Array Bool) (a : Act) (w : World), listed.size = M + 1 -> unl listed (M + 1) <= fuel ->
   ((∃ V1, V.sub V1 /\ Frm V w0 V1 w /\ a.defers = a0.defers /\ Has N a base /\ listed.getD M false = false /\ (∀ i, i < M -> listed.getD i false = true -> Pr i (a.tmps.getD (k0 + i) undef) V1) /\ ∀ i, i < M -> listed.getD i false = true -> ∀ j ∈ aft ops i, listed.getD j false = true) ∨ ((∀ i, i < M + 1 -> listed.getD i false = true) /\ Q .normal a w)) ->
   wpAnyIn (qAs none) n P .any ops Q fuel listed a w := by
 unfold anyOk at chk
 simp only [Bool.and_eq_true, decide_eq_true_eq, List.all_eq_true, List.mem_range, List.any_eq_true] at chk
 obtain ⟨⟨⟨⟨c1, c0⟩, c2⟩, c3⟩, c4⟩ := chk
 have op : ∀ i, i < M + 1 -> ∃ o, ops[i]? = some o /\ o.guard = none := fun i hi => by
  have := (c3 i hi).1.1
  cases ho : ops[i]? with
  | none => rw [ho] at this; cases this
  | some o =>
   rw [ho] at this
   refine ⟨o, rfl, ?_⟩
   cases hg : o.guard with
   | none => rfl
   | some g => simp [hg] at this
 have none_left : ∀ listed : Array Bool, listed.size = M + 1 -> Region.ready .any ops listed = [] -> ∀ i, i < M + 1 -> listed.getD i false = true := fun listed hs hr i => by
  induction i using Nat.strongRecOn with
  | ind i ih =>
   intro hi
   cases h : listed.getD i false with
   | true => rfl
   | false =>
    have : i ∈ Region.ready .any ops listed := ready_in (by omega) (by rw [qFp (by omega) true false]; exact h) fun j hj => by
     have hji := (c3 i hi).1.2 j hj
     exact ih j hji (by omega)
    rw [hr] at this; cases this
 intro fuel
 induction fuel with
 | zero =>
  intro listed a w hs hu hI
  have hall := unl_zero hs (by omega)
  rw [wpAnyIn]
  rcases hI with ⟨V1, -, -, -, -, hM, -⟩ | ⟨-, hq⟩
  ·rw [hall M (by omega)] at hM; cases hM
  ·refine ⟨?_, hq⟩
   cases hr : Region.ready .any ops listed with
   | nil => rfl
   | cons i l =>
    obtain ⟨h1, h2, -⟩ := qIA (hr ▸ List.mem_cons_self : i ∈ Region.ready .any ops listed)
    rw [qFp (by omega) true false, hall i (by omega)] at h2; cases h2
 | succ fuel ih =>
  intro listed a w hs hu hI
  rw [wpAnyIn]
  refine ⟨fun hr => ?_, fun i hi => ?_⟩
  ·rcases hI with ⟨V1, -, -, -, -, hM, -⟩ | ⟨-, hq⟩
   ·rw [none_left listed hs hr M (by omega)] at hM; cases hM
   ·exact hq
  ·obtain ⟨h1, h2, h3⟩ := qIA hi
   have hi' : i < M + 1 := by omega
   rcases hI with ⟨V1, hsub, hF, hdf, hH, hM, hP, hC⟩ | ⟨hall, -⟩
   rotate_left
   ·rw [qFp (by omega) true false, hall i hi'] at h2; cases h2
   obtain ⟨o, ho, hg⟩ := op i hi'
   have hs' : (listed.setIfInBounds i true).size = M + 1 := by simp [hs]
   have hu' : unl (listed.setIfInBounds i true) (M + 1) <= fuel := by have := unl_set hi' hs h2; omega
   have hsame : (listed.setIfInBounds i true).getD i false = true := by simp [Array.getD, hs, hi']
   have hother : ∀ j, j ≠ i -> (listed.setIfInBounds i true).getD j false = listed.getD j false := fun j hj => by
    simp [Array.getD_eq_getD_getElem?, Array.getElem?_setIfInBounds_ne (Ne.symm hj)]
   have hdeps : ∀ j ∈ deps i, j < i /\ listed.getD j false = true := fun j hj => ⟨(c3 i hi').1.2 j ((c3 i hi').2 j hj), h3 j ((c3 i hi').2 j hj)⟩
   have hval : ∀ j ∈ deps i, Pr j (a.tmps.getD (k0 + j) undef) V1 := fun j hj => by
    have := hdeps j hj
    exact hP j (by omega) this.2
   have hin : ∀ (ins : List (Nat × Value)), (∀ s v, ins.lookup s = some v -> base.lookup s = some v ∨ ∃ j ∈ deps i, s = k0 + j /\ v = a.tmps.getD (k0 + j) undef) -> ∀ s v, ins.lookup s = some v -> a.tmps.getD s undef = v := fun ins h s v hl => by
    rcases h s v hl with h | ⟨j, -, rfl, rfl⟩
    ·exact hH.2 s v h
    ·rfl
   by_cases hiM : i < M
   ·obtain ⟨ins, hins, hseg⟩ := hstep i hiM V1 hsub (fun j => a.tmps.getD (k0 + j) undef) hval
    have hw := hseg none n a w hF.le hH.1 (hin ins hins)
    rw [show List.range' i 1 = [i] from rfl, wpOpsIn_cons] at hw
    have hdst : o.dst = some (k0 + i) := by have := c2 i hiM; rw [ho] at this; simpa using this
    have hfin : wpOpIn (qAs none) n P ops Q i (wpAnyIn (qAs none) n P .any ops Q fuel (listed.setIfInBounds i true)) a w := by
     refine qFZ ho hg (qIm ho hg hw) (fun _ _ _ h => by cases h.1) (fun h => by obtain ⟨_, _, h, _⟩ := h; cases h) ?_
     rintro a' w' ⟨⟨v, hv⟩, -, hd', hs2, vs, V2, hlook, ⟨u, rfl, hsub2, hPu⟩, hF2⟩
     rw [hdst] at hv
     have hget : ∀ s, s ≠ k0 + i -> a'.tmps.getD s undef = a.tmps.getD s undef := fun s hne => by
      rw [hv]; simp [Act.put, Array.getD_eq_getD_getElem?, Array.getElem?_setIfInBounds_ne (Ne.symm hne)]
     refine ih _ a' w' hs' hu' (.inl ⟨V2, hsub.trans hsub2, hF.trans hF2, hd'.trans hdf, ⟨hs2, fun s v hs3 => ?_⟩, ?_, fun j hj hl => ?_, fun j hj hl k hk => ?_⟩)
     ·rw [hget s (by have := hbase s v hs3; omega)]; exact hH.2 s v hs3
     ·rw [hother M (by omega)]; exact hM
     ·by_cases hji : j = i
      ·subst hji
       have := hlook (k0 + j) u (by simp)
       rw [this]; exact hPu
      ·rw [hget (k0 + j) (by omega)]
       rw [hother j hji] at hl
       exact mono _ _ _ _ hsub2 (hP j hj hl)
     ·by_cases hji : j = i
      ·subst hji
       by_cases hkj : k = j
       ·rw [hkj]; exact hsame
       ·rw [hother k hkj]; exact h3 k hk
      ·rw [hother j hji] at hl
       by_cases hki : k = i
       ·rw [hki]; exact hsame
       ·rw [hother k hki]; exact hC j hj hl k hk
    exact hfin
   ·have hiM : i = M := by omega
    subst hiM
    have hall : ∀ k, k <= i -> ∀ j, i - k <= j -> j < i -> listed.getD j false = true := fun k => by
     induction k with
     | zero => intro _ j h4 h5; omega
     | succ k ihk =>
      intro hk j h4 h5
      obtain ⟨b, hb1, hb2, hb3⟩ := c4 j h5
      by_cases hbi : b = i
      ·subst hbi; exact h3 j hb3
      ·exact hC b (by omega) (ihk (by omega) b (by omega) (by omega)) j hb3
    obtain ⟨ins, hins, hseg⟩ := hlast V1 hsub (fun j => a.tmps.getD (k0 + j) undef) hval
    have hw := hseg none n a w hF.le hH.1 (hin ins hins)
    rw [show List.range' i 1 = [i] from rfl, wpOpsIn_cons] at hw
    have hdst : o.dst = none := by rw [ho] at c0; simpa using c0
    refine qFZ ho hg (qIm ho hg hw) (fun _ _ _ h => by cases h.1) (fun h => by obtain ⟨_, _, h, _⟩ := h; cases h) ?_
    rintro a' w' ⟨⟨u, hu''⟩, -, hd', hs2, vs, V2, -, hΦ, hF2⟩
    rw [hdst] at hu''
    have hu3 : a'.tmps = a.tmps := hu''
    refine ih _ a' w' hs' hu' (.inr ⟨fun j hj => ?_, hQ a' w' V2 (hd'.trans hdf) ⟨by rw [hu3]; exact hH.1, fun s v hs3 => by rw [hu3]; exact hH.2 s v hs3⟩ hΦ (hF.trans hF2)⟩)
    by_cases hji : j = i
    ·rw [hji]; exact hsame
    ·rw [hother j hji]; exact hall i (Nat.le_refl _) j (by omega) (by omega)
end
end
end Go.Sx
