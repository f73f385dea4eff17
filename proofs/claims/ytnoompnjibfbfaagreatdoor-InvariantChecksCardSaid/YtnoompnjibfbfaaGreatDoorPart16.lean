/- Part 16 of a proof of a law of this seat: no statement of the seat is proved here. -/
import Derived.Test.YtnoompnjibfbfaaGreatDoorPart15
import Derived.Test.YtnoompnjibfbfaaGreatDoorPart14
import Derived.DefersIn
import Derived.RecoverIn
import Derived.Test.YtnoompnjibfbfaaGreatDoorPart13
import Derived.Test.YtnoompnjibfbfaaGreatDoorPart05
import Derived.Test.YtnoompnjibfbfaaGreatDoorPart12
set_option linter.unusedVariables false
set_option linter.unusedSimpArgs false
namespace Go.Proofs
open Go Go.Sx
attribute [local irreducible] Go.Sx.Tri
section
variable {V0 V V1 V2 V3 : Mem} {d : Ds} {m : Mm} {p kb bb : Nat} {kn : Int × Int -> Option Int} {bz : Int × Int -> Bool} {b6 b7 b8 : Nat} {e : E} {x : Int} {T : ByteArray}
structure Bx (p kb bb : Nat) (V : Mem) (b6 b7 b8 : Nat) (e : E) (x : Int) : Prop where
 h6 : ∃ t, V b6 = some (cell (pv p) t)
 h7 : ∃ t, V b7 = some (.cells e.row.toArray t (0, 0))
 h8 : ∃ t, V b8 = some (cell (.int .i64 x) t)
 ne : b6 ≠ kb /\ b6 ≠ bb /\ b7 ≠ kb /\ b7 ≠ bb /\ b8 ≠ kb /\ b8 ≠ bb
theorem Bx.keep (h : Bx p kb bb V b6 b7 b8 e x) (k : qIa kb bb V V1) : Bx p kb bb V1 b6 b7 b8 e x := by
 obtain ⟨⟨t6, h6⟩, ⟨t7, h7⟩, ⟨t8, h8⟩, n1, n2, n3, n4, n5, n6⟩ := h
 exact ⟨⟨t6, k _ _ n1 n2 h6⟩, ⟨t7, k _ _ n3 n4 h7⟩, ⟨t8, k _ _ n5 n6 h8⟩, n1, n2, n3, n4, n5, n6⟩
theorem qES.some {α : Type} {enc : α -> Value} {b : Nat} {f : α -> Option Value} (h : qES enc V b f) : V b ≠ none := by
 obtain ⟨es, c, h1, -⟩ := h.at_
 rw [h1]; simp
theorem ne_of {b c : Nat} (h : V b = none) (k : V c ≠ none) : b ≠ c := fun e => k (e ▸ h)
theorem Bx.make (M : qDP V0 d m p kb bb V kn bz) {t6 t7 t8 : Nat} (h6 : V b6 = none) (h7 : (V.set b6 (cell (pv p) t6)) b7 = none) (h8 : ((V.set b6 (cell (pv p) t6)).set b7 (.cells e.row.toArray t7 (0, 0))) b8 = none) :
  Bx p kb bb (((V.set b6 (cell (pv p) t6)).set b7 (.cells e.row.toArray t7 (0, 0))).set b8 (cell (.int .i64 x) t8)) b6 b7 b8 e x /\ V.sub (((V.set b6 (cell (pv p) t6)).set b7 (.cells e.row.toArray t7 (0, 0))).set b8 (cell (.int .i64 x) t8)) := by
 have s6 := Mem.sub_new h6 (cell (pv p) t6)
 have s7 := Mem.sub_new h7 (.cells e.row.toArray t7 (0, 0))
 have s8 := Mem.sub_new h8 (cell (.int .i64 x) t8)
 have k1 := qES.some M.known
 have k2 := qES.some M.busy
 have up : ∀ {c : Nat}, V c ≠ none -> (V.set b6 (cell (pv p) t6)) c ≠ none /\ ((V.set b6 (cell (pv p) t6)).set b7 (.cells e.row.toArray t7 (0, 0))) c ≠ none := fun {c} h => by
  cases hc : V c with
  | none => exact absurd hc h
  | some o => exact ⟨by rw [s6 _ _ hc]; simp, by rw [s7 _ _ (s6 _ _ hc)]; simp⟩
 exact ⟨⟨⟨t6, s8 _ _ (s7 _ _ mss)⟩, ⟨t7, s8 _ _ mss⟩, ⟨t8, Mem.set_same _ _ _⟩, ne_of h6 k1, ne_of h6 k2, ne_of h7 (up k1).1, ne_of h7 (up k2).1, ne_of h8 (up k1).2, ne_of h8 (up k2).2⟩, (s6.trans s7).trans s8⟩
theorem c91 (M : qDP V0 d m p kb bb V kn bz) (he : E.Ok V0 e) (B : Bx p kb bb V b6 b7 b8 e x) {i : Nat} {a : E} (ha : e.k[i]? = some a) {R : Ending -> Mem -> Prop}
  (H : Tri Tryz.prog 62 #[pv p, a.v, .int .i64 x] V R) (hR : ∀ r V', R r V' -> ∃ rs, r = resR rs) : Tri Tryz.prog 91 #[.int .i64 i, pv b6, pv b7, pv b8] V R := by
 refine Tri.mono (x91 (R := R) ?_) fun _ _ h => h
 unfold w91
 obtain ⟨⟨t6, h6⟩, ⟨t7, h7⟩, ⟨t8, h8⟩, -⟩ := B
 have hr := (he.sub M.sub).rows
 have hn := hr.n_eq
 have hl := (List.getElem?_eq_some_iff.1 ha).1
 obtain ⟨y, -, hy, -, hl2, hp, hz, hrow⟩ := hr.get (i := i) (by omega)
 rw [ha] at hy; cases hy
 refine ⟨_, qBt h6, nn, e.l, qAg h7 3 1 (by simp [E.row]), hp, hz, by omega, _, _, _, _, hrow, _, qBt h8, Tri.mono H fun r V' h => ?_⟩
 obtain ⟨rs, rfl⟩ := hR r V' h
 cases rs with
 | ok v => exact .inl ⟨v, rfl, h⟩
 | bad f => exact .inr ⟨_, rfl, h⟩
theorem qDT.res {g : Nat -> Rs} {r : Ending} (h : qDT V0 d m p kb bb V kn bz g r V1) : ∃ rs, r = resR rs := by
 obtain ⟨rs, h, -⟩ := h; exact ⟨rs, h⟩
theorem qBf {F : Int -> Int -> Rs} {i : Nat} {a : E} (h : e.k[i]? = some a) : qDD (e.k.map (evE d m F x)) i = evE d m F x a := qJB h
theorem qDv (G : qBF d m) {t : ByteArray} {v : Int} (h : qBk d m t v) : -1099511627776 <= v /\ v <= 1099511627776 := by
 unfold qBk at h
 split at h
 ·omega
 ·unfold qAR at h
  have hl := (qAq G.mem).2.1
  split at h
  ·exact of_decide_eq_true h
  ·split at h
   ·have := of_decide_eq_true h; omega
   ·have := of_decide_eq_true h; omega
theorem qAD {c a b : Prop} (h : ¬ c) (hb : b) : Br c a b := ⟨fun k => absurd k h, fun _ => hb⟩
theorem qAu {c a b : Prop} (h : c) (ha : a) : Br c a b := ⟨fun _ => ha, fun k => absurd h k⟩
theorem exprC (S : qHZ V0 d m p kb bb) (N : Nat) (ih : ∀ N', N' < N -> ExprC V0 d m p kb bb N') : ExprC V0 d m p kb bb N := by
 have hM := measC S N ih
 intro e
 induction e using E.ind with
 | h e ihk =>
 intro T t x V kn bz hv he ht hT M K hN
 obtain ⟨G, hG⟩ : ∃ G : Nat -> Rs, G = fun n => evE d m (evM d m n) x e := ⟨_, rfl⟩
 rw [<- hG]
 have hGn : ∀ n, G n = qIj d m (evM d m n) x e.op e.n e.s (e.k.map (evE d m (evM d m n) x)) := fun n => by rw [hG]; exact qIX _ _ _
 have kid : ∀ {i : Nat} {a : E} {u : ByteArray} {V1 : Mem} {kn1 : Int × Int -> Option Int} {b6 b7 b8 : Nat}, e.k[i]? = some a -> qAy d (qAk d T) a = (u, 0) -> Bx p kb bb V1 b6 b7 b8 e x -> qDP V0 d m p kb bb V1 kn1 bz -> KnOk d m kn1 -> (∀ k, kn k ≠ none -> kn1 k ≠ none) ->
   Tri Tryz.prog 91 #[.int .i64 i, pv b6, pv b7, pv b8] V1 (qDT V0 d m p kb bb V1 kn1 bz fun n => evE d m (evM d m n) x a) := fun {i a u V1 kn1 b6 b7 b8} ha hu B M1 K1 hk => by
  have hm : a ∈ e.k := List.mem_of_getElem? ha
  exact c91 M1 he B ha (ihk a hm T u x V1 kn1 bz (hv.kids a hm) (he.kids a hm) hu hT M1 K1 (Nat.le_trans (unseen_le hk) hN)) fun _ _ => qDT.res
 have val : ∀ {a : E} {u : ByteArray} {w : Int}, a ∈ e.k -> qAy d (qAk d T) a = (u, 0) -> (∃ n, evE d m (evM d m n) x a = .ok w) -> qBk d m u w := fun hm hu ⟨n, hn⟩ => sound S.good hT (hv.kids _ hm) hu hn
 refine Tri.mono (x62 (R := qDT V0 d m p kb bb V kn bz G) ?_) fun _ _ h => h
 have two : ∀ {a b : E} {u w' : ByteArray}, (9 <= e.op /\ e.op <= 23 /\ e.op ≠ 18 /\ e.op ≠ 19 /\ e.op ≠ 20 /\ e.op ≠ 21) -> e.k = [a, b] -> qAy d (qAk d T) a = (u, 0) -> qAy d (qAk d T) b = (w', 0) -> w62 (sa p) e.op e.n e.s e.l x V (qDT V0 d m p kb bb V kn bz G) := by
  intro a b u w' h hk ha hb
  unfold w62
  have h0 : e.k[0]? = some a := by rw [hk]; rfl
  have h1 : e.k[1]? = some b := by rw [hk]; rfl
  have hG' : ∀ n, G n = (evE d m (evM d m n) x a).bind fun w => (evE d m (evM d m n) x b).bind fun z => qCz e.op w z := fun n => by rw [hGn, qEi h, qBf h0, qBf h1]
  refine qAD (by omega) (qAD (by omega) (qAD (by omega) (qAD (by omega) (qAD (by omega) (qAD (by omega) (qAD (by omega) (qAD (by omega) (qAD (by omega) (qAD (by omega) (qAD (by omega) (qAD (by omega) ?_)))))))))))
  intro b6 h6 b7 h7 b8 h8
  obtain ⟨B, hs⟩ := Bx.make (e := e) (x := x) M h6 h7 h8
  refine qDT.split (kid h0 ha B (M.grow hs) K fun _ h => h) (fun f V4 H => ⟨_, rfl, H.bad (h := fun n w => (evE d m (evM d m n) x b).bind fun z => qCz e.op w z) hs hG'⟩) fun w V4 H => ?_
  obtain ⟨kn4, M4, K4, hk4, hw⟩ := H.ok_parts
  have B4 := B.keep H.keep
  obtain ⟨t7, g7⟩ := B4.h7
  have mh : Mono fun n => (evE d m (evM d m n) x b).bind fun z => qCz e.op w z := fun n n' hn => Rs.le.bind (qAr x b n n' hn) fun _ => .inr rfl
  have seq : ∀ {rs V5}, qCw V0 d m p kb bb V4 kn4 bz (fun n => (evE d m (evM d m n) x b).bind fun z => qCz e.op w z) rs V5 -> qCw V0 d m p kb bb V kn bz G rs V5 := fun h => H.seq (h := fun n w => (evE d m (evM d m n) x b).bind fun z => qCz e.op w z) hs hG' (qAr x a) mh hk4 h
  refine ⟨nn, e.op, qAg g7 0 1 (by simp [E.row]), qDT.split (kid h1 hb B4 M4 K4 hk4) (fun f V5 H5 => ⟨_, rfl, seq (H5.bad (Mem.sub.refl _) fun _ => rfl)⟩) fun z V5 H5 => ?_⟩
  obtain ⟨kn5, M5, K5, hk5, hz⟩ := H5.ok_parts
  obtain ⟨t7', g7'⟩ := (B4.keep H5.keep).h7
  have hva := qDv S.good (val (List.mem_of_getElem? h0) ha hw)
  have hvb := qDv S.good (val (List.mem_of_getElem? h1) hb hz)
  have done : ∀ rs, rs = qCz e.op w z -> qCw V0 d m p kb bb V kn bz G rs V5 := fun rs hr => seq (H5.seq (h := fun _ z => qCz e.op w z) (Mem.sub.refl _) (fun _ => rfl) (qAr x b) (qEo _) hk5 (.pure M5 K5 (by rw [hr]; exact Out.const _)))
  exact ⟨qDi g7' 0 0 1 (by simp [E.row]), nn, RB.split (c96 hva hvb) (fun f hf => ⟨.bad f, rfl, done _ hf.symm⟩) fun w2 hw2 => ⟨.ok w2, rfl, done _ hw2.symm⟩⟩
 unfold w62
 have pure : ∀ {v : Int}, (∀ n, G n = .ok v) -> qDT V0 d m p kb bb V kn bz G (.returned (.int .i64 v)) V := fun {v} h => ⟨.ok v, rfl, .pure M K ⟨0, h 0⟩⟩
 have con : ∀ (r : Rs), Mono fun _ => r := qEo
 cases kind (d := d) (sc := qAk d T) rfl hv ht with
 | int h hn =>
  refine ⟨fun _ => pure fun n => (hGn n).trans (comb1 (.inl h)), fun k => absurd h k⟩
 | bool h hn =>
  refine ⟨fun k => absurd (h.symm.trans k) (by decide), fun _ => ⟨fun _ => pure fun n => (hGn n).trans (comb1 (.inr h)), fun k => absurd h k⟩⟩
 | nil h hn =>
  repeat refine qAD (h ▸ (by decide)) ?_
  exact qAu h (pure fun n => (hGn n).trans (comb3 h))
 | var h hl hne =>
  have fin : TT 92 #[pv p, .string e.s, .int .i64 x] V fun r V1 => ∃ v6, r = .returned (.int .i64 v6) /\ qDT V0 d m p kb bb V kn bz G (.returned (.int .i64 v6)) V1 := (c92 S M hT hl hne).call ⟨_, rfl, pure fun n => (hGn n).trans (comb4 h)⟩
  repeat refine qAD (h ▸ (by decide)) ?_
  exact qAu h fin
 | @fld _ u a h hk ha hf =>
  have h0 : e.k[0]? = some a := by rw [hk]; rfl
  have hG' : ∀ n, G n = (evE d m (evM d m n) x a).bind fun w => qEs d m w e.s := fun n => by rw [hGn, comb5 h, qBf h0]
  repeat refine qAD (h ▸ (by decide)) ?_
  refine qAu h ?_
  intro b6 h6 b7 h7 b8 h8
  obtain ⟨B, hs⟩ := Bx.make (e := e) (x := x) M h6 h7 h8
  refine qDT.split (kid h0 ha B (M.grow hs) K fun _ h => h) (fun f V4 H => ⟨_, rfl, H.bad hs hG'⟩) fun w V4 H => ?_
  obtain ⟨kn4, M4, K4, hk4, hw⟩ := H.ok_parts
  have B4 := B.keep H.keep
  obtain ⟨⟨t6, g6⟩, ⟨t7, g7⟩, -⟩ := B4
  have hval := val (List.mem_of_getElem? h0) ha hw
  have done : ∀ rs, rs = qEs d m w e.s -> qCw V0 d m p kb bb V kn bz G rs V4 := fun rs hr => H.seq hs hG' (qAr x a) (con _) hk4 (.pure M4 K4 (by rw [hr]; exact Out.const _))
  refine ⟨qDi g7 2 0 1 (by simp [E.row]), nn, qDi g6 0 0 1 (by simp), RB.split (c93 S M4 hf hval) (fun f hf => ⟨.bad f, rfl, done _ hf.symm⟩) fun w2 hw2 => ⟨.ok w2, rfl, done _ hw2.symm⟩⟩
 | @call u a ms i h hk ha hi hms hf =>
  have h0 : e.k[0]? = some a := by rw [hk]; rfl
  have hG' : ∀ n, G n = (evE d m (evM d m n) x a).bind fun w => evM d m n i w := fun n => by rw [hGn, comb7 h, qBf h0, hi]
  repeat refine qAD (h ▸ (by decide)) ?_
  refine qAu h ?_
  refine (c37 S M).call ⟨_, rfl, ?_⟩
  rw [hi]
  intro b6 h6 b7 h7 b8 h8
  obtain ⟨B, hs⟩ := Bx.make (e := e) (x := x) M h6 h7 h8
  refine qDT.split (kid h0 ha B (M.grow hs) K fun _ h => h) (fun f V4 H => ⟨_, rfl, H.bad (h := fun n w => evM d m n i w) hs hG'⟩) fun w V4 H => ?_
  obtain ⟨kn4, M4, K4, hk4, hw⟩ := H.ok_parts
  obtain ⟨⟨t6, g6⟩, -⟩ := B.keep H.keep
  have hval := qDh S.good.valid hf (val (List.mem_of_getElem? h0) ha hw)
  refine ⟨qDi g6 0 0 1 (by simp), qDT.split (hM i ms w V4 kn4 bz hms hval M4 K4 (Nat.le_trans (unseen_le hk4) hN)) (fun f V5 H5 => ⟨_, rfl, H.seq hs hG' (qAr x a) (qFi i w) hk4 H5⟩) fun w2 V5 H5 => ⟨.ok w2, rfl, H.seq hs hG' (qAr x a) (qFi i w) hk4 H5⟩⟩
 | @neg a h hk ha =>
  have h0 : e.k[0]? = some a := by rw [hk]; rfl
  have hG' : ∀ n, G n = (evE d m (evM d m n) x a).bind fun w => big (-w) := fun n => by rw [hGn, comb8 h, qBf h0]
  repeat refine qAD (h ▸ (by decide)) ?_
  refine qAu h ?_
  intro b6 h6 b7 h7 b8 h8
  obtain ⟨B, hs⟩ := Bx.make (e := e) (x := x) M h6 h7 h8
  refine qDT.split (kid h0 ha B (M.grow hs) K fun _ h => h) (fun f V4 H => ⟨_, rfl, H.bad hs hG'⟩) fun w V4 H => ?_
  obtain ⟨kn4, M4, K4, hk4, hw⟩ := H.ok_parts
  have hval := qBn.1 (val (List.mem_of_getElem? h0) ha hw)
  have done : ∀ rs, rs = big (0 - w) -> qCw V0 d m p kb bb V kn bz G rs V4 := fun rs hr => H.seq hs hG' (qAr x a) (con _) hk4 (.pure M4 K4 (by rw [hr, Int.zero_sub]; exact Out.const _))
  refine ⟨⟨by omega, by omega⟩, RB.split c94 (fun f hf => ⟨.bad f, rfl, done _ hf.symm⟩) fun w2 hw2 => ⟨.ok w2, rfl, done _ hw2.symm⟩⟩
 | @not a h hk ha =>
  have h0 : e.k[0]? = some a := by rw [hk]; rfl
  have hG' : ∀ n, G n = (evE d m (evM d m n) x a).bind fun w => .ok (1 - w) := fun n => by rw [hGn, comb18 h, qBf h0]
  repeat refine qAD (h ▸ (by decide)) ?_
  refine qAu h ?_
  intro b6 h6 b7 h7 b8 h8
  obtain ⟨B, hs⟩ := Bx.make (e := e) (x := x) M h6 h7 h8
  refine qDT.split (kid h0 ha B (M.grow hs) K fun _ h => h) (fun f V4 H => ⟨_, rfl, H.bad hs hG'⟩) fun w V4 H => ?_
  obtain ⟨kn4, M4, K4, hk4, hw⟩ := H.ok_parts
  have hval := qBs.1 (val (List.mem_of_getElem? h0) ha hw)
  exact ⟨⟨by omega, by omega⟩, .ok (1 - w), rfl, H.seq hs hG' (qAr x a) (con _) hk4 (.pure M4 K4 (Out.const _))⟩
 | @log a h hk ha =>
  have h0 : e.k[0]? = some a := by rw [hk]; rfl
  have hG' : ∀ n, G n = (evE d m (evM d m n) x a).bind fun w => .ok (qHz w) := fun n => by rw [hGn, comb24 h, qBf h0]
  repeat refine qAD (h ▸ (by decide)) ?_
  refine qAu h ?_
  intro b6 h6 b7 h7 b8 h8
  obtain ⟨B, hs⟩ := Bx.make (e := e) (x := x) M h6 h7 h8
  refine qDT.split (kid h0 ha B (M.grow hs) K fun _ h => h) (fun f V4 H => ⟨_, rfl, H.bad hs hG'⟩) fun w V4 H => ?_
  obtain ⟨kn4, M4, K4, hk4, hw⟩ := H.ok_parts
  have hval := qBn.1 (val (List.mem_of_getElem? h0) ha hw)
  refine qAo.max2 rfl rfl ⟨_, rfl, ?_⟩
  rw [show (if (0 : Int) < w then w else 0) = (w.toNat : Int) by split <;> omega]
  have hb : Nat.log2 w.toNat < 64 ∨ w.toNat = 0 := by
   by_cases h : w.toNat = 0
   ·exact .inr h
   ·exact .inl ((Nat.log2_lt h).2 (by omega))
  have hlen : 0 <= qIP w.toNat /\ qIP w.toNat <= 64 := by
   unfold qIP
   rcases hb with h | h
   ·split <;> omega
   ·rw [if_pos h]; omega
  refine ⟨inU _ (by omega), (c95 (by omega)).call ⟨_, rfl, ⟨by omega, by omega⟩, qAo.max2 rfl rfl ⟨_, rfl, ?_⟩⟩⟩
  have hlog := lenN_log (n := w.toNat)
  rw [show (if (0 : Int) < qIP w.toNat - 1 then qIP w.toNat - 1 else 0) = qHz w by unfold qHz; rw [<- hlog]; split <;> omega]
  exact ⟨.ok (qHz w), rfl, H.seq hs hG' (qAr x a) (con _) hk4 (.pure M4 K4 (Out.const _))⟩
 | @and a b h hk ha hb =>
  have h0 : e.k[0]? = some a := by rw [hk]; rfl
  have h1 : e.k[1]? = some b := by rw [hk]; rfl
  have hG' : ∀ n, G n = (evE d m (evM d m n) x a).bind fun w => if w = 0 then .ok 0 else evE d m (evM d m n) x b := fun n => by rw [hGn, comb19 h, qBf h0, qBf h1]
  repeat refine qAD (h ▸ (by decide)) ?_
  refine qAu h ?_
  intro b6 h6 b7 h7 b8 h8
  obtain ⟨B, hs⟩ := Bx.make (e := e) (x := x) M h6 h7 h8
  refine qDT.split (kid h0 ha B (M.grow hs) K fun _ h => h) (fun f V4 H => ⟨_, rfl, H.bad (h := fun n w => if w = 0 then .ok 0 else evE d m (evM d m n) x b) hs hG'⟩) fun w V4 H => ?_
  obtain ⟨kn4, M4, K4, hk4, hw⟩ := H.ok_parts
  have seq : ∀ {rs V5}, qCw V0 d m p kb bb V4 kn4 bz (fun n => if w = 0 then .ok 0 else evE d m (evM d m n) x b) rs V5 -> Mono (fun n => if w = 0 then .ok 0 else evE d m (evM d m n) x b) -> qCw V0 d m p kb bb V kn bz G rs V5 := fun h mh => H.seq (h := fun n w => if w = 0 then .ok 0 else evE d m (evM d m n) x b) hs hG' (qAr x a) mh hk4 h
  refine ⟨fun hz => ?_, fun hz => ?_⟩
  ·have hz : w = 0 := hz
   simp only [hz, if_true] at seq
   exact ⟨.ok 0, rfl, seq (.pure M4 K4 (Out.const _)) (con _)⟩
  ·have hz : ¬ w = 0 := hz
   simp only [hz, if_false] at seq
   exact qDT.split (kid h1 hb (B.keep H.keep) M4 K4 hk4) (fun f V5 H5 => ⟨_, rfl, seq H5 (qAr x b)⟩) fun w2 V5 H5 => ⟨.ok w2, rfl, seq H5 (qAr x b)⟩
 | @or a b h hk ha hb =>
  have h0 : e.k[0]? = some a := by rw [hk]; rfl
  have h1 : e.k[1]? = some b := by rw [hk]; rfl
  have hG' : ∀ n, G n = (evE d m (evM d m n) x a).bind fun w => if w = 0 then evE d m (evM d m n) x b else .ok 1 := fun n => by rw [hGn, comb20 h, qBf h0, qBf h1]
  repeat refine qAD (h ▸ (by decide)) ?_
  refine qAu h ?_
  intro b6 h6 b7 h7 b8 h8
  obtain ⟨B, hs⟩ := Bx.make (e := e) (x := x) M h6 h7 h8
  refine qDT.split (kid h0 ha B (M.grow hs) K fun _ h => h) (fun f V4 H => ⟨_, rfl, H.bad (h := fun n w => if w = 0 then evE d m (evM d m n) x b else .ok 1) hs hG'⟩) fun w V4 H => ?_
  obtain ⟨kn4, M4, K4, hk4, hw⟩ := H.ok_parts
  have seq : ∀ {rs V5}, qCw V0 d m p kb bb V4 kn4 bz (fun n => if w = 0 then evE d m (evM d m n) x b else .ok 1) rs V5 -> Mono (fun n => if w = 0 then evE d m (evM d m n) x b else .ok 1) -> qCw V0 d m p kb bb V kn bz G rs V5 := fun h mh => H.seq (h := fun n w => if w = 0 then evE d m (evM d m n) x b else .ok 1) hs hG' (qAr x a) mh hk4 h
  refine ⟨fun hz => ?_, fun hz => ?_⟩
  ·have hz : w = 0 := hz
   simp only [hz, if_true] at seq
   exact qDT.split (kid h1 hb (B.keep H.keep) M4 K4 hk4) (fun f V5 H5 => ⟨_, rfl, seq H5 (qAr x b)⟩) fun w2 V5 H5 => ⟨.ok w2, rfl, seq H5 (qAr x b)⟩
  ·have hz : ¬ w = 0 := hz
   simp only [hz, if_false] at seq
   exact ⟨.ok 1, rfl, seq (.pure M4 K4 (Out.const _)) (con _)⟩
 | @cond a b c _ u w' h hk ha hb hc hu hw =>
  have h0 : e.k[0]? = some a := by rw [hk]; rfl
  have h1 : e.k[1]? = some b := by rw [hk]; rfl
  have h2 : e.k[2]? = some c := by rw [hk]; rfl
  have hG' : ∀ n, G n = (evE d m (evM d m n) x a).bind fun w => if w = 0 then evE d m (evM d m n) x c else evE d m (evM d m n) x b := fun n => by rw [hGn, comb21 h, qBf h0, qBf h1, qBf h2]
  repeat refine qAD (h ▸ (by decide)) ?_
  refine qAu h ?_
  intro b6 h6 b7 h7 b8 h8
  obtain ⟨B, hs⟩ := Bx.make (e := e) (x := x) M h6 h7 h8
  refine qDT.split (kid h0 ha B (M.grow hs) K fun _ h => h) (fun f V4 H => ⟨_, rfl, H.bad (h := fun n w => if w = 0 then evE d m (evM d m n) x c else evE d m (evM d m n) x b) hs hG'⟩) fun w V4 H => ?_
  obtain ⟨kn4, M4, K4, hk4, hw⟩ := H.ok_parts
  have seq : ∀ {rs V5}, qCw V0 d m p kb bb V4 kn4 bz (fun n => if w = 0 then evE d m (evM d m n) x c else evE d m (evM d m n) x b) rs V5 -> Mono (fun n => if w = 0 then evE d m (evM d m n) x c else evE d m (evM d m n) x b) -> qCw V0 d m p kb bb V kn bz G rs V5 := fun h mh => H.seq (h := fun n w => if w = 0 then evE d m (evM d m n) x c else evE d m (evM d m n) x b) hs hG' (qAr x a) mh hk4 h
  refine ⟨fun hz => ?_, fun hz => ?_⟩
  ·have hz : w = 0 := hz
   simp only [hz, if_true] at seq
   exact qDT.split (kid h2 hc (B.keep H.keep) M4 K4 hk4) (fun f V5 H5 => ⟨_, rfl, seq H5 (qAr x c)⟩) fun w2 V5 H5 => ⟨.ok w2, rfl, seq H5 (qAr x c)⟩
  ·have hz : ¬ w = 0 := hz
   simp only [hz, if_false] at seq
   exact qDT.split (kid h1 hb (B.keep H.keep) M4 K4 hk4) (fun f V5 H5 => ⟨_, rfl, seq H5 (qAr x b)⟩) fun w2 V5 H5 => ⟨.ok w2, rfl, seq H5 (qAr x b)⟩
 | eq h hk ha hb => exact two (by omega) hk ha hb
 | cmp h hk ha hb => exact two (by omega) hk ha hb
 | ari h hk ha hb => exact two (by omega) hk ha hb
theorem exprAll (S : qHZ V0 d m p kb bb) : ∀ N, ExprC V0 d m p kb bb N := fun N => Nat.strongRecOn N fun N ih => exprC S N ih
theorem measAll (S : qHZ V0 d m p kb bb) : ∀ N, MeasC V0 d m p kb bb N := fun N => measC S N fun N' _ => exprAll S N'
end
end Go.Proofs
namespace Go.Sx
open Go
section
variable {P : Program} {n : Nat} {ops : Array Oper} {i : Nat} {o : Oper} {rest : List Nat} {Q : Exit -> Act -> World -> Prop} {a : Act} {w : World}
theorem qBQ (hg : o.guard = none) : Region.wanted o (yielded ops a.tmps) = true := by simp [Region.wanted, hg]
theorem step_value {v : Value} (ho : ops[i]? = some o) (hg : o.guard = none) (hrun : (execOp a.eval o).run P w = .ok (.value v) w) (k : wpOpsIn (qAs none) n P ops Q rest (a.put o.dst v) w) : wpOpsIn (qAs none) n P ops Q (i :: rest) a w := by
 rw [wpOpsIn_cons]
 unfold wpOpIn
 simp only [ho]
 rw [if_pos (qBQ hg)]
 refine ⟨fun _ _ => trivial, ?_⟩
 show Oper.uponIn _ _ _ _ _ _ _ ((execOp a.eval o).run P w)
 rw [hrun]; exact k
theorem step_defer {d : Deferred} (ho : ops[i]? = some o) (hg : o.guard = none) (hrun : (execOp a.eval o).run P w = .ok (.defer d) w) (k : wpOpsIn (qAs none) n P ops Q rest (({ a with defers := d :: a.defers } : Act).put o.dst undef) w) : wpOpsIn (qAs none) n P ops Q (i :: rest) a w := by
 rw [wpOpsIn_cons]
 unfold wpOpIn
 simp only [ho]
 rw [if_pos (qBQ hg)]
 refine ⟨fun _ _ => trivial, ?_⟩
 show Oper.uponIn _ _ _ _ _ _ _ ((execOp a.eval o).run P w)
 rw [hrun]; exact k
theorem step_call {f : FuncId} {args : Array Value} {V : Mem} {R : Ending -> Mem -> Prop} (ho : ops[i]? = some o) (hg : o.guard = none) (hrun : (execOp a.eval o).run P w = .ok (.enter f args) w) (hV : V.le w) (H : Tri P f args V R)
  (hp : ∀ ch V' w', R (.panicked ch) V' -> Frm V w V' w' -> Q (.panic ch) a w') (hr : ∀ v V' w', R (.returned v) V' -> Frm V w V' w' -> wpOpsIn (qAs none) n P ops Q rest (a.put o.dst v) w') (hn : ∀ V', ¬ R .outgrown V') : wpOpsIn (qAs none) n P ops Q (i :: rest) a w := by
 rw [wpOpsIn_cons]
 unfold wpOpIn
 simp only [ho]
 rw [if_pos (qBQ hg)]
 refine ⟨fun _ _ => trivial, ?_⟩
 show Oper.uponIn _ _ _ _ _ _ _ ((execOp a.eval o).run P w)
 rw [hrun]
 refine ⟨fun h => by simp [qAs, Fence.wide] at h, qDL.2 (qCI (H w hV) ?_)⟩
 rintro e w' ⟨V', hR, hF⟩
 cases e with
 | returned v => exact hr v V' w' hR hF
 | panicked ch => exact hp ch V' w' hR hF
 | outgrown => exact (hn V' hR).elim
theorem run_callv {c : Call} {fv : Operand} {f : FuncId} {first caps args : Array Value} (hop : o.op = .call c) (hc : c.callee = .value fv) (hf : a.eval fv = .func (.func f) first caps) (hargs : c.args.map a.eval = args) (hk : ∀ args w, (callFunc f args).run P w = .ok (.enter f args) w) :
  (execOp a.eval o).run P w = .ok (.enter f (first ++ args ++ caps)) w := by
 unfold execOp
 simp only [hop, resolve, hc, hf, hargs, Deferred.ofValue, Sem.run_bind, Sem.run_pure, Result.andThen_ok, invoke]
 simp [hk]
def Rec (u : FrameMode) (v : Value) (u' : FrameMode) : Prop :=
 match u with
 | .panicking ({ v := v', recovered := false, goexit := false } :: older) => v = v' /\ u' = .panicking ({ v := v', recovered := true } :: older)
 | _ => v = .nilIface /\ u' = u
theorem qJP {f : FuncId} {fn : Func} {x y : Code} {id : Nat} {o0 o1 : Oper} {args : Array Value} {u : FrameMode} {R : Ending -> FrameMode -> World -> Prop} {at0 : Array TypeId} {t3 t6 : Nat} (hf : P.funcs[f]? = some fn) (hb : fn.body = some (.seq x y)) (hx : x = .region id #[o0, o1] false)
  (h0 : o0.op = .call { callee := .builtin .recover, args := #[], argTypes := at0 }) (d0 : o0.dst = some t6) (g0 : o0.guard = none) (h1 : o1.op = .assign (.tmp t6)) (d1 : o1.dst = some t3) (g1 : o1.guard = none) (h6 : t6 < fn.ntmps) (hd : args.size <= fn.ntmps)
  (H : ∀ (v : Value) (u' : FrameMode), Rec u v u' ->
   y.wpIn (qAs none) n P (fun e a' w' => (e = .normal ∨ e = .ret) /\ a'.defers = [] /\ ∃ v, (results fn a'.tmps).run P w' = .ok v w' /\ R (.returned v) u' w') ((({ tmps := args ++ Array.replicate (fn.ntmps - args.size) undef, defers := [] } : Act).put (some t6) v).put (some t3) v) w) :
  CallsDIn (qAs none) n P f args u w R := by
 refine callsDIn_of_wpSIn hf hb trivial fun c₀ cs hu => ?_
 refine wpSIn_seq ?_
 subst hx
 refine wpSIn_region ?_
 have hr0 : ∀ a : Act, (execOp a.eval o0).run P w = .ok .recover w := fun a => by
  unfold execOp
  simp [h0, resolve, invoke, builtin]
 have hr1 : ∀ a : Act, (execOp a.eval o1).run P w = .ok (.value (a.eval (.tmp t6))) w := fun a => by
  unfold execOp
  simp [h1]
 have go : ∀ (v : Value) (u' : FrameMode) (cs' : List Frame), Rec u v u' -> cs' = { c₀ with mode := u' } :: cs ->
   wpOpsSIn (qAs none) n P #[o0, o1] (Exit.thenS (Code.wpSIn (qAs none) n P y (bodyPostS P fn c₀ cs R)) (bodyPostS P fn c₀ cs R)) [1] (({ tmps := args ++ Array.replicate (fn.ntmps - args.size) undef, defers := [] } : Act).put o0.dst v) cs' w := fun v u' cs' hv hcs => by
  rw [wpOpsSIn.eq_2]
  simp only [List.getElem?_toArray, List.getElem?_cons_succ, List.getElem?_cons_zero]
  refine ⟨fun _ _ => trivial, ?_⟩
  have hw := qBQ (ops := #[o0, o1]) (a := (({ tmps := args ++ Array.replicate (fn.ntmps - args.size) undef, defers := [] } : Act).put o0.dst v)) g1
  rw [if_pos hw, hr1]
  simp only
  rw [wpOpsSIn.eq_1]
  show Code.wpSIn (qAs none) n P y (bodyPostS P fn c₀ cs R) _ cs' w
  have e : (({ tmps := args ++ Array.replicate (fn.ntmps - args.size) undef, defers := [] } : Act).put o0.dst v).eval (.tmp t6) = v := by
   rw [d0]
   exact qBm (a := { tmps := args ++ Array.replicate (fn.ntmps - args.size) undef, defers := [] }) (v := v) (by simp; omega)
  rw [e, d0, d1]
  refine wpSIn_of_wpIn rfl (wpIn_mono (H v u' hv) ?_)
  rintro e a' w' ⟨he, h1, v', h2, h3⟩
  rcases he with rfl | rfl
  ·exact ⟨h1, u', hcs, v', h2, h3⟩
  ·exact ⟨h1, u', hcs, v', h2, h3⟩
 show wpOpsSIn _ _ _ _ _ [0, 1] _ _ _
 rw [wpOpsSIn.eq_2]
 simp only [List.getElem?_toArray, List.getElem?_cons_zero]
 refine ⟨fun _ _ => trivial, ?_⟩
 have hw := qBQ (ops := #[o0, o1]) (a := ({ tmps := args ++ Array.replicate (fn.ntmps - args.size) undef, defers := [] } : Act)) g0
 simp only at hw
 rw [if_pos hw, hr0]
 simp only
 unfold recoverD
 split
 ·rename_i v cs' hrec
  simp only at hrec
  split at hrec
  ·rename_i v' older hm
   simp only [Option.some.injEq, Prod.mk.injEq] at hrec
   obtain ⟨rfl, rfl⟩ := hrec
   rw [hu] at hm
   exact go _ _ _ (by unfold Rec; rw [hm]; exact ⟨rfl, rfl⟩) rfl
  ·cases hrec
 ·rename_i hrec
  simp only at hrec
  split at hrec
  ·cases hrec
  ·rename_i hm
   refine go _ u _ ?_ (by cases c₀; simp only at hu; subst hu; rfl)
   rw [hu] at hm
   unfold Rec
   split
   ·exact absurd rfl (hm _ _)
   ·exact ⟨rfl, rfl⟩
end
end Go.Sx
namespace Go.Proofs
open Go Go.Sx
attribute [local irreducible] Go.Sx.Tri
theorem qAo.neqNil {V : Mem} {x : Operand} {t : TypeId} {v : Value} {ty : Nat} {vals : Operand -> Value} (hx : vals x = .iface t v) (hy : vals (.const .nilIface) = .nilIface) {q : Value -> Mem -> Prop} (hq : q (.bool true) V) : qAo Tryz.prog (.binOp .neq 20 x (.const .nilIface) 20) ty vals V q := by
 intro w hw
 refine ⟨_, w, V, ?_, Frm.refl hw, hq⟩
 have he : (Op.equal 20 (.iface t v) .nilIface).run Tryz.prog w = .ok false w := by
  rw [qBO, Op.equalIn]; simp [Sem.run_bind, run_underlying Tryz.underlying20]
 unfold execOp
 simp [hx, hy, binOp, eqGuard, Sem.run_bind, he]
theorem qAo.eqNilNil {V : Mem} {x : Operand} {ty : Nat} {vals : Operand -> Value} (hx : vals x = .nilIface) (hy : vals (.const .nilIface) = .nilIface) {q : Value -> Mem -> Prop} (hq : q (.bool false) V) : qAo Tryz.prog (.binOp .neq 20 x (.const .nilIface) 20) ty vals V q := by
 intro w hw
 refine ⟨_, w, V, ?_, Frm.refl hw, hq⟩
 have he : (Op.equal 20 .nilIface .nilIface).run Tryz.prog w = .ok true w := by
  rw [qBO, Op.equalIn]; simp [Sem.run_bind, run_underlying Tryz.underlying20]
 unfold execOp
 simp [hx, hy, binOp, eqGuard, Sem.run_bind, he]
theorem qAo.assertOk {P : Program} {V : Mem} {x : Operand} {t u : TypeId} {ts : Array Field} {v : Value} {ty : Nat} {vals : Operand -> Value} (ht : P.underlying t = some (.struct ts)) (hx : vals x = .iface t v) {q : Value -> Mem -> Prop} (hq : q (.tuple #[v, .bool true]) V) : qAo P (.typeAssert x u t true) ty vals V q := by
 intro w hw
 refine ⟨_, w, V, ?_, Frm.refl hw, hq⟩
 unfold execOp
 simp [hx, Instr.typeAssert, Sem.run_bind, run_underlying ht]
theorem qAo.clear {P : Program} {V : Mem} {x : Operand} {t k e : TypeId} {b : Nat} {α : Type} {enc : α -> Value} {f : α -> Option Value} {ty : Nat} {vals : Operand -> Value} (ht : P.underlying t = some (.map k e)) (hx : vals x = .map (some b)) (hm : qES enc V b f) {q : Value -> Mem -> Prop}
  (hq : ∀ o, qES enc (V.set b o) b (fun _ => none) -> q (.tuple #[]) (V.set b o)) : qAo P (.call { callee := .builtin .clear, args := #[x], argTypes := #[t] }) ty vals V q := by
 intro w hw
 obtain ⟨es, c, h1, h2, hd, h3⟩ := hm.at_
 refine ⟨_, _, V.set b (.map #[] c), ?_, Frm.put hw h1, hq _ ⟨#[], c, Mem.set_same _ _ _, by simp, by simp, by simp [qDQ]⟩⟩
 unfold execOp
 simp only [resolve, invoke, builtin, Sem.run_bind, Sem.run_pure, Result.andThen_ok, List.map_toArray, List.map_cons, List.map_nil, hx, Builtin.clear_]
 simp [Sem.run_bind, run_underlying ht, MapKept.run_getObj_map (hw _ _ h1), MapKept.run_setObj_map _ (hw _ _ h1)]
noncomputable def dOp : Oper := { dst := none, op := .move (.tmp 0), type := 0, pos := "", after := #[], guard := none }
noncomputable def tryX : Code := match qAl Tryz.f72 with | .seq x _ => x | c => c
noncomputable def tryY : Code := match qAl Tryz.f72 with | .seq _ y => y | c => c
theorem tryBody : (Tryz.f72).body = some (.seq tryX tryY) := by kernel_rfl
theorem tryX_eq : tryX = .region 0 #[(qEy tryX).getD 0 dOp, (qEy tryX).getD 1 dOp] false := by kernel_rfl
def valRs : Rs -> Int | .ok v => v | .bad _ => 0
def errRs : Rs -> Int | .ok _ => 0 | .bad e => e
section
variable {V0 V : Mem} {d : Ds} {m : Mm} {p kb bb : Nat} {kn : Int × Int -> Option Int} {bz : Int × Int -> Bool}
structure TryM (V0 : Mem) (d : Ds) (m : Mm) (p kb bb b2 b4 b5 : Nat) (V : Mem) (kn : Int × Int -> Option Int) (bz : Int × Int -> Bool) (x4 x5 : Int) : Prop where
 mach : qDP V0 d m p kb bb V kn bz
 c2 : ∃ t, V b2 = some (cell (pv p) t)
 c4 : ∃ t, V b4 = some (cell (.int .i64 x4) t)
 c5 : ∃ t, V b5 = some (cell (.int .i64 x5) t)
theorem tryLate (S : qHZ V0 d m p kb bb) {b2 b4 b5 : Nat} {x4 x5 : Int} (T : TryM V0 d m p kb bb b2 b4 b5 V kn bz x4 x5) (n4 : b4 ≠ b5 /\ b4 ≠ b2 /\ b5 ≠ b2 /\ b4 ≠ p /\ b5 ≠ p /\ b4 ≠ kb /\ b5 ≠ kb /\ b4 ≠ bb /\ b5 ≠ bb /\ V0 b4 = none /\ V0 b5 = none /\ b2 ≠ bb) {e : Int} :
  Seg Tryz.prog 23 c72a [(0, pv b4), (1, pv b5), (2, pv b2), (3, fltV e)] [] V fun _ V' => TryM V0 d m p kb bb b2 b4 b5 V' kn (fun _ => false) 0 e /\ ∀ c o, c ≠ b4 -> c ≠ b5 -> c ≠ bb -> V c = some o -> V' c = some o := by
 obtain ⟨n45, n42, n52, n4p, n5p, n4k, n5k, n4b, n5b, v4, v5, n2b⟩ := n4
 obtain ⟨M, ⟨t2, c2⟩, ⟨t4, c4⟩, ⟨t5, c5⟩⟩ := T
 refine s72a (d := fltV e) ?_
 unfold w72a
 refine qAo.neqNil rfl rfl ⟨true, rfl, fun _ => ?_, fun k => absurd rfl k⟩
 refine qAo.assertOk Tryz.underlying133 rfl ⟨e, true, rfl, fun _ => ?_, fun k => absurd rfl k⟩
 refine StT.cell c4 (StT.cell (by rw [Mem.set_ne n45.symm]; exact c5) ?_)
 have M1 : qDP V0 d m p kb bb ((V.set b4 (cell (.int .i64 0) t4)).set b5 (cell (.int .i64 e) t5)) kn bz :=
  ⟨(M.sub.set v4 _).set v5 _, by rw [Mem.set_ne n5p.symm, Mem.set_ne n4p.symm]; exact M.at_, (M.known.set n4k.symm).set n5k.symm, (M.busy.set n4b.symm).set n5b.symm⟩
 refine ⟨_, qBt (by rw [Mem.set_ne n52.symm, Mem.set_ne n42.symm]; exact c2), nn, nn, _, M1.cell 11 1 (by decide), qAo.clear Tryz.underlying127 rfl M1.busy fun o ho => ⟨rfl, _, rfl, ?_, ?_⟩⟩
 ·refine ⟨⟨M1.sub.set S.b0 o, by rw [Mem.set_ne S.pb]; exact M1.at_, M1.known.set S.kb, ho.congr fun _ => rfl⟩, ⟨t2, ?_⟩, ⟨t4, ?_⟩, ⟨t5, ?_⟩⟩
  ·rw [Mem.set_ne n2b, Mem.set_ne n52.symm, Mem.set_ne n42.symm]; exact c2
  ·rw [Mem.set_ne n4b, Mem.set_ne n45]; exact Mem.set_same _ _ _
  ·rw [Mem.set_ne n5b]; exact Mem.set_same _ _ _
 ·intro c o' h1 h2 h3 h4
  rw [Mem.set_ne h3, Mem.set_ne h2, Mem.set_ne h1]; exact h4
end
noncomputable def qJh : Code := (flat (qAl Tryz.f39)).getD 1 .skip
noncomputable def tryR2 : Code := (flat (qAl Tryz.f39)).getD 2 .skip
theorem try_flat : flat (qAl Tryz.f39) = c39a ++ [qJh, tryR2, .ret] := by kernel_rfl
theorem tryR1_eq : qJh = .region 1 #[(qEy qJh).getD 0 dOp, (qEy qJh).getD 1 dOp] false := by kernel_rfl
theorem tryR2_eq : tryR2 = .region 2 c39b false := by kernel_rfl
theorem tryR2_size : (c39b).size = 4 := by kernel_rfl
theorem tryY_flat : flat tryY = c72a := by kernel_rfl
section
variable {V0 V : Mem} {d : Ds} {m : Mm} {p kb bb : Nat} {kn : Int × Int -> Option Int} {g : Nat -> Rs}
theorem run_makeFunc {P : Program} {a : Act} {o : Oper} {f : Fn} {first caps : Array Operand} {w : World} (ho : o.op = .makeFunc f first caps) : (execOp a.eval o).run P w = .ok (.value (.func f (first.map a.eval) (caps.map a.eval))) w := by
 unfold execOp
 simp [ho, Instr.makeFunc]
theorem run_move {P : Program} {a : Act} {o : Oper} {x : Operand} {w : World} (ho : o.op = .move x) : (execOp a.eval o).run P w = .ok (.value (a.eval x)) w := by
 unfold execOp
 simp [ho]
theorem run_deferv {P : Program} {a : Act} {o : Oper} {c : Call} {fv : Operand} {f : Fn} {first caps : Array Value} {w : World} (hop : o.op = .defer c) (hc : c.callee = .value fv) (hf : a.eval fv = .func f first caps) (hargs : c.args.map a.eval = #[]) :
  (execOp a.eval o).run P w = .ok (.defer { target := .fn f caps, args := first ++ #[] }) w := by
 unfold execOp
 simp [hop, resolve, hc, hf, hargs, Deferred.ofValue]
theorem qHG {N : Nat} {a : Act} {l : List (Nat × Value)} (h : Has N a l) {t : Nat} {v : Value} (ht : t < N) : Has N (a.put (some t) v) ((t, v) :: l) := by
 refine ⟨by simp [Act.put, h.1], fun s u hs => ?_⟩
 rw [List.lookup_cons] at hs
 by_cases e : s = t
 ·subst e
  simp only [beq_self_eq_true] at hs
  cases hs
  simp [Act.put, Array.getD_eq_getD_getElem?, h.1, ht]
 ·have e' : (s == t) = false := by simpa using e
  rw [e'] at hs
  have := h.2 s u hs
  rw [<- this]
  simp [Act.put, Array.getD_eq_getD_getElem?, Array.getElem?_setIfInBounds_ne (Ne.symm e)]
theorem cell1 {b : Nat} {x : Int} {t : Nat} {w : World} (h : w.heap[b]? = some (cell (.int .i64 x) t)) {T : TypeId} (hT : qEx Tryz.prog T (.cons (.var (.i .i64) 0) .nil) 0 = some (.var (.i .i64) 0)) : (loadVar T ⟨b, 0, none⟩).run Tryz.prog w = .ok (.int .i64 x) w :=
 qBL (P := Tryz.prog) (t := T) (cs := .cons (.var (.i .i64) 0) .nil) (x := .var (.i .i64) 0) (ρ := [.int .i64 x]) (β := id) (o := 0) h hT
theorem qHk {tmps : Array Value} {b4 b5 : Nat} {x4 x5 : Int} {t4 t5 : Nat} {w : World} (h4 : tmps.getD 4 undef = pv b4) (h5 : tmps.getD 5 undef = pv b5) (c4 : w.heap[b4]? = some (cell (.int .i64 x4) t4)) (c5 : w.heap[b5]? = some (cell (.int .i64 x5) t5)) :
  (results Tryz.f39 tmps).run Tryz.prog w = .ok (.tuple #[.int .i64 x4, .int .i64 x5]) w := by
 have hr : Tryz.f39.results = #[.cell 4 3, .cell 5 37] := by kernel_rfl
 unfold results
 rw [hr]
 have e4 : asAddr (tmps.getD 4 undef) = pure ⟨b4, 0, none⟩ := by rw [h4]; rfl
 have e5 : asAddr (tmps.getD 5 undef) = pure ⟨b5, 0, none⟩ := by rw [h5]; rfl
 simp only [List.mapM_toArray, List.mapM_cons, List.mapM_nil, Sem.run_bind, Sem.run_map, Sem.run_pure, Result.andThen_ok, e4, e5, cell1 c4 (T := 3) (by kernel_rfl), cell1 c5 (T := 37) (by kernel_rfl)]
 rfl
theorem qGd {tmps : Array Value} {w : World} : (results Tryz.f72 tmps).run Tryz.prog w = .ok (.tuple #[]) w := by
 have hr : Tryz.f72.results = #[] := by kernel_rfl
 unfold results
 rw [hr]
 simp
theorem tryNil {a b c : Option Addr} : Seg Tryz.prog 23 c72a [(0, .pointer a), (1, .pointer b), (2, .pointer c), (3, .nilIface)] [] V fun _ V' => V' = V := by
 refine s72a (d := .nilIface) ?_
 unfold w72a
 exact qAo.eqNilNil rfl rfl ⟨false, rfl, (fun k => by cases k), fun _ => ⟨_, rfl, rfl⟩⟩
theorem lateC (S : qHZ V0 d m p kb bb) {b2 b4 b5 : Nat} {x4 x5 : Int} {bz : Int × Int -> Bool} {V1 : Mem} (T : TryM V0 d m p kb bb b2 b4 b5 V1 kn bz x4 x5) (n4 : b4 ≠ b5 /\ b4 ≠ b2 /\ b5 ≠ b2 /\ b4 ≠ p /\ b5 ≠ p /\ b4 ≠ kb /\ b5 ≠ kb /\ b4 ≠ bb /\ b5 ≠ bb /\ V0 b4 = none /\ V0 b5 = none /\ b2 ≠ bb) {w : World} (hw : V1.le w) {u : FrameMode} {n : Nat} (hu : u = .returning ∨ ∃ c, u = .panicking [{ v := fltV c, recovered := false }]) :
  CallsDIn (qAs none) n Tryz.prog 72 #[pv b4, pv b5, pv b2] u w fun e u' w' => (∃ v, e = .returned v) /\ ∃ V2, Frm V1 w V2 w' /\
   ((u = .returning /\ u' = .returning /\ V2 = V1) ∨ ∃ c, u = .panicking [{ v := fltV c, recovered := false }] /\ u' = .panicking [{ v := fltV c, recovered := true }] /\ TryM V0 d m p kb bb b2 b4 b5 V2 kn (fun _ => false) 0 c /\ ∀ c o, c ≠ b4 -> c ≠ b5 -> c ≠ bb -> V1 c = some o -> V2 c = some o) := by
 refine qJP (fn := Tryz.f72) (at0 := #[]) (t3 := 3) (t6 := 6) Tryz.func72 tryBody tryX_eq (by kernel_rfl) (by kernel_rfl) (by kernel_rfl) (by kernel_rfl) (by kernel_rfl) (by kernel_rfl) (by rw [show Tryz.f72.ntmps = 23 by kernel_rfl]; decide) (by rw [show Tryz.f72.ntmps = 23 by kernel_rfl]; simp) ?_
 intro v u' hrec
 refine qCJ ?_
 rw [tryY_flat]
 have h0 := qHG (qHG (qGI (args := [pv b4, pv b5, pv b2]) (N := 23) (by simp)) (t := 6) (v := v) (by decide)) (t := 3) (v := v) (by decide)
 have hH : Has 23 _ [(0, pv b4), (1, pv b5), (2, pv b2), (3, v)] := ⟨h0.1, fun s x hs => by
  simp only [List.lookup_cons] at hs
  repeat' split at hs
  all_goals first
   | (rename_i e; simp only [beq_iff_eq] at e; subst e; cases hs; exact h0.get rfl)
   | cases hs⟩
 rcases hu with rfl | ⟨c, rfl⟩
 ·obtain ⟨rfl, rfl⟩ : v = .nilIface /\ u' = .returning := hrec
  refine qDu ?_ (tryNil (V := V1) none n _ w hw hH.1 hH.2)
  rintro e a' w' ⟨rfl, h1, -, vs, V', -, rfl, h5⟩
  exact ⟨.inl rfl, h1, _, qGd, ⟨_, rfl⟩, V', h5, .inl ⟨rfl, rfl, rfl⟩⟩
 ·obtain ⟨rfl, rfl⟩ : v = fltV c /\ u' = .panicking [{ v := fltV c, recovered := true }] := by
   obtain ⟨h1, h2⟩ := hrec
   exact ⟨h1, h2⟩
  refine qDu ?_ (tryLate S T n4 (e := c) none n _ w hw hH.1 hH.2)
  rintro e a' w' ⟨rfl, h1, -, vs, V', -, h4, h5⟩
  exact ⟨.inl rfl, h1, _, qGd, ⟨_, rfl⟩, V', h5, .inr ⟨c, rfl, rfl, h4.1, h4.2⟩⟩
theorem Out.imp {B B' : Int -> Int -> Prop} {r : Rs} (h : Out d m B g r) (k : ∀ a b, B a b -> B' a b) : Out d m B' g r := by
 cases r with
 | ok v => exact h
 | bad e =>
  rcases h with h | ⟨h1, h | ⟨a, b, h2, h3⟩⟩
  ·exact .inl h
  ·exact .inr ⟨h1, .inl h⟩
  ·exact .inr ⟨h1, .inr ⟨a, b, k a b h2, h3⟩⟩
theorem qHR {F : Fence} {n : Nat} {P : Program} {f : FuncId} {args : Array Value} {u : FrameMode} {w : World} {R R' : Ending -> FrameMode -> World -> Prop} (h : CallsDIn F n P f args u w R) (k : ∀ e u' w', R e u' w' -> R' e u' w') : CallsDIn F n P f args u w R' :=
 ⟨h.1, fun c cs h1 h2 => let ⟨e, u', w', fr, a, b⟩ := h.2 c cs h1 h2; ⟨e, u', w', fr, k _ _ _ a, b⟩⟩
structure TryR (V0 : Mem) (d : Ds) (m : Mm) (p kb bb : Nat) (V : Mem) (g : Nat -> Rs) (rs : Rs) (V' : Mem) : Prop where
 out : Out d m (fun _ _ => False) g rs
 keep : qIa kb bb V V'
 mach : ∃ kn', qDP V0 d m p kb bb V' kn' (fun _ => false) /\ KnOk d m kn'
def TryP (V0 : Mem) (d : Ds) (m : Mm) (p kb bb : Nat) (V : Mem) (g : Nat -> Rs) : Ending -> Mem -> Prop := fun e V' => ∃ rs, e = .returned (.tuple #[.int .i64 (valRs rs), .int .i64 (errRs rs)]) /\ TryR V0 d m p kb bb V g rs V'
theorem tryC (S : qHZ V0 d m p kb bb) (M : qDP V0 d m p kb bb V kn (fun _ => false)) {f : Nat} {caps : List Value} (hf : qGt f) (H : ∀ V1, V.sub V1 -> Tri Tryz.prog f caps.toArray V1 (qDT V0 d m p kb bb V1 kn (fun _ => false) g)) :
  Tri Tryz.prog 39 #[pv p, .func (.func f) #[] caps.toArray] V (TryP V0 d m p kb bb V g) := by
 unfold Go.Sx.Tri
 intro w hV
 refine (callsIn_wide (n := 0)).1 (callsIn_of_wp_defers (F := qAs none) Tryz.func39 (c := qAl Tryz.f39) (by kernel_rfl) trivial (qCJ ?_) rfl)
 rw [try_flat]
 have hA : Seg Tryz.prog 9 c39a [(0, pv p), (1, .func (.func f) #[] caps.toArray)] [1, 2, 4, 5] V fun vs V1 => ∃ b2 b4 b5, vs = [.func (.func f) #[] caps.toArray, pv b2, pv b4, pv b5] /\
   V b2 = none /\ (V.set b2 (cell (pv p) 83)) b4 = none /\ ((V.set b2 (cell (pv p) 83)).set b4 (cell (.int .i64 0) 3)) b5 = none /\
   V1 = (((V.set b2 (cell (pv p) 83)).set b4 (cell (.int .i64 0) 3)).set b5 (cell (.int .i64 0) 37)) := by
  refine s39a (a := some ⟨p, 0, none⟩) (b := .func (.func f) #[] caps.toArray) ?_
  unfold w39a
  intro b2 h2 b4 h4 b5 h5
  exact ⟨_, rfl, b2, b4, b5, rfl, h2, h4, h5, rfl⟩
 refine hA.step hV (qGI (args := [pv p, .func (.func f) #[] caps.toArray]) (N := 9) (by simp)) ?_
 rintro a1 w1 vs V1 hd1 hH1 ⟨b2, b4, b5, rfl, h2, h4, h5, hV1⟩ hF1
 have n42 : b4 ≠ b2 := fun e => by rw [e, Mem.set_same] at h4; cases h4
 have n54 : b5 ≠ b4 := fun e => by rw [e, Mem.set_same] at h5; cases h5
 have n52 : b5 ≠ b2 := fun e => by rw [e, Mem.set_ne n42.symm, Mem.set_same] at h5; cases h5
 rw [Mem.set_ne n42] at h4
 rw [Mem.set_ne n54, Mem.set_ne n52] at h5
 have s1 : V.sub V1 := by
  rw [hV1]
  refine ((Mem.sub.refl V).set h2 _).set h4 _ |>.set h5 _
 have M1 := M.grow s1
 have nat : ∀ {b : Nat}, V b = none -> b ≠ p /\ b ≠ kb /\ b ≠ bb /\ V0 b = none := fun {b} hb => by
  obtain ⟨e1, c1, k1, -⟩ := M.known.at_
  obtain ⟨e2, c2, k2, -⟩ := M.busy.at_
  refine ⟨fun e => ?_, fun e => ?_, fun e => ?_, ?_⟩
  ·subst e; rw [M.at_] at hb; cases hb
  ·subst e; rw [k1] at hb; cases hb
  ·subst e; rw [k2] at hb; cases hb
  ·cases h0 : V0 b with
   | none => rfl
   | some o => rw [M.sub _ _ h0] at hb; cases hb
 obtain ⟨-, a3', a4, -⟩ := nat h2
 obtain ⟨q2, q3, q4, q5⟩ := nat h4
 obtain ⟨r2, r3, r4, r5⟩ := nat h5
 have n4 : b4 ≠ b5 /\ b4 ≠ b2 /\ b5 ≠ b2 /\ b4 ≠ p /\ b5 ≠ p /\ b4 ≠ kb /\ b5 ≠ kb /\ b4 ≠ bb /\ b5 ≠ bb /\ V0 b4 = none /\ V0 b5 = none /\ b2 ≠ bb := ⟨n54.symm, n42, n52, q2, r2, q3, r3, q4, r4, q5, r5, a4⟩
 have e2 : V1 b2 = some (cell (pv p) 83) := by rw [hV1, Mem.set_ne n52.symm, Mem.set_ne n42.symm, Mem.set_same]
 have e4 : V1 b4 = some (cell (.int .i64 0) 3) := by rw [hV1, Mem.set_ne n54.symm, Mem.set_same]
 have e5 : V1 b5 = some (cell (.int .i64 0) 37) := by rw [hV1, Mem.set_same]
 show Code.wpIn (qAs none) 0 Tryz.prog qJh _ a1 w1
 rw [tryR1_eq]
 refine wpIn_region ?_
 show wpOpsIn _ _ _ _ _ [0, 1] _ _
 refine Go.Sx.step_value (o := (qEy qJh).getD 0 dOp) rfl (by kernel_rfl) (run_makeFunc (f := .func 72) (first := #[]) (caps := #[.tmp 4, .tmp 5, .tmp 2]) (by kernel_rfl)) ?_
 have g2 : a1.eval (.tmp 2) = pv b2 := hH1.get rfl
 have g4 : a1.eval (.tmp 4) = pv b4 := hH1.get rfl
 have g5 : a1.eval (.tmp 5) = pv b5 := hH1.get rfl
 have hd0 : ((qEy qJh).getD 0 dOp).dst = some 6 := by kernel_rfl
 have hd1' : ((qEy qJh).getD 1 dOp).dst = none := by kernel_rfl
 rw [hd0, show (#[Operand.tmp 4, .tmp 5, .tmp 2].map a1.eval) = #[pv b4, pv b5, pv b2] by simp [g2, g4, g5], show ((#[] : Array Operand).map a1.eval) = #[] by simp]
 have hH2 := qHG hH1 (t := 6) (v := .func (.func 72) #[] #[pv b4, pv b5, pv b2]) (by decide)
 refine Go.Sx.step_defer (o := (qEy qJh).getD 1 dOp) rfl (by kernel_rfl) (run_deferv (c := { callee := .value (.tmp 6), args := #[], argTypes := #[] }) (fv := .tmp 6) (f := .func 72) (first := #[]) (by kernel_rfl) rfl (hH2.get rfl) (by simp)) ?_
 rw [hd1']
 show Code.wpIn (qAs none) 0 Tryz.prog tryR2 _ _ w1
 rw [tryR2_eq]
 refine wpIn_region ?_
 rw [tryR2_size]
 show wpOpsIn _ _ _ _ _ [0, 1, 2, 3] _ _
 have i0 : (c39b)[0]? = some ((c39b).getD 0 dOp) := by kernel_rfl
 have i1 : (c39b)[1]? = some ((c39b).getD 1 dOp) := by kernel_rfl
 have d0 : ((c39b).getD 0 dOp).dst = some 7 := by kernel_rfl
 have d1 : ((c39b).getD 1 dOp).dst = some 8 := by kernel_rfl
 refine Go.Sx.step_value i0 (by kernel_rfl) (run_move (x := .tmp 1) (by kernel_rfl)) ?_
 rw [d0]
 suffices key : ∀ a3 : Act, a3.defers = [{ target := .fn (.func 72) #[pv b4, pv b5, pv b2], args := #[] ++ #[] }] ->
   Has 9 a3 [(6, .func (.func 72) #[] #[pv b4, pv b5, pv b2]), (1, .func (.func f) #[] caps.toArray), (2, pv b2), (4, pv b4), (5, pv b5)] ->
   wpOpsIn (qAs none) 0 Tryz.prog c39b (Exit.then (wpL none 0 Tryz.prog (bodyPostDIn (qAs none) 0 Tryz.prog Tryz.f39 fun e w' => ∃ V', TryP V0 d m p kb bb V g e V' /\ Frm V w V' w') [Code.ret]) (bodyPostDIn (qAs none) 0 Tryz.prog Tryz.f39 fun e w' => ∃ V', TryP V0 d m p kb bb V g e V' /\ Frm V w V' w')) [1, 2, 3] (a3.put (some 7) (a3.eval (.tmp 1))) w1 by
  refine key _ ?_ ⟨hH2.1, hH2.2⟩
  show _ :: a1.defers = _
  rw [hd1]
 intro a3 hd3 hH3
 have hg : a3.eval (.tmp 1) = .func (.func f) #[] caps.toArray := hH3.get rfl
 rw [hg]
 have hH4 := qHG hH3 (t := 7) (v := .func (.func f) #[] caps.toArray) (by decide)
 have inv : ∀ w', (invoke (.fn (.func 72) #[pv b4, pv b5, pv b2]) (#[] ++ #[])).run Tryz.prog w' = .ok (.enter 72 #[pv b4, pv b5, pv b2]) w' := fun w' => by simp [invoke]
 have hkeep : ∀ {V' : Mem} {kn' : Int × Int -> Option Int} {bz' : Int × Int -> Bool}, qDP V0 d m p kb bb V' kn' bz' -> qIa kb bb V1 V' -> TryM V0 d m p kb bb b2 b4 b5 V' kn' bz' 0 0 := fun h k => ⟨h, ⟨_, k _ _ a3' a4 e2⟩, ⟨_, k _ _ q3 q4 e4⟩, ⟨_, k _ _ r3 r4 e5⟩⟩
 have hout : ∀ {rs : Rs}, Out d m (BzP fun _ => false) g rs -> Out d m (fun _ _ => False) g rs := fun h => h.imp fun a b h => by cases h
 have hK : ∀ {V' V2 : Mem}, qIa kb bb V1 V' -> (∀ c o, c ≠ b4 -> c ≠ b5 -> c ≠ bb -> V' c = some o -> V2 c = some o) -> qIa kb bb V V2 := fun k1 k2 c o c1 c2 c3 => k2 c o (fun e => by rw [e, h4] at c3; cases c3) (fun e => by rw [e, h5] at c3; cases c3) c2 (k1 c o c1 c2 (s1 _ _ c3))
 refine Go.Sx.step_call i1 (by kernel_rfl) (by simpa using run_callv (c := { callee := .value (.tmp 7), args := #[], argTypes := #[] }) (fv := .tmp 7) (f := f) (first := #[]) (caps := caps.toArray) (args := #[]) (by kernel_rfl) rfl (hH4.get rfl) (by simp) hf) hF1.le (H V1 s1) ?_ ?_ ?_
 ·rintro ch V' w' ⟨rs, hrs, hP⟩ hF
  cases rs with
  | ok v => cases hrs
  | bad c =>
   cases hrs
   show LeavesIn (qAs none) 0 Tryz.prog _ _ _ a3.defers _ w'
   rw [hd3]
   obtain ⟨kn', bz', m1, m2, -⟩ := hP.mach
   refine ⟨nofun, (fun h => by simp [qAs, Fence.wide] at h), _, _, _, _, rfl, inv w', fun _ _ => trivial, qHR (lateC S (hkeep m1 hP.keep) n4 hF.le (.inr ⟨c, rfl⟩)) ?_⟩
   rintro e u' w'' ⟨⟨v, rfl⟩, V2, hF2, ⟨h, -⟩ | ⟨c', hc, rfl, T2, hk2⟩⟩
   ·cases h
   ·have hcc : c' = c := by
     simp only [FrameMode.panicking.injEq, List.cons.injEq, PanicEntry.mk.injEq, fltV] at hc
     simpa using hc.1.1.symm
    subst hcc
    obtain ⟨t4, k4⟩ := T2.c4
    obtain ⟨t5, k5⟩ := T2.c5
    refine ⟨_, qHk (hH4.get rfl) (hH4.get rfl) (hF2.le _ _ k4) (hF2.le _ _ k5), V2, ⟨.bad c', rfl, hout hP.out, hK hP.keep hk2, kn', T2.mach, m2⟩, (hF1.trans hF).trans hF2⟩
 ·rintro v V' w' ⟨rs, hrs, hP⟩ hF
  cases rs with
  | bad c => cases hrs
  | ok x =>
   cases hrs
   rw [d1]
   obtain ⟨kn', bz', m1, m2, m3⟩ := hP.mach
   obtain ⟨rfl, -⟩ := m3 x rfl
   have T1 := hkeep m1 hP.keep
   obtain ⟨t4, k4⟩ := T1.c4
   obtain ⟨t5, k5⟩ := T1.c5
   have hH5 := qHG hH4 (t := 8) (v := .int .i64 x) (by decide)
   have hB : qCc Tryz.prog 9 c39b 2 2 [(4, pv b4), (5, pv b5), (8, .int .i64 x)] [4, 5] V' fun vs V2 => vs = [pv b4, pv b5] /\ V2 = (V'.set b4 (cell (.int .i64 x) t4)).set b5 (cell (.int .i64 0) t5) := by
    refine s39b (a := some ⟨b4, 0, none⟩) (b := some ⟨b5, 0, none⟩) (c := x) ?_
    unfold w39b
    exact StT.cell k4 (StT.cell (by rw [Mem.set_ne n54]; exact k5) ⟨_, rfl, rfl, rfl⟩)
   show wpOpsIn _ _ _ _ _ (List.range' 2 2 ++ []) _ w'
   refine hB.step hF.le (⟨hH5.1, fun s v hs => by
    simp only [List.lookup_cons] at hs
    repeat' split at hs
    all_goals first
     | (rename_i e; simp only [beq_iff_eq] at e; subst e; cases hs; exact hH5.get rfl)
     | cases hs⟩ : Has 9 _ [(4, pv b4), (5, pv b5), (8, .int .i64 x)]) ?_
   rintro a6 w6 vs V2 hd6 hH6 ⟨rfl, hV2⟩ hF6
   show Code.wpIn (qAs none) 0 Tryz.prog .ret _ a6 w6
   refine wpIn_ret ?_
   show LeavesIn (qAs none) 0 Tryz.prog _ _ _ a6.defers _ w6
   rw [hd6]
   show LeavesIn (qAs none) 0 Tryz.prog _ _ _ a3.defers _ w6
   rw [hd3]
   have T2 : TryM V0 d m p kb bb b2 b4 b5 V2 kn' (fun _ => false) x 0 := by
    rw [hV2]
    refine ⟨⟨(m1.sub.set q5 _).set r5 _, by rw [Mem.set_ne r2.symm, Mem.set_ne q2.symm]; exact m1.at_, (m1.known.set q3.symm).set r3.symm, (m1.busy.set q4.symm).set r4.symm⟩, ?_, ⟨t4, by rw [Mem.set_ne n54.symm, Mem.set_same]⟩, ⟨t5, Mem.set_same _ _ _⟩⟩
    obtain ⟨t2, k2⟩ := T1.c2
    exact ⟨t2, by rw [Mem.set_ne n52.symm, Mem.set_ne n42.symm]; exact k2⟩
   refine ⟨nofun, (fun h => by simp [qAs, Fence.wide] at h), _, _, _, _, rfl, inv w6, fun _ _ => trivial, qHR (lateC S T2 n4 hF6.le (.inl rfl)) ?_⟩
   rintro e u' w'' ⟨⟨v, rfl⟩, V3, hF3, ⟨-, rfl, rfl⟩ | ⟨c', hc, -⟩⟩
   ·obtain ⟨u4, k4'⟩ := T2.c4
    obtain ⟨u5, k5'⟩ := T2.c5
    refine ⟨_, qHk (hH6.get rfl) (hH6.get rfl) (hF3.le _ _ k4') (hF3.le _ _ k5'), V3, ⟨.ok x, rfl, hout hP.out, hK hP.keep (fun c o c1 c2 _ c3 => ?_), kn', T2.mach, m2⟩, ((hF1.trans hF).trans hF6).trans hF3⟩
    rw [hV2, Mem.set_ne c2, Mem.set_ne c1]; exact c3
   ·cases hc
 ·rintro V' ⟨rs, hrs, -⟩
  cases rs <;> cases hrs
end
end Go.Proofs
namespace Go.Proofs
open Go Go.Sx
def lsT : ByteArray := qAi [84]
def qBq : ByteArray := qAi [110, 101, 120, 116]
def lsN : ByteArray := qAi [110]
def lsV : ByteArray := qAi [118]
def qCv : ByteArray := qAi [108, 101, 110, 103, 116, 104]
def qCg : ByteArray := qAi [115, 111, 114, 116, 101, 100]
def lsL : ByteArray := qAi [108]
def qFB (e : E) : Prop := ∃ l, e = .mk 4 0 qBG l []
def qCb (e : E) : Prop := ∃ l a, qFB a /\ e = .mk 5 0 qBq l [a]
def qHX (e : E) : Prop := ∃ l l1 l2 a, qCb a /\ e = .mk 9 0 sE l [.mk 1 1 sE l1 [], .mk 7 0 qCv l2 [a]]
def IsEq (e : E) : Prop := ∃ l l1 a, qCb a /\ e = .mk 14 0 sE l [a, .mk 3 0 sE l1 []]
def qJe (e : E) : Prop := ∃ l l1 l2 a b, qFB a /\ qCb b /\ e = .mk 16 0 sE l [.mk 5 0 lsN l1 [a], .mk 5 0 lsN l2 [b]]
def qFC (e : E) : Prop := ∃ l a b, IsEq a /\ qJe b /\ e = .mk 20 0 sE l [a, b]
def qAT (d : Ds) : Prop := ∃ ts fs gs ps ms is qs bs p q, qHX p /\ qFC q /\ d = ⟨lsL, ts, [⟨lsT, fs, [⟨qBq, lsT⟩, ⟨lsN, qAP⟩]⟩], gs, [⟨lsV, lsT⟩], ps, [], ms, [⟨qCv, lsT, 0, p⟩], is, [⟨qCg, lsT, q⟩], qs, [], bs, []⟩
def qET (l : List Int) (last : Int) (i : Nat) : Int := if i + 1 = l.length then last else (i : Int) + 2
structure qBg (l : List Int) (last : Int) (m : Mm) : Prop where
 globals : m.globals = [if (1 : Int) < l.length then 1 else (l.length : Int)]
 len : m.nodes.length = l.length
 at_ : ∀ i, i < l.length -> ∃ s, m.nodes[i]? = some ⟨0, s, [qET l last i, l.getD i 0]⟩
section
variable {d : Ds} {m : Mm} {l : List Int} {last : Int}
theorem qHB (h : qAT d) : qAQ d = true := by
 obtain ⟨ts, fs, gs, ps, ms, is, qs, bs, p, q, ⟨l, l1, l2, a, ⟨l3, a1, ⟨l4, rfl⟩, rfl⟩, rfl⟩, ⟨k, x, y, ⟨k1, k2, b, ⟨k3, b1, ⟨k4, rfl⟩, rfl⟩, rfl⟩, ⟨k5, k6, k7, c, c1, ⟨k8, rfl⟩, ⟨k9, c2, ⟨k10, rfl⟩, rfl⟩, rfl⟩, rfl⟩, rfl⟩ := h
 kernel_rfl
theorem listD_chk (h : qAT d) : qIZ d = none := by
 obtain ⟨ts, fs, gs, ps, ms, is, qs, bs, p, q, ⟨l, l1, l2, a, ⟨l3, a1, ⟨l4, rfl⟩, rfl⟩, rfl⟩, ⟨k, x, y, ⟨k1, k2, b, ⟨k3, b1, ⟨k4, rfl⟩, rfl⟩, rfl⟩, ⟨k5, k6, k7, c, c1, ⟨k8, rfl⟩, ⟨k9, c2, ⟨k10, rfl⟩, rfl⟩, rfl⟩, rfl⟩, rfl⟩ := h
 kernel_rfl
theorem listD_hasT (h : qAT d) : hasT d = true := by
 have hv := qHB h
 obtain ⟨ts, fs, gs, ps, ms, is, qs, bs, p, q, -, -, e⟩ := h
 have h1 : qCe d d.globals = true := by rw [e]; kernel_rfl
 have h2 : allI (fun i t => decide (qEd d t.name = (i : Int)) && qCe d t.fields) d.types = true := by rw [e]; kernel_rfl
 unfold hasT
 rw [hv, h1, h2]; rfl
theorem listD_idxT (h : qAT d) : qEd d lsT = 0 := by
 obtain ⟨ts, fs, gs, ps, ms, is, qs, bs, p, q, -, -, rfl⟩ := h
 kernel_rfl
theorem qFR (h : qAT d) : qGh d qCv = 0 := by
 obtain ⟨ts, fs, gs, ps, ms, is, qs, bs, p, q, -, -, rfl⟩ := h
 kernel_rfl
theorem qCW (h : qAT d) : qAK d 0 = [⟨qBq, lsT⟩, ⟨lsN, qAP⟩] := by
 obtain ⟨ts, fs, gs, ps, ms, is, qs, bs, p, q, -, -, rfl⟩ := h
 rfl
theorem qBS (h : qAT d) : (∃ fs, d.types = [⟨lsT, fs, [⟨qBq, lsT⟩, ⟨lsN, qAP⟩]⟩]) /\ d.globals = [⟨lsV, lsT⟩] /\ (∃ p, qHX p /\ d.measures = [⟨qCv, lsT, 0, p⟩]) /\ ∃ q, qFC q /\ d.invs = [⟨qCg, lsT, q⟩] := by
 obtain ⟨ts, fs, gs, ps, ms, is, qs, bs, p, q, h1, h2, rfl⟩ := h
 exact ⟨⟨fs, rfl⟩, rfl, ⟨p, h1, rfl⟩, q, h2, rfl⟩
theorem right_T (h : qAT d) (hm : qBg l last m) {v : Int} (hv : 0 <= v /\ v <= (l.length : Int)) : qAR d m lsT v = true := by
 have e1 : lsT ≠ qAP := of_decide_eq_false (by kernel_rfl)
 have e2 : lsT ≠ qAt := of_decide_eq_false (by kernel_rfl)
 unfold qAR
 rw [if_neg e1, if_neg e2, decide_eq_true_eq]
 by_cases h0 : v = 0
 ·exact .inl h0
 ·refine .inr ⟨by omega, by rw [hm.len]; omega, ?_⟩
  obtain ⟨i, rfl⟩ : ∃ i : Nat, v = (i : Int) + 1 := ⟨(v - 1).toNat, by omega⟩
  obtain ⟨s, hs⟩ := hm.at_ i (by omega)
  rw [show ((i : Int) + 1 - 1).toNat = i by omega, hs, listD_idxT h]; rfl
theorem nxtI_in (h : 0 <= last /\ last <= (l.length : Int)) {i : Nat} (hi : i < l.length) : 0 <= qET l last i /\ qET l last i <= (l.length : Int) := by
 unfold qET; split <;> omega
theorem qJa (hm : qBg l last m) {n : Nd} (hn : n ∈ m.nodes) : ∃ i s, i < l.length /\ n = ⟨0, s, [qET l last i, l.getD i 0]⟩ := by
 obtain ⟨i, hi, rfl⟩ := List.mem_iff_getElem.1 hn
 have hl := hm.len
 obtain ⟨s, hs⟩ := hm.at_ i (by omega)
 rw [List.getElem?_eq_getElem hi] at hs
 exact ⟨i, s, by omega, Option.some.inj hs⟩
theorem chain_valid (h : qAT d) (hm : qBg l last m) (hl : l.length <= 60) (hb : 0 <= last /\ last <= (l.length : Int)) (hv : ∀ n ∈ l, -1099511627776 <= n /\ n <= 1099511627776) : qAY d m = true := by
 obtain ⟨⟨fs, hT⟩, hG, -⟩ := qBS h
 unfold qAY
 simp only [Bool.and_eq_true, List.all_eq_true, decide_eq_true_eq]
 refine ⟨⟨⟨⟨listD_hasT h, by rw [hm.len]; omega⟩, fun n hn => ?_⟩, ?_⟩, fun n hn => ?_⟩
 ·obtain ⟨i, s, -, rfl⟩ := qJa hm hn
  unfold qDl
  rw [hT]
  show decide ((0 : Int) <= 0 /\ (0 : Int) < 1) = true
  decide
 ·unfold qAC
  rw [Bool.and_eq_true, decide_eq_true_eq, qCE, hG, hm.globals]
  refine ⟨rfl, fun j x hx => ?_⟩
  match j, hx with
  | 0, hx =>
   have : x = if (1 : Int) < l.length then 1 else (l.length : Int) := by simpa using hx.symm
   have hr : 0 <= x /\ x <= (l.length : Int) := by rw [this]; split <;> omega
   exact right_T h hm hr
  | j + 1, hx => simp at hx
 ·obtain ⟨i, s, hi, rfl⟩ := qJa hm hn
  unfold qAC
  rw [Bool.and_eq_true, decide_eq_true_eq, qCE]
  show _ = _ /\ ∀ j x, _ -> qAR d m (tyAt (qAK d 0) j) x = true
  rw [qCW h]
  refine ⟨rfl, fun j x hx => ?_⟩
  match j, hx with
  | 0, hx =>
   have hx : some (qET l last i) = some x := hx
   cases hx
   exact right_T h hm (nxtI_in hb hi)
  | 1, hx =>
   have hx : some (l.getD i 0) = some x := hx
   cases hx
   have hmem : l.getD i 0 ∈ l := by rw [List.getD_eq_getElem?_getD, List.getElem?_eq_getElem hi]; exact List.getElem_mem hi
   show qAR _ _ qAP _ = true
   unfold qAR
   rw [if_pos rfl]
   exact decide_eq_true (hv _ hmem)
  | j + 2, hx => cases hx
section
variable {F : Int -> Int -> Rs} {x v : Int} {e : E}
theorem evMk {op n : Int} {s : ByteArray} {l : Sl} {k : List E} : evE d m F x (.mk op n s l k) = qIj d m F x op n s (k.map (evE d m F x)) := qIX F x (.mk op n s l k)
theorem evThis (h : qFB e) : evE d m F x e = .ok x := by
 obtain ⟨l, rfl⟩ := h
 rw [evMk, comb4 rfl]
 unfold varV
 rw [if_pos rfl]
theorem evNext (h : qCb e) (hv : qEs d m x qBq = .ok v) : evE d m F x e = .ok v := by
 obtain ⟨l, a, ha, rfl⟩ := h
 rw [evMk, comb5 rfl]
 show (evE d m F x a).bind (fun a => qEs d m a qBq) = _
 rw [evThis ha]; exact hv
theorem evPlus (h : qHX e) (hL : qGh d qCv = 0) (hv : qEs d m x qBq = .ok v) : evE d m F x e = (F 0 v).bind fun b => qCz 9 1 b := by
 obtain ⟨l, l1, l2, a, ha, rfl⟩ := h
 rw [evMk, qEi (by omega)]
 show (evE d m F x (.mk 1 1 sE l1 [])).bind (fun p => (evE d m F x (.mk 7 0 qCv l2 [a])).bind fun b => qCz 9 p b) = _
 rw [evMk, comb1 (.inl rfl)]
 show (evE d m F x (.mk 7 0 qCv l2 [a])).bind (fun b => qCz 9 1 b) = _
 rw [evMk, comb7 rfl]
 show ((evE d m F x a).bind fun a => F (qGh d qCv) a).bind (fun b => qCz 9 1 b) = _
 rw [hL, evNext ha hv]; rfl
theorem evEq (h : IsEq e) (hv : qEs d m x qBq = .ok v) : evE d m F x e = .ok (trI (decide (v = 0))) := by
 obtain ⟨l, l1, a, ha, rfl⟩ := h
 rw [evMk, qEi (by omega)]
 show (evE d m F x a).bind (fun p => (evE d m F x (.mk 3 0 sE l1 [])).bind fun b => qCz 14 p b) = _
 rw [evNext ha hv, evMk, comb3 rfl]; rfl
theorem evLess (h : qJe e) (hv : qEs d m x qBq = .ok v) {a b : Int} (h1 : qEs d m x lsN = .ok a) (h2 : qEs d m v lsN = .ok b) : evE d m F x e = .ok (trI (decide (a < b))) := by
 obtain ⟨l, l1, l2, p, q, hp, hq, rfl⟩ := h
 rw [evMk, qEi (by omega)]
 show (evE d m F x (.mk 5 0 lsN l1 [p])).bind (fun a => (evE d m F x (.mk 5 0 lsN l2 [q])).bind fun b => qCz 16 a b) = _
 rw [evMk, comb5 rfl]
 show ((evE d m F x p).bind fun a => qEs d m a lsN).bind (fun a => (evE d m F x (.mk 5 0 lsN l2 [q])).bind fun b => qCz 16 a b) = _
 rw [evThis hp]
 show (qEs d m x lsN).bind (fun a => (evE d m F x (.mk 5 0 lsN l2 [q])).bind fun b => qCz 16 a b) = _
 rw [h1, evMk, comb5 rfl]
 show ((evE d m F x q).bind fun a => qEs d m a lsN).bind (fun b => qCz 16 a b) = _
 rw [evNext hq hv]
 show (qEs d m v lsN).bind (fun b => qCz 16 a b) = _
 rw [h2]; rfl
theorem evSort (h : qFC e) (hv : qEs d m x qBq = .ok v) {a : Int} (h1 : qEs d m x lsN = .ok a) (h2 : v ≠ 0 -> ∃ b, qEs d m v lsN = .ok b) :
  evE d m F x e = .ok (if v = 0 then 1 else match qEs d m v lsN with | .ok b => trI (decide (a < b)) | .bad _ => 0) := by
 obtain ⟨l, p, q, hp, hq, rfl⟩ := h
 rw [evMk, comb20 rfl]
 show (evE d m F x p).bind (fun a => if a = 0 then evE d m F x q else .ok 1) = _
 rw [evEq hp hv]
 show (if trI (decide (v = 0)) = 0 then evE d m F x q else .ok 1) = _
 by_cases h0 : v = 0
 ·rw [if_pos h0, decide_eq_true h0]; rfl
 ·obtain ⟨b, hb⟩ := h2 h0
  rw [if_neg h0, decide_eq_false h0, evLess hq hv h1 hb, hb]; rfl
end
theorem evM_list (h : qAT d) {n : Nat} {x v : Int} (h0 : x ≠ 0) (hv : qEs d m x qBq = .ok v) : evM d m (n + 1) 0 x = (evM d m n 0 v).bind fun b => qCz 9 1 b := by
 obtain ⟨-, -, ⟨p, hp, hM⟩, -⟩ := qBS h
 rw [evM, if_neg h0, hM]
 show evE d m (evM d m n) x p = _
 exact evPlus hp (qFR h) hv
theorem qJJ (h : qAT d) (hm : qBg l last m) {i : Nat} (hi : i < l.length) : qEs d m ((i : Int) + 1) qBq = .ok (qET l last i) := by
 obtain ⟨s, hs⟩ := hm.at_ i hi
 have e : qIh [⟨qBq, lsT⟩, ⟨lsN, qAP⟩] qBq = 0 := by kernel_rfl
 unfold qEs
 rw [if_neg (by omega), show ((i : Int) + 1 - 1).toNat = i by omega, hs]
 show Rs.ok (([qET l last i, l.getD i 0][(qIh (qAK d 0) qBq).toNat]?).getD 0) = _
 rw [qCW h, e]; rfl
theorem fld_n (h : qAT d) (hm : qBg l last m) {i : Nat} (hi : i < l.length) : qEs d m ((i : Int) + 1) lsN = .ok (l.getD i 0) := by
 obtain ⟨s, hs⟩ := hm.at_ i hi
 have e : qIh [⟨qBq, lsT⟩, ⟨lsN, qAP⟩] lsN = 1 := by kernel_rfl
 unfold qEs
 rw [if_neg (by omega), show ((i : Int) + 1 - 1).toNat = i by omega, hs]
 show Rs.ok (([qET l last i, l.getD i 0][(qIh (qAK d 0) lsN).toNat]?).getD 0) = _
 rw [qCW h, e]; rfl
theorem two_plus {b : Nat} (h : b < 1000) : qCz 9 1 (b : Int) = .ok ((b : Int) + 1) := by
 unfold qCz big
 rw [if_pos rfl, if_pos (by omega), Int.add_comm]
theorem nil_list (h : qAT d) (n : Nat) : evM d m n 0 0 = .ok 0 := by
 obtain ⟨-, -, ⟨p, hp, hM⟩, -⟩ := qBS h
 have e : nilM d 0 = 0 := by unfold nilM; rw [hM]; rfl
 cases n with
 | zero => rw [evM, if_pos rfl, e]
 | succ n => rw [evM, if_pos rfl, e]
theorem list_len (h : qAT d) (hm : qBg l 0 m) (hl : l.length <= 60) : ∀ (k i n : Nat), i + k = l.length -> k <= n -> evM d m n 0 (if k = 0 then 0 else (i : Int) + 1) = .ok k
 | 0, i, n, _, _ => by rw [if_pos rfl]; exact nil_list h n
 | k + 1, i, n, hi, hn => by
  rw [if_neg (by omega)]
  obtain ⟨n, rfl⟩ : ∃ n', n = n' + 1 := ⟨n - 1, by omega⟩
  rw [evM_list h (by omega) (qJJ h hm (by omega))]
  have ih := list_len h hm hl k (i + 1) n (by omega) (by omega)
  have e : qET l 0 i = if k = 0 then 0 else ((i + 1 : Nat) : Int) + 1 := by
   unfold qET
   by_cases hk : k = 0
   ·rw [if_pos hk, if_pos (by omega)]
   ·rw [if_neg hk, if_neg (by omega)]; omega
  rw [e, ih]
  show qCz 9 1 (k : Int) = _
  rw [two_plus (by omega)]
  simp
theorem qIO (h : qAT d) (hm : qBg l last m) (hb : 1 <= last /\ last <= (l.length : Int)) : ∀ (n : Nat) (x : Int), 1 <= x -> x <= (l.length : Int) -> evM d m n 0 x = .bad 16
 | 0, x, h1, _ => by unfold evM; rw [if_neg (by omega)]
 | n + 1, x, h1, h2 => by
  obtain ⟨i, rfl⟩ : ∃ i : Nat, x = (i : Int) + 1 := ⟨(x - 1).toNat, by omega⟩
  have hi : i < l.length := by omega
  rw [evM_list h (by omega) (qJJ h hm hi)]
  have hn : 1 <= qET l last i /\ qET l last i <= (l.length : Int) := by unfold qET; split <;> omega
  rw [qIO h hm hb n _ hn.1 hn.2]; rfl
theorem list_sort (h : qAT d) (hm : qBg l 0 m) {q : E} (hq : qFC q) {F : Int -> Int -> Rs} {i : Nat} (hi : i < l.length) : evE d m F ((i : Int) + 1) q = .ok (if i + 1 < l.length then trI (decide (l.getD i 0 < l.getD (i + 1) 0)) else 1) := by
 have e0 : i + 1 < l.length -> qET l 0 i = ((i + 1 : Nat) : Int) + 1 := fun hl => by unfold qET; rw [if_neg (by omega)]; omega
 have e1 : ¬ i + 1 < l.length -> qET l 0 i = 0 := fun hl => by unfold qET; rw [if_pos (by omega)]
 rw [evSort hq (qJJ h hm hi) (fld_n h hm hi) fun hne => ?_]
 ·by_cases hl : i + 1 < l.length
  ·rw [if_pos hl, e0 hl, if_neg (by omega), fld_n h hm hl]
  ·rw [if_neg hl, e1 hl, if_pos rfl]
 ·by_cases hl : i + 1 < l.length
  ·rw [e0 hl]; exact ⟨_, fld_n h hm hl⟩
  ·exact absurd (e1 hl) hne
end
end Go.Proofs
namespace Go.Proofs
open Go Go.Sx
structure Sr where
 order : List Int
 again : Int
def qDR (x : Fld × Int) : Bool := !qCL x.1.ty && decide (x.2 ≠ 0)
def tgtI (l : List Fld) (vs : List Int) (i : Nat) : List Int := (((l.zip vs).take i).filter qDR).map (·.2)
def tgt (l : List Fld) (vs : List Int) : List Int := ((l.zip vs).filter qDR).map (·.2)
def qDa (d : Ds) (m : Mm) (n : Int) : List Int := match m.nodes[(n - 1).toNat]? with | some x => tgt (qAK d x.ty) x.f | none => []
def qDK (d : Ds) (m : Mm) : Nat -> Sr -> Int -> Sr
 | 0, st, _ => st
 | f + 1, st, n => if n ∈ st.order then ⟨st.order, if st.again = 0 then n else st.again⟩ else (qDa d m n).foldl (qDK d m f) ⟨st.order ++ [n], st.again⟩
def lookP (d : Ds) (m : Mm) (f : Nat) (st : Sr) (l : List Fld) (vs : List Int) : Sr := (tgt l vs).foldl (qDK d m f) st
def qBN (d : Ds) (m : Mm) : Sr := lookP d m (m.nodes.length + 1) ⟨[], 0⟩ d.globals m.globals
theorem tgtI_zero (l : List Fld) (vs : List Int) : tgtI l vs 0 = [] := rfl
theorem qEY {l : List Fld} {vs : List Int} {i : Nat} {f : Fld} {v : Int} (hf : l[i]? = some f) (hv : vs[i]? = some v) : tgtI l vs (i + 1) = tgtI l vs i ++ if qDR (f, v) = true then [v] else [] := by
 have hz : (l.zip vs)[i]? = some (f, v) := by rw [List.getElem?_zip_eq_some]; exact ⟨hf, hv⟩
 unfold tgtI
 rw [List.take_add_one, hz, List.filter_append, List.map_append]
 by_cases h : qDR (f, v) = true
 ·simp [h]
 ·simp [h]
theorem tgtI_all {l : List Fld} {vs : List Int} {i : Nat} (h : l.length <= i) : tgtI l vs i = tgt l vs := by
 unfold tgtI tgt
 rw [List.take_of_length_le]
 rw [List.length_zip]; omega
def unS (m : Mm) (st : Sr) : Nat := ((List.range m.nodes.length).filter fun (i : Nat) => !decide (((i : Int) + 1) ∈ st.order)).length
theorem entP_sub (d : Ds) (m : Mm) : ∀ (f : Nat) (st : Sr) (n : Int), ∀ x ∈ st.order, x ∈ (qDK d m f st n).order
 | 0, st, n, x, h => h
 | f + 1, st, n, x, h => by
  unfold qDK
  split
  ·exact h
  ·have : ∀ (l : List Int) (s : Sr), x ∈ s.order -> x ∈ (l.foldl (qDK d m f) s).order := fun l => by
    induction l with
    | nil => exact fun s h => h
    | cons a l ih => exact fun s h => ih _ (entP_sub d m f s a x h)
   exact this _ _ (List.mem_append_left _ h)
theorem foldP_sub (d : Ds) (m : Mm) (f : Nat) (x : Int) : ∀ (l : List Int) (s : Sr), x ∈ s.order -> x ∈ (l.foldl (qDK d m f) s).order := fun l => by
 induction l with
 | nil => exact fun s h => h
 | cons a l ih => exact fun s h => ih _ (entP_sub d m f s a x h)
section
variable {d : Ds} {m : Mm} {l : List Int}
theorem chain_tgt (h : qAT d) (hm : qBg l 0 m) {i : Nat} (hi : i < l.length) : qDa d m ((i : Int) + 1) = if i + 1 = l.length then [] else [(i : Int) + 2] := by
 obtain ⟨s, hs⟩ := hm.at_ i hi
 unfold qDa
 rw [show ((i : Int) + 1 - 1).toNat = i by omega, hs]
 have e1 : qCL lsT = false := by kernel_rfl
 have e2 : qCL qAP = true := by kernel_rfl
 show tgt (qAK d 0) [qET l 0 i, l.getD i 0] = _
 rw [qCW h]
 unfold tgt
 rw [List.zip_cons_cons, List.zip_cons_cons, List.zip_nil_left, List.filter_cons, List.filter_cons, List.filter_nil]
 unfold qDR
 simp only [e1, e2, Bool.not_true, Bool.false_and, Bool.not_false, Bool.true_and]
 by_cases h : i + 1 = l.length
 ·rw [show qET l 0 i = 0 by unfold qET; rw [if_pos h], if_pos h]; rfl
 ·rw [show qET l 0 i = (i : Int) + 2 by unfold qET; rw [if_neg h], if_neg h, decide_eq_true (show (i : Int) + 2 ≠ 0 by omega)]; rfl
theorem chain_ent (h : qAT d) (hm : qBg l 0 m) : ∀ (k i f : Nat) (a : Int), i + k + 1 = l.length -> k < f -> qDK d m f ⟨(List.range i).map fun (j : Nat) => (j : Int) + 1, a⟩ ((i : Int) + 1) = ⟨(List.range l.length).map fun (j : Nat) => (j : Int) + 1, a⟩
 | k, i, 0, a, _, h => by omega
 | k, i, f + 1, a, hi, hf => by
  unfold qDK
  have hno : ¬ ((i : Int) + 1) ∈ (List.range i).map fun (j : Nat) => (j : Int) + 1 := by
   simp only [List.mem_map, List.mem_range, not_exists, not_and]
   intro j hj; omega
  rw [if_neg hno, chain_tgt h hm (by omega)]
  have happ : ((List.range i).map fun (j : Nat) => (j : Int) + 1) ++ [(i : Int) + 1] = (List.range (i + 1)).map fun (j : Nat) => (j : Int) + 1 := by
   rw [List.range_succ, List.map_append]; rfl
  simp only [happ]
  cases k with
  | zero => rw [if_pos (by omega), List.foldl_nil, show i + 1 = l.length by omega]
  | succ k =>
   rw [if_neg (by omega), List.foldl_cons, List.foldl_nil]
   have := chain_ent h hm k (i + 1) f a (by omega) (by omega)
   rw [show (i : Int) + 2 = ((i + 1 : Nat) : Int) + 1 by omega]
   exact this
theorem chain_reach (h : qAT d) (hm : qBg l 0 m) (h0 : 0 < l.length) : (qBN d m).order = (List.range l.length).map fun (j : Nat) => (j : Int) + 1 := by
 have e1 : qCL lsT = false := by kernel_rfl
 obtain ⟨-, hG, -⟩ := qBS h
 unfold qBN lookP
 have e : tgt d.globals m.globals = [1] := by
  rw [hG, hm.globals, show (if (1 : Int) < l.length then (1 : Int) else l.length) = 1 by split <;> omega]
  unfold tgt qDR
  simp [e1]
 rw [e, List.foldl_cons, List.foldl_nil, hm.len]
 have := chain_ent h hm (l.length - 1) 0 (l.length + 1) 0 (by omega) (by omega)
 simp only [List.range_zero, List.map_nil, Int.natCast_zero, Int.zero_add] at this
 exact congrArg Sr.order this
end
end Go.Proofs
namespace Go.Proofs
open Go Go.Sx
open Classical in
noncomputable def qGA (d : Ds) (m : Mm) (e : E) (x : Int) : Bool := decide (∃ n, evE d m (evM d m n) x e = .ok 1)
noncomputable def qJS (d : Ds) (m : Mm) (v : Iv) (x : Int) : Bool := decide (qIc d m x = v.ty) && !qGA d m v.x x
noncomputable def qCm (d : Ds) (m : Mm) (v : Iv) (l : List Int) : List (ByteArray × Int) := (l.filter (qJS d m v)).map fun x => (v.name, x)
def qAF (d : Ds) (m : Mm) (v : Iv) : List Int := if v.ty = sE then [0] else (qBN d m).order
noncomputable def allP (d : Ds) (m : Mm) : List (ByteArray × Int) := d.invs.flatMap fun v => qCm d m v (qAF d m v)
theorem qHE {d : Ds} {m : Mm} {e : E} {x : Int} {rs : Rs} (h : Out d m (fun _ _ => False) (fun n => evE d m (evM d m n) x e) rs) : qGA d m e x = decide (rs = .ok 1) := by
 unfold qGA
 rw [decide_eq_decide]
 constructor
 ·rintro ⟨n, hn⟩
  exact Out.unique (qAr x e) h (show Out d m (fun _ _ => False) _ (Rs.ok 1) from ⟨n, hn⟩)
 ·rintro rfl; exact h
section
variable {d : Ds} {m : Mm} {l : List Int}
def qFt (l : List Int) (i : Nat) : Bool := decide (i + 1 < l.length) && !decide (l.getD i 0 < l.getD (i + 1) 0)
theorem list_typ (h : qAT d) {last : Int} (hm : qBg l last m) {i : Nat} (hi : i < l.length) : qIc d m ((i : Int) + 1) = lsT := by
 obtain ⟨⟨fs, hT⟩, -⟩ := qBS h
 obtain ⟨s, hs⟩ := hm.at_ i hi
 unfold qIc
 rw [if_neg (by omega), show ((i : Int) + 1 - 1).toNat = i by omega, hs, hT]; rfl
theorem list_hold (h : qAT d) (hm : qBg l 0 m) {q : E} (hq : qFC q) {i : Nat} (hi : i < l.length) : qGA d m q ((i : Int) + 1) = !qFt l i := by
 have ho : Out d m (fun _ _ => False) (fun n => evE d m (evM d m n) ((i : Int) + 1) q) (.ok (if i + 1 < l.length then trI (decide (l.getD i 0 < l.getD (i + 1) 0)) else 1)) := ⟨0, list_sort h hm hq hi⟩
 rw [qHE ho]
 unfold qFt
 by_cases h1 : i + 1 < l.length
 ·by_cases h2 : l.getD i 0 < l.getD (i + 1) 0
  ·rw [if_pos h1, decide_eq_true h1, decide_eq_true h2]; decide
  ·rw [if_pos h1, decide_eq_true h1, decide_eq_false h2]; decide
 ·rw [if_neg h1, decide_eq_false h1]; rfl
theorem list_all (h : qAT d) (hm : qBg l 0 m) (h0 : 0 < l.length) : allP d m = ((List.range l.length).filter (qFt l)).map fun (i : Nat) => (qCg, (i : Int) + 1) := by
 obtain ⟨-, -, -, q, hq, hI⟩ := qBS h
 unfold allP
 rw [hI, List.flatMap_cons, List.flatMap_nil, List.append_nil]
 unfold qAF qCm
 have e : lsT ≠ sE := of_decide_eq_false (by kernel_rfl)
 rw [if_neg (show ¬ (⟨qCg, lsT, q⟩ : Iv).ty = sE from e), chain_reach h hm h0, List.filter_map, List.map_map]
 have : (List.range l.length).filter (qJS d m ⟨qCg, lsT, q⟩ ∘ fun (j : Nat) => (j : Int) + 1) = (List.range l.length).filter (qFt l) := by
  refine List.filter_congr fun i hi => ?_
  have hi := List.mem_range.1 hi
  show qJS d m ⟨qCg, lsT, q⟩ ((i : Int) + 1) = qFt l i
  unfold qJS
  rw [list_typ h hm hi, decide_eq_true (show lsT = (⟨qCg, lsT, q⟩ : Iv).ty from rfl), Bool.true_and]
  show (!qGA d m q ((i : Int) + 1)) = _
  rw [list_hold h hm hq hi, Bool.not_not]
 rw [this]; rfl
end
end Go.Proofs
namespace Go.Proofs
open Go Go.Sx
attribute [local irreducible] Go.Sx.Tri
theorem chk_zero {d : Ds} (h : (fltR (qIZ d)).2.2 = 0) : qIZ d = none := by
 have key : ∀ {a : Option Flt}, (∀ r, a = some r -> r.2.2 ≠ 0) -> (fltR a).2.2 = 0 -> a = none := fun {a} hb h => by
  cases a with
  | none => rfl
  | some r => exact absurd h (hb r rfl)
 refine key (fun r hr => ?_) h
 unfold qIZ at hr
 have orC : ∀ {a b : Option Flt} {r}, a.or b = some r -> a = some r ∨ b = some r := fun {a b r} h => by
  cases a with
  | none => exact .inr (by simpa using h)
  | some x => exact .inl (by simpa using h)
 rcases orC hr with h1 | hr
 ·exact (qGV d r h1).1
 rcases orC hr with h1 | hr
 ·exact (qHF d r h1).1
 rcases orC hr with h1 | hr
 ·exact (qJG d r h1).1
 rcases orC hr with h1 | hr
 ·unfold qDM at h1
  obtain ⟨j, x, -, hx⟩ := qCH h1
  split at hx
  ·rename_i hne; cases hx; exact hne
  ·cases hx
 ·exact (qJL d r hr).1
theorem ivB_parts {x : Iv} (h : ivB x = true) : qAz x.name = true /\ openB x.ty = true /\ VE x.x := by
 unfold ivB at h
 simp only [Bool.and_eq_true] at h
 exact ⟨h.1.1, h.1.2, VE.of_valid h.2⟩
section
variable {V : Mem} {d : Ds} {m : Mm}
def kn0 : Int × Int -> Option Int := fun _ => none
def bz0 : Int × Int -> Bool := fun _ => false
theorem c35 [Tab V] (hd : Ds.Ok V d) (hm : Mm.Ok V m) : Tri Tryz.prog 35 #[d.v, m.v] V fun e V' =>
  (∃ p kb bb, e = .returned (.tuple #[pv p, .int .i64 0]) /\ qHZ V d m p kb bb /\ qDP V d m p kb bb V' kn0 bz0) ∨ (¬ qBF d m /\ e = .returned (.tuple #[.pointer none, .int .i64 1]) /\ V.sub V') := by
 refine x35 ?_
 unfold w35
 refine (c68 scopeC newC hd).call ?_
 have bad : ∀ {V1 : Mem}, V.sub V1 -> ¬ qBF d m -> (∃ p kb bb, Ending.returned (.tuple #[.pointer none, .int .i64 1]) = .returned (.tuple #[pv p, .int .i64 0]) /\ qHZ V d m p kb bb /\ qDP V d m p kb bb V1 kn0 bz0) ∨ (¬ qBF d m /\ Ending.returned (.tuple #[.pointer none, .int .i64 1]) = .returned (.tuple #[.pointer none, .int .i64 1]) /\ V.sub V1) := fun hs h => .inr ⟨h, rfl, hs⟩
 by_cases hv : qAQ d = true
 ·rw [if_pos hv]
  refine ⟨_, _, _, rfl, fun h0 => (c69 hd hm).call ⟨_, rfl, fun h1 => ?_, fun h1 => bad (Mem.sub.refl _) fun k => h1 k.mem⟩, fun h0 => bad (Mem.sub.refl _) fun k => h0 (by rw [k.chk]; rfl)⟩
  have G : qBF d m := ⟨hv, chk_zero h0, h1⟩
  refine qAo.makeMap fun kb hkb => ⟨some kb, rfl, qAo.makeMap fun bb hbb => ⟨some bb, rfl, fun p hp => ?_⟩⟩
  have n1 : bb ≠ kb := fun e => by rw [e, Mem.set_same] at hbb; cases hbb
  have n2 : p ≠ bb := fun e => by rw [e, Mem.set_same] at hp; cases hp
  have n3 : p ≠ kb := fun e => by rw [e, Mem.set_ne n1.symm, Mem.set_same] at hp; cases hp
  have s1 := Mem.sub_new hkb (.map #[] 0)
  have s2 := Mem.sub_new hbb (.map #[] 0)
  have s3 := Mem.sub_new hp (.cells (mrow d m kb bb).toArray 129 (0, 0))
  have hb0 : V bb = none := by rw [Mem.set_ne n1] at hbb; exact hbb
  have hp0 : V p = none := by rw [Mem.set_ne n2, Mem.set_ne n3] at hp; exact hp
  refine .inl ⟨p, kb, bb, rfl, ⟨G, hd, hm, hp0, hkb, hb0, n3, n2, n1.symm⟩, (s1.trans s2).trans s3, Mem.set_same _ _ _, ?_, ?_⟩
  ·exact (((qES.made V kb).sub s2).sub s3).congr fun _ => rfl
  ·exact ((qES.made _ bb).sub s3).congr fun _ => rfl
 ·rw [if_neg hv]
  refine ⟨_, _, _, rfl, fun h => absurd h (by decide), fun _ => bad (Mem.sub.refl _) fun k => hv k.valid⟩
section
variable {V0 : Mem} {p kb bb : Nat} {kn : Int × Int -> Option Int} {bz : Int × Int -> Bool}
theorem postOf {f : FuncId} {args : Array Value} {g : Nat -> Rs} (h : Tri Tryz.prog f args V (qDT V0 d m p kb bb V kn bz g)) : Tri Tryz.prog f args V fun e V1 => (∃ v, e = .returned (.int .i64 v) /\ qDT V0 d m p kb bb V kn bz g (.returned (.int .i64 v)) V1) ∨ ∃ ch, e = .panicked ch /\ qDT V0 d m p kb bb V kn bz g e V1 :=
 Tri.mono h fun e V' ⟨rs, he, hp⟩ => by
  subst he
  cases rs with
  | ok a => exact .inl ⟨a, rfl, .ok a, rfl, hp⟩
  | bad e => exact .inr ⟨_, rfl, .bad e, rfl, hp⟩
theorem c40 (S : qHZ V0 d m p kb bb) (M : qDP V0 d m p kb bb V kn bz) (K : KnOk d m kn) {b1 b2 b3 t1 t2 t3 : Nat} {i : Nat} {x : Int} (h1 : V b1 = some (cell (pv p) t1)) (h2 : V b2 = some (cell (.int .i64 i) t2)) (h3 : V b3 = some (cell (.int .i64 x) t3)) {ms : Ms} (hms : d.measures[i]? = some ms) (hx : qBk d m ms.ty x) :
  Tri Tryz.prog 40 #[pv b1, pv b2, pv b3] V (qDT V0 d m p kb bb V kn bz fun n => evM d m n i x) := by
 refine x40 (R := qDT V0 d m p kb bb V kn bz fun n => evM d m n i x) ?_
 unfold w40
 exact ⟨_, qBt h1, _, qBt h2, _, qBt h3, postOf (measAll S (qEX d m kn bz) i ms x V kn bz hms hx M K (Nat.le_refl _))⟩
theorem c84 (S : qHZ V0 d m p kb bb) (M : qDP V0 d m p kb bb V kn bz) (K : KnOk d m kn) {b1 b2 b3 t1 t2 t3 : Nat} {v : Iv} {T t : ByteArray} {x : Int} (h1 : V b1 = some (cell (pv p) t1)) (h2 : V b2 = some (.cells v.row.toArray t2 (0, 0))) (h3 : V b3 = some (cell (.int .i64 x) t3))
  (hv : VE v.x) (he : E.Ok V0 v.x) (ht : qAy d (qAk d T) v.x = (t, 0)) (hT : This d m T x) :
  Tri Tryz.prog 84 #[pv b1, pv b2, pv b3] V (qDT V0 d m p kb bb V kn bz fun n => evE d m (evM d m n) x v.x) := by
 refine x84 (R := qDT V0 d m p kb bb V kn bz fun n => evE d m (evM d m n) x v.x) ?_
 unfold w84
 exact ⟨_, qBt h1, nn, _, _, _, _, qAg h2 2 4 (by simp [Iv.row]), _, qBt h3, postOf (exprAll S (qEX d m kn bz) v.x T t x V kn bz hv he ht hT M K (Nat.le_refl _))⟩
theorem c50 (S : qHZ V0 d m p kb bb) (M : qDP V0 d m p kb bb V kn bz0) (K : KnOk d m kn) {v : Iv} {x : Int} (hv : v ∈ d.invs) (hT : This d m v.ty x) :
  Tri Tryz.prog 50 #[pv p, v.v, .int .i64 x] V fun e V' => e = .returned (.bool (qGA d m v.x x)) /\ qIa kb bb V V' /\ ∃ kn', qDP V0 d m p kb bb V' kn' bz0 /\ KnOk d m kn' := by
 refine x50 ?_
 unfold w50
 intro b1 hb1 b2 hb2 b3 hb3
 have s1 := Mem.sub_new hb1 (cell (pv p) 83)
 have s2 := Mem.sub_new hb2 (.cells v.row.toArray 105 (0, 0))
 have s3 := Mem.sub_new hb3 (cell (.int .i64 x) 3)
 have s := s1.trans (s2.trans s3)
 have hvE := (ivB_parts ((qBj S.good.valid).2.2.2 v hv)).2.2
 obtain ⟨-, c2⟩ := (qDp S.good.chk).2 v hv
 refine Tri.mono (tryC S (M.grow s) (g := fun n => evE d m (evM d m n) x v.x) (caps := [pv b1, pv b2, pv b3]) Tryz.call84 fun V1 hs1 =>
  c84 S ((M.grow s).grow hs1) K (hs1 _ _ ((s2.trans s3) _ _ mss)) (hs1 _ _ (s3 _ _ mss)) (hs1 _ _ mss) hvE (S.ds.invsOk v hv) c2 hT) ?_
 rintro _ V' ⟨rs, rfl, ho, hk, kn', m1, m2⟩
 have hh := qHE ho
 refine ⟨_, _, rfl, fun h0 => ⟨?_, (qIa.of_sub s).trans hk, kn', m1, m2⟩, fun h0 => ⟨?_, (qIa.of_sub s).trans hk, kn', m1, m2⟩⟩
 ·rw [hh]
  cases rs with
  | ok a => rw [show decide (Rs.ok a = Rs.ok 1) = decide (a = 1) by rw [decide_eq_decide]; simp]; rfl
  | bad c => rfl
 ·rw [hh]
  cases rs with
  | ok a => exact absurd rfl h0
  | bad c => rfl
end
end
section
variable {V : Mem} {d : Ds} {m : Mm}
def tyM (d : Ds) (k : Int) : ByteArray := ((d.measures[k.toNat]?).map (·.ty)).getD sE
inductive MeaP (d : Ds) (m : Mm) (name : ByteArray) (x : Int) : Int -> Int -> Prop where
 | arg (h : ¬ qBF d m) : MeaP d m name x 0 1
 | range (h : qBF d m) (h1 : ¬ (0 <= x /\ x <= (m.nodes.length : Int))) : MeaP d m name x 0 2
 | name (h : qBF d m) (h1 : 0 <= x /\ x <= (m.nodes.length : Int)) (h2 : qGh d name < 0) : MeaP d m name x 0 9
 | type (h : qBF d m) (h1 : 0 <= x /\ x <= (m.nodes.length : Int)) (h2 : 0 <= qGh d name) (h3 : x ≠ 0 /\ qIc d m x ≠ tyM d (qGh d name)) : MeaP d m name x 0 11
 | val (h : qBF d m) (h1 : 0 <= x /\ x <= (m.nodes.length : Int)) (h2 : 0 <= qGh d name) (h3 : x = 0 ∨ qIc d m x = tyM d (qGh d name)) (rs : Rs) (h4 : Out d m (fun _ _ => False) (fun n => evM d m n (qGh d name) x) rs) : MeaP d m name x (valRs rs) (errRs rs)
theorem mIdx_at {name : ByteArray} (h : ¬ qGh d name < 0) : ∃ (i : Nat) (ms : Ms), qGh d name = i /\ d.measures[i]? = some ms /\ ms ∈ d.measures /\ ms.name = name := by
 unfold qGh at h ⊢
 rcases qAI (fun t : Ms => decide (t.name = name)) d.measures with ⟨h1, -, -⟩ | ⟨i, x, h1, h2, h3, h4, h5, -⟩
 ·rw [h1] at h; exact absurd (by decide) h
 ·exact ⟨i, x, h1, h2, List.mem_of_getElem? h2, of_decide_eq_true h5⟩
theorem c12 [Tab V] (hd : Ds.Ok V d) (hm : Mm.Ok V m) {name : ByteArray} {x : Int} : Tri Tryz.prog 12 #[d.v, m.v, .string name, .int .i64 x] V fun e V' => V' = V /\ ∃ v f, e = .returned (.tuple #[.int .i64 v, .int .i64 f]) /\ MeaP d m name x v f := by
 refine Tri.less ?_
 refine x12 ?_
 unfold w12
 have ret : ∀ {V1 : Mem} {v f : Int}, V.sub V1 -> MeaP d m name x v f -> ∃ W, (W = V /\ ∃ v' f', Ending.returned (.tuple #[.int .i64 v, .int .i64 f]) = .returned (.tuple #[.int .i64 v', .int .i64 f']) /\ MeaP d m name x v' f') /\ W.sub V1 := fun hs hp => ⟨V, ⟨rfl, _, _, rfl, hp⟩, hs⟩
 refine Tri.mono (c35 hd hm) ?_
 rintro _ V1 (⟨p, kb, bb, rfl, S, M⟩ | ⟨hG, rfl, hs⟩)
 rotate_left
 ·exact ⟨_, _, rfl, fun h => absurd h (by decide), fun _ => ret hs (.arg hG)⟩
 refine ⟨_, _, rfl, fun _ => (c36 S M).call ⟨_, rfl, fun h1 => ?_, fun h1 => ret M.sub (.range S.good fun k => h1 (decide_eq_true k))⟩, fun h => absurd rfl h⟩
 have h1 : 0 <= x /\ x <= (m.nodes.length : Int) := of_decide_eq_true h1
 refine (c37 S M).call ⟨_, rfl, fun h2 => ret M.sub (.name S.good h1 h2), fun h2 => ?_⟩
 obtain ⟨i, ms, hi, hms, hmem, -⟩ := mIdx_at h2
 obtain ⟨c1, c2⟩ := (qDp S.good.chk).1 ms hmem
 have hname := qBW S.good.valid c1
 have hty : tyM d (qGh d name) = ms.ty := by unfold tyM; rw [hi, Int.toNat_natCast, hms]; rfl
 have go : qBk d m ms.ty x -> (∀ rs, Out d m (fun _ _ => False) (fun n => evM d m n (qGh d name) x) rs -> MeaP d m name x (valRs rs) (errRs rs)) ->
   qAn [pv p] 83 V1 fun v16 V4 => qAn [.int .i64 (qGh d name)] 3 V4 fun v17 V5 => qAn [.int .i64 x] 3 V5 fun v18 V6 =>
    Tri Tryz.prog 39 #[pv p, .func (.func 40) #[] #[.pointer (qAa v16 0), .pointer (qAa v17 0), .pointer (qAa v18 0)]] V6 fun e V7 => ∃ v19 v20, e = .returned (.tuple #[.int .i64 v19, .int .i64 v20]) /\ ∃ W, (W = V /\ ∃ v' f', Ending.returned (.tuple #[.int .i64 v19, .int .i64 v20]) = .returned (.tuple #[.int .i64 v', .int .i64 f']) /\ MeaP d m name x v' f') /\ W.sub V7 := fun hx hR b1 hb1 b2 hb2 b3 hb3 => by
  have s1 := Mem.sub_new hb1 (cell (pv p) 83)
  have s2 := Mem.sub_new hb2 (cell (.int .i64 (qGh d name)) 3)
  have s3 := Mem.sub_new hb3 (cell (.int .i64 x) 3)
  have s := s1.trans (s2.trans s3)
  refine Tri.mono (tryC S (M.grow s) (g := fun n => evM d m n (qGh d name) x) (caps := [pv b1, pv b2, pv b3]) Tryz.call40 fun V2 hs1 => ?_) ?_
  ·have h2 := hs1 _ _ (s3 _ _ mss)
   rw [hi] at h2 ⊢
   exact c40 S ((M.grow s).grow hs1) (fun _ _ h => by cases h) (hs1 _ _ ((s2.trans s3) _ _ mss)) h2 (hs1 _ _ mss) hms hx
  ·rintro _ V' ⟨rs, rfl, ho, -, kn', m1, -⟩
   exact ⟨_, _, rfl, ret m1.sub (hR rs ho)⟩
 have hd1 := hd.sub M.sub
 have hil := (List.getElem?_eq_some_iff.1 hms).1
 have hn := hd1.measures.n_eq
 refine ⟨fun h0 => ?_, fun h0 => ?_⟩
 ·have h0 : x = 0 := h0
  refine go (by rw [h0]; unfold qBk; rw [if_neg (qBI hname qJA)]; exact qIz hname) fun rs ho => .val S.good h1 (by omega) (.inl h0) rs ho
 ·have h0 : ¬ x = 0 := h0
  obtain ⟨y, -, hy, -, hl, hp, hz, hrow⟩ := hd1.measures.get (i := i) (by omega)
  rw [hms] at hy; cases hy
  rw [hi] at go ⊢
  refine ⟨hp, hz, by omega, qAc hp, _, _, _, _, _, _, _, hrow, (c38 S M h1).call ⟨_, rfl, qDW (j := 1) (m := 1) hrow (by decide) (by decide), qAc hp, hp, hz, by omega, fun h3 => ?_, fun h3 => ?_⟩⟩
  ·have h3 : qIc d m x = ms.ty := h3
   refine go ?_ fun rs ho => ?_
   ·rcases this_typ S.good h1.1 h1.2 with ⟨-, h⟩ | ⟨-, -, h⟩
    ·exact absurd h h0
    ·unfold qBk; rw [if_neg (qBI hname qJA), <- h3]; exact h
   ·have := MeaP.val (name := name) S.good h1 (by omega) (.inr (h3.trans hty.symm)) rs (by rw [hi]; exact ho)
    exact this
  ·exact ret M.sub (.type S.good h1 (by omega) ⟨h0, fun h => h3 (h.trans hty)⟩)
end
end Go.Proofs
namespace Go.Sx
open Go
open Classical
section
variable {P : Program} {V0 V1 V : Mem} {e : TypeId} {sz : Nat} {s : Sl} {vs : List Value}
def Blk (s : Sl) (c : Nat) : Prop := s.c ≠ 0 /\ s.p = some ⟨c, 0, none⟩
noncomputable def Mem.but (V : Mem) (s : Sl) : Mem := fun c => if Blk s c then none else V c
theorem Mem.but_sub (V : Mem) (s : Sl) : (V.but s).sub V := fun c o h => by
 unfold Mem.but at h
 split at h
 ·cases h
 ·exact h
theorem Mem.but_at {c : Nat} {o : Obj} (h : V c = some o) (hn : ¬ Blk s c) : V.but s c = some o := by
 unfold Mem.but; rw [if_neg hn]; exact h
theorem Own.cases0 (h : Own V0 V e sz s vs) : (s.n = 0 /\ s.c = 0 /\ vs = []) ∨ (s.c ≠ 0 /\ ∃ g cur, s.p = some ⟨g, 0, none⟩ /\ V0 g = none /\ V g = some (.cells cur e (0, 0)) /\ s.n <= s.c /\ s.c <= maxLen /\ cur.size = s.c * sz /\ cur.toList.take (s.n * sz) = vs) := by
 rcases h.at_ with h1 | ⟨g, cur, h1, h2, h3, h4, h5⟩
 ·exact .inl h1
 ·by_cases hc : s.c = 0
  ·have hn : s.n = 0 := by omega
   refine .inl ⟨hn, hc, ?_⟩
   have := h.len
   rw [hn, Nat.zero_mul] at this
   exact List.eq_nil_of_length_eq_zero this
  ·exact .inr ⟨hc, g, cur, h1, h2, h3, h4, h5⟩
theorem Own.but (h : Own V0 V e sz s vs) : Own (V.but s) V e sz s vs := by
 refine ⟨Mem.but_sub V s, h.len, ?_⟩
 rcases h.cases0 with h1 | ⟨hc, g, cur, h1, h2, h3⟩
 ·exact .inl h1
 ·refine .inr ⟨g, cur, h1, ?_, h3⟩
  unfold Mem.but
  rw [if_pos ⟨hc, h1⟩]
theorem Own.apart (h : Own V0 V e sz s vs) {c : Nat} (hc : ∀ cur, V c ≠ some (.cells cur e (0, 0))) : ¬ Blk s c := by
 rintro ⟨h0, hp⟩
 rcases h.cases0 with ⟨-, h1, -⟩ | ⟨-, g, cur, h1, h2, h3, -⟩
 ·exact h0 h1
 ·rw [h1] at hp; cases hp; exact hc cur h3
theorem Own.apart0 (h : Own V0 V e sz s vs) {c : Nat} {o : Obj} (hc : V0 c = some o) : ¬ Blk s c := by
 rintro ⟨h0, hp⟩
 rcases h.cases0 with ⟨-, h1, -⟩ | ⟨-, g, cur, h1, h2, -⟩
 ·exact h0 h1
 ·rw [h1] at hp; cases hp; rw [h2] at hc; cases hc
theorem Own.sub_but (h : Own V0 V e sz s vs) : V0.sub (V.but s) := fun _ _ hc => Mem.but_at (h.sub _ _ hc) (h.apart0 hc)
theorem Own.narrow (h : Own V1 V e sz s vs) (hs : V0.sub V1) : Own V0 V e sz s vs := ⟨hs.trans h.sub, h.len, by
 rcases h.at_ with h1 | ⟨g, cur, h1, h2, h3⟩
 ·exact .inl h1
 ·refine .inr ⟨g, cur, h1, ?_, h3⟩
  cases hg : V0 g with
  | none => rfl
  | some o => rw [hs _ _ hg] at h2; cases h2⟩
theorem Own.put (h : Own V0 V e sz s vs) {c : Nat} (hn : ¬ Blk s c) (h0 : V0 c = none) (o : Obj) : Own V0 (V.set c o) e sz s vs := ⟨h.sub.set h0 o, h.len, by
 rcases h.cases0 with h1 | ⟨hc, g, cur, h1, h2, h3, h4⟩
 ·exact .inl h1
 ·refine .inr ⟨g, cur, h1, h2, ?_, h4⟩
  rw [Mem.set_ne fun e => hn ⟨hc, by rw [<- e]; exact h1⟩]; exact h3⟩
theorem qHK (k : Int) : ∀ (es : List MapEntry) (i : Nat), (∀ e ∈ es, ∃ n, e.key = .int .i64 n) ->
  Instr.findNow (.int .i64) (.int .i64 k) es i = some ((es.findIdx? fun e => decide (e.key = .int .i64 k)).bind fun j => (es[j]?).map fun e => (i + j, e.val))
 | [], _, _ => rfl
 | e :: es, i, h => by
  obtain ⟨s, hs⟩ := h e (by simp)
  have ih := qHK k es (i + 1) fun x hx => h x (by simp [hx])
  unfold Instr.findNow
  simp only [hs, Instr.sameNow, List.findIdx?_cons]
  by_cases hk : k = s
  ·subst hk
   simp
  ·have hk' : ¬ s = k := fun e => hk e.symm
   simp only [ih]
   have hb : (k == s) = false := by simpa using hk
   cases h' : List.findIdx? (fun e => decide (e.key = Value.int .i64 k)) es with
   | none => simp [hk', hb]
   | some j => simp [hk', hb, Nat.add_assoc, Nat.add_comm 1 j]
theorem keyInt {kt : TypeId} (hk : P.underlying kt = some (.int .i64)) : KeyOf P kt (Value.int .i64) where
 inj := fun a b h => by cases h; rfl
 find := fun a es w h => by
  unfold Instr.findKey
  simp only [Sem.run_bind, run_underlying hk, Result.andThen_ok, qHK a es 0 h, Nat.zero_add]
  rfl
 check := fun b a w => by
  unfold Instr.checkKey
  simp only [Sem.run_bind, run_underlying hk, Result.andThen_ok]
  rfl
 stays := fun a w => by
  have h : Instr.sameBits 10000 (.int .i64 a) (.int .i64 a) = true := by
   rw [show (10000 : Nat) = 9999 + 1 from rfl]
   simp [Instr.sameBits]
  unfold Instr.keyThatStays
  rw [if_pos h]; rfl
end
end Go.Sx
