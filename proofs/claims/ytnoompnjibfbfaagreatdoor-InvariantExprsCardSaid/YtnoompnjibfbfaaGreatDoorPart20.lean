/- Part 20 of a proof of a law of this seat: no statement of the seat is proved here. -/
import Derived.Test.YtnoompnjibfbfaaGreatDoorPart19
set_option linter.unusedVariables false
set_option linter.unusedSimpArgs false
namespace Go.Proofs
open Go Go.Sx
attribute [local irreducible] Go.Sx.Tri
section
variable {V0 V V1 V2 V' : Mem} {d : Ds} {m : Mm} {p : Nat} {sn : List qCA} {f x : Int} {s : Sl}
theorem exprRef (N : Nat) (ih : ∀ N', N' < N -> ExprR d m p N') : ExprR d m p N := by
 have hM := measRef N ih
 suffices H : ∀ e : E, ∀ V0, RSt V0 d m p -> ∀ (T t : ByteArray) (x : Int) V sn s, VE e -> E.Ok V0 e -> qAr d (qAg d T) e = (t, 0) -> This d m T x -> RK V0 d m p V sn s -> unR d m sn <= N ->
   Tri Tryz.prog 74 #[pv p, e.v, .int .i64 x] V (qBi V0 d m p sn fun n => evE d m (evM d m n) x e) from fun V0 S e T t x V sn s => H e V0 S T t x V sn s
 intro e
 induction e using E.ind with
 | h e ihk =>
 intro V0 S T t x V sn s hv he ht hT K hN
 obtain ⟨G, hG⟩ : ∃ G : Nat -> Rs, G = fun n => evE d m (evM d m n) x e := ⟨_, rfl⟩
 rw [<- hG]
 have hGn : ∀ n, G n = qId d m (evM d m n) x e.op e.n e.s (e.k.map (evE d m (evM d m n) x)) := fun n => by rw [hG]; exact qIS _ _ _
 have hty := (qGR ht).1
 have kid : ∀ a ∈ e.k, ∀ V0, RSt V0 d m p -> ∀ V sn s, E.Ok V0 a -> RK V0 d m p V sn s -> unR d m sn <= N -> Tri Tryz.prog 74 #[pv p, a.v, .int .i64 x] V (qBi V0 d m p sn fun n => evE d m (evM d m n) x a) :=
  fun a ha V0 S V sn s hok K hN => ihk a ha V0 S T _ x V sn s (hv.kids a ha) hok (qDu rfl (hty a ha)) hT K hN
 have kid0 : ∀ {i : Nat} {a : E}, e.k[i]? = some a -> KidR V0 d m p N x a := fun ha V sn s K hN => kid _ (List.mem_of_getElem? ha) V0 S V sn s (he.kids _ (List.mem_of_getElem? ha)) K hN
 have val : ∀ {a : E} {u : ByteArray} {w : Int}, a ∈ e.k -> qAr d (qAg d T) a = (u, 0) -> (∃ n, evE d m (evM d m n) x a = .ok w) -> qBj d m u w := fun hm hu ⟨n, hn⟩ => sound S.good hT (hv.kids _ hm) hu hn
 have con : ∀ (r : Rs), Mono fun _ => r := qEj
 have bad : ∀ {c : Int} {V1 : Mem} {sn1 : List qCA} {s1 : Sl}, c ≠ 0 -> RM V0 d m p V1 sn1 c s1 -> sn.length <= sn1.length -> Out d m (BzL sn) G (.bad c) -> qBi V0 d m p sn G (.returned (.int .i64 0)) V1 := fun hc h1 hle ho => ⟨0, .bad _, rfl, ho, .inr ⟨_, _, _, rfl, hc, h1, hle⟩⟩
 have one : ∀ {a : E} {h : Nat -> Int -> Rs}, e.k = [a] -> (∀ n, G n = (evE d m (evM d m n) x a).bind (h n)) -> ∀ {X : Sl -> Mem -> Prop}, (∀ l V1 w ext s1, qAd V1 l 1 ([w].map qAX) -> AllK ext -> RK V0 d m p V1 (sn ++ ext) s1 -> (∃ n, evE d m (evM d m n) x a = .ok w) ->
   (∀ {r V2}, qBi V0 d m p (sn ++ ext) (fun n => h n w) r V2 -> Mono (fun n => h n w) -> qBi V0 d m p sn G r V2) -> X l V1) -> (∀ l V1 c sn1 s1, c ≠ 0 -> RM V0 d m p V1 sn1 c s1 -> qBi V0 d m p sn G (.returned (.int .i64 0)) V1 -> X l V1) -> ∀ l V1, ArgSt V0 d m p sn x e.k e.k.length V1 l -> X l V1 := by
  intro a h hk hG' X hgood hbad l V1 hA
  obtain ⟨vals, hvl, hol, hst⟩ := hA
  rw [hk] at hvl hst
  obtain ⟨w, rfl⟩ : ∃ w, vals = [w] := list1 (by rw [hvl]; rfl)
  rcases hst with ⟨ext, s1, hx, K1, hvv⟩ | ⟨c, sn1, s1, j, q, hc, h1, hle, hq, hqo, hjs⟩
  ·obtain ⟨q, hq, hqo⟩ := hvv 0 w rfl
   cases hq
   exact hgood l V1 w ext s1 (hol.rows (fun _ => rfl) (by decide)) hx K1 hqo fun H mh => qBi.seq (h := h) hqo hx hG' (qAq x a) mh H
  ·have : j = 0 := by have := (List.getElem?_eq_some_iff.1 hq).1; simp at this; omega
   subst this
   cases hq
   exact hbad l V1 c sn1 s1 hc h1 (bad hc h1 hle ((Out.bindBad (h := h) hqo).congr fun n => (hG' n).symm))
 have hkl : ∀ {a : E}, e.k = [a] -> e.k.length <= 1000 := fun h => by rw [h]; simp
 refine Tri.mono (x74 (R := qBi V0 d m p sn G) ?_) fun _ _ h => h
 have two : ∀ {a b : E} {u w' : ByteArray}, (9 <= e.op /\ e.op <= 23 /\ e.op ≠ 18 /\ e.op ≠ 19 /\ e.op ≠ 20 /\ e.op ≠ 21) -> e.k = [a, b] -> qAr d (qAg d T) a = (u, 0) -> qAr d (qAg d T) b = (w', 0) -> w74 (sa p) e.op e.n e.s e.l x V (qBi V0 d m p sn G) := by
  intro a b u w' h hk ha hb
  unfold w74
  have h0 : e.k[0]? = some a := by rw [hk]; rfl
  have h1 : e.k[1]? = some b := by rw [hk]; rfl
  have hG' : ∀ n, G n = (evE d m (evM d m n) x a).bind fun w => (evE d m (evM d m n) x b).bind fun z => qCu e.op w z := fun n => by rw [hGn, qEc h, qBe h0, qBe h1]
  refine ⟨nn, nn, 0, K.rm.cell 11 1 (by decide), qAu rfl (qAB (by omega) (qAB (by omega) (qAB (by omega) (qAB (by omega) (qAB (by omega) (qAB (by omega) (qAB (by omega) ?_)))))))⟩
  refine qCB S he.rows he.kids (by rw [hk]; simp) kid K hN fun l V1 hA => ?_
  obtain ⟨vals, hvl, hol, hst⟩ := hA
  rw [hk] at hvl hst
  obtain ⟨w, z, rfl⟩ : ∃ w z, vals = [w, z] := list2 (by rw [hvl]; rfl)
  have mh : ∀ w, Mono fun n => (evE d m (evM d m n) x b).bind fun z => qCu e.op w z := fun w n n' hn => Rs.le.bind (qAq x b n n' hn) fun _ => .inr rfl
  rcases hst with ⟨ext, s1, hx, K1, hvv⟩ | ⟨c, sn1, s1, j, q, hc, h2, hle, hq, hqo, hjs⟩
  ·obtain ⟨q, hq, hqo⟩ := hvv 0 w rfl
   cases hq
   obtain ⟨q, hq, hqo2⟩ := hvv 1 z rfl
   cases hq
   have hr : qAd V1 l 1 ([w, z].map qAX) := hol.rows (fun _ => rfl) (by decide)
   obtain ⟨p1, p2, p3, p4⟩ := zeroV hr (i := 0) rfl
   obtain ⟨r1, r2, r3, r4⟩ := zeroV hr (i := 1) rfl
   have hva := qDr S.good (val (List.mem_of_getElem? h0) ha hqo)
   have hvb := qDr S.good (val (List.mem_of_getElem? h1) hb hqo2)
   refine ⟨nn, nn, 0, K1.rm.cell 11 1 (by decide), qAu rfl (qAB (by omega) (qAB (by omega) (qAB (by omega) (qAB (by omega) (qAB (by omega) ⟨p1, p2, p3, w, p4, r1, r2, r3, z, r4, Tri.mono (c119 S K1.rm hva hvb) ?_⟩)))))⟩
   rintro _ V2 ⟨v, rfl, hpu⟩
   have o1 : Out d m (BzL sn) (fun n => (evE d m (evM d m n) x b).bind fun z => qCu e.op w z) (qCu e.op w z) := Out.bindOk (qAq x b) (con _) hqo2 (Out.const _)
   have o2 : Out d m (BzL (sn ++ ext)) (fun n => (evE d m (evM d m n) x b).bind fun z => qCu e.op w z) (qCu e.op w z) := o1.imp fun a b ⟨pr, hpr, g⟩ => ⟨pr, List.mem_append_left _ hpr, g⟩
   exact ⟨v, rfl, qBi.seq (h := fun n w => (evE d m (evM d m n) x b).bind fun z => qCu e.op w z) hqo hx hG' (qAq x a) (mh w) (qBi.ofPure K1 o2 ⟨v, rfl, hpu⟩)⟩
  ·refine ⟨nn, nn, c, h2.cell 11 1 (by decide), qAB hc (bad hc h2 hle ?_)⟩
   have hj : j = 0 ∨ j = 1 := by have := (List.getElem?_eq_some_iff.1 hq).1; simp at this; omega
   rcases hj with rfl | rfl
   ·cases hq
    exact (Out.bindBad (h := fun n w => (evE d m (evM d m n) x b).bind fun z => qCu e.op w z) hqo).congr fun n => (hG' n).symm
   ·cases hq
    obtain ⟨q', a', hq', ho'⟩ := hjs 0 (by omega)
    cases hq'
    exact (Out.bindOk (h := fun n w => (evE d m (evM d m n) x b).bind fun z => qCu e.op w z) (qAq x a) (mh a') ho' (Out.bindBad (h := fun _ z => qCu e.op a' z) hqo)).congr fun n => (hG' n).symm
 have lz : ∀ {h : Nat -> Int -> Rs} {a : E}, e.k[0]? = some a -> qAr d (qAg d T) a = (qAt, 0) -> (∀ n, G n = (evE d m (evM d m n) x a).bind (h n)) ->
   (∀ w, w = 0 ∨ w = 1 -> (¬ e.op = 21 /\ ((decide (w = 1)) == (decide (e.op = 19))) = false /\ ∀ n, h n w = .ok w) ∨ ∃ (j : Nat) (b : E), e.k[j]? = some b /\ KidR V0 d m p N x b /\ (∀ n, h n w = evE d m (evM d m n) x b) /\ (e.op = 21 -> (w = 1 /\ j = 1) ∨ (w = 0 /\ j = 2)) /\ (¬ e.op = 21 -> ((decide (w = 1)) == (decide (e.op = 19))) = true /\ j = 1)) ->
   TT 115 #[uP (sa p), uA #[uI e.op, uI e.n, uS e.s, uL e.l], uI x] V fun r V1 => ∃ v7, r = rV (uI v7) /\ qBi V0 d m p sn G (rV (uI v7)) V1 := fun {h a} h0 ha hG' hw =>
  Tri.mono (lazyR S he K hN h0 (kid0 h0) hG' (fun w hw => qBs.1 (val (List.mem_of_getElem? h0) ha hw)) hw) fun r V1 H => by
   obtain ⟨v, rs, rfl, g⟩ := H
   exact ⟨v, rfl, v, rs, rfl, g⟩
 unfold w74
 have pure : ∀ {v : Int}, (∀ n, G n = .ok v) -> qBi V0 d m p sn G (.returned (.int .i64 v)) V := fun {v} h => qBi.ofPure K (rs := .ok v) ⟨0, h 0⟩ .ok
 cases kind (d := d) (sc := qAg d T) rfl hv ht with
 | int h hn =>
  refine ⟨nn, nn, 0, K.rm.cell 11 1 (by decide), qAu rfl ?_⟩
  exact qAu h (pure fun n => (hGn n).trans (comb1 (.inl h)))
 | bool h hn =>
  refine ⟨nn, nn, 0, K.rm.cell 11 1 (by decide), qAu rfl ?_⟩
  repeat refine qAB (h ▸ (by decide)) ?_
  exact qAu h (pure fun n => (hGn n).trans (comb1 (.inr h)))
 | nil h hn =>
  refine ⟨nn, nn, 0, K.rm.cell 11 1 (by decide), qAu rfl ?_⟩
  repeat refine qAB (h ▸ (by decide)) ?_
  refine qAu h ?_
  have hn : e.n = 0 := hn
  rw [hn]
  exact pure fun n => (hGn n).trans (comb3 h)
 | var h hl hne =>
  refine ⟨nn, nn, 0, K.rm.cell 11 1 (by decide), qAu rfl ?_⟩
  repeat refine qAB (h ▸ (by decide)) ?_
  exact qAu h ((c114 S K.rm hT hl hne).call ⟨_, rfl, pure fun n => (hGn n).trans (comb4 h)⟩)
 | @fld _ u a h hk ha hf =>
  refine ⟨nn, nn, 0, K.rm.cell 11 1 (by decide), qAu rfl ?_⟩
  have h0 : e.k[0]? = some a := by rw [hk]; rfl
  repeat refine qAB (h ▸ (by decide)) ?_
  refine qCB S he.rows he.kids (hkl hk) kid K hN (one (h := fun n w => qEm d m w e.s) hk (fun n => by rw [hGn, comb5 h, qBe h0]) (fun l V1 w ext s1 hr hx K1 hw fin => ?_) fun l V1 c sn1 s1 hc h1 H => ⟨nn, nn, c, h1.cell 11 1 (by decide), qAB hc H⟩)
  obtain ⟨p1, p2, p3, p4⟩ := zeroV hr (i := 0) rfl
  refine ⟨nn, nn, 0, K1.rm.cell 11 1 (by decide), qAu rfl (qAu h ⟨p1, p2, p3, w, p4, Tri.mono (c116 S K1.rm hf (val (List.mem_of_getElem? h0) ha hw)) ?_⟩)⟩
  rintro _ V2 ⟨v, rfl, hpu⟩
  exact ⟨v, rfl, fin (qBi.ofPure K1 (Out.const _) ⟨v, rfl, hpu⟩) (con _)⟩
 | @call u a ms i h hk ha hi hms hf =>
  refine ⟨nn, nn, 0, K.rm.cell 11 1 (by decide), qAu rfl ?_⟩
  have h0 : e.k[0]? = some a := by rw [hk]; rfl
  repeat refine qAB (h ▸ (by decide)) ?_
  refine qCB S he.rows he.kids (hkl hk) kid K hN (one (h := fun n w => evM d m n i w) hk (fun n => by rw [hGn, comb7 h, qBe h0, hi]) (fun l V1 w ext s1 hr hx K1 hw fin => ?_) fun l V1 c sn1 s1 hc h1 H => ⟨nn, nn, c, h1.cell 11 1 (by decide), qAB hc H⟩)
  obtain ⟨p1, p2, p3, p4⟩ := zeroV hr (i := 0) rfl
  refine ⟨nn, nn, 0, K1.rm.cell 11 1 (by decide), qAu rfl ?_⟩
  repeat refine qAB (h ▸ (by decide)) ?_
  refine qAu h ⟨nn, nn, _, _, _, _, _, _, _, _, K1.rm.cell 0 8 (by decide), p1, p2, p3, w, p4, (c32 (S.ds.sub K1.rm.own.sub)).call ⟨_, rfl, qBM p4, p1, p2, p3, ?_⟩⟩
  rw [hi]
  refine Tri.mono (hM V0 S i ms w V1 (sn ++ ext) s1 hms (qDe S.good.valid hf (val (List.mem_of_getElem? h0) ha hw)) K1 (Nat.le_trans unR_ext hN)) ?_
  rintro _ V2 ⟨v, rs, rfl, g⟩
  exact ⟨v, rfl, fin ⟨v, rs, rfl, g⟩ (qFe i w)⟩
 | @neg a h hk ha =>
  refine ⟨nn, nn, 0, K.rm.cell 11 1 (by decide), qAu rfl ?_⟩
  have h0 : e.k[0]? = some a := by rw [hk]; rfl
  repeat refine qAB (h ▸ (by decide)) ?_
  refine qCB S he.rows he.kids (hkl hk) kid K hN (one (h := fun n w => big (-w)) hk (fun n => by rw [hGn, comb8 h, qBe h0]) (fun l V1 w ext s1 hr hx K1 hw fin => ?_) fun l V1 c sn1 s1 hc h1 H => ⟨nn, nn, c, h1.cell 11 1 (by decide), qAB hc H⟩)
  obtain ⟨p1, p2, p3, p4⟩ := zeroV hr (i := 0) rfl
  have hval := qBm.1 (val (List.mem_of_getElem? h0) ha hw)
  refine ⟨nn, nn, 0, K1.rm.cell 11 1 (by decide), qAu rfl ?_⟩
  repeat refine qAB (h ▸ (by decide)) ?_
  refine qAu h ⟨p1, p2, p3, w, p4, ⟨by omega, by omega⟩, Tri.mono (c117 S K1.rm) ?_⟩
  rintro _ V2 ⟨v, rfl, hpu⟩
  rw [Int.zero_sub] at hpu
  exact ⟨v, rfl, fin (qBi.ofPure K1 (Out.const _) ⟨v, rfl, hpu⟩) (con _)⟩
 | @not a h hk ha =>
  refine ⟨nn, nn, 0, K.rm.cell 11 1 (by decide), qAu rfl ?_⟩
  have h0 : e.k[0]? = some a := by rw [hk]; rfl
  repeat refine qAB (h ▸ (by decide)) ?_
  refine qCB S he.rows he.kids (hkl hk) kid K hN (one (h := fun n w => .ok (1 - w)) hk (fun n => by rw [hGn, comb18 h, qBe h0]) (fun l V1 w ext s1 hr hx K1 hw fin => ?_) fun l V1 c sn1 s1 hc h1 H => ⟨nn, nn, c, h1.cell 11 1 (by decide), qAB hc H⟩)
  obtain ⟨p1, p2, p3, p4⟩ := zeroV hr (i := 0) rfl
  have hval := qBs.1 (val (List.mem_of_getElem? h0) ha hw)
  refine ⟨nn, nn, 0, K1.rm.cell 11 1 (by decide), qAu rfl ?_⟩
  repeat refine qAB (h ▸ (by decide)) ?_
  exact qAu h ⟨p1, p2, p3, w, p4, ⟨by omega, by omega⟩, fin (qBi.ofPure K1 (Out.const _) .ok) (con _)⟩
 | @log a h hk ha =>
  refine ⟨nn, nn, 0, K.rm.cell 11 1 (by decide), qAu rfl ?_⟩
  have h0 : e.k[0]? = some a := by rw [hk]; rfl
  repeat refine qAB (h ▸ (by decide)) ?_
  refine qCB S he.rows he.kids (hkl hk) kid K hN (one (h := fun n w => .ok (qHs w)) hk (fun n => by rw [hGn, comb24 h, qBe h0]) (fun l V1 w ext s1 hr hx K1 hw fin => ?_) fun l V1 c sn1 s1 hc h1 H => ⟨nn, nn, c, h1.cell 11 1 (by decide), qAB hc H⟩)
  obtain ⟨p1, p2, p3, p4⟩ := zeroV hr (i := 0) rfl
  have hval := qBm.1 (val (List.mem_of_getElem? h0) ha hw)
  refine ⟨nn, nn, 0, K1.rm.cell 11 1 (by decide), qAu rfl ?_⟩
  repeat refine qAB (h ▸ (by decide)) ?_
  exact qAu h ⟨p1, p2, p3, w, p4, (c118 (by omega)).call ⟨_, rfl, fin (qBi.ofPure K1 (Out.const _) .ok) (con _)⟩⟩
 | @and a b h hk ha hb =>
  refine ⟨nn, nn, 0, K.rm.cell 11 1 (by decide), qAu rfl ?_⟩
  have h0 : e.k[0]? = some a := by rw [hk]; rfl
  have h1 : e.k[1]? = some b := by rw [hk]; rfl
  repeat refine qAB (h ▸ (by decide)) ?_
  refine qAu h (lz (h := fun n w => if w = 0 then .ok 0 else evE d m (evM d m n) x b) h0 ha (fun n => by rw [hGn, comb19 h, qBe h0, qBe h1]) fun w hw => ?_)
  rcases hw with rfl | rfl
  ·exact .inl ⟨by omega, by rw [h]; decide, fun n => if_pos rfl⟩
  ·exact .inr ⟨1, b, h1, kid0 h1, fun n => if_neg (by decide), fun k => absurd (h.symm.trans k) (by decide), fun _ => ⟨by rw [h]; decide, rfl⟩⟩
 | @or a b h hk ha hb =>
  refine ⟨nn, nn, 0, K.rm.cell 11 1 (by decide), qAu rfl ?_⟩
  have h0 : e.k[0]? = some a := by rw [hk]; rfl
  have h1 : e.k[1]? = some b := by rw [hk]; rfl
  repeat refine qAB (h ▸ (by decide)) ?_
  refine qAu h (lz (h := fun n w => if w = 0 then evE d m (evM d m n) x b else .ok 1) h0 ha (fun n => by rw [hGn, comb20 h, qBe h0, qBe h1]) fun w hw => ?_)
  rcases hw with rfl | rfl
  ·exact .inr ⟨1, b, h1, kid0 h1, fun n => if_pos rfl, fun k => absurd (h.symm.trans k) (by decide), fun _ => ⟨by rw [h]; decide, rfl⟩⟩
  ·exact .inl ⟨by omega, by rw [h]; decide, fun n => if_neg (by decide)⟩
 | @cond a b c _ u w' h hk ha hb hc hu hw =>
  refine ⟨nn, nn, 0, K.rm.cell 11 1 (by decide), qAu rfl ?_⟩
  have h0 : e.k[0]? = some a := by rw [hk]; rfl
  have h1 : e.k[1]? = some b := by rw [hk]; rfl
  have h2 : e.k[2]? = some c := by rw [hk]; rfl
  repeat refine qAB (h ▸ (by decide)) ?_
  refine qAu h (lz (h := fun n w => if w = 0 then evE d m (evM d m n) x c else evE d m (evM d m n) x b) h0 ha (fun n => by rw [hGn, comb21 h, qBe h0, qBe h1, qBe h2]) fun w hw => ?_)
  rcases hw with rfl | rfl
  ·exact .inr ⟨2, c, h2, kid0 h2, fun n => if_pos rfl, fun _ => .inr ⟨rfl, rfl⟩, fun k => absurd h k⟩
  ·exact .inr ⟨1, b, h1, kid0 h1, fun n => if_neg (by decide), fun _ => .inl ⟨rfl, rfl⟩, fun k => absurd h k⟩
 | eq h hk ha hb => exact two (by omega) hk ha hb
 | cmp h hk ha hb => exact two (by omega) hk ha hb
 | ari h hk ha hb => exact two (by omega) hk ha hb
theorem exprAllR : ∀ N, ExprR d m p N := fun N => Nat.strongRecOn N fun N ih => exprRef N ih
end
section
variable {V0 V V1 V2 V' : Mem} {d : Ds} {m : Mm} {p : Nat} {sn : List qCA} {f x : Int} {s : Sl}
theorem c42 (h : RM V0 d m p V sn f s) {v : Int} : PP 42 [pv p, .int .i64 v] V (.tuple #[.int .i64 (if f = 0 then v else 0), .int .i64 f]) := by
 refine x42 ?_
 unfold w42
 refine ⟨nn, nn, f, h.cell 11 1 (by decide), fun h0 => ?_, fun h0 => ⟨nn, nn, f, h.cell 11 1 (by decide), ?_, nn, nn, ?_⟩⟩
 ·have h0 : f = 0 := h0
  rw [if_pos h0, h0]; exact ⟨rfl, rfl⟩
 ·rw [rowp_add0 V (sa p) 11 1]; exact h.cell 11 1 (by decide)
 ·rw [if_neg (show ¬ f = 0 from h0)]; exact ⟨rfl, rfl⟩
theorem refNew (G : qBr d m) (hd : Ds.Ok V d) (hm : Mm.Ok V m) (hp : V p = none) : RSt V d m p /\ RK V d m p (V.set p (.cells (rrow d m ⟨none, 0, 0⟩ 0).toArray 94 (0, 0))) [] ⟨none, 0, 0⟩ :=
 ⟨⟨G, hd, hm, hp⟩, ⟨Mem.set_same _ _ _, Own.nil (Mem.sub_new hp _) _ _⟩, (fun _ h => by simp at h), by
  unfold unR
  simp only [List.length_nil, Nat.zero_add]
  exact List.length_filter_le _ _⟩
theorem refTail {f : FuncId} {args : Array Value} {g : Nat -> Rs} {Q : Int -> Int -> Mem -> Prop} (H : Tri Tryz.prog f args V1 (qBi V d m p [] g)) (hQ : ∀ rs V3, V.sub V3 -> Out d m (fun _ _ => False) g rs -> Q (valRs rs) (errRs rs) V3) :
  Tri Tryz.prog f args V1 fun e V4 => ∃ v, e = .returned (.int .i64 v) /\ Tri Tryz.prog 42 #[pv p, .int .i64 v] V4 fun e V5 => ∃ v2 v3, e = .returned (.tuple #[.int .i64 v2, .int .i64 v3]) /\ Q v2 v3 V5 := by
 refine Tri.mono H ?_
 rintro _ V4 ⟨v, rs, rfl, ho, hres⟩
 have ho := ho.imp (B' := fun _ _ => False) fun a b ⟨pr, hpr, _⟩ => by simp at hpr
 refine ⟨v, rfl, ?_⟩
 rcases hres with ⟨a, ext, s1, rfl, rfl, -, K1⟩ | ⟨c, sn1, s1, rfl, hc, h1, -⟩
 ·exact (c42 K1.rm).call ⟨_, _, rfl, by rw [if_pos rfl]; exact hQ _ _ K1.rm.own.sub ho⟩
 ·exact (c42 h1).call ⟨_, _, rfl, by rw [if_neg hc]; exact hQ _ _ h1.own.sub ho⟩
end
section
variable {V0 V V1 V2 V' : Mem} {d : Ds} {m : Mm} {p : Nat} {x : Int}
theorem deepC {b t : Nat} : ∀ (e : E) (V0 V : Mem) (left n : Int), V0 b = none -> E.Ok V0 e -> V0.sub V -> V b = some (cell (.int .i64 left) t) -> 0 <= left -> left <= 1000 -> 0 <= n -> n <= 66 ->
  Tri Tryz.prog 27 #[e.v, pv b, .int .i64 n] V fun r V' => V0.sub V' /\ ∃ (r' : Bool) (l' : Int), r = .returned (.bool r') /\ V' b = some (cell (.int .i64 l') t) /\ (r' = false -> 0 <= l' /\ l' <= 1000) := by
 intro e
 induction e using E.ind with
 | h e ih =>
 intro V0 V left n hb0 he hV hb h0 h1 hn0 hn
 refine x27 ?_
 unfold w27
 refine ⟨nn, left, qBh hb, ⟨by omega, by omega⟩, nn, StT.cell hb ⟨nn, left - 1, qBh mss, ?_⟩⟩
 have s1 : V0.sub (V.set b (cell (.int .i64 (left - 1)) t)) := hV.set hb0 _
 have yes : (V0.sub (V.set b (cell (.int .i64 (left - 1)) t)) /\ ∃ (r' : Bool) (l' : Int), Ending.returned (.bool true) = .returned (.bool r') /\ (V.set b (cell (.int .i64 (left - 1)) t)) b = some (cell (.int .i64 l') t) /\ (r' = false -> 0 <= l' /\ l' <= 1000)) :=
  ⟨s1, true, left - 1, rfl, Mem.set_same _ _ _, fun h => by cases h⟩
 refine ⟨fun _ => yes, fun h2 => ⟨fun _ => yes, fun h3 => ⟨fun _ => yes, fun _ b1 hb1 b2 hb2 => ?_⟩⟩⟩
 have h2 : ¬ left - 1 < 0 := h2
 have h3 : ¬ 65 < n := h3
 have c1 := Mem.sub_new hb1 (cell (pv b) 71)
 have c2 := Mem.sub_new hb2 (cell (.int .i64 n) 3)
 have n1 : b1 ≠ b := fun e => by rw [e, Mem.set_same] at hb1; cases hb1
 have n2 : b2 ≠ b := fun e => by rw [e, Mem.set_ne (fun e => n1 e.symm), Mem.set_same] at hb2; cases hb2
 refine Tri.mono (g57 (l := e.l) (xs := e.k) (first := []) (caps := [pv b1, pv b2]) Tryz.call58
  (fun _ A => V0.sub A /\ A b1 = some (cell (pv b) 71) /\ A b2 = some (cell (.int .i64 n) 3) /\ ∃ lf, A b = some (cell (.int .i64 lf) t) /\ 0 <= lf /\ lf <= 1000) (fun _ A => V0.sub A /\ ∃ lf, A b = some (cell (.int .i64 lf) t)) ?_
  ⟨s1.trans (c1.trans c2), c2 _ _ mss, Mem.set_same _ _ _, left - 1, c2 _ _ (c1 _ _ mss), by omega, by omega⟩ ?_) ?_
 ·rintro i A ⟨hA, -⟩; exact he.rows.sub hA
 ·rintro i y A hy ⟨hA, a1, a2, lf, a3, l0, l1⟩
  have hm := List.mem_of_getElem? hy
  refine x58 ?_
  unfold w58
  have hW : V0.sub (Mem.no3 A b b b) := fun c o hc => qHk (hA _ _ hc) (fun e => by rw [e, hb0] at hc; cases hc) (fun e => by rw [e, hb0] at hc; cases hc) (fun e => by rw [e, hb0] at hc; cases hc)
  refine ⟨_, qBh a1, _, qBh a2, ⟨by omega, by omega⟩, Tri.mono (ih y hm (Mem.no3 A b b b) A lf (n + 1) (qFb (.inl rfl)) ((he.kids y hm).sub hW) (no3_sub A b b b) a3 l0 l1 (by omega) (by omega)) ?_⟩
  rintro _ A' ⟨hA', r', l', rfl, q1, q2⟩
  refine ⟨r', rfl, r', rfl, fun _ => ⟨hW.trans hA', l', q1⟩, fun hr => ⟨hW.trans hA', hA' _ _ (qHk a1 n1 n1 n1), hA' _ _ (qHk a2 n2 n2 n2), l', q1, q2 hr⟩⟩
 ·rintro _ A (⟨i, rfl, hA, lf, a3⟩ | ⟨rfl, hA, a1, a2, lf, a3, l0, l1⟩)
  ·exact ⟨true, rfl, hA, true, lf, rfl, a3, fun h => by cases h⟩
  ·exact ⟨false, rfl, hA, false, lf, rfl, a3, fun _ => ⟨l0, l1⟩⟩
theorem c66 (G : qBr d m) (hd : Ds.Ok V d) (hm : Mm.Ok V m) {e : E} {T t : ByteArray} (hv : VE e) (he : E.Ok V e) (ht : qAr d (qAg d T) e = (t, 0)) (hT : This d m T x) :
  Tri Tryz.prog 66 #[d.v, m.v, e.v, .int .i64 x] V fun r V' => V.sub V' /\ ∃ rs, r = .returned (.tuple #[.int .i64 (valRs rs), .int .i64 (errRs rs)]) /\ Out d m (fun _ _ => False) (fun n => evE d m (evM d m n) x e) rs := by
 refine x66 ?_
 unfold w66
 intro b hb
 obtain ⟨S, K⟩ := refNew G hd hm hb
 exact refTail (exprAllR _ V S e T t x _ [] ⟨none, 0, 0⟩ hv he ht hT K (Nat.le_refl _)) fun rs V3 hs ho => ⟨hs, rs, rfl, ho⟩
theorem c30 (hd : Ds.Ok V d) (hm : Mm.Ok V m) {e : E} (he : E.Ok V e) (hv : qAJ e = true) : Tri Tryz.prog 30 #[d.v, m.v, e.v, .int .i64 x] V fun r V' => V.sub V' /\ ∃ v f, r = .returned (.tuple #[.int .i64 v, .int .i64 f]) /\ ExpP d m e x v f := by
 refine x30 ?_
 unfold w30
 have ret : ∀ {V1 : Mem} {v f : Int}, V.sub V1 -> ExpP d m e x v f -> V.sub V1 /\ ∃ v' f', Ending.returned (.tuple #[.int .i64 v, .int .i64 f]) = .returned (.tuple #[.int .i64 v', .int .i64 f']) /\ ExpP d m e x v' f' := fun hs hp => ⟨hs, _, _, rfl, hp⟩
 have sr := Mem.sub.refl V
 have hnn := hm.nodes.n_eq
 refine (c14 hd hm).call ⟨_, rfl, fun hg => ?_, fun hg => ?_⟩
 rotate_left
 ·have hg : ¬ (if gB d m = true then (0 : Int) else 1) = 0 := hg
  have hb : ¬ gB d m = true := fun h => hg (if_pos h)
  rw [if_neg hb]; exact ret sr (.arg fun h => hb (gB_iff.2 h.1))
 have G : qBr d m := gB_iff.1 (by
  have hg : (if gB d m = true then (0 : Int) else 1) = 0 := hg
  by_cases h : gB d m = true
  ·exact h
  ·rw [if_neg h] at hg; cases hg)
 refine ⟨fun h1 => ret sr (.range G hv fun k => absurd k.1 (by have h1 : x < 0 := h1; omega)), fun h1 => ⟨fun h2 => ret sr (.range G hv fun k => absurd k.2 (by have h2 : (m.ns.n : Int) < x := h2; omega)), fun h2 => ?_⟩⟩
 have h1 : 0 <= x /\ x <= (m.nodes.length : Int) := by
  have h1 : ¬ x < 0 := h1
  have h2 : ¬ (m.ns.n : Int) < x := h2
  omega
 refine (c31 G hd hm h1).call ⟨_, rfl, Tri.mono (qCR hd (vparts G.valid).small.1) ?_⟩
 rintro _ V3 ⟨s', rfl, s3, hr⟩
 refine ⟨_, _, rfl, (qJn (hd.sub s3) hr e (he.sub s3) 1 (qDd hv) V3 (Mem.sub.refl _)).call ⟨_, _, rfl, fun h2 => ?_, fun h2 => ret s3 (.type G hv h1 h2)⟩⟩
 have h2 : (qAr d (qAg d (qFA d m x)) e).2 = 0 := h2
 refine Tri.mono (c66 G (hd.sub s3) (hm.sub s3) (VE.of_valid hv) (he.sub s3) (t := (qAr d (qAg d (qFA d m x)) e).1) (Prod.ext rfl h2) (qES G h1.1 h1.2)) ?_
 rintro _ V4 ⟨s4, rs, rfl, ho⟩
 exact ⟨_, _, rfl, ret (s3.trans s4) (.val G hv h1 h2 rs ho)⟩
theorem ExpP.eq {e : E} {v w v' w' : Int} (H : ExpP d m e x v w) (H' : ExpP d m e x v' w') : v = v' /\ w = w' := by
 cases H with
 | arg h => cases H' with
  | arg k => exact ⟨rfl, rfl⟩
  | range k k0 k1 => exact absurd ⟨k, k0⟩ h
  | type k k0 k1 k2 => exact absurd ⟨k, k0⟩ h
  | val k k0 k1 k2 rs ho => exact absurd ⟨k, k0⟩ h
 | range h h0 h1 => cases H' with
  | arg k => exact absurd ⟨h, h0⟩ k
  | range k k0 k1 => exact ⟨rfl, rfl⟩
  | type k k0 k1 k2 => exact absurd k1 h1
  | val k k0 k1 k2 rs ho => exact absurd k1 h1
 | type h h0 h1 h2 => cases H' with
  | arg k => exact absurd ⟨h, h0⟩ k
  | range k k0 k1 => exact absurd h1 k1
  | type k k0 k1 k2 => exact ⟨rfl, rfl⟩
  | val k k0 k1 k2 rs ho => exact absurd k2 h2
 | val h h0 h1 h2 rs ho => cases H' with
  | arg k => exact absurd ⟨h, h0⟩ k
  | range k k0 k1 => exact absurd h1 k1
  | type k k0 k1 k2 => exact absurd h2 k2
  | val k k0 k1 k2 rs' ho' => rw [Out.unique (qAq x e) ho ho']; exact ⟨rfl, rfl⟩
theorem c8 [Tab V] (hd : Ds.Ok V d) (hm : Mm.Ok V m) {e : E} (he : E.Ok V e) : PP 8 [d.v, m.v, e.v, .int .i64 x] V (.bool true) := by
 refine Pur.mk (x8 ?_)
 unfold w8
 refine c10.call ⟨_, rfl, fun _ => Tri.mono (largeC hd hm) ?_, fun h => absurd rfl h⟩
 rintro _ _ ⟨rfl, b, rfl⟩
 refine ⟨_, rfl, fun _ => ⟨rfl, Mem.sub.refl _⟩, fun _ b1 hb1 => ?_⟩
 have s1 := Mem.sub_new hb1 (cell (.int .i64 150) 3)
 refine Tri.mono (deepC e V _ 150 1 hb1 he s1 mss (by omega) (by omega) (by omega) (by omega)) ?_
 rintro _ V4 ⟨s4, r', l', rfl, -⟩
 refine ⟨r', rfl, fun _ => ⟨rfl, s4⟩, fun _ => ?_⟩
 haveI : Tab V4 := Tab.sub (V := V) inferInstance s4
 refine Tri.mono (c28 (hd.sub s4) (hm.sub s4) (he.sub s4)) ?_
 rintro _ _ ⟨rfl, v, w, rfl, H⟩
 refine ⟨_, _, rfl, (c29 (he.sub s4)).call ⟨_, rfl, fun hv => ?_, fun hv => ?_⟩⟩
 ·refine Tri.mono (c30 (hd.sub s4) (hm.sub s4) (he.sub s4) hv) ?_
  rintro _ V5 ⟨s5, v', w', rfl, H'⟩
  obtain ⟨rfl, rfl⟩ := H.eq H'
  exact ⟨_, _, rfl, fun _ => ⟨by rw [decide_eq_true rfl], s4.trans s5⟩, fun h => absurd rfl h⟩
 ·have hv : ¬ qAJ e = true := hv
  obtain ⟨rfl, rfl⟩ : v = 0 /\ w = 1 := H.eq (.arg fun h => hv h.2)
  exact ⟨fun _ => ⟨rfl, s4⟩, fun h => absurd rfl h⟩
end
end Go.Proofs
namespace Go.Proofs.YtnoompnjibfbfaaGreatDoor
open Go
set_option maxRecDepth 100000
theorem qEM {a b : Bool} (h : a = true) (k : b = true) : (a && b) = true := by rw [h, k]; rfl
theorem iexprs_j1 : (Rows.invariantExprsRow.wf (OpenSpec.ofChange Rows.invariantExprsSpec)) = true := by kernel_rfl
theorem iexprs_j2 : (laidOutB Tryz.prog) = true := by kernel_rfl
theorem iexprs_j3 : (mapsRowed Tryz.prog) = true := by kernel_rfl
theorem iexprs_j4 : (Tryz.f8.params.all (Tryz.prog.readableRec ·)) = true := by kernel_rfl
theorem iexprs_j5 : (namedTie Tryz.prog Rows.invariantExprsRow.named Rows.invariantExprsSpec.vars) = true := by kernel_rfl
theorem iexprs_j6 : ((Rows.invariantExprsRow.stops == [])) = true := by kernel_rfl
theorem iexprs_j7 : ((Tryz.prog.stops == [])) = true := by kernel_rfl
theorem iexprs_j8 : ((Rows.invariantExprsRow.knobs == [])) = true := by kernel_rfl
theorem iexprs_j9 : ((Tryz.prog.stopKnobs == [])) = true := by kernel_rfl
theorem iexprs_j10 : ((Rows.invariantExprsRow.inPlace == Tryz.prog.inPlace 8)) = true := by kernel_rfl
theorem iexprs_j11 : ((Rows.invariantExprsRow.unfollowed == Tryz.prog.unfollowed 8)) = true := by kernel_rfl
theorem iexprs_j12 : ((Rows.invariantExprsRow.recurses == Tryz.prog.recurses 8)) = true := by kernel_rfl
theorem iexprs_j13 : ((Rows.invariantExprsRow.named == Tryz.prog.varsNamed 8)) = true := by kernel_rfl
theorem iexprs_j14 : ((Rows.invariantExprsRow.maps == (Tryz.f8.params.toList ++ Rows.invariantExprsSpec.plain.varTypes Tryz.prog).any (Tryz.prog.mapsRec ·))) = true := by kernel_rfl
theorem iexprs_j15 : ((Rows.invariantExprsRow.ifaces == (Tryz.f8.params.toList ++ Rows.invariantExprsSpec.plain.varTypes Tryz.prog).any (Tryz.prog.ifacesRec ·))) = true := by kernel_rfl
theorem iexprs_j16 : ((Rows.invariantExprsRow.mapsOut == Tryz.prog.mapsAmong Tryz.f8.resultTypes.toList)) = true := by kernel_rfl
theorem iexprs_j17 : ((Rows.invariantExprsRow.loops == (Tryz.f8.params.toList ++ Rows.invariantExprsSpec.plain.varTypes Tryz.prog).any (Tryz.prog.loopsFrom ·))) = true := by kernel_rfl
theorem iexprs_j18 : ((Rows.invariantExprsRow.wideKeys == (Tryz.f8.params.toList ++ Rows.invariantExprsSpec.plain.varTypes Tryz.prog ++ Tryz.f8.resultTypes.toList).any (Tryz.prog.wideKeysFrom ·))) = true := by kernel_rfl
theorem iexprs_j19 : (Rows.invariantExprsSpec.vars.all (Tryz.prog.varReadable ·)) = true := by kernel_rfl
theorem iexprs_j20 : (Tryz.f8.resultTypes.all (fun t => Tryz.prog.readableRec t && decide (t < Tryz.prog.types.size))) = true := by kernel_rfl
theorem iexprs_j21 : ((Rows.invariantExprsRow.ifacesOut == Tryz.f8.resultTypes.toList.any (Tryz.prog.ifacesRec ·))) = true := by kernel_rfl
theorem iexprs_j22 : ((Rows.invariantExprsRow.loopsOut == Tryz.f8.resultTypes.toList.any (Tryz.prog.loopsFrom ·))) = true := by kernel_rfl
theorem iexprs_j23 : ((Rows.invariantExprsRow.plainKeys == Tryz.prog.plainKeys)) = true := by kernel_rfl
theorem iexprs_j24 : (Rows.invariantExprsRow.shortTexts.isNone) = true := by kernel_rfl
theorem iexprs_j25 : (Tryz.prog.stopsHeard) = true := by kernel_rfl
theorem iexprs_j26 : (Tryz.prog.mayEnter) = true := by kernel_rfl
theorem iexprs_j27 : ((Rows.invariantExprsRow.lifted == Tryz.prog.liftsFinal)) = true := by kernel_rfl
theorem iexprs_j28 : ((Tryz.prog.make == some Rows.invariantExprsRow.make)) = true := by kernel_rfl
theorem iexprs_j29 : ((Rows.invariantExprsRow.kinds == (if Rows.invariantExprsRow.domain.isEmpty then [] else Tryz.f8.params.toList.map fun t => match Tryz.prog.underlying t with | some (.int k) => some k | _ => none))) = true := by kernel_rfl
theorem iexprs_j30 : ((Rows.invariantExprsRow.pinned == Rows.invariantExprsRow.pinnedBy)) = true := by kernel_rfl
theorem iexprs_j31 : ((Rows.invariantExprsRow.veiled == (Tryz.f8.params.toList ++ Rows.invariantExprsSpec.plain.varTypes Tryz.prog ++ Tryz.f8.resultTypes.toList).any (Tryz.prog.veiledRec ·))) = true := by kernel_rfl
theorem iexprs_j32 : (Rows.invariantExprsRow.veiledFits Tryz.prog Tryz.f8.params.toList (Tryz.f8.params.toList ++ Rows.invariantExprsSpec.plain.varTypes Tryz.prog ++ Tryz.f8.resultTypes.toList)) = true := by kernel_rfl
theorem iexprs_facts : joinedFacts Tryz.prog 8 Tryz.f8 Rows.invariantExprsSpec Rows.invariantExprsRow = true := (qEM (qEM (qEM (qEM (qEM (qEM (qEM (qEM (qEM (qEM (qEM (qEM (qEM (qEM (qEM (qEM (qEM (qEM (qEM (qEM (qEM (qEM (qEM (qEM (qEM (qEM (qEM (qEM (qEM (qEM (qEM iexprs_j1 iexprs_j2) iexprs_j3) iexprs_j4) iexprs_j5) iexprs_j6) iexprs_j7) iexprs_j8) iexprs_j9) iexprs_j10) iexprs_j11) iexprs_j12) iexprs_j13) iexprs_j14) iexprs_j15) iexprs_j16) iexprs_j17) iexprs_j18) iexprs_j19) iexprs_j20) iexprs_j21) iexprs_j22) iexprs_j23) iexprs_j24) iexprs_j25) iexprs_j26) iexprs_j27) iexprs_j28) iexprs_j29) iexprs_j30) iexprs_j31) iexprs_j32)
end Go.Proofs.YtnoompnjibfbfaaGreatDoor
