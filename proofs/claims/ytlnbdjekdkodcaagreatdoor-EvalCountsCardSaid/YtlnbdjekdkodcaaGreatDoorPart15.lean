/- Part 15 of a proof of a law of this seat: no statement of the seat is proved here. -/
import Derived.Test.YtlnbdjekdkodcaaGreatDoorPart14
import Derived.Test.YtlnbdjekdkodcaaGreatDoorPart11
import Derived.Test.YtlnbdjekdkodcaaGreatDoorPart10
import Derived.Test.YtlnbdjekdkodcaaGreatDoorPart13
import Derived.DefersIn
import Derived.RecoverIn
import Derived.Test.YtlnbdjekdkodcaaGreatDoorPart05
set_option linter.unusedVariables false
set_option linter.unusedSimpArgs false
namespace Go.Proofs
open Go Go.Sx
attribute [local irreducible] Go.Sx.Tri
theorem own_zero {V0 V : Mem} {e : TypeId} {sz : Nat} {s : Sl} {vs : List Value} (h : Sx.Own V0 V e sz s vs) : Sx.Own V0 V e sz ⟨s.p, 0, s.c⟩ [] := ⟨h.sub, by simp, by
 rcases h.at_ with ⟨h1, h2, h3⟩ | ⟨g, cur, h1, h2, h3, h4, h5, h6, h7⟩
 ·exact .inl ⟨rfl, h2, rfl⟩
 ·exact .inr ⟨g, cur, h1, h2, h3, Nat.zero_le _, h5, h6, by simp⟩⟩
theorem own_to {V0 V V0' V' : Mem} {e : TypeId} {sz : Nat} {s : Sl} {vs : List Value} (h : Sx.Own V0 V e sz s vs) (hs : V0'.sub V') (hk : ∀ g o, Blk s g -> V0 g = none -> V g = some o -> V0' g = none /\ V' g = some o) : Sx.Own V0' V' e sz s vs := ⟨hs, h.len, by
 rcases h.cases0 with h1 | ⟨hc, g, cur, h1, h2, h3, h4⟩
 ·exact .inl h1
 ·exact .inr ⟨g, cur, h1, (hk g _ ⟨hc, h1⟩ h2 h3).1, (hk g _ ⟨hc, h1⟩ h2 h3).2, h4⟩⟩
theorem own_p0 {V0 V : Mem} {e : TypeId} {sz : Nat} {s : Sl} {vs : List Value} (h : Sx.Own V0 V e sz s vs) (hc : s.c ≠ 0) (m : Nat) : qAb s.p (0 * m) = s.p := by
 rw [Nat.zero_mul]
 rcases h.at_ with ⟨h1, h2, h3⟩ | ⟨g, cur, h1, -⟩
 ·exact absurd h2 hc
 ·rw [h1]; rfl
theorem az31 {V0 V : Mem} {ty : TypeId} {x y : Operand} {vals : Operand -> Value} {s : Sl} {n : Nat} {vs : List Int} (hx : vals x = .slice s.p s.n s.c) (hy : vals y = .int .i64 n) (own : Sx.Own V0 V 3 1 s (vs.flatMap qAq)) (hfit : s.n + n <= 2147483648) {q : Value -> Mem -> Prop}
  (hq : ∀ (s' : Sl) V', Sx.Own V0 V' 3 1 s' ((vs ++ List.replicate n (0 : Int)).flatMap qAq) -> q (.slice s'.p s'.n s'.c) V') : GenK Tryz.prog (.call { callee := .builtin .append, args := #[x, y], argTypes := #[31, 3] }) ty vals V q :=
 Go.Sx.GenK.appendZ (z := .int .i64 0) (i := ti 3) (k := .i64) Tryz.underlying31 Tryz.underlying3 (by kernel_rfl) (by kernel_rfl) (by kernel_rfl) (by kernel_rfl) (by decide) (of_decide_eq_true (by kernel_rfl)) (fun u hu => by
  have hc : (Value.int .i64 0).cells = #[Value.int .i64 0] := by simp [Value.cells]
  rw [hc] at hu; simp at hu; subst hu; rfl) hx hy own hfit fun s' V' h => hq s' V' (by
  rw [List.flatMap_append]
  have e : (List.replicate n (0 : Int)).flatMap qAq = (Builtin.zeroCells (Value.int .i64 0).cells n).toList := by rw [qHS, qBb, List.map_replicate]
  rw [e]; exact h)
theorem az23 {V0 V : Mem} {ty : TypeId} {x y : Operand} {vals : Operand -> Value} {s : Sl} {n : Nat} {vs : List Value} (hx : vals x = .slice s.p s.n s.c) (hy : vals y = .int .i64 n) (own : Sx.Own V0 V 81 2 s vs) (hfit : s.n + n <= 2147483648) {q : Value -> Mem -> Prop}
  (hq : ∀ (s' : Sl) V' ws, Sx.Own V0 V' 81 2 s' ws -> q (.slice s'.p s'.n s'.c) V') : GenK Tryz.prog (.call { callee := .builtin .append, args := #[x, y], argTypes := #[23, 3] }) ty vals V q :=
 Go.Sx.GenK.appendZ (z := .agg #[.string (qAo []), .string (qAo [])]) (i := ti 81) (k := .i64) Tryz.underlying23 Tryz.underlying3 (by kernel_rfl) (by kernel_rfl) (by kernel_rfl) (by kernel_rfl) (by decide) (of_decide_eq_true (by kernel_rfl)) (fun u hu => by
  have hc : (Value.agg #[.string (qAo []), .string (qAo [])]).cells = #[.string (qAo []), .string (qAo [])] := by simp [Value.cells]
  rw [hc] at hu; simp at hu; subst hu; rfl) hx hy own hfit fun s' V' h => hq s' V' _ h
theorem c137 {V : Mem} {n : Nat} (hn : n <= 2147483648) : Tri Tryz.prog 137 #[.slice none 0 0, .int .i64 n] V fun e V' => ∃ s : Sl, e = .returned (.slice s.p s.n s.c) /\ Sx.Own V V' 81 2 s [] := by
 refine x137 (a := ⟨none, 0, 0⟩) (b := n) ?_
 unfold w137
 have e : (n : Int) - (((0 : Nat) : Int) - ((0 : Nat) : Int)) = n := by omega
 refine qAs (by omega) ⟨⟨by simp, by simp⟩, ⟨by rw [e]; omega, by rw [e]; omega⟩, fun h => ⟨⟨by omega, by omega, by omega⟩, ?_⟩, fun h => ⟨⟨none, 0, 0⟩, rfl, Own.nil (Mem.sub.refl _) _ _⟩⟩
 refine az23 (s := ⟨none, 0, 0⟩) (n := n) (vs := []) (V0 := V) rfl (by show Value.int .i64 _ = _; rw [e]) (Own.nil (Mem.sub.refl _) _ _) (by simpa using hn) fun s' V' ws ho => ⟨s', rfl, ⟨by omega, by omega, by simp⟩, ⟨s'.p, 0, s'.c⟩, ?_, own_zero ho⟩
 by_cases hc : s'.c = 0
 ·simp [hc]
 ·rw [if_neg (by omega), show ((0 : Int).toNat * 2) = 0 * 2 from rfl, own_p0 ho hc]; simp
theorem c100 {V : Mem} {sl a b : Sl} {xs ys : List Fld} (h : qAc V sl 1 ([a, b].map fun s : Sl => [s.v])) (ha : qAc V a 2 (xs.map Fld.row)) (hb : qAc V b 2 (ys.map Fld.row)) (hx : xs.length <= 100) (hy : ys.length <= 100) :
  Tri Tryz.prog 100 #[sl.v] V fun e V' => ∃ s : Sl, e = .returned (.slice s.p s.n s.c) /\ Sx.Own V V' 81 2 s ((xs ++ ys).flatMap Fld.row) := by
 have han := ha.n_eq
 have hbn := hb.n_eq
 refine x100 ?_
 unfold w100
 refine qGD (mk := fun k : Int => .int .i64 k) (b0 := 0) qHj 2 (fun i k V1 => V1 = V /\ k = (((([a, b].take i).map (fun s : Sl => s.n)).sum : Nat) : Int)) ⟨rfl, rfl⟩ ?_
 rintro i k V1 J hi ⟨rfl, rfl⟩ hJ
 refine ⟨fun hlt => ?_, fun hge => ?_⟩
 ·obtain ⟨u, hum, hu, hdr, hil, hp, hz, hrow⟩ := h.get hlt
  have hun : u.n <= 100 := by
   simp only [List.mem_cons, List.not_mem_nil, or_false] at hum
   rcases hum with rfl | rfl <;> omega
  have hs : (([a, b].take (i + 1)).map (fun s : Sl => s.n)).sum = (([a, b].take i).map (fun s : Sl => s.n)).sum + u.n := by rw [List.take_add_one, hu]; simp
  have hs2 : (([a, b].take i).map (fun s : Sl => s.n)).sum <= 200 := by
   rcases (show i = 0 ∨ i = 1 by simp at hil; omega) with rfl | rfl
   ·simp
   ·simp; omega
  refine ⟨hp, hz, hlt, u, hrow, ⟨by omega, by omega⟩, qAs (by omega) ⟨h.succ hlt, hJ hil _ _ ⟨rfl, by rw [hs, Int.natCast_add]⟩⟩⟩
 ·have h2 := (h.done hge).2
  have hi2 : i = 2 := by simp at h2; omega
  subst hi2
  refine Tri.mono (c137 (by simp; omega)) ?_
  rintro _ V2 ⟨s0, rfl, ho0⟩
  refine ⟨s0, rfl, qGD (mk := fun s : Sl => .slice s.p s.n s.c) (b0 := s0) qFx 2 (fun j s V3 => Sx.Own V1 V3 81 2 s ((([xs, ys].take j).flatten).flatMap Fld.row)) ho0 ?_⟩
  rintro j s V3 J1 hj ho hJ1
  have h' := h.sub ho.sub
  refine ⟨fun hlt => ?_, fun hge => ?_⟩
  ·obtain ⟨u, hum, hu, hdr, hil, hp, hz, hrow⟩ := h'.get hlt
   obtain ⟨zs, hzs, hzr, hzl⟩ : ∃ zs, [xs, ys][j]? = some zs /\ qAc V3 u 2 (zs.map Fld.row) /\ ([xs, ys].take j).flatten.length + zs.length <= 2147483648 := by
    rcases (show j = 0 ∨ j = 1 by simp at hil; omega) with rfl | rfl
    ·simp at hu; subst hu; exact ⟨xs, rfl, ha.sub ho.sub, by simp; omega⟩
    ·simp at hu; subst hu; exact ⟨ys, rfl, hb.sub ho.sub, by simp; omega⟩
   refine ⟨hp, hz, hlt, u, hrow, app23 (s := s) (u := u) (xs := ([xs, ys].take j).flatten) (ys := zs) rfl rfl ho hzr hzl fun s' V' ho' => ⟨s', rfl, h'.succ hlt, hJ1 hil _ _ ?_⟩⟩
   rw [List.take_add_one, hzs]; simpa using ho'
  ·have h3 := (h'.done hge).2
   have hj2 : j = 2 := by simp at h3; omega
   subst hj2
   exact ⟨s, rfl, by simpa using ho⟩
theorem runC {d : Ds} {p F n : Nat} (H : SC d p F n) : CallC d p F n := by
 intro V0 V s c i pr args l hS hpr G ha hl M htk hn hw
 obtain ⟨G', hG⟩ : ∃ G' : Rx Int, G' = qCJ d (qEv d F n) c i args s := ⟨_, rfl⟩
 rw [<- hG]
 have hpm := List.mem_of_getElem? hpr
 have hpo := hS.procs pr hpm
 have hok := hS.ds.procsOk pr hpm
 refine Tri.mono (x69 (R := PX V0 d p F c G') ?_) fun _ _ h => h
 unfold w69
 obtain ⟨gs, ns, ls, nd, hat, L⟩ := M.ex
 unfold qCJ at hG
 refine ⟨nn, nn, _, qAd hat 12 1 (by simp [qBw]), fun h2 => qHk (PX.bad (by rw [hG, if_pos (by omega)]) M), fun h2 => ?_⟩
 rw [if_neg (by omega), Int.toNat_natCast, hpr] at hG
 refine ⟨nn, nn, _, qAd hat 12 1 (by simp [qBw]), ⟨by omega, by omega⟩, nn, nn, StT.at2 (off := 12) hat (by simp [qBw]) ?_⟩
 have M1 : EM V0 d p F (V.set p (.cells (qBw d F s.tk ((c + 1 : Nat) : Int) s.cm gs ns ls).toArray 98 (0, 0))) s (c + 1) := MA.set (row' := qBw d F s.tk ((c + 1 : Nat) : Int) s.cm) ntE M.p0 hat L rfl rfl rfl rfl
 obtain ⟨V1, hV1⟩ : ∃ V1, V1 = V.set p (.cells (qBw d F s.tk ((c + 1 : Nat) : Int) s.cm gs ns ls).toArray 98 (0, 0)) := ⟨_, rfl⟩
 rw [<- hV1] at M1
 show qAB _ _ (V.set p (.cells (qBw d F s.tk ((c + 1 : Nat) : Int) s.cm gs ns ls).toArray 98 (0, 0))) _
 rw [<- hV1]
 intro b1 hb1
 obtain ⟨V2, hV2⟩ : ∃ V2, V2 = V1.set b1 (.cells #[.slice pr.ps.p pr.ps.n pr.ps.c, .slice pr.ls.p pr.ls.n pr.ls.c] 23 (0, 0)) := ⟨_, rfl⟩
 have s12 : V1.sub V2 := hV2 ▸ Mem.sub_new hb1 _
 have s02 := M1.sub.trans s12
 have hrow : qAc V2 ⟨some ⟨b1, 0, none⟩, 2, 2⟩ 1 ([pr.ps, pr.ls].map fun s : Sl => [s.v]) := qAc.cells (xs := [pr.ps, pr.ls]) (row := fun s : Sl => [s.v]) (by rw [hV2]; exact Mem.set_same _ _ _) rfl (fun _ => rfl) rfl (by simp)
 show Tri _ _ #[.slice (sa b1) 2 2] (V1.set b1 (.cells #[.slice pr.ps.p pr.ps.n pr.ps.c, .slice pr.ls.p pr.ls.n pr.ls.c] 23 (0, 0))) _
 rw [<- hV2]
 have hln := hpo.lens
 refine Tri.mono (c100 hrow (hok.params.sub s02) (hok.locals.sub s02) (by omega) (by omega)) ?_
 rintro _ V3 ⟨s3, rfl, o3⟩
 have s03 := s02.trans o3.sub
 have hal := (qAC.1 ha).1
 refine ⟨s3, rfl, Tri.mono (c66 (hl.sub s03) (by omega)) ?_⟩
 rintro _ V4 ⟨s4, rfl, o4⟩
 have h4n := o4.n_eq (fun _ => rfl) (by decide)
 have hlsn := hok.locals.n_eq
 refine ⟨s4, rfl, az31 (s := s4) (n := pr.ls.n) rfl rfl o4 (by omega) fun s5 V5 o5 => ⟨s5, rfl, fun b2 hb2 => ?_⟩⟩
 rw [hlsn] at o5
 obtain ⟨V6, hV6⟩ : ∃ V6, V6 = V5.set b2 (.cells #[.slice s3.p s3.n s3.c, .slice s5.p s5.n s5.c] 180 (0, 0)) := ⟨_, rfl⟩
 have s56 : V5.sub V6 := hV6 ▸ Mem.sub_new hb2 _
 have s36 := o5.sub.trans s56
 have s16 := s12.trans (o3.sub.trans s36)
 obtain ⟨W, w0, w6, MW, hWn⟩ := M1.after s16
 show Tri _ _ #[pv p, pv b2, .slice pr.bs.p pr.bs.n pr.bs.c] (V5.set b2 (.cells #[.slice s3.p s3.n s3.c, .slice s5.p s5.n s5.c] 180 (0, 0))) _
 rw [<- hV6]
 have n1 : ∀ {b : Nat}, V2 b = none -> V1 b = none := fun {b} h => by
  cases hc : V1 b with
  | none => rfl
  | some o => rw [s12 _ _ hc] at h; cases h
 have n3 : ∀ {b : Nat}, V3 b = none -> V2 b = none := fun {b} h => by
  cases hc : V2 b with
  | none => rfl
  | some o => rw [o3.sub _ _ hc] at h; cases h
 have n5 : V3 b2 = none := by
  cases hc : V3 b2 with
  | none => rfl
  | some o => rw [o5.sub _ _ hc] at hb2; cases hb2
 have hbk : ∀ {b : Nat}, Blk s5 b -> V3 b = none := fun h => Own.none0 o5 h
 have hws : V0.sub (W.but s5) := fun b o hb => Mem.but_at (w0 _ _ hb) fun hk => by have := hbk hk; rw [s03 _ _ hb] at this; cases this
 have o5' : Sx.Own (W.but s5) W 3 1 s5 ((args ++ List.replicate pr.locals.length (0 : Int)).flatMap qAq) := own_to o5 (Mem.but_sub _ _) fun g o hk h0 h1 => ⟨by unfold Mem.but; rw [if_pos hk], hWn _ _ (n1 (n3 h0)) (s56 _ _ h1)⟩
 have o3' : Sx.Own (fun _ => none) (W.but s5) 81 2 s3 ((pr.params ++ pr.locals).flatMap Fld.row) := own_to o3 (fun _ _ h => by cases h) fun g o hk h0 h1 => ⟨rfl, Mem.but_at (hWn _ _ (n1 h0) (s36 _ _ h1)) fun hk' => by have := hbk hk'; rw [h1] at this; cases this⟩
 have hfr : W b2 = some (.cells #[s3.v, s5.v] 180 (0, 0)) := hWn _ _ (n1 (n3 n5)) (by rw [hV6]; exact Mem.set_same _ _ _)
 have nb2 : ¬ Blk s5 b2 := fun hk => by
  obtain ⟨cur, hc⟩ := Own.some o5 hk
  rw [hb2] at hc; cases hc
 have FR : FrM (W.but s5) W b2 pr (args ++ List.replicate pr.locals.length 0) := ⟨Mem.but_sub _ _, s3, s5, Mem.but_at hfr nb2, o3'.rows (fun _ => rfl) (by decide), o5'⟩
 have hv := qDG ha (qEh G.valid fun f hf => hpo.vars f (List.mem_append_right _ hf))
 have hbody : qAc (W.but s5) pr.bs 5 (pr.body.map S.row) := hok.body.sub hws
 refine PS.split (H pr.body (W.but s5) W V6 s (c + 1) b2 pr _ pr.bs ⟨hS.sub hws, FR, hpo, G, hv, MW, htk, hn, hw⟩ hpo.body (fun x hx => (hok.stmts x hx).sub hws) hbody) (fun k s2 c' V7 e2 M7 => ?_) fun rt s2 W7 V7 e2 f7 M7 => ?_
 ·rw [hG]; show PX V0 d p F c ((qEv d F n (c + 1) pr pr.body _ s).bind _) _ _
  rw [e2]; exact ⟨rfl, c', M7.narrow hws⟩
 ·have M8 := M7.narrow (hws.trans f7.sub)
  obtain ⟨gs7, ns7, ls7, nd7, hat7, L7⟩ := M8.ex
  refine ⟨nn, nn, _, qAd hat7 12 1 (by simp [qBw]), ⟨by omega, by omega⟩, nn, nn, StT.at2 (off := 12) hat7 (by simp [qBw]) ?_⟩
  rw [hG]; show PX V0 d p F c ((qEv d F n (c + 1) pr pr.body _ s).bind _) _ _
  rw [e2]
  refine ⟨rfl, ?_⟩
  have e : (((c + 1 : Nat) : Int) - 1) = (c : Int) := by omega
  rw [e]
  exact MA.set (row' := qBw d F s2.tk c s2.cm) ntE M8.p0 hat7 L7 rfl rfl rfl rfl
theorem allC (d : Ds) (p F : Nat) : ∀ n, SC d p F n
 | 0 => fun l W V0 V s c q pr vals sl X _ _ _ => absurd X.n (by have := X.tk; omega)
 | n + 1 => stsC (stC (exprC (runC (allC d p F n))) (allC d p F n) (runC (allC d p F n)))
end Go.Proofs
namespace Go.Proofs
open Go Go.Sx
section
variable {d : Ds} {F F' b : Nat}
def Ext (s t : St) : Prop := (∃ l, t.lg = s.lg ++ l) /\ s.tk <= t.tk /\ s.ns.length <= t.ns.length
theorem Ext.refl (s : St) : Ext s s := ⟨⟨[], by simp⟩, Nat.le_refl _, Nat.le_refl _⟩
theorem Ext.trans {a b c : St} (h : Ext a b) (k : Ext b c) : Ext a c := by
 obtain ⟨⟨l, h1⟩, h2, h3⟩ := h
 obtain ⟨⟨l', k1⟩, k2, k3⟩ := k
 exact ⟨⟨l ++ l', by rw [k1, h1, List.append_assoc]⟩, Nat.le_trans h2 k2, Nat.le_trans h3 k3⟩
def RE {α : Type} (s : St) (r : Rx α) : Prop := Ext s r.st
section
variable {α β : Type} {s : St} {r r' : Rx α}
theorem RE.bind {f : α -> St -> Rx β} (h : RE s r) (k : ∀ v s', RE s' (f v s')) : RE s (r.bind f) := by
 cases r with
 | ok v s' => exact Ext.trans h (k v s')
 | bad c s' => exact h
theorem RE.ok {v : α} : RE s (.ok v s) := Ext.refl s
theorem RE.bad {c : Int} : RE s (.bad c s : Rx α) := Ext.refl s
theorem RE.ite {c : Prop} [Decidable c] (h : RE s r) (k : RE s r') : RE s (if c then r else r') := by split <;> assumption
inductive Rel (F F' b : Nat) : Rx α -> Rx α -> Prop where
 | eq {r : Rx α} (h : ∀ s, r ≠ .bad 20 s) (h1 : b <= r.st.tk) (h2 : r.st.tk <= F) : Rel F F' b r r
 | out {s : St} {r' : Rx α} (h1 : s.tk = F) (h2 : ∃ l, r'.st.lg = s.lg ++ l) (h3 : F < r'.st.tk ∨ (r' = .bad 20 s /\ F' = F)) : Rel F F' b (.bad 20 s) r'
theorem Rel.low {c : Nat} (h : Rel F F' c r r') (hb : b <= c) : Rel F F' b r r' := by
 cases h with
 | eq h h1 h2 => exact .eq h (by omega) h2
 | out h1 h2 h3 => exact .out h1 h2 h3
theorem Rel.bind {f f' : α -> St -> Rx β} (h : Rel F F' b r r') (k : ∀ v s, r = .ok v s -> b <= s.tk -> s.tk <= F -> Rel F F' b (f v s) (f' v s)) (e : ∀ v s, RE s (f' v s)) : Rel F F' b (r.bind f) (r'.bind f') := by
 cases h with
 | eq h h1 h2 =>
  cases r with
  | ok v s => exact k v s rfl h1 h2
  | bad c s => exact .eq (fun t e => h t (by cases e; rfl)) h1 h2
 | @out s r' h1 h2 h3 =>
  refine .out h1 ?_ ?_
  ·obtain ⟨l, h2⟩ := h2
   cases r' with
   | ok v t => obtain ⟨⟨l', e1⟩, -⟩ := e v t; exact ⟨l ++ l', by rw [show (Rx.bind (.ok v t) f').st = (f' v t).st from rfl, e1, show t.lg = s.lg ++ l from h2, List.append_assoc]⟩
   | bad c t => exact ⟨l, h2⟩
  ·rcases h3 with h3 | ⟨rfl, h3⟩
   ·left
    cases r' with
    | ok v t => exact Nat.lt_of_lt_of_le h3 (e v t).2.1
    | bad c t => exact h3
   ·exact .inr ⟨rfl, h3⟩
theorem Rel.ite {c : Prop} [Decidable c] {x x' y y' : Rx α} (h : c -> Rel F F' b x x') (k : ¬ c -> Rel F F' b y y') : Rel F F' b (if c then x else y) (if c then x' else y') := by
 by_cases hc : c
 ·rw [if_pos hc, if_pos hc]; exact h hc
 ·rw [if_neg hc, if_neg hc]; exact k hc
end
theorem qDw {r : Rs} {s t : St} (h : Ext s t) : RE s (qHi r t) := by cases r <;> exact h
theorem liftR_rel {r : Rs} {s : St} (hr : r ≠ .bad 20) (h1 : b <= s.tk) (h2 : s.tk <= F) : Rel F F' b (qHi r s) (qHi r s) := by
 cases r with
 | ok v => exact .eq nofun h1 h2
 | bad c => exact .eq (fun t e => hr (by unfold qHi at e; cases e; rfl)) h1 h2
theorem big_no {n : Int} : big n ≠ .bad 20 := by unfold big; split <;> nofun
theorem two_no {op x y : Int} : qDH op x y ≠ .bad 20 := by
 unfold qDH
 repeat' split
 all_goals first | exact big_no | nofun
theorem var_ext {p : Pr} {vals : List Int} {nm : ByteArray} {s : St} : RE s (varX d p vals nm s) := by
 unfold varX
 exact RE.ite (Ext.refl s) ⟨⟨_, rfl⟩, Nat.le_refl _, by simp [Rx.st, St.note]⟩
theorem fld_ext {a : Int} {nm : ByteArray} {s : St} : RE s (fldX d a nm s) := by
 unfold fldX
 split
 ·exact RE.bad
 ·split
  ·exact RE.bad
  ·exact ⟨⟨_, rfl⟩, Nat.le_refl _, by simp [Rx.st, St.note]⟩
theorem new_ext {nm : ByteArray} {s : St} : RE s (newX d nm s) := by
 unfold newX
 split
 ·exact RE.bad
 ·exact ⟨⟨_, rfl⟩, Nat.le_refl _, by simp [Rx.st, St.note]⟩
theorem cnt_ext {b : Bool} {op : Int} {s : St} : Ext s (cntX b op s) := by
 unfold cntX
 split
 ·exact ⟨⟨[], by simp⟩, Nat.le_refl _, Nat.le_refl _⟩
 ·exact Ext.refl s
theorem cnt_tk {b : Bool} {op : Int} {s : St} : (cntX b op s).tk = s.tk := by unfold cntX; split <;> rfl
theorem seq_ext : ∀ (fs : List (St -> Rx Int)) (acc : List Int) (s : St), (∀ f ∈ fs, ∀ s, RE s (f s)) -> RE s (seqX fs acc s)
 | [], acc, s, _ => RE.ok
 | f :: fs, acc, s, h => (h f List.mem_cons_self s).bind fun v s' => seq_ext fs _ s' fun g hg => h g (List.mem_cons_of_mem _ hg)
theorem kid_ext {ks : List (St -> Rx Int)} (h : ∀ f ∈ ks, ∀ s, RE s (f s)) (i : Nat) (s : St) : RE s (qDx ks i s) := by
 unfold qDx
 rw [List.getD_eq_getElem?_getD]
 cases hk : ks[i]? with
 | none => exact RE.bad
 | some f => exact h f (List.mem_of_getElem? hk) s
theorem comb_ext {C : Cf} (hC : ∀ i args s, RE s (C i args s)) {p : Pr} {vals : List Int} {b : Bool} {op n : Int} {nm : ByteArray} {ks : List (St -> Rx Int)} (h : ∀ f ∈ ks, ∀ s, RE s (f s)) (s : St) : RE s (qCR d C p vals b op n nm ks s) := by
 have k := kid_ext h
 unfold qCR
 refine RE.ite RE.ok (RE.ite RE.ok (RE.ite var_ext (RE.ite ((k 0 s).bind fun _ _ => fld_ext) (RE.ite new_ext (RE.ite ((seq_ext _ _ s h).bind fun _ _ => hC _ _ _) (RE.ite ((k 0 s).bind fun _ t => qDw (Ext.refl t)) (RE.ite ((k 0 s).bind fun _ _ => RE.ok) (RE.ite ((k 0 s).bind fun _ _ => RE.ok)
  (RE.ite ((k 0 s).bind fun _ t => RE.ite RE.ok (k 1 t)) (RE.ite ((k 0 s).bind fun _ t => RE.ite (k 1 t) RE.ok) (RE.ite ((k 0 s).bind fun _ t => RE.ite (k 2 t) (k 1 t)) ((k 0 s).bind fun _ t => (k 1 t).bind fun _ _ => qDw cnt_ext))))))))))))
theorem ev_ext {C : Cf} (hC : ∀ i args s, RE s (C i args s)) {p : Pr} {vals : List Int} : ∀ (e : E) (s : St), RE s (evX d C p vals e s) := by
 intro e
 induction e using E.ind with
 | h e ih =>
 intro s
 rw [qGS]
 exact comb_ext hC (fun f hf => by
  obtain ⟨a, ha, rfl⟩ := List.mem_map.1 hf
  exact ih a ha) s
def SExt (Sn : Sf) : Prop := ∀ c p l vals s, RE s (Sn c p l vals s)
theorem call_ext {Sn : Sf} (h : SExt Sn) (c : Nat) (i : Int) (args : List Int) (s : St) : RE s (qCJ d Sn c i args s) := by
 unfold qCJ
 split
 ·exact RE.bad
 split
 ·exact RE.bad
 ·exact (h _ _ _ _ s).bind fun _ _ => RE.ok
theorem qFK {s : St} : RE s (qDl F s) := by
 unfold qDl
 split
 ·exact RE.bad
 ·exact ⟨⟨[], by simp [Rx.st]⟩, Nat.le_succ _, Nat.le_refl _⟩
section
variable {Sn : Sf} (h : SExt Sn)
include h
theorem qIC {c : Nat} {p : Pr} {vals : List Int} (e : E) (s : St) : RE s (evS d Sn c p vals e s) := ev_ext (call_ext h c) e s
theorem wh_ext {c : Nat} {p : Pr} {cond : E} {body : List S} : ∀ (n : Nat) (vals : List Int) (s : St), RE s (whX d F Sn c p cond body n vals s)
 | 0, vals, s => RE.bad
 | n + 1, vals, s => by
  rw [whX]
  refine (qIC h cond s).bind fun a t => RE.ite RE.ok ((h _ _ _ _ t).bind fun r u => ?_)
  split
  ·exact RE.ok
  ·exact qFK.bind fun _ w => wh_ext n _ w
theorem qIH {c n : Nat} {p : Pr} {x : S} {vals : List Int} {s : St} : RE s (qHn d F Sn c p n x vals s) := by
 have E := fun e s => qIC (d := d) (c := c) (p := p) (vals := vals) h e s
 unfold qHn
 refine RE.ite ((E _ s).bind fun _ t => ?_) (RE.ite ((E _ s).bind fun _ t => (E _ t).bind fun _ u => RE.bind ?_ fun _ _ => RE.ok) (RE.ite ((E _ s).bind fun _ t => RE.ite (h _ _ _ _ t) (h _ _ _ _ t)) (RE.ite (wh_ext h n vals s) (RE.ite ?_ (RE.ite ((E _ s).bind fun _ _ => RE.ok) RE.ok)))))
 ·unfold setX
  exact RE.ite RE.ok ⟨⟨_, rfl⟩, Nat.le_refl _, by simp [Rx.st, St.note]⟩
 ·unfold putX
  split
  ·exact RE.bad
  split
  ·exact RE.bad
  ·exact ⟨⟨_, rfl⟩, Nat.le_refl _, by simp [Rx.st, St.note]⟩
 ·split
  ·exact RE.ok
  ·exact (E _ s).bind fun _ _ => RE.ok
end
theorem qIn {f : S -> List Int -> St -> Rx Rt} (h : ∀ x vals s, RE s (f x vals s)) : ∀ (l : List S) (vals : List Int) (s : St), RE s (qDY f l vals s)
 | [], _, _ => RE.ok
 | x :: l, vals, s => by
  rw [qDY]
  refine (h x vals s).bind fun r t => ?_
  split
  ·exact RE.ok
  ·exact qIn h l _ t
theorem qGg : ∀ n, SExt (qEv d F n)
 | 0 => fun _ _ _ _ _ => RE.bad
 | n + 1 => fun c p l vals s => qIn (fun _ _ _ => qFK.bind fun _ _ => qIH (qGg n)) l vals s
/-! Two fuels. -/
def CRel (F F' b : Nat) (C C' : Cf) : Prop := (∀ i args s, b <= s.tk -> s.tk <= F -> Rel F F' b (C i args s) (C' i args s)) /\ ∀ i args s, RE s (C' i args s)
section
variable {C C' : Cf} (hC : CRel F F' b C C')
include hC
omit hC in
theorem seq_rel {f g : E -> St -> Rx Int} (he : ∀ a s, RE s (g a s)) : ∀ (k : List E) (acc : List Int) (s : St), b <= s.tk -> s.tk <= F -> (∀ a ∈ k, ∀ s, b <= s.tk -> s.tk <= F -> Rel F F' b (f a s) (g a s)) -> Rel F F' b (seqX (k.map f) acc s) (seqX (k.map g) acc s)
 | [], acc, s, h1, h2, _ => .eq nofun h1 h2
 | a :: k, acc, s, h1, h2, h => (h a List.mem_cons_self s h1 h2).bind (fun v t _ t1 t2 => seq_rel he k _ t t1 t2 fun x hx => h x (List.mem_cons_of_mem _ hx)) fun v t => seq_ext _ _ t fun y hy s => by
  obtain ⟨x, -, rfl⟩ := List.mem_map.1 hy
  exact he x s
theorem ev_rel {p : Pr} {vals : List Int} : ∀ (e : E) (s : St), b <= s.tk -> s.tk <= F -> Rel F F' b (evX d C p vals e s) (evX d C' p vals e s) := by
 intro e
 induction e using E.ind with
 | h e ih =>
 intro s h1 h2
 have X := ev_ext (d := d) hC.2 (p := p) (vals := vals)
 have Xm : ∀ f ∈ e.k.map (evX d C' p vals), ∀ s, RE s (f s) := fun f hf => by
  obtain ⟨a, -, rfl⟩ := List.mem_map.1 hf
  exact X a
 have K : ∀ i t, b <= t.tk -> t.tk <= F -> Rel F F' b (qDx (e.k.map (evX d C p vals)) i t) (qDx (e.k.map (evX d C' p vals)) i t) := fun i t t1 t2 => by
  unfold qDx
  rw [List.getD_eq_getElem?_getD, List.getD_eq_getElem?_getD, List.getElem?_map, List.getElem?_map]
  cases hk : e.k[i]? with
  | none => exact .eq nofun t1 t2
  | some a => exact ih a (List.mem_of_getElem? hk) t t1 t2
 have k := kid_ext Xm
 have same : ∀ {r : Rx Int}, (∀ t, r ≠ .bad 20 t) -> r.st.tk = s.tk -> Rel F F' b r r := fun h e => .eq h (by omega) (by omega)
 rw [qGS, qGS]
 unfold qCR
 refine Rel.ite (fun _ => same nofun rfl) fun _ => Rel.ite (fun _ => same nofun rfl) fun _ => Rel.ite (fun _ => ?_) fun _ => Rel.ite (fun _ => (K 0 s h1 h2).bind (fun v t _ t1 t2 => ?_) fun _ _ => fld_ext) fun _ => Rel.ite (fun _ => ?_) fun _ => Rel.ite (fun _ => (seq_rel X e.k [] s h1 h2 ih).bind (fun v t _ t1 t2 => hC.1 _ _ t t1 t2) fun _ _ => hC.2 _ _ _) fun _ =>
  Rel.ite (fun _ => (K 0 s h1 h2).bind (fun v t _ t1 t2 => liftR_rel big_no t1 t2) fun _ t => qDw (Ext.refl t)) fun _ => Rel.ite (fun _ => (K 0 s h1 h2).bind (fun v t _ t1 t2 => .eq nofun t1 t2) fun _ _ => RE.ok) fun _ => Rel.ite (fun _ => (K 0 s h1 h2).bind (fun v t _ t1 t2 => .eq nofun t1 t2) fun _ _ => RE.ok) fun _ =>
  Rel.ite (fun _ => (K 0 s h1 h2).bind (fun v t _ t1 t2 => Rel.ite (fun _ => .eq nofun t1 t2) fun _ => K 1 t t1 t2) fun _ t => RE.ite RE.ok (k 1 t)) fun _ => Rel.ite (fun _ => (K 0 s h1 h2).bind (fun v t _ t1 t2 => Rel.ite (fun _ => K 1 t t1 t2) fun _ => .eq nofun t1 t2) fun _ t => RE.ite (k 1 t) RE.ok) fun _ =>
  Rel.ite (fun _ => (K 0 s h1 h2).bind (fun v t _ t1 t2 => Rel.ite (fun _ => K 2 t t1 t2) fun _ => K 1 t t1 t2) fun _ t => RE.ite (k 2 t) (k 1 t)) fun _ =>
  (K 0 s h1 h2).bind (fun v t _ t1 t2 => (K 1 t t1 t2).bind (fun w u _ u1 u2 => liftR_rel two_no (by rw [cnt_tk]; exact u1) (by rw [cnt_tk]; exact u2)) fun _ _ => qDw cnt_ext) fun _ t => (k 1 t).bind fun _ _ => qDw cnt_ext
 ·unfold varX
  split <;> exact same nofun rfl
 ·unfold fldX
  repeat' split
  all_goals exact .eq nofun t1 t2
 ·unfold newX
  split <;> exact same nofun rfl
end
theorem tick_rel {s : St} (h1 : b <= s.tk) (h2 : s.tk <= F) (hF : F <= F') : Rel F F' b (qDl F s) (qDl F' s) := by
 unfold qDl
 by_cases h : F <= s.tk
 ·rw [if_pos h]
  have e : s.tk = F := by omega
  split
  ·exact .out e ⟨[], by simp [Rx.st]⟩ (.inr ⟨rfl, by omega⟩)
  ·exact .out e ⟨[], by simp [Rx.st]⟩ (.inl (by show F < s.tk + 1; omega))
 ·rw [if_neg h, if_neg (by omega)]
  exact .eq nofun (by show b <= s.tk + 1; omega) (by show s.tk + 1 <= F; omega)
def SRel (F F' b : Nat) (Sn Sn' : Sf) : Prop := (∀ c p l vals s, b <= s.tk -> s.tk <= F -> Rel F F' b (Sn c p l vals s) (Sn' c p l vals s)) /\ SExt Sn'
theorem qFW {Sn Sn' : Sf} (h : SRel F F' b Sn Sn') (c : Nat) : CRel F F' b (qCJ d Sn c) (qCJ d Sn' c) := by
 refine ⟨fun i args s h1 h2 => ?_, call_ext h.2 c⟩
 unfold qCJ
 refine Rel.ite (fun _ => .eq nofun h1 h2) fun _ => ?_
 cases d.procs[i.toNat]? with
 | none => exact .eq nofun h1 h2
 | some p => exact (h.1 _ _ _ _ s h1 h2).bind (fun _ _ _ t1 t2 => .eq nofun t1 t2) fun _ _ => RE.ok
section
variable {Sn Sn' : Sf} (h : SRel F F' b Sn Sn') (hF : F <= F')
include h hF
theorem wh_rel {c : Nat} {p : Pr} {cond : E} {body : List S} : ∀ (n n' : Nat) (vals : List Int) (s : St), b <= s.tk -> s.tk <= F -> F < n + s.tk -> F' < n' + s.tk -> Rel F F' b (whX d F Sn c p cond body n vals s) (whX d F' Sn' c p cond body n' vals s)
 | 0, _, vals, s, _, _, _, _ => by omega
 | n + 1, 0, vals, s, _, _, _, _ => by omega
 | n + 1, n' + 1, vals, s, h1, h2, h3, h4 => by
  rw [whX, whX]
  have ext : ∀ (t : St) (r : Rt), RE t (match r.2 with | some _ => Rx.ok r t | none => (qDl F' t).bind fun _ st => whX d F' Sn' c p cond body n' r.1 st) := fun t r => by
   split
   ·exact RE.ok
   ·exact qFK.bind fun _ w => wh_ext h.2 n' _ w
  have mono : ∀ {α : Type} {r r' : Rx α} {v : α} {t : St}, RE s r' -> Rel F F' b r r' -> r = .ok v t -> s.tk <= t.tk := fun {α r r' v t} he hr e => by
   subst e
   cases hr with
   | eq => exact he.2.1
  refine (ev_rel (qFW h c) cond s h1 h2).bind (fun a t e1 t1 t2 => Rel.ite (fun _ => .eq nofun t1 t2) fun _ => ?_) fun a t => RE.ite RE.ok ((h.2 _ _ _ _ t).bind fun r u => ext u r)
  have m1 : s.tk <= t.tk := mono (qIC h.2 cond s) (ev_rel (qFW h c) cond s h1 h2) e1
  refine (h.1 c p body vals t t1 t2).bind (fun r u e2 u1 u2 => ?_) fun r u => ext u r
  have m2 : t.tk <= u.tk := by
   have hr := h.1 c p body vals t t1 t2
   have he := h.2 c p body vals t
   rw [e2] at hr
   cases hr' : Sn' c p body vals t with
   | ok v w =>
    rw [hr'] at hr he
    cases hr with
    | eq => exact he.2.1
   | bad c w =>
    rw [hr'] at hr
    cases hr
  cases r.2 with
  | some _ => exact .eq nofun u1 u2
  | none =>
   refine (tick_rel u1 u2 hF).bind (fun _ w e3 w1 w2 => ?_) fun _ w => wh_ext h.2 n' _ w
   have : w.tk = u.tk + 1 := by
    unfold qDl at e3
    split at e3
    ·cases e3
    ·cases e3; rfl
   exact wh_rel n n' r.1 w w1 w2 (by omega) (by omega)
theorem body_rel {c n n' : Nat} {p : Pr} {x : S} {vals : List Int} {s : St} (h1 : b <= s.tk) (h2 : s.tk <= F) (h3 : F < n + s.tk) (h4 : F' < n' + s.tk) : Rel F F' b (qHn d F Sn c p n x vals s) (qHn d F' Sn' c p n' x vals s) := by
 have E := fun e s h1 h2 => ev_rel (d := d) (p := p) (vals := vals) (qFW (d := d) h c) e s h1 h2
 have X := fun e s => qIC (d := d) (c := c) (p := p) (vals := vals) h.2 e s
 have set : ∀ {v : Int} {t : St}, RE t (setX d p x.s v vals t) := fun {v t} => by unfold setX; exact RE.ite RE.ok ⟨⟨_, rfl⟩, Nat.le_refl _, by simp [Rx.st, St.note]⟩
 have put : ∀ {a v : Int} {t : St}, RE t (putX d a v x.s t) := fun {a v t} => by
  unfold putX
  split
  ·exact RE.bad
  split
  ·exact RE.bad
  ·exact ⟨⟨_, rfl⟩, Nat.le_refl _, by simp [Rx.st, St.note]⟩
 unfold qHn
 refine Rel.ite (fun _ => (E _ s h1 h2).bind (fun v t _ t1 t2 => ?_) fun _ _ => set) fun _ => Rel.ite (fun _ => (E _ s h1 h2).bind (fun v t _ t1 t2 => (E _ t t1 t2).bind (fun w u _ u1 u2 => Rel.bind ?_ (fun _ _ _ w1 w2 => .eq nofun w1 w2) fun _ _ => RE.ok) fun _ _ => put.bind fun _ _ => RE.ok) fun _ t => (X _ t).bind fun _ _ => put.bind fun _ _ => RE.ok) fun _ =>
  Rel.ite (fun _ => (E _ s h1 h2).bind (fun v t _ t1 t2 => Rel.ite (fun _ => h.1 _ _ _ _ t t1 t2) fun _ => h.1 _ _ _ _ t t1 t2) fun _ t => RE.ite (h.2 _ _ _ _ t) (h.2 _ _ _ _ t)) fun _ =>
  Rel.ite (fun _ => wh_rel h hF n n' vals s h1 h2 h3 h4) fun _ => Rel.ite (fun _ => ?_) fun _ => Rel.ite (fun _ => (E _ s h1 h2).bind (fun _ _ _ t1 t2 => .eq nofun t1 t2) fun _ _ => RE.ok) fun _ => .eq nofun h1 h2
 ·unfold setX
  split <;> exact .eq nofun t1 t2
 ·unfold putX
  repeat' split
  all_goals exact .eq nofun u1 u2
 ·cases x.es with
  | nil => exact .eq nofun h1 h2
  | cons e r => exact (E _ s h1 h2).bind (fun _ _ _ t1 t2 => .eq nofun t1 t2) fun _ _ => RE.ok
end
theorem list_rel {f f' : S -> List Int -> St -> Rx Rt} (he : ∀ x vals s, RE s (f' x vals s)) (h : ∀ x vals s, b <= s.tk -> s.tk <= F -> Rel F F' b (f x vals s) (f' x vals s)) : ∀ (l : List S) (vals : List Int) (s : St), b <= s.tk -> s.tk <= F -> Rel F F' b (qDY f l vals s) (qDY f' l vals s) := by
 intro l
 induction l with
 | nil => intro vals s h1 h2; exact .eq nofun h1 h2
 | cons x l ih =>
  intro vals s h1 h2
  rw [qDY, qDY]
  refine (h x vals s h1 h2).bind (fun r t _ t1 t2 => ?_) fun r t => ?_
  ·cases r.2 with
   | some _ => exact .eq nofun t1 t2
   | none => exact ih r.1 t t1 t2
  ·split
   ·exact RE.ok
   ·exact qIn he l _ t
theorem st_rel {Sn Sn' : Sf} (hF : F <= F') (R : SRel F F' (b + 1) Sn Sn') {c n n' : Nat} {p : Pr} (hn : F < n + 1 + b) (hn' : F' < n' + 1 + b) (x : S) (vals : List Int) (s : St) (h1 : b <= s.tk) (h2 : s.tk <= F) : Rel F F' b (stX d F Sn c p (n + 1) x vals s) (stX d F' Sn' c p (n' + 1) x vals s) := by
 unfold stX
 refine (tick_rel h1 h2 hF).bind (fun _ t e t1 t2 => ?_) fun _ _ => qIH R.2
 have e : t.tk = s.tk + 1 := by
  unfold qDl at e
  split at e
  ·cases e
  ·cases e; rfl
 exact (body_rel (d := d) (c := c) (p := p) (x := x) (vals := vals) (n := n + 1) (n' := n' + 1) R hF (s := t) (by omega) t2 (by omega) (by omega)).low (by omega)
theorem sts_rel (hF : F <= F') (n : Nat) : ∀ (n' b : Nat), F < n + b -> F' < n' + b -> SRel F F' b (qEv d F n) (qEv d F' n') := by
 induction n with
 | zero => intro n' b h _; exact ⟨fun c p l vals s h1 h2 => by omega, qGg n'⟩
 | succ n ih =>
  intro n' b hn hn'
  cases n' with
  | zero => exact ⟨fun c p l vals s h1 h2 => by omega, qGg 0⟩
  | succ n' =>
   have R := ih n' (b + 1) (by omega) (by omega)
   exact ⟨fun c p l vals s h1 h2 => list_rel (fun _ _ _ => qFK.bind fun _ _ => qIH (qGg n')) (fun x vals s h1 h2 => st_rel hF R (by omega) (by omega) x vals s h1 h2) l vals s h1 h2, qGg _⟩
theorem play_rel (hF : F <= F') {i : Int} {args : List Int} {s : St} (h0 : s.tk = 0) : Rel F F' 0 (qDU d F i args s) (qDU d F' i args s) :=
 (qFW (sts_rel hF (F + 1) (F' + 1) 0 (by omega) (by omega)) 0).1 i args s (by omega) (by omega)
end
end Go.Proofs
namespace Go.Proofs
open Go Go.Sx
section
variable {d : Ds} {F F' : Nat}
def Mm.plain (m : Mm) : List Int × List (Int × List Int) := (m.globals, m.nodes.map fun n => (n.ty, n.f))
def qFl (m : Mm) : St := ⟨m.globals, m.nodes.map fun n => (n.ty, n.f), 0, 0, []⟩
theorem St.plain (s : St) : s.mm.plain = (s.g, s.ns) := by
 unfold Mm.plain St.mm
 simp [Function.comp_def]
theorem qED {m m' : Mm} (h : m.plain = m'.plain) {i : Nat} {x : Nd} (hx : m.nodes[i]? = some x) : ∃ y, m'.nodes[i]? = some y /\ y.ty = x.ty /\ y.f = x.f := by
 have h2 : (m.nodes.map fun n => (n.ty, n.f)) = m'.nodes.map fun n => (n.ty, n.f) := (Prod.mk.inj h).2
 have : (m'.nodes.map fun n => (n.ty, n.f))[i]? = some (x.ty, x.f) := by rw [<- h2, List.getElem?_map, hx]; rfl
 rw [List.getElem?_map] at this
 cases hy : m'.nodes[i]? with
 | none => rw [hy] at this; cases this
 | some y =>
  rw [hy] at this
  simp only [Option.map_some, Option.some.injEq, Prod.mk.injEq] at this
  exact ⟨y, rfl, this.1, this.2⟩
theorem qGu {m m' : Mm} (h : m.plain = m'.plain) : m.nodes.length = m'.nodes.length := by
 have h2 : (m.nodes.map fun n => (n.ty, n.f)) = m'.nodes.map fun n => (n.ty, n.f) := (Prod.mk.inj h).2
 have := congrArg List.length h2
 simpa using this
theorem qEi {m m' : Mm} (h : m.plain = m'.plain) (hv : qCb d m = true) : qCb d m' = true := by
 obtain ⟨p1, p2, p3, p4, p5⟩ := qAt hv
 have hl := qGu h
 have hg : m.globals = m'.globals := (Prod.mk.inj h).1
 have r : ∀ {t v}, qAp d m t v = true -> qAp d m' t v = true := fun hr => qEZ (by omega) (fun i x hx => by
  obtain ⟨y, e1, e2, -⟩ := qED h hx
  exact ⟨y, e1, e2⟩) hr
 refine qEy p1 (by omega) (fun n hn => ?_) (by rw [<- hg]; exact qAf r p4) fun n hn => ?_
 ·obtain ⟨i, hi⟩ := List.mem_iff_getElem?.1 hn
  obtain ⟨x, e1, e2, -⟩ := qED h.symm hi
  have := p3 x (List.mem_of_getElem? e1)
  unfold qDu at this ⊢
  rw [<- e2]; exact this
 ·obtain ⟨i, hi⟩ := List.mem_iff_getElem?.1 hn
  obtain ⟨x, e1, e2, e3⟩ := qED h.symm hi
  have := p5 x (List.mem_of_getElem? e1)
  rw [<- e2, <- e3]; exact qAf r this
theorem qDI (m : Mm) : (qFl m).mm.plain = m.plain := St.plain _
theorem good_st {m : Mm} (G : qAD d m) : qAD d (qFl m).mm := ⟨G.valid, G.chk, qEi (qDI m).symm G.mem⟩
theorem qCo {m m' : Mm} (h : m.plain = m'.plain) {t : ByteArray} {v : Int} (hr : qAp d m t v = true) : qAp d m' t v = true := qEZ (by rw [qGu h]; exact Nat.le_refl _) (fun i x hx => by
 obtain ⟨y, e1, e2, -⟩ := qED h hx
 exact ⟨y, e1, e2⟩) hr
def outC : Rx Int -> Int | .ok _ _ => 0 | .bad c _ => c
def outV : Rx Int -> Int | .ok v _ => v | .bad _ _ => 0
def qBF (l : List (Int × Int × Int)) : Nat := (l.filter fun a => decide (0 < a.2.1)).length
section
variable {i : Int} {args : List Int} {s : St} (h0 : s.tk = 0)
include h0
theorem fuel_tk : (qDU d F i args s).st.tk <= F /\ (outC (qDU d F i args s) = 20 -> (qDU d F i args s).st.tk = F) := by
 have h := play_rel (d := d) (F := F) (F' := F) (Nat.le_refl F) (i := i) (args := args) h0
 generalize qDU d F i args s = r at h
 cases h with
 | eq h1 h2 h3 =>
  refine ⟨h3, fun e => ?_⟩
  cases r with
  | ok v t => cases e
  | bad c t => exact absurd rfl (fun k => h1 t (by rw [show c = 20 from e]) : ¬ (0 = 0))
 | out h1 h2 h3 => exact ⟨Nat.le_of_eq h1, fun _ => h1⟩
end
def alN (l : List (Int × Int × Int)) : Nat := (l.filter fun a => decide (a.1 = 3)).length
theorem qFY (a : Int × Int × Int) (l : List (Int × Int × Int)) : alN (a :: l) = (if a.1 = 3 then 1 else 0) + alN l := by
 unfold alN
 rw [List.filter_cons]
 by_cases h : a.1 = 3
 ·rw [if_pos h, if_pos (decide_eq_true h), List.length_cons]; omega
 ·rw [if_neg h, if_neg (by simp [h])]; omega
theorem LgOk.len {n m : Nat} {l : List (Int × Int × Int)} (h : LgOk n l m) : m = n + alN l := by
 induction h with
 | nil => rfl
 | @acc n m k a f l hk _ _ _ _ ih => rw [qFY, if_neg (by show ¬ k = 3; omega)]; omega
 | alloc _ _ ih => rw [qFY, if_pos rfl]; omega
theorem LgOk.at_ {n m : Nat} {l : List (Int × Int × Int)} (h : LgOk n l m) : ∀ (i : Nat) a, l[i]? = some a -> (a.1 = 1 ∨ a.1 = 2 ∨ a.1 = 3) /\ (a.1 = 3 -> a.2.1 = ((n + alN (l.take i) : Nat) : Int) + 1) /\ (a.1 ≠ 3 -> a.2.1 <= ((n + alN (l.take i) : Nat) : Int)) /\ 0 <= a.2.1 /\ 0 <= a.2.2 := by
 induction h with
 | nil => intro i a h; simp at h
 | @acc n m k x f l hk h0 h1 h2 _ ih =>
  intro i a hi
  cases i with
  | zero =>
   simp only [List.getElem?_cons_zero, Option.some.injEq] at hi
   subst hi
   exact ⟨by rcases hk with h | h <;> simp [h], (fun h => by simp only at h; omega), fun _ => h1, h0, h2⟩
  | succ i =>
   have := ih i a (by simpa using hi)
   rwa [List.take_succ_cons, qFY, if_neg (by show ¬ k = 3; omega), Nat.zero_add]
 | @alloc n m f l h2 _ ih =>
  intro i a hi
  cases i with
  | zero =>
   simp only [List.getElem?_cons_zero, Option.some.injEq] at hi
   subst hi
   exact ⟨.inr (.inr rfl), fun _ => rfl, fun h => absurd rfl h, by show (0 : Int) <= (n : Int) + 1; omega, h2⟩
  | succ i =>
   have := ih i a (by simpa using hi)
   rwa [List.take_succ_cons, qFY, if_pos rfl, <- Nat.add_assoc]
end
end Go.Proofs
namespace Go.Proofs
open Go Go.Sx
attribute [local irreducible] Go.Sx.Tri
theorem g84 : IdxP 84 Nd.row Nd.v 2 := by
 intro V l xs g first caps hg St Hit hrows h0 hp
 refine x84 (a := l) (b := .func (.func g) first.toArray caps.toArray) ?_
 unfold w84
 refine qBf xs.length St h0 ?_
 intro i b V1 J hi hs hJ
 have h := hrows i V1 hs
 refine ⟨fun hlt => ?_, fun hge => ?_⟩
 ·obtain ⟨x, hm, hx, hd, hl, hp0, hz, hrow⟩ := h.get hlt
  refine ⟨hp0, hz, hlt, _, _, hrow, g, _, _, rfl, hg, Tri.mono (hp i x V1 hx hs) ?_⟩
  rintro e V2 ⟨b, rfl, h1, h2⟩
  exact ⟨b, rfl, fun hb => .inl ⟨i, rfl, h1 hb⟩, fun hb => ⟨h.succ hlt, hJ hl _ _ (h2 (by simpa using hb))⟩⟩
 ·have e : i = xs.length := by have := (h.done hge).2; omega
  exact .inr ⟨rfl, e ▸ hs⟩
theorem g56 : ConP 56 Nd.row Nd.v 2 := conG g84 x56
theorem c56 : ConC 56 Nd.row Nd.v 2 := conC g56
theorem zeroInt (w : World) : (zeroValue 3).run Tryz.prog w = .ok (.int .i64 0) w := by kernel_rfl
def pmap (d : Ds) (i : Nat) (k : ByteArray) : Option Value := if 0 <= qDj d k /\ qDj d k < (i : Int) then some (.int .i64 (qDj d k)) else none
def tmap (d : Ds) (k : ByteArray) : Option Value := if qBh d k = true then some (.int .i64 (qDj d k)) else none
section
variable {V : Mem} {d : Ds} {m : Mm} {b : Nat}
theorem idxT_le {i : Nat} {x : Ty} (hx : d.types[i]? = some x) : 0 <= qDj d x.name /\ qDj d x.name <= (i : Int) := by
 unfold qDj
 rcases qBk (fun t : Ty => decide (t.name = x.name)) d.types with ⟨-, -, h⟩ | ⟨j, y, h1, h2, -, h4, -, -, -, h5⟩
 ·have := List.any_eq_false.1 h x (List.mem_of_getElem? hx)
  exact absurd (decide_eq_true rfl) this
 ·rw [h1]
  refine ⟨by omega, ?_⟩
  have hji : ¬ i < j := fun hlt => by
   have := List.any_eq_false.1 h5 x (List.mem_take_iff_getElem.2 ⟨i, by have := (List.getElem?_eq_some_iff.1 hx).1; omega, (List.getElem?_eq_some_iff.1 hx).2⟩)
   exact this (decide_eq_true rfl)
  omega
theorem idxT_at {k : ByteArray} {i : Nat} (h : qDj d k = (i : Int)) : ∃ x, d.types[i]? = some x /\ x.name = k := by
 unfold qDj at h
 rcases qBk (fun t : Ty => decide (t.name = k)) d.types with ⟨h1, -⟩ | ⟨j, y, h1, h2, -, h4, h5, -⟩
 ·rw [h1] at h; omega
 ·rw [h1] at h
  obtain rfl : j = i := by omega
  exact ⟨y, h2, of_decide_eq_true h5⟩
theorem pmap_all {k : ByteArray} (i : Nat) (hi : d.types.length <= i) : pmap d i k = tmap d k := by
 unfold pmap tmap
 rcases isNode_idx d k with ⟨h1, h2⟩ | ⟨h1, h2⟩
 ·rw [if_neg (by omega), if_neg (by rw [h2]; decide)]
 ·obtain ⟨j, hj⟩ : ∃ j : Nat, qDj d k = (j : Int) := ⟨(qDj d k).toNat, by omega⟩
  obtain ⟨x, hx, -⟩ := idxT_at hj
  have := (List.getElem?_eq_some_iff.1 hx).1
  rw [if_pos ⟨h1, by omega⟩, if_pos h2]
theorem c52 {s : ByteArray} : PP 52 [.string s] V (.bool (decide (s = qAV) || decide (s = qAr))) := by
 refine x52 ?_
 unfold w52
 refine ⟨fun h => ⟨by rw [decide_eq_true (show s = qAV from h)]; rfl, rfl⟩, fun h => ⟨by rw [decide_eq_false (show ¬ s = qAV from h)]; rfl, rfl⟩⟩
theorem c53 {s : ByteArray} (h : qAS V b (tmap d)) : PP 53 [.map (some b), .string s] V (.bool (qBh d s)) := by
 refine x53 ?_
 unfold w53
 refine qBN.str Tryz.underlying104 Tryz.underlying9 zeroInt h ?_
 unfold tmap
 cases hn : qBh d s with
 | true => exact ⟨_, _, rfl, rfl, rfl⟩
 | false => exact ⟨_, _, rfl, rfl, rfl⟩
theorem c51 {p t : Nat} (hp : V p = some (cell (.map (some b)) t)) (h : qAS V b (tmap d)) {f : Fld} : PP 51 [f.v, pv p] V (.bool (!qBv d f.ty)) := by
 refine x51 ?_
 unfold w51
 refine c52.call ⟨_, rfl, fun h1 => ?_, fun h1 => ⟨some b, qBj hp, (c53 h).call ⟨_, rfl, ?_, rfl⟩⟩⟩
 ·unfold qBv; rw [h1]; exact ⟨rfl, rfl⟩
 ·unfold qBv; rw [show (decide (f.ty = qAV) || decide (f.ty = qAr)) = false by simpa using h1]; rfl
theorem c49 {p t : Nat} (hp : V p = some (cell (.map (some b)) t)) (h : qAS V b (tmap d)) {l : Sl} {xs : List Fld} (hr : qAc V l 2 (xs.map Fld.row)) : PP 49 [l.v, pv p] V (.bool (qDk d xs)) := by
 refine x49 ?_
 unfold w49
 refine (c50 (first := []) (caps := [pv p]) hr Tryz.call51 (fun f => !qBv d f.ty) (fun f _ => c51 hp h)).call ⟨_, rfl, ?_, rfl⟩
 unfold qDk
 rw [List.all_eq_not_any_not]
theorem c55 {p q t t2 : Nat} (hp : V p = some (cell (.map (some b)) t)) (hq : V q = some (cell (.func (.func 49) #[] #[pv p]) t2)) (h : qAS V b (tmap d)) {y : Ty} (hy : Ty.Ok V y) :
  PP 55 [y.v, pv q] V (.bool (!qDk d y.fields)) := by
 refine x55 ?_
 unfold w55
 exact ⟨.func (.func 49) #[] #[pv p], rfl, qBj hq, 49, _, _, rfl, Tryz.call49, (c49 hp h hy.fields).callv (first := []) (caps := [pv p]) ⟨_, rfl, rfl, rfl⟩⟩
theorem qBK : hasT d = true ↔ qBc d = true /\ qDk d d.globals = true /\ (∀ (i : Nat) (x : Ty), d.types[i]? = some x -> qDj d x.name = (i : Int)) /\ ∀ x ∈ d.types, qDk d x.fields = true := by
 unfold hasT
 rw [Bool.and_eq_true, Bool.and_eq_true, qDT, and_assoc]
 refine and_congr_right fun _ => and_congr_right fun _ => ⟨fun h => ⟨fun i x hx => ?_, fun x hx => ?_⟩, fun h i x hx => ?_⟩
 ·have := h i x hx
  rw [Bool.and_eq_true, decide_eq_true_eq] at this
  exact this.1
 ·obtain ⟨i, hi, rfl⟩ := List.mem_iff_getElem.1 hx
  have := h i _ (List.getElem?_eq_getElem hi)
  rw [Bool.and_eq_true] at this
  exact this.2
 ·rw [Bool.and_eq_true, decide_eq_true_eq]
  exact ⟨h.1 i x hx, h.2 x (List.mem_of_getElem? hx)⟩
def TyM (V' : Mem) (d : Ds) (mo : Option Nat) : Prop := (hasT d = true /\ ∃ b, mo = some b /\ qAS V' b (tmap d)) ∨ (¬ hasT d = true /\ mo = none)
theorem c32 [Tab V] (h : Ds.Ok V d) : Tri Tryz.prog 32 #[d.v] V fun r V' => ∃ mo, r = .returned (.map mo) /\ V.sub V' /\ TyM V' d mo := by
 refine x32 ?_
 unfold w32
 have no : ∀ {V1 : Mem}, V.sub V1 -> ¬ hasT d = true -> (∃ mo, Ending.returned (.map none) = .returned (.map mo) /\ V.sub V1 /\ TyM V1 d mo) := fun hs k => ⟨none, rfl, hs, .inr ⟨k, rfl⟩⟩
 refine (c48 h).call ⟨_, rfl, fun hv => ?_, fun hv => no (Mem.sub.refl _) fun k => hv (qBK.1 k).1⟩
 refine GenK.makeMap fun b hb => ⟨some b, rfl, ?_⟩
 have hs : ∀ o, V.sub (V.set b o) := fun o => Mem.sub_new hb _
 refine qBf (mk := .map) (b0 := none) d.types.length (fun i V1 => (∃ o, V1 = V.set b o) /\ qAS V1 b (pmap d i) /\ ∀ (j : Nat) (x : Ty), j < i -> d.types[j]? = some x -> qDj d x.name = (j : Int)) ⟨⟨_, rfl⟩, (qAS.made V b).congr fun k => ?_, fun _ _ h => absurd h (Nat.not_lt_zero _)⟩ ?_
 ·unfold pmap; rw [if_neg (by omega)]
 rintro i b1 _ J hi ⟨⟨o, rfl⟩, hm, hd⟩ hJ
 have hd1 := h.sub (hs o)
 refine ⟨fun hlt => ?_, fun hge => ?_⟩
 ·obtain ⟨x, hxm, hx, hdr, hl, hp, hz, hrow⟩ := hd1.types.get hlt
  have hle := idxT_le hx
  refine ⟨hp, hz, hlt, _, _, hrow, qBN.str Tryz.underlying104 Tryz.underlying9 zeroInt hm ?_⟩
  by_cases hlo : qDj d x.name < (i : Int)
  ·have e : pmap d i x.name = some (.int .i64 (qDj d x.name)) := by unfold pmap; rw [if_pos ⟨hle.1, hlo⟩]
   rw [e]
   refine ⟨_, _, rfl, fun _ => no (hs o) fun k => ?_, fun k => absurd rfl k⟩
   have := (qBK.1 k).2.2.1 i x hx
   omega
  ·have e : pmap d i x.name = none := by unfold pmap; rw [if_neg fun k => hlo k.2]
   rw [e]
   refine ⟨0, false, rfl, (fun k => by cases k), fun _ => UpdK.str Tryz.underlying104 Tryz.underlying9 hm fun o2 ho2 => ⟨hd1.types.succ hlt, hJ hl _ _ ⟨⟨o2, by rw [Mem.set_set]⟩, ho2.congr fun k => ?_, fun j y hj hy => ?_⟩⟩⟩
   ·by_cases hk : k = x.name
    ·subst hk
     rw [if_pos rfl]
     unfold pmap
     rw [if_pos ⟨hle.1, by omega⟩, show qDj d x.name = (i : Int) by omega]
    ·rw [if_neg hk]
     unfold pmap
     by_cases hki : qDj d k = (i : Int)
     ·obtain ⟨y, hy, hyk⟩ := idxT_at hki
      rw [hx] at hy; cases hy
      exact absurd hyk.symm hk
     ·by_cases hc : 0 <= qDj d k /\ qDj d k < (i : Int)
      ·rw [if_pos hc, if_pos ⟨hc.1, by omega⟩]
      ·rw [if_neg hc, if_neg fun c => hc ⟨c.1, by omega⟩]
   ·rcases Nat.lt_succ_iff_lt_or_eq.1 hj with hj | rfl
    ·exact hd j y hj hy
    ·rw [hx] at hy; cases hy; omega
 ·have hlen := (hd1.types.done hge).2
  have hm' : qAS (V.set b o) b (tmap d) := hm.congr fun k => pmap_all i hlen
  have hdist : ∀ (j : Nat) (x : Ty), d.types[j]? = some x -> qDj d x.name = (j : Int) := fun j x hx => hd j x (by have := (List.getElem?_eq_some_iff.1 hx).1; omega) hx
  intro p hp
  have s1 := Mem.sub_new hp (cell (.map (some b)) 104)
  have hpp := Mem.set_same (V.set b o) p (cell (.map (some b)) 104)
  have hm1 := hm'.sub s1
  have hd2 := hd1.sub s1
  refine (c49 hpp hm1 hd2.globals).call ⟨_, rfl, fun hg => fun q hq => ?_, fun hg => no ((hs o).trans s1) fun k => hg (qBK.1 k).2.1⟩
  have s2 := Mem.sub_new hq (cell (.func (.func 49) #[] #[pv p]) 124)
  have hqq := Mem.set_same ((V.set b o).set p (cell (.map (some b)) 104)) q (cell (.func (.func 49) #[] #[pv p]) 124)
  have hd3 := hd2.sub s2
  refine (c54 (first := []) (caps := [pv q]) hd3.types Tryz.call55 (fun y => !qDk d y.fields) (fun y hy => c55 (s2 _ _ hpp) hqq (hm1.sub s2) (hd3.typesOk y hy))).call ⟨_, rfl, fun ha => no ((hs o).trans (s1.trans s2)) fun k => ?_, fun ha => ⟨_, qBj (s2 _ _ hpp), some b, rfl, (hs o).trans (s1.trans s2), .inl ⟨qBK.2 ⟨hv, hg, hdist, fun x hx => ?_⟩, b, rfl, hm1.sub s2⟩⟩⟩
  ·obtain ⟨y, hy, hyt⟩ := List.any_eq_true.1 ha
   have := (qBK.1 k).2.2.2 y hy
   rw [this] at hyt; cases hyt
  ·have := List.any_eq_false.1 ((Bool.not_eq_true _).mp ha) x hx
   simpa using this
theorem c85 {mo : Option Nat} (ht : TyM V d mo) (hT : hasT d = true) (hm : Mm.Ok V m) {typ : ByteArray} (hk : qBv d typ = true) {v : Int} : PP 85 [.map mo, m.v, .string typ, .int .i64 v] V (.bool (qAp d m typ v)) := by
 refine x85 ?_
 unfold w85
 have hn := hm.nodes.n_eq
 obtain ⟨b, rfl, hb⟩ : ∃ b, mo = some b /\ qAS V b (tmap d) := by
  rcases ht with ⟨-, h⟩ | ⟨h, -⟩
  ·exact h
  ·exact absurd hT h
 have ret : ∀ {x y : Bool}, x = y -> Ending.returned (.bool x) = .returned (.bool y) /\ V = V := fun h => by rw [h]; exact ⟨rfl, rfl⟩
 refine ⟨fun h1 => ?_, fun h1 => ⟨fun h2 => ?_, fun h2 => ?_⟩⟩
 ·unfold qAp; rw [if_pos (show typ = qAV from h1)]
  refine ⟨fun h3 => ret ?_, fun h3 => ret ?_⟩
  ·rw [decide_eq_decide]; exact ⟨fun h => ⟨h3, h⟩, fun h => h.2⟩
  ·exact (decide_eq_false fun h => h3 h.1).symm
 ·unfold qAp; rw [if_neg (show ¬ typ = qAV from h1), if_pos (show typ = qAr from h2)]
  refine ⟨fun h3 => ret (decide_eq_true (.inl h3)).symm, fun h3 => ret ?_⟩
  rw [decide_eq_decide]; exact ⟨.inr, fun h => h.resolve_left h3⟩
 ·unfold qAp; rw [if_neg (show ¬ typ = qAV from h1), if_neg (show ¬ typ = qAr from h2)]
  refine ⟨fun h3 => ret (decide_eq_true (.inl h3)).symm, fun h3 => ⟨fun h4 => ⟨fun h5 => ?_, fun h5 => ret ?_⟩, fun h4 => ret ?_⟩⟩
  ·obtain ⟨i, rfl⟩ : ∃ i : Nat, v = (i : Int) + 1 := ⟨(v - 1).toNat, by omega⟩
   have e1 : ((i : Int) + 1 - 1).toNat = i := by omega
   obtain ⟨x, hxm, hx, -, hl, hp, hz, hrow⟩ := hm.nodes.get (i := i) (by omega)
   have hq := qAe (n := i * 2) hp
   have hr : IR ((i : Int) + 1 - 1) := ⟨by omega, by have := (hm.nodes.succ (i := i) (by omega)).2; omega⟩
   have hnode : qBh d typ = true := by
    unfold qBv at hk
    rw [decide_eq_false (show ¬ typ = qAV from h1), decide_eq_false (show ¬ typ = qAr from h2)] at hk
    simpa using hk
   rw [e1]
   refine ⟨hr, hp, by omega, by omega, hq, _, _, hrow, qBN.str1 Tryz.underlying104 Tryz.underlying9 zeroInt hb ?_⟩
   unfold tmap
   rw [if_pos hnode]
   refine ⟨_, rfl, rowp_first (k := 1) hrow (by decide), hq, hp, by omega, by omega, hr, ret ?_⟩
   rw [decide_eq_decide, hx]
   constructor
   ·intro h; exact .inr ⟨by omega, by omega, by rw [<- h]; rfl⟩
   ·rintro (h | ⟨-, -, h⟩)
    ·exact absurd h h3
    ·simpa using h
  ·exact (decide_eq_false (by omega)).symm
  ·exact (decide_eq_false (by omega)).symm
theorem c58 {mo : Option Nat} (ht : TyM V d mo) (hT : hasT d = true) (hm : Mm.Ok V m) {l : Sl} {xs : List Fld} (hr : qAc V l 2 (xs.map Fld.row)) (hk : qDk d xs = true) {s : Sl} {vs : List Int} (hv : qAc V s 1 (vs.map qAq)) : PP 58 [.map mo, m.v, l.v, s.v] V (.bool (qAg d m xs vs)) := by
 refine x58 ?_
 unfold w58
 have h1 := hr.n_eq
 have h2 := hv.n_eq
 refine ⟨fun he => ?_, fun he => ?_⟩
 ·refine qBf (mk := .bool) (b0 := false) vs.length (fun i V1 => V = V1 /\ AllI (fun i v => qAp d m (tyAt xs i) v) vs i) ⟨rfl, AllI.zero⟩ ?_
  rintro i b V1 J hi ⟨rfl, ha⟩ hJ
  refine ⟨fun hlt => ?_, fun hge => ?_⟩
  ·obtain ⟨x, hxm, hx, -, hl, hp, hz, hrow⟩ := hr.get hlt
   obtain ⟨y, hym, hy, -, hl2, hp2, hz2, hrow2⟩ := hv.get (i := i) (by omega)
   have hty : tyAt xs i = x.ty := by unfold tyAt; rw [hx]; rfl
   have hkx : qBv d x.ty = true := List.all_eq_true.1 hk x hxm
   refine ⟨hp, hz, hlt, _, _, hrow, hp2, hz2, by omega, _, hrow2, (c85 ht hT hm hkx).call ⟨_, rfl, fun h3 => ⟨hr.succ hlt, hJ hl2 _ _ ⟨rfl, ha.succ hy (by rw [hty]; exact h3)⟩⟩, fun h3 => ?_⟩⟩
   unfold qAg
   rw [allI_false hy (by rw [hty]; exact h3), Bool.and_false]; exact ⟨rfl, rfl⟩
  ·unfold qAg
   rw [ha.all (by omega), decide_eq_true (by omega)]; exact ⟨rfl, rfl⟩
 ·unfold qAg
  rw [decide_eq_false (by omega)]; exact ⟨rfl, rfl⟩
theorem c57 (h : Ds.Ok V d) {p t : Nat} (hp : V p = some (.cells d.row.toArray t (0, 0))) {n : Nd} : PP 57 [n.v, pv p] V (.bool (!qDu d n)) := by
 refine x57 ?_
 unfold w57
 have hn := h.types.n_eq
 refine ⟨fun h1 => ?_, fun h1 => ⟨by simp, _, qAd hp 1 1 (by simp [Ds.row]), ?_⟩⟩
 ·unfold qDu; rw [decide_eq_false (by omega)]; exact ⟨rfl, rfl⟩
 ·refine ⟨?_, rfl⟩
  show Ending.returned (Value.bool _) = _
  unfold qDu
  rw [<- decide_not]
  congr 2
  rw [decide_eq_decide]
  show ((d.ts.n : Int) <= n.ty) ↔ _
  omega
theorem c59 (h : Ds.Ok V d) (hm : Mm.Ok V m) {mo : Option Nat} (ht : TyM V d mo) (hT : hasT d = true) {p q r t t2 t3 : Nat} (hp : V p = some (cell (.map mo) t)) (hq : V q = some (.cells m.row.toArray t2 (0, 0))) (hr : V r = some (.cells d.row.toArray t3 (0, 0))) {n : Nd} (hn : n ∈ m.nodes) (hty : qDu d n = true) :
  PP 59 [n.v, pv p, pv q, pv r] V (.bool (!qAg d m (qAF d n.ty) n.f)) := by
 refine x59 ?_
 unfold w59
 obtain ⟨h1, h2⟩ := of_decide_eq_true hty
 have hlen := h.types.n_eq
 obtain ⟨i, hi⟩ : ∃ i : Nat, n.ty = (i : Int) := ⟨n.ty.toNat, by omega⟩
 obtain ⟨x, hxm, hx, -, hl, hp1, hz, hrow⟩ := h.types.get (i := i) (by omega)
 have hf := qBM hx hi
 rw [hf]
 refine ⟨_, qBj hp, _, _, qAd hq 0 2 (by simp [Mm.row]), by simp, _, qAd hr 1 1 (by simp [Ds.row]), hp1, h1, by omega, ?_⟩
 rw [hi]
 refine ⟨qAe hp1, _, _, hrow, (c58 ht hT hm (h.typesOk x hxm).fields ((qBK.1 hT).2.2.2 x hxm) (hm.nodesOk n hn).rows).call ⟨_, rfl, rfl, rfl⟩⟩
theorem c33 (h : Ds.Ok V d) (hm : Mm.Ok V m) {mo : Option Nat} (ht : TyM V d mo) : Pur Tryz.prog 33 [.map mo, d.v, m.v] V (.bool (qCb d m)) := by
 refine Pur.mk ?_
 refine x33 ?_
 unfold w33
 have hn := hm.nodes.n_eq
 rcases ht with ⟨hT, b, rfl, hb⟩ | ⟨hT, rfl⟩
 rotate_left
 ·refine ⟨fun _ => ?_, fun k => absurd rfl k⟩
  unfold qCb; rw [(Bool.not_eq_true _).mp hT]; exact ⟨rfl, Mem.sub.refl _⟩
 refine ⟨(fun k => by cases k), fun _ => ⟨fun h1 => ?_, fun h1 => ?_⟩⟩
 ·unfold qCb; rw [decide_eq_false (by omega : ¬ m.nodes.length <= 4096)]; simp only [Bool.and_false, Bool.false_and]; exact ⟨trivial, Mem.sub.refl _⟩
 intro p hp
 have s1 := Mem.sub_new hp (.cells d.row.toArray 30 (0, 0))
 have hpp := Mem.set_same V p (.cells d.row.toArray 30 (0, 0))
 have hm1 := hm.sub s1
 refine (c56 (first := []) (caps := [pv p]) hm1.nodes Tryz.call57 (fun n => !qDu d n) (fun n hn => c57 (h.sub s1) hpp)).call ⟨_, rfl, fun h2 => ?_, fun h2 => ?_⟩
 ·unfold qCb
  have : m.nodes.all (qDu d) = false := by
   rw [List.all_eq_not_any_not, h2]; rfl
  rw [this]; simp only [Bool.and_false, Bool.false_and]; exact ⟨trivial, s1⟩
 have hall : m.nodes.all (qDu d) = true := by
  rw [List.all_eq_not_any_not, (Bool.not_eq_true _).mp h2]; rfl
 have ht1 : TyM (V.set p (.cells d.row.toArray 30 (0, 0))) d (some b) := .inl ⟨hT, b, rfl, hb.sub s1⟩
 have hd1 := h.sub s1
 refine ⟨nofun, _, qAd hpp 2 1 (by simp [Ds.row]), (c58 ht1 hT hm1 hd1.globals (qBK.1 hT).2.1 hm1.globals).call ⟨_, rfl, fun h3 => ?_, fun h3 => ?_⟩⟩
 rotate_left
 ·unfold qCb
  rw [(Bool.not_eq_true _).mp h3]; simp only [Bool.and_false, Bool.false_and]; exact ⟨trivial, s1⟩
 intro q hq
 have s2 := Mem.sub_new hq (cell (.map (some b)) 104)
 intro r hr
 have s3 := Mem.sub_new hr (.cells m.row.toArray 34 (0, 0))
 have s23 := s2.trans s3
 refine (c56 (first := []) (caps := [pv q, pv r, pv p]) (hm1.sub s23).nodes Tryz.call59 (fun n => !qAg d m (qAF d n.ty) n.f) (fun n hn => ?_)).call ⟨_, rfl, ?_, s1.trans s23⟩
 ·refine c59 (hd1.sub s23) (hm1.sub s23) (mo := some b) (.inl ⟨hT, b, rfl, (hb.sub s1).sub s23⟩) hT (s3 _ _ mss) mss (s23 _ _ hpp) hn (List.all_eq_true.1 hall n hn)
 ·show Ending.returned (Value.bool _) = _
  congr 2
  unfold qCb
  rw [hT, decide_eq_true (show m.nodes.length <= 4096 by omega), hall, show qAg d m d.globals m.globals = true from h3, List.all_eq_not_any_not]
  simp
theorem c15 [Tab V] (h : Ds.Ok V d) (hm : Mm.Ok V m) : Pur Tryz.prog 15 [d.v, m.v] V (.bool (qCb d m)) := by
 refine Pur.mk ?_
 refine x15 ?_
 unfold w15
 refine Tri.mono (c32 h) ?_
 rintro _ V' ⟨mo, rfl, hs, ht⟩
 exact ⟨mo, rfl, (c33 (h.sub hs) (hm.sub hs) ht).call ⟨_, rfl, rfl, hs⟩⟩
end
theorem chk_none {d : Ds} (h : (fltR (chkT d)).2.2 = 0) : chkT d = none := by
 have key : ∀ {a : Option Flt}, (∀ r, a = some r -> r.2.2 ≠ 0) -> (fltR a).2.2 = 0 -> a = none := fun {a} hb h => by
  cases a with
  | none => rfl
  | some r => exact absurd h (hb r rfl)
 refine key (fun r hr => ?_) h
 unfold chkT at hr
 have orC : ∀ {a b : Option Flt} {r}, a.or b = some r -> a = some r ∨ b = some r := fun {a b r} h => by
  cases a with
  | none => exact .inr (by simpa using h)
  | some x => exact .inl (by simpa using h)
 rcases orC hr with h1 | hr
 ·exact (types_bad d r h1).1
 rcases orC hr with h1 | hr
 ·exact (heads_bad d r h1).1
 rcases orC hr with h1 | hr
 ·exact (form_bad d r h1).1
 rcases orC hr with h1 | hr
 ·unfold qDg at h1
  obtain ⟨j, x, -, hx⟩ := qCj h1
  split at hx
  ·rename_i hne; cases hx; exact hne
  ·cases hx
 ·exact (exps_bad d r hr).1
section
variable {V : Mem} {d : Ds} {m : Mm}
theorem c98 (hd : Ds.Ok V d) (hm : Mm.Ok V m) (G : qAD d m) {typ : ByteArray} {v : Int} : PP 98 [d.v, m.v, .string typ, .int .i64 v] V (.bool (qAp d m typ v)) := by
 refine x98 ?_
 unfold w98
 have fin : ∀ {b : Bool}, qAp d m typ v = b -> (Ending.returned (.bool b) = .returned (.bool (qAp d m typ v)) /\ V = V) := fun e => ⟨by rw [e], rfl⟩
 refine ⟨fun h => ⟨fun a => fin ?_, fun a => fin ?_⟩, fun h => ⟨fun h1 => ⟨fun a => fin ?_, fun a => fin ?_⟩, fun h1 => ⟨fun h0 => fin ?_, fun h0 => ⟨fun hp => ⟨fun hl => ?_, fun hl => fin ?_⟩, fun hp => fin ?_⟩⟩⟩⟩
 ·unfold qAp; rw [if_pos (show typ = qAV from h)]; simp [show (-1099511627776 : Int) <= v from a]
 ·unfold qAp; rw [if_pos (show typ = qAV from h)]; exact decide_eq_false fun k => a k.1
 ·unfold qAp; rw [if_neg (show ¬ typ = qAV from h), if_pos (show typ = qAr from h1)]; exact decide_eq_true (.inl a)
 ·unfold qAp; rw [if_neg (show ¬ typ = qAV from h), if_pos (show typ = qAr from h1)]
  have a : ¬ v = 0 := a
  simp [a]
 ·unfold qAp; rw [if_neg (show ¬ typ = qAV from h), if_neg (show ¬ typ = qAr from h1)]; exact decide_eq_true (.inl h0)
 ·have h0 : ¬ v = 0 := h0
  have hn := hm.nodes.n_eq
  have hl : v <= (m.ns.n : Int) := hl
  obtain ⟨k, hk⟩ : ∃ k : Nat, v - 1 = (k : Int) := ⟨(v - 1).toNat, by omega⟩
  obtain ⟨y, hym, hy, -, -, hpn, hz, hrow⟩ := hm.nodes.get (i := k) (by omega)
  obtain ⟨p1, p2, p3, -⟩ := qAt G.mem
  have hty := of_decide_eq_true (p3 y hym)
  obtain ⟨j, hj⟩ : ∃ j : Nat, y.ty = (j : Int) := ⟨y.ty.toNat, by omega⟩
  have htn := hd.types.n_eq
  obtain ⟨tt, -, htt, -, -, hp2, hz2, hrow2⟩ := hd.types.get (i := j) (by omega)
  have hrow' : V.rowp m.ns.p (k * 2) 2 = some [.int .i64 (j : Int), y.sl.v] := by rw [<- hj]; exact hrow
  rw [hk]
  refine ⟨⟨by omega, by omega⟩, hpn, hz, by omega, qAe hpn, _, _, hrow', hp2, hz2, by omega, qAe hp2, _, _, hrow2, fin ?_⟩
  unfold qAp
  rw [if_neg (show ¬ typ = qAV from h), if_neg (show ¬ typ = qAr from h1), hk, Int.toNat_natCast, hy]
  refine decide_eq_decide.2 ⟨fun k1 => ?_, fun k1 => .inr ⟨by omega, by omega, ?_⟩⟩
  ·rcases k1 with k1 | ⟨-, -, k1⟩
   ·exact absurd k1 h0
   ·simp only [Option.map_some, Option.some.injEq] at k1
    obtain ⟨x, hx, hxn⟩ := idxT_at (d := d) (k := typ) (i := j) (by rw [<- k1, hj])
    rw [htt] at hx; cases hx; exact hxn
  ·simp only [Option.map_some, Option.some.injEq]
   rw [hj, <- (qBl p1).2.1 j tt htt]
   exact congrArg _ k1
 ·have hl : ¬ v <= (m.ns.n : Int) := hl
  have hn := hm.nodes.n_eq
  have h0 : ¬ v = 0 := h0
  unfold qAp
  rw [if_neg (show ¬ typ = qAV from h), if_neg (show ¬ typ = qAr from h1)]
  exact decide_eq_false fun k1 => by rcases k1 with k1 | ⟨-, k1, -⟩ <;> omega
 ·have hp : ¬ 0 < v := hp
  have h0 : ¬ v = 0 := h0
  unfold qAp
  rw [if_neg (show ¬ typ = qAV from h), if_neg (show ¬ typ = qAr from h1)]
  exact decide_eq_false fun k1 => by rcases k1 with k1 | ⟨k1, -, -⟩ <;> omega
def qEe (d : Ds) (m : Mm) (nm : ByteArray) (args : List Int) : Int :=
 if qFq d nm < 0 then 9 else match d.procs[(qFq d nm).toNat]? with
  | none => 9
  | some pr => if args.length = pr.params.length then (if qAg d m pr.params args = true then 0 else 11) else 3
theorem qGV {nm : ByteArray} {args : List Int} (h : qEe d m nm args = 0) : ∃ (i : Nat) (pr : Pr), qFq d nm = (i : Int) /\ d.procs[i]? = some pr /\ qAg d m pr.params args = true := by
 unfold qEe at h
 split at h
 ·cases h
 ·split at h
  ·cases h
  ·rename_i h1 pr hp
   split at h
   ·split at h
    ·exact ⟨(qFq d nm).toNat, pr, by omega, hp, by assumption⟩
    ·cases h
   ·cases h
def noPr : Pr := ⟨qAo [], qBZ, [], qAo [], qBZ, [], qBZ, []⟩
theorem c67 (hd : Ds.Ok V d) (hm : Mm.Ok V m) (G : qAD d m) {l : Sl} {args : List Int} (ha : qAc V l 1 (args.map qAq)) {nm : ByteArray} :
  PP 67 [d.v, m.v, .agg #[.string nm, l.v]] V (.tuple #[(if qEe d m nm args = 0 then ((d.procs[(qFq d nm).toNat]?).getD noPr) else noPr).v, .int .i64 (qEe d m nm args)]) := by
 refine x67 ?_
 unfold w67
 have bad : ∀ {e : Int}, qEe d m nm args = e -> e ≠ 0 -> (Ending.returned (.tuple #[noPr.v, .int .i64 e]) = .returned (.tuple #[(if qEe d m nm args = 0 then ((d.procs[(qFq d nm).toNat]?).getD noPr) else noPr).v, .int .i64 (qEe d m nm args)]) /\ V = V) := fun e h => ⟨by rw [e, if_neg h], rfl⟩
 refine (c97 hd).call ⟨_, rfl, fun h => ?_, fun h => ?_⟩
 ·exact bad (by unfold qEe; rw [if_pos h]) (by decide)
 ·have h : ¬ qFq d nm < 0 := h
  rcases qBk (fun t : Pr => decide (t.name = nm)) d.procs with ⟨h1, -⟩ | ⟨i, pr, h1, h2, -⟩
  ·have : qFq d nm = -1 := h1
   omega
  have hi : qFq d nm = (i : Int) := h1
  have hn := hd.procs.n_eq
  have hil := (List.getElem?_eq_some_iff.1 h2).1
  obtain ⟨y, hym, hy, -, -, hp, hz, hrow⟩ := hd.procs.get (i := i) (by omega)
  rw [h2] at hy; cases hy
  have hc : qEe d m nm args = if args.length = pr.params.length then (if qAg d m pr.params args = true then 0 else 11) else 3 := by unfold qEe; rw [if_neg h, hi, Int.toNat_natCast, h2]
  have hok := (hd.procsOk pr hym).params
  have hln := hok.n_eq
  have han := ha.n_eq
  rw [hi] at bad ⊢
  refine ⟨hp, hz, by omega, _, _, _, _, _, hrow, fun hlen => ?_, fun hlen => ?_⟩
  ·have hlen : (l.n : Int) = (pr.ps.n : Int) := hlen
   have hl2 : args.length = pr.params.length := by omega
   rw [if_pos hl2] at hc
   refine qBf (mk := fun k : Int => .int .i64 k) (b0 := 0) args.length (fun j V1 => V1 = V /\ ∀ (i : Nat) f v, i < j -> pr.params[i]? = some f -> args[i]? = some v -> qAp d m f.ty v = true) ⟨rfl, fun i f v h => by omega⟩ ?_
   rintro j b V1 J hj ⟨rfl, hall⟩ hJ
   refine ⟨fun hlt => ?_, fun hge => ?_⟩
   ·obtain ⟨v, hvm, hv, -, hjl, hp1, hz1, hr1⟩ := ha.get hlt
    obtain ⟨f, hfm, hf, -, -, hp2, hz2, hr2⟩ := hok.get (i := j) (by omega)
    refine ⟨hp1, hz1, hlt, v, hr1, hp2, hz2, by omega, qAe hp2, _, _, hr2, (c98 hd hm G).call ⟨_, rfl, fun hb => ⟨ha.succ hlt, hJ hjl _ _ ⟨rfl, fun i g w hi' hg hw => ?_⟩⟩, fun hb => bad ?_ (by decide)⟩⟩
    ·rcases Nat.lt_or_ge i j with h3 | h3
     ·exact hall i g w h3 hg hw
     ·obtain rfl : i = j := by omega
      rw [hf] at hg; cases hg
      rw [hv] at hw; cases hw
      exact hb
    ·rw [hc, if_neg fun k => hb ((qAC.1 k).2 j f v hf hv)]
   ·have hd2 := (ha.done hge).2
    have hval : qAg d m pr.params args = true := qAC.2 ⟨hl2.symm, fun i f v hf hv => hall i f v (by have := (List.getElem?_eq_some_iff.1 hv).1; omega) hf hv⟩
    rw [if_pos hval] at hc
    refine ⟨?_, rfl⟩
    rw [hc, if_pos rfl, Int.toNat_natCast, h2]
    rfl
  ·have hlen : ¬ (l.n : Int) = (pr.ps.n : Int) := hlen
   exact bad (by rw [hc, if_neg (by omega)]) (by decide)
noncomputable def qCQ (d : Ds) (m : Mm) (F : Int) : Int := by
 classical
 exact if qAD d m then (if F < 0 then 2 else if 1048576 < F then 2 else 0) else 1
theorem c37 [Tab V] (hd : Ds.Ok V d) (hm : Mm.Ok V m) {F : Int} : PP 37 [d.v, m.v, .int .i64 F] V (.int .i64 (qCQ d m F)) := by
 refine x37 ?_
 unfold w37
 have bad : ¬ qAD d m -> (Ending.returned (.int .i64 1) = .returned (.int .i64 (qCQ d m F)) /\ V = V) := fun h => ⟨by unfold qCQ; rw [if_neg h], rfl⟩
 refine (c65 scopeC newC hd).call ?_
 by_cases hv : qBc d = true
 ·rw [if_pos hv]
  refine ⟨_, _, _, rfl, fun h0 => (c15 hd hm).call ⟨_, rfl, fun h1 => ?_, fun h1 => bad fun k => h1 k.mem⟩, fun h0 => bad fun k => h0 (by rw [k.chk]; rfl)⟩
  have G : qAD d m := ⟨hv, chk_none h0, h1⟩
  refine ⟨fun h => ⟨?_, rfl⟩, fun h => ⟨fun h2 => ⟨?_, rfl⟩, fun h2 => ⟨?_, rfl⟩⟩⟩
  ·unfold qCQ; rw [if_pos G, if_pos h]
  ·unfold qCQ; rw [if_pos G, if_neg h, if_pos h2]
  ·unfold qCQ; rw [if_pos G, if_neg h, if_neg h2]
 ·rw [if_neg hv]
  exact ⟨_, _, _, rfl, fun h => absurd h (by decide), fun _ => bad fun k => hv k.valid⟩
end
theorem loop3u {V : Mem} {β γ : Type} {mk : β -> Value} {mc : γ -> Value} {B : β -> γ -> Int -> Mem -> (List Value -> Mem -> Prop) -> Prop} {b0 : β} {c0 : γ} (inj : ∀ x y, mk x = mk y -> x = y) (inc : ∀ x y, mc x = mc y -> x = y) (len : Nat) (St : Nat -> β -> γ -> Mem -> Prop) (h0 : St 0 b0 c0 V)
  (step : ∀ (i : Nat) (b : β) (c : γ) V1 J, i <= len -> St i b c V1 -> (i < len -> ∀ b' c' V2, St (i + 1) b' c' V2 -> J [mk b', mc c', .int .i64 ((i : Int) + 1)] V2) -> B b c (i : Int) V1 J) :
  ∃ (I : Nat -> List Value -> Mem -> Prop) (n0 : Nat), I n0 [mk b0, mc c0, .int .i64 0] V /\ ∀ n V1, ∀ b : β, ∀ c : γ, ∀ v : Int, I n [mk b, mc c, .int .i64 v] V1 -> ∀ J : List Value -> Mem -> Prop, (∀ m ys V'', m < n -> I m ys V'' -> J ys V'') -> B b c v V1 J := by
 refine ⟨LI len fun i xs V => ∃ b c, xs = [mk b, mc c, .int .i64 i] /\ St i b c V, len, LI.start ⟨b0, c0, rfl, h0⟩, ?_⟩
 rintro n V1 b c v ⟨i, rfl, hi, b', c', hx, hs⟩ J hJ
 simp only [List.cons.injEq, Value.int.injEq, true_and, and_true] at hx
 obtain ⟨hb, hc, rfl⟩ := hx
 cases inj _ _ hb
 cases inc _ _ hc
 exact step i b c V1 J hi hs fun hlt b' c' V2 h2 => LI.next hJ hlt ⟨b', c', rfl, h2⟩
theorem c38 {V : Mem} {m : Mm} (hm : Mm.Ok V m) (h1 : m.globals.length <= 2147483648) (h2 : m.nodes.length <= 4096) (h3 : ∀ n ∈ m.nodes, n.f.length <= 2147483648) : Tri Tryz.prog 38 #[m.v] V fun e V' => ∃ gs ns nd, e = .returned (.agg #[.slice gs.p gs.n gs.c, .slice ns.p ns.n ns.c]) /\ Lay V V' gs ns qBZ nd (qFl m) := by
 refine x38 ?_
 unfold w38
 refine Tri.mono (c66 hm.globals h1) ?_
 rintro _ V1 ⟨gs, rfl, o1⟩
 refine ⟨gs, rfl, loop3u (mk := fun s : Sl => .slice s.p s.n s.c) (mc := fun s : Sl => .slice s.p s.n s.c) (b0 := gs) (c0 := ⟨none, 0, 0⟩) qFx qFx m.nodes.length (fun i b ns V2 => b = gs /\ ∃ nd, Lay V V2 gs ns qBZ nd ⟨m.globals, (m.nodes.take i).map fun n => (n.ty, n.f), 0, 0, []⟩ /\ nd.length = i) ⟨rfl, [], ⟨o1, Own.nil o1.sub _ _, Own.nil o1.sub _ _, (fun n hn => by cases hn), rfl, (fun n hn => by cases hn), (fun i j n n' c h => by cases h)⟩, rfl⟩ ?_⟩
 rintro i b ns V2 J hi ⟨rfl, nd, L, hnl⟩ hJ
 have hr := hm.nodes.sub L.sub
 refine ⟨fun hlt => ?_, fun hge => ?_⟩
 ·obtain ⟨x, hxm, hx, -, hil, hp, hz, hrow⟩ := hr.get hlt
  refine ⟨hp, hz, hlt, x.ty, x.sl, hrow, Tri.mono (c66 ((hm.nodesOk x hxm).rows.sub L.sub) (h3 x hxm)) ?_⟩
  rintro _ V3 ⟨fs, rfl, o3⟩
  refine ⟨fs, rfl, fun tb htb => L.new (n := ⟨x.ty, fs, x.f⟩) o3 htb rfl rfl (by omega) fun s' V' L' _ => ⟨s', rfl, hr.succ hlt, hJ hil _ _ _ ⟨rfl, nd ++ [⟨x.ty, fs, x.f⟩], ?_, by rw [List.length_append, hnl]; rfl⟩⟩⟩
  rw [List.take_add_one, hx]
  simpa using L'
 ·have hd := (hr.done hge).2
  rw [List.take_of_length_le hd] at L
  exact ⟨b, ns, nd, rfl, L⟩
end Go.Proofs
namespace Go.Sx
open Go
section
variable {P : Program} {n : Nat} {ops : Array Oper} {i : Nat} {o : Oper} {rest : List Nat} {Q : Exit -> Act -> World -> Prop} {a : Act} {w : World}
theorem qCm (hg : o.guard = none) : Region.wanted o (yielded ops a.tmps) = true := by simp [Region.wanted, hg]
theorem step_value {v : Value} (ho : ops[i]? = some o) (hg : o.guard = none) (hrun : (execOp a.eval o).run P w = .ok (.value v) w) (k : wpOpsIn (qAw none) n P ops Q rest (a.put o.dst v) w) : wpOpsIn (qAw none) n P ops Q (i :: rest) a w := by
 rw [wpOpsIn_cons]
 unfold wpOpIn
 simp only [ho]
 rw [if_pos (qCm hg)]
 refine ⟨fun _ _ => trivial, ?_⟩
 show Oper.uponIn _ _ _ _ _ _ _ ((execOp a.eval o).run P w)
 rw [hrun]; exact k
theorem step_defer {d : Deferred} (ho : ops[i]? = some o) (hg : o.guard = none) (hrun : (execOp a.eval o).run P w = .ok (.defer d) w) (k : wpOpsIn (qAw none) n P ops Q rest (({ a with defers := d :: a.defers } : Act).put o.dst undef) w) : wpOpsIn (qAw none) n P ops Q (i :: rest) a w := by
 rw [wpOpsIn_cons]
 unfold wpOpIn
 simp only [ho]
 rw [if_pos (qCm hg)]
 refine ⟨fun _ _ => trivial, ?_⟩
 show Oper.uponIn _ _ _ _ _ _ _ ((execOp a.eval o).run P w)
 rw [hrun]; exact k
theorem step_call {f : FuncId} {args : Array Value} {V : Mem} {R : Ending -> Mem -> Prop} (ho : ops[i]? = some o) (hg : o.guard = none) (hrun : (execOp a.eval o).run P w = .ok (.enter f args) w) (hV : V.le w) (H : Tri P f args V R)
  (hp : ∀ ch V' w', R (.panicked ch) V' -> Frm V w V' w' -> Q (.panic ch) a w') (hr : ∀ v V' w', R (.returned v) V' -> Frm V w V' w' -> wpOpsIn (qAw none) n P ops Q rest (a.put o.dst v) w') (hn : ∀ V', ¬ R .outgrown V') : wpOpsIn (qAw none) n P ops Q (i :: rest) a w := by
 rw [wpOpsIn_cons]
 unfold wpOpIn
 simp only [ho]
 rw [if_pos (qCm hg)]
 refine ⟨fun _ _ => trivial, ?_⟩
 show Oper.uponIn _ _ _ _ _ _ _ ((execOp a.eval o).run P w)
 rw [hrun]
 refine ⟨fun h => by simp [qAw, Fence.wide] at h, qDf.2 (qCk (H w hV) ?_)⟩
 rintro e w' ⟨V', hR, hF⟩
 cases e with
 | returned v => exact hr v V' w' hR hF
 | panicked ch => exact hp ch V' w' hR hF
 | outgrown => exact (hn V' hR).elim
theorem run_callv {c : Call} {fv : Operand} {f : FuncId} {first caps args : Array Value} (hop : o.op = .call c) (hc : c.callee = .value fv) (hf : a.eval fv = .func (.func f) first caps) (hargs : c.args.map a.eval = args) (hk : ∀ args w, (callFunc f args).run P w = .ok (.enter f args) w) :
  (execOp a.eval o).run P w = .ok (.enter f (first ++ args ++ caps)) w := by
 unfold execOp
 simp only [hop, resolve, hc, hf, hargs, Deferred.ofValue, Sem.run_bind, Sem.run_pure, Result.andThen_ok, invoke]
 simp [hk]
def Rec (u : FrameMode) (v : Value) (u' : FrameMode) : Prop :=
 match u with
 | .panicking ({ v := v', recovered := false, goexit := false } :: older) => v = v' /\ u' = .panicking ({ v := v', recovered := true } :: older)
 | _ => v = .nilIface /\ u' = u
end
section
variable {P : Program} {n : Nat}
theorem qFZ {F : Fence} {c : Code} {Q Q' : Exit -> Act -> List Frame -> World -> Prop} {a : Act} {cs : List Frame} {w : World} (h : c.wpSIn F n P Q a cs w) (hq : ∀ e a cs w, Q e a cs w -> Q' e a cs w) : c.wpSIn F n P Q' a cs w :=
 fun b k hb hr hF hroom => let ⟨e, a', cs', w', hl, q, r⟩ := h b k hb hr hF hroom; ⟨e, a', cs', w', hl, hq _ _ _ _ q, r⟩
theorem wpSIn_head {x : Code} : ∀ {c : Code} {rest : List Code} {Q : Exit -> Act -> List Frame -> World -> Prop} {a : Act} {cs : List Frame} {w : World}, flat c = x :: rest -> x.wpSIn (qAw none) n P (Exit.thenS (fun a cs w => wpL none n P (fun e a' w' => Q e a' cs w') rest a w) Q) a cs w -> c.wpSIn (qAw none) n P Q a cs w := by
 intro c
 induction c with
 | seq p q ihp ihq =>
  intro rest Q a cs w hf h
  rw [flat] at hf
  cases hp : flat p with
  | nil =>
   exfalso
   have : ∀ c : Code, flat c ≠ [] := fun c => by
    induction c with
    | seq a b iha ihb => rw [flat]; simp [iha]
    | _ => simp [flat]
   exact this p hp
  | cons y r' =>
   rw [hp, List.cons_append] at hf
   obtain ⟨rfl, rfl⟩ : y = x /\ r' ++ flat q = rest := by
    injection hf with h1 h2
    exact ⟨h1, h2⟩
   refine wpSIn_seq (ihp hp (qFZ h ?_))
   intro e a cs w he
   cases e with
   | normal =>
    refine qCc ?_ (qEg he)
    intro e a w he
    cases e with
    | normal => exact wpSIn_of_wpIn rfl (qCl he)
    | _ => exact he
   | _ => exact he
 | _ =>
  intro rest Q a cs w hf h
  rw [flat] at hf
  ·injection hf with h1 h2
   subst h1; subst h2
   refine qFZ h ?_
   intro e a cs w he
   cases e with
   | normal => exact he
   | _ => exact he
  all_goals (intro x y; nofun)
variable {ops : Array Oper} {i : Nat} {o : Oper} {rest : List Nat} {Q : Exit -> Act -> World -> Prop} {a : Act} {w : World}
theorem qHl {f : FuncId} {fn : Func} {x c : Code} {rest : List Code} {id : Nat} {o0 o1 : Oper} {args : Array Value} {u : FrameMode} {R : Ending -> FrameMode -> World -> Prop} {at0 : Array TypeId} {t3 t6 : Nat} (hf : P.funcs[f]? = some fn) (hb : fn.body = some c) (hfl : flat c = x :: rest) (hx : x = .region id #[o0, o1] false)
  (h0 : o0.op = .call { callee := .builtin .recover, args := #[], argTypes := at0 }) (d0 : o0.dst = some t6) (g0 : o0.guard = none) (h1 : o1.op = .assign (.tmp t6)) (d1 : o1.dst = some t3) (g1 : o1.guard = none) (h6 : t6 < fn.ntmps) (hd : args.size <= fn.ntmps)
  (H : ∀ (v : Value) (u' : FrameMode), Rec u v u' ->
   wpL none n P (fun e a' w' => (e = .normal ∨ e = .ret) /\ a'.defers = [] /\ ∃ v, (results fn a'.tmps).run P w' = .ok v w' /\ R (.returned v) u' w') rest ((({ tmps := args ++ Array.replicate (fn.ntmps - args.size) undef, defers := [] } : Act).put (some t6) v).put (some t3) v) w) :
  CallsDIn (qAw none) n P f args u w R := by
 refine callsDIn_of_wpSIn hf hb trivial fun c₀ cs hu => ?_
 refine wpSIn_head hfl ?_
 subst hx
 refine wpSIn_region ?_
 have hr0 : ∀ a : Act, (execOp a.eval o0).run P w = .ok .recover w := fun a => by
  unfold execOp
  simp [h0, resolve, invoke, builtin]
 have hr1 : ∀ a : Act, (execOp a.eval o1).run P w = .ok (.value (a.eval (.tmp t6))) w := fun a => by
  unfold execOp
  simp [h1]
 have go : ∀ (v : Value) (u' : FrameMode) (cs' : List Frame), Rec u v u' -> cs' = { c₀ with mode := u' } :: cs ->
   wpOpsSIn (qAw none) n P #[o0, o1] (Exit.thenS (fun a cs' w => wpL none n P (fun e a' w' => bodyPostS P fn c₀ cs R e a' cs' w') rest a w) (bodyPostS P fn c₀ cs R)) [1] (({ tmps := args ++ Array.replicate (fn.ntmps - args.size) undef, defers := [] } : Act).put o0.dst v) cs' w := fun v u' cs' hv hcs => by
  rw [wpOpsSIn.eq_2]
  simp only [List.getElem?_toArray, List.getElem?_cons_succ, List.getElem?_cons_zero]
  refine ⟨fun _ _ => trivial, ?_⟩
  have hw := qCm (ops := #[o0, o1]) (a := (({ tmps := args ++ Array.replicate (fn.ntmps - args.size) undef, defers := [] } : Act).put o0.dst v)) g1
  rw [if_pos hw, hr1]
  simp only
  rw [wpOpsSIn.eq_1]
  show wpL none n P (fun e a' w' => bodyPostS P fn c₀ cs R e a' cs' w') rest _ w
  have e : (({ tmps := args ++ Array.replicate (fn.ntmps - args.size) undef, defers := [] } : Act).put o0.dst v).eval (.tmp t6) = v := by
   rw [d0]
   exact qBa (a := { tmps := args ++ Array.replicate (fn.ntmps - args.size) undef, defers := [] }) (v := v) (by simp; omega)
  rw [e, d0, d1]
  refine qCc ?_ (H v u' hv)
  rintro e a' w' ⟨he, h1, v', h2, h3⟩
  rcases he with rfl | rfl
  ·exact ⟨h1, u', hcs, v', h2, h3⟩
  ·exact ⟨h1, u', hcs, v', h2, h3⟩
 show wpOpsSIn _ _ _ _ _ [0, 1] _ _ _
 rw [wpOpsSIn.eq_2]
 simp only [List.getElem?_toArray, List.getElem?_cons_zero]
 refine ⟨fun _ _ => trivial, ?_⟩
 have hw := qCm (ops := #[o0, o1]) (a := ({ tmps := args ++ Array.replicate (fn.ntmps - args.size) undef, defers := [] } : Act)) g0
 simp only at hw
 rw [if_pos hw, hr0]
 simp only
 unfold recoverD
 split
 ·rename_i v cs' hrec
  simp only at hrec
  split at hrec
  ·rename_i v' older hm
   simp only [Option.some.injEq, Prod.mk.injEq] at hrec
   obtain ⟨rfl, rfl⟩ := hrec
   rw [hu] at hm
   exact go _ _ _ (by unfold Rec; rw [hm]; exact ⟨rfl, rfl⟩) rfl
  ·cases hrec
 ·rename_i hrec
  simp only at hrec
  split at hrec
  ·cases hrec
  ·rename_i hm
   refine go _ u _ ?_ (by cases c₀; simp only at hu; subst hu; rfl)
   rw [hu] at hm
   unfold Rec
   split
   ·exact absurd rfl (hm _ _)
   ·exact ⟨rfl, rfl⟩
end
end Go.Sx
namespace Go.Proofs
open Go Go.Sx
set_option maxRecDepth 100000
set_option linter.unusedVariables false
section
variable {V : Mem} {R : RP}
noncomputable def c39a : List Code := ((qBX (qAj Tryz.f39) []).drop 0).take 3
def w39a (a : ByteArray) (b c d g i j k l o : Sl) (p : ByteArray) (q : Sl) (r : Int) : MR := fun V R => TT 67 #[uD a b c d g i j k, uA #[uL l, uL o], uA #[uS p, uL q]] V fun e V1 => ∃ s u y z A B, e = rT #[uA #[uS s, uL u, uS y, uL z, uL A], uI B] /\ qAB [uS a, uL b, uL c, uL d, uL g, uL i, uL j, uL k] 30 V1 fun C V2 => qAB [uL l, uL o] 34 V2 fun D V3 => qAB [uS p, uL q] 36 V3 fun F V4 => qAB [uP none] 94 V4 fun G V5 => qAB [uI 0, uI 0, uI 0, uI 0, uI 0] 44 V5 fun H V6 => qAB [uS s, uL u, uS y, uL z, uL A] 79 V6 fun L V7 => R (rT #[uI r, uP (qAb C 0), uP (qAb D 0), uP (qAb F 0), uP (qAb G 0), uP (qAb H 0), uI B, uP (qAb L 0), uB (!(decide (B = 0)))]) V7
theorem s39a {a : ByteArray} {b c d g i j k l o : Sl} {p : ByteArray} {q : Sl} {r : Int} {V : Mem} {R : List Value -> Mem -> Prop} (h : w39a a b c d g i j k l o p q r V (OV R)) : Seg Tryz.prog 37 c39a [(0, uD a b c d g i j k), (1, uA #[uL l, uL o]), (2, uA #[uS p, uL q]), (3, uI r)] [3, 4, 5, 6, 8, 9, 10, 11, 20] V R :=
 qBd (H := hK 37) [(0, (.agg (.cons (.var .s 0) (.cons (.var .sl 1) (.cons (.var .sl 2) (.cons (.var .sl 3) (.cons (.var .sl 4) (.cons (.var .sl 5) (.cons (.var .sl 6) (.cons (.var .sl 7) .nil)))))))))), (1, (.agg (.cons (.var .sl 8) (.cons (.var .sl 9) .nil)))), (2, (.agg (.cons (.var .s 10) (.cons (.var .sl 11) .nil)))), (3, (.var (.i .i64) 12))] [uS a, uL b, uL c, uL d, uL g, uL i, uL j, uL k, uL l, uL o, uS p, uL q, uI r] rfl (by kernel_rfl) h
noncomputable def c39b : List Code := ((qBX (qAj Tryz.f39) [3, 0]).drop 0).take 1
def w39b (a b : Option Addr) (c : Int) : MR := fun V R => StT a 0 [uP none] V fun V1 => StT b 0 [uI 0, uI 0, uI 0, uI 0, uI 0] V1 fun V2 => R (rT #[uP a, uP b, uI c]) V2
theorem s39b {a b : Option Addr} {c : Int} {V : Mem} {R : List Value -> Mem -> Prop} (h : w39b a b c V (OV R)) : Seg Tryz.prog 37 c39b [(8, uP a), (9, uP b), (10, uI c)] [8, 9, 10] V R :=
 qBd (H := hK 37) [(8, (.var .p 0)), (9, (.var .p 1)), (10, (.var (.i .i64) 2))] [uP a, uP b, uI c] rfl (by kernel_rfl) h
noncomputable def c39c : List Code := ((qBX (qAj Tryz.f39) []).drop 4).take 1
def w39c (a : Int) (b c d g i : Option Addr) (j : Int) (k : Option Addr) : MR := fun V R => ∃ l o p q r s u y, V.rowp b ((0 : Int).toNat * 1) 8 = some [uS l, uL o, uL p, uL q, uL r, uL s, uL u, uL y] /\ ∃ z A, V.rowp c ((0 : Int).toNat * 1) 2 = some [uL z, uL A] /\ qAB [uS l, uL o, uL p, uL q, uL r, uL s, uL u, uL y, uL z, uL A, uI a, uI 0, uI 0, uI 0, .slice none 0 0] 98 V fun B V1 => StT g 0 [uP (qAb B 0)] V1 fun V2 => R (rT #[uP d, uP g, uP i, uI j, uP k]) V2
theorem s39c {a : Int} {b c d g i : Option Addr} {j : Int} {k : Option Addr} {V : Mem} {R : List Value -> Mem -> Prop} (h : w39c a b c d g i j k V (OV R)) : Seg Tryz.prog 37 c39c [(3, uI a), (4, uP b), (5, uP c), (6, uP d), (8, uP g), (9, uP i), (10, uI j), (11, uP k)] [6, 8, 9, 10, 11] V R :=
 qBd (H := hK 37) [(3, (.var (.i .i64) 0)), (4, (.var .p 1)), (5, (.var .p 2)), (6, (.var .p 3)), (8, (.var .p 4)), (9, (.var .p 5)), (10, (.var (.i .i64) 6)), (11, (.var .p 7))] [uI a, uP b, uP c, uP d, uP g, uP i, uI j, uP k] rfl (by kernel_rfl) h
noncomputable def c39d : Array Oper := qDW ((qBX (qAj Tryz.f39) []).getD 6 .skip)
def w39d (a b c : Option Addr) (d : Int) (g : Option Addr) : MR := fun V R => ∃ i, V.rowp b ((0 : Int).toNat * 1) 1 = some [uP i] /\ ∃ j k l o p, V.rowp g ((0 : Int).toNat * 1) 5 = some [uS j, uL k, uS l, uL o, uL p] /\ ¬ a = none /\ ∃ q, V.rowp a 1 1 = some [uL q] /\ R (rT #[uP b, uP c, uI d, uP i, uA #[uS j, uL k, uS l, uL o, uL p], uL q]) V
theorem s39d {a b c : Option Addr} {d : Int} {g : Option Addr} {V : Mem} {R : List Value -> Mem -> Prop} (h : w39d a b c d g V (OV R)) : SegO Tryz.prog 37 c39d 0 4 [(6, uP a), (8, uP b), (9, uP c), (10, uI d), (11, uP g)] [8, 9, 10, 29, 30, 32] V R :=
 qDn (H := hK 37) [(6, (.var .p 0)), (8, (.var .p 1)), (9, (.var .p 2)), (10, (.var (.i .i64) 3)), (11, (.var .p 4))] [uP a, uP b, uP c, uI d, uP g] rfl (by kernel_rfl) h
noncomputable def c39e : Array Oper := qDW ((qBX (qAj Tryz.f39) []).getD 6 .skip)
def w39e (a b : Option Addr) (c : Int) : MR := fun V R => ¬ b = none /\ StT (qAb b 1) 0 [uI c] V fun V1 => R (rT #[uP a, uP b]) V1
theorem s39e {a b : Option Addr} {c : Int} {V : Mem} {R : List Value -> Mem -> Prop} (h : w39e a b c V (OV R)) : SegO Tryz.prog 37 c39e 5 2 [(8, uP a), (9, uP b), (33, uI c)] [8, 9] V R :=
 qDn (H := hK 37) [(8, (.var .p 0)), (9, (.var .p 1)), (33, (.var (.i .i64) 2))] [uP a, uP b, uI c] rfl (by kernel_rfl) h
noncomputable def c39f : List Code := ((qBX (qAj Tryz.f39) []).drop 7).take 1
def w39f (a b : Option Addr) : MR := fun V R => ∃ c, V.rowp a ((0 : Int).toNat * 1) 1 = some [uP c] /\ ∃ d g i j k, V.rowp b ((0 : Int).toNat * 1) 5 = some [uI d, uI g, uI i, uI j, uI k] /\ StT a 0 [uP c] V fun V1 => V1.rowp b 0 5 = some [uI d, uI g, uI i, uI j, uI k] /\ StT b 0 [uI d, uI g, uI i, uI j, uI k] V1 fun V2 => R (rT #[uP a, uP b, uI 0]) V2
theorem s39f {a b : Option Addr} {V : Mem} {R : List Value -> Mem -> Prop} (h : w39f a b V (OV R)) : Seg Tryz.prog 37 c39f [(8, uP a), (9, uP b)] [8, 9, 10] V R :=
 qBd (H := hK 37) [(8, (.var .p 0)), (9, (.var .p 1))] [uP a, uP b] rfl (by kernel_rfl) h
noncomputable def c68a : List Code := ((qBX (qAj Tryz.f68) []).drop 1).take 5
def w68a (a b : Option Addr) (c : Value) : MR := fun V R => GenK Tryz.prog (.binOp .neq 20 (.tmp 8) (.const .nilIface) 20) 4 (gv [(8, K.cast .r c)]) V fun x V1 => ∃ d, x = uB d /\ Br (d = true) (GenK Tryz.prog (.typeAssert (.tmp 11) 20 138 true) 139 (gv [(11, K.cast .r c)]) V1 fun x V2 => ∃ g i, x = .tuple #[uA #[uI g], uB i] /\ Br (i = true) (¬ a = none /\ StT (qAb a 0) 0 [uI g] V2 fun V3 => ∃ j, V3.rowp b ((0 : Int).toNat * 1) 1 = some [uP j] /\ ¬ j = none /\ ¬ j = none /\ ∃ k, V3.rowp j 13 1 = some [uI k] /\ ¬ a = none /\ ¬ (qAb a 2) = none /\ StT (qAb a 2) 0 [uI k] V3 fun V4 => ∃ l, V4.rowp b ((0 : Int).toNat * 1) 1 = some [uP l] /\ ¬ l = none /\ ¬ l = none /\ ∃ o, V4.rowp l 14 1 = some [uL o] /\ Lp [uI 0] V4 fun I n V5 => ∀ p, I n [uI p] V5 -> ∀ J0 : LMP, Nx I n J0 -> Br (p < (o.n : Int)) (Ix o p (∃ q r s, V5.rowp o.p (p.toNat * 3) 3 = some [uI q, uI r, uI s] /\ Br (0 < r) (¬ a = none /\ ¬ (qAb a 2) = none /\ ∃ u, V5.rowp a 3 1 = some [uI u] /\ IR (u + 1) /\ ¬ a = none /\ ¬ (qAb a 2) = none /\ StT (qAb a 3) 0 [uI (u + 1)] V5 fun V6 => IR (p + 1) /\ J0 [uI (p + 1)] V6) (IR (p + 1) /\ J0 [uI (p + 1)] V5))) (R (rT #[]) V5)) (∃ t x, K.cast .r c = .iface t x /\ R (.panicked [{ v := .iface t x, recovered := false }]) V2)) (∃ g, V1.rowp b ((0 : Int).toNat * 1) 1 = some [uP g] /\ ¬ g = none /\ ¬ g = none /\ ∃ i, V1.rowp g 13 1 = some [uI i] /\ ¬ a = none /\ ¬ (qAb a 2) = none /\ StT (qAb a 2) 0 [uI i] V1 fun V2 => ∃ j, V2.rowp b ((0 : Int).toNat * 1) 1 = some [uP j] /\ ¬ j = none /\ ¬ j = none /\ ∃ k, V2.rowp j 14 1 = some [uL k] /\ Lp [uI 0] V2 fun I n V3 => ∀ l, I n [uI l] V3 -> ∀ J0 : LMP, Nx I n J0 -> Br (l < (k.n : Int)) (Ix k l (∃ o p q, V3.rowp k.p (l.toNat * 3) 3 = some [uI o, uI p, uI q] /\ Br (0 < p) (¬ a = none /\ ¬ (qAb a 2) = none /\ ∃ r, V3.rowp a 3 1 = some [uI r] /\ IR (r + 1) /\ ¬ a = none /\ ¬ (qAb a 2) = none /\ StT (qAb a 3) 0 [uI (r + 1)] V3 fun V4 => IR (l + 1) /\ J0 [uI (l + 1)] V4) (IR (l + 1) /\ J0 [uI (l + 1)] V3))) (R (rT #[]) V3))
theorem s68a {a b : Option Addr} {c : Value} {V : Mem} {R : List Value -> Mem -> Prop} (h : w68a a b c V (OV R)) : Seg Tryz.prog 46 c68a [(0, uP a), (1, uP b), (2, K.cast .r c)] [] V R :=
 qBd (H := hK 46) [(0, (.var .p 0)), (1, (.var .p 1)), (2, (.var .r 2))] [uP a, uP b, c] rfl (by kernel_rfl) h
end
end Go.Proofs
