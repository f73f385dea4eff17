/- Part 12 of a proof of a law of this seat: no statement of the seat is proved here. -/
import Derived.Test.YtjnmeimbcljkjaaGreatDoorPart11
set_option linter.unusedVariables false
set_option linter.unusedSimpArgs false
namespace Go.Proofs
open Go Go.Sx
attribute [local irreducible] Go.Sx.Tri
mutual
def okE (d : Int) : E → Bool | .mk op n s _ k => decide (d ≤ 60) && nodeB op n s k.length && okEs (d + 1) k
def okEs (d : Int) : List E → Bool | [] => true | x :: xs => okE d x && okEs d xs
end
mutual
def szE : E → Nat | .mk _ _ _ _ k => 1 + szEs k
def szEs : List E → Nat | [] => 0 | x :: xs => szE x + szEs xs
end
mutual
def cntE (d : Int) : E → Int | .mk op n s _ k => if 60 < d then 1001 else if nodeB op n s k.length = true then cntEs (d + 1) 1 k else 1001
def cntEs (d acc : Int) : List E → Int | [] => acc | x :: xs => if 1000 < acc + cntE d x then acc + cntE d x else cntEs d (acc + cntE d x) xs
end
mutual
def vE (left d : Int) : E → Bool × Int | .mk op n s _ k => if 0 ≤ left - 1 ∧ d ≤ 60 ∧ nodeB op n s k.length = true then vEs (left - 1) (d + 1) k else (false, left - 1)
def vEs (left d : Int) : List E → Bool × Int | [] => (true, left) | x :: xs => if (vE left d x).1 = true then vEs (vE left d x).2 d xs else (false, (vE left d x).2)
end
def validE (e : E) : Bool := decide (okE 1 e = true ∧ szE e ≤ 1000)
mutual
theorem vE_ok : ∀ (left d : Int) (e : E), ((vE left d e).1 = true ↔ okE d e = true ∧ (szE e : Int) ≤ left) ∧ ((vE left d e).1 = true → (vE left d e).2 = left - szE e)
  | left, d, .mk op n s l k => by
    have ih := vEs_ok (left - 1) (d + 1) k
    unfold vE okE szE
    split
    · rename_i h
      have := ih
      grind
    · rename_i h
      grind
theorem vEs_ok : ∀ (left d : Int) (k : List E), 0 ≤ left → ((vEs left d k).1 = true ↔ okEs d k = true ∧ (szEs k : Int) ≤ left) ∧ ((vEs left d k).1 = true → (vEs left d k).2 = left - szEs k)
  | left, d, [], h => by simp [vEs, okEs, szEs, h]
  | left, d, x :: xs, h => by
    have h1 := vE_ok left d x
    have h2 := vEs_ok (vE left d x).2 d xs
    unfold vEs okEs szEs
    split
    · rename_i hx
      have e := h1.2 hx
      have k := h1.1.1 hx
      have h2 := h2 (by omega)
      grind
    · grind
end
mutual
theorem cntE_ok : ∀ (d : Int) (e : E), 1 ≤ cntE d e ∧ (cntE d e ≤ 1000 ↔ okE d e = true ∧ szE e ≤ 1000) ∧ (cntE d e ≤ 1000 → cntE d e = szE e) ∧ cntE d e ≤ 1001 + 1000 * (61 - d).toNat
  | d, .mk op n s l k => by
    have ih := cntEs_ok (d + 1) 1 k (by omega) (by omega)
    unfold cntE okE szE
    split
    · grind
    · split
      · have : (61 - d).toNat = (61 - (d + 1)).toNat + 1 := by omega
        grind
      · grind
theorem cntEs_ok : ∀ (d acc : Int) (k : List E), 1 ≤ acc → acc ≤ 1000 → acc ≤ cntEs d acc k ∧ (cntEs d acc k ≤ 1000 ↔ okEs d k = true ∧ acc + szEs k ≤ 1000) ∧ (cntEs d acc k ≤ 1000 → cntEs d acc k = acc + szEs k) ∧ cntEs d acc k ≤ 2001 + 1000 * (61 - d).toNat
  | d, acc, [], h, h' => by simp [cntEs, okEs, szEs]; omega
  | d, acc, x :: xs, h, h' => by
    have h1 := cntE_ok d x
    have h2 := cntEs_ok d (acc + cntE d x) xs (by omega)
    unfold cntEs okEs szEs
    split
    · grind
    · have h2 := h2 (by omega)
      grind
end
theorem validE_cnt (e : E) : decide (cntE 1 e ≤ 1000) = validE e := by
  have := cntE_ok 1 e
  unfold validE
  grind
theorem validE_v (e : E) : (vE 1000 1 e).1 = validE e := by
  have := (vE_ok 1000 1 e).1
  unfold validE
  grind
theorem vE_bound {left d : Int} {e : E} (h : (vE left d e).1 = true) : 0 ≤ (vE left d e).2 ∧ (vE left d e).2 ≤ left := by
  have := vE_ok left d e
  grind
theorem E.eta (e : E) : E.mk e.op e.n e.s e.l e.k = e := by cases e; rfl
theorem cntE_eq (d : Int) (e : E) : cntE d e = if 60 < d then 1001 else if nodeB e.op e.n e.s e.k.length = true then cntEs (d + 1) 1 e.k else 1001 := by
  cases e; unfold cntE; rfl
theorem vE_eq (left d : Int) (e : E) : vE left d e = if 0 ≤ left - 1 ∧ d ≤ 60 ∧ nodeB e.op e.n e.s e.k.length = true then vEs (left - 1) (d + 1) e.k else (false, left - 1) := by
  cases e; unfold vE; rfl
theorem cntEs_cons (d acc : Int) (x : E) (xs : List E) : cntEs d acc (x :: xs) = if 1000 < acc + cntE d x then acc + cntE d x else cntEs d (acc + cntE d x) xs := by rw [cntEs]
theorem vEs_cons (left d : Int) (x : E) (xs : List E) : vEs left d (x :: xs) = if (vE left d x).1 = true then vEs (vE left d x).2 d xs else (false, (vE left d x).2) := by rw [vEs]
theorem cntEs_nil (d acc : Int) : cntEs d acc [] = acc := by rw [cntEs]
theorem vEs_nil (left d : Int) : vEs left d [] = (true, left) := by rw [vEs]
theorem c65 {V : Mem} : ∀ e : E, E.Ok V e → ∀ d : Int, 0 ≤ d → d ≤ 61 → PP 65 [e.v, .int .i64 d] V (.int .i64 (cntE d e)) := by
  intro e
  induction e using E.ind with
  | h e ih =>
  intro ho d hd0 hd
  have hr := ho.rows
  refine x65 (v0 := e.op) (v1 := e.n) (v2 := e.s) (v3 := e.l) (v4 := d) ?_
  unfold w65
  refine ⟨fun h => ?_, fun h => (c116 (e := e) rfl).call ⟨_, rfl, fun hn => ?_, fun hn => ?_⟩⟩
  · rw [cntE_eq, if_pos h]; exact ⟨rfl, rfl⟩
  · rw [hr.n_eq] at hn
    rw [cntE_eq, if_neg h, if_pos hn]
    refine loop3s inj_i e.k.length (fun i acc V1 => V1 = V ∧ 1 ≤ acc ∧ acc ≤ 1000 ∧ cntEs (d + 1) 1 e.k = cntEs (d + 1) acc (e.k.drop i)) ⟨rfl, by omega, by omega, rfl⟩ ?_
    rintro i acc c _ J hi ⟨rfl, ha0, ha, he⟩ hJ
    refine ⟨fun hlt => ?_, fun hge => ?_⟩
    · obtain ⟨x, hm, hx, hdr, hl, hp, hz, hrow⟩ := hr.get hlt
      have hc := cntE_ok (d + 1) x
      rw [hdr, cntEs_cons] at he
      refine ⟨hp, hz, hlt, _, _, _, _, hrow, ⟨by omega, by omega⟩, (ih x hm (ho.kids x hm) (d + 1) (by omega) (by omega)).call ⟨_, rfl, ⟨by omega, by omega⟩, fun hb => ?_, fun hb => ⟨hr.succ hlt, ?_⟩⟩⟩
      · rw [if_pos hb] at he; rw [he]; exact ⟨rfl, rfl⟩
      · rw [if_neg hb] at he; exact hJ hl _ _ _ ⟨rfl, by omega, by omega, he⟩
    · rw [(hr.done hge).1, cntEs_nil] at he; rw [he]; exact ⟨rfl, rfl⟩
  · rw [hr.n_eq] at hn
    rw [cntE_eq, if_neg h, if_neg hn]; exact ⟨rfl, rfl⟩
theorem c17 {V : Mem} {e : E} (h : E.Ok V e) : PP 17 [e.v] V (.bool (validE e)) := by
  refine x17 (v0 := e.op) (v1 := e.n) (v2 := e.s) (v3 := e.l) ?_
  unfold w17
  refine (c65 e h 1 (by omega) (by omega)).call ⟨_, rfl, ?_⟩
  rw [validE_cnt]; exact ⟨rfl, rfl⟩
theorem c154 {V : Mem} {b t : Nat} {n : Int} (h : V b = some (cell (.int .i64 n) t)) (h0 : -1000 ≤ n) (h1 : n ≤ 100000) :
    Tri Tryz.prog 154 #[.pointer (some ⟨b, 0, none⟩)] V fun e V' => e = .returned (.bool (decide (0 ≤ n - 1))) ∧ V' = V.set b (cell (.int .i64 (n - 1)) t) := by
  refine x154 ?_
  unfold w154
  refine ⟨by simp, by simp, _, row1 h, ⟨by omega, by omega⟩, by simp, by simp, StT.cell h ⟨by simp, by simp, _, row1 (Mem.set_same _ _ _), rfl, rfl⟩⟩
set_option maxRecDepth 10000 in
theorem c112 {V0 : Mem} [hT : Tab V0] {b t : Nat} (hb : V0 b = none) : ∀ e : E, E.Ok V0 e → ∀ (V : Mem), V0.sub V → ∀ left d : Int, V b = some (cell (.int .i64 left) t) → 0 ≤ left → left ≤ 1000 → 0 ≤ d → d ≤ 61 →
    Tri Tryz.prog 112 #[e.v, .int .i64 d, .pointer (some ⟨b, 0, none⟩)] V fun r V' => r = .returned (.bool (vE left d e).1) ∧ V' = V.set b (cell (.int .i64 (vE left d e).2) t) := by
  intro e
  induction e using E.ind with
  | h e ih =>
  intro ho V hV left d hl hl0 hl1 hd0 hd
  have hr := ho.rows
  have hn := hr.n_eq
  refine Tri.less (x112 (v0 := e.op) (v1 := e.n) (v2 := e.s) (v3 := e.l) (v4 := d) ?_)
  unfold w112
  refine c153.call ⟨_, _, rfl, Tri.mono (c154 hl (by omega) (by omega)) ?_⟩
  rintro _ _ ⟨rfl, rfl⟩
  refine ⟨_, rfl, ?_⟩
  -- no
  have no : ¬ (0 ≤ left - 1 ∧ d ≤ 60 ∧ nodeB e.op e.n e.s e.k.length = true) → ∃ W, (Ending.returned (.bool false) = Ending.returned (.bool (vE left d e).1) ∧ W = V.set b (cell (.int .i64 (vE left d e).2) t)) ∧ W.sub (V.set b (cell (.int .i64 (left - 1)) t)) := by
    intro h
    rw [vE_eq, if_neg h]
    exact ⟨_, ⟨rfl, rfl⟩, Mem.sub.refl _⟩
  -- yes
  have yes : (0 ≤ left - 1 ∧ d ≤ 60 ∧ nodeB e.op e.n e.s e.k.length = true) → PubT [(.int .i64 d)] 3 (V.set b (cell (.int .i64 (left - 1)) t)) fun v10 V4 =>
        PubT [(.pointer (some ⟨b, 0, none⟩))] 152 V4 fun v11 V5 =>
        Tri Tryz.prog 156 #[(.slice e.l.p e.l.n e.l.c), (.func (.func 157) #[] #[(.pointer (ptrAdd v10 0)), (.pointer (ptrAdd v11 0))])] V5 fun r V6 => ∃ v12 : Bool, r = .returned (.bool v12) ∧
        ∃ W, (Ending.returned (.bool (!v12)) = Ending.returned (.bool (vE left d e).1) ∧ W = V.set b (cell (.int .i64 (vE left d e).2) t)) ∧ W.sub V6 := by
    intro h b1 hb1 b2 hb2
    rw [vE_eq, if_pos h]
    have n1 : b ≠ b1 := fun e => by subst e; rw [Mem.set_same] at hb1; cases hb1
    have n2 : b1 ≠ b2 := fun e => by subst e; rw [Mem.set_same] at hb2; cases hb2
    have n3 : b ≠ b2 := fun e => by subst e; rw [Mem.set_ne n1, Mem.set_same] at hb2; cases hb2
    rw [Mem.set_ne (fun e => n1 e.symm)] at hb1
    rw [Mem.set_ne (fun e => n2 e.symm), Mem.set_ne (fun e => n3 e.symm)] at hb2
    have v1 : V0 b1 = none := by cases h' : V0 b1 with
      | none => rfl
      | some x => rw [hV _ _ h'] at hb1; cases hb1
    have v2 : V0 b2 = none := by cases h' : V0 b2 with
      | none => rfl
      | some x => rw [hV _ _ h'] at hb2; cases hb2
    let M : Int → Mem := fun lf => ((V.set b (cell (.int .i64 lf) t)).set b1 (cell (.int .i64 d) 3)).set b2 (cell (.pointer (some ⟨b, 0, none⟩)) 152)
    have hM : ∀ lf, V0.sub (M lf) := fun lf => ((hV.set hb _).set v1 _).set v2 _
    have hMb : ∀ lf, M lf b = some (cell (.int .i64 lf) t) := fun lf => by simp only [M]; rw [Mem.set_ne n3, Mem.set_ne n1, Mem.set_same]
    have hM1 : ∀ lf, M lf b1 = some (cell (.int .i64 d) 3) := fun lf => by simp only [M]; rw [Mem.set_ne n2, Mem.set_same]
    have hM2 : ∀ lf, M lf b2 = some (cell (.pointer (some ⟨b, 0, none⟩)) 152) := fun lf => by simp only [M]; rw [Mem.set_same]
    have hMs : ∀ lf lf', (M lf).set b (cell (.int .i64 lf') t) = M lf' := fun lf lf' => by
      simp only [M]
      rw [Mem.set_comm _ (fun e => n3 e.symm), Mem.set_comm _ (fun e => n1 e.symm), Mem.set_set]
    have hW : ∀ lf, (V.set b (cell (.int .i64 lf) t)).sub (M lf) := fun lf => by
      refine ((Mem.sub.refl _).set ?_ _).set ?_ _
      · rw [Mem.set_ne (fun e => n1 e.symm)]; exact hb1
      · rw [Mem.set_ne (fun e => n3 e.symm)]; exact hb2
    refine Tri.mono (g156 (l := e.l) (xs := e.k) (first := []) (caps := [.pointer (some ⟨b1, 0, none⟩), .pointer (some ⟨b2, 0, none⟩)]) Tryz.call157
      (fun i V1 => ∃ lf, V1 = M lf ∧ 0 ≤ lf ∧ lf ≤ 1000 ∧ vEs (left - 1) (d + 1) e.k = vEs lf (d + 1) (e.k.drop i)) (fun i V1 => ∃ lf, V1 = M lf ∧ vEs (left - 1) (d + 1) e.k = (false, lf)) ?_ ⟨left - 1, rfl, by omega, by omega, rfl⟩ ?_) ?_
    · rintro i _ ⟨lf, rfl, -⟩; exact hr.sub (hM lf)
    · rintro i x _ hx ⟨lf, rfl, hf0, hf1, he⟩
      have hm := List.mem_of_getElem? hx
      have hil := (List.getElem?_eq_some_iff.1 hx).1
      have hdr : e.k.drop i = x :: e.k.drop (i + 1) := by rw [List.drop_eq_getElem_cons hil, (List.getElem?_eq_some_iff.1 hx).2]
      rw [hdr, vEs_cons] at he
      refine x157 (v0 := x.op) (v1 := x.n) (v2 := x.s) (v3 := x.l) (v4 := some ⟨b1, 0, none⟩) (v5 := some ⟨b2, 0, none⟩) ?_
      unfold w157
      refine ⟨_, row1 (hM1 lf), ⟨by omega, by omega⟩, _, row1 (hM2 lf), Tri.mono (ih x hm (ho.kids x hm) (M lf) (hM lf) lf (d + 1) (hMb lf) hf0 hf1 (by omega) (by omega)) ?_⟩
      rintro _ _ ⟨rfl, rfl⟩
      refine ⟨_, rfl, _, rfl, fun hb => ?_, fun hb => ?_⟩
      · have hb : (vE lf (d + 1) x).1 = false := by simpa using hb
        rw [if_neg (by rw [hb]; simp)] at he
        exact ⟨_, hMs _ _, he⟩
      · have hb : (vE lf (d + 1) x).1 = true := by simpa using hb
        have := vE_bound hb
        rw [if_pos hb] at he
        exact ⟨_, hMs _ _, by omega, by omega, he⟩
    · rintro _ _ (⟨i, rfl, lf, rfl, he⟩ | ⟨rfl, lf, rfl, hf0, hf1, he⟩)
      · exact ⟨_, rfl, _, ⟨by rw [he]; rfl, rfl⟩, by rw [he]; exact hW lf⟩
      · rw [List.drop_length, vEs_nil] at he
        exact ⟨_, rfl, _, ⟨by rw [he]; rfl, rfl⟩, by rw [he]; exact hW lf⟩
  have key : nodeB e.op e.n e.s e.k.length = (decide (partsN e.op ≠ -2 ∧ (0 ≤ partsN e.op → (e.k.length : Int) = partsN e.op) ∧ (partsN e.op = -1 → (e.k.length : Int) ≤ 6)) && (nmB e.op e.s && numB e.op e.n)) := by unfold nodeB; rw [Bool.and_assoc]
  have pr : -2 ≤ partsN e.op := by unfold partsN; grind
  rw [key] at no yes
  have hnI : (e.k.length : Int) = (e.l.n : Int) := by rw [hn]
  rw [hnI] at no yes
  generalize hkn : (e.l.n : Int) = kn at no yes ⊢
  generalize hpn : partsN e.op = pn at no yes pr ⊢
  generalize hnm : (nmB e.op e.s && numB e.op e.n) = nm at no yes ⊢
  haveI : Tab (V.set b (cell (.int .i64 (left - 1)) t)) := Tab.sub hT (hV.set hb _)
  refine ⟨fun h8 => ⟨fun h60 => no fun h => absurd h.2.1 (Int.not_le.2 h60), fun h60 => ⟨fun h7 => (c155 (e := e)).call ⟨nm, by rw [hnm], fun h9 => ?_, fun h9 => no ?_⟩, fun h7 => no ?_⟩⟩, fun h8 => no ?_⟩
  · have h7 : pn ≠ -2 := of_decide_eq_true h7
    have h8 : 0 ≤ left - 1 := of_decide_eq_true h8
    rw [if_neg h7]
    have bad : ¬ ((0 ≤ pn → kn = pn) ∧ (pn = -1 → kn ≤ 6)) → ¬ (0 ≤ left - 1 ∧ d ≤ 60 ∧ (decide (pn ≠ -2 ∧ (0 ≤ pn → kn = pn) ∧ (pn = -1 → kn ≤ 6)) && nm) = true) := fun hb h => by
      have := h.2.2
      rw [Bool.and_eq_true, decide_eq_true_eq] at this
      exact hb this.1.2
    have good : ((0 ≤ pn → kn = pn) ∧ (pn = -1 → kn ≤ 6)) → (0 ≤ left - 1 ∧ d ≤ 60 ∧ (decide (pn ≠ -2 ∧ (0 ≤ pn → kn = pn) ∧ (pn = -1 → kn ≤ 6)) && nm) = true) := fun hb => by
      refine ⟨h8, by omega, ?_⟩
      rw [Bool.and_eq_true, decide_eq_true_eq]
      exact ⟨⟨h7, hb⟩, h9⟩
    refine ⟨fun hp => ⟨fun hq => ⟨fun hm => ⟨fun h6 => no (bad (by omega)), fun h6 => yes (good (by omega))⟩, fun hm => yes (good (by omega))⟩, fun hq => no (bad (by omega))⟩, fun hp => ⟨fun hm => ⟨fun h6 => no (bad (by omega)), fun h6 => yes (good (by omega))⟩, fun hm => yes (good (by omega))⟩⟩
  · intro h; have := h.2.2; rw [Bool.and_eq_true] at this; exact h9 this.2
  · intro h; have := h.2.2; rw [Bool.and_eq_true, decide_eq_true_eq] at this; exact h7 (decide_eq_true this.1.1)
  · intro h; exact h8 (decide_eq_true h.1)
theorem c62 {V : Mem} [Tab V] {e : E} (h : E.Ok V e) : PP 62 [e.v] V (.bool (validE e)) := by
  refine Pur.mk (x62 (v0 := e.op) (v1 := e.n) (v2 := e.s) (v3 := e.l) ?_)
  unfold w62
  intro b hb
  refine Tri.mono (c112 hb e h _ (Mem.sub_new hb _) 1000 1 (Mem.set_same _ _ _) (by omega) (by omega) (by omega) (by omega)) ?_
  rintro _ _ ⟨rfl, rfl⟩
  rw [validE_v, Mem.set_set]
  exact ⟨_, rfl, rfl, Mem.sub_new hb _⟩
end Go.Proofs
namespace Go.Proofs
open Go Go.Sx
attribute [local irreducible] Go.Sx.Tri
def fop : List E → Int | [] => 0 | e :: _ => e.op
def shapeB (op : Int) (s : ByteArray) (es : List E) (nl nx : Int) : Bool :=
  if op = 1 then isName s && decide ((es.length : Int) = 1 ∧ nl = 0 ∧ nx = 0) else if op = 2 then isName s && decide ((es.length : Int) = 2 ∧ nl = 0 ∧ nx = 0) else if op = 3 then decide (s = strB [] ∧ (es.length : Int) = 1)
  else if op = 4 then decide (s = strB [] ∧ (es.length : Int) = 1 ∧ nx = 0) else if op = 5 then decide (s = strB [] ∧ (es.length : Int) ≤ 1 ∧ nl = 0 ∧ nx = 0) else if op = 6 then decide (s = strB [] ∧ (es.length : Int) = 1 ∧ fop es = 7 ∧ nl = 0 ∧ nx = 0) else false
def shapeR (op : Int) (s : ByteArray) (es : List E) (nl nx : Int) : Bool := shapeB op s es nl nx && es.all validE
theorem c182 {V : Mem} {s : S} (h : S.Ok V s) {lo hi : Int} : PP 182 [s.v, .int .i64 lo, .int .i64 hi] V (.bool (decide (lo ≤ s.es.length ∧ (s.es.length : Int) ≤ hi) && s.es.all validE)) := by
  have hr := h.eRows
  have hn := hr.n_eq
  rw [show s.v = .agg #[.int .i64 s.op, .string s.s, .slice s.el.p s.el.n s.el.c, .slice s.ll.p s.ll.n s.ll.c, .slice s.xl.p s.xl.n s.xl.c] by unfold S.v; rw [S.row_eq]; rfl]
  refine x182 (v0 := s.op) (v1 := s.s) (v2 := s.el) (v3 := s.ll) (v4 := s.xl) ?_
  unfold w182
  refine ⟨fun h1 => ?_, fun h1 => ⟨fun h2 => ?_, fun h2 => ?_⟩⟩
  · rw [decide_eq_false (by omega)]; exact ⟨rfl, rfl⟩
  · rw [decide_eq_false (by omega)]; exact ⟨rfl, rfl⟩
  · rw [decide_eq_true (by omega), Bool.true_and]
    refine loop2 s.es.length (fun i V1 => V1 = V ∧ s.es.all validE = (s.es.drop i).all validE) ⟨rfl, rfl⟩ ?_
    rintro i b _ J hi ⟨rfl, he⟩ hJ
    refine ⟨fun hlt => ?_, fun hge => ?_⟩
    · obtain ⟨x, hm, hx, hdr, hl, hp, hz, hrow⟩ := hr.get hlt
      rw [hdr, List.all_cons] at he
      refine ⟨hp, hz, hlt, _, _, _, _, hrow, (c17 (h.eOk x hm)).call ⟨_, rfl, fun hb => ⟨hr.succ hlt, hJ hl _ _ ⟨rfl, ?_⟩⟩, fun hb => ?_⟩⟩
      · rw [he, hb, Bool.true_and]
      · rw [he, eq_false_of_ne_true hb, Bool.false_and]; exact ⟨rfl, rfl⟩
    · rw [he, (hr.done hge).1]; exact ⟨rfl, rfl⟩
theorem first_row {V : Mem} {s : S} (h : S.Ok V s) : (s.es = [] ∧ s.el.n = 0) ∨ ∃ e0 r, s.es = e0 :: r ∧ 0 < s.el.n ∧ ¬ (s.el.p = none) ∧ ¬ (ptrAdd s.el.p 0 = none) ∧ V.rowp s.el.p 0 4 = some [.int .i64 e0.op, .int .i64 e0.n, .string e0.s, .slice e0.l.p e0.l.n e0.l.c] := by
  have hr := h.eRows
  have hn := hr.n_eq
  cases hes : s.es with
  | nil => exact .inl ⟨rfl, by rw [hn, hes]; rfl⟩
  | cons e0 r =>
    have h0 : ((0 : Nat) : Int) < (s.el.n : Int) := by rw [hn, hes, List.length_cons]; omega
    obtain ⟨x, hm, hx, hdr, hl, hp, hz, hrow⟩ := hr.get h0
    rw [hes] at hx
    simp only [List.getElem?_cons_zero, Option.some.injEq] at hx
    subst hx
    refine .inr ⟨e0, r, rfl, by omega, hp, fun e => ?_, ?_⟩
    · cases hq : s.el.p with
      | none => exact hp hq
      | some a => rw [hq] at e; cases e
    · simpa [E.row, vI, vS, Sl.v] using hrow
set_option maxRecDepth 4000 in
theorem c152 {V : Mem} {s : S} (h : S.Ok V s) : PP 152 [s.v] V (.bool (shapeR s.op s.s s.es s.ls.length s.xs.length)) := by
  have hf := first_row h
  have cx := fun lo hi => c182 h (lo := lo) (hi := hi)
  have hnl := h.lRows.n_eq
  have hnx := h.xRows.n_eq
  rw [show s.v = .agg #[.int .i64 s.op, .string s.s, .slice s.el.p s.el.n s.el.c, .slice s.ll.p s.ll.n s.ll.c, .slice s.xl.p s.xl.n s.xl.c] by unfold S.v; rw [S.row_eq]; rfl] at cx ⊢
  refine x152 (v0 := s.op) (v1 := s.s) (v2 := s.el) (v3 := s.ll) (v4 := s.xl) ?_
  unfold w152
  rw [← hnl, ← hnx]
  generalize hX : shapeR s.op s.s s.es s.ll.n s.xl.n = X
  have key : ∀ b : Bool, X = b → Ending.returned (.bool b) = Ending.returned (.bool X) := fun n h => by rw [h]
  unfold shapeR shapeB at hX
  generalize hva : s.es.all validE = va at cx
  rcases hf with ⟨he, hn⟩ | ⟨e0, r, he, hn, hp, hp2, hrow⟩
  · have hlen : (s.es.length : Int) = 0 := by rw [he]; rfl
    have hlen' : s.es.length = 0 := by rw [he]; rfl
    rw [hlen] at cx
    rw [hva, hlen] at hX
    repeat' (first | refine c52.call ⟨_, rfl, ?_⟩ | refine (cx _ _).call ⟨_, rfl, ?_⟩ | apply And.intro | intro _)
    all_goals first | rfl | (refine key _ ?_; clear key cx; grind) | (exfalso; clear key cx; grind)
  · have hfo : fop s.es = e0.op := by rw [he]; rfl
    generalize hlen : (s.es.length : Int) = len at cx
    rw [hva, hlen, hfo] at hX
    have hl0 : 0 < len := by rw [← hlen, he, List.length_cons]; omega
    have hns : (s.el.n : Int) = len := by rw [← hlen, h.eRows.n_eq]
    have c11 := cx 1 1
    have c22 := cx 2 2
    have c01 := cx 0 1
    rw [show decide (1 ≤ len ∧ len ≤ 1) = decide (len = 1) by grind] at c11
    rw [show decide (2 ≤ len ∧ len ≤ 2) = decide (len = 2) by grind] at c22
    rw [show decide (0 ≤ len ∧ len ≤ 1) = decide (len ≤ 1) by grind] at c01
    repeat' (first | refine c52.call ⟨_, rfl, ?_⟩ | refine c11.call ⟨_, rfl, ?_⟩ | refine c22.call ⟨_, rfl, ?_⟩ | refine c01.call ⟨_, rfl, ?_⟩ | refine ⟨_, _, _, _, hrow, ?_⟩ | exact hp | exact hp2 | apply And.intro | intro _)
    all_goals first | rfl | (refine key _ ?_; clear key cx c11 c22 c01; grind) | omega | (exfalso; clear key cx c11 c22 c01; grind)
end Go.Proofs
namespace Go.Proofs
open Go Go.Sx
attribute [local irreducible] Go.Sx.Tri
mutual
def okS (d : Int) : S → Bool | .mk op s _ es _ ls _ xs => decide (d ≤ 60) && shapeR op s es ls.length xs.length && okSs (d + 1) ls && okSs (d + 1) xs
def okSs (d : Int) : List S → Bool | [] => true | x :: xs => okS d x && okSs d xs
end
mutual
def szS : S → Nat | .mk _ _ _ _ _ ls _ xs => 1 + szSs ls + szSs xs
def szSs : List S → Nat | [] => 0 | x :: xs => szS x + szSs xs
end
mutual
def cntS (d acc : Int) : S → Int
 | .mk op s _ es _ ls _ xs =>
  if 60 < d then 201 else if shapeR op s es ls.length xs.length = true then
    if acc + 1 ≤ 200 then
      if acc + 1 + cntSs (d + 1) 0 ls ≤ 200 then acc + 1 + cntSs (d + 1) 0 ls + cntSs (d + 1) 0 xs else acc + 1 + cntSs (d + 1) 0 ls
    else acc + 1
  else 201
def cntSs (d acc : Int) : List S → Int | [] => acc | x :: xs => if 200 < cntS d acc x then cntS d acc x else cntSs d (cntS d acc x) xs
end
/-- Lists that are too deep. -/
def gd {α : Type} (d left : Int) (l : List α) (r : Bool × Int) : Bool × Int := if 60 < d ∧ l ≠ [] then (false, left) else r
mutual
def vS (left d : Int) : S → Bool × Int
 | .mk op s _ es _ ls _ xs =>
  if 0 ≤ left - 1 ∧ shapeR op s es ls.length xs.length = true then
    if (gd (d + 1) (left - 1) ls (vSs (left - 1) (d + 1) ls)).1 = true then
      gd (d + 1) (gd (d + 1) (left - 1) ls (vSs (left - 1) (d + 1) ls)).2 xs (vSs (gd (d + 1) (left - 1) ls (vSs (left - 1) (d + 1) ls)).2 (d + 1) xs)
    else (false, (gd (d + 1) (left - 1) ls (vSs (left - 1) (d + 1) ls)).2)
  else (false, left - 1)
def vSs (left d : Int) : List S → Bool × Int | [] => (true, left) | x :: xs => if (vS left d x).1 = true then vSs (vS left d x).2 d xs else (false, (vS left d x).2)
end
def vSl (left d : Int) (l : List S) : Bool × Int := gd d left l (vSs left d l)
theorem vSs_cons (left d : Int) (x : S) (xs : List S) : vSs left d (x :: xs) = if (vS left d x).1 = true then vSs (vS left d x).2 d xs else (false, (vS left d x).2) := by rw [vSs]
theorem vSs_nil (left d : Int) : vSs left d [] = (true, left) := by rw [vSs]
theorem cntSs_cons (d acc : Int) (x : S) (xs : List S) : cntSs d acc (x :: xs) = if 200 < cntS d acc x then cntS d acc x else cntSs d (cntS d acc x) xs := by rw [cntSs]
theorem cntSs_nil (d acc : Int) : cntSs d acc [] = acc := by rw [cntSs]
theorem vS_eq (left d : Int) (x : S) : vS left d x = if 0 ≤ left - 1 ∧ shapeR x.op x.s x.es x.ls.length x.xs.length = true then (if (vSl (left - 1) (d + 1) x.ls).1 = true then vSl (vSl (left - 1) (d + 1) x.ls).2 (d + 1) x.xs else (false, (vSl (left - 1) (d + 1) x.ls).2)) else (false, left - 1) := by
  cases x; unfold vS; rfl
theorem cntS_eq (d acc : Int) (x : S) : cntS d acc x = if 60 < d then 201 else if shapeR x.op x.s x.es x.ls.length x.xs.length = true then
    if acc + 1 ≤ 200 then
      if acc + 1 + cntSs (d + 1) 0 x.ls ≤ 200 then acc + 1 + cntSs (d + 1) 0 x.ls + cntSs (d + 1) 0 x.xs else acc + 1 + cntSs (d + 1) 0 x.ls
    else acc + 1
  else 201 := by
  cases x; unfold cntS; rfl
mutual
theorem cntS_ok : ∀ (d acc : Int) (e : S), 0 ≤ acc → acc ≤ 200 → acc + 1 ≤ cntS d acc e ∧ (cntS d acc e ≤ 200 ↔ okS d e = true ∧ acc + szS e ≤ 200) ∧ (cntS d acc e ≤ 200 → cntS d acc e = acc + szS e) ∧ cntS d acc e ≤ 201 + 200 * (61 - d).toNat
  | d, acc, .mk op s _ es _ ls _ xs, h, h' => by
    have i1 := cntSs_ok (d + 1) 0 ls (by omega) (by omega)
    have i2 := cntSs_ok (d + 1) 0 xs (by omega) (by omega)
    unfold cntS okS szS
    have : 60 < d ∨ (61 - d).toNat = (61 - (d + 1)).toNat + 1 := by omega
    split
    · grind
    · split
      · split
        · split <;> grind
        · grind
      · grind
theorem cntSs_ok : ∀ (d acc : Int) (k : List S), 0 ≤ acc → acc ≤ 200 → acc ≤ cntSs d acc k ∧ (cntSs d acc k ≤ 200 ↔ okSs d k = true ∧ acc + szSs k ≤ 200) ∧ (cntSs d acc k ≤ 200 → cntSs d acc k = acc + szSs k) ∧ cntSs d acc k ≤ 201 + 200 * (61 - d).toNat
  | d, acc, [], h, h' => by simp [cntSs, okSs, szSs]; omega
  | d, acc, x :: xs, h, h' => by
    have h1 := cntS_ok d acc x h h'
    have h2 := cntSs_ok d (cntS d acc x) xs (by omega)
    unfold cntSs okSs szSs
    split
    · grind
    · have h2 := h2 (by omega)
      grind
end
theorem okSs_deep {d : Int} (h : 60 < d) : ∀ l : List S, l ≠ [] → okSs d l = false
  | [], hl => absurd rfl hl
  | .mk _ _ _ _ _ _ _ _ :: xs, _ => by
    have : ¬ d ≤ 60 := by omega
    simp [okSs, okS, this]
mutual
theorem vS_ok : ∀ (left d : Int) (e : S), d ≤ 60 → ((vS left d e).1 = true ↔ okS d e = true ∧ (szS e : Int) ≤ left) ∧ ((vS left d e).1 = true → (vS left d e).2 = left - szS e)
  | left, d, .mk op s _ es _ ls _ xs, hd => by
    have i1 := vSs_ok (left - 1) (d + 1) ls
    have i2 := fun l => vSs_ok l (d + 1) xs
    have d1 := fun h => okSs_deep (d := d + 1) h ls
    have d2 := fun h => okSs_deep (d := d + 1) h xs
    unfold vS okS szS gd
    by_cases h0 : 0 ≤ left - 1 ∧ shapeR op s es ls.length xs.length = true
    · rw [if_pos h0]
      by_cases hl : 60 < d + 1 ∧ ls ≠ []
      · have := d1 hl.1 hl.2
        simp [hl, this]
      · rw [if_neg hl]
        have i1 := i1 h0.1 hl
        by_cases hx : 60 < d + 1 ∧ xs ≠ []
        · have := d2 hx.1 hx.2
          simp [hx, this]
        · simp only [if_neg hx]
          by_cases hv : (vSs (left - 1) (d + 1) ls).1 = true
          · have e1 := i1.2 hv
            have k1 := i1.1.1 hv
            have i2 := i2 (vSs (left - 1) (d + 1) ls).2 (by omega) hx
            rw [if_pos hv]
            rw [Bool.and_eq_true, Bool.and_eq_true, Bool.and_eq_true, decide_eq_true_eq]
            refine ⟨⟨fun h => ?_, fun h => ?_⟩, fun h => ?_⟩
            · have := i2.1.1 h
              exact ⟨⟨⟨⟨hd, h0.2⟩, k1.1⟩, this.1⟩, by omega⟩
            · exact i2.1.2 ⟨h.1.2, by omega⟩
            · rw [i2.2 h]; omega
          · rw [if_neg hv]
            have : ¬ (okSs (d + 1) ls = true ∧ (szSs ls : Int) ≤ left - 1) := fun h => hv (i1.1.2 h)
            refine ⟨⟨fun h => absurd h (by simp), fun h => ?_⟩, fun h => absurd h (by simp)⟩
            rw [Bool.and_eq_true, Bool.and_eq_true] at h
            exact absurd ⟨h.1.1.2, by omega⟩ this
    · rw [if_neg h0]
      refine ⟨⟨fun h => absurd h (by simp), fun h => ?_⟩, fun h => absurd h (by simp)⟩
      rw [Bool.and_eq_true, Bool.and_eq_true, Bool.and_eq_true] at h
      exact absurd ⟨by omega, h.1.1.1.2⟩ h0
theorem vSs_ok : ∀ (left d : Int) (k : List S), 0 ≤ left → ¬ (60 < d ∧ k ≠ []) → ((vSs left d k).1 = true ↔ okSs d k = true ∧ (szSs k : Int) ≤ left) ∧ ((vSs left d k).1 = true → (vSs left d k).2 = left - szSs k)
  | left, d, [], h, _ => by simp [vSs, okSs, szSs, h]
  | left, d, x :: xs, h, hd => by
    have h1 := vS_ok left d x (by simp at hd; omega)
    have h2 := vSs_ok (vS left d x).2 d xs
    rw [vSs_cons]
    unfold okSs szSs
    split
    · rename_i hx
      have e := h1.2 hx
      have k := h1.1.1 hx
      have h2 := h2 (by omega) (by simp at hd; omega)
      grind
    · grind
end
def validSs (l : List S) : Bool := decide (okSs 1 l = true ∧ szSs l ≤ 200)
theorem validSs_cnt (l : List S) : decide (cntSs 1 0 l ≤ 200) = validSs l := by
  have := cntSs_ok 1 0 l (by omega) (by omega)
  unfold validSs
  grind
theorem validSs_v (l : List S) : (vSl 200 1 l).1 = validSs l := by
  have := (vSs_ok 200 1 l (by omega) (by omega)).1
  unfold validSs vSl gd
  rw [if_neg (by omega)]
  grind
end Go.Proofs
namespace Go.Proofs
open Go Go.Sx
attribute [local irreducible] Go.Sx.Tri
theorem S.v_eq (s : S) : s.v = .agg #[.int .i64 s.op, .string s.s, .slice s.el.p s.el.n s.el.c, .slice s.ll.p s.ll.n s.ll.c, .slice s.xl.p s.xl.n s.xl.c] := by unfold S.v; rw [S.row_eq]; rfl
theorem S.row_get {V : Mem} {p : Option Addr} {i : Nat} {x : S} (h : V.rowp p i 5 = some x.row) : V.rowp p i 5 = some [.int .i64 x.op, .string x.s, .slice x.el.p x.el.n x.el.c, .slice x.ll.p x.ll.n x.ll.c, .slice x.xl.p x.xl.n x.xl.c] := by
  rw [h, S.row_eq]; rfl
theorem ptrAdd_ne {p : Option Addr} {n : Nat} (h : ¬ (p = none)) : ¬ (ptrAdd p n = none) := by
  cases p with
  | none => exact absurd rfl h
  | some a => intro e; cases e
def CntP (V : Mem) (l : List S) : Prop := ∀ (sl : Sl) (d : Int), RowsAt V sl 5 (l.map S.row) → (∀ x ∈ l, S.Ok V x) → 0 ≤ d → d ≤ 61 → PP 103 [sl.v, .int .i64 d] V (.int .i64 (cntSs d 0 l))
theorem cntP_step {V : Mem} {l : List S} (hk : ∀ x ∈ l, CntP V x.ls ∧ CntP V x.xs) : CntP V l := by
  intro sl d hr hok hd0 hd
  refine x103 (v0 := sl) (v1 := d) ?_
  unfold w103
  refine loop3s inj_i l.length (fun i acc V1 => V1 = V ∧ 0 ≤ acc ∧ acc ≤ 200 ∧ cntSs d 0 l = cntSs d acc (l.drop i)) ⟨rfl, by omega, by omega, rfl⟩ ?_
  rintro i acc c V1 J hi ⟨rfl, ha0, ha, he⟩ hJ
  refine ⟨fun hlt => ?_, fun hge => ?_⟩
  · obtain ⟨x, hm, hx, hdr, hl, hp, hz, hrow⟩ := hr.get hlt
    have hrow := S.row_get hrow
    have hox := hok x hm
    have hn1 := hox.lRows.n_eq
    have hn2 := hox.xRows.n_eq
    rw [hdr, cntSs_cons] at he
    have hc := cntS_eq d acc x
    have cs := c152 hox
    rw [S.v_eq] at cs
    have bad : cntS d acc x = 201 → (Ending.returned (.int .i64 201) = Ending.returned (.int .i64 (cntSs d 0 l)) ∧ V1 = V1) := fun h => by
      rw [h, if_pos (by omega)] at he; rw [he]; exact ⟨rfl, rfl⟩
    have over : ∀ n, cntS d acc x = n → 200 < n → (Ending.returned (.int .i64 n) = Ending.returned (.int .i64 (cntSs d 0 l)) ∧ V1 = V1) := fun n h hn => by
      rw [h, if_pos hn] at he; rw [he]; exact ⟨rfl, rfl⟩
    have on : ∀ n c', cntS d acc x = n → 0 ≤ n → ¬ 200 < n → J [.int .i64 n, .int .i64 c',   .int .i64 ((i : Int) + 1)] V1 := fun n c' h h0 hn => by
      rw [h, if_neg hn] at he
      exact hJ hl _ _ _ ⟨rfl, h0, by omega, he⟩
    refine ⟨fun h60 => bad (by rw [hc, if_pos h60]), fun h60 => ⟨hp, hz, hlt, _, _, _, _, _, hrow, cs.call ⟨_, rfl, fun hs => ⟨⟨by omega, by omega⟩, fun h1 => ?_, fun h1 => ?_⟩, fun hs => bad (by rw [hc, if_neg h60, if_neg hs])⟩⟩⟩
    · rw [if_neg h60, if_pos hs, if_pos h1] at hc
      have b1 := cntSs_ok (d + 1) 0 x.ls (by omega) (by omega)
      have b2 := cntSs_ok (d + 1) 0 x.xs (by omega) (by omega)
      refine ⟨hp, hz, hlt, ptrAdd_ne hp, _, _, _, _, _, hrow, ⟨by omega, by omega⟩, ((hk x hm).1 x.ll (d + 1) hox.lRows hox.lOk (by omega) (by omega)).call ⟨_, rfl, ⟨by omega, by omega⟩, fun h2 => ?_, fun h2 => ?_⟩⟩
      · rw [if_pos h2] at hc
        refine ⟨hp, hz, hlt, ptrAdd_ne hp, _, _, _, _, _, hrow, ⟨by omega, by omega⟩, ((hk x hm).2 x.xl (d + 1) hox.xRows hox.xOk (by omega) (by omega)).call ⟨_, rfl, ⟨by omega, by omega⟩, fun h3 => over _ hc h3, fun h3 => ⟨hr.succ hlt, on _ _ hc (by omega) h3⟩⟩⟩
      · rw [if_neg h2] at hc
        exact ⟨fun h3 => over _ hc h3, fun h3 => absurd h3 (by omega)⟩
    · rw [if_neg h60, if_pos hs, if_neg h1] at hc
      exact ⟨fun h2 => absurd h2 h1, fun h2 => ⟨fun h3 => over _ hc h3, fun h3 => absurd h3 (by omega)⟩⟩
  · rw [(hr.done hge).1, cntSs_nil] at he; rw [he]; exact ⟨rfl, rfl⟩
theorem cntP_S (V : Mem) : ∀ s : S, CntP V s.ls ∧ CntP V s.xs := by
  intro s
  induction s using S.ind with
  | h s i1 i2 => exact ⟨cntP_step i1, cntP_step i2⟩
theorem c103 {V : Mem} {l : List S} {sl : Sl} {d : Int} (hr : RowsAt V sl 5 (l.map S.row)) (hok : ∀ x ∈ l, S.Ok V x) (h0 : 0 ≤ d) (h1 : d ≤ 61) : PP 103 [sl.v, .int .i64 d] V (.int .i64 (cntSs d 0 l)) :=
  cntP_step (fun x _ => cntP_S V x) sl d hr hok h0 h1
set_option maxRecDepth 4000 in
theorem c170 {V : Mem} [Tab V] {s : S} (h : S.Ok V s) : PP 170 [s.v] V (.bool (shapeB s.op s.s s.es s.ls.length s.xs.length)) := by
  have hf := first_row h
  have hnl := h.lRows.n_eq
  have hnx := h.xRows.n_eq
  have hne := h.eRows.n_eq
  rw [S.v_eq]
  refine x170 (v0 := s.op) (v1 := s.s) (v2 := s.el) (v3 := s.ll) (v4 := s.xl) ?_
  unfold w170
  rw [← hnl, ← hnx]
  generalize hX : shapeB s.op s.s s.es s.ll.n s.xl.n = X
  have key : ∀ b : Bool, X = b → Ending.returned (.bool b) = Ending.returned (.bool X) := fun n h => by rw [h]
  unfold shapeB at hX
  rw [← hne] at hX
  have hn0 : (0 : Int) ≤ (s.el.n : Int) := by omega
  have hn1 : (0 : Int) ≤ (s.ll.n : Int) := by omega
  have hn2 : (0 : Int) ≤ (s.xl.n : Int) := by omega
  generalize hne' : (s.el.n : Int) = ne at hX hn0
  generalize (s.ll.n : Int) = nl at hX hn1
  generalize (s.xl.n : Int) = nx at hX hn2
  rcases hf with ⟨he, hn⟩ | ⟨e0, r, he, hn, hp, hp2, hrow⟩
  · have : ne = 0 := by omega
    subst this
    clear hnl hnx hne hne' hn
    repeat' (first | refine c84.call ⟨_, rfl, ?_⟩ | apply And.intro | intro _)
    all_goals first | rfl | (refine key _ ?_; clear key h he; grind) | (exfalso; clear key h he; grind)
  · have hfo : fop s.es = e0.op := by rw [he]; rfl
    rw [hfo] at hX
    have hn' : 0 < ne := by omega
    clear hnl hnx hne hne' hn
    repeat' (first | refine c84.call ⟨_, rfl, ?_⟩ | refine ⟨_, _, _, _, hrow, ?_⟩ | exact hp | exact hp2 | exact hn' | apply And.intro | intro _)
    all_goals first | rfl | (refine key _ ?_; clear key h he hrow hp hp2; grind) | (exfalso; clear key h he hrow hp hp2; grind) | omega
end Go.Proofs
namespace Go.Proofs
open Go Go.Sx
attribute [local irreducible] Go.Sx.Tri
theorem c171 {V : Mem} [Tab V] {e : E} (h : E.Ok V e) : PP 171 [e.v] V (.bool (!validE e)) := by
  refine x171 (v0 := e.op) (v1 := e.n) (v2 := e.s) (v3 := e.l) ?_
  unfold w171
  exact (c62 h).call ⟨_, rfl, rfl, rfl⟩
theorem vSl_bound {left d : Int} {l : List S} (h0 : 0 ≤ left) (h : (vSl left d l).1 = true) : 0 ≤ (vSl left d l).2 ∧ (vSl left d l).2 ≤ left := by
  unfold vSl gd at h ⊢
  split at h
  · cases h
  · rename_i hn
    rw [if_neg hn]
    have := vSs_ok left d l h0 hn
    grind
theorem vSl_eq {left d : Int} {l : List S} (h : ¬ (60 < d ∧ l ≠ [])) : vSl left d l = vSs left d l := by unfold vSl gd; rw [if_neg h]
section
variable {V0 : Mem} {b t : Nat}
def StP (V0 : Mem) (b t : Nat) (l : List S) : Prop := ∀ (sl : Sl) (d left : Int) (V : Mem), RowsAt V0 sl 5 (l.map S.row) → (∀ x ∈ l, S.Ok V0 x) → V0.sub V → V b = some (cell (.int .i64 left) t) → 0 ≤ left → left ≤ 200 → 0 ≤ d → d ≤ 61 →
  Tri Tryz.prog 128 #[sl.v, .int .i64 d, .pointer (some ⟨b, 0, none⟩)] V fun r V' => r = .returned (.bool (vSl left d l).1) ∧ V' = V.set b (cell (.int .i64 (vSl left d l).2) t)
theorem stP_step [hT : Tab V0] (hb : V0 b = none) {l : List S} (hk : ∀ x ∈ l, StP V0 b t x.ls ∧ StP V0 b t x.xs) : StP V0 b t l := by
  intro sl d left V hr hok hV hcell hl0 hl1 hd0 hd
  have hn := hr.n_eq
  refine x128 (v0 := sl) (v1 := d) (v2 := some ⟨b, 0, none⟩) ?_
  unfold w128
  have hM : ∀ lf, V0.sub (V.set b (cell (.int .i64 lf) t)) := fun lf => hV.set hb _
  refine ⟨fun h0 => ⟨fun h60 => ?_, fun h60 => ?_⟩, fun h0 => ?_⟩
  · have : vSl left d l = (false, left) := by
      unfold vSl gd
      rw [if_pos ⟨h60, fun e => by rw [e] at hn; simp at hn; omega⟩]
    rw [this]
    exact ⟨rfl, (Mem.set_eq hcell).symm⟩
  all_goals
    have hnd : ¬ (60 < d ∧ l ≠ []) := by
      first
      | exact fun h => h60 h.1
      | exact fun h => h.2 (List.eq_nil_of_length_eq_zero (by omega))
    rw [vSl_eq hnd]
    refine loop2 l.length (fun i V1 => ∃ lf, V1 = V.set b (cell (.int .i64 lf) t) ∧ 0 ≤ lf ∧ lf ≤ 200 ∧ vSs left d l = vSs lf d (l.drop i)) ⟨left, (Mem.set_eq hcell).symm, hl0, hl1, rfl⟩ ?_
    rintro i c _ J hi ⟨lf, rfl, hf0, hf1, he⟩ hJ
    refine ⟨fun hlt => ?_, fun hge => ?_⟩
    · obtain ⟨x, hm, hx, hdr, hl, hp, hz, hrow⟩ := (hr.sub (hM lf)).get hlt
      have hrow := S.row_get hrow
      have hox := hok x hm
      rw [hdr, vSs_cons] at he
      have hv := vS_eq lf d x
      have cs := fun V (h0 : V0.sub V) (h : S.Ok V x) => (haveI : Tab V := Tab.sub hT h0; c170 h)
      rw [S.v_eq] at cs
      have no : ∀ n, vS lf d x = (false, n) → (Ending.returned (.bool false) = Ending.returned (.bool (vSs left d l).1) ∧ V.set b (cell (.int .i64 n) t) = V.set b (cell (.int .i64 (vSs left d l).2) t)) := fun n h => by
        rw [h] at he
        rw [he]; exact ⟨rfl, rfl⟩
      refine ⟨hp, hz, hlt, _, _, _, _, _, hrow, Tri.mono (c154 (Mem.set_same _ _ _) (by omega) (by omega)) ?_⟩
      rintro _ _ ⟨rfl, rfl⟩
      rw [Mem.set_set]
      refine ⟨_, rfl, fun h8 => (cs _ (hM _) (hox.sub (hM _))).call ⟨_, rfl, fun hs => ?_, fun hs => ?_⟩, fun h8 => ?_⟩
      · have h8 : 0 ≤ lf - 1 := of_decide_eq_true h8
        refine (c156 (first := []) (caps := []) (l := x.el) (hox.eRows.sub (hM _)) Tryz.call171 (fun e => !validE e) (fun e hm => haveI : Tab (V.set b (cell (.int .i64 (lf - 1)) t)) := Tab.sub hT (hM (lf - 1)); c171 ((hox.eOk e hm).sub (hM _)))).call ⟨_, rfl, fun ha => ?_, fun ha => ?_⟩
        · have hal : x.es.all validE = false := by
            rw [List.any_eq_not_all_not] at ha
            simpa using ha
          rw [if_neg (fun h => by have := h.2; unfold shapeR at this; rw [hal, Bool.and_false] at this; cases this)] at hv
          exact no _ hv
        · have hal : x.es.all validE = true := by
            rw [List.any_eq_not_all_not] at ha
            simpa using ha
          have hsr : shapeR x.op x.s x.es x.ls.length x.xs.length = true := by unfold shapeR; rw [hs, hal]; rfl
          rw [if_pos ⟨h8, hsr⟩] at hv
          refine ⟨⟨by omega, by omega⟩, Tri.mono ((hk x hm).1 x.ll (d + 1) (lf - 1) _ hox.lRows hox.lOk (hM _) (Mem.set_same _ _ _) h8 (by omega) (by omega) (by omega)) ?_⟩
          rintro _ _ ⟨rfl, rfl⟩
          rw [Mem.set_set]
          refine ⟨_, rfl, fun h1 => ⟨⟨by omega, by omega⟩, ?_⟩, fun h1 => ?_⟩
          · rw [if_pos h1] at hv
            have b1 := vSl_bound h8 h1
            refine Tri.mono ((hk x hm).2 x.xl (d + 1) _ _ hox.xRows hox.xOk (hM _) (Mem.set_same _ _ _) b1.1 (by omega) (by omega) (by omega)) ?_
            rintro _ _ ⟨rfl, rfl⟩
            rw [Mem.set_set]
            refine ⟨_, rfl, fun h2 => ?_, fun h2 => ?_⟩
            · have b2 := vSl_bound b1.1 h2
              rw [hv, if_pos h2] at he
              exact ⟨(hr.sub (hM lf)).succ hlt, hJ hl _ _ ⟨_, rfl, b2.1, by omega, he⟩⟩
            · rw [← hv] at h2 ⊢
              exact no _ (Prod.ext (eq_false_of_ne_true h2) rfl)
          · rw [if_neg h1] at hv
            exact no _ hv
      · rw [if_neg (fun h => by have := h.2; unfold shapeR at this; rw [eq_false_of_ne_true hs, Bool.false_and] at this; cases this)] at hv
        exact no _ hv
      · rw [if_neg (fun h => h8 (decide_eq_true h.1))] at hv
        exact no _ hv
    · rw [((hr.sub (hM lf)).done hge).1, vSs_nil] at he
      rw [he]; exact ⟨rfl, rfl⟩
theorem stP_S [hT : Tab V0] (hb : V0 b = none) : ∀ s : S, StP V0 b t s.ls ∧ StP V0 b t s.xs := by
  intro s
  induction s using S.ind with
  | h s i1 i2 => exact ⟨stP_step hb i1, stP_step hb i2⟩
theorem c128 [hT : Tab V0] (hb : V0 b = none) (l : List S) : StP V0 b t l := stP_step hb fun x _ => stP_S hb x
end
end Go.Proofs
namespace Go.Proofs
open Go Go.Sx
attribute [local irreducible] Go.Sx.Tri
/-- All of the first i elements. -/
def AllTo {α : Type} (p : α → Bool) (xs : List α) (i : Nat) : Prop := ∀ j x, j < i → xs[j]? = some x → p x = true
theorem AllTo.zero {α : Type} (p : α → Bool) (xs : List α) : AllTo p xs 0 := fun _ _ h => absurd h (Nat.not_lt_zero _)
theorem AllTo.succ {α : Type} {p : α → Bool} {xs : List α} {i : Nat} {x : α} (h : AllTo p xs i) (hx : xs[i]? = some x) (hp : p x = true) : AllTo p xs (i + 1) := fun j y hj hy => by
  rcases Nat.lt_succ_iff_lt_or_eq.1 hj with h' | rfl
  · exact h j y h' hy
  · rw [hx] at hy; cases hy; exact hp
theorem AllTo.all {α : Type} {p : α → Bool} {xs : List α} {i : Nat} (h : AllTo p xs i) (hi : xs.length ≤ i) : xs.all p = true :=
  List.all_eq_true.2 fun x hx => by
    obtain ⟨j, hj, rfl⟩ := List.mem_iff_getElem.1 hx
    exact h j _ (by omega) (List.getElem?_eq_getElem hj)
theorem all_false {α : Type} {p : α → Bool} {xs : List α} {x : α} (h : x ∈ xs) (hp : ¬ p x = true) : xs.all p = false := by
  cases h' : xs.all p with
  | false => rfl
  | true => exact absurd (List.all_eq_true.1 h' x h) hp
def sInt : ByteArray := strB [105, 110, 116]
def sBool : ByteArray := strB [98, 111, 111, 108]
def typB (s : ByteArray) : Bool := decide (s = sInt) || decide (s = sBool) || isName s
def openB (s : ByteArray) : Bool := decide (s = strB []) || isName s
def fldB (f : Fld) : Bool := isName f.name && typB f.ty
def fldsB (l : List Fld) (most : Int) : Bool := decide ((l.length : Int) ≤ most) && l.all fldB
def tyB (t : Ty) : Bool := isName t.name && fldsB t.fields 12
def prB (p : Pr) : Bool := isName p.name && fldsB p.params 6 && fldsB p.locals 12 && (decide (p.result = strB []) || typB p.result) && validSs p.body
def msB (m : Ms) : Bool := isName m.name && isName m.ty && decide (-1099511627776 ≤ m.nil ∧ m.nil ≤ 1099511627776) && validE m.x
def ivB (m : Iv) : Bool := isName m.name && openB m.ty && validE m.x
def poB (m : Po) : Bool := openB m.ty && validE m.x
def bdB (m : Bd) : Bool := isName m.proc && validE m.x
def formB (d : Ds) : Bool := d.measures.all msB && d.invs.all ivB && d.pots.all poB && d.bounds.all bdB
def lensB (d : Ds) : Bool := decide ((d.measures.length : Int) ≤ 12 ∧ (d.invs.length : Int) ≤ 12 ∧ (d.pots.length : Int) ≤ 12 ∧ (d.bounds.length : Int) ≤ 12)
def validD (d : Ds) : Bool := isName d.name && decide ((d.types.length : Int) ≤ 12) && fldsB d.globals 8 && decide ((d.procs.length : Int) ≤ 40) && lensB d && d.types.all tyB && d.procs.all prB && formB d
theorem c102 {V : Mem} {s : ByteArray} : PP 102 [.string s] V (.bool (typB s)) := by
  refine x102 ?_
  unfold w102
  refine ⟨fun h => ?_, fun h => ⟨fun h1 => ?_, fun h1 => c52.call ⟨_, rfl, ?_⟩⟩⟩ <;> simp [typB, sInt, sBool, *]
theorem c122 {V : Mem} [Tab V] {s : ByteArray} : PP 122 [.string s] V (.bool (typB s)) := by
  refine x122 ?_
  unfold w122
  refine ⟨fun h => ?_, fun h => ⟨fun h1 => ?_, fun h1 => c84.call ⟨_, rfl, ?_⟩⟩⟩ <;> simp [typB, sInt, sBool, *]
theorem c104 {V : Mem} {s : ByteArray} : PP 104 [.string s] V (.bool (openB s)) := by
  refine x104 ?_
  unfold w104
  refine ⟨fun h => ?_, fun h => c52.call ⟨_, rfl, ?_⟩⟩ <;> simp [openB, *]
theorem c123 {V : Mem} [Tab V] {s : ByteArray} : PP 123 [.string s] V (.bool (openB s)) := by
  refine x123 ?_
  unfold w123
  refine ⟨fun h => ?_, fun h => c84.call ⟨_, rfl, ?_⟩⟩ <;> simp [openB, *]
theorem c53 {V : Mem} {l : Sl} {xs : List Fld} {n : Int} (hr : RowsAt V l 2 (xs.map Fld.row)) : PP 53 [l.v, .int .i64 n] V (.bool (fldsB xs n)) := by
  refine x53 (v0 := l) (v1 := n) ?_
  unfold w53
  have hn := hr.n_eq
  refine ⟨fun h => ?_, fun h => ?_⟩
  · have : ¬ ((xs.length : Int) ≤ n) := by omega
    simp [fldsB, this]
  · have hle : (xs.length : Int) ≤ n := by omega
    refine loop2 xs.length (fun i V1 => V1 = V ∧ AllTo fldB xs i) ⟨rfl, AllTo.zero _ _⟩ ?_
    rintro i b V1 J hi ⟨rfl, ha⟩ hJ
    refine ⟨fun hlt => ?_, fun hge => ?_⟩
    · obtain ⟨x, hm, hx, hdr, hl, hp, hz, hrow⟩ := hr.get hlt
      have no : fldB x = false → (Ending.returned (.bool false) = Ending.returned (.bool (fldsB xs n)) ∧ V1 = V1) := fun h => by
        unfold fldsB; rw [all_false hm (by rw [h]; simp), Bool.and_false]; exact ⟨rfl, rfl⟩
      refine ⟨hp, hz, hlt, ptrAdd_ne hp, _, _, hrow, c52.call ⟨_, rfl, fun h1 => ⟨hp, hz, hlt, ptrAdd_ne hp, _, _, hrow, c102.call ⟨_, rfl, fun h2 => ⟨hr.succ hlt, hJ hl _ _ ⟨rfl, ha.succ hx (by simp [fldB, *])⟩⟩, fun h2 => no (by simp [fldB, *])⟩⟩, fun h1 => no (by simp [fldB, *])⟩⟩
    · have := ha.all (hr.done hge).2
      simp [fldsB, this, hle]
theorem c121 {V : Mem} [Tab V] {f : Fld} : PP 121 [f.v] V (.bool (!fldB f)) := by
  refine x121 (v0 := f.name) (v1 := f.ty) ?_
  unfold w121
  refine c84.call ⟨_, rfl, fun h => c122.call ⟨_, rfl, ?_⟩, fun h => ?_⟩ <;> simp [fldB, *]
theorem c85 {V : Mem} [Tab V] {l : Sl} {xs : List Fld} {n : Int} (hr : RowsAt V l 2 (xs.map Fld.row)) : PP 85 [l.v, .int .i64 n] V (.bool (fldsB xs n)) := by
  refine x85 (v0 := l) (v1 := n) ?_
  unfold w85
  have hn := hr.n_eq
  refine ⟨fun h => (c26 (first := []) (caps := []) hr Tryz.call121 (fun f => !fldB f) fun f _ => c121).call ⟨_, rfl, ?_⟩, fun h => ?_⟩
  · have hle : (xs.length : Int) ≤ n := by omega
    rw [List.any_eq_not_all_not]
    simp [fldsB, hle]
  · have : ¬ ((xs.length : Int) ≤ n) := by omega
    simp [fldsB, this]
theorem c54 {V : Mem} {p : Pr} (h : Pr.Ok V p) : PP 54 [p.v] V (.bool (prB p)) := by
  refine x54 (v0 := p.name) (v1 := p.ps) (v2 := p.result) (v3 := p.ls) (v4 := p.bs) ?_
  unfold w54
  have cs := c103 (d := 1) h.body h.stmts (by omega) (by omega)
  refine c52.call ⟨_, rfl, fun h1 => (c53 h.params).call ⟨_, rfl, fun h2 => (c53 h.locals).call ⟨_, rfl, fun h3 => ⟨fun h4 => cs.call ⟨_, rfl, ?_⟩, fun h4 => c102.call ⟨_, rfl, fun h5 => cs.call ⟨_, rfl, ?_⟩, fun h5 => ?_⟩⟩, fun h3 => ?_⟩, fun h2 => ?_⟩, fun h1 => ?_⟩
  all_goals simp [prB, ← validSs_cnt, *]
theorem c91 {V : Mem} [Tab V] {p : Pr} (h : Pr.Ok V p) : PP 91 [p.v] V (.bool (prB p)) := by
  refine Pur.mk (x91 (v0 := p.name) (v1 := p.ps) (v2 := p.result) (v3 := p.ls) (v4 := p.bs) ?_)
  unfold w91
  have cs : (validSs p.body = prB p) → PubT [(.int .i64 200)] 154 V fun v9 V5 =>
       Tri Tryz.prog 128 #[(.slice p.bs.p p.bs.n p.bs.c), (.int .i64 1), (.pointer (ptrAdd v9 0))] V5 fun e V6 => ∃ v10 : Bool, e = .returned (.bool v10) ∧ (Ending.returned (.bool v10) = Ending.returned (.bool (prB p)) ∧ V.sub V6) := fun e b hb => by
    refine Tri.mono (c128 hb p.body p.bs 1 200 _ h.body h.stmts (Mem.sub_new hb _) (Mem.set_same _ _ _) (by omega) (by omega) (by omega) (by omega)) ?_
    rintro _ _ ⟨rfl, rfl⟩
    rw [validSs_v, Mem.set_set, e]
    exact ⟨_, rfl, rfl, Mem.sub_new hb _⟩
  refine c84.call ⟨_, rfl, fun h1 => (c85 h.params).call ⟨_, rfl, fun h2 => (c85 h.locals).call ⟨_, rfl, fun h3 => ⟨fun h4 => cs ?_, fun h4 => c122.call ⟨_, rfl, fun h5 => cs ?_, fun h5 => ⟨?_, Mem.sub.refl _⟩⟩⟩, fun h3 => ⟨?_, Mem.sub.refl _⟩⟩, fun h2 => ⟨?_, Mem.sub.refl _⟩⟩, fun h1 => ⟨?_, Mem.sub.refl _⟩⟩
  all_goals simp [prB, *]
theorem c125 {V : Mem} [Tab V] {b : Bd} (h : E.Ok V b.x) : PP 125 [b.v] V (.bool (!bdB b)) := by
  refine x125 (v0 := b.proc) (v1 := b.x.op) (v2 := b.x.n) (v3 := b.x.s) (v4 := b.x.l) ?_
  unfold w125
  refine c84.call ⟨_, rfl, fun h1 => (c62 h).call ⟨_, rfl, ?_⟩, fun h1 => ?_⟩ <;> simp [bdB, *]
theorem c88 {V : Mem} [Tab V] {t : Ty} (h : Ty.Ok V t) : PP 88 [t.v] V (.bool (!tyB t)) := by
  refine x88 (v0 := t.name) (v1 := t.fs) ?_
  unfold w88
  refine c84.call ⟨_, rfl, fun h1 => (c85 h.fields).call ⟨_, rfl, ?_⟩, fun h1 => ?_⟩ <;> simp [tyB, *]
theorem c90 {V : Mem} [Tab V] {t : Pr} (h : Pr.Ok V t) : PP 90 [t.v] V (.bool (!prB t)) := by
  refine x90 (v0 := t.name) (v1 := t.ps) (v2 := t.result) (v3 := t.ls) (v4 := t.bs) ?_
  unfold w90
  exact (c91 h).call ⟨_, rfl, rfl, rfl⟩
end Go.Proofs
namespace Go.Proofs
open Go Go.Sx
attribute [local irreducible] Go.Sx.Tri
theorem GenK.max4 {P : Program} {V : Mem} {a b c d : Operand} {ty : Nat} {ts : Array TypeId} {vals : Operand → Value} {n1 n2 n3 n4 : Int} (h1 : vals a = .int .i64 n1) (h2 : vals b = .int .i64 n2) (h3 : vals c = .int .i64 n3) (h4 : vals d = .int .i64 n4) {q : Value → Mem → Prop}
    (hq : ∀ m : Int, n1 ≤ m → n2 ≤ m → n3 ≤ m → n4 ≤ m → (m = n1 ∨ m = n2 ∨ m = n3 ∨ m = n4) → q (.int .i64 m) V) : GenK P (.call { callee := .builtin .max, args := #[a, b, c, d], argTypes := ts }) ty vals V q := by
  intro w hw
  refine ⟨_, w, V, ?_, Frm.refl hw, hq (max (max (max n1 n2) n3) n4) (by omega) (by omega) (by omega) (by omega) (by omega)⟩
  unfold execOp
  have e : ∀ x y : Int, (if y > x then y else x) = max x y := fun x y => by split <;> omega
  simp only [resolve, invoke, builtin, Sem.run_bind, Sem.run_pure, Result.andThen_ok, List.map_toArray, List.map_cons, List.map_nil, h1, h2, h3, h4]
  simp [Builtin.max_, Builtin.max2, e]
theorem Ds.v_eq (d : Ds) : d.v = .agg #[.string d.name, .slice d.ts.p d.ts.n d.ts.c, .slice d.gs.p d.gs.n d.gs.c, .slice d.ps.p d.ps.n d.ps.c, .slice d.ms.p d.ms.n d.ms.c, .slice d.is.p d.is.n d.is.c, .slice d.qs.p d.qs.n d.qs.c, .slice d.bs.p d.bs.n d.bs.c] := rfl
theorem c55 {V : Mem} {d : Ds} (h : Ds.Ok V d) : PP 55 [d.v] V (.bool (formB d)) := by
  refine x55 (v0 := d.name) (v1 := d.ts) (v2 := d.gs) (v3 := d.ps) (v4 := d.ms) (v5 := d.is) (v6 := d.qs) (v7 := d.bs) ?_
  unfold w55
  generalize hX : formB d = X
  have key : ∀ b : Bool, X = b → (Ending.returned (.bool b) = Ending.returned (.bool X) ∧ V = V) := fun n h => by rw [h]; exact ⟨rfl, rfl⟩
  unfold formB at hX
  refine loop2 d.measures.length (fun i V1 => V = V1 ∧ AllTo msB d.measures i) ⟨rfl, AllTo.zero _ _⟩ ?_
  rintro i b V1 J hi ⟨rfl, ha⟩ hJ
  refine ⟨fun hlt => ?_, fun hge => ?_⟩
  · obtain ⟨x, hm, hx, hdr, hl, hp, hz, hrow⟩ := h.measures.get hlt
    have no : msB x = false → X = false := fun h => by rw [← hX, all_false hm (by rw [h]; simp)]; rfl
    refine ⟨hp, hz, hlt, _, _, _, _, _, _, _, hrow, c52.call ⟨_, rfl, fun h1 => c52.call ⟨_, rfl, fun h2 => ⟨fun h3 => key _ (no ?_), fun h3 => ⟨fun h4 => key _ (no ?_), fun h4 => (c17 (h.measuresOk x hm).x).call ⟨_, rfl, fun h5 => ⟨h.measures.succ hlt, hJ hl _ _ ⟨rfl, ha.succ hx ?_⟩⟩, fun h5 => key _ (no ?_)⟩⟩⟩, fun h2 => key _ (no ?_)⟩, fun h1 => key _ (no ?_)⟩⟩
    · have : ¬ (-1099511627776 ≤ x.nil ∧ x.nil ≤ 1099511627776) := by omega
      simp [msB, *]
    · have : ¬ (-1099511627776 ≤ x.nil ∧ x.nil ≤ 1099511627776) := by omega
      simp [msB, *]
    · have : (-1099511627776 ≤ x.nil ∧ x.nil ≤ 1099511627776) := by omega
      simp [msB, *]
    all_goals simp [msB, *]
  have a1 := ha.all (h.measures.done hge).2
  refine loop2 d.invs.length (fun i V1 => V = V1 ∧ AllTo ivB d.invs i) ⟨rfl, AllTo.zero _ _⟩ ?_
  rintro i b V1 J hi ⟨rfl, ha⟩ hJ
  refine ⟨fun hlt => ?_, fun hge => ?_⟩
  · obtain ⟨x, hm, hx, hdr, hl, hp, hz, hrow⟩ := h.invs.get hlt
    have no : ivB x = false → X = false := fun h => by rw [← hX, all_false hm (by rw [h]; simp)]; simp
    refine ⟨hp, hz, hlt, ptrAdd_ne hp, _, _, _, _, _, _, hrow, c52.call ⟨_, rfl, fun h1 => ⟨hp, hz, hlt, ptrAdd_ne hp, _, _, _, _, _, _, hrow, c104.call ⟨_, rfl, fun h2 => ⟨hp, hz, hlt, ptrAdd_ne hp, _, _, _, _, _, _, hrow, (c17 (h.invsOk x hm)).call ⟨_, rfl, fun h5 => ⟨h.invs.succ hlt, hJ hl _ _ ⟨rfl, ha.succ hx ?_⟩⟩, fun h5 => key _ (no ?_)⟩⟩, fun h2 => key _ (no ?_)⟩⟩, fun h1 => key _ (no ?_)⟩⟩
    all_goals simp [ivB, *]
  have a2 := ha.all (h.invs.done hge).2
  refine loop2 d.pots.length (fun i V1 => V = V1 ∧ AllTo poB d.pots i) ⟨rfl, AllTo.zero _ _⟩ ?_
  rintro i b V1 J hi ⟨rfl, ha⟩ hJ
  refine ⟨fun hlt => ?_, fun hge => ?_⟩
  · obtain ⟨x, hm, hx, hdr, hl, hp, hz, hrow⟩ := h.pots.get hlt
    have no : poB x = false → X = false := fun h => by rw [← hX, all_false (p := poB) hm (by rw [h]; simp)]; simp
    refine ⟨hp, hz, hlt, ptrAdd_ne hp, _, _, _, _, _, hrow, c104.call ⟨_, rfl, fun h2 => ⟨hp, hz, hlt, ptrAdd_ne hp, _, _, _, _, _, hrow, (c17 (h.potsOk x hm)).call ⟨_, rfl, fun h5 => ⟨h.pots.succ hlt, hJ hl _ _ ⟨rfl, ha.succ hx ?_⟩⟩, fun h5 => key _ (no ?_)⟩⟩, fun h2 => key _ (no ?_)⟩⟩
    all_goals simp [poB, *]
  have a3 := ha.all (h.pots.done hge).2
  refine loop2 d.bounds.length (fun i V1 => V = V1 ∧ AllTo bdB d.bounds i) ⟨rfl, AllTo.zero _ _⟩ ?_
  rintro i b V1 J hi ⟨rfl, ha⟩ hJ
  refine ⟨fun hlt => ?_, fun hge => ?_⟩
  · obtain ⟨x, hm, hx, hdr, hl, hp, hz, hrow⟩ := h.bounds.get hlt
    have no : bdB x = false → X = false := fun h => by rw [← hX, all_false (p := bdB) hm (by rw [h]; simp)]; simp
    refine ⟨hp, hz, hlt, ptrAdd_ne hp, _, _, _, _, _, hrow, c52.call ⟨_, rfl, fun h2 => ⟨hp, hz, hlt, ptrAdd_ne hp, _, _, _, _, _, hrow, (c17 (h.boundsOk x hm)).call ⟨_, rfl, fun h5 => ⟨h.bounds.succ hlt, hJ hl _ _ ⟨rfl, ha.succ hx ?_⟩⟩, fun h5 => key _ (no ?_)⟩⟩, fun h2 => key _ (no ?_)⟩⟩
    all_goals simp [bdB, *]
  have a4 := ha.all (h.bounds.done hge).2
  refine key _ ?_
  rw [← hX, a1, a2, a3, a4]; rfl
theorem c86 {V : Mem} [Tab V] {d : Ds} (h : Ds.Ok V d) : PP 86 [d.v] V (.bool (lensB d && formB d)) := by
  refine x86 (v0 := d.name) (v1 := d.ts) (v2 := d.gs) (v3 := d.ps) (v4 := d.ms) (v5 := d.is) (v6 := d.qs) (v7 := d.bs) ?_
  unfold w86
  have n1 := h.measures.n_eq
  have n2 := h.invs.n_eq
  have n3 := h.pots.n_eq
  have n4 := h.bounds.n_eq
  generalize hX : (lensB d && formB d) = X
  have key : ∀ b : Bool, X = b → (Ending.returned (.bool b) = Ending.returned (.bool X) ∧ V = V) := fun n h => by rw [h]; exact ⟨rfl, rfl⟩
  unfold formB lensB at hX
  refine GenK.max4 (n1 := d.ms.n) (n2 := d.is.n) (n3 := d.qs.n) (n4 := d.bs.n) rfl rfl rfl rfl fun mx l1 l2 l3 l4 le => ⟨_, rfl, fun hb => key _ ?_, fun hb => ?_⟩
  · rw [← hX, decide_eq_false (by omega)]; rfl
  rw [decide_eq_true (by omega), Bool.true_and] at hX
  refine loop2 d.measures.length (fun i V1 => V = V1 ∧ AllTo msB d.measures i) ⟨rfl, AllTo.zero _ _⟩ ?_
  rintro i b V1 J hi ⟨rfl, ha⟩ hJ
  refine ⟨fun hlt => ?_, fun hge => ?_⟩
  · obtain ⟨x, hm, hx, hdr, hl, hp, hz, hrow⟩ := h.measures.get hlt
    have no : msB x = false → X = false := fun h => by rw [← hX, all_false hm (by rw [h]; simp)]; rfl
    refine ⟨hp, hz, hlt, _, _, _, _, _, _, _, hrow, c84.call ⟨_, rfl, fun h1 => c84.call ⟨_, rfl, fun h2 => ⟨fun h3 => key _ (no ?_), fun h3 => ⟨fun h4 => key _ (no ?_), fun h4 => (c62 (h.measuresOk x hm).x).call ⟨_, rfl, fun h5 => ⟨h.measures.succ hlt, hJ hl _ _ ⟨rfl, ha.succ hx ?_⟩⟩, fun h5 => key _ (no ?_)⟩⟩⟩, fun h2 => key _ (no ?_)⟩, fun h1 => key _ (no ?_)⟩⟩
    · have : ¬ (-1099511627776 ≤ x.nil ∧ x.nil ≤ 1099511627776) := by omega
      simp [msB, *]
    · have : ¬ (-1099511627776 ≤ x.nil ∧ x.nil ≤ 1099511627776) := by omega
      simp [msB, *]
    · have : (-1099511627776 ≤ x.nil ∧ x.nil ≤ 1099511627776) := by omega
      simp [msB, *]
    all_goals simp [msB, *]
  have a1 := ha.all (h.measures.done hge).2
  refine loop2 d.invs.length (fun i V1 => V = V1 ∧ AllTo ivB d.invs i) ⟨rfl, AllTo.zero _ _⟩ ?_
  rintro i b V1 J hi ⟨rfl, ha⟩ hJ
  refine ⟨fun hlt => ?_, fun hge => ?_⟩
  · obtain ⟨x, hm, hx, hdr, hl, hp, hz, hrow⟩ := h.invs.get hlt
    have no : ivB x = false → X = false := fun h => by rw [← hX, all_false hm (by rw [h]; simp)]; simp
    refine ⟨hp, hz, hlt, _, _, _, _, _, _, hrow, c84.call ⟨_, rfl, fun h1 => c123.call ⟨_, rfl, fun h2 => (c62 (h.invsOk x hm)).call ⟨_, rfl, fun h5 => ⟨h.invs.succ hlt, hJ hl _ _ ⟨rfl, ha.succ hx ?_⟩⟩, fun h5 => key _ (no ?_)⟩, fun h2 => key _ (no ?_)⟩, fun h1 => key _ (no ?_)⟩⟩
    all_goals simp [ivB, *]
  have a2 := ha.all (h.invs.done hge).2
  refine loop2 d.pots.length (fun i V1 => V = V1 ∧ AllTo poB d.pots i) ⟨rfl, AllTo.zero _ _⟩ ?_
  rintro i b V1 J hi ⟨rfl, ha⟩ hJ
  refine ⟨fun hlt => ?_, fun hge => ?_⟩
  · obtain ⟨x, hm, hx, hdr, hl, hp, hz, hrow⟩ := h.pots.get hlt
    have no : poB x = false → X = false := fun h => by rw [← hX, all_false (p := poB) hm (by rw [h]; simp)]; simp
    refine ⟨hp, hz, hlt, _, _, _, _, _, hrow, c123.call ⟨_, rfl, fun h2 => (c62 (h.potsOk x hm)).call ⟨_, rfl, fun h5 => ⟨h.pots.succ hlt, hJ hl _ _ ⟨rfl, ha.succ hx ?_⟩⟩, fun h5 => key _ (no ?_)⟩, fun h2 => key _ (no ?_)⟩⟩
    all_goals simp [poB, *]
  have a3 := ha.all (h.pots.done hge).2
  refine (c124 (first := []) (caps := []) h.bounds Tryz.call125 (fun f => !bdB f) fun f hm => c125 (h.boundsOk f hm)).call ⟨_, rfl, key _ ?_⟩
  rw [← hX, a1, a2, a3, List.any_eq_not_all_not]
  simp
theorem c13 {V : Mem} {d : Ds} (h : Ds.Ok V d) : PP 13 [d.v] V (.bool (validD d)) := by
  refine x13 (v0 := d.name) (v1 := d.ts) (v2 := d.gs) (v3 := d.ps) (v4 := d.ms) (v5 := d.is) (v6 := d.qs) (v7 := d.bs) ?_
  unfold w13
  have n1 := h.measures.n_eq
  have n2 := h.invs.n_eq
  have n3 := h.pots.n_eq
  have n4 := h.bounds.n_eq
  have n5 := h.types.n_eq
  have n6 := h.procs.n_eq
  generalize hX : validD d = X
  have key : ∀ b : Bool, X = b → (Ending.returned (.bool b) = Ending.returned (.bool X) ∧ V = V) := fun n h => by rw [h]; exact ⟨rfl, rfl⟩
  unfold validD at hX
  have nol : lensB d = false → X = false := fun h => by rw [← hX, h]; simp
  refine c52.call ⟨_, rfl, fun h1 => ⟨fun h2 => key _ ?_, fun h2 => (c53 h.globals).call ⟨_, rfl, fun h3 => ⟨fun h4 => key _ ?_, fun h4 => ⟨fun h5 => key _ (nol ?_), fun h5 => ⟨fun h6 => key _ (nol ?_), fun h6 => ⟨fun h7 => key _ (nol ?_), fun h7 => ⟨fun h8 => key _ (nol ?_), fun h8 => ?_⟩⟩⟩⟩⟩, fun h3 => key _ ?_⟩⟩, fun h1 => key _ ?_⟩
  · rw [← hX, decide_eq_false (by omega)]; simp
  · rw [← hX, decide_eq_false (p := (d.procs.length : Int) ≤ 40) (by omega)]; simp
  · exact decide_eq_false (by omega)
  · exact decide_eq_false (by omega)
  · exact decide_eq_false (by omega)
  · exact decide_eq_false (by omega)
  · have hl : lensB d = true := decide_eq_true (by omega)
    rw [h1, decide_eq_true (p := (d.types.length : Int) ≤ 12) (by omega), h3, decide_eq_true (p := (d.procs.length : Int) ≤ 40) (by omega), hl] at hX
    simp only [Bool.true_and] at hX
    refine loop2 d.types.length (fun i V1 => V = V1 ∧ AllTo tyB d.types i) ⟨rfl, AllTo.zero _ _⟩ ?_
    rintro i b V1 J hi ⟨rfl, ha⟩ hJ
    refine ⟨fun hlt => ?_, fun hge => ?_⟩
    · obtain ⟨x, hm, hx, hdr, hl, hp, hz, hrow⟩ := h.types.get hlt
      have no : tyB x = false → X = false := fun h => by rw [← hX, all_false hm (by rw [h]; simp)]; rfl
      refine ⟨hp, hz, hlt, ptrAdd_ne hp, _, _, hrow, c52.call ⟨_, rfl, fun h1 => ⟨hp, hz, hlt, ptrAdd_ne hp, _, _, hrow, (c53 (h.typesOk x hm).fields).call ⟨_, rfl, fun h5 => ⟨h.types.succ hlt, hJ hl _ _ ⟨rfl, ha.succ hx ?_⟩⟩, fun h5 => key _ (no ?_)⟩⟩, fun h1 => key _ (no ?_)⟩⟩
      all_goals simp [tyB, *]
    have a1 := ha.all (h.types.done hge).2
    refine loop2 d.procs.length (fun i V1 => V = V1 ∧ AllTo prB d.procs i) ⟨rfl, AllTo.zero _ _⟩ ?_
    rintro i b V1 J hi ⟨rfl, ha⟩ hJ
    refine ⟨fun hlt => ?_, fun hge => ?_⟩
    · obtain ⟨x, hm, hx, hdr, hl, hp, hz, hrow⟩ := h.procs.get hlt
      have no : prB x = false → X = false := fun h => by rw [← hX, all_false hm (by rw [h]; simp)]; simp
      exact ⟨hp, hz, hlt, _, _, _, _, _, hrow, (c54 (h.procsOk x hm)).call ⟨_, rfl, fun h5 => ⟨h.procs.succ hlt, hJ hl _ _ ⟨rfl, ha.succ hx h5⟩⟩, fun h5 => key _ (no (eq_false_of_ne_true h5))⟩⟩
    have a2 := ha.all (h.procs.done hge).2
    refine (c55 h).call ⟨_, rfl, key _ ?_⟩
    rw [← hX, a1, a2]; rfl
  · rw [← hX, eq_false_of_ne_true h3]; simp
  · rw [← hX, eq_false_of_ne_true h1]; simp
theorem c49 {V : Mem} [Tab V] {d : Ds} (h : Ds.Ok V d) : PP 49 [d.v] V (.bool (validD d)) := by
  refine x49 (v0 := d.name) (v1 := d.ts) (v2 := d.gs) (v3 := d.ps) (v4 := d.ms) (v5 := d.is) (v6 := d.qs) (v7 := d.bs) ?_
  unfold w49
  have n5 := h.types.n_eq
  have n6 := h.procs.n_eq
  generalize hX : validD d = X
  have key : ∀ b : Bool, X = b → (Ending.returned (.bool b) = Ending.returned (.bool X) ∧ V = V) := fun n h => by rw [h]; exact ⟨rfl, rfl⟩
  unfold validD at hX
  refine c84.call ⟨_, rfl, fun h1 => ⟨fun h2 => key _ ?_, fun h2 => (c85 h.globals).call ⟨_, rfl, fun h3 => ⟨fun h4 => key _ ?_, fun h4 => (c86 h).call ⟨_, rfl, fun h5 => (c87 (first := []) (caps := []) h.types Tryz.call88 (fun f => !tyB f) fun f hm => c88 (h.typesOk f hm)).call ⟨_, rfl, fun h6 => key _ ?_, fun h6 =>
      (c89 (first := []) (caps := []) h.procs Tryz.call90 (fun f => !prB f) fun f hm => c90 (h.procsOk f hm)).call ⟨_, rfl, key _ ?_⟩⟩, fun h5 => key _ ?_⟩⟩, fun h3 => key _ ?_⟩⟩, fun h1 => key _ ?_⟩
  · rw [← hX, decide_eq_false (by omega)]; simp
  · rw [← hX, decide_eq_false (p := (d.procs.length : Int) ≤ 40) (by omega)]; simp
  · rw [List.any_eq_not_all_not] at h6
    have : d.types.all tyB = false := by simpa using h6
    rw [← hX, this]; simp
  · rw [List.any_eq_not_all_not] at h6 ⊢
    have : d.types.all tyB = true := by simpa using h6
    rw [Bool.and_eq_true] at h5
    rw [← hX, h1, decide_eq_true (p := (d.types.length : Int) ≤ 12) (by omega), h3, decide_eq_true (p := (d.procs.length : Int) ≤ 40) (by omega), h5.1, h5.2, this]
    simp
  · have : (lensB d && formB d) = false := eq_false_of_ne_true h5
    rw [← hX]
    cases hl : lensB d with
    | false => simp
    | true => rw [hl, Bool.true_and] at this; rw [this]; simp
  · rw [← hX, eq_false_of_ne_true h3]; simp
  · rw [← hX, eq_false_of_ne_true h1]; simp
end Go.Proofs
