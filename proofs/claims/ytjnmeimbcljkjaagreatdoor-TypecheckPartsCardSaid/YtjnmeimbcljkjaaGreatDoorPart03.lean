/- Part 3 of a proof of a law of this seat: no statement of the seat is proved here. -/
import Derived.Test.YtjnmeimbcljkjaaGreatDoorPart02
import Derived.Orders
set_option linter.unusedVariables false
set_option linter.unusedSimpArgs false
namespace Go.Sx
open Go
section
variable {P : Program} {R : Ending → Mem → Prop} {O V0 : Mem} {w0 : World} {N : Nat} {L : List (List Value → Mem → Prop)} {ρ0 : List Value}

/-- Where a tree goes on from a state. -/
structure Pre (ρ0 : List Value) (L : List (List Value → Mem → Prop)) (ρ : List Value) (st : St) : Prop where
  pre : ρ0 <+: ρ
  depth : L.length = st.depth
theorem Pre.put {ρ0 : List Value} {L : List (List Value → Mem → Prop)} {ρ : List Value} {st : St} (h : Pre ρ0 L ρ st) (d : Nat) (t : T) : Pre ρ0 L ρ (st.put d t) := ⟨h.1, h.2⟩
theorem Pre.putO {ρ0 : List Value} {L : List (List Value → Mem → Prop)} {ρ : List Value} {st : St} (h : Pre ρ0 L ρ st) (d : Option Nat) (t : T) : Pre ρ0 L ρ (st.putO d t) := by
  cases d <;> exact ⟨h.1, h.2⟩
theorem Pre.more {ρ0 : List Value} {L : List (List Value → Mem → Prop)} {ρ : List Value} {st : St} (h : Pre ρ0 L ρ st) (n : Nat) (vs : List Value) : Pre ρ0 L (ρ ++ vs) (st.more n) := ⟨h.1.trans (List.prefix_append _ _), h.2⟩
theorem Pre.pubd {ρ0 : List Value} {L : List (List Value → Mem → Prop)} {ρ : List Value} {st : St} (h : Pre ρ0 L ρ st) (i : Nat) (vs : List Value) : Pre ρ0 L (ρ ++ vs) (st.pubd i) := ⟨h.1.trans (List.prefix_append _ _), h.2⟩
theorem Pre.compact {ρ0 : List Value} {L : List (List Value → Mem → Prop)} {ρ : List Value} {st : St} (h : Pre ρ0 L ρ st) (keep : List Nat) : Pre ρ0 L ρ (st.compact keep) := ⟨h.1, h.2⟩
theorem Pre.drop {ρ0 : List Value} {L : List (List Value → Mem → Prop)} {ρ : List Value} {st : St} (h : Pre ρ0 L ρ st) (d : Nat) : Pre ρ0 L ρ (st.drop d) := ⟨h.1, h.2⟩
theorem Pre.now {ρ0 : List Value} {L : List (List Value → Mem → Prop)} {ρ : List Value} {st : St} (h : Pre ρ0 L ρ st) (d : Nat) (t : T) : Pre ρ0 L ρ (st.now d t) := ⟨h.1, h.2⟩
theorem Pre.setBox {ρ0 : List Value} {L : List (List Value → Mem → Prop)} {ρ : List Value} {st : St} (h : Pre ρ0 L ρ st) (i : Nat) (t : T) (ty : Nat) : Pre ρ0 L ρ (st.setBox i t ty) := ⟨h.1, h.2⟩
def Goes (P : Program) (R : Ending → Mem → Prop) (O V0 : Mem) (w0 : World) (N : Nat) (L : List (List Value → Mem → Prop)) (ρ0 : List Value) (tmps : Array Value) (w : World) (st : St) (t : Tr) : Prop :=
  ∃ β ρ V, Pre ρ0 L ρ st ∧ Rel O V0 w0 N β st ρ V tmps w ∧ D P R t L ρ V

theorem needs_sound {ns : List T} {k : Tr} {ρ : List Value} {V : Mem} (h : D P R (needs ns k) L ρ V) (β : Nat → Nat) : (∀ x ∈ ns, asB (x.ev ρ β) = true) ∧ D P R k L ρ V := by
  induction ns with
  | nil => exact ⟨fun x hx => by (cases hx), h⟩
  | cons n ns ih =>
    simp only [needs] at h
    split at h
    · rename_i hc
      obtain ⟨h1, h2⟩ := h
      obtain ⟨h3, h4⟩ := ih h2
      refine ⟨fun x hx => ?_, h4⟩
      rcases List.mem_cons.1 hx with rfl | hx
      · rw [← (T.ev_free (β := id) (β' := β) (ρ := ρ) x hc.1).1]; exact h1
      · exact h3 x hx
    · exact h.elim

theorem pubBox_sound : ∀ (n : Nat) (st : St) (i : Nat) (k : St → Tr) {tmps : Array Value} {w : World}, Goes P R O V0 w0 N L ρ0 tmps w st (pubBox n st i k) → ∃ st', Goes P R O V0 w0 N L ρ0 tmps w st' (k st')
  | 0, st, i, k, tmps, w, ⟨β, ρ, V, hp, hr, hd⟩ => hd.elim
  | n + 1, st, i, k, tmps, w, ⟨β, ρ, V, hp, hr, hd⟩ => by
    simp only [pubBox] at hd
    split at hd
    · exact hd.elim
    · rename_i cs ty hb
      split at hd
      · rename_i j _
        obtain ⟨st', h'⟩ := pubBox_sound n st j _ ⟨β, ρ, V, hp, hr, hd⟩
        exact pubBox_sound n st' i k h'
      · rename_i hf
        split at hd
        · rename_i hw
          have := hd (β i) (hr.boxes i cs ty hb).2.1
          rw [(T.ev_free (β := id) (β' := β) (ρ := ρ) cs hf).2] at this
          exact ⟨_, β, _, _, hp.pubd _ _, hr.pubd hw hb, this⟩
        · exact hd.elim

theorem pubT_sound : ∀ (n : Nat) (st : St) (get : St → Option T) (k : St → T → Tr) {tmps : Array Value} {w : World}, Goes P R O V0 w0 N L ρ0 tmps w st (pubT n st get k) →
    ∃ st' t, get st' = some t ∧ t.firstBox = none ∧ Goes P R O V0 w0 N L ρ0 tmps w st' (k st' t)
  | 0, st, get, k, tmps, w, ⟨β, ρ, V, hp, hr, hd⟩ => hd.elim
  | n + 1, st, get, k, tmps, w, ⟨β, ρ, V, hp, hr, hd⟩ => by
    simp only [pubT] at hd
    split at hd
    · exact hd.elim
    · rename_i t hg
      split at hd
      · rename_i hf
        exact ⟨st, t, hg, hf, β, ρ, V, hp, hr, hd⟩
      · rename_i i _
        obtain ⟨st', h'⟩ := pubBox_sound _ st i _ ⟨β, ρ, V, hp, hr, hd⟩
        exact pubT_sound n st' get k h'


theorem rk_vals {β : Nat → Nat} : ∀ (rs : List RK) (vs ρ σ : List Value), Shaped (rs.flatMap RK.kinds) vs → (rkTerms rs ρ.length).map (·.ev (ρ ++ vs ++ σ) β) = resVals rs vs
  | [], [], _, _, _ => rfl
  | [], _ :: _, _, _, h => h.elim
  | .one k :: rs, v :: vs, ρ, σ, h => by
    have ih := rk_vals (β := β) rs vs (ρ ++ [v]) σ h.2
    simp only [List.length_append, List.length_singleton, List.append_assoc, List.cons_append, List.nil_append] at ih
    simp only [rkTerms, List.map_cons, List.append_assoc, List.cons_append, T.ev, ih, resVals, RK.val, RK.size, List.take_succ_cons, List.take_zero, List.headD_cons, List.drop_succ_cons, List.drop_zero, List.cons.injEq, and_true]
    have : (ρ ++ v :: (vs ++ σ)).getD ρ.length undef = v := by simp [List.getD]
    rw [this]; exact h.1
  | .one k :: rs, [], _, _, h => h.elim
  | .agg ks :: rs, vs, ρ, σ, h => by
    have hs := shaped_split (ks := ks) (ls := rs.flatMap RK.kinds) (vs := vs) h
    have hlen : (vs.take ks.length).length = ks.length := hs.1.length
    have ih := rk_vals (β := β) rs (vs.drop ks.length) (ρ ++ vs.take ks.length) σ hs.2
    have e : ρ ++ vs.take ks.length ++ vs.drop ks.length = ρ ++ vs := by simp
    rw [e, List.length_append, hlen] at ih
    have hv := vars_ev (β := β) ks (vs.take ks.length) ρ (vs.drop ks.length ++ σ) hs.1
    have e2 : ρ ++ vs.take ks.length ++ (vs.drop ks.length ++ σ) = ρ ++ vs ++ σ := by rw [← List.append_assoc, e]
    rw [e2] at hv
    simp only [rkTerms, List.map_cons, resVals, RK.val, RK.size, ih, T.ev, evs_ofList, hv]
theorem rk_val {β : Nat → Nat} (rs : List RK) (vs ρ : List Value) (h : Shaped (rs.flatMap RK.kinds) vs) : (rkTerm rs ρ.length).ev (ρ ++ vs) β = resVal rs vs := by
  have := rk_vals (β := β) rs vs ρ [] h
  rw [List.append_nil] at this
  unfold rkTerm resVal
  match rs, this, h with
  | [], _, _ => simp only [rkTerms, T.ev, evs_ofList]; rfl
  | [r], this, h =>
    cases r with
    | one k =>
      simp only [rkTerms, List.map_cons, List.map_nil, resVals, RK.val, RK.size, List.cons.injEq, and_true] at this
      simp only [rkTerms]
      rw [this]
      cases vs <;> simp [RK.val]
    | agg ks =>
      have hl : vs.length = ks.length := by have := h.length; simpa [RK.kinds] using this
      simp only [rkTerms, List.map_cons, List.map_nil, resVals, RK.val, RK.size, List.cons.injEq, and_true] at this
      simp only [rkTerms]
      rw [this, ← hl, List.take_length]
      rfl
  | r :: r' :: rs, this, _ =>
    have h2 : ∃ t t' ts, rkTerms (r :: r' :: rs) ρ.length = t :: t' :: ts := by cases r <;> cases r' <;> exact ⟨_, _, _, rfl⟩
    obtain ⟨t, t', ts, e⟩ := h2
    rw [e] at this ⊢
    simp only [T.ev, evs_ofList, this]

theorem row_cell {V : Mem} {w : World} (hV : V.le w) {b : Addr} {n : Nat} {vs : List Value} (h : V.row b n = some vs) : vs.length = n ∧ ∀ j v, vs[j]? = some v → w.cell? (b.add j) = some v := by
  unfold Mem.row at h
  split at h
  · rename_i c e fr hb
    split at h
    · rename_i hc
      simp only [Option.some.injEq] at h; subst h
      refine ⟨by simp; omega, fun j v hj => ?_⟩
      have hsp : b.spot = none := by simpa using hc.1
      have hadd : (b.add j) = ⟨b.block, b.off + j, none⟩ := by
        cases b with
        | mk bl off sp => simp only at hsp; subst hsp; exact addr_add bl off j
      rw [hadd]
      simp only [World.cell?, hV _ _ hb, Option.isSome_none, Bool.false_eq_true, if_false]
      rw [List.getElem?_take] at hj
      split at hj
      · simpa [List.getElem?_drop] using hj
      · simp at hj
    · simp at h
  · simp at h
/-- A part of visible cells, loaded. -/
theorem run_load_part {w : World} {ρ : List Value} {β : Nat → Nat} {t : TypeId} {cs x : T} {off : Nat} {b : Addr} (hc : ∀ j v, (cs.evs ρ β)[j]? = some v → w.cell? (b.add j) = some v) (h : partT P t cs off = some x) :
    (loadVar t (b.add off)).run P w = .ok (x.ev ρ β) w := by
  unfold partT at h
  split at h
  · rename_i n h1 h2
    simp only at h
    split at h
    · rename_i hl
      simp only [Option.some.injEq] at h; subst h
      have e : (takeT cs off n).map (·.ev ρ β) = ((cs.evs ρ β).drop off).take n := takeT_ev cs off n
      have hlen : (((cs.evs ρ β).drop off).take n).length = n := by rw [← e]; simpa using hl
      have := run_loadCells_list (P := P) w (b.add off) (((cs.evs ρ β).drop off).take n) (fun j v hj => by
        rw [addr_add_add]
        rw [List.getElem?_take] at hj
        split at hj
        · rw [List.getElem?_drop] at hj; exact hc _ _ hj
        · simp at hj)
      rw [hlen] at this
      simp only [loadVar, Sem.run_bind, run_isAggB h1, Result.andThen_ok, if_true, run_sizeOfT h2, this, Sem.run_pure, T.ev, evs_ofList, e]
    · simp at h
  · rename_i n h1 h2
    have e : (cs.evs ρ β)[off]? = some (x.ev ρ β) := by simp [evs_toList, h]
    simp only [loadVar, Sem.run_bind, run_isAggB h1, Result.andThen_ok, Bool.false_eq_true, if_false, run_load, hc _ _ e]
  · simp at h
end
end Go.Sx
namespace Go.Sx
open Go
/-- The functions that may be called have bodies. -/
def CallsOk (P : Program) (fs : List Nat) : Prop := ∀ f ∈ fs, ∀ args w, (callFunc f args).run P w = .ok (.enter f args) w
section
variable {P : Program} {R : Ending → Mem → Prop} {O V0 : Mem} {w0 : World} {N : Nat} {L : List (List Value → Mem → Prop)} {ρ0 : List Value} {fs : List Nat} {H : Hint}

theorem calls_mono {f : FuncId} {args : Array Value} {w : World} {R R' : Ending → World → Prop} (h : Calls P f args w R) (hr : ∀ e w', R e w' → R' e w') : Calls P f args w R' := fun cs =>
  let ⟨e, w', fr, hR, rest⟩ := h cs
  ⟨e, w', fr, hr _ _ hR, rest⟩

theorem getAll_lookup {st : St} : ∀ {l : List Nat} {t : T}, getAll st l = some t → ∀ s ∈ l, (l.zip t.toList).lookup s = st.get s
  | [], t, _, s, hs => by cases hs
  | x :: xs, t, h, s, hs => by
    simp only [getAll] at h
    split at h
    · rename_i t1 t2 h1 h2
      simp only [Option.some.injEq] at h; subst h
      simp only [T.toList, List.zip_cons_cons, List.lookup_cons]
      by_cases e : s = x
      · subst e; simp [h1]
      · have : (s == x) = false := by simpa using e
        rw [this]
        exact getAll_lookup h2 s (by rcases List.mem_cons.1 hs with h | h; exact absurd h e; exact h)
    · simp at h
theorem getAll_some {st : St} : ∀ {l : List Nat} {t : T}, getAll st l = some t → ∀ s ∈ l, ∃ x, st.get s = some x ∧ x ∈ t.toList
  | [], t, _, s, hs => by cases hs
  | x :: xs, t, h, s, hs => by
    simp only [getAll] at h
    split at h
    · rename_i t1 t2 h1 h2
      simp only [Option.some.injEq] at h; subst h
      rcases List.mem_cons.1 hs with rfl | hs
      · exact ⟨t1, h1, by simp [T.toList]⟩
      · obtain ⟨y, hy, hm⟩ := getAll_some h2 s hs
        exact ⟨y, hy, by simp [T.toList, hm]⟩
    · simp at h
theorem free_mem : ∀ {t : T} {x : T}, t.firstBox = none → x ∈ t.toList → x.firstBox = none
  | .cons h t, x, hf, hx => by
    simp only [T.firstBox, Option.or_eq_none_iff] at hf
    simp only [T.toList, List.mem_cons] at hx
    rcases hx with rfl | hx
    · exact hf.1
    · exact free_mem hf.2 hx
  | .var _ _, x, _, hx => by simp [T.toList] at hx
  | .int _ _, x, _, hx => by simp [T.toList] at hx
  | .bool _, x, _, hx => by simp [T.toList] at hx
  | .str _, x, _, hx => by simp [T.toList] at hx
  | .und, x, _, hx => by simp [T.toList] at hx
  | .nilp, x, _, hx => by simp [T.toList] at hx
  | .nilsl, x, _, hx => by simp [T.toList] at hx
  | .nilm, x, _, hx => by simp [T.toList] at hx
  | .nilf, x, _, hx => by simp [T.toList] at hx
  | .nili, x, _, hx => by simp [T.toList] at hx
  | .box _ _, x, _, hx => by simp [T.toList] at hx
  | .glob _, x, _, hx => by simp [T.toList] at hx
  | .fn _ _, x, _, hx => by simp [T.toList] at hx
  | .u _ _, x, _, hx => by simp [T.toList] at hx
  | .b2 _ _ _, x, _, hx => by simp [T.toList] at hx
  | .c3 _ _ _ _, x, _, hx => by simp [T.toList] at hx
  | .nil, x, _, hx => by simp [T.toList] at hx
  | .agg _, x, _, hx => by simp [T.toList] at hx
  | .tup _, x, _, hx => by simp [T.toList] at hx

theorem gval_eval {st : St} {β : Nat → Nat} {ρ : List Value} {V : Mem} {a : Act} {w : World} (hr : Rel O V0 w0 N β st ρ V a.tmps w) {l : List Operand} {t : T} (hg : getAll st (tmpsOf l) = some t) (hf : t.firstBox = none) :
    ∀ x ∈ l, a.eval x = gval ((tmpsOf l).zip t.toList) ρ x := by
  intro x hx
  cases x with
  | tmp s =>
    have hs : s ∈ tmpsOf l := List.mem_filterMap.2 ⟨_, hx, rfl⟩
    obtain ⟨y, hy, hm⟩ := getAll_some hg s hs
    have h1 := getAll_lookup hg s hs
    simp only [gval, h1, hy, Option.map_some, Option.getD_some]
    rw [(T.ev_free (β := id) (β' := β) (ρ := ρ) y (free_mem hf hm)).1]
    exact hr.slots s y hy
  | const v => rfl
  | global g => rfl
  | func f => rfl
theorem execOp_gval {st : St} {β : Nat → Nat} {ρ : List Value} {V : Mem} {a : Act} {w : World} (hr : Rel O V0 w0 N β st ρ V a.tmps w) {o : Oper} (hs : isSelect o.op = false) {t : T} (hg : getAll st (tmpsOf o.op.operands.toList) = some t) (hf : t.firstBox = none) :
    execOp a.eval o = execOp (gval ((tmpsOf o.op.operands.toList).zip t.toList) ρ) { dst := none, op := o.op, type := o.type, pos := "", after := #[], guard := none } := by
  have h1 := execOp_congr (ρ := a.eval) (ρ' := gval ((tmpsOf o.op.operands.toList).zip t.toList) ρ) o (fun cs b e => by rw [e] at hs; simp [isSelect] at hs)
    (fun x hx => gval_eval hr hg hf x (by simpa using hx))
  rw [h1]; rfl

variable {a : Act} {w : World} {st : St} {o : Oper} {k : St → Tr} {next : Act → World → Prop} {Q : Exit → Act → World → Prop}

theorem exCall_sound (hcalls : CallsOk P fs) {c : Call} {f : Operand} (hop : o.op = .call c) (hcf : c.callee = .value f) (hd : dstOk N o.dst = true)
    (h : Goes P R O V0 w0 N L ρ0 a.tmps w st (exCall P fs st o c f k))
    (hk : ∀ st' a' w', (∃ v, a' = a.put o.dst v) → Goes P R O V0 w0 N L ρ0 a'.tmps w' st' (k st') → next a' w') : o.wp P a w next Q := by
  obtain ⟨β, ρ, V, hp, hr, hD⟩ := h
  unfold exCall at hD
  split at hD
  · exact hD.elim
  · rename_i rs hrs
    -- what is behind the call
    have after : ∀ (st : St) (β : Nat → Nat) (ρ : List Value) (V : Mem), Pre ρ0 L ρ st → Rel O V0 w0 N β st ρ V a.tmps w → st.wf = true → ∀ (g : FuncId) (args : Array Value),
        Tri P g args V (fun e V' => ∃ vs, e = .returned (resVal rs vs) ∧ Shaped (rs.flatMap RK.kinds) vs ∧ D P R (k ((st.more (rkSize rs)).putO o.dst (rkTerm rs st.nv))) L (ρ ++ vs) V') →
        Calls P g args w fun
          | .returned v, w'' => next (a.put o.dst v) w''
          | .panicked chain, w'' => Q (.panic chain) a w''
          | .outgrown, _ => LetsOut Q := by
      intro st β ρ V hp hr hw g args ht
      refine calls_mono (ht w hr.frm.le) ?_
      rintro e w' ⟨V', ⟨vs, rfl, hsh, hD'⟩, hF⟩
      refine hk _ _ _ ⟨_, rfl⟩ ⟨β, ρ ++ vs, V', (hp.more _ _).putO _ _, ?_, hD'⟩
      have hl : vs.length = rkSize rs := hsh.length
      have h1 := (hr.frame hF).bind hw vs
      rw [hl] at h1
      exact h1.putO hd _ (by rw [← hr.nv]; exact (rk_val rs vs ρ hsh).symm)
    split at hD
    · rename_i g0 caps0 hf0
      obtain ⟨st', t, hg, hfree, β', ρ', V', hp', hr', hD'⟩ := pubT_sound _ _ _ _ ⟨β, ρ, V, hp, hr, hD⟩
      split at hg
      · rename_i g caps ts hf1 hts
        simp only [Option.some.injEq] at hg; subst hg
        simp only at hD'
        split at hD'
        · rename_i hmem
          unfold bind at hD'
          split at hD'
          · rename_i hw
            simp only [D] at hD'
            have e1 : a.eval f = .func (.func g) #[] (caps.evs ρ' β').toArray := opT_ev hr' hf1
            have e2 : c.args.map a.eval = (ts.map (·.ev ρ' β')).toArray := by apply Array.ext'; rw [Array.toList_map, opTs_ev hr' hts]
            have hev := (T.ev_free (β := id) (β' := β') (ρ := ρ') (T.ofList (ts ++ caps.toList)) (by simpa [T.firstBox] using hfree)).2
            have hargs : (T.evs ρ' id (T.ofList (ts ++ caps.toList))).toArray = (ts.map (·.ev ρ' β')).toArray ++ (caps.evs ρ' β').toArray := by
              rw [hev, evs_ofList, evs_toList ρ' β' caps, List.map_append]; simp
            have hrun : (execOp a.eval o).run P w = .ok (.enter g ((ts.map (·.ev ρ' β')).toArray ++ (caps.evs ρ' β').toArray)) w := by
              unfold execOp
              simp only [hop, resolve, hcf, e1, e2, Deferred.ofValue, Sem.run_bind, Sem.run_pure, Result.andThen_ok, invoke]
              rw [hcalls g (List.contains_iff_mem.1 hmem)]
              simp
            unfold Oper.wp Oper.upon
            rw [hrun]
            rw [← hargs]
            exact after st' β' ρ' V' hp' hr' hw g _ hD'
          · exact hD'.elim
        · exact hD'.elim
      · simp at hg
    · rename_i t0 hf0 _
      obtain ⟨st', t, hg, hfree, β', ρ', V', hp', hr', hD'⟩ := pubT_sound _ _ _ _ ⟨β, ρ, V, hp, hr, hD⟩
      split at hg
      · rename_i t1 ts hf1 hts
        simp only [Option.some.injEq] at hg; subst hg
        simp only at hD'
        unfold bind at hD'
        split at hD'
        · rename_i hw
          simp only [D] at hD'
          obtain ⟨g, first, caps, hfv, hmem, hD'⟩ := hD'
          simp only [T.firstBox, Option.or_eq_none_iff] at hfree
          rw [(T.ev_free (β := id) (β' := β') (ρ := ρ') t1 hfree.1).1] at hfv
          have e1 : a.eval f = .func (.func g) first caps := (opT_ev hr' hf1).trans hfv
          have e2 : c.args.map a.eval = (ts.map (·.ev ρ' β')).toArray := by apply Array.ext'; rw [Array.toList_map, opTs_ev hr' hts]
          have hev := (T.ev_free (β := id) (β' := β') (ρ := ρ') (T.ofList ts) hfree.2).2
          have hrun : (execOp a.eval o).run P w = .ok (.enter g (first ++ (ts.map (·.ev ρ' β')).toArray ++ caps)) w := by
            unfold execOp
            simp only [hop, resolve, hcf, e1, e2, Deferred.ofValue, Sem.run_bind, Sem.run_pure, Result.andThen_ok, invoke]
            rw [hmem]
          unfold Oper.wp Oper.upon
          rw [hrun]
          rw [hev, evs_ofList] at hD'
          exact after st' β' ρ' V' hp' hr' hw g _ hD'
        · exact hD'.elim
      · simp at hg
    · exact hD.elim
end
end Go.Sx
namespace Go.Sx
open Go
section
variable {P : Program} {R : Ending → Mem → Prop} {O V0 : Mem} {w0 : World} {N : Nat} {L : List (List Value → Mem → Prop)} {ρ0 : List Value} {fs : List Nat} {H : Hint}
variable {a : Act} {w : World} {st : St} {o : Oper} {k : St → Tr} {next : Act → World → Prop} {Q : Exit → Act → World → Prop}

theorem wp_value {v : Value} {w' : World} (h : (execOp a.eval o).run P w = .ok (.value v) w') (hn : next (a.put o.dst v) w') : o.wp P a w next Q := by
  unfold Oper.wp; rw [h]; exact hn
theorem wp_skip' {w' : World} (h : (execOp a.eval o).run P w = .ok .skip w') (hn : next (a.put o.dst undef) w') : o.wp P a w next Q := by
  unfold Oper.wp; rw [h]; exact hn
theorem put_defers (a : Act) (d : Option Nat) (v : Value) : (a.put d v).defers = a.defers := by cases d <;> rfl

theorem exGen_sound (hd : dstOk N o.dst = true)
    (h : Goes P R O V0 w0 N L ρ0 a.tmps w st (exGen P st o k))
    (hk : ∀ st' a' w', (∃ v, a' = a.put o.dst v) → Goes P R O V0 w0 N L ρ0 a'.tmps w' st' (k st') → next a' w') : o.wp P a w next Q := by
  obtain ⟨β, ρ, V, hp, hr, hD⟩ := h
  unfold exGen at hD
  simp only at hD
  split at hD
  · exact hD.elim
  · rename_i hsel
    have hsel' : isSelect o.op = false := by simpa using hsel
    split at hD
    · obtain ⟨st', t, hg, hfree, β', ρ', V', hp', hr', hD'⟩ := pubT_sound _ _ _ _ ⟨β, ρ, V, hp, hr, hD⟩
      simp only [D] at hD'
      obtain ⟨w', V'', h1, h2, h3⟩ := hD' w hr'.frm.le
      rw [← execOp_gval hr' hsel' hg hfree] at h1
      refine wp_skip' h1 (hk _ _ _ ⟨_, rfl⟩ ⟨β', ρ', V'', hp'.putO _ _, ?_, h3⟩)
      exact (hr'.frame h2).putO hd .und rfl
    · split at hD
      · exact hD.elim
      · rename_i rs hrs
        obtain ⟨st', t, hg, hfree, β', ρ', V', hp', hr', hD'⟩ := pubT_sound _ _ _ _ ⟨β, ρ, V, hp, hr, hD⟩
        unfold bind at hD'
        split at hD'
        · rename_i hw
          simp only [D] at hD'
          obtain ⟨x, w', V'', vs, h1, h2, rfl, h3, h4⟩ := hD' w hr'.frm.le
          rw [← execOp_gval hr' hsel' hg hfree] at h1
          refine wp_value h1 (hk _ _ _ ⟨_, rfl⟩ ⟨β', ρ' ++ vs, V'', (hp'.more _ _).putO _ _, ?_, h4⟩)
          have hl : vs.length = rkSize rs := h3.length
          have h5 := (hr'.frame h2).bind hw vs
          rw [hl] at h5
          exact h5.putO hd _ (by rw [← hr'.nv]; exact (rk_val rs vs ρ' h3).symm)
        · exact hD'.elim

theorem splitP_ev {p b i : T} {sz off : Nat} {e : Option Nat} {ρ : List Value} {β : Nat → Nat} (h : splitP p = (b, i, sz, off, e)) (hp : p.kind = some .p) :
    match e with
    | some _ => asP (p.ev ρ β) = ptrAdd (ptrAdd (asP (b.ev ρ β)) ((asI (i.ev ρ β)).toNat * sz)) off
    | none => asP (p.ev ρ β) = ptrAdd (asP (b.ev ρ β)) ((asI (i.ev ρ β)).toNat * sz) := by
  unfold splitP at h
  split at h
  · cases h; simp only [T.ev, U.ev, B.ev, asP]
  · cases h
    simp only [T.ev, B.ev, asP, ptrAdd_add, Nat.add_zero]
  · cases h; simp only [T.ev, U.ev, asP, asI, Int.toNat_natCast, Nat.mul_one]
  · cases h
    simp only [T.ev, asI, Int.toNat_zero, Nat.zero_mul]
    cases asP (p.ev ρ β) <;> simp [ptrAdd, Addr.add_zero']

theorem exLoad_sound {t : TypeId} {x : Operand} (hop : o.op = .load t x) (hd : dstOk N o.dst = true)
    (h : Goes P R O V0 w0 N L ρ0 a.tmps w st (exLoad P st o.dst t x k))
    (hk : ∀ st' a' w', (∃ v, a' = a.put o.dst v) → Goes P R O V0 w0 N L ρ0 a'.tmps w' st' (k st') → next a' w') : o.wp P a w next Q := by
  obtain ⟨β, ρ, V, hp, hr, hD⟩ := h
  unfold exLoad at hD
  obtain ⟨st', p, hg, hfree, β', ρ', V', hp', hr', hD'⟩ := pubT_sound _ _ _ _ ⟨β, ρ, V, hp, hr, hD⟩
  have hx : a.eval x = p.ev ρ' β' := opT_ev hr' hg
  have hfr : ∀ {b i sz off e}, splitP p = (b, i, sz, off, e) → b.firstBox = none ∧ i.firstBox = none := by
    intro b i sz off e hs
    unfold splitP at hs
    split at hs <;> cases hs <;> simp_all [T.firstBox]
  -- loading, out of cells that are there
  have go : ∀ (q : Addr) (ks : List K) (vs : List Value) (off : Nat) (z : T), asP (p.ev ρ' β') = some (q.add off) → p.kind = some .p → Shaped ks vs → st'.wf = true →
      (∀ j v, vs[j]? = some v → w.cell? (q.add j) = some v) → partT P t (T.ofList (vars ks st'.nv)) off = some z → D P R (k ((st'.more ks.length).putO o.dst z)) L (ρ' ++ vs) V' → o.wp P a w next Q := by
    intro q ks vs off z hq hpk hsh hw hc hz hD2
    have hl : vs.length = ks.length := hsh.length
    have hrb := hr'.bind hw vs
    rw [hl] at hrb
    have hev : (T.ofList (vars ks st'.nv)).evs (ρ' ++ vs) β' = vs := by
      rw [evs_ofList, ← hr'.nv]
      have := vars_ev (β := β') ks vs ρ' [] hsh
      rwa [List.append_nil] at this
    have hrun := run_load_part (P := P) (w := w) (ρ := ρ' ++ vs) (β := β') (b := q) (by rw [hev]; exact hc) hz
    obtain ⟨p', hpe⟩ := kind_p (ρ := ρ') (β := β') hpk
    rw [hpe] at hq
    simp only [asP] at hq; subst hq
    refine wp_value (v := z.ev (ρ' ++ vs) β') ?_ (hk _ _ _ ⟨_, rfl⟩ ⟨β', ρ' ++ vs, V', (hp'.more _ _).putO _ _, hrb.putO hd z rfl, hD2⟩)
    unfold execOp
    simp only [hop, hx, hpe, Instr.loadAt, Instr.sureAddr, Sem.run_bind, Sem.run_pure, Result.andThen_ok, hrun]
  split at hD'
  case isFalse => exact hD'.elim
  rename_i hpk
  split at hD'
  · rename_i b i sz off e hs
    obtain ⟨hb, hi⟩ := hfr hs
    split at hD'
    · rename_i ks hks
      split at hD'
      · rename_i hlen
        unfold bind at hD'
        split at hD'
        · rename_i hw
          split at hD'
          · rename_i z hz
            simp only [D] at hD'
            obtain ⟨vs, h1, h2, h3⟩ := hD'
            have he := splitP_ev (ρ := ρ') (β := β') hs hpk
            simp only at he
            rw [(T.ev_free (β := id) (β' := β') (ρ := ρ') b hb).1, (T.ev_free (β := id) (β' := β') (ρ := ρ') i hi).1] at h1
            cases hq : asP (b.ev ρ' β') with
            | none => simp [hq, Mem.rowp] at h1
            | some q =>
              simp only [hq, Mem.rowp] at h1
              obtain ⟨_, h4⟩ := row_cell hr'.frm.le h1
              rw [hq] at he
              simp only [ptrAdd, Option.map_some] at he
              rw [← hlen] at h3
              exact go _ ks vs off z he hpk h2 hw h4 hz h3
          · exact hD'.elim
        · exact hD'.elim
      · exact hD'.elim
    · exact hD'.elim
  · rename_i b i sz off hs
    obtain ⟨hb, hi⟩ := hfr hs
    split at hD'
    · rename_i ks hks
      unfold bind at hD'
      split at hD'
      · rename_i hw
        split at hD'
        · rename_i z hz
          simp only [D] at hD'
          obtain ⟨vs, h1, h2, h3⟩ := hD'
          have he := splitP_ev (ρ := ρ') (β := β') hs hpk
          simp only at he
          rw [(T.ev_free (β := id) (β' := β') (ρ := ρ') b hb).1, (T.ev_free (β := id) (β' := β') (ρ := ρ') i hi).1] at h1
          cases hq : asP (b.ev ρ' β') with
          | none => simp [hq, Mem.rowp] at h1
          | some q =>
            simp only [hq, Mem.rowp] at h1
            obtain ⟨_, h4⟩ := row_cell hr'.frm.le h1
            rw [hq] at he
            simp only [ptrAdd, Option.map_some] at he
            exact go _ ks vs 0 z (by rw [he, Addr.add_zero']) hpk h2 hw h4 hz h3
        · exact hD'.elim
      · exact hD'.elim
    · exact hD'.elim
end
end Go.Sx
namespace Go.Sx
open Go
section
variable {P : Program} {R : Ending → Mem → Prop} {O V0 : Mem} {w0 : World} {N : Nat} {L : List (List Value → Mem → Prop)} {ρ0 : List Value} {fs : List Nat} {H : Hint}
variable {a : Act} {w : World} {st : St} {o : Oper} {k : St → Tr} {next : Act → World → Prop} {Q : Exit → Act → World → Prop}

theorem run_storeVar_at {t : TypeId} {n g off : Nat} {v : Value} {vs : List Value} {cur : Array Value} {ty : TypeId} (hs : sizeOfT P t = some n) (hv : v.cells.toList = vs) (hn : vs.length = n)
    (hg : w.heap[g]? = some (.cells cur ty (0, 0))) (hl : off + n ≤ cur.size) (h1 : ∀ x ∈ vs, oneCell x = true) :
    (storeVar t ⟨g, off, none⟩ v).run P w = .ok () (w.setRow g (cur.toList.take off ++ vs ++ cur.toList.drop (off + n)).toArray) := by
  have hsz : v.cells.size = n := by rw [← hn, ← hv]; simp
  have := run_storeCells_at (P := P) g off ty vs 0 cur w hg (by omega) (fun x hx => by rw [oneCell_eq]; exact h1 x hx)
  simp only [storeVar, Sem.run_bind, run_sizeOfT hs, Result.andThen_ok, hsz, ne_eq, not_true_eq_false, if_false, hv, this]
  simp [hn]

theorem kinds_one {t : T} {ρ : List Value} {β : Nat → Nat} (h : (kindsT t).isSome = true) : ∀ x ∈ t.evs ρ β, oneCell x = true := by
  obtain ⟨ks, hk⟩ := Option.isSome_iff_exists.1 h
  exact (shaped_kinds (ρ := ρ) (β := β) t ks hk).one

theorem exStore_sound {t : TypeId} {x y : Operand} (hop : o.op = .store t x y) (hdst : o.dst = none)
    (h : Goes P R O V0 w0 N L ρ0 a.tmps w st (exStore st t (sizeOfT P t) x y k))
    (hk : ∀ st' a' w', (∃ v, a' = a.put o.dst v) → Goes P R O V0 w0 N L ρ0 a'.tmps w' st' (k st') → next a' w') : o.wp P a w next Q := by
  obtain ⟨β, ρ, V, hp, hr, hD⟩ := h
  have hput : ∀ v, (a.put o.dst v) = a := by rw [hdst]; intro v; rfl
  unfold exStore at hD
  split at hD
  · rename_i i off v n hx hy hs
    split at hD
    · rename_i cs ty hb
      split at hD
      · rename_i hc
        obtain ⟨h1, h2, h3, h4⟩ := hc
        have hB := (hr.boxes i cs ty hb).1
        have e1 : a.eval x = .pointer (some ⟨β i, off, none⟩) := opT_ev hr hx
        have e2 : a.eval y = v.ev ρ β := opT_ev hr hy
        have hcells := cellsT_ev (ρ := ρ) (β := β) h3
        have hlen : (v.cellsT.evs ρ β).length = n := by rw [evs_toList]; simpa using h1
        have hrun := run_storeVar_at (P := P) hs hcells hlen hB (by rw [List.size_toArray, evs_toList]; simpa using h2) (kinds_one h3)
        have e3 : ((cs.evs ρ β).toArray.toList.take off ++ v.cellsT.evs ρ β ++ (cs.evs ρ β).toArray.toList.drop (off + n)) = (T.ofList (cs.toList.take off ++ v.cellsT.toList ++ cs.toList.drop (off + n))).evs ρ β := by
          rw [evs_ofList]; simp [evs_toList, List.map_take, List.map_drop]
        rw [e3] at hrun
        refine wp_skip' (w' := w.setRow (β i) ((T.ofList (cs.toList.take off ++ v.cellsT.toList ++ cs.toList.drop (off + n))).evs ρ β).toArray) ?_ (hk _ _ _ ⟨_, rfl⟩ ⟨β, ρ, V, hp.setBox _ _ _, ?_, hD⟩)
        · unfold execOp
          simp only [hop, e1, e2, Instr.storeAt, Instr.sureAddr, Sem.run_bind, Sem.run_pure, Result.andThen_ok, hrun]
        · rw [hput]; exact hr.setBox hb
      · exact hD.elim
    · exact hD.elim
  · rename_i n _ _ _ hs
    obtain ⟨st', q, hg, hfree, β', ρ', V', hp', hr', hD'⟩ := pubT_sound _ _ _ _ ⟨β, ρ, V, hp, hr, hD⟩
    split at hg
    · rename_i p v hx hy
      simp only [Option.some.injEq] at hg; subst hg
      simp only at hD'
      split at hD'
      · rename_i hc
        obtain ⟨h1, h2, h3, h4⟩ := hc
        simp only [T.firstBox, Option.or_eq_none_iff] at hfree
        simp only [D] at hD'
        obtain ⟨b, c, ty, g1, g2, g3, g4, g5⟩ := hD'
        rw [(T.ev_free (β := id) (β' := β') (ρ := ρ') p hfree.1).1] at g1
        rw [(T.ev_free (β := id) (β' := β') (ρ := ρ') _ hfree.2).2] at g4 g5
        obtain ⟨p', hpe⟩ := kind_p (ρ := ρ') (β := β') h1
        rw [hpe] at g1
        simp only [asP] at g1; subst g1
        have e1 : a.eval x = .pointer (some b) := (opT_ev hr' hx).trans hpe
        have e2 : a.eval y = v.ev ρ' β' := opT_ev hr' hy
        have hcells := cellsT_ev (ρ := ρ') (β := β') h3
        have hlen : (v.cellsT.evs ρ' β').length = n := by rw [evs_toList]; simpa using h2
        have hb : b = ⟨b.block, b.off, none⟩ := by cases b; simp only at g3; subst g3; rfl
        have hB := hr'.frm.le _ _ g2
        simp only [Nat.add_zero, hlen] at g4 g5
        have hrun := run_storeVar_at (P := P) (off := b.off) hs hcells hlen hB g4 (kinds_one h3)
        rw [← hb] at hrun
        refine wp_skip' (w' := w.setRow b.block (c.toList.take b.off ++ v.cellsT.evs ρ' β' ++ c.toList.drop (b.off + n)).toArray) ?_ (hk _ _ _ ⟨_, rfl⟩ ⟨β', ρ', _, hp', ?_, g5⟩)
        · unfold execOp
          simp only [hop, e1, e2, Instr.storeAt, Instr.sureAddr, Sem.run_bind, Sem.run_pure, Result.andThen_ok, hrun]
        · rw [hput]
          refine hr'.frame ⟨by rw [setRow_size]; exact Nat.le_refl _, fun i obj hi => ?_, fun i hi hV => ?_, fun i hi => ?_, rfl, rfl⟩
          · by_cases e : i = b.block
            · subst e; rw [Mem.set_same] at hi; cases hi; exact setRow_heap w _ _ _ ty (0, 0) hB
            · rw [Mem.set_ne e] at hi; rw [setRow_other w _ _ e]; exact hr'.frm.le i obj hi
          · rw [setRow_other w _ _ (fun e => by subst e; rw [g2] at hV; cases hV)]
          · by_cases e : i = b.block
            · subst e; exact .inl (by simp [g2])
            · rw [Mem.set_ne e] at hi; exact .inl hi
      · exact hD'.elim
    · simp at hg
  · exact hD.elim

theorem exAlloc_sound {cs : T} {ty : Nat} {v : Nat → T} {x : Nat → Value} (hd : dstOk N o.dst = true)
    {β : Nat → Nat} {ρ : List Value} {V : Mem} (hp : Pre ρ0 L ρ st) (hr : Rel O V0 w0 N β st ρ V a.tmps w) (hD : D P R (exAlloc H st o.dst cs ty v k) L ρ V)
    (hrun : (execOp a.eval o).run P w = .ok (.value (x w.heap.size)) (w.alloc (.cells (cs.evs ρ β).toArray ty (0, 0))))
    (hv : ∀ β' : Nat → Nat, (v st.nb).ev ρ β' = x (β' st.nb))
    (hk : ∀ st' a' w', (∃ v, a' = a.put o.dst v) → Goes P R O V0 w0 N L ρ0 a'.tmps w' st' (k st') → next a' w') : o.wp P a w next Q := by
  unfold exAlloc at hD
  split at hD
  · rename_i hw
    simp only [Bool.and_eq_true] at hw
    have hr2 := hr.alloc hw.1 hw.2 ty
    have hx : x w.heap.size = (v st.nb).ev ρ (upd β st.nb w.heap.size) := by rw [hv]; simp [upd]
    have hp3 : Pre ρ0 L ρ (({ st with boxes := (st.nb, cs, ty) :: st.boxes, nb := st.nb + 1 } : St).putO o.dst (v st.nb)) :=
      Pre.putO (st := { st with boxes := (st.nb, cs, ty) :: st.boxes, nb := st.nb + 1 }) ⟨hp.1, hp.2⟩ _ _
    have hr3 := hr2.putO hd (v st.nb) hx
    refine wp_value hrun ?_
    simp only at hD
    split at hD
    · rename_i d hdst
      split at hD
      · obtain ⟨st', h'⟩ := pubBox_sound _ _ _ _ ⟨_, _, _, hp3, hr3, by simpa [hdst] using hD⟩
        exact hk _ _ _ ⟨_, rfl⟩ h'
      · exact hk _ _ _ ⟨_, rfl⟩ ⟨_, _, _, hp3, hr3, by simpa [hdst] using hD⟩
    · rename_i hdst
      exact hk _ _ _ ⟨_, rfl⟩ ⟨_, _, _, hp3, hr3, by simpa [hdst] using hD⟩
  · exact hD.elim

theorem zeroCells_ev {t : TypeId} {cs : List T} {ρ : List Value} {β : Nat → Nat} (h : zeroCellsT P t = some cs) : ∃ z, zeroOf P t = some z ∧ z.cells.toList = cs.map (·.ev ρ β) := by
  unfold zeroCellsT at h
  cases hz : zeroOf P t with
  | none => simp [hz] at h
  | some z => simp only [hz, Option.bind_some] at h; exact ⟨z, rfl, (scalTs_ev h).symm⟩

theorem mod_cells (zs : List Value) (m : Nat) (h : zs.length = m + 1) : ∀ n, (Array.range (n * (m + 1))).map (fun i => (zs.toArray[i % zs.toArray.size]!)) = (List.replicate n zs).flatten.toArray := by
  intro n
  apply Array.ext'
  simp only [Array.toList_map, Array.toList_range, List.size_toArray, h]
  apply List.ext_getElem?
  intro i
  rw [List.getElem?_map]
  induction n generalizing i with
  | zero => simp
  | succ n ih =>
    by_cases hi : i < n * (m + 1)
    · have h1 := ih i
      have e : (List.replicate (n + 1) zs).flatten = (List.replicate n zs).flatten ++ zs := by
        rw [show n + 1 = n + 1 from rfl, List.replicate_succ', List.flatten_append]; simp
      have hl : ((List.replicate n zs).flatten).length = n * (m + 1) := by simp [h]
      rw [e, List.getElem?_append_left (by omega), ← h1]
      simp [hi, show i < (n + 1) * (m + 1) by rw [Nat.succ_mul]; omega]
    · have e : (List.replicate (n + 1) zs).flatten = (List.replicate n zs).flatten ++ zs := by
        rw [show n + 1 = n + 1 from rfl, List.replicate_succ', List.flatten_append]; simp
      have hl : ((List.replicate n zs).flatten).length = n * (m + 1) := by simp [h]
      rw [e, List.getElem?_append_right (by omega), hl]
      by_cases h2 : i < (n + 1) * (m + 1)
      · have h3 : i - n * (m + 1) < m + 1 := by rw [Nat.succ_mul] at h2; omega
        have h4 : i % (m + 1) = i - n * (m + 1) := by
          have : i = (i - n * (m + 1)) + n * (m + 1) := by omega
          rw [this, Nat.add_mul_mod_self_right, Nat.mod_eq_of_lt h3]; omega
        have h5 : i - n * (m + 1) < zs.length := by omega
        simp [h2, h4, h5]
      · have : ¬ i - n * (m + 1) < zs.length := by rw [Nat.succ_mul] at h2; omega
        simp [h2, List.getElem?_eq_none (Nat.le_of_not_lt this)]
end
end Go.Sx
namespace Go.Sx
open Go
section
variable {P : Program} {R : Ending → Mem → Prop} {O V0 : Mem} {w0 : World} {L : List (List Value → Mem → Prop)} {ρ0 : List Value} {fs : List Nat} {H : Hint}

theorem exOp_sound (hcalls : CallsOk P fs) {a : Act} {w : World} {st : St} {o : Oper} {k : St → Tr} {next : Act → World → Prop} {Q : Exit → Act → World → Prop}
    (h : Goes P R O V0 w0 H.N L ρ0 a.tmps w st (exOp P fs H st o k))
    (hk : ∀ st' a' w', (∃ v, a' = a.put o.dst v) → Goes P R O V0 w0 H.N L ρ0 a'.tmps w' st' (k st') → next a' w') : o.wp P a w next Q := by
  obtain ⟨β, ρ, V, hp, hr, hD⟩ := h
  unfold exOp at hD
  split at hD
  case isFalse => exact hD.elim
  rename_i hd
  split at hD
  · rename_i ns t hpu
    obtain ⟨h1, h2⟩ := needs_sound hD β
    exact wp_value (pur_sound hr hpu h1) (hk _ _ _ ⟨_, rfl⟩ ⟨β, ρ, V, hp.putO _ _, hr.putO hd t rfl, h2⟩)
  · split at hD
    · rename_i e x hop
      split at hD
      · rename_i v hx
        split at hD
        · rename_i hks
          have hcells := cellsT_ev (ρ := ρ) (β := β) hks
          refine exAlloc_sound (x := fun b => .pointer (some ⟨b, 0, none⟩)) hd hp hr hD ?_ (fun _ => rfl) hk
          unfold execOp
          simp only [hop, Instr.box, newVar, newRow, Sem.run_bind, run_newObj, Sem.run_pure, Result.andThen_ok, opT_ev hr hx, ← hcells, Array.toArray_toList]
          rfl
        · exact hD.elim
      · exact hD.elim
    · rename_i e hop
      split at hD
      · rename_i cs hz
        obtain ⟨z, h1, h2⟩ := zeroCells_ev (ρ := ρ) (β := β) hz
        refine exAlloc_sound (x := fun b => .pointer (some ⟨b, 0, none⟩)) hd hp hr hD ?_ (fun _ => rfl) hk
        unfold execOp
        simp only [hop, Instr.alloc, run_zeroOf h1, newVar, newRow, Sem.run_bind, run_newObj, Sem.run_pure, Result.andThen_ok, evs_ofList, ← h2, Array.toArray_toList]
        rfl
      · exact hD.elim
    · rename_i t n parts hop
      split at hD
      · rename_i e hu
        split at hD
        · rename_i sz z ps hs hz hpt
          split at hD
          · rename_i cs hf
            split at hD
            · rename_i hc
              obtain ⟨zv, h1, h2⟩ := zeroCells_ev (ρ := ρ) (β := β) hz
              have h3 := fillT_ev (ρ := ρ) (β := β) hf
              refine exAlloc_sound (x := fun b => .slice (some ⟨b, 0, none⟩) n n) hd hp hr hD ?_ (fun β' => by simp [T.ev, C.ev, asP, asI]) hk
              have hps : (parts.map fun (i, x) => (i, a.eval x)).toList = ps.map (fun x => (x.1, x.2.ev ρ β)) := by rw [← partsT_ev hr hpt, Array.toList_map]
              unfold execOp
              have hsmall : ¬ n * (sz + 1) > 2 ^ 24 := by omega
              have hzl : zv.cells = (z.map (·.ev ρ β)).toArray := by rw [← h2, Array.toArray_toList]
              have hrep : (List.replicate n z).flatten.map (·.ev ρ β) = (List.replicate n (z.map (·.ev ρ β))).flatten := by simp [List.map_flatten]
              rw [hrep] at h3
              have hmod := mod_cells (z.map (·.ev ρ β)) sz (by simpa using hc.2) n
              by_cases h0 : n * (sz + 1) = 0
              · obtain rfl : n = 0 := by rcases Nat.mul_eq_zero.1 h0 with h | h; exact h; omega
                simp only [List.replicate_zero, List.flatten_nil] at h3
                have e0 : Array.range (0 * (sz + 1)) = #[] := by simp
                simp only [hop, Instr.buildSlice, run_underlying hu, run_sizeOfT hs, Sem.run_bind, Result.andThen_ok, hps, if_neg hsmall, if_pos h0, Sem.run_pure, e0, Array.map_empty, h3]
                simp [evs_ofList, newRow]
              · simp only [hop, Instr.buildSlice, run_underlying hu, run_sizeOfT hs, Sem.run_bind, Result.andThen_ok, hps, if_neg hsmall, if_neg h0, run_zeroOf h1, Sem.run_pure, hzl, hmod, h3]
                simp [evs_ofList, newRow]
            · exact hD.elim
          · exact hD.elim
        · exact hD.elim
      · exact hD.elim
    · rename_i t x hop
      exact exLoad_sound hop hd ⟨β, ρ, V, hp, hr, hD⟩ hk
    · rename_i t x y hop
      split at hD
      · rename_i hdst
        exact exStore_sound hop hdst ⟨β, ρ, V, hp, hr, hD⟩ hk
      · exact hD.elim
    · rename_i c hop
      split at hD
      · rename_i f hcf
        exact exCall_sound hcalls hop hcf hd ⟨β, ρ, V, hp, hr, hD⟩ hk
      · exact exGen_sound hd ⟨β, ρ, V, hp, hr, hD⟩ hk
      · exact hD.elim
    · exact exGen_sound hd ⟨β, ρ, V, hp, hr, hD⟩ hk

theorem Rel.getD_size {O V0 : Mem} {w0 : World} {N : Nat} {β : Nat → Nat} {st : St} {ρ : List Value} {V : Mem} {tmps : Array Value} {w : World} (hr : Rel O V0 w0 N β st ρ V tmps w) {d : Nat} {t : T} (hd : st.get d = some t) :
    tmps.getD d undef = t.ev ρ β := hr.slots d t hd
theorem yielded_at {all : Array Oper} {tmps : Array Value} {j d : Nat} (hj : (all[j]?).bind (·.dst) = some d) : yielded all tmps j = match tmps.getD d undef with | .bool b => some b | _ => none := by
  unfold yielded
  rw [hj]
  by_cases h : d < tmps.size
  · simp only [Option.bind_some, Array.getD, h, dif_pos, getElem?_pos]
    show _ = match tmps[d] with | .bool b => some b | _ => none
    generalize tmps[d] = v
    cases v <;> rfl
  · simp only [Option.bind_some, Array.getD, h, dif_neg, not_false_eq_true]
    rw [getElem?_neg tmps d h]
    rfl

theorem exOps_sound (hcalls : CallsOk P fs) {all : Array Oper} {k : St → Tr} {Q : Exit → Act → World → Prop} : ∀ (l : List Oper) (st : St) (a : Act) (w : World),
    Goes P R O V0 w0 H.N L ρ0 a.tmps w st (exOps P fs H all l st k) →
    (∀ st' a' w', a'.defers = a.defers → Goes P R O V0 w0 H.N L ρ0 a'.tmps w' st' (k st') → Q .normal a' w') → wpList P all Q l a w
  | [], st, a, w, ⟨β, ρ, V, hp, hr, hD⟩, hk => hk _ a w rfl ⟨β, ρ, V, hp.compact _, hr.compact _, hD⟩
  | o :: rest, st, a, w, h, hk => by
    have yes : ∀ st, Region.wanted o (yielded all a.tmps) = true → Goes P R O V0 w0 H.N L ρ0 a.tmps w st (exOp P fs H st o fun st => exOps P fs H all rest st k) → wpList P all Q (o :: rest) a w := by
      intro st hw hg
      unfold wpList
      rw [if_pos hw]
      refine .inl (exOp_sound hcalls hg fun st' a' w' hd0 hg' => ?_)
      have hd' : a'.defers = a.defers := by obtain ⟨v, rfl⟩ := hd0; exact put_defers _ _ _
      exact exOps_sound hcalls rest st' a' w' hg' fun st'' a'' w'' h1 h2 => hk st'' a'' w'' (h1.trans hd') h2
    have no : ∀ st, Region.wanted o (yielded all a.tmps) = false → Goes P R O V0 w0 H.N L ρ0 a.tmps w st (if dstOk H.N o.dst then exOps P fs H all rest (st.putO o.dst .und) k else .bad 35 0) → wpList P all Q (o :: rest) a w := by
      intro st hw hg
      unfold wpList
      rw [if_neg (by rw [hw]; simp)]
      obtain ⟨β, ρ, V, hp, hr, hD⟩ := hg
      split at hD
      · rename_i hd
        refine exOps_sound hcalls rest _ _ w ⟨β, ρ, V, hp.putO _ _, hr.putO hd .und rfl, hD⟩ fun st'' a'' w'' h1 h2 => hk st'' a'' w'' (h1.trans (put_defers _ _ _)) h2
      · exact hD.elim
    simp only [exOps] at h
    split at h
    · rename_i hg
      exact yes st (by simp [Region.wanted, hg]) h
    · rename_i j want hg
      split at h
      · obtain ⟨β, ρ, V, hp, hr, hD⟩ := h; exact hD.elim
      · rename_i d hj
        have hy := yielded_at (tmps := a.tmps) hj
        have hwant : Region.wanted o (yielded all a.tmps) = (yielded all a.tmps j == some want) := by simp [Region.wanted, hg]
        obtain ⟨β, ρ, V, hp, hr, hD⟩ := h
        split at hD
        · rename_i v hv
          rw [hr.getD_size hv] at hy
          simp only [T.ev] at hy
          split at hD
          · rename_i e; subst e; exact yes st (by rw [hwant, hy]; simp) ⟨β, ρ, V, hp, hr, hD⟩
          · rename_i e; exact no st (by rw [hwant, hy]; simpa using e) ⟨β, ρ, V, hp, hr, hD⟩
        · rename_i hv
          rw [hr.getD_size hv] at hy
          have : yielded all a.tmps j = none := by rw [hy]; rfl
          exact no st (by rw [hwant, this]; rfl) ⟨β, ρ, V, hp, hr, hD⟩
        · rename_i c _ _ hv
          split at hD
          · rename_i hc
            obtain ⟨hc1, hc2, hc3⟩ := hc
            obtain ⟨b, hb⟩ := kind_b (ρ := ρ) (β := β) hc1
            rw [hr.getD_size hv, hb] at hy
            simp only at hy
            simp only [D] at hD
            have hfr := (T.ev_free (β := id) (β' := β) (ρ := ρ) c hc2).1
            have hlearn : Rel O V0 w0 H.N β (st.now d (.bool b)) ρ V a.tmps w := hr.now hv (by rw [hb]; rfl)
            cases b with
            | true =>
              have hD' := hD.1 (by rw [hfr, hb]; rfl)
              split at hD'
              · rename_i e; exact yes _ (by rw [hwant, hy, e]; rfl) ⟨β, ρ, V, hp.now _ _, hlearn, hD'⟩
              · rename_i e; exact no _ (by rw [hwant, hy]; simpa using e) ⟨β, ρ, V, hp.now _ _, hlearn, hD'⟩
            | false =>
              have hD' := hD.2 (by rw [hfr, hb]; rfl)
              split at hD'
              · rename_i e; exact no _ (by rw [hwant, hy, e]; rfl) ⟨β, ρ, V, hp.now _ _, hlearn, hD'⟩
              · rename_i e; exact yes _ (by rw [hwant, hy]; simpa using e) ⟨β, ρ, V, hp.now _ _, hlearn, hD'⟩
          · exact hD.elim
        · exact hD.elim
end
end Go.Sx
namespace Go.Sx
open Go
section
variable {P : Program} {R : Ending → Mem → Prop} {O V0 : Mem} {w0 : World} {N : Nat} {β : Nat → Nat} {ρ : List Value} {V : Mem} {w : World} {tmps : Array Value}

theorem shaped_map {ρ : List Value} {β : Nat → Nat} {t : T} {ks : List K} (h : kindsT t = some ks) : Shaped ks (t.toList.map (·.ev ρ β)) := by
  rw [← evs_toList]; exact shaped_kinds t ks h

theorem genSlots_sound : ∀ (ws : List Nat) (st1 : St) (ρ1 : List Value), ρ1.length = st1.nv → ∀ (st' : St) (ρ2 : List Value) (β : Nat → Nat) (ts : List T), backSlots st' (genSlots ws st1).2 = some ts →
    (∀ s t, st'.get s = some t → tmps.getD s undef = t.ev ρ2 β) →
    Shaped ((genSlots ws st1).2.flatMap (·.2.2)) (ts.map (·.ev ρ2 β)) ∧ (genSlots ws st1).1.nv = st1.nv + ts.length ∧
    (genSlots ws st1).1.boxes = st1.boxes ∧ (genSlots ws st1).1.nb = st1.nb ∧ (genSlots ws st1).1.depth = st1.depth ∧
    ∀ s t, (genSlots ws st1).1.get s = some t → (s ∉ ws ∧ st1.get s = some t) ∨ (s ∈ ws ∧ tmps.getD s undef = t.ev (ρ1 ++ ts.map (·.ev ρ2 β)) β)
  | [], st1, ρ1, h1, st', ρ2, β, ts, hb, hs => by
    simp only [genSlots, backSlots, Option.some.injEq] at hb
    subst hb
    exact ⟨trivial, by simp [genSlots], rfl, rfl, rfl, fun s t hg => .inl ⟨by simp, hg⟩⟩
  | s0 :: ws, st1, ρ1, h1, st', ρ2, β, ts, hb, hs => by
    cases hm : ((st1.get s0).bind fun t => (genKinds t).map fun ks => (isAggT t, ks)) with
    | some p =>
      obtain ⟨b, ks⟩ := p
      simp only [genSlots, hm] at hb ⊢
      simp only [backSlots] at hb
      split at hb
      · rename_i t' ts' hg' hb'
        split at hb
        · rename_i hc
          obtain ⟨hc1, hc2⟩ := hc
          simp only [Option.some.injEq] at hb; subst hb
          have hsh : Shaped ks (t'.cellsT.toList.map (·.ev ρ2 β)) := shaped_map hc2
          have hlen : (t'.cellsT.toList.map (·.ev ρ2 β)).length = ks.length := hsh.length
          obtain ⟨g1, g2, g3, g4, g5, g6⟩ := genSlots_sound ws ({ st1 with nv := st1.nv + ks.length }.put s0 (genTerm b ks st1.nv)) (ρ1 ++ t'.cellsT.toList.map (·.ev ρ2 β)) (by simp only [List.length_append, hlen, h1]; rfl) st' ρ2 β ts' hb' hs
          refine ⟨?_, ?_, g3, g4, g5, fun s t hg => ?_⟩
          · rw [List.map_append]; exact shaped_append hsh g1
          · rw [g2]; simp only [St.put, List.length_append]; rw [List.length_map] at hlen; omega
          · rcases g6 s t hg with ⟨e1, e2⟩ | ⟨e1, e2⟩
            · rw [get_put] at e2
              split at e2
              · rename_i e; subst e
                right
                refine ⟨List.mem_cons_self, ?_⟩
                split at e2
                · simp at e2
                · simp only [Option.some.injEq] at e2; subst e2
                  rw [hs s t' hg']
                  have hv := vars_ev (β := β) ks (t'.cellsT.toList.map (·.ev ρ2 β)) ρ1 (ts'.map (·.ev ρ2 β)) hsh
                  rw [h1] at hv
                  rw [List.map_append, ← List.append_assoc]
                  unfold genTerm
                  cases b with
                  | true =>
                    simp only [if_true, T.ev, evs_ofList, hv]
                    cases t' <;> simp [isAggT] at hc1
                    simp [T.ev, T.cellsT, evs_toList]
                  | false =>
                    simp only [Bool.false_eq_true, if_false]
                    have hcell : t'.cellsT = .cons t' .nil := by cases t' <;> simp_all [isAggT, T.cellsT]
                    rw [hcell] at hv hsh
                    simp only [T.toList, List.map_cons, List.map_nil] at hv hsh
                    match ks, hsh, hv with
                    | [k], hsh, hv =>
                      simp only [vars, List.map_cons, List.map_nil, List.cons.injEq, and_true] at hv
                      simp only [vars, List.headD_cons, hcell, T.toList, List.map_cons, List.map_nil]
                      exact hv.symm
              · rename_i e
                exact .inl ⟨by simp [e, e1], e2⟩
            · rw [List.map_append, ← List.append_assoc]
              exact .inr ⟨List.mem_cons_of_mem _ e1, e2⟩
        · simp at hb
      · simp at hb
    | none =>
      simp only [genSlots, hm] at hb ⊢
      cases hgs : st1.get s0 with
      | none =>
        simp only [hgs] at hb ⊢
        obtain ⟨g1, g2, g3, g4, g5, g6⟩ := genSlots_sound ws st1 ρ1 h1 st' ρ2 β ts hb hs
        refine ⟨g1, g2, g3, g4, g5, fun s t hg => ?_⟩
        rcases g6 s t hg with ⟨e1, e2⟩ | ⟨e1, e2⟩
        · have e : s ≠ s0 := fun e => by subst e; rw [hgs] at e2; cases e2
          exact .inl ⟨by simp [e, e1], e2⟩
        · exact .inr ⟨List.mem_cons_of_mem _ e1, e2⟩
      | some t0 =>
      simp only [hgs] at hb ⊢
      obtain ⟨g1, g2, g3, g4, g5, g6⟩ := genSlots_sound ws (st1.put s0 .nil) ρ1 h1 st' ρ2 β ts hb hs
      refine ⟨g1, g2, g3, g4, g5, fun s t hg => ?_⟩
      rcases g6 s t hg with ⟨e1, e2⟩ | ⟨e1, e2⟩
      · rw [get_put] at e2
        split at e2
        · simp at e2
        · rename_i e; exact .inl ⟨by simp [e, e1], e2⟩
      · exact .inr ⟨List.mem_cons_of_mem _ e1, e2⟩

theorem box_setBox (st : St) (i j : Nat) (cs : T) (ty : Nat) : (st.setBox i cs ty).box j = if j = i then some (cs, ty) else st.box j := by
  simp only [St.box, St.setBox, List.lookup_cons]
  by_cases h : j = i
  · subst h; simp
  · have : (j == i) = false := by simpa using h
    simp [h, this]

theorem genBoxes_sound : ∀ (hint : List Nat) (st : St) (ρ1 : List Value), ρ1.length = st.nv → ∀ (st1 : St) (bs : List (Nat × Nat × List K)), genBoxes hint st = some (st1, bs) → ∀ (st' : St) (ρ2 : List Value) (β : Nat → Nat) (ts : List T), backBoxes st' bs = some ts →
    Shaped (bs.flatMap (·.2.2)) (ts.map (·.ev ρ2 β)) ∧ st1.nv = st.nv + ts.length ∧ st1.slots = st.slots ∧ st1.nb = st.nb ∧ st1.depth = st.depth ∧
    (∀ i, i ∈ bs.map (·.1) → (st.box i).isSome = true) ∧
    ∀ i cs ty, st1.box i = some (cs, ty) → (i ∉ bs.map (·.1) ∧ st.box i = some (cs, ty)) ∨ (i ∈ bs.map (·.1) ∧ ∃ cs', st'.box i = some (cs', ty) ∧ ∀ σ, cs.evs (ρ1 ++ ts.map (·.ev ρ2 β) ++ σ) β = cs'.evs ρ2 β)
  | [], st, ρ1, h1, st1, bs, hg, st', ρ2, β, ts, hb => by
    simp only [genBoxes, Option.some.injEq, Prod.mk.injEq] at hg
    obtain ⟨rfl, rfl⟩ := hg
    simp only [backBoxes, Option.some.injEq] at hb; subst hb
    exact ⟨trivial, by simp, rfl, rfl, rfl, by simp, fun i cs ty h => .inl ⟨by simp, h⟩⟩
  | s :: hint, st, ρ1, h1, st1, bs, hg, st', ρ2, β, ts, hb => by
    simp only [genBoxes] at hg
    split at hg
    · rename_i i off hs
      split at hg
      · rename_i cs ty hbx
        split at hg
        · rename_i ks hks
          simp only [Option.map_eq_some_iff, Prod.mk.injEq] at hg
          obtain ⟨⟨r1, r2⟩, hr, rfl, rfl⟩ := hg
          simp only [backBoxes] at hb
          split at hb
          · rename_i cs' ty' ts' hb1 hb2
            split at hb
            · rename_i hc
              obtain ⟨rfl, hc2⟩ := hc
              simp only [Option.some.injEq] at hb; subst hb
              have hsh : Shaped ks (cs'.toList.map (·.ev ρ2 β)) := shaped_map hc2
              have hlen : (cs'.toList.map (·.ev ρ2 β)).length = ks.length := hsh.length
              obtain ⟨g1, g2, g3, g4, g5, g7, g6⟩ := genBoxes_sound hint _ (ρ1 ++ cs'.toList.map (·.ev ρ2 β)) (by simp only [List.length_append, hlen, h1]; rfl) _ _ hr st' ρ2 β ts' hb2
              refine ⟨?_, ?_, g3, g4, g5, fun j hj => ?_, fun j cs0 ty0 hj => ?_⟩
              · simp only [List.flatMap_cons, List.map_append]; exact shaped_append hsh g1
              · rw [g2]; simp only [St.setBox, List.length_append]; rw [List.length_map] at hlen; omega
              · simp only [List.map_cons, List.mem_cons] at hj
                rcases hj with rfl | hj
                · simp [hbx]
                · have := g7 j hj
                  rw [box_setBox] at this
                  by_cases e : j = i
                  · subst e; simp [hbx]
                  · rw [if_neg e] at this; exact this
              · rcases g6 j cs0 ty0 hj with ⟨e1, e2⟩ | ⟨e1, cs2, e2, e3⟩
                · rw [box_setBox] at e2
                  split at e2
                  · rename_i e; subst e
                    simp only [Option.some.injEq, Prod.mk.injEq] at e2
                    obtain ⟨rfl, rfl⟩ := e2
                    refine .inr ⟨by simp, cs', hb1, fun σ => ?_⟩
                    have hv := vars_ev (β := β) ks (cs'.toList.map (·.ev ρ2 β)) ρ1 (ts'.map (·.ev ρ2 β) ++ σ) hsh
                    rw [h1] at hv
                    rw [List.map_append, evs_ofList, evs_toList ρ2 β cs']
                    simpa only [List.append_assoc] using hv
                  · rename_i e
                    exact .inl ⟨by simp only [List.map_cons, List.mem_cons, not_or]; exact ⟨e, e1⟩, e2⟩
                · refine .inr ⟨by simp only [List.map_cons, List.mem_cons]; exact .inr e1, cs2, e2, fun σ => ?_⟩
                  have := e3 σ
                  simpa only [List.map_append, List.append_assoc] using this
            · simp at hb
          · simp at hb
        · simp at hg
      · simp at hg
    · simp at hg

theorem backVals_some {st : St} {bs : List (Nat × Nat × List K)} {ss : List (Nat × Bool × List K)} {t : T} (h : backVals st bs ss = some t) :
    ∃ l m, backBoxes st bs = some l ∧ backSlots st ss = some m ∧ t = T.ofList (l ++ m) ∧ t.firstBox = none := by
  unfold backVals at h
  split at h
  · rename_i l m h1 h2
    simp only at h
    split at h
    · rename_i h3
      simp only [Option.some.injEq] at h; subst h
      exact ⟨l, m, h1, h2, rfl, h3⟩
    · simp at h
  · simp at h

/-- A state, seen from a loop's head. -/
theorem head_rel {ws hint : List Nat} {st st1 st' : St} {bs : List (Nat × Nat × List K)} {vs : T} {ρ' : List Value} (hw : st.wf = true) (hl : ρ.length = st.nv) (hp : ρ <+: ρ')
    (hg : genBoxes hint st = some (st1, bs)) (hb : backVals st' bs (genSlots ws st1).2 = some vs) (hok : backOk { (genSlots ws st1).1 with depth := st.depth + 1 } st' bs ws = true)
    (hr : Rel O V0 w0 N β st' ρ' V tmps w) :
    Rel O V0 w0 N β { (genSlots ws st1).1 with depth := st.depth + 1 } (ρ ++ vs.evs ρ' id) V tmps w ∧ Shaped (bs.flatMap (·.2.2) ++ (genSlots ws st1).2.flatMap (·.2.2)) (vs.evs ρ' id) := by
  obtain ⟨l, m, h1, h2, rfl, h3⟩ := backVals_some hb
  rw [(T.ev_free (β := id) (β' := β) (ρ := ρ') _ h3).2, evs_ofList, List.map_append]
  obtain ⟨a1, a2, a3, a4, a5, a6, a7⟩ := genBoxes_sound hint st ρ hl st1 bs hg st' ρ' β l h1
  obtain ⟨b1, b2, b3, b4, b5, b6⟩ := genSlots_sound (tmps := tmps) ws st1 (ρ ++ l.map (·.ev ρ' β)) (by rw [a2]; simp [hl]) st' ρ' β m h2 hr.slots
  simp only [backOk, Bool.and_eq_true, List.all_eq_true, Bool.or_eq_true, decide_eq_true_eq] at hok
  have hcg : ∀ t : T, t.wf st.nv st.nb = true → t.ev ρ' β = t.ev (ρ ++ (l.map (·.ev ρ' β) ++ m.map (·.ev ρ' β))) β ∧ t.evs ρ' β = t.evs (ρ ++ (l.map (·.ev ρ' β) ++ m.map (·.ev ρ' β))) β := by
    refine T.ev_congr (fun i hi => ?_) (fun _ _ => rfl)
    obtain ⟨σ, rfl⟩ := hp
    rw [← getD_append (by rw [hl]; exact hi), ← getD_append (by rw [hl]; exact hi)]
  have hget1 : ∀ s, st1.get s = st.get s := fun s => by unfold St.get; rw [a3]
  have hboxh : ∀ i, St.box { (genSlots ws st1).1 with depth := st.depth + 1 } i = st1.box i := fun i => by unfold St.box; simp only [b3]
  have hsome : ∀ i, (St.box { (genSlots ws st1).1 with depth := st.depth + 1 } i).isSome = true → (st'.box i).isSome = true := by
    intro i hi
    obtain ⟨⟨cs, ty⟩, hx⟩ := Option.isSome_iff_exists.1 hi
    rcases hok.2 _ (lookup_mem' hx) with h | h
    · rw [hboxh] at hx
      have hm : i ∈ bs.map (·.1) := List.contains_iff_mem.1 h
      rcases a7 i cs ty hx with ⟨e1, _⟩ | ⟨_, cs', e2, _⟩
      · exact absurd hm e1
      · simp [e2]
    · rw [h]; exact hi
  refine ⟨
  { nv := ?_
    size := hr.size
    slots := fun s t hs => ?_
    frm := hr.frm
    boxes := fun i cs ty hi => ?_
    hid := fun b o hb => ⟨(hr.hid b o hb).1, (hr.hid b o hb).2.1, (hr.hid b o hb).2.2.1, fun i hi => (hr.hid b o hb).2.2.2 i (hsome i hi)⟩
    inj := fun i j hi hj => hr.inj i j (hsome i hi) (hsome j hj) }, shaped_append a1 b1⟩
  · simp only [b2, a2, List.length_append, List.length_map, hl]; omega
  · rcases b6 s t hs with ⟨e1, e2⟩ | ⟨_, e2⟩
    · have e3 : st'.get s = some t := by
        rcases hok.1 _ (lookup_mem (get_lookup hs)) with h | h
        · exact absurd (List.contains_iff_mem.1 h) e1
        · rw [h]; exact hs
      rw [hget1] at e2
      rw [hr.slots s t e3]
      exact (hcg t (wf_get hw e2)).1
    · rw [e2, List.append_assoc]
  · rw [hboxh] at hi
    rcases a7 i cs ty hi with ⟨e1, e2⟩ | ⟨e1, cs', e2, e3⟩
    · have e3 : st'.box i = some (cs, ty) := by
        rcases hok.2 _ (lookup_mem' (show St.box { (genSlots ws st1).1 with depth := st.depth + 1 } i = some (cs, ty) by rw [hboxh]; exact hi)) with h | h
        · exact absurd (List.contains_iff_mem.1 h) e1
        · rw [h, hboxh]; exact hi
      obtain ⟨c1, c2, c3, _⟩ := hr.boxes i cs ty e3
      rw [← (hcg cs (wf_box hw e2).2).2]
      exact ⟨c1, c2, c3, by simp only [b4, a4]; exact (wf_box hw e2).1⟩
    · obtain ⟨c1, c2, c3, _⟩ := hr.boxes i cs' ty e2
      have e4 := e3 (m.map (·.ev ρ' β))
      rw [List.append_assoc] at e4
      rw [e4]
      obtain ⟨x, hx⟩ := Option.isSome_iff_exists.1 (a6 i e1)
      exact ⟨c1, c2, c3, by simp only [b4, a4]; exact (wf_box hw hx).1⟩
end
end Go.Sx
namespace Go.Sx
open Go

def maskStep (acc : List Nat) (o : Oper) : Nat := o.after.toList.foldl (fun s e => if Region.binds .any e then s ||| (1 <<< e.on) ||| acc.getD e.on 0 else s) 0
theorem masksOf_at : ∀ (os : List Oper) (acc : List Nat), (∃ tl, masksOf os acc = acc ++ tl ∧ tl.length = os.length) ∧
    ∀ k o, os[k]? = some o → (masksOf os acc).getD (acc.length + k) 0 = maskStep ((masksOf os acc).take (acc.length + k)) o
  | [], acc => ⟨⟨[], by simp [masksOf]⟩, fun k o h => by simp at h⟩
  | o :: os, acc => by
    have e : masksOf (o :: os) acc = masksOf os (acc ++ [maskStep acc o]) := rfl
    obtain ⟨⟨tl, h1, h2⟩, h3⟩ := masksOf_at os (acc ++ [maskStep acc o])
    rw [e]
    refine ⟨⟨maskStep acc o :: tl, by rw [h1]; simp, by simp [h2]⟩, fun k o' h => ?_⟩
    cases k with
    | zero =>
      simp only [List.getElem?_cons_zero, Option.some.injEq] at h; subst h
      rw [h1]
      simp only [Nat.add_zero, List.append_assoc, List.take_left', List.singleton_append]
      simp [List.getD]
    | succ k =>
      have := h3 k o' (by simpa using h)
      simp only [List.length_append, List.length_singleton] at this
      rw [show acc.length + (k + 1) = acc.length + 1 + k by omega]
      exact this

theorem fold_bits (acc : List Nat) : ∀ (es : List Edge) (s j : Nat), (es.foldl (fun s e => if Region.binds .any e then s ||| (1 <<< e.on) ||| acc.getD e.on 0 else s) s).testBit j = true →
    s.testBit j = true ∨ ∃ e ∈ es, Region.binds .any e = true ∧ (j = e.on ∨ (acc.getD e.on 0).testBit j = true)
  | [], s, j, h => .inl h
  | e :: es, s, j, h => by
    simp only [List.foldl_cons] at h
    rcases fold_bits acc es _ j h with h1 | ⟨e', h2, h3⟩
    · by_cases hb : Region.binds .any e = true
      · rw [if_pos hb] at h1
        simp only [Nat.testBit_or, Bool.or_eq_true] at h1
        rcases h1 with (h1 | h1) | h1
        · exact .inl h1
        · right
          refine ⟨e, List.mem_cons_self, hb, .inl ?_⟩
          rw [Nat.testBit_shiftLeft] at h1
          simp only [Bool.and_eq_true, decide_eq_true_eq] at h1
          have h4 := h1.2
          rcases Nat.eq_or_lt_of_le h1.1 with h5 | h5
          · exact h5.symm
          · have : (1 : Nat).testBit (j - e.on) = false := by
              obtain ⟨m, hm⟩ : ∃ m, j - e.on = m + 1 := ⟨j - e.on - 1, by omega⟩
              rw [hm, Nat.testBit_succ]; simp
            rw [this] at h4; cases h4
        · exact .inr ⟨e, List.mem_cons_self, hb, .inr h1⟩
      · rw [if_neg hb] at h1; exact .inl h1
    · exact .inr ⟨e', List.mem_cons_of_mem _ h2, h3⟩

/-- The operations listed so far hold with each one what stands ahead of it. -/
def ClosedL (all : Array Oper) (listed : Array Bool) : Prop := ∀ j oj, all[j]? = some oj → listed.getD j false = true → ∀ e ∈ oj.after, Region.binds .any e = true → listed.getD e.on false = true
def EdgesOk (all : Array Oper) : Prop := ∀ i o, all[i]? = some o → ∀ e ∈ o.after, Region.binds .any e = true → e.on < i

theorem mask_listed {all : Array Oper} (he : EdgesOk all) {listed : Array Bool} (hc : ClosedL all listed) : ∀ (i : Nat) (o : Oper), all[i]? = some o →
    (∀ e ∈ o.after, Region.binds .any e = true → listed.getD e.on false = true) → ∀ j, (maskAt (masksOf all.toList []) i).testBit j = true → listed.getD j false = true := by
  intro i
  induction i using Nat.strongRecOn with
  | _ i ih =>
    intro o ho hd j hj
    have h1 := (masksOf_at all.toList []).2 i o (by simpa using ho)
    simp only [List.length_nil, Nat.zero_add] at h1
    unfold maskAt at hj
    rw [h1] at hj
    unfold maskStep at hj
    rcases fold_bits _ _ _ _ hj with h2 | ⟨e, h2, h3, h4⟩
    · simp at h2
    · have h2' : e ∈ o.after := by simpa using h2
      have hlt := he i o ho e h2' h3
      have hl := hd e h2' h3
      rcases h4 with rfl | h4
      · exact hl
      · have hget : ((masksOf all.toList []).take i).getD e.on 0 = (masksOf all.toList []).getD e.on 0 := by
          simp [List.getD, hlt]
        rw [hget] at h4
        have hi : i < all.size := (Array.getElem?_eq_some_iff.1 ho).1
        have ho' : all[e.on]? = some (all[e.on]'(by omega)) := Array.getElem?_eq_getElem _
        exact ih e.on hlt _ ho' (hc e.on _ ho' hl) j h4

theorem nodupN_spec : ∀ {l : List Nat}, nodupN l = true → l.Nodup
  | [], _ => List.nodup_nil
  | x :: xs, h => by
    simp only [nodupN, Bool.and_eq_true, Bool.not_eq_true'] at h
    exact List.nodup_cons.2 ⟨by simpa using h.1, nodupN_spec h.2⟩

/-- A world with more in it. -/
structure Ext (w w' : World) : Prop where
  heap : ∀ (b : Nat) (o : Obj), w.heap[b]? = some o → w'.heap[b]? = some o
  size : w.heap.size ≤ w'.heap.size
  os : w'.os = w.os
  out : w'.output = w.output
theorem Ext.refl (w : World) : Ext w w := ⟨fun _ _ h => h, Nat.le_refl _, rfl, rfl⟩
theorem Ext.trans {a b c : World} (h : Ext a b) (k : Ext b c) : Ext a c := ⟨fun i o hi => k.heap i o (h.heap i o hi), Nat.le_trans h.size k.size, k.os.trans h.os, k.out.trans h.out⟩
theorem Ext.alloc (w : World) (o : Obj) : Ext w (w.alloc o) :=
  ⟨fun b o' h => (alloc_old w o (Array.getElem?_eq_some_iff.1 h).1).trans h, by show w.heap.size ≤ (w.heap.push o).size; simp, rfl, rfl⟩

section
variable {P : Program} {O V0 : Mem} {w0 : World} {N : Nat} {β : Nat → Nat} {st : St} {ρ : List Value} {V : Mem} {w : World} {tmps : Array Value}
theorem Rel.ext (h : Rel O V0 w0 N β st ρ V tmps w) {w' : World} (e : Ext w w') : Rel O V0 w0 N β st ρ V tmps w' :=
  { h with
    frm :=
      { size := Nat.le_trans h.frm.size e.size
        le := fun b o hb => e.heap b o (h.frm.le b o hb)
        old := fun b hb hV => by
          have h1 := h.frm.old b hb hV
          rw [← h1]
          have hlt : b < w.heap.size := Nat.lt_of_lt_of_le hb h.frm.size
          exact (e.heap b _ (Array.getElem?_eq_getElem hlt)).trans (Array.getElem?_eq_getElem hlt).symm
        dom := h.frm.dom
        os := e.os.trans h.frm.os
        out := e.out.trans h.frm.out }
    boxes := fun i cs ty hi => ⟨e.heap _ _ (h.boxes i cs ty hi).1, (h.boxes i cs ty hi).2⟩
    hid := fun b o hb => ⟨e.heap _ _ (h.hid b o hb).1, (h.hid b o hb).2⟩ }
theorem Rel.less (h : Rel O V0 w0 N β st ρ V tmps w) {O' : Mem} (ho : ∀ b o, O' b = some o → O b = some o) : Rel O' V0 w0 N β st ρ V tmps w :=
  { h with hid := fun b o hb => h.hid b o (ho b o hb) }
/-- A new block that nothing knows of yet. -/
theorem Rel.orphan (h : Rel O V0 w0 N β st ρ V tmps w) (o : Obj) : Rel (O.set w.heap.size o) V0 w0 N β st ρ V tmps (w.alloc o) :=
  { h.ext (Ext.alloc w o) with
    hid := fun b o' hb => by
      by_cases e : b = w.heap.size
      · subst e
        rw [Mem.set_same] at hb; cases hb
        refine ⟨alloc_heap w o, le_none h.frm.le (Nat.le_refl _), h.frm.size, fun i hi => ?_⟩
        obtain ⟨x, hx⟩ := Option.isSome_iff_exists.1 hi
        have := (h.boxes i x.1 x.2 hx).1
        have hlt := (Array.getElem?_eq_some_iff.1 this).1
        omega
      · rw [Mem.set_ne e] at hb
        exact (h.ext (Ext.alloc w o)).hid b o' hb }
/-- It becomes a box. -/
theorem Rel.adopt (h : Rel O V0 w0 N β st ρ V tmps w) (hw : st.wf = true) {cs : T} (hc : cs.wf st.nv st.nb = true) {ty b : Nat} (hO : O b = some (.cells (cs.evs ρ β).toArray ty (0, 0))) :
    Rel (fun c => if c = b then none else O c) V0 w0 N (upd β st.nb b) { st with boxes := (st.nb, cs, ty) :: st.boxes, nb := st.nb + 1 } ρ V tmps w := by
  have hcg : ∀ t : T, t.wf st.nv st.nb = true → t.ev ρ β = t.ev ρ (upd β st.nb b) ∧ t.evs ρ β = t.evs ρ (upd β st.nb b) :=
    T.ev_congr (fun _ _ => rfl) (fun i hi => by simp [upd, show ¬ i = st.nb by omega])
  have hbox : ∀ (i : Nat) (x : T × Nat), St.box { st with boxes := (st.nb, cs, ty) :: st.boxes, nb := st.nb + 1 } i = some x → (i = st.nb ∧ x = (cs, ty)) ∨ (i ≠ st.nb ∧ st.box i = some x) := by
    intro i x hx
    simp only [St.box, List.lookup_cons] at hx
    split at hx
    · rename_i e; simp only [beq_iff_eq] at e; simp only [Option.some.injEq] at hx; exact .inl ⟨e, hx.symm⟩
    · rename_i e; exact .inr ⟨by simpa using e, hx⟩
  obtain ⟨g1, g2, g3, g4⟩ := h.hid b _ hO
  exact
  { nv := h.nv
    size := h.size
    slots := fun s t hs => (h.slots s t hs).trans (hcg t (wf_get hw hs)).1
    frm := h.frm
    boxes := fun i cs' ty' hi => by
      rcases hbox i _ hi with ⟨rfl, e⟩ | ⟨hne, hi'⟩
      · cases e
        rw [← (hcg cs hc).2]; simp only [upd, if_true]
        exact ⟨g1, g2, g3, Nat.lt_succ_self _⟩
      · obtain ⟨h1, h2, h3, h4⟩ := h.boxes i cs' ty' hi'
        have e : upd β st.nb b i = β i := by simp [upd, hne]
        rw [e, ← (hcg cs' (wf_box hw hi').2).2]
        exact ⟨h1, h2, h3, Nat.lt_succ_of_lt h4⟩
    hid := fun c o hb => by
      split at hb
      · cases hb
      · rename_i hne
        obtain ⟨k1, k2, k3, k4⟩ := h.hid c o hb
        refine ⟨k1, k2, k3, fun i hi => ?_⟩
        obtain ⟨x, hx⟩ := Option.isSome_iff_exists.1 hi
        rcases hbox i x hx with ⟨rfl, _⟩ | ⟨hne', hi'⟩
        · simp only [upd, if_true]; exact fun e => hne e.symm
        · simp only [upd, if_neg hne']; exact k4 i (by simp [hi'])
    inj := fun i j hi hj he => by
      obtain ⟨x, hx⟩ := Option.isSome_iff_exists.1 hi
      obtain ⟨y, hy⟩ := Option.isSome_iff_exists.1 hj
      rcases hbox i x hx with ⟨rfl, _⟩ | ⟨hne, hi'⟩ <;> rcases hbox j y hy with ⟨rfl, _⟩ | ⟨hne', hj'⟩
      · rfl
      · simp only [upd, if_true, if_neg hne'] at he; exact absurd he.symm (g4 j (by simp [hj']))
      · simp only [upd, if_true, if_neg hne] at he; exact absurd he (g4 i (by simp [hi']))
      · simp only [upd, if_neg hne, if_neg hne'] at he
        exact h.inj i j (by simp [hi']) (by simp [hj']) he }
end
end Go.Sx
