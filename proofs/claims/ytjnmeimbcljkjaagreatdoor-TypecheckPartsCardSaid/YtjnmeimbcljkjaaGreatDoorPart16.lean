/- Part 16 of a proof of a law of this seat: no statement of the seat is proved here. -/
import Derived.Test.YtjnmeimbcljkjaaGreatDoorPart15
set_option linter.unusedVariables false
set_option linter.unusedSimpArgs false
namespace Go.Proofs
open Go Go.Sx
attribute [local irreducible] Go.Sx.Tri
theorem GenK.makeF1 {P : Program} {V : Mem} {f : FuncId} {x : Operand} {ty : Nat} {vals : Operand → Value} {v : Value} (hx : vals x = v) {q : Value → Mem → Prop} (hq : q (.func (.func f) #[v] #[]) V) : GenK P (.makeFunc (.func f) #[x] #[]) ty vals V q := by
  intro w hw
  refine ⟨_, w, V, ?_, Frm.refl hw, hq⟩
  unfold execOp Instr.makeFunc
  simp only [Sem.run_bind, Sem.run_pure, Result.andThen_ok, List.map_toArray, List.map_cons, List.map_nil, hx]
section
variable {V : Mem} {d : Ds} {c : Option Addr}
theorem impFirst (hS : ScopeC) (h : ChkAt V c d) (hv : VNe d) (hp : VParts d) : FltC 51 [.pointer c] V (chkT d) := by
  refine x51 ?_
  unfold w51
  have F1 := fun V1 (hs : V.sub V1) => impTypes (h.sub hs)
  have F2 := fun V1 (hs : V.sub V1) => impHeads (h.sub hs) hp.small
  have F3 := fun V1 (hs : V.sub V1) => impForm (h.sub hs)
  have F4 := fun V1 (hs : V.sub V1) => impBodies hS (h.sub hs) hv hp
  have F5 := fun V1 (hs : V.sub V1) (hf : formT d = none) => impExps hS (h.sub hs) hv hp hf
  refine GenK.makeF1 (v := .pointer c) rfl ⟨.func (.func 94) #[.pointer c] #[], rfl, rfl, GenK.makeF1 (v := .pointer c) rfl ⟨.func (.func 95) #[.pointer c] #[], rfl, rfl, GenK.makeF1 (v := .pointer c) rfl ⟨.func (.func 96) #[.pointer c] #[], rfl, rfl, GenK.makeF1 (v := .pointer c) rfl ⟨.func (.func 97) #[.pointer c] #[], rfl, rfl, GenK.makeF1 (v := .pointer c) rfl ⟨.func (.func 98) #[.pointer c] #[], rfl, rfl, fun b hb => ?_⟩⟩⟩⟩⟩
  have hs1 := Mem.sub_new hb (.cells #[.func (.func 94) #[.pointer c] #[], .func (.func 95) #[.pointer c] #[], .func (.func 96) #[.pointer c] #[], .func (.func 97) #[.pointer c] #[], .func (.func 98) #[.pointer c] #[]] 101 (0, 0))
  refine loop2 5 (fun i V1 => V.sub V1 ∧ V1 b = some (.cells #[.func (.func 94) #[.pointer c] #[], .func (.func 95) #[.pointer c] #[], .func (.func 96) #[.pointer c] #[], .func (.func 97) #[.pointer c] #[], .func (.func 98) #[.pointer c] #[]] 101 (0, 0)) ∧
    ((i = 0 ∧ chkT d = (typesT d).or ((headsT d).or ((formT d).or ((bodiesT d).or (expsT d))))) ∨ (i = 1 ∧ chkT d = (headsT d).or ((formT d).or ((bodiesT d).or (expsT d)))) ∨ (i = 2 ∧ chkT d = (formT d).or ((bodiesT d).or (expsT d))) ∨ (i = 3 ∧ formT d = none ∧ chkT d = (bodiesT d).or (expsT d)) ∨ (i = 4 ∧ formT d = none ∧ chkT d = expsT d) ∨ (i = 5 ∧ chkT d = none))) ⟨hs1, Mem.set_same _ _ _, .inl ⟨rfl, rfl⟩⟩ ?_
  rintro i b' V1 J hi ⟨hV, hrow, hst⟩ hJ
  have fin : ∀ {V2 : Mem} {X Y : Option Flt} {p : Option Addr}, V.sub V2 → FltAt V2 p X → ¬ (p = none) → chkT d = X.or Y → (∃ p', Ending.returned (.pointer p) = .returned (.pointer p') ∧ V.sub V2 ∧ FltAt V2 p' (chkT d)) := fun {V2 X Y p} hs hf hn he => by
    obtain ⟨r, rfl⟩ := flt_some hf hn
    rw [he]
    exact ⟨p, rfl, hs, hf⟩
  refine ⟨fun hlt => ?_, fun hge => ?_⟩
  · rcases hst with ⟨rfl, he⟩ | ⟨rfl, he⟩ | ⟨rfl, he⟩ | ⟨rfl, hf, he⟩ | ⟨rfl, hf, he⟩ | ⟨rfl, he⟩
    · refine ⟨by simp [ptrAdd], by omega, by omega, .func (.func 94) #[.pointer c] #[], rfl, row_cells hrow 0 1 (by simp), _, _, _, rfl, Tryz.call94, Tri.mono (F1 V1 hV) ?_⟩
      rintro _ V2 ⟨p, rfl, h12, hfl⟩
      refine ⟨_, rfl, fun hn => ⟨⟨by omega, by omega⟩, hJ (by omega) _ _ ⟨hV.trans h12, h12 _ _ hrow, ?_⟩⟩, fun hn => fin (hV.trans h12) hfl hn he⟩
      subst hn
      exact .inr (.inl ⟨rfl, by rw [he, flt_none hfl, Option.none_or]⟩)
    · refine ⟨by simp [ptrAdd], by omega, by omega, .func (.func 95) #[.pointer c] #[], rfl, row_cells hrow 1 1 (by simp), _, _, _, rfl, Tryz.call95, Tri.mono (F2 V1 hV) ?_⟩
      rintro _ V2 ⟨p, rfl, h12, hfl⟩
      refine ⟨_, rfl, fun hn => ⟨⟨by omega, by omega⟩, hJ (by omega) _ _ ⟨hV.trans h12, h12 _ _ hrow, ?_⟩⟩, fun hn => fin (hV.trans h12) hfl hn he⟩
      subst hn
      exact .inr (.inr (.inl ⟨rfl, by rw [he, flt_none hfl, Option.none_or]⟩))
    · refine ⟨by simp [ptrAdd], by omega, by omega, .func (.func 96) #[.pointer c] #[], rfl, row_cells hrow 2 1 (by simp), _, _, _, rfl, Tryz.call96, Tri.mono (F3 V1 hV) ?_⟩
      rintro _ V2 ⟨p, rfl, h12, hfl⟩
      refine ⟨_, rfl, fun hn => ⟨⟨by omega, by omega⟩, hJ (by omega) _ _ ⟨hV.trans h12, h12 _ _ hrow, ?_⟩⟩, fun hn => fin (hV.trans h12) hfl hn he⟩
      subst hn
      exact .inr (.inr (.inr (.inl ⟨rfl, flt_none hfl, by rw [he, flt_none hfl, Option.none_or]⟩)))
    · refine ⟨by simp [ptrAdd], by omega, by omega, .func (.func 97) #[.pointer c] #[], rfl, row_cells hrow 3 1 (by simp), _, _, _, rfl, Tryz.call97, Tri.mono (F4 V1 hV) ?_⟩
      rintro _ V2 ⟨p, rfl, h12, hfl⟩
      refine ⟨_, rfl, fun hn => ⟨⟨by omega, by omega⟩, hJ (by omega) _ _ ⟨hV.trans h12, h12 _ _ hrow, ?_⟩⟩, fun hn => fin (hV.trans h12) hfl hn he⟩
      subst hn
      exact .inr (.inr (.inr (.inr (.inl ⟨rfl, hf, by rw [he, flt_none hfl, Option.none_or]⟩))))
    · refine ⟨by simp [ptrAdd], by omega, by omega, .func (.func 98) #[.pointer c] #[], rfl, row_cells hrow 4 1 (by simp), _, _, _, rfl, Tryz.call98, Tri.mono (F5 V1 hV hf) ?_⟩
      rintro _ V2 ⟨p, rfl, h12, hfl⟩
      refine ⟨_, rfl, fun hn => ⟨⟨by omega, by omega⟩, hJ (by omega) _ _ ⟨hV.trans h12, h12 _ _ hrow, ?_⟩⟩, fun hn => fin (Y := none) (hV.trans h12) hfl hn (by rw [he, Option.or_none])⟩
      subst hn
      exact .inr (.inr (.inr (.inr (.inr ⟨rfl, by rw [he, flt_none hfl]⟩))))
    · omega
  · rcases hst with ⟨rfl, he⟩ | ⟨rfl, he⟩ | ⟨rfl, he⟩ | ⟨rfl, hf, he⟩ | ⟨rfl, hf, he⟩ | ⟨rfl, he⟩
    · omega
    · omega
    · omega
    · omega
    · omega
    · rw [he]; exact ⟨none, rfl, hV, rfl⟩
theorem c12 [Tab V] (hS : ScopeC) (hN : NewC) (hd : Ds.Ok V d) : PP 12 [d.v] V (if validD d = true then f3 (chkT d) else .tuple #[.string sE, .int .i64 0, .int .i64 1]) := by
  refine Pur.mk (x12 (v0 := d.name) (v1 := d.ts) (v2 := d.gs) (v3 := d.ps) (v4 := d.ms) (v5 := d.is) (v6 := d.qs) (v7 := d.bs) ?_)
  unfold w12
  refine (c49 hd).call ⟨_, rfl, fun hval => ?_, fun hval => ?_⟩
  · rw [if_pos hval]
    refine Tri.mono (hN V d hd) ?_
    rintro _ V1 ⟨c, rfl, h1, hc⟩
    refine ⟨c, rfl, Tri.mono (impFirst hS hc (vne hval) (vparts hval)) ?_⟩
    rintro _ V2 ⟨p, rfl, h2, hfl⟩
    refine ⟨p, rfl, fun hn => ?_, fun hn => ?_⟩
    · subst hn
      rw [flt_none hfl]
      exact ⟨rfl, h1.trans h2⟩
    · obtain ⟨r, hr⟩ := flt_some hfl hn
      rw [hr] at hfl ⊢
      obtain ⟨b, t, rfl, hb⟩ := hfl
      exact ⟨hn, hn, _, row_cells hb 0 1 (by simp), hn, hn, _, row_cells hb 1 1 (by simp), hn, hn, _, row_cells hb 2 1 (by simp), rowp_self (p := some ⟨b, 0, none⟩) (row_cells hb 2 1 (by simp)), hn, hn, rowp_self (p := some ⟨b, 0, none⟩) (row_cells hb 1 1 (by simp)), hn, hn, rowp_self (p := some ⟨b, 0, none⟩) (row_cells hb 2 1 (by simp)), hn, hn, rfl, h1.trans h2⟩
  · rw [if_neg hval]; exact ⟨rfl, Mem.sub.refl _⟩
/-- What 'well' answers: an error, or the checker. -/
def wellE (d : Ds) (ok : Bool) : Int := if validD d = true ∧ ok = true then (if chkT d = none then 0 else 13) else 1
theorem impWell [Tab V] (hS : ScopeC) (hN : NewC) (hd : Ds.Ok V d) {ok : Bool} : Tri Tryz.prog 61 #[d.v, .bool ok] V fun r V' => ∃ c, r = .returned (.tuple #[.pointer c, .int .i64 (wellE d ok)]) ∧ V.sub V' ∧ (wellE d ok = 0 → ChkAt V' c d) := by
  refine x61 (v0 := d.name) (v1 := d.ts) (v2 := d.gs) (v3 := d.ps) (v4 := d.ms) (v5 := d.is) (v6 := d.qs) (v7 := d.bs) ?_
  unfold w61
  refine (c49 hd).call ⟨_, rfl, fun hval => ⟨fun hok => ?_, fun hok => ?_⟩, fun hval => ?_⟩
  · refine Tri.mono (hN V d hd) ?_
    rintro _ V1 ⟨c, rfl, h1, hc⟩
    refine ⟨c, rfl, Tri.mono (impFirst hS hc (vne hval) (vparts hval)) ?_⟩
    rintro _ V2 ⟨p, rfl, h2, hfl⟩
    refine ⟨p, rfl, fun hn => ?_, fun hn => ?_⟩
    · subst hn
      have e : wellE d ok = 0 := by unfold wellE; rw [if_pos ⟨hval, hok⟩, if_pos (flt_none hfl)]
      rw [e]
      exact ⟨c, rfl, h1.trans h2, fun _ => hc.sub h2⟩
    · obtain ⟨r, hr⟩ := flt_some hfl hn
      have e : wellE d ok = 13 := by unfold wellE; rw [if_pos ⟨hval, hok⟩, if_neg (by rw [hr]; simp)]
      rw [e]
      exact ⟨none, rfl, h1.trans h2, fun h => absurd h (by decide)⟩
  · have e : wellE d ok = 1 := by unfold wellE; rw [if_neg (fun h => hok h.2)]
    rw [e]
    exact ⟨none, rfl, Mem.sub.refl _, fun h => absurd h (by decide)⟩
  · have e : wellE d ok = 1 := by unfold wellE; rw [if_neg (fun h => hval h.1)]
    rw [e]
    exact ⟨none, rfl, Mem.sub.refl _, fun h => absurd h (by decide)⟩
theorem wellE_zero {d : Ds} {ok : Bool} (h : wellE d ok = 0) : validD d = true ∧ ok = true ∧ chkT d = none := by
  unfold wellE at h
  split at h
  · rename_i h1
    split at h
    · rename_i h2; exact ⟨h1.1, h1.2, h2⟩
    · exact absurd h (by decide)
  · exact absurd h (by decide)
/-- typecheck.Expr. -/
def exprR (d : Ds) (name : ByteArray) (e : E) : ByteArray × Int := if wellE d (validE e) ≠ 0 then (sE, wellE d (validE e)) else match prOf d name with | none => (sE, 12) | some p => exprT d (inProcS d p) e
theorem c16 [Tab V] (hS : ScopeC) (hN : NewC) (hd : Ds.Ok V d) {s : ByteArray} {e : E} (he : E.Ok V e) : PP 16 [d.v, .string s, e.v] V (.tuple #[.string (exprR d s e).1, .int .i64 (exprR d s e).2]) := by
  refine Pur.mk (x16 (v0 := d.name) (v1 := d.ts) (v2 := d.gs) (v3 := d.ps) (v4 := d.ms) (v5 := d.is) (v6 := d.qs) (v7 := d.bs) (v9 := e.op) (v10 := e.n) (v11 := e.s) (v12 := e.l) ?_)
  unfold w16 exprR
  refine (c62 he).call ⟨_, rfl, Tri.mono (impWell hS hN hd) ?_⟩
  rintro _ V1 ⟨c, rfl, h1, hc⟩
  refine ⟨c, _, rfl, fun h0 => ?_, fun h0 => ?_⟩
  · obtain ⟨hval, hok, -⟩ := wellE_zero h0
    have hc := hc h0
    rw [if_neg (fun h => h h0)]
    obtain ⟨mt, q1, q2⟩ := hc.procs
    refine ⟨hc.nn, hc.nn, _, q1, LookK.str Tryz.underlying114 Tryz.underlying9 zero54 q2 ?_⟩
    cases hpr : prOf d s with
    | none => exact ⟨_, ⟨none, 0, 0⟩, _, ⟨none, 0, 0⟩, ⟨none, 0, 0⟩, _, rfl, fun h => absurd h (by simp), fun _ => ⟨rfl, h1⟩⟩
    | some p =>
      refine ⟨_, p.ps, _, p.ls, p.bs, _, rfl, fun _ => Tri.mono (impInProc hS hc (vne hval) (prOf_mem hpr) (hc.ok.procsOk p (prOf_mem hpr))) ?_, fun h => absurd rfl h⟩
      rintro _ V2 ⟨m, rfl, h12, hsc⟩
      exact ⟨_, _, _, rfl, (impExpr (hc.sub h12) (vne hval) hsc e (he.sub (h1.trans h12)) 1 (validE_ok hok) V2 (Mem.sub.refl _)).call ⟨_, _, rfl, rfl, h1.trans h12⟩⟩
  · rw [if_pos h0]; exact ⟨rfl, h1⟩
/-- typecheck.Measure. -/
def measR (d : Ds) (t : ByteArray) (e : E) : ByteArray × Int := if wellE d (validE e) ≠ 0 then (sE, wellE d (validE e)) else if t ≠ sE ∧ isNode d t = false then (sE, 12) else exprT d (inFormS d t) e
theorem c35 [Tab V] (hS : ScopeC) (hN : NewC) (hd : Ds.Ok V d) {s : ByteArray} {e : E} (he : E.Ok V e) : PP 35 [d.v, .string s, e.v] V (.tuple #[.string (measR d s e).1, .int .i64 (measR d s e).2]) := by
  refine Pur.mk (x35 (v0 := d.name) (v1 := d.ts) (v2 := d.gs) (v3 := d.ps) (v4 := d.ms) (v5 := d.is) (v6 := d.qs) (v7 := d.bs) (v9 := e.op) (v10 := e.n) (v11 := e.s) (v12 := e.l) ?_)
  unfold w35 measR
  refine (c62 he).call ⟨_, rfl, Tri.mono (impWell hS hN hd) ?_⟩
  rintro _ V1 ⟨c, rfl, h1, hc⟩
  refine ⟨c, _, rfl, fun h0 => ?_, fun h0 => ?_⟩
  · obtain ⟨hval, hok, -⟩ := wellE_zero h0
    have hc := hc h0
    rw [if_neg (fun h => h h0)]
    have go : ¬ (s ≠ sE ∧ isNode d s = false) → Tri Tryz.prog 78 #[.pointer c, .string s] V1 fun z V3 => ∃ v16 : Option Addr, ∃ v17 : Option Nat, ∃ v18 : Bool, z = .returned (.agg #[(.pointer v16), (.map v17), (.bool v18)]) ∧
        Tri Tryz.prog 64 #[(.agg #[(.pointer v16), (.map v17), (.bool v18)]), (.agg #[(.int .i64 e.op), (.int .i64 e.n), (.string e.s), (.slice e.l.p e.l.n e.l.c)])] V3 fun z V4 => ∃ v19 : ByteArray, ∃ v20 : Int, z = .returned (.tuple #[(.string v19), (.int .i64 v20)]) ∧
        (Ending.returned (.tuple #[(.string v19), (.int .i64 v20)]) = .returned (.tuple #[.string (if s ≠ sE ∧ isNode d s = false then (sE, 12) else exprT d (inFormS d s) e).1, .int .i64 (if s ≠ sE ∧ isNode d s = false then (sE, 12) else exprT d (inFormS d s) e).2]) ∧ V.sub V4) := fun hn => by
      rw [if_neg hn]
      refine Tri.mono (impInFormula hS hc (vne hval)) ?_
      rintro _ V2 ⟨m, rfl, h12, hsc⟩
      exact ⟨_, _, _, rfl, (impExpr (hc.sub h12) (vne hval) hsc e (he.sub (h1.trans h12)) 1 (validE_ok hok) V2 (Mem.sub.refl _)).call ⟨_, _, rfl, rfl, h1.trans h12⟩⟩
    refine ⟨fun hs => go (fun h => h.1 hs), fun hs => (c77 hc).call ⟨_, rfl, fun hn => go (fun h => by rw [hn] at h; exact absurd h.2 (by simp)), fun hn => ?_⟩⟩
    rw [if_pos ⟨hs, eq_false_of_ne_true hn⟩]; exact ⟨rfl, h1⟩
  · rw [if_pos h0]; exact ⟨rfl, h1⟩
theorem c80 {s : ByteArray} : PP 80 [.string s] V (.bool (plainT s)) := by
  refine x80 ?_
  unfold w80 plainT sInt
  refine ⟨fun h => ?_, fun h => ?_⟩
  · rw [decide_eq_true h]; exact ⟨rfl, rfl⟩
  · rw [decide_eq_false h]; exact ⟨rfl, rfl⟩
theorem c81 {b t : Nat} {x : Fld} (hb : V b = some (cell (.func (.func 80) #[] #[]) t)) : PP 81 [x.v, .pointer (some ⟨b, 0, none⟩)] V (.bool (!plainT x.ty)) := by
  refine x81 (v0 := x.name) (v1 := x.ty) ?_
  unfold w81
  exact ⟨.func (.func 80) #[] #[], rfl, row1 hb, _, _, _, rfl, Tryz.call80, (c80 (s := x.ty)).callv (first := []) (caps := []) ⟨_, rfl, rfl, rfl⟩⟩
def entsT (d : Ds) : List ByteArray := (d.procs.filter entryT).map (·.name)
theorem filter_take {α : Type} {p : α → Bool} {xs : List α} {i : Nat} {x : α} (h : xs[i]? = some x) : (xs.take (i + 1)).filter p = (xs.take i).filter p ++ (if p x = true then [x] else []) := by
  rw [List.take_add_one, h, List.filter_append]
  cases hp : p x <;> simp [hp]
theorem c43 (hd : Ds.Ok V d) (hlen : d.procs.length ≤ 1000) : Tri Tryz.prog 43 #[d.v] V fun r V' => ∃ s : Sl, r = .returned (.slice s.p s.n s.c) ∧ V.sub V' ∧ RowsAt V' s 1 ((entsT d).map strRow1) := by
  refine x43 (v0 := d.name) (v1 := d.ts) (v2 := d.gs) (v3 := d.ps) (v4 := d.ms) (v5 := d.is) (v6 := d.qs) (v7 := d.bs) ?_
  unfold w43
  refine loop2s (mk := fun s : Sl => .slice s.p s.n s.c) (b0 := ⟨none, 0, 0⟩) inj_sl d.procs.length (fun i s V1 => Own V V1 9 1 s ((((d.procs.take i).filter entryT).map (·.name)).flatMap strRow1)) (Own.nil (Mem.sub.refl _) _ _) ?_
  rintro i s V1 J hi ho hJ
  have hd1 := hd.sub ho.sub
  refine ⟨fun hlt => ?_, fun hge => ?_⟩
  · obtain ⟨x, hm, hx, hdr, hl, hp, hz, hrow⟩ := hd1.procs.get hlt
    have hlen2 : (((d.procs.take i).filter entryT).map (·.name)).length ≤ 1000 := by
      rw [List.length_map]
      exact Nat.le_trans (List.length_filter_le _ _) (by rw [List.length_take]; omega)
    refine ⟨hp, hz, hlt, _, _, _, _, _, hrow, (c82 (hd1.procsOk x hm)).call ⟨_, rfl, fun hb => ⟨hp, hz, hlt, ptrAdd_ne hp, _, _, _, _, _, hrow, fun b1 hb1 => ?_⟩, fun hb => ⟨hd1.procs.succ hlt, hJ hl _ _ ?_⟩⟩⟩
    · refine app85 (s := s) (u := ⟨some ⟨b1, 0, none⟩, 1, 1⟩) (xs := ((d.procs.take i).filter entryT).map (·.name)) (ys := [x.name]) rfl rfl (ho.new hb1 _) (one_row (Mem.set_same _ _ _)) (by rw [List.length_singleton]; omega) fun s' V' ho' => ⟨s', rfl, hd1.procs.succ hlt, hJ hl _ _ ?_⟩
      rw [filter_take hx, if_pos hb, List.map_append]
      exact ho'
    · rw [filter_take hx, if_neg hb, List.append_nil]; exact ho
  · rw [List.take_of_length_le (hd1.procs.done hge).2] at ho
    exact ⟨s, rfl, ho.sub, ownS ho⟩
theorem c41 [Tab V] (hS : ScopeC) (hN : NewC) (hd : Ds.Ok V d) : Tri Tryz.prog 41 #[d.v] V fun r V' => ∃ s : Sl, r = .returned (.tuple #[.slice s.p s.n s.c, .int .i64 (wellE d true)]) ∧ V.sub V' ∧ RowsAt V' s 1 ((if wellE d true = 0 then entsT d else []).map strRow1) := by
  refine x41 (v0 := d.name) (v1 := d.ts) (v2 := d.gs) (v3 := d.ps) (v4 := d.ms) (v5 := d.is) (v6 := d.qs) (v7 := d.bs) ?_
  unfold w41
  refine Tri.mono (impWell hS hN hd) ?_
  rintro _ V0 ⟨c, rfl, h1, hc⟩
  refine ⟨c, _, rfl, fun h0 => ?_, fun h0 => ?_⟩
  · rw [if_pos h0]
    obtain ⟨hval, -, -⟩ := wellE_zero h0
    have hlenP : d.procs.length ≤ 1000 := by
      unfold validD at hval
      simp only [Bool.and_eq_true, decide_eq_true_eq] at hval
      omega
    refine loop2s (mk := fun s : Sl => .slice s.p s.n s.c) (b0 := ⟨none, 0, 0⟩) inj_sl d.procs.length (fun i s V1 => Own V V1 9 1 s ((((d.procs.take i).filter entryT).map (·.name)).flatMap strRow1)) (Own.nil h1 _ _) ?_
    rintro i s V1 J hi ho hJ
    have hd1 := hd.sub ho.sub
    refine ⟨fun hlt => ?_, fun hge => ?_⟩
    · obtain ⟨x, hm, hx, hdr, hl, hp, hz, hrow⟩ := hd1.procs.get hlt
      have hlen2 : (((d.procs.take i).filter entryT).map (·.name)).length ≤ 1000 := by
        rw [List.length_map]
        exact Nat.le_trans (List.length_filter_le _ _) (by rw [List.length_take]; omega)
      have hxo := hd1.procsOk x hm
      have hany : x.params.any (fun f => !plainT f.ty) = !x.params.all (fun f => plainT f.ty) := by
        rw [List.any_eq_not_all_not]; simp
      have skip : ∀ V2, Own V V2 9 1 s ((((d.procs.take i).filter entryT).map (·.name)).flatMap strRow1) → ¬ entryT x = true → (K.inR .i64 ((i : Int) + (1 : Int))) ∧ J [(.slice s.p s.n s.c), (.int .i64 ((i : Int) + (1 : Int)))] V2 := fun V2 ho2 hb => ⟨hd1.procs.succ hlt, hJ hl _ _ (by rw [filter_take hx, if_neg hb, List.append_nil]; exact ho2)⟩
      have add : ∀ V2, Own V V2 9 1 s ((((d.procs.take i).filter entryT).map (·.name)).flatMap strRow1) → entryT x = true → ∀ (b1 : Nat) {ty : Nat} {t1 t2 : Nat} {vals : Operand → Value}, V2 b1 = none → vals (.tmp t1) = .slice s.p s.n s.c → vals (.tmp t2) = .slice (some ⟨b1, 0, none⟩) 1 1 → GenK Tryz.prog (.call { callee := (.builtin .append), args := #[(.tmp t1), (.tmp t2)], argTypes := #[85, 85] }) ty vals (V2.set b1 (.cells #[.string x.name] 9 (0, 0))) fun z V6 => ∃ v20 : Sl, z = (.slice v20.p v20.n v20.c) ∧ (K.inR .i64 ((i : Int) + (1 : Int))) ∧ J [(.slice v20.p v20.n v20.c), (.int .i64 ((i : Int) + (1 : Int)))] V6 := fun V2 ho2 hb b1 ty t1 t2 vals hb1 hx1 hx2 => by
        refine app85 (s := s) (u := ⟨some ⟨b1, 0, none⟩, 1, 1⟩) (xs := ((d.procs.take i).filter entryT).map (·.name)) (ys := [x.name]) hx1 hx2 (ho2.new hb1 _) (one_row (Mem.set_same _ _ _)) (by rw [List.length_singleton]; omega) fun s' V' ho' => ⟨s', rfl, hd1.procs.succ hlt, hJ hl _ _ ?_⟩
        rw [filter_take hx, if_pos hb, List.map_append]
        exact ho'
      refine ⟨hp, hz, hlt, _, _, _, _, _, hrow, fun hr => ?_, fun hr => c80.call ⟨_, rfl, fun hpl => ?_, fun hpl => ?_⟩⟩
      · intro b1 hb1
        have ho2 := ho.new hb1 (cell (.func (.func 80) #[] #[]) 104)
        refine (c26 (l := x.ps) (first := []) (caps := [.pointer (some ⟨b1, 0, none⟩)]) (hxo.params.sub (Mem.sub_new hb1 _)) Tryz.call81 (fun f => !plainT f.ty) (fun f _ => c81 (Mem.set_same _ _ _))).call ⟨_, rfl, fun ha => ?_, fun ha => ?_⟩
        · rw [hany] at ha
          exact skip _ ho2 (fun h => by unfold entryT at h; rw [Bool.and_eq_true] at h; rw [h.1] at ha; cases ha)
        · rw [hany] at ha
          have hb : entryT x = true := by
            unfold entryT sE
            rw [decide_eq_true hr, Bool.true_or, Bool.and_true]
            simpa using ha
          exact fun b2 hb2 => add _ ho2 hb b2 hb2 rfl rfl
      · intro b1 hb1
        have ho2 := ho.new hb1 (cell (.func (.func 80) #[] #[]) 104)
        refine (c26 (l := x.ps) (first := []) (caps := [.pointer (some ⟨b1, 0, none⟩)]) (hxo.params.sub (Mem.sub_new hb1 _)) Tryz.call81 (fun f => !plainT f.ty) (fun f _ => c81 (Mem.set_same _ _ _))).call ⟨_, rfl, fun ha => ?_, fun ha => ?_⟩
        · rw [hany] at ha
          exact skip _ ho2 (fun h => by unfold entryT at h; rw [Bool.and_eq_true] at h; rw [h.1] at ha; cases ha)
        · rw [hany] at ha
          have hb : entryT x = true := by
            unfold entryT
            rw [hpl, Bool.or_true, Bool.and_true]
            simpa using ha
          exact fun b2 hb2 => add _ ho2 hb b2 hb2 rfl rfl
      · refine skip _ ho (fun h => ?_)
        unfold entryT sE at h
        rw [decide_eq_false hr, eq_false_of_ne_true hpl] at h
        simp at h
    · rw [List.take_of_length_le (hd1.procs.done hge).2] at ho
      rw [h0]
      exact ⟨s, rfl, ho.sub, ownS ho⟩
  · rw [if_neg h0]
    exact ⟨⟨none, 0, 0⟩, rfl, h1, RowsAt.nil⟩
theorem c42 {l1 l2 : Sl} {xs ys : List ByteArray} (h1 : RowsAt V l1 1 (xs.map strRow1)) (h2 : RowsAt V l2 1 (ys.map strRow1)) : PP 42 [l1.v, l2.v] V (.bool (decide (xs = ys))) := by
  refine x42 (v0 := l1) (v1 := l2) ?_
  unfold w42
  have n1 := h1.n_eq
  have n2 := h2.n_eq
  refine ⟨fun he => ?_, fun he => ?_⟩
  · have hl : xs.length = ys.length := by omega
    refine loop2 xs.length (fun i V1 => V = V1 ∧ ∀ j, j < i → xs[j]? = ys[j]?) ⟨rfl, fun _ h => absurd h (Nat.not_lt_zero _)⟩ ?_
    rintro i b V1 J hi ⟨rfl, ha⟩ hJ
    refine ⟨fun hlt => ?_, fun hge => ?_⟩
    · obtain ⟨x, hm, hx, hdr, hll, hp, hz, hrow⟩ := h1.get hlt
      obtain ⟨y, hmy, hy, hdy, hly, hpy, hzy, hrowy⟩ := h2.get (i := i) (by omega)
      refine ⟨hp, hz, hlt, _, hrow, hpy, hzy, by omega, _, hrowy, fun e => ⟨h1.succ hlt, hJ hll _ _ ⟨rfl, fun j hj => ?_⟩⟩, fun e => ?_⟩
      · rcases Nat.lt_succ_iff_lt_or_eq.1 hj with h' | rfl
        · exact ha j h'
        · rw [hx, hy, e]
      · rw [decide_eq_false (fun h => e (by rw [h, hy] at hx; cases hx; rfl))]; exact ⟨rfl, rfl⟩
    · have : xs = ys := List.ext_getElem? fun j => by
        rcases Nat.lt_or_ge j xs.length with h' | h'
        · have := (h1.done hge).2; exact ha j (by omega)
        · rw [List.getElem?_eq_none h', List.getElem?_eq_none (by omega)]
      rw [decide_eq_true this]; exact ⟨rfl, rfl⟩
  · rw [decide_eq_false (fun h => by rw [h] at n1; omega)]; exact ⟨rfl, rfl⟩
end
end Go.Proofs
