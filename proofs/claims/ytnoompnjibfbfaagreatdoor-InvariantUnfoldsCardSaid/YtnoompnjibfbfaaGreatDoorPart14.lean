/- Part 14 of a proof of a law of this seat: no statement of the seat is proved here. -/
import Derived.Test.YtnoompnjibfbfaaGreatDoorPart13
import Derived.Test.YtnoompnjibfbfaaGreatDoorPart04
import Derived.Tactics
import Derived.TacticsIn
import Derived.RangeFuncNested
import Derived.Test.YtnoompnjibfbfaaGreatDoorPart05
set_option linter.unusedVariables false
set_option linter.unusedSimpArgs false
namespace Go.Sx
open Go
section
variable {P : Program}
def rec0 (fn : FuncId) (tmps : Array Value) (ps : Array Tmp) (assign body : Code) (D : Nat) : Loop := { state := .ready, pending := none, fn, tmps, params := ps, assign, body, defers := D }
theorem range_rule {g : Operand} {ps : Array Tmp} {assign body : Code} {a : Act} {w : World} {V : Mem} {f : FuncId} {caps : Array Value} {n : Nat} {Q : Exit -> Act -> World -> Prop} {Φ : Mem -> Prop}
  (hV : V.le w) (hg : a.eval g = .func (.func f) #[] caps) (eg : ∀ args w, (callFunc f args).run P w = .ok (.enter f args) w)
  (hit : ∀ fn l D, V l = none -> Tri P f (#[.func (.yield l) #[] #[]] ++ caps) (V.set l (.loop (rec0 fn a.tmps ps assign body D))) fun e V' => (∃ v, e = .returned v) /\ ∃ V2, V' = V2.set l (.loop (rec0 fn a.tmps ps assign body D)) /\ V2 l = none /\ Φ V2)
  (hdone : ∀ D V' W, w.heap.size <= D -> Frm V w V' W -> V' D = none -> W.heap[D]? = some (.deferred (some [])) -> Φ V' -> Q .normal { a with defers := { target := .collected D, args := #[] } :: a.defers } W) :
  (Code.rangeFunc g ps assign body).wpIn (wideR none) n P Q a w := by
 refine wpIn_rangeFunc fun fn _ => ?_
 obtain ⟨W1, hW1⟩ : ∃ W1, (w.alloc (.deferred (some []))).alloc (.loop (rec0 fn a.tmps ps assign body w.heap.size)) = W1 := ⟨_, rfl⟩
 have hs1 : W1.heap.size = w.heap.size + 2 := by rw [<- hW1]; simp
 have hL1 : W1.heap[w.heap.size + 1]? = some (.loop (rec0 fn a.tmps ps assign body w.heap.size)) := by
  rw [<- hW1]; have := World.alloc_heap_new (w.alloc (.deferred (some []))) (.loop (rec0 fn a.tmps ps assign body w.heap.size)); rwa [World.size_alloc] at this
 have hK1 : W1.heap[w.heap.size]? = some (.deferred (some [])) := by
  rw [<- hW1]; exact (Go.RowKit.Below.heap_alloc _ _ _ (by simp)).trans (World.alloc_heap_new w _)
 have hold : ∀ b, b < w.heap.size -> W1.heap[b]? = w.heap[b]? := fun b hb => by
  rw [<- hW1]; exact (Go.RowKit.Below.heap_alloc _ _ _ (by simp; omega)).trans (Go.RowKit.Below.heap_alloc _ _ _ hb)
 have hVn : ∀ b, w.heap.size <= b -> V b = none := fun b hb => by
  cases hc : V b with
  | none => rfl
  | some o => have := (Array.getElem?_eq_some_iff.1 (hV b o hc)).1; omega
 have hle : (V.set (w.heap.size + 1) (.loop (rec0 fn a.tmps ps assign body w.heap.size))).le W1 := fun b o hb => by
  by_cases e : b = w.heap.size + 1
  ·subst e; rw [Mem.set_same] at hb; rw [hL1, <- hb]
  ·rw [Mem.set_ne e] at hb
   have := (Array.getElem?_eq_some_iff.1 (hV b o hb)).1
   rw [hold b this]; exact hV b o hb
 refine ⟨w.heap.size + 1, [{ target := .collected w.heap.size, args := #[] }], W1, { target := .fn (.func f) caps, args := #[.func (.yield (w.heap.size + 1)) #[] #[]] }, W1, f,
  #[.func (.yield (w.heap.size + 1)) #[] #[]] ++ caps, W1, ?_, ?_, ?_, ?_, fun h => by simp [wideR, Fence.wide] at h, ?_⟩
 ·rw [<- hW1]; exact run_enterLoop_outer _ _ _ _ _
 ·simp only [resolve, hg]
  simp [go_sem]
 ·intro f' hf'; trivial
 ·simp [invoke, go_sem, eg]
 ·refine callsIn_wideR.2 (calls_mono (hit fn (w.heap.size + 1) w.heap.size (hVn _ (by omega)) W1 hle) ?_)
  rintro e W3 ⟨V', ⟨⟨v, rfl⟩, V2, rfl, h2, hΦ⟩, hF⟩
  have hl3 : W3.heap[w.heap.size + 1]? = some (.loop (rec0 fn a.tmps ps assign body w.heap.size)) := hF.le _ _ (Mem.set_same _ _ _)
  have hlt : w.heap.size + 1 < W3.heap.size := (Array.getElem?_eq_some_iff.1 hl3).1
  refine ⟨none, _, run_endLoop (P := P) hl3 (by simp [rec0]), ?_⟩
  have hD0 : (V.set (w.heap.size + 1) (.loop (rec0 fn a.tmps ps assign body w.heap.size))) w.heap.size = none := by
   rw [Mem.set_ne (by omega)]; exact hVn _ (Nat.le_refl _)
  have hD3 : W3.heap[w.heap.size]? = some (.deferred (some [])) := (hF.old _ (by omega) hD0).trans hK1
  refine hdone w.heap.size V2 _ (Nat.le_refl _) ?_ ?_ ((World.putObj_heap_other (by omega)).trans hD3) hΦ
  ·refine ⟨?_, fun b o hb => ?_, fun b hb hn => ?_, fun b hb => ?_, ?_, ?_⟩
   ·have := hF.size; rw [World.putObj_size]; omega
   ·have e : b ≠ w.heap.size + 1 := fun e => by subst e; rw [h2] at hb; cases hb
    refine (World.putObj_heap_other e).trans (hF.le b o ?_)
    rw [Mem.set_ne e]; exact hb
   ·refine (World.putObj_heap_other (by omega)).trans ((hF.old b (by omega) ?_).trans (hold b hb))
    rw [Mem.set_ne (by omega)]; exact hn
   ·have e : b ≠ w.heap.size + 1 := fun e => by subst e; exact hb h2
    rcases hF.dom b (by rw [Mem.set_ne e]; exact hb) with h | h
    ·rw [Mem.set_ne e] at h; exact .inl h
    ·exact .inr (by omega)
   ·show W3.os = w.os; rw [hF.os, <- hW1]; rfl
   ·show W3.output = w.output; rw [hF.out, <- hW1]; rfl
  ·cases hc : V2 w.heap.size with
   | none => rfl
   | some o =>
    rcases hF.dom w.heap.size (by rw [Mem.set_ne (by omega), hc]; simp) with h | h
    ·exact absurd hD0 h
    ·omega
theorem round_rule {l : Nat} {V : Mem} {w : World} {fn : FuncId} {tmps : Array Value} {ps : Array Tmp} {assign body : Code} {D : Nat} {args : Array Value} {N n : Nat} (hl : V l = none)
  (hV : (V.set l (.loop (rec0 fn tmps ps assign body D))).le w) {insA : List (Nat × Value)} {outsA : List Nat} {RA : List Value -> Mem -> Prop} {J : Mem -> Prop} (hN : ((ps.zip args).foldl (fun t (p, v) => t.setIfInBounds p v) tmps).size = N)
  (hins : ∀ s v, insA.lookup s = some v -> ((ps.zip args).foldl (fun t (p, v) => t.setIfInBounds p v) tmps).getD s undef = v)
  (hA : Seg P N [assign] insA outsA V RA) (hB : ∀ vs V1, RA vs V1 -> Seg P N [body] (outsA.zip vs) [] V1 fun _ V2 => J V2) :
  RoundIn (wideR none) n P l fn ((ps.zip args).foldl (fun t (p, v) => t.setIfInBounds p v) tmps) assign body w fun e w' =>
   e = .returned (.bool true) /\ ∃ V2, J V2 /\ V2 l = none /\ Frm (V.set l (.loop (rec0 fn tmps ps assign body D))) w (V2.set l (.loop (rec0 fn tmps ps assign body D))) w' := by
 have hlw : w.heap[l]? = some (.loop (rec0 fn tmps ps assign body D)) := hV l _ (Mem.set_same _ _ _)
 have hllt : l < w.heap.size := (Array.getElem?_eq_some_iff.1 hlw).1
 have hVle : V.le w := fun b o hb => by
  have e : b ≠ l := fun e => by subst e; rw [hl] at hb; cases hb
  exact hV b o (by rw [Mem.set_ne e]; exact hb)
 refine roundIn_of_wpIn (F := wideR none) trivial ?_
 have h1 := hA (some l) n { tmps := (ps.zip args).foldl (fun t (p, v) => t.setIfInBounds p v) tmps, defers := [] } w hVle hN hins
 refine wpIn_mono (show assign.wpIn (wideR (some l)) n P _ _ w from h1) ?_
 rintro e a1 w1 he
 cases e with
 | normal =>
  obtain ⟨_, hd1, hN1, vs, V1, hs1, hR1, hF1⟩ := he
  have hl1 : w1.heap[l]? = some (.loop (rec0 fn tmps ps assign body D)) := (hF1.old l hllt hl).trans hlw
  refine ⟨_, run_beginRound hl1 rfl, ?_⟩
  have hlt1 : l < w1.heap.size := (Array.getElem?_eq_some_iff.1 hl1).1
  have hV1l : V1 l = none := by
   cases hc : V1 l with
   | none => rfl
   | some o =>
    rcases hF1.dom l (by rw [hc]; simp) with h | h
    ·exact absurd hl h
    ·omega
  have hV1 : V1.le (w1.putObj l (.loop { rec0 fn tmps ps assign body D with state := .busy })) := fun b o hb => by
   have e : b ≠ l := fun e => by subst e; rw [hV1l] at hb; cases hb
   exact (World.putObj_heap_other e).trans (hF1.le b o hb)
  have h2 := hB vs V1 hR1 (some l) n a1 _ hV1 hN1 hs1
  refine wpIn_mono (show body.wpIn (wideR (some l)) n P _ _ _ from h2) ?_
  rintro e a2 w2 he2
  cases e with
  | normal =>
   obtain ⟨_, _, _, _, V2, _, hJ, hF2⟩ := he2
   have hl2 : w2.heap[l]? = some (.loop { rec0 fn tmps ps assign body D with state := .busy }) := (hF2.old l (by rw [World.putObj_size]; exact hlt1) hV1l).trans (World.putObj_heap_same hlt1)
   have hlt2 : l < w2.heap.size := (Array.getElem?_eq_some_iff.1 hl2).1
   have hV2l : V2 l = none := by
    cases hc : V2 l with
    | none => rfl
    | some o =>
     rcases hF2.dom l (by rw [hc]; simp) with h | h
     ·exact absurd hV1l h
     ·rw [World.putObj_size] at h; omega
   refine ⟨_, _, run_endRound (P := P) none hl2, rfl, V2, hJ, hV2l, ?_⟩
   have z2 := hF2.size
   rw [World.putObj_size] at z2
   have z1 := hF1.size
   refine ⟨?_, fun b o hb => ?_, fun b hb hn => ?_, fun b hb => ?_, ?_, ?_⟩
   ·rw [World.putObj_size]; omega
   ·by_cases e : b = l
    ·subst e
     rw [Mem.set_same] at hb
     rw [<- hb]; exact World.putObj_heap_same hlt2
    ·rw [Mem.set_ne e] at hb
     exact (World.putObj_heap_other e).trans (hF2.le b o hb)
   ·have e : b ≠ l := fun e => by subst e; rw [Mem.set_same] at hn; cases hn
    rw [Mem.set_ne e] at hn
    have hn1 : V1 b = none := by
     cases hc : V1 b with
     | none => rfl
     | some o =>
      rcases hF1.dom b (by rw [hc]; simp) with h | h
      ·exact absurd hn h
      ·omega
    refine (World.putObj_heap_other e).trans ((hF2.old b (by rw [World.putObj_size]; omega) hn1).trans ((World.putObj_heap_other e).trans (hF1.old b hb hn)))
   ·by_cases e : b = l
    ·subst e; exact .inl (by rw [Mem.set_same]; simp)
    ·rw [Mem.set_ne e] at hb ⊢
     rcases hF2.dom b hb with h | h
     ·rcases hF1.dom b h with h | h
      ·exact .inl h
      ·exact .inr h
     ·exact .inr (by rw [World.putObj_size] at h; omega)
   ·show w2.os = w.os; rw [hF2.os]; exact hF1.os
   ·show w2.output = w.output; rw [hF2.out]; exact hF1.out
  | _ => exact absurd he2.1 (by simp)
 | _ => exact absurd he.1 (by simp)
theorem tri_of_marks {f : FuncId} {fn : Func} {c : Code} {args : Array Value} {V : Mem} {R : Ending -> Mem -> Prop} (hf : P.funcs[f]? = some fn) (hb : fn.body = some c)
  (h : ∀ w, V.le w -> wpL none 0 P (fun e a' w' => (e = .normal ∨ e = .ret) /\ ∃ Ds : List Nat, a'.defers = Ds.map (fun D => { target := .collected D, args := #[] }) /\ Ds.Nodup /\ ∃ V', Frm V w V' w' /\
    (∀ D ∈ Ds, w.heap.size <= D /\ w'.heap[D]? = some (.deferred (some [])) /\ V' D = none) /\ ∃ v, (∀ w'', V'.le w'' -> (results fn a'.tmps).run P w'' = .ok v w'') /\ R (.returned v) V')
   (flat c) { tmps := args ++ Array.replicate (fn.ntmps - args.size) undef, defers := [] } w) : Tri P f args V R := by
 intro w hV
 have key : ∀ (Ds : List Nat) (a' : Act) (V' : Mem) (v : Value) (w' : World), Ds.Nodup -> Frm V w V' w' -> (∀ D ∈ Ds, w.heap.size <= D /\ w'.heap[D]? = some (.deferred (some [])) /\ V' D = none) ->
   (∀ w'', V'.le w'' -> (results fn a'.tmps).run P w'' = .ok v w'') -> R (.returned v) V' ->
   LeavesInM (wideR none) 0 P fn a'.tmps (fun e w' => ∃ V', R e V' /\ Frm V w V' w') (Ds.map fun D => { target := .collected D, args := #[] }) .returning w' := by
  intro Ds a' V' v
  induction Ds with
  | nil => intro w' _ hF _ hr hR; exact ⟨v, hr w' hF.le, V', hR, hF⟩
  | cons D Ds ih =>
   intro w' hnd hF hD hr hR
   obtain ⟨hD1, hD2, hD3⟩ := hD D (by simp)
   have hlt := (Array.getElem?_eq_some_iff.1 hD2).1
   refine ⟨by simp, .inl ⟨D, _, rfl, run_takeDeferred hD2, ih _ (List.nodup_cons.1 hnd).2 ?_ ?_ hr hR⟩⟩
   ·refine ⟨by rw [World.putObj_size]; exact hF.size, fun b o hb => ?_, fun b hb hn => ?_, hF.dom, hF.os, hF.out⟩
    ·have e : b ≠ D := fun e => by subst e; rw [hD3] at hb; cases hb
     exact (World.putObj_heap_other e).trans (hF.le b o hb)
    ·exact (World.putObj_heap_other (by omega)).trans (hF.old b hb hn)
   ·intro D' hD'
    obtain ⟨g1, g2, g3⟩ := hD D' (by simp [hD'])
    have e : D' ≠ D := fun e => by subst e; exact (List.nodup_cons.1 hnd).1 hD'
    exact ⟨g1, (World.putObj_heap_other e).trans g2, g3⟩
 refine (callsIn_wide (n := 0)).1 (callsIn_of_wp_marks (F := wideR none) hf hb trivial (wpIn_flat ?_) rfl)
 refine wpL_mono ?_ (h w hV)
 rintro e a' w' ⟨he, Ds, hd, hnd, V', hF, hD, v, hr, hR⟩
 rcases he with rfl | rfl
 ·show LeavesInM _ _ _ _ _ _ a'.defers _ _
  rw [hd]; exact key Ds a' V' v w' hnd hF hD hr hR
 ·show LeavesInM _ _ _ _ _ _ a'.defers _ _
  rw [hd]; exact key Ds a' V' v w' hnd hF hD hr hR
end
def kid : Code -> Nat -> Code
 | .block _ b, _ => b
 | .loop b, _ => b
 | .cond _ x y, j => if j = 0 then x else y
 | .rangeFunc _ _ x y, j => if j = 0 then x else y
 | c, _ => c
def subL (c : Code) : List Nat -> List Code
 | i :: j :: p => match (flat c)[i]? with | some d => subL (kid d j) p | none => []
 | _ => flat c
def opsOf : Code -> Array Oper
 | .region _ ops _ => ops
 | _ => #[]
def bodyOf (f : Func) : Code := f.body.getD .skip
section
variable {P : Program} {fs : List Nat} {H : Hint}
def SegO (P : Program) (N : Nat) (ops : Array Oper) (k m : Nat) (ins : List (Nat × Value)) (outs : List Nat) (V : Mem) (R : List Value -> Mem -> Prop) : Prop :=
 ∀ r n a w, V.le w -> a.tmps.size = N -> (∀ s v, ins.lookup s = some v -> a.tmps.getD s undef = v) ->
  wpOpsIn (wideR r) n P ops (fun e a' w' => e = .normal /\ a'.defers = a.defers /\ a'.tmps.size = N /\ ∃ vs V', (∀ s v, (outs.zip vs).lookup s = some v -> a'.tmps.getD s undef = v) /\ R vs V' /\ Frm V w V' w') (List.range' k m) a w
def segOT (P : Program) (fs : List Nat) (H : Hint) (ops : Array Oper) (k m : Nat) (slots : List (Nat × T)) (nv : Nat) (outs : List Nat) : Tr :=
 if (slots.all fun x => x.2.wf nv 0) /\ (ops.all fun o => opNoDefer o.op) /\ ((ops.toList.drop k).take m).length = m then
  exOps P fs H ops ((ops.toList.drop k).take m) { slots, boxes := [], nv, nb := 0, depth := 0 } fun st =>
   pubT (st.nb + 2) st (fun st => (getAll st outs).map T.tup) fun _ t => .ret t
 else .bad 61 0
theorem sego_sound (hcalls : CallsOk P fs) {N : Nat} {ops : Array Oper} {k m : Nat} {slots : List (Nat × T)} {nv : Nat} {outs : List Nat} {t : Tr} (ht : segOT P fs { H with N := N } ops k m slots nv outs = t) (ρ : List Value) (hn : ρ.length = nv)
  {ins : List (Nat × Value)} (hins : ins = slots.map fun x => (x.1, x.2.ev ρ id)) {V : Mem} {R : List Value -> Mem -> Prop} {q : Prop} (hq : q = DT P {} (fun e V' => ∃ vs : List Value, e = .returned (.tuple vs.toArray) /\ R vs V') t [] ρ V) (h : q) :
  SegO P N ops k m ins outs V R := by
 intro r n a w hV hN hs
 subst hq hins ht
 have hD := D_of_DT _ _ _ _ h
 unfold segOT at hD
 split at hD
 case isFalse => exact hD.elim
 rename_i hw
 obtain ⟨hwf, hnd, hlen⟩ := hw
 have e1 : (List.range' k m) = List.range' k ((ops.toList.drop k).take m).length := by rw [hlen]
 rw [e1]
 refine wpOpsIn_of_wpList (fun h => by obtain ⟨_, _, h, _⟩ := h; cases h) (fun o ho => opNoDefer_spec (by simp only [Array.all_eq_true'] at hnd; exact hnd o ho)) _ _ (fun j hj => ?_) a w ?_
 ·rw [hlen] at hj
  simp [hj, List.getElem?_drop]
 refine exOps_sound (L := []) (ρ0 := ρ) (V0 := V) (w0 := w) (O := noO) hcalls _ _ a w (fun _ _ _ _ h => by obtain ⟨_, ⟨_, h, _⟩, _⟩ := h; cases h) ⟨id, ρ, V, ⟨List.prefix_refl _, rfl⟩, ?_, hD⟩ ?_
 ·exact
   {nv := hn
    size := hN
    slots := fun s t hg => by
     have hl := get_lookup hg
     exact hs s _ (lookup_map_snd (f := fun t => t.ev ρ id) hl)
    frm := Frm.refl hV
    boxes := fun i cs ty hi => by simp [St.box] at hi
    hid := fun b o hb => by cases hb
    inj := fun i j hi _ _ => by simp [St.box] at hi }
 ·intro st' a' w' hd hg
  obtain ⟨st2, t2, hg2, hfree, β, ρ2, V2, hp, hr, hD⟩ := pubT_sound _ _ _ _ hg
  simp only [Option.map_eq_some_iff] at hg2
  obtain ⟨x, hx, rfl⟩ := hg2
  simp only [D] at hD
  obtain ⟨vs, h1, h2⟩ := hD
  simp only [T.ev, Ending.returned.injEq, Value.tuple.injEq] at h1
  have h1' : T.evs ρ2 id x = vs := by simpa using congrArg Array.toList h1
  refine ⟨rfl, hd, hr.size, vs, V2, fun s v hsv => ?_, h2, hr.frm⟩
  rw [<- h1', evs_toList] at hsv
  obtain ⟨t, g1, g2, g3⟩ := lookup_zip_map hsv
  obtain ⟨y, g4, g5⟩ := getAll_some hx s g3
  have g6 := getAll_lookup hx s g3
  rw [g1, g4] at g6
  simp only [Option.some.injEq] at g6; subst g6
  rw [hr.slots s t g4, <- g2]
  have hf : t.firstBox = none := free_mem (by simpa [T.firstBox] using hfree) g5
  exact (T.ev_free t hf).1
theorem wpOpIn_monoQ {F : Fence} {n : Nat} {ops : Array Oper} {Q Q' : Exit -> Act -> World -> Prop} (hp : ∀ c a w, Q' (.panic c) a w -> Q (.panic c) a w) (ho : LetsOut Q' -> LetsOut Q) {i : Nat} {a : Act} {w : World} {K K' : Act -> World -> Prop} (h : ∀ a w, K a w -> K' a w)
  (hh : wpOpIn F n P ops Q' i K a w) : wpOpIn F n P ops Q i K' a w := by
 unfold wpOpIn at *
 split
 ·exact h _ _ (by simpa [*] using hh)
 ·rename_i o hoi
  simp only [hoi] at hh
  split
  ·rename_i hw
   simp only [hw, if_true] at hh
   unfold Oper.wpIn at *
   refine ⟨hh.1, ?_⟩
   have hh := hh.2
   generalize (o.semAt F.round a.eval).run P w = r at *
   cases r with
   | ok x w' =>
    cases x <;> simp only [Oper.uponIn] at hh ⊢ <;>
     first
      | exact h _ _ hh
      | exact ⟨hh.1, CallsIn.mono hh.2 (fun e w'' he => by cases e <;> first | exact h _ _ he | exact hp _ _ _ he | exact ho he)⟩
      | exact ⟨hh.1, RowsIn.mono hh.2 (fun _ _ he => h _ _ he)⟩
      | exact ⟨hh.1, RoundIn.mono hh.2 (fun e w'' he => by cases e <;> first | exact h _ _ he | exact hp _ _ _ he | exact ho he)⟩
   | halt x w' => cases x <;> simp only [Oper.uponIn] at hh ⊢ <;> first | exact hp _ _ _ hh | exact hh
  ·rename_i hw; simp only [hw] at hh; exact ⟨hh.1, h _ _ hh.2⟩
theorem wpOpsIn_append {F : Fence} {n : Nat} {ops : Array Oper} {Q Q' : Exit -> Act -> World -> Prop} (hp : ∀ c a w, Q' (.panic c) a w -> Q (.panic c) a w) (ho : LetsOut Q' -> LetsOut Q) {l2 : List Nat} (hq : ∀ a w, Q' .normal a w -> wpOpsIn F n P ops Q l2 a w) : ∀ {l1 : List Nat} {a : Act} {w : World},
  wpOpsIn F n P ops Q' l1 a w -> wpOpsIn F n P ops Q (l1 ++ l2) a w := by
 intro l1
 induction l1 with
 | nil => exact fun h => hq _ _ h
 | cons i l1 ih =>
  intro a w h
  rw [List.cons_append]
  rw [wpOpsIn_cons] at h ⊢
  exact wpOpIn_monoQ hp ho (fun a w => ih) h
end
end Go.Sx
namespace Go.Proofs
open Go Go.Sx
set_option maxRecDepth 100000
set_option linter.unusedVariables false
section
variable {V : Mem} {R : RP}
theorem seg_dx {H : Hint} {N : Nat} {cs : List Code} (slots : List (Nat × T)) {outs : List Nat} (ρ : List Value) {ins : List (Nat × Value)} (hins : ins = slots.map fun x => (x.1, x.2.ev ρ id)) {V : Mem} {R : List Value -> Mem -> Prop} {q : Prop}
  (hq : q = DT Tryz.prog {} (fun e V' => ∃ vs : List Value, e = .returned (.tuple vs.toArray) /\ R vs V') (segT Tryz.prog fs { H with N := N } cs slots ρ.length outs) [] ρ V) (h : q) : Seg Tryz.prog N cs ins outs V R :=
 seg_sound (H := H) calls_ok mixed_ok rfl ρ rfl hins hq h
theorem sego_dx {H : Hint} {N : Nat} {ops : Array Oper} {k m : Nat} (slots : List (Nat × T)) {outs : List Nat} (ρ : List Value) {ins : List (Nat × Value)} (hins : ins = slots.map fun x => (x.1, x.2.ev ρ id)) {V : Mem} {R : List Value -> Mem -> Prop} {q : Prop}
  (hq : q = DT Tryz.prog {} (fun e V' => ∃ vs : List Value, e = .returned (.tuple vs.toArray) /\ R vs V') (segOT Tryz.prog fs { H with N := N } ops k m slots ρ.length outs) [] ρ V) (h : q) : SegO Tryz.prog N ops k m ins outs V R :=
 sego_sound (H := H) calls_ok rfl ρ rfl hins hq h
noncomputable def c238a : List Code := ((subL (bodyOf Tryz.f238) []).drop 0).take 1
def w238a (v0 : Value) (v1 : Option Addr) (V : Mem) (R : RP) : Prop :=
 ∃ v2, V.rowp v1 ((0 : Int).toNat * 1) 1 = some [uL v2] /\
 IR ((v2.n : Int) - 1) /\ R (rT #[K.cast .f v0, uP v1, uI ((v2.n : Int) - 1)]) V
theorem s238a {v0 : Value} {v1 : Option Addr} {V : Mem} {R : List Value -> Mem -> Prop} (h : w238a v0 v1 V (fun e V' => ∃ vs : List Value, e = .returned (.tuple vs.toArray) /\ R vs V')) : Seg Tryz.prog 19 c238a [(0, K.cast .f v0), (1, uP v1)] [0, 1, 3] V R :=
 seg_dx (H := hK 19) [(0, (.var .f 0)), (1, (.var .p 1))] [v0, uP v1] rfl (by kernel_rfl) h
noncomputable def c238b : List Code := ((subL (bodyOf Tryz.f238) [1, 0, 0, 0]).drop 0).take 1
def w238b (v0 : Value) (v1 : Option Addr) (v2 : Int) (V : Mem) (R : RP) : Prop :=
 R (rT #[K.cast .f v0, uP v1, uI v2, uB (decide (0 <= v2))]) V
theorem s238b {v0 : Value} {v1 : Option Addr} {v2 : Int} {V : Mem} {R : List Value -> Mem -> Prop} (h : w238b v0 v1 v2 V (fun e V' => ∃ vs : List Value, e = .returned (.tuple vs.toArray) /\ R vs V')) : Seg Tryz.prog 19 c238b [(0, K.cast .f v0), (1, uP v1), (3, uI v2)] [0, 1, 3, 8] V R :=
 seg_dx (H := hK 19) [(0, (.var .f 0)), (1, (.var .p 1)), (3, (.var (.i .i64) 2))] [v0, uP v1, uI v2] rfl (by kernel_rfl) h
noncomputable def c238c : Array Oper := opsOf ((subL (bodyOf Tryz.f238) [1, 0, 0, 0, 2, 0]).getD 0 .skip)
def w238c (v0 : Value) (v1 : Option Addr) (v2 : Int) (V : Mem) (R : RP) : Prop :=
 ∃ v3, V.rowp v1 ((0 : Int).toNat * 1) 1 = some [uL v3] /\
 Ix v3 v2 (∃ v4 v5, V.rowp v3.p (v2.toNat * 2) 2 = some [uS v4, uS v5] /\
 R (rT #[K.cast .f v0, uP v1, uI v2, K.cast .f v0, uI v2, uA #[uS v4, uS v5]]) V)
theorem s238c {v0 : Value} {v1 : Option Addr} {v2 : Int} {V : Mem} {R : List Value -> Mem -> Prop} (h : w238c v0 v1 v2 V (fun e V' => ∃ vs : List Value, e = .returned (.tuple vs.toArray) /\ R vs V')) : SegO Tryz.prog 19 c238c 0 6 [(0, K.cast .f v0), (1, uP v1), (3, uI v2)] [0, 1, 3, 11, 12, 16] V R :=
 sego_dx (H := hK 19) [(0, (.var .f 0)), (1, (.var .p 1)), (3, (.var (.i .i64) 2))] [v0, uP v1, uI v2] rfl (by kernel_rfl) h
noncomputable def c238d : Array Oper := opsOf ((subL (bodyOf Tryz.f238) [1, 0, 0, 0, 2, 0]).getD 0 .skip)
def w238d (v0 : Value) (v1 : Option Addr) (v2 : Int) (v3 : Bool) (V : Mem) (R : RP) : Prop :=
 R (rT #[K.cast .f v0, uP v1, uI v2, uB (!v3)]) V
theorem s238d {v0 : Value} {v1 : Option Addr} {v2 : Int} {v3 : Bool} {V : Mem} {R : List Value -> Mem -> Prop} (h : w238d v0 v1 v2 v3 V (fun e V' => ∃ vs : List Value, e = .returned (.tuple vs.toArray) /\ R vs V')) : SegO Tryz.prog 19 c238d 7 1 [(0, K.cast .f v0), (1, uP v1), (3, uI v2), (17, uB v3)] [0, 1, 3, 18] V R :=
 sego_dx (H := hK 19) [(0, (.var .f 0)), (1, (.var .p 1)), (3, (.var (.i .i64) 2)), (17, (.var .b 3))] [v0, uP v1, uI v2, uB v3] rfl (by kernel_rfl) h
noncomputable def c238e : List Code := ((subL (bodyOf Tryz.f238) [1, 0, 0, 0]).drop 3).take 1
def w238e (v0 : Value) (v1 : Option Addr) (v2 : Int) (V : Mem) (R : RP) : Prop :=
 IR (v2 - 1) /\ R (rT #[K.cast .f v0, uP v1, uI (v2 - 1)]) V
theorem s238e {v0 : Value} {v1 : Option Addr} {v2 : Int} {V : Mem} {R : List Value -> Mem -> Prop} (h : w238e v0 v1 v2 V (fun e V' => ∃ vs : List Value, e = .returned (.tuple vs.toArray) /\ R vs V')) : Seg Tryz.prog 19 c238e [(0, K.cast .f v0), (1, uP v1), (3, uI v2)] [0, 1, 3] V R :=
 seg_dx (H := hK 19) [(0, (.var .f 0)), (1, (.var .p 1)), (3, (.var (.i .i64) 2))] [v0, uP v1, uI v2] rfl (by kernel_rfl) h
noncomputable def c213a : List Code := ((subL (bodyOf Tryz.f213) []).drop 0).take 1
def w213a (v0 : Value) (v1 : Option Addr) (V : Mem) (R : RP) : Prop :=
 ∃ v2, V.rowp v1 ((0 : Int).toNat * 1) 1 = some [uL v2] /\
 IR ((v2.n : Int) - 1) /\ R (rT #[K.cast .f v0, uP v1, uI ((v2.n : Int) - 1)]) V
theorem s213a {v0 : Value} {v1 : Option Addr} {V : Mem} {R : List Value -> Mem -> Prop} (h : w213a v0 v1 V (fun e V' => ∃ vs : List Value, e = .returned (.tuple vs.toArray) /\ R vs V')) : Seg Tryz.prog 19 c213a [(0, K.cast .f v0), (1, uP v1)] [0, 1, 3] V R :=
 seg_dx (H := hK 19) [(0, (.var .f 0)), (1, (.var .p 1))] [v0, uP v1] rfl (by kernel_rfl) h
noncomputable def c213b : List Code := ((subL (bodyOf Tryz.f213) [1, 0, 0, 0]).drop 0).take 1
def w213b (v0 : Value) (v1 : Option Addr) (v2 : Int) (V : Mem) (R : RP) : Prop :=
 R (rT #[K.cast .f v0, uP v1, uI v2, uB (decide (0 <= v2))]) V
theorem s213b {v0 : Value} {v1 : Option Addr} {v2 : Int} {V : Mem} {R : List Value -> Mem -> Prop} (h : w213b v0 v1 v2 V (fun e V' => ∃ vs : List Value, e = .returned (.tuple vs.toArray) /\ R vs V')) : Seg Tryz.prog 19 c213b [(0, K.cast .f v0), (1, uP v1), (3, uI v2)] [0, 1, 3, 8] V R :=
 seg_dx (H := hK 19) [(0, (.var .f 0)), (1, (.var .p 1)), (3, (.var (.i .i64) 2))] [v0, uP v1, uI v2] rfl (by kernel_rfl) h
noncomputable def c213c : Array Oper := opsOf ((subL (bodyOf Tryz.f213) [1, 0, 0, 0, 2, 0]).getD 0 .skip)
def w213c (v0 : Value) (v1 : Option Addr) (v2 : Int) (V : Mem) (R : RP) : Prop :=
 ∃ v3, V.rowp v1 ((0 : Int).toNat * 1) 1 = some [uL v3] /\
 Ix v3 v2 (∃ v4 v5, V.rowp v3.p (v2.toNat * 2) 2 = some [uS v4, uL v5] /\
 R (rT #[K.cast .f v0, uP v1, uI v2, K.cast .f v0, uI v2, uA #[uS v4, uL v5]]) V)
theorem s213c {v0 : Value} {v1 : Option Addr} {v2 : Int} {V : Mem} {R : List Value -> Mem -> Prop} (h : w213c v0 v1 v2 V (fun e V' => ∃ vs : List Value, e = .returned (.tuple vs.toArray) /\ R vs V')) : SegO Tryz.prog 19 c213c 0 6 [(0, K.cast .f v0), (1, uP v1), (3, uI v2)] [0, 1, 3, 11, 12, 16] V R :=
 sego_dx (H := hK 19) [(0, (.var .f 0)), (1, (.var .p 1)), (3, (.var (.i .i64) 2))] [v0, uP v1, uI v2] rfl (by kernel_rfl) h
noncomputable def c213d : Array Oper := opsOf ((subL (bodyOf Tryz.f213) [1, 0, 0, 0, 2, 0]).getD 0 .skip)
def w213d (v0 : Value) (v1 : Option Addr) (v2 : Int) (v3 : Bool) (V : Mem) (R : RP) : Prop :=
 R (rT #[K.cast .f v0, uP v1, uI v2, uB (!v3)]) V
theorem s213d {v0 : Value} {v1 : Option Addr} {v2 : Int} {v3 : Bool} {V : Mem} {R : List Value -> Mem -> Prop} (h : w213d v0 v1 v2 v3 V (fun e V' => ∃ vs : List Value, e = .returned (.tuple vs.toArray) /\ R vs V')) : SegO Tryz.prog 19 c213d 7 1 [(0, K.cast .f v0), (1, uP v1), (3, uI v2), (17, uB v3)] [0, 1, 3, 18] V R :=
 sego_dx (H := hK 19) [(0, (.var .f 0)), (1, (.var .p 1)), (3, (.var (.i .i64) 2)), (17, (.var .b 3))] [v0, uP v1, uI v2, uB v3] rfl (by kernel_rfl) h
noncomputable def c213e : List Code := ((subL (bodyOf Tryz.f213) [1, 0, 0, 0]).drop 3).take 1
def w213e (v0 : Value) (v1 : Option Addr) (v2 : Int) (V : Mem) (R : RP) : Prop :=
 IR (v2 - 1) /\ R (rT #[K.cast .f v0, uP v1, uI (v2 - 1)]) V
theorem s213e {v0 : Value} {v1 : Option Addr} {v2 : Int} {V : Mem} {R : List Value -> Mem -> Prop} (h : w213e v0 v1 v2 V (fun e V' => ∃ vs : List Value, e = .returned (.tuple vs.toArray) /\ R vs V')) : Seg Tryz.prog 19 c213e [(0, K.cast .f v0), (1, uP v1), (3, uI v2)] [0, 1, 3] V R :=
 seg_dx (H := hK 19) [(0, (.var .f 0)), (1, (.var .p 1)), (3, (.var (.i .i64) 2))] [v0, uP v1, uI v2] rfl (by kernel_rfl) h
noncomputable def c214a : List Code := ((subL (bodyOf Tryz.f214) []).drop 0).take 1
def w214a (v0 : Value) (v1 : Option Addr) (V : Mem) (R : RP) : Prop :=
 ∃ v2, V.rowp v1 ((0 : Int).toNat * 1) 1 = some [uL v2] /\
 IR ((v2.n : Int) - 1) /\ R (rT #[K.cast .f v0, uP v1, uI ((v2.n : Int) - 1)]) V
theorem s214a {v0 : Value} {v1 : Option Addr} {V : Mem} {R : List Value -> Mem -> Prop} (h : w214a v0 v1 V (fun e V' => ∃ vs : List Value, e = .returned (.tuple vs.toArray) /\ R vs V')) : Seg Tryz.prog 19 c214a [(0, K.cast .f v0), (1, uP v1)] [0, 1, 3] V R :=
 seg_dx (H := hK 19) [(0, (.var .f 0)), (1, (.var .p 1))] [v0, uP v1] rfl (by kernel_rfl) h
noncomputable def c214b : List Code := ((subL (bodyOf Tryz.f214) [1, 0, 0, 0]).drop 0).take 1
def w214b (v0 : Value) (v1 : Option Addr) (v2 : Int) (V : Mem) (R : RP) : Prop :=
 R (rT #[K.cast .f v0, uP v1, uI v2, uB (decide (0 <= v2))]) V
theorem s214b {v0 : Value} {v1 : Option Addr} {v2 : Int} {V : Mem} {R : List Value -> Mem -> Prop} (h : w214b v0 v1 v2 V (fun e V' => ∃ vs : List Value, e = .returned (.tuple vs.toArray) /\ R vs V')) : Seg Tryz.prog 19 c214b [(0, K.cast .f v0), (1, uP v1), (3, uI v2)] [0, 1, 3, 8] V R :=
 seg_dx (H := hK 19) [(0, (.var .f 0)), (1, (.var .p 1)), (3, (.var (.i .i64) 2))] [v0, uP v1, uI v2] rfl (by kernel_rfl) h
noncomputable def c214c : Array Oper := opsOf ((subL (bodyOf Tryz.f214) [1, 0, 0, 0, 2, 0]).getD 0 .skip)
def w214c (v0 : Value) (v1 : Option Addr) (v2 : Int) (V : Mem) (R : RP) : Prop :=
 ∃ v3, V.rowp v1 ((0 : Int).toNat * 1) 1 = some [uL v3] /\
 Ix v3 v2 (∃ v4 v5 v6 v7 v8, V.rowp v3.p (v2.toNat * 5) 5 = some [uS v4, uL v5, uS v6, uL v7, uL v8] /\
 R (rT #[K.cast .f v0, uP v1, uI v2, K.cast .f v0, uI v2, uA #[uS v4, uL v5, uS v6, uL v7, uL v8]]) V)
theorem s214c {v0 : Value} {v1 : Option Addr} {v2 : Int} {V : Mem} {R : List Value -> Mem -> Prop} (h : w214c v0 v1 v2 V (fun e V' => ∃ vs : List Value, e = .returned (.tuple vs.toArray) /\ R vs V')) : SegO Tryz.prog 19 c214c 0 6 [(0, K.cast .f v0), (1, uP v1), (3, uI v2)] [0, 1, 3, 11, 12, 16] V R :=
 sego_dx (H := hK 19) [(0, (.var .f 0)), (1, (.var .p 1)), (3, (.var (.i .i64) 2))] [v0, uP v1, uI v2] rfl (by kernel_rfl) h
noncomputable def c214d : Array Oper := opsOf ((subL (bodyOf Tryz.f214) [1, 0, 0, 0, 2, 0]).getD 0 .skip)
def w214d (v0 : Value) (v1 : Option Addr) (v2 : Int) (v3 : Bool) (V : Mem) (R : RP) : Prop :=
 R (rT #[K.cast .f v0, uP v1, uI v2, uB (!v3)]) V
theorem s214d {v0 : Value} {v1 : Option Addr} {v2 : Int} {v3 : Bool} {V : Mem} {R : List Value -> Mem -> Prop} (h : w214d v0 v1 v2 v3 V (fun e V' => ∃ vs : List Value, e = .returned (.tuple vs.toArray) /\ R vs V')) : SegO Tryz.prog 19 c214d 7 1 [(0, K.cast .f v0), (1, uP v1), (3, uI v2), (17, uB v3)] [0, 1, 3, 18] V R :=
 sego_dx (H := hK 19) [(0, (.var .f 0)), (1, (.var .p 1)), (3, (.var (.i .i64) 2)), (17, (.var .b 3))] [v0, uP v1, uI v2, uB v3] rfl (by kernel_rfl) h
noncomputable def c214e : List Code := ((subL (bodyOf Tryz.f214) [1, 0, 0, 0]).drop 3).take 1
def w214e (v0 : Value) (v1 : Option Addr) (v2 : Int) (V : Mem) (R : RP) : Prop :=
 IR (v2 - 1) /\ R (rT #[K.cast .f v0, uP v1, uI (v2 - 1)]) V
theorem s214e {v0 : Value} {v1 : Option Addr} {v2 : Int} {V : Mem} {R : List Value -> Mem -> Prop} (h : w214e v0 v1 v2 V (fun e V' => ∃ vs : List Value, e = .returned (.tuple vs.toArray) /\ R vs V')) : Seg Tryz.prog 19 c214e [(0, K.cast .f v0), (1, uP v1), (3, uI v2)] [0, 1, 3] V R :=
 seg_dx (H := hK 19) [(0, (.var .f 0)), (1, (.var .p 1)), (3, (.var (.i .i64) 2))] [v0, uP v1, uI v2] rfl (by kernel_rfl) h
noncomputable def c138a : List Code := ((subL (bodyOf Tryz.f138) []).drop 0).take 3
def w138a (v0 : Option Addr) (v1 : Bool) (v2 : Sl) (V : Mem) (R : RP) : Prop :=
 GenK Tryz.prog (.makeMap 163 none) 163 (gv []) V fun x V1 => ∃ v3, x = uM v3 /\
 ¬ v0 = none /\ ¬ v0 = none /\ ¬ (ptrAdd v0 0) = none /\ ∃ v4, V1.rowp v0 2 1 = some [uL v4] /\
 TT 192 #[uL v4] V1 fun e V2 => ∃ v5, K.f.ok v5 /\ e = rV v5 /\
 PubT [uP none, uM none, uB false] 165 V2 fun v6 V3 =>
 PubT [uP v0, uM v3, uB v1] 165 V3 fun v7 V4 =>
 R (rT #[uP v0, uB v1, uL v2, uP (ptrAdd v6 0), uP (ptrAdd v7 0), K.cast .f v5]) V4
theorem s138a {v0 : Option Addr} {v1 : Bool} {v2 : Sl} {V : Mem} {R : List Value -> Mem -> Prop} (h : w138a v0 v1 v2 V (fun e V' => ∃ vs : List Value, e = .returned (.tuple vs.toArray) /\ R vs V')) : Seg Tryz.prog 63 c138a [(0, uP v0), (1, uB v1), (2, uL v2)] [0, 1, 2, 6, 7, 24] V R :=
 seg_dx (H := hK 63) [(0, (.var .p 0)), (1, (.var .b 1)), (2, (.var .sl 2))] [uP v0, uB v1, uL v2] rfl (by kernel_rfl) h
noncomputable def c138b : List Code := ((subL (bodyOf Tryz.f138) [3, 0, 0, 0]).drop 0).take 1
def w138b (v0 : Option Addr) (v1 v2 : ByteArray) (V : Mem) (R : RP) : Prop :=
 PubT [uS v1, uS v2] 110 V fun v3 V1 =>
 R (rT #[uP v0, uP (ptrAdd v3 0)]) V1
theorem s138b {v0 : Option Addr} {v1 v2 : ByteArray} {V : Mem} {R : List Value -> Mem -> Prop} (h : w138b v0 v1 v2 V (fun e V' => ∃ vs : List Value, e = .returned (.tuple vs.toArray) /\ R vs V')) : Seg Tryz.prog 63 c138b [(7, uP v0), (26, uA #[uS v1, uS v2])] [7, 9] V R :=
 seg_dx (H := hK 63) [(7, (.var .p 0)), (26, (.agg (.cons (.var .s 1) (.cons (.var .s 2) .nil))))] [uP v0, uS v1, uS v2] rfl (by kernel_rfl) h
noncomputable def c138c : List Code := ((subL (bodyOf Tryz.f138) [3, 0, 0, 1]).drop 0).take 1
def w138c (v0 v1 : Option Addr) (V : Mem) (R : RP) : Prop :=
 ¬ v0 = none /\ ∃ v2, V.rowp v0 1 1 = some [uM v2] /\
 ¬ v1 = none /\ ∃ v3, V.rowp v1 ((0 : Int).toNat * 1) 1 = some [uS v3] /\
 ¬ v1 = none /\ ∃ v4, V.rowp v1 1 1 = some [uS v4] /\
 UpdK Tryz.prog 163 (uM v2) (uS v3) (uS v4) V fun V1 =>
 R (rT #[]) V1
theorem s138c {v0 v1 : Option Addr} {V : Mem} {R : List Value -> Mem -> Prop} (h : w138c v0 v1 V (fun e V' => ∃ vs : List Value, e = .returned (.tuple vs.toArray) /\ R vs V')) : Seg Tryz.prog 63 c138c [(7, uP v0), (9, uP v1)] [] V R :=
 seg_dx (H := hK 63) [(7, (.var .p 0)), (9, (.var .p 1))] [uP v0, uP v1] rfl (by kernel_rfl) h
noncomputable def c138d : List Code := ((subL (bodyOf Tryz.f138) []).drop 4).take 4
def w138d (v0 : Option Addr) (v1 : Bool) (v2 : Sl) (v3 v4 : Option Addr) (V : Mem) (R : RP) : Prop :=
 GenK Tryz.prog (.makeMap 251 none) 251 (gv []) V fun x V1 => ∃ v5, x = uM v5 /\
 Lp [uI 0] V1 fun I n V2 => ∀ v6, I n [uI v6] V2 -> ∀ J0 : LMP, Nx I n J0 ->
 Br (v6 < (v2.n : Int))
 (Ix v2 v6 (∃ v7, V2.rowp v2.p (v6.toNat * 1) 1 = some [uL v7] /\
 Lp [uI 0] V2 fun I n V3 => ∀ v8, I n [uI v8] V3 -> ∀ J1 : LMP, Nx I n J1 ->
 Br (v8 < (v7.n : Int))
 (Ix v7 v8 (∃ v9 v10, V3.rowp v7.p (v8.toNat * 2) 2 = some [uS v9, uS v10] /\
 LookK Tryz.prog 251 (uM v5) (uS v9) false V3 fun x => ∃ v11, x = uB v11 /\
 Br (v11 = true)
 (IR (v8 + 1) /\ J1 [uI (v8 + 1)] V3)
 (¬ v4 = none /\ ∃ v12, V3.rowp v4 1 1 = some [uM v12] /\
 UpdK Tryz.prog 163 (uM v12) (uS v9) (uS v10) V3 fun V4 =>
 UpdK Tryz.prog 251 (uM v5) (uS v9) (.bool true) V4 fun V5 =>
 IR (v8 + 1) /\ J1 [uI (v8 + 1)] V5)))
 (IR (v6 + 1) /\ J0 [uI (v6 + 1)] V3)))
 (∃ v7 v8 v9, V2.rowp v4 ((0 : Int).toNat * 1) 3 = some [uP v7, uM v8, uB v9] /\
 StT v3 0 [uP v7, uM v8, uB v9] V2 fun V3 =>
 R (rT #[uP v3]) V3)
theorem s138d {v0 : Option Addr} {v1 : Bool} {v2 : Sl} {v3 v4 : Option Addr} {V : Mem} {R : List Value -> Mem -> Prop} (h : w138d v0 v1 v2 v3 v4 V (fun e V' => ∃ vs : List Value, e = .returned (.tuple vs.toArray) /\ R vs V')) : Seg Tryz.prog 63 c138d [(0, uP v0), (1, uB v1), (2, uL v2), (6, uP v3), (7, uP v4)] [6] V R :=
 seg_dx (H := hK 63) [(0, (.var .p 0)), (1, (.var .b 1)), (2, (.var .sl 2)), (6, (.var .p 3)), (7, (.var .p 4))] [uP v0, uB v1, uL v2, uP v3, uP v4] rfl (by kernel_rfl) h
noncomputable def c110a : List Code := ((subL (bodyOf Tryz.f110) []).drop 0).take 3
def w110a (v0 : ByteArray) (v1 v2 v3 v4 v5 v6 v7 : Sl) (V : Mem) (R : RP) : Prop :=
 GenK Tryz.prog (.makeMap 207 none) 207 (gv []) V fun x V1 => ∃ v8, x = uM v8 /\
 GenK Tryz.prog (.makeMap 208 none) 208 (gv []) V1 fun x V2 => ∃ v9, x = uM v9 /\
 TT 160 #[uL v1] V2 fun e V3 => ∃ v10, K.f.ok v10 /\ e = rV v10 /\
 PubT [uS v0, uL v1, uL v2, uL v3, uL v4, uL v5, uL v6, uL v7] 30 V3 fun v11 V4 =>
 PubT [uS v0, uL v1, uL v2, uL v3, uL v4, uL v5, uL v6, uL v7, uM v8, uM v9] 210 V4 fun v12 V5 =>
 PubT [uP (ptrAdd v12 0)] 160 V5 fun v13 V6 =>
 R (rT #[uP (ptrAdd v11 0), uP (ptrAdd v13 0), K.cast .f v10]) V6
theorem s110a {v0 : ByteArray} {v1 v2 v3 v4 v5 v6 v7 : Sl} {V : Mem} {R : List Value -> Mem -> Prop} (h : w110a v0 v1 v2 v3 v4 v5 v6 v7 V (fun e V' => ∃ vs : List Value, e = .returned (.tuple vs.toArray) /\ R vs V')) : Seg Tryz.prog 38 c110a [(0, uD v0 v1 v2 v3 v4 v5 v6 v7)] [1, 3, 15] V R :=
 seg_dx (H := hK 38) [(0, (.agg (.cons (.var .s 0) (.cons (.var .sl 1) (.cons (.var .sl 2) (.cons (.var .sl 3) (.cons (.var .sl 4) (.cons (.var .sl 5) (.cons (.var .sl 6) (.cons (.var .sl 7) .nil))))))))))] [uS v0, uL v1, uL v2, uL v3, uL v4, uL v5, uL v6, uL v7] rfl (by kernel_rfl) h
noncomputable def c110b : List Code := ((subL (bodyOf Tryz.f110) [3, 0, 0, 0]).drop 0).take 1
def w110b (v0 : Option Addr) (v1 : ByteArray) (v2 : Sl) (V : Mem) (R : RP) : Prop :=
 PubT [uS v1, uL v2] 101 V fun v3 V1 =>
 R (rT #[uP v0, uP (ptrAdd v3 0)]) V1
theorem s110b {v0 : Option Addr} {v1 : ByteArray} {v2 : Sl} {V : Mem} {R : List Value -> Mem -> Prop} (h : w110b v0 v1 v2 V (fun e V' => ∃ vs : List Value, e = .returned (.tuple vs.toArray) /\ R vs V')) : Seg Tryz.prog 38 c110b [(3, uP v0), (17, uA #[uS v1, uL v2])] [3, 5] V R :=
 seg_dx (H := hK 38) [(3, (.var .p 0)), (17, (.agg (.cons (.var .s 1) (.cons (.var .sl 2) .nil))))] [uP v0, uS v1, uL v2] rfl (by kernel_rfl) h
noncomputable def c110c : List Code := ((subL (bodyOf Tryz.f110) [3, 0, 0, 1]).drop 0).take 1
def w110c (v0 v1 : Option Addr) (V : Mem) (R : RP) : Prop :=
 ∃ v2, V.rowp v0 ((0 : Int).toNat * 1) 1 = some [uP v2] /\
 ¬ v2 = none /\ ¬ v2 = none /\ ∃ v3, V.rowp v2 8 1 = some [uM v3] /\
 ¬ v1 = none /\ ∃ v4, V.rowp v1 ((0 : Int).toNat * 1) 1 = some [uS v4] /\
 ∃ v5 v6, V.rowp v1 ((0 : Int).toNat * 1) 2 = some [uS v5, uL v6] /\
 UpdK Tryz.prog 207 (uM v3) (uS v4) (uA #[uS v5, uL v6]) V fun V1 =>
 R (rT #[]) V1
theorem s110c {v0 v1 : Option Addr} {V : Mem} {R : List Value -> Mem -> Prop} (h : w110c v0 v1 V (fun e V' => ∃ vs : List Value, e = .returned (.tuple vs.toArray) /\ R vs V')) : Seg Tryz.prog 38 c110c [(3, uP v0), (5, uP v1)] [] V R :=
 seg_dx (H := hK 38) [(3, (.var .p 0)), (5, (.var .p 1))] [uP v0, uP v1] rfl (by kernel_rfl) h
noncomputable def c110d : List Code := ((subL (bodyOf Tryz.f110) []).drop 4).take 1
def w110d (v0 v1 : Option Addr) (V : Mem) (R : RP) : Prop :=
 ¬ v0 = none /\ ∃ v2, V.rowp v0 3 1 = some [uL v2] /\
 TT 161 #[uL v2] V fun e V1 => ∃ v3, K.f.ok v3 /\ e = rV v3 /\
 R (rT #[uP v1, K.cast .f v3]) V1
theorem s110d {v0 v1 : Option Addr} {V : Mem} {R : List Value -> Mem -> Prop} (h : w110d v0 v1 V (fun e V' => ∃ vs : List Value, e = .returned (.tuple vs.toArray) /\ R vs V')) : Seg Tryz.prog 38 c110d [(1, uP v0), (3, uP v1)] [3, 27] V R :=
 seg_dx (H := hK 38) [(1, (.var .p 0)), (3, (.var .p 1))] [uP v0, uP v1] rfl (by kernel_rfl) h
noncomputable def c110e : List Code := ((subL (bodyOf Tryz.f110) [5, 0, 0, 0]).drop 0).take 1
def w110e (v0 : Option Addr) (v1 : ByteArray) (v2 : Sl) (v3 : ByteArray) (v4 v5 : Sl) (V : Mem) (R : RP) : Prop :=
 PubT [uS v1, uL v2, uS v3, uL v4, uL v5] 146 V fun v6 V1 =>
 R (rT #[uP v0, uP (ptrAdd v6 0)]) V1
theorem s110e {v0 : Option Addr} {v1 : ByteArray} {v2 : Sl} {v3 : ByteArray} {v4 v5 : Sl} {V : Mem} {R : List Value -> Mem -> Prop} (h : w110e v0 v1 v2 v3 v4 v5 V (fun e V' => ∃ vs : List Value, e = .returned (.tuple vs.toArray) /\ R vs V')) : Seg Tryz.prog 38 c110e [(3, uP v0), (29, uA #[uS v1, uL v2, uS v3, uL v4, uL v5])] [3, 7] V R :=
 seg_dx (H := hK 38) [(3, (.var .p 0)), (29, (.agg (.cons (.var .s 1) (.cons (.var .sl 2) (.cons (.var .s 3) (.cons (.var .sl 4) (.cons (.var .sl 5) .nil)))))))] [uP v0, uS v1, uL v2, uS v3, uL v4, uL v5] rfl (by kernel_rfl) h
noncomputable def c110f : List Code := ((subL (bodyOf Tryz.f110) [5, 0, 0, 1]).drop 0).take 1
def w110f (v0 v1 : Option Addr) (V : Mem) (R : RP) : Prop :=
 ∃ v2, V.rowp v0 ((0 : Int).toNat * 1) 1 = some [uP v2] /\
 ¬ v2 = none /\ ¬ v2 = none /\ ∃ v3, V.rowp v2 9 1 = some [uM v3] /\
 ¬ v1 = none /\ ∃ v4, V.rowp v1 ((0 : Int).toNat * 1) 1 = some [uS v4] /\
 ∃ v5 v6 v7 v8 v9, V.rowp v1 ((0 : Int).toNat * 1) 5 = some [uS v5, uL v6, uS v7, uL v8, uL v9] /\
 UpdK Tryz.prog 208 (uM v3) (uS v4) (uA #[uS v5, uL v6, uS v7, uL v8, uL v9]) V fun V1 =>
 R (rT #[]) V1
theorem s110f {v0 v1 : Option Addr} {V : Mem} {R : List Value -> Mem -> Prop} (h : w110f v0 v1 V (fun e V' => ∃ vs : List Value, e = .returned (.tuple vs.toArray) /\ R vs V')) : Seg Tryz.prog 38 c110f [(3, uP v0), (7, uP v1)] [] V R :=
 seg_dx (H := hK 38) [(3, (.var .p 0)), (7, (.var .p 1))] [uP v0, uP v1] rfl (by kernel_rfl) h
noncomputable def c110g : List Code := ((subL (bodyOf Tryz.f110) []).drop 6).take 1
def w110g (v0 : Option Addr) (V : Mem) (R : RP) : Prop :=
 ∃ v1, V.rowp v0 ((0 : Int).toNat * 1) 1 = some [uP v1] /\
 R (rT #[uP v1]) V
theorem s110g {v0 : Option Addr} {V : Mem} {R : List Value -> Mem -> Prop} (h : w110g v0 V (fun e V' => ∃ vs : List Value, e = .returned (.tuple vs.toArray) /\ R vs V')) : Seg Tryz.prog 38 c110g [(3, uP v0)] [2] V R :=
 seg_dx (H := hK 38) [(3, (.var .p 0))] [uP v0] rfl (by kernel_rfl) h
noncomputable def c39a : List Code := ((subL (bodyOf Tryz.f39) []).drop 0).take 1
def w39a (v0 : Option Addr) (v1 : Value) (V : Mem) (R : RP) : Prop :=
 PubT [uP v0] 83 V fun v2 V1 =>
 PubT [uI 0] 3 V1 fun v3 V2 =>
 PubT [uI 0] 37 V2 fun v4 V3 =>
 R (rT #[K.cast .f v1, uP (ptrAdd v2 0), uP (ptrAdd v3 0), uP (ptrAdd v4 0)]) V3
theorem s39a {v0 : Option Addr} {v1 : Value} {V : Mem} {R : List Value -> Mem -> Prop} (h : w39a v0 v1 V (fun e V' => ∃ vs : List Value, e = .returned (.tuple vs.toArray) /\ R vs V')) : Seg Tryz.prog 9 c39a [(0, uP v0), (1, K.cast .f v1)] [1, 2, 4, 5] V R :=
 seg_dx (H := hK 9) [(0, (.var .p 0)), (1, (.var .f 1))] [uP v0, v1] rfl (by kernel_rfl) h
noncomputable def c39b : Array Oper := opsOf ((subL (bodyOf Tryz.f39) []).getD 2 .skip)
def w39b (v0 v1 : Option Addr) (v2 : Int) (V : Mem) (R : RP) : Prop :=
 StT v0 0 [uI v2] V fun V1 =>
 StT v1 0 [uI 0] V1 fun V2 =>
 R (rT #[uP v0, uP v1]) V2
theorem s39b {v0 v1 : Option Addr} {v2 : Int} {V : Mem} {R : List Value -> Mem -> Prop} (h : w39b v0 v1 v2 V (fun e V' => ∃ vs : List Value, e = .returned (.tuple vs.toArray) /\ R vs V')) : SegO Tryz.prog 9 c39b 2 2 [(4, uP v0), (5, uP v1), (8, uI v2)] [4, 5] V R :=
 sego_dx (H := hK 9) [(4, (.var .p 0)), (5, (.var .p 1)), (8, (.var (.i .i64) 2))] [uP v0, uP v1, uI v2] rfl (by kernel_rfl) h
noncomputable def c72a : List Code := ((subL (bodyOf Tryz.f72) []).drop 1).take 2
def w72a (v0 v1 v2 : Option Addr) (v3 : Value) (V : Mem) (R : RP) : Prop :=
 GenK Tryz.prog (.binOp .neq 20 (.tmp 7) (.const .nilIface) 20) 4 (gv [(7, K.cast .r v3)]) V fun x V1 => ∃ v4, x = uB v4 /\
 Br (v4 = true)
 (GenK Tryz.prog (.typeAssert (.tmp 10) 20 133 true) 134 (gv [(10, K.cast .r v3)]) V1 fun x V2 => ∃ v5 v6, x = .tuple #[uA #[uI v5], uB v6] /\
 Br (v6 = true)
 (StT v0 0 [uI 0] V2 fun V3 =>
 StT v1 0 [uI v5] V3 fun V4 =>
 ∃ v7, V4.rowp v2 ((0 : Int).toNat * 1) 1 = some [uP v7] /\
 ¬ v7 = none /\ ¬ v7 = none /\ ∃ v8, V4.rowp v7 11 1 = some [uM v8] /\
 GenK Tryz.prog (.call { callee := (.builtin .clear), args := #[(.tmp 22)], argTypes := #[127] }) 0 (gv [(22, uM v8)]) V4 fun x V5 => x = .tuple #[] /\
 R (rT #[]) V5)
 (∃ t x, K.cast .r v3 = .iface t x /\ R (.panicked [{ v := .iface t x, recovered := false }]) V2))
 (R (rT #[]) V1)
theorem s72a {v0 v1 v2 : Option Addr} {v3 : Value} {V : Mem} {R : List Value -> Mem -> Prop} (h : w72a v0 v1 v2 v3 V (fun e V' => ∃ vs : List Value, e = .returned (.tuple vs.toArray) /\ R vs V')) : Seg Tryz.prog 23 c72a [(0, uP v0), (1, uP v1), (2, uP v2), (3, K.cast .r v3)] [] V R :=
 seg_dx (H := hK 23) [(0, (.var .p 0)), (1, (.var .p 1)), (2, (.var .p 2)), (3, (.var .r 3))] [uP v0, uP v1, uP v2, v3] rfl (by kernel_rfl) h
noncomputable def c22a : List Code := ((subL (bodyOf Tryz.f22) []).drop 0).take 4
def w22a (V : Mem) (R : RP) : Prop :=
 TT 52 #[uI 4, uS (strB [116, 104, 105, 115]), .slice none 0 0] V fun e V1 => ∃ v0 v1 v2 v3, e = rV (uA #[uI v0, uI v1, uS v2, uL v3]) /\
 PubT [uI v0, uI v1, uS v2, uL v3] 69 V1 fun v4 V2 =>
 TT 52 #[uI 5, uS (strB [110, 101, 120, 116]), .slice (ptrAdd v4 0) 1 1] V2 fun e V3 => ∃ v5 v6 v7 v8, e = rV (uA #[uI v5, uI v6, uS v7, uL v8]) /\
 PubT [uS (strB []), .slice none 0 0, .slice none 0 0, .slice none 0 0, .slice none 0 0, .slice none 0 0, .slice none 0 0, .slice none 0 0] 30 V3 fun v9 V4 =>
 PubT [uI v0, uI v1, uS v2, uL v3] 69 V4 fun v10 V5 =>
 PubT [uI v5, uI v6, uS v7, uL v8] 69 V5 fun v11 V6 =>
 R (rT #[uP (ptrAdd v9 0), .func (.func 52) #[] #[], uP (ptrAdd v10 0), uP (ptrAdd v11 0)]) V6
theorem s22a {V : Mem} {R : List Value -> Mem -> Prop} (h : w22a V (fun e V' => ∃ vs : List Value, e = .returned (.tuple vs.toArray) /\ R vs V')) : Seg Tryz.prog 50 c22a [] [0, 1, 2, 3] V R :=
 seg_dx (H := hK 50) [] [] rfl (by kernel_rfl) h
noncomputable def c22o0 : Array Oper := opsOf ((subL (bodyOf Tryz.f22) []).getD 4 .skip)
def w22o0 (V : Mem) (R : RP) : Prop :=
 R (rT #[uA #[uS (strB [110, 101, 120, 116]), uS (strB [84])]]) V
theorem s22o0 {V : Mem} {R : List Value -> Mem -> Prop} (h : w22o0 V (fun e V' => ∃ vs : List Value, e = .returned (.tuple vs.toArray) /\ R vs V')) : SegO Tryz.prog 50 c22o0 0 1 [] [10] V R :=
 sego_dx (H := hK 50) [] [] rfl (by kernel_rfl) h
def w22o1 (V : Mem) (R : RP) : Prop :=
 R (rT #[uA #[uS (strB [110]), uS (strB [105, 110, 116])]]) V
theorem s22o1 {V : Mem} {R : List Value -> Mem -> Prop} (h : w22o1 V (fun e V' => ∃ vs : List Value, e = .returned (.tuple vs.toArray) /\ R vs V')) : SegO Tryz.prog 50 c22o0 1 1 [] [11] V R :=
 sego_dx (H := hK 50) [] [] rfl (by kernel_rfl) h
def w22o2 (v0 v1 v2 v3 : ByteArray) (V : Mem) (R : RP) : Prop :=
 PubT [uS v0, uS v1, uS v2, uS v3] 110 V fun v4 V1 =>
 R (rT #[.slice (ptrAdd v4 0) 2 2]) V1
theorem s22o2 {v0 v1 v2 v3 : ByteArray} {V : Mem} {R : List Value -> Mem -> Prop} (h : w22o2 v0 v1 v2 v3 V (fun e V' => ∃ vs : List Value, e = .returned (.tuple vs.toArray) /\ R vs V')) : SegO Tryz.prog 50 c22o0 2 1 [(10, uA #[uS v0, uS v1]), (11, uA #[uS v2, uS v3])] [12] V R :=
 sego_dx (H := hK 50) [(10, (.agg (.cons (.var .s 0) (.cons (.var .s 1) .nil)))), (11, (.agg (.cons (.var .s 2) (.cons (.var .s 3) .nil))))] [uS v0, uS v1, uS v2, uS v3] rfl (by kernel_rfl) h
def w22o3 (v0 : Sl) (V : Mem) (R : RP) : Prop :=
 R (rT #[uA #[uS (strB [84]), uL v0]]) V
theorem s22o3 {v0 : Sl} {V : Mem} {R : List Value -> Mem -> Prop} (h : w22o3 v0 V (fun e V' => ∃ vs : List Value, e = .returned (.tuple vs.toArray) /\ R vs V')) : SegO Tryz.prog 50 c22o0 3 1 [(12, uL v0)] [13] V R :=
 sego_dx (H := hK 50) [(12, (.var .sl 0))] [uL v0] rfl (by kernel_rfl) h
def w22o4 (v0 : ByteArray) (v1 : Sl) (V : Mem) (R : RP) : Prop :=
 PubT [uS v0, uL v1] 101 V fun v2 V1 =>
 R (rT #[.slice (ptrAdd v2 0) 1 1]) V1
theorem s22o4 {v0 : ByteArray} {v1 : Sl} {V : Mem} {R : List Value -> Mem -> Prop} (h : w22o4 v0 v1 V (fun e V' => ∃ vs : List Value, e = .returned (.tuple vs.toArray) /\ R vs V')) : SegO Tryz.prog 50 c22o0 4 1 [(13, uA #[uS v0, uL v1])] [14] V R :=
 sego_dx (H := hK 50) [(13, (.agg (.cons (.var .s 0) (.cons (.var .sl 1) .nil))))] [uS v0, uL v1] rfl (by kernel_rfl) h
def w22o5 (V : Mem) (R : RP) : Prop :=
 R (rT #[uA #[uS (strB [118]), uS (strB [84])]]) V
theorem s22o5 {V : Mem} {R : List Value -> Mem -> Prop} (h : w22o5 V (fun e V' => ∃ vs : List Value, e = .returned (.tuple vs.toArray) /\ R vs V')) : SegO Tryz.prog 50 c22o0 5 1 [] [15] V R :=
 sego_dx (H := hK 50) [] [] rfl (by kernel_rfl) h
def w22o6 (v0 v1 : ByteArray) (V : Mem) (R : RP) : Prop :=
 PubT [uS v0, uS v1] 110 V fun v2 V1 =>
 R (rT #[.slice (ptrAdd v2 0) 1 1]) V1
theorem s22o6 {v0 v1 : ByteArray} {V : Mem} {R : List Value -> Mem -> Prop} (h : w22o6 v0 v1 V (fun e V' => ∃ vs : List Value, e = .returned (.tuple vs.toArray) /\ R vs V')) : SegO Tryz.prog 50 c22o0 6 1 [(15, uA #[uS v0, uS v1])] [16] V R :=
 sego_dx (H := hK 50) [(15, (.agg (.cons (.var .s 0) (.cons (.var .s 1) .nil))))] [uS v0, uS v1] rfl (by kernel_rfl) h
def w22o7 (v0 : Value) (V : Mem) (R : RP) : Prop :=
 R (rT #[K.cast .f v0]) V
theorem s22o7 {v0 : Value} {V : Mem} {R : List Value -> Mem -> Prop} (h : w22o7 v0 V (fun e V' => ∃ vs : List Value, e = .returned (.tuple vs.toArray) /\ R vs V')) : SegO Tryz.prog 50 c22o0 7 1 [(1, K.cast .f v0)] [17] V R :=
 sego_dx (H := hK 50) [(1, (.var .f 0))] [v0] rfl (by kernel_rfl) h
def w22o8 (V : Mem) (R : RP) : Prop :=
 R (rT #[uA #[uI 1, uI 1, uS (strB []), .slice none 0 0]]) V
theorem s22o8 {V : Mem} {R : List Value -> Mem -> Prop} (h : w22o8 V (fun e V' => ∃ vs : List Value, e = .returned (.tuple vs.toArray) /\ R vs V')) : SegO Tryz.prog 50 c22o0 8 1 [] [18] V R :=
 sego_dx (H := hK 50) [] [] rfl (by kernel_rfl) h
def w22o9 (v0 : Value) (V : Mem) (R : RP) : Prop :=
 R (rT #[K.cast .f v0]) V
theorem s22o9 {v0 : Value} {V : Mem} {R : List Value -> Mem -> Prop} (h : w22o9 v0 V (fun e V' => ∃ vs : List Value, e = .returned (.tuple vs.toArray) /\ R vs V')) : SegO Tryz.prog 50 c22o0 9 1 [(1, K.cast .f v0)] [19] V R :=
 sego_dx (H := hK 50) [(1, (.var .f 0))] [v0] rfl (by kernel_rfl) h
def w22o10 (v0 : Option Addr) (V : Mem) (R : RP) : Prop :=
 ∃ v1 v2 v3 v4, V.rowp v0 ((0 : Int).toNat * 1) 4 = some [uI v1, uI v2, uS v3, uL v4] /\
 R (rT #[uA #[uI v1, uI v2, uS v3, uL v4]]) V
theorem s22o10 {v0 : Option Addr} {V : Mem} {R : List Value -> Mem -> Prop} (h : w22o10 v0 V (fun e V' => ∃ vs : List Value, e = .returned (.tuple vs.toArray) /\ R vs V')) : SegO Tryz.prog 50 c22o0 10 1 [(3, uP v0)] [20] V R :=
 sego_dx (H := hK 50) [(3, (.var .p 0))] [uP v0] rfl (by kernel_rfl) h
def w22o11 (v0 v1 : Int) (v2 : ByteArray) (v3 : Sl) (V : Mem) (R : RP) : Prop :=
 PubT [uI v0, uI v1, uS v2, uL v3] 69 V fun v4 V1 =>
 R (rT #[.slice (ptrAdd v4 0) 1 1]) V1
theorem s22o11 {v0 v1 : Int} {v2 : ByteArray} {v3 : Sl} {V : Mem} {R : List Value -> Mem -> Prop} (h : w22o11 v0 v1 v2 v3 V (fun e V' => ∃ vs : List Value, e = .returned (.tuple vs.toArray) /\ R vs V')) : SegO Tryz.prog 50 c22o0 11 1 [(20, uA #[uI v0, uI v1, uS v2, uL v3])] [21] V R :=
 sego_dx (H := hK 50) [(20, (.agg (.cons (.var (.i .i64) 0) (.cons (.var (.i .i64) 1) (.cons (.var .s 2) (.cons (.var .sl 3) .nil))))))] [uI v0, uI v1, uS v2, uL v3] rfl (by kernel_rfl) h
def w22o12 (v0 : Value) (v1 : Sl) (V : Mem) (R : RP) : Prop :=
 ∃ f first caps, K.cast .f v0 = .func (.func f) first caps /\ (∀ args w, (callFunc f args).run Tryz.prog w = .ok (.enter f args) w) /\
 TT f (first ++ #[uI 7, uS (strB [108, 101, 110, 103, 116, 104]), uL v1] ++ caps) V fun e V1 => ∃ v2 v3 v4 v5, e = rV (uA #[uI v2, uI v3, uS v4, uL v5]) /\
 R (rT #[uA #[uI v2, uI v3, uS v4, uL v5]]) V1
theorem s22o12 {v0 : Value} {v1 : Sl} {V : Mem} {R : List Value -> Mem -> Prop} (h : w22o12 v0 v1 V (fun e V' => ∃ vs : List Value, e = .returned (.tuple vs.toArray) /\ R vs V')) : SegO Tryz.prog 50 c22o0 12 1 [(19, K.cast .f v0), (21, uL v1)] [22] V R :=
 sego_dx (H := hK 50) [(19, (.var .f 0)), (21, (.var .sl 1))] [v0, uL v1] rfl (by kernel_rfl) h
def w22o13 (v0 v1 : Int) (v2 : ByteArray) (v3 : Sl) (v4 v5 : Int) (v6 : ByteArray) (v7 : Sl) (V : Mem) (R : RP) : Prop :=
 PubT [uI v0, uI v1, uS v2, uL v3, uI v4, uI v5, uS v6, uL v7] 69 V fun v8 V1 =>
 R (rT #[.slice (ptrAdd v8 0) 2 2]) V1
theorem s22o13 {v0 v1 : Int} {v2 : ByteArray} {v3 : Sl} {v4 v5 : Int} {v6 : ByteArray} {v7 : Sl} {V : Mem} {R : List Value -> Mem -> Prop} (h : w22o13 v0 v1 v2 v3 v4 v5 v6 v7 V (fun e V' => ∃ vs : List Value, e = .returned (.tuple vs.toArray) /\ R vs V')) : SegO Tryz.prog 50 c22o0 13 1 [(18, uA #[uI v0, uI v1, uS v2, uL v3]), (22, uA #[uI v4, uI v5, uS v6, uL v7])] [23] V R :=
 sego_dx (H := hK 50) [(18, (.agg (.cons (.var (.i .i64) 0) (.cons (.var (.i .i64) 1) (.cons (.var .s 2) (.cons (.var .sl 3) .nil)))))), (22, (.agg (.cons (.var (.i .i64) 4) (.cons (.var (.i .i64) 5) (.cons (.var .s 6) (.cons (.var .sl 7) .nil))))))] [uI v0, uI v1, uS v2, uL v3, uI v4, uI v5, uS v6, uL v7] rfl (by kernel_rfl) h
def w22o14 (v0 : Value) (v1 : Sl) (V : Mem) (R : RP) : Prop :=
 ∃ f first caps, K.cast .f v0 = .func (.func f) first caps /\ (∀ args w, (callFunc f args).run Tryz.prog w = .ok (.enter f args) w) /\
 TT f (first ++ #[uI 9, uS (strB []), uL v1] ++ caps) V fun e V1 => ∃ v2 v3 v4 v5, e = rV (uA #[uI v2, uI v3, uS v4, uL v5]) /\
 R (rT #[uA #[uI v2, uI v3, uS v4, uL v5]]) V1
theorem s22o14 {v0 : Value} {v1 : Sl} {V : Mem} {R : List Value -> Mem -> Prop} (h : w22o14 v0 v1 V (fun e V' => ∃ vs : List Value, e = .returned (.tuple vs.toArray) /\ R vs V')) : SegO Tryz.prog 50 c22o0 14 1 [(17, K.cast .f v0), (23, uL v1)] [24] V R :=
 sego_dx (H := hK 50) [(17, (.var .f 0)), (23, (.var .sl 1))] [v0, uL v1] rfl (by kernel_rfl) h
def w22o15 (v0 v1 : Int) (v2 : ByteArray) (v3 : Sl) (V : Mem) (R : RP) : Prop :=
 R (rT #[uA #[uS (strB [108, 101, 110, 103, 116, 104]), uS (strB [84]), uI 0, uI v0, uI v1, uS v2, uL v3]]) V
theorem s22o15 {v0 v1 : Int} {v2 : ByteArray} {v3 : Sl} {V : Mem} {R : List Value -> Mem -> Prop} (h : w22o15 v0 v1 v2 v3 V (fun e V' => ∃ vs : List Value, e = .returned (.tuple vs.toArray) /\ R vs V')) : SegO Tryz.prog 50 c22o0 15 1 [(24, uA #[uI v0, uI v1, uS v2, uL v3])] [25] V R :=
 sego_dx (H := hK 50) [(24, (.agg (.cons (.var (.i .i64) 0) (.cons (.var (.i .i64) 1) (.cons (.var .s 2) (.cons (.var .sl 3) .nil))))))] [uI v0, uI v1, uS v2, uL v3] rfl (by kernel_rfl) h
def w22o16 (v0 v1 : ByteArray) (v2 v3 v4 : Int) (v5 : ByteArray) (v6 : Sl) (V : Mem) (R : RP) : Prop :=
 PubT [uS v0, uS v1, uI v2, uI v3, uI v4, uS v5, uL v6] 77 V fun v7 V1 =>
 R (rT #[.slice (ptrAdd v7 0) 1 1]) V1
theorem s22o16 {v0 v1 : ByteArray} {v2 v3 v4 : Int} {v5 : ByteArray} {v6 : Sl} {V : Mem} {R : List Value -> Mem -> Prop} (h : w22o16 v0 v1 v2 v3 v4 v5 v6 V (fun e V' => ∃ vs : List Value, e = .returned (.tuple vs.toArray) /\ R vs V')) : SegO Tryz.prog 50 c22o0 16 1 [(25, uA #[uS v0, uS v1, uI v2, uI v3, uI v4, uS v5, uL v6])] [26] V R :=
 sego_dx (H := hK 50) [(25, (.agg (.cons (.var .s 0) (.cons (.var .s 1) (.cons (.var (.i .i64) 2) (.cons (.var (.i .i64) 3) (.cons (.var (.i .i64) 4) (.cons (.var .s 5) (.cons (.var .sl 6) .nil)))))))))] [uS v0, uS v1, uI v2, uI v3, uI v4, uS v5, uL v6] rfl (by kernel_rfl) h
def w22o17 (v0 : Value) (V : Mem) (R : RP) : Prop :=
 R (rT #[K.cast .f v0]) V
theorem s22o17 {v0 : Value} {V : Mem} {R : List Value -> Mem -> Prop} (h : w22o17 v0 V (fun e V' => ∃ vs : List Value, e = .returned (.tuple vs.toArray) /\ R vs V')) : SegO Tryz.prog 50 c22o0 17 1 [(1, K.cast .f v0)] [27] V R :=
 sego_dx (H := hK 50) [(1, (.var .f 0))] [v0] rfl (by kernel_rfl) h
def w22o18 (v0 : Value) (V : Mem) (R : RP) : Prop :=
 R (rT #[K.cast .f v0]) V
theorem s22o18 {v0 : Value} {V : Mem} {R : List Value -> Mem -> Prop} (h : w22o18 v0 V (fun e V' => ∃ vs : List Value, e = .returned (.tuple vs.toArray) /\ R vs V')) : SegO Tryz.prog 50 c22o0 18 1 [(1, K.cast .f v0)] [28] V R :=
 sego_dx (H := hK 50) [(1, (.var .f 0))] [v0] rfl (by kernel_rfl) h
def w22o19 (v0 : Option Addr) (V : Mem) (R : RP) : Prop :=
 ∃ v1 v2 v3 v4, V.rowp v0 ((0 : Int).toNat * 1) 4 = some [uI v1, uI v2, uS v3, uL v4] /\
 R (rT #[uA #[uI v1, uI v2, uS v3, uL v4]]) V
theorem s22o19 {v0 : Option Addr} {V : Mem} {R : List Value -> Mem -> Prop} (h : w22o19 v0 V (fun e V' => ∃ vs : List Value, e = .returned (.tuple vs.toArray) /\ R vs V')) : SegO Tryz.prog 50 c22o0 19 1 [(3, uP v0)] [29] V R :=
 sego_dx (H := hK 50) [(3, (.var .p 0))] [uP v0] rfl (by kernel_rfl) h
def w22o20 (v0 : Value) (V : Mem) (R : RP) : Prop :=
 R (rT #[K.cast .f v0]) V
theorem s22o20 {v0 : Value} {V : Mem} {R : List Value -> Mem -> Prop} (h : w22o20 v0 V (fun e V' => ∃ vs : List Value, e = .returned (.tuple vs.toArray) /\ R vs V')) : SegO Tryz.prog 50 c22o0 20 1 [(1, K.cast .f v0)] [30] V R :=
 sego_dx (H := hK 50) [(1, (.var .f 0))] [v0] rfl (by kernel_rfl) h
def w22o21 (v0 : Value) (V : Mem) (R : RP) : Prop :=
 ∃ f first caps, K.cast .f v0 = .func (.func f) first caps /\ (∀ args w, (callFunc f args).run Tryz.prog w = .ok (.enter f args) w) /\
 TT f (first ++ #[uI 3, uS (strB []), .slice none 0 0] ++ caps) V fun e V1 => ∃ v1 v2 v3 v4, e = rV (uA #[uI v1, uI v2, uS v3, uL v4]) /\
 R (rT #[uA #[uI v1, uI v2, uS v3, uL v4]]) V1
theorem s22o21 {v0 : Value} {V : Mem} {R : List Value -> Mem -> Prop} (h : w22o21 v0 V (fun e V' => ∃ vs : List Value, e = .returned (.tuple vs.toArray) /\ R vs V')) : SegO Tryz.prog 50 c22o0 21 1 [(30, K.cast .f v0)] [31] V R :=
 sego_dx (H := hK 50) [(30, (.var .f 0))] [v0] rfl (by kernel_rfl) h
def w22o22 (v0 v1 : Int) (v2 : ByteArray) (v3 : Sl) (v4 v5 : Int) (v6 : ByteArray) (v7 : Sl) (V : Mem) (R : RP) : Prop :=
 PubT [uI v0, uI v1, uS v2, uL v3, uI v4, uI v5, uS v6, uL v7] 69 V fun v8 V1 =>
 R (rT #[.slice (ptrAdd v8 0) 2 2]) V1
theorem s22o22 {v0 v1 : Int} {v2 : ByteArray} {v3 : Sl} {v4 v5 : Int} {v6 : ByteArray} {v7 : Sl} {V : Mem} {R : List Value -> Mem -> Prop} (h : w22o22 v0 v1 v2 v3 v4 v5 v6 v7 V (fun e V' => ∃ vs : List Value, e = .returned (.tuple vs.toArray) /\ R vs V')) : SegO Tryz.prog 50 c22o0 22 1 [(29, uA #[uI v0, uI v1, uS v2, uL v3]), (31, uA #[uI v4, uI v5, uS v6, uL v7])] [32] V R :=
 sego_dx (H := hK 50) [(29, (.agg (.cons (.var (.i .i64) 0) (.cons (.var (.i .i64) 1) (.cons (.var .s 2) (.cons (.var .sl 3) .nil)))))), (31, (.agg (.cons (.var (.i .i64) 4) (.cons (.var (.i .i64) 5) (.cons (.var .s 6) (.cons (.var .sl 7) .nil))))))] [uI v0, uI v1, uS v2, uL v3, uI v4, uI v5, uS v6, uL v7] rfl (by kernel_rfl) h
def w22o23 (v0 : Value) (v1 : Sl) (V : Mem) (R : RP) : Prop :=
 ∃ f first caps, K.cast .f v0 = .func (.func f) first caps /\ (∀ args w, (callFunc f args).run Tryz.prog w = .ok (.enter f args) w) /\
 TT f (first ++ #[uI 14, uS (strB []), uL v1] ++ caps) V fun e V1 => ∃ v2 v3 v4 v5, e = rV (uA #[uI v2, uI v3, uS v4, uL v5]) /\
 R (rT #[uA #[uI v2, uI v3, uS v4, uL v5]]) V1
theorem s22o23 {v0 : Value} {v1 : Sl} {V : Mem} {R : List Value -> Mem -> Prop} (h : w22o23 v0 v1 V (fun e V' => ∃ vs : List Value, e = .returned (.tuple vs.toArray) /\ R vs V')) : SegO Tryz.prog 50 c22o0 23 1 [(28, K.cast .f v0), (32, uL v1)] [33] V R :=
 sego_dx (H := hK 50) [(28, (.var .f 0)), (32, (.var .sl 1))] [v0, uL v1] rfl (by kernel_rfl) h
def w22o24 (v0 : Value) (V : Mem) (R : RP) : Prop :=
 R (rT #[K.cast .f v0]) V
theorem s22o24 {v0 : Value} {V : Mem} {R : List Value -> Mem -> Prop} (h : w22o24 v0 V (fun e V' => ∃ vs : List Value, e = .returned (.tuple vs.toArray) /\ R vs V')) : SegO Tryz.prog 50 c22o0 24 1 [(1, K.cast .f v0)] [34] V R :=
 sego_dx (H := hK 50) [(1, (.var .f 0))] [v0] rfl (by kernel_rfl) h
def w22o25 (v0 : Value) (V : Mem) (R : RP) : Prop :=
 R (rT #[K.cast .f v0]) V
theorem s22o25 {v0 : Value} {V : Mem} {R : List Value -> Mem -> Prop} (h : w22o25 v0 V (fun e V' => ∃ vs : List Value, e = .returned (.tuple vs.toArray) /\ R vs V')) : SegO Tryz.prog 50 c22o0 25 1 [(1, K.cast .f v0)] [35] V R :=
 sego_dx (H := hK 50) [(1, (.var .f 0))] [v0] rfl (by kernel_rfl) h
def w22o26 (v0 : Option Addr) (V : Mem) (R : RP) : Prop :=
 ∃ v1 v2 v3 v4, V.rowp v0 ((0 : Int).toNat * 1) 4 = some [uI v1, uI v2, uS v3, uL v4] /\
 R (rT #[uA #[uI v1, uI v2, uS v3, uL v4]]) V
theorem s22o26 {v0 : Option Addr} {V : Mem} {R : List Value -> Mem -> Prop} (h : w22o26 v0 V (fun e V' => ∃ vs : List Value, e = .returned (.tuple vs.toArray) /\ R vs V')) : SegO Tryz.prog 50 c22o0 26 1 [(2, uP v0)] [36] V R :=
 sego_dx (H := hK 50) [(2, (.var .p 0))] [uP v0] rfl (by kernel_rfl) h
def w22o27 (v0 v1 : Int) (v2 : ByteArray) (v3 : Sl) (V : Mem) (R : RP) : Prop :=
 PubT [uI v0, uI v1, uS v2, uL v3] 69 V fun v4 V1 =>
 R (rT #[.slice (ptrAdd v4 0) 1 1]) V1
theorem s22o27 {v0 v1 : Int} {v2 : ByteArray} {v3 : Sl} {V : Mem} {R : List Value -> Mem -> Prop} (h : w22o27 v0 v1 v2 v3 V (fun e V' => ∃ vs : List Value, e = .returned (.tuple vs.toArray) /\ R vs V')) : SegO Tryz.prog 50 c22o0 27 1 [(36, uA #[uI v0, uI v1, uS v2, uL v3])] [37] V R :=
 sego_dx (H := hK 50) [(36, (.agg (.cons (.var (.i .i64) 0) (.cons (.var (.i .i64) 1) (.cons (.var .s 2) (.cons (.var .sl 3) .nil))))))] [uI v0, uI v1, uS v2, uL v3] rfl (by kernel_rfl) h
def w22o28 (v0 : Value) (v1 : Sl) (V : Mem) (R : RP) : Prop :=
 ∃ f first caps, K.cast .f v0 = .func (.func f) first caps /\ (∀ args w, (callFunc f args).run Tryz.prog w = .ok (.enter f args) w) /\
 TT f (first ++ #[uI 5, uS (strB [110]), uL v1] ++ caps) V fun e V1 => ∃ v2 v3 v4 v5, e = rV (uA #[uI v2, uI v3, uS v4, uL v5]) /\
 R (rT #[uA #[uI v2, uI v3, uS v4, uL v5]]) V1
theorem s22o28 {v0 : Value} {v1 : Sl} {V : Mem} {R : List Value -> Mem -> Prop} (h : w22o28 v0 v1 V (fun e V' => ∃ vs : List Value, e = .returned (.tuple vs.toArray) /\ R vs V')) : SegO Tryz.prog 50 c22o0 28 1 [(35, K.cast .f v0), (37, uL v1)] [38] V R :=
 sego_dx (H := hK 50) [(35, (.var .f 0)), (37, (.var .sl 1))] [v0, uL v1] rfl (by kernel_rfl) h
def w22o29 (v0 : Value) (V : Mem) (R : RP) : Prop :=
 R (rT #[K.cast .f v0]) V
theorem s22o29 {v0 : Value} {V : Mem} {R : List Value -> Mem -> Prop} (h : w22o29 v0 V (fun e V' => ∃ vs : List Value, e = .returned (.tuple vs.toArray) /\ R vs V')) : SegO Tryz.prog 50 c22o0 29 1 [(1, K.cast .f v0)] [39] V R :=
 sego_dx (H := hK 50) [(1, (.var .f 0))] [v0] rfl (by kernel_rfl) h
def w22o30 (v0 : Option Addr) (V : Mem) (R : RP) : Prop :=
 ∃ v1 v2 v3 v4, V.rowp v0 ((0 : Int).toNat * 1) 4 = some [uI v1, uI v2, uS v3, uL v4] /\
 R (rT #[uA #[uI v1, uI v2, uS v3, uL v4]]) V
theorem s22o30 {v0 : Option Addr} {V : Mem} {R : List Value -> Mem -> Prop} (h : w22o30 v0 V (fun e V' => ∃ vs : List Value, e = .returned (.tuple vs.toArray) /\ R vs V')) : SegO Tryz.prog 50 c22o0 30 1 [(3, uP v0)] [40] V R :=
 sego_dx (H := hK 50) [(3, (.var .p 0))] [uP v0] rfl (by kernel_rfl) h
def w22o31 (v0 v1 : Int) (v2 : ByteArray) (v3 : Sl) (V : Mem) (R : RP) : Prop :=
 PubT [uI v0, uI v1, uS v2, uL v3] 69 V fun v4 V1 =>
 R (rT #[.slice (ptrAdd v4 0) 1 1]) V1
theorem s22o31 {v0 v1 : Int} {v2 : ByteArray} {v3 : Sl} {V : Mem} {R : List Value -> Mem -> Prop} (h : w22o31 v0 v1 v2 v3 V (fun e V' => ∃ vs : List Value, e = .returned (.tuple vs.toArray) /\ R vs V')) : SegO Tryz.prog 50 c22o0 31 1 [(40, uA #[uI v0, uI v1, uS v2, uL v3])] [41] V R :=
 sego_dx (H := hK 50) [(40, (.agg (.cons (.var (.i .i64) 0) (.cons (.var (.i .i64) 1) (.cons (.var .s 2) (.cons (.var .sl 3) .nil))))))] [uI v0, uI v1, uS v2, uL v3] rfl (by kernel_rfl) h
def w22o32 (v0 : Value) (v1 : Sl) (V : Mem) (R : RP) : Prop :=
 ∃ f first caps, K.cast .f v0 = .func (.func f) first caps /\ (∀ args w, (callFunc f args).run Tryz.prog w = .ok (.enter f args) w) /\
 TT f (first ++ #[uI 5, uS (strB [110]), uL v1] ++ caps) V fun e V1 => ∃ v2 v3 v4 v5, e = rV (uA #[uI v2, uI v3, uS v4, uL v5]) /\
 R (rT #[uA #[uI v2, uI v3, uS v4, uL v5]]) V1
theorem s22o32 {v0 : Value} {v1 : Sl} {V : Mem} {R : List Value -> Mem -> Prop} (h : w22o32 v0 v1 V (fun e V' => ∃ vs : List Value, e = .returned (.tuple vs.toArray) /\ R vs V')) : SegO Tryz.prog 50 c22o0 32 1 [(39, K.cast .f v0), (41, uL v1)] [42] V R :=
 sego_dx (H := hK 50) [(39, (.var .f 0)), (41, (.var .sl 1))] [v0, uL v1] rfl (by kernel_rfl) h
def w22o33 (v0 v1 : Int) (v2 : ByteArray) (v3 : Sl) (v4 v5 : Int) (v6 : ByteArray) (v7 : Sl) (V : Mem) (R : RP) : Prop :=
 PubT [uI v0, uI v1, uS v2, uL v3, uI v4, uI v5, uS v6, uL v7] 69 V fun v8 V1 =>
 R (rT #[.slice (ptrAdd v8 0) 2 2]) V1
theorem s22o33 {v0 v1 : Int} {v2 : ByteArray} {v3 : Sl} {v4 v5 : Int} {v6 : ByteArray} {v7 : Sl} {V : Mem} {R : List Value -> Mem -> Prop} (h : w22o33 v0 v1 v2 v3 v4 v5 v6 v7 V (fun e V' => ∃ vs : List Value, e = .returned (.tuple vs.toArray) /\ R vs V')) : SegO Tryz.prog 50 c22o0 33 1 [(38, uA #[uI v0, uI v1, uS v2, uL v3]), (42, uA #[uI v4, uI v5, uS v6, uL v7])] [43] V R :=
 sego_dx (H := hK 50) [(38, (.agg (.cons (.var (.i .i64) 0) (.cons (.var (.i .i64) 1) (.cons (.var .s 2) (.cons (.var .sl 3) .nil)))))), (42, (.agg (.cons (.var (.i .i64) 4) (.cons (.var (.i .i64) 5) (.cons (.var .s 6) (.cons (.var .sl 7) .nil))))))] [uI v0, uI v1, uS v2, uL v3, uI v4, uI v5, uS v6, uL v7] rfl (by kernel_rfl) h
def w22o34 (v0 : Value) (v1 : Sl) (V : Mem) (R : RP) : Prop :=
 ∃ f first caps, K.cast .f v0 = .func (.func f) first caps /\ (∀ args w, (callFunc f args).run Tryz.prog w = .ok (.enter f args) w) /\
 TT f (first ++ #[uI 16, uS (strB []), uL v1] ++ caps) V fun e V1 => ∃ v2 v3 v4 v5, e = rV (uA #[uI v2, uI v3, uS v4, uL v5]) /\
 R (rT #[uA #[uI v2, uI v3, uS v4, uL v5]]) V1
theorem s22o34 {v0 : Value} {v1 : Sl} {V : Mem} {R : List Value -> Mem -> Prop} (h : w22o34 v0 v1 V (fun e V' => ∃ vs : List Value, e = .returned (.tuple vs.toArray) /\ R vs V')) : SegO Tryz.prog 50 c22o0 34 1 [(34, K.cast .f v0), (43, uL v1)] [44] V R :=
 sego_dx (H := hK 50) [(34, (.var .f 0)), (43, (.var .sl 1))] [v0, uL v1] rfl (by kernel_rfl) h
def w22o35 (v0 v1 : Int) (v2 : ByteArray) (v3 : Sl) (v4 v5 : Int) (v6 : ByteArray) (v7 : Sl) (V : Mem) (R : RP) : Prop :=
 PubT [uI v0, uI v1, uS v2, uL v3, uI v4, uI v5, uS v6, uL v7] 69 V fun v8 V1 =>
 R (rT #[.slice (ptrAdd v8 0) 2 2]) V1
theorem s22o35 {v0 v1 : Int} {v2 : ByteArray} {v3 : Sl} {v4 v5 : Int} {v6 : ByteArray} {v7 : Sl} {V : Mem} {R : List Value -> Mem -> Prop} (h : w22o35 v0 v1 v2 v3 v4 v5 v6 v7 V (fun e V' => ∃ vs : List Value, e = .returned (.tuple vs.toArray) /\ R vs V')) : SegO Tryz.prog 50 c22o0 35 1 [(33, uA #[uI v0, uI v1, uS v2, uL v3]), (44, uA #[uI v4, uI v5, uS v6, uL v7])] [45] V R :=
 sego_dx (H := hK 50) [(33, (.agg (.cons (.var (.i .i64) 0) (.cons (.var (.i .i64) 1) (.cons (.var .s 2) (.cons (.var .sl 3) .nil)))))), (44, (.agg (.cons (.var (.i .i64) 4) (.cons (.var (.i .i64) 5) (.cons (.var .s 6) (.cons (.var .sl 7) .nil))))))] [uI v0, uI v1, uS v2, uL v3, uI v4, uI v5, uS v6, uL v7] rfl (by kernel_rfl) h
def w22o36 (v0 : Value) (v1 : Sl) (V : Mem) (R : RP) : Prop :=
 ∃ f first caps, K.cast .f v0 = .func (.func f) first caps /\ (∀ args w, (callFunc f args).run Tryz.prog w = .ok (.enter f args) w) /\
 TT f (first ++ #[uI 20, uS (strB []), uL v1] ++ caps) V fun e V1 => ∃ v2 v3 v4 v5, e = rV (uA #[uI v2, uI v3, uS v4, uL v5]) /\
 R (rT #[uA #[uI v2, uI v3, uS v4, uL v5]]) V1
theorem s22o36 {v0 : Value} {v1 : Sl} {V : Mem} {R : List Value -> Mem -> Prop} (h : w22o36 v0 v1 V (fun e V' => ∃ vs : List Value, e = .returned (.tuple vs.toArray) /\ R vs V')) : SegO Tryz.prog 50 c22o0 36 1 [(27, K.cast .f v0), (45, uL v1)] [46] V R :=
 sego_dx (H := hK 50) [(27, (.var .f 0)), (45, (.var .sl 1))] [v0, uL v1] rfl (by kernel_rfl) h
def w22o37 (v0 v1 : Int) (v2 : ByteArray) (v3 : Sl) (V : Mem) (R : RP) : Prop :=
 R (rT #[uA #[uS (strB [115, 111, 114, 116, 101, 100]), uS (strB [84]), uI v0, uI v1, uS v2, uL v3]]) V
theorem s22o37 {v0 v1 : Int} {v2 : ByteArray} {v3 : Sl} {V : Mem} {R : List Value -> Mem -> Prop} (h : w22o37 v0 v1 v2 v3 V (fun e V' => ∃ vs : List Value, e = .returned (.tuple vs.toArray) /\ R vs V')) : SegO Tryz.prog 50 c22o0 37 1 [(46, uA #[uI v0, uI v1, uS v2, uL v3])] [47] V R :=
 sego_dx (H := hK 50) [(46, (.agg (.cons (.var (.i .i64) 0) (.cons (.var (.i .i64) 1) (.cons (.var .s 2) (.cons (.var .sl 3) .nil))))))] [uI v0, uI v1, uS v2, uL v3] rfl (by kernel_rfl) h
def w22o38 (v0 v1 : ByteArray) (v2 v3 : Int) (v4 : ByteArray) (v5 : Sl) (V : Mem) (R : RP) : Prop :=
 PubT [uS v0, uS v1, uI v2, uI v3, uS v4, uL v5] 105 V fun v6 V1 =>
 R (rT #[.slice (ptrAdd v6 0) 1 1]) V1
theorem s22o38 {v0 v1 : ByteArray} {v2 v3 : Int} {v4 : ByteArray} {v5 : Sl} {V : Mem} {R : List Value -> Mem -> Prop} (h : w22o38 v0 v1 v2 v3 v4 v5 V (fun e V' => ∃ vs : List Value, e = .returned (.tuple vs.toArray) /\ R vs V')) : SegO Tryz.prog 50 c22o0 38 1 [(47, uA #[uS v0, uS v1, uI v2, uI v3, uS v4, uL v5])] [48] V R :=
 sego_dx (H := hK 50) [(47, (.agg (.cons (.var .s 0) (.cons (.var .s 1) (.cons (.var (.i .i64) 2) (.cons (.var (.i .i64) 3) (.cons (.var .s 4) (.cons (.var .sl 5) .nil))))))))] [uS v0, uS v1, uI v2, uI v3, uS v4, uL v5] rfl (by kernel_rfl) h
def w22o39 (v0 v1 v2 v3 : Sl) (V : Mem) (R : RP) : Prop :=
 R (rT #[uA #[uS (strB [108]), uL v0, uL v1, .slice none 0 0, uL v2, uL v3, .slice none 0 0, .slice none 0 0]]) V
theorem s22o39 {v0 v1 v2 v3 : Sl} {V : Mem} {R : List Value -> Mem -> Prop} (h : w22o39 v0 v1 v2 v3 V (fun e V' => ∃ vs : List Value, e = .returned (.tuple vs.toArray) /\ R vs V')) : SegO Tryz.prog 50 c22o0 39 1 [(14, uL v0), (16, uL v1), (26, uL v2), (48, uL v3)] [49] V R :=
 sego_dx (H := hK 50) [(14, (.var .sl 0)), (16, (.var .sl 1)), (26, (.var .sl 2)), (48, (.var .sl 3))] [uL v0, uL v1, uL v2, uL v3] rfl (by kernel_rfl) h
def w22o40 (v0 : Option Addr) (v1 : ByteArray) (v2 v3 v4 v5 v6 v7 v8 : Sl) (V : Mem) (R : RP) : Prop :=
 StT v0 0 [uS v1, uL v2, uL v3, uL v4, uL v5, uL v6, uL v7, uL v8] V fun V1 =>
 R (rT #[]) V1
theorem s22o40 {v0 : Option Addr} {v1 : ByteArray} {v2 v3 v4 v5 v6 v7 v8 : Sl} {V : Mem} {R : List Value -> Mem -> Prop} (h : w22o40 v0 v1 v2 v3 v4 v5 v6 v7 v8 V (fun e V' => ∃ vs : List Value, e = .returned (.tuple vs.toArray) /\ R vs V')) : SegO Tryz.prog 50 c22o0 40 1 [(0, uP v0), (49, uD v1 v2 v3 v4 v5 v6 v7 v8)] [] V R :=
 sego_dx (H := hK 50) [(0, (.var .p 0)), (49, (.agg (.cons (.var .s 1) (.cons (.var .sl 2) (.cons (.var .sl 3) (.cons (.var .sl 4) (.cons (.var .sl 5) (.cons (.var .sl 6) (.cons (.var .sl 7) (.cons (.var .sl 8) .nil))))))))))] [uP v0, uS v1, uL v2, uL v3, uL v4, uL v5, uL v6, uL v7, uL v8] rfl (by kernel_rfl) h
end
end Go.Proofs
namespace Go.Sx
open Go
section
variable {P : Program}
def Has (N : Nat) (a : Act) (l : List (Nat × Value)) : Prop := a.tmps.size = N /\ ∀ s v, l.lookup s = some v -> a.tmps.getD s undef = v
theorem Seg.step {r : Option Nat} {n N : Nat} {Q : Exit -> Act -> World -> Prop} {cs rest : List Code} {ins : List (Nat × Value)} {outs : List Nat} {V : Mem} {R : List Value -> Mem -> Prop} {a : Act} {w : World} (h : Seg P N cs ins outs V R) (hV : V.le w) (ha : Has N a ins)
  (k : ∀ a' w' vs V', a'.defers = a.defers -> Has N a' (outs.zip vs) -> R vs V' -> Frm V w V' w' -> wpL r n P Q rest a' w') : wpL r n P Q (cs ++ rest) a w := by
 refine wpL_append (wpL_mono ?_ (h r n a w hV ha.1 ha.2))
 rintro e a' w' ⟨rfl, h1, h2, vs, V', h3, h4, h5⟩
 exact k a' w' vs V' h1 ⟨h2, h3⟩ h4 h5
theorem SegO.step {r : Option Nat} {n N k m : Nat} {Q : Exit -> Act -> World -> Prop} {ops : Array Oper} {rest : List Nat} {ins : List (Nat × Value)} {outs : List Nat} {V : Mem} {R : List Value -> Mem -> Prop} {a : Act} {w : World} (h : SegO P N ops k m ins outs V R) (hV : V.le w) (ha : Has N a ins)
  (go : ∀ a' w' vs V', a'.defers = a.defers -> Has N a' (outs.zip vs) -> R vs V' -> Frm V w V' w' -> wpOpsIn (wideR r) n P ops Q rest a' w') : wpOpsIn (wideR r) n P ops Q (List.range' k m ++ rest) a w := by
 refine wpOpsIn_append (fun c a w he => by cases he.1) (fun ⟨_, _, he⟩ => by cases he.1) ?_ (h r n a w hV ha.1 ha.2)
 rintro a' w' ⟨_, h1, h2, vs, V', h3, h4, h5⟩
 exact go a' w' vs V' h1 ⟨h2, h3⟩ h4 h5
theorem yield_op {ops : Array Oper} {i : Nat} {o : Oper} {c : Call} {fv : Operand} {l : Nat} {rec : Loop} {args : Array Value} {rest : List Nat} {Q : Exit -> Act -> World -> Prop} {a : Act} {w : World} (ho : ops[i]? = some o) (hg : o.guard = none) (hop : o.op = .call c) (hc : c.callee = .value fv)
  (hf : a.eval fv = .func (.yield l) #[] #[]) (hargs : c.args.map a.eval = args) (hl : w.heap[l]? = some (.loop rec)) (hs : args.size = rec.params.size)
  (hR : RoundIn (wideR none) 0 P l rec.fn ((rec.params.zip args).foldl (fun t (p, v) => t.setIfInBounds p v) rec.tmps) rec.assign rec.body w fun e w' => ∃ v, e = .returned v /\ wpOpsIn (wideR none) 0 P ops Q rest (a.put o.dst v) w') :
  wpOpsIn (wideR none) 0 P ops Q (i :: rest) a w := by
 rw [wpOpsIn_cons]
 unfold wpOpIn
 simp only [ho]
 rw [if_pos (by simp [Region.wanted, hg])]
 refine ⟨fun _ _ => trivial, ?_⟩
 rw [Oper.semAt_eq _ _ _ (fun d => by rw [hop]; intro h; cases h)]
 have hrun : (execOp a.eval o).run P w = .ok (.round l rec.fn ((rec.params.zip args).foldl (fun t (p, v) => t.setIfInBounds p v) rec.tmps) rec.assign rec.body) w := by
  unfold execOp
  simp only [hop, resolve, hc, hf, hargs, Deferred.ofValue, Sem.run_bind, Sem.run_pure, Result.andThen_ok, invoke]
  simp only [Array.append_empty, Array.empty_append]
  exact run_yield hl hs
 rw [hrun]
 refine ⟨fun h => by simp [wideR, Fence.wide] at h, hR.mono ?_⟩
 rintro e w' ⟨v, rfl, h⟩
 exact h
theorem Has.get {N : Nat} {a : Act} {l : List (Nat × Value)} (h : Has N a l) {s : Nat} {v : Value} (hs : l.lookup s = some v) : a.tmps.getD s undef = v := h.2 s v hs
theorem back_rule {f : FuncId} {fn : Func} {c L B : Code} {b0 b1 id : Nat} {cA cB cE : List Code} {ops : Array Oper} {o6 : Oper} {at6 : Array TypeId} {fn' : FuncId} {tmps : Array Value} {ps : Array Tmp} {assign body : Code} {D : Nat} {l : Nat} {box : Option Addr} {n : Nat} {el : Nat -> Value} {J : Nat -> Mem -> Prop} {Bk : Mem -> Prop} {V : Mem}
  (hf : P.funcs[f]? = some fn) (hb : fn.body = some c) (e1 : flat c = cA ++ [.block b0 (.loop L)]) (e2 : flat L = cB ++ ([.cond (.tmp 8) .skip (.exit b0), .block b1 B] ++ cE)) (e3 : flat B = [.region id ops false, .cond (.tmp 18) .ret .skip])
  (ho : ops[6]? = some o6) (hgd : o6.guard = none) (hop : o6.op = .call { callee := .value (.tmp 11), args := #[.tmp 12, .tmp 16], argTypes := at6 }) (hdst : o6.dst = some 17) (hsz : ops.size = 8) (hres : fn.results = #[]) (hN : fn.ntmps = 19) (hps : ps.size = 2)
  (hA : ∀ M, Bk M -> Seg P 19 cA [(0, .func (.yield l) #[] #[]), (1, .pointer box)] [0, 1, 3] M fun vs V' => V' = M /\ vs = [.func (.yield l) #[] #[], .pointer box, .int .i64 ((n : Int) - 1)])
  (hB : ∀ M (j : Int), Seg P 19 cB [(0, .func (.yield l) #[] #[]), (1, .pointer box), (3, .int .i64 j)] [0, 1, 3, 8] M fun vs V' => V' = M /\ vs = [.func (.yield l) #[] #[], .pointer box, .int .i64 j, .bool (decide (0 <= j))])
  (hC : ∀ M (k : Nat), Bk M -> k < n -> SegO P 19 ops 0 6 [(0, .func (.yield l) #[] #[]), (1, .pointer box), (3, .int .i64 k)] [0, 1, 3, 11, 12, 16] M fun vs V' => V' = M /\ vs = [.func (.yield l) #[] #[], .pointer box, .int .i64 k, .func (.yield l) #[] #[], .int .i64 k, el k])
  (hD : ∀ M (j : Int) (b : Bool), SegO P 19 ops 7 1 [(0, .func (.yield l) #[] #[]), (1, .pointer box), (3, .int .i64 j), (17, .bool b)] [0, 1, 3, 18] M fun vs V' => V' = M /\ vs = [.func (.yield l) #[] #[], .pointer box, .int .i64 j, .bool (!b)])
  (hE : ∀ M (j : Int), Bk M -> 0 <= j -> j < n -> Seg P 19 cE [(0, .func (.yield l) #[] #[]), (1, .pointer box), (3, .int .i64 j)] [0, 1, 3] M fun vs V' => V' = M /\ vs = [.func (.yield l) #[] #[], .pointer box, .int .i64 (j - 1)])
  (hJ : ∀ i V2, J i V2 -> V2 l = none -> Bk (V2.set l (.loop (rec0 fn' tmps ps assign body D))))
  (hround : ∀ k, k < n -> ∀ V2, J (n - 1 - k) V2 -> V2 l = none -> ∀ w, (V2.set l (.loop (rec0 fn' tmps ps assign body D))).le w ->
   RoundIn (wideR none) 0 P l fn' ((ps.zip #[.int .i64 k, el k]).foldl (fun t (p, v) => t.setIfInBounds p v) tmps) assign body w fun e w' =>
    e = .returned (.bool true) /\ ∃ V3, J (n - k) V3 /\ V3 l = none /\ Frm (V2.set l (.loop (rec0 fn' tmps ps assign body D))) w (V3.set l (.loop (rec0 fn' tmps ps assign body D))) w')
  (h0 : J 0 V) (hl : V l = none) :
  Tri P f #[.func (.yield l) #[] #[], .pointer box] (V.set l (.loop (rec0 fn' tmps ps assign body D))) fun e V' => (∃ v, e = .returned v) /\ ∃ V2, V' = V2.set l (.loop (rec0 fn' tmps ps assign body D)) /\ V2 l = none /\ J n V2 := by
 intro w hV
 refine (callsIn_wide (n := 0)).1 (callsIn_of_wp (F := wideR none) hf hb trivial (wpIn_flat ?_) rfl)
 rw [e1]
 have hH0 : Has 19 { tmps := #[.func (.yield l) #[] #[], .pointer box] ++ Array.replicate (fn.ntmps - (#[Value.func (.yield l) #[] #[], .pointer box]).size) undef, defers := [] } [(0, .func (.yield l) #[] #[]), (1, .pointer box)] := by
  constructor
  ·simp [hN]
  ·intro s v hs
   simp only [List.lookup_cons] at hs
   split at hs
   ·rename_i e
    simp only [beq_iff_eq] at e; subst e
    cases hs
    simp [Array.getD, hN]
   ·split at hs
    ·rename_i e
     simp only [beq_iff_eq] at e; subst e
     cases hs
     simp [Array.getD, hN]
    ·cases hs
 refine (hA _ (hJ 0 V h0 hl)).step hV hH0 ?_
 rintro a1 w1 vs V1 hd1 hH1 ⟨rfl, rfl⟩ hF1
 refine wpIn_block ?_
 refine wpIn_loop_rel (fun m a w' => ∃ (i : Nat) (V2 : Mem), i <= n /\ m = n - i /\ J i V2 /\ V2 l = none /\ a.defers = [] /\ Has 19 a [(0, .func (.yield l) #[] #[]), (1, .pointer box), (3, .int .i64 ((n : Int) - 1 - i))] /\
  Frm (V.set l (.loop (rec0 fn' tmps ps assign body D))) w (V2.set l (.loop (rec0 fn' tmps ps assign body D))) w') ⟨n, 0, V, by omega, rfl, h0, hl, hd1, by simpa using hH1, hF1⟩ ?_
 rintro m a2 w2 ⟨i, V2, hi, rfl, hJi, hl2, hd2, hH2, hF2⟩
 refine wpIn_flat ?_
 rw [e2]
 refine (hB _ _).step hF2.le hH2 ?_
 rintro a3 w3 vs V3 hd3 hH3 ⟨rfl, rfl⟩ hF3
 have hev8 : a3.eval (.tmp 8) = .bool (decide (0 <= (n : Int) - 1 - i)) := hH3.get rfl
 show Code.wpIn (wideR none) 0 P _ _ a3 w3
 by_cases hlt : i < n
 ·have hdc : decide (0 <= (n : Int) - 1 - i) = true := by simp; omega
  rw [hdc] at hev8
  refine wpIn_cond_true hev8 (wpIn_skip ?_)
  show Code.wpIn (wideR none) 0 P _ _ a3 w3
  refine wpIn_block (wpIn_flat ?_)
  rw [e3]
  have hk : ((n : Int) - 1 - i) = ((n - 1 - i : Nat) : Int) := by omega
  have hH3' : Has 19 a3 [(0, .func (.yield l) #[] #[]), (1, .pointer box), (3, .int .i64 ((n - 1 - i : Nat) : Int))] := ⟨hH3.1, fun s v hs => hH3.2 s v (by
   rw [hk]
   simp only [List.zip_cons_cons, List.lookup_cons] at hs ⊢
   split at hs
   ·exact hs
   ·split at hs
    ·exact hs
    ·split at hs
     ·exact hs
     ·cases hs)⟩
  refine wpIn_region ?_
  rw [hsz, show List.range 8 = List.range' 0 6 ++ [6, 7] from rfl]
  refine (hC _ (n - 1 - i) (hJ _ _ hJi hl2) (by omega)).step hF3.le hH3' ?_
  rintro a4 w4 vs V4 hd4 hH4 ⟨rfl, rfl⟩ hF4
  have hl4 : w4.heap[l]? = some (.loop (rec0 fn' tmps ps assign body D)) := hF4.le _ _ (Mem.set_same _ _ _)
  refine yield_op (args := #[.int .i64 ((n - 1 - i : Nat) : Int), el (n - 1 - i)]) ho hgd hop rfl (hH4.get rfl) ?_ hl4 (by simp [rec0, hps]) ?_
  ·have g1 : a4.eval (.tmp 12) = .int .i64 ((n - 1 - i : Nat) : Int) := hH4.get rfl
   have g2 : a4.eval (.tmp 16) = el (n - 1 - i) := hH4.get rfl
   simp [g1, g2]
  refine (hround (n - 1 - i) (by omega) V2 (by rw [show n - 1 - (n - 1 - i) = i by omega]; exact hJi) hl2 w4 hF4.le).mono ?_
  rintro e w5 ⟨rfl, V5, hJ5, hl5, hF5⟩
  refine ⟨_, rfl, ?_⟩
  rw [hdst]
  have hlt17 : (17 : Nat) < a4.tmps.size := by rw [hH4.1]; decide
  have hH5 : Has 19 (a4.put (some 17) (.bool true)) [(0, .func (.yield l) #[] #[]), (1, .pointer box), (3, .int .i64 ((n - 1 - i : Nat) : Int)), (17, .bool true)] := by
   refine ⟨by simp [Act.put, hH4.1], fun s v hs => ?_⟩
   have other : ∀ s, s ≠ 17 -> (a4.put (some 17) (.bool true)).tmps.getD s undef = a4.tmps.getD s undef := fun s hs => by
    simp [Act.put, Array.getD_eq_getD_getElem?, Array.getElem?_setIfInBounds_ne (Ne.symm hs)]
   simp only [List.lookup_cons] at hs
   split at hs
   ·rename_i e; simp only [beq_iff_eq] at e; subst e; cases hs; rw [other _ (by decide)]; exact hH4.get rfl
   ·split at hs
    ·rename_i e; simp only [beq_iff_eq] at e; subst e; cases hs; rw [other _ (by decide)]; exact hH4.get rfl
    ·split at hs
     ·rename_i e; simp only [beq_iff_eq] at e; subst e; cases hs; rw [other _ (by decide)]; exact hH4.get rfl
     ·split at hs
      ·rename_i e; simp only [beq_iff_eq] at e; subst e; cases hs
       simp [Act.put, Array.getD_eq_getD_getElem?, hlt17]
      ·cases hs
  rw [show [7] = List.range' 7 1 ++ [] from rfl]
  refine (hD _ _ true).step hF5.le hH5 ?_
  rintro a6 w6 vs V6 hd6 hH6 ⟨rfl, rfl⟩ hF6
  show Code.wpIn (wideR none) 0 P (.cond (.tmp 18) .ret .skip) _ a6 w6
  refine wpIn_cond_false (hH6.get rfl) (wpIn_skip ?_)
  rw [<- List.append_nil cE]
  refine (hE _ ((n - 1 - i : Nat) : Int) (hJ _ _ hJ5 hl5) (by omega) (by omega)).step hF6.le ⟨hH6.1, fun s v hs => hH6.2 s v ?_⟩ ?_
  ·simp only [List.zip_cons_cons, List.lookup_cons] at hs ⊢
   split at hs
   ·exact hs
   ·split at hs
    ·exact hs
    ·split at hs
     ·exact hs
     ·cases hs
  rintro a7 w7 vs V7 hd7 hH7 ⟨rfl, rfl⟩ hF7
  refine ⟨n - (i + 1), by omega, i + 1, V5, by omega, rfl, ?_, hl5, ?_, ?_, ?_⟩
  ·rw [show i + 1 = n - (n - 1 - i) by omega]; exact hJ5
  ·rw [hd7, hd6]
   show a4.defers = []
   rw [hd4, hd3, hd2]
  ·rw [show (n : Int) - 1 - ((i + 1 : Nat) : Int) = ((n - 1 - i : Nat) : Int) - 1 by omega]
   exact hH7
  ·exact ((((hF2.trans hF3).trans hF4).trans hF5).trans hF6).trans hF7
 ·have hin : i = n := by omega
  subst hin
  have hdc : decide (0 <= (i : Int) - 1 - i) = false := by simp; omega
  rw [hdc] at hev8
  refine wpIn_cond_false hev8 (wpIn_exit ?_)
  show (if b0 = b0 then _ else _)
  rw [if_pos rfl]
  refine ⟨?_, _, results_none hres _ _ _, _, ⟨⟨_, rfl⟩, V2, rfl, hl2, hJi⟩, hF2.trans hF3⟩
  rw [hd3, hd2]
end
end Go.Sx
