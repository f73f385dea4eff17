/- Part 12 of a proof of a law of this seat: no statement of the seat is proved here. -/
import Derived.Test.YtnoompnjibfbfaaGreatDoorPart11
import Derived.Test.YtnoompnjibfbfaaGreatDoorPart05
set_option linter.unusedVariables false
set_option linter.unusedSimpArgs false
namespace Go.Proofs
open Go Go.Sx
attribute [local irreducible] Go.Sx.Tri
def qGs : Prop := ∀ (V : Mem) (c : Option Addr) (d : Ds) (body : Bool) (l : Sl) (ls : List (Sl × List Fld)), qBC V c d -> qAd V l 1 (ls.map fun x => [x.1.v]) -> (∀ x ∈ ls, qAd V x.1 2 (x.2.map Fld.row)) ->
 Tri Tryz.prog 138 #[.pointer c, .bool body, .slice l.p l.n l.c] V fun r V' => ∃ mb, r = .returned (.agg #[.pointer c, .map (some mb), .bool body]) /\ V.sub V' /\ V mb = none /\ qBe V' mb (fun k => (qBH (ls.flatMap (·.2) ++ d.globals) k).map Value.string)
def NewC : Prop := ∀ (V : Mem) (d : Ds), Ds.Ok V d -> Tri Tryz.prog 110 #[d.v] V fun r V' => ∃ c, r = .returned (.pointer c) /\ V.sub V' /\ qBC V' c d
section
variable {V : Mem} {d : Ds} {c : Option Addr}
theorem qFg {a b : List Fld} (h : NE a) (k : NE b) : NE (a ++ b) := fun f hf => by
 rcases List.mem_append.1 hf with h' | h'
 ·exact h f h'
 ·exact k f h'
theorem impInProc (hS : qGs) (h : qBC V c d) (hv : VNe d) {p : Pr} (hm : p ∈ d.procs) (hp : Pr.Ok V p) : Tri Tryz.prog 230 #[.pointer c, p.v] V fun r V' => ∃ m, r = .returned (sV c m (qAL d p)) /\ V.sub V' /\ qGC V' m (qAL d p) := by
 refine x230 ?_
 unfold w230
 intro b hb
 have hs := Mem.sub_new hb (.cells #[.slice p.ps.p p.ps.n p.ps.c, .slice p.ls.p p.ls.n p.ls.c] 23 (0, 0))
 refine Tri.mono (hS _ c d true ⟨some ⟨b, 0, none⟩, 2, 2⟩ [(p.ps, p.params), (p.ls, p.locals)] (h.sub hs) (qAd.cells (xs := [(p.ps, p.params), (p.ls, p.locals)]) (row := fun x => [x.1.v]) mss rfl (fun _ => rfl) rfl (by simp)) ?_) ?_
 ·intro x hx
  simp only [List.mem_cons, List.not_mem_nil, or_false] at hx
  rcases hx with rfl | rfl
  ·exact hp.params.sub hs
  ·exact hp.locals.sub hs
 ·rintro _ V' ⟨mb, rfl, h1, h2, h3⟩
  refine ⟨_, _, _, rfl, some mb, rfl, hs.trans h1, ⟨mb, rfl, h3.congr fun k => ?_⟩, qFg (qFg (hv.params p hm).1 (hv.params p hm).2) hv.globals⟩
  simp [qAL]
theorem impInBound (hS : qGs) (h : qBC V c d) (hv : VNe d) {p : Pr} (hm : p ∈ d.procs) (hp : Pr.Ok V p) : Tri Tryz.prog 233 #[.pointer c, p.v] V fun r V' => ∃ m, r = .returned (sV c m (qBl d p)) /\ V.sub V' /\ qGC V' m (qBl d p) := by
 refine x233 ?_
 unfold w233
 intro b hb
 have hs := Mem.sub_new hb (.cells #[.slice p.ps.p p.ps.n p.ps.c] 23 (0, 0))
 refine Tri.mono (hS _ c d false ⟨some ⟨b, 0, none⟩, 1, 1⟩ [(p.ps, p.params)] (h.sub hs) (qAd.cells (xs := [(p.ps, p.params)]) (row := fun x => [x.1.v]) mss rfl (fun _ => rfl) rfl (by simp)) ?_) ?_
 ·intro x hx
  simp only [List.mem_cons, List.not_mem_nil, or_false] at hx
  rcases hx with rfl
  exact hp.params.sub hs
 ·rintro _ V' ⟨mb, rfl, h1, h2, h3⟩
  refine ⟨_, _, _, rfl, some mb, rfl, hs.trans h1, ⟨mb, rfl, h3.congr fun k => ?_⟩, qFg (hv.params p hm).1 hv.globals⟩
  simp [qBl]
theorem qEc (hS : qGs) (h : qBC V c d) (hv : VNe d) {t : ByteArray} : Tri Tryz.prog 89 #[.pointer c, .string t] V fun r V' => ∃ m, r = .returned (sV c m (qAk d t)) /\ V.sub V' /\ qGC V' m (qAk d t) := by
 refine x89 ?_
 unfold w89
 refine Tri.mono (hS V c d false ⟨none, 0, 0⟩ [] h qAd.nil (by simp)) ?_
 rintro _ V' ⟨mb, rfl, h1, h2, h3⟩
 refine ⟨_, _, _, rfl, fun he => ?_, fun he => ?_⟩
 ·refine ⟨some mb, rfl, h1, ⟨mb, rfl, h3.congr fun k => ?_⟩, ?_⟩
  ·unfold qAk sE; rw [if_pos he]; rfl
  ·unfold qAk sE; rw [if_pos he]; exact hv.globals
 ·refine qGr.str Tryz.underlying163 Tryz.underlying9 h3 fun o ho => ?_
  refine ⟨some mb, rfl, h1.set h2 _, ⟨mb, rfl, ho.congr fun k => ?_⟩, ?_⟩
  ·unfold qAk sE
   rw [if_neg he]
   unfold qBH
   simp only [List.flatMap_nil, List.nil_append, List.cons_append, List.find?_cons]
   rw [show (⟨#[116, 104, 105, 115]⟩ : ByteArray) = qBG from rfl]
   by_cases hk : k = qBG
   ·subst hk
    rw [if_pos rfl, decide_eq_true rfl]; rfl
   ·rw [if_neg (fun e => hk e), decide_eq_false (fun e : qBG = k => hk e.symm)]
  ·unfold qAk sE
   rw [if_neg he]
   refine qFg (fun f hf => ?_) hv.globals
   simp only [List.mem_cons, List.not_mem_nil, or_false] at hf
   subst hf
   exact he
theorem qCK {V1 : Mem} {X : Option Flt} {s : ByteArray} {n e : Int} (hX : X = some (s, n, e)) (h : V.sub V1) : qAn [(.string s), (.int .i64 n), (.int .i64 e)] 195 V1 fun v8 V2 => (∃ p, Ending.returned (.pointer (qAa v8 0)) = .returned (.pointer p) /\ V.sub V2 /\ FltAt V2 p X) := fun b hb => by
 subst hX
 exact ⟨some ⟨b, 0, none⟩, rfl, h.trans (Mem.sub_new hb _), b, _, rfl, Mem.set_same _ _ _⟩
theorem oneT_cases (d : Ds) (l : List Fld) (i : Nat) (f : Fld) : ((l.take i).any (fun g => decide (g.name = f.name)) = true /\ qFP d l i f = 10) ∨ (¬ (l.take i).any (fun g => decide (g.name = f.name)) = true /\ known d f.ty = true /\ qFP d l i f = 0) ∨ (¬ (l.take i).any (fun g => decide (g.name = f.name)) = true /\ ¬ known d f.ty = true /\ qFP d l i f = 9) := by
 unfold qFP
 by_cases h : (l.take i).any (fun g => decide (g.name = f.name)) = true
 ·exact .inl ⟨h, if_pos h⟩
 ·by_cases k : known d f.ty = true
  ·exact .inr (.inl ⟨h, k, by rw [if_neg h, if_pos k]⟩)
  ·exact .inr (.inr ⟨h, k, by rw [if_neg h, if_neg k]⟩)
theorem impTypes (h : qBC V c d) : FltC 162 [.pointer c] V (qGW d) := by
 refine x162 ?_
 unfold w162 qGW
 refine ⟨h.nn, h.nn, qAc h.nn, d.ts, h.cell (i := 1) rfl, ?_⟩
 unfold types1
 generalize hf1 : (fun i (t : Ty) => if (d.types.take i).any (fun g => decide (g.name = t.name)) = true then some ((t.name, -1, 10) : Flt) else none) = F1
 refine qAA d.types.length (fun k V1 => V = V1 /\ qAf F1 0 d.types = qAf F1 k (d.types.drop k)) ⟨rfl, rfl⟩ ?_
 rintro k b V1 J hi ⟨rfl, ha⟩ hJ
 have rf := Mem.sub.refl V
 refine ⟨fun hk => ?_, fun hk => ?_⟩
 ·obtain ⟨g, hm, hx, hdr, hl, hp, hz, hrow⟩ := h.ok.types.get hk
  rw [hdr] at ha
  refine ⟨hp, hz, hk, _, _, hrow, h.nn, h.nn, qAc h.nn, d.ts, h.cell (i := 1) rfl, (c215 h.ok.types hx).call ⟨_, rfl, fun h1 => qCK ?_ rf, fun h1 => ⟨h.ok.types.succ hk, hJ hl _ _ ⟨rfl, ?_⟩⟩⟩⟩
  ·rw [ha, qAe (b := (g.name, -1, 10)) (by rw [<- hf1]; exact if_pos h1)]; rfl
  ·rw [ha, qAh (by rw [<- hf1]; exact if_neg h1)]
 rw [(h.ok.types.done hk).1, qAf] at ha
 rw [ha, Option.none_or]
 refine ⟨h.nn, h.nn, qAc h.nn, d.ts, h.cell (i := 1) rfl, ?_⟩
 unfold types2
 generalize hf2 : (fun (_ : Nat) (t : Ty) => if qCS d t.fields ≠ 0 then some ((t.name, -1, qCS d t.fields) : Flt) else none) = F2
 refine qAA d.types.length (fun k V1 => V = V1 /\ qAf F2 0 d.types = qAf F2 k (d.types.drop k)) ⟨rfl, rfl⟩ ?_
 rintro k b V1 J hi ⟨rfl, ha⟩ hJ
 refine ⟨fun hk => ?_, fun hk => ?_⟩
 ·obtain ⟨g, hm, hx, hdr, hl, hp, hz, hrow⟩ := h.ok.types.get hk
  rw [hdr] at ha
  refine ⟨hp, hz, hk, _, _, hrow, (c217 h (h.ok.typesOk g hm).fields).call ⟨_, rfl, fun h1 => ⟨h.ok.types.succ hk, hJ hl _ _ ⟨rfl, ?_⟩⟩, fun h1 => qCK ?_ rf⟩⟩
  ·rw [ha, qAh (by rw [<- hf2]; exact if_neg fun e => e h1)]
  ·rw [ha, qAe (b := (g.name, -1, qCS d g.fields)) (by rw [<- hf2]; exact if_pos h1)]; rfl
 rw [(h.ok.types.done hk).1, qAf] at ha
 rw [ha, Option.none_or]
 refine ⟨h.nn, h.nn, qAc h.nn, d.gs, h.cell (i := 2) rfl, ?_⟩
 unfold types3
 generalize hf3 : (fun i (f : Fld) => if qFP d d.globals i f ≠ 0 then some ((f.name, -1, qFP d d.globals i f) : Flt) else none) = F3
 refine qAA d.globals.length (fun k V1 => V = V1 /\ qAf F3 0 d.globals = qAf F3 k (d.globals.drop k)) ⟨rfl, rfl⟩ ?_
 rintro k b V1 J hi ⟨rfl, ha⟩ hJ
 refine ⟨fun hk => ?_, fun hk => ?_⟩
 ·obtain ⟨g, hm, hx, hdr, hl, hp, hz, hrow⟩ := h.ok.globals.get hk
  rw [hdr] at ha
  have ho := oneT_cases d d.globals k g
  refine ⟨hp, hz, hk, _, _, hrow, h.nn, h.nn, qAc h.nn, d.gs, h.cell (i := 2) rfl, (c218 h.ok.globals hx).call ⟨_, rfl, fun h1 => qCK ?_ rf, fun h1 => (c220 h).call ⟨_, rfl, fun h2 => ⟨h.ok.globals.succ hk, hJ hl _ _ ⟨rfl, ?_⟩⟩, fun h2 => qCK ?_ rf⟩⟩⟩
  ·rcases ho with ⟨_, e⟩ | ⟨h', _⟩ | ⟨h', _⟩
   ·rw [ha, qAe (b := (g.name, -1, 10)) (by rw [<- hf3]; exact (if_pos (by rw [e]; decide)).trans (by rw [e]))]
   ·exact absurd h1 h'
   ·exact absurd h1 h'
  ·rcases ho with ⟨h', _⟩ | ⟨_, _, e⟩ | ⟨_, h', _⟩
   ·exact absurd h' h1
   ·rw [ha, qAh (by rw [<- hf3]; exact if_neg fun h => h e)]
   ·exact absurd h2 h'
  ·rcases ho with ⟨h', _⟩ | ⟨_, h', _⟩ | ⟨_, _, e⟩
   ·exact absurd h' h1
   ·exact absurd h' h2
   ·rw [ha, qAe (b := (g.name, -1, 9)) (by rw [<- hf3]; exact (if_pos (by rw [e]; decide)).trans (by rw [e]))]
 rw [(h.ok.globals.done hk).1, qAf] at ha
 rw [ha]
 exact ⟨none, rfl, rf, rfl⟩
theorem impHeads (h : qBC V c d) (hsm : Small d) : FltC 163 [.pointer c] V (qGo d) := by
 refine x163 ?_
 unfold w163 qGo
 refine ⟨h.nn, h.nn, qAc h.nn, d.ps, h.cell (i := 3) rfl, ?_⟩
 generalize hf1 : (fun i (p : Pr) => if (d.procs.take i).any (fun g => decide (g.name = p.name)) = true then some ((p.name, -1, 10) : Flt) else if qCS d (p.params ++ p.locals) ≠ 0 then some (p.name, -1, qCS d (p.params ++ p.locals)) else if p.result ≠ sE /\ known d p.result = false then some (p.name, -1, 9) else none) = F1
 refine qAA d.procs.length (fun k V1 => V.sub V1 /\ qAf F1 0 d.procs = qAf F1 k (d.procs.drop k)) ⟨Mem.sub.refl _, rfl⟩ ?_
 rintro k b V1 J hi ⟨hV, ha⟩ hJ
 have h1 := h.sub hV
 refine ⟨fun hk => ?_, fun hk => ?_⟩
 ·obtain ⟨g, hm, hx, hdr, hl, hp, hz, hrow⟩ := h1.ok.procs.get hk
  rw [hdr] at ha
  have hg := h1.ok.procsOk g hm
  have hs := hsm.2 g hm
  refine ⟨hp, hz, hk, _, _, _, _, _, hrow, h.nn, h.nn, qAc h.nn, d.ps, h1.cell (i := 3) rfl, (c221 h1.ok.procs hx).call ⟨_, rfl, fun n1 => qCK ?_ hV, fun n1 => ?_⟩⟩
  ·rw [ha, qAe (b := (g.name, -1, 10)) (by rw [<- hf1]; exact if_pos n1)]
  intro b1 hb1
  have s1 := Mem.sub_new hb1 (.cells #[.slice g.ps.p g.ps.n g.ps.c, .slice g.ls.p g.ls.n g.ls.c] 23 (0, 0))
  refine Tri.mono (concatF (l := ⟨some ⟨b1, 0, none⟩, 2, 2⟩) (ls := [(g.ps, g.params), (g.ls, g.locals)]) (qAd.cells (xs := [(g.ps, g.params), (g.ls, g.locals)]) (row := fun x => [x.1.v]) mss rfl (fun _ => rfl) rfl (by simp)) ?_ (by simp) ?_) ?_
  ·intro x hx
   simp only [List.mem_cons, List.not_mem_nil, or_false] at hx
   rcases hx with rfl | rfl
   ·exact hg.params.sub s1
   ·exact hg.locals.sub s1
  ·intro x hx
   simp only [List.mem_cons, List.not_mem_nil, or_false] at hx
   rcases hx with rfl | rfl
   ·exact hs.1
   ·exact hs.2
  rintro _ V2 ⟨s', rfl, h12, hrows⟩
  have hV2 := hV.trans (s1.trans h12)
  have hfl : ([(g.ps, g.params), (g.ls, g.locals)] : List (Sl × List Fld)).flatMap (·.2) = g.params ++ g.locals := by simp
  rw [hfl] at hrows
  refine ⟨s', rfl, (c217 (h.sub hV2) hrows).call ⟨_, rfl, fun h2 => ?_, fun h2 => qCK ?_ hV2⟩⟩
  ·have n2 : ¬ (qCS d (g.params ++ g.locals) ≠ 0) := fun e => e h2
   refine ⟨fun h3 => ⟨h1.ok.procs.succ hk, hJ hl _ _ ⟨hV2, ?_⟩⟩, fun h3 => (c220 (h.sub hV2)).call ⟨_, rfl, fun h4 => ⟨h1.ok.procs.succ hk, hJ hl _ _ ⟨hV2, ?_⟩⟩, fun h4 => qCK ?_ hV2⟩⟩
   ·rw [ha, qAh (by rw [<- hf1]; exact (if_neg n1).trans ((if_neg n2).trans (if_neg fun e => e.1 h3)))]
   ·rw [ha, qAh (by rw [<- hf1]; exact (if_neg n1).trans ((if_neg n2).trans (if_neg fun e => by rw [h4] at e; exact absurd e.2 (by simp))))]
   ·rw [ha, qAe (b := (g.name, -1, 9)) (by rw [<- hf1]; exact (if_neg n1).trans ((if_neg n2).trans (if_pos ⟨h3, eq_false_of_ne_true h4⟩)))]
  ·rw [ha, qAe (b := (g.name, -1, qCS d (g.params ++ g.locals))) (by rw [<- hf1]; exact (if_neg n1).trans (if_pos h2))]
 rw [(h1.ok.procs.done hk).1, qAf] at ha
 rw [ha]
 exact ⟨none, rfl, hV, rfl⟩
end
section
variable {V : Mem} {d : Ds} {c : Option Addr}
theorem impForm (h : qBC V c d) : FltC 164 [.pointer c] V (qEf d) := by
 refine x164 ?_
 unfold w164 qEf
 have rf := Mem.sub.refl V
 refine ⟨h.nn, h.nn, qAc h.nn, d.ms, h.cell (i := 4) rfl, ?_⟩
 unfold form1
 generalize hf1 : (fun i (m : Ms) => if (d.measures.take i).any (fun g => decide (g.name = m.name)) = true then some ((m.name, -1, 10) : Flt) else if qAN d m.ty = false then some (m.name, -1, 9) else none) = F1
 refine qAA d.measures.length (fun k V1 => V = V1 /\ qAf F1 0 d.measures = qAf F1 k (d.measures.drop k)) ⟨rfl, rfl⟩ ?_
 rintro k b V1 J hi ⟨rfl, ha⟩ hJ
 refine ⟨fun hk => ?_, fun hk => ?_⟩
 ·obtain ⟨g, hm, hx, hdr, hl, hp, hz, hrow⟩ := h.ok.measures.get hk
  rw [hdr] at ha
  refine ⟨hp, hz, hk, _, _, _, _, _, _, _, hrow, h.nn, h.nn, qAc h.nn, d.ms, h.cell (i := 4) rfl, (c224 h.ok.measures hx).call ⟨_, rfl, fun h1 => qCK ?_ rf, fun h1 => (c88 h).call ⟨_, rfl, fun h2 => ⟨h.ok.measures.succ hk, hJ hl _ _ ⟨rfl, ?_⟩⟩, fun h2 => qCK ?_ rf⟩⟩⟩
  ·rw [ha, qAe (b := (g.name, -1, 10)) (by rw [<- hf1]; exact if_pos h1)]; rfl
  ·rw [ha, qAh (by rw [<- hf1]; exact (if_neg h1).trans (if_neg (by rw [h2]; simp)))]
  ·rw [ha, qAe (b := (g.name, -1, 9)) (by rw [<- hf1]; exact (if_neg h1).trans (if_pos (eq_false_of_ne_true h2)))]; rfl
 rw [(h.ok.measures.done hk).1, qAf] at ha
 rw [ha, Option.none_or]
 refine ⟨h.nn, h.nn, qAc h.nn, d.is, h.cell (i := 5) rfl, ?_⟩
 unfold form2
 generalize hf2 : (fun i (m : Iv) => if (d.invs.take i).any (fun g => decide (g.name = m.name)) = true then some ((m.name, -1, 10) : Flt) else if m.ty ≠ sE /\ qAN d m.ty = false then some (m.name, -1, 9) else none) = F2
 refine qAA d.invs.length (fun k V1 => V = V1 /\ qAf F2 0 d.invs = qAf F2 k (d.invs.drop k)) ⟨rfl, rfl⟩ ?_
 rintro k b V1 J hi ⟨rfl, ha⟩ hJ
 refine ⟨fun hk => ?_, fun hk => ?_⟩
 ·obtain ⟨g, hm, hx, hdr, hl, hp, hz, hrow⟩ := h.ok.invs.get hk
  rw [hdr] at ha
  refine ⟨hp, hz, hk, _, _, _, _, _, _, hrow, h.nn, h.nn, qAc h.nn, d.is, h.cell (i := 5) rfl, (c226 h.ok.invs hx).call ⟨_, rfl, fun h1 => qCK ?_ rf, fun h1 => ⟨fun h3 => ⟨h.ok.invs.succ hk, hJ hl _ _ ⟨rfl, ?_⟩⟩, fun h3 => (c88 h).call ⟨_, rfl, fun h2 => ⟨h.ok.invs.succ hk, hJ hl _ _ ⟨rfl, ?_⟩⟩, fun h2 => qCK ?_ rf⟩⟩⟩⟩
  ·rw [ha, qAe (b := (g.name, -1, 10)) (by rw [<- hf2]; exact if_pos h1)]; rfl
  ·rw [ha, qAh (by rw [<- hf2]; exact (if_neg h1).trans (if_neg fun e => e.1 h3))]
  ·rw [ha, qAh (by rw [<- hf2]; exact (if_neg h1).trans (if_neg fun e => by rw [h2] at e; exact absurd e.2 (by simp)))]
  ·rw [ha, qAe (b := (g.name, -1, 9)) (by rw [<- hf2]; exact (if_neg h1).trans (if_pos ⟨h3, eq_false_of_ne_true h2⟩))]; rfl
 rw [(h.ok.invs.done hk).1, qAf] at ha
 rw [ha, Option.none_or]
 refine ⟨h.nn, h.nn, qAc h.nn, d.qs, h.cell (i := 6) rfl, ?_⟩
 unfold form3
 generalize hf3 : (fun (_ : Nat) (m : Po) => if m.ty ≠ sE /\ qAN d m.ty = false then some ((sPot, -1, 9) : Flt) else none) = F3
 refine qAA d.pots.length (fun k V1 => V = V1 /\ qAf F3 0 d.pots = qAf F3 k (d.pots.drop k)) ⟨rfl, rfl⟩ ?_
 rintro k b V1 J hi ⟨rfl, ha⟩ hJ
 refine ⟨fun hk => ?_, fun hk => ?_⟩
 ·obtain ⟨g, hm, hx, hdr, hl, hp, hz, hrow⟩ := h.ok.pots.get hk
  rw [hdr] at ha
  refine ⟨hp, hz, hk, _, _, _, _, _, hrow, fun h3 => ⟨h.ok.pots.succ hk, hJ hl _ _ ⟨rfl, ?_⟩⟩, fun h3 => (c88 h).call ⟨_, rfl, fun h2 => ⟨h.ok.pots.succ hk, hJ hl _ _ ⟨rfl, ?_⟩⟩, fun h2 => qCK ?_ rf⟩⟩
  ·rw [ha, qAh (by rw [<- hf3]; exact if_neg fun e => e.1 h3)]
  ·rw [ha, qAh (by rw [<- hf3]; exact if_neg fun e => by rw [h2] at e; exact absurd e.2 (by simp))]
  ·rw [ha, qAe (b := (sPot, -1, 9)) (by rw [<- hf3]; exact if_pos ⟨h3, eq_false_of_ne_true h2⟩)]; rfl
 rw [(h.ok.pots.done hk).1, qAf] at ha
 rw [ha, Option.none_or]
 refine ⟨h.nn, h.nn, qAc h.nn, d.bs, h.cell (i := 7) rfl, ?_⟩
 unfold form4
 generalize hf4 : (fun i (b : Bd) => if (qFd d b.proc).isNone = true then some ((b.proc, -1, 9) : Flt) else if (d.bounds.take i).any (fun g => decide (g.proc = b.proc)) = true then some (b.proc, -1, 10) else none) = F4
 refine qAA d.bounds.length (fun k V1 => V = V1 /\ qAf F4 0 d.bounds = qAf F4 k (d.bounds.drop k)) ⟨rfl, rfl⟩ ?_
 rintro k b V1 J hi ⟨rfl, ha⟩ hJ
 refine ⟨fun hk => ?_, fun hk => ?_⟩
 ·obtain ⟨g, hm, hx, hdr, hl, hp, hz, hrow⟩ := h.ok.bounds.get hk
  rw [hdr] at ha
  obtain ⟨mt, q1, q2⟩ := h.procs
  refine ⟨hp, hz, hk, _, _, _, _, _, hrow, h.nn, h.nn, _, q1, qBv.str Tryz.underlying208 Tryz.underlying9 zero146 q2 ?_⟩
  cases hpr : qFd d g.proc with
  | none =>
   refine ⟨_, ⟨none, 0, 0⟩, _, ⟨none, 0, 0⟩, ⟨none, 0, 0⟩, _, rfl, fun h => absurd h (by simp), fun _ => qCK ?_ rf⟩
   rw [ha, qAe (b := (g.proc, -1, 9)) (by rw [<- hf4]; exact if_pos (by rw [hpr]; rfl))]
  | some p =>
   have n0 : ¬ (qFd d g.proc).isNone = true := by rw [hpr]; simp
   refine ⟨_, p.ps, _, p.ls, p.bs, _, rfl, fun _ => ⟨h.nn, h.nn, qAc h.nn, d.bs, h.cell (i := 7) rfl, (c228 h.ok.bounds hx).call ⟨_, rfl, fun h1 => qCK ?_ rf, fun h1 => ⟨h.ok.bounds.succ hk, hJ hl _ _ ⟨rfl, ?_⟩⟩⟩⟩, fun h => absurd rfl h⟩
   ·rw [ha, qAe (b := (g.proc, -1, 10)) (by rw [<- hf4]; exact (if_neg n0).trans (if_pos h1))]
   ·rw [ha, qAh (by rw [<- hf4]; exact (if_neg n0).trans (if_neg h1))]
 rw [(h.ok.bounds.done hk).1, qAf] at ha
 rw [ha]
 exact ⟨none, rfl, rf, rfl⟩
theorem impBodies (hS : qGs) (h : qBC V c d) (hv : VNe d) (hp : qJd d) : FltC 165 [.pointer c] V (qDM d) := by
 refine x165 ?_
 unfold w165 qDM
 refine ⟨h.nn, h.nn, qAc h.nn, d.ps, h.cell (i := 3) rfl, ?_⟩
 generalize hf1 : (fun (_ : Nat) (p : Pr) => if (qBK d (qAL d p) p.result 0 p.body).2 ≠ 0 then some ((p.name, (qBK d (qAL d p) p.result 0 p.body).1, (qBK d (qAL d p) p.result 0 p.body).2) : Flt) else none) = F1
 refine qAA d.procs.length (fun k V1 => V.sub V1 /\ qAf F1 0 d.procs = qAf F1 k (d.procs.drop k)) ⟨Mem.sub.refl _, rfl⟩ ?_
 rintro k b V1 J hi ⟨hV, ha⟩ hJ
 have h1 := h.sub hV
 refine ⟨fun hk => ?_, fun hk => ?_⟩
 ·obtain ⟨g, hm, hx, hdr, hl, hpp, hz, hrow⟩ := h1.ok.procs.get hk
  rw [hdr] at ha
  have hg := h1.ok.procsOk g hm
  refine ⟨hpp, hz, hk, _, _, _, _, _, hrow, Tri.mono (impInProc hS h1 hv hm hg) ?_⟩
  rintro _ V2 ⟨m, rfl, h12, hsc⟩
  refine ⟨_, _, _, rfl, fun b1 hb1 => ?_⟩
  obtain ⟨hs1, hs2⟩ := hp.ps g hm
  have s1 := Mem.sub_new hb1 (cell (.int .i64 0) 3)
  refine Tri.mono (impStmts hb1 (h1.sub h12) hv hsc rfl g.body _ g.bs 0 1 s1 mss (hg.sub h12).body (hg.sub h12).stmts hs1 (by omega) (by omega)) ?_
  rintro _ V3 ⟨rfl, n', hn', -⟩
  have hV3 := hV.trans (h12.trans (hn'.base s1 hb1))
  refine ⟨_, _, rfl, fun h2 => ⟨h1.ok.procs.succ hk, hJ hl _ _ ⟨hV3, ?_⟩⟩, fun h2 => qCK ?_ hV3⟩
  ·rw [ha, qAh (by rw [<- hf1]; exact if_neg fun e => e h2)]
  ·have : qID (qBK d (qAL d g) g.result 0 g.body) = (qBK d (qAL d g) g.result 0 g.body).1 := if_neg h2
   rw [this, ha, qAe (b := (g.name, (qBK d (qAL d g) g.result 0 g.body).1, (qBK d (qAL d g) g.result 0 g.body).2)) (by rw [<- hf1]; exact if_pos h2)]
 rw [(h1.ok.procs.done hk).1, qAf] at ha
 rw [ha]
 exact ⟨none, rfl, hV, rfl⟩
theorem qBZ {V1 : Mem} {X : Option Flt} (h : FltAt V1 none X) : X = none := by
 cases X with
 | none => rfl
 | some r => obtain ⟨b, t, h1, _⟩ := h; cases h1
theorem qEr {V1 : Mem} {X : Option Flt} {p : Option Addr} (h : FltAt V1 p X) (hp : ¬ p = none) : ∃ r, X = some r := by
 cases X with
 | none => exact absurd h hp
 | some r => exact ⟨r, rfl⟩
theorem impExps (hS : qGs) (h : qBC V c d) (hv : VNe d) (hp : qJd d) (hform : qEf d = none) : FltC 166 [.pointer c] V (qGB d) := by
 refine x166 ?_
 unfold w166 qGB
 refine ⟨h.nn, h.nn, qAc h.nn, d.ms, h.cell (i := 4) rfl, ?_⟩
 unfold exp1
 generalize hf1 : (fun (_ : Nat) (m : Ms) => if qBa d (qAk d m.ty) m.x qAP ≠ 0 then some ((m.name, -1, qBa d (qAk d m.ty) m.x qAP) : Flt) else none) = F1
 refine qAA d.measures.length (fun k V1 => V.sub V1 /\ qAf F1 0 d.measures = qAf F1 k (d.measures.drop k)) ⟨Mem.sub.refl _, rfl⟩ ?_
 rintro k b V1 J hi ⟨hV, ha⟩ hJ
 have h1 := h.sub hV
 refine ⟨fun hk => ?_, fun hk => ?_⟩
 ·obtain ⟨g, hm, hx, hdr, hl, hpp, hz, hrow⟩ := h1.ok.measures.get hk
  rw [hdr] at ha
  refine ⟨hpp, hz, hk, _, _, _, _, _, _, _, hrow, Tri.mono (qEc hS h1 hv) ?_⟩
  rintro _ V2 ⟨m, rfl, h12, hsc⟩
  refine ⟨_, _, _, rfl, Tri.mono (c232 (e := g.x) (h1.sub h12) hv hsc ((h1.sub h12).ok.measuresOk g hm).x (hp.ms g hm)) ?_⟩
  rintro _ V3 ⟨p, rfl, h23, hfl⟩
  have hV3 := hV.trans (h12.trans h23)
  have hfe : (if qBa d (qAk d g.ty) g.x qAP ≠ 0 then some ((g.name, -1, qBa d (qAk d g.ty) g.x qAP) : Flt) else none) = F1 k g := by rw [<- hf1]
  rw [show qAi [105, 110, 116] = qAP from rfl] at hfl
  rw [hfe] at hfl
  refine ⟨_, rfl, fun hn => ?_, fun hn => ?_⟩
  ·subst hn
   exact ⟨h1.ok.measures.succ hk, hJ hl _ _ ⟨hV3, by rw [ha, qAh (qBZ hfl)]⟩⟩
  ·obtain ⟨r, hr⟩ := qEr hfl hn
   rw [ha, qAe hr]
   rw [hr] at hfl
   exact ⟨p, rfl, hV3, hfl⟩
 rw [(h1.ok.measures.done hk).1, qAf] at ha
 rw [ha, Option.none_or]
 refine ⟨h.nn, h.nn, qAc h.nn, d.is, h1.cell (i := 5) rfl, ?_⟩
 unfold exp2
 generalize hf2 : (fun (_ : Nat) (m : Iv) => if qBa d (qAk d m.ty) m.x qAt ≠ 0 then some ((m.name, -1, qBa d (qAk d m.ty) m.x qAt) : Flt) else none) = F2
 refine qAA d.invs.length (fun k V1 => V.sub V1 /\ qAf F2 0 d.invs = qAf F2 k (d.invs.drop k)) ⟨hV, rfl⟩ ?_
 rintro k b V1 J hi ⟨hV, ha⟩ hJ
 have h1 := h.sub hV
 refine ⟨fun hk => ?_, fun hk => ?_⟩
 ·obtain ⟨g, hm, hx, hdr, hl, hpp, hz, hrow⟩ := h1.ok.invs.get hk
  rw [hdr] at ha
  refine ⟨hpp, hz, hk, _, _, _, _, _, _, hrow, Tri.mono (qEc hS h1 hv) ?_⟩
  rintro _ V2 ⟨m, rfl, h12, hsc⟩
  refine ⟨_, _, _, rfl, Tri.mono (c232 (e := g.x) (h1.sub h12) hv hsc ((h1.sub h12).ok.invsOk g hm) (hp.is g hm)) ?_⟩
  rintro _ V3 ⟨p, rfl, h23, hfl⟩
  have hV3 := hV.trans (h12.trans h23)
  have hfe : (if qBa d (qAk d g.ty) g.x qAt ≠ 0 then some ((g.name, -1, qBa d (qAk d g.ty) g.x qAt) : Flt) else none) = F2 k g := by rw [<- hf2]
  rw [show qAi [98, 111, 111, 108] = qAt from rfl] at hfl
  rw [hfe] at hfl
  refine ⟨_, rfl, fun hn => ?_, fun hn => ?_⟩
  ·subst hn
   exact ⟨h1.ok.invs.succ hk, hJ hl _ _ ⟨hV3, by rw [ha, qAh (qBZ hfl)]⟩⟩
  ·obtain ⟨r, hr⟩ := qEr hfl hn
   rw [ha, qAe hr]
   rw [hr] at hfl
   exact ⟨p, rfl, hV3, hfl⟩
 rw [(h1.ok.invs.done hk).1, qAf] at ha
 rw [ha, Option.none_or]
 refine ⟨h.nn, h.nn, qAc h.nn, d.qs, h1.cell (i := 6) rfl, ?_⟩
 unfold exp3
 generalize hf3 : (fun (_ : Nat) (m : Po) => if qBa d (qAk d m.ty) m.x qAP ≠ 0 then some ((sPot, -1, qBa d (qAk d m.ty) m.x qAP) : Flt) else none) = F3
 refine qAA d.pots.length (fun k V1 => V.sub V1 /\ qAf F3 0 d.pots = qAf F3 k (d.pots.drop k)) ⟨hV, rfl⟩ ?_
 rintro k b V1 J hi ⟨hV, ha⟩ hJ
 have h1 := h.sub hV
 refine ⟨fun hk => ?_, fun hk => ?_⟩
 ·obtain ⟨g, hm, hx, hdr, hl, hpp, hz, hrow⟩ := h1.ok.pots.get hk
  rw [hdr] at ha
  refine ⟨hpp, hz, hk, _, _, _, _, _, hrow, Tri.mono (qEc hS h1 hv) ?_⟩
  rintro _ V2 ⟨m, rfl, h12, hsc⟩
  refine ⟨_, _, _, rfl, Tri.mono (c232 (e := g.x) (h1.sub h12) hv hsc ((h1.sub h12).ok.potsOk g hm) (hp.qs g hm)) ?_⟩
  rintro _ V3 ⟨p, rfl, h23, hfl⟩
  have hV3 := hV.trans (h12.trans h23)
  have hfe : (if qBa d (qAk d g.ty) g.x qAP ≠ 0 then some ((sPot, -1, qBa d (qAk d g.ty) g.x qAP) : Flt) else none) = F3 k g := by rw [<- hf3]
  rw [show qAi [105, 110, 116] = qAP from rfl, show qAi [112, 111, 116, 101, 110, 116, 105, 97, 108] = sPot from rfl] at hfl
  rw [hfe] at hfl
  refine ⟨_, rfl, fun hn => ?_, fun hn => ?_⟩
  ·subst hn
   exact ⟨h1.ok.pots.succ hk, hJ hl _ _ ⟨hV3, by rw [ha, qAh (qBZ hfl)]⟩⟩
  ·obtain ⟨r, hr⟩ := qEr hfl hn
   rw [ha, qAe hr]
   rw [hr] at hfl
   exact ⟨p, rfl, hV3, hfl⟩
 rw [(h1.ok.pots.done hk).1, qAf] at ha
 rw [ha, Option.none_or]
 refine ⟨h.nn, h.nn, qAc h.nn, d.bs, h1.cell (i := 7) rfl, ?_⟩
 have hpr := qHS hform
 unfold exp4
 generalize hf4 : (fun (_ : Nat) (m : Bd) => if qBa d (qBl d ((qFd d m.proc).getD prD)) m.x qAP ≠ 0 then some ((m.proc, -1, qBa d (qBl d ((qFd d m.proc).getD prD)) m.x qAP) : Flt) else none) = F4
 refine qAA d.bounds.length (fun k V1 => V.sub V1 /\ qAf F4 0 d.bounds = qAf F4 k (d.bounds.drop k)) ⟨hV, rfl⟩ ?_
 rintro k b V1 J hi ⟨hV, ha⟩ hJ
 have h1 := h.sub hV
 refine ⟨fun hk => ?_, fun hk => ?_⟩
 ·obtain ⟨g, hm, hx, hdr, hl, hpp, hz, hrow⟩ := h1.ok.bounds.get hk
  rw [hdr] at ha
  obtain ⟨q, hq⟩ := hpr g hm
  obtain ⟨mt, q1, q2⟩ := h1.procs
  refine ⟨hpp, hz, hk, _, _, _, _, _, hrow, h.nn, h.nn, _, q1, qBv.str1 Tryz.underlying208 Tryz.underlying9 zero146 q2 ?_⟩
  rw [hq]
  refine ⟨_, q.ps, _, q.ls, q.bs, rfl, Tri.mono (impInBound hS h1 hv (qJs hq) (h1.ok.procsOk q (qJs hq))) ?_⟩
  rintro _ V2 ⟨m, rfl, h12, hsc⟩
  refine ⟨_, _, _, rfl, Tri.mono (c232 (e := g.x) (h1.sub h12) hv hsc ((h1.sub h12).ok.boundsOk g hm) (hp.bs g hm)) ?_⟩
  rintro _ V3 ⟨p, rfl, h23, hfl⟩
  have hV3 := hV.trans (h12.trans h23)
  have hfe : (if qBa d (qBl d q) g.x qAP ≠ 0 then some ((g.proc, -1, qBa d (qBl d q) g.x qAP) : Flt) else none) = F4 k g := by rw [<- hf4]; simp only [hq, Option.getD_some]
  rw [show qAi [105, 110, 116] = qAP from rfl] at hfl
  rw [hfe] at hfl
  refine ⟨_, rfl, fun hn => ?_, fun hn => ?_⟩
  ·subst hn
   exact ⟨h1.ok.bounds.succ hk, hJ hl _ _ ⟨hV3, by rw [ha, qAh (qBZ hfl)]⟩⟩
  ·obtain ⟨r, hr⟩ := qEr hfl hn
   rw [ha, qAe hr]
   rw [hr] at hfl
   exact ⟨p, rfl, hV3, hfl⟩
 rw [(h1.ok.bounds.done hk).1, qAf] at ha
 rw [ha]
 exact ⟨none, rfl, hV, rfl⟩
end
theorem qAo.makeF1 {P : Program} {V : Mem} {f : FuncId} {x : Operand} {ty : Nat} {vals : Operand -> Value} {v : Value} (hx : vals x = v) {q : Value -> Mem -> Prop} (hq : q (.func (.func f) #[v] #[]) V) : qAo P (.makeFunc (.func f) #[x] #[]) ty vals V q := by
 intro w hw
 refine ⟨_, w, V, ?_, Frm.refl hw, hq⟩
 unfold execOp Instr.makeFunc
 simp only [Sem.run_bind, Sem.run_pure, Result.andThen_ok, List.map_toArray, List.map_cons, List.map_nil, hx]
section
variable {V : Mem} {d : Ds} {c : Option Addr}
theorem impFirst (hS : qGs) (h : qBC V c d) (hv : VNe d) (hp : qJd d) : FltC 111 [.pointer c] V (qIZ d) := by
 refine x111 ?_
 unfold w111
 have F1 := fun V1 (hs : V.sub V1) => impTypes (h.sub hs)
 have F2 := fun V1 (hs : V.sub V1) => impHeads (h.sub hs) hp.small
 have F3 := fun V1 (hs : V.sub V1) => impForm (h.sub hs)
 have F4 := fun V1 (hs : V.sub V1) => impBodies hS (h.sub hs) hv hp
 have F5 := fun V1 (hs : V.sub V1) (hf : qEf d = none) => impExps hS (h.sub hs) hv hp hf
 refine qAo.makeF1 (v := .pointer c) rfl ⟨.func (.func 162) #[.pointer c] #[], rfl, rfl, qAo.makeF1 (v := .pointer c) rfl ⟨.func (.func 163) #[.pointer c] #[], rfl, rfl, qAo.makeF1 (v := .pointer c) rfl ⟨.func (.func 164) #[.pointer c] #[], rfl, rfl, qAo.makeF1 (v := .pointer c) rfl ⟨.func (.func 165) #[.pointer c] #[], rfl, rfl, qAo.makeF1 (v := .pointer c) rfl ⟨.func (.func 166) #[.pointer c] #[], rfl, rfl, fun b hb => ?_⟩⟩⟩⟩⟩
 have hs1 := Mem.sub_new hb (.cells #[.func (.func 162) #[.pointer c] #[], .func (.func 163) #[.pointer c] #[], .func (.func 164) #[.pointer c] #[], .func (.func 165) #[.pointer c] #[], .func (.func 166) #[.pointer c] #[]] 193 (0, 0))
 refine qAA 5 (fun i V1 => V.sub V1 /\ V1 b = some (.cells #[.func (.func 162) #[.pointer c] #[], .func (.func 163) #[.pointer c] #[], .func (.func 164) #[.pointer c] #[], .func (.func 165) #[.pointer c] #[], .func (.func 166) #[.pointer c] #[]] 193 (0, 0)) /\
  ((i = 0 /\ qIZ d = (qGW d).or ((qGo d).or ((qEf d).or ((qDM d).or (qGB d))))) ∨ (i = 1 /\ qIZ d = (qGo d).or ((qEf d).or ((qDM d).or (qGB d)))) ∨ (i = 2 /\ qIZ d = (qEf d).or ((qDM d).or (qGB d))) ∨ (i = 3 /\ qEf d = none /\ qIZ d = (qDM d).or (qGB d)) ∨ (i = 4 /\ qEf d = none /\ qIZ d = qGB d) ∨ (i = 5 /\ qIZ d = none))) ⟨hs1, Mem.set_same _ _ _, .inl ⟨rfl, rfl⟩⟩ ?_
 rintro i b' V1 J hi ⟨hV, hrow, hst⟩ hJ
 have fin : ∀ {V2 : Mem} {X Y : Option Flt} {p : Option Addr}, V.sub V2 -> FltAt V2 p X -> ¬ (p = none) -> qIZ d = X.or Y -> (∃ p', Ending.returned (.pointer p) = .returned (.pointer p') /\ V.sub V2 /\ FltAt V2 p' (qIZ d)) := fun {V2 X Y p} hs hf hn he => by
  obtain ⟨r, rfl⟩ := qEr hf hn
  rw [he]
  exact ⟨p, rfl, hs, hf⟩
 refine ⟨fun hlt => ?_, fun hge => ?_⟩
 ·rcases hst with ⟨rfl, he⟩ | ⟨rfl, he⟩ | ⟨rfl, he⟩ | ⟨rfl, hf, he⟩ | ⟨rfl, hf, he⟩ | ⟨rfl, he⟩
  ·refine ⟨by simp [qAa], by omega, by omega, .func (.func 162) #[.pointer c] #[], rfl, qAg hrow 0 1 (by simp), _, _, _, rfl, Tryz.call162, Tri.mono (F1 V1 hV) ?_⟩
   rintro _ V2 ⟨p, rfl, h12, hfl⟩
   refine ⟨_, rfl, fun hn => ⟨⟨by omega, by omega⟩, hJ (by omega) _ _ ⟨hV.trans h12, h12 _ _ hrow, ?_⟩⟩, fun hn => fin (hV.trans h12) hfl hn he⟩
   subst hn
   exact .inr (.inl ⟨rfl, by rw [he, qBZ hfl, Option.none_or]⟩)
  ·refine ⟨by simp [qAa], by omega, by omega, .func (.func 163) #[.pointer c] #[], rfl, qAg hrow 1 1 (by simp), _, _, _, rfl, Tryz.call163, Tri.mono (F2 V1 hV) ?_⟩
   rintro _ V2 ⟨p, rfl, h12, hfl⟩
   refine ⟨_, rfl, fun hn => ⟨⟨by omega, by omega⟩, hJ (by omega) _ _ ⟨hV.trans h12, h12 _ _ hrow, ?_⟩⟩, fun hn => fin (hV.trans h12) hfl hn he⟩
   subst hn
   exact .inr (.inr (.inl ⟨rfl, by rw [he, qBZ hfl, Option.none_or]⟩))
  ·refine ⟨by simp [qAa], by omega, by omega, .func (.func 164) #[.pointer c] #[], rfl, qAg hrow 2 1 (by simp), _, _, _, rfl, Tryz.call164, Tri.mono (F3 V1 hV) ?_⟩
   rintro _ V2 ⟨p, rfl, h12, hfl⟩
   refine ⟨_, rfl, fun hn => ⟨⟨by omega, by omega⟩, hJ (by omega) _ _ ⟨hV.trans h12, h12 _ _ hrow, ?_⟩⟩, fun hn => fin (hV.trans h12) hfl hn he⟩
   subst hn
   exact .inr (.inr (.inr (.inl ⟨rfl, qBZ hfl, by rw [he, qBZ hfl, Option.none_or]⟩)))
  ·refine ⟨by simp [qAa], by omega, by omega, .func (.func 165) #[.pointer c] #[], rfl, qAg hrow 3 1 (by simp), _, _, _, rfl, Tryz.call165, Tri.mono (F4 V1 hV) ?_⟩
   rintro _ V2 ⟨p, rfl, h12, hfl⟩
   refine ⟨_, rfl, fun hn => ⟨⟨by omega, by omega⟩, hJ (by omega) _ _ ⟨hV.trans h12, h12 _ _ hrow, ?_⟩⟩, fun hn => fin (hV.trans h12) hfl hn he⟩
   subst hn
   exact .inr (.inr (.inr (.inr (.inl ⟨rfl, hf, by rw [he, qBZ hfl, Option.none_or]⟩))))
  ·refine ⟨by simp [qAa], by omega, by omega, .func (.func 166) #[.pointer c] #[], rfl, qAg hrow 4 1 (by simp), _, _, _, rfl, Tryz.call166, Tri.mono (F5 V1 hV hf) ?_⟩
   rintro _ V2 ⟨p, rfl, h12, hfl⟩
   refine ⟨_, rfl, fun hn => ⟨⟨by omega, by omega⟩, hJ (by omega) _ _ ⟨hV.trans h12, h12 _ _ hrow, ?_⟩⟩, fun hn => fin (Y := none) (hV.trans h12) hfl hn (by rw [he, Option.or_none])⟩
   subst hn
   exact .inr (.inr (.inr (.inr (.inr ⟨rfl, by rw [he, qBZ hfl]⟩))))
  ·omega
 ·rcases hst with ⟨rfl, he⟩ | ⟨rfl, he⟩ | ⟨rfl, he⟩ | ⟨rfl, hf, he⟩ | ⟨rfl, hf, he⟩ | ⟨rfl, he⟩
  ·omega
  ·omega
  ·omega
  ·omega
  ·omega
  ·rw [he]; exact ⟨none, rfl, hV, rfl⟩
theorem c68 [Tab V] (hS : qGs) (hN : NewC) (hd : Ds.Ok V d) : PP 68 [d.v] V (if qAQ d = true then f3 (qIZ d) else .tuple #[.string sE, .int .i64 0, .int .i64 1]) := by
 refine Pur.mk (x68 ?_)
 unfold w68
 refine (c109 hd).call ⟨_, rfl, fun hval => ?_, fun hval => ?_⟩
 ·rw [if_pos hval]
  refine Tri.mono (hN V d hd) ?_
  rintro _ V1 ⟨c, rfl, h1, hc⟩
  refine ⟨c, rfl, Tri.mono (impFirst hS hc (vne hval) (vparts hval)) ?_⟩
  rintro _ V2 ⟨p, rfl, h2, hfl⟩
  refine ⟨p, rfl, fun hn => ?_, fun hn => ?_⟩
  ·subst hn
   rw [qBZ hfl]
   exact ⟨rfl, h1.trans h2⟩
  ·obtain ⟨r, hr⟩ := qEr hfl hn
   rw [hr] at hfl ⊢
   obtain ⟨b, t, rfl, hb⟩ := hfl
   exact ⟨hn, hn, _, qAg hb 0 1 (by simp), hn, hn, _, qAg hb 1 1 (by simp), hn, hn, _, qAg hb 2 1 (by simp), qBM (p := some ⟨b, 0, none⟩) (qAg hb 2 1 (by simp)), hn, hn, qBM (p := some ⟨b, 0, none⟩) (qAg hb 1 1 (by simp)), hn, hn, qBM (p := some ⟨b, 0, none⟩) (qAg hb 2 1 (by simp)), hn, hn, rfl, h1.trans h2⟩
 ·rw [if_neg hval]; exact ⟨rfl, Mem.sub.refl _⟩
end
end Go.Proofs
namespace Go.Sx
open Go
open Classical
structure KeyOf (P : Program) (kt : TypeId) {α : Type} (enc : α -> Value) : Prop where
 inj : ∀ a b, enc a = enc b -> a = b
 find : ∀ (a : α) (es : List MapEntry) (w : World), (∀ e ∈ es, ∃ b, e.key = enc b) -> (Instr.findKey kt (enc a) es).run P w = .ok ((es.findIdx? fun e => decide (e.key = enc a)).bind fun j => (es[j]?).map fun e => (j, e.val)) w
 check : ∀ (b : Bool) (a : α) (w : World), (Instr.checkKey b 10000 kt (enc a)).run P w = .ok () w
 stays : ∀ (a : α) (w : World), (Instr.keyThatStays (enc a) (enc a)).run P w = .ok (enc a) w
noncomputable def qDQ (es : List MapEntry) (k : Value) : Option Value := (es.find? fun e => decide (e.key = k)).map (·.val)
structure qES {α : Type} (enc : α -> Value) (V : Mem) (b : Nat) (m : α -> Option Value) : Prop where
 at_ : ∃ es clock, V b = some (.map es clock) /\ (∀ e ∈ es.toList, ∃ a, e.key = enc a) /\ es.toList.Pairwise (fun e f => e.key ≠ f.key) /\ ∀ a, qDQ es.toList (enc a) = m a
section
variable {α : Type} {enc : α -> Value} {P : Program} {t kt et : TypeId} {V V' : Mem} {b c : Nat} {m m' : α -> Option Value}
theorem qES.sub (h : qES enc V b m) (hs : V.sub V') : qES enc V' b m := by
 obtain ⟨es, c, h1, h2⟩ := h.at_
 exact ⟨es, c, hs _ _ h1, h2⟩
theorem qES.set {o : Obj} (h : qES enc V b m) (hn : b ≠ c) : qES enc (V.set c o) b m := by
 obtain ⟨es, c, h1, h2⟩ := h.at_
 exact ⟨es, c, by rw [Mem.set_ne hn]; exact h1, h2⟩
theorem qES.made (V : Mem) (b : Nat) : qES enc (V.set b (.map #[] 0)) b fun _ => none :=
 ⟨#[], 0, Mem.set_same _ _ _, by simp, by simp, by simp [qDQ]⟩
theorem qES.congr (h : qES enc V b m) (e : ∀ k, m k = m' k) : qES enc V b m' := by
 obtain ⟨es, c, h1, h2, h3, h4⟩ := h.at_
 exact ⟨es, c, h1, h2, h3, fun k => (h4 k).trans (e k)⟩
theorem qFl (k : Value) : ∀ es : List MapEntry, qDQ es k = (es.findIdx? fun e => decide (e.key = k)).bind fun j => (es[j]?).map (·.val)
 | [] => rfl
 | e :: es => by
  have ih := qFl k es
  unfold qDQ at ih ⊢
  simp only [List.find?_cons, List.findIdx?_cons]
  by_cases hk : e.key = k
  ·simp [hk]
  ·simp only [hk, decide_false, Bool.false_eq_true, if_false, ih]
   cases h' : List.findIdx? (fun e => decide (e.key = k)) es <;> simp
theorem qBv.key2 (K : KeyOf P kt enc) (ht : P.underlying t = some (.map kt et)) {z : Value} (hz : ∀ w, (zeroValue et).run P w = .ok z w) (hm : qES enc V b m) {k : α} {q : Value -> Prop} (hq : q (.tuple #[(m k).getD z, .bool (m k).isSome])) : qBv P t (.map (some b)) (enc k) true V q := by
 intro w hw
 obtain ⟨es, c, h1, h2, -, h3⟩ := hm.at_
 refine ⟨_, ?_, hq⟩
 unfold Instr.lookup
 simp only [Sem.run_bind, run_underlying ht, Result.andThen_ok, MapKept.run_getObj_map (hw _ _ h1), Sem.run_pure, K.check, K.find k _ w h2]
 rw [<- h3 k, qFl]
 cases h' : List.findIdx? (fun e => decide (e.key = enc k)) es.toList with
 | none => simp [Sem.run_bind, hz, Result.andThen_ok]
 | some j =>
  have hj : j < es.toList.length := (List.findIdx?_eq_some_iff_getElem.1 h').1
  simp [Sem.run_pure, List.getElem?_eq_getElem hj, Array.getElem?_eq_getElem (show j < es.size by simpa using hj)]
theorem qBv.key1 (K : KeyOf P kt enc) (ht : P.underlying t = some (.map kt et)) {z : Value} (hz : ∀ w, (zeroValue et).run P w = .ok z w) (hm : qES enc V b m) {k : α} {q : Value -> Prop} (hq : q ((m k).getD z)) : qBv P t (.map (some b)) (enc k) false V q := by
 intro w hw
 obtain ⟨es, c, h1, h2, -, h3⟩ := hm.at_
 refine ⟨_, ?_, hq⟩
 unfold Instr.lookup
 simp only [Sem.run_bind, run_underlying ht, Result.andThen_ok, MapKept.run_getObj_map (hw _ _ h1), Sem.run_pure, K.check, K.find k _ w h2]
 rw [<- h3 k, qFl]
 cases h' : List.findIdx? (fun e => decide (e.key = enc k)) es.toList with
 | none => simp [Sem.run_bind, hz, Result.andThen_ok]
 | some j =>
  have hj : j < es.toList.length := (List.findIdx?_eq_some_iff_getElem.1 h').1
  simp [Sem.run_pure, List.getElem?_eq_getElem hj, Array.getElem?_eq_getElem (show j < es.size by simpa using hj)]
theorem find_none {es : List MapEntry} {k : Value} (h : es.findIdx? (fun e => decide (e.key = k)) = none) : ∀ e ∈ es, e.key ≠ k := fun e he => by
 have := (List.findIdx?_eq_none_iff.1 h) e he
 simpa using this
theorem lookV_push {es : List MapEntry} {k val : Value} {c : Nat} (h : es.findIdx? (fun e => decide (e.key = k)) = none) (x : Value) : qDQ (es ++ [{ key := k, val := val, born := c }]) x = if x = k then some val else qDQ es x := by
 unfold qDQ
 rw [List.find?_append]
 by_cases e : x = k
 ·subst e
  have : es.find? (fun e => decide (e.key = x)) = none := by
   rw [List.find?_eq_none]
   intro y hy
   simpa using find_none h y hy
  simp [this]
 ·have e' : ¬ k = x := fun h => e h.symm
  simp [e, e']
theorem qGj (k val : Value) : ∀ (es : List MapEntry) (i : Nat) (h : es.findIdx? (fun e => decide (e.key = k)) = some i) (x : Value), qDQ (es.modify i fun e => { e with key := k, val := val }) x = if x = k then some val else qDQ es x
 | [], _, h, _ => by simp at h
 | e :: es, i, h, x => by
  rw [List.findIdx?_cons] at h
  by_cases hk : e.key = k
  ·simp only [hk, decide_true, if_true, Option.some.injEq] at h
   subst h
   unfold qDQ
   by_cases hx : x = k
   ·subst hx; simp
   ·have hx' : ¬ k = x := fun h => hx h.symm
    simp [hx, hx', hk]
  ·simp only [hk, decide_false, Bool.false_eq_true, if_false, Option.map_eq_some_iff] at h
   obtain ⟨j, hj, rfl⟩ := h
   have ih := qGj k val es j hj x
   unfold qDQ at ih ⊢
   simp only [List.modify_succ_cons, List.find?_cons]
   by_cases hx : e.key = x
   ·have : ¬ x = k := fun h => hk (hx.trans h)
    simp [hx, this]
   ·simp only [hx, decide_false]
    exact ih
theorem qHs (k val : Value) : ∀ (es : List MapEntry) (i : Nat), es.findIdx? (fun e => decide (e.key = k)) = some i -> (es.modify i fun e => { e with key := k, val := val }).map (·.key) = es.map (·.key)
 | [], _, h => by simp at h
 | e :: es, i, h => by
  rw [List.findIdx?_cons] at h
  by_cases hk : e.key = k
  ·simp only [hk, decide_true, if_true, Option.some.injEq] at h
   subst h
   simp [hk]
  ·simp only [hk, decide_false, Bool.false_eq_true, if_false, Option.map_eq_some_iff] at h
   obtain ⟨j, hj, rfl⟩ := h
   simp [qHs k val es j hj]
theorem pair_keys {es : List MapEntry} : es.Pairwise (fun e f => e.key ≠ f.key) ↔ (es.map (·.key)).Pairwise (· ≠ ·) := by rw [List.pairwise_map]
theorem qGr.key (K : KeyOf P kt enc) (ht : P.underlying t = some (.map kt et)) (hm : qES enc V b m) {k : α} {val : Value} {q : Mem -> Prop} (hq : ∀ o, qES enc (V.set b o) b (fun x => if x = k then some val else m x) -> q (V.set b o)) : qGr P t (.map (some b)) (enc k) val V q := by
 intro w hw
 obtain ⟨es, c, h1, h2, hd, h3⟩ := hm.at_
 have hrun : (Instr.mapUpdate t (.map (some b)) (enc k) val).run P w =
   (match es.toList.findIdx? (fun e => decide (e.key = enc k)) with
   | some i => (setObj b (.map (es.modify i fun e => { e with key := enc k, val := val }) c)).run P w
   | none => (setObj b (.map (es.push { key := enc k, val := val, born := c }) (c + 1))).run P w) := by
  unfold Instr.mapUpdate
  simp only [Sem.run_bind, run_underlying ht, Result.andThen_ok, MapKept.run_getObj_map (hw _ _ h1), K.check, K.find k _ w h2]
  cases h' : List.findIdx? (fun e => decide (e.key = enc k)) es.toList with
  | none => rfl
  | some j =>
   obtain ⟨hj1, hj2, _⟩ := List.findIdx?_eq_some_iff_getElem.1 h'
   have hj3 : j < es.size := by simpa using hj1
   have hkey : (es[j]?).map (·.key) = some (enc k) := by
    rw [Array.getElem?_eq_getElem hj3]
    simp only [Array.getElem_toList] at hj2
    simpa using hj2
   simp only [List.getElem?_eq_getElem hj1, Option.bind_some, Option.map_some, Sem.run_bind, hkey, Option.getD_some, K.stays, Result.andThen_ok]
 have hif : ∀ a, (if enc a = enc k then some val else qDQ es.toList (enc a)) = if a = k then some val else m a := fun a => by
  by_cases e : a = k
  ·rw [if_pos e, if_pos (by rw [e])]
  ·rw [if_neg e, if_neg (fun h => e (K.inj _ _ h)), h3]
 cases h' : List.findIdx? (fun e => decide (e.key = enc k)) es.toList with
 | none =>
  rw [h'] at hrun
  refine ⟨_, V.set b (.map (es.push { key := enc k, val := val, born := c }) (c + 1)), hrun.trans (MapKept.run_setObj_map _ (hw _ _ h1)), Frm.put hw h1, hq _ ⟨_, _, Mem.set_same _ _ _, ?_, ?_, fun x => ?_⟩⟩
  ·intro e he
   simp only [Array.toList_push, List.mem_append, List.mem_singleton] at he
   rcases he with he | rfl
   ·exact h2 e he
   ·exact ⟨_, rfl⟩
  ·rw [Array.toList_push]
   exact List.pairwise_append.2 ⟨hd, by simp, fun e he f hf => by rw [List.mem_singleton.1 hf]; exact find_none h' e he⟩
  ·rw [Array.toList_push, lookV_push h', hif]
 | some j =>
  rw [h'] at hrun
  refine ⟨_, V.set b (.map (es.modify j fun e => { e with key := enc k, val := val }) c), hrun.trans (MapKept.run_setObj_map _ (hw _ _ h1)), Frm.put hw h1, hq _ ⟨_, _, Mem.set_same _ _ _, ?_, ?_, fun x => ?_⟩⟩
  ·intro e he
   rw [Array.toList_modify] at he
   obtain ⟨i, hi, rfl⟩ := List.mem_iff_getElem.1 he
   rw [List.getElem_modify]
   split
   ·exact ⟨_, rfl⟩
   ·exact h2 _ (List.getElem_mem _)
  ·rw [Array.toList_modify, pair_keys, qHs _ _ _ _ h', <- pair_keys]; exact hd
  ·rw [Array.toList_modify, qGj _ _ _ _ h', hif]
theorem qHv : ∀ (es : List MapEntry) (k : Value) (i : Nat), es.Pairwise (fun e f => e.key ≠ f.key) -> es.findIdx? (fun e => decide (e.key = k)) = some i -> ∀ x, qDQ (es.eraseIdx i) x = if x = k then none else qDQ es x
 | [], _, _, _, h, _ => by simp at h
 | e :: es, k, i, hd, h, x => by
  obtain ⟨hd1, hd2⟩ := List.pairwise_cons.1 hd
  rw [List.findIdx?_cons] at h
  by_cases hk : e.key = k
  ·simp only [hk, decide_true, if_true, Option.some.injEq] at h
   subst h
   rw [List.eraseIdx_cons_zero]
   by_cases hx : x = k
   ·rw [if_pos hx]
    unfold qDQ
    have : es.find? (fun e => decide (e.key = x)) = none := by
     rw [List.find?_eq_none]
     intro y hy
     have := hd1 y hy
     rw [hk] at this
     rw [hx]
     simpa using fun e => this e.symm
    rw [this]; rfl
   ·rw [if_neg hx]
    unfold qDQ
    rw [List.find?_cons]
    have hx' : ¬ e.key = x := fun h => hx (h.symm.trans hk)
    simp [hx']
  ·simp only [hk, decide_false, Bool.false_eq_true, if_false, Option.map_eq_some_iff] at h
   obtain ⟨j, hj, rfl⟩ := h
   have ih := qHv es k j hd2 hj x
   rw [List.eraseIdx_cons_succ]
   unfold qDQ at ih ⊢
   simp only [List.find?_cons]
   by_cases hx : e.key = x
   ·have : ¬ x = k := fun h => hk (hx.trans h)
    simp [hx, this]
   ·simp only [hx, decide_false]
    exact ih
theorem qAo.delete (K : KeyOf P kt enc) (ht : P.underlying t = some (.map kt et)) (hm : qES enc V b m) {k : α} {x y : Operand} {t2 ty : TypeId} {vals : Operand -> Value} (hx : vals x = .map (some b)) (hy : vals y = enc k) {q : Value -> Mem -> Prop}
  (hq : ∀ o, qES enc (V.set b o) b (fun x => if x = k then none else m x) -> q (.tuple #[]) (V.set b o)) : qAo P (.call { callee := .builtin .delete, args := #[x, y], argTypes := #[t, t2] }) ty vals V q := by
 intro w hw
 obtain ⟨es, c, h1, h2, hd, h3⟩ := hm.at_
 have hrun : (execOp vals { dst := none, op := .call { callee := .builtin .delete, args := #[x, y], argTypes := #[t, t2] }, type := ty, pos := "", after := #[], guard := none }).run P w =
   (Sem.run P (match es.toList.findIdx? (fun (e : MapEntry) => decide (e.key = enc k)) with
   | some i => setObj b (.map (es.eraseIdxIfInBounds i) c)
   | none => setObj b (.map es c)) w).andThen fun _ w' => .ok (.value (.tuple #[])) w' := by
  unfold execOp
  simp only [resolve, invoke, builtin, Sem.run_bind, Sem.run_pure, Result.andThen_ok, List.map_toArray, List.map_cons, List.map_nil, hx, hy, Builtin.delete_]
  simp only [List.getElem?_toArray, List.getElem?_cons_zero, List.getElem?_cons_succ, Sem.run_bind, run_underlying ht, Result.andThen_ok, MapKept.run_getObj_map (hw _ _ h1), K.check, K.find k _ w h2]
  cases h' : List.findIdx? (fun e => decide (e.key = enc k)) es.toList with
  | none => simp [Sem.run_bind, Sem.run_pure, MapKept.run_setObj_map _ (hw _ _ h1), Result.andThen_ok]
  | some j =>
   have hj1 := (List.findIdx?_eq_some_iff_getElem.1 h').1
   have hj2 : es[j]? = some es[j] := Array.getElem?_eq_getElem (show j < es.size by simpa using hj1)
   simp [Sem.run_bind, Sem.run_pure, MapKept.run_setObj_map _ (hw _ _ h1), Result.andThen_ok, hj2]
 cases h' : List.findIdx? (fun e => decide (e.key = enc k)) es.toList with
 | none =>
  rw [h'] at hrun
  simp only [MapKept.run_setObj_map _ (hw _ _ h1), Result.andThen_ok] at hrun
  refine ⟨_, _, V.set b (.map es c), hrun, Frm.put hw h1, hq _ ⟨_, _, Mem.set_same _ _ _, h2, hd, fun a => ?_⟩⟩
  by_cases e : a = k
  ·subst e
   rw [if_pos rfl, qFl, h']; rfl
  ·rw [if_neg e, h3]
 | some j =>
  rw [h'] at hrun
  simp only [MapKept.run_setObj_map _ (hw _ _ h1), Result.andThen_ok] at hrun
  refine ⟨_, _, V.set b (.map (es.eraseIdxIfInBounds j) c), hrun, Frm.put hw h1, hq _ ⟨_, _, Mem.set_same _ _ _, ?_, ?_, fun a => ?_⟩⟩
  ·intro e he
   rw [Array.toList_eraseIdxIfInBounds] at he
   exact h2 e (List.mem_of_mem_eraseIdx he)
  ·rw [Array.toList_eraseIdxIfInBounds]
   exact hd.sublist (List.eraseIdx_sublist _ _)
  ·rw [Array.toList_eraseIdxIfInBounds, qHv _ _ _ hd h', h3]
   by_cases e : a = k
   ·rw [if_pos e, if_pos (by rw [e])]
   ·rw [if_neg e, if_neg (fun h => e (K.inj _ _ h))]
end
end Go.Sx
namespace Go.Proofs
open Go Go.Sx
attribute [local irreducible] Go.Sx.Tri
def qAH (n : Int) : List Value := [.int .i64 n]
def inI (n : Int) : Prop := -9223372036854775808 <= n /\ n <= 9223372036854775807
structure Nd where
 ty : Int
 sl : Sl
 f : List Int
def Nd.row (n : Nd) : List Value := [.int .i64 n.ty, n.sl.v]
def Nd.v (n : Nd) : Value := .agg n.row.toArray
structure Nd.Ok (V : Mem) (n : Nd) : Prop where
 rows : qAd V n.sl 1 (n.f.map qAH)
 tyIn : inI n.ty
 vals : ∀ x ∈ n.f, inI x
structure Mm where
 gs : Sl
 globals : List Int
 ns : Sl
 nodes : List Nd
def Mm.row (m : Mm) : List Value := [m.gs.v, m.ns.v]
def Mm.v (m : Mm) : Value := .agg m.row.toArray
structure Mm.Ok (V : Mem) (m : Mm) : Prop where
 globals : qAd V m.gs 1 (m.globals.map qAH)
 gIn : ∀ x ∈ m.globals, inI x
 nodes : qAd V m.ns 2 (m.nodes.map Nd.row)
 nodesOk : ∀ n ∈ m.nodes, Nd.Ok V n
theorem Nd.Ok.sub {V V' : Mem} {n : Nd} (h : Nd.Ok V n) (hs : V.sub V') : Nd.Ok V' n := ⟨h.rows.sub hs, h.tyIn, h.vals⟩
theorem Mm.Ok.sub {V V' : Mem} {m : Mm} (h : Mm.Ok V m) (hs : V.sub V') : Mm.Ok V' m := ⟨h.globals.sub hs, h.gIn, h.nodes.sub hs, fun n hn => (h.nodesOk n hn).sub hs⟩
def allI {α : Type} (p : Nat -> α -> Bool) (xs : List α) : Bool := xs.zipIdx.all fun x => p x.2 x.1
def AllI {α : Type} (p : Nat -> α -> Bool) (xs : List α) (i : Nat) : Prop := ∀ j x, j < i -> xs[j]? = some x -> p j x = true
theorem AllI.zero {α : Type} {p : Nat -> α -> Bool} {xs : List α} : AllI p xs 0 := fun _ _ h => absurd h (Nat.not_lt_zero _)
theorem AllI.succ {α : Type} {p : Nat -> α -> Bool} {xs : List α} {i : Nat} {x : α} (h : AllI p xs i) (hx : xs[i]? = some x) (hp : p i x = true) : AllI p xs (i + 1) := fun j y hj hy => by
 rcases Nat.lt_succ_iff_lt_or_eq.1 hj with h' | rfl
 ·exact h j y h' hy
 ·rw [hx] at hy; cases hy; exact hp
theorem qCE {α : Type} {p : Nat -> α -> Bool} {xs : List α} : allI p xs = true ↔ ∀ j x, xs[j]? = some x -> p j x = true := by
 unfold allI
 rw [List.all_eq_true]
 constructor
 ·intro h j x hx
  exact h (x, j) (by rw [List.mem_zipIdx_iff_getElem?]; exact hx)
 ·rintro h ⟨x, j⟩ hx
  rw [List.mem_zipIdx_iff_getElem?] at hx
  exact h j x hx
theorem AllI.all {α : Type} {p : Nat -> α -> Bool} {xs : List α} {i : Nat} (h : AllI p xs i) (hi : xs.length <= i) : allI p xs = true :=
 qCE.2 fun j x hx => h j x (by have := (List.getElem?_eq_some_iff.1 hx).1; omega) hx
theorem qFW {α : Type} {p : Nat -> α -> Bool} {xs : List α} {j : Nat} {x : α} (hx : xs[j]? = some x) (hp : ¬ p j x = true) : allI p xs = false := by
 cases h : allI p xs with
 | false => rfl
 | true => exact absurd (qCE.1 h j x hx) hp
def qEd (d : Ds) (s : ByteArray) : Int := qJC (fun t => decide (t.name = s)) d.types
def qCe (d : Ds) (l : List Fld) : Bool := l.all fun f => known d f.ty
def hasT (d : Ds) : Bool := qAQ d && qCe d d.globals && allI (fun i t => decide (qEd d t.name = (i : Int)) && qCe d t.fields) d.types
def qAK (d : Ds) (t : Int) : List Fld := ((d.types[t.toNat]?).map (·.fields)).getD []
def tyAt (l : List Fld) (i : Nat) : ByteArray := ((l[i]?).map (·.ty)).getD sE
def qAR (d : Ds) (m : Mm) (typ : ByteArray) (v : Int) : Bool :=
 if typ = qAP then decide (-1099511627776 <= v /\ v <= 1099511627776) else if typ = qAt then decide (v = 0 ∨ v = 1)
 else decide (v = 0 ∨ (1 <= v /\ v <= (m.nodes.length : Int) /\ (m.nodes[(v - 1).toNat]?).map (·.ty) = some (qEd d typ)))
def qAC (d : Ds) (m : Mm) (l : List Fld) (vs : List Int) : Bool := decide (l.length = vs.length) && allI (fun i v => qAR d m (tyAt l i) v) vs
def qDl (d : Ds) (n : Nd) : Bool := decide (0 <= n.ty /\ n.ty < (d.types.length : Int))
def qAY (d : Ds) (m : Mm) : Bool := hasT d && decide (m.nodes.length <= 4096) && m.nodes.all (qDl d) && qAC d m d.globals m.globals && m.nodes.all fun n => qAC d m (qAK d n.ty) n.f
theorem row_take {V : Mem} {a : Addr} {n k : Nat} {vs : List Value} (h : V.row a n = some vs) (hk : k <= n) : V.row a k = some (vs.take k) := by
 unfold Mem.row at h ⊢
 split at h
 ·rename_i c x y hb
  split at h
  ·rename_i hc
   simp only [Option.some.injEq] at h
   rw [if_pos ⟨hc.1, by omega⟩, <- h, List.take_take, Nat.min_eq_left hk]
  ·cases h
 ·cases h
theorem qIx {V : Mem} {p : Option Addr} {off n k : Nat} {vs : List Value} (h : V.rowp p off n = some vs) (hk : k <= n) : V.rowp (qAa (qAa p off) 0) 0 k = some (vs.take k) := by
 cases p with
 | none => cases h
 | some a =>
  have h0 : ((a.add off).add 0).add 0 = a.add off := by rw [qER, qER]; rfl
  show V.row (((a.add off).add 0).add 0) k = _
  rw [h0]
  exact row_take h hk
section
variable {V : Mem} {d : Ds} {m : Mm}
theorem qFT (d : Ds) (s : ByteArray) : (qEd d s < 0 /\ qAN d s = false) ∨ (0 <= qEd d s /\ qAN d s = true) := by
 unfold qEd qAN
 rcases qAI (fun t : Ty => decide (t.name = s)) d.types with ⟨h1, -, h2⟩ | ⟨i, x, h1, -, -, -, -, -, h2, -⟩
 ·left; rw [h1]; exact ⟨by decide, h2⟩
 ·right; rw [h1]; exact ⟨by omega, h2⟩
theorem c131 (h : Ds.Ok V d) {l : Sl} {xs : List Fld} (hr : qAd V l 2 (xs.map Fld.row)) : PP 131 [d.v, l.v] V (.bool (qCe d xs)) := by
 refine x131 ?_
 unfold w131
 refine qAA (mk := .bool) (b0 := false) xs.length (fun i V1 => V = V1 /\ qAG (fun f => known d f.ty) xs i) ⟨rfl, qAG.zero _ _⟩ ?_
 rintro i b V1 J hi ⟨rfl, ha⟩ hJ
 refine ⟨fun hlt => ?_, fun hge => ?_⟩
 ·obtain ⟨x, hm, hx, hdr, hl, hp, hz, hrow⟩ := hr.get hlt
  have hq := qAc (n := i * 2) hp
  have go : known d x.ty = true -> IR ((i : Int) + 1) /\ J [.bool b, .int .i64 ((i : Int) + 1)] V := fun hk => ⟨hr.succ hlt, hJ hl _ _ ⟨rfl, ha.succ hx hk⟩⟩
  refine ⟨hp, hz, hlt, hq, _, _, hrow, fun h1 => go (by unfold known; rw [decide_eq_true (show x.ty = qAP from h1)]; rfl), fun h1 => ⟨hp, hz, hlt, hq, _, _, hrow, fun h2 => go (by unfold known; rw [decide_eq_true (show x.ty = qAt from h2)]; simp), fun h2 => ⟨hp, hz, hlt, hq, _, _, hrow, (c132 h).call ⟨_, rfl, fun h3 => ?_, fun h3 => go ?_⟩⟩⟩⟩
  ·rcases qFT d x.ty with ⟨-, k⟩ | ⟨k, -⟩
   ·have : known d x.ty = false := by unfold known; rw [decide_eq_false (show ¬ x.ty = qAP from h1), decide_eq_false (show ¬ x.ty = qAt from h2), k]; rfl
    unfold qCe
    rw [qBr hm (by rw [this]; decide)]; exact ⟨rfl, rfl⟩
   ·exact absurd h3 (by show ¬ qEd d x.ty < 0; omega)
  ·rcases qFT d x.ty with ⟨k, -⟩ | ⟨-, k⟩
   ·exact absurd (show qEd d x.ty < 0 from k) h3
   ·unfold known; rw [k]; simp
 ·unfold qCe
  rw [ha.all (hr.done hge).2]; exact ⟨rfl, rfl⟩
theorem c80 (h : Ds.Ok V d) : PP 80 [d.v] V (.bool (hasT d)) := by
 refine x80 ?_
 unfold w80 hasT
 refine (c44 h).call ⟨_, rfl, fun hv => (c131 h h.globals).call ⟨_, rfl, fun ht => ?_, fun ht => ?_⟩, fun hv => ?_⟩
 ·rw [hv, ht, Bool.true_and, Bool.true_and]
  refine qAA (mk := .bool) (b0 := false) d.types.length (fun i V1 => V = V1 /\ AllI (fun i t => decide (qEd d t.name = (i : Int)) && qCe d t.fields) d.types i) ⟨rfl, AllI.zero⟩ ?_
  rintro i b V1 J hi ⟨rfl, ha⟩ hJ
  refine ⟨fun hlt => ?_, fun hge => ?_⟩
  ·obtain ⟨x, hm, hx, hdr, hl, hp, hz, hrow⟩ := h.types.get hlt
   have hq := qAc (n := i * 2) hp
   refine ⟨hp, hz, hlt, hq, _, _, hrow, (c132 h).call ⟨_, rfl, fun h1 => ⟨hp, hz, hlt, hq, _, _, hrow, (c131 h (h.typesOk x hm).fields).call ⟨_, rfl, fun h2 => ⟨h.types.succ hlt, hJ hl _ _ ⟨rfl, ha.succ hx ?_⟩⟩, fun h2 => ?_⟩⟩, fun h1 => ?_⟩⟩
   ·rw [h2, decide_eq_true (show qEd d x.name = (i : Int) from h1)]; rfl
   ·rw [qFW hx (by rw [Bool.and_eq_true]; exact fun k => h2 k.2)]; exact ⟨rfl, rfl⟩
   ·rw [qFW hx (by rw [Bool.and_eq_true, decide_eq_true_eq]; exact fun k => h1 k.1)]; exact ⟨rfl, rfl⟩
  ·rw [ha.all (h.types.done hge).2]; exact ⟨rfl, rfl⟩
 ·rw [show qCe d d.globals = false by simpa using ht]; simp
 ·rw [show qAQ d = false by simpa using hv]; simp
theorem c81 (h : Ds.Ok V d) (hm : Mm.Ok V m) {s : ByteArray} {v : Int} (hv : inI v) : PP 81 [d.v, m.v, .string s, .int .i64 v] V (.bool (qAR d m s v)) := by
 refine x81 ?_
 unfold w81 qAR
 have hn := hm.nodes.n_eq
 have fin : ∀ {a b : Bool}, a = b -> (Ending.returned (.bool a) = Ending.returned (.bool b) /\ V = V) := fun e => ⟨by rw [e], rfl⟩
 refine ⟨fun h1 => ?_, fun h1 => ⟨fun h2 => ?_, fun h2 => ?_⟩⟩
 ·rw [if_pos (show s = qAP from h1)]
  refine ⟨fun h3 => fin ?_, fun h3 => fin ?_⟩
  ·exact decide_eq_decide.2 ⟨fun k => ⟨h3, k⟩, fun k => k.2⟩
  ·exact (decide_eq_false fun k => h3 k.1).symm
 ·rw [if_neg (show ¬ s = qAP from h1), if_pos (show s = qAt from h2)]
  refine ⟨fun h3 => fin ?_, fun h3 => fin ?_⟩
  ·exact (decide_eq_true (.inl h3)).symm
  ·exact decide_eq_decide.2 ⟨fun k => .inr k, fun k => k.resolve_left h3⟩
 ·rw [if_neg (show ¬ s = qAP from h1), if_neg (show ¬ s = qAt from h2)]
  refine ⟨fun h3 => fin (decide_eq_true (.inl h3)).symm, fun h3 => ⟨fun h4 => ⟨fun h5 => ?_, fun h5 => fin ?_⟩, fun h4 => fin ?_⟩⟩
  ·obtain ⟨i, rfl⟩ : ∃ i : Nat, v = (i : Int) + 1 := ⟨(v - 1).toNat, by omega⟩
   have e : ((i : Int) + 1 - 1) = (i : Int) := by omega
   have hv2 := hv.2
   rw [e]
   obtain ⟨x, hxm, hx, hdr, hl, hp, hz, hrow⟩ := hm.nodes.get (i := i) (by omega)
   have hq := qAc (n := i * 2) hp
   refine ⟨⟨by omega, by omega⟩, hp, by omega, by omega, hq, _, _, hrow, (c132 h).call ⟨_, rfl, ?_, hq, hp, by omega, by omega, ⟨by omega, by omega⟩, fin ?_⟩⟩
   ·exact qIx (k := 1) hrow (by decide)
   ·refine decide_eq_decide.2 ⟨fun k => .inr ⟨h4, by omega, ?_⟩, fun k => ?_⟩
    ·show Option.map (·.ty) (m.nodes[((i : Int)).toNat]?) = _
     rw [Int.toNat_natCast, hx]; exact congrArg some k
    ·rcases k with k | ⟨-, -, k⟩
     ·exact absurd k h3
     ·rw [show ((i : Int)).toNat = i from rfl, hx] at k
      exact Option.some.inj k
  ·exact (decide_eq_false fun k => k.elim h3 fun k => h5 (by omega)).symm
  ·exact (decide_eq_false fun k => k.elim h3 fun k => h4 k.1).symm
theorem qCl {t : Int} {x : Ty} {k : Nat} (hx : d.types[k]? = some x) (ht : t = (k : Int)) : qAK d t = x.fields := by
 subst ht
 unfold qAK
 rw [Int.toNat_natCast, hx]; rfl
theorem c46 (h : Ds.Ok V d) (hm : Mm.Ok V m) : PP 46 [d.v, m.v] V (.bool (qAY d m)) := by
 refine x46 ?_
 unfold w46
 have hn := hm.nodes.n_eq
 have hg := hm.globals.n_eq
 have hdg := h.globals.n_eq
 have hdt := h.types.n_eq
 have no : ∀ {V1 : Mem}, V = V1 -> ¬ qAY d m = true -> (Ending.returned (.bool false) = Ending.returned (.bool (qAY d m)) /\ V1 = V) := fun e k => ⟨by rw [show qAY d m = false by simpa using k], e.symm⟩
 have parts : qAY d m = true ↔ hasT d = true /\ m.nodes.length <= 4096 /\ (∀ n ∈ m.nodes, qDl d n = true) /\ qAC d m d.globals m.globals = true /\ ∀ n ∈ m.nodes, qAC d m (qAK d n.ty) n.f = true := by
  unfold qAY
  simp only [Bool.and_eq_true, decide_eq_true_eq, List.all_eq_true, and_assoc]
 refine (c80 h).call ⟨_, rfl, fun ht => ⟨fun hl => ⟨fun hbig => no rfl fun k => ?_, fun hbig => ?_⟩, fun hl => no rfl fun k => ?_⟩, fun ht => no rfl fun k => ht (parts.1 k).1⟩
 ·have := (parts.1 k).2.1; omega
 ·let PA : Nd -> Bool := fun n => qDl d n && decide ((qAK d n.ty).length = n.f.length)
  refine qAA (mk := .bool) (b0 := false) m.nodes.length (fun i V1 => V = V1 /\ qAG PA m.nodes i) ⟨rfl, qAG.zero _ _⟩ ?_
  rintro i b V1 J hi ⟨rfl, ha⟩ hJ
  refine ⟨fun hlt => ?_, fun hge => ?_⟩
  ·obtain ⟨x, hxm, hx, hdr, hll, hp, hz, hrow⟩ := hm.nodes.get hlt
   have hq := qAc (n := i * 2) hp
   have hnx := (hm.nodesOk x hxm).rows.n_eq
   refine ⟨hp, hz, hlt, hq, _, _, hrow, fun h1 => no rfl fun k => ?_, fun h1 => ⟨fun h2 => no rfl fun k => ?_, fun h2 => ?_⟩⟩
   ·have := (parts.1 k).2.2.1 x hxm
    exact absurd (of_decide_eq_true this).1 (by omega)
   ·have := (parts.1 k).2.2.1 x hxm
    exact absurd (of_decide_eq_true this).2 (by omega)
   ·obtain ⟨t, ht'⟩ : ∃ t : Nat, x.ty = (t : Int) := ⟨x.ty.toNat, by omega⟩
    obtain ⟨y, hym, hy, -, -, hyp, hyz, hyrow⟩ := h.types.get (i := t) (by omega)
    have hfn := (h.typesOk y hym).fields.n_eq
    have hfo := qCl hy ht'
    have h1' : (0 : Int) <= x.ty := by omega
    rw [ht'] at h1 h2 ⊢
    refine ⟨hp, hz, hlt, hq, _, _, hrow, hyp, by omega, by omega, qAc hyp, _, _, hyrow, fun h3 => ⟨hm.nodes.succ hlt, hJ hll _ _ ⟨rfl, ha.succ hx ?_⟩⟩, fun h3 => no rfl fun k => ?_⟩
    ·show (qDl d x && decide ((qAK d x.ty).length = x.f.length)) = true
     rw [Bool.and_eq_true]
     exact ⟨decide_eq_true ⟨h1', by rw [ht']; omega⟩, decide_eq_true (by rw [hfo]; omega)⟩
    ·have := (parts.1 k).2.2.2.2 x hxm
     unfold qAC at this
     rw [Bool.and_eq_true, decide_eq_true_eq, hfo] at this
     exact h3 (by omega)
  have hA := ha.all (hm.nodes.done hge).2
  rw [List.all_eq_true] at hA
  clear hJ ha hge hi
  refine qAA (mk := .bool) (b0 := b) m.globals.length (fun i V1 => V = V1 /\ AllI (fun i v => qAR d m (tyAt d.globals i) v) m.globals i) ⟨rfl, AllI.zero⟩ ?_
  rintro i b1 V1 J hi ⟨rfl, ha⟩ hJ
  refine ⟨fun hlt => ?_, fun hge => ?_⟩
  ·obtain ⟨x, hxm, hx, hdr, hll, hp, hz, hrow⟩ := hm.globals.get hlt
   obtain ⟨f, hfm, hf, -, -, hfp, hfz, hfrow⟩ := h.globals.get (i := i) (by omega)
   have hty : tyAt d.globals i = f.ty := by unfold tyAt; rw [hf]; rfl
   refine ⟨hfp, hfz, by omega, qAc hfp, _, _, hfrow, hp, hz, hlt, _, hrow, (c81 h hm (hm.gIn x hxm)).call ⟨_, rfl, fun h1 => ⟨hm.globals.succ hlt, hJ hll _ _ ⟨rfl, ha.succ hx (by rw [hty]; exact h1)⟩⟩, fun h1 => no rfl fun k => ?_⟩⟩
   have := (parts.1 k).2.2.2.1
   unfold qAC at this
   rw [Bool.and_eq_true] at this
   have := qCE.1 this.2 i x hx
   rw [hty] at this
   exact h1 this
  have hG := ha.all (hm.globals.done hge).2
  clear hJ ha hge hi
  refine qAA (mk := .bool) (b0 := b1) m.nodes.length (fun i V1 => V = V1 /\ qAG (fun n => qAC d m (qAK d n.ty) n.f) m.nodes i) ⟨rfl, qAG.zero _ _⟩ ?_
  rintro i b2 V1 J hi ⟨rfl, ha⟩ hJ
  refine ⟨fun hlt => ?_, fun hge => ?_⟩
  ·obtain ⟨x, hxm, hx, hdr, hll, hp, hz, hrow⟩ := hm.nodes.get hlt
   have hq := qAc (n := i * 2) hp
   have hxo := hm.nodesOk x hxm
   have hPx := hA x hxm
   rw [Bool.and_eq_true, decide_eq_true_eq] at hPx
   obtain ⟨hP1, hP2⟩ := hPx
   have hP1 := of_decide_eq_true hP1
   obtain ⟨t, ht'⟩ : ∃ t : Nat, x.ty = (t : Int) := ⟨x.ty.toNat, by omega⟩
   obtain ⟨y, hym, hy, -, -, hyp, hyz, hyrow⟩ := h.types.get (i := t) (by omega)
   have hyo := (h.typesOk y hym).fields
   have hfo := qCl hy ht'
   refine ⟨hp, hz, hlt, hq, _, _, hrow, hyp, by rw [ht']; omega, by rw [ht']; omega, qAc hyp, _, _, by rw [ht']; exact hyrow, ?_⟩
   rw [hfo] at hP2
   have hxn := hxo.rows.n_eq
   have hyn := hyo.n_eq
   refine qAA (mk := .bool) (b0 := b2) y.fields.length (fun j V1 => V = V1 /\ AllI (fun i v => qAR d m (tyAt y.fields i) v) x.f j) ⟨rfl, AllI.zero⟩ ?_
   rintro j b3 V1 J1 hj ⟨rfl, ha1⟩ hJ1
   refine ⟨fun hlt1 => ?_, fun hge1 => ⟨hm.nodes.succ hlt, hJ hll _ _ ⟨rfl, ha.succ hx ?_⟩⟩⟩
   ·obtain ⟨f, hfm, hf, -, hfl, hfp, hfz, hfrow⟩ := hyo.get hlt1
    obtain ⟨z, hzm, hzx, -, -, hzp, hzz, hzrow⟩ := hxo.rows.get (i := j) (by omega)
    have hty : tyAt y.fields j = f.ty := by unfold tyAt; rw [hf]; rfl
    refine ⟨hfp, hfz, hlt1, qAc hfp, _, _, hfrow, hp, hz, hlt, hq, _, _, hrow, hzp, hzz, by omega, _, hzrow, (c81 h hm (hxo.vals z hzm)).call ⟨_, rfl, fun h1 => ⟨hyo.succ hlt1, hJ1 hfl _ _ ⟨rfl, ha1.succ hzx (by rw [hty]; exact h1)⟩⟩, fun h1 => no rfl fun k => ?_⟩⟩
    have := (parts.1 k).2.2.2.2 x hxm
    unfold qAC at this
    rw [Bool.and_eq_true, hfo] at this
    have := qCE.1 this.2 j z hzx
    rw [hty] at this
    exact h1 this
   ·have := (hyo.done hge1).2
    unfold qAC
    rw [hfo, ha1.all (by omega), decide_eq_true hP2]; rfl
  ·have hN := ha.all (hm.nodes.done hge).2
   rw [List.all_eq_true] at hN
   have : qAY d m = true := parts.2 ⟨ht, by omega, fun n hn' => (Bool.and_eq_true _ _ ▸ hA n hn').1, by unfold qAC; rw [hG, decide_eq_true (by omega)]; rfl, hN⟩
   rw [this]; exact ⟨rfl, rfl⟩
 ·have := (parts.1 k).2.2.2.1
  unfold qAC at this
  rw [Bool.and_eq_true, decide_eq_true_eq] at this
  exact hl (by omega)
end
end Go.Proofs
namespace Go.Proofs
open Go Go.Sx
inductive Rs where
 | ok (v : Int)
 | bad (e : Int)
deriving DecidableEq
def Rs.bind : Rs -> (Int -> Rs) -> Rs
 | .ok v, f => f v
 | .bad e, _ => .bad e
def big (n : Int) : Rs := if -1099511627776 <= n /\ n <= 1099511627776 then .ok n else .bad 5
def trI (b : Bool) : Int := if b then 1 else 0
def qCz (op a b : Int) : Rs :=
 if op = 9 then big (a + b) else if op = 10 then big (a - b) else if op = 11 then big (a * b)
 else if op = 22 then .ok (if a < b then b else a) else if op = 23 then .ok (if b < a then b else a)
 else if op = 14 then .ok (trI (decide (a = b))) else if op = 15 then .ok (trI (!decide (a = b))) else if op = 16 then .ok (trI (decide (a < b))) else if op = 17 then .ok (trI (decide (a <= b)))
 else if b = 0 then .bad 18 else if op = 12 then .ok (a.tdiv b) else .ok (a.tmod b)
def qIh (l : List Fld) (s : ByteArray) : Int := qJC (fun f => decide (f.name = s)) l
def qGh (d : Ds) (s : ByteArray) : Int := qJC (fun x => decide (x.name = s)) d.measures
def varV (d : Ds) (m : Mm) (x : Int) (s : ByteArray) : Int := if s = qBG then x else (m.globals[(qIh d.globals s).toNat]?).getD 0
def qEs (d : Ds) (m : Mm) (a : Int) (s : ByteArray) : Rs :=
 if a = 0 then .bad 17 else match m.nodes[(a - 1).toNat]? with
  | none => .bad 0
  | some n => .ok ((n.f[(qIh (qAK d n.ty) s).toNat]?).getD 0)
def qHz (a : Int) : Int := (Nat.log2 a.toNat : Int)
def qDD (rs : List Rs) (i : Nat) : Rs := rs.getD i (.bad 0)
section
variable (d : Ds) (m : Mm)
def qIj (F : Int -> Int -> Rs) (x op n : Int) (s : ByteArray) (rs : List Rs) : Rs :=
 if op = 1 ∨ op = 2 then .ok n else if op = 3 then .ok 0 else if op = 4 then .ok (varV d m x s)
 else if op = 5 then (qDD rs 0).bind fun a => qEs d m a s
 else if op = 7 then (qDD rs 0).bind fun a => F (qGh d s) a
 else if op = 8 then (qDD rs 0).bind fun a => big (-a)
 else if op = 18 then (qDD rs 0).bind fun a => .ok (1 - a)
 else if op = 24 then (qDD rs 0).bind fun a => .ok (qHz a)
 else if op = 19 then (qDD rs 0).bind fun a => if a = 0 then .ok 0 else qDD rs 1
 else if op = 20 then (qDD rs 0).bind fun a => if a = 0 then qDD rs 1 else .ok 1
 else if op = 21 then (qDD rs 0).bind fun a => if a = 0 then qDD rs 2 else qDD rs 1
 else (qDD rs 0).bind fun a => (qDD rs 1).bind fun b => qCz op a b
mutual
def evE (F : Int -> Int -> Rs) (x : Int) : E -> Rs
 | .mk op n s _ k => qIj d m F x op n s (evEs F x k)
def evEs (F : Int -> Int -> Rs) (x : Int) : List E -> List Rs
 | [] => []
 | e :: es => evE F x e :: evEs F x es
end
def nilM (k : Int) : Int := ((d.measures[k.toNat]?).map (·.nil)).getD 0
def evM : Nat -> Int -> Int -> Rs
 | 0, k, x => if x = 0 then .ok (nilM d k) else .bad 16
 | n + 1, k, x => if x = 0 then .ok (nilM d k) else match d.measures[k.toNat]? with | some ms => evE d m (evM n) x ms.x | none => .bad 0
end
variable {d : Ds} {m : Mm}
theorem evEs_map (F : Int -> Int -> Rs) (x : Int) : ∀ k : List E, evEs d m F x k = k.map (evE d m F x)
 | [] => by unfold evEs; rfl
 | e :: es => by unfold evEs; rw [evEs_map F x es]; rfl
theorem qIX (F : Int -> Int -> Rs) (x : Int) (e : E) : evE d m F x e = qIj d m F x e.op e.n e.s (e.k.map (evE d m F x)) := by
 cases e; unfold evE; rw [evEs_map]; rfl
def Rs.le (a b : Rs) : Prop := a = .bad 16 ∨ a = b
theorem Rs.le.trans {a b c : Rs} (h : Rs.le a b) (k : Rs.le b c) : Rs.le a c := by
 rcases h with h | rfl
 ·exact .inl h
 ·exact k
theorem Rs.le.bind {a b : Rs} {f g : Int -> Rs} (h : Rs.le a b) (k : ∀ v, Rs.le (f v) (g v)) : Rs.le (a.bind f) (b.bind g) := by
 rcases h with rfl | rfl
 ·exact .inl rfl
 ·cases a with
  | ok v => exact k v
  | bad e => exact .inr rfl
theorem kid_le {k : List E} {f g : E -> Rs} (h : ∀ e ∈ k, Rs.le (f e) (g e)) (i : Nat) : Rs.le (qDD (k.map f) i) (qDD (k.map g) i) := by
 unfold qDD
 rw [List.getD_eq_getElem?_getD, List.getD_eq_getElem?_getD, List.getElem?_map, List.getElem?_map]
 cases hk : k[i]? with
 | none => exact .inr rfl
 | some e => exact h e (List.mem_of_getElem? hk)
theorem comb_le {F G : Int -> Int -> Rs} (hF : ∀ k x, Rs.le (F k x) (G k x)) {x op n : Int} {s : ByteArray} {rs qs : List Rs} (h : ∀ i, Rs.le (qDD rs i) (qDD qs i)) : Rs.le (qIj d m F x op n s rs) (qIj d m G x op n s qs) := by
 have it : ∀ {c : Prop} [Decidable c] {a b a' b' : Rs}, Rs.le a a' -> Rs.le b b' -> Rs.le (if c then a else b) (if c then a' else b') := fun {c} _ {a b a' b'} h1 h2 => by by_cases hc : c <;> simp only [hc, if_true, if_false] <;> assumption
 have rf : ∀ {a : Rs}, Rs.le a a := .inr rfl
 unfold qIj
 exact it rf (it rf (it rf (it (Rs.le.bind (h 0) fun _ => rf) (it (Rs.le.bind (h 0) fun _ => hF _ _) (it (Rs.le.bind (h 0) fun _ => rf) (it (Rs.le.bind (h 0) fun _ => rf) (it (Rs.le.bind (h 0) fun _ => rf)
  (it (Rs.le.bind (h 0) fun _ => it rf (h 1)) (it (Rs.le.bind (h 0) fun _ => it (h 1) rf) (it (Rs.le.bind (h 0) fun _ => it (h 2) (h 1)) (Rs.le.bind (h 0) fun _ => Rs.le.bind (h 1) fun _ => rf)))))))))))
theorem evE_le {F G : Int -> Int -> Rs} (hF : ∀ k x, Rs.le (F k x) (G k x)) (x : Int) (e : E) : Rs.le (evE d m F x e) (evE d m G x e) := by
 induction e using E.ind with
 | h e ih =>
 rw [qIX, qIX]
 exact comb_le hF (kid_le ih)
theorem evM_le : ∀ (n : Nat) (k x : Int), Rs.le (evM d m n k x) (evM d m (n + 1) k x)
 | 0, k, x => by
  unfold evM
  by_cases h : x = 0
  ·rw [if_pos h, if_pos h]; exact .inr rfl
  ·rw [if_neg h]; exact .inl rfl
 | n + 1, k, x => by
  rw [evM, evM]
  by_cases h : x = 0
  ·rw [if_pos h, if_pos h]; exact .inr rfl
  ·rw [if_neg h, if_neg h]
   cases d.measures[k.toNat]? with
   | none => exact .inr rfl
   | some ms => exact evE_le (evM_le n) x ms.x
theorem evM_mono {n n' : Nat} (h : n <= n') (k x : Int) : Rs.le (evM d m n k x) (evM d m n' k x) := by
 induction h with
 | refl => exact .inr rfl
 | step _ ih => exact ih.trans (evM_le _ k x)
def Mono (g : Nat -> Rs) : Prop := ∀ n n', n <= n' -> Rs.le (g n) (g n')
theorem qAr (x : Int) (e : E) : Mono fun n => evE d m (evM d m n) x e := fun _ _ h => evE_le (evM_mono h) x e
theorem qFi (k x : Int) : Mono fun n => evM d m n k x := fun _ _ h => evM_mono h k x
theorem qEo (r : Rs) : Mono fun _ => r := fun _ _ _ => .inr rfl
def Out (d : Ds) (m : Mm) (B : Int -> Int -> Prop) (g : Nat -> Rs) : Rs -> Prop
 | .ok v => ∃ n, g n = .ok v
 | .bad e => (e ≠ 16 /\ ∃ n, g n = .bad e) ∨ (e = 16 /\ ((∀ n, g n = .bad 16) ∨ ∃ k x, B k x /\ ∀ n, evM d m n k x = .bad 16 -> g n = .bad 16))
theorem Out.const (B : Int -> Int -> Prop) {r : Rs} : Out d m B (fun _ => r) r := by
 cases r with
 | ok v => exact ⟨0, rfl⟩
 | bad e =>
  by_cases h : e = 16
  ·subst h; exact .inr ⟨rfl, .inl fun _ => rfl⟩
  ·exact .inl ⟨h, 0, rfl⟩
theorem Out.congr {B : Int -> Int -> Prop} {g g' : Nat -> Rs} {r : Rs} (h : Out d m B g r) (e : ∀ n, g n = g' n) : Out d m B g' r := by
 have : g = g' := funext e
 rw [<- this]; exact h
theorem Out.bindBad {B : Int -> Int -> Prop} {g : Nat -> Rs} {h : Nat -> Int -> Rs} {e : Int} (k : Out d m B g (.bad e)) : Out d m B (fun n => (g n).bind (h n)) (.bad e) := by
 rcases k with ⟨k1, n, k2⟩ | ⟨rfl, k⟩
 ·exact .inl ⟨k1, n, by show (g n).bind (h n) = _; rw [k2]; rfl⟩
 ·refine .inr ⟨rfl, ?_⟩
  rcases k with k | ⟨a, b, k1, k2⟩
  ·exact .inl fun n => by show (g n).bind (h n) = _; rw [k n]; rfl
  ·exact .inr ⟨a, b, k1, fun n hn => by show (g n).bind (h n) = _; rw [k2 n hn]; rfl⟩
theorem Out.bindOk {B : Int -> Int -> Prop} {g : Nat -> Rs} {h : Nat -> Int -> Rs} {v : Int} {r : Rs} (hg : Mono g) (hh : Mono fun n => h n v) (k : Out d m B g (.ok v)) (k2 : Out d m B (fun n => h n v) r) : Out d m B (fun n => (g n).bind (h n)) r := by
 obtain ⟨n1, k1⟩ := k
 have low : ∀ n, h n v = .bad 16 -> (g n).bind (h n) = .bad 16 := fun n hn => by
  rcases hg n (max n n1) (by omega) with h1 | h1
  ·rw [h1]; rfl
  ·rcases hg n1 (max n n1) (by omega) with h2 | h2
   ·rw [k1] at h2; cases h2
   ·rw [h1, <- h2, k1]; exact hn
 have up : ∀ n r', h n v = r' -> r' ≠ .bad 16 -> ∃ n, (g n).bind (h n) = r' := fun n r' hn hr => by
  refine ⟨max n n1, ?_⟩
  rcases hg n1 (max n n1) (by omega) with h2 | h2
  ·rw [k1] at h2; cases h2
  ·rw [<- h2, k1]
   rcases hh n (max n n1) (by omega) with h3 | h3
   ·exact absurd (hn.symm.trans h3) hr
   ·exact h3.symm.trans hn
 cases r with
 | ok w => obtain ⟨n, hn⟩ := k2; exact up n _ hn nofun
 | bad e =>
  rcases k2 with ⟨h1, n, h2⟩ | ⟨rfl, h1⟩
  ·exact .inl ⟨h1, up n _ h2 (fun c => h1 (by cases c; rfl))⟩
  ·refine .inr ⟨rfl, ?_⟩
   rcases h1 with h1 | ⟨a, b, h1, h2⟩
   ·exact .inl fun n => low n (h1 n)
   ·exact .inr ⟨a, b, h1, fun n hn => low n (h2 n hn)⟩
theorem Out.measure {B : Int -> Int -> Prop} {k x : Int} {ms : Ms} (hx : x ≠ 0) (hk : d.measures[k.toNat]? = some ms) {r : Rs} (h : Out d m (fun a b => B a b ∨ (a = k /\ b = x)) (fun n => evE d m (evM d m n) x ms.x) r) : Out d m B (fun n => evM d m n k x) r := by
 have suc : ∀ n, evM d m (n + 1) k x = evE d m (evM d m n) x ms.x := fun n => by rw [evM, if_neg hx, hk]
 have zero : evM d m 0 k x = .bad 16 := by rw [evM, if_neg hx]
 cases r with
 | ok v => obtain ⟨n, h⟩ := h; exact ⟨n + 1, (suc n).trans h⟩
 | bad e =>
  rcases h with ⟨h1, n, h2⟩ | ⟨rfl, h⟩
  ·exact .inl ⟨h1, n + 1, (suc n).trans h2⟩
  ·refine .inr ⟨rfl, ?_⟩
   rcases h with h | ⟨a, b, h1, h2⟩
   ·exact .inl fun n => by cases n with | zero => exact zero | succ n => exact (suc n).trans (h n)
   ·rcases h1 with h1 | ⟨rfl, rfl⟩
    ·refine .inr ⟨a, b, h1, fun n hn => ?_⟩
     cases n with
     | zero => exact zero
     | succ n =>
      refine (suc n).trans (h2 n ?_)
      rcases evM_le (d := d) (m := m) n a b with g | g
      ·exact g
      ·exact g.trans hn
    ·refine .inl fun n => ?_
     induction n with
     | zero => exact zero
     | succ n ih => exact (suc n).trans (h2 n ih)
theorem Out.unique {g : Nat -> Rs} (hg : Mono g) {r r' : Rs} (h : Out d m (fun _ _ => False) g r) (h' : Out d m (fun _ _ => False) g r') : r = r' := by
 have key : ∀ {r : Rs}, Out d m (fun _ _ => False) g r -> (r ≠ .bad 16 /\ ∃ n, g n = r) ∨ (r = .bad 16 /\ ∀ n, g n = .bad 16) := fun {r} h => by
  cases r with
  | ok v => exact .inl ⟨nofun, h⟩
  | bad e =>
   rcases h with ⟨h1, h2⟩ | ⟨rfl, h⟩
   ·exact .inl ⟨fun c => h1 (by cases c; rfl), h2⟩
   ·rcases h with h | ⟨_, _, h, _⟩
    ·exact .inr ⟨rfl, h⟩
    ·exact h.elim
 rcases key h with ⟨h1, n, h2⟩ | ⟨h1, h2⟩ <;> rcases key h' with ⟨k1, l, k2⟩ | ⟨k1, k2⟩
 ·have e1 := hg n (max n l) (by omega)
  have e2 := hg l (max n l) (by omega)
  rcases e1 with e1 | e1
  ·exact absurd (h2.symm.trans e1) h1
  ·rcases e2 with e2 | e2
   ·exact absurd (k2.symm.trans e2) k1
   ·rw [<- h2, <- k2, e1, e2]
 ·exact absurd (h2.symm.trans (k2 n)) h1
 ·exact absurd (k2.symm.trans (h2 l)) k1
 ·rw [h1, k1]
section
variable {F : Int -> Int -> Rs} {x op n : Int} {s : ByteArray} {rs : List Rs}
theorem comb1 (h : op = 1 ∨ op = 2) : qIj d m F x op n s rs = .ok n := by rcases h with rfl | rfl <;> rfl
theorem comb3 (h : op = 3) : qIj d m F x op n s rs = .ok 0 := by subst h; rfl
theorem comb4 (h : op = 4) : qIj d m F x op n s rs = .ok (varV d m x s) := by subst h; rfl
theorem comb5 (h : op = 5) : qIj d m F x op n s rs = (qDD rs 0).bind fun a => qEs d m a s := by subst h; rfl
theorem comb7 (h : op = 7) : qIj d m F x op n s rs = (qDD rs 0).bind fun a => F (qGh d s) a := by subst h; rfl
theorem comb8 (h : op = 8) : qIj d m F x op n s rs = (qDD rs 0).bind fun a => big (-a) := by subst h; rfl
theorem comb18 (h : op = 18) : qIj d m F x op n s rs = (qDD rs 0).bind fun a => .ok (1 - a) := by subst h; rfl
theorem comb24 (h : op = 24) : qIj d m F x op n s rs = (qDD rs 0).bind fun a => .ok (qHz a) := by subst h; rfl
theorem comb19 (h : op = 19) : qIj d m F x op n s rs = (qDD rs 0).bind fun a => if a = 0 then .ok 0 else qDD rs 1 := by subst h; rfl
theorem comb20 (h : op = 20) : qIj d m F x op n s rs = (qDD rs 0).bind fun a => if a = 0 then qDD rs 1 else .ok 1 := by subst h; rfl
theorem comb21 (h : op = 21) : qIj d m F x op n s rs = (qDD rs 0).bind fun a => if a = 0 then qDD rs 2 else qDD rs 1 := by subst h; rfl
theorem qEi (h : 9 <= op /\ op <= 23 /\ op ≠ 18 /\ op ≠ 19 /\ op ≠ 20 /\ op ≠ 21) : qIj d m F x op n s rs = (qDD rs 0).bind fun a => (qDD rs 1).bind fun b => qCz op a b := by
 unfold qIj
 rw [if_neg (by omega), if_neg (by omega), if_neg (by omega), if_neg (by omega), if_neg (by omega), if_neg (by omega), if_neg (by omega), if_neg (by omega), if_neg (by omega), if_neg (by omega), if_neg (by omega)]
end
end Go.Proofs
