/- Part 11 of a proof of a law of this seat: no statement of the seat is proved here. -/
import Derived.Test.YtnoompnjibfbfaaGreatDoorPart10
set_option linter.unusedVariables false
set_option linter.unusedSimpArgs false
namespace Go.Proofs
open Go Go.Sx
attribute [local irreducible] Go.Sx.Tri
theorem okS_shape {d : Int} {x : S} (h : okS d x = true) : shapeR x.op x.s x.es x.ls.length x.xs.length = true /\ okSs (d + 1) x.ls = true /\ okSs (d + 1) x.xs = true := by
 cases x
 unfold okS at h
 rw [Bool.and_eq_true, Bool.and_eq_true, Bool.and_eq_true] at h
 exact ⟨h.1.1.2, h.1.2, h.2⟩
theorem okSs_mem {d : Int} : ∀ {l : List S}, okSs d l = true -> ∀ x ∈ l, okS d x = true
 | [], _, x, hx => absurd hx List.not_mem_nil
 | y :: l, h, x, hx => by
  unfold okSs at h
  rw [Bool.and_eq_true] at h
  rcases List.mem_cons.1 hx with rfl | hx
  ·exact h.1
  ·exact okSs_mem h.2 x hx
theorem szS_eq (x : S) : szS x = 1 + szSs x.ls + szSs x.xs := by cases x; unfold szS; rfl
theorem szSs_cons (x : S) (l : List S) : szSs (x :: l) = szS x + szSs l := by rw [szSs]
mutual
theorem stT_n (d : Ds) (sc : Sc) (result : ByteArray) (n : Int) : ∀ x : S, (stT d sc result n x).2 = 0 -> (stT d sc result n x).1 = n + szS x
 | .mk op s _ es _ ls _ xs => by
  have h1 := stsT_n d sc result (n + 1) ls
  have h2 := stsT_n d sc result (stsT d sc result (n + 1) ls).1 xs
  unfold stT szS
  intro h
  split at h
  ·rename_i h'; exact absurd h h'
  ·rename_i h'
   rw [if_neg h']
   split at h
   ·rename_i h3; exact absurd h h3
   ·rename_i h3
    rw [if_neg h3, h2 h, h1 (by simpa using h3)]
    omega
theorem stsT_n (d : Ds) (sc : Sc) (result : ByteArray) (n : Int) : ∀ l : List S, (stsT d sc result n l).2 = 0 -> (stsT d sc result n l).1 = n + szSs l
 | [] => by simp [stsT, szSs]
 | x :: xs => by
  have h1 := stT_n d sc result n x
  have h2 := stsT_n d sc result (stT d sc result n x).1 xs
  rw [stsT_cons, szSs_cons]
  intro h
  split at h
  ·rename_i h'; exact absurd h h'
  ·rename_i h'
   rw [if_neg h', h2 h, h1 (by simpa using h')]
   omega
end
theorem firstE_some {α β : Type} {f : Nat -> α -> Option β} {i : Nat} {x : α} {xs : List α} {b : β} (h : f i x = some b) : firstE f i (x :: xs) = some b := by unfold firstE; rw [h]
theorem firstE_none {α β : Type} {f : Nat -> α -> Option β} {i : Nat} {x : α} {xs : List α} (h : f i x = none) : firstE f i (x :: xs) = firstE f (i + 1) xs := by rw [firstE, h]
section
variable {V : Mem} {d : Ds}
def RefS (V : Mem) (d : Ds) (p : Pr) (l : List S) : Prop := ∀ (sl : Sl) (n dd : Int), RowsAt V sl 5 (l.map S.row) -> (∀ x ∈ l, S.Ok V x) -> okSs dd l = true -> 0 <= n -> n + szSs l <= 1000 ->
 PP 129 [d.v, p.v, sl.v, .int .i64 n] V (.tuple #[.int .i64 (stsT d (inProcS d p) p.result n l).1, .int .i64 (stsT d (inProcS d p) p.result n l).2])
theorem refStep (hd : Ds.Ok V d) {p : Pr} (hp : Pr.Ok V p) (h1 : d.globals.length <= 1000) (h2 : p.params.length <= 1000 /\ p.locals.length <= 1000) {l : List S} (hk : ∀ x ∈ l, RefS V d p x.ls /\ RefS V d p x.xs) : RefS V d p l := by
 intro sl n dd hr hok hokS hn0 hn1
 refine x129 (v0 := d.name) (v1 := d.ts) (v2 := d.gs) (v3 := d.ps) (v4 := d.ms) (v5 := d.is) (v6 := d.qs) (v7 := d.bs) (v8 := p.name) (v9 := p.ps) (v10 := p.result) (v11 := p.ls) (v12 := p.bs) (v13 := sl) (v14 := n) ?_
 unfold w129
 generalize hsc : inProcS d p = sc
 refine loop4s (mk := .int .i64) (mc := .int .i64) (md := .int .i64) 0 0 n inj_i l.length (fun i at_ V1 => V = V1 /\ 0 <= at_ /\ at_ + szSs (l.drop i) <= 1000 /\ stsT d sc p.result n l = stsT d sc p.result at_ (l.drop i)) ⟨rfl, hn0, hn1, rfl⟩ ?_
 rintro i b c a V1 J hi ⟨rfl, ha0, ha1, he⟩ hJ
 refine ⟨fun hlt => ?_, fun hge => ?_⟩
 ·obtain ⟨x, hm, hx, hdr, hl, hpp, hz, hrow⟩ := hr.get hlt
  have hrow := S.row_get hrow
  have hox := hok x hm
  obtain ⟨hsh, hk1, hk2⟩ := okS_shape (okSs_mem hokS x hm)
  rw [hdr, szSs_cons, szS_eq] at ha1
  rw [hdr, stsT_cons, stT_eq] at he
  have cs := c188 hd hp h1 h2 hox hsh
  rw [hsc, S.v_eq] at cs
  refine ⟨hpp, hz, hlt, _, _, _, _, _, hrow, cs.call ⟨_, rfl, fun h0 => ?_, fun h0 => ?_⟩⟩
  ·have e1 : ¬ (stmtT d sc p.result x.op x.s x.es ≠ 0) := fun h => h h0
   rw [if_neg e1] at he
   have r1 := (hk x hm).1 x.ll (a + 1) (dd + 1) hox.lRows hox.lOk hk1 (by omega) (by omega)
   rw [hsc] at r1
   refine ⟨hpp, hz, hlt, ptrAdd_ne hpp, _, _, _, _, _, hrow, ⟨by omega, by omega⟩, r1.call ⟨_, _, rfl, fun h3 => ?_, fun h3 => ?_⟩⟩
   ·have e2 : ¬ ((stsT d sc p.result (a + 1) x.ls).2 ≠ 0) := fun h => h h3
    rw [if_neg e2] at he
    have hn := stsT_n d sc p.result (a + 1) x.ls h3
    have r2 := (hk x hm).2 x.xl (stsT d sc p.result (a + 1) x.ls).1 (dd + 1) hox.xRows hox.xOk hk2 (by omega) (by omega)
    rw [hsc] at r2
    refine ⟨hpp, hz, hlt, ptrAdd_ne hpp, _, _, _, _, _, hrow, r2.call ⟨_, _, rfl, fun h4 => ?_, fun h4 => ?_⟩⟩
    ·rw [if_neg (fun h => h h4)] at he
     have hn2 := stsT_n d sc p.result _ x.xs h4
     exact ⟨hr.succ hlt, hJ hl _ _ _ _ ⟨rfl, by omega, by omega, he⟩⟩
    ·rw [if_pos h4] at he
     rw [he]; exact ⟨rfl, rfl⟩
   ·have e2 : (stsT d sc p.result (a + 1) x.ls).2 ≠ 0 := h3
    rw [if_pos e2, if_pos e2] at he
    rw [he]; exact ⟨rfl, rfl⟩
  ·have e1 : stmtT d sc p.result x.op x.s x.es ≠ 0 := h0
   rw [if_pos e1, if_pos e1] at he
   rw [he]; exact ⟨rfl, rfl⟩
 ·rw [(hr.done hge).1, stsT_nil] at he
  rw [he]; exact ⟨rfl, rfl⟩
theorem refStmts (hd : Ds.Ok V d) {p : Pr} (hp : Pr.Ok V p) (h1 : d.globals.length <= 1000) (h2 : p.params.length <= 1000 /\ p.locals.length <= 1000) (l : List S) : RefS V d p l := by
 have hS : ∀ s : S, RefS V d p s.ls /\ RefS V d p s.xs := by
  intro s
  induction s using S.ind with
  | h s i1 i2 => exact ⟨refStep hd hp h1 h2 i1, refStep hd hp h1 h2 i2⟩
 exact refStep hd hp h1 h2 fun x _ => hS x
theorem c185 (hd : Ds.Ok V d) {l : Sl} {xs : List Fld} (hl : RowsAt V l 2 (xs.map Fld.row)) {i : Nat} {f : Fld} (hf : xs[i]? = some f) : PP 185 [d.v, l.v, .int .i64 i] V (.int .i64 (oneT d xs i f)) := by
 refine x185 (v0 := d.name) (v1 := d.ts) (v2 := d.gs) (v3 := d.ps) (v4 := d.ms) (v5 := d.is) (v6 := d.qs) (v7 := d.bs) (v8 := l) ?_
 unfold w185
 have hn := hl.n_eq
 have hil := (List.getElem?_eq_some_iff.1 hf).1
 have hlt : (i : Int) < (l.n : Int) := by omega
 obtain ⟨f', hm, hx, hdr, -, hpp, hz, hrow⟩ := hl.get hlt
 rw [hf] at hx
 cases hx
 refine loop2 i (fun k V1 => V = V1 /\ ∀ j g, j < k -> xs[j]? = some g -> ¬ (g.name = f.name)) ⟨rfl, fun _ _ h => absurd h (Nat.not_lt_zero _)⟩ ?_
 rintro k b V1 J hi ⟨rfl, ha⟩ hJ
 refine ⟨fun hk => ?_, fun hk => ?_⟩
 ·obtain ⟨g, hmg, hxg, hdg, hlg, hpg, hzg, hrowg⟩ := hl.get (i := k) (by omega)
  refine ⟨hpg, hzg, by omega, ptrAdd_ne hpg, _, _, hrowg, hpp, hz, hlt, ptrAdd_ne hpp, _, _, hrow, fun he => ?_, fun he => ⟨hl.succ (by omega), hJ (by omega) _ _ ⟨rfl, fun j y hj hy => ?_⟩⟩⟩
  ·have : (xs.take i).any (fun g => decide (g.name = f.name)) = true := List.any_eq_true.2 ⟨g, by
    rw [List.mem_take_iff_getElem]
    exact ⟨k, by omega, (List.getElem?_eq_some_iff.1 hxg).2⟩, decide_eq_true he⟩
   unfold oneT
   rw [if_pos this]; exact ⟨rfl, rfl⟩
  ·rcases Nat.lt_succ_iff_lt_or_eq.1 hj with h' | rfl
   ·exact ha j y h' hy
   ·rw [hxg] at hy; cases hy; exact he
 ·have : ¬ (xs.take i).any (fun g => decide (g.name = f.name)) = true := fun h => by
   obtain ⟨g, hg, he⟩ := List.any_eq_true.1 h
   rw [List.mem_take_iff_getElem] at hg
   obtain ⟨j, hj, e⟩ := hg
   exact ha j g (by omega) (by rw [List.getElem?_eq_getElem (by omega), e]) (of_decide_eq_true he)
  unfold oneT
  rw [if_neg this]
  refine ⟨hpp, hz, hlt, ptrAdd_ne hpp, _, _, hrow, (c187 hd).call ⟨_, rfl, fun h => ?_, fun h => ?_⟩⟩
  ·rw [if_pos h]; exact ⟨rfl, rfl⟩
  ·rw [if_neg h]; exact ⟨rfl, rfl⟩
theorem c184 (hd : Ds.Ok V d) {l : Sl} {xs : List Fld} (hl : RowsAt V l 2 (xs.map Fld.row)) : PP 184 [d.v, l.v] V (.int .i64 (declT d xs)) := by
 refine x184 (v0 := d.name) (v1 := d.ts) (v2 := d.gs) (v3 := d.ps) (v4 := d.ms) (v5 := d.is) (v6 := d.qs) (v7 := d.bs) (v8 := l) ?_
 unfold w184 declT
 generalize hf : (fun i f => if oneT d xs i f ≠ 0 then some (oneT d xs i f) else none) = fn
 refine loop2 xs.length (fun k V1 => V = V1 /\ firstE fn 0 xs = firstE fn k (xs.drop k)) ⟨rfl, rfl⟩ ?_
 rintro k b V1 J hi ⟨rfl, ha⟩ hJ
 refine ⟨fun hk => ?_, fun hk => ?_⟩
 ·obtain ⟨g, hmg, hxg, hdg, hlg, hpg, hzg, hrowg⟩ := hl.get hk
  rw [hdg] at ha
  refine (c185 hd hl hxg).call ⟨_, rfl, fun h => ?_, fun h => ?_⟩
  ·rw [firstE_none (by rw [<- hf]; simp [h])] at ha
   exact ⟨hl.succ hk, hJ hlg _ _ ⟨rfl, ha⟩⟩
  ·rw [firstE_some (b := oneT d xs k g) (by rw [<- hf]; simp only [ne_eq, h, not_false_eq_true, if_true])] at ha
   rw [ha]; exact ⟨rfl, rfl⟩
 ·rw [(hl.done hk).1, firstE] at ha
  rw [ha]; exact ⟨rfl, rfl⟩
theorem c189 (hd : Ds.Ok V d) {sl : Sl} {sc : Sc} (hsl : RowsAt V sl 2 (sc.vars.map Fld.row)) {e : E} (he : E.Ok V e) (hok : okE 1 e = true) {t : ByteArray} : PP 189 [d.v, scV sl sc, e.v, .string t] V (.int .i64 (wantT d sc e t)) := by
 refine x189 (v0 := d.name) (v1 := d.ts) (v2 := d.gs) (v3 := d.ps) (v4 := d.ms) (v5 := d.is) (v6 := d.qs) (v7 := d.bs) (v8 := sl) (v9 := sc.body) (v10 := e.op) (v11 := e.n) (v12 := e.s) (v13 := e.l) ?_
 unfold w189 wantT
 refine (refExpr hd hsl e he 1 hok V (Mem.sub.refl _)).call ⟨_, _, rfl, fun h => ⟨fun h1 => ?_, fun h1 => ?_⟩, fun h => ?_⟩
 ·rw [if_neg (fun x => x h), if_pos h1]; exact ⟨rfl, rfl⟩
 ·rw [if_neg (fun x => x h), if_neg h1]; exact ⟨rfl, rfl⟩
 ·rw [if_pos h]; exact ⟨rfl, rfl⟩
def plainT (s : ByteArray) : Bool := decide (s = sInt) || decide (s = sBool)
end
theorem idx_lt {α : Type} {p : α -> Bool} {xs : List α} {i : Nat} {x : α} (hx : xs[i]? = some x) (hp : p x = true) : (idxI p xs < (i : Int) ↔ (xs.take i).any p = true) /\ 0 <= idxI p xs := by
 rcases idx_cases p xs with ⟨h1, h2, h3⟩ | ⟨j, y, h1, h2, h3, h4, h5, h6, h7, h8⟩
 ·exact absurd hp (List.any_eq_false.1 h3 x (List.mem_of_getElem? hx))
 ·rw [h1]
  refine ⟨⟨fun h => ?_, fun h => ?_⟩, by omega⟩
  ·exact List.any_eq_true.2 ⟨y, by
    rw [List.mem_take_iff_getElem]
    exact ⟨j, by omega, (List.getElem?_eq_some_iff.1 h2).2⟩, h5⟩
  ·obtain ⟨g, hg, he⟩ := List.any_eq_true.1 h
   rw [List.mem_take_iff_getElem] at hg
   obtain ⟨k, hk, e⟩ := hg
   rcases Nat.lt_or_ge j i with hh | hh
   ·omega
   ·exfalso
    have : g ∈ xs.take j := by
     rw [List.mem_take_iff_getElem]
     exact ⟨k, by omega, e⟩
    exact List.any_eq_false.1 h8 g this he
section
variable {V : Mem} {d : Ds}
def f2 (o : Option Flt) : Value := .tuple #[.string (fltR o).1, .int .i64 (fltR o).2.2]
theorem c126 (hd : Ds.Ok V d) : PP 126 [d.v] V (f2 (typesT d)) := by
 refine x126 (v0 := d.name) (v1 := d.ts) (v2 := d.gs) (v3 := d.ps) (v4 := d.ms) (v5 := d.is) (v6 := d.qs) (v7 := d.bs) ?_
 unfold w126 typesT
 have key : ∀ {X : Option Flt} (s : ByteArray) (n : Int), X = some (s, -1, n) -> (Ending.returned (.tuple #[.string s, .int .i64 n]) = Ending.returned (f2 X) /\ V = V) := fun s n h => by rw [h]; exact ⟨rfl, rfl⟩
 unfold types1
 generalize hf1 : (fun i (t : Ty) => if (d.types.take i).any (fun g => decide (g.name = t.name)) = true then some ((t.name, -1, 10) : Flt) else none) = F1
 refine loop3 d.types.length (fun k V1 => V = V1 /\ firstE F1 0 d.types = firstE F1 k (d.types.drop k)) ⟨rfl, rfl⟩ ?_
 rintro k b c V1 J hi ⟨rfl, ha⟩ hJ
 refine ⟨fun hk => ?_, fun hk => ?_⟩
 ·obtain ⟨g, hm, hx, hdr, hl, hp, hz, hrow⟩ := hd.types.get hk
  have hlt := (idx_lt (p := fun t : Ty => decide (t.name = g.name)) hx (by simp)).1
  rw [hdr] at ha
  refine ⟨hp, hz, hk, ptrAdd_ne hp, _, _, hrow, (c132 hd).call ⟨_, rfl, fun h => ⟨hp, hz, hk, ptrAdd_ne hp, _, _, hrow, key _ _ ?_⟩, fun h => ⟨hd.types.succ hk, hJ hl _ _ _ ⟨rfl, ?_⟩⟩⟩⟩
  ·rw [ha, firstE_some (b := (g.name, -1, 10)) (by rw [<- hf1]; exact if_pos (hlt.1 h))]; rfl
  ·rw [ha, firstE_none (by rw [<- hf1]; exact if_neg fun e => h (hlt.2 e))]
 rw [(hd.types.done hk).1, firstE] at ha
 rw [ha, Option.none_or]
 unfold types2
 generalize hf2 : (fun (_ : Nat) (t : Ty) => if declT d t.fields ≠ 0 then some ((t.name, -1, declT d t.fields) : Flt) else none) = F2
 refine loop3 d.types.length (fun k V1 => V = V1 /\ firstE F2 0 d.types = firstE F2 k (d.types.drop k)) ⟨rfl, rfl⟩ ?_
 rintro k b c V1 J hi ⟨rfl, ha⟩ hJ
 refine ⟨fun hk => ?_, fun hk => ?_⟩
 ·obtain ⟨g, hm, hx, hdr, hl, hp, hz, hrow⟩ := hd.types.get hk
  rw [hdr] at ha
  refine ⟨hp, hz, hk, ptrAdd_ne hp, _, _, hrow, (c184 hd (hd.typesOk g hm).fields).call ⟨_, rfl, fun h => ⟨hd.types.succ hk, hJ hl _ _ _ ⟨rfl, ?_⟩⟩, fun h => ⟨hp, hz, hk, ptrAdd_ne hp, _, _, hrow, key _ _ ?_⟩⟩⟩
  ·rw [ha, firstE_none (by rw [<- hf2]; exact if_neg fun e => e h)]
  ·rw [ha, firstE_some (b := (g.name, -1, declT d g.fields)) (by rw [<- hf2]; exact if_pos h)]; rfl
 rw [(hd.types.done hk).1, firstE] at ha
 rw [ha, Option.none_or]
 unfold types3
 generalize hf3 : (fun i (f : Fld) => if oneT d d.globals i f ≠ 0 then some ((f.name, -1, oneT d d.globals i f) : Flt) else none) = F3
 refine loop3 d.globals.length (fun k V1 => V = V1 /\ firstE F3 0 d.globals = firstE F3 k (d.globals.drop k)) ⟨rfl, rfl⟩ ?_
 rintro k b c V1 J hi ⟨rfl, ha⟩ hJ
 refine ⟨fun hk => ?_, fun hk => ?_⟩
 ·obtain ⟨g, hm, hx, hdr, hl, hp, hz, hrow⟩ := hd.globals.get hk
  rw [hdr] at ha
  refine (c185 hd hd.globals hx).call ⟨_, rfl, fun h => ⟨hd.globals.succ hk, hJ hl _ _ _ ⟨rfl, ?_⟩⟩, fun h => ⟨hp, hz, hk, ptrAdd_ne hp, _, _, hrow, key _ _ ?_⟩⟩
  ·rw [ha, firstE_none (by rw [<- hf3]; exact if_neg fun e => e h)]
  ·rw [ha, firstE_some (b := (g.name, -1, oneT d d.globals k g)) (by rw [<- hf3]; exact if_pos h)]
 rw [(hd.globals.done hk).1, firstE] at ha
 rw [ha]
 exact ⟨rfl, rfl⟩
theorem c127 (hd : Ds.Ok V d) (hsm : Small d) : PP 127 [d.v] V (f2 (headsT d)) := by
 refine Pur.mk (x127 (v0 := d.name) (v1 := d.ts) (v2 := d.gs) (v3 := d.ps) (v4 := d.ms) (v5 := d.is) (v6 := d.qs) (v7 := d.bs) ?_)
 unfold w127 headsT
 generalize hf1 : (fun i (p : Pr) => if (d.procs.take i).any (fun g => decide (g.name = p.name)) = true then some ((p.name, -1, 10) : Flt) else if declT d (p.params ++ p.locals) ≠ 0 then some (p.name, -1, declT d (p.params ++ p.locals)) else if p.result ≠ sE /\ known d p.result = false then some (p.name, -1, 9) else none) = F1
 refine loop3 d.procs.length (fun k V1 => V.sub V1 /\ firstE F1 0 d.procs = firstE F1 k (d.procs.drop k)) ⟨Mem.sub.refl _, rfl⟩ ?_
 rintro k b c V1 J hi ⟨hV, ha⟩ hJ
 have hd1 := hd.sub hV
 have key : ∀ {X : Option Flt} (V2 : Mem) (s : ByteArray) (n : Int), V.sub V2 -> X = some (s, -1, n) -> (Ending.returned (.tuple #[.string s, .int .i64 n]) = Ending.returned (f2 X) /\ V.sub V2) := fun V2 s n h2 h => by rw [h]; exact ⟨rfl, h2⟩
 refine ⟨fun hk => ?_, fun hk => ?_⟩
 ·obtain ⟨g, hm, hx, hdr, hl, hp, hz, hrow⟩ := hd1.procs.get hk
  have hlt := (idx_lt (p := fun t : Pr => decide (t.name = g.name)) hx (by simp)).1
  have hg := hd1.procsOk g hm
  have hs := hsm.2 g hm
  rw [hdr] at ha
  refine ⟨hp, hz, hk, _, _, _, _, _, hrow, (c186 hd1).call ⟨_, rfl, fun h => key _ _ _ hV ?_, fun h => ?_⟩⟩
  ·rw [ha, firstE_some (b := (g.name, -1, 10)) (by rw [<- hf1]; exact if_pos (hlt.1 h))]
  intro b1 hb1
  have hs1 := Mem.sub_new hb1 (.cells #[] 110 (0, 0))
  refine app23 (s := ⟨some ⟨b1, 0, none⟩, 0, 0⟩) (u := g.ps) (xs := []) (ys := g.params) rfl rfl (Own.empty hs1 _ _ _) (hg.params.sub hs1) (by simp; omega) fun s1 W1 o1 => ⟨s1, rfl, ?_⟩
  refine app23 (s := s1) (u := g.ls) (xs := g.params) (ys := g.locals) rfl rfl o1 (hg.locals.sub o1.sub) (by omega) fun s2 W2 o2 => ⟨s2, rfl, ?_⟩
  have hd2 := hd1.sub o2.sub
  have hV2 := hV.trans o2.sub
  have n1 : ¬ (d.procs.take k).any (fun t => decide (t.name = g.name)) = true := fun e => h (hlt.2 e)
  refine (c184 hd2 (ownF o2)).call ⟨_, rfl, fun h2 => ?_, fun h2 => key _ _ _ hV2 ?_⟩
  ·have n2 : ¬ (declT d (g.params ++ g.locals) ≠ 0) := fun e => e h2
   refine ⟨fun h3 => ⟨hd1.procs.succ hk, hJ hl _ _ _ ⟨hV2, ?_⟩⟩, fun h3 => (c187 hd2).call ⟨_, rfl, fun h4 => ⟨hd1.procs.succ hk, hJ hl _ _ _ ⟨hV2, ?_⟩⟩, fun h4 => key _ _ _ hV2 ?_⟩⟩
   ·rw [ha, firstE_none (by rw [<- hf1]; exact (if_neg n1).trans ((if_neg n2).trans (if_neg fun e => e.1 h3)))]
   ·rw [ha, firstE_none (by rw [<- hf1]; exact (if_neg n1).trans ((if_neg n2).trans (if_neg fun e => by rw [h4] at e; exact absurd e.2 (by simp))))]
   ·rw [ha, firstE_some (b := (g.name, -1, 9)) (by rw [<- hf1]; exact (if_neg n1).trans ((if_neg n2).trans (if_pos ⟨h3, eq_false_of_ne_true h4⟩)))]
  ·rw [ha, firstE_some (b := (g.name, -1, declT d (g.params ++ g.locals))) (by rw [<- hf1]; exact (if_neg n1).trans (if_pos h2))]
 ·rw [(hd1.procs.done hk).1, firstE] at ha
  rw [ha]
  exact ⟨rfl, hV⟩
end
theorem any_take_succ {α : Type} {p : α -> Bool} {xs : List α} {i k : Nat} {g : α} (hx : xs[k]? = some g) (hk : k < i) (hp : p g = true) : (xs.take i).any p = true :=
 List.any_eq_true.2 ⟨g, by rw [List.mem_take_iff_getElem]; have hl := (List.getElem?_eq_some_iff.1 hx).1; exact ⟨k, by omega, (List.getElem?_eq_some_iff.1 hx).2⟩, hp⟩
theorem any_take_none {α : Type} {p : α -> Bool} {xs : List α} {i : Nat} (h : ∀ j g, j < i -> xs[j]? = some g -> ¬ p g = true) : ¬ (xs.take i).any p = true := fun hh => by
 obtain ⟨g, hg, he⟩ := List.any_eq_true.1 hh
 rw [List.mem_take_iff_getElem] at hg
 obtain ⟨j, hj, e⟩ := hg
 exact h j g (by omega) (by rw [List.getElem?_eq_getElem (by omega), e]) he
section
variable {V : Mem} {d : Ds}
theorem c128 (hd : Ds.Ok V d) : PP 128 [d.v] V (f2 (formT d)) := by
 refine x128 (v0 := d.name) (v1 := d.ts) (v2 := d.gs) (v3 := d.ps) (v4 := d.ms) (v5 := d.is) (v6 := d.qs) (v7 := d.bs) ?_
 unfold w128 formT
 have key : ∀ {X : Option Flt} (s : ByteArray) (n : Int), X = some (s, -1, n) -> (Ending.returned (.tuple #[.string s, .int .i64 n]) = Ending.returned (f2 X) /\ V = V) := fun s n h => by rw [h]; exact ⟨rfl, rfl⟩
 unfold form1
 generalize hf1 : (fun i (m : Ms) => if (d.measures.take i).any (fun g => decide (g.name = m.name)) = true then some ((m.name, -1, 10) : Flt) else if isNode d m.ty = false then some (m.name, -1, 9) else none) = F1
 refine loop3 d.measures.length (fun k V1 => V = V1 /\ firstE F1 0 d.measures = firstE F1 k (d.measures.drop k)) ⟨rfl, rfl⟩ ?_
 rintro k b c V1 J hi ⟨rfl, ha⟩ hJ
 refine ⟨fun hk => ?_, fun hk => ?_⟩
 ·obtain ⟨g, hm, hx, hdr, hl, hp, hz, hrow⟩ := hd.measures.get hk
  have hlt := (idx_lt (p := fun t : Ms => decide (t.name = g.name)) hx (by simp)).1
  rw [hdr] at ha
  have hq := ptrAdd_ne (n := k * 7) hp
  refine ⟨hp, hz, hk, hq, _, _, _, _, _, _, _, hrow, (c151 hd).call ⟨_, rfl, fun h => ⟨hp, hz, hk, hq, _, _, _, _, _, _, _, hrow, key _ _ ?_⟩, fun h => ⟨hp, hz, hk, hq, _, _, _, _, _, _, _, hrow, (c101 hd).call ⟨_, rfl, fun h2 => ⟨hd.measures.succ hk, hJ hl _ _ _ ⟨rfl, ?_⟩⟩, fun h2 => ⟨hp, hz, hk, hq, _, _, _, _, _, _, _, hrow, key _ _ ?_⟩⟩⟩⟩⟩
  ·rw [ha, firstE_some (b := (g.name, -1, 10)) (by rw [<- hf1]; exact if_pos (hlt.1 h))]; rfl
  ·rw [ha, firstE_none (by rw [<- hf1]; exact (if_neg fun e => h (hlt.2 e)).trans (if_neg (by rw [h2]; simp)))]
  ·rw [ha, firstE_some (b := (g.name, -1, 9)) (by rw [<- hf1]; exact (if_neg fun e => h (hlt.2 e)).trans (if_pos (eq_false_of_ne_true h2)))]; rfl
 rw [(hd.measures.done hk).1, firstE] at ha
 rw [ha, Option.none_or]
 unfold form2
 generalize hf2 : (fun i (m : Iv) => if (d.invs.take i).any (fun g => decide (g.name = m.name)) = true then some ((m.name, -1, 10) : Flt) else if m.ty ≠ sE /\ isNode d m.ty = false then some (m.name, -1, 9) else none) = F2
 refine loop3 d.invs.length (fun k V1 => V = V1 /\ firstE F2 0 d.invs = firstE F2 k (d.invs.drop k)) ⟨rfl, rfl⟩ ?_
 rintro k b c V1 J hi ⟨rfl, ha⟩ hJ
 refine ⟨fun hk => ?_, fun hk => ?_⟩
 ·obtain ⟨g, hm, hx, hdr, hl, hp, hz, hrow⟩ := hd.invs.get hk
  rw [hdr] at ha
  have hq := ptrAdd_ne (n := k * 6) hp
  refine loop3 k (fun j V1 => V = V1 /\ ∀ j' g', j' < j -> d.invs[j']? = some g' -> ¬ decide (g'.name = g.name) = true) ⟨rfl, fun _ _ h => absurd h (Nat.not_lt_zero _)⟩ ?_
  rintro j b c V1 J1 hi ⟨rfl, hb⟩ hJ1
  refine ⟨fun hj => ?_, fun hj => ?_⟩
  ·obtain ⟨g', hm', hx', hdr', hl', hp', hz', hrow'⟩ := hd.invs.get (i := j) (by omega)
   refine ⟨hp', hz', by omega, ptrAdd_ne hp', _, _, _, _, _, _, hrow', hp, hz, hk, hq, _, _, _, _, _, _, hrow, fun he => ⟨hp, hz, hk, hq, _, _, _, _, _, _, hrow, key _ _ ?_⟩, fun he => ⟨hd.invs.succ (by omega), hJ1 (by omega) _ _ _ ⟨rfl, fun j' y hj' hy => ?_⟩⟩⟩
   ·rw [ha, firstE_some (b := (g.name, -1, 10)) (by rw [<- hf2]; exact if_pos (any_take_succ hx' (by omega) (decide_eq_true he)))]; rfl
   ·rcases Nat.lt_succ_iff_lt_or_eq.1 hj' with h' | rfl
    ·exact hb j' y h' hy
    ·rw [hx'] at hy; cases hy; exact fun e => he (of_decide_eq_true e)
  ·have n1 := any_take_none (i := k) (fun j' g' h' => hb j' g' (by omega))
   refine ⟨hp, hz, hk, hq, _, _, _, _, _, _, hrow, fun h3 => ⟨hd.invs.succ hk, hJ hl _ _ _ ⟨rfl, ?_⟩⟩, fun h3 => ⟨hp, hz, hk, hq, _, _, _, _, _, _, hrow, (c101 hd).call ⟨_, rfl, fun h2 => ⟨hd.invs.succ hk, hJ hl _ _ _ ⟨rfl, ?_⟩⟩, fun h2 => ⟨hp, hz, hk, hq, _, _, _, _, _, _, hrow, key _ _ ?_⟩⟩⟩⟩
   ·rw [ha, firstE_none (by rw [<- hf2]; exact (if_neg n1).trans (if_neg fun e => e.1 h3))]
   ·rw [ha, firstE_none (by rw [<- hf2]; exact (if_neg n1).trans (if_neg fun e => by rw [h2] at e; exact absurd e.2 (by simp)))]
   ·rw [ha, firstE_some (b := (g.name, -1, 9)) (by rw [<- hf2]; exact (if_neg n1).trans (if_pos ⟨h3, eq_false_of_ne_true h2⟩))]; rfl
 rw [(hd.invs.done hk).1, firstE] at ha
 rw [ha, Option.none_or]
 unfold form3
 generalize hf3 : (fun (_ : Nat) (m : Po) => if m.ty ≠ sE /\ isNode d m.ty = false then some ((sPot, -1, 9) : Flt) else none) = F3
 refine loop3 d.pots.length (fun k V1 => V = V1 /\ firstE F3 0 d.pots = firstE F3 k (d.pots.drop k)) ⟨rfl, rfl⟩ ?_
 rintro k b c V1 J hi ⟨rfl, ha⟩ hJ
 refine ⟨fun hk => ?_, fun hk => ?_⟩
 ·obtain ⟨g, hm, hx, hdr, hl, hp, hz, hrow⟩ := hd.pots.get hk
  rw [hdr] at ha
  have hq := ptrAdd_ne (n := k * 5) hp
  refine ⟨hp, hz, hk, hq, _, _, _, _, _, hrow, fun h3 => ⟨hd.pots.succ hk, hJ hl _ _ _ ⟨rfl, ?_⟩⟩, fun h3 => ⟨hp, hz, hk, hq, _, _, _, _, _, hrow, (c101 hd).call ⟨_, rfl, fun h2 => ⟨hd.pots.succ hk, hJ hl _ _ _ ⟨rfl, ?_⟩⟩, fun h2 => key _ _ ?_⟩⟩⟩
  ·rw [ha, firstE_none (by rw [<- hf3]; exact if_neg fun e => e.1 h3)]
  ·rw [ha, firstE_none (by rw [<- hf3]; exact if_neg fun e => by rw [h2] at e; exact absurd e.2 (by simp))]
  ·rw [ha, firstE_some (b := (sPot, -1, 9)) (by rw [<- hf3]; exact if_pos ⟨h3, eq_false_of_ne_true h2⟩)]; rfl
 rw [(hd.pots.done hk).1, firstE] at ha
 rw [ha, Option.none_or]
 unfold form4
 generalize hf4 : (fun i (b : Bd) => if (prOf d b.proc).isNone = true then some ((b.proc, -1, 9) : Flt) else if (d.bounds.take i).any (fun g => decide (g.proc = b.proc)) = true then some (b.proc, -1, 10) else none) = F4
 refine loop3 d.bounds.length (fun k V1 => V = V1 /\ firstE F4 0 d.bounds = firstE F4 k (d.bounds.drop k)) ⟨rfl, rfl⟩ ?_
 rintro k b c V1 J hi ⟨rfl, ha⟩ hJ
 refine ⟨fun hk => ?_, fun hk => ?_⟩
 ·obtain ⟨g, hm, hx, hdr, hl, hp, hz, hrow⟩ := hd.bounds.get hk
  rw [hdr] at ha
  have hq := ptrAdd_ne (n := k * 5) hp
  refine ⟨hp, hz, hk, hq, _, _, _, _, _, hrow, (c186 hd).call ⟨_, rfl, ?_⟩⟩
  rcases idx_cases (fun t : Pr => decide (t.name = g.proc)) d.procs with ⟨i1, i2, i3⟩ | ⟨i, x, i1, i2, i3, i4, i5, i6, i7, _⟩
  ·rw [i1]
   refine ⟨fun _ => ⟨hp, hz, hk, hq, _, _, _, _, _, hrow, key _ _ ?_⟩, fun h => absurd h (by decide)⟩
   rw [ha, firstE_some (b := (g.proc, -1, 9)) (by rw [<- hf4]; exact if_pos (by unfold prOf; rw [i2]; rfl))]
  ·rw [i1]
   have n0 : ¬ (prOf d g.proc).isNone = true := by unfold prOf; rw [i3]; simp
   refine ⟨fun h => absurd h (by omega), fun _ => ?_⟩
   refine loop3 k (fun j V1 => V = V1 /\ ∀ j' g', j' < j -> d.bounds[j']? = some g' -> ¬ decide (g'.proc = g.proc) = true) ⟨rfl, fun _ _ h => absurd h (Nat.not_lt_zero _)⟩ ?_
   rintro j b c V1 J1 hi ⟨rfl, hb⟩ hJ1
   refine ⟨fun hj => ?_, fun hj => ?_⟩
   ·obtain ⟨g', hm', hx', hdr', hl', hp', hz', hrow'⟩ := hd.bounds.get (i := j) (by omega)
    refine ⟨hp', hz', by omega, ptrAdd_ne hp', _, _, _, _, _, hrow', hp, hz, hk, hq, _, _, _, _, _, hrow, fun he => ⟨hp, hz, hk, hq, _, _, _, _, _, hrow, key _ _ ?_⟩, fun he => ⟨hd.bounds.succ (by omega), hJ1 (by omega) _ _ _ ⟨rfl, fun j' y hj' hy => ?_⟩⟩⟩
    ·rw [ha, firstE_some (b := (g.proc, -1, 10)) (by rw [<- hf4]; exact (if_neg n0).trans (if_pos (any_take_succ hx' (by omega) (decide_eq_true he))))]
    ·rcases Nat.lt_succ_iff_lt_or_eq.1 hj' with h' | rfl
     ·exact hb j' y h' hy
     ·rw [hx'] at hy; cases hy; exact fun e => he (of_decide_eq_true e)
   ·have n1 := any_take_none (i := k) (fun j' g' h' => hb j' g' (by omega))
    exact ⟨hd.bounds.succ hk, hJ hl _ _ _ ⟨rfl, by rw [ha, firstE_none (by rw [<- hf4]; exact (if_neg n0).trans (if_neg n1))]⟩⟩
 rw [(hd.bounds.done hk).1, firstE] at ha
 rw [ha]
 exact ⟨rfl, rfl⟩
end
structure VParts (d : Ds) : Prop where
 small : Small d
 ms : ∀ m ∈ d.measures, okE 1 m.x = true
 is : ∀ m ∈ d.invs, okE 1 m.x = true
 qs : ∀ m ∈ d.pots, okE 1 m.x = true
 bs : ∀ m ∈ d.bounds, okE 1 m.x = true
 ps : ∀ p ∈ d.procs, okSs 1 p.body = true /\ szSs p.body <= 200
theorem validE_ok {e : E} (h : validE e = true) : okE 1 e = true := by
 unfold validE at h; exact (of_decide_eq_true h).1
theorem vparts {d : Ds} (h : validD d = true) : VParts d := by
 unfold validD formB at h
 simp only [Bool.and_eq_true, decide_eq_true_eq, List.all_eq_true] at h
 obtain ⟨⟨⟨⟨⟨⟨⟨-, -⟩, hg⟩, -⟩, -⟩, -⟩, hp⟩, ⟨⟨hm, hi⟩, hq⟩, hb⟩ := h
 have fl : ∀ {l : List Fld} {n : Int}, fldsB l n = true -> n <= 100 -> l.length <= 1000 := fun h h' => by
  unfold fldsB at h
  rw [Bool.and_eq_true, decide_eq_true_eq] at h
  omega
 refine ⟨⟨fl hg (by omega), fun p hpp => ?_⟩, fun m hmm => ?_, fun m hmm => ?_, fun m hmm => ?_, fun m hmm => ?_, fun p hpp => ?_⟩
 ·have := hp p hpp
  unfold prB at this
  simp only [Bool.and_eq_true] at this
  exact ⟨fl this.1.1.1.2 (by omega), fl this.1.1.2 (by omega)⟩
 ·have := hm m hmm
  unfold msB at this
  simp only [Bool.and_eq_true] at this
  exact validE_ok this.2
 ·have := hi m hmm
  unfold ivB at this
  simp only [Bool.and_eq_true] at this
  exact validE_ok this.2
 ·have := hq m hmm
  unfold poB at this
  simp only [Bool.and_eq_true] at this
  exact validE_ok this.2
 ·have := hb m hmm
  unfold bdB at this
  simp only [Bool.and_eq_true] at this
  exact validE_ok this.2
 ·have := hp p hpp
  unfold prB at this
  simp only [Bool.and_eq_true] at this
  have := this.2
  unfold validSs at this
  exact of_decide_eq_true this
theorem firstE_mem {α β : Type} {f : Nat -> α -> Option β} {b : β} : ∀ {i : Nat} {xs : List α}, firstE f i xs = some b -> ∃ j x, x ∈ xs /\ f j x = some b
 | _, [], h => by cases h
 | i, x :: xs, h => by
  cases hx : f i x with
  | some c => rw [firstE_some hx] at h; cases h; exact ⟨i, x, by simp, hx⟩
  | none =>
   rw [firstE_none hx] at h
   obtain ⟨j, y, hy, e⟩ := firstE_mem h
   exact ⟨j, y, by simp [hy], e⟩
def Bad (r : Flt) : Prop := r.2.2 ≠ 0 /\ r.2.1 = -1
theorem or_bad {P : Flt -> Prop} {a b : Option Flt} (ha : ∀ r, a = some r -> P r) (hb : ∀ r, b = some r -> P r) : ∀ r, a.or b = some r -> P r := fun r h => by
 cases a with
 | none => exact hb r (by simpa using h)
 | some x => exact ha r (by simpa using h)
theorem types_bad (d : Ds) : ∀ r, typesT d = some r -> Bad r := by
 refine or_bad (fun r h => ?_) (or_bad (fun r h => ?_) (fun r h => ?_)) <;> obtain ⟨j, x, hx, e⟩ := firstE_mem h
 ·split at e
  ·cases e; exact ⟨by simp, rfl⟩
  ·cases e
 ·split at e
  ·rename_i h'; cases e; exact ⟨h', rfl⟩
  ·cases e
 ·split at e
  ·rename_i h'; cases e; exact ⟨h', rfl⟩
  ·cases e
theorem heads_bad (d : Ds) : ∀ r, headsT d = some r -> Bad r := fun r h => by
 obtain ⟨j, x, hx, e⟩ := firstE_mem h
 split at e
 ·cases e; exact ⟨by simp, rfl⟩
 ·split at e
  ·rename_i h'; cases e; exact ⟨h', rfl⟩
  ·split at e
   ·cases e; exact ⟨by simp, rfl⟩
   ·cases e
theorem form_bad (d : Ds) : ∀ r, formT d = some r -> Bad r := by
 refine or_bad (fun r h => ?_) (or_bad (fun r h => ?_) (or_bad (fun r h => ?_) (fun r h => ?_))) <;> obtain ⟨j, x, hx, e⟩ := firstE_mem h
 ·split at e
  ·cases e; exact ⟨by simp, rfl⟩
  ·split at e
   ·cases e; exact ⟨by simp, rfl⟩
   ·cases e
 ·split at e
  ·cases e; exact ⟨by simp, rfl⟩
  ·split at e
   ·cases e; exact ⟨by simp, rfl⟩
   ·cases e
 ·split at e
  ·cases e; exact ⟨by simp, rfl⟩
  ·cases e
 ·split at e
  ·cases e; exact ⟨by simp, rfl⟩
  ·split at e
   ·cases e; exact ⟨by simp, rfl⟩
   ·cases e
theorem exps_bad (d : Ds) : ∀ r, expsT d = some r -> Bad r := by
 refine or_bad (fun r h => ?_) (or_bad (fun r h => ?_) (or_bad (fun r h => ?_) (fun r h => ?_))) <;> obtain ⟨j, x, hx, e⟩ := firstE_mem h <;> split at e
 all_goals first | (cases e; done) | (rename_i h'; cases e; exact ⟨h', rfl⟩)
theorem bounds_proc {d : Ds} (hform : formT d = none) : ∀ g ∈ d.bounds, ∃ p, prOf d g.proc = some p := by
 have h4 : form4 d = none := by
  unfold formT at hform
  cases h : form4 d with
  | none => rfl
  | some r => rw [h] at hform; simp at hform
 have aux : ∀ (l : List Bd) (i : Nat), firstE (fun i b => if (prOf d b.proc).isNone = true then some ((b.proc, -1, 9) : Flt) else if (d.bounds.take i).any (fun g => decide (g.proc = b.proc)) = true then some (b.proc, -1, 10) else none) i l = none -> ∀ g ∈ l, ∃ p, prOf d g.proc = some p := by
  intro l
  induction l with
  | nil => intro i _ g hg; exact absurd hg List.not_mem_nil
  | cons y l ih =>
   intro i h g hg
   cases hy : prOf d y.proc with
   | none => rw [firstE_some (b := (y.proc, -1, 9)) (if_pos (by rw [hy]; rfl))] at h; cases h
   | some p =>
    rcases List.mem_cons.1 hg with rfl | hg
    ·exact ⟨p, hy⟩
    ·by_cases ht : (d.bounds.take i).any (fun g => decide (g.proc = y.proc)) = true
     ·rw [firstE_some (b := (y.proc, -1, 10)) ((if_neg (by rw [hy]; simp)).trans (if_pos ht))] at h; cases h
     ·rw [firstE_none ((if_neg (by rw [hy]; simp)).trans (if_neg ht))] at h
      exact ih _ h g hg
 exact aux d.bounds 0 h4
theorem rowp_part {V : Mem} {p : Option Addr} {off n j m : Nat} {vs : List Value} (h : V.rowp p off n = some vs) (hj : 0 < j) (hl : j + m <= n) : V.rowp (ptrAdd (ptrAdd p off) j) 0 m = some ((vs.drop j).take m) := by
 cases p with
 | none => cases h
 | some a =>
  have e : ((a.add off).add j).add 0 = ⟨a.block, a.off + off + j, none⟩ := by
   unfold Addr.add
   by_cases h1 : off = 0 <;> simp [h1, show ¬ j = 0 by omega]
  have e0 : (a.add off).off = a.off + off /\ (a.add off).block = a.block := by
   unfold Addr.add
   by_cases h1 : off = 0 <;> simp [h1]
  show V.row (((a.add off).add j).add 0) m = _
  have h : V.row (a.add off) n = some vs := h
  rw [e]
  unfold Mem.row at h ⊢
  rw [e0.2] at h
  split at h
  ·rename_i c x y hb
   simp only [hb]
   split at h
   ·rename_i hc
    rw [e0.1] at hc h
    cases h
    rw [if_pos ⟨rfl, by omega⟩, List.drop_take, List.take_take, List.drop_drop, Nat.min_eq_left (by omega)]
   ·cases h
  ·cases h
section
variable {V : Mem} {d : Ds}
theorem c130 (hd : Ds.Ok V d) (hv : VParts d) (hform : formT d = none) : PP 130 [d.v] V (f2 (expsT d)) := by
 refine Pur.mk (x130 (v0 := d.name) (v1 := d.ts) (v2 := d.gs) (v3 := d.ps) (v4 := d.ms) (v5 := d.is) (v6 := d.qs) (v7 := d.bs) ?_)
 unfold w130 expsT
 have hg := hv.small.1
 have key : ∀ {X : Option Flt} (V2 : Mem) (s : ByteArray) (n : Int), V.sub V2 -> X = some (s, -1, n) -> (Ending.returned (.tuple #[.string s, .int .i64 n]) = Ending.returned (f2 X) /\ V.sub V2) := fun V2 s n h2 h => by rw [h]; exact ⟨rfl, h2⟩
 unfold exp1
 generalize hf1 : (fun (_ : Nat) (m : Ms) => if wantT d (inFormS d m.ty) m.x sInt ≠ 0 then some ((m.name, -1, wantT d (inFormS d m.ty) m.x sInt) : Flt) else none) = F1
 refine loop3 d.measures.length (fun k V1 => V.sub V1 /\ firstE F1 0 d.measures = firstE F1 k (d.measures.drop k)) ⟨Mem.sub.refl _, rfl⟩ ?_
 rintro k b c V1 J hi ⟨hV, ha⟩ hJ
 have hd1 := hd.sub hV
 refine ⟨fun hk => ?_, fun hk => ?_⟩
 ·obtain ⟨g, hm, hx, hdr, hl, hp, hz, hrow⟩ := hd1.measures.get hk
  rw [hdr] at ha
  have hq := ptrAdd_ne (n := k * 7) hp
  refine ⟨hp, hz, hk, hq, _, _, _, _, _, _, _, hrow, hp, hz, hk, hq, _, _, _, _, _, _, _, hrow, Tri.mono (refInFormula hd1 hg) ?_⟩
  rintro _ V2 ⟨s', rfl, h12, hsc⟩
  have hrow2 := h12.rowp hrow
  refine ⟨s', false, rfl, rowp_part (j := 3) (m := 4) hrow2 (by decide) (by decide), hq, hp, hz, hk, (c189 (sc := inFormS d g.ty) (e := g.x) (hd1.sub h12) hsc ((hd1.sub h12).measuresOk g hm).x (hv.ms g hm)).call ⟨_, rfl, fun h => ⟨hd1.measures.succ hk, hJ hl _ _ _ ⟨hV.trans h12, ?_⟩⟩, fun h => ⟨hp, hz, hk, hq, _, _, _, _, _, _, _, hrow2, key _ _ _ (hV.trans h12) ?_⟩⟩⟩
  ·rw [ha, firstE_none (by rw [<- hf1]; exact if_neg fun e => e h)]
  ·rw [ha, firstE_some (b := (g.name, -1, wantT d (inFormS d g.ty) g.x sInt)) (by rw [<- hf1]; exact if_pos h)]; rfl
 rw [(hd1.measures.done hk).1, firstE] at ha
 rw [ha, Option.none_or]
 unfold exp2
 generalize hf2 : (fun (_ : Nat) (m : Iv) => if wantT d (inFormS d m.ty) m.x sBool ≠ 0 then some ((m.name, -1, wantT d (inFormS d m.ty) m.x sBool) : Flt) else none) = F2
 refine loop3 d.invs.length (fun k V1 => V.sub V1 /\ firstE F2 0 d.invs = firstE F2 k (d.invs.drop k)) ⟨hV, rfl⟩ ?_
 rintro k b c V1 J hi ⟨hV, ha⟩ hJ
 have hd1 := hd.sub hV
 refine ⟨fun hk => ?_, fun hk => ?_⟩
 ·obtain ⟨g, hm, hx, hdr, hl, hp, hz, hrow⟩ := hd1.invs.get hk
  rw [hdr] at ha
  have hq := ptrAdd_ne (n := k * 6) hp
  refine ⟨hp, hz, hk, hq, _, _, _, _, _, _, hrow, hp, hz, hk, hq, _, _, _, _, _, _, hrow, Tri.mono (refInFormula hd1 hg) ?_⟩
  rintro _ V2 ⟨s', rfl, h12, hsc⟩
  have hrow2 := h12.rowp hrow
  refine ⟨s', false, rfl, rowp_part (j := 2) (m := 4) hrow2 (by decide) (by decide), hq, hp, hz, hk, (c189 (sc := inFormS d g.ty) (e := g.x) (hd1.sub h12) hsc ((hd1.sub h12).invsOk g hm) (hv.is g hm)).call ⟨_, rfl, fun h => ⟨hd1.invs.succ hk, hJ hl _ _ _ ⟨hV.trans h12, ?_⟩⟩, fun h => ⟨hp, hz, hk, hq, _, _, _, _, _, _, hrow2, key _ _ _ (hV.trans h12) ?_⟩⟩⟩
  ·rw [ha, firstE_none (by rw [<- hf2]; exact if_neg fun e => e h)]
  ·rw [ha, firstE_some (b := (g.name, -1, wantT d (inFormS d g.ty) g.x sBool)) (by rw [<- hf2]; exact if_pos h)]; rfl
 rw [(hd1.invs.done hk).1, firstE] at ha
 rw [ha, Option.none_or]
 unfold exp3
 generalize hf3 : (fun (_ : Nat) (m : Po) => if wantT d (inFormS d m.ty) m.x sInt ≠ 0 then some ((sPot, -1, wantT d (inFormS d m.ty) m.x sInt) : Flt) else none) = F3
 refine loop3 d.pots.length (fun k V1 => V.sub V1 /\ firstE F3 0 d.pots = firstE F3 k (d.pots.drop k)) ⟨hV, rfl⟩ ?_
 rintro k b c V1 J hi ⟨hV, ha⟩ hJ
 have hd1 := hd.sub hV
 refine ⟨fun hk => ?_, fun hk => ?_⟩
 ·obtain ⟨g, hm, hx, hdr, hl, hp, hz, hrow⟩ := hd1.pots.get hk
  rw [hdr] at ha
  have hq := ptrAdd_ne (n := k * 5) hp
  refine ⟨hp, hz, hk, hq, _, _, _, _, _, hrow, hp, hz, hk, hq, _, _, _, _, _, hrow, Tri.mono (refInFormula hd1 hg) ?_⟩
  rintro _ V2 ⟨s', rfl, h12, hsc⟩
  have hrow2 := h12.rowp hrow
  refine ⟨s', false, rfl, rowp_part (j := 1) (m := 4) hrow2 (by decide) (by decide), hq, hp, hz, hk, (c189 (sc := inFormS d g.ty) (e := g.x) (hd1.sub h12) hsc ((hd1.sub h12).potsOk g hm) (hv.qs g hm)).call ⟨_, rfl, fun h => ⟨hd1.pots.succ hk, hJ hl _ _ _ ⟨hV.trans h12, ?_⟩⟩, fun h => key _ _ _ (hV.trans h12) ?_⟩⟩
  ·rw [ha, firstE_none (by rw [<- hf3]; exact if_neg fun e => e h)]
  ·rw [ha, firstE_some (b := (sPot, -1, wantT d (inFormS d g.ty) g.x sInt)) (by rw [<- hf3]; exact if_pos h)]; rfl
 rw [(hd1.pots.done hk).1, firstE] at ha
 rw [ha, Option.none_or]
 have hpr := bounds_proc hform
 unfold exp4
 generalize hf4 : (fun (_ : Nat) (m : Bd) => if wantT d (inBoundS d ((prOf d m.proc).getD prD)) m.x sInt ≠ 0 then some ((m.proc, -1, wantT d (inBoundS d ((prOf d m.proc).getD prD)) m.x sInt) : Flt) else none) = F4
 refine loop3 d.bounds.length (fun k V1 => V.sub V1 /\ firstE F4 0 d.bounds = firstE F4 k (d.bounds.drop k)) ⟨hV, rfl⟩ ?_
 rintro k b c V1 J hi ⟨hV, ha⟩ hJ
 have hd1 := hd.sub hV
 refine ⟨fun hk => ?_, fun hk => ?_⟩
 ·obtain ⟨g, hm, hx, hdr, hl, hp, hz, hrow⟩ := hd1.bounds.get hk
  rw [hdr] at ha
  have hq := ptrAdd_ne (n := k * 5) hp
  obtain ⟨p, hpp⟩ := hpr g hm
  rcases idx_cases (fun t : Pr => decide (t.name = g.proc)) d.procs with ⟨i1, i2, i3⟩ | ⟨i, x, i1, i2, i3, i4, i5, i6, i7, _⟩
  ·unfold prOf at hpp; rw [i2] at hpp; cases hpp
  have hxp : prOf d g.proc = some x := i3
  refine ⟨hp, hz, hk, hq, _, _, _, _, _, hrow, (c186 hd1).call ⟨_, rfl, ?_⟩⟩
  rw [i1]
  have hpn := hd1.procs.n_eq
  have hilt : (i : Int) < (d.ps.n : Int) := by omega
  obtain ⟨y, hmy, hxy, hdy, hly, hpy, hzy, hrowy⟩ := hd1.procs.get hilt
  rw [i2] at hxy
  cases hxy
  refine ⟨hpy, hzy, hilt, _, _, _, _, _, hrowy, hp, hz, hk, hq, _, _, _, _, _, hrow, Tri.mono (refInBound hd1 (hd1.procsOk x i6) hg (hv.small.2 x i6)) ?_⟩
  rintro _ V2 ⟨s', rfl, h12, hsc⟩
  have hrow2 := h12.rowp hrow
  have hget : (prOf d g.proc).getD prD = x := by rw [hxp]; rfl
  refine ⟨s', false, rfl, rowp_part (j := 1) (m := 4) hrow2 (by decide) (by decide), hq, hp, hz, hk, (c189 (sc := inBoundS d x) (e := g.x) (hd1.sub h12) hsc ((hd1.sub h12).boundsOk g hm) (hv.bs g hm)).call ⟨_, rfl, fun h => ⟨hd1.bounds.succ hk, hJ hl _ _ _ ⟨hV.trans h12, ?_⟩⟩, fun h => ⟨hp, hz, hk, hq, _, _, _, _, _, hrow2, key _ _ _ (hV.trans h12) ?_⟩⟩⟩
  ·rw [ha, firstE_none (by rw [<- hf4]; exact if_neg fun e => e (by rw [hget]; exact h))]
  ·rw [ha, firstE_some (b := (g.proc, -1, wantT d (inBoundS d x) g.x sInt)) (by rw [<- hf4]; exact (if_pos (by rw [hget]; exact h)).trans (by rw [hget]))]; try rfl
 rw [(hd1.bounds.done hk).1, firstE] at ha
 rw [ha]
 exact ⟨rfl, hV⟩
def f3 (o : Option Flt) : Value := .tuple #[.string (fltR o).1, .int .i64 (fltR o).2.1, .int .i64 (fltR o).2.2]
theorem c79 (hd : Ds.Ok V d) (hv : VParts d) : PP 79 [d.v] V (f3 (chkT d)) := by
 refine x79 (v0 := d.name) (v1 := d.ts) (v2 := d.gs) (v3 := d.ps) (v4 := d.ms) (v5 := d.is) (v6 := d.qs) (v7 := d.bs) ?_
 unfold w79 chkT
 have bad : ∀ {a b : Option Flt}, (∀ r, a = some r -> Bad r) -> ¬ ((fltR a).2.2 = 0) -> (Ending.returned (.tuple #[.string (fltR a).1, .int .i64 (-1), .int .i64 (fltR a).2.2]) = Ending.returned (f3 (a.or b)) /\ V = V) := fun {a b} hb h => by
  cases a with
  | none => exact absurd rfl h
  | some r =>
   have := hb r rfl
   unfold f3 fltR
   simp only [Option.some_or, Option.getD_some]
   rw [this.2]; exact ⟨by first | rfl | trivial, by first | rfl | trivial⟩
 have good : ∀ {a : Option Flt}, (∀ r, a = some r -> Bad r) -> (fltR a).2.2 = 0 -> a = none := fun {a} hb h => by
  cases a with
  | none => rfl
  | some r => exact absurd h (hb r rfl).1
 refine (c126 hd).call ⟨_, _, rfl, fun h => ?_, fun h => bad (types_bad d) h⟩
 rw [good (types_bad d) h, Option.none_or]
 refine (c127 hd hv.small).call ⟨_, _, rfl, fun h => ?_, fun h => bad (heads_bad d) h⟩
 rw [good (heads_bad d) h, Option.none_or]
 refine (c128 hd).call ⟨_, _, rfl, fun h => ?_, fun h => bad (form_bad d) h⟩
 have hform := good (form_bad d) h
 rw [hform, Option.none_or]
 unfold bodiesT
 generalize hf1 : (fun (_ : Nat) (p : Pr) => if (stsT d (inProcS d p) p.result 0 p.body).2 ≠ 0 then some ((p.name, (stsT d (inProcS d p) p.result 0 p.body).1, (stsT d (inProcS d p) p.result 0 p.body).2) : Flt) else none) = F1
 refine loop4s (mk := .string) (mc := .int .i64) (md := .int .i64) (strB []) 0 0 inj_i d.procs.length (fun k _ V1 => V = V1 /\ firstE F1 0 d.procs = firstE F1 k (d.procs.drop k)) ⟨rfl, rfl⟩ ?_
 rintro k b c c' V1 J hi ⟨rfl, ha⟩ hJ
 refine ⟨fun hk => ?_, fun hk => ?_⟩
 ·obtain ⟨g, hm, hx, hdr, hl, hp, hz, hrow⟩ := hd.procs.get hk
  rw [hdr] at ha
  have hq := ptrAdd_ne (n := k * 5) hp
  have hgo := hd.procsOk g hm
  obtain ⟨hs1, hs2⟩ := hv.ps g hm
  refine ⟨hp, hz, hk, _, _, _, _, _, hrow, hp, hz, hk, hq, _, _, _, _, _, hrow, (refStmts hd hgo hv.small.1 (hv.small.2 g hm) g.body g.bs 0 1 hgo.body hgo.stmts hs1 (by omega) (by omega)).call ⟨_, _, rfl, fun h => ⟨hd.procs.succ hk, hJ hl _ _ _ _ ⟨rfl, ?_⟩⟩, fun h => ⟨hp, hz, hk, hq, _, _, _, _, _, hrow, ?_⟩⟩⟩
  ·rw [ha, firstE_none (by rw [<- hf1]; exact if_neg fun e => e h)]
  ·rw [ha, firstE_some (b := (g.name, (stsT d (inProcS d g) g.result 0 g.body).1, (stsT d (inProcS d g) g.result 0 g.body).2)) (by rw [<- hf1]; exact if_pos h)]
   exact ⟨rfl, rfl⟩
 rw [(hd.procs.done hk).1, firstE] at ha
 rw [ha, Option.none_or]
 refine (c130 hd hv hform).call ⟨_, _, rfl, fun h => ?_, fun h => ?_⟩
 ·rw [good (exps_bad d) h]; exact ⟨rfl, rfl⟩
 ·have := bad (b := none) (exps_bad d) h
  rw [Option.or_none] at this
  exact this
def wellT (d : Ds) : Bool := validD d && decide ((fltR (chkT d)).2.2 = 0)
theorem c45 (hd : Ds.Ok V d) : PP 45 [d.v] V (.bool (wellT d)) := by
 refine x45 (v0 := d.name) (v1 := d.ts) (v2 := d.gs) (v3 := d.ps) (v4 := d.ms) (v5 := d.is) (v6 := d.qs) (v7 := d.bs) ?_
 unfold w45 wellT
 refine (c44 hd).call ⟨_, rfl, fun h => (c79 hd (vparts h)).call ⟨_, _, _, rfl, ?_⟩, fun h => ?_⟩
 ·rw [h]; exact ⟨rfl, rfl⟩
 ·rw [eq_false_of_ne_true h]; exact ⟨rfl, rfl⟩
end
structure ChkAt (V : Mem) (c : Option Addr) (d : Ds) : Prop where
 at_ : ∃ cb mt mp t, c = some ⟨cb, 0, none⟩ /\ V cb = some (.cells (d.row ++ [Value.map (some mt), Value.map (some mp)]).toArray t (0, 0)) /\ MapAt V mt (fun k => (tyOf d k).map Ty.v) /\ MapAt V mp (fun k => (prOf d k).map Pr.v)
 ok : Ds.Ok V d
theorem ChkAt.sub {V V' : Mem} {c : Option Addr} {d : Ds} (h : ChkAt V c d) (hs : V.sub V') : ChkAt V' c d := by
 obtain ⟨cb, mt, mp, t, h1, h2, h3, h4⟩ := h.at_
 exact ⟨⟨cb, mt, mp, t, h1, hs _ _ h2, h3.sub hs, h4.sub hs⟩, h.ok.sub hs⟩
theorem ChkAt.nn {V : Mem} {c : Option Addr} {d : Ds} (h : ChkAt V c d) : ¬ (c = none) := by
 obtain ⟨cb, mt, mp, t, h1, h2, h3, h4⟩ := h.at_
 rw [h1]; simp
theorem ChkAt.cell {V : Mem} {c : Option Addr} {d : Ds} (h : ChkAt V c d) {i : Nat} {v : Value} (hv : (d.row)[i]? = some v) : V.rowp c (i * 1) 1 = some [v] := by
 obtain ⟨cb, mt, mp, t, h1, h2, h3, h4⟩ := h.at_
 rw [h1, Nat.mul_one]
 have hi := (List.getElem?_eq_some_iff.1 hv).1
 have h8 : d.row.length = 8 := rfl
 rw [row_cells h2 i 1 (by simp; omega)]
 have : (d.row ++ [Value.map (some mt), Value.map (some mp)])[i]? = some v := by rw [List.getElem?_append_left hi]; exact hv
 have hl : i < (d.row ++ [Value.map (some mt), Value.map (some mp)]).length := by rw [List.length_append]; omega
 show some (((d.row ++ [Value.map (some mt), Value.map (some mp)]).drop i).take 1) = _
 rw [List.drop_eq_getElem_cons hl, (List.getElem?_eq_some_iff.1 this).2]
 rfl
theorem ChkAt.types {V : Mem} {c : Option Addr} {d : Ds} (h : ChkAt V c d) : ∃ mt, V.rowp c 8 1 = some [.map (some mt)] /\ MapAt V mt (fun k => (tyOf d k).map Ty.v) := by
 obtain ⟨cb, mt, mp, t, h1, h2, h3, h4⟩ := h.at_
 exact ⟨mt, by rw [h1, row_cells h2 8 1 (by simp [Ds.row])]; rfl, h3⟩
theorem ChkAt.procs {V : Mem} {c : Option Addr} {d : Ds} (h : ChkAt V c d) : ∃ mt, V.rowp c 9 1 = some [.map (some mt)] /\ MapAt V mt (fun k => (prOf d k).map Pr.v) := by
 obtain ⟨cb, mt, mp, t, h1, h2, h3, h4⟩ := h.at_
 exact ⟨mp, by rw [h1, row_cells h2 9 1 (by simp [Ds.row])]; rfl, h4⟩
def varOf (l : List Fld) (k : ByteArray) : Option ByteArray := (l.find? fun f => decide (f.name = k)).map (·.ty)
theorem varOf_look (l : List Fld) (k : ByteArray) : lookF l k = (varOf l k).getD sE := by
 induction l with
 | nil => rfl
 | cons f l ih =>
  unfold varOf lookF
  rw [List.find?_cons]
  by_cases h : f.name = k
  ·rw [if_pos h, decide_eq_true h]; rfl
  ·rw [if_neg h, decide_eq_false h]; exact ih
def NE (l : List Fld) : Prop := ∀ f ∈ l, f.ty ≠ sE
theorem NE.some {l : List Fld} (h : NE l) {k t : ByteArray} (hv : varOf l k = some t) : t ≠ sE := by
 unfold varOf at hv
 obtain ⟨f, hf, rfl⟩ := Option.map_eq_some_iff.1 hv
 exact h f (List.mem_of_find?_eq_some hf)
structure ScpAt (V : Mem) (m : Option Nat) (sc : Sc) : Prop where
 at_ : ∃ mb, m = some mb /\ MapAt V mb (fun k => (varOf sc.vars k).map Value.string)
 ne : NE sc.vars
theorem ScpAt.sub {V V' : Mem} {m : Option Nat} {sc : Sc} (h : ScpAt V m sc) (hs : V.sub V') : ScpAt V' m sc := by
 obtain ⟨mb, h1, h2⟩ := h.at_
 exact ⟨⟨mb, h1, h2.sub hs⟩, h.ne⟩
def sV (c : Option Addr) (m : Option Nat) (sc : Sc) : Value := .agg #[.pointer c, .map m, .bool sc.body]
structure VNe (d : Ds) : Prop where
 types : ∀ t ∈ d.types, NE t.fields
 globals : NE d.globals
 params : ∀ p ∈ d.procs, NE p.params /\ NE p.locals
theorem typB_ne {s : ByteArray} (h : typB s = true) : s ≠ sE := by
 intro e
 subst e
 have : typB sE = false := by
  unfold typB isName
  have h1 : ¬ (sE = sInt) := by decide
  have h2 : ¬ (sE = sBool) := by decide
  rw [decide_eq_false h1, decide_eq_false h2, decide_eq_false (fun h => h.1 rfl)]
  rfl
 rw [this] at h; cases h
theorem flds_ne {l : List Fld} {n : Int} (h : fldsB l n = true) : NE l := fun f hf => by
 unfold fldsB at h
 rw [Bool.and_eq_true] at h
 have := List.all_eq_true.1 h.2 f hf
 unfold fldB at this
 rw [Bool.and_eq_true] at this
 exact typB_ne this.2
theorem vne {d : Ds} (h : validD d = true) : VNe d := by
 unfold validD at h
 simp only [Bool.and_eq_true, decide_eq_true_eq, List.all_eq_true] at h
 obtain ⟨⟨⟨⟨⟨⟨⟨-, -⟩, hg⟩, -⟩, -⟩, ht⟩, hp⟩, -⟩ := h
 refine ⟨fun t htt => ?_, flds_ne hg, fun p hpp => ?_⟩
 ·have := ht t htt
  unfold tyB at this
  rw [Bool.and_eq_true] at this
  exact flds_ne this.2
 ·have := hp p hpp
  unfold prB at this
  simp only [Bool.and_eq_true] at this
  exact ⟨flds_ne this.1.1.1.2, flds_ne this.1.1.2⟩
theorem zero101 (w : World) : (zeroValue 101).run Tryz.prog w = .ok (.agg #[.string ByteArray.empty, .slice none 0 0]) w := by kernel_rfl
theorem zero146 (w : World) : (zeroValue 146).run Tryz.prog w = .ok (.agg #[.string ByteArray.empty, .slice none 0 0, .string ByteArray.empty, .slice none 0 0, .slice none 0 0]) w := by kernel_rfl
theorem zero9 (w : World) : (zeroValue 9).run Tryz.prog w = .ok (.string ByteArray.empty) w := by kernel_rfl
theorem tyOf_node (d : Ds) (s : ByteArray) : (tyOf d s).isSome = isNode d s := by
 unfold tyOf isNode
 rcases idx_cases (fun t : Ty => decide (t.name = s)) d.types with ⟨h1, h2, h3⟩ | ⟨i, x, h1, h2, h3, h4, h5, h6, h7, _⟩
 ·rw [h2, h3]; rfl
 ·rw [h3, h7]; rfl
theorem tyOf_mem {d : Ds} {s : ByteArray} {t : Ty} (h : tyOf d s = some t) : t ∈ d.types := List.mem_of_find?_eq_some h
theorem prOf_mem {d : Ds} {s : ByteArray} {t : Pr} (h : prOf d s = some t) : t ∈ d.procs := List.mem_of_find?_eq_some h
section
variable {V : Mem} {d : Ds} {c : Option Addr} {m : Option Nat} {sc : Sc}
theorem c88 (h : ChkAt V c d) {s : ByteArray} : PP 88 [.pointer c, .string s] V (.bool (isNode d s)) := by
 refine x88 ?_
 unfold w88
 obtain ⟨mt, h1, h2⟩ := h.types
 refine ⟨h.nn, h.nn, _, h1, LookK.str Tryz.underlying207 Tryz.underlying9 zero101 h2 ?_⟩
 rw [<- tyOf_node]
 cases ht : tyOf d s with
 | none => exact ⟨_, ⟨none, 0, 0⟩, _, rfl, rfl, rfl⟩
 | some t => exact ⟨_, t.fs, _, rfl, rfl, rfl⟩
theorem c220 (h : ChkAt V c d) {s : ByteArray} : PP 220 [.pointer c, .string s] V (.bool (known d s)) := by
 refine x220 ?_
 unfold w220
 refine ⟨fun h1 => ?_, fun h1 => ⟨fun h2 => ?_, fun h2 => (c88 h).call ⟨_, rfl, ?_⟩⟩⟩ <;> simp [known, sInt, sBool, *]
theorem c194 (h : ChkAt V c d) {s t : ByteArray} : PP 194 [.pointer c, .string s, .string t] V (.bool (fits d s t)) := by
 refine x194 ?_
 unfold w194 fits sNil
 refine ⟨fun h1 => ?_, fun h1 => ⟨fun h2 => (c88 h).call ⟨_, rfl, ?_⟩, fun h2 => ?_⟩⟩
 ·rw [decide_eq_true h1]; exact ⟨rfl, rfl⟩
 ·rw [decide_eq_false h1, decide_eq_true h2]; exact ⟨rfl, rfl⟩
 ·rw [decide_eq_false h1, decide_eq_false h2]; exact ⟨rfl, rfl⟩
theorem c198 (h : ChkAt V c d) (hv : VNe d) {s t : ByteArray} : PP 198 [.pointer c, .string s, .string t] V (.tuple #[.string (fieldT d s t).1, .int .i64 (fieldT d s t).2]) := by
 refine x198 ?_
 unfold w198
 obtain ⟨mt, h1, h2⟩ := h.types
 refine ⟨h.nn, h.nn, _, h1, LookK.str Tryz.underlying207 Tryz.underlying9 zero101 h2 ?_⟩
 unfold fieldT
 cases ht : tyOf d s with
 | none => exact ⟨_, ⟨none, 0, 0⟩, _, rfl, fun h => absurd h (by simp), fun _ => ⟨rfl, rfl⟩⟩
 | some ty =>
  refine ⟨_, ty.fs, _, rfl, fun _ => ?_, fun h => absurd rfl h⟩
  have hr := (h.ok.typesOk ty (tyOf_mem ht)).fields
  have hne := hv.types ty (tyOf_mem ht)
  simp only
  refine loop3 ty.fields.length (fun i V1 => V = V1 /\ lookF ty.fields t = lookF (ty.fields.drop i) t) ⟨rfl, rfl⟩ ?_
  rintro i b c V1 J hi ⟨rfl, ha⟩ hJ
  refine ⟨fun hlt => ?_, fun hge => ?_⟩
  ·obtain ⟨x, hm, hx, hdr, hl, hp, hz, hrow⟩ := hr.get hlt
   rw [hdr, lookF] at ha
   refine ⟨hp, hz, hlt, _, _, hrow, fun he => ?_, fun he => ⟨hr.succ hlt, hJ hl _ _ _ ⟨rfl, ?_⟩⟩⟩
   ·rw [if_pos he] at ha
    rw [ha, if_neg (hne x hm)]; exact ⟨rfl, rfl⟩
   ·rw [ha, if_neg he]
  ·rw [(hr.done hge).1, lookF] at ha
   rw [ha, if_pos rfl]; exact ⟨rfl, rfl⟩
theorem c239 {b : Nat} {s : ByteArray} {t : Nat} (hb : V b = some (cell (.string s) t)) {x : Ms} : PP 239 [x.v, .pointer (some ⟨b, 0, none⟩)] V (.bool (decide (x.name = s))) := by
 refine x239 (v0 := x.name) (v1 := x.ty) (v2 := x.nil) (v3 := x.x.op) (v4 := x.x.n) (v5 := x.x.s) (v6 := x.x.l) ?_
 unfold w239
 exact ⟨_, row1 hb, rfl, rfl⟩
theorem idxMs {l : Sl} {xs : List Ms} {g : Nat} {first caps : List Value} (h : RowsAt V l 7 (xs.map Ms.row)) (hg : CallOk g) (p : Ms -> Bool) (hp : ∀ x ∈ xs, PP g (first ++ [x.v] ++ caps) V (.bool (p x))) :
  PP 70 [l.v, .func (.func g) first.toArray caps.toArray] V (.int .i64 (idxI p xs)) := by
 refine Tri.mono (g70 hg (fun i V1 => V = V1 /\ AllTo (fun y => !p y) xs i) (fun i V1 => V = V1 /\ ∃ x, xs[i]? = some x /\ p x = true /\ AllTo (fun y => !p y) xs i) (fun i V1 hs => hs.1 ▸ h) ⟨rfl, AllTo.zero _ _⟩ ?_) ?_
 ·rintro i x V1 hx ⟨rfl, hs⟩
  have hm : x ∈ xs := List.mem_of_getElem? hx
  exact (hp x hm).callv ⟨_, rfl, fun hb => ⟨rfl, x, hx, hb, hs⟩, fun hb => ⟨rfl, notAll_succ hs hx hb⟩⟩
 ·rintro e V' (⟨i, rfl, rfl, x, hx, hb, hs⟩ | ⟨rfl, rfl, hs⟩)
  ·rw [idxI_found hs hx hb]; exact ⟨rfl, rfl⟩
  ·rw [idxI_none hs (Nat.le_refl _)]; exact ⟨rfl, rfl⟩
theorem c193 (h : ChkAt V c d) {s : ByteArray} {l : Sl} {xs : List ByteArray} (hl : RowsAt V l 1 (xs.map strRow1)) : PP 193 [sV c m sc, .string s, l.v] V (.tuple #[.string (measT d s xs).1, .int .i64 (measT d s xs).2]) := by
 refine Pur.mk (x193 (v0 := c) (v1 := m) (v2 := sc.body) (v4 := l) ?_)
 unfold w193
 refine ⟨h.nn, h.nn, ptrAdd_ne h.nn, d.ms, h.cell (i := 4) rfl, fun b hb => ?_⟩
 have hs := Mem.sub_new hb (cell (.string s) 9)
 have h1 := h.sub hs
 have hl1 := hl.sub hs
 refine (idxMs (l := d.ms) (first := []) (caps := [.pointer (some ⟨b, 0, none⟩)]) h1.ok.measures Tryz.call239 (fun t => decide (t.name = s)) (fun x _ => c239 (Mem.set_same _ _ _))).call ⟨_, rfl, ?_⟩
 unfold measT meOf
 have key : ∀ {X : ByteArray × Int} (a : ByteArray) (n : Int), X = (a, n) -> (Ending.returned (.tuple #[.string a, .int .i64 n]) = Ending.returned (.tuple #[.string X.1, .int .i64 X.2]) /\ V.sub (V.set b (cell (.string s) 9))) := fun a n h => by rw [h]; exact ⟨rfl, hs⟩
 rcases idx_cases (fun t : Ms => decide (t.name = s)) d.measures with ⟨h1, h2, h3⟩ | ⟨i, x, i1, i2, i3, i4, i5, i6, i7, _⟩
 ·rw [h1, h2]; exact ⟨fun _ => key _ _ rfl, fun h => absurd h (by decide)⟩
 ·rw [i1, i3]
  have hn := h1.ok.measures.n_eq
  have hlt : (i : Int) < (d.ms.n : Int) := by omega
  obtain ⟨y, hm, hx, hdr, hll, hp, hz, hrow⟩ := h1.ok.measures.get hlt
  rw [i2] at hx
  cases hx
  have e1 := hl1.n_eq
  refine ⟨fun h => absurd h (by omega), fun _ => ⟨fun he => ?_, fun he => key _ _ (if_pos (by omega))⟩⟩
  obtain ⟨a1, a2, a3⟩ := str_at hl1 (i := 0) (by omega)
  have e2 : ¬ (xs.length ≠ 1) := by omega
  refine ⟨a1, by omega, by omega, _, a3, h.nn, h.nn, ptrAdd_ne h.nn, d.ms, h1.cell (i := 4) rfl, hp, hz, hlt, ptrAdd_ne hp, _, _, _, _, _, _, _, hrow, (c194 h1).call ⟨_, rfl, fun hf => key _ _ ?_, fun hf => key _ _ ?_⟩⟩
  ·simp only [e2, if_false]; unfold needT; rw [if_pos hf]; rfl
  ·simp only [e2, if_false]; unfold needT; rw [if_neg hf]; rfl
theorem c197 {b : Nat} {s : ByteArray} {t : Nat} (hb : V b = some (cell (.string s) t)) {x : ByteArray} : PP 197 [strV x, .pointer (some ⟨b, 0, none⟩)] V (.bool (!decide (x = s))) := by
 refine x197 ?_
 unfold w197
 exact ⟨_, row1 hb, rfl, rfl⟩
theorem c195 {b t : Nat} {l : Sl} {xs : List ByteArray} (hb : V b = some (cell (.slice l.p l.n l.c) t)) (hl : RowsAt V l 1 (xs.map strRow1)) {s r : ByteArray} :
  PP 195 [.string s, .string r, .pointer (some ⟨b, 0, none⟩)] V (.tuple #[.string (needT (allT xs s) r).1, .int .i64 (needT (allT xs s) r).2]) := by
 refine Pur.mk (x195 ?_)
 unfold w195
 refine ⟨l, row1 hb, fun b1 hb1 => ?_⟩
 have hs := Mem.sub_new hb1 (cell (.string s) 9)
 refine (c196 (l := l) (first := []) (caps := [.pointer (some ⟨b1, 0, none⟩)]) (hl.sub hs) Tryz.call197 (fun x => !decide (x = s)) (fun x _ => c197 (Mem.set_same _ _ _))).call ⟨_, rfl, fun h => ?_, fun h => ?_⟩
 ·rw [List.any_eq_not_all_not] at h
  have : allT xs s = false := by unfold allT; simpa using h
  rw [this]; exact ⟨rfl, hs⟩
 ·rw [List.any_eq_not_all_not] at h
  have : allT xs s = true := by unfold allT; simpa using h
  rw [this]; exact ⟨rfl, hs⟩
end
theorem fits_first {d : Ds} {a b : ByteArray} (h : fits d a b = true) : (if a = sNil then b else a) = b := by
 unfold fits at h
 split
 ·rfl
 ·rename_i hn
  rw [decide_eq_false hn, Bool.false_and, Bool.or_false] at h
  exact of_decide_eq_true h
theorem fits_second {d : Ds} {a b : ByteArray} (h : ¬ fits d a b = true) (h2 : fits d b a = true) : (if a = sNil then b else a) = a := by
 split
 ·rename_i hn
  unfold fits at h h2
  by_cases e : b = a
  ·exact e
  ·rw [decide_eq_false e, Bool.false_or, Bool.and_eq_true] at h2
   exact absurd (by rw [hn, of_decide_eq_true h2.1]; simp) h
 ·rfl
def callRaw (d : Ds) (sc : Sc) (s : ByteArray) (l : List ByteArray) : ByteArray × Int := if sc.body = true then callT d s l else measT d s l
theorem measT_ne {d : Ds} {s : ByteArray} {l : List ByteArray} (h : (measT d s l).2 = 0) : (measT d s l).1 ≠ sE := by
 unfold measT at h ⊢
 split at h
 ·exact absurd h (by decide)
 ·split at h
  ·exact absurd h (by decide)
  ·rename_i h'
   simp only [if_neg h']
   unfold needT at h ⊢
   split at h
   ·rename_i h2; rw [if_pos h2]; simp only; decide
   ·exact absurd h (by decide)
theorem callE_raw (d : Ds) (sc : Sc) (s : ByteArray) (l : List ByteArray) : callE d sc s l = if (callRaw d sc s l).2 = 0 /\ (callRaw d sc s l).1 = sE then (sE, 11) else callRaw d sc s l := by
 unfold callE callRaw
 by_cases hb : sc.body = true
 ·simp only [if_pos hb]
 ·simp only [if_neg hb]
  split
  ·rename_i h; exact absurd h.2 (measT_ne h.1)
  ·rfl
section
variable {V : Mem} {d : Ds} {c : Option Addr} {m : Option Nat} {sc : Sc}
def ImpE (V : Mem) (d : Ds) (c : Option Addr) (m : Option Nat) (sc : Sc) (e : E) : Prop := ∀ V1, V.sub V1 -> PP 90 [sV c m sc, e.v] V1 (.tuple #[.string (exprT d sc e).1, .int .i64 (exprT d sc e).2])
def rawT (d : Ds) (sc : Sc) (e : E) : ByteArray × Int := if (partsT d sc [] e.k).2 ≠ 0 then (sE, (partsT d sc [] e.k).2) else callRaw d sc e.s (partsT d sc [] e.k).1
theorem impCall (h : ChkAt V c d) (e : E) (he : E.Ok V e) (hlen : (e.k.length : Int) <= 6) (hk : ∀ x ∈ e.k, ImpE V d c m sc x) :
  PP 139 [sV c m sc, e.v] V (.tuple #[.string (rawT d sc e).1, .int .i64 (rawT d sc e).2]) := by
 have hr := he.rows
 refine Pur.mk (x139 (v0 := c) (v1 := m) (v2 := sc.body) (v3 := e.op) (v4 := e.n) (v5 := e.s) (v6 := e.l) ?_)
 unfold w139 rawT
 refine loop4s (mk := .string) (mc := .int .i64) (md := fun s : Sl => .slice s.p s.n s.c) (strB []) 0 ⟨none, 0, 0⟩ inj_sl e.k.length (fun i s V1 => ∃ acc, Own V V1 9 1 s (acc.flatMap strRow1) /\ partsT d sc [] e.k = partsT d sc acc (e.k.drop i) /\ acc.length = i) ⟨[], Own.nil (Mem.sub.refl _) _ _, rfl, rfl⟩ ?_
 rintro i b b' s V1 J hi ⟨acc, hown, hp, hlen'⟩ hJ
 have hr1 := hr.sub hown.sub
 refine ⟨fun hlt => ?_, fun hge => ?_⟩
 ·obtain ⟨x, hm, hx, hdr, hl, hpp, hz, hrow⟩ := hr1.get hlt
  rw [hdr, partsT_cons] at hp
  refine ⟨hpp, hz, hlt, _, _, _, _, hrow, (hk x hm V1 hown.sub).call ⟨_, _, rfl, fun h0 => ?_, fun h0 => ?_⟩⟩
  ·intro b1 hb1
   rw [if_neg (fun h => h h0)] at hp
   refine app174 (s := s) (u := ⟨some ⟨b1, 0, none⟩, 1, 1⟩) (xs := acc) (ys := [(exprT d sc x).1]) rfl rfl (hown.new hb1 _) (one_row (Mem.set_same _ _ _)) (by simp; omega) fun s' V' ho => ⟨s', rfl, hr1.succ hlt, hJ hl _ _ _ _ ⟨_, ho, hp, by simp [hlen']⟩⟩
  ·rw [if_pos h0] at hp
   rw [hp]
   simp only [ne_eq, h0, not_false_eq_true, if_true]
   exact ⟨by trivial, hown.sub⟩
 ·rw [(hr1.done hge).1, partsT_nil] at hp
  rw [hp]
  simp only [ne_eq, not_true_eq_false, if_false]
  have hrows := ownS hown
  have h1 := h.sub hown.sub
  have key : ∀ {X : ByteArray × Int} (a : ByteArray) (n : Int), X = (a, n) -> (Ending.returned (.tuple #[.string a, .int .i64 n]) = Ending.returned (.tuple #[.string X.1, .int .i64 X.2]) /\ V.sub V1) := fun a n h => by rw [h]; exact ⟨rfl, hown.sub⟩
  unfold callRaw
  refine ⟨fun hb => ?_, fun hb => ?_⟩
  ·rw [if_pos hb]
   obtain ⟨mt, q1, q2⟩ := h1.procs
   refine ⟨h.nn, h.nn, _, q1, LookK.str Tryz.underlying208 Tryz.underlying9 zero146 q2 ?_⟩
   unfold callT
   cases hpr : prOf d e.s with
   | none => exact ⟨_, ⟨none, 0, 0⟩, _, ⟨none, 0, 0⟩, ⟨none, 0, 0⟩, _, rfl, fun h => absurd h (by simp), fun _ => key _ _ rfl⟩
   | some p =>
    have hox := h1.ok.procsOk p (prOf_mem hpr)
    have e1 := hrows.n_eq
    have e2 := hox.params.n_eq
    refine ⟨_, p.ps, _, p.ls, p.bs, _, rfl, fun _ => ⟨fun he => ?_, fun he => key _ _ (if_pos (by omega))⟩, fun h => absurd rfl h⟩
    have hle : acc.length = p.params.length := by omega
    simp only [hle, ne_eq, not_true_eq_false, if_false]
    refine loop3 acc.length (fun i V2 => V1 = V2 /\ fitAll d acc p.params = fitAll d (acc.drop i) (p.params.drop i)) ⟨rfl, rfl⟩ ?_
    rintro j b c' V2 J hi ⟨rfl, ha⟩ hJ
    refine ⟨fun hlt => ?_, fun hge => ?_⟩
    ·obtain ⟨y, hm', hx', hdr', hl', hp', hz', hrow'⟩ := hrows.get hlt
     obtain ⟨f, hmf, hxf, hdf, hlf, hpf, hzf, hrowf⟩ := hox.params.get (i := j) (by omega)
     rw [hdr', hdf, fitAll] at ha
     refine ⟨hp', hz', hlt, _, hrow', hpf, hzf, by omega, ptrAdd_ne hpf, _, _, hrowf, (c194 h1).call ⟨_, rfl, fun hb => ⟨hrows.succ hlt, hJ hl' _ _ _ ⟨rfl, ?_⟩⟩, fun hb => key _ _ ?_⟩⟩
     ·rw [ha, hb, Bool.true_and]
     ·rw [eq_false_of_ne_true hb, Bool.false_and] at ha; rw [ha]; rfl
    ·rw [(hrows.done hge).1, fitAll_nil] at ha
     exact key _ _ (by rw [ha]; rfl)
  ·rw [if_neg hb]
   exact (c193 h1 hrows).call ⟨_, _, rfl, key _ _ rfl⟩
theorem impNode (h : ChkAt V c d) (hv : VNe d) (hs : ScpAt V m sc) {e : E} {l : Sl} {xs : List ByteArray} (hl : RowsAt V l 1 (xs.map strRow1)) (hlen : xs.length = e.k.length) (hok : nodeB e.op e.n e.s e.k.length = true) (h7 : e.op ≠ 7) :
  PP 140 [sV c m sc, e.v, l.v] V (.tuple #[.string (nodeT d sc e.op e.s xs).1, .int .i64 (nodeT d sc e.op e.s xs).2]) := by
 have har := arity hok
 refine Pur.mk (x140 (v0 := c) (v1 := m) (v2 := sc.body) (v3 := e.op) (v4 := e.n) (v5 := e.s) (v6 := e.l) (v7 := l) ?_)
 unfold w140
 generalize hX : nodeT d sc e.op e.s xs = X
 have key : ∀ {V1 : Mem} (a : ByteArray) (n : Int), V.sub V1 -> X = (a, n) -> (Ending.returned (.tuple #[.string a, .int .i64 n]) = Ending.returned (.tuple #[.string X.1, .int .i64 X.2]) /\ V.sub V1) := fun a n h1 h => by rw [h]; exact ⟨rfl, h1⟩
 have rf := Mem.sub.refl V
 have cFits := fun a b => c194 h (s := a) (t := b)
 have at0 := fun h : 0 < xs.length => str_at hl h
 have at1 := fun h : 1 < xs.length => str_at hl h
 have at2 := fun h : 2 < xs.length => str_at hl h
 have call : ∀ (s r : ByteArray), X = needT (allT xs s) r -> PubT [(.slice l.p l.n l.c)] 174 V fun v8 V1 =>
   Tri Tryz.prog 195 #[(.string s), (.string r), (.pointer (ptrAdd v8 0))] V1 fun z V2 => ∃ v9 : ByteArray, ∃ v10 : Int, z = .returned (.tuple #[(.string v9), (.int .i64 v10)]) /\ (Ending.returned (.tuple #[(.string v9), (.int .i64 v10)]) = Ending.returned (.tuple #[.string X.1, .int .i64 X.2]) /\ V.sub V2) := fun s r hx b hb => by
  have h1 := Mem.sub_new hb (cell (.slice l.p l.n l.c) 174)
  exact (c195 (l := l) (Mem.set_same _ _ _) (hl.sub h1)).call ⟨_, _, rfl, key _ _ h1 (by rw [hx])⟩
 unfold nodeT at hX
 refine ⟨fun o1 => key _ _ rf ?_, fun o1 => ⟨fun o2 => key _ _ rf ?_, fun o2 => ⟨fun o3 => key _ _ rf ?_, fun o3 => ⟨fun o4 => ?_, fun o4 => ⟨fun o5 => ?_, fun o5 => ⟨fun o6 => ?_, fun o6 => ⟨fun o14 => ?_, fun o14 => ⟨fun o15 => ?_, fun o15 => ⟨fun o16 => call _ _ ?_, fun o16 => ⟨fun o17 => call _ _ ?_, fun o17 => ⟨fun o18 => call _ _ ?_, fun o18 => ⟨fun o19 => call _ _ ?_, fun o19 => ⟨fun o20 => call _ _ ?_, fun o20 => ⟨fun o21 => ?_, fun o21 => call _ _ ?_⟩⟩⟩⟩⟩⟩⟩⟩⟩⟩⟩⟩⟩⟩
 ·rw [<- hX, if_pos o1]; rfl
 ·rw [<- hX, if_neg o1, if_pos o2]; rfl
 ·rw [<- hX, if_neg o1, if_neg o2, if_pos o3]; rfl
 ·rw [if_neg o1, if_neg o2, if_neg o3, if_pos o4, varOf_look] at hX
  obtain ⟨mb, rfl, hmap⟩ := hs.at_
  refine LookK.str Tryz.underlying163 Tryz.underlying9 zero9 hmap ?_
  cases hvv : varOf sc.vars e.s with
  | none =>
   rw [hvv, Option.getD_none] at hX
   exact ⟨_, _, rfl, fun h => absurd h (by simp), fun _ => key _ _ rf (by rw [<- hX, if_pos rfl]; rfl)⟩
  | some t =>
   rw [hvv, Option.getD_some] at hX
   exact ⟨t, _, rfl, fun _ => key _ _ rf (by rw [<- hX, if_neg (hs.ne.some hvv)]), fun h => absurd rfl h⟩
 ·rw [if_neg o1, if_neg o2, if_neg o3, if_neg o4, if_pos o5] at hX
  obtain ⟨a1, a2, a3⟩ := at0 (by have := har.1 o5; omega)
  exact ⟨a1, by omega, a2, _, a3, (c198 h hv).call ⟨_, _, rfl, key _ _ rf (by rw [<- hX])⟩⟩
 ·rw [if_neg o1, if_neg o2, if_neg o3, if_neg o4, if_neg o5, if_pos o6] at hX
  refine ⟨fun hb => (c88 h).call ⟨_, rfl, fun hn => key _ _ rf ?_, fun hn => key _ _ rf ?_⟩, fun hb => key _ _ rf ?_⟩
  ·rw [<- hX, if_neg (by rw [hb]; simp), if_neg (by rw [hn]; simp)]
  ·rw [<- hX, if_neg (by rw [hb]; simp), if_pos (eq_false_of_ne_true hn)]; rfl
  ·rw [<- hX, if_pos (eq_false_of_ne_true hb)]; rfl
 iterate 2
  ·rw [if_neg o1, if_neg o2, if_neg o3, if_neg o4, if_neg o5, if_neg o6, if_neg h7, if_pos (by omega)] at hX
   obtain ⟨a1, a2, a3⟩ := at0 (by have := har.2.1 (by omega); omega)
   obtain ⟨b1, b2, b3⟩ := at1 (by have := har.2.1 (by omega); omega)
   refine ⟨a1, by omega, a2, _, a3, b1, by omega, b2, _, b3, (cFits _ _).call ⟨_, rfl, fun h => key _ _ rf ?_, fun h => ⟨b1, by omega, b2, _, b3, a1, by omega, a2, _, a3, (cFits _ _).call ⟨_, rfl, fun h2 => key _ _ rf ?_, fun h2 => key _ _ rf ?_⟩⟩⟩⟩
   ·rw [<- hX, h]; rfl
   ·rw [<- hX, h2, Bool.or_true]; rfl
   ·rw [<- hX, eq_false_of_ne_true h, eq_false_of_ne_true h2]; rfl
 iterate 2
  ·rw [if_neg o1, if_neg o2, if_neg o3, if_neg o4, if_neg o5, if_neg o6, if_neg h7, if_neg (by omega), if_pos (by omega)] at hX
   exact hX.symm
 iterate 3
  ·rw [if_neg o1, if_neg o2, if_neg o3, if_neg o4, if_neg o5, if_neg o6, if_neg h7, if_neg (by omega), if_neg (by omega), if_pos (by omega)] at hX
   exact hX.symm
 ·rw [if_neg o1, if_neg o2, if_neg o3, if_neg o4, if_neg o5, if_neg o6, if_neg h7, if_neg (by omega), if_neg (by omega), if_neg (by omega), if_pos o21] at hX
  obtain ⟨a1, a2, a3⟩ := at0 (by have := har.2.2.1 o21; omega)
  obtain ⟨b1, b2, b3⟩ := at1 (by have := har.2.2.1 o21; omega)
  obtain ⟨c1, c2, c3⟩ := at2 (by have := har.2.2.1 o21; omega)
  refine ⟨a1, by omega, a2, _, a3, fun h0 => ⟨b1, by omega, b2, _, b3, c1, by omega, c2, _, c3, (cFits _ _).call ⟨_, rfl, fun h => ⟨c1, by omega, c2, _, c3, key _ _ rf ?_⟩, fun h => ⟨c1, by omega, c2, _, c3, b1, by omega, b2, _, b3, (cFits _ _).call ⟨_, rfl, fun h2 => ⟨b1, by omega, b2, _, b3, key _ _ rf ?_⟩, fun h2 => key _ _ rf ?_⟩⟩⟩⟩, fun h0 => key _ _ rf ?_⟩
  ·rw [<- hX, decide_eq_true (show xs.getD 0 sE = sBool from h0), h, fits_first h]; rfl
  ·rw [<- hX, decide_eq_true (show xs.getD 0 sE = sBool from h0), h2, Bool.or_true, fits_second h h2]; rfl
  ·rw [<- hX, decide_eq_true (show xs.getD 0 sE = sBool from h0), eq_false_of_ne_true h, eq_false_of_ne_true h2]; rfl
  ·rw [<- hX, decide_eq_false (show ¬ xs.getD 0 sE = sBool from h0)]; rfl
 ·rw [if_neg o1, if_neg o2, if_neg o3, if_neg o4, if_neg o5, if_neg o6, if_neg h7, if_neg (by omega), if_neg (by omega), if_neg (by omega), if_neg o21] at hX
  exact hX.symm
theorem impExpr (h : ChkAt V c d) (hv : VNe d) (hs : ScpAt V m sc) : ∀ (e : E), E.Ok V e -> ∀ dd, okE dd e = true -> ImpE V d c m sc e := by
 intro e
 induction e using E.ind with
 | h e ih =>
 intro he dd hok V1 hV
 have har := arity (okE_node hok)
 have hk : ∀ x ∈ e.k, ImpE V1 d c m sc x := fun x hx V2 h2 => ih x hx (he.kids x hx) (dd + 1) (okE_kids hok x hx) V2 (hV.trans h2)
 have h1 := h.sub hV
 refine Pur.mk (x90 (v0 := c) (v1 := m) (v2 := sc.body) (v3 := e.op) (v4 := e.n) (v5 := e.s) (v6 := e.l) ?_)
 unfold w90
 have hlen := partsT_len d sc e.k []
 refine ⟨fun o7 => (impCall h1 e (he.sub hV) har.2.2.2 hk).call ⟨_, _, rfl, ?_⟩, fun o7 => ?_⟩
 ·have hex : exprT d sc e = if (rawT d sc e).2 = 0 /\ (rawT d sc e).1 = sE then (sE, 11) else rawT d sc e := by
   rw [exprT_eq]
   unfold rawT
   by_cases h0 : (partsT d sc [] e.k).2 ≠ 0
   ·rw [if_pos h0, if_pos h0, if_neg (fun h => h0 h.1)]
   ·rw [if_neg h0, if_neg h0]
    unfold nodeT
    rw [if_neg (by omega), if_neg (by omega), if_neg (by omega), if_neg (by omega), if_neg (by omega), if_neg (by omega), if_pos o7, callE_raw]
  rw [hex]
  refine ⟨fun h0 => ⟨fun h2 => ?_, fun h2 => ?_⟩, fun h0 => ?_⟩
  ·rw [if_pos ⟨h0, h2⟩]; exact ⟨rfl, Mem.sub.refl _⟩
  ·rw [if_neg (fun h => h2 h.2)]; exact ⟨rfl, Mem.sub.refl _⟩
  ·rw [if_neg (fun h => h0 h.1)]; exact ⟨rfl, Mem.sub.refl _⟩
 ·rw [exprT_eq]
  have hr := (he.sub hV).rows
  refine loop4s (mk := .string) (mc := .int .i64) (md := fun s : Sl => .slice s.p s.n s.c) (strB []) 0 ⟨none, 0, 0⟩ inj_sl e.k.length (fun i s V2 => ∃ acc, Own V1 V2 9 1 s (acc.flatMap strRow1) /\ partsT d sc [] e.k = partsT d sc acc (e.k.drop i) /\ acc.length = i) ⟨[], Own.nil (Mem.sub.refl _) _ _, rfl, rfl⟩ ?_
  rintro i b b' s V2 J hi ⟨acc, hown, hp, hlen'⟩ hJ
  have hr1 := hr.sub hown.sub
  refine ⟨fun hlt => ?_, fun hge => ?_⟩
  ·obtain ⟨x, hm, hx, hdr, hl, hpp, hz, hrow⟩ := hr1.get hlt
   rw [hdr, partsT_cons] at hp
   refine ⟨hpp, hz, hlt, _, _, _, _, hrow, (hk x hm V2 hown.sub).call ⟨_, _, rfl, fun h0 => ?_, fun h0 => ?_⟩⟩
   ·intro b1 hb1
    rw [if_neg (fun h => h h0)] at hp
    refine app174 (s := s) (u := ⟨some ⟨b1, 0, none⟩, 1, 1⟩) (xs := acc) (ys := [(exprT d sc x).1]) rfl rfl (hown.new hb1 _) (one_row (Mem.set_same _ _ _)) (by simp; omega) fun s' V' ho => ⟨s', rfl, hr1.succ hlt, hJ hl _ _ _ _ ⟨_, ho, hp, by simp [hlen']⟩⟩
   ·rw [if_pos h0] at hp
    rw [hp]
    simp only [ne_eq, h0, not_false_eq_true, if_true]
    exact ⟨by trivial, hown.sub⟩
  ·have hge' := (hr1.done hge).2
   rw [(hr1.done hge).1, partsT_nil] at hp
   rw [hp]
   simp only [ne_eq, not_true_eq_false, if_false]
   refine (impNode (h1.sub hown.sub) hv ((hs.sub hV).sub hown.sub) (ownS hown) (by omega) (okE_node hok) o7).call ⟨_, _, rfl, rfl, hown.sub⟩
end
theorem pre_eq {c k : Nat} {p : Option Addr} : (if (c : Int) = (0 : Int) then p else ptrAdd p ((0 : Int).toNat * k)) = p := by
 have : ptrAdd p ((0 : Int).toNat * k) = p := by
  rw [show (0 : Int).toNat * k = 0 by simp]
  cases p with
  | none => rfl
  | some a => show some (a.add 0) = _; unfold Addr.add; rw [if_pos rfl]
 split
 ·rfl
 ·exact this
theorem sub0 {n : Nat} : ((n : Int) - (0 : Int)).toNat = n := by omega
theorem RowsAt.pre {α : Type} {V : Mem} {l : Sl} {sz : Nat} {row : α -> List Value} {xs : List α} (h : RowsAt V l sz (xs.map row)) {i : Nat} (hi : i <= xs.length) : RowsAt V ⟨l.p, i, l.c⟩ sz ((xs.take i).map row) := by
 have hn := h.n_eq
 have hc := h.cap
 refine ⟨by simp [hi], by show i <= l.c; omega, h.fit, fun r hr => h.size r ?_, fun j r hj => h.at_ j r ?_⟩
 ·rw [List.map_take] at hr; exact List.mem_of_mem_take hr
 ·rw [List.map_take, List.getElem?_take] at hj
  split at hj
  ·exact hj
  ·cases hj
theorem rowp_self {V : Mem} {p : Option Addr} {off n : Nat} {vs : List Value} (h : V.rowp p off n = some vs) : V.rowp (ptrAdd p off) 0 n = some vs := by
 cases p with
 | none => cases h
 | some a =>
  have : (a.add off).add 0 = a.add off := by rw [add_add]; rfl
  show V.row ((a.add off).add 0) n = _
  rw [this]; exact h
theorem c216 {V : Mem} {x : Ty} : PP 216 [x.v] V (.string x.name) := by
 refine x216 (v0 := x.name) (v1 := x.fs) ?_
 exact ⟨rfl, rfl⟩
theorem c246 {V : Mem} {b1 b2 b3 t1 t2 t3 i : Nat} {l : Sl} {xs : List Ty} {x y : Ty} (h1 : V b1 = some (cell (.func (.func 216) #[] #[]) t1)) (h2 : V b2 = some (cell (.slice l.p l.n l.c) t2)) (h3 : V b3 = some (cell (.int .i64 i) t3))
  (hr : RowsAt V l 2 (xs.map Ty.row)) (hy : xs[i]? = some y) : PP 246 [x.v, .pointer (some ⟨b1, 0, none⟩), .pointer (some ⟨b2, 0, none⟩), .pointer (some ⟨b3, 0, none⟩)] V (.bool (decide (x.name = y.name))) := by
 refine x246 (v0 := x.name) (v1 := x.fs) ?_
 unfold w246
 have hn := hr.n_eq
 have hil := (List.getElem?_eq_some_iff.1 hy).1
 have hlt : (i : Int) < (l.n : Int) := by omega
 obtain ⟨y', hm, hx, hdr, hl, hp, hz, hrow⟩ := hr.get hlt
 rw [hy] at hx
 cases hx
 exact ⟨.func (.func 216) #[] #[], rfl, row1 h1, .func (.func 216) #[] #[], rfl, row1 h1, l, row1 h2, _, row1 h3, hp, hz, hlt, _, _, hrow, _, _, _, rfl, Tryz.call216, (c216 (x := x)).callv (first := []) (caps := []) ⟨_, rfl, rowp_self hrow, hp, hz, hlt, row1 h3, row1 h2, row1 h1, _, _, _, rfl, Tryz.call216, (c216 (x := y)).callv (first := []) (caps := []) ⟨_, rfl, rfl, rfl⟩⟩⟩
theorem c215 {V : Mem} {l : Sl} {xs : List Ty} {i : Nat} {y : Ty} (hr : RowsAt V l 2 (xs.map Ty.row)) (hy : xs[i]? = some y) : PP 215 [l.v, .int .i64 i, .func (.func 216) #[] #[]] V (.bool ((xs.take i).any fun g => decide (g.name = y.name))) := by
 refine Pur.mk (x215 (v0 := l) (v2 := .func (.func 216) #[] #[]) ?_)
 unfold w215
 have hn := hr.n_eq
 have hc := hr.cap
 have hil := (List.getElem?_eq_some_iff.1 hy).1
 refine ⟨⟨by omega, by omega, by omega⟩, fun b1 hb1 b2 hb2 b3 hb3 => ?_⟩
 have s := (Mem.sub_new hb1 _).trans ((Mem.sub_new hb2 _).trans (Mem.sub_new hb3 (cell (.int .i64 i) 3)))
 simp only [pre_eq, sub0]
 refine (c155 (l := ⟨l.p, i, l.c⟩) (first := []) (caps := [.pointer (some ⟨b1, 0, none⟩), .pointer (some ⟨b2, 0, none⟩), .pointer (some ⟨b3, 0, none⟩)]) (RowsAt.pre (hr.sub s) (by omega)) Tryz.call246 (fun g => decide (g.name = y.name)) (fun x _ => c246 ((Mem.sub_new hb3 _) _ _ ((Mem.sub_new hb2 _) _ _ (Mem.set_same _ _ _))) ((Mem.sub_new hb3 _) _ _ (Mem.set_same _ _ _)) (Mem.set_same _ _ _) (hr.sub s) hy)).call ⟨_, rfl, rfl, s⟩
theorem c219 {V : Mem} {x : Fld} : PP 219 [x.v] V (.string x.name) := by
 refine x219 (v0 := x.name) (v1 := x.ty) ?_
 exact ⟨rfl, rfl⟩
theorem c248 {V : Mem} {b1 b2 b3 t1 t2 t3 i : Nat} {l : Sl} {xs : List Fld} {x y : Fld} (h1 : V b1 = some (cell (.func (.func 219) #[] #[]) t1)) (h2 : V b2 = some (cell (.slice l.p l.n l.c) t2)) (h3 : V b3 = some (cell (.int .i64 i) t3))
  (hr : RowsAt V l 2 (xs.map Fld.row)) (hy : xs[i]? = some y) : PP 248 [x.v, .pointer (some ⟨b1, 0, none⟩), .pointer (some ⟨b2, 0, none⟩), .pointer (some ⟨b3, 0, none⟩)] V (.bool (decide (x.name = y.name))) := by
 refine x248 (v0 := x.name) (v1 := x.ty) ?_
 unfold w248
 have hn := hr.n_eq
 have hil := (List.getElem?_eq_some_iff.1 hy).1
 have hlt : (i : Int) < (l.n : Int) := by omega
 obtain ⟨y', hm, hx, hdr, hl, hp, hz, hrow⟩ := hr.get hlt
 rw [hy] at hx
 cases hx
 exact ⟨.func (.func 219) #[] #[], rfl, row1 h1, .func (.func 219) #[] #[], rfl, row1 h1, l, row1 h2, _, row1 h3, hp, hz, hlt, _, _, hrow, _, _, _, rfl, Tryz.call219, (c219 (x := x)).callv (first := []) (caps := []) ⟨_, rfl, rowp_self hrow, hp, hz, hlt, row1 h3, row1 h2, row1 h1, _, _, _, rfl, Tryz.call219, (c219 (x := y)).callv (first := []) (caps := []) ⟨_, rfl, rfl, rfl⟩⟩⟩
theorem c218 {V : Mem} {l : Sl} {xs : List Fld} {i : Nat} {y : Fld} (hr : RowsAt V l 2 (xs.map Fld.row)) (hy : xs[i]? = some y) : PP 218 [l.v, .int .i64 i, .func (.func 219) #[] #[]] V (.bool ((xs.take i).any fun g => decide (g.name = y.name))) := by
 refine Pur.mk (x218 (v0 := l) (v2 := .func (.func 219) #[] #[]) ?_)
 unfold w218
 have hn := hr.n_eq
 have hc := hr.cap
 have hil := (List.getElem?_eq_some_iff.1 hy).1
 refine ⟨⟨by omega, by omega, by omega⟩, fun b1 hb1 b2 hb2 b3 hb3 => ?_⟩
 have s := (Mem.sub_new hb1 _).trans ((Mem.sub_new hb2 _).trans (Mem.sub_new hb3 (cell (.int .i64 i) 3)))
 simp only [pre_eq, sub0]
 refine (c168 (l := ⟨l.p, i, l.c⟩) (first := []) (caps := [.pointer (some ⟨b1, 0, none⟩), .pointer (some ⟨b2, 0, none⟩), .pointer (some ⟨b3, 0, none⟩)]) (RowsAt.pre (hr.sub s) (by omega)) Tryz.call248 (fun g => decide (g.name = y.name)) (fun x _ => c248 ((Mem.sub_new hb3 _) _ _ ((Mem.sub_new hb2 _) _ _ (Mem.set_same _ _ _))) ((Mem.sub_new hb3 _) _ _ (Mem.set_same _ _ _)) (Mem.set_same _ _ _) (hr.sub s) hy)).call ⟨_, rfl, rfl, s⟩
theorem c222 {V : Mem} {x : Pr} : PP 222 [x.v] V (.string x.name) := by
 refine x222 (v0 := x.name) (v1 := x.ps) (v2 := x.result) (v3 := x.ls) (v4 := x.bs) ?_
 exact ⟨rfl, rfl⟩
theorem c249 {V : Mem} {b1 b2 b3 t1 t2 t3 i : Nat} {l : Sl} {xs : List Pr} {x y : Pr} (h1 : V b1 = some (cell (.func (.func 222) #[] #[]) t1)) (h2 : V b2 = some (cell (.slice l.p l.n l.c) t2)) (h3 : V b3 = some (cell (.int .i64 i) t3))
  (hr : RowsAt V l 5 (xs.map Pr.row)) (hy : xs[i]? = some y) : PP 249 [x.v, .pointer (some ⟨b1, 0, none⟩), .pointer (some ⟨b2, 0, none⟩), .pointer (some ⟨b3, 0, none⟩)] V (.bool (decide (x.name = y.name))) := by
 refine x249 (v0 := x.name) (v1 := x.ps) (v2 := x.result) (v3 := x.ls) (v4 := x.bs) ?_
 unfold w249
 have hn := hr.n_eq
 have hil := (List.getElem?_eq_some_iff.1 hy).1
 have hlt : (i : Int) < (l.n : Int) := by omega
 obtain ⟨y', hm, hx, hdr, hl, hp, hz, hrow⟩ := hr.get hlt
 rw [hy] at hx
 cases hx
 exact ⟨.func (.func 222) #[] #[], rfl, row1 h1, .func (.func 222) #[] #[], rfl, row1 h1, l, row1 h2, _, row1 h3, hp, hz, hlt, _, _, _, _, _, hrow, _, _, _, rfl, Tryz.call222, (c222 (x := x)).callv (first := []) (caps := []) ⟨_, rfl, rowp_self hrow, hp, hz, hlt, row1 h3, row1 h2, row1 h1, _, _, _, rfl, Tryz.call222, (c222 (x := y)).callv (first := []) (caps := []) ⟨_, rfl, rfl, rfl⟩⟩⟩
theorem c221 {V : Mem} {l : Sl} {xs : List Pr} {i : Nat} {y : Pr} (hr : RowsAt V l 5 (xs.map Pr.row)) (hy : xs[i]? = some y) : PP 221 [l.v, .int .i64 i, .func (.func 222) #[] #[]] V (.bool ((xs.take i).any fun g => decide (g.name = y.name))) := by
 refine Pur.mk (x221 (v0 := l) (v2 := .func (.func 222) #[] #[]) ?_)
 unfold w221
 have hn := hr.n_eq
 have hc := hr.cap
 have hil := (List.getElem?_eq_some_iff.1 hy).1
 refine ⟨⟨by omega, by omega, by omega⟩, fun b1 hb1 b2 hb2 b3 hb3 => ?_⟩
 have s := (Mem.sub_new hb1 _).trans ((Mem.sub_new hb2 _).trans (Mem.sub_new hb3 (cell (.int .i64 i) 3)))
 simp only [pre_eq, sub0]
 refine (c157 (l := ⟨l.p, i, l.c⟩) (first := []) (caps := [.pointer (some ⟨b1, 0, none⟩), .pointer (some ⟨b2, 0, none⟩), .pointer (some ⟨b3, 0, none⟩)]) (RowsAt.pre (hr.sub s) (by omega)) Tryz.call249 (fun g => decide (g.name = y.name)) (fun x _ => c249 ((Mem.sub_new hb3 _) _ _ ((Mem.sub_new hb2 _) _ _ (Mem.set_same _ _ _))) ((Mem.sub_new hb3 _) _ _ (Mem.set_same _ _ _)) (Mem.set_same _ _ _) (hr.sub s) hy)).call ⟨_, rfl, rfl, s⟩
theorem c225 {V : Mem} {x : Ms} : PP 225 [x.v] V (.string x.name) := by
 refine x225 (v0 := x.name) (v1 := x.ty) (v2 := x.nil) (v3 := x.x.op) (v4 := x.x.n) (v5 := x.x.s) (v6 := x.x.l) ?_
 exact ⟨rfl, rfl⟩
theorem c252 {V : Mem} {b1 b2 b3 t1 t2 t3 i : Nat} {l : Sl} {xs : List Ms} {x y : Ms} (h1 : V b1 = some (cell (.func (.func 225) #[] #[]) t1)) (h2 : V b2 = some (cell (.slice l.p l.n l.c) t2)) (h3 : V b3 = some (cell (.int .i64 i) t3))
  (hr : RowsAt V l 7 (xs.map Ms.row)) (hy : xs[i]? = some y) : PP 252 [x.v, .pointer (some ⟨b1, 0, none⟩), .pointer (some ⟨b2, 0, none⟩), .pointer (some ⟨b3, 0, none⟩)] V (.bool (decide (x.name = y.name))) := by
 refine x252 (v0 := x.name) (v1 := x.ty) (v2 := x.nil) (v3 := x.x.op) (v4 := x.x.n) (v5 := x.x.s) (v6 := x.x.l) ?_
 unfold w252
 have hn := hr.n_eq
 have hil := (List.getElem?_eq_some_iff.1 hy).1
 have hlt : (i : Int) < (l.n : Int) := by omega
 obtain ⟨y', hm, hx, hdr, hl, hp, hz, hrow⟩ := hr.get hlt
 rw [hy] at hx
 cases hx
 exact ⟨.func (.func 225) #[] #[], rfl, row1 h1, .func (.func 225) #[] #[], rfl, row1 h1, l, row1 h2, _, row1 h3, hp, hz, hlt, _, _, _, _, _, _, _, hrow, _, _, _, rfl, Tryz.call225, (c225 (x := x)).callv (first := []) (caps := []) ⟨_, rfl, rowp_self hrow, hp, hz, hlt, row1 h3, row1 h2, row1 h1, _, _, _, rfl, Tryz.call225, (c225 (x := y)).callv (first := []) (caps := []) ⟨_, rfl, rfl, rfl⟩⟩⟩
theorem c224 {V : Mem} {l : Sl} {xs : List Ms} {i : Nat} {y : Ms} (hr : RowsAt V l 7 (xs.map Ms.row)) (hy : xs[i]? = some y) : PP 224 [l.v, .int .i64 i, .func (.func 225) #[] #[]] V (.bool ((xs.take i).any fun g => decide (g.name = y.name))) := by
 refine Pur.mk (x224 (v0 := l) (v2 := .func (.func 225) #[] #[]) ?_)
 unfold w224
 have hn := hr.n_eq
 have hc := hr.cap
 have hil := (List.getElem?_eq_some_iff.1 hy).1
 refine ⟨⟨by omega, by omega, by omega⟩, fun b1 hb1 b2 hb2 b3 hb3 => ?_⟩
 have s := (Mem.sub_new hb1 _).trans ((Mem.sub_new hb2 _).trans (Mem.sub_new hb3 (cell (.int .i64 i) 3)))
 simp only [pre_eq, sub0]
 refine (c251 (l := ⟨l.p, i, l.c⟩) (first := []) (caps := [.pointer (some ⟨b1, 0, none⟩), .pointer (some ⟨b2, 0, none⟩), .pointer (some ⟨b3, 0, none⟩)]) (RowsAt.pre (hr.sub s) (by omega)) Tryz.call252 (fun g => decide (g.name = y.name)) (fun x _ => c252 ((Mem.sub_new hb3 _) _ _ ((Mem.sub_new hb2 _) _ _ (Mem.set_same _ _ _))) ((Mem.sub_new hb3 _) _ _ (Mem.set_same _ _ _)) (Mem.set_same _ _ _) (hr.sub s) hy)).call ⟨_, rfl, rfl, s⟩
theorem c227 {V : Mem} {x : Iv} : PP 227 [x.v] V (.string x.name) := by
 refine x227 (v0 := x.name) (v1 := x.ty) (v2 := x.x.op) (v3 := x.x.n) (v4 := x.x.s) (v5 := x.x.l) ?_
 exact ⟨rfl, rfl⟩
theorem c254 {V : Mem} {b1 b2 b3 t1 t2 t3 i : Nat} {l : Sl} {xs : List Iv} {x y : Iv} (h1 : V b1 = some (cell (.func (.func 227) #[] #[]) t1)) (h2 : V b2 = some (cell (.slice l.p l.n l.c) t2)) (h3 : V b3 = some (cell (.int .i64 i) t3))
  (hr : RowsAt V l 6 (xs.map Iv.row)) (hy : xs[i]? = some y) : PP 254 [x.v, .pointer (some ⟨b1, 0, none⟩), .pointer (some ⟨b2, 0, none⟩), .pointer (some ⟨b3, 0, none⟩)] V (.bool (decide (x.name = y.name))) := by
 refine x254 (v0 := x.name) (v1 := x.ty) (v2 := x.x.op) (v3 := x.x.n) (v4 := x.x.s) (v5 := x.x.l) ?_
 unfold w254
 have hn := hr.n_eq
 have hil := (List.getElem?_eq_some_iff.1 hy).1
 have hlt : (i : Int) < (l.n : Int) := by omega
 obtain ⟨y', hm, hx, hdr, hl, hp, hz, hrow⟩ := hr.get hlt
 rw [hy] at hx
 cases hx
 exact ⟨.func (.func 227) #[] #[], rfl, row1 h1, .func (.func 227) #[] #[], rfl, row1 h1, l, row1 h2, _, row1 h3, hp, hz, hlt, _, _, _, _, _, _, hrow, _, _, _, rfl, Tryz.call227, (c227 (x := x)).callv (first := []) (caps := []) ⟨_, rfl, rowp_self hrow, hp, hz, hlt, row1 h3, row1 h2, row1 h1, _, _, _, rfl, Tryz.call227, (c227 (x := y)).callv (first := []) (caps := []) ⟨_, rfl, rfl, rfl⟩⟩⟩
theorem c226 {V : Mem} {l : Sl} {xs : List Iv} {i : Nat} {y : Iv} (hr : RowsAt V l 6 (xs.map Iv.row)) (hy : xs[i]? = some y) : PP 226 [l.v, .int .i64 i, .func (.func 227) #[] #[]] V (.bool ((xs.take i).any fun g => decide (g.name = y.name))) := by
 refine Pur.mk (x226 (v0 := l) (v2 := .func (.func 227) #[] #[]) ?_)
 unfold w226
 have hn := hr.n_eq
 have hc := hr.cap
 have hil := (List.getElem?_eq_some_iff.1 hy).1
 refine ⟨⟨by omega, by omega, by omega⟩, fun b1 hb1 b2 hb2 b3 hb3 => ?_⟩
 have s := (Mem.sub_new hb1 _).trans ((Mem.sub_new hb2 _).trans (Mem.sub_new hb3 (cell (.int .i64 i) 3)))
 simp only [pre_eq, sub0]
 refine (c253 (l := ⟨l.p, i, l.c⟩) (first := []) (caps := [.pointer (some ⟨b1, 0, none⟩), .pointer (some ⟨b2, 0, none⟩), .pointer (some ⟨b3, 0, none⟩)]) (RowsAt.pre (hr.sub s) (by omega)) Tryz.call254 (fun g => decide (g.name = y.name)) (fun x _ => c254 ((Mem.sub_new hb3 _) _ _ ((Mem.sub_new hb2 _) _ _ (Mem.set_same _ _ _))) ((Mem.sub_new hb3 _) _ _ (Mem.set_same _ _ _)) (Mem.set_same _ _ _) (hr.sub s) hy)).call ⟨_, rfl, rfl, s⟩
theorem c229 {V : Mem} {x : Bd} : PP 229 [x.v] V (.string x.proc) := by
 refine x229 (v0 := x.proc) (v1 := x.x.op) (v2 := x.x.n) (v3 := x.x.s) (v4 := x.x.l) ?_
 exact ⟨rfl, rfl⟩
theorem c255 {V : Mem} {b1 b2 b3 t1 t2 t3 i : Nat} {l : Sl} {xs : List Bd} {x y : Bd} (h1 : V b1 = some (cell (.func (.func 229) #[] #[]) t1)) (h2 : V b2 = some (cell (.slice l.p l.n l.c) t2)) (h3 : V b3 = some (cell (.int .i64 i) t3))
  (hr : RowsAt V l 5 (xs.map Bd.row)) (hy : xs[i]? = some y) : PP 255 [x.v, .pointer (some ⟨b1, 0, none⟩), .pointer (some ⟨b2, 0, none⟩), .pointer (some ⟨b3, 0, none⟩)] V (.bool (decide (x.proc = y.proc))) := by
 refine x255 (v0 := x.proc) (v1 := x.x.op) (v2 := x.x.n) (v3 := x.x.s) (v4 := x.x.l) ?_
 unfold w255
 have hn := hr.n_eq
 have hil := (List.getElem?_eq_some_iff.1 hy).1
 have hlt : (i : Int) < (l.n : Int) := by omega
 obtain ⟨y', hm, hx, hdr, hl, hp, hz, hrow⟩ := hr.get hlt
 rw [hy] at hx
 cases hx
 exact ⟨.func (.func 229) #[] #[], rfl, row1 h1, .func (.func 229) #[] #[], rfl, row1 h1, l, row1 h2, _, row1 h3, hp, hz, hlt, _, _, _, _, _, hrow, _, _, _, rfl, Tryz.call229, (c229 (x := x)).callv (first := []) (caps := []) ⟨_, rfl, rowp_self hrow, hp, hz, hlt, row1 h3, row1 h2, row1 h1, _, _, _, rfl, Tryz.call229, (c229 (x := y)).callv (first := []) (caps := []) ⟨_, rfl, rfl, rfl⟩⟩⟩
theorem c228 {V : Mem} {l : Sl} {xs : List Bd} {i : Nat} {y : Bd} (hr : RowsAt V l 5 (xs.map Bd.row)) (hy : xs[i]? = some y) : PP 228 [l.v, .int .i64 i, .func (.func 229) #[] #[]] V (.bool ((xs.take i).any fun g => decide (g.proc = y.proc))) := by
 refine Pur.mk (x228 (v0 := l) (v2 := .func (.func 229) #[] #[]) ?_)
 unfold w228
 have hn := hr.n_eq
 have hc := hr.cap
 have hil := (List.getElem?_eq_some_iff.1 hy).1
 refine ⟨⟨by omega, by omega, by omega⟩, fun b1 hb1 b2 hb2 b3 hb3 => ?_⟩
 have s := (Mem.sub_new hb1 _).trans ((Mem.sub_new hb2 _).trans (Mem.sub_new hb3 (cell (.int .i64 i) 3)))
 simp only [pre_eq, sub0]
 refine (c208 (l := ⟨l.p, i, l.c⟩) (first := []) (caps := [.pointer (some ⟨b1, 0, none⟩), .pointer (some ⟨b2, 0, none⟩), .pointer (some ⟨b3, 0, none⟩)]) (RowsAt.pre (hr.sub s) (by omega)) Tryz.call255 (fun g => decide (g.proc = y.proc)) (fun x _ => c255 ((Mem.sub_new hb3 _) _ _ ((Mem.sub_new hb2 _) _ _ (Mem.set_same _ _ _))) ((Mem.sub_new hb3 _) _ _ (Mem.set_same _ _ _)) (Mem.set_same _ _ _) (hr.sub s) hy)).call ⟨_, rfl, rfl, s⟩
end Go.Proofs
