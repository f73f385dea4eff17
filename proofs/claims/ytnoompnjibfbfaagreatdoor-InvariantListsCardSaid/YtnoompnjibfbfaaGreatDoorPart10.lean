/- Part 10 of a proof of a law of this seat: no statement of the seat is proved here. -/
import Derived.Test.YtnoompnjibfbfaaGreatDoorPart09
set_option linter.unusedVariables false
set_option linter.unusedSimpArgs false
namespace Go.Proofs
open Go Go.Sx
attribute [local irreducible] Go.Sx.Tri
theorem GenK.max4 {P : Program} {V : Mem} {a b c d : Operand} {ty : Nat} {ts : Array TypeId} {vals : Operand → Value} {n1 n2 n3 n4 : Int} (h1 : vals a = .int .i64 n1) (h2 : vals b = .int .i64 n2) (h3 : vals c = .int .i64 n3) (h4 : vals d = .int .i64 n4) {q : Value → Mem → Prop}
    (hq : ∀ m : Int, n1 ≤ m → n2 ≤ m → n3 ≤ m → n4 ≤ m → (m = n1 ∨ m = n2 ∨ m = n3 ∨ m = n4) → q (.int .i64 m) V) : GenK P (.call { callee := .builtin .max, args := #[a, b, c, d], argTypes := ts }) ty vals V q := by
  intro w hw
  refine ⟨_, w, V, ?_, Frm.refl hw, hq (max (max (max n1 n2) n3) n4) (by omega) (by omega) (by omega) (by omega) (by omega)⟩
  unfold execOp
  have e : ∀ x y : Int, (if y > x then y else x) = max x y := fun x y => by split <;> omega
  simp only [resolve, invoke, builtin, Sem.run_bind, Sem.run_pure, Result.andThen_ok, List.map_toArray, List.map_cons, List.map_nil, h1, h2, h3, h4]
  simp [Builtin.max_, Builtin.max2, e]
theorem Ds.v_eq (d : Ds) : d.v = .agg #[.string d.name, .slice d.ts.p d.ts.n d.ts.c, .slice d.gs.p d.gs.n d.gs.c, .slice d.ps.p d.ps.n d.ps.c, .slice d.ms.p d.ms.n d.ms.c, .slice d.is.p d.is.n d.is.c, .slice d.qs.p d.qs.n d.qs.c, .slice d.bs.p d.bs.n d.bs.c] := rfl
theorem c154 {V : Mem} [Tab V] {d : Ds} (h : Ds.Ok V d) : PP 154 [d.v] V (.bool (lensB d && formB d)) := by
  refine x154 (v0 := d.name) (v1 := d.ts) (v2 := d.gs) (v3 := d.ps) (v4 := d.ms) (v5 := d.is) (v6 := d.qs) (v7 := d.bs) ?_
  unfold w154
  have n1 := h.measures.n_eq
  have n2 := h.invs.n_eq
  have n3 := h.pots.n_eq
  have n4 := h.bounds.n_eq
  generalize hX : (lensB d && formB d) = X
  have key : ∀ b : Bool, X = b → (Ending.returned (.bool b) = Ending.returned (.bool X) ∧ V = V) := fun n h => by rw [h]; exact ⟨rfl, rfl⟩
  unfold formB lensB at hX
  refine GenK.max4 (n1 := d.ms.n) (n2 := d.is.n) (n3 := d.qs.n) (n4 := d.bs.n) rfl rfl rfl rfl fun mx l1 l2 l3 l4 le => ⟨_, rfl, fun hb => key _ ?_, fun hb => ?_⟩
  · rw [← hX, decide_eq_false (by omega)]; rfl
  rw [decide_eq_true (by omega), Bool.true_and] at hX
  refine loop2 d.measures.length (fun i V1 => V = V1 ∧ AllTo msB d.measures i) ⟨rfl, AllTo.zero _ _⟩ ?_
  rintro i b V1 J hi ⟨rfl, ha⟩ hJ
  refine ⟨fun hlt => ?_, fun hge => ?_⟩
  · obtain ⟨x, hm, hx, hdr, hl, hp, hz, hrow⟩ := h.measures.get hlt
    have no : msB x = false → X = false := fun h => by rw [← hX, all_false hm (by rw [h]; simp)]; rfl
    refine ⟨hp, hz, hlt, _, _, _, _, _, _, _, hrow, c152.call ⟨_, rfl, fun h1 => c152.call ⟨_, rfl, fun h2 => ⟨fun h3 => key _ (no ?_), fun h3 => ⟨fun h4 => key _ (no ?_), fun h4 => (c59 (h.measuresOk x hm).x).call ⟨_, rfl, fun h5 => ⟨h.measures.succ hlt, hJ hl _ _ ⟨rfl, ha.succ hx ?_⟩⟩, fun h5 => key _ (no ?_)⟩⟩⟩, fun h2 => key _ (no ?_)⟩, fun h1 => key _ (no ?_)⟩⟩
    · have : ¬ (-1099511627776 ≤ x.nil ∧ x.nil ≤ 1099511627776) := by omega
      simp [msB, *]
    · have : ¬ (-1099511627776 ≤ x.nil ∧ x.nil ≤ 1099511627776) := by omega
      simp [msB, *]
    · have : (-1099511627776 ≤ x.nil ∧ x.nil ≤ 1099511627776) := by omega
      simp [msB, *]
    all_goals simp [msB, *]
  have a1 := ha.all (h.measures.done hge).2
  refine loop2 d.invs.length (fun i V1 => V = V1 ∧ AllTo ivB d.invs i) ⟨rfl, AllTo.zero _ _⟩ ?_
  rintro i b V1 J hi ⟨rfl, ha⟩ hJ
  refine ⟨fun hlt => ?_, fun hge => ?_⟩
  · obtain ⟨x, hm, hx, hdr, hl, hp, hz, hrow⟩ := h.invs.get hlt
    have no : ivB x = false → X = false := fun h => by rw [← hX, all_false hm (by rw [h]; simp)]; simp
    refine ⟨hp, hz, hlt, _, _, _, _, _, _, hrow, c152.call ⟨_, rfl, fun h1 => c207.call ⟨_, rfl, fun h2 => (c59 (h.invsOk x hm)).call ⟨_, rfl, fun h5 => ⟨h.invs.succ hlt, hJ hl _ _ ⟨rfl, ha.succ hx ?_⟩⟩, fun h5 => key _ (no ?_)⟩, fun h2 => key _ (no ?_)⟩, fun h1 => key _ (no ?_)⟩⟩
    all_goals simp [ivB, *]
  have a2 := ha.all (h.invs.done hge).2
  refine loop2 d.pots.length (fun i V1 => V = V1 ∧ AllTo poB d.pots i) ⟨rfl, AllTo.zero _ _⟩ ?_
  rintro i b V1 J hi ⟨rfl, ha⟩ hJ
  refine ⟨fun hlt => ?_, fun hge => ?_⟩
  · obtain ⟨x, hm, hx, hdr, hl, hp, hz, hrow⟩ := h.pots.get hlt
    have no : poB x = false → X = false := fun h => by rw [← hX, all_false (p := poB) hm (by rw [h]; simp)]; simp
    refine ⟨hp, hz, hlt, _, _, _, _, _, hrow, c207.call ⟨_, rfl, fun h2 => (c59 (h.potsOk x hm)).call ⟨_, rfl, fun h5 => ⟨h.pots.succ hlt, hJ hl _ _ ⟨rfl, ha.succ hx ?_⟩⟩, fun h5 => key _ (no ?_)⟩, fun h2 => key _ (no ?_)⟩⟩
    all_goals simp [poB, *]
  have a3 := ha.all (h.pots.done hge).2
  refine (c208 (first := []) (caps := []) h.bounds Tryz.call209 (fun f => !bdB f) fun f hm => c209 (h.boundsOk f hm)).call ⟨_, rfl, key _ ?_⟩
  rw [← hX, a1, a2, a3, List.any_eq_not_all_not]
  simp
theorem c109 {V : Mem} [Tab V] {d : Ds} (h : Ds.Ok V d) : PP 109 [d.v] V (.bool (validD d)) := by
  refine x109 (v0 := d.name) (v1 := d.ts) (v2 := d.gs) (v3 := d.ps) (v4 := d.ms) (v5 := d.is) (v6 := d.qs) (v7 := d.bs) ?_
  unfold w109
  have n5 := h.types.n_eq
  have n6 := h.procs.n_eq
  generalize hX : validD d = X
  have key : ∀ b : Bool, X = b → (Ending.returned (.bool b) = Ending.returned (.bool X) ∧ V = V) := fun n h => by rw [h]; exact ⟨rfl, rfl⟩
  unfold validD at hX
  refine c152.call ⟨_, rfl, fun h1 => ⟨fun h2 => key _ ?_, fun h2 => (c153 h.globals).call ⟨_, rfl, fun h3 => ⟨fun h4 => key _ ?_, fun h4 => (c154 h).call ⟨_, rfl, fun h5 => (c155 (first := []) (caps := []) h.types Tryz.call156 (fun f => !tyB f) fun f hm => c156 (h.typesOk f hm)).call ⟨_, rfl, fun h6 => key _ ?_, fun h6 =>
      (c157 (first := []) (caps := []) h.procs Tryz.call158 (fun f => !prB f) fun f hm => c158 (h.procsOk f hm)).call ⟨_, rfl, key _ ?_⟩⟩, fun h5 => key _ ?_⟩⟩, fun h3 => key _ ?_⟩⟩, fun h1 => key _ ?_⟩
  · rw [← hX, decide_eq_false (by omega)]; simp
  · rw [← hX, decide_eq_false (p := (d.procs.length : Int) ≤ 40) (by omega)]; simp
  · rw [List.any_eq_not_all_not] at h6
    have : d.types.all tyB = false := by simpa using h6
    rw [← hX, this]; simp
  · rw [List.any_eq_not_all_not] at h6 ⊢
    have : d.types.all tyB = true := by simpa using h6
    rw [Bool.and_eq_true] at h5
    rw [← hX, h1, decide_eq_true (p := (d.types.length : Int) ≤ 12) (by omega), h3, decide_eq_true (p := (d.procs.length : Int) ≤ 40) (by omega), h5.1, h5.2, this]
    simp
  · have : (lensB d && formB d) = false := eq_false_of_ne_true h5
    rw [← hX]
    cases hl : lensB d with
    | false => simp
    | true => rw [hl, Bool.true_and] at this; rw [this]; simp
  · rw [← hX, eq_false_of_ne_true h3]; simp
  · rw [← hX, eq_false_of_ne_true h1]; simp
end Go.Proofs
namespace Go.Proofs
open Go Go.Sx
def sNil : ByteArray := strB [110, 105, 108]
def sE : ByteArray := strB []
def isNode (d : Ds) (s : ByteArray) : Bool := d.types.any fun t => decide (t.name = s)
def known (d : Ds) (s : ByteArray) : Bool := decide (s = sInt) || decide (s = sBool) || isNode d s
def fits (d : Ds) (a b : ByteArray) : Bool := decide (a = b) || (decide (a = sNil) && isNode d b)
def lookF : List Fld → ByteArray → ByteArray
  | [], _ => sE
  | f :: l, s => if f.name = s then f.ty else lookF l s
def tyOf (d : Ds) (s : ByteArray) : Option Ty := d.types.find? fun t => decide (t.name = s)
def prOf (d : Ds) (s : ByteArray) : Option Pr := d.procs.find? fun t => decide (t.name = s)
def meOf (d : Ds) (s : ByteArray) : Option Ms := d.measures.find? fun t => decide (t.name = s)
def fieldT (d : Ds) (t name : ByteArray) : ByteArray × Int :=
  match tyOf d t with
  | none => (sE, 11)
  | some ty => if lookF ty.fields name = sE then (sE, 9) else (lookF ty.fields name, 0)
def fitAll (d : Ds) : List ByteArray → List Fld → Bool
  | a :: l, f :: fs => fits d a f.ty && fitAll d l fs
  | _, _ => true
def callT (d : Ds) (name : ByteArray) (l : List ByteArray) : ByteArray × Int :=
  match prOf d name with
  | none => (sE, 9)
  | some p => if l.length ≠ p.params.length then (sE, 3) else if fitAll d l p.params = true then (p.result, 0) else (sE, 11)
def needT (ok : Bool) (t : ByteArray) : ByteArray × Int := if ok = true then (t, 0) else (sE, 11)
structure Sc where
  vars : List Fld
  body : Bool
def measT (d : Ds) (name : ByteArray) (l : List ByteArray) : ByteArray × Int :=
  match meOf d name with
  | none => (sE, 9)
  | some m => if l.length ≠ 1 then (sE, 3) else needT (fits d (l.getD 0 sE) m.ty) sInt
def callE (d : Ds) (sc : Sc) (name : ByteArray) (l : List ByteArray) : ByteArray × Int :=
  if sc.body = true then (if (callT d name l).2 = 0 ∧ (callT d name l).1 = sE then (sE, 11) else callT d name l) else measT d name l
def allT (l : List ByteArray) (t : ByteArray) : Bool := l.all fun x => decide (x = t)
def nodeT (d : Ds) (sc : Sc) (op : Int) (s : ByteArray) (l : List ByteArray) : ByteArray × Int :=
  if op = 1 then (sInt, 0) else if op = 2 then (sBool, 0) else if op = 3 then (sNil, 0)
  else if op = 4 then (if lookF sc.vars s = sE then (sE, 9) else (lookF sc.vars s, 0))
  else if op = 5 then fieldT d (l.getD 0 sE) s
  else if op = 6 then (if sc.body = false then (sE, 13) else if isNode d s = false then (sE, 9) else (s, 0))
  else if op = 7 then callE d sc s l
  else if op = 14 ∨ op = 15 then needT (fits d (l.getD 0 sE) (l.getD 1 sE) || fits d (l.getD 1 sE) (l.getD 0 sE)) sBool
  else if op = 16 ∨ op = 17 then needT (allT l sInt) sBool
  else if op = 18 ∨ op = 19 ∨ op = 20 then needT (allT l sBool) sBool
  else if op = 21 then needT (decide (l.getD 0 sE = sBool) && (fits d (l.getD 1 sE) (l.getD 2 sE) || fits d (l.getD 2 sE) (l.getD 1 sE))) (if l.getD 1 sE = sNil then l.getD 2 sE else l.getD 1 sE)
  else needT (allT l sInt) sInt
mutual
def exprT (d : Ds) (sc : Sc) : E → ByteArray × Int
  | .mk op _ s _ k => if (partsT d sc [] k).2 ≠ 0 then (sE, (partsT d sc [] k).2) else nodeT d sc op s (partsT d sc [] k).1
def partsT (d : Ds) (sc : Sc) (acc : List ByteArray) : List E → List ByteArray × Int
  | [] => (acc, 0)
  | x :: xs => if (exprT d sc x).2 ≠ 0 then ([], (exprT d sc x).2) else partsT d sc (acc ++ [(exprT d sc x).1]) xs
end
theorem exprT_eq (d : Ds) (sc : Sc) (e : E) : exprT d sc e = if (partsT d sc [] e.k).2 ≠ 0 then (sE, (partsT d sc [] e.k).2) else nodeT d sc e.op e.s (partsT d sc [] e.k).1 := by
  cases e; unfold exprT; rfl
theorem partsT_cons (d : Ds) (sc : Sc) (acc : List ByteArray) (x : E) (xs : List E) : partsT d sc acc (x :: xs) = if (exprT d sc x).2 ≠ 0 then ([], (exprT d sc x).2) else partsT d sc (acc ++ [(exprT d sc x).1]) xs := by rw [partsT]
theorem partsT_nil (d : Ds) (sc : Sc) (acc : List ByteArray) : partsT d sc acc [] = (acc, 0) := by rw [partsT]
theorem partsT_len (d : Ds) (sc : Sc) : ∀ (k : List E) (acc : List ByteArray), (partsT d sc acc k).2 = 0 → (partsT d sc acc k).1.length = acc.length + k.length
  | [], acc, _ => by rw [partsT_nil]; rfl
  | x :: xs, acc, h => by
    rw [partsT_cons] at h ⊢
    split at h
    · rename_i h'; exact absurd h h'
    · rename_i h'
      rw [if_neg h', partsT_len d sc xs _ h, List.length_append, List.length_cons, List.length_cons, List.length_nil]
      omega
def inProcS (d : Ds) (p : Pr) : Sc := ⟨p.params ++ p.locals ++ d.globals, true⟩
def sThisF : ByteArray := strB [116, 104, 105, 115]
def inFormS (d : Ds) (t : ByteArray) : Sc := ⟨(if t = sE then [] else [⟨sThisF, t⟩]) ++ d.globals, false⟩
def inBoundS (d : Ds) (p : Pr) : Sc := ⟨p.params ++ d.globals, false⟩
def stmtT (d : Ds) (sc : Sc) (result : ByteArray) (op : Int) (s : ByteArray) (es : List E) : Int :=
  if op = 6 then
    match es with
    | [] => 0
    | e :: _ => if (partsT d sc [] e.k).2 ≠ 0 then (partsT d sc [] e.k).2 else (callT d e.s (partsT d sc [] e.k).1).2
  else if (partsT d sc [] es).2 ≠ 0 then (partsT d sc [] es).2
  else if op = 1 then (if lookF sc.vars s = sE then 9 else if fits d ((partsT d sc [] es).1.getD 0 sE) (lookF sc.vars s) = true then 0 else 11)
  else if op = 2 then (if (fieldT d ((partsT d sc [] es).1.getD 0 sE) s).2 ≠ 0 then (fieldT d ((partsT d sc [] es).1.getD 0 sE) s).2 else if fits d ((partsT d sc [] es).1.getD 1 sE) (fieldT d ((partsT d sc [] es).1.getD 0 sE) s).1 = true then 0 else 11)
  else if op = 3 ∨ op = 4 then (if (partsT d sc [] es).1.getD 0 sE = sBool then 0 else 11)
  else if op = 5 then (if (partsT d sc [] es).1.length = 0 then (if result = sE then 0 else 11) else if result ≠ sE ∧ fits d ((partsT d sc [] es).1.getD 0 sE) result = true then 0 else 11)
  else 0
mutual
def stT (d : Ds) (sc : Sc) (result : ByteArray) (n : Int) : S → Int × Int
  | .mk op s _ es _ ls _ xs =>
    if stmtT d sc result op s es ≠ 0 then (n, stmtT d sc result op s es)
    else if (stsT d sc result (n + 1) ls).2 ≠ 0 then stsT d sc result (n + 1) ls
    else stsT d sc result (stsT d sc result (n + 1) ls).1 xs
def stsT (d : Ds) (sc : Sc) (result : ByteArray) (n : Int) : List S → Int × Int
  | [] => (n, 0)
  | x :: xs => if (stT d sc result n x).2 ≠ 0 then stT d sc result n x else stsT d sc result (stT d sc result n x).1 xs
end
theorem stT_eq (d : Ds) (sc : Sc) (result : ByteArray) (n : Int) (x : S) : stT d sc result n x = if stmtT d sc result x.op x.s x.es ≠ 0 then (n, stmtT d sc result x.op x.s x.es) else if (stsT d sc result (n + 1) x.ls).2 ≠ 0 then stsT d sc result (n + 1) x.ls else stsT d sc result (stsT d sc result (n + 1) x.ls).1 x.xs := by
  cases x; unfold stT; rfl
theorem stsT_cons (d : Ds) (sc : Sc) (result : ByteArray) (n : Int) (x : S) (xs : List S) : stsT d sc result n (x :: xs) = if (stT d sc result n x).2 ≠ 0 then stT d sc result n x else stsT d sc result (stT d sc result n x).1 xs := by rw [stsT]
theorem stsT_nil (d : Ds) (sc : Sc) (result : ByteArray) (n : Int) : stsT d sc result n [] = (n, 0) := by rw [stsT]
def oneT (d : Ds) (l : List Fld) (i : Nat) (f : Fld) : Int := if (l.take i).any (fun g => decide (g.name = f.name)) = true then 10 else if known d f.ty = true then 0 else 9
def firstE {α β : Type} (f : Nat → α → Option β) : Nat → List α → Option β
  | _, [] => none
  | i, x :: xs => match f i x with | some b => some b | none => firstE f (i + 1) xs
def declT (d : Ds) (l : List Fld) : Int := (firstE (fun i f => if oneT d l i f ≠ 0 then some (oneT d l i f) else none) 0 l).getD 0
abbrev Flt := ByteArray × Int × Int
def types1 (d : Ds) : Option Flt := firstE (fun i t => if (d.types.take i).any (fun g => decide (g.name = t.name)) = true then some (t.name, -1, 10) else none) 0 d.types
def types2 (d : Ds) : Option Flt := firstE (fun _ t => if declT d t.fields ≠ 0 then some (t.name, -1, declT d t.fields) else none) 0 d.types
def types3 (d : Ds) : Option Flt := firstE (fun i f => if oneT d d.globals i f ≠ 0 then some (f.name, -1, oneT d d.globals i f) else none) 0 d.globals
def typesT (d : Ds) : Option Flt := (types1 d).or ((types2 d).or (types3 d))
def headsT (d : Ds) : Option Flt := firstE (fun i p => if (d.procs.take i).any (fun g => decide (g.name = p.name)) = true then some (p.name, -1, 10) else if declT d (p.params ++ p.locals) ≠ 0 then some (p.name, -1, declT d (p.params ++ p.locals)) else if p.result ≠ sE ∧ known d p.result = false then some (p.name, -1, 9) else none) 0 d.procs
def form1 (d : Ds) : Option Flt := firstE (fun i m => if (d.measures.take i).any (fun g => decide (g.name = m.name)) = true then some (m.name, -1, 10) else if isNode d m.ty = false then some (m.name, -1, 9) else none) 0 d.measures
def form2 (d : Ds) : Option Flt := firstE (fun i m => if (d.invs.take i).any (fun g => decide (g.name = m.name)) = true then some (m.name, -1, 10) else if m.ty ≠ sE ∧ isNode d m.ty = false then some (m.name, -1, 9) else none) 0 d.invs
def sPot : ByteArray := strB [112, 111, 116, 101, 110, 116, 105, 97, 108]
def form3 (d : Ds) : Option Flt := firstE (fun _ m => if m.ty ≠ sE ∧ isNode d m.ty = false then some (sPot, -1, 9) else none) 0 d.pots
def form4 (d : Ds) : Option Flt := firstE (fun i b => if (prOf d b.proc).isNone = true then some (b.proc, -1, 9) else if (d.bounds.take i).any (fun g => decide (g.proc = b.proc)) = true then some (b.proc, -1, 10) else none) 0 d.bounds
def formT (d : Ds) : Option Flt := (form1 d).or ((form2 d).or ((form3 d).or (form4 d)))
def bodiesT (d : Ds) : Option Flt := firstE (fun _ p => if (stsT d (inProcS d p) p.result 0 p.body).2 ≠ 0 then some (p.name, (stsT d (inProcS d p) p.result 0 p.body).1, (stsT d (inProcS d p) p.result 0 p.body).2) else none) 0 d.procs
def wantT (d : Ds) (sc : Sc) (e : E) (t : ByteArray) : Int := if (exprT d sc e).2 ≠ 0 then (exprT d sc e).2 else if (exprT d sc e).1 = t then 0 else 11
def exp1 (d : Ds) : Option Flt := firstE (fun _ m => if wantT d (inFormS d m.ty) m.x sInt ≠ 0 then some (m.name, -1, wantT d (inFormS d m.ty) m.x sInt) else none) 0 d.measures
def exp2 (d : Ds) : Option Flt := firstE (fun _ m => if wantT d (inFormS d m.ty) m.x sBool ≠ 0 then some (m.name, -1, wantT d (inFormS d m.ty) m.x sBool) else none) 0 d.invs
def exp3 (d : Ds) : Option Flt := firstE (fun _ m => if wantT d (inFormS d m.ty) m.x sInt ≠ 0 then some (sPot, -1, wantT d (inFormS d m.ty) m.x sInt) else none) 0 d.pots
def prD : Pr := ⟨sE, ⟨none, 0, 0⟩, [], sE, ⟨none, 0, 0⟩, [], ⟨none, 0, 0⟩, []⟩
def exp4 (d : Ds) : Option Flt := firstE (fun _ m => if wantT d (inBoundS d ((prOf d m.proc).getD prD)) m.x sInt ≠ 0 then some (m.proc, -1, wantT d (inBoundS d ((prOf d m.proc).getD prD)) m.x sInt) else none) 0 d.bounds
def expsT (d : Ds) : Option Flt := (exp1 d).or ((exp2 d).or ((exp3 d).or (exp4 d)))
def chkT (d : Ds) : Option Flt := (typesT d).or ((headsT d).or ((formT d).or ((bodiesT d).or (expsT d))))
def fltR (o : Option Flt) : Flt := o.getD (sE, 0, 0)
end Go.Proofs
namespace Go.Proofs
open Go Go.Sx
attribute [local irreducible] Go.Sx.Tri
noncomputable def ti (t : Nat) : TypeInfo := (Tryz.prog.info? t).getD default
theorem app174 {V0 V : Mem} {ty : Nat} {x y : Operand} {vals : Operand → Value} {s u : Sl} {xs ys : List ByteArray} (hx : vals x = .slice s.p s.n s.c) (hy : vals y = .slice u.p u.n u.c) (own : Own V0 V 9 1 s (xs.flatMap strRow1)) (hnew : RowsAt V u 1 (ys.map strRow1))
    (hfit : xs.length + ys.length ≤ 2147483648) {q : Value → Mem → Prop} (hq : ∀ s' V', Own V0 V' 9 1 s' ((xs ++ ys).flatMap strRow1) → q (.slice s'.p s'.n s'.c) V') :
    GenK Tryz.prog (.call { callee := .builtin .append, args := #[x, y], argTypes := #[174, 174] }) ty vals V q := by
  have hi : Tryz.prog.info? 9 = some (ti 9) := by kernel_rfl
  have hz : (ti 9).zero = some ((ti 9).zero.getD undef) := by kernel_rfl
  have h1 : (ti 9).size = 1 := by kernel_rfl
  have h2 : ((ti 9).zero.getD undef).cells.size = 1 := by kernel_rfl
  have h3 : (ti 9).bytes ≤ 65536 := by rw [show (ti 9).bytes = 16 by kernel_rfl]; omega
  exact GenK.appendS Tryz.underlying174 hi hz h1 h2 (by decide) h3 hx hy own (fun _ => rfl) hnew (fun x u hu => by simp [strRow1, vS, vI, Sl.v] at hu; rcases hu with rfl | rfl <;> rfl) hfit hq
theorem app23 {V0 V : Mem} {ty : Nat} {x y : Operand} {vals : Operand → Value} {s u : Sl} {xs ys : List Fld} (hx : vals x = .slice s.p s.n s.c) (hy : vals y = .slice u.p u.n u.c) (own : Own V0 V 110 2 s (xs.flatMap Fld.row)) (hnew : RowsAt V u 2 (ys.map Fld.row))
    (hfit : xs.length + ys.length ≤ 2147483648) {q : Value → Mem → Prop} (hq : ∀ s' V', Own V0 V' 110 2 s' ((xs ++ ys).flatMap Fld.row) → q (.slice s'.p s'.n s'.c) V') :
    GenK Tryz.prog (.call { callee := .builtin .append, args := #[x, y], argTypes := #[23, 23] }) ty vals V q := by
  have hi : Tryz.prog.info? 110 = some (ti 110) := by kernel_rfl
  have hz : (ti 110).zero = some ((ti 110).zero.getD undef) := by kernel_rfl
  have h1 : (ti 110).size = 2 := by kernel_rfl
  have h2 : ((ti 110).zero.getD undef).cells.size = 2 := by kernel_rfl
  have h3 : (ti 110).bytes ≤ 65536 := by rw [show (ti 110).bytes = 32 by kernel_rfl]; omega
  exact GenK.appendS Tryz.underlying23 hi hz h1 h2 (by decide) h3 hx hy own (fun _ => rfl) hnew (fun x u hu => by simp [Fld.row, vS, vI, Sl.v] at hu; rcases hu with rfl | rfl <;> rfl) hfit hq
end Go.Proofs
namespace Go.Proofs
open Go Go.Sx
attribute [local irreducible] Go.Sx.Tri
def idxI {α : Type} (p : α → Bool) (xs : List α) : Int := match xs.findIdx? p with | some i => (i : Int) | none => -1
theorem idxI_found {α : Type} {p : α → Bool} {xs : List α} {i : Nat} {x : α} (h : AllTo (fun y => !p y) xs i) (hx : xs[i]? = some x) (hp : p x = true) : idxI p xs = i := by
  have hl := (List.getElem?_eq_some_iff.1 hx).1
  have hg := (List.getElem?_eq_some_iff.1 hx).2
  have : xs.findIdx? p = some i := List.findIdx?_eq_some_iff_getElem.2 ⟨hl, by rw [hg]; exact hp, fun j hj => by
    have := h j _ hj (List.getElem?_eq_getElem (Nat.lt_trans hj hl))
    simpa using this⟩
  unfold idxI; rw [this]
theorem idxI_none {α : Type} {p : α → Bool} {xs : List α} {i : Nat} (h : AllTo (fun y => !p y) xs i) (hi : xs.length ≤ i) : idxI p xs = -1 := by
  have : xs.findIdx? p = none := List.findIdx?_eq_none_iff.2 fun x hx => by
    obtain ⟨j, hj, rfl⟩ := List.mem_iff_getElem.1 hx
    have := h j _ (by omega) (List.getElem?_eq_getElem hj)
    simpa using this
  unfold idxI; rw [this]
theorem idx_cases {α : Type} (p : α → Bool) (xs : List α) : (idxI p xs = -1 ∧ xs.find? p = none ∧ xs.any p = false) ∨ ∃ (i : Nat) (x : α), idxI p xs = i ∧ xs[i]? = some x ∧ xs.find? p = some x ∧ i < xs.length ∧ p x = true ∧ x ∈ xs ∧ xs.any p = true ∧ (xs.take i).any p = false := by
  cases h : xs.findIdx? p with
  | none =>
    have h' := List.findIdx?_eq_none_iff.1 h
    refine .inl ⟨by unfold idxI; rw [h], List.find?_eq_none.2 fun x hx => by rw [h' x hx]; simp, List.any_eq_false.2 fun x hx => by rw [h' x hx]; simp⟩
  | some i =>
    obtain ⟨hl, hp, hn⟩ := List.findIdx?_eq_some_iff_getElem.1 h
    refine .inr ⟨i, xs[i], by unfold idxI; rw [h], List.getElem?_eq_getElem hl, ?_, hl, hp, List.getElem_mem _, List.any_eq_true.2 ⟨_, List.getElem_mem _, hp⟩, ?_⟩
    · rw [List.find?_eq_some_iff_getElem]
      exact ⟨hp, i, hl, rfl, fun j hj => by simpa using hn j hj⟩
    · rw [List.any_eq_false]
      intro x hx
      obtain ⟨j, hj, rfl⟩ := List.mem_iff_getElem.1 hx
      rw [List.length_take] at hj
      rw [List.getElem_take]
      exact hn j (by omega)
theorem notAll_succ {α : Type} {p : α → Bool} {xs : List α} {i : Nat} {x : α} (h : AllTo (fun y => !p y) xs i) (hx : xs[i]? = some x) (hp : p x = false) : AllTo (fun y => !p y) xs (i + 1) := h.succ hx (by simp [hp])
section
variable {V : Mem} {d : Ds}
theorem fitAll_nil (fs : List Fld) : fitAll d [] fs = true := by simp [fitAll]
theorem str_at {l : Sl} {xs : List ByteArray} (hl : RowsAt V l 1 (xs.map strRow1)) {i : Nat} (hi : i < xs.length) : ¬ (l.p = none) ∧ (i : Int) < (l.n : Int) ∧ V.rowp l.p i 1 = some [.string (xs.getD i sE)] := by
  have hn := hl.n_eq
  have hlt : (i : Int) < (l.n : Int) := by omega
  obtain ⟨y, hm', hx', hdr', hl', hp', hz', hrow'⟩ := hl.get hlt
  rw [List.getD_eq_getElem?_getD, hx']
  rw [Nat.mul_one] at hrow'
  exact ⟨hp', hlt, hrow'⟩
end
end Go.Proofs
namespace Go.Proofs
open Go Go.Sx
attribute [local irreducible] Go.Sx.Tri
theorem arity {op n : Int} {s : ByteArray} {len : Int} (h : nodeB op n s len = true) : (op = 5 → len = 1) ∧ (op = 14 ∨ op = 15 → len = 2) ∧ (op = 21 → len = 3) ∧ len ≤ 6 := by
  unfold nodeB partsN at h
  rw [Bool.and_eq_true, Bool.and_eq_true, decide_eq_true_eq] at h
  obtain ⟨⟨h, -⟩, -⟩ := h
  grind
theorem okE_node {d : Int} {e : E} (h : okE d e = true) : nodeB e.op e.n e.s e.k.length = true := by
  cases e
  unfold okE at h
  rw [Bool.and_eq_true, Bool.and_eq_true] at h
  exact h.1.2
theorem okEs_mem {d : Int} : ∀ {l : List E}, okEs d l = true → ∀ x ∈ l, okE d x = true
  | [], _, x, hx => absurd hx List.not_mem_nil
  | y :: l, h, x, hx => by
    unfold okEs at h
    rw [Bool.and_eq_true] at h
    rcases List.mem_cons.1 hx with rfl | hx
    · exact h.1
    · exact okEs_mem h.2 x hx
theorem okE_kids {d : Int} {e : E} (h : okE d e = true) : ∀ x ∈ e.k, okE (d + 1) x = true := by
  cases e
  unfold okE at h
  rw [Bool.and_eq_true] at h
  exact okEs_mem h.2
theorem ownS {V0 V : Mem} {s : Sl} {l : List ByteArray} (h : Own V0 V 9 1 s (l.flatMap strRow1)) : RowsAt V s 1 (l.map strRow1) := h.rows (fun _ => rfl) (by decide)
theorem one_row {V : Mem} {b : Nat} {s : ByteArray} {t : Nat} (h : V b = some (.cells #[.string s] t (0, 0))) : RowsAt V ⟨some ⟨b, 0, none⟩, 1, 1⟩ 1 ([s].map strRow1) :=
  RowsAt.cells (xs := [s]) (row := strRow1) h rfl (fun _ => rfl) rfl (by simp)
section
variable {V : Mem} {d : Ds} {sc : Sc} {sl : Sl}
end
end Go.Proofs
namespace Go.Proofs
open Go Go.Sx
attribute [local irreducible] Go.Sx.Tri
theorem ownF {V0 V : Mem} {s : Sl} {l : List Fld} (h : Own V0 V 110 2 s (l.flatMap Fld.row)) : RowsAt V s 2 (l.map Fld.row) := h.rows (fun _ => rfl) (by decide)
section
variable {V : Mem} {d : Ds}
def Small (d : Ds) : Prop := d.globals.length ≤ 1000 ∧ ∀ p ∈ d.procs, p.params.length ≤ 1000 ∧ p.locals.length ≤ 1000
theorem shape_arity {op : Int} {s : ByteArray} {es : List E} {nl nx : Int} (h : shapeR op s es nl nx = true) : (op = 6 → ∃ e0, es = [e0] ∧ e0.op = 7) ∧ (op = 1 ∨ op = 3 ∨ op = 4 → es.length = 1) ∧ (op = 2 → es.length = 2) ∧ (op = 5 → es.length ≤ 1) ∧ es.length ≤ 2 ∧ (∀ x ∈ es, okE 1 x = true) := by
  unfold shapeR at h
  rw [Bool.and_eq_true] at h
  obtain ⟨h, hv⟩ := h
  have hall : ∀ x ∈ es, okE 1 x = true := fun x hx => by
    have := List.all_eq_true.1 hv x hx
    unfold validE at this
    exact (of_decide_eq_true this).1
  unfold shapeB at h
  have h6 : op = 6 → ∃ e0, es = [e0] ∧ e0.op = 7 := fun h6 => by
    subst h6
    simp only [show ¬ ((6 : Int) = 1) by decide, show ¬ ((6 : Int) = 2) by decide, show ¬ ((6 : Int) = 3) by decide, show ¬ ((6 : Int) = 4) by decide, show ¬ ((6 : Int) = 5) by decide, if_false, if_true, decide_eq_true_eq] at h
    match es, h with
    | [e0], h => exact ⟨e0, rfl, h.2.2.1⟩
    | [], h => simp at h
    | _ :: _ :: _, h => simp at h; omega
  refine ⟨h6, ?_, ?_, ?_, ?_, hall⟩ <;> grind
end
end Go.Proofs
namespace Go.Proofs
open Go Go.Sx
attribute [local irreducible] Go.Sx.Tri
theorem okS_shape {d : Int} {x : S} (h : okS d x = true) : shapeR x.op x.s x.es x.ls.length x.xs.length = true ∧ okSs (d + 1) x.ls = true ∧ okSs (d + 1) x.xs = true := by
  cases x
  unfold okS at h
  rw [Bool.and_eq_true, Bool.and_eq_true, Bool.and_eq_true] at h
  exact ⟨h.1.1.2, h.1.2, h.2⟩
theorem okSs_mem {d : Int} : ∀ {l : List S}, okSs d l = true → ∀ x ∈ l, okS d x = true
  | [], _, x, hx => absurd hx List.not_mem_nil
  | y :: l, h, x, hx => by
    unfold okSs at h
    rw [Bool.and_eq_true] at h
    rcases List.mem_cons.1 hx with rfl | hx
    · exact h.1
    · exact okSs_mem h.2 x hx
theorem szS_eq (x : S) : szS x = 1 + szSs x.ls + szSs x.xs := by cases x; unfold szS; rfl
theorem szSs_cons (x : S) (l : List S) : szSs (x :: l) = szS x + szSs l := by rw [szSs]
mutual
theorem stT_n (d : Ds) (sc : Sc) (result : ByteArray) (n : Int) : ∀ x : S, (stT d sc result n x).2 = 0 → (stT d sc result n x).1 = n + szS x
  | .mk op s _ es _ ls _ xs => by
    have h1 := stsT_n d sc result (n + 1) ls
    have h2 := stsT_n d sc result (stsT d sc result (n + 1) ls).1 xs
    unfold stT szS
    intro h
    split at h
    · rename_i h'; exact absurd h h'
    · rename_i h'
      rw [if_neg h']
      split at h
      · rename_i h3; exact absurd h h3
      · rename_i h3
        rw [if_neg h3, h2 h, h1 (by simpa using h3)]
        omega
theorem stsT_n (d : Ds) (sc : Sc) (result : ByteArray) (n : Int) : ∀ l : List S, (stsT d sc result n l).2 = 0 → (stsT d sc result n l).1 = n + szSs l
  | [] => by simp [stsT, szSs]
  | x :: xs => by
    have h1 := stT_n d sc result n x
    have h2 := stsT_n d sc result (stT d sc result n x).1 xs
    rw [stsT_cons, szSs_cons]
    intro h
    split at h
    · rename_i h'; exact absurd h h'
    · rename_i h'
      rw [if_neg h', h2 h, h1 (by simpa using h')]
      omega
end
theorem firstE_some {α β : Type} {f : Nat → α → Option β} {i : Nat} {x : α} {xs : List α} {b : β} (h : f i x = some b) : firstE f i (x :: xs) = some b := by unfold firstE; rw [h]
theorem firstE_none {α β : Type} {f : Nat → α → Option β} {i : Nat} {x : α} {xs : List α} (h : f i x = none) : firstE f i (x :: xs) = firstE f (i + 1) xs := by rw [firstE, h]
section
variable {V : Mem} {d : Ds}
def plainT (s : ByteArray) : Bool := decide (s = sInt) || decide (s = sBool)
end
end Go.Proofs
namespace Go.Proofs
open Go Go.Sx
attribute [local irreducible] Go.Sx.Tri
section
variable {V : Mem} {d : Ds}
def f2 (o : Option Flt) : Value := .tuple #[.string (fltR o).1, .int .i64 (fltR o).2.2]
end
end Go.Proofs
namespace Go.Proofs
open Go Go.Sx
attribute [local irreducible] Go.Sx.Tri
section
variable {V : Mem} {d : Ds}
end
end Go.Proofs
namespace Go.Proofs
open Go Go.Sx
attribute [local irreducible] Go.Sx.Tri
structure VParts (d : Ds) : Prop where
  small : Small d
  ms : ∀ m ∈ d.measures, okE 1 m.x = true
  is : ∀ m ∈ d.invs, okE 1 m.x = true
  qs : ∀ m ∈ d.pots, okE 1 m.x = true
  bs : ∀ m ∈ d.bounds, okE 1 m.x = true
  ps : ∀ p ∈ d.procs, okSs 1 p.body = true ∧ szSs p.body ≤ 200
theorem validE_ok {e : E} (h : validE e = true) : okE 1 e = true := by
  unfold validE at h; exact (of_decide_eq_true h).1
theorem vparts {d : Ds} (h : validD d = true) : VParts d := by
  unfold validD formB at h
  simp only [Bool.and_eq_true, decide_eq_true_eq, List.all_eq_true] at h
  obtain ⟨⟨⟨⟨⟨⟨⟨-, -⟩, hg⟩, -⟩, -⟩, -⟩, hp⟩, ⟨⟨hm, hi⟩, hq⟩, hb⟩ := h
  have fl : ∀ {l : List Fld} {n : Int}, fldsB l n = true → n ≤ 100 → l.length ≤ 1000 := fun h h' => by
    unfold fldsB at h
    rw [Bool.and_eq_true, decide_eq_true_eq] at h
    omega
  refine ⟨⟨fl hg (by omega), fun p hpp => ?_⟩, fun m hmm => ?_, fun m hmm => ?_, fun m hmm => ?_, fun m hmm => ?_, fun p hpp => ?_⟩
  · have := hp p hpp
    unfold prB at this
    simp only [Bool.and_eq_true] at this
    exact ⟨fl this.1.1.1.2 (by omega), fl this.1.1.2 (by omega)⟩
  · have := hm m hmm
    unfold msB at this
    simp only [Bool.and_eq_true] at this
    exact validE_ok this.2
  · have := hi m hmm
    unfold ivB at this
    simp only [Bool.and_eq_true] at this
    exact validE_ok this.2
  · have := hq m hmm
    unfold poB at this
    simp only [Bool.and_eq_true] at this
    exact validE_ok this.2
  · have := hb m hmm
    unfold bdB at this
    simp only [Bool.and_eq_true] at this
    exact validE_ok this.2
  · have := hp p hpp
    unfold prB at this
    simp only [Bool.and_eq_true] at this
    have := this.2
    unfold validSs at this
    exact of_decide_eq_true this
theorem firstE_mem {α β : Type} {f : Nat → α → Option β} {b : β} : ∀ {i : Nat} {xs : List α}, firstE f i xs = some b → ∃ j x, x ∈ xs ∧ f j x = some b
  | _, [], h => by cases h
  | i, x :: xs, h => by
    cases hx : f i x with
    | some c => rw [firstE_some hx] at h; cases h; exact ⟨i, x, by simp, hx⟩
    | none =>
      rw [firstE_none hx] at h
      obtain ⟨j, y, hy, e⟩ := firstE_mem h
      exact ⟨j, y, by simp [hy], e⟩
def Bad (r : Flt) : Prop := r.2.2 ≠ 0 ∧ r.2.1 = -1
theorem or_bad {P : Flt → Prop} {a b : Option Flt} (ha : ∀ r, a = some r → P r) (hb : ∀ r, b = some r → P r) : ∀ r, a.or b = some r → P r := fun r h => by
  cases a with
  | none => exact hb r (by simpa using h)
  | some x => exact ha r (by simpa using h)
theorem types_bad (d : Ds) : ∀ r, typesT d = some r → Bad r := by
  refine or_bad (fun r h => ?_) (or_bad (fun r h => ?_) (fun r h => ?_)) <;> obtain ⟨j, x, hx, e⟩ := firstE_mem h
  · split at e
    · cases e; exact ⟨by simp, rfl⟩
    · cases e
  · split at e
    · rename_i h'; cases e; exact ⟨h', rfl⟩
    · cases e
  · split at e
    · rename_i h'; cases e; exact ⟨h', rfl⟩
    · cases e
theorem heads_bad (d : Ds) : ∀ r, headsT d = some r → Bad r := fun r h => by
  obtain ⟨j, x, hx, e⟩ := firstE_mem h
  split at e
  · cases e; exact ⟨by simp, rfl⟩
  · split at e
    · rename_i h'; cases e; exact ⟨h', rfl⟩
    · split at e
      · cases e; exact ⟨by simp, rfl⟩
      · cases e
theorem form_bad (d : Ds) : ∀ r, formT d = some r → Bad r := by
  refine or_bad (fun r h => ?_) (or_bad (fun r h => ?_) (or_bad (fun r h => ?_) (fun r h => ?_))) <;> obtain ⟨j, x, hx, e⟩ := firstE_mem h
  · split at e
    · cases e; exact ⟨by simp, rfl⟩
    · split at e
      · cases e; exact ⟨by simp, rfl⟩
      · cases e
  · split at e
    · cases e; exact ⟨by simp, rfl⟩
    · split at e
      · cases e; exact ⟨by simp, rfl⟩
      · cases e
  · split at e
    · cases e; exact ⟨by simp, rfl⟩
    · cases e
  · split at e
    · cases e; exact ⟨by simp, rfl⟩
    · split at e
      · cases e; exact ⟨by simp, rfl⟩
      · cases e
theorem exps_bad (d : Ds) : ∀ r, expsT d = some r → Bad r := by
  refine or_bad (fun r h => ?_) (or_bad (fun r h => ?_) (or_bad (fun r h => ?_) (fun r h => ?_))) <;> obtain ⟨j, x, hx, e⟩ := firstE_mem h <;> split at e
  all_goals first | (cases e; done) | (rename_i h'; cases e; exact ⟨h', rfl⟩)
theorem bounds_proc {d : Ds} (hform : formT d = none) : ∀ g ∈ d.bounds, ∃ p, prOf d g.proc = some p := by
  have h4 : form4 d = none := by
    unfold formT at hform
    cases h : form4 d with
    | none => rfl
    | some r => rw [h] at hform; simp at hform
  have aux : ∀ (l : List Bd) (i : Nat), firstE (fun i b => if (prOf d b.proc).isNone = true then some ((b.proc, -1, 9) : Flt) else if (d.bounds.take i).any (fun g => decide (g.proc = b.proc)) = true then some (b.proc, -1, 10) else none) i l = none → ∀ g ∈ l, ∃ p, prOf d g.proc = some p := by
    intro l
    induction l with
    | nil => intro i _ g hg; exact absurd hg List.not_mem_nil
    | cons y l ih =>
      intro i h g hg
      cases hy : prOf d y.proc with
      | none => rw [firstE_some (b := (y.proc, -1, 9)) (if_pos (by rw [hy]; rfl))] at h; cases h
      | some p =>
        rcases List.mem_cons.1 hg with rfl | hg
        · exact ⟨p, hy⟩
        · by_cases ht : (d.bounds.take i).any (fun g => decide (g.proc = y.proc)) = true
          · rw [firstE_some (b := (y.proc, -1, 10)) ((if_neg (by rw [hy]; simp)).trans (if_pos ht))] at h; cases h
          · rw [firstE_none ((if_neg (by rw [hy]; simp)).trans (if_neg ht))] at h
            exact ih _ h g hg
  exact aux d.bounds 0 h4
theorem rowp_part {V : Mem} {p : Option Addr} {off n j m : Nat} {vs : List Value} (h : V.rowp p off n = some vs) (hj : 0 < j) (hl : j + m ≤ n) : V.rowp (ptrAdd (ptrAdd p off) j) 0 m = some ((vs.drop j).take m) := by
  cases p with
  | none => cases h
  | some a =>
    have e : ((a.add off).add j).add 0 = ⟨a.block, a.off + off + j, none⟩ := by
      unfold Addr.add
      by_cases h1 : off = 0 <;> simp [h1, show ¬ j = 0 by omega]
    have e0 : (a.add off).off = a.off + off ∧ (a.add off).block = a.block := by
      unfold Addr.add
      by_cases h1 : off = 0 <;> simp [h1]
    show V.row (((a.add off).add j).add 0) m = _
    have h : V.row (a.add off) n = some vs := h
    rw [e]
    unfold Mem.row at h ⊢
    rw [e0.2] at h
    split at h
    · rename_i c x y hb
      simp only [hb]
      split at h
      · rename_i hc
        rw [e0.1] at hc h
        cases h
        rw [if_pos ⟨rfl, by omega⟩, List.drop_take, List.take_take, List.drop_drop, Nat.min_eq_left (by omega)]
      · cases h
    · cases h
section
variable {V : Mem} {d : Ds}
def f3 (o : Option Flt) : Value := .tuple #[.string (fltR o).1, .int .i64 (fltR o).2.1, .int .i64 (fltR o).2.2]
end
end Go.Proofs
namespace Go.Proofs
open Go Go.Sx
attribute [local irreducible] Go.Sx.Tri
structure ChkAt (V : Mem) (c : Option Addr) (d : Ds) : Prop where
  at_ : ∃ cb mt mp t, c = some ⟨cb, 0, none⟩ ∧ V cb = some (.cells (d.row ++ [Value.map (some mt), Value.map (some mp)]).toArray t (0, 0)) ∧ MapAt V mt (fun k => (tyOf d k).map Ty.v) ∧ MapAt V mp (fun k => (prOf d k).map Pr.v)
  ok : Ds.Ok V d
theorem ChkAt.sub {V V' : Mem} {c : Option Addr} {d : Ds} (h : ChkAt V c d) (hs : V.sub V') : ChkAt V' c d := by
  obtain ⟨cb, mt, mp, t, h1, h2, h3, h4⟩ := h.at_
  exact ⟨⟨cb, mt, mp, t, h1, hs _ _ h2, h3.sub hs, h4.sub hs⟩, h.ok.sub hs⟩
theorem ChkAt.nn {V : Mem} {c : Option Addr} {d : Ds} (h : ChkAt V c d) : ¬ (c = none) := by
  obtain ⟨cb, mt, mp, t, h1, h2, h3, h4⟩ := h.at_
  rw [h1]; simp
theorem ChkAt.cell {V : Mem} {c : Option Addr} {d : Ds} (h : ChkAt V c d) {i : Nat} {v : Value} (hv : (d.row)[i]? = some v) : V.rowp c (i * 1) 1 = some [v] := by
  obtain ⟨cb, mt, mp, t, h1, h2, h3, h4⟩ := h.at_
  rw [h1, Nat.mul_one]
  have hi := (List.getElem?_eq_some_iff.1 hv).1
  have h8 : d.row.length = 8 := rfl
  rw [row_cells h2 i 1 (by simp; omega)]
  have : (d.row ++ [Value.map (some mt), Value.map (some mp)])[i]? = some v := by rw [List.getElem?_append_left hi]; exact hv
  have hl : i < (d.row ++ [Value.map (some mt), Value.map (some mp)]).length := by rw [List.length_append]; omega
  show some (((d.row ++ [Value.map (some mt), Value.map (some mp)]).drop i).take 1) = _
  rw [List.drop_eq_getElem_cons hl, (List.getElem?_eq_some_iff.1 this).2]
  rfl
theorem ChkAt.types {V : Mem} {c : Option Addr} {d : Ds} (h : ChkAt V c d) : ∃ mt, V.rowp c 8 1 = some [.map (some mt)] ∧ MapAt V mt (fun k => (tyOf d k).map Ty.v) := by
  obtain ⟨cb, mt, mp, t, h1, h2, h3, h4⟩ := h.at_
  exact ⟨mt, by rw [h1, row_cells h2 8 1 (by simp [Ds.row])]; rfl, h3⟩
theorem ChkAt.procs {V : Mem} {c : Option Addr} {d : Ds} (h : ChkAt V c d) : ∃ mt, V.rowp c 9 1 = some [.map (some mt)] ∧ MapAt V mt (fun k => (prOf d k).map Pr.v) := by
  obtain ⟨cb, mt, mp, t, h1, h2, h3, h4⟩ := h.at_
  exact ⟨mp, by rw [h1, row_cells h2 9 1 (by simp [Ds.row])]; rfl, h4⟩
def varOf (l : List Fld) (k : ByteArray) : Option ByteArray := (l.find? fun f => decide (f.name = k)).map (·.ty)
theorem varOf_look (l : List Fld) (k : ByteArray) : lookF l k = (varOf l k).getD sE := by
  induction l with
  | nil => rfl
  | cons f l ih =>
    unfold varOf lookF
    rw [List.find?_cons]
    by_cases h : f.name = k
    · rw [if_pos h, decide_eq_true h]; rfl
    · rw [if_neg h, decide_eq_false h]; exact ih
def NE (l : List Fld) : Prop := ∀ f ∈ l, f.ty ≠ sE
theorem NE.some {l : List Fld} (h : NE l) {k t : ByteArray} (hv : varOf l k = some t) : t ≠ sE := by
  unfold varOf at hv
  obtain ⟨f, hf, rfl⟩ := Option.map_eq_some_iff.1 hv
  exact h f (List.mem_of_find?_eq_some hf)
structure ScpAt (V : Mem) (m : Option Nat) (sc : Sc) : Prop where
  at_ : ∃ mb, m = some mb ∧ MapAt V mb (fun k => (varOf sc.vars k).map Value.string)
  ne : NE sc.vars
theorem ScpAt.sub {V V' : Mem} {m : Option Nat} {sc : Sc} (h : ScpAt V m sc) (hs : V.sub V') : ScpAt V' m sc := by
  obtain ⟨mb, h1, h2⟩ := h.at_
  exact ⟨⟨mb, h1, h2.sub hs⟩, h.ne⟩
def sV (c : Option Addr) (m : Option Nat) (sc : Sc) : Value := .agg #[.pointer c, .map m, .bool sc.body]
structure VNe (d : Ds) : Prop where
  types : ∀ t ∈ d.types, NE t.fields
  globals : NE d.globals
  params : ∀ p ∈ d.procs, NE p.params ∧ NE p.locals
theorem typB_ne {s : ByteArray} (h : typB s = true) : s ≠ sE := by
  intro e
  subst e
  have : typB sE = false := by
    unfold typB isName
    have h1 : ¬ (sE = sInt) := by decide
    have h2 : ¬ (sE = sBool) := by decide
    rw [decide_eq_false h1, decide_eq_false h2, decide_eq_false (fun h => h.1 rfl)]
    rfl
  rw [this] at h; cases h
theorem flds_ne {l : List Fld} {n : Int} (h : fldsB l n = true) : NE l := fun f hf => by
  unfold fldsB at h
  rw [Bool.and_eq_true] at h
  have := List.all_eq_true.1 h.2 f hf
  unfold fldB at this
  rw [Bool.and_eq_true] at this
  exact typB_ne this.2
theorem vne {d : Ds} (h : validD d = true) : VNe d := by
  unfold validD at h
  simp only [Bool.and_eq_true, decide_eq_true_eq, List.all_eq_true] at h
  obtain ⟨⟨⟨⟨⟨⟨⟨-, -⟩, hg⟩, -⟩, -⟩, ht⟩, hp⟩, -⟩ := h
  refine ⟨fun t htt => ?_, flds_ne hg, fun p hpp => ?_⟩
  · have := ht t htt
    unfold tyB at this
    rw [Bool.and_eq_true] at this
    exact flds_ne this.2
  · have := hp p hpp
    unfold prB at this
    simp only [Bool.and_eq_true] at this
    exact ⟨flds_ne this.1.1.1.2, flds_ne this.1.1.2⟩
theorem zero101 (w : World) : (zeroValue 101).run Tryz.prog w = .ok (.agg #[.string ByteArray.empty, .slice none 0 0]) w := by kernel_rfl
theorem zero146 (w : World) : (zeroValue 146).run Tryz.prog w = .ok (.agg #[.string ByteArray.empty, .slice none 0 0, .string ByteArray.empty, .slice none 0 0, .slice none 0 0]) w := by kernel_rfl
theorem zero9 (w : World) : (zeroValue 9).run Tryz.prog w = .ok (.string ByteArray.empty) w := by kernel_rfl
theorem tyOf_node (d : Ds) (s : ByteArray) : (tyOf d s).isSome = isNode d s := by
  unfold tyOf isNode
  rcases idx_cases (fun t : Ty => decide (t.name = s)) d.types with ⟨h1, h2, h3⟩ | ⟨i, x, h1, h2, h3, h4, h5, h6, h7, _⟩
  · rw [h2, h3]; rfl
  · rw [h3, h7]; rfl
theorem tyOf_mem {d : Ds} {s : ByteArray} {t : Ty} (h : tyOf d s = some t) : t ∈ d.types := List.mem_of_find?_eq_some h
theorem prOf_mem {d : Ds} {s : ByteArray} {t : Pr} (h : prOf d s = some t) : t ∈ d.procs := List.mem_of_find?_eq_some h
section
variable {V : Mem} {d : Ds} {c : Option Addr} {m : Option Nat} {sc : Sc}
theorem c88 (h : ChkAt V c d) {s : ByteArray} : PP 88 [.pointer c, .string s] V (.bool (isNode d s)) := by
  refine x88 ?_
  unfold w88
  obtain ⟨mt, h1, h2⟩ := h.types
  refine ⟨h.nn, h.nn, _, h1, LookK.str Tryz.underlying207 Tryz.underlying9 zero101 h2 ?_⟩
  rw [← tyOf_node]
  cases ht : tyOf d s with
  | none => exact ⟨_, ⟨none, 0, 0⟩, _, rfl, rfl, rfl⟩
  | some t => exact ⟨_, t.fs, _, rfl, rfl, rfl⟩
theorem c220 (h : ChkAt V c d) {s : ByteArray} : PP 220 [.pointer c, .string s] V (.bool (known d s)) := by
  refine x220 ?_
  unfold w220
  refine ⟨fun h1 => ?_, fun h1 => ⟨fun h2 => ?_, fun h2 => (c88 h).call ⟨_, rfl, ?_⟩⟩⟩ <;> simp [known, sInt, sBool, *]
theorem c194 (h : ChkAt V c d) {s t : ByteArray} : PP 194 [.pointer c, .string s, .string t] V (.bool (fits d s t)) := by
  refine x194 ?_
  unfold w194 fits sNil
  refine ⟨fun h1 => ?_, fun h1 => ⟨fun h2 => (c88 h).call ⟨_, rfl, ?_⟩, fun h2 => ?_⟩⟩
  · rw [decide_eq_true h1]; exact ⟨rfl, rfl⟩
  · rw [decide_eq_false h1, decide_eq_true h2]; exact ⟨rfl, rfl⟩
  · rw [decide_eq_false h1, decide_eq_false h2]; exact ⟨rfl, rfl⟩
theorem c198 (h : ChkAt V c d) (hv : VNe d) {s t : ByteArray} : PP 198 [.pointer c, .string s, .string t] V (.tuple #[.string (fieldT d s t).1, .int .i64 (fieldT d s t).2]) := by
  refine x198 ?_
  unfold w198
  obtain ⟨mt, h1, h2⟩ := h.types
  refine ⟨h.nn, h.nn, _, h1, LookK.str Tryz.underlying207 Tryz.underlying9 zero101 h2 ?_⟩
  unfold fieldT
  cases ht : tyOf d s with
  | none => exact ⟨_, ⟨none, 0, 0⟩, _, rfl, fun h => absurd h (by simp), fun _ => ⟨rfl, rfl⟩⟩
  | some ty =>
    refine ⟨_, ty.fs, _, rfl, fun _ => ?_, fun h => absurd rfl h⟩
    have hr := (h.ok.typesOk ty (tyOf_mem ht)).fields
    have hne := hv.types ty (tyOf_mem ht)
    simp only
    refine loop3 ty.fields.length (fun i V1 => V = V1 ∧ lookF ty.fields t = lookF (ty.fields.drop i) t) ⟨rfl, rfl⟩ ?_
    rintro i b c V1 J hi ⟨rfl, ha⟩ hJ
    refine ⟨fun hlt => ?_, fun hge => ?_⟩
    · obtain ⟨x, hm, hx, hdr, hl, hp, hz, hrow⟩ := hr.get hlt
      rw [hdr, lookF] at ha
      refine ⟨hp, hz, hlt, _, _, hrow, fun he => ?_, fun he => ⟨hr.succ hlt, hJ hl _ _ _ ⟨rfl, ?_⟩⟩⟩
      · rw [if_pos he] at ha
        rw [ha, if_neg (hne x hm)]; exact ⟨rfl, rfl⟩
      · rw [ha, if_neg he]
    · rw [(hr.done hge).1, lookF] at ha
      rw [ha, if_pos rfl]; exact ⟨rfl, rfl⟩
theorem c239 {b : Nat} {s : ByteArray} {t : Nat} (hb : V b = some (cell (.string s) t)) {x : Ms} : PP 239 [x.v, .pointer (some ⟨b, 0, none⟩)] V (.bool (decide (x.name = s))) := by
  refine x239 (v0 := x.name) (v1 := x.ty) (v2 := x.nil) (v3 := x.x.op) (v4 := x.x.n) (v5 := x.x.s) (v6 := x.x.l) ?_
  unfold w239
  exact ⟨_, row1 hb, rfl, rfl⟩
theorem idxMs {l : Sl} {xs : List Ms} {g : Nat} {first caps : List Value} (h : RowsAt V l 7 (xs.map Ms.row)) (hg : CallOk g) (p : Ms → Bool) (hp : ∀ x ∈ xs, PP g (first ++ [x.v] ++ caps) V (.bool (p x))) :
    PP 70 [l.v, .func (.func g) first.toArray caps.toArray] V (.int .i64 (idxI p xs)) := by
  refine Tri.mono (g70 hg (fun i V1 => V = V1 ∧ AllTo (fun y => !p y) xs i) (fun i V1 => V = V1 ∧ ∃ x, xs[i]? = some x ∧ p x = true ∧ AllTo (fun y => !p y) xs i) (fun i V1 hs => hs.1 ▸ h) ⟨rfl, AllTo.zero _ _⟩ ?_) ?_
  · rintro i x V1 hx ⟨rfl, hs⟩
    have hm : x ∈ xs := List.mem_of_getElem? hx
    exact (hp x hm).callv ⟨_, rfl, fun hb => ⟨rfl, x, hx, hb, hs⟩, fun hb => ⟨rfl, notAll_succ hs hx hb⟩⟩
  · rintro e V' (⟨i, rfl, rfl, x, hx, hb, hs⟩ | ⟨rfl, rfl, hs⟩)
    · rw [idxI_found hs hx hb]; exact ⟨rfl, rfl⟩
    · rw [idxI_none hs (Nat.le_refl _)]; exact ⟨rfl, rfl⟩
theorem c193 (h : ChkAt V c d) {s : ByteArray} {l : Sl} {xs : List ByteArray} (hl : RowsAt V l 1 (xs.map strRow1)) : PP 193 [sV c m sc, .string s, l.v] V (.tuple #[.string (measT d s xs).1, .int .i64 (measT d s xs).2]) := by
  refine Pur.mk (x193 (v0 := c) (v1 := m) (v2 := sc.body) (v4 := l) ?_)
  unfold w193
  refine ⟨h.nn, h.nn, ptrAdd_ne h.nn, d.ms, h.cell (i := 4) rfl, fun b hb => ?_⟩
  have hs := Mem.sub_new hb (cell (.string s) 9)
  have h1 := h.sub hs
  have hl1 := hl.sub hs
  refine (idxMs (l := d.ms) (first := []) (caps := [.pointer (some ⟨b, 0, none⟩)]) h1.ok.measures Tryz.call239 (fun t => decide (t.name = s)) (fun x _ => c239 (Mem.set_same _ _ _))).call ⟨_, rfl, ?_⟩
  unfold measT meOf
  have key : ∀ {X : ByteArray × Int} (a : ByteArray) (n : Int), X = (a, n) → (Ending.returned (.tuple #[.string a, .int .i64 n]) = Ending.returned (.tuple #[.string X.1, .int .i64 X.2]) ∧ V.sub (V.set b (cell (.string s) 9))) := fun a n h => by rw [h]; exact ⟨rfl, hs⟩
  rcases idx_cases (fun t : Ms => decide (t.name = s)) d.measures with ⟨h1, h2, h3⟩ | ⟨i, x, i1, i2, i3, i4, i5, i6, i7, _⟩
  · rw [h1, h2]; exact ⟨fun _ => key _ _ rfl, fun h => absurd h (by decide)⟩
  · rw [i1, i3]
    have hn := h1.ok.measures.n_eq
    have hlt : (i : Int) < (d.ms.n : Int) := by omega
    obtain ⟨y, hm, hx, hdr, hll, hp, hz, hrow⟩ := h1.ok.measures.get hlt
    rw [i2] at hx
    cases hx
    have e1 := hl1.n_eq
    refine ⟨fun h => absurd h (by omega), fun _ => ⟨fun he => ?_, fun he => key _ _ (if_pos (by omega))⟩⟩
    obtain ⟨a1, a2, a3⟩ := str_at hl1 (i := 0) (by omega)
    have e2 : ¬ (xs.length ≠ 1) := by omega
    refine ⟨a1, by omega, by omega, _, a3, h.nn, h.nn, ptrAdd_ne h.nn, d.ms, h1.cell (i := 4) rfl, hp, hz, hlt, ptrAdd_ne hp, _, _, _, _, _, _, _, hrow, (c194 h1).call ⟨_, rfl, fun hf => key _ _ ?_, fun hf => key _ _ ?_⟩⟩
    · simp only [e2, if_false]; unfold needT; rw [if_pos hf]; rfl
    · simp only [e2, if_false]; unfold needT; rw [if_neg hf]; rfl
theorem c197 {b : Nat} {s : ByteArray} {t : Nat} (hb : V b = some (cell (.string s) t)) {x : ByteArray} : PP 197 [strV x, .pointer (some ⟨b, 0, none⟩)] V (.bool (!decide (x = s))) := by
  refine x197 ?_
  unfold w197
  exact ⟨_, row1 hb, rfl, rfl⟩
theorem c195 {b t : Nat} {l : Sl} {xs : List ByteArray} (hb : V b = some (cell (.slice l.p l.n l.c) t)) (hl : RowsAt V l 1 (xs.map strRow1)) {s r : ByteArray} :
    PP 195 [.string s, .string r, .pointer (some ⟨b, 0, none⟩)] V (.tuple #[.string (needT (allT xs s) r).1, .int .i64 (needT (allT xs s) r).2]) := by
  refine Pur.mk (x195 ?_)
  unfold w195
  refine ⟨l, row1 hb, fun b1 hb1 => ?_⟩
  have hs := Mem.sub_new hb1 (cell (.string s) 9)
  refine (c196 (l := l) (first := []) (caps := [.pointer (some ⟨b1, 0, none⟩)]) (hl.sub hs) Tryz.call197 (fun x => !decide (x = s)) (fun x _ => c197 (Mem.set_same _ _ _))).call ⟨_, rfl, fun h => ?_, fun h => ?_⟩
  · rw [List.any_eq_not_all_not] at h
    have : allT xs s = false := by unfold allT; simpa using h
    rw [this]; exact ⟨rfl, hs⟩
  · rw [List.any_eq_not_all_not] at h
    have : allT xs s = true := by unfold allT; simpa using h
    rw [this]; exact ⟨rfl, hs⟩
end
end Go.Proofs
namespace Go.Proofs
open Go Go.Sx
attribute [local irreducible] Go.Sx.Tri
theorem fits_first {d : Ds} {a b : ByteArray} (h : fits d a b = true) : (if a = sNil then b else a) = b := by
  unfold fits at h
  split
  · rfl
  · rename_i hn
    rw [decide_eq_false hn, Bool.false_and, Bool.or_false] at h
    exact of_decide_eq_true h
theorem fits_second {d : Ds} {a b : ByteArray} (h : ¬ fits d a b = true) (h2 : fits d b a = true) : (if a = sNil then b else a) = a := by
  split
  · rename_i hn
    unfold fits at h h2
    by_cases e : b = a
    · exact e
    · rw [decide_eq_false e, Bool.false_or, Bool.and_eq_true] at h2
      exact absurd (by rw [hn, of_decide_eq_true h2.1]; simp) h
  · rfl
def callRaw (d : Ds) (sc : Sc) (s : ByteArray) (l : List ByteArray) : ByteArray × Int := if sc.body = true then callT d s l else measT d s l
theorem measT_ne {d : Ds} {s : ByteArray} {l : List ByteArray} (h : (measT d s l).2 = 0) : (measT d s l).1 ≠ sE := by
  unfold measT at h ⊢
  split at h
  · exact absurd h (by decide)
  · split at h
    · exact absurd h (by decide)
    · rename_i h'
      simp only [if_neg h']
      unfold needT at h ⊢
      split at h
      · rename_i h2; rw [if_pos h2]; simp only; decide
      · exact absurd h (by decide)
theorem callE_raw (d : Ds) (sc : Sc) (s : ByteArray) (l : List ByteArray) : callE d sc s l = if (callRaw d sc s l).2 = 0 ∧ (callRaw d sc s l).1 = sE then (sE, 11) else callRaw d sc s l := by
  unfold callE callRaw
  by_cases hb : sc.body = true
  · simp only [if_pos hb]
  · simp only [if_neg hb]
    split
    · rename_i h; exact absurd h.2 (measT_ne h.1)
    · rfl
section
variable {V : Mem} {d : Ds} {c : Option Addr} {m : Option Nat} {sc : Sc}
def ImpE (V : Mem) (d : Ds) (c : Option Addr) (m : Option Nat) (sc : Sc) (e : E) : Prop := ∀ V1, V.sub V1 → PP 90 [sV c m sc, e.v] V1 (.tuple #[.string (exprT d sc e).1, .int .i64 (exprT d sc e).2])
def rawT (d : Ds) (sc : Sc) (e : E) : ByteArray × Int := if (partsT d sc [] e.k).2 ≠ 0 then (sE, (partsT d sc [] e.k).2) else callRaw d sc e.s (partsT d sc [] e.k).1
theorem impCall (h : ChkAt V c d) (e : E) (he : E.Ok V e) (hlen : (e.k.length : Int) ≤ 6) (hk : ∀ x ∈ e.k, ImpE V d c m sc x) :
    PP 139 [sV c m sc, e.v] V (.tuple #[.string (rawT d sc e).1, .int .i64 (rawT d sc e).2]) := by
  have hr := he.rows
  refine Pur.mk (x139 (v0 := c) (v1 := m) (v2 := sc.body) (v3 := e.op) (v4 := e.n) (v5 := e.s) (v6 := e.l) ?_)
  unfold w139 rawT
  refine loop4s (mk := .string) (mc := .int .i64) (md := fun s : Sl => .slice s.p s.n s.c) (strB []) 0 ⟨none, 0, 0⟩ inj_sl e.k.length (fun i s V1 => ∃ acc, Own V V1 9 1 s (acc.flatMap strRow1) ∧ partsT d sc [] e.k = partsT d sc acc (e.k.drop i) ∧ acc.length = i) ⟨[], Own.nil (Mem.sub.refl _) _ _, rfl, rfl⟩ ?_
  rintro i b b' s V1 J hi ⟨acc, hown, hp, hlen'⟩ hJ
  have hr1 := hr.sub hown.sub
  refine ⟨fun hlt => ?_, fun hge => ?_⟩
  · obtain ⟨x, hm, hx, hdr, hl, hpp, hz, hrow⟩ := hr1.get hlt
    rw [hdr, partsT_cons] at hp
    refine ⟨hpp, hz, hlt, _, _, _, _, hrow, (hk x hm V1 hown.sub).call ⟨_, _, rfl, fun h0 => ?_, fun h0 => ?_⟩⟩
    · intro b1 hb1
      rw [if_neg (fun h => h h0)] at hp
      refine app174 (s := s) (u := ⟨some ⟨b1, 0, none⟩, 1, 1⟩) (xs := acc) (ys := [(exprT d sc x).1]) rfl rfl (hown.new hb1 _) (one_row (Mem.set_same _ _ _)) (by simp; omega) fun s' V' ho => ⟨s', rfl, hr1.succ hlt, hJ hl _ _ _ _ ⟨_, ho, hp, by simp [hlen']⟩⟩
    · rw [if_pos h0] at hp
      rw [hp]
      simp only [ne_eq, h0, not_false_eq_true, if_true]
      exact ⟨by trivial, hown.sub⟩
  · rw [(hr1.done hge).1, partsT_nil] at hp
    rw [hp]
    simp only [ne_eq, not_true_eq_false, if_false]
    have hrows := ownS hown
    have h1 := h.sub hown.sub
    have key : ∀ {X : ByteArray × Int} (a : ByteArray) (n : Int), X = (a, n) → (Ending.returned (.tuple #[.string a, .int .i64 n]) = Ending.returned (.tuple #[.string X.1, .int .i64 X.2]) ∧ V.sub V1) := fun a n h => by rw [h]; exact ⟨rfl, hown.sub⟩
    unfold callRaw
    refine ⟨fun hb => ?_, fun hb => ?_⟩
    · rw [if_pos hb]
      obtain ⟨mt, q1, q2⟩ := h1.procs
      refine ⟨h.nn, h.nn, _, q1, LookK.str Tryz.underlying208 Tryz.underlying9 zero146 q2 ?_⟩
      unfold callT
      cases hpr : prOf d e.s with
      | none => exact ⟨_, ⟨none, 0, 0⟩, _, ⟨none, 0, 0⟩, ⟨none, 0, 0⟩, _, rfl, fun h => absurd h (by simp), fun _ => key _ _ rfl⟩
      | some p =>
        have hox := h1.ok.procsOk p (prOf_mem hpr)
        have e1 := hrows.n_eq
        have e2 := hox.params.n_eq
        refine ⟨_, p.ps, _, p.ls, p.bs, _, rfl, fun _ => ⟨fun he => ?_, fun he => key _ _ (if_pos (by omega))⟩, fun h => absurd rfl h⟩
        have hle : acc.length = p.params.length := by omega
        simp only [hle, ne_eq, not_true_eq_false, if_false]
        refine loop3 acc.length (fun i V2 => V1 = V2 ∧ fitAll d acc p.params = fitAll d (acc.drop i) (p.params.drop i)) ⟨rfl, rfl⟩ ?_
        rintro j b c' V2 J hi ⟨rfl, ha⟩ hJ
        refine ⟨fun hlt => ?_, fun hge => ?_⟩
        · obtain ⟨y, hm', hx', hdr', hl', hp', hz', hrow'⟩ := hrows.get hlt
          obtain ⟨f, hmf, hxf, hdf, hlf, hpf, hzf, hrowf⟩ := hox.params.get (i := j) (by omega)
          rw [hdr', hdf, fitAll] at ha
          refine ⟨hp', hz', hlt, _, hrow', hpf, hzf, by omega, ptrAdd_ne hpf, _, _, hrowf, (c194 h1).call ⟨_, rfl, fun hb => ⟨hrows.succ hlt, hJ hl' _ _ _ ⟨rfl, ?_⟩⟩, fun hb => key _ _ ?_⟩⟩
          · rw [ha, hb, Bool.true_and]
          · rw [eq_false_of_ne_true hb, Bool.false_and] at ha; rw [ha]; rfl
        · rw [(hrows.done hge).1, fitAll_nil] at ha
          exact key _ _ (by rw [ha]; rfl)
    · rw [if_neg hb]
      exact (c193 h1 hrows).call ⟨_, _, rfl, key _ _ rfl⟩
theorem impNode (h : ChkAt V c d) (hv : VNe d) (hs : ScpAt V m sc) {e : E} {l : Sl} {xs : List ByteArray} (hl : RowsAt V l 1 (xs.map strRow1)) (hlen : xs.length = e.k.length) (hok : nodeB e.op e.n e.s e.k.length = true) (h7 : e.op ≠ 7) :
    PP 140 [sV c m sc, e.v, l.v] V (.tuple #[.string (nodeT d sc e.op e.s xs).1, .int .i64 (nodeT d sc e.op e.s xs).2]) := by
  have har := arity hok
  refine Pur.mk (x140 (v0 := c) (v1 := m) (v2 := sc.body) (v3 := e.op) (v4 := e.n) (v5 := e.s) (v6 := e.l) (v7 := l) ?_)
  unfold w140
  generalize hX : nodeT d sc e.op e.s xs = X
  have key : ∀ {V1 : Mem} (a : ByteArray) (n : Int), V.sub V1 → X = (a, n) → (Ending.returned (.tuple #[.string a, .int .i64 n]) = Ending.returned (.tuple #[.string X.1, .int .i64 X.2]) ∧ V.sub V1) := fun a n h1 h => by rw [h]; exact ⟨rfl, h1⟩
  have rf := Mem.sub.refl V
  have cFits := fun a b => c194 h (s := a) (t := b)
  have at0 := fun h : 0 < xs.length => str_at hl h
  have at1 := fun h : 1 < xs.length => str_at hl h
  have at2 := fun h : 2 < xs.length => str_at hl h
  have call : ∀ (s r : ByteArray), X = needT (allT xs s) r → PubT [(.slice l.p l.n l.c)] 174 V fun v8 V1 =>
      Tri Tryz.prog 195 #[(.string s), (.string r), (.pointer (ptrAdd v8 0))] V1 fun z V2 => ∃ v9 : ByteArray, ∃ v10 : Int, z = .returned (.tuple #[(.string v9), (.int .i64 v10)]) ∧ (Ending.returned (.tuple #[(.string v9), (.int .i64 v10)]) = Ending.returned (.tuple #[.string X.1, .int .i64 X.2]) ∧ V.sub V2) := fun s r hx b hb => by
    have h1 := Mem.sub_new hb (cell (.slice l.p l.n l.c) 174)
    exact (c195 (l := l) (Mem.set_same _ _ _) (hl.sub h1)).call ⟨_, _, rfl, key _ _ h1 (by rw [hx])⟩
  unfold nodeT at hX
  refine ⟨fun o1 => key _ _ rf ?_, fun o1 => ⟨fun o2 => key _ _ rf ?_, fun o2 => ⟨fun o3 => key _ _ rf ?_, fun o3 => ⟨fun o4 => ?_, fun o4 => ⟨fun o5 => ?_, fun o5 => ⟨fun o6 => ?_, fun o6 => ⟨fun o14 => ?_, fun o14 => ⟨fun o15 => ?_, fun o15 => ⟨fun o16 => call _ _ ?_, fun o16 => ⟨fun o17 => call _ _ ?_, fun o17 => ⟨fun o18 => call _ _ ?_, fun o18 => ⟨fun o19 => call _ _ ?_, fun o19 => ⟨fun o20 => call _ _ ?_, fun o20 => ⟨fun o21 => ?_, fun o21 => call _ _ ?_⟩⟩⟩⟩⟩⟩⟩⟩⟩⟩⟩⟩⟩⟩
  · rw [← hX, if_pos o1]; rfl
  · rw [← hX, if_neg o1, if_pos o2]; rfl
  · rw [← hX, if_neg o1, if_neg o2, if_pos o3]; rfl
  · rw [if_neg o1, if_neg o2, if_neg o3, if_pos o4, varOf_look] at hX
    obtain ⟨mb, rfl, hmap⟩ := hs.at_
    refine LookK.str Tryz.underlying163 Tryz.underlying9 zero9 hmap ?_
    cases hvv : varOf sc.vars e.s with
    | none =>
      rw [hvv, Option.getD_none] at hX
      exact ⟨_, _, rfl, fun h => absurd h (by simp), fun _ => key _ _ rf (by rw [← hX, if_pos rfl]; rfl)⟩
    | some t =>
      rw [hvv, Option.getD_some] at hX
      exact ⟨t, _, rfl, fun _ => key _ _ rf (by rw [← hX, if_neg (hs.ne.some hvv)]), fun h => absurd rfl h⟩
  · rw [if_neg o1, if_neg o2, if_neg o3, if_neg o4, if_pos o5] at hX
    obtain ⟨a1, a2, a3⟩ := at0 (by have := har.1 o5; omega)
    exact ⟨a1, by omega, a2, _, a3, (c198 h hv).call ⟨_, _, rfl, key _ _ rf (by rw [← hX])⟩⟩
  · rw [if_neg o1, if_neg o2, if_neg o3, if_neg o4, if_neg o5, if_pos o6] at hX
    refine ⟨fun hb => (c88 h).call ⟨_, rfl, fun hn => key _ _ rf ?_, fun hn => key _ _ rf ?_⟩, fun hb => key _ _ rf ?_⟩
    · rw [← hX, if_neg (by rw [hb]; simp), if_neg (by rw [hn]; simp)]
    · rw [← hX, if_neg (by rw [hb]; simp), if_pos (eq_false_of_ne_true hn)]; rfl
    · rw [← hX, if_pos (eq_false_of_ne_true hb)]; rfl
  iterate 2
    · rw [if_neg o1, if_neg o2, if_neg o3, if_neg o4, if_neg o5, if_neg o6, if_neg h7, if_pos (by omega)] at hX
      obtain ⟨a1, a2, a3⟩ := at0 (by have := har.2.1 (by omega); omega)
      obtain ⟨b1, b2, b3⟩ := at1 (by have := har.2.1 (by omega); omega)
      refine ⟨a1, by omega, a2, _, a3, b1, by omega, b2, _, b3, (cFits _ _).call ⟨_, rfl, fun h => key _ _ rf ?_, fun h => ⟨b1, by omega, b2, _, b3, a1, by omega, a2, _, a3, (cFits _ _).call ⟨_, rfl, fun h2 => key _ _ rf ?_, fun h2 => key _ _ rf ?_⟩⟩⟩⟩
      · rw [← hX, h]; rfl
      · rw [← hX, h2, Bool.or_true]; rfl
      · rw [← hX, eq_false_of_ne_true h, eq_false_of_ne_true h2]; rfl
  iterate 2
    · rw [if_neg o1, if_neg o2, if_neg o3, if_neg o4, if_neg o5, if_neg o6, if_neg h7, if_neg (by omega), if_pos (by omega)] at hX
      exact hX.symm
  iterate 3
    · rw [if_neg o1, if_neg o2, if_neg o3, if_neg o4, if_neg o5, if_neg o6, if_neg h7, if_neg (by omega), if_neg (by omega), if_pos (by omega)] at hX
      exact hX.symm
  · rw [if_neg o1, if_neg o2, if_neg o3, if_neg o4, if_neg o5, if_neg o6, if_neg h7, if_neg (by omega), if_neg (by omega), if_neg (by omega), if_pos o21] at hX
    obtain ⟨a1, a2, a3⟩ := at0 (by have := har.2.2.1 o21; omega)
    obtain ⟨b1, b2, b3⟩ := at1 (by have := har.2.2.1 o21; omega)
    obtain ⟨c1, c2, c3⟩ := at2 (by have := har.2.2.1 o21; omega)
    refine ⟨a1, by omega, a2, _, a3, fun h0 => ⟨b1, by omega, b2, _, b3, c1, by omega, c2, _, c3, (cFits _ _).call ⟨_, rfl, fun h => ⟨c1, by omega, c2, _, c3, key _ _ rf ?_⟩, fun h => ⟨c1, by omega, c2, _, c3, b1, by omega, b2, _, b3, (cFits _ _).call ⟨_, rfl, fun h2 => ⟨b1, by omega, b2, _, b3, key _ _ rf ?_⟩, fun h2 => key _ _ rf ?_⟩⟩⟩⟩, fun h0 => key _ _ rf ?_⟩
    · rw [← hX, decide_eq_true (show xs.getD 0 sE = sBool from h0), h, fits_first h]; rfl
    · rw [← hX, decide_eq_true (show xs.getD 0 sE = sBool from h0), h2, Bool.or_true, fits_second h h2]; rfl
    · rw [← hX, decide_eq_true (show xs.getD 0 sE = sBool from h0), eq_false_of_ne_true h, eq_false_of_ne_true h2]; rfl
    · rw [← hX, decide_eq_false (show ¬ xs.getD 0 sE = sBool from h0)]; rfl
  · rw [if_neg o1, if_neg o2, if_neg o3, if_neg o4, if_neg o5, if_neg o6, if_neg h7, if_neg (by omega), if_neg (by omega), if_neg (by omega), if_neg o21] at hX
    exact hX.symm
theorem impExpr (h : ChkAt V c d) (hv : VNe d) (hs : ScpAt V m sc) : ∀ (e : E), E.Ok V e → ∀ dd, okE dd e = true → ImpE V d c m sc e := by
  intro e
  induction e using E.ind with
  | h e ih =>
  intro he dd hok V1 hV
  have har := arity (okE_node hok)
  have hk : ∀ x ∈ e.k, ImpE V1 d c m sc x := fun x hx V2 h2 => ih x hx (he.kids x hx) (dd + 1) (okE_kids hok x hx) V2 (hV.trans h2)
  have h1 := h.sub hV
  refine Pur.mk (x90 (v0 := c) (v1 := m) (v2 := sc.body) (v3 := e.op) (v4 := e.n) (v5 := e.s) (v6 := e.l) ?_)
  unfold w90
  have hlen := partsT_len d sc e.k []
  refine ⟨fun o7 => (impCall h1 e (he.sub hV) har.2.2.2 hk).call ⟨_, _, rfl, ?_⟩, fun o7 => ?_⟩
  · have hex : exprT d sc e = if (rawT d sc e).2 = 0 ∧ (rawT d sc e).1 = sE then (sE, 11) else rawT d sc e := by
      rw [exprT_eq]
      unfold rawT
      by_cases h0 : (partsT d sc [] e.k).2 ≠ 0
      · rw [if_pos h0, if_pos h0, if_neg (fun h => h0 h.1)]
      · rw [if_neg h0, if_neg h0]
        unfold nodeT
        rw [if_neg (by omega), if_neg (by omega), if_neg (by omega), if_neg (by omega), if_neg (by omega), if_neg (by omega), if_pos o7, callE_raw]
    rw [hex]
    refine ⟨fun h0 => ⟨fun h2 => ?_, fun h2 => ?_⟩, fun h0 => ?_⟩
    · rw [if_pos ⟨h0, h2⟩]; exact ⟨rfl, Mem.sub.refl _⟩
    · rw [if_neg (fun h => h2 h.2)]; exact ⟨rfl, Mem.sub.refl _⟩
    · rw [if_neg (fun h => h0 h.1)]; exact ⟨rfl, Mem.sub.refl _⟩
  · rw [exprT_eq]
    have hr := (he.sub hV).rows
    refine loop4s (mk := .string) (mc := .int .i64) (md := fun s : Sl => .slice s.p s.n s.c) (strB []) 0 ⟨none, 0, 0⟩ inj_sl e.k.length (fun i s V2 => ∃ acc, Own V1 V2 9 1 s (acc.flatMap strRow1) ∧ partsT d sc [] e.k = partsT d sc acc (e.k.drop i) ∧ acc.length = i) ⟨[], Own.nil (Mem.sub.refl _) _ _, rfl, rfl⟩ ?_
    rintro i b b' s V2 J hi ⟨acc, hown, hp, hlen'⟩ hJ
    have hr1 := hr.sub hown.sub
    refine ⟨fun hlt => ?_, fun hge => ?_⟩
    · obtain ⟨x, hm, hx, hdr, hl, hpp, hz, hrow⟩ := hr1.get hlt
      rw [hdr, partsT_cons] at hp
      refine ⟨hpp, hz, hlt, _, _, _, _, hrow, (hk x hm V2 hown.sub).call ⟨_, _, rfl, fun h0 => ?_, fun h0 => ?_⟩⟩
      · intro b1 hb1
        rw [if_neg (fun h => h h0)] at hp
        refine app174 (s := s) (u := ⟨some ⟨b1, 0, none⟩, 1, 1⟩) (xs := acc) (ys := [(exprT d sc x).1]) rfl rfl (hown.new hb1 _) (one_row (Mem.set_same _ _ _)) (by simp; omega) fun s' V' ho => ⟨s', rfl, hr1.succ hlt, hJ hl _ _ _ _ ⟨_, ho, hp, by simp [hlen']⟩⟩
      · rw [if_pos h0] at hp
        rw [hp]
        simp only [ne_eq, h0, not_false_eq_true, if_true]
        exact ⟨by trivial, hown.sub⟩
    · have hge' := (hr1.done hge).2
      rw [(hr1.done hge).1, partsT_nil] at hp
      rw [hp]
      simp only [ne_eq, not_true_eq_false, if_false]
      refine (impNode (h1.sub hown.sub) hv ((hs.sub hV).sub hown.sub) (ownS hown) (by omega) (okE_node hok) o7).call ⟨_, _, rfl, rfl, hown.sub⟩
end
end Go.Proofs
namespace Go.Proofs
open Go Go.Sx
attribute [local irreducible] Go.Sx.Tri
theorem pre_eq {c k : Nat} {p : Option Addr} : (if (c : Int) = (0 : Int) then p else ptrAdd p ((0 : Int).toNat * k)) = p := by
  have : ptrAdd p ((0 : Int).toNat * k) = p := by
    rw [show (0 : Int).toNat * k = 0 by simp]
    cases p with
    | none => rfl
    | some a => show some (a.add 0) = _; unfold Addr.add; rw [if_pos rfl]
  split
  · rfl
  · exact this
theorem sub0 {n : Nat} : ((n : Int) - (0 : Int)).toNat = n := by omega
theorem RowsAt.pre {α : Type} {V : Mem} {l : Sl} {sz : Nat} {row : α → List Value} {xs : List α} (h : RowsAt V l sz (xs.map row)) {i : Nat} (hi : i ≤ xs.length) : RowsAt V ⟨l.p, i, l.c⟩ sz ((xs.take i).map row) := by
  have hn := h.n_eq
  have hc := h.cap
  refine ⟨by simp [hi], by show i ≤ l.c; omega, h.fit, fun r hr => h.size r ?_, fun j r hj => h.at_ j r ?_⟩
  · rw [List.map_take] at hr; exact List.mem_of_mem_take hr
  · rw [List.map_take, List.getElem?_take] at hj
    split at hj
    · exact hj
    · cases hj
theorem rowp_self {V : Mem} {p : Option Addr} {off n : Nat} {vs : List Value} (h : V.rowp p off n = some vs) : V.rowp (ptrAdd p off) 0 n = some vs := by
  cases p with
  | none => cases h
  | some a =>
    have : (a.add off).add 0 = a.add off := by rw [add_add]; rfl
    show V.row ((a.add off).add 0) n = _
    rw [this]; exact h
theorem c216 {V : Mem} {x : Ty} : PP 216 [x.v] V (.string x.name) := by
  refine x216 (v0 := x.name) (v1 := x.fs) ?_
  exact ⟨rfl, rfl⟩
theorem c246 {V : Mem} {b1 b2 b3 t1 t2 t3 i : Nat} {l : Sl} {xs : List Ty} {x y : Ty} (h1 : V b1 = some (cell (.func (.func 216) #[] #[]) t1)) (h2 : V b2 = some (cell (.slice l.p l.n l.c) t2)) (h3 : V b3 = some (cell (.int .i64 i) t3))
    (hr : RowsAt V l 2 (xs.map Ty.row)) (hy : xs[i]? = some y) : PP 246 [x.v, .pointer (some ⟨b1, 0, none⟩), .pointer (some ⟨b2, 0, none⟩), .pointer (some ⟨b3, 0, none⟩)] V (.bool (decide (x.name = y.name))) := by
  refine x246 (v0 := x.name) (v1 := x.fs) ?_
  unfold w246
  have hn := hr.n_eq
  have hil := (List.getElem?_eq_some_iff.1 hy).1
  have hlt : (i : Int) < (l.n : Int) := by omega
  obtain ⟨y', hm, hx, hdr, hl, hp, hz, hrow⟩ := hr.get hlt
  rw [hy] at hx
  cases hx
  exact ⟨.func (.func 216) #[] #[], rfl, row1 h1, .func (.func 216) #[] #[], rfl, row1 h1, l, row1 h2, _, row1 h3, hp, hz, hlt, _, _, hrow, _, _, _, rfl, Tryz.call216, (c216 (x := x)).callv (first := []) (caps := []) ⟨_, rfl, rowp_self hrow, hp, hz, hlt, row1 h3, row1 h2, row1 h1, _, _, _, rfl, Tryz.call216, (c216 (x := y)).callv (first := []) (caps := []) ⟨_, rfl, rfl, rfl⟩⟩⟩
theorem c215 {V : Mem} {l : Sl} {xs : List Ty} {i : Nat} {y : Ty} (hr : RowsAt V l 2 (xs.map Ty.row)) (hy : xs[i]? = some y) : PP 215 [l.v, .int .i64 i, .func (.func 216) #[] #[]] V (.bool ((xs.take i).any fun g => decide (g.name = y.name))) := by
  refine Pur.mk (x215 (v0 := l) (v2 := .func (.func 216) #[] #[]) ?_)
  unfold w215
  have hn := hr.n_eq
  have hc := hr.cap
  have hil := (List.getElem?_eq_some_iff.1 hy).1
  refine ⟨⟨by omega, by omega, by omega⟩, fun b1 hb1 b2 hb2 b3 hb3 => ?_⟩
  have s := (Mem.sub_new hb1 _).trans ((Mem.sub_new hb2 _).trans (Mem.sub_new hb3 (cell (.int .i64 i) 3)))
  simp only [pre_eq, sub0]
  refine (c155 (l := ⟨l.p, i, l.c⟩) (first := []) (caps := [.pointer (some ⟨b1, 0, none⟩), .pointer (some ⟨b2, 0, none⟩), .pointer (some ⟨b3, 0, none⟩)]) (RowsAt.pre (hr.sub s) (by omega)) Tryz.call246 (fun g => decide (g.name = y.name)) (fun x _ => c246 ((Mem.sub_new hb3 _) _ _ ((Mem.sub_new hb2 _) _ _ (Mem.set_same _ _ _))) ((Mem.sub_new hb3 _) _ _ (Mem.set_same _ _ _)) (Mem.set_same _ _ _) (hr.sub s) hy)).call ⟨_, rfl, rfl, s⟩
theorem c219 {V : Mem} {x : Fld} : PP 219 [x.v] V (.string x.name) := by
  refine x219 (v0 := x.name) (v1 := x.ty) ?_
  exact ⟨rfl, rfl⟩
theorem c248 {V : Mem} {b1 b2 b3 t1 t2 t3 i : Nat} {l : Sl} {xs : List Fld} {x y : Fld} (h1 : V b1 = some (cell (.func (.func 219) #[] #[]) t1)) (h2 : V b2 = some (cell (.slice l.p l.n l.c) t2)) (h3 : V b3 = some (cell (.int .i64 i) t3))
    (hr : RowsAt V l 2 (xs.map Fld.row)) (hy : xs[i]? = some y) : PP 248 [x.v, .pointer (some ⟨b1, 0, none⟩), .pointer (some ⟨b2, 0, none⟩), .pointer (some ⟨b3, 0, none⟩)] V (.bool (decide (x.name = y.name))) := by
  refine x248 (v0 := x.name) (v1 := x.ty) ?_
  unfold w248
  have hn := hr.n_eq
  have hil := (List.getElem?_eq_some_iff.1 hy).1
  have hlt : (i : Int) < (l.n : Int) := by omega
  obtain ⟨y', hm, hx, hdr, hl, hp, hz, hrow⟩ := hr.get hlt
  rw [hy] at hx
  cases hx
  exact ⟨.func (.func 219) #[] #[], rfl, row1 h1, .func (.func 219) #[] #[], rfl, row1 h1, l, row1 h2, _, row1 h3, hp, hz, hlt, _, _, hrow, _, _, _, rfl, Tryz.call219, (c219 (x := x)).callv (first := []) (caps := []) ⟨_, rfl, rowp_self hrow, hp, hz, hlt, row1 h3, row1 h2, row1 h1, _, _, _, rfl, Tryz.call219, (c219 (x := y)).callv (first := []) (caps := []) ⟨_, rfl, rfl, rfl⟩⟩⟩
theorem c218 {V : Mem} {l : Sl} {xs : List Fld} {i : Nat} {y : Fld} (hr : RowsAt V l 2 (xs.map Fld.row)) (hy : xs[i]? = some y) : PP 218 [l.v, .int .i64 i, .func (.func 219) #[] #[]] V (.bool ((xs.take i).any fun g => decide (g.name = y.name))) := by
  refine Pur.mk (x218 (v0 := l) (v2 := .func (.func 219) #[] #[]) ?_)
  unfold w218
  have hn := hr.n_eq
  have hc := hr.cap
  have hil := (List.getElem?_eq_some_iff.1 hy).1
  refine ⟨⟨by omega, by omega, by omega⟩, fun b1 hb1 b2 hb2 b3 hb3 => ?_⟩
  have s := (Mem.sub_new hb1 _).trans ((Mem.sub_new hb2 _).trans (Mem.sub_new hb3 (cell (.int .i64 i) 3)))
  simp only [pre_eq, sub0]
  refine (c168 (l := ⟨l.p, i, l.c⟩) (first := []) (caps := [.pointer (some ⟨b1, 0, none⟩), .pointer (some ⟨b2, 0, none⟩), .pointer (some ⟨b3, 0, none⟩)]) (RowsAt.pre (hr.sub s) (by omega)) Tryz.call248 (fun g => decide (g.name = y.name)) (fun x _ => c248 ((Mem.sub_new hb3 _) _ _ ((Mem.sub_new hb2 _) _ _ (Mem.set_same _ _ _))) ((Mem.sub_new hb3 _) _ _ (Mem.set_same _ _ _)) (Mem.set_same _ _ _) (hr.sub s) hy)).call ⟨_, rfl, rfl, s⟩
theorem c222 {V : Mem} {x : Pr} : PP 222 [x.v] V (.string x.name) := by
  refine x222 (v0 := x.name) (v1 := x.ps) (v2 := x.result) (v3 := x.ls) (v4 := x.bs) ?_
  exact ⟨rfl, rfl⟩
theorem c249 {V : Mem} {b1 b2 b3 t1 t2 t3 i : Nat} {l : Sl} {xs : List Pr} {x y : Pr} (h1 : V b1 = some (cell (.func (.func 222) #[] #[]) t1)) (h2 : V b2 = some (cell (.slice l.p l.n l.c) t2)) (h3 : V b3 = some (cell (.int .i64 i) t3))
    (hr : RowsAt V l 5 (xs.map Pr.row)) (hy : xs[i]? = some y) : PP 249 [x.v, .pointer (some ⟨b1, 0, none⟩), .pointer (some ⟨b2, 0, none⟩), .pointer (some ⟨b3, 0, none⟩)] V (.bool (decide (x.name = y.name))) := by
  refine x249 (v0 := x.name) (v1 := x.ps) (v2 := x.result) (v3 := x.ls) (v4 := x.bs) ?_
  unfold w249
  have hn := hr.n_eq
  have hil := (List.getElem?_eq_some_iff.1 hy).1
  have hlt : (i : Int) < (l.n : Int) := by omega
  obtain ⟨y', hm, hx, hdr, hl, hp, hz, hrow⟩ := hr.get hlt
  rw [hy] at hx
  cases hx
  exact ⟨.func (.func 222) #[] #[], rfl, row1 h1, .func (.func 222) #[] #[], rfl, row1 h1, l, row1 h2, _, row1 h3, hp, hz, hlt, _, _, _, _, _, hrow, _, _, _, rfl, Tryz.call222, (c222 (x := x)).callv (first := []) (caps := []) ⟨_, rfl, rowp_self hrow, hp, hz, hlt, row1 h3, row1 h2, row1 h1, _, _, _, rfl, Tryz.call222, (c222 (x := y)).callv (first := []) (caps := []) ⟨_, rfl, rfl, rfl⟩⟩⟩
theorem c221 {V : Mem} {l : Sl} {xs : List Pr} {i : Nat} {y : Pr} (hr : RowsAt V l 5 (xs.map Pr.row)) (hy : xs[i]? = some y) : PP 221 [l.v, .int .i64 i, .func (.func 222) #[] #[]] V (.bool ((xs.take i).any fun g => decide (g.name = y.name))) := by
  refine Pur.mk (x221 (v0 := l) (v2 := .func (.func 222) #[] #[]) ?_)
  unfold w221
  have hn := hr.n_eq
  have hc := hr.cap
  have hil := (List.getElem?_eq_some_iff.1 hy).1
  refine ⟨⟨by omega, by omega, by omega⟩, fun b1 hb1 b2 hb2 b3 hb3 => ?_⟩
  have s := (Mem.sub_new hb1 _).trans ((Mem.sub_new hb2 _).trans (Mem.sub_new hb3 (cell (.int .i64 i) 3)))
  simp only [pre_eq, sub0]
  refine (c157 (l := ⟨l.p, i, l.c⟩) (first := []) (caps := [.pointer (some ⟨b1, 0, none⟩), .pointer (some ⟨b2, 0, none⟩), .pointer (some ⟨b3, 0, none⟩)]) (RowsAt.pre (hr.sub s) (by omega)) Tryz.call249 (fun g => decide (g.name = y.name)) (fun x _ => c249 ((Mem.sub_new hb3 _) _ _ ((Mem.sub_new hb2 _) _ _ (Mem.set_same _ _ _))) ((Mem.sub_new hb3 _) _ _ (Mem.set_same _ _ _)) (Mem.set_same _ _ _) (hr.sub s) hy)).call ⟨_, rfl, rfl, s⟩
theorem c225 {V : Mem} {x : Ms} : PP 225 [x.v] V (.string x.name) := by
  refine x225 (v0 := x.name) (v1 := x.ty) (v2 := x.nil) (v3 := x.x.op) (v4 := x.x.n) (v5 := x.x.s) (v6 := x.x.l) ?_
  exact ⟨rfl, rfl⟩
theorem c252 {V : Mem} {b1 b2 b3 t1 t2 t3 i : Nat} {l : Sl} {xs : List Ms} {x y : Ms} (h1 : V b1 = some (cell (.func (.func 225) #[] #[]) t1)) (h2 : V b2 = some (cell (.slice l.p l.n l.c) t2)) (h3 : V b3 = some (cell (.int .i64 i) t3))
    (hr : RowsAt V l 7 (xs.map Ms.row)) (hy : xs[i]? = some y) : PP 252 [x.v, .pointer (some ⟨b1, 0, none⟩), .pointer (some ⟨b2, 0, none⟩), .pointer (some ⟨b3, 0, none⟩)] V (.bool (decide (x.name = y.name))) := by
  refine x252 (v0 := x.name) (v1 := x.ty) (v2 := x.nil) (v3 := x.x.op) (v4 := x.x.n) (v5 := x.x.s) (v6 := x.x.l) ?_
  unfold w252
  have hn := hr.n_eq
  have hil := (List.getElem?_eq_some_iff.1 hy).1
  have hlt : (i : Int) < (l.n : Int) := by omega
  obtain ⟨y', hm, hx, hdr, hl, hp, hz, hrow⟩ := hr.get hlt
  rw [hy] at hx
  cases hx
  exact ⟨.func (.func 225) #[] #[], rfl, row1 h1, .func (.func 225) #[] #[], rfl, row1 h1, l, row1 h2, _, row1 h3, hp, hz, hlt, _, _, _, _, _, _, _, hrow, _, _, _, rfl, Tryz.call225, (c225 (x := x)).callv (first := []) (caps := []) ⟨_, rfl, rowp_self hrow, hp, hz, hlt, row1 h3, row1 h2, row1 h1, _, _, _, rfl, Tryz.call225, (c225 (x := y)).callv (first := []) (caps := []) ⟨_, rfl, rfl, rfl⟩⟩⟩
theorem c224 {V : Mem} {l : Sl} {xs : List Ms} {i : Nat} {y : Ms} (hr : RowsAt V l 7 (xs.map Ms.row)) (hy : xs[i]? = some y) : PP 224 [l.v, .int .i64 i, .func (.func 225) #[] #[]] V (.bool ((xs.take i).any fun g => decide (g.name = y.name))) := by
  refine Pur.mk (x224 (v0 := l) (v2 := .func (.func 225) #[] #[]) ?_)
  unfold w224
  have hn := hr.n_eq
  have hc := hr.cap
  have hil := (List.getElem?_eq_some_iff.1 hy).1
  refine ⟨⟨by omega, by omega, by omega⟩, fun b1 hb1 b2 hb2 b3 hb3 => ?_⟩
  have s := (Mem.sub_new hb1 _).trans ((Mem.sub_new hb2 _).trans (Mem.sub_new hb3 (cell (.int .i64 i) 3)))
  simp only [pre_eq, sub0]
  refine (c251 (l := ⟨l.p, i, l.c⟩) (first := []) (caps := [.pointer (some ⟨b1, 0, none⟩), .pointer (some ⟨b2, 0, none⟩), .pointer (some ⟨b3, 0, none⟩)]) (RowsAt.pre (hr.sub s) (by omega)) Tryz.call252 (fun g => decide (g.name = y.name)) (fun x _ => c252 ((Mem.sub_new hb3 _) _ _ ((Mem.sub_new hb2 _) _ _ (Mem.set_same _ _ _))) ((Mem.sub_new hb3 _) _ _ (Mem.set_same _ _ _)) (Mem.set_same _ _ _) (hr.sub s) hy)).call ⟨_, rfl, rfl, s⟩
theorem c227 {V : Mem} {x : Iv} : PP 227 [x.v] V (.string x.name) := by
  refine x227 (v0 := x.name) (v1 := x.ty) (v2 := x.x.op) (v3 := x.x.n) (v4 := x.x.s) (v5 := x.x.l) ?_
  exact ⟨rfl, rfl⟩
theorem c254 {V : Mem} {b1 b2 b3 t1 t2 t3 i : Nat} {l : Sl} {xs : List Iv} {x y : Iv} (h1 : V b1 = some (cell (.func (.func 227) #[] #[]) t1)) (h2 : V b2 = some (cell (.slice l.p l.n l.c) t2)) (h3 : V b3 = some (cell (.int .i64 i) t3))
    (hr : RowsAt V l 6 (xs.map Iv.row)) (hy : xs[i]? = some y) : PP 254 [x.v, .pointer (some ⟨b1, 0, none⟩), .pointer (some ⟨b2, 0, none⟩), .pointer (some ⟨b3, 0, none⟩)] V (.bool (decide (x.name = y.name))) := by
  refine x254 (v0 := x.name) (v1 := x.ty) (v2 := x.x.op) (v3 := x.x.n) (v4 := x.x.s) (v5 := x.x.l) ?_
  unfold w254
  have hn := hr.n_eq
  have hil := (List.getElem?_eq_some_iff.1 hy).1
  have hlt : (i : Int) < (l.n : Int) := by omega
  obtain ⟨y', hm, hx, hdr, hl, hp, hz, hrow⟩ := hr.get hlt
  rw [hy] at hx
  cases hx
  exact ⟨.func (.func 227) #[] #[], rfl, row1 h1, .func (.func 227) #[] #[], rfl, row1 h1, l, row1 h2, _, row1 h3, hp, hz, hlt, _, _, _, _, _, _, hrow, _, _, _, rfl, Tryz.call227, (c227 (x := x)).callv (first := []) (caps := []) ⟨_, rfl, rowp_self hrow, hp, hz, hlt, row1 h3, row1 h2, row1 h1, _, _, _, rfl, Tryz.call227, (c227 (x := y)).callv (first := []) (caps := []) ⟨_, rfl, rfl, rfl⟩⟩⟩
theorem c226 {V : Mem} {l : Sl} {xs : List Iv} {i : Nat} {y : Iv} (hr : RowsAt V l 6 (xs.map Iv.row)) (hy : xs[i]? = some y) : PP 226 [l.v, .int .i64 i, .func (.func 227) #[] #[]] V (.bool ((xs.take i).any fun g => decide (g.name = y.name))) := by
  refine Pur.mk (x226 (v0 := l) (v2 := .func (.func 227) #[] #[]) ?_)
  unfold w226
  have hn := hr.n_eq
  have hc := hr.cap
  have hil := (List.getElem?_eq_some_iff.1 hy).1
  refine ⟨⟨by omega, by omega, by omega⟩, fun b1 hb1 b2 hb2 b3 hb3 => ?_⟩
  have s := (Mem.sub_new hb1 _).trans ((Mem.sub_new hb2 _).trans (Mem.sub_new hb3 (cell (.int .i64 i) 3)))
  simp only [pre_eq, sub0]
  refine (c253 (l := ⟨l.p, i, l.c⟩) (first := []) (caps := [.pointer (some ⟨b1, 0, none⟩), .pointer (some ⟨b2, 0, none⟩), .pointer (some ⟨b3, 0, none⟩)]) (RowsAt.pre (hr.sub s) (by omega)) Tryz.call254 (fun g => decide (g.name = y.name)) (fun x _ => c254 ((Mem.sub_new hb3 _) _ _ ((Mem.sub_new hb2 _) _ _ (Mem.set_same _ _ _))) ((Mem.sub_new hb3 _) _ _ (Mem.set_same _ _ _)) (Mem.set_same _ _ _) (hr.sub s) hy)).call ⟨_, rfl, rfl, s⟩
theorem c229 {V : Mem} {x : Bd} : PP 229 [x.v] V (.string x.proc) := by
  refine x229 (v0 := x.proc) (v1 := x.x.op) (v2 := x.x.n) (v3 := x.x.s) (v4 := x.x.l) ?_
  exact ⟨rfl, rfl⟩
theorem c255 {V : Mem} {b1 b2 b3 t1 t2 t3 i : Nat} {l : Sl} {xs : List Bd} {x y : Bd} (h1 : V b1 = some (cell (.func (.func 229) #[] #[]) t1)) (h2 : V b2 = some (cell (.slice l.p l.n l.c) t2)) (h3 : V b3 = some (cell (.int .i64 i) t3))
    (hr : RowsAt V l 5 (xs.map Bd.row)) (hy : xs[i]? = some y) : PP 255 [x.v, .pointer (some ⟨b1, 0, none⟩), .pointer (some ⟨b2, 0, none⟩), .pointer (some ⟨b3, 0, none⟩)] V (.bool (decide (x.proc = y.proc))) := by
  refine x255 (v0 := x.proc) (v1 := x.x.op) (v2 := x.x.n) (v3 := x.x.s) (v4 := x.x.l) ?_
  unfold w255
  have hn := hr.n_eq
  have hil := (List.getElem?_eq_some_iff.1 hy).1
  have hlt : (i : Int) < (l.n : Int) := by omega
  obtain ⟨y', hm, hx, hdr, hl, hp, hz, hrow⟩ := hr.get hlt
  rw [hy] at hx
  cases hx
  exact ⟨.func (.func 229) #[] #[], rfl, row1 h1, .func (.func 229) #[] #[], rfl, row1 h1, l, row1 h2, _, row1 h3, hp, hz, hlt, _, _, _, _, _, hrow, _, _, _, rfl, Tryz.call229, (c229 (x := x)).callv (first := []) (caps := []) ⟨_, rfl, rowp_self hrow, hp, hz, hlt, row1 h3, row1 h2, row1 h1, _, _, _, rfl, Tryz.call229, (c229 (x := y)).callv (first := []) (caps := []) ⟨_, rfl, rfl, rfl⟩⟩⟩
theorem c228 {V : Mem} {l : Sl} {xs : List Bd} {i : Nat} {y : Bd} (hr : RowsAt V l 5 (xs.map Bd.row)) (hy : xs[i]? = some y) : PP 228 [l.v, .int .i64 i, .func (.func 229) #[] #[]] V (.bool ((xs.take i).any fun g => decide (g.proc = y.proc))) := by
  refine Pur.mk (x228 (v0 := l) (v2 := .func (.func 229) #[] #[]) ?_)
  unfold w228
  have hn := hr.n_eq
  have hc := hr.cap
  have hil := (List.getElem?_eq_some_iff.1 hy).1
  refine ⟨⟨by omega, by omega, by omega⟩, fun b1 hb1 b2 hb2 b3 hb3 => ?_⟩
  have s := (Mem.sub_new hb1 _).trans ((Mem.sub_new hb2 _).trans (Mem.sub_new hb3 (cell (.int .i64 i) 3)))
  simp only [pre_eq, sub0]
  refine (c208 (l := ⟨l.p, i, l.c⟩) (first := []) (caps := [.pointer (some ⟨b1, 0, none⟩), .pointer (some ⟨b2, 0, none⟩), .pointer (some ⟨b3, 0, none⟩)]) (RowsAt.pre (hr.sub s) (by omega)) Tryz.call255 (fun g => decide (g.proc = y.proc)) (fun x _ => c255 ((Mem.sub_new hb3 _) _ _ ((Mem.sub_new hb2 _) _ _ (Mem.set_same _ _ _))) ((Mem.sub_new hb3 _) _ _ (Mem.set_same _ _ _)) (Mem.set_same _ _ _) (hr.sub s) hy)).call ⟨_, rfl, rfl, s⟩
end Go.Proofs
namespace Go.Proofs
open Go Go.Sx
theorem wrap_id {n : Nat} (h : n ≤ 2147483648) : IntKind.wrap .i64 (n : Int) = n := inr_in ⟨by show (-9223372036854775808 : Int) ≤ n; omega, by show (n : Int) ≤ 9223372036854775807; omega⟩
theorem run_append_zeros {P : Program} (w : World) (t u ty e : TypeId) (i : TypeInfo) (z : Value) (ht : P.underlying t = some (.slice e)) (hu : P.underlying u = some (.int .i64)) (hi : P.info? e = some i) (hz : i.zero = some z)
    (n : Nat) (h0 : 0 < n) (hn : n ≤ 2147483648) (hb : i.bytes ≤ 65536) (hs : 0 < i.size) :
    (Builtin.append_ #[t, u] ty #[.slice none 0 0, .int .i64 n]).run P w =
      .ok (.slice (some ⟨w.heap.size, 0, none⟩) n (grownCap w n 0 e)) (w.drew.alloc (.cells (Builtin.zeroCells z.cells n ++ Builtin.zeroCells z.cells (grownCap w n 0 e - n)) e)) := by
  have hn' : n ≠ 0 := by omega
  have h63' : ¬ (9223372036854775807 < (n : Int)) := by omega
  have hbm : n * i.bytes ≤ 281474976710656 := Nat.le_trans (Nat.mul_le_mul hn hb) (by decide)
  have h48' : ¬ (281474976710656 < Builtin.nextslicecap n 0 * i.bytes) := by rw [nextslicecap_zero h0]; omega
  have h48i : ¬ (281474976710656 < (n : Int) * (i.bytes : Int)) := by omega
  have hlt : ¬ ((n : Int) < 0) := by omega
  have hsz : i.size ≠ 0 := by omega
  simp [Builtin.append_, run_underlying ht, run_underlying hu, sizeOf, typeInfo, zeroValue, hi, hz, hn', h63', h48', h48i, hlt, hsz, wrap_id hn, asInt, asIntOf, Question.forced, run_firstCells_none, newRow, grownCap]
  exact fun h => absurd h (Nat.ne_of_gt (Nat.mul_pos h0 hs))
theorem GenK.appendZ {P : Program} {V0 V : Mem} {t u e ty : TypeId} {i : TypeInfo} {z : Value} {sz : Nat} (ht : P.underlying t = some (.slice e)) (hu : P.underlying u = some (.int .i64)) (hi : P.info? e = some i) (hz : i.zero = some z) (hsize : i.size = sz) (hzs : z.cells.size = sz) (hsz : 0 < sz) (hby : i.bytes ≤ 65536)
    {x y : Operand} {vals : Operand → Value} {n : Nat} (hx : vals x = .slice none 0 0) (hy : vals y = .int .i64 n) (h0 : 0 < n) (hn : n ≤ 2147483648) (hV : V0.sub V) {q : Value → Mem → Prop}
    (hq : ∀ b c V', Own V0 V' e sz ⟨some ⟨b, 0, none⟩, 0, c⟩ [] → n ≤ c → c ≤ 9223372036854775807 → q (.slice (some ⟨b, 0, none⟩) n c) V') :
    GenK P (.call { callee := .builtin .append, args := #[x, y], argTypes := #[t, u] }) ty vals V q := by
  intro w hw
  subst hsize
  have hr := run_append_zeros (P := P) w t u ty e i z ht hu hi hz n h0 hn hby hsz
  obtain ⟨hnone, hf⟩ := Frm.new hw (.cells (Builtin.zeroCells z.cells n ++ Builtin.zeroCells z.cells (grownCap w n 0 e - n)) e)
  have hge := grownCap_ge w n 0 e
  have hle := grownCap_le_maxLen w n 0 e (by simp only [maxLen]; omega)
  refine ⟨_, _, _, ?_, hf, hq w.heap.size (grownCap w n 0 e) _ ⟨Mem.sub.new hV hnone _, by simp, .inr ⟨w.heap.size, _, rfl, ?_, Mem.set_same _ _ _, Nat.zero_le _, hle, ?_, by simp⟩⟩ hge (by simp only [maxLen] at hle; omega)⟩
  · unfold execOp
    simp only [resolve, invoke, builtin, Sem.run_bind, Sem.run_pure, Result.andThen_ok, List.map_toArray, List.map_cons, List.map_nil, hx, hy, hr]
  · cases h : V0 w.heap.size with
    | none => rfl
    | some x => rw [hV _ _ h] at hnone; cases hnone
  · simp only [Array.size_append, size_zeroCells, hzs, ← Nat.add_mul]
    congr 1
    show _ = grownCap w n 0 e
    omega
section
variable {V : Mem}
theorem growF {V0 : Mem} (hV : V0.sub V) {n : Nat} (hn : n ≤ 1000000) : Tri Tryz.prog 250 #[.slice none 0 0, .int .i64 n] V fun r V' => ∃ s : Sl, r = .returned (.slice s.p s.n s.c) ∧ Own V0 V' 110 2 s [] := by
  refine x250 (v0 := ⟨none, 0, 0⟩) ?_
  unfold w250
  refine ⟨fun h => absurd h (by omega), fun _ => ⟨⟨by simp, by simp⟩, ⟨by simp <;> omega, by simp <;> omega⟩, fun h => ⟨⟨by simp, by simp, by simp⟩, ?_⟩, fun h => ⟨⟨none, 0, 0⟩, rfl, Own.nil hV _ _⟩⟩⟩
  have hi : Tryz.prog.info? 110 = some (ti 110) := by kernel_rfl
  have hz : (ti 110).zero = some ((ti 110).zero.getD undef) := by kernel_rfl
  have h1 : (ti 110).size = 2 := by kernel_rfl
  have h2 : ((ti 110).zero.getD undef).cells.size = 2 := by kernel_rfl
  have h3 : (ti 110).bytes ≤ 65536 := by rw [show (ti 110).bytes = 32 by kernel_rfl]; omega
  refine GenK.appendZ (n := n) Tryz.underlying23 Tryz.underlying3 hi hz h1 h2 (by decide) h3 rfl ?_ (by simp at h; omega) (by omega) hV fun b c V' ho hc hc2 => ⟨⟨some ⟨b, 0, none⟩, n, c⟩, rfl, ⟨by simp, by simp, by simp⟩, ?_⟩
  · show Value.int .i64 ((n : Int) - (((0 : Nat) : Int) - ((0 : Nat) : Int))) = _
    congr 1 <;> omega
  · simp only [pre_eq]
    exact ⟨⟨some ⟨b, 0, none⟩, 0, c⟩, by simp, ho⟩
theorem concatF {l : Sl} {ls : List (Sl × List Fld)} (h : RowsAt V l 1 (ls.map fun x => [x.1.v])) (hls : ∀ x ∈ ls, RowsAt V x.1 2 (x.2.map Fld.row)) (hlen : ls.length ≤ 100) (hle : ∀ x ∈ ls, x.2.length ≤ 1000) :
    Tri Tryz.prog 223 #[.slice l.p l.n l.c] V fun r V' => ∃ s : Sl, r = .returned (.slice s.p s.n s.c) ∧ V.sub V' ∧ RowsAt V' s 2 ((ls.flatMap (·.2)).map Fld.row) := by
  refine x223 (v0 := l) ?_
  unfold w223
  have hn := h.n_eq
  refine loop2s (mk := .int .i64) inj_i ls.length (fun i n V1 => V = V1 ∧ 0 ≤ n ∧ n ≤ 1000 * i) ⟨rfl, by omega, by omega⟩ ?_
  rintro i n V1 J hi ⟨rfl, h0, hb⟩ hJ
  refine ⟨fun hlt => ?_, fun hge => ?_⟩
  · obtain ⟨x, hm, hx, hdr, hl, hp, hz, hrow⟩ := h.get hlt
    have e1 := (hls x hm).n_eq
    have e2 := hle x hm
    exact ⟨hp, hz, hlt, x.1, hrow, ⟨by omega, by omega⟩, fun hneg => absurd hneg (by omega), fun _ => ⟨h.succ hlt, hJ hl _ _ ⟨rfl, by omega, by omega⟩⟩⟩
  · obtain ⟨k, rfl⟩ := Int.eq_ofNat_of_zero_le h0
    refine Tri.mono (growF (Mem.sub.refl V) (n := k) (by omega)) ?_
    rintro _ V1 ⟨s, rfl, ho⟩
    refine ⟨s, rfl, ?_⟩
    refine loop2s (mk := fun s : Sl => .slice s.p s.n s.c) (b0 := s) inj_sl ls.length (fun i s V2 => Own V V2 110 2 s (((ls.take i).flatMap (·.2)).flatMap Fld.row) ∧ ((ls.take i).flatMap (·.2)).length ≤ 1000 * i) ⟨ho, by simp⟩ ?_
    rintro i s V2 J hi ⟨ho, hb⟩ hJ
    have h2 := h.sub ho.sub
    refine ⟨fun hlt => ?_, fun hge => ?_⟩
    · obtain ⟨x, hm, hx, hdr, hl, hp, hz, hrow⟩ := h2.get hlt
      have e2 := hle x hm
      refine ⟨hp, hz, hlt, x.1, hrow, ?_⟩
      refine app23 (s := s) (u := x.1) (xs := (ls.take i).flatMap (·.2)) (ys := x.2) rfl rfl ho ((hls x hm).sub ho.sub) (by omega) fun s' V' ho' => ⟨s', rfl, h2.succ hlt, hJ hl _ _ ?_⟩
      have ht : (ls.take (i + 1)).flatMap (·.2) = (ls.take i).flatMap (·.2) ++ x.2 := by
        rw [List.take_add_one, hx, List.flatMap_append]
        simp
      rw [ht]
      exact ⟨ho', by rw [List.length_append]; omega⟩
    · have := (h2.done hge).2
      rw [List.take_of_length_le this] at ho
      exact ⟨s, rfl, ho.sub, ownF ho⟩
end
end Go.Proofs
