/- Part 13 of a proof of a law of this seat: no statement of the seat is proved here. -/
import Derived.Test.YtjnmeimbcljkjaaGreatDoorPart12
set_option linter.unusedVariables false
set_option linter.unusedSimpArgs false
namespace Go.Proofs
open Go Go.Sx
def sNil : ByteArray := strB [110, 105, 108]
def sE : ByteArray := strB []
def isNode (d : Ds) (s : ByteArray) : Bool := d.types.any fun t => decide (t.name = s)
def known (d : Ds) (s : ByteArray) : Bool := decide (s = sInt) || decide (s = sBool) || isNode d s
def fits (d : Ds) (a b : ByteArray) : Bool := decide (a = b) || (decide (a = sNil) && isNode d b)
def lookF : List Fld → ByteArray → ByteArray
  | [], _ => sE
  | f :: l, s => if f.name = s then f.ty else lookF l s
def tyOf (d : Ds) (s : ByteArray) : Option Ty := d.types.find? fun t => decide (t.name = s)
def prOf (d : Ds) (s : ByteArray) : Option Pr := d.procs.find? fun t => decide (t.name = s)
def meOf (d : Ds) (s : ByteArray) : Option Ms := d.measures.find? fun t => decide (t.name = s)
def fieldT (d : Ds) (t name : ByteArray) : ByteArray × Int :=
  match tyOf d t with
  | none => (sE, 11)
  | some ty => if lookF ty.fields name = sE then (sE, 9) else (lookF ty.fields name, 0)
def fitAll (d : Ds) : List ByteArray → List Fld → Bool
  | a :: l, f :: fs => fits d a f.ty && fitAll d l fs
  | _, _ => true
def callT (d : Ds) (name : ByteArray) (l : List ByteArray) : ByteArray × Int :=
  match prOf d name with
  | none => (sE, 9)
  | some p => if l.length ≠ p.params.length then (sE, 3) else if fitAll d l p.params = true then (p.result, 0) else (sE, 11)
def needT (ok : Bool) (t : ByteArray) : ByteArray × Int := if ok = true then (t, 0) else (sE, 11)
structure Sc where
  vars : List Fld
  body : Bool
def measT (d : Ds) (name : ByteArray) (l : List ByteArray) : ByteArray × Int :=
  match meOf d name with
  | none => (sE, 9)
  | some m => if l.length ≠ 1 then (sE, 3) else needT (fits d (l.getD 0 sE) m.ty) sInt
def callE (d : Ds) (sc : Sc) (name : ByteArray) (l : List ByteArray) : ByteArray × Int :=
  if sc.body = true then (if (callT d name l).2 = 0 ∧ (callT d name l).1 = sE then (sE, 11) else callT d name l) else measT d name l
def allT (l : List ByteArray) (t : ByteArray) : Bool := l.all fun x => decide (x = t)
def nodeT (d : Ds) (sc : Sc) (op : Int) (s : ByteArray) (l : List ByteArray) : ByteArray × Int :=
  if op = 1 then (sInt, 0) else if op = 2 then (sBool, 0) else if op = 3 then (sNil, 0)
  else if op = 4 then (if lookF sc.vars s = sE then (sE, 9) else (lookF sc.vars s, 0))
  else if op = 5 then fieldT d (l.getD 0 sE) s
  else if op = 6 then (if sc.body = false then (sE, 13) else if isNode d s = false then (sE, 9) else (s, 0))
  else if op = 7 then callE d sc s l
  else if op = 14 ∨ op = 15 then needT (fits d (l.getD 0 sE) (l.getD 1 sE) || fits d (l.getD 1 sE) (l.getD 0 sE)) sBool
  else if op = 16 ∨ op = 17 then needT (allT l sInt) sBool
  else if op = 18 ∨ op = 19 ∨ op = 20 then needT (allT l sBool) sBool
  else if op = 21 then needT (decide (l.getD 0 sE = sBool) && (fits d (l.getD 1 sE) (l.getD 2 sE) || fits d (l.getD 2 sE) (l.getD 1 sE))) (if l.getD 1 sE = sNil then l.getD 2 sE else l.getD 1 sE)
  else needT (allT l sInt) sInt
mutual
def exprT (d : Ds) (sc : Sc) : E → ByteArray × Int
  | .mk op _ s _ k => if (partsT d sc [] k).2 ≠ 0 then (sE, (partsT d sc [] k).2) else nodeT d sc op s (partsT d sc [] k).1
def partsT (d : Ds) (sc : Sc) (acc : List ByteArray) : List E → List ByteArray × Int
  | [] => (acc, 0)
  | x :: xs => if (exprT d sc x).2 ≠ 0 then ([], (exprT d sc x).2) else partsT d sc (acc ++ [(exprT d sc x).1]) xs
end
theorem exprT_eq (d : Ds) (sc : Sc) (e : E) : exprT d sc e = if (partsT d sc [] e.k).2 ≠ 0 then (sE, (partsT d sc [] e.k).2) else nodeT d sc e.op e.s (partsT d sc [] e.k).1 := by
  cases e; unfold exprT; rfl
theorem partsT_cons (d : Ds) (sc : Sc) (acc : List ByteArray) (x : E) (xs : List E) : partsT d sc acc (x :: xs) = if (exprT d sc x).2 ≠ 0 then ([], (exprT d sc x).2) else partsT d sc (acc ++ [(exprT d sc x).1]) xs := by rw [partsT]
theorem partsT_nil (d : Ds) (sc : Sc) (acc : List ByteArray) : partsT d sc acc [] = (acc, 0) := by rw [partsT]
theorem partsT_len (d : Ds) (sc : Sc) : ∀ (k : List E) (acc : List ByteArray), (partsT d sc acc k).2 = 0 → (partsT d sc acc k).1.length = acc.length + k.length
  | [], acc, _ => by rw [partsT_nil]; rfl
  | x :: xs, acc, h => by
    rw [partsT_cons] at h ⊢
    split at h
    · rename_i h'; exact absurd h h'
    · rename_i h'
      rw [if_neg h', partsT_len d sc xs _ h, List.length_append, List.length_cons, List.length_cons, List.length_nil]
      omega
def inProcS (d : Ds) (p : Pr) : Sc := ⟨p.params ++ p.locals ++ d.globals, true⟩
def sThisF : ByteArray := strB [116, 104, 105, 115]
def inFormS (d : Ds) (t : ByteArray) : Sc := ⟨(if t = sE then [] else [⟨sThisF, t⟩]) ++ d.globals, false⟩
def inBoundS (d : Ds) (p : Pr) : Sc := ⟨p.params ++ d.globals, false⟩
/-- A statement, without those in it. -/
def stmtT (d : Ds) (sc : Sc) (result : ByteArray) (op : Int) (s : ByteArray) (es : List E) : Int :=
  if op = 6 then
    match es with
    | [] => 0
    | e :: _ => if (partsT d sc [] e.k).2 ≠ 0 then (partsT d sc [] e.k).2 else (callT d e.s (partsT d sc [] e.k).1).2
  else if (partsT d sc [] es).2 ≠ 0 then (partsT d sc [] es).2
  else if op = 1 then (if lookF sc.vars s = sE then 9 else if fits d ((partsT d sc [] es).1.getD 0 sE) (lookF sc.vars s) = true then 0 else 11)
  else if op = 2 then (if (fieldT d ((partsT d sc [] es).1.getD 0 sE) s).2 ≠ 0 then (fieldT d ((partsT d sc [] es).1.getD 0 sE) s).2 else if fits d ((partsT d sc [] es).1.getD 1 sE) (fieldT d ((partsT d sc [] es).1.getD 0 sE) s).1 = true then 0 else 11)
  else if op = 3 ∨ op = 4 then (if (partsT d sc [] es).1.getD 0 sE = sBool then 0 else 11)
  else if op = 5 then (if (partsT d sc [] es).1.length = 0 then (if result = sE then 0 else 11) else if result ≠ sE ∧ fits d ((partsT d sc [] es).1.getD 0 sE) result = true then 0 else 11)
  else 0
mutual
/-- The place and the error of the first statement with one; otherwise the number behind them. -/
def stT (d : Ds) (sc : Sc) (result : ByteArray) (n : Int) : S → Int × Int
  | .mk op s _ es _ ls _ xs =>
    if stmtT d sc result op s es ≠ 0 then (n, stmtT d sc result op s es)
    else if (stsT d sc result (n + 1) ls).2 ≠ 0 then stsT d sc result (n + 1) ls
    else stsT d sc result (stsT d sc result (n + 1) ls).1 xs
def stsT (d : Ds) (sc : Sc) (result : ByteArray) (n : Int) : List S → Int × Int
  | [] => (n, 0)
  | x :: xs => if (stT d sc result n x).2 ≠ 0 then stT d sc result n x else stsT d sc result (stT d sc result n x).1 xs
end
theorem stT_eq (d : Ds) (sc : Sc) (result : ByteArray) (n : Int) (x : S) : stT d sc result n x = if stmtT d sc result x.op x.s x.es ≠ 0 then (n, stmtT d sc result x.op x.s x.es) else if (stsT d sc result (n + 1) x.ls).2 ≠ 0 then stsT d sc result (n + 1) x.ls else stsT d sc result (stsT d sc result (n + 1) x.ls).1 x.xs := by
  cases x; unfold stT; rfl
theorem stsT_cons (d : Ds) (sc : Sc) (result : ByteArray) (n : Int) (x : S) (xs : List S) : stsT d sc result n (x :: xs) = if (stT d sc result n x).2 ≠ 0 then stT d sc result n x else stsT d sc result (stT d sc result n x).1 xs := by rw [stsT]
theorem stsT_nil (d : Ds) (sc : Sc) (result : ByteArray) (n : Int) : stsT d sc result n [] = (n, 0) := by rw [stsT]
/-- Declarations. -/
def oneT (d : Ds) (l : List Fld) (i : Nat) (f : Fld) : Int := if (l.take i).any (fun g => decide (g.name = f.name)) = true then 10 else if known d f.ty = true then 0 else 9
/-- The first error of a list. -/
def firstE {α β : Type} (f : Nat → α → Option β) : Nat → List α → Option β
  | _, [] => none
  | i, x :: xs => match f i x with | some b => some b | none => firstE f (i + 1) xs
def declT (d : Ds) (l : List Fld) : Int := (firstE (fun i f => if oneT d l i f ≠ 0 then some (oneT d l i f) else none) 0 l).getD 0
abbrev Flt := ByteArray × Int × Int
def types1 (d : Ds) : Option Flt := firstE (fun i t => if (d.types.take i).any (fun g => decide (g.name = t.name)) = true then some (t.name, -1, 10) else none) 0 d.types
def types2 (d : Ds) : Option Flt := firstE (fun _ t => if declT d t.fields ≠ 0 then some (t.name, -1, declT d t.fields) else none) 0 d.types
def types3 (d : Ds) : Option Flt := firstE (fun i f => if oneT d d.globals i f ≠ 0 then some (f.name, -1, oneT d d.globals i f) else none) 0 d.globals
def typesT (d : Ds) : Option Flt := (types1 d).or ((types2 d).or (types3 d))
def headsT (d : Ds) : Option Flt := firstE (fun i p => if (d.procs.take i).any (fun g => decide (g.name = p.name)) = true then some (p.name, -1, 10) else if declT d (p.params ++ p.locals) ≠ 0 then some (p.name, -1, declT d (p.params ++ p.locals)) else if p.result ≠ sE ∧ known d p.result = false then some (p.name, -1, 9) else none) 0 d.procs
def form1 (d : Ds) : Option Flt := firstE (fun i m => if (d.measures.take i).any (fun g => decide (g.name = m.name)) = true then some (m.name, -1, 10) else if isNode d m.ty = false then some (m.name, -1, 9) else none) 0 d.measures
def form2 (d : Ds) : Option Flt := firstE (fun i m => if (d.invs.take i).any (fun g => decide (g.name = m.name)) = true then some (m.name, -1, 10) else if m.ty ≠ sE ∧ isNode d m.ty = false then some (m.name, -1, 9) else none) 0 d.invs
def sPot : ByteArray := strB [112, 111, 116, 101, 110, 116, 105, 97, 108]
def form3 (d : Ds) : Option Flt := firstE (fun _ m => if m.ty ≠ sE ∧ isNode d m.ty = false then some (sPot, -1, 9) else none) 0 d.pots
def form4 (d : Ds) : Option Flt := firstE (fun i b => if (prOf d b.proc).isNone = true then some (b.proc, -1, 9) else if (d.bounds.take i).any (fun g => decide (g.proc = b.proc)) = true then some (b.proc, -1, 10) else none) 0 d.bounds
def formT (d : Ds) : Option Flt := (form1 d).or ((form2 d).or ((form3 d).or (form4 d)))
def bodiesT (d : Ds) : Option Flt := firstE (fun _ p => if (stsT d (inProcS d p) p.result 0 p.body).2 ≠ 0 then some (p.name, (stsT d (inProcS d p) p.result 0 p.body).1, (stsT d (inProcS d p) p.result 0 p.body).2) else none) 0 d.procs
/-- The error of an expression that should have a type. -/
def wantT (d : Ds) (sc : Sc) (e : E) (t : ByteArray) : Int := if (exprT d sc e).2 ≠ 0 then (exprT d sc e).2 else if (exprT d sc e).1 = t then 0 else 11
def exp1 (d : Ds) : Option Flt := firstE (fun _ m => if wantT d (inFormS d m.ty) m.x sInt ≠ 0 then some (m.name, -1, wantT d (inFormS d m.ty) m.x sInt) else none) 0 d.measures
def exp2 (d : Ds) : Option Flt := firstE (fun _ m => if wantT d (inFormS d m.ty) m.x sBool ≠ 0 then some (m.name, -1, wantT d (inFormS d m.ty) m.x sBool) else none) 0 d.invs
def exp3 (d : Ds) : Option Flt := firstE (fun _ m => if wantT d (inFormS d m.ty) m.x sInt ≠ 0 then some (sPot, -1, wantT d (inFormS d m.ty) m.x sInt) else none) 0 d.pots
def prD : Pr := ⟨sE, ⟨none, 0, 0⟩, [], sE, ⟨none, 0, 0⟩, [], ⟨none, 0, 0⟩, []⟩
def exp4 (d : Ds) : Option Flt := firstE (fun _ m => if wantT d (inBoundS d ((prOf d m.proc).getD prD)) m.x sInt ≠ 0 then some (m.proc, -1, wantT d (inBoundS d ((prOf d m.proc).getD prD)) m.x sInt) else none) 0 d.bounds
def expsT (d : Ds) : Option Flt := (exp1 d).or ((exp2 d).or ((exp3 d).or (exp4 d)))
def chkT (d : Ds) : Option Flt := (typesT d).or ((headsT d).or ((formT d).or ((bodiesT d).or (expsT d))))
/-- .. as three results. -/
def fltR (o : Option Flt) : Flt := o.getD (sE, 0, 0)
end Go.Proofs
namespace Go.Proofs
open Go Go.Sx
attribute [local irreducible] Go.Sx.Tri
noncomputable def ti (t : Nat) : TypeInfo := (Tryz.prog.info? t).getD default
theorem app85 {V0 V : Mem} {ty : Nat} {x y : Operand} {vals : Operand → Value} {s u : Sl} {xs ys : List ByteArray} (hx : vals x = .slice s.p s.n s.c) (hy : vals y = .slice u.p u.n u.c) (own : Own V0 V 9 1 s (xs.flatMap strRow1)) (hnew : RowsAt V u 1 (ys.map strRow1))
    (hfit : xs.length + ys.length ≤ 2147483648) {q : Value → Mem → Prop} (hq : ∀ s' V', Own V0 V' 9 1 s' ((xs ++ ys).flatMap strRow1) → q (.slice s'.p s'.n s'.c) V') :
    GenK Tryz.prog (.call { callee := .builtin .append, args := #[x, y], argTypes := #[85, 85] }) ty vals V q := by
  have hi : Tryz.prog.info? 9 = some (ti 9) := by kernel_rfl
  have hz : (ti 9).zero = some ((ti 9).zero.getD undef) := by kernel_rfl
  have h1 : (ti 9).size = 1 := by kernel_rfl
  have h2 : ((ti 9).zero.getD undef).cells.size = 1 := by kernel_rfl
  have h3 : (ti 9).bytes ≤ 65536 := by rw [show (ti 9).bytes = 16 by kernel_rfl]; omega
  exact GenK.appendS Tryz.underlying85 hi hz h1 h2 (by decide) h3 hx hy own (fun _ => rfl) hnew (fun x u hu => by simp [strRow1, vS, vI, Sl.v] at hu; rcases hu with rfl | rfl <;> rfl) hfit hq
theorem app23 {V0 V : Mem} {ty : Nat} {x y : Operand} {vals : Operand → Value} {s u : Sl} {xs ys : List Fld} (hx : vals x = .slice s.p s.n s.c) (hy : vals y = .slice u.p u.n u.c) (own : Own V0 V 67 2 s (xs.flatMap Fld.row)) (hnew : RowsAt V u 2 (ys.map Fld.row))
    (hfit : xs.length + ys.length ≤ 2147483648) {q : Value → Mem → Prop} (hq : ∀ s' V', Own V0 V' 67 2 s' ((xs ++ ys).flatMap Fld.row) → q (.slice s'.p s'.n s'.c) V') :
    GenK Tryz.prog (.call { callee := .builtin .append, args := #[x, y], argTypes := #[23, 23] }) ty vals V q := by
  have hi : Tryz.prog.info? 67 = some (ti 67) := by kernel_rfl
  have hz : (ti 67).zero = some ((ti 67).zero.getD undef) := by kernel_rfl
  have h1 : (ti 67).size = 2 := by kernel_rfl
  have h2 : ((ti 67).zero.getD undef).cells.size = 2 := by kernel_rfl
  have h3 : (ti 67).bytes ≤ 65536 := by rw [show (ti 67).bytes = 32 by kernel_rfl]; omega
  exact GenK.appendS Tryz.underlying23 hi hz h1 h2 (by decide) h3 hx hy own (fun _ => rfl) hnew (fun x u hu => by simp [Fld.row, vS, vI, Sl.v] at hu; rcases hu with rfl | rfl <;> rfl) hfit hq
end Go.Proofs
namespace Go.Proofs
open Go Go.Sx
attribute [local irreducible] Go.Sx.Tri
def idxI {α : Type} (p : α → Bool) (xs : List α) : Int := match xs.findIdx? p with | some i => (i : Int) | none => -1
theorem idxI_found {α : Type} {p : α → Bool} {xs : List α} {i : Nat} {x : α} (h : AllTo (fun y => !p y) xs i) (hx : xs[i]? = some x) (hp : p x = true) : idxI p xs = i := by
  have hl := (List.getElem?_eq_some_iff.1 hx).1
  have hg := (List.getElem?_eq_some_iff.1 hx).2
  have : xs.findIdx? p = some i := List.findIdx?_eq_some_iff_getElem.2 ⟨hl, by rw [hg]; exact hp, fun j hj => by
    have := h j _ hj (List.getElem?_eq_getElem (Nat.lt_trans hj hl))
    simpa using this⟩
  unfold idxI; rw [this]
theorem idxI_none {α : Type} {p : α → Bool} {xs : List α} {i : Nat} (h : AllTo (fun y => !p y) xs i) (hi : xs.length ≤ i) : idxI p xs = -1 := by
  have : xs.findIdx? p = none := List.findIdx?_eq_none_iff.2 fun x hx => by
    obtain ⟨j, hj, rfl⟩ := List.mem_iff_getElem.1 hx
    have := h j _ (by omega) (List.getElem?_eq_getElem hj)
    simpa using this
  unfold idxI; rw [this]
theorem idx_cases {α : Type} (p : α → Bool) (xs : List α) : (idxI p xs = -1 ∧ xs.find? p = none ∧ xs.any p = false) ∨ ∃ (i : Nat) (x : α), idxI p xs = i ∧ xs[i]? = some x ∧ xs.find? p = some x ∧ i < xs.length ∧ p x = true ∧ x ∈ xs ∧ xs.any p = true ∧ (xs.take i).any p = false := by
  cases h : xs.findIdx? p with
  | none =>
    have h' := List.findIdx?_eq_none_iff.1 h
    refine .inl ⟨by unfold idxI; rw [h], List.find?_eq_none.2 fun x hx => by rw [h' x hx]; simp, List.any_eq_false.2 fun x hx => by rw [h' x hx]; simp⟩
  | some i =>
    obtain ⟨hl, hp, hn⟩ := List.findIdx?_eq_some_iff_getElem.1 h
    refine .inr ⟨i, xs[i], by unfold idxI; rw [h], List.getElem?_eq_getElem hl, ?_, hl, hp, List.getElem_mem _, List.any_eq_true.2 ⟨_, List.getElem_mem _, hp⟩, ?_⟩
    · rw [List.find?_eq_some_iff_getElem]
      exact ⟨hp, i, hl, rfl, fun j hj => by simpa using hn j hj⟩
    · rw [List.any_eq_false]
      intro x hx
      obtain ⟨j, hj, rfl⟩ := List.mem_iff_getElem.1 hx
      rw [List.length_take] at hj
      rw [List.getElem_take]
      exact hn j (by omega)
theorem notAll_succ {α : Type} {p : α → Bool} {xs : List α} {i : Nat} {x : α} (h : AllTo (fun y => !p y) xs i) (hx : xs[i]? = some x) (hp : p x = false) : AllTo (fun y => !p y) xs (i + 1) := h.succ hx (by simp [hp])
theorem c79 {V : Mem} {d : Ds} (h : Ds.Ok V d) {s : ByteArray} : PP 79 [d.v, .string s] V (.int .i64 (idxI (fun t => decide (t.name = s)) d.types)) := by
  refine x79 (v0 := d.name) (v1 := d.ts) (v2 := d.gs) (v3 := d.ps) (v4 := d.ms) (v5 := d.is) (v6 := d.qs) (v7 := d.bs) ?_
  unfold w79
  refine loop2 d.types.length (fun i V1 => V = V1 ∧ AllTo (fun t => !decide (t.name = s)) d.types i) ⟨rfl, AllTo.zero _ _⟩ ?_
  rintro i b V1 J hi ⟨rfl, ha⟩ hJ
  refine ⟨fun hlt => ?_, fun hge => ?_⟩
  · obtain ⟨x, hm, hx, hdr, hl, hp, hz, hrow⟩ := h.types.get hlt
    refine ⟨hp, hz, hlt, ptrAdd_ne hp, _, _, hrow, fun he => ?_, fun he => ⟨h.types.succ hlt, hJ hl _ _ ⟨rfl, notAll_succ (p := fun t => decide (t.name = s)) ha hx (decide_eq_false he)⟩⟩⟩
    rw [idxI_found (p := fun t => decide (t.name = s)) ha hx (decide_eq_true he)]; exact ⟨rfl, rfl⟩
  · rw [idxI_none (p := fun t => decide (t.name = s)) ha (h.types.done hge).2]; exact ⟨rfl, rfl⟩
theorem c19 {V : Mem} {d : Ds} (h : Ds.Ok V d) {s : ByteArray} : PP 19 [d.v, .string s] V (.int .i64 (idxI (fun t => decide (t.name = s)) d.procs)) := by
  refine x19 (v0 := d.name) (v1 := d.ts) (v2 := d.gs) (v3 := d.ps) (v4 := d.ms) (v5 := d.is) (v6 := d.qs) (v7 := d.bs) ?_
  unfold w19
  refine loop2 d.procs.length (fun i V1 => V = V1 ∧ AllTo (fun t => !decide (t.name = s)) d.procs i) ⟨rfl, AllTo.zero _ _⟩ ?_
  rintro i b V1 J hi ⟨rfl, ha⟩ hJ
  refine ⟨fun hlt => ?_, fun hge => ?_⟩
  · obtain ⟨x, hm, hx, hdr, hl, hp, hz, hrow⟩ := h.procs.get hlt
    refine ⟨hp, hz, hlt, ptrAdd_ne hp, _, _, _, _, _, hrow, fun he => ?_, fun he => ⟨h.procs.succ hlt, hJ hl _ _ ⟨rfl, notAll_succ (p := fun t => decide (t.name = s)) ha hx (decide_eq_false he)⟩⟩⟩
    rw [idxI_found (p := fun t => decide (t.name = s)) ha hx (decide_eq_true he)]; exact ⟨rfl, rfl⟩
  · rw [idxI_none (p := fun t => decide (t.name = s)) ha (h.procs.done hge).2]; exact ⟨rfl, rfl⟩
theorem c108 {V : Mem} {d : Ds} (h : Ds.Ok V d) {s : ByteArray} : PP 108 [d.v, .string s] V (.int .i64 (idxI (fun t => decide (t.name = s)) d.measures)) := by
  refine x108 (v0 := d.name) (v1 := d.ts) (v2 := d.gs) (v3 := d.ps) (v4 := d.ms) (v5 := d.is) (v6 := d.qs) (v7 := d.bs) ?_
  unfold w108
  refine loop2 d.measures.length (fun i V1 => V = V1 ∧ AllTo (fun t => !decide (t.name = s)) d.measures i) ⟨rfl, AllTo.zero _ _⟩ ?_
  rintro i b V1 J hi ⟨rfl, ha⟩ hJ
  refine ⟨fun hlt => ?_, fun hge => ?_⟩
  · obtain ⟨x, hm, hx, hdr, hl, hp, hz, hrow⟩ := h.measures.get hlt
    refine ⟨hp, hz, hlt, ptrAdd_ne hp, _, _, _, _, _, _, _, hrow, fun he => ?_, fun he => ⟨h.measures.succ hlt, hJ hl _ _ ⟨rfl, notAll_succ (p := fun t => decide (t.name = s)) ha hx (decide_eq_false he)⟩⟩⟩
    rw [idxI_found (p := fun t => decide (t.name = s)) ha hx (decide_eq_true he)]; exact ⟨rfl, rfl⟩
  · rw [idxI_none (p := fun t => decide (t.name = s)) ha (h.measures.done hge).2]; exact ⟨rfl, rfl⟩
section
variable {V : Mem} {d : Ds}
theorem c36 (h : Ds.Ok V d) {s : ByteArray} : PP 36 [d.v, .string s] V (.bool (isNode d s)) := by
  refine x36 (v0 := d.name) (v1 := d.ts) (v2 := d.gs) (v3 := d.ps) (v4 := d.ms) (v5 := d.is) (v6 := d.qs) (v7 := d.bs) ?_
  unfold w36
  refine (c79 h).call ⟨_, rfl, ?_⟩
  rcases idx_cases (fun t : Ty => decide (t.name = s)) d.types with ⟨h1, h2, h3⟩ | ⟨i, x, h1, h2, h3, h4, h5, h6, h7, _⟩
  · rw [h1, isNode, h3]; exact ⟨rfl, rfl⟩
  · rw [h1, isNode, h7, decide_eq_true (by omega)]; exact ⟨rfl, rfl⟩
theorem c107 (h : Ds.Ok V d) {s : ByteArray} : PP 107 [d.v, .string s] V (.bool (known d s)) := by
  refine x107 (v0 := d.name) (v1 := d.ts) (v2 := d.gs) (v3 := d.ps) (v4 := d.ms) (v5 := d.is) (v6 := d.qs) (v7 := d.bs) ?_
  unfold w107
  refine ⟨fun h1 => ?_, fun h1 => ⟨fun h2 => ?_, fun h2 => (c36 h).call ⟨_, rfl, ?_⟩⟩⟩ <;> simp [known, sInt, sBool, *]
theorem c71 (h : Ds.Ok V d) {s t : ByteArray} : PP 71 [d.v, .string s, .string t] V (.bool (fits d s t)) := by
  refine x71 (v0 := d.name) (v1 := d.ts) (v2 := d.gs) (v3 := d.ps) (v4 := d.ms) (v5 := d.is) (v6 := d.qs) (v7 := d.bs) ?_
  unfold w71
  unfold fits sNil
  refine ⟨fun h1 => ?_, fun h1 => ⟨fun h2 => (c36 h).call ⟨_, rfl, ?_⟩, fun h2 => ?_⟩⟩
  · rw [decide_eq_true h1]; exact ⟨rfl, rfl⟩
  · rw [decide_eq_false h1, decide_eq_true h2]; exact ⟨rfl, rfl⟩
  · rw [decide_eq_false h1, decide_eq_false h2]; exact ⟨rfl, rfl⟩
theorem fitAll_nil (fs : List Fld) : fitAll d [] fs = true := by simp [fitAll]
theorem c67 {l : Sl} {xs : List Fld} (h : RowsAt V l 2 (xs.map Fld.row)) {s : ByteArray} : PP 67 [l.v, .string s] V (.string (lookF xs s)) := by
  refine x67 (v0 := l) ?_
  unfold w67
  refine loop2 xs.length (fun i V1 => V = V1 ∧ lookF xs s = lookF (xs.drop i) s) ⟨rfl, rfl⟩ ?_
  rintro i b V1 J hi ⟨rfl, ha⟩ hJ
  refine ⟨fun hlt => ?_, fun hge => ?_⟩
  · obtain ⟨x, hm, hx, hdr, hl, hp, hz, hrow⟩ := h.get hlt
    rw [hdr, lookF] at ha
    refine ⟨hp, hz, hlt, ptrAdd_ne hp, _, _, hrow, fun he => ⟨hp, hz, hlt, ptrAdd_ne hp, _, _, hrow, ?_⟩, fun he => ⟨h.succ hlt, hJ hl _ _ ⟨rfl, ?_⟩⟩⟩
    · rw [ha, if_pos he]; exact ⟨rfl, rfl⟩
    · rw [ha, if_neg he]
  · rw [ha, (h.done hge).1]; exact ⟨rfl, rfl⟩
theorem c68 (h : Ds.Ok V d) {s t : ByteArray} : PP 68 [d.v, .string s, .string t] V (.tuple #[.string (fieldT d s t).1, .int .i64 (fieldT d s t).2]) := by
  refine x68 (v0 := d.name) (v1 := d.ts) (v2 := d.gs) (v3 := d.ps) (v4 := d.ms) (v5 := d.is) (v6 := d.qs) (v7 := d.bs) ?_
  unfold w68
  refine (c79 h).call ⟨_, rfl, ?_⟩
  unfold fieldT tyOf
  rcases idx_cases (fun t : Ty => decide (t.name = s)) d.types with ⟨h1, h2, h3⟩ | ⟨i, x, h1, h2, h3, h4, h5, h6, h7, _⟩
  · rw [h1, h2]; exact ⟨fun _ => ⟨rfl, rfl⟩, fun h => absurd h (by decide)⟩
  · rw [h1, h3]
    have hn := h.types.n_eq
    have hlt : (i : Int) < (d.ts.n : Int) := by omega
    obtain ⟨y, hm, hx, hdr, hl, hp, hz, hrow⟩ := h.types.get hlt
    rw [h2] at hx
    cases hx
    refine ⟨fun h => absurd h (by omega), fun _ => ⟨hp, hz, hlt, ptrAdd_ne hp, _, _, hrow, (c67 (h.typesOk x h6).fields).call ⟨_, rfl, fun he => ?_, fun he => ?_⟩⟩⟩
    · simp only [sE, he, if_true]; exact ⟨by first | rfl | trivial, by first | rfl | trivial⟩
    · simp only [sE, he, if_false]; exact ⟨by first | rfl | trivial, by first | rfl | trivial⟩
theorem c70 {b : Bool} {s : ByteArray} : PP 70 [.bool b, .string s] V (.tuple #[.string (needT b s).1, .int .i64 (needT b s).2]) := by
  refine x70 ?_
  unfold w70
  refine ⟨fun h => ?_, fun h => ?_⟩
  · unfold needT; rw [if_pos h]; exact ⟨rfl, rfl⟩
  · unfold needT; rw [if_neg h]; exact ⟨rfl, rfl⟩
theorem c72 {l : Sl} {xs : List ByteArray} (h : RowsAt V l 1 (xs.map strRow1)) {s : ByteArray} : PP 72 [l.v, .string s] V (.bool (allT xs s)) := by
  refine x72 (v0 := l) ?_
  unfold w72
  refine loop2 xs.length (fun i V1 => V = V1 ∧ AllTo (fun x => decide (x = s)) xs i) ⟨rfl, AllTo.zero _ _⟩ ?_
  rintro i b V1 J hi ⟨rfl, ha⟩ hJ
  refine ⟨fun hlt => ?_, fun hge => ?_⟩
  · obtain ⟨x, hm, hx, hdr, hl, hp, hz, hrow⟩ := h.get hlt
    refine ⟨hp, hz, hlt, _, hrow, fun he => ⟨h.succ hlt, hJ hl _ _ ⟨rfl, ha.succ hx (decide_eq_true he)⟩⟩, fun he => ?_⟩
    unfold allT; rw [all_false (p := fun x => decide (x = s)) hm (by simpa using he)]; exact ⟨rfl, rfl⟩
  · unfold allT; rw [ha.all (h.done hge).2]; exact ⟨rfl, rfl⟩
theorem c117 (h : Ds.Ok V d) {s : ByteArray} {l : Sl} {xs : List ByteArray} (hl : RowsAt V l 1 (xs.map strRow1)) : PP 117 [d.v, .string s, l.v] V (.tuple #[.string (callT d s xs).1, .int .i64 (callT d s xs).2]) := by
  refine x117 (v0 := d.name) (v1 := d.ts) (v2 := d.gs) (v3 := d.ps) (v4 := d.ms) (v5 := d.is) (v6 := d.qs) (v7 := d.bs) (v9 := l) ?_
  unfold w117
  refine (c19 h).call ⟨_, rfl, ?_⟩
  unfold callT prOf
  rcases idx_cases (fun t : Pr => decide (t.name = s)) d.procs with ⟨h1, h2, h3⟩ | ⟨i, x, h1, h2, h3, h4, h5, h6, h7, _⟩
  · rw [h1, h2]; exact ⟨fun _ => ⟨rfl, rfl⟩, fun h => absurd h (by decide)⟩
  · rw [h1, h3]
    have hn := h.procs.n_eq
    have hlt : (i : Int) < (d.ps.n : Int) := by omega
    obtain ⟨y, hm, hx, hdr, hll, hp, hz, hrow⟩ := h.procs.get hlt
    rw [h2] at hx
    cases hx
    have hox := h.procsOk x h6
    have e1 := hl.n_eq
    have e2 := hox.params.n_eq
    refine ⟨fun h => absurd h (by omega), fun _ => ⟨hp, hz, hlt, _, _, _, _, _, hrow, fun he => ?_, fun he => ?_⟩⟩
    · have hle : xs.length = x.params.length := by omega
      simp only [hle, ne_eq, not_true_eq_false, if_false]
      refine loop3 xs.length (fun i V1 => V = V1 ∧ fitAll d xs x.params = fitAll d (xs.drop i) (x.params.drop i)) ⟨rfl, rfl⟩ ?_
      rintro j b c V1 J hi ⟨rfl, ha⟩ hJ
      refine ⟨fun hlt => ?_, fun hge => ?_⟩
      · obtain ⟨y, hm', hx', hdr', hl', hp', hz', hrow'⟩ := hl.get hlt
        obtain ⟨f, hmf, hxf, hdf, hlf, hpf, hzf, hrowf⟩ := hox.params.get (i := j) (by omega)
        rw [hdr', hdf, fitAll] at ha
        refine ⟨hp', hz', hlt, _, hrow', hpf, hzf, by omega, ptrAdd_ne hpf, _, _, hrowf, (c71 h).call ⟨_, rfl, fun hb => ⟨hl.succ hlt, hJ hl' _ _ _ ⟨rfl, ?_⟩⟩, fun hb => ?_⟩⟩
        · rw [ha, hb, Bool.true_and]
        · rw [eq_false_of_ne_true hb, Bool.false_and] at ha; rw [ha]; exact ⟨rfl, rfl⟩
      · rw [(hl.done hge).1, fitAll_nil] at ha
        rw [ha]; exact ⟨rfl, rfl⟩
    · have hle : ¬ xs.length = x.params.length := by omega
      simp only [ne_eq, hle, not_false_eq_true, if_true]; exact ⟨by first | rfl | trivial, by first | rfl | trivial⟩
theorem str_at {l : Sl} {xs : List ByteArray} (hl : RowsAt V l 1 (xs.map strRow1)) {i : Nat} (hi : i < xs.length) : ¬ (l.p = none) ∧ (i : Int) < (l.n : Int) ∧ V.rowp l.p i 1 = some [.string (xs.getD i sE)] := by
  have hn := hl.n_eq
  have hlt : (i : Int) < (l.n : Int) := by omega
  obtain ⟨y, hm', hx', hdr', hl', hp', hz', hrow'⟩ := hl.get hlt
  rw [List.getD_eq_getElem?_getD, hx']
  rw [Nat.mul_one] at hrow'
  exact ⟨hp', hlt, hrow'⟩
theorem c69 (h : Ds.Ok V d) {sl : Sl} {sc : Sc} {s : ByteArray} {l : Sl} {xs : List ByteArray} (hl : RowsAt V l 1 (xs.map strRow1)) :
    PP 69 [d.v, .agg #[sl.v, .bool sc.body], .string s, l.v] V (.tuple #[.string (callE d sc s xs).1, .int .i64 (callE d sc s xs).2]) := by
  refine x69 (v0 := d.name) (v1 := d.ts) (v2 := d.gs) (v3 := d.ps) (v4 := d.ms) (v5 := d.is) (v6 := d.qs) (v7 := d.bs) (v8 := sl) (v9 := sc.body) (v11 := l) ?_
  unfold w69
  refine ⟨fun hb => (c117 h hl).call ⟨_, _, rfl, fun h0 => ⟨fun h1 => ?_, fun h1 => ?_⟩, fun h0 => ?_⟩, fun hb => ?_⟩
  · unfold callE sE; rw [if_pos hb, if_pos ⟨h0, h1⟩]; exact ⟨rfl, rfl⟩
  · unfold callE sE; rw [if_pos hb, if_neg (fun h => h1 h.2)]; exact ⟨rfl, rfl⟩
  · unfold callE; rw [if_pos hb, if_neg (fun h => h0 h.1)]; exact ⟨rfl, rfl⟩
  · unfold callE; rw [if_neg hb]
    refine (c108 h).call ⟨_, rfl, ?_⟩
    unfold measT meOf
    rcases idx_cases (fun t : Ms => decide (t.name = s)) d.measures with ⟨h1, h2, h3⟩ | ⟨i, x, h1, h2, h3, h4, h5, h6, h7, _⟩
    · rw [h1, h2]; exact ⟨fun _ => ⟨rfl, rfl⟩, fun h => absurd h (by decide)⟩
    · rw [h1, h3]
      have hn := h.measures.n_eq
      have hlt : (i : Int) < (d.ms.n : Int) := by omega
      obtain ⟨y, hm, hx, hdr, hll, hp, hz, hrow⟩ := h.measures.get hlt
      rw [h2] at hx
      cases hx
      have e1 := hl.n_eq
      refine ⟨fun h => absurd h (by omega), fun _ => ⟨fun he => ?_, fun he => ?_⟩⟩
      · have hle : xs.length = 1 := by omega
        obtain ⟨a1, a2, a3⟩ := str_at hl (i := 0) (by omega)
        simp only [hle, ne_eq, not_true_eq_false, if_false]
        exact ⟨a1, by omega, by omega, _, a3, hp, hz, hlt, ptrAdd_ne hp, _, _, _, _, _, _, _, hrow, (c71 h).call ⟨_, rfl, c70.call ⟨_, _, rfl, rfl, rfl⟩⟩⟩
      · have hle : ¬ xs.length = 1 := by omega
        simp only [ne_eq, hle, not_false_eq_true, if_true]; exact ⟨by first | rfl | trivial, by first | rfl | trivial⟩
end
end Go.Proofs
namespace Go.Proofs
open Go Go.Sx
attribute [local irreducible] Go.Sx.Tri
theorem arity {op n : Int} {s : ByteArray} {len : Int} (h : nodeB op n s len = true) : (op = 5 → len = 1) ∧ (op = 14 ∨ op = 15 → len = 2) ∧ (op = 21 → len = 3) ∧ len ≤ 6 := by
  unfold nodeB partsN at h
  rw [Bool.and_eq_true, Bool.and_eq_true, decide_eq_true_eq] at h
  obtain ⟨⟨h, -⟩, -⟩ := h
  grind
theorem okE_node {d : Int} {e : E} (h : okE d e = true) : nodeB e.op e.n e.s e.k.length = true := by
  cases e
  unfold okE at h
  rw [Bool.and_eq_true, Bool.and_eq_true] at h
  exact h.1.2
theorem okEs_mem {d : Int} : ∀ {l : List E}, okEs d l = true → ∀ x ∈ l, okE d x = true
  | [], _, x, hx => absurd hx List.not_mem_nil
  | y :: l, h, x, hx => by
    unfold okEs at h
    rw [Bool.and_eq_true] at h
    rcases List.mem_cons.1 hx with rfl | hx
    · exact h.1
    · exact okEs_mem h.2 x hx
theorem okE_kids {d : Int} {e : E} (h : okE d e = true) : ∀ x ∈ e.k, okE (d + 1) x = true := by
  cases e
  unfold okE at h
  rw [Bool.and_eq_true] at h
  exact okEs_mem h.2
theorem ownS {V0 V : Mem} {s : Sl} {l : List ByteArray} (h : Own V0 V 9 1 s (l.flatMap strRow1)) : RowsAt V s 1 (l.map strRow1) := h.rows (fun _ => rfl) (by decide)
theorem one_row {V : Mem} {b : Nat} {s : ByteArray} {t : Nat} (h : V b = some (.cells #[.string s] t (0, 0))) : RowsAt V ⟨some ⟨b, 0, none⟩, 1, 1⟩ 1 ([s].map strRow1) :=
  RowsAt.cells (xs := [s]) (row := strRow1) h rfl (fun _ => rfl) rfl (by simp)
def scV (sl : Sl) (sc : Sc) : Value := .agg #[sl.v, .bool sc.body]
section
variable {V : Mem} {d : Ds} {sc : Sc} {sl : Sl}
def RefE (V : Mem) (d : Ds) (sl : Sl) (sc : Sc) (e : E) : Prop := ∀ V1, V.sub V1 → PP 20 [d.v, scV sl sc, e.v] V1 (.tuple #[.string (exprT d sc e).1, .int .i64 (exprT d sc e).2])
theorem refParts (e : E) (he : E.Ok V e) (hlen : (e.k.length : Int) ≤ 6) (hk : ∀ x ∈ e.k, RefE V d sl sc x) :
    Tri Tryz.prog 66 #[d.v, scV sl sc, e.v] V fun r V' => ∃ s' : Sl, r = .returned (.tuple #[.slice s'.p s'.n s'.c, .int .i64 (partsT d sc [] e.k).2]) ∧ V.sub V' ∧ RowsAt V' s' 1 ((partsT d sc [] e.k).1.map strRow1) := by
  have hr := he.rows
  refine x66 (v0 := d.name) (v1 := d.ts) (v2 := d.gs) (v3 := d.ps) (v4 := d.ms) (v5 := d.is) (v6 := d.qs) (v7 := d.bs) (v8 := sl) (v9 := sc.body) (v10 := e.op) (v11 := e.n) (v12 := e.s) (v13 := e.l) ?_
  unfold w66
  refine loop4s (mk := fun s : Sl => .slice s.p s.n s.c) (mc := .int .i64) (md := fun s : Sl => .slice s.p s.n s.c) ⟨none, 0, 0⟩ 0 ⟨none, 0, 0⟩ inj_sl e.k.length (fun i s V1 => ∃ acc, Own V V1 9 1 s (acc.flatMap strRow1) ∧ partsT d sc [] e.k = partsT d sc acc (e.k.drop i) ∧ acc.length = i) ⟨[], Own.nil (Mem.sub.refl _) _ _, rfl, rfl⟩ ?_
  rintro i b c s V1 J hi ⟨acc, hown, hp, hlen'⟩ hJ
  have hr1 := hr.sub hown.sub
  refine ⟨fun hlt => ?_, fun hge => ?_⟩
  · obtain ⟨x, hm, hx, hdr, hl, hpp, hz, hrow⟩ := hr1.get hlt
    rw [hdr, partsT_cons] at hp
    refine ⟨hpp, hz, hlt, _, _, _, _, hrow, (hk x hm V1 hown.sub).call ⟨_, _, rfl, fun h0 => ?_, fun h0 => ?_⟩⟩
    · intro b1 hb1
      rw [if_neg (fun h => h h0)] at hp
      refine app85 (s := s) (u := ⟨some ⟨b1, 0, none⟩, 1, 1⟩) (xs := acc) (ys := [(exprT d sc x).1]) rfl rfl (hown.new hb1 _) (one_row (Mem.set_same _ _ _)) (by simp; omega) fun s' V' ho => ⟨s', rfl, hr1.succ hlt, hJ hl _ _ _ _ ⟨_, ho, hp, by simp [hlen']⟩⟩
    · rw [if_pos h0] at hp
      exact ⟨⟨none, 0, 0⟩, by rw [hp], hown.sub, by rw [hp]; exact RowsAt.nil⟩
  · rw [(hr1.done hge).1, partsT_nil] at hp
    exact ⟨s, by rw [hp], hown.sub, by rw [hp]; exact ownS hown⟩
set_option maxRecDepth 4000 in
theorem refExpr (hd : Ds.Ok V d) (hsl : RowsAt V sl 2 (sc.vars.map Fld.row)) : ∀ (e : E), E.Ok V e → ∀ dd, okE dd e = true → RefE V d sl sc e := by
  intro e
  induction e using E.ind with
  | h e ih =>
  intro he dd hok V1 hV
  have har := arity (okE_node hok)
  have hk : ∀ x ∈ e.k, RefE V1 d sl sc x := fun x hx V2 h2 => ih x hx (he.kids x hx) (dd + 1) (okE_kids hok x hx) V2 (hV.trans h2)
  refine Pur.mk (x20 (v0 := d.name) (v1 := d.ts) (v2 := d.gs) (v3 := d.ps) (v4 := d.ms) (v5 := d.is) (v6 := d.qs) (v7 := d.bs) (v8 := sl) (v9 := sc.body) (v10 := e.op) (v11 := e.n) (v12 := e.s) (v13 := e.l) ?_)
  unfold w20
  refine Tri.mono (refParts e (he.sub hV) har.2.2.2 hk) ?_
  rintro _ V2 ⟨s', rfl, h12, hrows⟩
  rw [exprT_eq]
  have hlen := partsT_len d sc e.k []
  generalize hPT : partsT d sc [] e.k = pt at hrows hlen
  obtain ⟨l, f⟩ := pt
  refine ⟨s', f, rfl, fun h0 => ?_, fun h0 => ?_⟩
  · subst h0
    have hlen : l.length = e.k.length := by simpa using hlen rfl
    simp only [ne_eq, not_true_eq_false, if_false]
    have hd2 := hd.sub (hV.trans h12)
    have hsl2 := hsl.sub (hV.trans h12)
    generalize hX : nodeT d sc e.op e.s l = X
    have key : ∀ a b, X = (a, b) → (Ending.returned (.tuple #[.string a, .int .i64 b]) = Ending.returned (.tuple #[.string X.1, .int .i64 X.2]) ∧ V1.sub V2) := fun a b h => by rw [h]; exact ⟨rfl, h12⟩
    have cAll := fun t => c72 hrows (s := t)
    have cFits := fun a b => c71 hd2 (s := a) (t := b)
    have at0 := fun h : 0 < l.length => str_at hrows h
    have at1 := fun h : 1 < l.length => str_at hrows h
    have at2 := fun h : 2 < l.length => str_at hrows h
    unfold nodeT at hX
    refine ⟨fun o1 => key _ _ ?_, fun o1 => ⟨fun o2 => key _ _ ?_, fun o2 => ⟨fun o3 => key _ _ ?_, fun o3 => ⟨fun o4 => ?_, fun o4 => ⟨fun o5 => ?_, fun o5 => ⟨fun o6 => ?_, fun o6 => ⟨fun o7 => ?_, fun o7 => ⟨fun o14 => ?_, fun o14 => ⟨fun o15 => ?_, fun o15 => ⟨fun o16 => ?_, fun o16 => ⟨fun o17 => ?_, fun o17 => ⟨fun o18 => ?_, fun o18 => ⟨fun o19 => ?_, fun o19 => ⟨fun o20 => ?_, fun o20 => ⟨fun o21 => ?_, fun o21 => ?_⟩⟩⟩⟩⟩⟩⟩⟩⟩⟩⟩⟩⟩⟩⟩
    · rw [← hX, if_pos o1]; rfl
    · rw [← hX, if_neg o1, if_pos o2]; rfl
    · rw [← hX, if_neg o1, if_neg o2, if_pos o3]; rfl
    · rw [if_neg o1, if_neg o2, if_neg o3, if_pos o4] at hX
      refine (c67 hsl2).call ⟨_, rfl, fun h => key _ _ ?_, fun h => key _ _ ?_⟩
      · rw [← hX, if_pos (show lookF sc.vars e.s = sE from h)]; rfl
      · rw [← hX, if_neg (show ¬ lookF sc.vars e.s = sE from h)]
    · rw [if_neg o1, if_neg o2, if_neg o3, if_neg o4, if_pos o5] at hX
      obtain ⟨a1, a2, a3⟩ := at0 (by have := har.1 o5; omega)
      exact ⟨a1, by omega, a2, _, a3, (c68 hd2).call ⟨_, _, rfl, key _ _ (by rw [← hX])⟩⟩
    · rw [if_neg o1, if_neg o2, if_neg o3, if_neg o4, if_neg o5, if_pos o6] at hX
      refine ⟨fun hb => (c36 hd2).call ⟨_, rfl, fun hn => key _ _ ?_, fun hn => key _ _ ?_⟩, fun hb => key _ _ ?_⟩
      · rw [← hX, if_neg (by rw [hb]; simp), if_neg (by rw [hn]; simp)]
      · rw [← hX, if_neg (by rw [hb]; simp), if_pos (eq_false_of_ne_true hn)]; rfl
      · rw [← hX, if_pos (eq_false_of_ne_true hb)]; rfl
    · rw [if_neg o1, if_neg o2, if_neg o3, if_neg o4, if_neg o5, if_neg o6, if_pos o7] at hX
      exact (c69 hd2 (sl := sl) hrows).call ⟨_, _, rfl, key _ _ (by rw [← hX])⟩
    iterate 2
      · rw [if_neg o1, if_neg o2, if_neg o3, if_neg o4, if_neg o5, if_neg o6, if_neg o7, if_pos (by omega)] at hX
        obtain ⟨a1, a2, a3⟩ := at0 (by have := har.2.1 (by omega); omega)
        obtain ⟨b1, b2, b3⟩ := at1 (by have := har.2.1 (by omega); omega)
        refine ⟨a1, by omega, a2, _, a3, b1, by omega, b2, _, b3, (cFits _ _).call ⟨_, rfl, fun h => c70.call ⟨_, _, rfl, key _ _ ?_⟩, fun h => ⟨b1, by omega, b2, _, b3, a1, by omega, a2, _, a3, (cFits _ _).call ⟨_, rfl, c70.call ⟨_, _, rfl, key _ _ ?_⟩⟩⟩⟩⟩
        · rw [← hX, h]; rfl
        · rw [← hX, eq_false_of_ne_true h]; rfl
    iterate 2
      · rw [if_neg o1, if_neg o2, if_neg o3, if_neg o4, if_neg o5, if_neg o6, if_neg o7, if_neg (by omega), if_pos (by omega)] at hX
        exact (cAll _).call ⟨_, rfl, c70.call ⟨_, _, rfl, key _ _ (by rw [← hX]; rfl)⟩⟩
    iterate 3
      · rw [if_neg o1, if_neg o2, if_neg o3, if_neg o4, if_neg o5, if_neg o6, if_neg o7, if_neg (by omega), if_neg (by omega), if_pos (by omega)] at hX
        exact (cAll _).call ⟨_, rfl, c70.call ⟨_, _, rfl, key _ _ (by rw [← hX]; rfl)⟩⟩
    · rw [if_neg o1, if_neg o2, if_neg o3, if_neg o4, if_neg o5, if_neg o6, if_neg o7, if_neg (by omega), if_neg (by omega), if_neg (by omega), if_pos o21] at hX
      obtain ⟨a1, a2, a3⟩ := at0 (by have := har.2.2.1 o21; omega)
      obtain ⟨b1, b2, b3⟩ := at1 (by have := har.2.2.1 o21; omega)
      obtain ⟨c1, c2, c3⟩ := at2 (by have := har.2.2.1 o21; omega)
      have fin : ∀ t, (if l.getD 1 sE = sNil then l.getD 2 sE else l.getD 1 sE) = t →
          (l.getD 0 sE = sBool → fits d (l.getD 1 sE) (l.getD 2 sE) = true → X = needT true t) ∧ (l.getD 0 sE = sBool → ¬ fits d (l.getD 1 sE) (l.getD 2 sE) = true → X = needT (fits d (l.getD 2 sE) (l.getD 1 sE)) t) ∧ (¬ l.getD 0 sE = sBool → X = needT false t) := fun t ht => by
        rw [ht] at hX
        refine ⟨fun x y => ?_, fun x y => ?_, fun x => ?_⟩
        · rw [← hX, decide_eq_true x, y]; rfl
        · rw [← hX, decide_eq_true x, eq_false_of_ne_true y]; rfl
        · rw [← hX, decide_eq_false x]; rfl
      refine ⟨b1, by omega, b2, _, b3, fun hn => ?_, fun hn => ?_⟩
      · have hf := fin _ (if_pos hn)
        refine ⟨c1, by omega, c2, _, c3, a1, by omega, a2, _, a3, fun h0 => ⟨b1, by omega, b2, _, b3, c1, by omega, c2, _, c3, (cFits _ _).call ⟨_, rfl, fun h => c70.call ⟨_, _, rfl, key _ _ ?_⟩, fun h => ⟨c1, by omega, c2, _, c3, b1, by omega, b2, _, b3, (cFits _ _).call ⟨_, rfl, c70.call ⟨_, _, rfl, key _ _ ?_⟩⟩⟩⟩⟩, fun h0 => c70.call ⟨_, _, rfl, key _ _ ?_⟩⟩
        · exact hf.1 h0 h
        · exact hf.2.1 h0 h
        · exact hf.2.2 h0
      · have hf := fin _ (if_neg hn)
        refine ⟨a1, by omega, a2, _, a3, fun h0 => ⟨b1, by omega, b2, _, b3, c1, by omega, c2, _, c3, (cFits _ _).call ⟨_, rfl, fun h => c70.call ⟨_, _, rfl, key _ _ ?_⟩, fun h => ⟨c1, by omega, c2, _, c3, b1, by omega, b2, _, b3, (cFits _ _).call ⟨_, rfl, c70.call ⟨_, _, rfl, key _ _ ?_⟩⟩⟩⟩⟩, fun h0 => c70.call ⟨_, _, rfl, key _ _ ?_⟩⟩
        · exact hf.1 h0 h
        · exact hf.2.1 h0 h
        · exact hf.2.2 h0
    · rw [if_neg o1, if_neg o2, if_neg o3, if_neg o4, if_neg o5, if_neg o6, if_neg o7, if_neg (by omega), if_neg (by omega), if_neg (by omega), if_neg o21] at hX
      exact (cAll _).call ⟨_, rfl, c70.call ⟨_, _, rfl, key _ _ (by rw [← hX]; rfl)⟩⟩
  · simp only [ne_eq, h0, not_false_eq_true, if_true]
    exact ⟨rfl, h12⟩
end
end Go.Proofs
namespace Go.Proofs
open Go Go.Sx
attribute [local irreducible] Go.Sx.Tri
theorem ownF {V0 V : Mem} {s : Sl} {l : List Fld} (h : Own V0 V 67 2 s (l.flatMap Fld.row)) : RowsAt V s 2 (l.map Fld.row) := h.rows (fun _ => rfl) (by decide)
theorem one_fld {V : Mem} {b : Nat} {f : Fld} {t : Nat} (h : V b = some (.cells #[.string f.name, .string f.ty] t (0, 0))) : RowsAt V ⟨some ⟨b, 0, none⟩, 1, 1⟩ 2 ([f].map Fld.row) :=
  RowsAt.cells (xs := [f]) (row := Fld.row) h rfl (fun _ => rfl) rfl (by simp)
section
variable {V : Mem} {d : Ds}
def Small (d : Ds) : Prop := d.globals.length ≤ 1000 ∧ ∀ p ∈ d.procs, p.params.length ≤ 1000 ∧ p.locals.length ≤ 1000
theorem refInProc (hd : Ds.Ok V d) {p : Pr} (hp : Pr.Ok V p) (h1 : d.globals.length ≤ 1000) (h2 : p.params.length ≤ 1000 ∧ p.locals.length ≤ 1000) :
    Tri Tryz.prog 21 #[d.v, p.v] V fun r V' => ∃ s' : Sl, r = .returned (scV s' (inProcS d p)) ∧ V.sub V' ∧ RowsAt V' s' 2 ((inProcS d p).vars.map Fld.row) := by
  refine x21 (v0 := d.name) (v1 := d.ts) (v2 := d.gs) (v3 := d.ps) (v4 := d.ms) (v5 := d.is) (v6 := d.qs) (v7 := d.bs) (v8 := p.name) (v9 := p.ps) (v10 := p.result) (v11 := p.ls) (v12 := p.bs) ?_
  unfold w21
  intro b hb
  have hs := Mem.sub_new hb (.cells #[] 67 (0, 0))
  refine app23 (s := ⟨some ⟨b, 0, none⟩, 0, 0⟩) (u := p.ps) (xs := []) (ys := p.params) rfl rfl (Own.empty hs _ _ _) (hp.params.sub hs) (by first | omega | (simp; omega)) fun s1 V1 o1 => ⟨s1, rfl, ?_⟩
  refine app23 (s := s1) (u := p.ls) (xs := p.params) (ys := p.locals) rfl rfl o1 (hp.locals.sub o1.sub) (by first | omega | (simp; omega)) fun s2 V2 o2 => ⟨s2, rfl, ?_⟩
  refine app23 (s := s2) (u := d.gs) (xs := p.params ++ p.locals) (ys := d.globals) rfl rfl o2 (hd.globals.sub o2.sub) (by first | omega | (simp; omega)) fun s3 V3 o3 => ⟨s3, rfl, ?_⟩
  exact ⟨s3, rfl, o3.sub, ownF o3⟩
theorem refInBound (hd : Ds.Ok V d) {p : Pr} (hp : Pr.Ok V p) (h1 : d.globals.length ≤ 1000) (h2 : p.params.length ≤ 1000 ∧ p.locals.length ≤ 1000) :
    Tri Tryz.prog 111 #[d.v, p.v] V fun r V' => ∃ s' : Sl, r = .returned (scV s' (inBoundS d p)) ∧ V.sub V' ∧ RowsAt V' s' 2 ((inBoundS d p).vars.map Fld.row) := by
  refine x111 (v0 := d.name) (v1 := d.ts) (v2 := d.gs) (v3 := d.ps) (v4 := d.ms) (v5 := d.is) (v6 := d.qs) (v7 := d.bs) (v8 := p.name) (v9 := p.ps) (v10 := p.result) (v11 := p.ls) (v12 := p.bs) ?_
  unfold w111
  intro b hb
  have hs := Mem.sub_new hb (.cells #[] 67 (0, 0))
  refine app23 (s := ⟨some ⟨b, 0, none⟩, 0, 0⟩) (u := p.ps) (xs := []) (ys := p.params) rfl rfl (Own.empty hs _ _ _) (hp.params.sub hs) (by first | omega | (simp; omega)) fun s1 V1 o1 => ⟨s1, rfl, ?_⟩
  refine app23 (s := s1) (u := d.gs) (xs := p.params) (ys := d.globals) rfl rfl o1 (hd.globals.sub o1.sub) (by first | omega | (simp; omega)) fun s3 V3 o3 => ⟨s3, rfl, ?_⟩
  exact ⟨s3, rfl, o3.sub, ownF o3⟩
theorem refInFormula (hd : Ds.Ok V d) {t : ByteArray} (h1 : d.globals.length ≤ 1000) :
    Tri Tryz.prog 37 #[d.v, .string t] V fun r V' => ∃ s' : Sl, r = .returned (scV s' (inFormS d t)) ∧ V.sub V' ∧ RowsAt V' s' 2 ((inFormS d t).vars.map Fld.row) := by
  refine x37 (v0 := d.name) (v1 := d.ts) (v2 := d.gs) (v3 := d.ps) (v4 := d.ms) (v5 := d.is) (v6 := d.qs) (v7 := d.bs) ?_
  unfold w37
  refine ⟨fun he => ?_, fun he => ?_⟩
  · refine app23 (s := ⟨none, 0, 0⟩) (u := d.gs) (xs := []) (ys := d.globals) rfl rfl (Own.nil (Mem.sub.refl V) _ _) hd.globals (by first | omega | (simp; omega)) fun s1 V1 o1 => ⟨s1, rfl, ?_⟩
    refine ⟨s1, rfl, o1.sub, ?_⟩
    unfold inFormS sE
    rw [if_pos he]
    exact ownF o1
  · intro b hb
    have hs := Mem.sub_new hb (.cells #[.string (strB [116, 104, 105, 115]), .string t] 67 (0, 0))
    refine app23 (s := ⟨none, 0, 0⟩) (u := ⟨some ⟨b, 0, none⟩, 1, 1⟩) (xs := []) (ys := [⟨sThisF, t⟩]) rfl rfl (Own.nil hs _ _) (one_fld (Mem.set_same _ _ _)) (by simp) fun s1 V1 o1 => ⟨s1, rfl, ?_⟩
    refine app23 (s := s1) (u := d.gs) (xs := [⟨sThisF, t⟩]) (ys := d.globals) rfl rfl o1 (hd.globals.sub o1.sub) (by first | omega | (simp; omega)) fun s2 V2 o2 => ⟨s2, rfl, ?_⟩
    refine ⟨s2, rfl, o2.sub, ?_⟩
    unfold inFormS sE
    rw [if_neg he]
    exact ownF o2
theorem shape_arity {op : Int} {s : ByteArray} {es : List E} {nl nx : Int} (h : shapeR op s es nl nx = true) : (op = 6 → ∃ e0, es = [e0] ∧ e0.op = 7) ∧ (op = 1 ∨ op = 3 ∨ op = 4 → es.length = 1) ∧ (op = 2 → es.length = 2) ∧ (op = 5 → es.length ≤ 1) ∧ es.length ≤ 2 ∧ (∀ x ∈ es, okE 1 x = true) := by
  unfold shapeR at h
  rw [Bool.and_eq_true] at h
  obtain ⟨h, hv⟩ := h
  have hall : ∀ x ∈ es, okE 1 x = true := fun x hx => by
    have := List.all_eq_true.1 hv x hx
    unfold validE at this
    exact (of_decide_eq_true this).1
  unfold shapeB at h
  have h6 : op = 6 → ∃ e0, es = [e0] ∧ e0.op = 7 := fun h6 => by
    subst h6
    simp only [show ¬ ((6 : Int) = 1) by decide, show ¬ ((6 : Int) = 2) by decide, show ¬ ((6 : Int) = 3) by decide, show ¬ ((6 : Int) = 4) by decide, show ¬ ((6 : Int) = 5) by decide, if_false, if_true, decide_eq_true_eq] at h
    match es, h with
    | [e0], h => exact ⟨e0, rfl, h.2.2.1⟩
    | [], h => simp at h
    | _ :: _ :: _, h => simp at h; omega
  refine ⟨h6, ?_, ?_, ?_, ?_, hall⟩ <;> grind
theorem c109 (hd : Ds.Ok V d) {p : Pr} (hp : Pr.Ok V p) (h1 : d.globals.length ≤ 1000) (h2 : p.params.length ≤ 1000 ∧ p.locals.length ≤ 1000) {x : S} (hx : S.Ok V x) (hs : shapeR x.op x.s x.es x.ls.length x.xs.length = true) :
    PP 109 [d.v, p.v, x.v] V (.int .i64 (stmtT d (inProcS d p) p.result x.op x.s x.es)) := by
  obtain ⟨a6, a134, a2, a5, alen, aok⟩ := shape_arity hs
  rw [S.v_eq]
  refine Pur.mk (x109 (v0 := d.name) (v1 := d.ts) (v2 := d.gs) (v3 := d.ps) (v4 := d.ms) (v5 := d.is) (v6 := d.qs) (v7 := d.bs) (v8 := p.name) (v9 := p.ps) (v10 := p.result) (v11 := p.ls) (v12 := p.bs) (v13 := x.op) (v14 := x.s) (v15 := x.el) (v16 := x.ll) (v17 := x.xl) ?_)
  unfold w109
  refine Tri.mono (refInProc hd hp h1 h2) ?_
  rintro _ V1 ⟨sv, rfl, hV1, hsc⟩
  generalize hscE : inProcS d p = sc at hsc
  have hbody : sc.body = true := by rw [← hscE]; rfl
  have hd1 := hd.sub hV1
  have hf := first_row (hx.sub hV1)
  refine ⟨sv, sc.body, rfl, fun o6 => ?_, fun o6 => ?_⟩
  · obtain ⟨e0, he0, -⟩ := a6 o6
    rcases hf with ⟨h, -⟩ | ⟨e0', r, he, hn, hp0, hp2, hrow⟩
    · rw [he0] at h; cases h
    · rw [he0] at he
      cases he
      have hok := aok e0 (by rw [he0]; simp)
      have hoe := (hx.sub hV1).eOk e0 (by rw [he0]; simp)
      have hk : ∀ y ∈ e0.k, RefE V1 d sv sc y := fun y hy => refExpr hd1 hsc y (hoe.kids y hy) 2 (okE_kids hok y hy)
      refine ⟨hp0, by omega, by omega, _, _, _, _, hrow, Tri.mono (refParts e0 hoe (arity (okE_node hok)).2.2.2 hk) ?_⟩
      rintro _ V2 ⟨s', rfl, h12, hrows⟩
      unfold stmtT
      rw [if_pos o6, he0]
      simp only
      generalize hPT : partsT d sc [] e0.k = pt at hrows
      obtain ⟨l, f⟩ := pt
      have hrow2 := h12.rowp hrow
      refine ⟨s', f, rfl, fun h0 => ⟨hp0, by omega, by omega, hp2, _, _, _, _, hrow2, (c117 (hd1.sub h12) hrows).call ⟨_, _, rfl, ?_, hV1.trans h12⟩⟩, fun h0 => ?_⟩
      · simp only [h0, ne_eq, not_true_eq_false, if_false]
      · simp only [h0, ne_eq, not_false_eq_true, if_true]; exact ⟨by trivial, hV1.trans h12⟩
  · unfold stmtT
    rw [if_neg o6]
    have hr := (hx.sub hV1).eRows
    refine loop3t (mk := .int .i64) (mc := fun s : Sl => .slice s.p s.n s.c) 0 ⟨none, 0, 0⟩ inj_sl x.es.length (fun i s V2 => ∃ acc, Own V1 V2 9 1 s (acc.flatMap strRow1) ∧ partsT d sc [] x.es = partsT d sc acc (x.es.drop i) ∧ acc.length = i) ⟨[], Own.nil (Mem.sub.refl _) _ _, rfl, rfl⟩ ?_
    rintro i b s V2 J hi ⟨acc, hown, hpt, hlen'⟩ hJ
    have hr1 := hr.sub hown.sub
    refine ⟨fun hlt => ?_, fun hge => ?_⟩
    · obtain ⟨y, hm, hxy, hdr, hl, hpp, hz, hrow⟩ := hr1.get hlt
      rw [hdr, partsT_cons] at hpt
      refine ⟨hpp, hz, hlt, _, _, _, _, hrow, (refExpr hd1 hsc y ((hx.sub hV1).eOk y hm) 1 (aok y hm) V2 hown.sub).call ⟨_, _, rfl, fun h0 => ?_, fun h0 => ?_⟩⟩
      · intro b1 hb1
        rw [if_neg (fun h => h h0)] at hpt
        refine app85 (s := s) (u := ⟨some ⟨b1, 0, none⟩, 1, 1⟩) (xs := acc) (ys := [(exprT d sc y).1]) rfl rfl (hown.new hb1 _) (one_row (Mem.set_same _ _ _)) (by first | omega | (simp; omega)) fun s' V' ho => ⟨s', rfl, hr1.succ hlt, hJ hl _ _ _ ⟨_, ho, hpt, by simp [hlen']⟩⟩
      · rw [if_pos h0] at hpt
        rw [hpt]
        simp only [h0, ne_eq, not_false_eq_true, if_true]
        exact ⟨by trivial, hV1.trans hown.sub⟩
    · have hge' := (hr1.done hge).2
      rw [(hr1.done hge).1, partsT_nil] at hpt
      rw [hpt]
      simp only [ne_eq, not_true_eq_false, if_false]
      have hrows := ownS hown
      have hal : acc.length = x.es.length := by omega
      have hsub := hV1.trans hown.sub
      have hd2 := hd1.sub hown.sub
      have hsc2 := hsc.sub hown.sub
      have sln := hrows.n_eq
      have at0 := fun h : 0 < acc.length => str_at hrows h
      have at1 := fun h : 1 < acc.length => str_at hrows h
      have key : ∀ X n : Int, X = n → (Ending.returned (.int .i64 n) = Ending.returned (.int .i64 X) ∧ V.sub V2) := fun X n h => by rw [h]; exact ⟨rfl, hsub⟩
      refine ⟨fun o1 => (c67 hsc2).call ⟨_, rfl, fun hl => key _ _ ?_, fun hl => ?_⟩, fun o1 => ⟨fun o2 => ?_, fun o2 => ⟨fun o3 => ?_, fun o3 => ⟨fun o4 => ?_, fun o4 => ⟨fun o5 => ?_, fun o5 => key _ _ ?_⟩⟩⟩⟩⟩
      · rw [if_pos o1, if_pos (show lookF sc.vars x.s = sE from hl)]
      · obtain ⟨b1, b2, b3⟩ := at0 (by have := a134 (by omega); omega)
        refine ⟨b1, by omega, b2, _, b3, (c71 hd2).call ⟨_, rfl, fun hb => key _ _ ?_, fun hb => key _ _ ?_⟩⟩
        · rw [if_pos o1, if_neg (show ¬ lookF sc.vars x.s = sE from hl), if_pos hb]
        · rw [if_pos o1, if_neg (show ¬ lookF sc.vars x.s = sE from hl), if_neg hb]
      · obtain ⟨b1, b2, b3⟩ := at0 (by have := a2 o2; omega)
        obtain ⟨c1, c2, c3⟩ := at1 (by have := a2 o2; omega)
        rw [if_neg o1, if_pos o2]
        refine ⟨b1, by omega, b2, _, b3, (c68 hd2).call ⟨_, _, rfl, fun hb => ⟨c1, by omega, c2, _, c3, (c71 hd2).call ⟨_, rfl, fun hc => key _ _ ?_, fun hc => key _ _ ?_⟩⟩, fun hb => key _ _ ?_⟩⟩
        · rw [if_neg (fun h => h hb), if_pos hc]
        · rw [if_neg (fun h => h hb), if_neg hc]
        · rw [if_pos hb]
      · obtain ⟨b1, b2, b3⟩ := at0 (by have := a134 (by omega); omega)
        rw [if_neg o1, if_neg o2, if_pos (Or.inl o3)]
        exact ⟨b1, by omega, b2, _, b3, fun h => key _ _ (by rw [if_pos (show _ = sBool from h)]), fun h => key _ _ (by rw [if_neg (show ¬ _ = sBool from h)])⟩
      · obtain ⟨b1, b2, b3⟩ := at0 (by have := a134 (by omega); omega)
        rw [if_neg o1, if_neg o2, if_pos (Or.inr o4)]
        exact ⟨b1, by omega, b2, _, b3, fun h => key _ _ (by rw [if_pos (show _ = sBool from h)]), fun h => key _ _ (by rw [if_neg (show ¬ _ = sBool from h)])⟩
      · have h5 := a5 o5
        rw [if_neg o1, if_neg o2, if_neg (by omega), if_pos o5]
        have rest : ¬ (acc.length = 0) → ((s.n : Int) = 1) ∧ ¬ (s.p = none) ∧ (0 : Int) < (s.n : Int) ∧ V2.rowp s.p 0 1 = some [.string (acc.getD 0 sE)] := fun h => by
          obtain ⟨b1, b2, b3⟩ := at0 (by omega)
          exact ⟨by omega, b1, b2, b3⟩
        refine ⟨fun hn => ?_, fun hn => ?_⟩
        · have h0 : acc.length = 0 := by omega
          rw [if_pos h0]
          refine ⟨fun he => key _ _ (by rw [if_pos (show p.result = sE from he)]), fun he => ⟨fun h => absurd h (by omega), fun h => key _ _ (by rw [if_neg (show ¬ p.result = sE from he)])⟩⟩
        · have h0 : ¬ acc.length = 0 := by omega
          obtain ⟨r1, r2, r3, r4⟩ := rest h0
          rw [if_neg h0]
          refine ⟨fun _ => ⟨fun he => key _ _ (by rw [if_neg (fun h => h.1 (show p.result = sE from he))]), fun he => ⟨r2, by omega, r3, _, r4, (c71 hd2).call ⟨_, rfl, fun hb => key _ _ ?_, fun hb => key _ _ ?_⟩⟩⟩, fun h => absurd r1 h⟩
          · rw [if_pos ⟨show ¬ p.result = sE from he, hb⟩]
          · rw [if_neg (fun h => hb h.2)]
      · rw [if_neg o1, if_neg o2, if_neg (by omega), if_neg o5]
end
end Go.Proofs
namespace Go.Proofs
open Go Go.Sx
attribute [local irreducible] Go.Sx.Tri
theorem okS_shape {d : Int} {x : S} (h : okS d x = true) : shapeR x.op x.s x.es x.ls.length x.xs.length = true ∧ okSs (d + 1) x.ls = true ∧ okSs (d + 1) x.xs = true := by
  cases x
  unfold okS at h
  rw [Bool.and_eq_true, Bool.and_eq_true, Bool.and_eq_true] at h
  exact ⟨h.1.1.2, h.1.2, h.2⟩
theorem okSs_mem {d : Int} : ∀ {l : List S}, okSs d l = true → ∀ x ∈ l, okS d x = true
  | [], _, x, hx => absurd hx List.not_mem_nil
  | y :: l, h, x, hx => by
    unfold okSs at h
    rw [Bool.and_eq_true] at h
    rcases List.mem_cons.1 hx with rfl | hx
    · exact h.1
    · exact okSs_mem h.2 x hx
theorem szS_eq (x : S) : szS x = 1 + szSs x.ls + szSs x.xs := by cases x; unfold szS; rfl
theorem szSs_cons (x : S) (l : List S) : szSs (x :: l) = szS x + szSs l := by rw [szSs]
mutual
theorem stT_n (d : Ds) (sc : Sc) (result : ByteArray) (n : Int) : ∀ x : S, (stT d sc result n x).2 = 0 → (stT d sc result n x).1 = n + szS x
  | .mk op s _ es _ ls _ xs => by
    have h1 := stsT_n d sc result (n + 1) ls
    have h2 := stsT_n d sc result (stsT d sc result (n + 1) ls).1 xs
    unfold stT szS
    intro h
    split at h
    · rename_i h'; exact absurd h h'
    · rename_i h'
      rw [if_neg h']
      split at h
      · rename_i h3; exact absurd h h3
      · rename_i h3
        rw [if_neg h3, h2 h, h1 (by simpa using h3)]
        omega
theorem stsT_n (d : Ds) (sc : Sc) (result : ByteArray) (n : Int) : ∀ l : List S, (stsT d sc result n l).2 = 0 → (stsT d sc result n l).1 = n + szSs l
  | [] => by simp [stsT, szSs]
  | x :: xs => by
    have h1 := stT_n d sc result n x
    have h2 := stsT_n d sc result (stT d sc result n x).1 xs
    rw [stsT_cons, szSs_cons]
    intro h
    split at h
    · rename_i h'; exact absurd h h'
    · rename_i h'
      rw [if_neg h', h2 h, h1 (by simpa using h')]
      omega
end
theorem firstE_some {α β : Type} {f : Nat → α → Option β} {i : Nat} {x : α} {xs : List α} {b : β} (h : f i x = some b) : firstE f i (x :: xs) = some b := by unfold firstE; rw [h]
theorem firstE_none {α β : Type} {f : Nat → α → Option β} {i : Nat} {x : α} {xs : List α} (h : f i x = none) : firstE f i (x :: xs) = firstE f (i + 1) xs := by rw [firstE, h]
section
variable {V : Mem} {d : Ds}
def RefS (V : Mem) (d : Ds) (p : Pr) (l : List S) : Prop := ∀ (sl : Sl) (n dd : Int), RowsAt V sl 5 (l.map S.row) → (∀ x ∈ l, S.Ok V x) → okSs dd l = true → 0 ≤ n → n + szSs l ≤ 1000 →
  PP 59 [d.v, p.v, sl.v, .int .i64 n] V (.tuple #[.int .i64 (stsT d (inProcS d p) p.result n l).1, .int .i64 (stsT d (inProcS d p) p.result n l).2])
theorem refStep (hd : Ds.Ok V d) {p : Pr} (hp : Pr.Ok V p) (h1 : d.globals.length ≤ 1000) (h2 : p.params.length ≤ 1000 ∧ p.locals.length ≤ 1000) {l : List S} (hk : ∀ x ∈ l, RefS V d p x.ls ∧ RefS V d p x.xs) : RefS V d p l := by
  intro sl n dd hr hok hokS hn0 hn1
  refine x59 (v0 := d.name) (v1 := d.ts) (v2 := d.gs) (v3 := d.ps) (v4 := d.ms) (v5 := d.is) (v6 := d.qs) (v7 := d.bs) (v8 := p.name) (v9 := p.ps) (v10 := p.result) (v11 := p.ls) (v12 := p.bs) (v13 := sl) (v14 := n) ?_
  unfold w59
  generalize hsc : inProcS d p = sc
  refine loop4s (mk := .int .i64) (mc := .int .i64) (md := .int .i64) 0 0 n inj_i l.length (fun i at_ V1 => V = V1 ∧ 0 ≤ at_ ∧ at_ + szSs (l.drop i) ≤ 1000 ∧ stsT d sc p.result n l = stsT d sc p.result at_ (l.drop i)) ⟨rfl, hn0, hn1, rfl⟩ ?_
  rintro i b c a V1 J hi ⟨rfl, ha0, ha1, he⟩ hJ
  refine ⟨fun hlt => ?_, fun hge => ?_⟩
  · obtain ⟨x, hm, hx, hdr, hl, hpp, hz, hrow⟩ := hr.get hlt
    have hrow := S.row_get hrow
    have hox := hok x hm
    obtain ⟨hsh, hk1, hk2⟩ := okS_shape (okSs_mem hokS x hm)
    rw [hdr, szSs_cons, szS_eq] at ha1
    rw [hdr, stsT_cons, stT_eq] at he
    have cs := c109 hd hp h1 h2 hox hsh
    rw [hsc, S.v_eq] at cs
    refine ⟨hpp, hz, hlt, _, _, _, _, _, hrow, cs.call ⟨_, rfl, fun h0 => ?_, fun h0 => ?_⟩⟩
    · have e1 : ¬ (stmtT d sc p.result x.op x.s x.es ≠ 0) := fun h => h h0
      rw [if_neg e1] at he
      have r1 := (hk x hm).1 x.ll (a + 1) (dd + 1) hox.lRows hox.lOk hk1 (by omega) (by omega)
      rw [hsc] at r1
      refine ⟨hpp, hz, hlt, ptrAdd_ne hpp, _, _, _, _, _, hrow, ⟨by omega, by omega⟩, r1.call ⟨_, _, rfl, fun h3 => ?_, fun h3 => ?_⟩⟩
      · have e2 : ¬ ((stsT d sc p.result (a + 1) x.ls).2 ≠ 0) := fun h => h h3
        rw [if_neg e2] at he
        have hn := stsT_n d sc p.result (a + 1) x.ls h3
        have r2 := (hk x hm).2 x.xl (stsT d sc p.result (a + 1) x.ls).1 (dd + 1) hox.xRows hox.xOk hk2 (by omega) (by omega)
        rw [hsc] at r2
        refine ⟨hpp, hz, hlt, ptrAdd_ne hpp, _, _, _, _, _, hrow, r2.call ⟨_, _, rfl, fun h4 => ?_, fun h4 => ?_⟩⟩
        · rw [if_neg (fun h => h h4)] at he
          have hn2 := stsT_n d sc p.result _ x.xs h4
          exact ⟨hr.succ hlt, hJ hl _ _ _ _ ⟨rfl, by omega, by omega, he⟩⟩
        · rw [if_pos h4] at he
          rw [he]; exact ⟨rfl, rfl⟩
      · have e2 : (stsT d sc p.result (a + 1) x.ls).2 ≠ 0 := h3
        rw [if_pos e2, if_pos e2] at he
        rw [he]; exact ⟨rfl, rfl⟩
    · have e1 : stmtT d sc p.result x.op x.s x.es ≠ 0 := h0
      rw [if_pos e1, if_pos e1] at he
      rw [he]; exact ⟨rfl, rfl⟩
  · rw [(hr.done hge).1, stsT_nil] at he
    rw [he]; exact ⟨rfl, rfl⟩
theorem refStmts (hd : Ds.Ok V d) {p : Pr} (hp : Pr.Ok V p) (h1 : d.globals.length ≤ 1000) (h2 : p.params.length ≤ 1000 ∧ p.locals.length ≤ 1000) (l : List S) : RefS V d p l := by
  have hS : ∀ s : S, RefS V d p s.ls ∧ RefS V d p s.xs := by
    intro s
    induction s using S.ind with
    | h s i1 i2 => exact ⟨refStep hd hp h1 h2 i1, refStep hd hp h1 h2 i2⟩
  exact refStep hd hp h1 h2 fun x _ => hS x
theorem c106 (hd : Ds.Ok V d) {l : Sl} {xs : List Fld} (hl : RowsAt V l 2 (xs.map Fld.row)) {i : Nat} {f : Fld} (hf : xs[i]? = some f) : PP 106 [d.v, l.v, .int .i64 i] V (.int .i64 (oneT d xs i f)) := by
  refine x106 (v0 := d.name) (v1 := d.ts) (v2 := d.gs) (v3 := d.ps) (v4 := d.ms) (v5 := d.is) (v6 := d.qs) (v7 := d.bs) (v8 := l) ?_
  unfold w106
  have hn := hl.n_eq
  have hil := (List.getElem?_eq_some_iff.1 hf).1
  have hlt : (i : Int) < (l.n : Int) := by omega
  obtain ⟨f', hm, hx, hdr, -, hpp, hz, hrow⟩ := hl.get hlt
  rw [hf] at hx
  cases hx
  refine loop2 i (fun k V1 => V = V1 ∧ ∀ j g, j < k → xs[j]? = some g → ¬ (g.name = f.name)) ⟨rfl, fun _ _ h => absurd h (Nat.not_lt_zero _)⟩ ?_
  rintro k b V1 J hi ⟨rfl, ha⟩ hJ
  refine ⟨fun hk => ?_, fun hk => ?_⟩
  · obtain ⟨g, hmg, hxg, hdg, hlg, hpg, hzg, hrowg⟩ := hl.get (i := k) (by omega)
    refine ⟨hpg, hzg, by omega, ptrAdd_ne hpg, _, _, hrowg, hpp, hz, hlt, ptrAdd_ne hpp, _, _, hrow, fun he => ?_, fun he => ⟨hl.succ (by omega), hJ (by omega) _ _ ⟨rfl, fun j y hj hy => ?_⟩⟩⟩
    · have : (xs.take i).any (fun g => decide (g.name = f.name)) = true := List.any_eq_true.2 ⟨g, by
        rw [List.mem_take_iff_getElem]
        exact ⟨k, by omega, (List.getElem?_eq_some_iff.1 hxg).2⟩, decide_eq_true he⟩
      unfold oneT
      rw [if_pos this]; exact ⟨rfl, rfl⟩
    · rcases Nat.lt_succ_iff_lt_or_eq.1 hj with h' | rfl
      · exact ha j y h' hy
      · rw [hxg] at hy; cases hy; exact he
  · have : ¬ (xs.take i).any (fun g => decide (g.name = f.name)) = true := fun h => by
      obtain ⟨g, hg, he⟩ := List.any_eq_true.1 h
      rw [List.mem_take_iff_getElem] at hg
      obtain ⟨j, hj, e⟩ := hg
      exact ha j g (by omega) (by rw [List.getElem?_eq_getElem (by omega), e]) (of_decide_eq_true he)
    unfold oneT
    rw [if_neg this]
    refine ⟨hpp, hz, hlt, ptrAdd_ne hpp, _, _, hrow, (c107 hd).call ⟨_, rfl, fun h => ?_, fun h => ?_⟩⟩
    · rw [if_pos h]; exact ⟨rfl, rfl⟩
    · rw [if_neg h]; exact ⟨rfl, rfl⟩
theorem c105 (hd : Ds.Ok V d) {l : Sl} {xs : List Fld} (hl : RowsAt V l 2 (xs.map Fld.row)) : PP 105 [d.v, l.v] V (.int .i64 (declT d xs)) := by
  refine x105 (v0 := d.name) (v1 := d.ts) (v2 := d.gs) (v3 := d.ps) (v4 := d.ms) (v5 := d.is) (v6 := d.qs) (v7 := d.bs) (v8 := l) ?_
  unfold w105 declT
  generalize hf : (fun i f => if oneT d xs i f ≠ 0 then some (oneT d xs i f) else none) = fn
  refine loop2 xs.length (fun k V1 => V = V1 ∧ firstE fn 0 xs = firstE fn k (xs.drop k)) ⟨rfl, rfl⟩ ?_
  rintro k b V1 J hi ⟨rfl, ha⟩ hJ
  refine ⟨fun hk => ?_, fun hk => ?_⟩
  · obtain ⟨g, hmg, hxg, hdg, hlg, hpg, hzg, hrowg⟩ := hl.get hk
    rw [hdg] at ha
    refine (c106 hd hl hxg).call ⟨_, rfl, fun h => ?_, fun h => ?_⟩
    · rw [firstE_none (by rw [← hf]; simp [h])] at ha
      exact ⟨hl.succ hk, hJ hlg _ _ ⟨rfl, ha⟩⟩
    · rw [firstE_some (b := oneT d xs k g) (by rw [← hf]; simp only [ne_eq, h, not_false_eq_true, if_true])] at ha
      rw [ha]; exact ⟨rfl, rfl⟩
  · rw [(hl.done hk).1, firstE] at ha
    rw [ha]; exact ⟨rfl, rfl⟩
theorem c110 (hd : Ds.Ok V d) {sl : Sl} {sc : Sc} (hsl : RowsAt V sl 2 (sc.vars.map Fld.row)) {e : E} (he : E.Ok V e) (hok : okE 1 e = true) {t : ByteArray} : PP 110 [d.v, scV sl sc, e.v, .string t] V (.int .i64 (wantT d sc e t)) := by
  refine x110 (v0 := d.name) (v1 := d.ts) (v2 := d.gs) (v3 := d.ps) (v4 := d.ms) (v5 := d.is) (v6 := d.qs) (v7 := d.bs) (v8 := sl) (v9 := sc.body) (v10 := e.op) (v11 := e.n) (v12 := e.s) (v13 := e.l) ?_
  unfold w110 wantT
  refine (refExpr hd hsl e he 1 hok V (Mem.sub.refl _)).call ⟨_, _, rfl, fun h => ⟨fun h1 => ?_, fun h1 => ?_⟩, fun h => ?_⟩
  · rw [if_neg (fun x => x h), if_pos h1]; exact ⟨rfl, rfl⟩
  · rw [if_neg (fun x => x h), if_neg h1]; exact ⟨rfl, rfl⟩
  · rw [if_pos h]; exact ⟨rfl, rfl⟩
theorem c118 {s : ByteArray} : PP 118 [.string s] V (.bool (decide (s = sInt) || decide (s = sBool))) := by
  refine x118 ?_
  unfold w118
  refine ⟨fun h => ?_, fun h => ?_⟩
  · unfold sInt; rw [decide_eq_true h]; exact ⟨rfl, rfl⟩
  · unfold sInt; rw [decide_eq_false h]; exact ⟨rfl, rfl⟩
def plainT (s : ByteArray) : Bool := decide (s = sInt) || decide (s = sBool)
def entryT (p : Pr) : Bool := p.params.all (fun f => plainT f.ty) && (decide (p.result = sE) || plainT p.result)
theorem c82 {p : Pr} (hp : Pr.Ok V p) : PP 82 [p.v] V (.bool (entryT p)) := by
  refine x82 (v0 := p.name) (v1 := p.ps) (v2 := p.result) (v3 := p.ls) (v4 := p.bs) ?_
  unfold w82 entryT
  refine loop2 p.params.length (fun i V1 => V = V1 ∧ AllTo (fun f => plainT f.ty) p.params i) ⟨rfl, AllTo.zero _ _⟩ ?_
  rintro i b V1 J hi ⟨rfl, ha⟩ hJ
  refine ⟨fun hlt => ?_, fun hge => ?_⟩
  · obtain ⟨x, hm, hx, hdr, hl, hpp, hz, hrow⟩ := hp.params.get hlt
    refine ⟨hpp, hz, hlt, ptrAdd_ne hpp, _, _, hrow, c118.call ⟨_, rfl, fun h => ⟨hp.params.succ hlt, hJ hl _ _ ⟨rfl, ha.succ hx h⟩⟩, fun h => ?_⟩⟩
    rw [all_false (p := fun f : Fld => plainT f.ty) hm h]; exact ⟨rfl, rfl⟩
  · rw [ha.all (hp.params.done hge).2]
    refine ⟨fun h => ?_, fun h => c118.call ⟨_, rfl, ?_⟩⟩
    · unfold sE; rw [decide_eq_true h]; exact ⟨rfl, rfl⟩
    · unfold sE; rw [decide_eq_false h]; exact ⟨rfl, rfl⟩
end
end Go.Proofs
