/- Part 10 of a proof of a law of this seat: no statement of the seat is proved here. -/
import Derived.Test.YtnoompnjibfbfaaGreatDoorPart09
set_option linter.unusedVariables false
set_option linter.unusedSimpArgs false
namespace Go.Proofs
open Go Go.Sx
attribute [local irreducible] Go.Sx.Tri
theorem qAo.max4 {P : Program} {V : Mem} {a b c d : Operand} {ty : Nat} {ts : Array TypeId} {vals : Operand -> Value} {n1 n2 n3 n4 : Int} (h1 : vals a = .int .i64 n1) (h2 : vals b = .int .i64 n2) (h3 : vals c = .int .i64 n3) (h4 : vals d = .int .i64 n4) {q : Value -> Mem -> Prop}
  (hq : ∀ m : Int, n1 <= m -> n2 <= m -> n3 <= m -> n4 <= m -> (m = n1 ∨ m = n2 ∨ m = n3 ∨ m = n4) -> q (.int .i64 m) V) : qAo P (.call { callee := .builtin .max, args := #[a, b, c, d], argTypes := ts }) ty vals V q := by
 intro w hw
 refine ⟨_, w, V, ?_, Frm.refl hw, hq (max (max (max n1 n2) n3) n4) (by omega) (by omega) (by omega) (by omega) (by omega)⟩
 unfold execOp
 have e : ∀ x y : Int, (if y > x then y else x) = max x y := fun x y => by split <;> omega
 simp only [resolve, invoke, builtin, Sem.run_bind, Sem.run_pure, Result.andThen_ok, List.map_toArray, List.map_cons, List.map_nil, h1, h2, h3, h4]
 simp [Builtin.max_, Builtin.max2, e]
theorem c78 {V : Mem} {d : Ds} (h : Ds.Ok V d) : PP 78 [d.v] V (.bool (qIi d)) := by
 refine x78 ?_
 unfold w78
 generalize hX : qIi d = X
 have key : ∀ b : Bool, X = b -> (Ending.returned (.bool b) = Ending.returned (.bool X) /\ V = V) := fun n h => by rw [h]; exact ⟨rfl, rfl⟩
 unfold qIi at hX
 refine qAA d.measures.length (fun i V1 => V = V1 /\ qAG msB d.measures i) ⟨rfl, qAG.zero _ _⟩ ?_
 rintro i b V1 J hi ⟨rfl, ha⟩ hJ
 refine ⟨fun hlt => ?_, fun hge => ?_⟩
 ·obtain ⟨x, hm, hx, hdr, hl, hp, hz, hrow⟩ := h.measures.get hlt
  have no : msB x = false -> X = false := fun h => by rw [<- hX, qBr hm (by rw [h]; simp)]; rfl
  refine ⟨hp, hz, hlt, _, _, _, _, _, _, _, hrow, c75.call ⟨_, rfl, fun h1 => c75.call ⟨_, rfl, fun h2 => ⟨fun h3 => key _ (no ?_), fun h3 => ⟨fun h4 => key _ (no ?_), fun h4 => (c29 (h.measuresOk x hm).x).call ⟨_, rfl, fun h5 => ⟨h.measures.succ hlt, hJ hl _ _ ⟨rfl, ha.succ hx ?_⟩⟩, fun h5 => key _ (no ?_)⟩⟩⟩, fun h2 => key _ (no ?_)⟩, fun h1 => key _ (no ?_)⟩⟩
  ·have : ¬ (-1099511627776 <= x.nil /\ x.nil <= 1099511627776) := by omega
   simp [msB, *]
  ·have : ¬ (-1099511627776 <= x.nil /\ x.nil <= 1099511627776) := by omega
   simp [msB, *]
  ·have : (-1099511627776 <= x.nil /\ x.nil <= 1099511627776) := by omega
   simp [msB, *]
  all_goals simp [msB, *]
 have a1 := ha.all (h.measures.done hge).2
 refine qAA d.invs.length (fun i V1 => V = V1 /\ qAG ivB d.invs i) ⟨rfl, qAG.zero _ _⟩ ?_
 rintro i b V1 J hi ⟨rfl, ha⟩ hJ
 refine ⟨fun hlt => ?_, fun hge => ?_⟩
 ·obtain ⟨x, hm, hx, hdr, hl, hp, hz, hrow⟩ := h.invs.get hlt
  have no : ivB x = false -> X = false := fun h => by rw [<- hX, qBr hm (by rw [h]; simp)]; simp
  refine ⟨hp, hz, hlt, qAc hp, _, _, _, _, _, _, hrow, c75.call ⟨_, rfl, fun h1 => ⟨hp, hz, hlt, qAc hp, _, _, _, _, _, _, hrow, c125.call ⟨_, rfl, fun h2 => ⟨hp, hz, hlt, qAc hp, _, _, _, _, _, _, hrow, (c29 (h.invsOk x hm)).call ⟨_, rfl, fun h5 => ⟨h.invs.succ hlt, hJ hl _ _ ⟨rfl, ha.succ hx ?_⟩⟩, fun h5 => key _ (no ?_)⟩⟩, fun h2 => key _ (no ?_)⟩⟩, fun h1 => key _ (no ?_)⟩⟩
  all_goals simp [ivB, *]
 have a2 := ha.all (h.invs.done hge).2
 refine qAA d.pots.length (fun i V1 => V = V1 /\ qAG poB d.pots i) ⟨rfl, qAG.zero _ _⟩ ?_
 rintro i b V1 J hi ⟨rfl, ha⟩ hJ
 refine ⟨fun hlt => ?_, fun hge => ?_⟩
 ·obtain ⟨x, hm, hx, hdr, hl, hp, hz, hrow⟩ := h.pots.get hlt
  have no : poB x = false -> X = false := fun h => by rw [<- hX, qBr (p := poB) hm (by rw [h]; simp)]; simp
  refine ⟨hp, hz, hlt, qAc hp, _, _, _, _, _, hrow, c125.call ⟨_, rfl, fun h2 => ⟨hp, hz, hlt, qAc hp, _, _, _, _, _, hrow, (c29 (h.potsOk x hm)).call ⟨_, rfl, fun h5 => ⟨h.pots.succ hlt, hJ hl _ _ ⟨rfl, ha.succ hx ?_⟩⟩, fun h5 => key _ (no ?_)⟩⟩, fun h2 => key _ (no ?_)⟩⟩
  all_goals simp [poB, *]
 have a3 := ha.all (h.pots.done hge).2
 refine qAA d.bounds.length (fun i V1 => V = V1 /\ qAG bdB d.bounds i) ⟨rfl, qAG.zero _ _⟩ ?_
 rintro i b V1 J hi ⟨rfl, ha⟩ hJ
 refine ⟨fun hlt => ?_, fun hge => ?_⟩
 ·obtain ⟨x, hm, hx, hdr, hl, hp, hz, hrow⟩ := h.bounds.get hlt
  have no : bdB x = false -> X = false := fun h => by rw [<- hX, qBr (p := bdB) hm (by rw [h]; simp)]; simp
  refine ⟨hp, hz, hlt, qAc hp, _, _, _, _, _, hrow, c75.call ⟨_, rfl, fun h2 => ⟨hp, hz, hlt, qAc hp, _, _, _, _, _, hrow, (c29 (h.boundsOk x hm)).call ⟨_, rfl, fun h5 => ⟨h.bounds.succ hlt, hJ hl _ _ ⟨rfl, ha.succ hx ?_⟩⟩, fun h5 => key _ (no ?_)⟩⟩, fun h2 => key _ (no ?_)⟩⟩
  all_goals simp [bdB, *]
 have a4 := ha.all (h.bounds.done hge).2
 refine key _ ?_
 rw [<- hX, a1, a2, a3, a4]; rfl
theorem c154 {V : Mem} [Tab V] {d : Ds} (h : Ds.Ok V d) : PP 154 [d.v] V (.bool (qIg d && qIi d)) := by
 refine x154 ?_
 unfold w154
 have n1 := h.measures.n_eq
 have n2 := h.invs.n_eq
 have n3 := h.pots.n_eq
 have n4 := h.bounds.n_eq
 generalize hX : (qIg d && qIi d) = X
 have key : ∀ b : Bool, X = b -> (Ending.returned (.bool b) = Ending.returned (.bool X) /\ V = V) := fun n h => by rw [h]; exact ⟨rfl, rfl⟩
 unfold qIi qIg at hX
 refine qAo.max4 (n1 := d.ms.n) (n2 := d.is.n) (n3 := d.qs.n) (n4 := d.bs.n) rfl rfl rfl rfl fun mx l1 l2 l3 l4 le => ⟨_, rfl, fun hb => key _ ?_, fun hb => ?_⟩
 ·rw [<- hX, decide_eq_false (by omega)]; rfl
 rw [decide_eq_true (by omega), Bool.true_and] at hX
 refine qAA d.measures.length (fun i V1 => V = V1 /\ qAG msB d.measures i) ⟨rfl, qAG.zero _ _⟩ ?_
 rintro i b V1 J hi ⟨rfl, ha⟩ hJ
 refine ⟨fun hlt => ?_, fun hge => ?_⟩
 ·obtain ⟨x, hm, hx, hdr, hl, hp, hz, hrow⟩ := h.measures.get hlt
  have no : msB x = false -> X = false := fun h => by rw [<- hX, qBr hm (by rw [h]; simp)]; rfl
  refine ⟨hp, hz, hlt, _, _, _, _, _, _, _, hrow, c152.call ⟨_, rfl, fun h1 => c152.call ⟨_, rfl, fun h2 => ⟨fun h3 => key _ (no ?_), fun h3 => ⟨fun h4 => key _ (no ?_), fun h4 => (c59 (h.measuresOk x hm).x).call ⟨_, rfl, fun h5 => ⟨h.measures.succ hlt, hJ hl _ _ ⟨rfl, ha.succ hx ?_⟩⟩, fun h5 => key _ (no ?_)⟩⟩⟩, fun h2 => key _ (no ?_)⟩, fun h1 => key _ (no ?_)⟩⟩
  ·have : ¬ (-1099511627776 <= x.nil /\ x.nil <= 1099511627776) := by omega
   simp [msB, *]
  ·have : ¬ (-1099511627776 <= x.nil /\ x.nil <= 1099511627776) := by omega
   simp [msB, *]
  ·have : (-1099511627776 <= x.nil /\ x.nil <= 1099511627776) := by omega
   simp [msB, *]
  all_goals simp [msB, *]
 have a1 := ha.all (h.measures.done hge).2
 refine qAA d.invs.length (fun i V1 => V = V1 /\ qAG ivB d.invs i) ⟨rfl, qAG.zero _ _⟩ ?_
 rintro i b V1 J hi ⟨rfl, ha⟩ hJ
 refine ⟨fun hlt => ?_, fun hge => ?_⟩
 ·obtain ⟨x, hm, hx, hdr, hl, hp, hz, hrow⟩ := h.invs.get hlt
  have no : ivB x = false -> X = false := fun h => by rw [<- hX, qBr hm (by rw [h]; simp)]; simp
  refine ⟨hp, hz, hlt, _, _, _, _, _, _, hrow, c152.call ⟨_, rfl, fun h1 => c207.call ⟨_, rfl, fun h2 => (c59 (h.invsOk x hm)).call ⟨_, rfl, fun h5 => ⟨h.invs.succ hlt, hJ hl _ _ ⟨rfl, ha.succ hx ?_⟩⟩, fun h5 => key _ (no ?_)⟩, fun h2 => key _ (no ?_)⟩, fun h1 => key _ (no ?_)⟩⟩
  all_goals simp [ivB, *]
 have a2 := ha.all (h.invs.done hge).2
 refine qAA d.pots.length (fun i V1 => V = V1 /\ qAG poB d.pots i) ⟨rfl, qAG.zero _ _⟩ ?_
 rintro i b V1 J hi ⟨rfl, ha⟩ hJ
 refine ⟨fun hlt => ?_, fun hge => ?_⟩
 ·obtain ⟨x, hm, hx, hdr, hl, hp, hz, hrow⟩ := h.pots.get hlt
  have no : poB x = false -> X = false := fun h => by rw [<- hX, qBr (p := poB) hm (by rw [h]; simp)]; simp
  refine ⟨hp, hz, hlt, _, _, _, _, _, hrow, c207.call ⟨_, rfl, fun h2 => (c59 (h.potsOk x hm)).call ⟨_, rfl, fun h5 => ⟨h.pots.succ hlt, hJ hl _ _ ⟨rfl, ha.succ hx ?_⟩⟩, fun h5 => key _ (no ?_)⟩, fun h2 => key _ (no ?_)⟩⟩
  all_goals simp [poB, *]
 have a3 := ha.all (h.pots.done hge).2
 refine (c208 (first := []) (caps := []) h.bounds Tryz.call209 (fun f => !bdB f) fun f hm => c209 (h.boundsOk f hm)).call ⟨_, rfl, key _ ?_⟩
 rw [<- hX, a1, a2, a3, List.any_eq_not_all_not]
 simp
theorem c44 {V : Mem} {d : Ds} (h : Ds.Ok V d) : PP 44 [d.v] V (.bool (qAQ d)) := by
 refine x44 ?_
 unfold w44
 have n1 := h.measures.n_eq
 have n2 := h.invs.n_eq
 have n3 := h.pots.n_eq
 have n4 := h.bounds.n_eq
 have n5 := h.types.n_eq
 have n6 := h.procs.n_eq
 generalize hX : qAQ d = X
 have key : ∀ b : Bool, X = b -> (Ending.returned (.bool b) = Ending.returned (.bool X) /\ V = V) := fun n h => by rw [h]; exact ⟨rfl, rfl⟩
 unfold qAQ at hX
 have nol : qIg d = false -> X = false := fun h => by rw [<- hX, h]; simp
 refine c75.call ⟨_, rfl, fun h1 => ⟨fun h2 => key _ ?_, fun h2 => (c76 h.globals).call ⟨_, rfl, fun h3 => ⟨fun h4 => key _ ?_, fun h4 => ⟨fun h5 => key _ (nol ?_), fun h5 => ⟨fun h6 => key _ (nol ?_), fun h6 => ⟨fun h7 => key _ (nol ?_), fun h7 => ⟨fun h8 => key _ (nol ?_), fun h8 => ?_⟩⟩⟩⟩⟩, fun h3 => key _ ?_⟩⟩, fun h1 => key _ ?_⟩
 ·rw [<- hX, decide_eq_false (by omega)]; simp
 ·rw [<- hX, decide_eq_false (p := (d.procs.length : Int) <= 40) (by omega)]; simp
 ·exact decide_eq_false (by omega)
 ·exact decide_eq_false (by omega)
 ·exact decide_eq_false (by omega)
 ·exact decide_eq_false (by omega)
 ·have hl : qIg d = true := decide_eq_true (by omega)
  rw [h1, decide_eq_true (p := (d.types.length : Int) <= 12) (by omega), h3, decide_eq_true (p := (d.procs.length : Int) <= 40) (by omega), hl] at hX
  simp only [Bool.true_and] at hX
  refine qAA d.types.length (fun i V1 => V = V1 /\ qAG tyB d.types i) ⟨rfl, qAG.zero _ _⟩ ?_
  rintro i b V1 J hi ⟨rfl, ha⟩ hJ
  refine ⟨fun hlt => ?_, fun hge => ?_⟩
  ·obtain ⟨x, hm, hx, hdr, hl, hp, hz, hrow⟩ := h.types.get hlt
   have no : tyB x = false -> X = false := fun h => by rw [<- hX, qBr hm (by rw [h]; simp)]; rfl
   refine ⟨hp, hz, hlt, qAc hp, _, _, hrow, c75.call ⟨_, rfl, fun h1 => ⟨hp, hz, hlt, qAc hp, _, _, hrow, (c76 (h.typesOk x hm).fields).call ⟨_, rfl, fun h5 => ⟨h.types.succ hlt, hJ hl _ _ ⟨rfl, ha.succ hx ?_⟩⟩, fun h5 => key _ (no ?_)⟩⟩, fun h1 => key _ (no ?_)⟩⟩
   all_goals simp [tyB, *]
  have a1 := ha.all (h.types.done hge).2
  refine qAA d.procs.length (fun i V1 => V = V1 /\ qAG prB d.procs i) ⟨rfl, qAG.zero _ _⟩ ?_
  rintro i b V1 J hi ⟨rfl, ha⟩ hJ
  refine ⟨fun hlt => ?_, fun hge => ?_⟩
  ·obtain ⟨x, hm, hx, hdr, hl, hp, hz, hrow⟩ := h.procs.get hlt
   have no : prB x = false -> X = false := fun h => by rw [<- hX, qBr hm (by rw [h]; simp)]; simp
   exact ⟨hp, hz, hlt, _, _, _, _, _, hrow, (c77 (h.procsOk x hm)).call ⟨_, rfl, fun h5 => ⟨h.procs.succ hlt, hJ hl _ _ ⟨rfl, ha.succ hx h5⟩⟩, fun h5 => key _ (no (eq_false_of_ne_true h5))⟩⟩
  have a2 := ha.all (h.procs.done hge).2
  refine (c78 h).call ⟨_, rfl, key _ ?_⟩
  rw [<- hX, a1, a2]; rfl
 ·rw [<- hX, eq_false_of_ne_true h3]; simp
 ·rw [<- hX, eq_false_of_ne_true h1]; simp
theorem c109 {V : Mem} [Tab V] {d : Ds} (h : Ds.Ok V d) : PP 109 [d.v] V (.bool (qAQ d)) := by
 refine x109 ?_
 unfold w109
 have n5 := h.types.n_eq
 have n6 := h.procs.n_eq
 generalize hX : qAQ d = X
 have key : ∀ b : Bool, X = b -> (Ending.returned (.bool b) = Ending.returned (.bool X) /\ V = V) := fun n h => by rw [h]; exact ⟨rfl, rfl⟩
 unfold qAQ at hX
 refine c152.call ⟨_, rfl, fun h1 => ⟨fun h2 => key _ ?_, fun h2 => (c153 h.globals).call ⟨_, rfl, fun h3 => ⟨fun h4 => key _ ?_, fun h4 => (c154 h).call ⟨_, rfl, fun h5 => (c155 (first := []) (caps := []) h.types Tryz.call156 (fun f => !tyB f) fun f hm => c156 (h.typesOk f hm)).call ⟨_, rfl, fun h6 => key _ ?_, fun h6 =>
   (c157 (first := []) (caps := []) h.procs Tryz.call158 (fun f => !prB f) fun f hm => c158 (h.procsOk f hm)).call ⟨_, rfl, key _ ?_⟩⟩, fun h5 => key _ ?_⟩⟩, fun h3 => key _ ?_⟩⟩, fun h1 => key _ ?_⟩
 ·rw [<- hX, decide_eq_false (by omega)]; simp
 ·rw [<- hX, decide_eq_false (p := (d.procs.length : Int) <= 40) (by omega)]; simp
 ·rw [List.any_eq_not_all_not] at h6
  have : d.types.all tyB = false := by simpa using h6
  rw [<- hX, this]; simp
 ·rw [List.any_eq_not_all_not] at h6 ⊢
  have : d.types.all tyB = true := by simpa using h6
  rw [Bool.and_eq_true] at h5
  rw [<- hX, h1, decide_eq_true (p := (d.types.length : Int) <= 12) (by omega), h3, decide_eq_true (p := (d.procs.length : Int) <= 40) (by omega), h5.1, h5.2, this]
  simp
 ·have : (qIg d && qIi d) = false := eq_false_of_ne_true h5
  rw [<- hX]
  cases hl : qIg d with
  | false => simp
  | true => rw [hl, Bool.true_and] at this; rw [this]; simp
 ·rw [<- hX, eq_false_of_ne_true h3]; simp
 ·rw [<- hX, eq_false_of_ne_true h1]; simp
end Go.Proofs
namespace Go.Proofs
open Go Go.Sx
def sNil : ByteArray := qAi [110, 105, 108]
def sE : ByteArray := qAi []
def qAN (d : Ds) (s : ByteArray) : Bool := d.types.any fun t => decide (t.name = s)
def known (d : Ds) (s : ByteArray) : Bool := decide (s = qAP) || decide (s = qAt) || qAN d s
def qFD (d : Ds) (a b : ByteArray) : Bool := decide (a = b) || (decide (a = sNil) && qAN d b)
def qBJ : List Fld -> ByteArray -> ByteArray
 | [], _ => sE
 | f :: l, s => if f.name = s then f.ty else qBJ l s
def tyOf (d : Ds) (s : ByteArray) : Option Ty := d.types.find? fun t => decide (t.name = s)
def qFd (d : Ds) (s : ByteArray) : Option Pr := d.procs.find? fun t => decide (t.name = s)
def meOf (d : Ds) (s : ByteArray) : Option Ms := d.measures.find? fun t => decide (t.name = s)
def qCO (d : Ds) (t name : ByteArray) : ByteArray × Int :=
 match tyOf d t with
 | none => (sE, 11)
 | some ty => if qBJ ty.fields name = sE then (sE, 9) else (qBJ ty.fields name, 0)
def qED (d : Ds) : List ByteArray -> List Fld -> Bool
 | a :: l, f :: fs => qFD d a f.ty && qED d l fs
 | _, _ => true
def qJQ (d : Ds) (name : ByteArray) (l : List ByteArray) : ByteArray × Int :=
 match qFd d name with
 | none => (sE, 9)
 | some p => if l.length ≠ p.params.length then (sE, 3) else if qED d l p.params = true then (p.result, 0) else (sE, 11)
def qDc (ok : Bool) (t : ByteArray) : ByteArray × Int := if ok = true then (t, 0) else (sE, 11)
structure Sc where
 vars : List Fld
 body : Bool
def qIf (d : Ds) (name : ByteArray) (l : List ByteArray) : ByteArray × Int :=
 match meOf d name with
 | none => (sE, 9)
 | some m => if l.length ≠ 1 then (sE, 3) else qDc (qFD d (l.getD 0 sE) m.ty) qAP
def qIk (d : Ds) (sc : Sc) (name : ByteArray) (l : List ByteArray) : ByteArray × Int :=
 if sc.body = true then (if (qJQ d name l).2 = 0 /\ (qJQ d name l).1 = sE then (sE, 11) else qJQ d name l) else qIf d name l
def allT (l : List ByteArray) (t : ByteArray) : Bool := l.all fun x => decide (x = t)
def qHr (d : Ds) (sc : Sc) (op : Int) (s : ByteArray) (l : List ByteArray) : ByteArray × Int :=
 if op = 1 then (qAP, 0) else if op = 2 then (qAt, 0) else if op = 3 then (sNil, 0)
 else if op = 4 then (if qBJ sc.vars s = sE then (sE, 9) else (qBJ sc.vars s, 0))
 else if op = 5 then qCO d (l.getD 0 sE) s
 else if op = 6 then (if sc.body = false then (sE, 13) else if qAN d s = false then (sE, 9) else (s, 0))
 else if op = 7 then qIk d sc s l
 else if op = 14 ∨ op = 15 then qDc (qFD d (l.getD 0 sE) (l.getD 1 sE) || qFD d (l.getD 1 sE) (l.getD 0 sE)) qAt
 else if op = 16 ∨ op = 17 then qDc (allT l qAP) qAt
 else if op = 18 ∨ op = 19 ∨ op = 20 then qDc (allT l qAt) qAt
 else if op = 21 then qDc (decide (l.getD 0 sE = qAt) && (qFD d (l.getD 1 sE) (l.getD 2 sE) || qFD d (l.getD 2 sE) (l.getD 1 sE))) (if l.getD 1 sE = sNil then l.getD 2 sE else l.getD 1 sE)
 else qDc (allT l qAP) qAP
mutual
def qAy (d : Ds) (sc : Sc) : E -> ByteArray × Int
 | .mk op _ s _ k => if (partsT d sc [] k).2 ≠ 0 then (sE, (partsT d sc [] k).2) else qHr d sc op s (partsT d sc [] k).1
def partsT (d : Ds) (sc : Sc) (acc : List ByteArray) : List E -> List ByteArray × Int
 | [] => (acc, 0)
 | x :: xs => if (qAy d sc x).2 ≠ 0 then ([], (qAy d sc x).2) else partsT d sc (acc ++ [(qAy d sc x).1]) xs
end
theorem qGN (d : Ds) (sc : Sc) (e : E) : qAy d sc e = if (partsT d sc [] e.k).2 ≠ 0 then (sE, (partsT d sc [] e.k).2) else qHr d sc e.op e.s (partsT d sc [] e.k).1 := by
 cases e; unfold qAy; rfl
theorem qBR (d : Ds) (sc : Sc) (acc : List ByteArray) (x : E) (xs : List E) : partsT d sc acc (x :: xs) = if (qAy d sc x).2 ≠ 0 then ([], (qAy d sc x).2) else partsT d sc (acc ++ [(qAy d sc x).1]) xs := by rw [partsT]
theorem qCi (d : Ds) (sc : Sc) (acc : List ByteArray) : partsT d sc acc [] = (acc, 0) := by rw [partsT]
theorem qFN (d : Ds) (sc : Sc) : ∀ (k : List E) (acc : List ByteArray), (partsT d sc acc k).2 = 0 -> (partsT d sc acc k).1.length = acc.length + k.length
 | [], acc, _ => by rw [qCi]; rfl
 | x :: xs, acc, h => by
  rw [qBR] at h ⊢
  split at h
  ·rename_i h'; exact absurd h h'
  ·rename_i h'
   rw [if_neg h', qFN d sc xs _ h, List.length_append, List.length_cons, List.length_cons, List.length_nil]
   omega
def qAL (d : Ds) (p : Pr) : Sc := ⟨p.params ++ p.locals ++ d.globals, true⟩
def qBG : ByteArray := qAi [116, 104, 105, 115]
def qAk (d : Ds) (t : ByteArray) : Sc := ⟨(if t = sE then [] else [⟨qBG, t⟩]) ++ d.globals, false⟩
def qBl (d : Ds) (p : Pr) : Sc := ⟨p.params ++ d.globals, false⟩
def qEZ (d : Ds) (sc : Sc) (result : ByteArray) (op : Int) (s : ByteArray) (es : List E) : Int :=
 if op = 6 then
  match es with
  | [] => 0
  | e :: _ => if (partsT d sc [] e.k).2 ≠ 0 then (partsT d sc [] e.k).2 else (qJQ d e.s (partsT d sc [] e.k).1).2
 else if (partsT d sc [] es).2 ≠ 0 then (partsT d sc [] es).2
 else if op = 1 then (if qBJ sc.vars s = sE then 9 else if qFD d ((partsT d sc [] es).1.getD 0 sE) (qBJ sc.vars s) = true then 0 else 11)
 else if op = 2 then (if (qCO d ((partsT d sc [] es).1.getD 0 sE) s).2 ≠ 0 then (qCO d ((partsT d sc [] es).1.getD 0 sE) s).2 else if qFD d ((partsT d sc [] es).1.getD 1 sE) (qCO d ((partsT d sc [] es).1.getD 0 sE) s).1 = true then 0 else 11)
 else if op = 3 ∨ op = 4 then (if (partsT d sc [] es).1.getD 0 sE = qAt then 0 else 11)
 else if op = 5 then (if (partsT d sc [] es).1.length = 0 then (if result = sE then 0 else 11) else if result ≠ sE /\ qFD d ((partsT d sc [] es).1.getD 0 sE) result = true then 0 else 11)
 else 0
mutual
def stT (d : Ds) (sc : Sc) (result : ByteArray) (n : Int) : S -> Int × Int
 | .mk op s _ es _ ls _ xs =>
  if qEZ d sc result op s es ≠ 0 then (n, qEZ d sc result op s es)
  else if (qBK d sc result (n + 1) ls).2 ≠ 0 then qBK d sc result (n + 1) ls
  else qBK d sc result (qBK d sc result (n + 1) ls).1 xs
def qBK (d : Ds) (sc : Sc) (result : ByteArray) (n : Int) : List S -> Int × Int
 | [] => (n, 0)
 | x :: xs => if (stT d sc result n x).2 ≠ 0 then stT d sc result n x else qBK d sc result (stT d sc result n x).1 xs
end
theorem stT_eq (d : Ds) (sc : Sc) (result : ByteArray) (n : Int) (x : S) : stT d sc result n x = if qEZ d sc result x.op x.s x.es ≠ 0 then (n, qEZ d sc result x.op x.s x.es) else if (qBK d sc result (n + 1) x.ls).2 ≠ 0 then qBK d sc result (n + 1) x.ls else qBK d sc result (qBK d sc result (n + 1) x.ls).1 x.xs := by
 cases x; unfold stT; rfl
theorem qHa (d : Ds) (sc : Sc) (result : ByteArray) (n : Int) (x : S) (xs : List S) : qBK d sc result n (x :: xs) = if (stT d sc result n x).2 ≠ 0 then stT d sc result n x else qBK d sc result (stT d sc result n x).1 xs := by rw [qBK]
theorem stsT_nil (d : Ds) (sc : Sc) (result : ByteArray) (n : Int) : qBK d sc result n [] = (n, 0) := by rw [qBK]
def qFP (d : Ds) (l : List Fld) (i : Nat) (f : Fld) : Int := if (l.take i).any (fun g => decide (g.name = f.name)) = true then 10 else if known d f.ty = true then 0 else 9
def qAf {α β : Type} (f : Nat -> α -> Option β) : Nat -> List α -> Option β
 | _, [] => none
 | i, x :: xs => match f i x with | some b => some b | none => qAf f (i + 1) xs
def qCS (d : Ds) (l : List Fld) : Int := (qAf (fun i f => if qFP d l i f ≠ 0 then some (qFP d l i f) else none) 0 l).getD 0
abbrev Flt := ByteArray × Int × Int
def types1 (d : Ds) : Option Flt := qAf (fun i t => if (d.types.take i).any (fun g => decide (g.name = t.name)) = true then some (t.name, -1, 10) else none) 0 d.types
def types2 (d : Ds) : Option Flt := qAf (fun _ t => if qCS d t.fields ≠ 0 then some (t.name, -1, qCS d t.fields) else none) 0 d.types
def types3 (d : Ds) : Option Flt := qAf (fun i f => if qFP d d.globals i f ≠ 0 then some (f.name, -1, qFP d d.globals i f) else none) 0 d.globals
def qGW (d : Ds) : Option Flt := (types1 d).or ((types2 d).or (types3 d))
def qGo (d : Ds) : Option Flt := qAf (fun i p => if (d.procs.take i).any (fun g => decide (g.name = p.name)) = true then some (p.name, -1, 10) else if qCS d (p.params ++ p.locals) ≠ 0 then some (p.name, -1, qCS d (p.params ++ p.locals)) else if p.result ≠ sE /\ known d p.result = false then some (p.name, -1, 9) else none) 0 d.procs
def form1 (d : Ds) : Option Flt := qAf (fun i m => if (d.measures.take i).any (fun g => decide (g.name = m.name)) = true then some (m.name, -1, 10) else if qAN d m.ty = false then some (m.name, -1, 9) else none) 0 d.measures
def form2 (d : Ds) : Option Flt := qAf (fun i m => if (d.invs.take i).any (fun g => decide (g.name = m.name)) = true then some (m.name, -1, 10) else if m.ty ≠ sE /\ qAN d m.ty = false then some (m.name, -1, 9) else none) 0 d.invs
def sPot : ByteArray := qAi [112, 111, 116, 101, 110, 116, 105, 97, 108]
def form3 (d : Ds) : Option Flt := qAf (fun _ m => if m.ty ≠ sE /\ qAN d m.ty = false then some (sPot, -1, 9) else none) 0 d.pots
def form4 (d : Ds) : Option Flt := qAf (fun i b => if (qFd d b.proc).isNone = true then some (b.proc, -1, 9) else if (d.bounds.take i).any (fun g => decide (g.proc = b.proc)) = true then some (b.proc, -1, 10) else none) 0 d.bounds
def qEf (d : Ds) : Option Flt := (form1 d).or ((form2 d).or ((form3 d).or (form4 d)))
def qDM (d : Ds) : Option Flt := qAf (fun _ p => if (qBK d (qAL d p) p.result 0 p.body).2 ≠ 0 then some (p.name, (qBK d (qAL d p) p.result 0 p.body).1, (qBK d (qAL d p) p.result 0 p.body).2) else none) 0 d.procs
def qBa (d : Ds) (sc : Sc) (e : E) (t : ByteArray) : Int := if (qAy d sc e).2 ≠ 0 then (qAy d sc e).2 else if (qAy d sc e).1 = t then 0 else 11
def exp1 (d : Ds) : Option Flt := qAf (fun _ m => if qBa d (qAk d m.ty) m.x qAP ≠ 0 then some (m.name, -1, qBa d (qAk d m.ty) m.x qAP) else none) 0 d.measures
def exp2 (d : Ds) : Option Flt := qAf (fun _ m => if qBa d (qAk d m.ty) m.x qAt ≠ 0 then some (m.name, -1, qBa d (qAk d m.ty) m.x qAt) else none) 0 d.invs
def exp3 (d : Ds) : Option Flt := qAf (fun _ m => if qBa d (qAk d m.ty) m.x qAP ≠ 0 then some (sPot, -1, qBa d (qAk d m.ty) m.x qAP) else none) 0 d.pots
def prD : Pr := ⟨sE, ⟨none, 0, 0⟩, [], sE, ⟨none, 0, 0⟩, [], ⟨none, 0, 0⟩, []⟩
def exp4 (d : Ds) : Option Flt := qAf (fun _ m => if qBa d (qBl d ((qFd d m.proc).getD prD)) m.x qAP ≠ 0 then some (m.proc, -1, qBa d (qBl d ((qFd d m.proc).getD prD)) m.x qAP) else none) 0 d.bounds
def qGB (d : Ds) : Option Flt := (exp1 d).or ((exp2 d).or ((exp3 d).or (exp4 d)))
def qIZ (d : Ds) : Option Flt := (qGW d).or ((qGo d).or ((qEf d).or ((qDM d).or (qGB d))))
def fltR (o : Option Flt) : Flt := o.getD (sE, 0, 0)
end Go.Proofs
namespace Go.Proofs
open Go Go.Sx
attribute [local irreducible] Go.Sx.Tri
noncomputable def ti (t : Nat) : TypeInfo := (Tryz.prog.info? t).getD default
section
variable {α : Type}
def AppP (t e sz : Nat) (row : α -> List Value) : Prop := ∀ {V0 V : Mem} {ty : Nat} {x y : Operand} {vals : Operand -> Value} {s u : Sl} {xs ys : List α} (hx : vals x = .slice s.p s.n s.c) (hy : vals y = .slice u.p u.n u.c) (own : Sx.Own V0 V e sz s (xs.flatMap row)) (hnew : qAd V u sz (ys.map row))
 (hfit : xs.length + ys.length <= 2147483648) {q : Value -> Mem -> Prop} (hq : ∀ s' V', Sx.Own V0 V' e sz s' ((xs ++ ys).flatMap row) -> q (.slice s'.p s'.n s'.c) V'),
 qAo Tryz.prog (.call { callee := .builtin .append, args := #[x, y], argTypes := #[t, t] }) ty vals V q
theorem appG {t e sz : Nat} {row : α -> List Value} (ht : Tryz.prog.underlying t = some (.slice e)) (hi : Tryz.prog.info? e = some (ti e)) (hz : (ti e).zero = some ((ti e).zero.getD undef)) (h1 : (ti e).size = sz) (h2 : ((ti e).zero.getD undef).cells.size = sz) (h3 : decide ((ti e).bytes <= 65536) = true)
  (h0 : 0 < sz) (hr : ∀ x, (row x).length = sz) (hu : ∀ x, ∀ u ∈ row x, u.oneCell' = true) : AppP t e sz row := by
 intro V0 V ty x y vals s u xs ys hx hy own hnew hfit q hq
 exact qAo.appendS ht hi hz h1 h2 h0 (of_decide_eq_true h3) hx hy own hr hnew hu hfit hq
end
theorem app174 : AppP 174 9 1 qAV := appG Tryz.underlying174 (by kernel_rfl) (by kernel_rfl) (by kernel_rfl) (by kernel_rfl) (by kernel_rfl) (by decide) (by intro _; rfl) fun x u hu => by simp [qAV, vS] at hu; rw [hu]; rfl
theorem qHV : AppP 23 110 2 Fld.row := appG Tryz.underlying23 (by kernel_rfl) (by kernel_rfl) (by kernel_rfl) (by kernel_rfl) (by kernel_rfl) (by decide) (by intro _; rfl) fun x u hu => by simp [Fld.row, vS] at hu; rcases hu with rfl | rfl <;> rfl
def qJC {α : Type} (p : α -> Bool) (xs : List α) : Int := match xs.findIdx? p with | some i => (i : Int) | none => -1
theorem qBV {α : Type} {p : α -> Bool} {xs : List α} {i : Nat} {x : α} (h : qAG (fun y => !p y) xs i) (hx : xs[i]? = some x) (hp : p x = true) : qJC p xs = i := by
 have hl := (List.getElem?_eq_some_iff.1 hx).1
 have hg := (List.getElem?_eq_some_iff.1 hx).2
 have : xs.findIdx? p = some i := List.findIdx?_eq_some_iff_getElem.2 ⟨hl, by rw [hg]; exact hp, fun j hj => by
  have := h j _ hj (List.getElem?_eq_getElem (Nat.lt_trans hj hl))
  simpa using this⟩
 unfold qJC; rw [this]
theorem qCr {α : Type} {p : α -> Bool} {xs : List α} {i : Nat} (h : qAG (fun y => !p y) xs i) (hi : xs.length <= i) : qJC p xs = -1 := by
 have : xs.findIdx? p = none := List.findIdx?_eq_none_iff.2 fun x hx => by
  obtain ⟨j, hj, rfl⟩ := List.mem_iff_getElem.1 hx
  have := h j _ (by omega) (List.getElem?_eq_getElem hj)
  simpa using this
 unfold qJC; rw [this]
theorem qAI {α : Type} (p : α -> Bool) (xs : List α) : (qJC p xs = -1 /\ xs.find? p = none /\ xs.any p = false) ∨ ∃ (i : Nat) (x : α), qJC p xs = i /\ xs[i]? = some x /\ xs.find? p = some x /\ i < xs.length /\ p x = true /\ x ∈ xs /\ xs.any p = true /\ (xs.take i).any p = false := by
 cases h : xs.findIdx? p with
 | none =>
  have h' := List.findIdx?_eq_none_iff.1 h
  refine .inl ⟨by unfold qJC; rw [h], List.find?_eq_none.2 fun x hx => by rw [h' x hx]; simp, List.any_eq_false.2 fun x hx => by rw [h' x hx]; simp⟩
 | some i =>
  obtain ⟨hl, hp, hn⟩ := List.findIdx?_eq_some_iff_getElem.1 h
  refine .inr ⟨i, xs[i], by unfold qJC; rw [h], List.getElem?_eq_getElem hl, ?_, hl, hp, List.getElem_mem _, List.any_eq_true.2 ⟨_, List.getElem_mem _, hp⟩, ?_⟩
  ·rw [List.find?_eq_some_iff_getElem]
   exact ⟨hp, i, hl, rfl, fun j hj => by simpa using hn j hj⟩
  ·rw [List.any_eq_false]
   intro x hx
   obtain ⟨j, hj, rfl⟩ := List.mem_iff_getElem.1 hx
   rw [List.length_take] at hj
   rw [List.getElem_take]
   exact hn j (by omega)
theorem qBz {α : Type} {p : α -> Bool} {xs : List α} {i : Nat} {x : α} (h : qAG (fun y => !p y) xs i) (hx : xs[i]? = some x) (hp : p x = false) : qAG (fun y => !p y) xs (i + 1) := h.succ hx (by simp [hp])
theorem c132 {V : Mem} {d : Ds} (h : Ds.Ok V d) {s : ByteArray} : PP 132 [d.v, .string s] V (.int .i64 (qJC (fun t => decide (t.name = s)) d.types)) := by
 refine x132 ?_
 unfold w132
 refine qAA d.types.length (fun i V1 => V = V1 /\ qAG (fun t => !decide (t.name = s)) d.types i) ⟨rfl, qAG.zero _ _⟩ ?_
 rintro i b V1 J hi ⟨rfl, ha⟩ hJ
 refine ⟨fun hlt => ?_, fun hge => ?_⟩
 ·obtain ⟨x, hm, hx, hdr, hl, hp, hz, hrow⟩ := h.types.get hlt
  refine ⟨hp, hz, hlt, qAc hp, _, _, hrow, fun he => ?_, fun he => ⟨h.types.succ hlt, hJ hl _ _ ⟨rfl, qBz (p := fun t => decide (t.name = s)) ha hx (decide_eq_false he)⟩⟩⟩
  rw [qBV (p := fun t => decide (t.name = s)) ha hx (decide_eq_true he)]; exact ⟨rfl, rfl⟩
 ·rw [qCr (p := fun t => decide (t.name = s)) ha (h.types.done hge).2]; exact ⟨rfl, rfl⟩
theorem c186 {V : Mem} {d : Ds} (h : Ds.Ok V d) {s : ByteArray} : PP 186 [d.v, .string s] V (.int .i64 (qJC (fun t => decide (t.name = s)) d.procs)) := by
 refine x186 ?_
 unfold w186
 refine qAA d.procs.length (fun i V1 => V = V1 /\ qAG (fun t => !decide (t.name = s)) d.procs i) ⟨rfl, qAG.zero _ _⟩ ?_
 rintro i b V1 J hi ⟨rfl, ha⟩ hJ
 refine ⟨fun hlt => ?_, fun hge => ?_⟩
 ·obtain ⟨x, hm, hx, hdr, hl, hp, hz, hrow⟩ := h.procs.get hlt
  refine ⟨hp, hz, hlt, qAc hp, _, _, _, _, _, hrow, fun he => ?_, fun he => ⟨h.procs.succ hlt, hJ hl _ _ ⟨rfl, qBz (p := fun t => decide (t.name = s)) ha hx (decide_eq_false he)⟩⟩⟩
  rw [qBV (p := fun t => decide (t.name = s)) ha hx (decide_eq_true he)]; exact ⟨rfl, rfl⟩
 ·rw [qCr (p := fun t => decide (t.name = s)) ha (h.procs.done hge).2]; exact ⟨rfl, rfl⟩
theorem c151 {V : Mem} {d : Ds} (h : Ds.Ok V d) {s : ByteArray} : PP 151 [d.v, .string s] V (.int .i64 (qJC (fun t => decide (t.name = s)) d.measures)) := by
 refine x151 ?_
 unfold w151
 refine qAA d.measures.length (fun i V1 => V = V1 /\ qAG (fun t => !decide (t.name = s)) d.measures i) ⟨rfl, qAG.zero _ _⟩ ?_
 rintro i b V1 J hi ⟨rfl, ha⟩ hJ
 refine ⟨fun hlt => ?_, fun hge => ?_⟩
 ·obtain ⟨x, hm, hx, hdr, hl, hp, hz, hrow⟩ := h.measures.get hlt
  refine ⟨hp, hz, hlt, qAc hp, _, _, _, _, _, _, _, hrow, fun he => ?_, fun he => ⟨h.measures.succ hlt, hJ hl _ _ ⟨rfl, qBz (p := fun t => decide (t.name = s)) ha hx (decide_eq_false he)⟩⟩⟩
  rw [qBV (p := fun t => decide (t.name = s)) ha hx (decide_eq_true he)]; exact ⟨rfl, rfl⟩
 ·rw [qCr (p := fun t => decide (t.name = s)) ha (h.measures.done hge).2]; exact ⟨rfl, rfl⟩
section
variable {V : Mem} {d : Ds}
theorem c101 (h : Ds.Ok V d) {s : ByteArray} : PP 101 [d.v, .string s] V (.bool (qAN d s)) := by
 refine x101 ?_
 unfold w101
 refine (c132 h).call ⟨_, rfl, ?_⟩
 rcases qAI (fun t : Ty => decide (t.name = s)) d.types with ⟨h1, h2, h3⟩ | ⟨i, x, h1, h2, h3, h4, h5, h6, h7, _⟩
 ·rw [h1, qAN, h3]; exact ⟨rfl, rfl⟩
 ·rw [h1, qAN, h7, decide_eq_true (by omega)]; exact ⟨rfl, rfl⟩
theorem c187 (h : Ds.Ok V d) {s : ByteArray} : PP 187 [d.v, .string s] V (.bool (known d s)) := by
 refine x187 ?_
 unfold w187
 refine ⟨fun h1 => ?_, fun h1 => ⟨fun h2 => ?_, fun h2 => (c101 h).call ⟨_, rfl, ?_⟩⟩⟩ <;> simp [known, qAP, qAt, *]
theorem c104 (h : Ds.Ok V d) {s t : ByteArray} : PP 104 [d.v, .string s, .string t] V (.bool (qFD d s t)) := by
 refine x104 ?_
 unfold w104
 unfold qFD sNil
 refine ⟨fun h1 => ?_, fun h1 => ⟨fun h2 => (c101 h).call ⟨_, rfl, ?_⟩, fun h2 => ?_⟩⟩
 ·rw [decide_eq_true h1]; exact ⟨rfl, rfl⟩
 ·rw [decide_eq_false h1, decide_eq_true h2]; exact ⟨rfl, rfl⟩
 ·rw [decide_eq_false h1, decide_eq_false h2]; exact ⟨rfl, rfl⟩
theorem qIT (fs : List Fld) : qED d [] fs = true := by simp [qED]
theorem c99 {l : Sl} {xs : List Fld} (h : qAd V l 2 (xs.map Fld.row)) {s : ByteArray} : PP 99 [l.v, .string s] V (.string (qBJ xs s)) := by
 refine x99 ?_
 unfold w99
 refine qAA xs.length (fun i V1 => V = V1 /\ qBJ xs s = qBJ (xs.drop i) s) ⟨rfl, rfl⟩ ?_
 rintro i b V1 J hi ⟨rfl, ha⟩ hJ
 refine ⟨fun hlt => ?_, fun hge => ?_⟩
 ·obtain ⟨x, hm, hx, hdr, hl, hp, hz, hrow⟩ := h.get hlt
  rw [hdr, qBJ] at ha
  refine ⟨hp, hz, hlt, qAc hp, _, _, hrow, fun he => ⟨hp, hz, hlt, qAc hp, _, _, hrow, ?_⟩, fun he => ⟨h.succ hlt, hJ hl _ _ ⟨rfl, ?_⟩⟩⟩
  ·rw [ha, if_pos he]; exact ⟨rfl, rfl⟩
  ·rw [ha, if_neg he]
 ·rw [ha, (h.done hge).1]; exact ⟨rfl, rfl⟩
theorem c100 (h : Ds.Ok V d) {s t : ByteArray} : PP 100 [d.v, .string s, .string t] V (.tuple #[.string (qCO d s t).1, .int .i64 (qCO d s t).2]) := by
 refine x100 ?_
 unfold w100
 refine (c132 h).call ⟨_, rfl, ?_⟩
 unfold qCO tyOf
 rcases qAI (fun t : Ty => decide (t.name = s)) d.types with ⟨h1, h2, h3⟩ | ⟨i, x, h1, h2, h3, h4, h5, h6, h7, _⟩
 ·rw [h1, h2]; exact ⟨fun _ => ⟨rfl, rfl⟩, fun h => absurd h (by decide)⟩
 ·rw [h1, h3]
  have hn := h.types.n_eq
  have hlt : (i : Int) < (d.ts.n : Int) := by omega
  obtain ⟨y, hm, hx, hdr, hl, hp, hz, hrow⟩ := h.types.get hlt
  rw [h2] at hx
  cases hx
  refine ⟨fun h => absurd h (by omega), fun _ => ⟨hp, hz, hlt, qAc hp, _, _, hrow, (c99 (h.typesOk x h6).fields).call ⟨_, rfl, fun he => ?_, fun he => ?_⟩⟩⟩
  ·simp only [sE, he, if_true]; exact ⟨by first | rfl | trivial, by first | rfl | trivial⟩
  ·simp only [sE, he, if_false]; exact ⟨by first | rfl | trivial, by first | rfl | trivial⟩
theorem c103 {b : Bool} {s : ByteArray} : PP 103 [.bool b, .string s] V (.tuple #[.string (qDc b s).1, .int .i64 (qDc b s).2]) := by
 refine x103 ?_
 unfold w103
 refine ⟨fun h => ?_, fun h => ?_⟩
 ·unfold qDc; rw [if_pos h]; exact ⟨rfl, rfl⟩
 ·unfold qDc; rw [if_neg h]; exact ⟨rfl, rfl⟩
theorem c105 {l : Sl} {xs : List ByteArray} (h : qAd V l 1 (xs.map qAV)) {s : ByteArray} : PP 105 [l.v, .string s] V (.bool (allT xs s)) := by
 refine x105 ?_
 unfold w105
 refine qAA xs.length (fun i V1 => V = V1 /\ qAG (fun x => decide (x = s)) xs i) ⟨rfl, qAG.zero _ _⟩ ?_
 rintro i b V1 J hi ⟨rfl, ha⟩ hJ
 refine ⟨fun hlt => ?_, fun hge => ?_⟩
 ·obtain ⟨x, hm, hx, hdr, hl, hp, hz, hrow⟩ := h.get hlt
  refine ⟨hp, hz, hlt, _, hrow, fun he => ⟨h.succ hlt, hJ hl _ _ ⟨rfl, ha.succ hx (decide_eq_true he)⟩⟩, fun he => ?_⟩
  unfold allT; rw [qBr (p := fun x => decide (x = s)) hm (by simpa using he)]; exact ⟨rfl, rfl⟩
 ·unfold allT; rw [ha.all (h.done hge).2]; exact ⟨rfl, rfl⟩
theorem c150 (h : Ds.Ok V d) {s : ByteArray} {l : Sl} {xs : List ByteArray} (hl : qAd V l 1 (xs.map qAV)) : PP 150 [d.v, .string s, l.v] V (.tuple #[.string (qJQ d s xs).1, .int .i64 (qJQ d s xs).2]) := by
 refine x150 ?_
 unfold w150
 refine (c186 h).call ⟨_, rfl, ?_⟩
 unfold qJQ qFd
 rcases qAI (fun t : Pr => decide (t.name = s)) d.procs with ⟨h1, h2, h3⟩ | ⟨i, x, h1, h2, h3, h4, h5, h6, h7, _⟩
 ·rw [h1, h2]; exact ⟨fun _ => ⟨rfl, rfl⟩, fun h => absurd h (by decide)⟩
 ·rw [h1, h3]
  have hn := h.procs.n_eq
  have hlt : (i : Int) < (d.ps.n : Int) := by omega
  obtain ⟨y, hm, hx, hdr, hll, hp, hz, hrow⟩ := h.procs.get hlt
  rw [h2] at hx
  cases hx
  have hox := h.procsOk x h6
  have e1 := hl.n_eq
  have e2 := hox.params.n_eq
  refine ⟨fun h => absurd h (by omega), fun _ => ⟨hp, hz, hlt, _, _, _, _, _, hrow, fun he => ?_, fun he => ?_⟩⟩
  ·have hle : xs.length = x.params.length := by omega
   simp only [hle, ne_eq, not_true_eq_false, if_false]
   refine qDA xs.length (fun i V1 => V = V1 /\ qED d xs x.params = qED d (xs.drop i) (x.params.drop i)) ⟨rfl, rfl⟩ ?_
   rintro j b c V1 J hi ⟨rfl, ha⟩ hJ
   refine ⟨fun hlt => ?_, fun hge => ?_⟩
   ·obtain ⟨y, hm', hx', hdr', hl', hp', hz', hrow'⟩ := hl.get hlt
    obtain ⟨f, hmf, hxf, hdf, hlf, hpf, hzf, hrowf⟩ := hox.params.get (i := j) (by omega)
    rw [hdr', hdf, qED] at ha
    refine ⟨hp', hz', hlt, _, hrow', hpf, hzf, by omega, qAc hpf, _, _, hrowf, (c104 h).call ⟨_, rfl, fun hb => ⟨hl.succ hlt, hJ hl' _ _ _ ⟨rfl, ?_⟩⟩, fun hb => ?_⟩⟩
    ·rw [ha, hb, Bool.true_and]
    ·rw [eq_false_of_ne_true hb, Bool.false_and] at ha; rw [ha]; exact ⟨rfl, rfl⟩
   ·rw [(hl.done hge).1, qIT] at ha
    rw [ha]; exact ⟨rfl, rfl⟩
  ·have hle : ¬ xs.length = x.params.length := by omega
   simp only [ne_eq, hle, not_false_eq_true, if_true]; exact ⟨by first | rfl | trivial, by first | rfl | trivial⟩
theorem qDN {l : Sl} {xs : List ByteArray} (hl : qAd V l 1 (xs.map qAV)) {i : Nat} (hi : i < xs.length) : ¬ (l.p = none) /\ (i : Int) < (l.n : Int) /\ V.rowp l.p i 1 = some [.string (xs.getD i sE)] := by
 have hn := hl.n_eq
 have hlt : (i : Int) < (l.n : Int) := by omega
 obtain ⟨y, hm', hx', hdr', hl', hp', hz', hrow'⟩ := hl.get hlt
 rw [List.getD_eq_getElem?_getD, hx']
 rw [Nat.mul_one] at hrow'
 exact ⟨hp', hlt, hrow'⟩
theorem c102 (h : Ds.Ok V d) {sl : Sl} {sc : Sc} {s : ByteArray} {l : Sl} {xs : List ByteArray} (hl : qAd V l 1 (xs.map qAV)) :
  PP 102 [d.v, .agg #[sl.v, .bool sc.body], .string s, l.v] V (.tuple #[.string (qIk d sc s xs).1, .int .i64 (qIk d sc s xs).2]) := by
 refine x102 ?_
 unfold w102
 refine ⟨fun hb => (c150 h hl).call ⟨_, _, rfl, fun h0 => ⟨fun h1 => ?_, fun h1 => ?_⟩, fun h0 => ?_⟩, fun hb => ?_⟩
 ·unfold qIk sE; rw [if_pos hb, if_pos ⟨h0, h1⟩]; exact ⟨rfl, rfl⟩
 ·unfold qIk sE; rw [if_pos hb, if_neg (fun h => h1 h.2)]; exact ⟨rfl, rfl⟩
 ·unfold qIk; rw [if_pos hb, if_neg (fun h => h0 h.1)]; exact ⟨rfl, rfl⟩
 ·unfold qIk; rw [if_neg hb]
  refine (c151 h).call ⟨_, rfl, ?_⟩
  unfold qIf meOf
  rcases qAI (fun t : Ms => decide (t.name = s)) d.measures with ⟨h1, h2, h3⟩ | ⟨i, x, h1, h2, h3, h4, h5, h6, h7, _⟩
  ·rw [h1, h2]; exact ⟨fun _ => ⟨rfl, rfl⟩, fun h => absurd h (by decide)⟩
  ·rw [h1, h3]
   have hn := h.measures.n_eq
   have hlt : (i : Int) < (d.ms.n : Int) := by omega
   obtain ⟨y, hm, hx, hdr, hll, hp, hz, hrow⟩ := h.measures.get hlt
   rw [h2] at hx
   cases hx
   have e1 := hl.n_eq
   refine ⟨fun h => absurd h (by omega), fun _ => ⟨fun he => ?_, fun he => ?_⟩⟩
   ·have hle : xs.length = 1 := by omega
    obtain ⟨a1, a2, a3⟩ := qDN hl (i := 0) (by omega)
    simp only [hle, ne_eq, not_true_eq_false, if_false]
    exact ⟨a1, by omega, by omega, _, a3, hp, hz, hlt, qAc hp, _, _, _, _, _, _, _, hrow, (c104 h).call ⟨_, rfl, c103.call ⟨_, _, rfl, rfl, rfl⟩⟩⟩
   ·have hle : ¬ xs.length = 1 := by omega
    simp only [ne_eq, hle, not_false_eq_true, if_true]; exact ⟨by first | rfl | trivial, by first | rfl | trivial⟩
end
theorem arity {op n : Int} {s : ByteArray} {len : Int} (h : qDb op n s len = true) : (op = 5 -> len = 1) /\ (op = 14 ∨ op = 15 -> len = 2) /\ (op = 21 -> len = 3) /\ len <= 6 := by
 unfold qDb qAM at h
 rw [Bool.and_eq_true, Bool.and_eq_true, decide_eq_true_eq] at h
 obtain ⟨⟨h, -⟩, -⟩ := h
 grind
theorem qFf {d : Int} {e : E} (h : okE d e = true) : qDb e.op e.n e.s e.k.length = true := by
 cases e
 unfold okE at h
 rw [Bool.and_eq_true, Bool.and_eq_true] at h
 exact h.1.2
theorem okEs_mem {d : Int} : ∀ {l : List E}, okEs d l = true -> ∀ x ∈ l, okE d x = true
 | [], _, x, hx => absurd hx List.not_mem_nil
 | y :: l, h, x, hx => by
  unfold okEs at h
  rw [Bool.and_eq_true] at h
  rcases List.mem_cons.1 hx with rfl | hx
  ·exact h.1
  ·exact okEs_mem h.2 x hx
theorem qGF {d : Int} {e : E} (h : okE d e = true) : ∀ x ∈ e.k, okE (d + 1) x = true := by
 cases e
 unfold okE at h
 rw [Bool.and_eq_true] at h
 exact okEs_mem h.2
theorem ownS {V0 V : Mem} {s : Sl} {l : List ByteArray} (h : Own V0 V 9 1 s (l.flatMap qAV)) : qAd V s 1 (l.map qAV) := h.rows (fun _ => rfl) (by decide)
theorem qHp {V : Mem} {b : Nat} {s : ByteArray} {t : Nat} (h : V b = some (.cells #[.string s] t (0, 0))) : qAd V ⟨some ⟨b, 0, none⟩, 1, 1⟩ 1 ([s].map qAV) :=
 qAd.cells (xs := [s]) (row := qAV) h rfl (fun _ => rfl) rfl (by simp)
def scV (sl : Sl) (sc : Sc) : Value := .agg #[sl.v, .bool sc.body]
section
variable {V : Mem} {d : Ds} {sc : Sc} {sl : Sl}
def RefE (V : Mem) (d : Ds) (sl : Sl) (sc : Sc) (e : E) : Prop := ∀ V1, V.sub V1 -> PP 64 [d.v, scV sl sc, e.v] V1 (.tuple #[.string (qAy d sc e).1, .int .i64 (qAy d sc e).2])
theorem refParts (e : E) (he : E.Ok V e) (hlen : (e.k.length : Int) <= 6) (hk : ∀ x ∈ e.k, RefE V d sl sc x) :
  Tri Tryz.prog 98 #[d.v, scV sl sc, e.v] V fun r V' => ∃ s' : Sl, r = .returned (.tuple #[.slice s'.p s'.n s'.c, .int .i64 (partsT d sc [] e.k).2]) /\ V.sub V' /\ qAd V' s' 1 ((partsT d sc [] e.k).1.map qAV) := by
 have hr := he.rows
 refine x98 ?_
 unfold w98
 refine loop4s (mk := fun s : Sl => .slice s.p s.n s.c) (mc := .int .i64) (md := fun s : Sl => .slice s.p s.n s.c) ⟨none, 0, 0⟩ 0 ⟨none, 0, 0⟩ qDn e.k.length (fun i s V1 => ∃ acc, Own V V1 9 1 s (acc.flatMap qAV) /\ partsT d sc [] e.k = partsT d sc acc (e.k.drop i) /\ acc.length = i) ⟨[], Own.nil (Mem.sub.refl _) _ _, rfl, rfl⟩ ?_
 rintro i b c s V1 J hi ⟨acc, hown, hp, hlen'⟩ hJ
 have hr1 := hr.sub hown.sub
 refine ⟨fun hlt => ?_, fun hge => ?_⟩
 ·obtain ⟨x, hm, hx, hdr, hl, hpp, hz, hrow⟩ := hr1.get hlt
  rw [hdr, qBR] at hp
  refine ⟨hpp, hz, hlt, _, _, _, _, hrow, (hk x hm V1 hown.sub).call ⟨_, _, rfl, fun h0 => ?_, fun h0 => ?_⟩⟩
  ·intro b1 hb1
   rw [if_neg (fun h => h h0)] at hp
   refine app174 (s := s) (u := ⟨some ⟨b1, 0, none⟩, 1, 1⟩) (xs := acc) (ys := [(qAy d sc x).1]) rfl rfl (hown.new hb1 _) (qHp mss) (by simp; omega) fun s' V' ho => ⟨s', rfl, hr1.succ hlt, hJ hl _ _ _ _ ⟨_, ho, hp, by simp [hlen']⟩⟩
  ·rw [if_pos h0] at hp
   exact ⟨⟨none, 0, 0⟩, by rw [hp], hown.sub, by rw [hp]; exact qAd.nil⟩
 ·rw [(hr1.done hge).1, qCi] at hp
  exact ⟨s, by rw [hp], hown.sub, by rw [hp]; exact ownS hown⟩
set_option maxRecDepth 4000 in
theorem refExpr (hd : Ds.Ok V d) (hsl : qAd V sl 2 (sc.vars.map Fld.row)) : ∀ (e : E), E.Ok V e -> ∀ dd, okE dd e = true -> RefE V d sl sc e := by
 intro e
 induction e using E.ind with
 | h e ih =>
 intro he dd hok V1 hV
 have har := arity (qFf hok)
 have hk : ∀ x ∈ e.k, RefE V1 d sl sc x := fun x hx V2 h2 => ih x hx (he.kids x hx) (dd + 1) (qGF hok x hx) V2 (hV.trans h2)
 refine Pur.mk (x64 ?_)
 unfold w64
 refine Tri.mono (refParts e (he.sub hV) har.2.2.2 hk) ?_
 rintro _ V2 ⟨s', rfl, h12, hrows⟩
 rw [qGN]
 have hlen := qFN d sc e.k []
 generalize hPT : partsT d sc [] e.k = pt at hrows hlen
 obtain ⟨l, f⟩ := pt
 refine ⟨s', f, rfl, fun h0 => ?_, fun h0 => ?_⟩
 ·subst h0
  have hlen : l.length = e.k.length := by simpa using hlen rfl
  simp only [ne_eq, not_true_eq_false, if_false]
  have hd2 := hd.sub (hV.trans h12)
  have hsl2 := hsl.sub (hV.trans h12)
  generalize hX : qHr d sc e.op e.s l = X
  have key : ∀ a b, X = (a, b) -> (Ending.returned (.tuple #[.string a, .int .i64 b]) = Ending.returned (.tuple #[.string X.1, .int .i64 X.2]) /\ V1.sub V2) := fun a b h => by rw [h]; exact ⟨rfl, h12⟩
  have cAll := fun t => c105 hrows (s := t)
  have cFits := fun a b => c104 hd2 (s := a) (t := b)
  have at0 := fun h : 0 < l.length => qDN hrows h
  have at1 := fun h : 1 < l.length => qDN hrows h
  have at2 := fun h : 2 < l.length => qDN hrows h
  unfold qHr at hX
  refine ⟨fun o1 => key _ _ ?_, fun o1 => ⟨fun o2 => key _ _ ?_, fun o2 => ⟨fun o3 => key _ _ ?_, fun o3 => ⟨fun o4 => ?_, fun o4 => ⟨fun o5 => ?_, fun o5 => ⟨fun o6 => ?_, fun o6 => ⟨fun o7 => ?_, fun o7 => ⟨fun o14 => ?_, fun o14 => ⟨fun o15 => ?_, fun o15 => ⟨fun o16 => ?_, fun o16 => ⟨fun o17 => ?_, fun o17 => ⟨fun o18 => ?_, fun o18 => ⟨fun o19 => ?_, fun o19 => ⟨fun o20 => ?_, fun o20 => ⟨fun o21 => ?_, fun o21 => ?_⟩⟩⟩⟩⟩⟩⟩⟩⟩⟩⟩⟩⟩⟩⟩
  ·rw [<- hX, if_pos o1]; rfl
  ·rw [<- hX, if_neg o1, if_pos o2]; rfl
  ·rw [<- hX, if_neg o1, if_neg o2, if_pos o3]; rfl
  ·rw [if_neg o1, if_neg o2, if_neg o3, if_pos o4] at hX
   refine (c99 hsl2).call ⟨_, rfl, fun h => key _ _ ?_, fun h => key _ _ ?_⟩
   ·rw [<- hX, if_pos (show qBJ sc.vars e.s = sE from h)]; rfl
   ·rw [<- hX, if_neg (show ¬ qBJ sc.vars e.s = sE from h)]
  ·rw [if_neg o1, if_neg o2, if_neg o3, if_neg o4, if_pos o5] at hX
   obtain ⟨a1, a2, a3⟩ := at0 (by have := har.1 o5; omega)
   exact ⟨a1, by omega, a2, _, a3, (c100 hd2).call ⟨_, _, rfl, key _ _ (by rw [<- hX])⟩⟩
  ·rw [if_neg o1, if_neg o2, if_neg o3, if_neg o4, if_neg o5, if_pos o6] at hX
   refine ⟨fun hb => (c101 hd2).call ⟨_, rfl, fun hn => key _ _ ?_, fun hn => key _ _ ?_⟩, fun hb => key _ _ ?_⟩
   ·rw [<- hX, if_neg (by rw [hb]; simp), if_neg (by rw [hn]; simp)]
   ·rw [<- hX, if_neg (by rw [hb]; simp), if_pos (eq_false_of_ne_true hn)]; rfl
   ·rw [<- hX, if_pos (eq_false_of_ne_true hb)]; rfl
  ·rw [if_neg o1, if_neg o2, if_neg o3, if_neg o4, if_neg o5, if_neg o6, if_pos o7] at hX
   exact (c102 hd2 (sl := sl) hrows).call ⟨_, _, rfl, key _ _ (by rw [<- hX])⟩
  iterate 2
   ·rw [if_neg o1, if_neg o2, if_neg o3, if_neg o4, if_neg o5, if_neg o6, if_neg o7, if_pos (by omega)] at hX
    obtain ⟨a1, a2, a3⟩ := at0 (by have := har.2.1 (by omega); omega)
    obtain ⟨b1, b2, b3⟩ := at1 (by have := har.2.1 (by omega); omega)
    refine ⟨a1, by omega, a2, _, a3, b1, by omega, b2, _, b3, (cFits _ _).call ⟨_, rfl, fun h => c103.call ⟨_, _, rfl, key _ _ ?_⟩, fun h => ⟨b1, by omega, b2, _, b3, a1, by omega, a2, _, a3, (cFits _ _).call ⟨_, rfl, c103.call ⟨_, _, rfl, key _ _ ?_⟩⟩⟩⟩⟩
    ·rw [<- hX, h]; rfl
    ·rw [<- hX, eq_false_of_ne_true h]; rfl
  iterate 2
   ·rw [if_neg o1, if_neg o2, if_neg o3, if_neg o4, if_neg o5, if_neg o6, if_neg o7, if_neg (by omega), if_pos (by omega)] at hX
    exact (cAll _).call ⟨_, rfl, c103.call ⟨_, _, rfl, key _ _ (by rw [<- hX]; rfl)⟩⟩
  iterate 3
   ·rw [if_neg o1, if_neg o2, if_neg o3, if_neg o4, if_neg o5, if_neg o6, if_neg o7, if_neg (by omega), if_neg (by omega), if_pos (by omega)] at hX
    exact (cAll _).call ⟨_, rfl, c103.call ⟨_, _, rfl, key _ _ (by rw [<- hX]; rfl)⟩⟩
  ·rw [if_neg o1, if_neg o2, if_neg o3, if_neg o4, if_neg o5, if_neg o6, if_neg o7, if_neg (by omega), if_neg (by omega), if_neg (by omega), if_pos o21] at hX
   obtain ⟨a1, a2, a3⟩ := at0 (by have := har.2.2.1 o21; omega)
   obtain ⟨b1, b2, b3⟩ := at1 (by have := har.2.2.1 o21; omega)
   obtain ⟨c1, c2, c3⟩ := at2 (by have := har.2.2.1 o21; omega)
   have fin : ∀ t, (if l.getD 1 sE = sNil then l.getD 2 sE else l.getD 1 sE) = t ->
     (l.getD 0 sE = qAt -> qFD d (l.getD 1 sE) (l.getD 2 sE) = true -> X = qDc true t) /\ (l.getD 0 sE = qAt -> ¬ qFD d (l.getD 1 sE) (l.getD 2 sE) = true -> X = qDc (qFD d (l.getD 2 sE) (l.getD 1 sE)) t) /\ (¬ l.getD 0 sE = qAt -> X = qDc false t) := fun t ht => by
    rw [ht] at hX
    refine ⟨fun x y => ?_, fun x y => ?_, fun x => ?_⟩
    ·rw [<- hX, decide_eq_true x, y]; rfl
    ·rw [<- hX, decide_eq_true x, eq_false_of_ne_true y]; rfl
    ·rw [<- hX, decide_eq_false x]; rfl
   refine ⟨b1, by omega, b2, _, b3, fun hn => ?_, fun hn => ?_⟩
   ·have hf := fin _ (if_pos hn)
    refine ⟨c1, by omega, c2, _, c3, a1, by omega, a2, _, a3, fun h0 => ⟨b1, by omega, b2, _, b3, c1, by omega, c2, _, c3, (cFits _ _).call ⟨_, rfl, fun h => c103.call ⟨_, _, rfl, key _ _ ?_⟩, fun h => ⟨c1, by omega, c2, _, c3, b1, by omega, b2, _, b3, (cFits _ _).call ⟨_, rfl, c103.call ⟨_, _, rfl, key _ _ ?_⟩⟩⟩⟩⟩, fun h0 => c103.call ⟨_, _, rfl, key _ _ ?_⟩⟩
    ·exact hf.1 h0 h
    ·exact hf.2.1 h0 h
    ·exact hf.2.2 h0
   ·have hf := fin _ (if_neg hn)
    refine ⟨a1, by omega, a2, _, a3, fun h0 => ⟨b1, by omega, b2, _, b3, c1, by omega, c2, _, c3, (cFits _ _).call ⟨_, rfl, fun h => c103.call ⟨_, _, rfl, key _ _ ?_⟩, fun h => ⟨c1, by omega, c2, _, c3, b1, by omega, b2, _, b3, (cFits _ _).call ⟨_, rfl, c103.call ⟨_, _, rfl, key _ _ ?_⟩⟩⟩⟩⟩, fun h0 => c103.call ⟨_, _, rfl, key _ _ ?_⟩⟩
    ·exact hf.1 h0 h
    ·exact hf.2.1 h0 h
    ·exact hf.2.2 h0
  ·rw [if_neg o1, if_neg o2, if_neg o3, if_neg o4, if_neg o5, if_neg o6, if_neg o7, if_neg (by omega), if_neg (by omega), if_neg (by omega), if_neg o21] at hX
   exact (cAll _).call ⟨_, rfl, c103.call ⟨_, _, rfl, key _ _ (by rw [<- hX]; rfl)⟩⟩
 ·simp only [ne_eq, h0, not_false_eq_true, if_true]
  exact ⟨rfl, h12⟩
end
theorem ownF {V0 V : Mem} {s : Sl} {l : List Fld} (h : Own V0 V 110 2 s (l.flatMap Fld.row)) : qAd V s 2 (l.map Fld.row) := h.rows (fun _ => rfl) (by decide)
theorem one_fld {V : Mem} {b : Nat} {f : Fld} {t : Nat} (h : V b = some (.cells #[.string f.name, .string f.ty] t (0, 0))) : qAd V ⟨some ⟨b, 0, none⟩, 1, 1⟩ 2 ([f].map Fld.row) :=
 qAd.cells (xs := [f]) (row := Fld.row) h rfl (fun _ => rfl) rfl (by simp)
section
variable {V : Mem} {d : Ds}
def Small (d : Ds) : Prop := d.globals.length <= 1000 /\ ∀ p ∈ d.procs, p.params.length <= 1000 /\ p.locals.length <= 1000
theorem refInProc (hd : Ds.Ok V d) {p : Pr} (hp : Pr.Ok V p) (h1 : d.globals.length <= 1000) (h2 : p.params.length <= 1000 /\ p.locals.length <= 1000) :
  Tri Tryz.prog 237 #[d.v, p.v] V fun r V' => ∃ s' : Sl, r = .returned (scV s' (qAL d p)) /\ V.sub V' /\ qAd V' s' 2 ((qAL d p).vars.map Fld.row) := by
 refine x237 ?_
 unfold w237
 intro b hb
 have hs := Mem.sub_new hb (.cells #[] 110 (0, 0))
 refine qHV (s := ⟨some ⟨b, 0, none⟩, 0, 0⟩) (u := p.ps) (xs := []) (ys := p.params) rfl rfl (Own.empty hs _ _ _) (hp.params.sub hs) (by first | omega | (simp; omega)) fun s1 V1 o1 => ⟨s1, rfl, ?_⟩
 refine qHV (s := s1) (u := p.ls) (xs := p.params) (ys := p.locals) rfl rfl o1 (hp.locals.sub o1.sub) (by first | omega | (simp; omega)) fun s2 V2 o2 => ⟨s2, rfl, ?_⟩
 refine qHV (s := s2) (u := d.gs) (xs := p.params ++ p.locals) (ys := d.globals) rfl rfl o2 (hd.globals.sub o2.sub) (by first | omega | (simp; omega)) fun s3 V3 o3 => ⟨s3, rfl, ?_⟩
 exact ⟨s3, rfl, o3.sub, ownF o3⟩
theorem refInBound (hd : Ds.Ok V d) {p : Pr} (hp : Pr.Ok V p) (h1 : d.globals.length <= 1000) (h2 : p.params.length <= 1000 /\ p.locals.length <= 1000) :
  Tri Tryz.prog 190 #[d.v, p.v] V fun r V' => ∃ s' : Sl, r = .returned (scV s' (qBl d p)) /\ V.sub V' /\ qAd V' s' 2 ((qBl d p).vars.map Fld.row) := by
 refine x190 ?_
 unfold w190
 intro b hb
 have hs := Mem.sub_new hb (.cells #[] 110 (0, 0))
 refine qHV (s := ⟨some ⟨b, 0, none⟩, 0, 0⟩) (u := p.ps) (xs := []) (ys := p.params) rfl rfl (Own.empty hs _ _ _) (hp.params.sub hs) (by first | omega | (simp; omega)) fun s1 V1 o1 => ⟨s1, rfl, ?_⟩
 refine qHV (s := s1) (u := d.gs) (xs := p.params) (ys := d.globals) rfl rfl o1 (hd.globals.sub o1.sub) (by first | omega | (simp; omega)) fun s3 V3 o3 => ⟨s3, rfl, ?_⟩
 exact ⟨s3, rfl, o3.sub, ownF o3⟩
theorem qDX (hd : Ds.Ok V d) {t : ByteArray} (h1 : d.globals.length <= 1000) :
  Tri Tryz.prog 65 #[d.v, .string t] V fun r V' => ∃ s' : Sl, r = .returned (scV s' (qAk d t)) /\ V.sub V' /\ qAd V' s' 2 ((qAk d t).vars.map Fld.row) := by
 refine x65 ?_
 unfold w65
 refine ⟨fun he => ?_, fun he => ?_⟩
 ·refine qHV (s := ⟨none, 0, 0⟩) (u := d.gs) (xs := []) (ys := d.globals) rfl rfl (Own.nil (Mem.sub.refl V) _ _) hd.globals (by first | omega | (simp; omega)) fun s1 V1 o1 => ⟨s1, rfl, ?_⟩
  refine ⟨s1, rfl, o1.sub, ?_⟩
  unfold qAk sE
  rw [if_pos he]
  exact ownF o1
 ·intro b hb
  have hs := Mem.sub_new hb (.cells #[.string (qAi [116, 104, 105, 115]), .string t] 110 (0, 0))
  refine qHV (s := ⟨none, 0, 0⟩) (u := ⟨some ⟨b, 0, none⟩, 1, 1⟩) (xs := []) (ys := [⟨qBG, t⟩]) rfl rfl (Own.nil hs _ _) (one_fld mss) (by simp) fun s1 V1 o1 => ⟨s1, rfl, ?_⟩
  refine qHV (s := s1) (u := d.gs) (xs := [⟨qBG, t⟩]) (ys := d.globals) rfl rfl o1 (hd.globals.sub o1.sub) (by first | omega | (simp; omega)) fun s2 V2 o2 => ⟨s2, rfl, ?_⟩
  refine ⟨s2, rfl, o2.sub, ?_⟩
  unfold qAk sE
  rw [if_neg he]
  exact ownF o2
theorem qHd {op : Int} {s : ByteArray} {es : List E} {nl nx : Int} (h : qCf op s es nl nx = true) : (op = 6 -> ∃ e0, es = [e0] /\ e0.op = 7) /\ (op = 1 ∨ op = 3 ∨ op = 4 -> es.length = 1) /\ (op = 2 -> es.length = 2) /\ (op = 5 -> es.length <= 1) /\ es.length <= 2 /\ (∀ x ∈ es, okE 1 x = true) := by
 unfold qCf at h
 rw [Bool.and_eq_true] at h
 obtain ⟨h, hv⟩ := h
 have hall : ∀ x ∈ es, okE 1 x = true := fun x hx => by
  have := List.all_eq_true.1 hv x hx
  unfold qBx at this
  exact (of_decide_eq_true this).1
 unfold qIu at h
 have h6 : op = 6 -> ∃ e0, es = [e0] /\ e0.op = 7 := fun h6 => by
  subst h6
  simp only [show ¬ ((6 : Int) = 1) by decide, show ¬ ((6 : Int) = 2) by decide, show ¬ ((6 : Int) = 3) by decide, show ¬ ((6 : Int) = 4) by decide, show ¬ ((6 : Int) = 5) by decide, if_false, if_true, decide_eq_true_eq] at h
  match es, h with
  | [e0], h => exact ⟨e0, rfl, h.2.2.1⟩
  | [], h => simp at h
  | _ :: _ :: _, h => simp at h; omega
 refine ⟨h6, ?_, ?_, ?_, ?_, hall⟩ <;> grind
theorem c188 (hd : Ds.Ok V d) {p : Pr} (hp : Pr.Ok V p) (h1 : d.globals.length <= 1000) (h2 : p.params.length <= 1000 /\ p.locals.length <= 1000) {x : S} (hx : S.Ok V x) (hs : qCf x.op x.s x.es x.ls.length x.xs.length = true) :
  PP 188 [d.v, p.v, x.v] V (.int .i64 (qEZ d (qAL d p) p.result x.op x.s x.es)) := by
 obtain ⟨a6, a134, a2, a5, alen, aok⟩ := qHd hs
 rw [S.v_eq]
 refine Pur.mk (x188 ?_)
 unfold w188
 refine Tri.mono (refInProc hd hp h1 h2) ?_
 rintro _ V1 ⟨sv, rfl, hV1, hsc⟩
 generalize hscE : qAL d p = sc at hsc
 have hbody : sc.body = true := by rw [<- hscE]; rfl
 have hd1 := hd.sub hV1
 have hf := qFq (hx.sub hV1)
 refine ⟨sv, sc.body, rfl, fun o6 => ?_, fun o6 => ?_⟩
 ·obtain ⟨e0, he0, -⟩ := a6 o6
  rcases hf with ⟨h, -⟩ | ⟨e0', r, he, hn, hp0, hp2, hrow⟩
  ·rw [he0] at h; cases h
  ·rw [he0] at he
   cases he
   have hok := aok e0 (by rw [he0]; simp)
   have hoe := (hx.sub hV1).eOk e0 (by rw [he0]; simp)
   have hk : ∀ y ∈ e0.k, RefE V1 d sv sc y := fun y hy => refExpr hd1 hsc y (hoe.kids y hy) 2 (qGF hok y hy)
   refine ⟨hp0, by omega, by omega, _, _, _, _, hrow, Tri.mono (refParts e0 hoe (arity (qFf hok)).2.2.2 hk) ?_⟩
   rintro _ V2 ⟨s', rfl, h12, hrows⟩
   unfold qEZ
   rw [if_pos o6, he0]
   simp only
   generalize hPT : partsT d sc [] e0.k = pt at hrows
   obtain ⟨l, f⟩ := pt
   have hrow2 := h12.rowp hrow
   refine ⟨s', f, rfl, fun h0 => ⟨hp0, by omega, by omega, hp2, _, _, _, _, hrow2, (c150 (hd1.sub h12) hrows).call ⟨_, _, rfl, ?_, hV1.trans h12⟩⟩, fun h0 => ?_⟩
   ·simp only [h0, ne_eq, not_true_eq_false, if_false]
   ·simp only [h0, ne_eq, not_false_eq_true, if_true]; exact ⟨by trivial, hV1.trans h12⟩
 ·unfold qEZ
  rw [if_neg o6]
  have hr := (hx.sub hV1).eRows
  refine qGi (mk := .int .i64) (mc := fun s : Sl => .slice s.p s.n s.c) 0 ⟨none, 0, 0⟩ qDn x.es.length (fun i s V2 => ∃ acc, Own V1 V2 9 1 s (acc.flatMap qAV) /\ partsT d sc [] x.es = partsT d sc acc (x.es.drop i) /\ acc.length = i) ⟨[], Own.nil (Mem.sub.refl _) _ _, rfl, rfl⟩ ?_
  rintro i b s V2 J hi ⟨acc, hown, hpt, hlen'⟩ hJ
  have hr1 := hr.sub hown.sub
  refine ⟨fun hlt => ?_, fun hge => ?_⟩
  ·obtain ⟨y, hm, hxy, hdr, hl, hpp, hz, hrow⟩ := hr1.get hlt
   rw [hdr, qBR] at hpt
   refine ⟨hpp, hz, hlt, _, _, _, _, hrow, (refExpr hd1 hsc y ((hx.sub hV1).eOk y hm) 1 (aok y hm) V2 hown.sub).call ⟨_, _, rfl, fun h0 => ?_, fun h0 => ?_⟩⟩
   ·intro b1 hb1
    rw [if_neg (fun h => h h0)] at hpt
    refine app174 (s := s) (u := ⟨some ⟨b1, 0, none⟩, 1, 1⟩) (xs := acc) (ys := [(qAy d sc y).1]) rfl rfl (hown.new hb1 _) (qHp mss) (by first | omega | (simp; omega)) fun s' V' ho => ⟨s', rfl, hr1.succ hlt, hJ hl _ _ _ ⟨_, ho, hpt, by simp [hlen']⟩⟩
   ·rw [if_pos h0] at hpt
    rw [hpt]
    simp only [h0, ne_eq, not_false_eq_true, if_true]
    exact ⟨by trivial, hV1.trans hown.sub⟩
  ·have hge' := (hr1.done hge).2
   rw [(hr1.done hge).1, qCi] at hpt
   rw [hpt]
   simp only [ne_eq, not_true_eq_false, if_false]
   have hrows := ownS hown
   have hal : acc.length = x.es.length := by omega
   have hsub := hV1.trans hown.sub
   have hd2 := hd1.sub hown.sub
   have hsc2 := hsc.sub hown.sub
   have sln := hrows.n_eq
   have at0 := fun h : 0 < acc.length => qDN hrows h
   have at1 := fun h : 1 < acc.length => qDN hrows h
   have key : ∀ X n : Int, X = n -> (Ending.returned (.int .i64 n) = Ending.returned (.int .i64 X) /\ V.sub V2) := fun X n h => by rw [h]; exact ⟨rfl, hsub⟩
   refine ⟨fun o1 => (c99 hsc2).call ⟨_, rfl, fun hl => key _ _ ?_, fun hl => ?_⟩, fun o1 => ⟨fun o2 => ?_, fun o2 => ⟨fun o3 => ?_, fun o3 => ⟨fun o4 => ?_, fun o4 => ⟨fun o5 => ?_, fun o5 => key _ _ ?_⟩⟩⟩⟩⟩
   ·rw [if_pos o1, if_pos (show qBJ sc.vars x.s = sE from hl)]
   ·obtain ⟨b1, b2, b3⟩ := at0 (by have := a134 (by omega); omega)
    refine ⟨b1, by omega, b2, _, b3, (c104 hd2).call ⟨_, rfl, fun hb => key _ _ ?_, fun hb => key _ _ ?_⟩⟩
    ·rw [if_pos o1, if_neg (show ¬ qBJ sc.vars x.s = sE from hl), if_pos hb]
    ·rw [if_pos o1, if_neg (show ¬ qBJ sc.vars x.s = sE from hl), if_neg hb]
   ·obtain ⟨b1, b2, b3⟩ := at0 (by have := a2 o2; omega)
    obtain ⟨c1, c2, c3⟩ := at1 (by have := a2 o2; omega)
    rw [if_neg o1, if_pos o2]
    refine ⟨b1, by omega, b2, _, b3, (c100 hd2).call ⟨_, _, rfl, fun hb => ⟨c1, by omega, c2, _, c3, (c104 hd2).call ⟨_, rfl, fun hc => key _ _ ?_, fun hc => key _ _ ?_⟩⟩, fun hb => key _ _ ?_⟩⟩
    ·rw [if_neg (fun h => h hb), if_pos hc]
    ·rw [if_neg (fun h => h hb), if_neg hc]
    ·rw [if_pos hb]
   ·obtain ⟨b1, b2, b3⟩ := at0 (by have := a134 (by omega); omega)
    rw [if_neg o1, if_neg o2, if_pos (Or.inl o3)]
    exact ⟨b1, by omega, b2, _, b3, fun h => key _ _ (by rw [if_pos (show _ = qAt from h)]), fun h => key _ _ (by rw [if_neg (show ¬ _ = qAt from h)])⟩
   ·obtain ⟨b1, b2, b3⟩ := at0 (by have := a134 (by omega); omega)
    rw [if_neg o1, if_neg o2, if_pos (Or.inr o4)]
    exact ⟨b1, by omega, b2, _, b3, fun h => key _ _ (by rw [if_pos (show _ = qAt from h)]), fun h => key _ _ (by rw [if_neg (show ¬ _ = qAt from h)])⟩
   ·have h5 := a5 o5
    rw [if_neg o1, if_neg o2, if_neg (by omega), if_pos o5]
    have rest : ¬ (acc.length = 0) -> ((s.n : Int) = 1) /\ ¬ (s.p = none) /\ (0 : Int) < (s.n : Int) /\ V2.rowp s.p 0 1 = some [.string (acc.getD 0 sE)] := fun h => by
     obtain ⟨b1, b2, b3⟩ := at0 (by omega)
     exact ⟨by omega, b1, b2, b3⟩
    refine ⟨fun hn => ?_, fun hn => ?_⟩
    ·have h0 : acc.length = 0 := by omega
     rw [if_pos h0]
     refine ⟨fun he => key _ _ (by rw [if_pos (show p.result = sE from he)]), fun he => ⟨fun h => absurd h (by omega), fun h => key _ _ (by rw [if_neg (show ¬ p.result = sE from he)])⟩⟩
    ·have h0 : ¬ acc.length = 0 := by omega
     obtain ⟨r1, r2, r3, r4⟩ := rest h0
     rw [if_neg h0]
     refine ⟨fun _ => ⟨fun he => key _ _ (by rw [if_neg (fun h => h.1 (show p.result = sE from he))]), fun he => ⟨r2, by omega, r3, _, r4, (c104 hd2).call ⟨_, rfl, fun hb => key _ _ ?_, fun hb => key _ _ ?_⟩⟩⟩, fun h => absurd r1 h⟩
     ·rw [if_pos ⟨show ¬ p.result = sE from he, hb⟩]
     ·rw [if_neg (fun h => hb h.2)]
   ·rw [if_neg o1, if_neg o2, if_neg (by omega), if_neg o5]
end
theorem okS_shape {d : Int} {x : S} (h : okS d x = true) : qCf x.op x.s x.es x.ls.length x.xs.length = true /\ qIF (d + 1) x.ls = true /\ qIF (d + 1) x.xs = true := by
 cases x
 unfold okS at h
 rw [Bool.and_eq_true, Bool.and_eq_true, Bool.and_eq_true] at h
 exact ⟨h.1.1.2, h.1.2, h.2⟩
theorem qJu {d : Int} : ∀ {l : List S}, qIF d l = true -> ∀ x ∈ l, okS d x = true
 | [], _, x, hx => absurd hx List.not_mem_nil
 | y :: l, h, x, hx => by
  unfold qIF at h
  rw [Bool.and_eq_true] at h
  rcases List.mem_cons.1 hx with rfl | hx
  ·exact h.1
  ·exact qJu h.2 x hx
theorem szS_eq (x : S) : szS x = 1 + qGv x.ls + qGv x.xs := by cases x; unfold szS; rfl
theorem qGY (x : S) (l : List S) : qGv (x :: l) = szS x + qGv l := by rw [qGv]
mutual
theorem stT_n (d : Ds) (sc : Sc) (result : ByteArray) (n : Int) : ∀ x : S, (stT d sc result n x).2 = 0 -> (stT d sc result n x).1 = n + szS x
 | .mk op s _ es _ ls _ xs => by
  have h1 := qGZ d sc result (n + 1) ls
  have h2 := qGZ d sc result (qBK d sc result (n + 1) ls).1 xs
  unfold stT szS
  intro h
  split at h
  ·rename_i h'; exact absurd h h'
  ·rename_i h'
   rw [if_neg h']
   split at h
   ·rename_i h3; exact absurd h h3
   ·rename_i h3
    rw [if_neg h3, h2 h, h1 (by simpa using h3)]
    omega
theorem qGZ (d : Ds) (sc : Sc) (result : ByteArray) (n : Int) : ∀ l : List S, (qBK d sc result n l).2 = 0 -> (qBK d sc result n l).1 = n + qGv l
 | [] => by simp [qBK, qGv]
 | x :: xs => by
  have h1 := stT_n d sc result n x
  have h2 := qGZ d sc result (stT d sc result n x).1 xs
  rw [qHa, qGY]
  intro h
  split at h
  ·rename_i h'; exact absurd h h'
  ·rename_i h'
   rw [if_neg h', h2 h, h1 (by simpa using h')]
   omega
end
theorem qAe {α β : Type} {f : Nat -> α -> Option β} {i : Nat} {x : α} {xs : List α} {b : β} (h : f i x = some b) : qAf f i (x :: xs) = some b := by unfold qAf; rw [h]
theorem qAh {α β : Type} {f : Nat -> α -> Option β} {i : Nat} {x : α} {xs : List α} (h : f i x = none) : qAf f i (x :: xs) = qAf f (i + 1) xs := by rw [qAf, h]
section
variable {V : Mem} {d : Ds}
def RefS (V : Mem) (d : Ds) (p : Pr) (l : List S) : Prop := ∀ (sl : Sl) (n dd : Int), qAd V sl 5 (l.map S.row) -> (∀ x ∈ l, S.Ok V x) -> qIF dd l = true -> 0 <= n -> n + qGv l <= 1000 ->
 PP 129 [d.v, p.v, sl.v, .int .i64 n] V (.tuple #[.int .i64 (qBK d (qAL d p) p.result n l).1, .int .i64 (qBK d (qAL d p) p.result n l).2])
theorem refStep (hd : Ds.Ok V d) {p : Pr} (hp : Pr.Ok V p) (h1 : d.globals.length <= 1000) (h2 : p.params.length <= 1000 /\ p.locals.length <= 1000) {l : List S} (hk : ∀ x ∈ l, RefS V d p x.ls /\ RefS V d p x.xs) : RefS V d p l := by
 intro sl n dd hr hok hokS hn0 hn1
 refine x129 ?_
 unfold w129
 generalize hsc : qAL d p = sc
 refine loop4s (mk := .int .i64) (mc := .int .i64) (md := .int .i64) 0 0 n qFo l.length (fun i at_ V1 => V = V1 /\ 0 <= at_ /\ at_ + qGv (l.drop i) <= 1000 /\ qBK d sc p.result n l = qBK d sc p.result at_ (l.drop i)) ⟨rfl, hn0, hn1, rfl⟩ ?_
 rintro i b c a V1 J hi ⟨rfl, ha0, ha1, he⟩ hJ
 refine ⟨fun hlt => ?_, fun hge => ?_⟩
 ·obtain ⟨x, hm, hx, hdr, hl, hpp, hz, hrow⟩ := hr.get hlt
  have hrow := S.row_get hrow
  have hox := hok x hm
  obtain ⟨hsh, hk1, hk2⟩ := okS_shape (qJu hokS x hm)
  rw [hdr, qGY, szS_eq] at ha1
  rw [hdr, qHa, stT_eq] at he
  have cs := c188 hd hp h1 h2 hox hsh
  rw [hsc, S.v_eq] at cs
  refine ⟨hpp, hz, hlt, _, _, _, _, _, hrow, cs.call ⟨_, rfl, fun h0 => ?_, fun h0 => ?_⟩⟩
  ·have e1 : ¬ (qEZ d sc p.result x.op x.s x.es ≠ 0) := fun h => h h0
   rw [if_neg e1] at he
   have r1 := (hk x hm).1 x.ll (a + 1) (dd + 1) hox.lRows hox.lOk hk1 (by omega) (by omega)
   rw [hsc] at r1
   refine ⟨hpp, hz, hlt, qAc hpp, _, _, _, _, _, hrow, ⟨by omega, by omega⟩, r1.call ⟨_, _, rfl, fun h3 => ?_, fun h3 => ?_⟩⟩
   ·have e2 : ¬ ((qBK d sc p.result (a + 1) x.ls).2 ≠ 0) := fun h => h h3
    rw [if_neg e2] at he
    have hn := qGZ d sc p.result (a + 1) x.ls h3
    have r2 := (hk x hm).2 x.xl (qBK d sc p.result (a + 1) x.ls).1 (dd + 1) hox.xRows hox.xOk hk2 (by omega) (by omega)
    rw [hsc] at r2
    refine ⟨hpp, hz, hlt, qAc hpp, _, _, _, _, _, hrow, r2.call ⟨_, _, rfl, fun h4 => ?_, fun h4 => ?_⟩⟩
    ·rw [if_neg (fun h => h h4)] at he
     have hn2 := qGZ d sc p.result _ x.xs h4
     exact ⟨hr.succ hlt, hJ hl _ _ _ _ ⟨rfl, by omega, by omega, he⟩⟩
    ·rw [if_pos h4] at he
     rw [he]; exact ⟨rfl, rfl⟩
   ·have e2 : (qBK d sc p.result (a + 1) x.ls).2 ≠ 0 := h3
    rw [if_pos e2, if_pos e2] at he
    rw [he]; exact ⟨rfl, rfl⟩
  ·have e1 : qEZ d sc p.result x.op x.s x.es ≠ 0 := h0
   rw [if_pos e1, if_pos e1] at he
   rw [he]; exact ⟨rfl, rfl⟩
 ·rw [(hr.done hge).1, stsT_nil] at he
  rw [he]; exact ⟨rfl, rfl⟩
theorem refStmts (hd : Ds.Ok V d) {p : Pr} (hp : Pr.Ok V p) (h1 : d.globals.length <= 1000) (h2 : p.params.length <= 1000 /\ p.locals.length <= 1000) (l : List S) : RefS V d p l := by
 have hS : ∀ s : S, RefS V d p s.ls /\ RefS V d p s.xs := by
  intro s
  induction s using S.ind with
  | h s i1 i2 => exact ⟨refStep hd hp h1 h2 i1, refStep hd hp h1 h2 i2⟩
 exact refStep hd hp h1 h2 fun x _ => hS x
theorem c185 (hd : Ds.Ok V d) {l : Sl} {xs : List Fld} (hl : qAd V l 2 (xs.map Fld.row)) {i : Nat} {f : Fld} (hf : xs[i]? = some f) : PP 185 [d.v, l.v, .int .i64 i] V (.int .i64 (qFP d xs i f)) := by
 refine x185 ?_
 unfold w185
 have hn := hl.n_eq
 have hil := (List.getElem?_eq_some_iff.1 hf).1
 have hlt : (i : Int) < (l.n : Int) := by omega
 obtain ⟨f', hm, hx, hdr, -, hpp, hz, hrow⟩ := hl.get hlt
 rw [hf] at hx
 cases hx
 refine qAA i (fun k V1 => V = V1 /\ ∀ j g, j < k -> xs[j]? = some g -> ¬ (g.name = f.name)) ⟨rfl, fun _ _ h => absurd h (Nat.not_lt_zero _)⟩ ?_
 rintro k b V1 J hi ⟨rfl, ha⟩ hJ
 refine ⟨fun hk => ?_, fun hk => ?_⟩
 ·obtain ⟨g, hmg, hxg, hdg, hlg, hpg, hzg, hrowg⟩ := hl.get (i := k) (by omega)
  refine ⟨hpg, hzg, by omega, qAc hpg, _, _, hrowg, hpp, hz, hlt, qAc hpp, _, _, hrow, fun he => ?_, fun he => ⟨hl.succ (by omega), hJ (by omega) _ _ ⟨rfl, fun j y hj hy => ?_⟩⟩⟩
  ·have : (xs.take i).any (fun g => decide (g.name = f.name)) = true := List.any_eq_true.2 ⟨g, by
    rw [List.mem_take_iff_getElem]
    exact ⟨k, by omega, (List.getElem?_eq_some_iff.1 hxg).2⟩, decide_eq_true he⟩
   unfold qFP
   rw [if_pos this]; exact ⟨rfl, rfl⟩
  ·rcases Nat.lt_succ_iff_lt_or_eq.1 hj with h' | rfl
   ·exact ha j y h' hy
   ·rw [hxg] at hy; cases hy; exact he
 ·have : ¬ (xs.take i).any (fun g => decide (g.name = f.name)) = true := fun h => by
   obtain ⟨g, hg, he⟩ := List.any_eq_true.1 h
   rw [List.mem_take_iff_getElem] at hg
   obtain ⟨j, hj, e⟩ := hg
   exact ha j g (by omega) (by rw [List.getElem?_eq_getElem (by omega), e]) (of_decide_eq_true he)
  unfold qFP
  rw [if_neg this]
  refine ⟨hpp, hz, hlt, qAc hpp, _, _, hrow, (c187 hd).call ⟨_, rfl, fun h => ?_, fun h => ?_⟩⟩
  ·rw [if_pos h]; exact ⟨rfl, rfl⟩
  ·rw [if_neg h]; exact ⟨rfl, rfl⟩
theorem c184 (hd : Ds.Ok V d) {l : Sl} {xs : List Fld} (hl : qAd V l 2 (xs.map Fld.row)) : PP 184 [d.v, l.v] V (.int .i64 (qCS d xs)) := by
 refine x184 ?_
 unfold w184 qCS
 generalize hf : (fun i f => if qFP d xs i f ≠ 0 then some (qFP d xs i f) else none) = fn
 refine qAA xs.length (fun k V1 => V = V1 /\ qAf fn 0 xs = qAf fn k (xs.drop k)) ⟨rfl, rfl⟩ ?_
 rintro k b V1 J hi ⟨rfl, ha⟩ hJ
 refine ⟨fun hk => ?_, fun hk => ?_⟩
 ·obtain ⟨g, hmg, hxg, hdg, hlg, hpg, hzg, hrowg⟩ := hl.get hk
  rw [hdg] at ha
  refine (c185 hd hl hxg).call ⟨_, rfl, fun h => ?_, fun h => ?_⟩
  ·rw [qAh (by rw [<- hf]; simp [h])] at ha
   exact ⟨hl.succ hk, hJ hlg _ _ ⟨rfl, ha⟩⟩
  ·rw [qAe (b := qFP d xs k g) (by rw [<- hf]; simp only [ne_eq, h, not_false_eq_true, if_true])] at ha
   rw [ha]; exact ⟨rfl, rfl⟩
 ·rw [(hl.done hk).1, qAf] at ha
  rw [ha]; exact ⟨rfl, rfl⟩
theorem c189 (hd : Ds.Ok V d) {sl : Sl} {sc : Sc} (hsl : qAd V sl 2 (sc.vars.map Fld.row)) {e : E} (he : E.Ok V e) (hok : okE 1 e = true) {t : ByteArray} : PP 189 [d.v, scV sl sc, e.v, .string t] V (.int .i64 (qBa d sc e t)) := by
 refine x189 ?_
 unfold w189 qBa
 refine (refExpr hd hsl e he 1 hok V (Mem.sub.refl _)).call ⟨_, _, rfl, fun h => ⟨fun h1 => ?_, fun h1 => ?_⟩, fun h => ?_⟩
 ·rw [if_neg (fun x => x h), if_pos h1]; exact ⟨rfl, rfl⟩
 ·rw [if_neg (fun x => x h), if_neg h1]; exact ⟨rfl, rfl⟩
 ·rw [if_pos h]; exact ⟨rfl, rfl⟩
def qCL (s : ByteArray) : Bool := decide (s = qAP) || decide (s = qAt)
end
theorem idx_lt {α : Type} {p : α -> Bool} {xs : List α} {i : Nat} {x : α} (hx : xs[i]? = some x) (hp : p x = true) : (qJC p xs < (i : Int) ↔ (xs.take i).any p = true) /\ 0 <= qJC p xs := by
 rcases qAI p xs with ⟨h1, h2, h3⟩ | ⟨j, y, h1, h2, h3, h4, h5, h6, h7, h8⟩
 ·exact absurd hp (List.any_eq_false.1 h3 x (List.mem_of_getElem? hx))
 ·rw [h1]
  refine ⟨⟨fun h => ?_, fun h => ?_⟩, by omega⟩
  ·exact List.any_eq_true.2 ⟨y, by
    rw [List.mem_take_iff_getElem]
    exact ⟨j, by omega, (List.getElem?_eq_some_iff.1 h2).2⟩, h5⟩
  ·obtain ⟨g, hg, he⟩ := List.any_eq_true.1 h
   rw [List.mem_take_iff_getElem] at hg
   obtain ⟨k, hk, e⟩ := hg
   rcases Nat.lt_or_ge j i with hh | hh
   ·omega
   ·exfalso
    have : g ∈ xs.take j := by
     rw [List.mem_take_iff_getElem]
     exact ⟨k, by omega, e⟩
    exact List.any_eq_false.1 h8 g this he
section
variable {V : Mem} {d : Ds}
def f2 (o : Option Flt) : Value := .tuple #[.string (fltR o).1, .int .i64 (fltR o).2.2]
theorem c126 (hd : Ds.Ok V d) : PP 126 [d.v] V (f2 (qGW d)) := by
 refine x126 ?_
 unfold w126 qGW
 have key : ∀ {X : Option Flt} (s : ByteArray) (n : Int), X = some (s, -1, n) -> (Ending.returned (.tuple #[.string s, .int .i64 n]) = Ending.returned (f2 X) /\ V = V) := fun s n h => by rw [h]; exact ⟨rfl, rfl⟩
 unfold types1
 generalize hf1 : (fun i (t : Ty) => if (d.types.take i).any (fun g => decide (g.name = t.name)) = true then some ((t.name, -1, 10) : Flt) else none) = F1
 refine qDA d.types.length (fun k V1 => V = V1 /\ qAf F1 0 d.types = qAf F1 k (d.types.drop k)) ⟨rfl, rfl⟩ ?_
 rintro k b c V1 J hi ⟨rfl, ha⟩ hJ
 refine ⟨fun hk => ?_, fun hk => ?_⟩
 ·obtain ⟨g, hm, hx, hdr, hl, hp, hz, hrow⟩ := hd.types.get hk
  have hlt := (idx_lt (p := fun t : Ty => decide (t.name = g.name)) hx (by simp)).1
  rw [hdr] at ha
  refine ⟨hp, hz, hk, qAc hp, _, _, hrow, (c132 hd).call ⟨_, rfl, fun h => ⟨hp, hz, hk, qAc hp, _, _, hrow, key _ _ ?_⟩, fun h => ⟨hd.types.succ hk, hJ hl _ _ _ ⟨rfl, ?_⟩⟩⟩⟩
  ·rw [ha, qAe (b := (g.name, -1, 10)) (by rw [<- hf1]; exact if_pos (hlt.1 h))]; rfl
  ·rw [ha, qAh (by rw [<- hf1]; exact if_neg fun e => h (hlt.2 e))]
 rw [(hd.types.done hk).1, qAf] at ha
 rw [ha, Option.none_or]
 unfold types2
 generalize hf2 : (fun (_ : Nat) (t : Ty) => if qCS d t.fields ≠ 0 then some ((t.name, -1, qCS d t.fields) : Flt) else none) = F2
 refine qDA d.types.length (fun k V1 => V = V1 /\ qAf F2 0 d.types = qAf F2 k (d.types.drop k)) ⟨rfl, rfl⟩ ?_
 rintro k b c V1 J hi ⟨rfl, ha⟩ hJ
 refine ⟨fun hk => ?_, fun hk => ?_⟩
 ·obtain ⟨g, hm, hx, hdr, hl, hp, hz, hrow⟩ := hd.types.get hk
  rw [hdr] at ha
  refine ⟨hp, hz, hk, qAc hp, _, _, hrow, (c184 hd (hd.typesOk g hm).fields).call ⟨_, rfl, fun h => ⟨hd.types.succ hk, hJ hl _ _ _ ⟨rfl, ?_⟩⟩, fun h => ⟨hp, hz, hk, qAc hp, _, _, hrow, key _ _ ?_⟩⟩⟩
  ·rw [ha, qAh (by rw [<- hf2]; exact if_neg fun e => e h)]
  ·rw [ha, qAe (b := (g.name, -1, qCS d g.fields)) (by rw [<- hf2]; exact if_pos h)]; rfl
 rw [(hd.types.done hk).1, qAf] at ha
 rw [ha, Option.none_or]
 unfold types3
 generalize hf3 : (fun i (f : Fld) => if qFP d d.globals i f ≠ 0 then some ((f.name, -1, qFP d d.globals i f) : Flt) else none) = F3
 refine qDA d.globals.length (fun k V1 => V = V1 /\ qAf F3 0 d.globals = qAf F3 k (d.globals.drop k)) ⟨rfl, rfl⟩ ?_
 rintro k b c V1 J hi ⟨rfl, ha⟩ hJ
 refine ⟨fun hk => ?_, fun hk => ?_⟩
 ·obtain ⟨g, hm, hx, hdr, hl, hp, hz, hrow⟩ := hd.globals.get hk
  rw [hdr] at ha
  refine (c185 hd hd.globals hx).call ⟨_, rfl, fun h => ⟨hd.globals.succ hk, hJ hl _ _ _ ⟨rfl, ?_⟩⟩, fun h => ⟨hp, hz, hk, qAc hp, _, _, hrow, key _ _ ?_⟩⟩
  ·rw [ha, qAh (by rw [<- hf3]; exact if_neg fun e => e h)]
  ·rw [ha, qAe (b := (g.name, -1, qFP d d.globals k g)) (by rw [<- hf3]; exact if_pos h)]
 rw [(hd.globals.done hk).1, qAf] at ha
 rw [ha]
 exact ⟨rfl, rfl⟩
theorem c127 (hd : Ds.Ok V d) (hsm : Small d) : PP 127 [d.v] V (f2 (qGo d)) := by
 refine Pur.mk (x127 ?_)
 unfold w127 qGo
 generalize hf1 : (fun i (p : Pr) => if (d.procs.take i).any (fun g => decide (g.name = p.name)) = true then some ((p.name, -1, 10) : Flt) else if qCS d (p.params ++ p.locals) ≠ 0 then some (p.name, -1, qCS d (p.params ++ p.locals)) else if p.result ≠ sE /\ known d p.result = false then some (p.name, -1, 9) else none) = F1
 refine qDA d.procs.length (fun k V1 => V.sub V1 /\ qAf F1 0 d.procs = qAf F1 k (d.procs.drop k)) ⟨Mem.sub.refl _, rfl⟩ ?_
 rintro k b c V1 J hi ⟨hV, ha⟩ hJ
 have hd1 := hd.sub hV
 have key : ∀ {X : Option Flt} (V2 : Mem) (s : ByteArray) (n : Int), V.sub V2 -> X = some (s, -1, n) -> (Ending.returned (.tuple #[.string s, .int .i64 n]) = Ending.returned (f2 X) /\ V.sub V2) := fun V2 s n h2 h => by rw [h]; exact ⟨rfl, h2⟩
 refine ⟨fun hk => ?_, fun hk => ?_⟩
 ·obtain ⟨g, hm, hx, hdr, hl, hp, hz, hrow⟩ := hd1.procs.get hk
  have hlt := (idx_lt (p := fun t : Pr => decide (t.name = g.name)) hx (by simp)).1
  have hg := hd1.procsOk g hm
  have hs := hsm.2 g hm
  rw [hdr] at ha
  refine ⟨hp, hz, hk, _, _, _, _, _, hrow, (c186 hd1).call ⟨_, rfl, fun h => key _ _ _ hV ?_, fun h => ?_⟩⟩
  ·rw [ha, qAe (b := (g.name, -1, 10)) (by rw [<- hf1]; exact if_pos (hlt.1 h))]
  intro b1 hb1
  have hs1 := Mem.sub_new hb1 (.cells #[] 110 (0, 0))
  refine qHV (s := ⟨some ⟨b1, 0, none⟩, 0, 0⟩) (u := g.ps) (xs := []) (ys := g.params) rfl rfl (Own.empty hs1 _ _ _) (hg.params.sub hs1) (by simp; omega) fun s1 W1 o1 => ⟨s1, rfl, ?_⟩
  refine qHV (s := s1) (u := g.ls) (xs := g.params) (ys := g.locals) rfl rfl o1 (hg.locals.sub o1.sub) (by omega) fun s2 W2 o2 => ⟨s2, rfl, ?_⟩
  have hd2 := hd1.sub o2.sub
  have hV2 := hV.trans o2.sub
  have n1 : ¬ (d.procs.take k).any (fun t => decide (t.name = g.name)) = true := fun e => h (hlt.2 e)
  refine (c184 hd2 (ownF o2)).call ⟨_, rfl, fun h2 => ?_, fun h2 => key _ _ _ hV2 ?_⟩
  ·have n2 : ¬ (qCS d (g.params ++ g.locals) ≠ 0) := fun e => e h2
   refine ⟨fun h3 => ⟨hd1.procs.succ hk, hJ hl _ _ _ ⟨hV2, ?_⟩⟩, fun h3 => (c187 hd2).call ⟨_, rfl, fun h4 => ⟨hd1.procs.succ hk, hJ hl _ _ _ ⟨hV2, ?_⟩⟩, fun h4 => key _ _ _ hV2 ?_⟩⟩
   ·rw [ha, qAh (by rw [<- hf1]; exact (if_neg n1).trans ((if_neg n2).trans (if_neg fun e => e.1 h3)))]
   ·rw [ha, qAh (by rw [<- hf1]; exact (if_neg n1).trans ((if_neg n2).trans (if_neg fun e => by rw [h4] at e; exact absurd e.2 (by simp))))]
   ·rw [ha, qAe (b := (g.name, -1, 9)) (by rw [<- hf1]; exact (if_neg n1).trans ((if_neg n2).trans (if_pos ⟨h3, eq_false_of_ne_true h4⟩)))]
  ·rw [ha, qAe (b := (g.name, -1, qCS d (g.params ++ g.locals))) (by rw [<- hf1]; exact (if_neg n1).trans (if_pos h2))]
 ·rw [(hd1.procs.done hk).1, qAf] at ha
  rw [ha]
  exact ⟨rfl, hV⟩
end
theorem qFx {α : Type} {p : α -> Bool} {xs : List α} {i k : Nat} {g : α} (hx : xs[k]? = some g) (hk : k < i) (hp : p g = true) : (xs.take i).any p = true :=
 List.any_eq_true.2 ⟨g, by rw [List.mem_take_iff_getElem]; have hl := (List.getElem?_eq_some_iff.1 hx).1; exact ⟨k, by omega, (List.getElem?_eq_some_iff.1 hx).2⟩, hp⟩
theorem qFy {α : Type} {p : α -> Bool} {xs : List α} {i : Nat} (h : ∀ j g, j < i -> xs[j]? = some g -> ¬ p g = true) : ¬ (xs.take i).any p = true := fun hh => by
 obtain ⟨g, hg, he⟩ := List.any_eq_true.1 hh
 rw [List.mem_take_iff_getElem] at hg
 obtain ⟨j, hj, e⟩ := hg
 exact h j g (by omega) (by rw [List.getElem?_eq_getElem (by omega), e]) he
section
variable {V : Mem} {d : Ds}
theorem c128 (hd : Ds.Ok V d) : PP 128 [d.v] V (f2 (qEf d)) := by
 refine x128 ?_
 unfold w128 qEf
 have key : ∀ {X : Option Flt} (s : ByteArray) (n : Int), X = some (s, -1, n) -> (Ending.returned (.tuple #[.string s, .int .i64 n]) = Ending.returned (f2 X) /\ V = V) := fun s n h => by rw [h]; exact ⟨rfl, rfl⟩
 unfold form1
 generalize hf1 : (fun i (m : Ms) => if (d.measures.take i).any (fun g => decide (g.name = m.name)) = true then some ((m.name, -1, 10) : Flt) else if qAN d m.ty = false then some (m.name, -1, 9) else none) = F1
 refine qDA d.measures.length (fun k V1 => V = V1 /\ qAf F1 0 d.measures = qAf F1 k (d.measures.drop k)) ⟨rfl, rfl⟩ ?_
 rintro k b c V1 J hi ⟨rfl, ha⟩ hJ
 refine ⟨fun hk => ?_, fun hk => ?_⟩
 ·obtain ⟨g, hm, hx, hdr, hl, hp, hz, hrow⟩ := hd.measures.get hk
  have hlt := (idx_lt (p := fun t : Ms => decide (t.name = g.name)) hx (by simp)).1
  rw [hdr] at ha
  have hq := qAc (n := k * 7) hp
  refine ⟨hp, hz, hk, hq, _, _, _, _, _, _, _, hrow, (c151 hd).call ⟨_, rfl, fun h => ⟨hp, hz, hk, hq, _, _, _, _, _, _, _, hrow, key _ _ ?_⟩, fun h => ⟨hp, hz, hk, hq, _, _, _, _, _, _, _, hrow, (c101 hd).call ⟨_, rfl, fun h2 => ⟨hd.measures.succ hk, hJ hl _ _ _ ⟨rfl, ?_⟩⟩, fun h2 => ⟨hp, hz, hk, hq, _, _, _, _, _, _, _, hrow, key _ _ ?_⟩⟩⟩⟩⟩
  ·rw [ha, qAe (b := (g.name, -1, 10)) (by rw [<- hf1]; exact if_pos (hlt.1 h))]; rfl
  ·rw [ha, qAh (by rw [<- hf1]; exact (if_neg fun e => h (hlt.2 e)).trans (if_neg (by rw [h2]; simp)))]
  ·rw [ha, qAe (b := (g.name, -1, 9)) (by rw [<- hf1]; exact (if_neg fun e => h (hlt.2 e)).trans (if_pos (eq_false_of_ne_true h2)))]; rfl
 rw [(hd.measures.done hk).1, qAf] at ha
 rw [ha, Option.none_or]
 unfold form2
 generalize hf2 : (fun i (m : Iv) => if (d.invs.take i).any (fun g => decide (g.name = m.name)) = true then some ((m.name, -1, 10) : Flt) else if m.ty ≠ sE /\ qAN d m.ty = false then some (m.name, -1, 9) else none) = F2
 refine qDA d.invs.length (fun k V1 => V = V1 /\ qAf F2 0 d.invs = qAf F2 k (d.invs.drop k)) ⟨rfl, rfl⟩ ?_
 rintro k b c V1 J hi ⟨rfl, ha⟩ hJ
 refine ⟨fun hk => ?_, fun hk => ?_⟩
 ·obtain ⟨g, hm, hx, hdr, hl, hp, hz, hrow⟩ := hd.invs.get hk
  rw [hdr] at ha
  have hq := qAc (n := k * 6) hp
  refine qDA k (fun j V1 => V = V1 /\ ∀ j' g', j' < j -> d.invs[j']? = some g' -> ¬ decide (g'.name = g.name) = true) ⟨rfl, fun _ _ h => absurd h (Nat.not_lt_zero _)⟩ ?_
  rintro j b c V1 J1 hi ⟨rfl, hb⟩ hJ1
  refine ⟨fun hj => ?_, fun hj => ?_⟩
  ·obtain ⟨g', hm', hx', hdr', hl', hp', hz', hrow'⟩ := hd.invs.get (i := j) (by omega)
   refine ⟨hp', hz', by omega, qAc hp', _, _, _, _, _, _, hrow', hp, hz, hk, hq, _, _, _, _, _, _, hrow, fun he => ⟨hp, hz, hk, hq, _, _, _, _, _, _, hrow, key _ _ ?_⟩, fun he => ⟨hd.invs.succ (by omega), hJ1 (by omega) _ _ _ ⟨rfl, fun j' y hj' hy => ?_⟩⟩⟩
   ·rw [ha, qAe (b := (g.name, -1, 10)) (by rw [<- hf2]; exact if_pos (qFx hx' (by omega) (decide_eq_true he)))]; rfl
   ·rcases Nat.lt_succ_iff_lt_or_eq.1 hj' with h' | rfl
    ·exact hb j' y h' hy
    ·rw [hx'] at hy; cases hy; exact fun e => he (of_decide_eq_true e)
  ·have n1 := qFy (i := k) (fun j' g' h' => hb j' g' (by omega))
   refine ⟨hp, hz, hk, hq, _, _, _, _, _, _, hrow, fun h3 => ⟨hd.invs.succ hk, hJ hl _ _ _ ⟨rfl, ?_⟩⟩, fun h3 => ⟨hp, hz, hk, hq, _, _, _, _, _, _, hrow, (c101 hd).call ⟨_, rfl, fun h2 => ⟨hd.invs.succ hk, hJ hl _ _ _ ⟨rfl, ?_⟩⟩, fun h2 => ⟨hp, hz, hk, hq, _, _, _, _, _, _, hrow, key _ _ ?_⟩⟩⟩⟩
   ·rw [ha, qAh (by rw [<- hf2]; exact (if_neg n1).trans (if_neg fun e => e.1 h3))]
   ·rw [ha, qAh (by rw [<- hf2]; exact (if_neg n1).trans (if_neg fun e => by rw [h2] at e; exact absurd e.2 (by simp)))]
   ·rw [ha, qAe (b := (g.name, -1, 9)) (by rw [<- hf2]; exact (if_neg n1).trans (if_pos ⟨h3, eq_false_of_ne_true h2⟩))]; rfl
 rw [(hd.invs.done hk).1, qAf] at ha
 rw [ha, Option.none_or]
 unfold form3
 generalize hf3 : (fun (_ : Nat) (m : Po) => if m.ty ≠ sE /\ qAN d m.ty = false then some ((sPot, -1, 9) : Flt) else none) = F3
 refine qDA d.pots.length (fun k V1 => V = V1 /\ qAf F3 0 d.pots = qAf F3 k (d.pots.drop k)) ⟨rfl, rfl⟩ ?_
 rintro k b c V1 J hi ⟨rfl, ha⟩ hJ
 refine ⟨fun hk => ?_, fun hk => ?_⟩
 ·obtain ⟨g, hm, hx, hdr, hl, hp, hz, hrow⟩ := hd.pots.get hk
  rw [hdr] at ha
  have hq := qAc (n := k * 5) hp
  refine ⟨hp, hz, hk, hq, _, _, _, _, _, hrow, fun h3 => ⟨hd.pots.succ hk, hJ hl _ _ _ ⟨rfl, ?_⟩⟩, fun h3 => ⟨hp, hz, hk, hq, _, _, _, _, _, hrow, (c101 hd).call ⟨_, rfl, fun h2 => ⟨hd.pots.succ hk, hJ hl _ _ _ ⟨rfl, ?_⟩⟩, fun h2 => key _ _ ?_⟩⟩⟩
  ·rw [ha, qAh (by rw [<- hf3]; exact if_neg fun e => e.1 h3)]
  ·rw [ha, qAh (by rw [<- hf3]; exact if_neg fun e => by rw [h2] at e; exact absurd e.2 (by simp))]
  ·rw [ha, qAe (b := (sPot, -1, 9)) (by rw [<- hf3]; exact if_pos ⟨h3, eq_false_of_ne_true h2⟩)]; rfl
 rw [(hd.pots.done hk).1, qAf] at ha
 rw [ha, Option.none_or]
 unfold form4
 generalize hf4 : (fun i (b : Bd) => if (qFd d b.proc).isNone = true then some ((b.proc, -1, 9) : Flt) else if (d.bounds.take i).any (fun g => decide (g.proc = b.proc)) = true then some (b.proc, -1, 10) else none) = F4
 refine qDA d.bounds.length (fun k V1 => V = V1 /\ qAf F4 0 d.bounds = qAf F4 k (d.bounds.drop k)) ⟨rfl, rfl⟩ ?_
 rintro k b c V1 J hi ⟨rfl, ha⟩ hJ
 refine ⟨fun hk => ?_, fun hk => ?_⟩
 ·obtain ⟨g, hm, hx, hdr, hl, hp, hz, hrow⟩ := hd.bounds.get hk
  rw [hdr] at ha
  have hq := qAc (n := k * 5) hp
  refine ⟨hp, hz, hk, hq, _, _, _, _, _, hrow, (c186 hd).call ⟨_, rfl, ?_⟩⟩
  rcases qAI (fun t : Pr => decide (t.name = g.proc)) d.procs with ⟨i1, i2, i3⟩ | ⟨i, x, i1, i2, i3, i4, i5, i6, i7, _⟩
  ·rw [i1]
   refine ⟨fun _ => ⟨hp, hz, hk, hq, _, _, _, _, _, hrow, key _ _ ?_⟩, fun h => absurd h (by decide)⟩
   rw [ha, qAe (b := (g.proc, -1, 9)) (by rw [<- hf4]; exact if_pos (by unfold qFd; rw [i2]; rfl))]
  ·rw [i1]
   have n0 : ¬ (qFd d g.proc).isNone = true := by unfold qFd; rw [i3]; simp
   refine ⟨fun h => absurd h (by omega), fun _ => ?_⟩
   refine qDA k (fun j V1 => V = V1 /\ ∀ j' g', j' < j -> d.bounds[j']? = some g' -> ¬ decide (g'.proc = g.proc) = true) ⟨rfl, fun _ _ h => absurd h (Nat.not_lt_zero _)⟩ ?_
   rintro j b c V1 J1 hi ⟨rfl, hb⟩ hJ1
   refine ⟨fun hj => ?_, fun hj => ?_⟩
   ·obtain ⟨g', hm', hx', hdr', hl', hp', hz', hrow'⟩ := hd.bounds.get (i := j) (by omega)
    refine ⟨hp', hz', by omega, qAc hp', _, _, _, _, _, hrow', hp, hz, hk, hq, _, _, _, _, _, hrow, fun he => ⟨hp, hz, hk, hq, _, _, _, _, _, hrow, key _ _ ?_⟩, fun he => ⟨hd.bounds.succ (by omega), hJ1 (by omega) _ _ _ ⟨rfl, fun j' y hj' hy => ?_⟩⟩⟩
    ·rw [ha, qAe (b := (g.proc, -1, 10)) (by rw [<- hf4]; exact (if_neg n0).trans (if_pos (qFx hx' (by omega) (decide_eq_true he))))]
    ·rcases Nat.lt_succ_iff_lt_or_eq.1 hj' with h' | rfl
     ·exact hb j' y h' hy
     ·rw [hx'] at hy; cases hy; exact fun e => he (of_decide_eq_true e)
   ·have n1 := qFy (i := k) (fun j' g' h' => hb j' g' (by omega))
    exact ⟨hd.bounds.succ hk, hJ hl _ _ _ ⟨rfl, by rw [ha, qAh (by rw [<- hf4]; exact (if_neg n0).trans (if_neg n1))]⟩⟩
 rw [(hd.bounds.done hk).1, qAf] at ha
 rw [ha]
 exact ⟨rfl, rfl⟩
end
end Go.Proofs
