/- Part 11 of a proof of a law of this seat: no statement of the seat is proved here. -/
import Derived.Test.YtjnmeimbcljkjaaGreatDoorPart06
import Derived.Test.YtjnmeimbcljkjaaGreatDoorPart07
import Derived.Test.YtjnmeimbcljkjaaGreatDoorPart08
import Derived.Test.YtjnmeimbcljkjaaGreatDoorPart09
import Derived.Test.YtjnmeimbcljkjaaGreatDoorPart10
import Derived.Shelf.Strings.Fields
import Derived.Test.YtjnmeimbcljkjaaGreatDoorProg
import Derived.Sort.Walk0
import Derived.RangeFuncRecord
set_option linter.unusedVariables false
set_option linter.unusedSimpArgs false
namespace Go.Proofs
open Go Go.Sx
abbrev PP (f : FuncId) (args : List Value) (V : Mem) (v : Value) : Prop := Pur Tryz.prog f args V v
def isLetter (c : Int) : Bool := decide (97 ≤ c ∧ c ≤ 122 ∨ 65 ≤ c ∧ c ≤ 90)
def isDigit (c : Int) : Bool := decide (48 ≤ c ∧ c ≤ 57)
def isWord (c : Int) : Bool := isLetter c || isDigit c || decide (c = 95)
theorem c99 {V : Mem} {c : Int} : PP 99 [.int .u8 c] V (.bool (isLetter c)) := by
  refine x99 ?_
  unfold w99 isLetter
  grind
theorem c149 {V : Mem} {c : Int} : PP 149 [.int .u8 c] V (.bool (isDigit c)) := by
  refine x149 ?_
  unfold w149 isDigit
  grind
theorem c100 {V : Mem} {c : Int} : PP 100 [.int .u8 c] V (.bool (isWord c)) := by
  refine x100 ?_
  unfold w100 isWord
  refine c99.call ⟨_, rfl, fun h => ?_, fun h => ?_⟩
  · simp [h]
  · refine c149.call ⟨_, rfl, fun h => ?_, fun h => ?_⟩ <;> simp_all
/-- The classes of bytes. -/
def cls (c : Int) : Int := if c = 32 ∨ c = 9 ∨ c = 13 ∨ c = 10 then 1 else if isLetter c then 2 else if isDigit c then 3 else if c = 95 then 4 else 0
theorem c119 {V : Mem} {c : Int} : PP 119 [.int .u8 c] V (.int .i64 (cls c)) := by
  refine x119 ?_
  unfold w119
  have key : ∀ n : Int, cls c = n → (Ending.returned (.int .i64 n) = Ending.returned (.int .i64 (cls c)) ∧ V = V) := fun n h => by rw [h]; exact ⟨rfl, rfl⟩
  unfold cls isLetter isDigit at key
  repeat' (first | intro _ | apply And.intro)
  all_goals first | rfl | (refine (key _ ?_).1; grind)
theorem cls_two (c : Int) : cls c = 2 ↔ isLetter c = true := by
  unfold cls isLetter isDigit; grind
theorem cls_word (c : Int) : cls c < 2 ↔ isWord c = false := by
  unfold isWord cls isLetter isDigit; grind
def kwList : List ByteArray := [[116, 121, 112, 101], [118, 97, 114], [112, 114, 111, 99], [108, 111, 99, 97, 108], [109, 101, 97, 115, 117, 114, 101], [105, 110, 118, 97, 114, 105, 97, 110, 116], [112, 111, 116, 101, 110, 116, 105, 97, 108], [98, 111, 117, 110, 100], [105, 102], [101, 108, 115, 101], [119, 104, 105, 108, 101], [114, 101, 116, 117, 114, 110], [110, 101, 119], [110, 105, 108], [116, 114, 117, 101], [102, 97, 108, 115, 101], [97, 110, 100], [111, 114], [110, 111, 116], [109, 97, 120], [109, 105, 110], [108, 111, 103], [105, 110, 116], [98, 111, 111, 108], [116, 104, 105, 115], [115, 111, 114, 116], [111, 112], [114, 117, 108, 101], [115, 112, 101, 99], [100, 101, 115, 99], [115, 99, 114, 105, 112, 116]].map strB
def hasS (xs : List ByteArray) (s : ByteArray) : Bool := xs.any fun x => decide (x = s)
def isKw (s : ByteArray) : Bool := hasS kwList s
def isName (s : ByteArray) : Bool := decide (s.size ≠ 0 ∧ s.size ≤ 40 ∧ isLetter (sbyte s 0) = true ∧ (∀ i : Nat, i < s.size → isWord (sbyte s i) = true)) && !isKw s
theorem strRow (s : ByteArray) : ([Value.string s]).length = 1 := rfl
theorem c150 {V : Mem} {l : Sl} {xs : List ByteArray} {s : ByteArray} (h : RowsAt V l 1 (xs.map fun x => [vS x])) : PP 150 [l.v, .string s] V (.bool (hasS xs s)) := by
  refine x150 ?_
  unfold w150
  refine loop2 xs.length (fun i V1 => V1 = V ∧ ∀ j : Nat, j < i → xs[j]? ≠ some s) ⟨rfl, by simp⟩ ?_
  rintro i b _ J hi ⟨rfl, hj⟩ hJ
  refine ⟨fun hlt => ?_, fun hge => ?_⟩
  · obtain ⟨x, hm, hx, hd, hl, hp, h0, hrow⟩ := h.get hlt
    refine ⟨hp, h0, hlt, _, hrow, fun e => ?_, fun e => ⟨h.succ hlt, hJ hl _ _ ⟨rfl, fun j hj' => ?_⟩⟩⟩
    · have : hasS xs s = true := List.any_eq_true.2 ⟨x, hm, decide_eq_true e⟩
      rw [this]; exact ⟨rfl, rfl⟩
    · rcases Nat.lt_succ_iff_lt_or_eq.1 hj' with h' | rfl
      · exact hj j h'
      · rw [hx]; simpa using e
  · have hn := (h.done hge).2
    have : s ∉ xs := fun hm => by
      obtain ⟨j, hjl, e⟩ := List.mem_iff_getElem.1 hm
      exact hj j (by omega) (by rw [List.getElem?_eq_getElem hjl, e])
    have : hasS xs s = false := by
      rw [hasS, List.any_eq_false]
      intro x hx e
      exact this (of_decide_eq_true e ▸ hx)
    rw [this]; exact ⟨rfl, rfl⟩
theorem c101 {V : Mem} {s : ByteArray} : PP 101 [.string s] V (.bool (isKw s)) := by
  refine Pur.mk (x101 ?_)
  unfold w101
  refine x151 ?_
  unfold w151
  intro b hb
  refine ⟨⟨some ⟨b, 0, none⟩, 31, 31⟩, rfl, ?_⟩
  have hrows : ∀ V0 : Mem, RowsAt (V0.set b (.cells ((kwList.map Value.string).toArray) 9 (0, 0))) ⟨some ⟨b, 0, none⟩, 31, 31⟩ 1 (kwList.map fun x => [vS x]) :=
    fun V0 => RowsAt.cells (xs := kwList) (row := fun x => [vS x]) (Mem.set_same _ _ _) rfl (fun _ => rfl) rfl (Nat.le_of_ble_eq_true rfl)
  refine (c150 (hrows _)).call ⟨_, rfl, rfl, Mem.sub_new hb _⟩
theorem c52 {V : Mem} {s : ByteArray} : PP 52 [.string s] V (.bool (isName s)) := by
  refine x52 ?_
  unfold w52
  refine ⟨fun h => ?_, fun h => ⟨fun h1 => ?_, fun h1 => ⟨by omega, c99.call ⟨_, rfl, fun h2 => ?_, fun h2 => ?_⟩⟩⟩⟩
  · have : s.size = 0 := by omega
    simp [isName, this]
  · have : ¬ s.size ≤ 40 := by omega
    simp [isName, this]
  · refine loop2 s.size (fun i V1 => V1 = V ∧ ∀ j : Nat, j < i → isWord (sbyte s j) = true) ⟨rfl, by simp⟩ ?_
    rintro i b _ J hi ⟨rfl, hj⟩ hJ
    refine ⟨fun hlt => ⟨by omega, c100.call ⟨_, rfl, fun hw => ⟨⟨by omega, by omega⟩, hJ (by omega) _ _ ⟨rfl, fun j hj' => ?_⟩⟩, fun hw => ?_⟩⟩, fun hge => ?_⟩
    · rcases Nat.lt_succ_iff_lt_or_eq.1 hj' with h' | rfl
      · exact hj j h'
      · exact hw
    · have : ¬ ∀ i : Nat, i < s.size → isWord (sbyte s i) = true := fun hf => hw (hf i (by omega))
      simp [isName, this]
    · refine c101.call ⟨_, rfl, ?_⟩
      have a1 : s.size ≠ 0 := by omega
      have a2 : s.size ≤ 40 := by omega
      have a3 : ∀ i : Nat, i < s.size → isWord (sbyte s i) = true := fun j hj' => hj j (by omega)
      have : isName s = !isKw s := by unfold isName; rw [decide_eq_true ⟨a1, a2, h2, a3⟩]; simp
      rw [this]
      exact ⟨rfl, rfl⟩
  · have : isLetter (sbyte s 0) = false := by simpa using h2
    simp [isName, this]
end Go.Proofs
namespace Go.Proofs
open Go Go.Sx
attribute [local irreducible] Go.Sx.Tri
def strRow1 (s : ByteArray) : List Value := [vS s]
def strV (s : ByteArray) : Value := vS s
theorem g75 {V : Mem} {l : Sl} {xs : List Fld} {g : Nat} {first caps : List Value} (hg : CallOk g) (St Hit : Nat → Mem → Prop) (hrows : ∀ i V1, St i V1 → RowsAt V1 l 2 (xs.map Fld.row)) (h0 : St 0 V)
    (hp : ∀ i x V1, xs[i]? = some x → St i V1 → Tri Tryz.prog g (first.toArray ++ #[Fld.v x] ++ caps.toArray) V1 fun e V2 => ∃ b : Bool, e = .returned (.bool b) ∧ (b = true → Hit i V2) ∧ (b = false → St (i + 1) V2)) :
    Tri Tryz.prog 75 #[l.v, .func (.func g) first.toArray caps.toArray] V fun e V' => (∃ i : Nat, e = .returned (.int .i64 i) ∧ Hit i V') ∨ (e = .returned (.int .i64 (-1)) ∧ St xs.length V') := by
  refine x75 (v0 := l) (v1 := .func (.func g) first.toArray caps.toArray) ?_
  unfold w75
  refine loop2 xs.length St h0 ?_
  intro i b V1 J hi hs hJ
  have h := hrows i V1 hs
  refine ⟨fun hlt => ?_, fun hge => ?_⟩
  · obtain ⟨x, hm, hx, hd, hl, hp0, hz, hrow⟩ := h.get hlt
    refine ⟨hp0, hz, hlt, _, _, hrow, g, _, _, rfl, hg, Tri.mono (hp i x V1 hx hs) ?_⟩
    rintro e V2 ⟨b, rfl, h1, h2⟩
    exact ⟨b, rfl, fun hb => .inl ⟨i, rfl, h1 hb⟩, fun hb => ⟨h.succ hlt, hJ hl _ _ (h2 (by simpa using hb))⟩⟩
  · have := (h.done hge).2
    have e : i = xs.length := by omega
    subst e
    exact .inr ⟨rfl, hs⟩
theorem g26 {V : Mem} {l : Sl} {xs : List Fld} {g : Nat} {first caps : List Value} (hg : CallOk g) (St Hit : Nat → Mem → Prop) (hrows : ∀ i V1, St i V1 → RowsAt V1 l 2 (xs.map Fld.row)) (h0 : St 0 V)
    (hp : ∀ i x V1, xs[i]? = some x → St i V1 → Tri Tryz.prog g (first.toArray ++ #[Fld.v x] ++ caps.toArray) V1 fun e V2 => ∃ b : Bool, e = .returned (.bool b) ∧ (b = true → Hit i V2) ∧ (b = false → St (i + 1) V2)) :
    Tri Tryz.prog 26 #[l.v, .func (.func g) first.toArray caps.toArray] V fun e V' => (∃ i : Nat, e = .returned (.bool true) ∧ Hit i V') ∨ (e = .returned (.bool false) ∧ St xs.length V') := by
  refine x26 (v0 := l) (v1 := .func (.func g) first.toArray caps.toArray) ?_
  unfold w26
  refine Tri.mono (g75 hg St Hit hrows h0 hp) ?_
  rintro e V' (⟨i, rfl, h⟩ | ⟨rfl, h⟩)
  · refine ⟨_, rfl, .inl ⟨i, ?_, h⟩⟩
    have : (0 : Int) ≤ (i : Int) := by omega
    simp [this]
  · exact ⟨_, rfl, .inr ⟨rfl, h⟩⟩
theorem c26 {V : Mem} {l : Sl} {xs : List Fld} {g : Nat} {first caps : List Value} (h : RowsAt V l 2 (xs.map Fld.row)) (hg : CallOk g) (p : Fld → Bool) (hp : ∀ x ∈ xs, PP g (first ++ [Fld.v x] ++ caps) V (.bool (p x))) :
    PP 26 [l.v, .func (.func g) first.toArray caps.toArray] V (.bool (xs.any p)) := by
  refine Tri.mono (g26 hg (fun i V1 => V1 = V ∧ ∀ j x, j < i → xs[j]? = some x → p x = false) (fun i V1 => V1 = V ∧ ∃ x ∈ xs, p x = true) (fun i V1 hs => hs.1 ▸ h) ⟨rfl, fun j x hj => absurd hj (Nat.not_lt_zero _)⟩ ?_) ?_
  · rintro i x _ hx ⟨rfl, hs⟩
    have hm : x ∈ xs := List.mem_of_getElem? hx
    have := (hp x hm).callv (q := fun e V2 => ∃ b : Bool, e = .returned (.bool b) ∧ (b = true → V2 = _ ∧ ∃ x ∈ xs, p x = true) ∧ (b = false → V2 = _ ∧ ∀ j x, j < i + 1 → xs[j]? = some x → p x = false)) ⟨_, rfl, fun hb => ⟨rfl, x, hm, hb⟩, fun hb => ⟨rfl, fun j y hj hy => by
      rcases Nat.lt_succ_iff_lt_or_eq.1 hj with h' | rfl
      · exact hs j y h' hy
      · rw [hx] at hy; cases hy; exact hb⟩⟩
    exact this
  · rintro e V' (⟨i, rfl, rfl, x, hm, hx⟩ | ⟨rfl, rfl, hs⟩)
    · rw [List.any_eq_true.2 ⟨x, hm, hx⟩]; exact ⟨rfl, rfl⟩
    · have : xs.any p = false := List.any_eq_false.2 fun x hm hx => by
        obtain ⟨j, hj, rfl⟩ := List.mem_iff_getElem.1 hm
        rw [hs j _ hj (List.getElem?_eq_getElem hj)] at hx; cases hx
      rw [this]; exact ⟨rfl, rfl⟩
theorem g76 {V : Mem} {l : Sl} {xs : List Iv} {g : Nat} {first caps : List Value} (hg : CallOk g) (St Hit : Nat → Mem → Prop) (hrows : ∀ i V1, St i V1 → RowsAt V1 l 6 (xs.map Iv.row)) (h0 : St 0 V)
    (hp : ∀ i x V1, xs[i]? = some x → St i V1 → Tri Tryz.prog g (first.toArray ++ #[Iv.v x] ++ caps.toArray) V1 fun e V2 => ∃ b : Bool, e = .returned (.bool b) ∧ (b = true → Hit i V2) ∧ (b = false → St (i + 1) V2)) :
    Tri Tryz.prog 76 #[l.v, .func (.func g) first.toArray caps.toArray] V fun e V' => (∃ i : Nat, e = .returned (.int .i64 i) ∧ Hit i V') ∨ (e = .returned (.int .i64 (-1)) ∧ St xs.length V') := by
  refine x76 (v0 := l) (v1 := .func (.func g) first.toArray caps.toArray) ?_
  unfold w76
  refine loop2 xs.length St h0 ?_
  intro i b V1 J hi hs hJ
  have h := hrows i V1 hs
  refine ⟨fun hlt => ?_, fun hge => ?_⟩
  · obtain ⟨x, hm, hx, hd, hl, hp0, hz, hrow⟩ := h.get hlt
    refine ⟨hp0, hz, hlt, _, _, _, _, _, _, hrow, g, _, _, rfl, hg, Tri.mono (hp i x V1 hx hs) ?_⟩
    rintro e V2 ⟨b, rfl, h1, h2⟩
    exact ⟨b, rfl, fun hb => .inl ⟨i, rfl, h1 hb⟩, fun hb => ⟨h.succ hlt, hJ hl _ _ (h2 (by simpa using hb))⟩⟩
  · have := (h.done hge).2
    have e : i = xs.length := by omega
    subst e
    exact .inr ⟨rfl, hs⟩
theorem g28 {V : Mem} {l : Sl} {xs : List Iv} {g : Nat} {first caps : List Value} (hg : CallOk g) (St Hit : Nat → Mem → Prop) (hrows : ∀ i V1, St i V1 → RowsAt V1 l 6 (xs.map Iv.row)) (h0 : St 0 V)
    (hp : ∀ i x V1, xs[i]? = some x → St i V1 → Tri Tryz.prog g (first.toArray ++ #[Iv.v x] ++ caps.toArray) V1 fun e V2 => ∃ b : Bool, e = .returned (.bool b) ∧ (b = true → Hit i V2) ∧ (b = false → St (i + 1) V2)) :
    Tri Tryz.prog 28 #[l.v, .func (.func g) first.toArray caps.toArray] V fun e V' => (∃ i : Nat, e = .returned (.bool true) ∧ Hit i V') ∨ (e = .returned (.bool false) ∧ St xs.length V') := by
  refine x28 (v0 := l) (v1 := .func (.func g) first.toArray caps.toArray) ?_
  unfold w28
  refine Tri.mono (g76 hg St Hit hrows h0 hp) ?_
  rintro e V' (⟨i, rfl, h⟩ | ⟨rfl, h⟩)
  · refine ⟨_, rfl, .inl ⟨i, ?_, h⟩⟩
    have : (0 : Int) ≤ (i : Int) := by omega
    simp [this]
  · exact ⟨_, rfl, .inr ⟨rfl, h⟩⟩
theorem c28 {V : Mem} {l : Sl} {xs : List Iv} {g : Nat} {first caps : List Value} (h : RowsAt V l 6 (xs.map Iv.row)) (hg : CallOk g) (p : Iv → Bool) (hp : ∀ x ∈ xs, PP g (first ++ [Iv.v x] ++ caps) V (.bool (p x))) :
    PP 28 [l.v, .func (.func g) first.toArray caps.toArray] V (.bool (xs.any p)) := by
  refine Tri.mono (g28 hg (fun i V1 => V1 = V ∧ ∀ j x, j < i → xs[j]? = some x → p x = false) (fun i V1 => V1 = V ∧ ∃ x ∈ xs, p x = true) (fun i V1 hs => hs.1 ▸ h) ⟨rfl, fun j x hj => absurd hj (Nat.not_lt_zero _)⟩ ?_) ?_
  · rintro i x _ hx ⟨rfl, hs⟩
    have hm : x ∈ xs := List.mem_of_getElem? hx
    have := (hp x hm).callv (q := fun e V2 => ∃ b : Bool, e = .returned (.bool b) ∧ (b = true → V2 = _ ∧ ∃ x ∈ xs, p x = true) ∧ (b = false → V2 = _ ∧ ∀ j x, j < i + 1 → xs[j]? = some x → p x = false)) ⟨_, rfl, fun hb => ⟨rfl, x, hm, hb⟩, fun hb => ⟨rfl, fun j y hj hy => by
      rcases Nat.lt_succ_iff_lt_or_eq.1 hj with h' | rfl
      · exact hs j y h' hy
      · rw [hx] at hy; cases hy; exact hb⟩⟩
    exact this
  · rintro e V' (⟨i, rfl, rfl, x, hm, hx⟩ | ⟨rfl, rfl, hs⟩)
    · rw [List.any_eq_true.2 ⟨x, hm, hx⟩]; exact ⟨rfl, rfl⟩
    · have : xs.any p = false := List.any_eq_false.2 fun x hm hx => by
        obtain ⟨j, hj, rfl⟩ := List.mem_iff_getElem.1 hm
        rw [hs j _ hj (List.getElem?_eq_getElem hj)] at hx; cases hx
      rw [this]; exact ⟨rfl, rfl⟩
theorem g126 {V : Mem} {l : Sl} {xs : List Ty} {g : Nat} {first caps : List Value} (hg : CallOk g) (St Hit : Nat → Mem → Prop) (hrows : ∀ i V1, St i V1 → RowsAt V1 l 2 (xs.map Ty.row)) (h0 : St 0 V)
    (hp : ∀ i x V1, xs[i]? = some x → St i V1 → Tri Tryz.prog g (first.toArray ++ #[Ty.v x] ++ caps.toArray) V1 fun e V2 => ∃ b : Bool, e = .returned (.bool b) ∧ (b = true → Hit i V2) ∧ (b = false → St (i + 1) V2)) :
    Tri Tryz.prog 126 #[l.v, .func (.func g) first.toArray caps.toArray] V fun e V' => (∃ i : Nat, e = .returned (.int .i64 i) ∧ Hit i V') ∨ (e = .returned (.int .i64 (-1)) ∧ St xs.length V') := by
  refine x126 (v0 := l) (v1 := .func (.func g) first.toArray caps.toArray) ?_
  unfold w126
  refine loop2 xs.length St h0 ?_
  intro i b V1 J hi hs hJ
  have h := hrows i V1 hs
  refine ⟨fun hlt => ?_, fun hge => ?_⟩
  · obtain ⟨x, hm, hx, hd, hl, hp0, hz, hrow⟩ := h.get hlt
    refine ⟨hp0, hz, hlt, _, _, hrow, g, _, _, rfl, hg, Tri.mono (hp i x V1 hx hs) ?_⟩
    rintro e V2 ⟨b, rfl, h1, h2⟩
    exact ⟨b, rfl, fun hb => .inl ⟨i, rfl, h1 hb⟩, fun hb => ⟨h.succ hlt, hJ hl _ _ (h2 (by simpa using hb))⟩⟩
  · have := (h.done hge).2
    have e : i = xs.length := by omega
    subst e
    exact .inr ⟨rfl, hs⟩
theorem g87 {V : Mem} {l : Sl} {xs : List Ty} {g : Nat} {first caps : List Value} (hg : CallOk g) (St Hit : Nat → Mem → Prop) (hrows : ∀ i V1, St i V1 → RowsAt V1 l 2 (xs.map Ty.row)) (h0 : St 0 V)
    (hp : ∀ i x V1, xs[i]? = some x → St i V1 → Tri Tryz.prog g (first.toArray ++ #[Ty.v x] ++ caps.toArray) V1 fun e V2 => ∃ b : Bool, e = .returned (.bool b) ∧ (b = true → Hit i V2) ∧ (b = false → St (i + 1) V2)) :
    Tri Tryz.prog 87 #[l.v, .func (.func g) first.toArray caps.toArray] V fun e V' => (∃ i : Nat, e = .returned (.bool true) ∧ Hit i V') ∨ (e = .returned (.bool false) ∧ St xs.length V') := by
  refine x87 (v0 := l) (v1 := .func (.func g) first.toArray caps.toArray) ?_
  unfold w87
  refine Tri.mono (g126 hg St Hit hrows h0 hp) ?_
  rintro e V' (⟨i, rfl, h⟩ | ⟨rfl, h⟩)
  · refine ⟨_, rfl, .inl ⟨i, ?_, h⟩⟩
    have : (0 : Int) ≤ (i : Int) := by omega
    simp [this]
  · exact ⟨_, rfl, .inr ⟨rfl, h⟩⟩
theorem c87 {V : Mem} {l : Sl} {xs : List Ty} {g : Nat} {first caps : List Value} (h : RowsAt V l 2 (xs.map Ty.row)) (hg : CallOk g) (p : Ty → Bool) (hp : ∀ x ∈ xs, PP g (first ++ [Ty.v x] ++ caps) V (.bool (p x))) :
    PP 87 [l.v, .func (.func g) first.toArray caps.toArray] V (.bool (xs.any p)) := by
  refine Tri.mono (g87 hg (fun i V1 => V1 = V ∧ ∀ j x, j < i → xs[j]? = some x → p x = false) (fun i V1 => V1 = V ∧ ∃ x ∈ xs, p x = true) (fun i V1 hs => hs.1 ▸ h) ⟨rfl, fun j x hj => absurd hj (Nat.not_lt_zero _)⟩ ?_) ?_
  · rintro i x _ hx ⟨rfl, hs⟩
    have hm : x ∈ xs := List.mem_of_getElem? hx
    have := (hp x hm).callv (q := fun e V2 => ∃ b : Bool, e = .returned (.bool b) ∧ (b = true → V2 = _ ∧ ∃ x ∈ xs, p x = true) ∧ (b = false → V2 = _ ∧ ∀ j x, j < i + 1 → xs[j]? = some x → p x = false)) ⟨_, rfl, fun hb => ⟨rfl, x, hm, hb⟩, fun hb => ⟨rfl, fun j y hj hy => by
      rcases Nat.lt_succ_iff_lt_or_eq.1 hj with h' | rfl
      · exact hs j y h' hy
      · rw [hx] at hy; cases hy; exact hb⟩⟩
    exact this
  · rintro e V' (⟨i, rfl, rfl, x, hm, hx⟩ | ⟨rfl, rfl, hs⟩)
    · rw [List.any_eq_true.2 ⟨x, hm, hx⟩]; exact ⟨rfl, rfl⟩
    · have : xs.any p = false := List.any_eq_false.2 fun x hm hx => by
        obtain ⟨j, hj, rfl⟩ := List.mem_iff_getElem.1 hm
        rw [hs j _ hj (List.getElem?_eq_getElem hj)] at hx; cases hx
      rw [this]; exact ⟨rfl, rfl⟩
theorem g127 {V : Mem} {l : Sl} {xs : List Pr} {g : Nat} {first caps : List Value} (hg : CallOk g) (St Hit : Nat → Mem → Prop) (hrows : ∀ i V1, St i V1 → RowsAt V1 l 5 (xs.map Pr.row)) (h0 : St 0 V)
    (hp : ∀ i x V1, xs[i]? = some x → St i V1 → Tri Tryz.prog g (first.toArray ++ #[Pr.v x] ++ caps.toArray) V1 fun e V2 => ∃ b : Bool, e = .returned (.bool b) ∧ (b = true → Hit i V2) ∧ (b = false → St (i + 1) V2)) :
    Tri Tryz.prog 127 #[l.v, .func (.func g) first.toArray caps.toArray] V fun e V' => (∃ i : Nat, e = .returned (.int .i64 i) ∧ Hit i V') ∨ (e = .returned (.int .i64 (-1)) ∧ St xs.length V') := by
  refine x127 (v0 := l) (v1 := .func (.func g) first.toArray caps.toArray) ?_
  unfold w127
  refine loop2 xs.length St h0 ?_
  intro i b V1 J hi hs hJ
  have h := hrows i V1 hs
  refine ⟨fun hlt => ?_, fun hge => ?_⟩
  · obtain ⟨x, hm, hx, hd, hl, hp0, hz, hrow⟩ := h.get hlt
    refine ⟨hp0, hz, hlt, _, _, _, _, _, hrow, g, _, _, rfl, hg, Tri.mono (hp i x V1 hx hs) ?_⟩
    rintro e V2 ⟨b, rfl, h1, h2⟩
    exact ⟨b, rfl, fun hb => .inl ⟨i, rfl, h1 hb⟩, fun hb => ⟨h.succ hlt, hJ hl _ _ (h2 (by simpa using hb))⟩⟩
  · have := (h.done hge).2
    have e : i = xs.length := by omega
    subst e
    exact .inr ⟨rfl, hs⟩
theorem g89 {V : Mem} {l : Sl} {xs : List Pr} {g : Nat} {first caps : List Value} (hg : CallOk g) (St Hit : Nat → Mem → Prop) (hrows : ∀ i V1, St i V1 → RowsAt V1 l 5 (xs.map Pr.row)) (h0 : St 0 V)
    (hp : ∀ i x V1, xs[i]? = some x → St i V1 → Tri Tryz.prog g (first.toArray ++ #[Pr.v x] ++ caps.toArray) V1 fun e V2 => ∃ b : Bool, e = .returned (.bool b) ∧ (b = true → Hit i V2) ∧ (b = false → St (i + 1) V2)) :
    Tri Tryz.prog 89 #[l.v, .func (.func g) first.toArray caps.toArray] V fun e V' => (∃ i : Nat, e = .returned (.bool true) ∧ Hit i V') ∨ (e = .returned (.bool false) ∧ St xs.length V') := by
  refine x89 (v0 := l) (v1 := .func (.func g) first.toArray caps.toArray) ?_
  unfold w89
  refine Tri.mono (g127 hg St Hit hrows h0 hp) ?_
  rintro e V' (⟨i, rfl, h⟩ | ⟨rfl, h⟩)
  · refine ⟨_, rfl, .inl ⟨i, ?_, h⟩⟩
    have : (0 : Int) ≤ (i : Int) := by omega
    simp [this]
  · exact ⟨_, rfl, .inr ⟨rfl, h⟩⟩
theorem c89 {V : Mem} {l : Sl} {xs : List Pr} {g : Nat} {first caps : List Value} (h : RowsAt V l 5 (xs.map Pr.row)) (hg : CallOk g) (p : Pr → Bool) (hp : ∀ x ∈ xs, PP g (first ++ [Pr.v x] ++ caps) V (.bool (p x))) :
    PP 89 [l.v, .func (.func g) first.toArray caps.toArray] V (.bool (xs.any p)) := by
  refine Tri.mono (g89 hg (fun i V1 => V1 = V ∧ ∀ j x, j < i → xs[j]? = some x → p x = false) (fun i V1 => V1 = V ∧ ∃ x ∈ xs, p x = true) (fun i V1 hs => hs.1 ▸ h) ⟨rfl, fun j x hj => absurd hj (Nat.not_lt_zero _)⟩ ?_) ?_
  · rintro i x _ hx ⟨rfl, hs⟩
    have hm : x ∈ xs := List.mem_of_getElem? hx
    have := (hp x hm).callv (q := fun e V2 => ∃ b : Bool, e = .returned (.bool b) ∧ (b = true → V2 = _ ∧ ∃ x ∈ xs, p x = true) ∧ (b = false → V2 = _ ∧ ∀ j x, j < i + 1 → xs[j]? = some x → p x = false)) ⟨_, rfl, fun hb => ⟨rfl, x, hm, hb⟩, fun hb => ⟨rfl, fun j y hj hy => by
      rcases Nat.lt_succ_iff_lt_or_eq.1 hj with h' | rfl
      · exact hs j y h' hy
      · rw [hx] at hy; cases hy; exact hb⟩⟩
    exact this
  · rintro e V' (⟨i, rfl, rfl, x, hm, hx⟩ | ⟨rfl, rfl, hs⟩)
    · rw [List.any_eq_true.2 ⟨x, hm, hx⟩]; exact ⟨rfl, rfl⟩
    · have : xs.any p = false := List.any_eq_false.2 fun x hm hx => by
        obtain ⟨j, hj, rfl⟩ := List.mem_iff_getElem.1 hm
        rw [hs j _ hj (List.getElem?_eq_getElem hj)] at hx; cases hx
      rw [this]; exact ⟨rfl, rfl⟩
theorem g169 {V : Mem} {l : Sl} {xs : List Bd} {g : Nat} {first caps : List Value} (hg : CallOk g) (St Hit : Nat → Mem → Prop) (hrows : ∀ i V1, St i V1 → RowsAt V1 l 5 (xs.map Bd.row)) (h0 : St 0 V)
    (hp : ∀ i x V1, xs[i]? = some x → St i V1 → Tri Tryz.prog g (first.toArray ++ #[Bd.v x] ++ caps.toArray) V1 fun e V2 => ∃ b : Bool, e = .returned (.bool b) ∧ (b = true → Hit i V2) ∧ (b = false → St (i + 1) V2)) :
    Tri Tryz.prog 169 #[l.v, .func (.func g) first.toArray caps.toArray] V fun e V' => (∃ i : Nat, e = .returned (.int .i64 i) ∧ Hit i V') ∨ (e = .returned (.int .i64 (-1)) ∧ St xs.length V') := by
  refine x169 (v0 := l) (v1 := .func (.func g) first.toArray caps.toArray) ?_
  unfold w169
  refine loop2 xs.length St h0 ?_
  intro i b V1 J hi hs hJ
  have h := hrows i V1 hs
  refine ⟨fun hlt => ?_, fun hge => ?_⟩
  · obtain ⟨x, hm, hx, hd, hl, hp0, hz, hrow⟩ := h.get hlt
    refine ⟨hp0, hz, hlt, _, _, _, _, _, hrow, g, _, _, rfl, hg, Tri.mono (hp i x V1 hx hs) ?_⟩
    rintro e V2 ⟨b, rfl, h1, h2⟩
    exact ⟨b, rfl, fun hb => .inl ⟨i, rfl, h1 hb⟩, fun hb => ⟨h.succ hlt, hJ hl _ _ (h2 (by simpa using hb))⟩⟩
  · have := (h.done hge).2
    have e : i = xs.length := by omega
    subst e
    exact .inr ⟨rfl, hs⟩
theorem g124 {V : Mem} {l : Sl} {xs : List Bd} {g : Nat} {first caps : List Value} (hg : CallOk g) (St Hit : Nat → Mem → Prop) (hrows : ∀ i V1, St i V1 → RowsAt V1 l 5 (xs.map Bd.row)) (h0 : St 0 V)
    (hp : ∀ i x V1, xs[i]? = some x → St i V1 → Tri Tryz.prog g (first.toArray ++ #[Bd.v x] ++ caps.toArray) V1 fun e V2 => ∃ b : Bool, e = .returned (.bool b) ∧ (b = true → Hit i V2) ∧ (b = false → St (i + 1) V2)) :
    Tri Tryz.prog 124 #[l.v, .func (.func g) first.toArray caps.toArray] V fun e V' => (∃ i : Nat, e = .returned (.bool true) ∧ Hit i V') ∨ (e = .returned (.bool false) ∧ St xs.length V') := by
  refine x124 (v0 := l) (v1 := .func (.func g) first.toArray caps.toArray) ?_
  unfold w124
  refine Tri.mono (g169 hg St Hit hrows h0 hp) ?_
  rintro e V' (⟨i, rfl, h⟩ | ⟨rfl, h⟩)
  · refine ⟨_, rfl, .inl ⟨i, ?_, h⟩⟩
    have : (0 : Int) ≤ (i : Int) := by omega
    simp [this]
  · exact ⟨_, rfl, .inr ⟨rfl, h⟩⟩
theorem c124 {V : Mem} {l : Sl} {xs : List Bd} {g : Nat} {first caps : List Value} (h : RowsAt V l 5 (xs.map Bd.row)) (hg : CallOk g) (p : Bd → Bool) (hp : ∀ x ∈ xs, PP g (first ++ [Bd.v x] ++ caps) V (.bool (p x))) :
    PP 124 [l.v, .func (.func g) first.toArray caps.toArray] V (.bool (xs.any p)) := by
  refine Tri.mono (g124 hg (fun i V1 => V1 = V ∧ ∀ j x, j < i → xs[j]? = some x → p x = false) (fun i V1 => V1 = V ∧ ∃ x ∈ xs, p x = true) (fun i V1 hs => hs.1 ▸ h) ⟨rfl, fun j x hj => absurd hj (Nat.not_lt_zero _)⟩ ?_) ?_
  · rintro i x _ hx ⟨rfl, hs⟩
    have hm : x ∈ xs := List.mem_of_getElem? hx
    have := (hp x hm).callv (q := fun e V2 => ∃ b : Bool, e = .returned (.bool b) ∧ (b = true → V2 = _ ∧ ∃ x ∈ xs, p x = true) ∧ (b = false → V2 = _ ∧ ∀ j x, j < i + 1 → xs[j]? = some x → p x = false)) ⟨_, rfl, fun hb => ⟨rfl, x, hm, hb⟩, fun hb => ⟨rfl, fun j y hj hy => by
      rcases Nat.lt_succ_iff_lt_or_eq.1 hj with h' | rfl
      · exact hs j y h' hy
      · rw [hx] at hy; cases hy; exact hb⟩⟩
    exact this
  · rintro e V' (⟨i, rfl, rfl, x, hm, hx⟩ | ⟨rfl, rfl, hs⟩)
    · rw [List.any_eq_true.2 ⟨x, hm, hx⟩]; exact ⟨rfl, rfl⟩
    · have : xs.any p = false := List.any_eq_false.2 fun x hm hx => by
        obtain ⟨j, hj, rfl⟩ := List.mem_iff_getElem.1 hm
        rw [hs j _ hj (List.getElem?_eq_getElem hj)] at hx; cases hx
      rw [this]; exact ⟨rfl, rfl⟩
theorem g183 {V : Mem} {l : Sl} {xs : List E} {g : Nat} {first caps : List Value} (hg : CallOk g) (St Hit : Nat → Mem → Prop) (hrows : ∀ i V1, St i V1 → RowsAt V1 l 4 (xs.map E.row)) (h0 : St 0 V)
    (hp : ∀ i x V1, xs[i]? = some x → St i V1 → Tri Tryz.prog g (first.toArray ++ #[E.v x] ++ caps.toArray) V1 fun e V2 => ∃ b : Bool, e = .returned (.bool b) ∧ (b = true → Hit i V2) ∧ (b = false → St (i + 1) V2)) :
    Tri Tryz.prog 183 #[l.v, .func (.func g) first.toArray caps.toArray] V fun e V' => (∃ i : Nat, e = .returned (.int .i64 i) ∧ Hit i V') ∨ (e = .returned (.int .i64 (-1)) ∧ St xs.length V') := by
  refine x183 (v0 := l) (v1 := .func (.func g) first.toArray caps.toArray) ?_
  unfold w183
  refine loop2 xs.length St h0 ?_
  intro i b V1 J hi hs hJ
  have h := hrows i V1 hs
  refine ⟨fun hlt => ?_, fun hge => ?_⟩
  · obtain ⟨x, hm, hx, hd, hl, hp0, hz, hrow⟩ := h.get hlt
    refine ⟨hp0, hz, hlt, _, _, _, _, hrow, g, _, _, rfl, hg, Tri.mono (hp i x V1 hx hs) ?_⟩
    rintro e V2 ⟨b, rfl, h1, h2⟩
    exact ⟨b, rfl, fun hb => .inl ⟨i, rfl, h1 hb⟩, fun hb => ⟨h.succ hlt, hJ hl _ _ (h2 (by simpa using hb))⟩⟩
  · have := (h.done hge).2
    have e : i = xs.length := by omega
    subst e
    exact .inr ⟨rfl, hs⟩
theorem g156 {V : Mem} {l : Sl} {xs : List E} {g : Nat} {first caps : List Value} (hg : CallOk g) (St Hit : Nat → Mem → Prop) (hrows : ∀ i V1, St i V1 → RowsAt V1 l 4 (xs.map E.row)) (h0 : St 0 V)
    (hp : ∀ i x V1, xs[i]? = some x → St i V1 → Tri Tryz.prog g (first.toArray ++ #[E.v x] ++ caps.toArray) V1 fun e V2 => ∃ b : Bool, e = .returned (.bool b) ∧ (b = true → Hit i V2) ∧ (b = false → St (i + 1) V2)) :
    Tri Tryz.prog 156 #[l.v, .func (.func g) first.toArray caps.toArray] V fun e V' => (∃ i : Nat, e = .returned (.bool true) ∧ Hit i V') ∨ (e = .returned (.bool false) ∧ St xs.length V') := by
  refine x156 (v0 := l) (v1 := .func (.func g) first.toArray caps.toArray) ?_
  unfold w156
  refine Tri.mono (g183 hg St Hit hrows h0 hp) ?_
  rintro e V' (⟨i, rfl, h⟩ | ⟨rfl, h⟩)
  · refine ⟨_, rfl, .inl ⟨i, ?_, h⟩⟩
    have : (0 : Int) ≤ (i : Int) := by omega
    simp [this]
  · exact ⟨_, rfl, .inr ⟨rfl, h⟩⟩
theorem c156 {V : Mem} {l : Sl} {xs : List E} {g : Nat} {first caps : List Value} (h : RowsAt V l 4 (xs.map E.row)) (hg : CallOk g) (p : E → Bool) (hp : ∀ x ∈ xs, PP g (first ++ [E.v x] ++ caps) V (.bool (p x))) :
    PP 156 [l.v, .func (.func g) first.toArray caps.toArray] V (.bool (xs.any p)) := by
  refine Tri.mono (g156 hg (fun i V1 => V1 = V ∧ ∀ j x, j < i → xs[j]? = some x → p x = false) (fun i V1 => V1 = V ∧ ∃ x ∈ xs, p x = true) (fun i V1 hs => hs.1 ▸ h) ⟨rfl, fun j x hj => absurd hj (Nat.not_lt_zero _)⟩ ?_) ?_
  · rintro i x _ hx ⟨rfl, hs⟩
    have hm : x ∈ xs := List.mem_of_getElem? hx
    have := (hp x hm).callv (q := fun e V2 => ∃ b : Bool, e = .returned (.bool b) ∧ (b = true → V2 = _ ∧ ∃ x ∈ xs, p x = true) ∧ (b = false → V2 = _ ∧ ∀ j x, j < i + 1 → xs[j]? = some x → p x = false)) ⟨_, rfl, fun hb => ⟨rfl, x, hm, hb⟩, fun hb => ⟨rfl, fun j y hj hy => by
      rcases Nat.lt_succ_iff_lt_or_eq.1 hj with h' | rfl
      · exact hs j y h' hy
      · rw [hx] at hy; cases hy; exact hb⟩⟩
    exact this
  · rintro e V' (⟨i, rfl, rfl, x, hm, hx⟩ | ⟨rfl, rfl, hs⟩)
    · rw [List.any_eq_true.2 ⟨x, hm, hx⟩]; exact ⟨rfl, rfl⟩
    · have : xs.any p = false := List.any_eq_false.2 fun x hm hx => by
        obtain ⟨j, hj, rfl⟩ := List.mem_iff_getElem.1 hm
        rw [hs j _ hj (List.getElem?_eq_getElem hj)] at hx; cases hx
      rw [this]; exact ⟨rfl, rfl⟩
theorem g185 {V : Mem} {l : Sl} {xs : List Ms} {g : Nat} {first caps : List Value} (hg : CallOk g) (St Hit : Nat → Mem → Prop) (hrows : ∀ i V1, St i V1 → RowsAt V1 l 7 (xs.map Ms.row)) (h0 : St 0 V)
    (hp : ∀ i x V1, xs[i]? = some x → St i V1 → Tri Tryz.prog g (first.toArray ++ #[Ms.v x] ++ caps.toArray) V1 fun e V2 => ∃ b : Bool, e = .returned (.bool b) ∧ (b = true → Hit i V2) ∧ (b = false → St (i + 1) V2)) :
    Tri Tryz.prog 185 #[l.v, .func (.func g) first.toArray caps.toArray] V fun e V' => (∃ i : Nat, e = .returned (.int .i64 i) ∧ Hit i V') ∨ (e = .returned (.int .i64 (-1)) ∧ St xs.length V') := by
  refine x185 (v0 := l) (v1 := .func (.func g) first.toArray caps.toArray) ?_
  unfold w185
  refine loop2 xs.length St h0 ?_
  intro i b V1 J hi hs hJ
  have h := hrows i V1 hs
  refine ⟨fun hlt => ?_, fun hge => ?_⟩
  · obtain ⟨x, hm, hx, hd, hl, hp0, hz, hrow⟩ := h.get hlt
    refine ⟨hp0, hz, hlt, _, _, _, _, _, _, _, hrow, g, _, _, rfl, hg, Tri.mono (hp i x V1 hx hs) ?_⟩
    rintro e V2 ⟨b, rfl, h1, h2⟩
    exact ⟨b, rfl, fun hb => .inl ⟨i, rfl, h1 hb⟩, fun hb => ⟨h.succ hlt, hJ hl _ _ (h2 (by simpa using hb))⟩⟩
  · have := (h.done hge).2
    have e : i = xs.length := by omega
    subst e
    exact .inr ⟨rfl, hs⟩
theorem g177 {V : Mem} {l : Sl} {xs : List Ms} {g : Nat} {first caps : List Value} (hg : CallOk g) (St Hit : Nat → Mem → Prop) (hrows : ∀ i V1, St i V1 → RowsAt V1 l 7 (xs.map Ms.row)) (h0 : St 0 V)
    (hp : ∀ i x V1, xs[i]? = some x → St i V1 → Tri Tryz.prog g (first.toArray ++ #[Ms.v x] ++ caps.toArray) V1 fun e V2 => ∃ b : Bool, e = .returned (.bool b) ∧ (b = true → Hit i V2) ∧ (b = false → St (i + 1) V2)) :
    Tri Tryz.prog 177 #[l.v, .func (.func g) first.toArray caps.toArray] V fun e V' => (∃ i : Nat, e = .returned (.bool true) ∧ Hit i V') ∨ (e = .returned (.bool false) ∧ St xs.length V') := by
  refine x177 (v0 := l) (v1 := .func (.func g) first.toArray caps.toArray) ?_
  unfold w177
  refine Tri.mono (g185 hg St Hit hrows h0 hp) ?_
  rintro e V' (⟨i, rfl, h⟩ | ⟨rfl, h⟩)
  · refine ⟨_, rfl, .inl ⟨i, ?_, h⟩⟩
    have : (0 : Int) ≤ (i : Int) := by omega
    simp [this]
  · exact ⟨_, rfl, .inr ⟨rfl, h⟩⟩
theorem c177 {V : Mem} {l : Sl} {xs : List Ms} {g : Nat} {first caps : List Value} (h : RowsAt V l 7 (xs.map Ms.row)) (hg : CallOk g) (p : Ms → Bool) (hp : ∀ x ∈ xs, PP g (first ++ [Ms.v x] ++ caps) V (.bool (p x))) :
    PP 177 [l.v, .func (.func g) first.toArray caps.toArray] V (.bool (xs.any p)) := by
  refine Tri.mono (g177 hg (fun i V1 => V1 = V ∧ ∀ j x, j < i → xs[j]? = some x → p x = false) (fun i V1 => V1 = V ∧ ∃ x ∈ xs, p x = true) (fun i V1 hs => hs.1 ▸ h) ⟨rfl, fun j x hj => absurd hj (Nat.not_lt_zero _)⟩ ?_) ?_
  · rintro i x _ hx ⟨rfl, hs⟩
    have hm : x ∈ xs := List.mem_of_getElem? hx
    have := (hp x hm).callv (q := fun e V2 => ∃ b : Bool, e = .returned (.bool b) ∧ (b = true → V2 = _ ∧ ∃ x ∈ xs, p x = true) ∧ (b = false → V2 = _ ∧ ∀ j x, j < i + 1 → xs[j]? = some x → p x = false)) ⟨_, rfl, fun hb => ⟨rfl, x, hm, hb⟩, fun hb => ⟨rfl, fun j y hj hy => by
      rcases Nat.lt_succ_iff_lt_or_eq.1 hj with h' | rfl
      · exact hs j y h' hy
      · rw [hx] at hy; cases hy; exact hb⟩⟩
    exact this
  · rintro e V' (⟨i, rfl, rfl, x, hm, hx⟩ | ⟨rfl, rfl, hs⟩)
    · rw [List.any_eq_true.2 ⟨x, hm, hx⟩]; exact ⟨rfl, rfl⟩
    · have : xs.any p = false := List.any_eq_false.2 fun x hm hx => by
        obtain ⟨j, hj, rfl⟩ := List.mem_iff_getElem.1 hm
        rw [hs j _ hj (List.getElem?_eq_getElem hj)] at hx; cases hx
      rw [this]; exact ⟨rfl, rfl⟩
theorem g187 {V : Mem} {l : Sl} {xs : List ByteArray} {g : Nat} {first caps : List Value} (hg : CallOk g) (St Hit : Nat → Mem → Prop) (hrows : ∀ i V1, St i V1 → RowsAt V1 l 1 (xs.map strRow1)) (h0 : St 0 V)
    (hp : ∀ i x V1, xs[i]? = some x → St i V1 → Tri Tryz.prog g (first.toArray ++ #[strV x] ++ caps.toArray) V1 fun e V2 => ∃ b : Bool, e = .returned (.bool b) ∧ (b = true → Hit i V2) ∧ (b = false → St (i + 1) V2)) :
    Tri Tryz.prog 187 #[l.v, .func (.func g) first.toArray caps.toArray] V fun e V' => (∃ i : Nat, e = .returned (.int .i64 i) ∧ Hit i V') ∨ (e = .returned (.int .i64 (-1)) ∧ St xs.length V') := by
  refine x187 (v0 := l) (v1 := .func (.func g) first.toArray caps.toArray) ?_
  unfold w187
  refine loop2 xs.length St h0 ?_
  intro i b V1 J hi hs hJ
  have h := hrows i V1 hs
  refine ⟨fun hlt => ?_, fun hge => ?_⟩
  · obtain ⟨x, hm, hx, hd, hl, hp0, hz, hrow⟩ := h.get hlt
    refine ⟨hp0, hz, hlt, _, hrow, g, _, _, rfl, hg, Tri.mono (hp i x V1 hx hs) ?_⟩
    rintro e V2 ⟨b, rfl, h1, h2⟩
    exact ⟨b, rfl, fun hb => .inl ⟨i, rfl, h1 hb⟩, fun hb => ⟨h.succ hlt, hJ hl _ _ (h2 (by simpa using hb))⟩⟩
  · have := (h.done hge).2
    have e : i = xs.length := by omega
    subst e
    exact .inr ⟨rfl, hs⟩
theorem g162 {V : Mem} {l : Sl} {xs : List ByteArray} {g : Nat} {first caps : List Value} (hg : CallOk g) (St Hit : Nat → Mem → Prop) (hrows : ∀ i V1, St i V1 → RowsAt V1 l 1 (xs.map strRow1)) (h0 : St 0 V)
    (hp : ∀ i x V1, xs[i]? = some x → St i V1 → Tri Tryz.prog g (first.toArray ++ #[strV x] ++ caps.toArray) V1 fun e V2 => ∃ b : Bool, e = .returned (.bool b) ∧ (b = true → Hit i V2) ∧ (b = false → St (i + 1) V2)) :
    Tri Tryz.prog 162 #[l.v, .func (.func g) first.toArray caps.toArray] V fun e V' => (∃ i : Nat, e = .returned (.bool true) ∧ Hit i V') ∨ (e = .returned (.bool false) ∧ St xs.length V') := by
  refine x162 (v0 := l) (v1 := .func (.func g) first.toArray caps.toArray) ?_
  unfold w162
  refine Tri.mono (g187 hg St Hit hrows h0 hp) ?_
  rintro e V' (⟨i, rfl, h⟩ | ⟨rfl, h⟩)
  · refine ⟨_, rfl, .inl ⟨i, ?_, h⟩⟩
    have : (0 : Int) ≤ (i : Int) := by omega
    simp [this]
  · exact ⟨_, rfl, .inr ⟨rfl, h⟩⟩
theorem c162 {V : Mem} {l : Sl} {xs : List ByteArray} {g : Nat} {first caps : List Value} (h : RowsAt V l 1 (xs.map strRow1)) (hg : CallOk g) (p : ByteArray → Bool) (hp : ∀ x ∈ xs, PP g (first ++ [strV x] ++ caps) V (.bool (p x))) :
    PP 162 [l.v, .func (.func g) first.toArray caps.toArray] V (.bool (xs.any p)) := by
  refine Tri.mono (g162 hg (fun i V1 => V1 = V ∧ ∀ j x, j < i → xs[j]? = some x → p x = false) (fun i V1 => V1 = V ∧ ∃ x ∈ xs, p x = true) (fun i V1 hs => hs.1 ▸ h) ⟨rfl, fun j x hj => absurd hj (Nat.not_lt_zero _)⟩ ?_) ?_
  · rintro i x _ hx ⟨rfl, hs⟩
    have hm : x ∈ xs := List.mem_of_getElem? hx
    have := (hp x hm).callv (q := fun e V2 => ∃ b : Bool, e = .returned (.bool b) ∧ (b = true → V2 = _ ∧ ∃ x ∈ xs, p x = true) ∧ (b = false → V2 = _ ∧ ∀ j x, j < i + 1 → xs[j]? = some x → p x = false)) ⟨_, rfl, fun hb => ⟨rfl, x, hm, hb⟩, fun hb => ⟨rfl, fun j y hj hy => by
      rcases Nat.lt_succ_iff_lt_or_eq.1 hj with h' | rfl
      · exact hs j y h' hy
      · rw [hx] at hy; cases hy; exact hb⟩⟩
    exact this
  · rintro e V' (⟨i, rfl, rfl, x, hm, hx⟩ | ⟨rfl, rfl, hs⟩)
    · rw [List.any_eq_true.2 ⟨x, hm, hx⟩]; exact ⟨rfl, rfl⟩
    · have : xs.any p = false := List.any_eq_false.2 fun x hm hx => by
        obtain ⟨j, hj, rfl⟩ := List.mem_iff_getElem.1 hm
        rw [hs j _ hj (List.getElem?_eq_getElem hj)] at hx; cases hx
      rw [this]; exact ⟨rfl, rfl⟩
end Go.Proofs
namespace Go.Proofs
open Go.Shelf
def Tryz.lays157_ren : Go.Shelf.Ren := ⟨fun | 157 => 190 | 229 => 192 | 199 => 193 | 261 => 194 | 311 => 195 | 312 => 196 | n => n, fun | 9 => 9 | 31 => 85 | 3 => 3 | 5 => 5 | 4 => 4 | 119 => 214 | 0 => 0 | 40 => 216 | 152 => 217 | 21 => 21 | 154 => 219 | 51 => 220 | 141 => 222 | 196 => 226 | 193 => 223 | 198 => 229 | 49 => 227 | 194 => 224 | 201 => 232 | 226 => 234 | 46 => 212 | 227 => 235 | n => n, fun | 0 => 0 | 6 => 1 | n => n⟩
theorem Tryz.lays157 : Go.Proofs.Lays.n157 Tryz.prog Tryz.lays157_ren := {
  mixed := by kernel_rfl
  f157 := Tryz.func190.trans (congrArg some (by kernel_rfl))
  f199 := Tryz.func193.trans (congrArg some (by kernel_rfl))
  f229 := Tryz.func192.trans (congrArg some (by kernel_rfl))
  f261 := Tryz.func194.trans (congrArg some (by kernel_rfl))
  f311 := Tryz.func195.trans (congrArg some (by kernel_rfl))
  f312 := Tryz.func196.trans (congrArg some (by kernel_rfl))
  t0 := Tryz.underlying0
  a0 := Tryz.isAgg0
  z0 := Tryz.sizeOf0
  v0 := Tryz.zeroValue0
  t3 := Tryz.underlying3
  a3 := Tryz.isAgg3
  z3 := Tryz.sizeOf3
  v3 := Tryz.zeroValue3
  t4 := Tryz.underlying4
  a4 := Tryz.isAgg4
  z4 := Tryz.sizeOf4
  v4 := Tryz.zeroValue4
  t5 := Tryz.underlying5
  a5 := Tryz.isAgg5
  z5 := Tryz.sizeOf5
  v5 := Tryz.zeroValue5
  t9 := Tryz.underlying9
  a9 := Tryz.isAgg9
  z9 := Tryz.sizeOf9
  v9 := Tryz.zeroValue9
  t21 := Tryz.underlying21
  a21 := Tryz.isAgg21
  z21 := Tryz.sizeOf21
  v21 := Tryz.zeroValue21
  t31 := Tryz.underlying85
  a31 := Tryz.isAgg85
  z31 := Tryz.sizeOf85
  v31 := Tryz.zeroValue85
  t40 := Tryz.underlying216
  a40 := Tryz.isAgg216
  z40 := Tryz.sizeOf216
  v40 := Tryz.zeroValue216
  t46 := Tryz.underlying212
  a46 := Tryz.isAgg212
  z46 := Tryz.sizeOf212
  v46 := Tryz.zeroValue212
  t49 := Tryz.underlying227
  a49 := Tryz.isAgg227
  z49 := Tryz.sizeOf227
  v49 := Tryz.zeroValue227
  t51 := Tryz.underlying220
  a51 := Tryz.isAgg220
  z51 := Tryz.sizeOf220
  v51 := Tryz.zeroValue220
  t119 := Tryz.underlying214
  a119 := Tryz.isAgg214
  z119 := Tryz.sizeOf214
  t141 := Tryz.underlying222
  a141 := Tryz.isAgg222
  z141 := Tryz.sizeOf222
  v141 := Tryz.zeroValue222
  t152 := Tryz.underlying217
  a152 := Tryz.isAgg217
  z152 := Tryz.sizeOf217
  v152 := Tryz.zeroValue217
  t154 := Tryz.underlying219
  a154 := Tryz.isAgg219
  z154 := Tryz.sizeOf219
  v154 := Tryz.zeroValue219
  t193 := Tryz.underlying223
  a193 := Tryz.isAgg223
  z193 := Tryz.sizeOf223
  v193 := Tryz.zeroValue223
  t194 := Tryz.underlying224
  a194 := Tryz.isAgg224
  z194 := Tryz.sizeOf224
  v194 := Tryz.zeroValue224
  t196 := Tryz.underlying226
  a196 := Tryz.isAgg226
  z196 := Tryz.sizeOf226
  v196 := Tryz.zeroValue226
  t198 := Tryz.underlying229
  a198 := Tryz.isAgg229
  z198 := Tryz.sizeOf229
  v198 := Tryz.zeroValue229
  t201 := Tryz.underlying232
  a201 := Tryz.isAgg232
  z201 := Tryz.sizeOf232
  v201 := Tryz.zeroValue232
  t226 := Tryz.underlying234
  a226 := Tryz.isAgg234
  z226 := Tryz.sizeOf234
  v226 := Tryz.zeroValue234
  t227 := Tryz.underlying235
  a227 := Tryz.isAgg235
  z227 := Tryz.sizeOf235
  v227 := Tryz.zeroValue235
  g0 := by kernel_rfl
  g6 := by kernel_rfl }
open Go.RowKit Go.Lib in
/-- strings.Fields, the table by 'Lib.TabIs' (as strings.TrimSpace's contract). 'hg': the table's number, by its name: at a dump 'by kernel_rfl'. (LAID: no walk: one application.) -/
theorem Tryz.strings_Fields (s : ByteArray) (w : World) (hs : s.size < 4294967281) (hascii : ∀ (j : Nat) b, s.data.toList[j]? = some b → b.toNat < 128) (htab : Lib.TabIs Tryz.prog w "strings.asciiSpace" .u8 Lib.asciiSpaceTab) :
    Calls Tryz.prog 190 #[.string s] w fun e w' =>
      e = .returned (.slice (some ⟨w.heap.size, 0, none⟩) (Lib.fields s.data.toList).length (Lib.fields s.data.toList).length) ∧ w' = w.alloc (.cells ((Lib.fields s.data.toList).map fun l => Value.string ⟨l.toArray⟩).toArray 9) := Any.strings_Fields Tryz.lays157 (by kernel_rfl) (by kernel_rfl) s w hs hascii htab
end Go.Proofs
namespace Go.Proofs
open Go Go.Sx
attribute [local irreducible] Go.Sx.Tri
/-- The library's table of white space lies in memory. -/
class Tab (V : Mem) : Prop where
  at_ : ∃ t fr, V 0 = some (.cells (Lib.asciiSpaceTab.map fun z => Value.int .u8 z).toArray t fr)
theorem Tab.sub {V V' : Mem} (h : Tab V) (hs : V.sub V') : Tab V' := by
  obtain ⟨t, fr, h⟩ := h.at_
  exact ⟨t, fr, hs _ _ h⟩
theorem Tab.is {V : Mem} {w : World} (h : Tab V) (hV : V.le w) : Lib.TabIs Tryz.prog w "strings.asciiSpace" .u8 Lib.asciiSpaceTab := by
  obtain ⟨t, fr, h⟩ := h.at_
  have hg : Tryz.prog.globalNamed "strings.asciiSpace" = some 0 := by kernel_rfl
  unfold Lib.TabIs World.var?
  rw [hg, Option.bind_some, hV _ _ h]
theorem frm_new {V : Mem} {w : World} (hw : V.le w) (o : Obj) : V w.heap.size = none ∧ Frm V w (V.set w.heap.size o) (w.alloc o) := by
  have hn : V w.heap.size = none := by
    cases hc : V w.heap.size with
    | none => rfl
    | some o => have := (Array.getElem?_eq_some_iff.1 (hw _ o hc)).1; omega
  refine ⟨hn, by simp, fun b o hb => ?_, fun b hb _ => Go.RowKit.Below.heap_alloc _ _ _ hb, fun b hb => ?_, rfl, rfl⟩
  · by_cases e : b = w.heap.size
    · subst e; rw [Mem.set_same] at hb; rw [← hb]; exact World.alloc_heap_new _ _
    · rw [Mem.set_ne e] at hb
      have hlt := (Array.getElem?_eq_some_iff.1 (hw b o hb)).1
      exact (Go.RowKit.Below.heap_alloc _ _ _ hlt).trans (hw b o hb)
  · by_cases e : b = w.heap.size
    · exact .inr (by omega)
    · rw [Mem.set_ne e] at hb; exact .inl hb
def kwText : ByteArray := strB [97, 110, 100, 32, 98, 111, 111, 108, 32, 98, 111, 117, 110, 100, 32, 100, 101, 115, 99, 32, 101, 108, 115, 101, 32, 102, 97, 108, 115, 101, 32, 105, 102, 32, 105, 110, 116, 32, 105, 110, 118, 97, 114, 105, 97, 110, 116, 32, 108, 111, 99, 97, 108, 32, 108, 111, 103, 32, 109, 97, 120, 32, 109, 101, 97, 115, 117, 114, 101, 32, 109, 105, 110, 32, 110, 101, 119, 32, 110, 105, 108, 32, 110, 111, 116, 32, 111, 112, 32, 111, 114, 32, 112, 111, 116, 101, 110, 116, 105, 97, 108, 32, 112, 114, 111, 99, 32, 114, 101, 116, 117, 114, 110, 32, 114, 117, 108, 101, 32, 115, 99, 114, 105, 112, 116, 32, 115, 111, 114, 116, 32, 115, 112, 101, 99, 32, 116, 104, 105, 115, 32, 116, 114, 117, 101, 32, 116, 121, 112, 101, 32, 118, 97, 114, 32, 119, 104, 105, 108, 101]
def kwSorted : List ByteArray := (Lib.fields kwText.data.toList).map fun l => ⟨l.toArray⟩
theorem kwText_size : kwText.size = 160 := by kernel_rfl
theorem kwSorted_len : kwSorted.length = 31 := by kernel_rfl
theorem c168 {V : Mem} (ht : Tab V) : Tri Tryz.prog 168 #[] V fun e V' => ∃ b, V b = none ∧ e = .returned (.slice (some ⟨b, 0, none⟩) 31 31) ∧ V' = V.set b (.cells (kwSorted.map Value.string).toArray 9 (0, 0)) := by
  refine x168 ?_
  unfold w168
  refine Tri.mono (R := fun e V' => ∃ b, V b = none ∧ e = .returned (.slice (some ⟨b, 0, none⟩) 31 31) ∧ V' = V.set b (.cells (kwSorted.map Value.string).toArray 9 (0, 0))) ?_ ?_
  · unfold Tri
    intro w hw
    refine calls_mono (Tryz.strings_Fields kwText w (by rw [kwText_size]; decide) ?_ (ht.is hw)) ?_
    · have hall : (kwText.data.toList.all fun b => decide (b.toNat < 128)) = true := by kernel_rfl
      intro j b hb
      have := List.all_eq_true.1 hall b (List.mem_of_getElem? hb)
      simpa using this
    · rintro e w' ⟨rfl, rfl⟩
      obtain ⟨hn, hf⟩ := frm_new hw (.cells (kwSorted.map Value.string).toArray 9)
      refine ⟨_, ⟨w.heap.size, hn, ?_, rfl⟩, ?_⟩
      · rw [show (Lib.fields kwText.data.toList).length = 31 by kernel_rfl]
      · have e : ((Lib.fields kwText.data.toList).map fun l => Value.string ⟨l.toArray⟩) = kwSorted.map Value.string := by
          unfold kwSorted; rw [List.map_map]; rfl
        rw [e]; exact hf
  · rintro e V' ⟨b, hb, rfl, rfl⟩
    exact ⟨⟨some ⟨b, 0, none⟩, 31, 31⟩, rfl, b, hb, rfl, rfl⟩
theorem c191 {V : Mem} {s : ByteArray} : PP 191 [.string s] V (.bool false) := by
  refine x191 ?_
  unfold w191
  simp
theorem c189 {V : Mem} {s : ByteArray} : PP 189 [.string s] V (.bool false) := by
  refine x189 ?_
  unfold w189
  simp
def ltB (s t : ByteArray) : Bool := Op.bytesLess s.toList t.toList
theorem c188 {V : Mem} {s t : ByteArray} : PP 188 [.string s, .string t] V (.bool (ltB s t)) := by
  refine x188 ?_
  unfold w188
  refine c191.call ⟨_, rfl, fun h => ?_, fun _ => ⟨rfl, rfl⟩⟩
  cases h
theorem bl_trans : ∀ {a b c : List UInt8}, Op.bytesLess a b = true → Op.bytesLess b c = true → Op.bytesLess a c = true
  | _, [], _, h, _ => by simp [Op.bytesLess] at h
  | _, _ :: _, [], _, k => by simp [Op.bytesLess] at k
  | [], _ :: _, _ :: _, _, _ => rfl
  | a :: x, b :: y, c :: z, h, k => by
    simp only [Op.bytesLess, Bool.or_eq_true, decide_eq_true_eq, Bool.and_eq_true, beq_iff_eq] at h k ⊢
    rcases h with h | ⟨rfl, h⟩
    · rcases k with k | ⟨rfl, k⟩
      · left; rw [UInt8.lt_iff_toNat_lt] at *; omega
      · exact .inl h
    · rcases k with k | ⟨rfl, k⟩
      · exact .inl k
      · exact .inr ⟨rfl, bl_trans h k⟩
theorem ltB_trans {a b c : ByteArray} (h : ltB a b = true) (k : ltB b c = true) : ltB a c = true := bl_trans h k
theorem bl_irrefl : ∀ l : List UInt8, Op.bytesLess l l = false
  | [] => rfl
  | a :: l => by
    have h1 : ¬ (a < a) := by rw [UInt8.lt_iff_toNat_lt]; omega
    simp [Op.bytesLess, bl_irrefl l, h1]
theorem ltB_irrefl (a : ByteArray) : ltB a a = false := bl_irrefl _
def sortedB : List ByteArray → Bool
  | a :: b :: l => ltB a b && sortedB (b :: l)
  | _ => true
theorem sorted_lt : ∀ {l : List ByteArray}, sortedB l = true → ∀ (i j : Nat) (x y : ByteArray), i < j → l[i]? = some x → l[j]? = some y → ltB x y = true
  | [], _, i, j, x, y, _, hx, _ => by simp at hx
  | [a], _, i, j, x, y, hij, hx, hy => by
    have := (List.getElem?_eq_some_iff.1 hy).1
    simp only [List.length_singleton] at this; omega
  | a :: b :: l, h, i, j, x, y, hij, hx, hy => by
    simp only [sortedB, Bool.and_eq_true] at h
    cases j with
    | zero => omega
    | succ j =>
      rw [List.getElem?_cons_succ] at hy
      cases i with
      | succ i => rw [List.getElem?_cons_succ] at hx; exact sorted_lt h.2 i j x y (by omega) hx hy
      | zero =>
        simp only [List.getElem?_cons_zero, Option.some.injEq] at hx; subst hx
        cases j with
        | zero => simp only [List.getElem?_cons_zero, Option.some.injEq] at hy; subst hy; exact h.1
        | succ j => exact ltB_trans h.1 (sorted_lt h.2 0 (j + 1) b y (by omega) rfl hy)
theorem GenK.shr1 {V : Mem} {vals : Operand → Value} {t ty : TypeId} {n : Int} (hv : vals (.tmp 19) = .int .u64 n) (hv2 : vals (.const (.int .u64 1)) = .int .u64 1) {q : Value → Mem → Prop} (hq : q (.int .u64 (n / 2)) V) :
    GenK Tryz.prog (.binOp .shr t (.tmp 19) (.const (.int .u64 1)) t) ty vals V q := by
  intro w hw
  refine ⟨_, w, V, ?_, Frm.refl hw, hq⟩
  have e : Op.shift .shr .u64 n .u64 1 = pure (.int .u64 (n / 2)) := by
    unfold Op.shift
    rw [if_neg (by decide)]
    show pure (Value.int .u64 (n.fdiv (2 ^ 1))) = _
    rw [Int.fdiv_eq_ediv_of_nonneg _ (by decide)]
    rfl
  unfold execOp
  simp only [hv, hv2]
  simp [eqGuard, binOp_shr, e]
theorem hasS_iff {xs : List ByteArray} {s : ByteArray} : hasS xs s = true ↔ s ∈ xs := by
  unfold hasS
  rw [List.any_eq_true]
  exact ⟨fun ⟨x, hx, e⟩ => by rw [decide_eq_true_eq] at e; exact e ▸ hx, fun h => ⟨s, h, by simp⟩⟩
def kwIx (s : ByteArray) : Bool := hasS kwSorted s
theorem kwIx_eq (s : ByteArray) : kwIx s = isKw s := by
  have h1 : (kwSorted.all fun x => kwList.any fun y => decide (y = x)) = true := by kernel_rfl
  have h2 : (kwList.all fun x => kwSorted.any fun y => decide (y = x)) = true := by kernel_rfl
  unfold kwIx isKw
  rw [Bool.eq_iff_iff, hasS_iff, hasS_iff]
  constructor
  · intro h
    exact hasS_iff.1 (List.all_eq_true.1 h1 s h)
  · intro h
    exact hasS_iff.1 (List.all_eq_true.1 h2 s h)
theorem c167 {V : Mem} {l : Sl} {xs : List ByteArray} {s : ByteArray} (h : RowsAt V l 1 (xs.map fun x => [vS x])) (hs : sortedB xs = true) (hlen : xs.length ≤ 1000) :
    Tri Tryz.prog 167 #[l.v, .string s] V fun e V' => ∃ n : Int, e = .returned (.tuple #[.int .i64 n, .bool (hasS xs s)]) ∧ V' = V := by
  refine x167 ?_
  unfold w167
  have hn := h.n_eq
  have hc := h.cap
  have hf := h.fit
  refine ⟨fun n ys V1 => ∃ i j : Nat, ys = [.int .i64 i, .int .i64 j] ∧ V1 = V ∧ i ≤ j ∧ j ≤ xs.length ∧ n = j - i ∧ (∀ (k : Nat) x, k < i → xs[k]? = some x → ltB x s = true) ∧ (∀ (k : Nat) x, j ≤ k → xs[k]? = some x → ltB x s = false), xs.length,
    ⟨0, xs.length, by rw [hn]; rfl, rfl, by omega, by omega, by omega, fun k x hk => by omega, fun k x hk hx => by have := (List.getElem?_eq_some_iff.1 hx).1; omega⟩, ?_⟩
  rintro n V1 v2 v3 ⟨i, j, hy, rfl, hij, hj, rfl, hlo, hhi⟩ J hJ
  simp only [List.cons.injEq, Value.int.injEq, true_and, and_true] at hy
  obtain ⟨rfl, rfl⟩ := hy
  refine ⟨fun hlt => ?_, fun hge => ?_⟩
  · refine ⟨⟨by omega, by omega⟩, ⟨by show (0 : Int) ≤ _; omega, by show _ ≤ (18446744073709551615 : Int); omega⟩, ?_⟩
    refine GenK.shr1 (n := (i : Int) + j) rfl rfl ⟨_, rfl, ⟨by omega, by omega⟩, ?_⟩
    have hm : ((i : Int) + j) / 2 = ((i + j) / 2 : Nat) := by omega
    rw [hm]
    obtain ⟨x, hmx, hx, hd, hl, hp, h0, hrow⟩ := h.get (i := (i + j) / 2) (by omega)
    refine ⟨hp, h0, by omega, x, hrow, c188.call ⟨_, rfl, fun hb => ⟨⟨by omega, by omega⟩, ?_⟩, fun hb => ?_⟩⟩
    · refine hJ (j - ((i + j) / 2 + 1)) _ _ (by omega) ⟨(i + j) / 2 + 1, j, rfl, rfl, by omega, hj, rfl, fun k y hk hy => ?_, hhi⟩
      rcases Nat.lt_or_ge k ((i + j) / 2) with h' | h'
      · exact ltB_trans (sorted_lt hs k _ y x h' hy hx) hb
      · have : k = (i + j) / 2 := by omega
        subst this; rw [hx] at hy; cases hy; exact hb
    · refine hJ ((i + j) / 2 - i) _ _ (by omega) ⟨i, (i + j) / 2, rfl, rfl, by omega, by omega, rfl, hlo, fun k y hk hy => ?_⟩
      cases hz : ltB y s with
      | false => rfl
      | true =>
        rcases Nat.lt_or_ge ((i + j) / 2) k with h' | h'
        · exact absurd (ltB_trans (sorted_lt hs _ k x y h' hx hy) hz) hb
        · have : k = (i + j) / 2 := by omega
          subst this; rw [hx] at hy; cases hy; exact absurd hz hb
  · have hij' : i = j := by omega
    subst hij'
    have key : s ∈ xs → xs[i]? = some s := fun hm => by
      obtain ⟨k, hk, e⟩ := List.mem_iff_getElem.1 hm
      have hk' : xs[k]? = some s := by rw [List.getElem?_eq_getElem hk, e]
      rcases Nat.lt_trichotomy k i with h' | h' | h'
      · have := hlo k s h' hk'; rw [ltB_irrefl] at this; cases this
      · subst h'; exact hk'
      · have hi' : i < xs.length := by omega
        have h2 := sorted_lt hs i k xs[i] s h' (List.getElem?_eq_getElem hi') hk'
        have h3 := hhi i xs[i] (Nat.le_refl _) (List.getElem?_eq_getElem hi')
        rw [h2] at h3; cases h3
    refine ⟨fun hlt => ?_, fun hge2 => ?_⟩
    · obtain ⟨x, hmx, hx, hd, hl, hp, h0, hrow⟩ := h.get (i := i) hlt
      refine ⟨hp, h0, hlt, x, hrow, fun e => ?_, fun e => ⟨hp, h0, hlt, x, hrow, c189.call ⟨_, rfl, fun hb => ?_, fun _ => ?_⟩⟩⟩
      · subst e
        exact ⟨i, by rw [hasS_iff.2 hmx], rfl⟩
      · cases hb
      · refine ⟨i, ?_, rfl⟩
        have : hasS xs s = false := by
          cases hz : hasS xs s with
          | false => rfl
          | true => have := key (hasS_iff.1 hz); rw [hx] at this; exact absurd (by simpa using this) e
        rw [this]
    · refine ⟨i, ?_, rfl⟩
      have : hasS xs s = false := by
        cases hz : hasS xs s with
        | false => rfl
        | true => have := (List.getElem?_eq_some_iff.1 (key (hasS_iff.1 hz))).1; omega
      rw [this]
theorem c120 {V : Mem} {s : ByteArray} (ht : Tab V) : PP 120 [.string s] V (.bool (isKw s)) := by
  refine Pur.mk ?_
  refine x120 ?_
  unfold w120
  refine Tri.mono (c168 ht) ?_
  rintro _ V' ⟨b, hb, rfl, rfl⟩
  refine ⟨⟨some ⟨b, 0, none⟩, 31, 31⟩, rfl, ?_⟩
  have hrows : RowsAt (V.set b (.cells ((kwSorted.map Value.string).toArray) 9 (0, 0))) ⟨some ⟨b, 0, none⟩, 31, 31⟩ 1 (kwSorted.map fun x => [vS x]) :=
    RowsAt.cells (xs := kwSorted) (row := fun x => [vS x]) (Mem.set_same _ _ _) (by simp; rfl) (fun _ => rfl) kwSorted_len.symm (Nat.le_of_ble_eq_true rfl)
  refine Tri.mono (c167 hrows (by kernel_rfl) (by rw [kwSorted_len]; decide)) ?_
  rintro _ V2 ⟨n, rfl, rfl⟩
  exact ⟨n, _, rfl, by rw [← kwIx_eq]; rfl, Mem.sub_new hb _⟩
end Go.Proofs
namespace Go.Proofs
open Go Go.Sx
attribute [local irreducible] Go.Sx.Tri
/-- lex.IsKeyword; lex.IsName. -/
theorem c84 {V : Mem} [Tab V] {s : ByteArray} : PP 84 [.string s] V (.bool (isName s)) := by
  refine x84 ?_
  unfold w84
  refine ⟨fun h => ?_, fun h => ⟨fun h1 => ?_, fun h1 => ?_⟩⟩
  · subst h; exact ⟨rfl, rfl⟩
  · have : ¬ s.size ≤ 40 := by omega
    simp [isName, this]
  · have h0 : s.size ≠ 0 := fun e => h (by
      have : s.data = #[] := Array.eq_empty_of_size_eq_zero e
      cases s; simp only at this; subst this; rfl)
    refine ⟨by omega, c119.call ⟨_, rfl, fun h2 => ?_, fun h2 => ?_⟩⟩
    · refine (c120 inferInstance).call ⟨_, rfl, fun hk => ?_, fun hk => ?_⟩
      · simp [isName, hk]
      · refine loop2 s.size (fun i V1 => V1 = V ∧ ∀ j : Nat, j < i → isWord (sbyte s j) = true) ⟨rfl, by simp⟩ ?_
        rintro i b _ J hi ⟨rfl, hj⟩ hJ
        refine ⟨fun hlt => ⟨by omega, c119.call ⟨_, rfl, fun hw => ?_, fun hw => ⟨⟨by omega, by omega⟩, hJ (by omega) _ _ ⟨rfl, fun j hj' => ?_⟩⟩⟩⟩, fun hge => ?_⟩
        · rw [cls_word] at hw
          have : ¬ ∀ i : Nat, i < s.size → isWord (sbyte s i) = true := fun hf => by rw [hf i (by omega)] at hw; cases hw
          simp [isName, this]
        · rcases Nat.lt_succ_iff_lt_or_eq.1 hj' with h' | rfl
          · exact hj j h'
          · rw [cls_word] at hw; simpa using hw
        · have a2 : s.size ≤ 40 := by omega
          have a3 : ∀ i : Nat, i < s.size → isWord (sbyte s i) = true := fun j hj' => hj j (by omega)
          have : isName s = !isKw s := by unfold isName; rw [decide_eq_true ⟨h0, a2, (cls_two _).1 h2, a3⟩]; simp
          simp [this, hk]
    · rw [cls_two] at h2
      have : isLetter (sbyte s 0) = false := by simpa using h2
      simp [isName, this]
/-! Nodes. -/
def partsN (op : Int) : Int := if (1 ≤ op ∧ op ≤ 4) ∨ op = 6 then 0 else if op = 5 ∨ op = 8 ∨ op = 18 ∨ op = 24 then 1 else if op = 7 then -1 else if op = 21 then 3 else if 9 ≤ op ∧ op ≤ 23 then 2 else -2
theorem c165 {V : Mem} {op : Int} : PP 165 [.int .i64 op] V (.int .i64 (partsN op)) := by
  refine x165 ?_
  unfold w165
  have key : ∀ n : Int, partsN op = n → Ending.returned (.int .i64 n) = Ending.returned (.int .i64 (partsN op)) := fun n h => by rw [h]
  unfold partsN at key
  repeat' (first | intro _ | apply And.intro)
  all_goals first | rfl | (refine key _ ?_; grind)
theorem c153 {V : Mem} {op : Int} : PP 153 [.int .i64 op] V (.tuple #[.int .i64 (if partsN op = -2 then 2 else partsN op), .bool (decide (partsN op ≠ -2))]) := by
  refine x153 ?_
  unfold w153
  have key : ∀ (n : Int) (b : Bool), (if partsN op = -2 then 2 else partsN op) = n → decide (partsN op ≠ -2) = b → Ending.returned (.tuple #[.int .i64 n, .bool b]) = Ending.returned (.tuple #[.int .i64 (if partsN op = -2 then 2 else partsN op), .bool (decide (partsN op ≠ -2))]) := fun n b h k => by rw [h, k]
  unfold partsN at key
  repeat' (first | intro _ | apply And.intro)
  all_goals first | rfl | (refine key _ _ ?_ ?_ <;> grind)
def sThis : ByteArray := strB [116, 104, 105, 115]
def nmB (op : Int) (s : ByteArray) : Bool := if op = 4 then decide (s = sThis) || isName s else if op = 5 ∨ op = 6 ∨ op = 7 then isName s else decide (s = strB [])
def numB (op n : Int) : Bool := if op = 1 then decide (0 ≤ n ∧ n ≤ 1099511627776) else if op = 2 then decide (n = 0 ∨ n = 1) else decide (n = 0)
def nodeB (op n : Int) (s : ByteArray) (len : Int) : Bool := decide (partsN op ≠ -2 ∧ (0 ≤ partsN op → len = partsN op) ∧ (partsN op = -1 → len ≤ 6)) && nmB op s && numB op n
theorem c166 {V : Mem} {e : E} : PP 166 [e.v] V (.bool (nmB e.op e.s)) := by
  refine x166 (v0 := e.op) (v1 := e.n) (v2 := e.s) (v3 := e.l) ?_
  unfold w166
  have key : ∀ b : Bool, nmB e.op e.s = b → Ending.returned (.bool b) = Ending.returned (.bool (nmB e.op e.s)) := fun n h => by rw [h]
  unfold nmB sThis at key
  repeat' (first | refine c52.call ⟨_, rfl, ?_⟩ | intro _ | apply And.intro)
  all_goals first | rfl | (refine key _ ?_; grind)
theorem c155 {V : Mem} [Tab V] {e : E} : PP 155 [e.v] V (.bool (nmB e.op e.s && numB e.op e.n)) := by
  refine x155 (v0 := e.op) (v1 := e.n) (v2 := e.s) (v3 := e.l) ?_
  unfold w155
  have key : ∀ b : Bool, (nmB e.op e.s && numB e.op e.n) = b → Ending.returned (.bool b) = Ending.returned (.bool (nmB e.op e.s && numB e.op e.n)) := fun n h => by rw [h]
  unfold nmB numB sThis at key
  repeat' (first | refine c84.call ⟨_, rfl, ?_⟩ | intro _ | apply And.intro)
  all_goals first | rfl | (refine key _ ?_; grind)
theorem c116 {V : Mem} {e : E} {len : Int} (hl : (e.l.n : Int) = len) : PP 116 [e.v] V (.bool (nodeB e.op e.n e.s len)) := by
  refine x116 (v0 := e.op) (v1 := e.n) (v2 := e.s) (v3 := e.l) ?_
  unfold w116
  rw [hl]
  have key : ∀ b : Bool, nodeB e.op e.n e.s len = b → Ending.returned (.bool b) = Ending.returned (.bool (nodeB e.op e.n e.s len)) := fun n h => by rw [h]
  unfold nodeB numB at key
  refine c165.call ⟨_, rfl, ?_⟩
  repeat' (first | refine (c166 (e := e)).call ⟨_, rfl, ?_⟩ | intro _ | apply And.intro)
  all_goals first | rfl | (refine key _ ?_; grind)
end Go.Proofs
