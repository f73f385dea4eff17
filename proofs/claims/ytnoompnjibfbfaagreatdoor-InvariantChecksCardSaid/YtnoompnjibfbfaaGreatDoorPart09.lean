/- Part 9 of a proof of a law of this seat: no statement of the seat is proved here. -/
import Derived.Test.YtnoompnjibfbfaaGreatDoorPart05
import Derived.Test.YtnoompnjibfbfaaGreatDoorPart08
import Derived.Shelf.Strings.Fields
import Derived.Test.YtnoompnjibfbfaaGreatDoorProg
import Derived.Sort.Walk0
import Derived.RangeFuncRecord
set_option linter.unusedVariables false
set_option linter.unusedSimpArgs false
namespace Go.Proofs
open Go Go.Sx
abbrev PP (f : FuncId) (args : List Value) (V : Mem) (v : Value) : Prop := Pur Tryz.prog f args V v
def qBY (c : Int) : Bool := decide (97 <= c /\ c <= 122 ∨ 65 <= c /\ c <= 90)
def qEK (c : Int) : Bool := decide (48 <= c /\ c <= 57)
def qEa (c : Int) : Bool := qBY c || qEK c || decide (c = 95)
theorem c120 {V : Mem} {c : Int} : PP 120 [.int .u8 c] V (.bool (qBY c)) := by
 refine x120 ?_
 unfold w120 qBY
 grind
theorem c180 {V : Mem} {c : Int} : PP 180 [.int .u8 c] V (.bool (qEK c)) := by
 refine x180 ?_
 unfold w180 qEK
 grind
theorem c121 {V : Mem} {c : Int} : PP 121 [.int .u8 c] V (.bool (qEa c)) := by
 refine x121 ?_
 unfold w121 qEa
 refine c120.call ⟨_, rfl, fun h => ?_, fun h => ?_⟩
 ·simp [h]
 ·refine c180.call ⟨_, rfl, fun h => ?_, fun h => ?_⟩ <;> simp_all
def cls (c : Int) : Int := if c = 32 ∨ c = 9 ∨ c = 13 ∨ c = 10 then 1 else if qBY c then 2 else if qEK c then 3 else if c = 95 then 4 else 0
theorem c203 {V : Mem} {c : Int} : PP 203 [.int .u8 c] V (.int .i64 (cls c)) := by
 refine x203 ?_
 unfold w203
 have key : ∀ n : Int, cls c = n -> (Ending.returned (.int .i64 n) = Ending.returned (.int .i64 (cls c)) /\ V = V) := fun n h => by rw [h]; exact ⟨rfl, rfl⟩
 unfold cls qBY qEK at key
 repeat' (first | intro _ | apply And.intro)
 all_goals first | rfl | (refine (key _ ?_).1; grind)
theorem cls_two (c : Int) : cls c = 2 ↔ qBY c = true := by
 unfold cls qBY qEK; grind
theorem cls_word (c : Int) : cls c < 2 ↔ qEa c = false := by
 unfold qEa cls qBY qEK; grind
def qIS : List ByteArray := [[116, 121, 112, 101], [118, 97, 114], [112, 114, 111, 99], [108, 111, 99, 97, 108], [109, 101, 97, 115, 117, 114, 101], [105, 110, 118, 97, 114, 105, 97, 110, 116], [112, 111, 116, 101, 110, 116, 105, 97, 108], [98, 111, 117, 110, 100], [105, 102], [101, 108, 115, 101], [119, 104, 105, 108, 101], [114, 101, 116, 117, 114, 110], [110, 101, 119], [110, 105, 108], [116, 114, 117, 101], [102, 97, 108, 115, 101], [97, 110, 100], [111, 114], [110, 111, 116], [109, 97, 120], [109, 105, 110], [108, 111, 103], [105, 110, 116], [98, 111, 111, 108], [116, 104, 105, 115], [115, 111, 114, 116], [111, 112], [114, 117, 108, 101], [115, 112, 101, 99], [100, 101, 115, 99], [115, 99, 114, 105, 112, 116]].map qAi
def hasS (xs : List ByteArray) (s : ByteArray) : Bool := xs.any fun x => decide (x = s)
def isKw (s : ByteArray) : Bool := hasS qIS s
def qAz (s : ByteArray) : Bool := decide (s.size ≠ 0 /\ s.size <= 40 /\ qBY (qAU s 0) = true /\ (∀ i : Nat, i < s.size -> qEa (qAU s i) = true)) && !isKw s
theorem c181 {V : Mem} {l : Sl} {xs : List ByteArray} {s : ByteArray} (h : qAd V l 1 (xs.map fun x => [vS x])) : PP 181 [l.v, .string s] V (.bool (hasS xs s)) := by
 refine x181 ?_
 unfold w181
 refine qAA xs.length (fun i V1 => V1 = V /\ ∀ j : Nat, j < i -> xs[j]? ≠ some s) ⟨rfl, by simp⟩ ?_
 rintro i b _ J hi ⟨rfl, hj⟩ hJ
 refine ⟨fun hlt => ?_, fun hge => ?_⟩
 ·obtain ⟨x, hm, hx, hd, hl, hp, h0, hrow⟩ := h.get hlt
  refine ⟨hp, h0, hlt, _, hrow, fun e => ?_, fun e => ⟨h.succ hlt, hJ hl _ _ ⟨rfl, fun j hj' => ?_⟩⟩⟩
  ·have : hasS xs s = true := List.any_eq_true.2 ⟨x, hm, decide_eq_true e⟩
   rw [this]; exact ⟨rfl, rfl⟩
  ·rcases Nat.lt_succ_iff_lt_or_eq.1 hj' with h' | rfl
   ·exact hj j h'
   ·rw [hx]; simpa using e
 ·have hn := (h.done hge).2
  have : s ∉ xs := fun hm => by
   obtain ⟨j, hjl, e⟩ := List.mem_iff_getElem.1 hm
   exact hj j (by omega) (by rw [List.getElem?_eq_getElem hjl, e])
  have : hasS xs s = false := by
   rw [hasS, List.any_eq_false]
   intro x hx e
   exact this (of_decide_eq_true e ▸ hx)
  rw [this]; exact ⟨rfl, rfl⟩
theorem c122 {V : Mem} {s : ByteArray} : PP 122 [.string s] V (.bool (isKw s)) := by
 refine Pur.mk (x122 ?_)
 unfold w122
 refine x182 ?_
 unfold w182
 intro b hb
 refine ⟨⟨some ⟨b, 0, none⟩, 31, 31⟩, rfl, ?_⟩
 have hrows : ∀ V0 : Mem, qAd (V0.set b (.cells ((qIS.map Value.string).toArray) 9 (0, 0))) ⟨some ⟨b, 0, none⟩, 31, 31⟩ 1 (qIS.map fun x => [vS x]) :=
  fun V0 => qAd.cells (xs := qIS) (row := fun x => [vS x]) mss rfl (fun _ => rfl) rfl (Nat.le_of_ble_eq_true rfl)
 refine (c181 (hrows _)).call ⟨_, rfl, rfl, Mem.sub_new hb _⟩
theorem c75 {V : Mem} {s : ByteArray} : PP 75 [.string s] V (.bool (qAz s)) := by
 refine x75 ?_
 unfold w75
 refine ⟨fun h => ?_, fun h => ⟨fun h1 => ?_, fun h1 => ⟨by omega, c120.call ⟨_, rfl, fun h2 => ?_, fun h2 => ?_⟩⟩⟩⟩
 ·have : s.size = 0 := by omega
  simp [qAz, this]
 ·have : ¬ s.size <= 40 := by omega
  simp [qAz, this]
 ·refine qAA s.size (fun i V1 => V1 = V /\ ∀ j : Nat, j < i -> qEa (qAU s j) = true) ⟨rfl, by simp⟩ ?_
  rintro i b _ J hi ⟨rfl, hj⟩ hJ
  refine ⟨fun hlt => ⟨by omega, c121.call ⟨_, rfl, fun hw => ⟨⟨by omega, by omega⟩, hJ (by omega) _ _ ⟨rfl, fun j hj' => ?_⟩⟩, fun hw => ?_⟩⟩, fun hge => ?_⟩
  ·rcases Nat.lt_succ_iff_lt_or_eq.1 hj' with h' | rfl
   ·exact hj j h'
   ·exact hw
  ·have : ¬ ∀ i : Nat, i < s.size -> qEa (qAU s i) = true := fun hf => hw (hf i (by omega))
   simp [qAz, this]
  ·refine c122.call ⟨_, rfl, ?_⟩
   have a1 : s.size ≠ 0 := by omega
   have a2 : s.size <= 40 := by omega
   have a3 : ∀ i : Nat, i < s.size -> qEa (qAU s i) = true := fun j hj' => hj j (by omega)
   have : qAz s = !isKw s := by unfold qAz; rw [decide_eq_true ⟨a1, a2, h2, a3⟩]; simp
   rw [this]
   exact ⟨rfl, rfl⟩
 ·have : qBY (qAU s 0) = false := by simpa using h2
  simp [qAz, this]
end Go.Proofs
namespace Go.Proofs
open Go Go.Sx
attribute [local irreducible] Go.Sx.Tri
def qAV (s : ByteArray) : List Value := [vS s]
def strV (s : ByteArray) : Value := vS s
section
variable {α : Type}
def IdxP (f : FuncId) (row : α -> List Value) (v : α -> Value) (sz : Nat) : Prop := ∀ {V : Mem} {l : Sl} {xs : List α} {g : Nat} {first caps : List Value} (hg : qGt g) (St Hit : Nat -> Mem -> Prop) (hrows : ∀ i V1, St i V1 -> qAd V1 l sz (xs.map row)) (h0 : St 0 V)
  (hp : ∀ i x V1, xs[i]? = some x -> St i V1 -> Tri Tryz.prog g (first.toArray ++ #[v x] ++ caps.toArray) V1 fun e V2 => ∃ b : Bool, e = .returned (.bool b) /\ (b = true -> Hit i V2) /\ (b = false -> St (i + 1) V2)),
  Tri Tryz.prog f #[l.v, .func (.func g) first.toArray caps.toArray] V fun e V' => (∃ i : Nat, e = .returned (.int .i64 i) /\ Hit i V') ∨ (e = .returned (.int .i64 (-1)) /\ St xs.length V')
def ConP (f : FuncId) (row : α -> List Value) (v : α -> Value) (sz : Nat) : Prop := ∀ {V : Mem} {l : Sl} {xs : List α} {g : Nat} {first caps : List Value} (hg : qGt g) (St Hit : Nat -> Mem -> Prop) (hrows : ∀ i V1, St i V1 -> qAd V1 l sz (xs.map row)) (h0 : St 0 V)
  (hp : ∀ i x V1, xs[i]? = some x -> St i V1 -> Tri Tryz.prog g (first.toArray ++ #[v x] ++ caps.toArray) V1 fun e V2 => ∃ b : Bool, e = .returned (.bool b) /\ (b = true -> Hit i V2) /\ (b = false -> St (i + 1) V2)),
  Tri Tryz.prog f #[l.v, .func (.func g) first.toArray caps.toArray] V fun e V' => (∃ i : Nat, e = .returned (.bool true) /\ Hit i V') ∨ (e = .returned (.bool false) /\ St xs.length V')
def ConC (f : FuncId) (row : α -> List Value) (v : α -> Value) (sz : Nat) : Prop := ∀ {V : Mem} {l : Sl} {xs : List α} {g : Nat} {first caps : List Value} (h : qAd V l sz (xs.map row)) (hg : qGt g) (p : α -> Bool) (hp : ∀ x ∈ xs, PP g (first ++ [v x] ++ caps) V (.bool (p x))), PP f [l.v, .func (.func g) first.toArray caps.toArray] V (.bool (xs.any p))
variable {f fc : FuncId} {row : α -> List Value} {v : α -> Value} {sz : Nat}
theorem conG (h : IdxP f row v sz) (hx : ∀ {l : Sl} {c : Value} {V : Mem} {R : RP}, (TT f #[uL l, K.cast .f c] V fun e V1 => ∃ v2, e = rV (uI v2) /\ R (rV (uB (decide (0 <= v2)))) V1) -> TT fc #[uL l, K.cast .f c] V R) : ConP fc row v sz := by
 intro V l xs g first caps hg St Hit hrows h0 hp
 refine hx (c := .func (.func g) first.toArray caps.toArray) (Tri.mono (h hg St Hit hrows h0 hp) ?_)
 rintro e V' (⟨i, rfl, h⟩ | ⟨rfl, h⟩)
 ·refine ⟨_, rfl, .inl ⟨i, ?_, h⟩⟩
  have : (0 : Int) <= (i : Int) := by omega
  simp [this]
 ·exact ⟨_, rfl, .inr ⟨rfl, h⟩⟩
theorem conC (H : ConP fc row v sz) : ConC fc row v sz := by
 intro V l xs g first caps h hg p hp
 refine Tri.mono (H hg (fun i V1 => V1 = V /\ ∀ j x, j < i -> xs[j]? = some x -> p x = false) (fun i V1 => V1 = V /\ ∃ x ∈ xs, p x = true) (fun i V1 hs => hs.1 ▸ h) ⟨rfl, fun j x hj => absurd hj (Nat.not_lt_zero _)⟩ ?_) ?_
 ·rintro i x _ hx ⟨rfl, hs⟩
  have hm : x ∈ xs := List.mem_of_getElem? hx
  have := (hp x hm).callv (q := fun e V2 => ∃ b : Bool, e = .returned (.bool b) /\ (b = true -> V2 = _ /\ ∃ x ∈ xs, p x = true) /\ (b = false -> V2 = _ /\ ∀ j x, j < i + 1 -> xs[j]? = some x -> p x = false)) ⟨_, rfl, fun hb => ⟨rfl, x, hm, hb⟩, fun hb => ⟨rfl, fun j y hj hy => by
   rcases Nat.lt_succ_iff_lt_or_eq.1 hj with h' | rfl
   ·exact hs j y h' hy
   ·rw [hx] at hy; cases hy; exact hb⟩⟩
  exact this
 ·rintro e V' (⟨i, rfl, rfl, x, hm, hx⟩ | ⟨rfl, rfl, hs⟩)
  ·rw [List.any_eq_true.2 ⟨x, hm, hx⟩]; exact ⟨rfl, rfl⟩
  ·have : xs.any p = false := List.any_eq_false.2 fun x hm hx => by
    obtain ⟨j, hj, rfl⟩ := List.mem_iff_getElem.1 hm
    rw [hs j _ hj (List.getElem?_eq_getElem hj)] at hx; cases hx
   rw [this]; exact ⟨rfl, rfl⟩
end
theorem g141 : IdxP 141 Fld.row Fld.v 2 := by
 intro V l xs g first caps hg St Hit hrows h0 hp
 refine x141 (a := l) (b := .func (.func g) first.toArray caps.toArray) ?_
 unfold w141
 refine qAA xs.length St h0 ?_
 intro i b V1 J hi hs hJ
 have h := hrows i V1 hs
 refine ⟨fun hlt => ?_, fun hge => ?_⟩
 ·obtain ⟨x, hm, hx, hd, hl, hp0, hz, hrow⟩ := h.get hlt
  refine ⟨hp0, hz, hlt, _, _, hrow, g, _, _, rfl, hg, Tri.mono (hp i x V1 hx hs) ?_⟩
  rintro e V2 ⟨b, rfl, h1, h2⟩
  exact ⟨b, rfl, fun hb => .inl ⟨i, rfl, h1 hb⟩, fun hb => ⟨h.succ hlt, hJ hl _ _ (h2 (by simpa using hb))⟩⟩
 ·have e : i = xs.length := by have := (h.done hge).2; omega
  exact .inr ⟨rfl, e ▸ hs⟩
theorem g168 : ConP 168 Fld.row Fld.v 2 := conG g141 x168
theorem c168 : ConC 168 Fld.row Fld.v 2 := conC g168
theorem g54 : IdxP 54 Iv.row Iv.v 6 := by
 intro V l xs g first caps hg St Hit hrows h0 hp
 refine x54 (a := l) (b := .func (.func g) first.toArray caps.toArray) ?_
 unfold w54
 refine qAA xs.length St h0 ?_
 intro i b V1 J hi hs hJ
 have h := hrows i V1 hs
 refine ⟨fun hlt => ?_, fun hge => ?_⟩
 ·obtain ⟨x, hm, hx, hd, hl, hp0, hz, hrow⟩ := h.get hlt
  refine ⟨hp0, hz, hlt, _, _, _, _, _, _, hrow, g, _, _, rfl, hg, Tri.mono (hp i x V1 hx hs) ?_⟩
  rintro e V2 ⟨b, rfl, h1, h2⟩
  exact ⟨b, rfl, fun hb => .inl ⟨i, rfl, h1 hb⟩, fun hb => ⟨h.succ hlt, hJ hl _ _ (h2 (by simpa using hb))⟩⟩
 ·have e : i = xs.length := by have := (h.done hge).2; omega
  exact .inr ⟨rfl, e ▸ hs⟩
theorem g253 : ConP 253 Iv.row Iv.v 6 := conG g54 x253
theorem c253 : ConC 253 Iv.row Iv.v 6 := conC g253
theorem g210 : IdxP 210 Ty.row Ty.v 2 := by
 intro V l xs g first caps hg St Hit hrows h0 hp
 refine x210 (a := l) (b := .func (.func g) first.toArray caps.toArray) ?_
 unfold w210
 refine qAA xs.length St h0 ?_
 intro i b V1 J hi hs hJ
 have h := hrows i V1 hs
 refine ⟨fun hlt => ?_, fun hge => ?_⟩
 ·obtain ⟨x, hm, hx, hd, hl, hp0, hz, hrow⟩ := h.get hlt
  refine ⟨hp0, hz, hlt, _, _, hrow, g, _, _, rfl, hg, Tri.mono (hp i x V1 hx hs) ?_⟩
  rintro e V2 ⟨b, rfl, h1, h2⟩
  exact ⟨b, rfl, fun hb => .inl ⟨i, rfl, h1 hb⟩, fun hb => ⟨h.succ hlt, hJ hl _ _ (h2 (by simpa using hb))⟩⟩
 ·have e : i = xs.length := by have := (h.done hge).2; omega
  exact .inr ⟨rfl, e ▸ hs⟩
theorem g155 : ConP 155 Ty.row Ty.v 2 := conG g210 x155
theorem c155 : ConC 155 Ty.row Ty.v 2 := conC g155
theorem g211 : IdxP 211 Pr.row Pr.v 5 := by
 intro V l xs g first caps hg St Hit hrows h0 hp
 refine x211 (a := l) (b := .func (.func g) first.toArray caps.toArray) ?_
 unfold w211
 refine qAA xs.length St h0 ?_
 intro i b V1 J hi hs hJ
 have h := hrows i V1 hs
 refine ⟨fun hlt => ?_, fun hge => ?_⟩
 ·obtain ⟨x, hm, hx, hd, hl, hp0, hz, hrow⟩ := h.get hlt
  refine ⟨hp0, hz, hlt, _, _, _, _, _, hrow, g, _, _, rfl, hg, Tri.mono (hp i x V1 hx hs) ?_⟩
  rintro e V2 ⟨b, rfl, h1, h2⟩
  exact ⟨b, rfl, fun hb => .inl ⟨i, rfl, h1 hb⟩, fun hb => ⟨h.succ hlt, hJ hl _ _ (h2 (by simpa using hb))⟩⟩
 ·have e : i = xs.length := by have := (h.done hge).2; omega
  exact .inr ⟨rfl, e ▸ hs⟩
theorem g157 : ConP 157 Pr.row Pr.v 5 := conG g211 x157
theorem c157 : ConC 157 Pr.row Pr.v 5 := conC g157
theorem g243 : IdxP 243 Bd.row Bd.v 5 := by
 intro V l xs g first caps hg St Hit hrows h0 hp
 refine x243 (a := l) (b := .func (.func g) first.toArray caps.toArray) ?_
 unfold w243
 refine qAA xs.length St h0 ?_
 intro i b V1 J hi hs hJ
 have h := hrows i V1 hs
 refine ⟨fun hlt => ?_, fun hge => ?_⟩
 ·obtain ⟨x, hm, hx, hd, hl, hp0, hz, hrow⟩ := h.get hlt
  refine ⟨hp0, hz, hlt, _, _, _, _, _, hrow, g, _, _, rfl, hg, Tri.mono (hp i x V1 hx hs) ?_⟩
  rintro e V2 ⟨b, rfl, h1, h2⟩
  exact ⟨b, rfl, fun hb => .inl ⟨i, rfl, h1 hb⟩, fun hb => ⟨h.succ hlt, hJ hl _ _ (h2 (by simpa using hb))⟩⟩
 ·have e : i = xs.length := by have := (h.done hge).2; omega
  exact .inr ⟨rfl, e ▸ hs⟩
theorem g208 : ConP 208 Bd.row Bd.v 5 := conG g243 x208
theorem c208 : ConC 208 Bd.row Bd.v 5 := conC g208
theorem g85 : IdxP 85 E.row E.v 4 := by
 intro V l xs g first caps hg St Hit hrows h0 hp
 refine x85 (a := l) (b := .func (.func g) first.toArray caps.toArray) ?_
 unfold w85
 refine qAA xs.length St h0 ?_
 intro i b V1 J hi hs hJ
 have h := hrows i V1 hs
 refine ⟨fun hlt => ?_, fun hge => ?_⟩
 ·obtain ⟨x, hm, hx, hd, hl, hp0, hz, hrow⟩ := h.get hlt
  refine ⟨hp0, hz, hlt, _, _, _, _, hrow, g, _, _, rfl, hg, Tri.mono (hp i x V1 hx hs) ?_⟩
  rintro e V2 ⟨b, rfl, h1, h2⟩
  exact ⟨b, rfl, fun hb => .inl ⟨i, rfl, h1 hb⟩, fun hb => ⟨h.succ hlt, hJ hl _ _ (h2 (by simpa using hb))⟩⟩
 ·have e : i = xs.length := by have := (h.done hge).2; omega
  exact .inr ⟨rfl, e ▸ hs⟩
theorem g57 : ConP 57 E.row E.v 4 := conG g85 x57
theorem c57 : ConC 57 E.row E.v 4 := conC g57
theorem g70 : IdxP 70 Ms.row Ms.v 7 := by
 intro V l xs g first caps hg St Hit hrows h0 hp
 refine x70 (a := l) (b := .func (.func g) first.toArray caps.toArray) ?_
 unfold w70
 refine qAA xs.length St h0 ?_
 intro i b V1 J hi hs hJ
 have h := hrows i V1 hs
 refine ⟨fun hlt => ?_, fun hge => ?_⟩
 ·obtain ⟨x, hm, hx, hd, hl, hp0, hz, hrow⟩ := h.get hlt
  refine ⟨hp0, hz, hlt, _, _, _, _, _, _, _, hrow, g, _, _, rfl, hg, Tri.mono (hp i x V1 hx hs) ?_⟩
  rintro e V2 ⟨b, rfl, h1, h2⟩
  exact ⟨b, rfl, fun hb => .inl ⟨i, rfl, h1 hb⟩, fun hb => ⟨h.succ hlt, hJ hl _ _ (h2 (by simpa using hb))⟩⟩
 ·have e : i = xs.length := by have := (h.done hge).2; omega
  exact .inr ⟨rfl, e ▸ hs⟩
theorem g251 : ConP 251 Ms.row Ms.v 7 := conG g70 x251
theorem c251 : ConC 251 Ms.row Ms.v 7 := conC g251
theorem g240 : IdxP 240 qAV strV 1 := by
 intro V l xs g first caps hg St Hit hrows h0 hp
 refine x240 (a := l) (b := .func (.func g) first.toArray caps.toArray) ?_
 unfold w240
 refine qAA xs.length St h0 ?_
 intro i b V1 J hi hs hJ
 have h := hrows i V1 hs
 refine ⟨fun hlt => ?_, fun hge => ?_⟩
 ·obtain ⟨x, hm, hx, hd, hl, hp0, hz, hrow⟩ := h.get hlt
  refine ⟨hp0, hz, hlt, _, hrow, g, _, _, rfl, hg, Tri.mono (hp i x V1 hx hs) ?_⟩
  rintro e V2 ⟨b, rfl, h1, h2⟩
  exact ⟨b, rfl, fun hb => .inl ⟨i, rfl, h1 hb⟩, fun hb => ⟨h.succ hlt, hJ hl _ _ (h2 (by simpa using hb))⟩⟩
 ·have e : i = xs.length := by have := (h.done hge).2; omega
  exact .inr ⟨rfl, e ▸ hs⟩
theorem g196 : ConP 196 qAV strV 1 := conG g240 x196
theorem c196 : ConC 196 qAV strV 1 := conC g196
end Go.Proofs
namespace Go.Proofs
open Go.Shelf
def Tryz.lays157_ren : Go.Shelf.Ren := ⟨fun | 157 => 259 | 229 => 261 | 199 => 262 | 261 => 263 | 311 => 264 | 312 => 265 | n => n, fun | 9 => 9 | 31 => 174 | 3 => 3 | 5 => 5 | 4 => 4 | 119 => 300 | 0 => 0 | 40 => 302 | 152 => 303 | 21 => 21 | 154 => 305 | 51 => 217 | 141 => 307 | 196 => 311 | 193 => 308 | 198 => 314 | 49 => 312 | 194 => 309 | 201 => 317 | 226 => 319 | 46 => 172 | 227 => 320 | n => n, fun | 0 => 0 | 6 => 1 | n => n⟩
theorem Tryz.lays157 : Go.Proofs.Lays.n157 Tryz.prog Tryz.lays157_ren := {
 mixed := by kernel_rfl
 f157 := Tryz.func259.trans (congrArg some (by kernel_rfl))
 f199 := Tryz.func262.trans (congrArg some (by kernel_rfl))
 f229 := Tryz.func261.trans (congrArg some (by kernel_rfl))
 f261 := Tryz.func263.trans (congrArg some (by kernel_rfl))
 f311 := Tryz.func264.trans (congrArg some (by kernel_rfl))
 f312 := Tryz.func265.trans (congrArg some (by kernel_rfl))
 t0 := Tryz.underlying0
 a0 := Tryz.isAgg0
 z0 := Tryz.sizeOf0
 v0 := Tryz.zeroValue0
 t3 := Tryz.underlying3
 a3 := Tryz.isAgg3
 z3 := Tryz.sizeOf3
 v3 := Tryz.zeroValue3
 t4 := Tryz.underlying4
 a4 := Tryz.isAgg4
 z4 := Tryz.sizeOf4
 v4 := Tryz.zeroValue4
 t5 := Tryz.underlying5
 a5 := Tryz.isAgg5
 z5 := Tryz.sizeOf5
 v5 := Tryz.zeroValue5
 t9 := Tryz.underlying9
 a9 := Tryz.isAgg9
 z9 := Tryz.sizeOf9
 v9 := Tryz.zeroValue9
 t21 := Tryz.underlying21
 a21 := Tryz.isAgg21
 z21 := Tryz.sizeOf21
 v21 := Tryz.zeroValue21
 t31 := Tryz.underlying174
 a31 := Tryz.isAgg174
 z31 := Tryz.sizeOf174
 v31 := Tryz.zeroValue174
 t40 := Tryz.underlying302
 a40 := Tryz.isAgg302
 z40 := Tryz.sizeOf302
 v40 := Tryz.zeroValue302
 t46 := Tryz.underlying172
 a46 := Tryz.isAgg172
 z46 := Tryz.sizeOf172
 v46 := Tryz.zeroValue172
 t49 := Tryz.underlying312
 a49 := Tryz.isAgg312
 z49 := Tryz.sizeOf312
 v49 := Tryz.zeroValue312
 t51 := Tryz.underlying217
 a51 := Tryz.isAgg217
 z51 := Tryz.sizeOf217
 v51 := Tryz.zeroValue217
 t119 := Tryz.underlying300
 a119 := Tryz.isAgg300
 z119 := Tryz.sizeOf300
 t141 := Tryz.underlying307
 a141 := Tryz.isAgg307
 z141 := Tryz.sizeOf307
 v141 := Tryz.zeroValue307
 t152 := Tryz.underlying303
 a152 := Tryz.isAgg303
 z152 := Tryz.sizeOf303
 v152 := Tryz.zeroValue303
 t154 := Tryz.underlying305
 a154 := Tryz.isAgg305
 z154 := Tryz.sizeOf305
 v154 := Tryz.zeroValue305
 t193 := Tryz.underlying308
 a193 := Tryz.isAgg308
 z193 := Tryz.sizeOf308
 v193 := Tryz.zeroValue308
 t194 := Tryz.underlying309
 a194 := Tryz.isAgg309
 z194 := Tryz.sizeOf309
 v194 := Tryz.zeroValue309
 t196 := Tryz.underlying311
 a196 := Tryz.isAgg311
 z196 := Tryz.sizeOf311
 v196 := Tryz.zeroValue311
 t198 := Tryz.underlying314
 a198 := Tryz.isAgg314
 z198 := Tryz.sizeOf314
 v198 := Tryz.zeroValue314
 t201 := Tryz.underlying317
 a201 := Tryz.isAgg317
 z201 := Tryz.sizeOf317
 v201 := Tryz.zeroValue317
 t226 := Tryz.underlying319
 a226 := Tryz.isAgg319
 z226 := Tryz.sizeOf319
 v226 := Tryz.zeroValue319
 t227 := Tryz.underlying320
 a227 := Tryz.isAgg320
 z227 := Tryz.sizeOf320
 v227 := Tryz.zeroValue320
 g0 := by kernel_rfl
 g6 := by kernel_rfl }
open Go.RowKit Go.Lib in
theorem Tryz.strings_Fields (s : ByteArray) (w : World) (hs : s.size < 4294967281) (hascii : ∀ (j : Nat) b, s.data.toList[j]? = some b -> b.toNat < 128) (htab : Lib.TabIs Tryz.prog w "strings.asciiSpace" .u8 Lib.asciiSpaceTab) :
  Calls Tryz.prog 259 #[.string s] w fun e w' =>
   e = .returned (.slice (some ⟨w.heap.size, 0, none⟩) (Lib.fields s.data.toList).length (Lib.fields s.data.toList).length) /\ w' = w.alloc (.cells ((Lib.fields s.data.toList).map fun l => Value.string ⟨l.toArray⟩).toArray 9) := Any.strings_Fields Tryz.lays157 (by kernel_rfl) (by kernel_rfl) s w hs hascii htab
end Go.Proofs
namespace Go.Proofs
open Go Go.Sx
attribute [local irreducible] Go.Sx.Tri
class Tab (V : Mem) : Prop where
 at_ : ∃ t fr, V 0 = some (.cells (Lib.asciiSpaceTab.map fun z => Value.int .u8 z).toArray t fr)
theorem Tab.sub {V V' : Mem} (h : Tab V) (hs : V.sub V') : Tab V' := by
 obtain ⟨t, fr, h⟩ := h.at_
 exact ⟨t, fr, hs _ _ h⟩
theorem Tab.is {V : Mem} {w : World} (h : Tab V) (hV : V.le w) : Lib.TabIs Tryz.prog w "strings.asciiSpace" .u8 Lib.asciiSpaceTab := by
 obtain ⟨t, fr, h⟩ := h.at_
 have hg : Tryz.prog.globalNamed "strings.asciiSpace" = some 0 := by kernel_rfl
 unfold Lib.TabIs World.var?
 rw [hg, Option.bind_some, hV _ _ h]
theorem frm_new {V : Mem} {w : World} (hw : V.le w) (o : Obj) : V w.heap.size = none /\ Frm V w (V.set w.heap.size o) (w.alloc o) := by
 have hn : V w.heap.size = none := by
  cases hc : V w.heap.size with
  | none => rfl
  | some o => have := (Array.getElem?_eq_some_iff.1 (hw _ o hc)).1; omega
 refine ⟨hn, by simp, fun b o hb => ?_, fun b hb _ => Go.RowKit.Below.heap_alloc _ _ _ hb, fun b hb => ?_, rfl, rfl⟩
 ·by_cases e : b = w.heap.size
  ·subst e; rw [Mem.set_same] at hb; rw [<- hb]; exact World.alloc_heap_new _ _
  ·rw [Mem.set_ne e] at hb
   have hlt := (Array.getElem?_eq_some_iff.1 (hw b o hb)).1
   exact (Go.RowKit.Below.heap_alloc _ _ _ hlt).trans (hw b o hb)
 ·by_cases e : b = w.heap.size
  ·exact .inr (by omega)
  ·rw [Mem.set_ne e] at hb; exact .inl hb
def qIR : ByteArray := qAi [97, 110, 100, 32, 98, 111, 111, 108, 32, 98, 111, 117, 110, 100, 32, 100, 101, 115, 99, 32, 101, 108, 115, 101, 32, 102, 97, 108, 115, 101, 32, 105, 102, 32, 105, 110, 116, 32, 105, 110, 118, 97, 114, 105, 97, 110, 116, 32, 108, 111, 99, 97, 108, 32, 108, 111, 103, 32, 109, 97, 120, 32, 109, 101, 97, 115, 117, 114, 101, 32, 109, 105, 110, 32, 110, 101, 119, 32, 110, 105, 108, 32, 110, 111, 116, 32, 111, 112, 32, 111, 114, 32, 112, 111, 116, 101, 110, 116, 105, 97, 108, 32, 112, 114, 111, 99, 32, 114, 101, 116, 117, 114, 110, 32, 114, 117, 108, 101, 32, 115, 99, 114, 105, 112, 116, 32, 115, 111, 114, 116, 32, 115, 112, 101, 99, 32, 116, 104, 105, 115, 32, 116, 114, 117, 101, 32, 116, 121, 112, 101, 32, 118, 97, 114, 32, 119, 104, 105, 108, 101]
def qBP : List ByteArray := (Lib.fields qIR.data.toList).map fun l => ⟨l.toArray⟩
theorem kwText_size : qIR.size = 160 := by kernel_rfl
theorem qGm : qBP.length = 31 := by kernel_rfl
theorem c242 {V : Mem} (ht : Tab V) : Tri Tryz.prog 242 #[] V fun e V' => ∃ b, V b = none /\ e = .returned (.slice (sa b) 31 31) /\ V' = V.set b (.cells (qBP.map Value.string).toArray 9 (0, 0)) := by
 refine x242 ?_
 unfold w242
 refine Tri.mono (R := fun e V' => ∃ b, V b = none /\ e = .returned (.slice (sa b) 31 31) /\ V' = V.set b (.cells (qBP.map Value.string).toArray 9 (0, 0))) ?_ ?_
 ·unfold Tri
  intro w hw
  refine qCI (Tryz.strings_Fields qIR w (by rw [kwText_size]; decide) ?_ (ht.is hw)) ?_
  ·have hall : (qIR.data.toList.all fun b => decide (b.toNat < 128)) = true := by kernel_rfl
   intro j b hb
   have := List.all_eq_true.1 hall b (List.mem_of_getElem? hb)
   simpa using this
  ·rintro e w' ⟨rfl, rfl⟩
   obtain ⟨hn, hf⟩ := frm_new hw (.cells (qBP.map Value.string).toArray 9)
   refine ⟨_, ⟨w.heap.size, hn, ?_, rfl⟩, ?_⟩
   ·rw [show (Lib.fields qIR.data.toList).length = 31 by kernel_rfl]
   ·have e : ((Lib.fields qIR.data.toList).map fun l => Value.string ⟨l.toArray⟩) = qBP.map Value.string := by
     unfold qBP; rw [List.map_map]; rfl
    rw [e]; exact hf
 ·rintro e V' ⟨b, hb, rfl, rfl⟩
  exact ⟨⟨some ⟨b, 0, none⟩, 31, 31⟩, rfl, b, hb, rfl, rfl⟩
theorem c260 {V : Mem} {s : ByteArray} : PP 260 [.string s] V (.bool false) := by
 refine x260 ?_
 unfold w260
 simp
theorem c258 {V : Mem} {s : ByteArray} : PP 258 [.string s] V (.bool false) := by
 refine x258 ?_
 unfold w258
 simp
def ltB (s t : ByteArray) : Bool := Op.bytesLess s.toList t.toList
theorem c257 {V : Mem} {s t : ByteArray} : PP 257 [.string s, .string t] V (.bool (ltB s t)) := by
 refine x257 ?_
 unfold w257
 refine c260.call ⟨_, rfl, fun h => ?_, fun _ => ⟨rfl, rfl⟩⟩
 cases h
theorem bl_trans : ∀ {a b c : List UInt8}, Op.bytesLess a b = true -> Op.bytesLess b c = true -> Op.bytesLess a c = true
 | _, [], _, h, _ => by simp [Op.bytesLess] at h
 | _, _ :: _, [], _, k => by simp [Op.bytesLess] at k
 | [], _ :: _, _ :: _, _, _ => rfl
 | a :: x, b :: y, c :: z, h, k => by
  simp only [Op.bytesLess, Bool.or_eq_true, decide_eq_true_eq, Bool.and_eq_true, beq_iff_eq] at h k ⊢
  rcases h with h | ⟨rfl, h⟩
  ·rcases k with k | ⟨rfl, k⟩
   ·left; rw [UInt8.lt_iff_toNat_lt] at *; omega
   ·exact .inl h
  ·rcases k with k | ⟨rfl, k⟩
   ·exact .inl k
   ·exact .inr ⟨rfl, bl_trans h k⟩
theorem qHt {a b c : ByteArray} (h : ltB a b = true) (k : ltB b c = true) : ltB a c = true := bl_trans h k
theorem bl_irrefl : ∀ l : List UInt8, Op.bytesLess l l = false
 | [] => rfl
 | a :: l => by
  have h1 : ¬ (a < a) := by rw [UInt8.lt_iff_toNat_lt]; omega
  simp [Op.bytesLess, bl_irrefl l, h1]
theorem ltB_irrefl (a : ByteArray) : ltB a a = false := bl_irrefl _
def qJl : List ByteArray -> Bool
 | a :: b :: l => ltB a b && qJl (b :: l)
 | _ => true
theorem qDU : ∀ {l : List ByteArray}, qJl l = true -> ∀ (i j : Nat) (x y : ByteArray), i < j -> l[i]? = some x -> l[j]? = some y -> ltB x y = true
 | [], _, i, j, x, y, _, hx, _ => by simp at hx
 | [a], _, i, j, x, y, hij, hx, hy => by
  have := (List.getElem?_eq_some_iff.1 hy).1
  simp only [List.length_singleton] at this; omega
 | a :: b :: l, h, i, j, x, y, hij, hx, hy => by
  simp only [qJl, Bool.and_eq_true] at h
  cases j with
  | zero => omega
  | succ j =>
   rw [List.getElem?_cons_succ] at hy
   cases i with
   | succ i => rw [List.getElem?_cons_succ] at hx; exact qDU h.2 i j x y (by omega) hx hy
   | zero =>
    simp only [List.getElem?_cons_zero, Option.some.injEq] at hx; subst hx
    cases j with
    | zero => simp only [List.getElem?_cons_zero, Option.some.injEq] at hy; subst hy; exact h.1
    | succ j => exact qHt h.1 (qDU h.2 0 (j + 1) b y (by omega) rfl hy)
theorem qAo.shr1 {V : Mem} {vals : Operand -> Value} {t ty : TypeId} {n : Int} (hv : vals (.tmp 19) = .int .u64 n) (hv2 : vals (.const (.int .u64 1)) = .int .u64 1) {q : Value -> Mem -> Prop} (hq : q (.int .u64 (n / 2)) V) :
  qAo Tryz.prog (.binOp .shr t (.tmp 19) (.const (.int .u64 1)) t) ty vals V q := by
 intro w hw
 refine ⟨_, w, V, ?_, Frm.refl hw, hq⟩
 have e : Op.shift .shr .u64 n .u64 1 = pure (.int .u64 (n / 2)) := by
  unfold Op.shift
  rw [if_neg (by decide)]
  show pure (Value.int .u64 (n.fdiv (2 ^ 1))) = _
  rw [Int.fdiv_eq_ediv_of_nonneg _ (by decide)]
  rfl
 unfold execOp
 simp only [hv, hv2]
 simp [eqGuard, binOp_shr, e]
theorem qDE {xs : List ByteArray} {s : ByteArray} : hasS xs s = true ↔ s ∈ xs := by
 unfold hasS
 rw [List.any_eq_true]
 exact ⟨fun ⟨x, hx, e⟩ => by rw [decide_eq_true_eq] at e; exact e ▸ hx, fun h => ⟨s, h, by simp⟩⟩
def kwIx (s : ByteArray) : Bool := hasS qBP s
theorem kwIx_eq (s : ByteArray) : kwIx s = isKw s := by
 have h1 : (qBP.all fun x => qIS.any fun y => decide (y = x)) = true := by kernel_rfl
 have h2 : (qIS.all fun x => qBP.any fun y => decide (y = x)) = true := by kernel_rfl
 unfold kwIx isKw
 rw [Bool.eq_iff_iff, qDE, qDE]
 constructor
 ·intro h
  exact qDE.1 (List.all_eq_true.1 h1 s h)
 ·intro h
  exact qDE.1 (List.all_eq_true.1 h2 s h)
theorem c241 {V : Mem} {l : Sl} {xs : List ByteArray} {s : ByteArray} (h : qAd V l 1 (xs.map fun x => [vS x])) (hs : qJl xs = true) (hlen : xs.length <= 1000) :
  Tri Tryz.prog 241 #[l.v, .string s] V fun e V' => ∃ n : Int, e = .returned (.tuple #[.int .i64 n, .bool (hasS xs s)]) /\ V' = V := by
 refine x241 ?_
 unfold w241
 have hn := h.n_eq
 have hc := h.cap
 have hf := h.fit
 refine ⟨fun n ys V1 => ∃ i j : Nat, ys = [.int .i64 i, .int .i64 j] /\ V1 = V /\ i <= j /\ j <= xs.length /\ n = j - i /\ (∀ (k : Nat) x, k < i -> xs[k]? = some x -> ltB x s = true) /\ (∀ (k : Nat) x, j <= k -> xs[k]? = some x -> ltB x s = false), xs.length,
  ⟨0, xs.length, by rw [hn]; rfl, rfl, by omega, by omega, by omega, fun k x hk => by omega, fun k x hk hx => by have := (List.getElem?_eq_some_iff.1 hx).1; omega⟩, ?_⟩
 rintro n V1 v2 v3 ⟨i, j, hy, rfl, hij, hj, rfl, hlo, hhi⟩ J hJ
 simp only [List.cons.injEq, Value.int.injEq, true_and, and_true] at hy
 obtain ⟨rfl, rfl⟩ := hy
 refine ⟨fun hlt => ?_, fun hge => ?_⟩
 ·refine ⟨⟨by omega, by omega⟩, ⟨by show (0 : Int) <= _; omega, by show _ <= (18446744073709551615 : Int); omega⟩, ?_⟩
  refine qAo.shr1 (n := (i : Int) + j) rfl rfl ⟨_, rfl, ⟨by omega, by omega⟩, ?_⟩
  have hm : ((i : Int) + j) / 2 = ((i + j) / 2 : Nat) := by omega
  rw [hm]
  obtain ⟨x, hmx, hx, hd, hl, hp, h0, hrow⟩ := h.get (i := (i + j) / 2) (by omega)
  refine ⟨hp, h0, by omega, x, hrow, c257.call ⟨_, rfl, fun hb => ⟨⟨by omega, by omega⟩, ?_⟩, fun hb => ?_⟩⟩
  ·refine hJ (j - ((i + j) / 2 + 1)) _ _ (by omega) ⟨(i + j) / 2 + 1, j, rfl, rfl, by omega, hj, rfl, fun k y hk hy => ?_, hhi⟩
   rcases Nat.lt_or_ge k ((i + j) / 2) with h' | h'
   ·exact qHt (qDU hs k _ y x h' hy hx) hb
   ·have : k = (i + j) / 2 := by omega
    subst this; rw [hx] at hy; cases hy; exact hb
  ·refine hJ ((i + j) / 2 - i) _ _ (by omega) ⟨i, (i + j) / 2, rfl, rfl, by omega, by omega, rfl, hlo, fun k y hk hy => ?_⟩
   cases hz : ltB y s with
   | false => rfl
   | true =>
    rcases Nat.lt_or_ge ((i + j) / 2) k with h' | h'
    ·exact absurd (qHt (qDU hs _ k x y h' hx hy) hz) hb
    ·have : k = (i + j) / 2 := by omega
     subst this; rw [hx] at hy; cases hy; exact absurd hz hb
 ·have hij' : i = j := by omega
  subst hij'
  have key : s ∈ xs -> xs[i]? = some s := fun hm => by
   obtain ⟨k, hk, e⟩ := List.mem_iff_getElem.1 hm
   have hk' : xs[k]? = some s := by rw [List.getElem?_eq_getElem hk, e]
   rcases Nat.lt_trichotomy k i with h' | h' | h'
   ·have := hlo k s h' hk'; rw [ltB_irrefl] at this; cases this
   ·subst h'; exact hk'
   ·have hi' : i < xs.length := by omega
    have h2 := qDU hs i k xs[i] s h' (List.getElem?_eq_getElem hi') hk'
    have h3 := hhi i xs[i] (Nat.le_refl _) (List.getElem?_eq_getElem hi')
    rw [h2] at h3; cases h3
  refine ⟨fun hlt => ?_, fun hge2 => ?_⟩
  ·obtain ⟨x, hmx, hx, hd, hl, hp, h0, hrow⟩ := h.get (i := i) hlt
   refine ⟨hp, h0, hlt, x, hrow, fun e => ?_, fun e => ⟨hp, h0, hlt, x, hrow, c258.call ⟨_, rfl, fun hb => ?_, fun _ => ?_⟩⟩⟩
   ·subst e
    exact ⟨i, by rw [qDE.2 hmx], rfl⟩
   ·cases hb
   ·refine ⟨i, ?_, rfl⟩
    have : hasS xs s = false := by
     cases hz : hasS xs s with
     | false => rfl
     | true => have := key (qDE.1 hz); rw [hx] at this; exact absurd (by simpa using this) e
    rw [this]
  ·refine ⟨i, ?_, rfl⟩
   have : hasS xs s = false := by
    cases hz : hasS xs s with
    | false => rfl
    | true => have := (List.getElem?_eq_some_iff.1 (key (qDE.1 hz))).1; omega
   rw [this]
theorem c204 {V : Mem} {s : ByteArray} (ht : Tab V) : PP 204 [.string s] V (.bool (isKw s)) := by
 refine Pur.mk ?_
 refine x204 ?_
 unfold w204
 refine Tri.mono (c242 ht) ?_
 rintro _ V' ⟨b, hb, rfl, rfl⟩
 refine ⟨⟨some ⟨b, 0, none⟩, 31, 31⟩, rfl, ?_⟩
 have hrows : qAd (V.set b (.cells ((qBP.map Value.string).toArray) 9 (0, 0))) ⟨some ⟨b, 0, none⟩, 31, 31⟩ 1 (qBP.map fun x => [vS x]) :=
  qAd.cells (xs := qBP) (row := fun x => [vS x]) mss (by simp; rfl) (fun _ => rfl) qGm.symm (Nat.le_of_ble_eq_true rfl)
 refine Tri.mono (c241 hrows (by kernel_rfl) (by rw [qGm]; decide)) ?_
 rintro _ V2 ⟨n, rfl, rfl⟩
 exact ⟨n, _, rfl, by rw [<- kwIx_eq]; rfl, Mem.sub_new hb _⟩
theorem c152 {V : Mem} [Tab V] {s : ByteArray} : PP 152 [.string s] V (.bool (qAz s)) := by
 refine x152 ?_
 unfold w152
 refine ⟨fun h => ?_, fun h => ⟨fun h1 => ?_, fun h1 => ?_⟩⟩
 ·subst h; exact ⟨rfl, rfl⟩
 ·have : ¬ s.size <= 40 := by omega
  simp [qAz, this]
 ·have h0 : s.size ≠ 0 := fun e => h (by
   have : s.data = #[] := Array.eq_empty_of_size_eq_zero e
   cases s; simp only at this; subst this; rfl)
  refine ⟨by omega, c203.call ⟨_, rfl, fun h2 => ?_, fun h2 => ?_⟩⟩
  ·refine (c204 inferInstance).call ⟨_, rfl, fun hk => ?_, fun hk => ?_⟩
   ·simp [qAz, hk]
   ·refine qAA s.size (fun i V1 => V1 = V /\ ∀ j : Nat, j < i -> qEa (qAU s j) = true) ⟨rfl, by simp⟩ ?_
    rintro i b _ J hi ⟨rfl, hj⟩ hJ
    refine ⟨fun hlt => ⟨by omega, c203.call ⟨_, rfl, fun hw => ?_, fun hw => ⟨⟨by omega, by omega⟩, hJ (by omega) _ _ ⟨rfl, fun j hj' => ?_⟩⟩⟩⟩, fun hge => ?_⟩
    ·rw [cls_word] at hw
     have : ¬ ∀ i : Nat, i < s.size -> qEa (qAU s i) = true := fun hf => by rw [hf i (by omega)] at hw; cases hw
     simp [qAz, this]
    ·rcases Nat.lt_succ_iff_lt_or_eq.1 hj' with h' | rfl
     ·exact hj j h'
     ·rw [cls_word] at hw; simpa using hw
    ·have a2 : s.size <= 40 := by omega
     have a3 : ∀ i : Nat, i < s.size -> qEa (qAU s i) = true := fun j hj' => hj j (by omega)
     have : qAz s = !isKw s := by unfold qAz; rw [decide_eq_true ⟨h0, a2, (cls_two _).1 h2, a3⟩]; simp
     simp [this, hk]
  ·rw [cls_two] at h2
   have : qBY (qAU s 0) = false := by simpa using h2
   simp [qAz, this]
/-! Nodes. -/
def qAM (op : Int) : Int := if (1 <= op /\ op <= 4) ∨ op = 6 then 0 else if op = 5 ∨ op = 8 ∨ op = 18 ∨ op = 24 then 1 else if op = 7 then -1 else if op = 21 then 3 else if 9 <= op /\ op <= 23 then 2 else -2
theorem c148 {V : Mem} {op : Int} : PP 148 [.int .i64 op] V (.int .i64 (qAM op)) := by
 refine x148 ?_
 unfold w148
 have key : ∀ n : Int, qAM op = n -> Ending.returned (.int .i64 n) = Ending.returned (.int .i64 (qAM op)) := fun n h => by rw [h]
 unfold qAM at key
 repeat' (first | intro _ | apply And.intro)
 all_goals first | rfl | (refine key _ ?_; grind)
theorem c134 {V : Mem} {op : Int} : PP 134 [.int .i64 op] V (.tuple #[.int .i64 (if qAM op = -2 then 2 else qAM op), .bool (decide (qAM op ≠ -2))]) := by
 refine x134 ?_
 unfold w134
 have key : ∀ (n : Int) (b : Bool), (if qAM op = -2 then 2 else qAM op) = n -> decide (qAM op ≠ -2) = b -> Ending.returned (.tuple #[.int .i64 n, .bool b]) = Ending.returned (.tuple #[.int .i64 (if qAM op = -2 then 2 else qAM op), .bool (decide (qAM op ≠ -2))]) := fun n b h k => by rw [h, k]
 unfold qAM at key
 repeat' (first | intro _ | apply And.intro)
 all_goals first | rfl | (refine key _ _ ?_ ?_ <;> grind)
def sThis : ByteArray := qAi [116, 104, 105, 115]
def nmB (op : Int) (s : ByteArray) : Bool := if op = 4 then decide (s = sThis) || qAz s else if op = 5 ∨ op = 6 ∨ op = 7 then qAz s else decide (s = qAi [])
def numB (op n : Int) : Bool := if op = 1 then decide (0 <= n /\ n <= 1099511627776) else if op = 2 then decide (n = 0 ∨ n = 1) else decide (n = 0)
def qDb (op n : Int) (s : ByteArray) (len : Int) : Bool := decide (qAM op ≠ -2 /\ (0 <= qAM op -> len = qAM op) /\ (qAM op = -1 -> len <= 6)) && nmB op s && numB op n
theorem c149 {V : Mem} {e : E} : PP 149 [e.v] V (.bool (nmB e.op e.s)) := by
 refine x149 ?_
 unfold w149
 have key : ∀ b : Bool, nmB e.op e.s = b -> Ending.returned (.bool b) = Ending.returned (.bool (nmB e.op e.s)) := fun n h => by rw [h]
 unfold nmB sThis at key
 repeat' (first | refine c75.call ⟨_, rfl, ?_⟩ | intro _ | apply And.intro)
 all_goals first | rfl | (refine key _ ?_; grind)
theorem c136 {V : Mem} [Tab V] {e : E} : PP 136 [e.v] V (.bool (nmB e.op e.s && numB e.op e.n)) := by
 refine x136 ?_
 unfold w136
 have key : ∀ b : Bool, (nmB e.op e.s && numB e.op e.n) = b -> Ending.returned (.bool b) = Ending.returned (.bool (nmB e.op e.s && numB e.op e.n)) := fun n h => by rw [h]
 unfold nmB numB sThis at key
 repeat' (first | refine c152.call ⟨_, rfl, ?_⟩ | intro _ | apply And.intro)
 all_goals first | rfl | (refine key _ ?_; grind)
theorem c97 {V : Mem} {e : E} {len : Int} (hl : (e.l.n : Int) = len) : PP 97 [e.v] V (.bool (qDb e.op e.n e.s len)) := by
 refine x97 ?_
 unfold w97
 rw [hl]
 have key : ∀ b : Bool, qDb e.op e.n e.s len = b -> Ending.returned (.bool b) = Ending.returned (.bool (qDb e.op e.n e.s len)) := fun n h => by rw [h]
 unfold qDb numB at key
 refine c148.call ⟨_, rfl, ?_⟩
 repeat' (first | refine (c149 (e := e)).call ⟨_, rfl, ?_⟩ | intro _ | apply And.intro)
 all_goals first | rfl | (refine key _ ?_; grind)
mutual
def okE (d : Int) : E -> Bool | .mk op n s _ k => decide (d <= 60) && qDb op n s k.length && okEs (d + 1) k
def okEs (d : Int) : List E -> Bool | [] => true | x :: xs => okE d x && okEs d xs
end
mutual
def szE : E -> Nat | .mk _ _ _ _ k => 1 + szEs k
def szEs : List E -> Nat | [] => 0 | x :: xs => szE x + szEs xs
end
mutual
def cntE (d : Int) : E -> Int | .mk op n s _ k => if 60 < d then 1001 else if qDb op n s k.length = true then qEj (d + 1) 1 k else 1001
def qEj (d acc : Int) : List E -> Int | [] => acc | x :: xs => if 1000 < acc + cntE d x then acc + cntE d x else qEj d (acc + cntE d x) xs
end
mutual
def vE (left d : Int) : E -> Bool × Int | .mk op n s _ k => if 0 <= left - 1 /\ d <= 60 /\ qDb op n s k.length = true then vEs (left - 1) (d + 1) k else (false, left - 1)
def vEs (left d : Int) : List E -> Bool × Int | [] => (true, left) | x :: xs => if (vE left d x).1 = true then vEs (vE left d x).2 d xs else (false, (vE left d x).2)
end
def qBx (e : E) : Bool := decide (okE 1 e = true /\ szE e <= 1000)
mutual
theorem vE_ok : ∀ (left d : Int) (e : E), ((vE left d e).1 = true ↔ okE d e = true /\ (szE e : Int) <= left) /\ ((vE left d e).1 = true -> (vE left d e).2 = left - szE e)
 | left, d, .mk op n s l k => by
  have ih := vEs_ok (left - 1) (d + 1) k
  unfold vE okE szE
  split
  ·rename_i h
   have := ih
   grind
  ·rename_i h
   grind
theorem vEs_ok : ∀ (left d : Int) (k : List E), 0 <= left -> ((vEs left d k).1 = true ↔ okEs d k = true /\ (szEs k : Int) <= left) /\ ((vEs left d k).1 = true -> (vEs left d k).2 = left - szEs k)
 | left, d, [], h => by simp [vEs, okEs, szEs, h]
 | left, d, x :: xs, h => by
  have h1 := vE_ok left d x
  have h2 := vEs_ok (vE left d x).2 d xs
  unfold vEs okEs szEs
  split
  ·rename_i hx
   have e := h1.2 hx
   have k := h1.1.1 hx
   have h2 := h2 (by omega)
   grind
  ·grind
end
mutual
theorem cntE_ok : ∀ (d : Int) (e : E), 1 <= cntE d e /\ (cntE d e <= 1000 ↔ okE d e = true /\ szE e <= 1000) /\ (cntE d e <= 1000 -> cntE d e = szE e) /\ cntE d e <= 1001 + 1000 * (61 - d).toNat
 | d, .mk op n s l k => by
  have ih := cntEs_ok (d + 1) 1 k (by omega) (by omega)
  unfold cntE okE szE
  split
  ·grind
  ·split
   ·have : (61 - d).toNat = (61 - (d + 1)).toNat + 1 := by omega
    grind
   ·grind
theorem cntEs_ok : ∀ (d acc : Int) (k : List E), 1 <= acc -> acc <= 1000 -> acc <= qEj d acc k /\ (qEj d acc k <= 1000 ↔ okEs d k = true /\ acc + szEs k <= 1000) /\ (qEj d acc k <= 1000 -> qEj d acc k = acc + szEs k) /\ qEj d acc k <= 2001 + 1000 * (61 - d).toNat
 | d, acc, [], h, h' => by simp [qEj, okEs, szEs]; omega
 | d, acc, x :: xs, h, h' => by
  have h1 := cntE_ok d x
  have h2 := cntEs_ok d (acc + cntE d x) xs (by omega)
  unfold qEj okEs szEs
  split
  ·grind
  ·have h2 := h2 (by omega)
   grind
end
theorem validE_cnt (e : E) : decide (cntE 1 e <= 1000) = qBx e := by
 have := cntE_ok 1 e
 unfold qBx
 grind
theorem validE_v (e : E) : (vE 1000 1 e).1 = qBx e := by
 have := (vE_ok 1000 1 e).1
 unfold qBx
 grind
theorem vE_bound {left d : Int} {e : E} (h : (vE left d e).1 = true) : 0 <= (vE left d e).2 /\ (vE left d e).2 <= left := by
 have := vE_ok left d e
 grind
theorem cntE_eq (d : Int) (e : E) : cntE d e = if 60 < d then 1001 else if qDb e.op e.n e.s e.k.length = true then qEj (d + 1) 1 e.k else 1001 := by
 cases e; unfold cntE; rfl
theorem vE_eq (left d : Int) (e : E) : vE left d e = if 0 <= left - 1 /\ d <= 60 /\ qDb e.op e.n e.s e.k.length = true then vEs (left - 1) (d + 1) e.k else (false, left - 1) := by
 cases e; unfold vE; rfl
theorem cntEs_cons (d acc : Int) (x : E) (xs : List E) : qEj d acc (x :: xs) = if 1000 < acc + cntE d x then acc + cntE d x else qEj d (acc + cntE d x) xs := by rw [qEj]
theorem vEs_cons (left d : Int) (x : E) (xs : List E) : vEs left d (x :: xs) = if (vE left d x).1 = true then vEs (vE left d x).2 d xs else (false, (vE left d x).2) := by rw [vEs]
theorem cntEs_nil (d acc : Int) : qEj d acc [] = acc := by rw [qEj]
theorem vEs_nil (left d : Int) : vEs left d [] = (true, left) := by rw [vEs]
theorem c63 {V : Mem} : ∀ e : E, E.Ok V e -> ∀ d : Int, 0 <= d -> d <= 61 -> PP 63 [e.v, .int .i64 d] V (.int .i64 (cntE d e)) := by
 intro e
 induction e using E.ind with
 | h e ih =>
 intro ho d hd0 hd
 have hr := ho.rows
 refine x63 ?_
 unfold w63
 refine ⟨fun h => ?_, fun h => (c97 (e := e) rfl).call ⟨_, rfl, fun hn => ?_, fun hn => ?_⟩⟩
 ·rw [cntE_eq, if_pos h]; exact ⟨rfl, rfl⟩
 ·rw [hr.n_eq] at hn
  rw [cntE_eq, if_neg h, if_pos hn]
  refine loop3s qFo e.k.length (fun i acc V1 => V1 = V /\ 1 <= acc /\ acc <= 1000 /\ qEj (d + 1) 1 e.k = qEj (d + 1) acc (e.k.drop i)) ⟨rfl, by omega, by omega, rfl⟩ ?_
  rintro i acc c _ J hi ⟨rfl, ha0, ha, he⟩ hJ
  refine ⟨fun hlt => ?_, fun hge => ?_⟩
  ·obtain ⟨x, hm, hx, hdr, hl, hp, hz, hrow⟩ := hr.get hlt
   have hc := cntE_ok (d + 1) x
   rw [hdr, cntEs_cons] at he
   refine ⟨hp, hz, hlt, _, _, _, _, hrow, ⟨by omega, by omega⟩, (ih x hm (ho.kids x hm) (d + 1) (by omega) (by omega)).call ⟨_, rfl, ⟨by omega, by omega⟩, fun hb => ?_, fun hb => ⟨hr.succ hlt, ?_⟩⟩⟩
   ·rw [if_pos hb] at he; rw [he]; exact ⟨rfl, rfl⟩
   ·rw [if_neg hb] at he; exact hJ hl _ _ _ ⟨rfl, by omega, by omega, he⟩
  ·rw [(hr.done hge).1, cntEs_nil] at he; rw [he]; exact ⟨rfl, rfl⟩
 ·rw [hr.n_eq] at hn
  rw [cntE_eq, if_neg h, if_neg hn]; exact ⟨rfl, rfl⟩
theorem c29 {V : Mem} {e : E} (h : E.Ok V e) : PP 29 [e.v] V (.bool (qBx e)) := by
 refine x29 ?_
 unfold w29
 refine (c63 e h 1 (by omega) (by omega)).call ⟨_, rfl, ?_⟩
 rw [validE_cnt]; exact ⟨rfl, rfl⟩
theorem c135 {V : Mem} {b t : Nat} {n : Int} (h : V b = some (cell (.int .i64 n) t)) (h0 : -1000 <= n) (h1 : n <= 100000) :
  Tri Tryz.prog 135 #[pv b] V fun e V' => e = .returned (.bool (decide (0 <= n - 1))) /\ V' = V.set b (cell (.int .i64 (n - 1)) t) := by
 refine x135 ?_
 unfold w135
 refine ⟨by simp, by simp, _, qBt h, ⟨by omega, by omega⟩, by simp, by simp, StT.cell h ⟨by simp, by simp, _, qBt mss, rfl, rfl⟩⟩
set_option maxRecDepth 10000 in
theorem c86 {V0 : Mem} [hT : Tab V0] {b t : Nat} (hb : V0 b = none) : ∀ e : E, E.Ok V0 e -> ∀ (V : Mem), V0.sub V -> ∀ left d : Int, V b = some (cell (.int .i64 left) t) -> 0 <= left -> left <= 1000 -> 0 <= d -> d <= 61 ->
    Tri Tryz.prog 86 #[e.v, .int .i64 d, pv b] V fun r V' => r = .returned (.bool (vE left d e).1) /\ V' = V.set b (cell (.int .i64 (vE left d e).2) t) := by
  intro e
  induction e using E.ind with
  | h e ih =>
  intro ho V hV left d hl hl0 hl1 hd0 hd
  have hr := ho.rows
  have hn := hr.n_eq
  refine Tri.less (x86 ?_)
  unfold w86
  refine c134.call ⟨_, _, rfl, Tri.mono (c135 hl (by omega) (by omega)) ?_⟩
  rintro _ _ ⟨rfl, rfl⟩
  refine ⟨_, rfl, ?_⟩
  -- no
  have no : ¬ (0 <= left - 1 /\ d <= 60 /\ qDb e.op e.n e.s e.k.length = true) -> ∃ W, (Ending.returned (.bool false) = Ending.returned (.bool (vE left d e).1) /\ W = V.set b (cell (.int .i64 (vE left d e).2) t)) /\ W.sub (V.set b (cell (.int .i64 (left - 1)) t)) := by
    intro h
    rw [vE_eq, if_neg h]
    exact ⟨_, ⟨rfl, rfl⟩, Mem.sub.refl _⟩
  -- yes
  have yes : (0 <= left - 1 /\ d <= 60 /\ qDb e.op e.n e.s e.k.length = true) -> qAn [(.int .i64 d)] 3 (V.set b (cell (.int .i64 (left - 1)) t)) fun v10 V4 =>
        qAn [(pv b)] 157 V4 fun v11 V5 =>
        Tri Tryz.prog 57 #[(.slice e.l.p e.l.n e.l.c), (.func (.func 137) #[] #[(.pointer (qAa v10 0)), (.pointer (qAa v11 0))])] V5 fun r V6 => ∃ v12 : Bool, r = .returned (.bool v12) /\
        ∃ W, (Ending.returned (.bool (!v12)) = Ending.returned (.bool (vE left d e).1) /\ W = V.set b (cell (.int .i64 (vE left d e).2) t)) /\ W.sub V6 := by
    intro h b1 hb1 b2 hb2
    rw [vE_eq, if_pos h]
    have n1 : b ≠ b1 := fun e => by subst e; rw [Mem.set_same] at hb1; cases hb1
    have n2 : b1 ≠ b2 := fun e => by subst e; rw [Mem.set_same] at hb2; cases hb2
    have n3 : b ≠ b2 := fun e => by subst e; rw [Mem.set_ne n1, Mem.set_same] at hb2; cases hb2
    rw [Mem.set_ne (fun e => n1 e.symm)] at hb1
    rw [Mem.set_ne (fun e => n2 e.symm), Mem.set_ne (fun e => n3 e.symm)] at hb2
    have v1 : V0 b1 = none := by cases h' : V0 b1 with
      | none => rfl
      | some x => rw [hV _ _ h'] at hb1; cases hb1
    have v2 : V0 b2 = none := by cases h' : V0 b2 with
      | none => rfl
      | some x => rw [hV _ _ h'] at hb2; cases hb2
    let M : Int -> Mem := fun lf => ((V.set b (cell (.int .i64 lf) t)).set b1 (cell (.int .i64 d) 3)).set b2 (cell (pv b) 157)
    have hM : ∀ lf, V0.sub (M lf) := fun lf => ((hV.set hb _).set v1 _).set v2 _
    have hMb : ∀ lf, M lf b = some (cell (.int .i64 lf) t) := fun lf => by simp only [M]; rw [Mem.set_ne n3, Mem.set_ne n1, Mem.set_same]
    have hM1 : ∀ lf, M lf b1 = some (cell (.int .i64 d) 3) := fun lf => by simp only [M]; rw [Mem.set_ne n2, Mem.set_same]
    have hM2 : ∀ lf, M lf b2 = some (cell (pv b) 157) := fun lf => by simp only [M]; rw [Mem.set_same]
    have hMs : ∀ lf lf', (M lf).set b (cell (.int .i64 lf') t) = M lf' := fun lf lf' => by
      simp only [M]
      rw [Mem.set_comm _ (fun e => n3 e.symm), Mem.set_comm _ (fun e => n1 e.symm), Mem.set_set]
    have hW : ∀ lf, (V.set b (cell (.int .i64 lf) t)).sub (M lf) := fun lf => by
      refine ((Mem.sub.refl _).set ?_ _).set ?_ _
      · rw [Mem.set_ne (fun e => n1 e.symm)]; exact hb1
      · rw [Mem.set_ne (fun e => n3 e.symm)]; exact hb2
    refine Tri.mono (g57 (l := e.l) (xs := e.k) (first := []) (caps := [pv b1, pv b2]) Tryz.call137
      (fun i V1 => ∃ lf, V1 = M lf /\ 0 <= lf /\ lf <= 1000 /\ vEs (left - 1) (d + 1) e.k = vEs lf (d + 1) (e.k.drop i)) (fun i V1 => ∃ lf, V1 = M lf /\ vEs (left - 1) (d + 1) e.k = (false, lf)) ?_ ⟨left - 1, rfl, by omega, by omega, rfl⟩ ?_) ?_
    · rintro i _ ⟨lf, rfl, -⟩; exact hr.sub (hM lf)
    · rintro i x _ hx ⟨lf, rfl, hf0, hf1, he⟩
      have hm := List.mem_of_getElem? hx
      have hil := (List.getElem?_eq_some_iff.1 hx).1
      have hdr : e.k.drop i = x :: e.k.drop (i + 1) := by rw [List.drop_eq_getElem_cons hil, (List.getElem?_eq_some_iff.1 hx).2]
      rw [hdr, vEs_cons] at he
      refine x137 ?_
      unfold w137
      refine ⟨_, qBt (hM1 lf), ⟨by omega, by omega⟩, _, qBt (hM2 lf), Tri.mono (ih x hm (ho.kids x hm) (M lf) (hM lf) lf (d + 1) (hMb lf) hf0 hf1 (by omega) (by omega)) ?_⟩
      rintro _ _ ⟨rfl, rfl⟩
      refine ⟨_, rfl, _, rfl, fun hb => ?_, fun hb => ?_⟩
      · have hb : (vE lf (d + 1) x).1 = false := by simpa using hb
        rw [if_neg (by rw [hb]; simp)] at he
        exact ⟨_, hMs _ _, he⟩
      · have hb : (vE lf (d + 1) x).1 = true := by simpa using hb
        have := vE_bound hb
        rw [if_pos hb] at he
        exact ⟨_, hMs _ _, by omega, by omega, he⟩
    · rintro _ _ (⟨i, rfl, lf, rfl, he⟩ | ⟨rfl, lf, rfl, hf0, hf1, he⟩)
      · exact ⟨_, rfl, _, ⟨by rw [he]; rfl, rfl⟩, by rw [he]; exact hW lf⟩
      · rw [List.drop_length, vEs_nil] at he
        exact ⟨_, rfl, _, ⟨by rw [he]; rfl, rfl⟩, by rw [he]; exact hW lf⟩
  have key : qDb e.op e.n e.s e.k.length = (decide (qAM e.op ≠ -2 /\ (0 <= qAM e.op -> (e.k.length : Int) = qAM e.op) /\ (qAM e.op = -1 -> (e.k.length : Int) <= 6)) && (nmB e.op e.s && numB e.op e.n)) := by unfold qDb; rw [Bool.and_assoc]
  have pr : -2 <= qAM e.op := by unfold qAM; grind
  rw [key] at no yes
  have hnI : (e.k.length : Int) = (e.l.n : Int) := by rw [hn]
  rw [hnI] at no yes
  generalize hkn : (e.l.n : Int) = kn at no yes ⊢
  generalize hpn : qAM e.op = pn at no yes pr ⊢
  generalize hnm : (nmB e.op e.s && numB e.op e.n) = nm at no yes ⊢
  haveI : Tab (V.set b (cell (.int .i64 (left - 1)) t)) := Tab.sub hT (hV.set hb _)
  refine ⟨fun h8 => ⟨fun h60 => no fun h => absurd h.2.1 (Int.not_le.2 h60), fun h60 => ⟨fun h7 => (c136 (e := e)).call ⟨nm, by rw [hnm], fun h9 => ?_, fun h9 => no ?_⟩, fun h7 => no ?_⟩⟩, fun h8 => no ?_⟩
  · have h7 : pn ≠ -2 := of_decide_eq_true h7
    have h8 : 0 <= left - 1 := of_decide_eq_true h8
    rw [if_neg h7]
    have bad : ¬ ((0 <= pn -> kn = pn) /\ (pn = -1 -> kn <= 6)) -> ¬ (0 <= left - 1 /\ d <= 60 /\ (decide (pn ≠ -2 /\ (0 <= pn -> kn = pn) /\ (pn = -1 -> kn <= 6)) && nm) = true) := fun hb h => by
      have := h.2.2
      rw [Bool.and_eq_true, decide_eq_true_eq] at this
      exact hb this.1.2
    have good : ((0 <= pn -> kn = pn) /\ (pn = -1 -> kn <= 6)) -> (0 <= left - 1 /\ d <= 60 /\ (decide (pn ≠ -2 /\ (0 <= pn -> kn = pn) /\ (pn = -1 -> kn <= 6)) && nm) = true) := fun hb => by
      refine ⟨h8, by omega, ?_⟩
      rw [Bool.and_eq_true, decide_eq_true_eq]
      exact ⟨⟨h7, hb⟩, h9⟩
    refine ⟨fun hp => ⟨fun hq => ⟨fun hm => ⟨fun h6 => no (bad (by omega)), fun h6 => yes (good (by omega))⟩, fun hm => yes (good (by omega))⟩, fun hq => no (bad (by omega))⟩, fun hp => ⟨fun hm => ⟨fun h6 => no (bad (by omega)), fun h6 => yes (good (by omega))⟩, fun hm => yes (good (by omega))⟩⟩
  · intro h; have := h.2.2; rw [Bool.and_eq_true] at this; exact h9 this.2
  · intro h; have := h.2.2; rw [Bool.and_eq_true, decide_eq_true_eq] at this; exact h7 (decide_eq_true this.1.1)
  · intro h; exact h8 (decide_eq_true h.1)
theorem c59 {V : Mem} [Tab V] {e : E} (h : E.Ok V e) : PP 59 [e.v] V (.bool (qBx e)) := by
 refine Pur.mk (x59 ?_)
 unfold w59
 intro b hb
 refine Tri.mono (c86 hb e h _ (Mem.sub_new hb _) 1000 1 mss (by omega) (by omega) (by omega) (by omega)) ?_
 rintro _ _ ⟨rfl, rfl⟩
 rw [validE_v, Mem.set_set]
 exact ⟨_, rfl, rfl, Mem.sub_new hb _⟩
def fop : List E -> Int | [] => 0 | e :: _ => e.op
def qIu (op : Int) (s : ByteArray) (es : List E) (nl nx : Int) : Bool :=
 if op = 1 then qAz s && decide ((es.length : Int) = 1 /\ nl = 0 /\ nx = 0) else if op = 2 then qAz s && decide ((es.length : Int) = 2 /\ nl = 0 /\ nx = 0) else if op = 3 then decide (s = qAi [] /\ (es.length : Int) = 1)
 else if op = 4 then decide (s = qAi [] /\ (es.length : Int) = 1 /\ nx = 0) else if op = 5 then decide (s = qAi [] /\ (es.length : Int) <= 1 /\ nl = 0 /\ nx = 0) else if op = 6 then decide (s = qAi [] /\ (es.length : Int) = 1 /\ fop es = 7 /\ nl = 0 /\ nx = 0) else false
def qCf (op : Int) (s : ByteArray) (es : List E) (nl nx : Int) : Bool := qIu op s es nl nx && es.all qBx
theorem c236 {V : Mem} {s : S} (h : S.Ok V s) {lo hi : Int} : PP 236 [s.v, .int .i64 lo, .int .i64 hi] V (.bool (decide (lo <= s.es.length /\ (s.es.length : Int) <= hi) && s.es.all qBx)) := by
 have hr := h.eRows
 have hn := hr.n_eq
 rw [show s.v = .agg #[.int .i64 s.op, .string s.s, .slice s.el.p s.el.n s.el.c, .slice s.ll.p s.ll.n s.ll.c, .slice s.xl.p s.xl.n s.xl.c] by unfold S.v; rw [S.row_eq]; rfl]
 refine x236 ?_
 unfold w236
 refine ⟨fun h1 => ?_, fun h1 => ⟨fun h2 => ?_, fun h2 => ?_⟩⟩
 ·rw [decide_eq_false (by omega)]; exact ⟨rfl, rfl⟩
 ·rw [decide_eq_false (by omega)]; exact ⟨rfl, rfl⟩
 ·rw [decide_eq_true (by omega), Bool.true_and]
  refine qAA s.es.length (fun i V1 => V1 = V /\ s.es.all qBx = (s.es.drop i).all qBx) ⟨rfl, rfl⟩ ?_
  rintro i b _ J hi ⟨rfl, he⟩ hJ
  refine ⟨fun hlt => ?_, fun hge => ?_⟩
  ·obtain ⟨x, hm, hx, hdr, hl, hp, hz, hrow⟩ := hr.get hlt
   rw [hdr, List.all_cons] at he
   refine ⟨hp, hz, hlt, _, _, _, _, hrow, (c29 (h.eOk x hm)).call ⟨_, rfl, fun hb => ⟨hr.succ hlt, hJ hl _ _ ⟨rfl, ?_⟩⟩, fun hb => ?_⟩⟩
   ·rw [he, hb, Bool.true_and]
   ·rw [he, eq_false_of_ne_true hb, Bool.false_and]; exact ⟨rfl, rfl⟩
  ·rw [he, (hr.done hge).1]; exact ⟨rfl, rfl⟩
theorem qFq {V : Mem} {s : S} (h : S.Ok V s) : (s.es = [] /\ s.el.n = 0) ∨ ∃ e0 r, s.es = e0 :: r /\ 0 < s.el.n /\ ¬ (s.el.p = none) /\ ¬ (qAa s.el.p 0 = none) /\ V.rowp s.el.p 0 4 = some [.int .i64 e0.op, .int .i64 e0.n, .string e0.s, .slice e0.l.p e0.l.n e0.l.c] := by
 have hr := h.eRows
 have hn := hr.n_eq
 cases hes : s.es with
 | nil => exact .inl ⟨rfl, by rw [hn, hes]; rfl⟩
 | cons e0 r =>
  have h0 : ((0 : Nat) : Int) < (s.el.n : Int) := by rw [hn, hes, List.length_cons]; omega
  obtain ⟨x, hm, hx, hdr, hl, hp, hz, hrow⟩ := hr.get h0
  rw [hes] at hx
  simp only [List.getElem?_cons_zero, Option.some.injEq] at hx
  subst hx
  refine .inr ⟨e0, r, rfl, by omega, hp, fun e => ?_, ?_⟩
  ·cases hq : s.el.p with
   | none => exact hp hq
   | some a => rw [hq] at e; cases e
  ·simpa [E.row, vI, vS, Sl.v] using hrow
set_option maxRecDepth 4000 in
theorem c183 {V : Mem} {s : S} (h : S.Ok V s) : PP 183 [s.v] V (.bool (qCf s.op s.s s.es s.ls.length s.xs.length)) := by
 have hf := qFq h
 have cx := fun lo hi => c236 h (lo := lo) (hi := hi)
 have hnl := h.lRows.n_eq
 have hnx := h.xRows.n_eq
 rw [show s.v = .agg #[.int .i64 s.op, .string s.s, .slice s.el.p s.el.n s.el.c, .slice s.ll.p s.ll.n s.ll.c, .slice s.xl.p s.xl.n s.xl.c] by unfold S.v; rw [S.row_eq]; rfl] at cx ⊢
 refine x183 ?_
 unfold w183
 rw [<- hnl, <- hnx]
 generalize hX : qCf s.op s.s s.es s.ll.n s.xl.n = X
 have key : ∀ b : Bool, X = b -> Ending.returned (.bool b) = Ending.returned (.bool X) := fun n h => by rw [h]
 unfold qCf qIu at hX
 generalize hva : s.es.all qBx = va at cx
 rcases hf with ⟨he, hn⟩ | ⟨e0, r, he, hn, hp, hp2, hrow⟩
 ·have hlen : (s.es.length : Int) = 0 := by rw [he]; rfl
  have hlen' : s.es.length = 0 := by rw [he]; rfl
  rw [hlen] at cx
  rw [hva, hlen] at hX
  repeat' (first | refine c75.call ⟨_, rfl, ?_⟩ | refine (cx _ _).call ⟨_, rfl, ?_⟩ | apply And.intro | intro _)
  all_goals first | rfl | (refine key _ ?_; clear key cx; grind) | (exfalso; clear key cx; grind)
 ·have hfo : fop s.es = e0.op := by rw [he]; rfl
  generalize hlen : (s.es.length : Int) = len at cx
  rw [hva, hlen, hfo] at hX
  have hl0 : 0 < len := by rw [<- hlen, he, List.length_cons]; omega
  have hns : (s.el.n : Int) = len := by rw [<- hlen, h.eRows.n_eq]
  have c11 := cx 1 1
  have c22 := cx 2 2
  have c01 := cx 0 1
  rw [show decide (1 <= len /\ len <= 1) = decide (len = 1) by grind] at c11
  rw [show decide (2 <= len /\ len <= 2) = decide (len = 2) by grind] at c22
  rw [show decide (0 <= len /\ len <= 1) = decide (len <= 1) by grind] at c01
  repeat' (first | refine c75.call ⟨_, rfl, ?_⟩ | refine c11.call ⟨_, rfl, ?_⟩ | refine c22.call ⟨_, rfl, ?_⟩ | refine c01.call ⟨_, rfl, ?_⟩ | refine ⟨_, _, _, _, hrow, ?_⟩ | exact hp | exact hp2 | apply And.intro | intro _)
  all_goals first | rfl | (refine key _ ?_; clear key cx c11 c22 c01; grind) | omega | (exfalso; clear key cx c11 c22 c01; grind)
mutual
def okS (d : Int) : S -> Bool | .mk op s _ es _ ls _ xs => decide (d <= 60) && qCf op s es ls.length xs.length && qIF (d + 1) ls && qIF (d + 1) xs
def qIF (d : Int) : List S -> Bool | [] => true | x :: xs => okS d x && qIF d xs
end
mutual
def szS : S -> Nat | .mk _ _ _ _ _ ls _ xs => 1 + qGv ls + qGv xs
def qGv : List S -> Nat | [] => 0 | x :: xs => szS x + qGv xs
end
mutual
def cntS (d acc : Int) : S -> Int
 | .mk op s _ es _ ls _ xs =>
  if 60 < d then 201 else if qCf op s es ls.length xs.length = true then
    if acc + 1 <= 200 then
      if acc + 1 + qCd (d + 1) 0 ls <= 200 then acc + 1 + qCd (d + 1) 0 ls + qCd (d + 1) 0 xs else acc + 1 + qCd (d + 1) 0 ls
    else acc + 1
  else 201
def qCd (d acc : Int) : List S -> Int | [] => acc | x :: xs => if 200 < cntS d acc x then cntS d acc x else qCd d (cntS d acc x) xs
end
def gd {α : Type} (d left : Int) (l : List α) (r : Bool × Int) : Bool × Int := if 60 < d /\ l ≠ [] then (false, left) else r
mutual
def vS (left d : Int) : S -> Bool × Int
 | .mk op s _ es _ ls _ xs =>
  if 0 <= left - 1 /\ qCf op s es ls.length xs.length = true then
    if (gd (d + 1) (left - 1) ls (vSs (left - 1) (d + 1) ls)).1 = true then
      gd (d + 1) (gd (d + 1) (left - 1) ls (vSs (left - 1) (d + 1) ls)).2 xs (vSs (gd (d + 1) (left - 1) ls (vSs (left - 1) (d + 1) ls)).2 (d + 1) xs)
    else (false, (gd (d + 1) (left - 1) ls (vSs (left - 1) (d + 1) ls)).2)
  else (false, left - 1)
def vSs (left d : Int) : List S -> Bool × Int | [] => (true, left) | x :: xs => if (vS left d x).1 = true then vSs (vS left d x).2 d xs else (false, (vS left d x).2)
end
def vSl (left d : Int) (l : List S) : Bool × Int := gd d left l (vSs left d l)
theorem vSs_cons (left d : Int) (x : S) (xs : List S) : vSs left d (x :: xs) = if (vS left d x).1 = true then vSs (vS left d x).2 d xs else (false, (vS left d x).2) := by rw [vSs]
theorem vSs_nil (left d : Int) : vSs left d [] = (true, left) := by rw [vSs]
theorem cntSs_cons (d acc : Int) (x : S) (xs : List S) : qCd d acc (x :: xs) = if 200 < cntS d acc x then cntS d acc x else qCd d (cntS d acc x) xs := by rw [qCd]
theorem cntSs_nil (d acc : Int) : qCd d acc [] = acc := by rw [qCd]
theorem vS_eq (left d : Int) (x : S) : vS left d x = if 0 <= left - 1 /\ qCf x.op x.s x.es x.ls.length x.xs.length = true then (if (vSl (left - 1) (d + 1) x.ls).1 = true then vSl (vSl (left - 1) (d + 1) x.ls).2 (d + 1) x.xs else (false, (vSl (left - 1) (d + 1) x.ls).2)) else (false, left - 1) := by
 cases x; unfold vS; rfl
theorem cntS_eq (d acc : Int) (x : S) : cntS d acc x = if 60 < d then 201 else if qCf x.op x.s x.es x.ls.length x.xs.length = true then
  if acc + 1 <= 200 then
   if acc + 1 + qCd (d + 1) 0 x.ls <= 200 then acc + 1 + qCd (d + 1) 0 x.ls + qCd (d + 1) 0 x.xs else acc + 1 + qCd (d + 1) 0 x.ls
  else acc + 1
 else 201 := by
 cases x; unfold cntS; rfl
mutual
theorem cntS_ok : ∀ (d acc : Int) (e : S), 0 <= acc -> acc <= 200 -> acc + 1 <= cntS d acc e /\ (cntS d acc e <= 200 ↔ okS d e = true /\ acc + szS e <= 200) /\ (cntS d acc e <= 200 -> cntS d acc e = acc + szS e) /\ cntS d acc e <= 201 + 200 * (61 - d).toNat
 | d, acc, .mk op s _ es _ ls _ xs, h, h' => by
  have i1 := qEu (d + 1) 0 ls (by omega) (by omega)
  have i2 := qEu (d + 1) 0 xs (by omega) (by omega)
  unfold cntS okS szS
  have : 60 < d ∨ (61 - d).toNat = (61 - (d + 1)).toNat + 1 := by omega
  split
  ·grind
  ·split
   ·split
    ·split <;> grind
    ·grind
   ·grind
theorem qEu : ∀ (d acc : Int) (k : List S), 0 <= acc -> acc <= 200 -> acc <= qCd d acc k /\ (qCd d acc k <= 200 ↔ qIF d k = true /\ acc + qGv k <= 200) /\ (qCd d acc k <= 200 -> qCd d acc k = acc + qGv k) /\ qCd d acc k <= 201 + 200 * (61 - d).toNat
 | d, acc, [], h, h' => by simp [qCd, qIF, qGv]; omega
 | d, acc, x :: xs, h, h' => by
  have h1 := cntS_ok d acc x h h'
  have h2 := qEu d (cntS d acc x) xs (by omega)
  unfold qCd qIF qGv
  split
  ·grind
  ·have h2 := h2 (by omega)
   grind
end
theorem okSs_deep {d : Int} (h : 60 < d) : ∀ l : List S, l ≠ [] -> qIF d l = false
 | [], hl => absurd rfl hl
 | .mk _ _ _ _ _ _ _ _ :: xs, _ => by
  have : ¬ d <= 60 := by omega
  simp [qIF, okS, this]
mutual
theorem vS_ok : ∀ (left d : Int) (e : S), d <= 60 -> ((vS left d e).1 = true ↔ okS d e = true /\ (szS e : Int) <= left) /\ ((vS left d e).1 = true -> (vS left d e).2 = left - szS e)
 | left, d, .mk op s _ es _ ls _ xs, hd => by
  have i1 := vSs_ok (left - 1) (d + 1) ls
  have i2 := fun l => vSs_ok l (d + 1) xs
  have d1 := fun h => okSs_deep (d := d + 1) h ls
  have d2 := fun h => okSs_deep (d := d + 1) h xs
  unfold vS okS szS gd
  by_cases h0 : 0 <= left - 1 /\ qCf op s es ls.length xs.length = true
  ·rw [if_pos h0]
   by_cases hl : 60 < d + 1 /\ ls ≠ []
   ·have := d1 hl.1 hl.2
    simp [hl, this]
   ·rw [if_neg hl]
    have i1 := i1 h0.1 hl
    by_cases hx : 60 < d + 1 /\ xs ≠ []
    ·have := d2 hx.1 hx.2
     simp [hx, this]
    ·simp only [if_neg hx]
     by_cases hv : (vSs (left - 1) (d + 1) ls).1 = true
     ·have e1 := i1.2 hv
      have k1 := i1.1.1 hv
      have i2 := i2 (vSs (left - 1) (d + 1) ls).2 (by omega) hx
      rw [if_pos hv]
      rw [Bool.and_eq_true, Bool.and_eq_true, Bool.and_eq_true, decide_eq_true_eq]
      refine ⟨⟨fun h => ?_, fun h => ?_⟩, fun h => ?_⟩
      ·have := i2.1.1 h
       exact ⟨⟨⟨⟨hd, h0.2⟩, k1.1⟩, this.1⟩, by omega⟩
      ·exact i2.1.2 ⟨h.1.2, by omega⟩
      ·rw [i2.2 h]; omega
     ·rw [if_neg hv]
      have : ¬ (qIF (d + 1) ls = true /\ (qGv ls : Int) <= left - 1) := fun h => hv (i1.1.2 h)
      refine ⟨⟨fun h => absurd h (by simp), fun h => ?_⟩, fun h => absurd h (by simp)⟩
      rw [Bool.and_eq_true, Bool.and_eq_true] at h
      exact absurd ⟨h.1.1.2, by omega⟩ this
  ·rw [if_neg h0]
   refine ⟨⟨fun h => absurd h (by simp), fun h => ?_⟩, fun h => absurd h (by simp)⟩
   rw [Bool.and_eq_true, Bool.and_eq_true, Bool.and_eq_true] at h
   exact absurd ⟨by omega, h.1.1.1.2⟩ h0
theorem vSs_ok : ∀ (left d : Int) (k : List S), 0 <= left -> ¬ (60 < d /\ k ≠ []) -> ((vSs left d k).1 = true ↔ qIF d k = true /\ (qGv k : Int) <= left) /\ ((vSs left d k).1 = true -> (vSs left d k).2 = left - qGv k)
 | left, d, [], h, _ => by simp [vSs, qIF, qGv, h]
 | left, d, x :: xs, h, hd => by
  have h1 := vS_ok left d x (by simp at hd; omega)
  have h2 := vSs_ok (vS left d x).2 d xs
  rw [vSs_cons]
  unfold qIF qGv
  split
  ·rename_i hx
   have e := h1.2 hx
   have k := h1.1.1 hx
   have h2 := h2 (by omega) (by simp at hd; omega)
   grind
  ·grind
end
def qEF (l : List S) : Bool := decide (qIF 1 l = true /\ qGv l <= 200)
theorem validSs_cnt (l : List S) : decide (qCd 1 0 l <= 200) = qEF l := by
 have := qEu 1 0 l (by omega) (by omega)
 unfold qEF
 grind
theorem validSs_v (l : List S) : (vSl 200 1 l).1 = qEF l := by
 have := (vSs_ok 200 1 l (by omega) (by omega)).1
 unfold qEF vSl gd
 rw [if_neg (by omega)]
 grind
theorem S.v_eq (s : S) : s.v = .agg #[.int .i64 s.op, .string s.s, .slice s.el.p s.el.n s.el.c, .slice s.ll.p s.ll.n s.ll.c, .slice s.xl.p s.xl.n s.xl.c] := by unfold S.v; rw [S.row_eq]; rfl
theorem S.row_get {V : Mem} {p : Option Addr} {i : Nat} {x : S} (h : V.rowp p i 5 = some x.row) : V.rowp p i 5 = some [.int .i64 x.op, .string x.s, .slice x.el.p x.el.n x.el.c, .slice x.ll.p x.ll.n x.ll.c, .slice x.xl.p x.xl.n x.xl.c] := by
 rw [h, S.row_eq]; rfl
theorem qAc {p : Option Addr} {n : Nat} (h : ¬ (p = none)) : ¬ (qAa p n = none) := by
 cases p with
 | none => exact absurd rfl h
 | some a => intro e; cases e
def CntP (V : Mem) (l : List S) : Prop := ∀ (sl : Sl) (d : Int), qAd V sl 5 (l.map S.row) -> (∀ x ∈ l, S.Ok V x) -> 0 <= d -> d <= 61 -> PP 124 [sl.v, .int .i64 d] V (.int .i64 (qCd d 0 l))
theorem qHQ {V : Mem} {l : List S} (hk : ∀ x ∈ l, CntP V x.ls /\ CntP V x.xs) : CntP V l := by
 intro sl d hr hok hd0 hd
 refine x124 ?_
 unfold w124
 refine loop3s qFo l.length (fun i acc V1 => V1 = V /\ 0 <= acc /\ acc <= 200 /\ qCd d 0 l = qCd d acc (l.drop i)) ⟨rfl, by omega, by omega, rfl⟩ ?_
 rintro i acc c V1 J hi ⟨rfl, ha0, ha, he⟩ hJ
 refine ⟨fun hlt => ?_, fun hge => ?_⟩
 ·obtain ⟨x, hm, hx, hdr, hl, hp, hz, hrow⟩ := hr.get hlt
  have hrow := S.row_get hrow
  have hox := hok x hm
  have hn1 := hox.lRows.n_eq
  have hn2 := hox.xRows.n_eq
  rw [hdr, cntSs_cons] at he
  have hc := cntS_eq d acc x
  have cs := c183 hox
  rw [S.v_eq] at cs
  have bad : cntS d acc x = 201 -> (Ending.returned (.int .i64 201) = Ending.returned (.int .i64 (qCd d 0 l)) /\ V1 = V1) := fun h => by
   rw [h, if_pos (by omega)] at he; rw [he]; exact ⟨rfl, rfl⟩
  have over : ∀ n, cntS d acc x = n -> 200 < n -> (Ending.returned (.int .i64 n) = Ending.returned (.int .i64 (qCd d 0 l)) /\ V1 = V1) := fun n h hn => by
   rw [h, if_pos hn] at he; rw [he]; exact ⟨rfl, rfl⟩
  have on : ∀ n c', cntS d acc x = n -> 0 <= n -> ¬ 200 < n -> J [.int .i64 n, .int .i64 c',   .int .i64 ((i : Int) + 1)] V1 := fun n c' h h0 hn => by
   rw [h, if_neg hn] at he
   exact hJ hl _ _ _ ⟨rfl, h0, by omega, he⟩
  refine ⟨fun h60 => bad (by rw [hc, if_pos h60]), fun h60 => ⟨hp, hz, hlt, _, _, _, _, _, hrow, cs.call ⟨_, rfl, fun hs => ⟨⟨by omega, by omega⟩, fun h1 => ?_, fun h1 => ?_⟩, fun hs => bad (by rw [hc, if_neg h60, if_neg hs])⟩⟩⟩
  ·rw [if_neg h60, if_pos hs, if_pos h1] at hc
   have b1 := qEu (d + 1) 0 x.ls (by omega) (by omega)
   have b2 := qEu (d + 1) 0 x.xs (by omega) (by omega)
   refine ⟨hp, hz, hlt, qAc hp, _, _, _, _, _, hrow, ⟨by omega, by omega⟩, ((hk x hm).1 x.ll (d + 1) hox.lRows hox.lOk (by omega) (by omega)).call ⟨_, rfl, ⟨by omega, by omega⟩, fun h2 => ?_, fun h2 => ?_⟩⟩
   ·rw [if_pos h2] at hc
    refine ⟨hp, hz, hlt, qAc hp, _, _, _, _, _, hrow, ⟨by omega, by omega⟩, ((hk x hm).2 x.xl (d + 1) hox.xRows hox.xOk (by omega) (by omega)).call ⟨_, rfl, ⟨by omega, by omega⟩, fun h3 => over _ hc h3, fun h3 => ⟨hr.succ hlt, on _ _ hc (by omega) h3⟩⟩⟩
   ·rw [if_neg h2] at hc
    exact ⟨fun h3 => over _ hc h3, fun h3 => absurd h3 (by omega)⟩
  ·rw [if_neg h60, if_pos hs, if_neg h1] at hc
   exact ⟨fun h2 => absurd h2 h1, fun h2 => ⟨fun h3 => over _ hc h3, fun h3 => absurd h3 (by omega)⟩⟩
 ·rw [(hr.done hge).1, cntSs_nil] at he; rw [he]; exact ⟨rfl, rfl⟩
theorem cntP_S (V : Mem) : ∀ s : S, CntP V s.ls /\ CntP V s.xs := by
 intro s
 induction s using S.ind with
 | h s i1 i2 => exact ⟨qHQ i1, qHQ i2⟩
theorem c124 {V : Mem} {l : List S} {sl : Sl} {d : Int} (hr : qAd V sl 5 (l.map S.row)) (hok : ∀ x ∈ l, S.Ok V x) (h0 : 0 <= d) (h1 : d <= 61) : PP 124 [sl.v, .int .i64 d] V (.int .i64 (qCd d 0 l)) :=
 qHQ (fun x _ => cntP_S V x) sl d hr hok h0 h1
set_option maxRecDepth 4000 in
theorem c244 {V : Mem} [Tab V] {s : S} (h : S.Ok V s) : PP 244 [s.v] V (.bool (qIu s.op s.s s.es s.ls.length s.xs.length)) := by
 have hf := qFq h
 have hnl := h.lRows.n_eq
 have hnx := h.xRows.n_eq
 have hne := h.eRows.n_eq
 rw [S.v_eq]
 refine x244 ?_
 unfold w244
 rw [<- hnl, <- hnx]
 generalize hX : qIu s.op s.s s.es s.ll.n s.xl.n = X
 have key : ∀ b : Bool, X = b -> Ending.returned (.bool b) = Ending.returned (.bool X) := fun n h => by rw [h]
 unfold qIu at hX
 rw [<- hne] at hX
 have hn0 : (0 : Int) <= (s.el.n : Int) := by omega
 have hn1 : (0 : Int) <= (s.ll.n : Int) := by omega
 have hn2 : (0 : Int) <= (s.xl.n : Int) := by omega
 generalize hne' : (s.el.n : Int) = ne at hX hn0
 generalize (s.ll.n : Int) = nl at hX hn1
 generalize (s.xl.n : Int) = nx at hX hn2
 rcases hf with ⟨he, hn⟩ | ⟨e0, r, he, hn, hp, hp2, hrow⟩
 ·have : ne = 0 := by omega
  subst this
  clear hnl hnx hne hne' hn
  repeat' (first | refine c152.call ⟨_, rfl, ?_⟩ | apply And.intro | intro _)
  all_goals first | rfl | (refine key _ ?_; clear key h he; grind) | (exfalso; clear key h he; grind)
 ·have hfo : fop s.es = e0.op := by rw [he]; rfl
  rw [hfo] at hX
  have hn' : 0 < ne := by omega
  clear hnl hnx hne hne' hn
  repeat' (first | refine c152.call ⟨_, rfl, ?_⟩ | refine ⟨_, _, _, _, hrow, ?_⟩ | exact hp | exact hp2 | exact hn' | apply And.intro | intro _)
  all_goals first | rfl | (refine key _ ?_; clear key h he hrow hp hp2; grind) | (exfalso; clear key h he hrow hp hp2; grind) | omega
theorem c245 {V : Mem} [Tab V] {e : E} (h : E.Ok V e) : PP 245 [e.v] V (.bool (!qBx e)) := by
 refine x245 ?_
 unfold w245
 exact (c59 h).call ⟨_, rfl, rfl, rfl⟩
theorem vSl_bound {left d : Int} {l : List S} (h0 : 0 <= left) (h : (vSl left d l).1 = true) : 0 <= (vSl left d l).2 /\ (vSl left d l).2 <= left := by
 unfold vSl gd at h ⊢
 split at h
 ·cases h
 ·rename_i hn
  rw [if_neg hn]
  have := vSs_ok left d l h0 hn
  grind
theorem vSl_eq {left d : Int} {l : List S} (h : ¬ (60 < d /\ l ≠ [])) : vSl left d l = vSs left d l := by unfold vSl gd; rw [if_neg h]
section
variable {V0 : Mem} {b t : Nat}
def StP (V0 : Mem) (b t : Nat) (l : List S) : Prop := ∀ (sl : Sl) (d left : Int) (V : Mem), qAd V0 sl 5 (l.map S.row) -> (∀ x ∈ l, S.Ok V0 x) -> V0.sub V -> V b = some (cell (.int .i64 left) t) -> 0 <= left -> left <= 200 -> 0 <= d -> d <= 61 ->
 Tri Tryz.prog 212 #[sl.v, .int .i64 d, pv b] V fun r V' => r = .returned (.bool (vSl left d l).1) /\ V' = V.set b (cell (.int .i64 (vSl left d l).2) t)
theorem qJk [hT : Tab V0] (hb : V0 b = none) {l : List S} (hk : ∀ x ∈ l, StP V0 b t x.ls /\ StP V0 b t x.xs) : StP V0 b t l := by
 intro sl d left V hr hok hV hcell hl0 hl1 hd0 hd
 have hn := hr.n_eq
 refine x212 ?_
 unfold w212
 have hM : ∀ lf, V0.sub (V.set b (cell (.int .i64 lf) t)) := fun lf => hV.set hb _
 refine ⟨fun h0 => ⟨fun h60 => ?_, fun h60 => ?_⟩, fun h0 => ?_⟩
 ·have : vSl left d l = (false, left) := by
   unfold vSl gd
   rw [if_pos ⟨h60, fun e => by rw [e] at hn; simp at hn; omega⟩]
  rw [this]
  exact ⟨rfl, (Mem.set_eq hcell).symm⟩
 all_goals
  have hnd : ¬ (60 < d /\ l ≠ []) := by
   first
   | exact fun h => h60 h.1
   | exact fun h => h.2 (List.eq_nil_of_length_eq_zero (by omega))
  rw [vSl_eq hnd]
  refine qAA l.length (fun i V1 => ∃ lf, V1 = V.set b (cell (.int .i64 lf) t) /\ 0 <= lf /\ lf <= 200 /\ vSs left d l = vSs lf d (l.drop i)) ⟨left, (Mem.set_eq hcell).symm, hl0, hl1, rfl⟩ ?_
  rintro i c _ J hi ⟨lf, rfl, hf0, hf1, he⟩ hJ
  refine ⟨fun hlt => ?_, fun hge => ?_⟩
  ·obtain ⟨x, hm, hx, hdr, hl, hp, hz, hrow⟩ := (hr.sub (hM lf)).get hlt
   have hrow := S.row_get hrow
   have hox := hok x hm
   rw [hdr, vSs_cons] at he
   have hv := vS_eq lf d x
   have cs := fun V (h0 : V0.sub V) (h : S.Ok V x) => (haveI : Tab V := Tab.sub hT h0; c244 h)
   rw [S.v_eq] at cs
   have no : ∀ n, vS lf d x = (false, n) -> (Ending.returned (.bool false) = Ending.returned (.bool (vSs left d l).1) /\ V.set b (cell (.int .i64 n) t) = V.set b (cell (.int .i64 (vSs left d l).2) t)) := fun n h => by
    rw [h] at he
    rw [he]; exact ⟨rfl, rfl⟩
   refine ⟨hp, hz, hlt, _, _, _, _, _, hrow, Tri.mono (c135 mss (by omega) (by omega)) ?_⟩
   rintro _ _ ⟨rfl, rfl⟩
   rw [Mem.set_set]
   refine ⟨_, rfl, fun h8 => (cs _ (hM _) (hox.sub (hM _))).call ⟨_, rfl, fun hs => ?_, fun hs => ?_⟩, fun h8 => ?_⟩
   ·have h8 : 0 <= lf - 1 := of_decide_eq_true h8
    refine (c57 (first := []) (caps := []) (l := x.el) (hox.eRows.sub (hM _)) Tryz.call245 (fun e => !qBx e) (fun e hm => haveI : Tab (V.set b (cell (.int .i64 (lf - 1)) t)) := Tab.sub hT (hM (lf - 1)); c245 ((hox.eOk e hm).sub (hM _)))).call ⟨_, rfl, fun ha => ?_, fun ha => ?_⟩
    ·have hal : x.es.all qBx = false := by
      rw [List.any_eq_not_all_not] at ha
      simpa using ha
     rw [if_neg (fun h => by have := h.2; unfold qCf at this; rw [hal, Bool.and_false] at this; cases this)] at hv
     exact no _ hv
    ·have hal : x.es.all qBx = true := by
      rw [List.any_eq_not_all_not] at ha
      simpa using ha
     have hsr : qCf x.op x.s x.es x.ls.length x.xs.length = true := by unfold qCf; rw [hs, hal]; rfl
     rw [if_pos ⟨h8, hsr⟩] at hv
     refine ⟨⟨by omega, by omega⟩, Tri.mono ((hk x hm).1 x.ll (d + 1) (lf - 1) _ hox.lRows hox.lOk (hM _) mss h8 (by omega) (by omega) (by omega)) ?_⟩
     rintro _ _ ⟨rfl, rfl⟩
     rw [Mem.set_set]
     refine ⟨_, rfl, fun h1 => ⟨⟨by omega, by omega⟩, ?_⟩, fun h1 => ?_⟩
     ·rw [if_pos h1] at hv
      have b1 := vSl_bound h8 h1
      refine Tri.mono ((hk x hm).2 x.xl (d + 1) _ _ hox.xRows hox.xOk (hM _) mss b1.1 (by omega) (by omega) (by omega)) ?_
      rintro _ _ ⟨rfl, rfl⟩
      rw [Mem.set_set]
      refine ⟨_, rfl, fun h2 => ?_, fun h2 => ?_⟩
      ·have b2 := vSl_bound b1.1 h2
       rw [hv, if_pos h2] at he
       exact ⟨(hr.sub (hM lf)).succ hlt, hJ hl _ _ ⟨_, rfl, b2.1, by omega, he⟩⟩
      ·rw [<- hv] at h2 ⊢
       exact no _ (Prod.ext (eq_false_of_ne_true h2) rfl)
     ·rw [if_neg h1] at hv
      exact no _ hv
   ·rw [if_neg (fun h => by have := h.2; unfold qCf at this; rw [eq_false_of_ne_true hs, Bool.false_and] at this; cases this)] at hv
    exact no _ hv
   ·rw [if_neg (fun h => h8 (decide_eq_true h.1))] at hv
    exact no _ hv
  ·rw [((hr.sub (hM lf)).done hge).1, vSs_nil] at he
   rw [he]; exact ⟨rfl, rfl⟩
theorem stP_S [hT : Tab V0] (hb : V0 b = none) : ∀ s : S, StP V0 b t s.ls /\ StP V0 b t s.xs := by
 intro s
 induction s using S.ind with
 | h s i1 i2 => exact ⟨qJk hb i1, qJk hb i2⟩
theorem c212 [hT : Tab V0] (hb : V0 b = none) (l : List S) : StP V0 b t l := qJk hb fun x _ => stP_S hb x
end
def qAG {α : Type} (p : α -> Bool) (xs : List α) (i : Nat) : Prop := ∀ j x, j < i -> xs[j]? = some x -> p x = true
theorem qAG.zero {α : Type} (p : α -> Bool) (xs : List α) : qAG p xs 0 := fun _ _ h => absurd h (Nat.not_lt_zero _)
theorem qAG.succ {α : Type} {p : α -> Bool} {xs : List α} {i : Nat} {x : α} (h : qAG p xs i) (hx : xs[i]? = some x) (hp : p x = true) : qAG p xs (i + 1) := fun j y hj hy => by
 rcases Nat.lt_succ_iff_lt_or_eq.1 hj with h' | rfl
 ·exact h j y h' hy
 ·rw [hx] at hy; cases hy; exact hp
theorem qAG.all {α : Type} {p : α -> Bool} {xs : List α} {i : Nat} (h : qAG p xs i) (hi : xs.length <= i) : xs.all p = true :=
 List.all_eq_true.2 fun x hx => by
  obtain ⟨j, hj, rfl⟩ := List.mem_iff_getElem.1 hx
  exact h j _ (by omega) (List.getElem?_eq_getElem hj)
theorem qBr {α : Type} {p : α -> Bool} {xs : List α} {x : α} (h : x ∈ xs) (hp : ¬ p x = true) : xs.all p = false := by
 cases h' : xs.all p with
 | false => rfl
 | true => exact absurd (List.all_eq_true.1 h' x h) hp
def qAP : ByteArray := qAi [105, 110, 116]
def qAt : ByteArray := qAi [98, 111, 111, 108]
def typB (s : ByteArray) : Bool := decide (s = qAP) || decide (s = qAt) || qAz s
def openB (s : ByteArray) : Bool := decide (s = qAi []) || qAz s
def fldB (f : Fld) : Bool := qAz f.name && typB f.ty
def qEg (l : List Fld) (most : Int) : Bool := decide ((l.length : Int) <= most) && l.all fldB
def tyB (t : Ty) : Bool := qAz t.name && qEg t.fields 12
def prB (p : Pr) : Bool := qAz p.name && qEg p.params 6 && qEg p.locals 12 && (decide (p.result = qAi []) || typB p.result) && qEF p.body
def msB (m : Ms) : Bool := qAz m.name && qAz m.ty && decide (-1099511627776 <= m.nil /\ m.nil <= 1099511627776) && qBx m.x
def ivB (m : Iv) : Bool := qAz m.name && openB m.ty && qBx m.x
def poB (m : Po) : Bool := openB m.ty && qBx m.x
def bdB (m : Bd) : Bool := qAz m.proc && qBx m.x
def qIi (d : Ds) : Bool := d.measures.all msB && d.invs.all ivB && d.pots.all poB && d.bounds.all bdB
def qIg (d : Ds) : Bool := decide ((d.measures.length : Int) <= 12 /\ (d.invs.length : Int) <= 12 /\ (d.pots.length : Int) <= 12 /\ (d.bounds.length : Int) <= 12)
def qAQ (d : Ds) : Bool := qAz d.name && decide ((d.types.length : Int) <= 12) && qEg d.globals 8 && decide ((d.procs.length : Int) <= 40) && qIg d && d.types.all tyB && d.procs.all prB && qIi d
theorem c123 {V : Mem} {s : ByteArray} : PP 123 [.string s] V (.bool (typB s)) := by
 refine x123 ?_
 unfold w123
 refine ⟨fun h => ?_, fun h => ⟨fun h1 => ?_, fun h1 => c75.call ⟨_, rfl, ?_⟩⟩⟩ <;> simp [typB, qAP, qAt, *]
theorem c206 {V : Mem} [Tab V] {s : ByteArray} : PP 206 [.string s] V (.bool (typB s)) := by
 refine x206 ?_
 unfold w206
 refine ⟨fun h => ?_, fun h => ⟨fun h1 => ?_, fun h1 => c152.call ⟨_, rfl, ?_⟩⟩⟩ <;> simp [typB, qAP, qAt, *]
theorem c125 {V : Mem} {s : ByteArray} : PP 125 [.string s] V (.bool (openB s)) := by
 refine x125 ?_
 unfold w125
 refine ⟨fun h => ?_, fun h => c75.call ⟨_, rfl, ?_⟩⟩ <;> simp [openB, *]
theorem c207 {V : Mem} [Tab V] {s : ByteArray} : PP 207 [.string s] V (.bool (openB s)) := by
 refine x207 ?_
 unfold w207
 refine ⟨fun h => ?_, fun h => c152.call ⟨_, rfl, ?_⟩⟩ <;> simp [openB, *]
theorem c76 {V : Mem} {l : Sl} {xs : List Fld} {n : Int} (hr : qAd V l 2 (xs.map Fld.row)) : PP 76 [l.v, .int .i64 n] V (.bool (qEg xs n)) := by
 refine x76 ?_
 unfold w76
 have hn := hr.n_eq
 refine ⟨fun h => ?_, fun h => ?_⟩
 ·have : ¬ ((xs.length : Int) <= n) := by omega
  simp [qEg, this]
 ·have hle : (xs.length : Int) <= n := by omega
  refine qAA xs.length (fun i V1 => V1 = V /\ qAG fldB xs i) ⟨rfl, qAG.zero _ _⟩ ?_
  rintro i b V1 J hi ⟨rfl, ha⟩ hJ
  refine ⟨fun hlt => ?_, fun hge => ?_⟩
  ·obtain ⟨x, hm, hx, hdr, hl, hp, hz, hrow⟩ := hr.get hlt
   have no : fldB x = false -> (Ending.returned (.bool false) = Ending.returned (.bool (qEg xs n)) /\ V1 = V1) := fun h => by
    unfold qEg; rw [qBr hm (by rw [h]; simp), Bool.and_false]; exact ⟨rfl, rfl⟩
   refine ⟨hp, hz, hlt, qAc hp, _, _, hrow, c75.call ⟨_, rfl, fun h1 => ⟨hp, hz, hlt, qAc hp, _, _, hrow, c123.call ⟨_, rfl, fun h2 => ⟨hr.succ hlt, hJ hl _ _ ⟨rfl, ha.succ hx (by simp [fldB, *])⟩⟩, fun h2 => no (by simp [fldB, *])⟩⟩, fun h1 => no (by simp [fldB, *])⟩⟩
  ·have := ha.all (hr.done hge).2
   simp [qEg, this, hle]
theorem c205 {V : Mem} [Tab V] {f : Fld} : PP 205 [f.v] V (.bool (!fldB f)) := by
 refine x205 ?_
 unfold w205
 refine c152.call ⟨_, rfl, fun h => c206.call ⟨_, rfl, ?_⟩, fun h => ?_⟩ <;> simp [fldB, *]
theorem c153 {V : Mem} [Tab V] {l : Sl} {xs : List Fld} {n : Int} (hr : qAd V l 2 (xs.map Fld.row)) : PP 153 [l.v, .int .i64 n] V (.bool (qEg xs n)) := by
 refine x153 ?_
 unfold w153
 have hn := hr.n_eq
 refine ⟨fun h => (c168 (first := []) (caps := []) hr Tryz.call205 (fun f => !fldB f) fun f _ => c205).call ⟨_, rfl, ?_⟩, fun h => ?_⟩
 ·have hle : (xs.length : Int) <= n := by omega
  rw [List.any_eq_not_all_not]
  simp [qEg, hle]
 ·have : ¬ ((xs.length : Int) <= n) := by omega
  simp [qEg, this]
theorem c77 {V : Mem} {p : Pr} (h : Pr.Ok V p) : PP 77 [p.v] V (.bool (prB p)) := by
 refine x77 ?_
 unfold w77
 have cs := c124 (d := 1) h.body h.stmts (by omega) (by omega)
 refine c75.call ⟨_, rfl, fun h1 => (c76 h.params).call ⟨_, rfl, fun h2 => (c76 h.locals).call ⟨_, rfl, fun h3 => ⟨fun h4 => cs.call ⟨_, rfl, ?_⟩, fun h4 => c123.call ⟨_, rfl, fun h5 => cs.call ⟨_, rfl, ?_⟩, fun h5 => ?_⟩⟩, fun h3 => ?_⟩, fun h2 => ?_⟩, fun h1 => ?_⟩
 all_goals simp [prB, <- validSs_cnt, *]
theorem c159 {V : Mem} [Tab V] {p : Pr} (h : Pr.Ok V p) : PP 159 [p.v] V (.bool (prB p)) := by
  refine Pur.mk (x159 ?_)
  unfold w159
  have cs : (qEF p.body = prB p) -> qAn [(.int .i64 200)] 159 V fun v9 V5 =>
       Tri Tryz.prog 212 #[(.slice p.bs.p p.bs.n p.bs.c), (.int .i64 1), (.pointer (qAa v9 0))] V5 fun e V6 => ∃ v10 : Bool, e = .returned (.bool v10) /\ (Ending.returned (.bool v10) = Ending.returned (.bool (prB p)) /\ V.sub V6) := fun e b hb => by
    refine Tri.mono (c212 hb p.body p.bs 1 200 _ h.body h.stmts (Mem.sub_new hb _) mss (by omega) (by omega) (by omega) (by omega)) ?_
    rintro _ _ ⟨rfl, rfl⟩
    rw [validSs_v, Mem.set_set, e]
    exact ⟨_, rfl, rfl, Mem.sub_new hb _⟩
  refine c152.call ⟨_, rfl, fun h1 => (c153 h.params).call ⟨_, rfl, fun h2 => (c153 h.locals).call ⟨_, rfl, fun h3 => ⟨fun h4 => cs ?_, fun h4 => c206.call ⟨_, rfl, fun h5 => cs ?_, fun h5 => ⟨?_, Mem.sub.refl _⟩⟩⟩, fun h3 => ⟨?_, Mem.sub.refl _⟩⟩, fun h2 => ⟨?_, Mem.sub.refl _⟩⟩, fun h1 => ⟨?_, Mem.sub.refl _⟩⟩
  all_goals simp [prB, *]
theorem c209 {V : Mem} [Tab V] {b : Bd} (h : E.Ok V b.x) : PP 209 [b.v] V (.bool (!bdB b)) := by
 refine x209 ?_
 unfold w209
 refine c152.call ⟨_, rfl, fun h1 => (c59 h).call ⟨_, rfl, ?_⟩, fun h1 => ?_⟩ <;> simp [bdB, *]
theorem c156 {V : Mem} [Tab V] {t : Ty} (h : Ty.Ok V t) : PP 156 [t.v] V (.bool (!tyB t)) := by
 refine x156 ?_
 unfold w156
 refine c152.call ⟨_, rfl, fun h1 => (c153 h.fields).call ⟨_, rfl, ?_⟩, fun h1 => ?_⟩ <;> simp [tyB, *]
theorem c158 {V : Mem} [Tab V] {t : Pr} (h : Pr.Ok V t) : PP 158 [t.v] V (.bool (!prB t)) := by
 refine x158 ?_
 unfold w158
 exact (c159 h).call ⟨_, rfl, rfl, rfl⟩
end Go.Proofs
