/- Part 19 of a proof of a law of this seat: no statement of the seat is proved here. -/
import Derived.Test.YtnoompnjibfbfaaGreatDoorPart18
import Derived.Test.YtnoompnjibfbfaaGreatDoorRows
import Derived.Lib.LaidIn
import Derived.Lib.LaidTab
import Derived.Handed
set_option linter.unusedVariables false
set_option linter.unusedSimpArgs false
namespace Go.Proofs
open Go Go.Sx
section
variable {H : Type} {enc : TypeId × Value -> H} {w : World}
theorem at1 {cs : List Value} {v : Value} {off m : Nat} {t : TypeId} (h : ∃ y, TR enc w m t ((cs.drop off).take (Tryz.prog.cellsOf t)) = some y) (hc : Tryz.prog.cellsOf t = 1) (hv : cs[off]? = some v) : ∃ y, TR enc w m t [v] = some y := by
 obtain ⟨y, hy⟩ := h
 refine ⟨y, ?_⟩
 have hlt := (List.getElem?_eq_some_iff.1 hv).1
 have e : (cs.drop off).take 1 = [v] := by
  rw [List.drop_eq_getElem_cons hlt, (List.getElem?_eq_some_iff.1 hv).2]
  simp
 rw [hc, e] at hy
 exact hy
theorem cl9 : Tryz.prog.cellsOf 9 = 1 := by kernel_rfl
theorem cl3 : Tryz.prog.cellsOf 3 = 1 := by kernel_rfl
theorem cl22 : Tryz.prog.cellsOf 22 = 1 := by kernel_rfl
theorem cl23 : Tryz.prog.cellsOf 23 = 1 := by kernel_rfl
theorem cl24 : Tryz.prog.cellsOf 24 = 1 := by kernel_rfl
theorem cl25 : Tryz.prog.cellsOf 25 = 1 := by kernel_rfl
theorem cl26 : Tryz.prog.cellsOf 26 = 1 := by kernel_rfl
theorem cl27 : Tryz.prog.cellsOf 27 = 1 := by kernel_rfl
theorem cl28 : Tryz.prog.cellsOf 28 = 1 := by kernel_rfl
theorem cl38 : Tryz.prog.cellsOf 67 = 1 := by kernel_rfl
theorem cl52 : Tryz.prog.cellsOf 144 = 1 := by kernel_rfl
theorem cl40 : Tryz.prog.cellsOf 69 = 4 := by kernel_rfl
theorem cl67 : Tryz.prog.cellsOf 110 = 2 := by kernel_rfl
theorem cl94 : Tryz.prog.cellsOf 101 = 2 := by kernel_rfl
theorem cl54 : Tryz.prog.cellsOf 146 = 5 := by kernel_rfl
theorem cl75 : Tryz.prog.cellsOf 223 = 5 := by kernel_rfl
theorem cl97 : Tryz.prog.cellsOf 77 = 7 := by kernel_rfl
theorem cl58 : Tryz.prog.cellsOf 105 = 6 := by kernel_rfl
theorem cl61 : Tryz.prog.cellsOf 188 = 5 := by kernel_rfl
theorem cl64 : Tryz.prog.cellsOf 190 = 5 := by kernel_rfl
theorem cl30 : Tryz.prog.cellsOf 30 = 8 := by kernel_rfl
theorem gS {m : Nat} {v : Value} (h : ∃ y, TR enc w m 9 [v] = some y) : ∃ s, v = .string s := by
 obtain ⟨y, hy⟩ := h
 obtain ⟨s, e⟩ := rd_str Tryz.underlying9 hy
 exact ⟨s, by simpa using e⟩
theorem gI {m : Nat} {v : Value} (h : ∃ y, TR enc w m 3 [v] = some y) : ∃ n : Int, v = .int .i64 n /\ IntKind.i64.min <= n /\ n <= IntKind.i64.max := by
 obtain ⟨y, hy⟩ := h
 obtain ⟨s, e, h1⟩ := rd_int Tryz.underlying3 hy
 exact ⟨s, by simpa using e, h1⟩
theorem gSl {α : Type} {row : α -> List Value} {ok : α -> Prop} {sz m : Nat} {t e : TypeId} {v : Value} (ht : Tryz.prog.underlying t = some (.slice e)) (hc : Tryz.prog.cellsOf e = sz) (hsz : 0 < sz) (hrow : ∀ a, (row a).length = sz)
  (hE : ∀ m', m' < m -> ∀ cs x, TR enc w m' e cs = some x -> ∃ a, row a = cs /\ ok a) (h : ∃ y, TR enc w m t [v] = some y) : ∃ (s : Sl) (xs : List α), v = .slice s.p s.n s.c /\ RowsAt (heapM w) s sz (xs.map row) /\ ∀ a ∈ xs, ok a := by
 obtain ⟨y, hy⟩ := h
 obtain ⟨s, xs, e, h1, h2⟩ := rd_slice ht hc hsz hrow hE hy
 exact ⟨s, xs, by simpa using e, h1, h2⟩
theorem len2 {cs : List Value} (h : cs.length = 2) : ∃ a b, cs = [a, b] := by
 match cs, h with
 | [a, b], _ => exact ⟨a, b, rfl⟩
theorem len4 {cs : List Value} (h : cs.length = 4) : ∃ a b c d, cs = [a, b, c, d] := by
 match cs, h with
 | [a, b, c, d], _ => exact ⟨a, b, c, d, rfl⟩
theorem len5 {cs : List Value} (h : cs.length = 5) : ∃ a b c d e, cs = [a, b, c, d, e] := by
 match cs, h with
 | [a, b, c, d, e], _ => exact ⟨a, b, c, d, e, rfl⟩
theorem len6 {cs : List Value} (h : cs.length = 6) : ∃ a b c d e f, cs = [a, b, c, d, e, f] := by
 match cs, h with
 | [a, b, c, d, e, f], _ => exact ⟨a, b, c, d, e, f, rfl⟩
theorem len7 {cs : List Value} (h : cs.length = 7) : ∃ a b c d e f g, cs = [a, b, c, d, e, f, g] := by
 match cs, h with
 | [a, b, c, d, e, f, g], _ => exact ⟨a, b, c, d, e, f, g, rfl⟩
theorem len8 {cs : List Value} (h : cs.length = 8) : ∃ a b c d e f g i, cs = [a, b, c, d, e, f, g, i] := by
 match cs, h with
 | [a, b, c, d, e, f, g, i], _ => exact ⟨a, b, c, d, e, f, g, i, rfl⟩
theorem rdFld {n : Nat} {cs : List Value} {x : DataW H × List MemPlace} (h : TR enc w n 110 cs = some x) : ∃ f : Fld, Fld.row f = cs /\ True := by
 obtain ⟨hl, m, -, hs⟩ := rd_struct Tryz.underlying110 h
 obtain ⟨a, b, rfl⟩ := len2 (hl.trans cl67)
 obtain ⟨s1, rfl⟩ := gS (at1 (hs 0 _ rfl) cl9 rfl)
 obtain ⟨s2, rfl⟩ := gS (at1 (hs 1 _ rfl) cl9 rfl)
 exact ⟨⟨s1, s2⟩, rfl, trivial⟩
theorem rdE : ∀ (n : Nat) (cs : List Value) (x : DataW H × List MemPlace), TR enc w n 69 cs = some x -> ∃ e : E, E.row e = cs /\ E.Ok (heapM w) e := by
 intro n
 induction n using Nat.strongRecOn with
 | _ n ih =>
 intro cs x h
 obtain ⟨hl, m, hm, hs⟩ := rd_struct Tryz.underlying69 h
 obtain ⟨a, b, c, d, rfl⟩ := len4 (hl.trans cl40)
 obtain ⟨op, rfl, ho⟩ := gI (at1 (hs 0 _ rfl) cl3 rfl)
 obtain ⟨nn, rfl, hn⟩ := gI (at1 (hs 1 _ rfl) cl3 rfl)
 obtain ⟨s, rfl⟩ := gS (at1 (hs 2 _ rfl) cl9 rfl)
 obtain ⟨l, k, rfl, hr, hk⟩ := gSl (row := E.row) (ok := E.Ok (heapM w)) Tryz.underlying67 cl40 (by decide) (fun _ => rfl) (fun m' hm' => ih m' (by omega)) (at1 (hs 3 _ rfl) cl38 rfl)
 exact ⟨.mk op nn s l k, rfl, .mk hr hk ho hn⟩
theorem S.row_len : ∀ s : S, (S.row s).length = 5 := fun s => by cases s; rfl
theorem rdS : ∀ (n : Nat) (cs : List Value) (x : DataW H × List MemPlace), TR enc w n 223 cs = some x -> ∃ e : S, S.row e = cs /\ S.Ok (heapM w) e := by
 intro n
 induction n using Nat.strongRecOn with
 | _ n ih =>
 intro cs x h
 obtain ⟨hl, m, hm, hs⟩ := rd_struct Tryz.underlying223 h
 obtain ⟨a, b, c, d, e, rfl⟩ := len5 (hl.trans cl75)
 obtain ⟨op, rfl, ho⟩ := gI (at1 (hs 0 _ rfl) cl3 rfl)
 obtain ⟨s, rfl⟩ := gS (at1 (hs 1 _ rfl) cl9 rfl)
 obtain ⟨el, es, rfl, hr1, hk1⟩ := gSl (row := E.row) (ok := E.Ok (heapM w)) Tryz.underlying67 cl40 (by decide) (fun _ => rfl) (fun m' _ => rdE m') (at1 (hs 2 _ rfl) cl38 rfl)
 obtain ⟨ll, ls, rfl, hr2, hk2⟩ := gSl (row := S.row) (ok := S.Ok (heapM w)) Tryz.underlying144 cl75 (by decide) S.row_len (fun m' hm' => ih m' (by omega)) (at1 (hs 3 _ rfl) cl52 rfl)
 obtain ⟨xl, xs, rfl, hr3, hk3⟩ := gSl (row := S.row) (ok := S.Ok (heapM w)) Tryz.underlying144 cl75 (by decide) S.row_len (fun m' hm' => ih m' (by omega)) (at1 (hs 4 _ rfl) cl52 rfl)
 exact ⟨.mk op s el es ll ls xl xs, rfl, .mk hr1 hk1 hr2 hk2 hr3 hk3 ho⟩
theorem gF {m : Nat} {v : Value} (h : ∃ y, TR enc w m 23 [v] = some y) : ∃ (s : Sl) (xs : List Fld), v = .slice s.p s.n s.c /\ RowsAt (heapM w) s 2 (xs.map Fld.row) := by
 obtain ⟨s, xs, h1, h2, -⟩ := gSl (row := Fld.row) (ok := fun _ => True) Tryz.underlying23 cl67 (by decide) (fun _ => rfl) (fun _ _ _ _ => rdFld) h
 exact ⟨s, xs, h1, h2⟩
theorem rdTy {n : Nat} {cs : List Value} {x : DataW H × List MemPlace} (h : TR enc w n 101 cs = some x) : ∃ f : Ty, Ty.row f = cs /\ Ty.Ok (heapM w) f := by
 obtain ⟨hl, m, -, hs⟩ := rd_struct Tryz.underlying101 h
 obtain ⟨a, b, rfl⟩ := len2 (hl.trans cl94)
 obtain ⟨s1, rfl⟩ := gS (at1 (hs 0 _ rfl) cl9 rfl)
 obtain ⟨l, k, rfl, hr⟩ := gF (at1 (hs 1 _ rfl) cl23 rfl)
 exact ⟨⟨s1, l, k⟩, rfl, ⟨hr⟩⟩
theorem rdPr {n : Nat} {cs : List Value} {x : DataW H × List MemPlace} (h : TR enc w n 146 cs = some x) : ∃ f : Pr, Pr.row f = cs /\ Pr.Ok (heapM w) f := by
 obtain ⟨hl, m, -, hs⟩ := rd_struct Tryz.underlying146 h
 obtain ⟨a, b, c, d, e, rfl⟩ := len5 (hl.trans cl54)
 obtain ⟨s1, rfl⟩ := gS (at1 (hs 0 _ rfl) cl9 rfl)
 obtain ⟨l1, k1, rfl, hr1⟩ := gF (at1 (hs 1 _ rfl) cl23 rfl)
 obtain ⟨s2, rfl⟩ := gS (at1 (hs 2 _ rfl) cl9 rfl)
 obtain ⟨l2, k2, rfl, hr2⟩ := gF (at1 (hs 3 _ rfl) cl23 rfl)
 obtain ⟨l3, k3, rfl, hr3, hk3⟩ := gSl (row := S.row) (ok := S.Ok (heapM w)) Tryz.underlying144 cl75 (by decide) S.row_len (fun m' _ => rdS m') (at1 (hs 4 _ rfl) cl52 rfl)
 exact ⟨⟨s1, l1, k1, s2, l2, k2, l3, k3⟩, rfl, ⟨hr1, hr2, hr3, hk3⟩⟩
theorem rdMs {n : Nat} {cs : List Value} {x : DataW H × List MemPlace} (h : TR enc w n 77 cs = some x) : ∃ f : Ms, Ms.row f = cs /\ Ms.Ok (heapM w) f := by
 obtain ⟨hl, m, -, hs⟩ := rd_struct Tryz.underlying77 h
 obtain ⟨a, b, c, d, e, f, g, rfl⟩ := len7 (hl.trans cl97)
 obtain ⟨s1, rfl⟩ := gS (at1 (hs 0 _ rfl) cl9 rfl)
 obtain ⟨s2, rfl⟩ := gS (at1 (hs 1 _ rfl) cl9 rfl)
 obtain ⟨nn, rfl, hn⟩ := gI (at1 (hs 2 _ rfl) cl3 rfl)
 obtain ⟨y, hy⟩ := hs 3 _ rfl
 change TR enc w m 69 (([Value.string s1, .string s2, .int .i64 nn, d, e, f, g].drop 3).take (Tryz.prog.cellsOf 69)) = some y at hy
 rw [cl40] at hy
 obtain ⟨x, hx, hxo⟩ := rdE m _ _ hy
 simp only [List.drop_succ_cons, List.drop_zero, List.take_succ_cons, List.take_zero, E.row, List.cons.injEq, and_true] at hx
 obtain ⟨rfl, rfl, rfl, rfl⟩ := hx
 exact ⟨⟨s1, s2, nn, x⟩, rfl, ⟨hxo, hn⟩⟩
theorem rdIv {n : Nat} {cs : List Value} {x : DataW H × List MemPlace} (h : TR enc w n 105 cs = some x) : ∃ f : Iv, Iv.row f = cs /\ E.Ok (heapM w) f.x := by
 obtain ⟨hl, m, -, hs⟩ := rd_struct Tryz.underlying105 h
 obtain ⟨a, b, d, e, f, g, rfl⟩ := len6 (hl.trans cl58)
 obtain ⟨s1, rfl⟩ := gS (at1 (hs 0 _ rfl) cl9 rfl)
 obtain ⟨s2, rfl⟩ := gS (at1 (hs 1 _ rfl) cl9 rfl)
 obtain ⟨y, hy⟩ := hs 2 _ rfl
 change TR enc w m 69 (([Value.string s1, .string s2, d, e, f, g].drop 2).take (Tryz.prog.cellsOf 69)) = some y at hy
 rw [cl40] at hy
 obtain ⟨x, hx, hxo⟩ := rdE m _ _ hy
 simp only [List.drop_succ_cons, List.drop_zero, List.take_succ_cons, List.take_zero, E.row, List.cons.injEq, and_true] at hx
 obtain ⟨rfl, rfl, rfl, rfl⟩ := hx
 exact ⟨⟨s1, s2, x⟩, rfl, hxo⟩
theorem rdPo {n : Nat} {cs : List Value} {x : DataW H × List MemPlace} (h : TR enc w n 188 cs = some x) : ∃ f : Po, Po.row f = cs /\ E.Ok (heapM w) f.x := by
 obtain ⟨hl, m, -, hs⟩ := rd_struct Tryz.underlying188 h
 obtain ⟨a, d, e, f, g, rfl⟩ := len5 (hl.trans cl61)
 obtain ⟨s1, rfl⟩ := gS (at1 (hs 0 _ rfl) cl9 rfl)
 obtain ⟨y, hy⟩ := hs 1 _ rfl
 change TR enc w m 69 (([Value.string s1, d, e, f, g].drop 1).take (Tryz.prog.cellsOf 69)) = some y at hy
 rw [cl40] at hy
 obtain ⟨x, hx, hxo⟩ := rdE m _ _ hy
 simp only [List.drop_succ_cons, List.drop_zero, List.take_succ_cons, List.take_zero, E.row, List.cons.injEq, and_true] at hx
 obtain ⟨rfl, rfl, rfl, rfl⟩ := hx
 exact ⟨⟨s1, x⟩, rfl, hxo⟩
theorem rdBd {n : Nat} {cs : List Value} {x : DataW H × List MemPlace} (h : TR enc w n 190 cs = some x) : ∃ f : Bd, Bd.row f = cs /\ E.Ok (heapM w) f.x := by
 obtain ⟨hl, m, -, hs⟩ := rd_struct Tryz.underlying190 h
 obtain ⟨a, d, e, f, g, rfl⟩ := len5 (hl.trans cl64)
 obtain ⟨s1, rfl⟩ := gS (at1 (hs 0 _ rfl) cl9 rfl)
 obtain ⟨y, hy⟩ := hs 1 _ rfl
 change TR enc w m 69 (([Value.string s1, d, e, f, g].drop 1).take (Tryz.prog.cellsOf 69)) = some y at hy
 rw [cl40] at hy
 obtain ⟨x, hx, hxo⟩ := rdE m _ _ hy
 simp only [List.drop_succ_cons, List.drop_zero, List.take_succ_cons, List.take_zero, E.row, List.cons.injEq, and_true] at hx
 obtain ⟨rfl, rfl, rfl, rfl⟩ := hx
 exact ⟨⟨s1, x⟩, rfl, hxo⟩
theorem rdDs {n : Nat} {cs : List Value} {x : DataW H × List MemPlace} (h : TR enc w n 30 cs = some x) : ∃ d : Ds, d.row = cs /\ Ds.Ok (heapM w) d := by
 obtain ⟨hl, m, -, hs⟩ := rd_struct Tryz.underlying30 h
 obtain ⟨a, b, c, d, e, f, g, i, rfl⟩ := len8 (hl.trans cl30)
 obtain ⟨s1, rfl⟩ := gS (at1 (hs 0 _ rfl) cl9 rfl)
 obtain ⟨l1, k1, rfl, h1, o1⟩ := gSl (row := Ty.row) (ok := Ty.Ok (heapM w)) Tryz.underlying22 cl94 (by decide) (fun _ => rfl) (fun _ _ _ _ => rdTy) (at1 (hs 1 _ rfl) cl22 rfl)
 obtain ⟨l2, k2, rfl, h2⟩ := gF (at1 (hs 2 _ rfl) cl23 rfl)
 obtain ⟨l3, k3, rfl, h3, o3⟩ := gSl (row := Pr.row) (ok := Pr.Ok (heapM w)) Tryz.underlying24 cl54 (by decide) (fun _ => rfl) (fun _ _ _ _ => rdPr) (at1 (hs 3 _ rfl) cl24 rfl)
 obtain ⟨l4, k4, rfl, h4, o4⟩ := gSl (row := Ms.row) (ok := Ms.Ok (heapM w)) Tryz.underlying25 cl97 (by decide) (fun _ => rfl) (fun _ _ _ _ => rdMs) (at1 (hs 4 _ rfl) cl25 rfl)
 obtain ⟨l5, k5, rfl, h5, o5⟩ := gSl (row := Iv.row) (ok := fun f => E.Ok (heapM w) f.x) Tryz.underlying26 cl58 (by decide) (fun _ => rfl) (fun _ _ _ _ => rdIv) (at1 (hs 5 _ rfl) cl26 rfl)
 obtain ⟨l6, k6, rfl, h6, o6⟩ := gSl (row := Po.row) (ok := fun f => E.Ok (heapM w) f.x) Tryz.underlying27 cl61 (by decide) (fun _ => rfl) (fun _ _ _ _ => rdPo) (at1 (hs 6 _ rfl) cl27 rfl)
 obtain ⟨l7, k7, rfl, h7, o7⟩ := gSl (row := Bd.row) (ok := fun f => E.Ok (heapM w) f.x) Tryz.underlying28 cl64 (by decide) (fun _ => rfl) (fun _ _ _ _ => rdBd) (at1 (hs 7 _ rfl) cl28 rfl)
 exact ⟨⟨s1, l1, k1, l2, k2, l3, k3, l4, k4, l5, k5, l6, k6, l7, k7⟩, rfl, ⟨h1, o1, h2, h3, o3, h4, o4, h5, o5, h6, o6, h7, o7⟩⟩
end
end Go.Proofs
namespace Go.Proofs.YtnoompnjibfbfaaGreatDoor
open Go Go.Sx Go.Proofs Go.ChangeShapes Go.WideShapes Go.ChangeAt Go.RowKit
theorem same_old {P : Program} {f : FuncId} {args : List Value} {W : World} {v : Value} (h : Pur P f args (heapM W) v) : Calls P f args.toArray W fun e W' => e = .returned v /\ W'.os = W.os /\ W'.output = W.output /\ W.heap.size <= W'.heap.size /\ ∀ b, b < W.heap.size -> W'.heap[b]? = W.heap[b]? := by
 have h2 : Tri P f args.toArray (heapM W) fun e V' => e = .returned v /\ V' = heapM W := h
 unfold Tri at h2
 refine calls_mono (h2 W (heapM_le W)) ?_
 rintro e W' ⟨V', ⟨rfl, rfl⟩, hF⟩
 refine ⟨rfl, hF.os, hF.out, hF.size, fun b hb => ?_⟩
 have : heapM W b = some W.heap[b] := Array.getElem?_eq_getElem hb
 rw [hF.le b _ this]; exact this.symm
theorem Tryz.own : ownKnob Tryz.prog.godebug = none := by kernel_rfl
theorem Tryz.laidOut : laidOutB Tryz.prog = true := by kernel_rfl
theorem tab_of {W : World} (h : Lib.TabIs Tryz.prog W "strings.asciiSpace" .u8 Lib.asciiSpaceTab) : Tab (heapM W) := by
 have hg : Tryz.prog.globalNamed "strings.asciiSpace" = some 0 := by kernel_rfl
 unfold Lib.TabIs World.var? at h
 rw [hg, Option.bind_some] at h
 split at h
 ·rename_i cs t fr hb
  simp only [Option.some.injEq] at h
  exact ⟨t, fr, by rw [<- h]; exact hb⟩
 ·cases h
theorem desc_of {H : Type} {enc : TypeId × Value -> H} {W : World} {v : Value} {d0 : DataW H} {p : List MemPlace} (h : DataW.Trod enc Tryz.prog W 0 (fun _ => true) true 30 v d0 p) : ∃ d : Ds, v = d.v /\ Ds.Ok (heapM W) d := by
 obtain ⟨fuel, h⟩ := h
 obtain ⟨d, hd, hok⟩ := rdDs h
 refine ⟨d, ?_, hok⟩
 have hl : v.cells.toList.length = 8 := by rw [<- hd]; rfl
 cases v with
 | agg cs =>
  have : cs.toList = d.row := hd.symm
  show Value.agg cs = .agg d.row.toArray
  rw [<- this]
 | _ => simp [Value.cells] at hl
noncomputable def laidWorld (os : Os) : World :=
 let w0 := World.holding Tryz.prog os ⟨#[.cells #[.int .u16 9, .int .u16 13, .int .u16 1, .int .u16 32, .int .u16 133, .int .u16 101, .int .u16 160, .int .u16 5760, .int .u16 5600, .int .u16 8192, .int .u16 8202, .int .u16 1, .int .u16 8232, .int .u16 8233, .int .u16 1, .int .u16 8239, .int .u16 8287, .int .u16 48, .int .u16 12288, .int .u16 12288, .int .u16 1] 314,
  .cells #[.slice (some ⟨(World.settled Tryz.prog os).heap.size, 0, none⟩) 7 7, .slice none 0 0, .int .i64 2] 311], #[], []⟩
 {w0 with heap := (w0.heap.modify 0 fun
   | .cells _ t frozen => .cells (Lib.asciiSpaceTab.map fun z => Value.int .u8 z).toArray t frozen
   | o => o).modify 1 fun
   | .cells _ t frozen => .cells #[.pointer (some ⟨(World.settled Tryz.prog os).heap.size + 1, 0, none⟩)] t frozen
   | o => o }
theorem laidWorld_met (os : Os) (args : Array Value) : laidMet Tryz.prog [("unicode.White_Space", Rows.laid_unicode_White_Space), ("strings.asciiSpace", Rows.laid_strings_asciiSpace)] ((laidWorld os).forCall (fun _ _ => 0) ⟨#[], args, []⟩).memory :=
 (LaidIn.of_run [0, 1, (World.settled Tryz.prog os).heap.size, (World.settled Tryz.prog os).heap.size + 1] 12 (by kernel_rfl) (by kernel_rfl) (by kernel_rfl) (by kernel_rfl)).met
end Go.Proofs.YtnoompnjibfbfaaGreatDoor
namespace Go.Proofs.YtnoompnjibfbfaaGreatDoor
open Go Go.Sx Go.Proofs Go.ChangeShapes Go.WideShapes Go.ChangeAt Go.RowKit
abbrev laid0 : List (String × DataW Unit) := [("unicode.White_Space", Rows.laid_unicode_White_Space), ("strings.asciiSpace", Rows.laid_strings_asciiSpace)]
theorem noHandles : (laid0.filter fun x => x.2.handleName?.isSome) = [] := by kernel_rfl
theorem laidMetH_iff {w : World} : laidMetH Tryz.prog laid0 w ↔ laidMet Tryz.prog laid0 w := by
 unfold laidMetH
 rw [noHandles]
theorem tab_laid {W : World} (h : laidMet Tryz.prog laid0 W) : Tab (heapM W) := by
 obtain ⟨ps, h1, h2, h3⟩ := h
 obtain ⟨g, t, cs, fuel, p, q, hg, ht, hvar, hd, hrest, hps⟩ := h1
 obtain ⟨g', t', cs', fuel', p', q', hg', ht', hvar', hd', hrest', hps'⟩ := hrest
 refine tab_of ?_
 unfold Lib.TabIs
 rw [hvar']
 have hgg : g' = 0 := Option.some.inj (hg'.symm.trans (show Tryz.prog.globalNamed "strings.asciiSpace" = some 0 by kernel_rfl))
 subst hgg
 have htt : t' = 300 := Option.some.inj (ht'.symm.trans (show (Tryz.prog.globals[0]?).map (·.type) = some 300 by kernel_rfl))
 subst htt
 have hdat : (Rows.laid_strings_asciiSpace : DataW Unit) = Lib.tabData .u8 Lib.asciiSpaceTab := by kernel_rfl
 rw [hdat] at hd'
 rw [<- Lib.cells_of_tab (n := 256) (e := 5) Tryz.underlying300 Tryz.underlying5 (by kernel_rfl) (by kernel_rfl) hd']
theorem kept {W W' : World} (h1 : W'.os = W.os) (h2 : W'.output = W.output) (hold : ∀ b, b < W.heap.size -> W'.heap[b]? = W.heap[b]?) (may : MemPlace -> Prop) : W.keptBut W' may := by
 refine ⟨h1, h2, fun i hi => ?_⟩
 rw [hold i hi]
 split <;> simp_all
theorem again_arg {H : Type} {enc : TypeId × Value -> H} {t : TypeId} (hr : Tryz.prog.readableRec t = true) (hrow : t < Tryz.prog.types.size) {W W' : World} {v : Value} {d : DataW H} {ps : List MemPlace} (h : DataW.Trod enc Tryz.prog W 0 (fun _ => true) true t v d ps)
  (hold : ∀ b, b < W.heap.size -> W'.heap[b]? = W.heap[b]?) (hlt : ∀ x ∈ ps, x.block < W.heap.size) : DataW.Trod enc Tryz.prog W' 0 (fun b => decide (b < W.heap.size)) true t v d ps :=
 WideElems.Trod_stays Tryz.laidOut hr hrow h (fun x hx => by
  have := hlt x hx
  cases x with
  | cell b o => exact World.cell?_of_block (w := W) (hold b this)
  | map b => exact hold b this) (fun x hx => by simpa using hlt x hx)
theorem wit {C : Checked} {os : Os} {f : FuncId} {fn : Func} {s : ChangeSpec} {conds : List PathCond} {apart : Bool} {X : World -> Array Value -> Prop} {H : Type} {enc : TypeId × Value -> H} (w0 : World) (args : Array Value) (fuel : Nat) (hos : w0.os = os)
  (hv : (w0.forCall (fun _ _ => 0) ⟨#[], args, []⟩).variablesRefB C.prog = true)
  (hr : ((w0.forCall (fun _ _ => 0) ⟨#[], args, []⟩).heap.toList.drop C.prog.globals.size).take ((begin C.prog (fun _ _ => 0) default).world.heap.size - C.prog.globals.size) =
   (begin C.prog (fun _ _ => 0) default).world.heap.toList.drop C.prog.globals.size)
  (hok : Input.okWideB C.prog (w0.forCall (fun _ _ => 0) ⟨#[], args, []⟩) f ⟨#[], args, []⟩ = true)
  (hpre : s.preB enc C.prog fn conds apart (w0.forCall (fun _ _ => 0) ⟨#[], args, []⟩).memory args fuel = true)
  (hsz : s.sizedB enc C.prog fn apart (w0.forCall (fun _ _ => 0) ⟨#[], args, []⟩).memory args fuel = true)
  (hx : X (w0.forCall (fun _ _ => 0) ⟨#[], args, []⟩).memory args) :
  ∃ (w : World) (tape : Tape) (i : Input), w.os = os /\ (w.forCall tape i).Shaped C.prog /\ i.vars = [] /\ Input.okWide C.prog (w.forCall tape i) .any w.heap.size f i /\
   ((s.pre enc C.prog fn conds apart (w.forCall tape i).memory i.args /\ X (w.forCall tape i).memory i.args) /\ sizedMet enc C.prog fn (OpenSpec.ofChange s) apart (w.forCall tape i).memory i.args) /\ ({} : Assume).holds C.prog (lone (Frame.enter C.prog f i.args .normal) [] (w.forCall tape i)) :=
 ⟨w0, fun _ _ => 0, ⟨#[], args, []⟩, hos, World.shaped_of_RefB hv hr, (Input.okWide_of_okWideB (base := 0) hok).1, (Input.okWide_of_okWideB hok).2, ⟨⟨ChangeSpec.pre_of_preB hpre, hx⟩, sizedMet_of_sizedB hsz⟩, by
  first | exact ⟨trivial, trivial⟩ | simp [Assume.holds]⟩
theorem again_all {H : Type} {enc : TypeId × Value -> H} {W W' : World} (hold : ∀ b, b < W.heap.size -> W'.heap[b]? = W.heap[b]?) : ∀ {ts : List TypeId} {vs : List Value} {ds : List (DataW H)} {ps : List MemPlace}, (∀ t ∈ ts, Tryz.prog.readableRec t = true /\ t < Tryz.prog.types.size) ->
  DataW.TrodAll enc Tryz.prog W 0 (fun _ => true) true ts vs ds ps -> (∀ x ∈ ps, x.block < W.heap.size) -> DataW.TrodAll enc Tryz.prog W' 0 (fun b => decide (b < W.heap.size)) true ts vs ds ps
 | [], _, _, _, _, h, _ => by
  obtain ⟨rfl, rfl, rfl⟩ := trodAll_nil h
  exact trodAll_mk0
 | t :: ts, _, _, _, hr, h, hlt => by
  obtain ⟨v, vs, d, ds, p, q, rfl, rfl, rfl, h1, h2⟩ := trodAll_cons h
  exact ⟨p, q, again_arg (hr t (by simp)).1 (hr t (by simp)).2 h1 hold (fun x hx => hlt x (List.mem_append_left _ hx)), again_all hold (fun u hu => hr u (by simp [hu])) h2 (fun x hx => hlt x (List.mem_append_right _ hx)), rfl⟩
theorem u8R {n : Int} (h : (Lit.int .u8 n).wf = true) : 0 <= n /\ n <= 255 := by
 simp only [Lit.wf, Bool.and_eq_true, decide_eq_true_eq] at h
 exact ⟨h.1, h.2⟩
end Go.Proofs.YtnoompnjibfbfaaGreatDoor
namespace Go.Proofs
open Go Go.Sx
attribute [local irreducible] Go.Sx.Tri
section
variable {V : Mem} {d : Ds} {m : Mm}
def RI (V : Mem) : Ending -> Mem -> Prop := fun e V' => V = V' /\ ∃ r : Int, e = .returned (.int .i64 r) /\ -1 <= r /\ r <= 2000
def RY (V : Mem) : Ending -> Mem -> Prop := fun e V' => V = V' /\ ∃ b : Bool, e = .returned (.bool b)
theorem RI.mk {r : Int} (h : -1 <= r /\ r <= 2000) : RI V (.returned (.int .i64 r)) V := ⟨rfl, r, rfl, h⟩
theorem RY.mk {b : Bool} : RY V (.returned (.bool b)) V := ⟨rfl, b, rfl⟩
theorem leftC : ∀ (k : Nat), k <= 65 -> ∀ (e : E) (n : Int), E.Ok V e -> -1 <= n -> n <= 2000 -> Tri Tryz.prog 108 #[e.v, .int .i64 k, .int .i64 n] V (RI V) := by
 intro k
 induction k with
 | zero =>
  intro _ e n he h1 h2
  refine Tri.mono (x108 (v0 := e.op) (v1 := e.n) (v2 := e.s) (v3 := e.l) (v4 := 0) (v5 := n) (R := RI V) ?_) fun _ _ h => h
  unfold w108
  exact ⟨fun _ => .mk ⟨by omega, by omega⟩, fun _ => ⟨fun _ => .mk ⟨by omega, by omega⟩, fun h => absurd rfl h⟩⟩
 | succ k ih =>
  intro hk e n he h1 h2
  refine Tri.mono (x108 (v0 := e.op) (v1 := e.n) (v2 := e.s) (v3 := e.l) (v4 := ((k + 1 : Nat) : Int)) (v5 := n) (R := RI V) ?_) fun _ _ h => h
  unfold w108
  refine ⟨fun _ => .mk ⟨by omega, by omega⟩, fun h3 => ⟨fun _ => .mk ⟨by omega, by omega⟩, fun _ => ⟨fun _ => .mk ⟨by omega, by omega⟩, fun _ => ⟨⟨by omega, by omega⟩, ?_⟩⟩⟩⟩
  have h3 : ¬ n <= 0 := h3
  refine loop2s (mk := .int .i64) (b0 := n - 1) inj_i e.k.length (fun i a V1 => V = V1 /\ -1 <= a /\ a <= 2000) ⟨rfl, by omega, by omega⟩ ?_
  rintro i a V1 J hi ⟨rfl, ha1, ha2⟩ hJ
  refine br_exit (fun _ => .mk ⟨ha1, ha2⟩) (fun hlt hn => ?_)
  obtain ⟨x, hxm, hx, -, hil, hp, hz, hrow⟩ := he.rows.get hlt
  refine ⟨hp, hz, hlt, _, _, _, _, hrow, ⟨by omega, by omega⟩, ?_⟩
  rw [show ((k + 1 : Nat) : Int) - 1 = (k : Int) by omega]
  refine Tri.mono (ih (by omega) x a (he.kids x hxm) ha1 ha2) ?_
  rintro _ _ ⟨rfl, r, rfl, h4⟩
  exact ⟨_, rfl, he.rows.succ hlt, hJ hil _ _ ⟨rfl, h4⟩⟩
theorem leftAllC : ∀ (k : Nat), k <= 65 -> ∀ (s : Sl) (xs : List S) (n : Int), RowsAt V s 5 (xs.map S.row) -> (∀ x ∈ xs, S.Ok V x) -> -1 <= n -> n <= 2000 -> Tri Tryz.prog 107 #[s.v, .int .i64 k, .int .i64 n] V (RI V) := by
 intro k
 induction k with
 | zero =>
  intro _ s xs n hr ho h1 h2
  refine Tri.mono (x107 (v0 := s) (v1 := 0) (v2 := n) (R := RI V) ?_) fun _ _ h => h
  unfold w107
  exact ⟨fun _ => .mk ⟨by omega, by omega⟩, fun h => absurd rfl h⟩
 | succ k ih =>
  intro hk s xs n hr ho h1 h2
  refine Tri.mono (x107 (v0 := s) (v1 := ((k + 1 : Nat) : Int)) (v2 := n) (R := RI V) ?_) fun _ _ h => h
  unfold w107
  refine ⟨fun _ => .mk ⟨by omega, by omega⟩, fun _ => ?_⟩
  refine loop3t (mk := .int .i64) (mc := .int .i64) 0 n inj_i xs.length (fun i a V1 => V = V1 /\ -1 <= a /\ a <= 2000) ⟨rfl, h1, h2⟩ ?_
  rintro i b a V1 J hi ⟨rfl, ha1, ha2⟩ hJ
  refine br_exit (fun _ => .mk ⟨ha1, ha2⟩) (fun hlt hn => ?_)
  have hn : 0 <= a := hn
  obtain ⟨x, hxm, hx, -, hil, hp, hz, hrow⟩ := hr.get hlt
  have hxo := ho x hxm
  cases x with
  | mk op sn el es ll ls xl xs' =>
  cases hxo with
  | mk he hes hl hls hxr hxs hop =>
  have hq := ptrAdd_ne (n := i * 5) hp
  have hsucc := hr.succ hlt
  refine ⟨⟨by omega, by omega⟩, hp, hz, hlt, hq, _, _, _, _, _, hrow, fun _ => .mk ⟨by omega, by omega⟩, fun _ => ?_⟩
  refine loop2s (mk := .int .i64) (b0 := a - 1) inj_i es.length (fun j c V2 => V = V2 /\ -1 <= c /\ c <= 2000) ⟨rfl, by omega, by omega⟩ ?_
  rintro j c V2 J1 hj ⟨rfl, hc1, hc2⟩ hJ1
  have ek : ((k + 1 : Nat) : Int) - 1 = (k : Int) := by omega
  refine ⟨hp, hz, hlt, hq, _, _, _, _, _, hrow, br_exit (fun _ => ⟨fun hc => ⟨hp, hz, hlt, hq, _, _, _, _, _, hrow, ⟨by omega, by omega⟩, ?_⟩, fun hc => ⟨fun h => absurd h hc, fun _ => ⟨hsucc, hJ hil _ _ _ ⟨rfl, hc1, hc2⟩⟩⟩⟩) (fun hlt2 hc => ?_)⟩
  ·rw [ek]
   refine Tri.mono (ih (by omega) ll ls c hl hls hc1 hc2) ?_
   rintro _ _ ⟨rfl, r, rfl, h3⟩
   refine ⟨_, rfl, fun hr0 => ⟨hp, hz, hlt, hq, _, _, _, _, _, hrow, ⟨by omega, by omega⟩, Tri.mono (ih (by omega) xl xs' r hxr hxs h3.1 h3.2) ?_⟩, fun _ => ⟨hsucc, hJ hil _ _ _ ⟨rfl, h3⟩⟩⟩
   rintro _ _ ⟨rfl, r2, rfl, h4⟩
   exact ⟨_, rfl, hsucc, hJ hil _ _ _ ⟨rfl, h4⟩⟩
  ·obtain ⟨y, hym, hy, -, hjl, hpy, hzy, hrowy⟩ := he.get hlt2
   refine ⟨hp, hz, hlt, hq, _, _, _, _, _, hrow, hpy, hzy, hlt2, _, _, _, _, hrowy, Tri.mono (leftC 65 (by omega) y c (hes y hym) hc1 hc2) ?_⟩
   rintro _ _ ⟨rfl, r, rfl, h3⟩
   exact ⟨_, rfl, he.succ hlt2, hJ1 hjl _ _ ⟨rfl, h3⟩⟩
theorem wideC {l : Sl} {xs : List Fld} (hr : RowsAt V l 2 (xs.map Fld.row)) : Tri Tryz.prog 106 #[l.v] V (RY V) := by
 refine Tri.mono (x106 (v0 := l) (R := RY V) ?_) fun _ _ h => h
 unfold w106
 refine ⟨fun _ => .mk, fun _ => loop2 (mk := .bool) (b0 := false) xs.length (fun i V1 => V = V1) rfl ?_⟩
 rintro i b V1 J hi rfl hJ
 refine ⟨fun hlt => ?_, fun _ => .mk⟩
 obtain ⟨x, hxm, hx, -, hil, hp, hz, hrow⟩ := hr.get hlt
 have hq := ptrAdd_ne (n := i * 2) hp
 exact ⟨hp, hz, hlt, hq, _, _, hrow, fun _ => .mk, fun _ => ⟨hp, hz, hlt, hq, _, _, hrow, fun _ => .mk, fun _ => ⟨hr.succ hlt, hJ hil _ _ rfl⟩⟩⟩
theorem overC (hd : Ds.Ok V d) {n : Int} (h1 : -1 <= n) (h2 : n <= 2000) : Tri Tryz.prog 67 #[d.v, .int .i64 n] V (RY V) := by
 refine Tri.mono (x67 (v0 := d.name) (v1 := d.ts) (v2 := d.gs) (v3 := d.ps) (v4 := d.ms) (v5 := d.is) (v6 := d.qs) (v7 := d.bs) (v8 := n) (R := RY V) ?_) fun _ _ h => h
 unfold w67
 refine ⟨fun _ => .mk, fun _ => ⟨fun _ => .mk, fun _ => ⟨fun _ => .mk, fun _ => ⟨fun _ => .mk, fun _ => ⟨fun _ => .mk, fun _ => ⟨fun _ => .mk, fun _ => ⟨fun _ => .mk, fun _ => Tri.mono (wideC hd.globals) ?_⟩⟩⟩⟩⟩⟩⟩
 rintro _ _ ⟨rfl, b, rfl⟩
 refine ⟨_, rfl, fun _ => .mk, fun _ => loop2 (mk := .bool) (b0 := false) d.types.length (fun i V1 => V = V1) rfl ?_⟩
 rintro i b V1 J hi rfl hJ
 refine ⟨fun hlt => ?_, fun _ => ?_⟩
 ·obtain ⟨x, hxm, hx, -, hil, hp, hz, hrow⟩ := hd.types.get hlt
  have hq := ptrAdd_ne (n := i * 2) hp
  refine ⟨hp, hz, hlt, hq, _, _, hrow, fun _ => .mk, fun _ => ⟨hp, hz, hlt, hq, _, _, hrow, Tri.mono (wideC (hd.typesOk x hxm).fields) ?_⟩⟩
  rintro _ _ ⟨rfl, b, rfl⟩
  exact ⟨_, rfl, fun _ => .mk, fun _ => ⟨hd.types.succ hlt, hJ hil _ _ rfl⟩⟩
 refine loop3t (mk := .bool) (mc := .int .i64) b n inj_i d.procs.length (fun i a V1 => V = V1 /\ -1 <= a /\ a <= 2000) ⟨rfl, h1, h2⟩ ?_
 rintro i b a V1 J hi ⟨rfl, ha1, ha2⟩ hJ
 refine br_exit (fun _ => ?_) (fun hlt hn => ?_)
 rotate_left
 ·obtain ⟨x, hxm, hx, -, hil, hp, hz, hrow⟩ := hd.procs.get hlt
  have ho := hd.procsOk x hxm
  refine ⟨hp, hz, hlt, _, _, _, _, _, hrow, fun _ => .mk, fun _ => ⟨fun _ => .mk, fun _ => Tri.mono (wideC ho.params) ?_⟩⟩
  rintro _ _ ⟨rfl, b1, rfl⟩
  refine ⟨_, rfl, fun _ => .mk, fun _ => Tri.mono (wideC ho.locals) ?_⟩
  rintro _ _ ⟨rfl, b2, rfl⟩
  refine ⟨_, rfl, fun _ => .mk, fun _ => Tri.mono (leftAllC 65 (by omega) x.bs x.body a ho.body ho.stmts ha1 ha2) ?_⟩
  rintro _ _ ⟨rfl, r, rfl, h3⟩
  exact ⟨_, rfl, hd.procs.succ hlt, hJ hil _ _ _ ⟨rfl, h3⟩⟩
 refine loop3t (mk := .bool) (mc := .int .i64) b a inj_i d.measures.length (fun i a V1 => V = V1 /\ -1 <= a /\ a <= 2000) ⟨rfl, ha1, ha2⟩ ?_
 clear hJ
 rintro i b a V1 J hi ⟨rfl, ha1, ha2⟩ hJ
 refine br_exit (fun _ => ?_) (fun hlt hn => ?_)
 rotate_left
 ·obtain ⟨x, hxm, hx, -, hil, hp, hz, hrow⟩ := hd.measures.get hlt
  have hq := ptrAdd_ne (n := i * 7) hp
  refine ⟨hp, hz, hlt, hq, _, _, _, _, _, _, _, hrow, fun _ => .mk, fun _ => ⟨hp, hz, hlt, hq, _, _, _, _, _, _, _, hrow, fun _ => .mk, fun _ => ⟨hp, hz, hlt, hq, _, _, _, _, _, _, _, hrow, Tri.mono (leftC 65 (by omega) x.x a (hd.measuresOk x hxm).x ha1 ha2) ?_⟩⟩⟩
  rintro _ _ ⟨rfl, r, rfl, h3⟩
  exact ⟨_, rfl, hd.measures.succ hlt, hJ hil _ _ _ ⟨rfl, h3⟩⟩
 refine loop3t (mk := .bool) (mc := .int .i64) b a inj_i d.invs.length (fun i a V1 => V = V1 /\ -1 <= a /\ a <= 2000) ⟨rfl, ha1, ha2⟩ ?_
 clear hJ
 rintro i b a V1 J hi ⟨rfl, ha1, ha2⟩ hJ
 refine br_exit (fun _ => ?_) (fun hlt hn => ?_)
 rotate_left
 ·obtain ⟨x, hxm, hx, -, hil, hp, hz, hrow⟩ := hd.invs.get hlt
  have hq := ptrAdd_ne (n := i * 6) hp
  refine ⟨hp, hz, hlt, hq, _, _, _, _, _, _, hrow, fun _ => .mk, fun _ => ⟨hp, hz, hlt, hq, _, _, _, _, _, _, hrow, fun _ => .mk, fun _ => ⟨hp, hz, hlt, hq, _, _, _, _, _, _, hrow, Tri.mono (leftC 65 (by omega) x.x a (hd.invsOk x hxm) ha1 ha2) ?_⟩⟩⟩
  rintro _ _ ⟨rfl, r, rfl, h3⟩
  exact ⟨_, rfl, hd.invs.succ hlt, hJ hil _ _ _ ⟨rfl, h3⟩⟩
 refine loop3t (mk := .bool) (mc := .int .i64) b a inj_i d.pots.length (fun i a V1 => V = V1 /\ -1 <= a /\ a <= 2000) ⟨rfl, ha1, ha2⟩ ?_
 clear hJ
 rintro i b a V1 J hi ⟨rfl, ha1, ha2⟩ hJ
 refine br_exit (fun _ => ?_) (fun hlt hn => ?_)
 rotate_left
 ·obtain ⟨x, hxm, hx, -, hil, hp, hz, hrow⟩ := hd.pots.get hlt
  have hq := ptrAdd_ne (n := i * 5) hp
  refine ⟨hp, hz, hlt, hq, _, _, _, _, _, hrow, fun _ => .mk, fun _ => ⟨hp, hz, hlt, hq, _, _, _, _, _, hrow, Tri.mono (leftC 65 (by omega) x.x a (hd.potsOk x hxm) ha1 ha2) ?_⟩⟩
  rintro _ _ ⟨rfl, r, rfl, h3⟩
  exact ⟨_, rfl, hd.pots.succ hlt, hJ hil _ _ _ ⟨rfl, h3⟩⟩
 refine loop3t (mk := .bool) (mc := .int .i64) b a inj_i d.bounds.length (fun i a V1 => V = V1 /\ -1 <= a /\ a <= 2000) ⟨rfl, ha1, ha2⟩ ?_
 clear hJ
 rintro i b a V1 J hi ⟨rfl, ha1, ha2⟩ hJ
 refine br_exit (fun _ => .mk) (fun hlt hn => ?_)
 obtain ⟨x, hxm, hx, -, hil, hp, hz, hrow⟩ := hd.bounds.get hlt
 have hq := ptrAdd_ne (n := i * 5) hp
 refine ⟨hp, hz, hlt, hq, _, _, _, _, _, hrow, fun _ => .mk, fun _ => ⟨hp, hz, hlt, hq, _, _, _, _, _, hrow, Tri.mono (leftC 65 (by omega) x.x a (hd.boundsOk x hxm) ha1 ha2) ?_⟩⟩
 rintro _ _ ⟨rfl, r, rfl, h3⟩
 exact ⟨_, rfl, hd.bounds.succ hlt, hJ hil _ _ _ ⟨rfl, h3⟩⟩
theorem greatC (hd : Ds.Ok V d) : Tri Tryz.prog 33 #[d.v] V (RY V) := by
 refine Tri.mono (x33 (v0 := d.name) (v1 := d.ts) (v2 := d.gs) (v3 := d.ps) (v4 := d.ms) (v5 := d.is) (v6 := d.qs) (v7 := d.bs) (R := RY V) ?_) fun _ _ h => h
 unfold w33
 refine Tri.mono (overC hd (n := 2000) (by omega) (by omega)) ?_
 rintro _ _ ⟨rfl, b, rfl⟩
 exact ⟨_, rfl, .mk⟩
theorem manyC (hm : Mm.Ok V m) : Tri Tryz.prog 34 #[m.v] V (RY V) := by
 refine Tri.mono (x34 (v0 := m.gs) (v1 := m.ns) (R := RY V) ?_) fun _ _ h => h
 unfold w34
 refine ⟨fun _ => .mk, fun _ => ⟨fun _ => .mk, fun _ => loop2 (mk := .bool) (b0 := false) m.nodes.length (fun i V1 => V = V1) rfl ?_⟩⟩
 rintro i b V1 J hi rfl hJ
 refine ⟨fun hlt => ?_, fun _ => .mk⟩
 obtain ⟨x, hxm, hx, -, hil, hp, hz, hrow⟩ := hm.nodes.get hlt
 exact ⟨hp, hz, hlt, ptrAdd_ne hp, _, _, hrow, fun _ => .mk, fun _ => ⟨hm.nodes.succ hlt, hJ hil _ _ rfl⟩⟩
theorem largeC (hd : Ds.Ok V d) (hm : Mm.Ok V m) : Tri Tryz.prog 11 #[d.v, m.v] V (RY V) := by
 refine Tri.mono (x11 (v0 := d.name) (v1 := d.ts) (v2 := d.gs) (v3 := d.ps) (v4 := d.ms) (v5 := d.is) (v6 := d.qs) (v7 := d.bs) (v8 := m.gs) (v9 := m.ns) (R := RY V) ?_) fun _ _ h => h
 unfold w11
 refine Tri.mono (greatC hd) ?_
 rintro _ _ ⟨rfl, b, rfl⟩
 refine ⟨_, rfl, fun _ => .mk, fun _ => Tri.mono (manyC hm) ?_⟩
 rintro _ _ ⟨rfl, b, rfl⟩
 exact ⟨_, rfl, .mk⟩
end
section
variable {V : Mem} {d : Ds} {m : Mm}
inductive ExpP (d : Ds) (m : Mm) (e : E) (x : Int) : Int -> Int -> Prop where
 | arg (h : ¬ (GoodD d m /\ validE e = true)) : ExpP d m e x 0 1
 | range (h : GoodD d m) (h0 : validE e = true) (h1 : ¬ (0 <= x /\ x <= (m.nodes.length : Int))) : ExpP d m e x 0 2
 | type (h : GoodD d m) (h0 : validE e = true) (h1 : 0 <= x /\ x <= (m.nodes.length : Int)) (h2 : (exprT d (inFormS d (typV d m x)) e).2 ≠ 0) : ExpP d m e x 0 (exprT d (inFormS d (typV d m x)) e).2
 | val (h : GoodD d m) (h0 : validE e = true) (h1 : 0 <= x /\ x <= (m.nodes.length : Int)) (h2 : (exprT d (inFormS d (typV d m x)) e).2 = 0) (rs : Rs) (h4 : Out d m (fun _ _ => False) (fun n => evE d m (evM d m n) x e) rs) : ExpP d m e x (valRs rs) (errRs rs)
theorem measR_good (G : GoodD d m) {e : E} (he : validE e = true) {x : Int} (h1 : 0 <= x /\ x <= (m.nodes.length : Int)) : measR d (typV d m x) e = exprT d (inFormS d (typV d m x)) e := by
 have hw : wellE d (validE e) = 0 := by unfold wellE; rw [if_pos ⟨G.valid, he⟩, if_pos G.chk]
 unfold measR
 rw [if_neg (fun h => h hw), if_neg]
 rintro ⟨h2, h3⟩
 rcases this_typ G h1.1 h1.2 with ⟨h, -⟩ | ⟨h, -⟩
 ·exact h2 h
 ·rw [h] at h3; cases h3
theorem c28 [Tab V] (hd : Ds.Ok V d) (hm : Mm.Ok V m) {e : E} (he : E.Ok V e) {x : Int} : Tri Tryz.prog 28 #[d.v, m.v, e.v, .int .i64 x] V fun r V' => V' = V /\ ∃ v f, r = .returned (.tuple #[.int .i64 v, .int .i64 f]) /\ ExpP d m e x v f := by
 refine Tri.less ?_
 refine x28 (v0 := d.name) (v1 := d.ts) (v2 := d.gs) (v3 := d.ps) (v4 := d.ms) (v5 := d.is) (v6 := d.qs) (v7 := d.bs) (v8 := m.gs) (v9 := m.ns) (v10 := e.op) (v11 := e.n) (v12 := e.s) (v13 := e.l) (v14 := x) ?_
 unfold w28
 have ret : ∀ {V1 : Mem} {v f : Int}, V.sub V1 -> ExpP d m e x v f -> ∃ W, (W = V /\ ∃ v' f', Ending.returned (.tuple #[.int .i64 v, .int .i64 f]) = .returned (.tuple #[.int .i64 v', .int .i64 f']) /\ ExpP d m e x v' f') /\ W.sub V1 := fun hs hp => ⟨V, ⟨rfl, _, _, rfl, hp⟩, hs⟩
 refine Tri.mono (c35 hd hm) ?_
 rintro _ V1 (⟨p, kb, bb, rfl, S, M⟩ | ⟨hG, rfl, hs⟩)
 rotate_left
 ·exact ⟨_, _, rfl, fun h => absurd h (by decide), fun _ => ret hs (.arg fun h => hG h.1)⟩
 haveI : Tab V1 := Tab.sub (V := V) inferInstance M.sub
 refine ⟨_, _, rfl, fun _ => (c59 (he.sub M.sub)).call ⟨_, rfl, fun h0 => ?_, fun h0 => ret M.sub (.arg fun k => h0 k.2)⟩, fun h => absurd rfl h⟩
 refine (c36 S M).call ⟨_, rfl, fun h1 => ?_, fun h1 => ret M.sub (.range S.good h0 fun k => h1 (decide_eq_true k))⟩
 have h1 : 0 <= x /\ x <= (m.nodes.length : Int) := of_decide_eq_true h1
 have hmr := measR_good S.good h0 h1
 refine (c38 S M h1).call ⟨_, rfl, (c60 scopeC newC (hd.sub M.sub) (he.sub M.sub)).call ?_⟩
 rw [hmr]
 refine ⟨_, _, rfl, fun h2 b1 hb1 b2 hb2 b3 hb3 => ?_, fun h2 => ret M.sub (.type S.good h0 h1 h2)⟩
 have h2 : (exprT d (inFormS d (typV d m x)) e).2 = 0 := h2
 have s1 := Mem.sub_new hb1 (cell (.pointer (some ⟨p, 0, none⟩)) 83)
 have s2 := Mem.sub_new hb2 (.cells e.row.toArray 69 (0, 0))
 have s3 := Mem.sub_new hb3 (cell (.int .i64 x) 3)
 have s := s1.trans (s2.trans s3)
 refine Tri.mono (tryC S (M.grow s) (g := fun n => evE d m (evM d m n) x e) (caps := [.pointer (some ⟨b1, 0, none⟩), .pointer (some ⟨b2, 0, none⟩), .pointer (some ⟨b3, 0, none⟩)]) Tryz.call61 fun V2 hs1 =>
  c61 S ((M.grow s).grow hs1) (fun _ _ h => by cases h) (hs1 _ _ ((s2.trans s3) _ _ (Mem.set_same _ _ _))) (hs1 _ _ (s3 _ _ (Mem.set_same _ _ _))) (hs1 _ _ (Mem.set_same _ _ _)) (VE.of_valid h0) he (t := (exprT d (inFormS d (typV d m x)) e).1) (T := typV d m x) (Prod.ext rfl h2) (this_typ S.good h1.1 h1.2)) ?_
 rintro _ V' ⟨rs, rfl, ho, -, kn', m1, -⟩
 exact ⟨_, _, rfl, ret m1.sub (.val S.good h0 h1 h2 rs ho)⟩
def gB (d : Ds) (m : Mm) : Bool := validD d && wellT d && validM d m
theorem gB_iff : gB d m = true ↔ GoodD d m := by
 unfold gB wellT
 simp only [Bool.and_eq_true, decide_eq_true_eq]
 constructor
 ·rintro ⟨⟨h1, -, h2⟩, h3⟩; exact ⟨h1, chk_zero h2, h3⟩
 ·rintro h; exact ⟨⟨h.valid, h.valid, by rw [h.chk]; rfl⟩, h.mem⟩
theorem c14 (hd : Ds.Ok V d) (hm : Mm.Ok V m) : PP 14 [d.v, m.v] V (.int .i64 (if gB d m = true then 0 else 1)) := by
 refine x14 (v0 := d.name) (v1 := d.ts) (v2 := d.gs) (v3 := d.ps) (v4 := d.ms) (v5 := d.is) (v6 := d.qs) (v7 := d.bs) (v8 := m.gs) (v9 := m.ns) ?_
 unfold w14
 refine (c44 hd).call ⟨_, rfl, fun h1 => (c45 hd).call ⟨_, rfl, fun h2 => (c46 hd hm).call ⟨_, rfl, fun h3 => ?_, fun h3 => ?_⟩, fun h2 => ?_⟩, fun h1 => ?_⟩
 ·rw [if_pos (by unfold gB; rw [show validD d = true from h1, show wellT d = true from h2, show validM d m = true from h3]; rfl)]; exact ⟨rfl, rfl⟩
 ·rw [if_neg (by unfold gB; rw [(Bool.not_eq_true _).mp h3, Bool.and_false]; decide)]; exact ⟨rfl, rfl⟩
 ·rw [if_neg (by unfold gB; rw [(Bool.not_eq_true _).mp h2, Bool.and_false, Bool.false_and]; decide)]; exact ⟨rfl, rfl⟩
 ·rw [if_neg (by unfold gB; rw [(Bool.not_eq_true _).mp h1, Bool.false_and, Bool.false_and]; decide)]; exact ⟨rfl, rfl⟩
theorem c31 (G : GoodD d m) (hd : Ds.Ok V d) (hm : Mm.Ok V m) {x : Int} (hx : 0 <= x /\ x <= (m.nodes.length : Int)) : PP 31 [d.v, m.v, .int .i64 x] V (.string (typV d m x)) := by
 refine x31 (v0 := d.name) (v1 := d.ts) (v2 := d.gs) (v3 := d.ps) (v4 := d.ms) (v5 := d.is) (v6 := d.qs) (v7 := d.bs) (v8 := m.gs) (v9 := m.ns) (v10 := x) ?_
 unfold w31
 refine ⟨fun h0 => ?_, fun h0 => ?_⟩
 ·unfold typV; rw [if_pos h0]; exact ⟨rfl, rfl⟩
 have h0 : ¬ x = 0 := h0
 obtain ⟨q, j, n, tt, rfl, b1, b5, b6, b7⟩ := node_at G (x := x) (by omega) hx.2
 rw [show ((q : Int) + 1 - 1) = (q : Int) by omega]
 have hnn := hm.nodes.n_eq
 obtain ⟨y, hym, hy, -, hl2, hp2, hz2, hrow2⟩ := hm.nodes.get (i := q) (by omega)
 rw [b1] at hy; cases hy
 have htn := hd.types.n_eq
 have hjl := (List.getElem?_eq_some_iff.1 b6).1
 obtain ⟨z, hzm, hz, -, hl3, hp3, hz3, hrow3⟩ := hd.types.get (i := j) (by omega)
 rw [b6] at hz; cases hz
 have hI : IR ((q : Int)) := ⟨by omega, by have := (hm.nodes.succ (i := q) (by omega)).2; omega⟩
 refine ⟨hI, hp2, hz2, by omega, ptrAdd_ne hp2, _, _, hrow2, ?_⟩
 rw [b5]
 refine ⟨hp3, hz3, by omega, ptrAdd_ne hp3, _, _, hrow3, ?_, rfl⟩
 rw [b7]
theorem c32 (hd : Ds.Ok V d) {s : ByteArray} : PP 32 [d.v, .string s] V (.int .i64 (mIdx d s)) := by
 refine x32 (v0 := d.name) (v1 := d.ts) (v2 := d.gs) (v3 := d.ps) (v4 := d.ms) (v5 := d.is) (v6 := d.qs) (v7 := d.bs) (v8 := s) ?_
 unfold w32
 refine loop2 (mk := .int .i64) (b0 := 0) d.measures.length (fun i V1 => V = V1 /\ AllTo (fun y : Ms => !decide (y.name = s)) d.measures i) ⟨rfl, AllTo.zero _ _⟩ ?_
 rintro i b V1 J hi ⟨rfl, ha⟩ hJ
 refine ⟨fun hlt => ?_, fun hge => ?_⟩
 ·obtain ⟨x, hxm, hx, -, hil, hp, hz, hrow⟩ := hd.measures.get hlt
  refine ⟨hp, hz, hlt, ptrAdd_ne hp, _, _, _, _, _, _, _, hrow, fun h => ?_, fun h => ⟨hd.measures.succ hlt, hJ hil _ _ ⟨rfl, notAll_succ ha hx (decide_eq_false h)⟩⟩⟩
  unfold mIdx
  rw [idxI_found ha hx (decide_eq_true h)]; exact ⟨rfl, rfl⟩
 ·unfold mIdx
  rw [idxI_none ha (hd.measures.done hge).2]; exact ⟨rfl, rfl⟩
end
section
variable {V : Mem} {d : Ds} {m : Mm}
theorem out_unfold {k x : Int} {ms : Ms} (hx : x ≠ 0) (hk : d.measures[k.toNat]? = some ms) {rs rs' : Rs} (h : Out d m (fun _ _ => False) (fun n => evM d m n k x) rs) (h' : Out d m (fun _ _ => False) (fun n => evE d m (evM d m n) x ms.x) rs') : rs = rs' :=
 Out.unique (mono_evM k x) h (Out.measure hx hk (h'.imp fun _ _ h => h.elim))
theorem mea_nil {name : ByteArray} (G : GoodD d m) {i : Nat} {ms : Ms} (hi : mIdx d name = i) (hms : d.measures[i]? = some ms) {v f : Int} (H : MeaP d m name 0 v f) : v = ms.nil /\ f = 0 := by
 cases H with
 | arg h1 => exact absurd G h1
 | range h1 h2 => exact absurd ⟨Int.le_refl _, by omega⟩ h2
 | name h1 h2 h3 => omega
 | type h1 h2 h3 h4 => exact absurd rfl h4.1
 | val h1 h2 h3 h4 rs ho =>
  have : rs = .ok ms.nil := Out.unique (mono_evM _ _) ho (show Out d m (fun _ _ => False) _ (Rs.ok ms.nil) from ⟨0, by
   show evM d m 0 (mIdx d name) 0 = _
   unfold evM nilM
   rw [if_pos rfl, hi, Int.toNat_natCast, hms]; rfl⟩)
  rw [this]; exact ⟨rfl, rfl⟩
theorem unfold_eq (G : GoodD d m) {i : Nat} {ms : Ms} (hi : mIdx d ms.name = i) (hms : d.measures[i]? = some ms) {x : Int} (hx : 1 <= x /\ x <= (m.nodes.length : Int)) (hty : typV d m x = ms.ty) {v f v' f' : Int} (H : MeaP d m ms.name x v f) (H' : ExpP d m ms.x x v' f') : v = v' /\ f = f' := by
 have hmem := List.mem_of_getElem? hms
 have hve := (validD_types G.valid).2.2.1 ms hmem
 have hval : validE ms.x = true := by
  unfold msB at hve
  simp only [Bool.and_eq_true] at hve
  exact hve.2
 have hte := ((chk_parts G.chk).1 ms hmem).2
 have htm : tyM d (mIdx d ms.name) = ms.ty := by unfold tyM; rw [hi, Int.toNat_natCast, hms]; rfl
 cases H with
 | arg h1 => exact absurd G h1
 | range h1 h2 => exact absurd ⟨by omega, hx.2⟩ h2
 | name h1 h2 h3 => omega
 | type h1 h2 h3 h4 => exact absurd (hty.trans htm.symm) h4.2
 | val h1 h2 h3 h4 rs ho =>
  cases H' with
  | arg g1 => exact absurd ⟨G, hval⟩ g1
  | range g1 g2 g3 => exact absurd ⟨by omega, hx.2⟩ g3
  | type g1 g2 g3 g4 => rw [hty, hte] at g4; exact absurd rfl g4
  | val g1 g2 g3 g4 rs' ho' =>
   have : rs = rs' := out_unfold (k := mIdx d ms.name) (by omega) (by rw [hi, Int.toNat_natCast]; exact hms) ho ho'
   rw [this]; exact ⟨rfl, rfl⟩
theorem c9 [Tab V] (hd : Ds.Ok V d) (hm : Mm.Ok V m) {w x : Int} (hw : 0 <= w /\ w <= 255) : PP 9 [d.v, m.v, .int .u8 w, .int .i64 x] V (.bool true) := by
 refine x9 (v0 := d.name) (v1 := d.ts) (v2 := d.gs) (v3 := d.ps) (v4 := d.ms) (v5 := d.is) (v6 := d.qs) (v7 := d.bs) (v8 := m.gs) (v9 := m.ns) (v10 := w) (v11 := x) ?_
 unfold w9
 have hn := hd.measures.n_eq
 have hnn := hm.nodes.n_eq
 refine c10.call ⟨_, rfl, fun _ => Tri.mono (largeC hd hm) ?_, fun h => absurd rfl h⟩
 rintro _ _ ⟨rfl, b, rfl⟩
 refine ⟨_, rfl, fun _ => ⟨rfl, rfl⟩, fun _ => (c14 hd hm).call ⟨_, rfl, fun hg => ⟨fun _ => ⟨rfl, rfl⟩, fun h0 => ⟨fun _ => ⟨rfl, rfl⟩, fun h1 => ⟨fun _ => ⟨rfl, rfl⟩, fun h2 => ?_⟩⟩⟩, fun _ => ⟨rfl, rfl⟩⟩⟩
 have G : GoodD d m := gB_iff.1 (by
  have hg : (if gB d m = true then (0 : Int) else 1) = 0 := hg
  by_cases h : gB d m = true
  ·exact h
  ·rw [if_neg h] at hg; cases hg)
 have h0 : ¬ (d.ms.n : Int) = 0 := h0
 have h1 : ¬ x < 1 := h1
 have h2 : ¬ (m.ns.n : Int) < x := h2
 have q1 := Int.tmod_nonneg (d.ms.n : Int) hw.1
 have q2 := Int.tmod_lt_of_pos w (show (0 : Int) < (d.ms.n : Int) by omega)
 obtain ⟨i, hi⟩ : ∃ i : Nat, w.tmod (d.ms.n : Int) = i := ⟨_, (Int.toNat_of_nonneg q1).symm⟩
 have hIR : IR w := ⟨by omega, by omega⟩
 rw [hi]
 obtain ⟨ms, hmem, hms, -, hil, hp, hz, hrow⟩ := hd.measures.get (i := i) (by omega)
 have hxr : 0 <= x /\ x <= (m.nodes.length : Int) := by omega
 have fin : ∀ {Q : Prop}, typV d m x = ms.ty -> (mIdx d ms.name = (i : Int)) -> (∀ v f v' f' v2 f2, MeaP d m ms.name x v f -> ExpP d m ms.x x v' f' -> MeaP d m ms.name 0 v2 f2 -> v = v' /\ f = f' /\ v2 = ms.nil /\ f2 = 0) := fun {Q} ht hidx v f v' f' v2 f2 H1 H2 H3 => by
  obtain ⟨e1, e2⟩ := unfold_eq G hidx hms (by omega) ht H1 H2
  obtain ⟨e3, e4⟩ := mea_nil G hidx hms H3
  exact ⟨e1, e2, e3, e4⟩
 refine ⟨hIR, h0, hp, hz, by omega, _, _, _, _, _, _, _, hrow, (c31 G hd hm hxr).call ⟨_, rfl, fun ht => ?_, fun _ => ⟨⟨rfl, rfl⟩, rfl, rfl⟩⟩⟩
 have ht : ms.ty = typV d m x := ht
 have body : ∀ (h : mIdx d ms.name = (i : Int)), Tri Tryz.prog 12 #[d.v, m.v, .string ms.name, .int .i64 x] V fun e V6 => ∃ v24 v25, e = .returned (.tuple #[.int .i64 v24, .int .i64 v25]) /\
   Tri Tryz.prog 28 #[d.v, m.v, ms.x.v, .int .i64 x] V6 fun e V7 => ∃ v26 v27, e = .returned (.tuple #[.int .i64 v26, .int .i64 v27]) /\
   Tri Tryz.prog 12 #[d.v, m.v, .string ms.name, .int .i64 0] V7 fun e V8 => ∃ v28 v29, e = .returned (.tuple #[.int .i64 v28, .int .i64 v29]) /\
   Br (v24 = v26)
   (Br (v25 = v27)
   (Br (v29 = 0)
   (Ending.returned (.bool (decide (v28 = ms.nil))) = .returned (.bool true) /\ V8 = V)
   (Ending.returned (.bool false) = .returned (.bool true) /\ V8 = V))
   (Ending.returned (.bool false) = .returned (.bool true) /\ V8 = V))
   (Ending.returned (.bool false) = .returned (.bool true) /\ V8 = V) := fun hidx => by
  refine Tri.mono (c12 hd hm) ?_
  rintro _ _ ⟨rfl, v, f, rfl, H1⟩
  refine ⟨_, _, rfl, Tri.mono (c28 hd hm (hd.measuresOk ms hmem).x) ?_⟩
  rintro _ _ ⟨rfl, v', f', rfl, H2⟩
  refine ⟨_, _, rfl, Tri.mono (c12 hd hm) ?_⟩
  rintro _ _ ⟨rfl, v2, f2, rfl, H3⟩
  obtain ⟨rfl, rfl, rfl, rfl⟩ := fin (Q := True) ht.symm hidx v f v' f' v2 f2 H1 H2 H3
  exact ⟨_, _, rfl, fun _ => ⟨fun _ => ⟨fun _ => ⟨by rw [decide_eq_true rfl], rfl⟩, fun h => absurd rfl h⟩, fun h => absurd rfl h⟩, fun h => absurd rfl h⟩
 refine ⟨⟨hIR, h0, (c32 hd).call ⟨_, rfl, h0, fun h => body h, fun _ => ⟨rfl, rfl⟩⟩⟩, (c32 hd).call ⟨_, rfl, hIR, h0, fun h => body h, fun _ => ⟨rfl, rfl⟩⟩⟩
end
end Go.Proofs
namespace Go.Proofs.YtnoompnjibfbfaaGreatDoor
open Go Go.Sx Go.Proofs Go.ChangeShapes Go.WideShapes Go.ChangeAt Go.RowKit
section
variable {H : Type} {enc : TypeId × Value -> H} {w : World}
theorem cl31 : Tryz.prog.cellsOf 31 = 1 := by kernel_rfl
theorem clNd : Tryz.prog.cellsOf 99 = 2 := by kernel_rfl
theorem clNds : Tryz.prog.cellsOf 32 = 1 := by kernel_rfl
theorem clMm : Tryz.prog.cellsOf 34 = 2 := by kernel_rfl
theorem gInts {m : Nat} {v : Value} (h : ∃ y, TR enc w m 31 [v] = some y) : ∃ (s : Sl) (xs : List Int), v = .slice s.p s.n s.c /\ RowsAt (heapM w) s 1 (xs.map intRow) /\ ∀ x ∈ xs, inI x :=
 gSl (row := intRow) (ok := inI) Tryz.underlying31 cl3 (by decide) (fun _ => rfl) (fun m' _ cs x hx => by
  obtain ⟨n, rfl, hn⟩ := rd_int Tryz.underlying3 hx
  exact ⟨n, rfl, hn⟩) h
theorem rdNd {n : Nat} {cs : List Value} {x : DataW H × List MemPlace} (h : TR enc w n 99 cs = some x) : ∃ f : Nd, Nd.row f = cs /\ Nd.Ok (heapM w) f := by
 obtain ⟨hl, m, -, hs⟩ := rd_struct Tryz.underlying99 h
 obtain ⟨a, b, rfl⟩ := len2 (hl.trans clNd)
 obtain ⟨t, rfl, ht⟩ := gI (at1 (hs 0 _ rfl) cl3 rfl)
 obtain ⟨l, k, rfl, hr, hk⟩ := gInts (at1 (hs 1 _ rfl) cl31 rfl)
 exact ⟨⟨t, l, k⟩, rfl, ⟨hr, ht, hk⟩⟩
theorem rdMm {n : Nat} {cs : List Value} {x : DataW H × List MemPlace} (h : TR enc w n 34 cs = some x) : ∃ m : Mm, m.row = cs /\ Mm.Ok (heapM w) m := by
 obtain ⟨hl, m, -, hs⟩ := rd_struct Tryz.underlying34 h
 obtain ⟨a, b, rfl⟩ := len2 (hl.trans clMm)
 obtain ⟨l1, k1, rfl, h1, o1⟩ := gInts (at1 (hs 0 _ rfl) cl31 rfl)
 obtain ⟨l2, k2, rfl, h2, o2⟩ := gSl (row := Nd.row) (ok := Nd.Ok (heapM w)) Tryz.underlying32 clNd (by decide) (fun _ => rfl) (fun _ _ _ _ => rdNd) (at1 (hs 1 _ rfl) clNds rfl)
 exact ⟨⟨l1, k1, l2, k2⟩, rfl, ⟨h1, o1, h2, o2⟩⟩
end
theorem mem_of {H : Type} {enc : TypeId × Value -> H} {W : World} {v : Value} {d0 : DataW H} {p : List MemPlace} (h : DataW.Trod enc Tryz.prog W 0 (fun _ => true) true 34 v d0 p) : ∃ m : Mm, v = m.v /\ Mm.Ok (heapM W) m := by
 obtain ⟨fuel, h⟩ := h
 obtain ⟨m, hm, hok⟩ := rdMm h
 refine ⟨m, ?_, hok⟩
 have hl : v.cells.toList.length = 2 := by rw [<- hm]; rfl
 cases v with
 | agg cs =>
  have : cs.toList = m.row := hm.symm
  show Value.agg cs = .agg m.row.toArray
  rw [<- this]
 | _ => simp [Value.cells] at hl
end Go.Proofs.YtnoompnjibfbfaaGreatDoor
namespace Go.Proofs.YtnoompnjibfbfaaGreatDoor
open Go
set_option maxRecDepth 100000
theorem andT {a b : Bool} (h : a = true) (k : b = true) : (a && b) = true := by rw [h, k]; rfl
theorem unfolds_j1 : (Rows.invariantUnfoldsRow.wf (OpenSpec.ofChange Rows.invariantUnfoldsSpec)) = true := by kernel_rfl
theorem unfolds_j2 : (laidOutB Tryz.prog) = true := by kernel_rfl
theorem unfolds_j3 : (mapsRowed Tryz.prog) = true := by kernel_rfl
theorem unfolds_j4 : (Tryz.f9.params.all (Tryz.prog.readableRec ·)) = true := by kernel_rfl
theorem unfolds_j5 : (namedTie Tryz.prog Rows.invariantUnfoldsRow.named Rows.invariantUnfoldsSpec.vars) = true := by kernel_rfl
theorem unfolds_j6 : ((Rows.invariantUnfoldsRow.stops == [])) = true := by kernel_rfl
theorem unfolds_j7 : ((Tryz.prog.stops == [])) = true := by kernel_rfl
theorem unfolds_j8 : ((Rows.invariantUnfoldsRow.knobs == [])) = true := by kernel_rfl
theorem unfolds_j9 : ((Tryz.prog.stopKnobs == [])) = true := by kernel_rfl
theorem unfolds_j10 : ((Rows.invariantUnfoldsRow.inPlace == Tryz.prog.inPlace 9)) = true := by kernel_rfl
theorem unfolds_j11 : ((Rows.invariantUnfoldsRow.unfollowed == Tryz.prog.unfollowed 9)) = true := by kernel_rfl
theorem unfolds_j12 : ((Rows.invariantUnfoldsRow.recurses == Tryz.prog.recurses 9)) = true := by kernel_rfl
theorem unfolds_j13 : ((Rows.invariantUnfoldsRow.named == Tryz.prog.varsNamed 9)) = true := by kernel_rfl
theorem unfolds_j14 : ((Rows.invariantUnfoldsRow.maps == (Tryz.f9.params.toList ++ Rows.invariantUnfoldsSpec.plain.varTypes Tryz.prog).any (Tryz.prog.mapsRec ·))) = true := by kernel_rfl
theorem unfolds_j15 : ((Rows.invariantUnfoldsRow.ifaces == (Tryz.f9.params.toList ++ Rows.invariantUnfoldsSpec.plain.varTypes Tryz.prog).any (Tryz.prog.ifacesRec ·))) = true := by kernel_rfl
theorem unfolds_j16 : ((Rows.invariantUnfoldsRow.mapsOut == Tryz.prog.mapsAmong Tryz.f9.resultTypes.toList)) = true := by kernel_rfl
theorem unfolds_j17 : ((Rows.invariantUnfoldsRow.loops == (Tryz.f9.params.toList ++ Rows.invariantUnfoldsSpec.plain.varTypes Tryz.prog).any (Tryz.prog.loopsFrom ·))) = true := by kernel_rfl
theorem unfolds_j18 : ((Rows.invariantUnfoldsRow.wideKeys == (Tryz.f9.params.toList ++ Rows.invariantUnfoldsSpec.plain.varTypes Tryz.prog ++ Tryz.f9.resultTypes.toList).any (Tryz.prog.wideKeysFrom ·))) = true := by kernel_rfl
theorem unfolds_j19 : (Rows.invariantUnfoldsSpec.vars.all (Tryz.prog.varReadable ·)) = true := by kernel_rfl
theorem unfolds_j20 : (Tryz.f9.resultTypes.all (fun t => Tryz.prog.readableRec t && decide (t < Tryz.prog.types.size))) = true := by kernel_rfl
theorem unfolds_j21 : ((Rows.invariantUnfoldsRow.ifacesOut == Tryz.f9.resultTypes.toList.any (Tryz.prog.ifacesRec ·))) = true := by kernel_rfl
theorem unfolds_j22 : ((Rows.invariantUnfoldsRow.loopsOut == Tryz.f9.resultTypes.toList.any (Tryz.prog.loopsFrom ·))) = true := by kernel_rfl
theorem unfolds_j23 : ((Rows.invariantUnfoldsRow.plainKeys == Tryz.prog.plainKeys)) = true := by kernel_rfl
theorem unfolds_j24 : (Rows.invariantUnfoldsRow.shortTexts.isNone) = true := by kernel_rfl
theorem unfolds_j25 : (Tryz.prog.stopsHeard) = true := by kernel_rfl
theorem unfolds_j26 : (Tryz.prog.mayEnter) = true := by kernel_rfl
theorem unfolds_j27 : ((Rows.invariantUnfoldsRow.lifted == Tryz.prog.liftsFinal)) = true := by kernel_rfl
theorem unfolds_j28 : ((Tryz.prog.make == some Rows.invariantUnfoldsRow.make)) = true := by kernel_rfl
theorem unfolds_j29 : ((Rows.invariantUnfoldsRow.kinds == (if Rows.invariantUnfoldsRow.domain.isEmpty then [] else Tryz.f9.params.toList.map fun t => match Tryz.prog.underlying t with | some (.int k) => some k | _ => none))) = true := by kernel_rfl
theorem unfolds_j30 : ((Rows.invariantUnfoldsRow.pinned == Rows.invariantUnfoldsRow.pinnedBy)) = true := by kernel_rfl
theorem unfolds_j31 : ((Rows.invariantUnfoldsRow.veiled == (Tryz.f9.params.toList ++ Rows.invariantUnfoldsSpec.plain.varTypes Tryz.prog ++ Tryz.f9.resultTypes.toList).any (Tryz.prog.veiledRec ·))) = true := by kernel_rfl
theorem unfolds_j32 : (Rows.invariantUnfoldsRow.veiledFits Tryz.prog Tryz.f9.params.toList (Tryz.f9.params.toList ++ Rows.invariantUnfoldsSpec.plain.varTypes Tryz.prog ++ Tryz.f9.resultTypes.toList)) = true := by kernel_rfl
theorem unfolds_facts : joinedFacts Tryz.prog 9 Tryz.f9 Rows.invariantUnfoldsSpec Rows.invariantUnfoldsRow = true := (andT (andT (andT (andT (andT (andT (andT (andT (andT (andT (andT (andT (andT (andT (andT (andT (andT (andT (andT (andT (andT (andT (andT (andT (andT (andT (andT (andT (andT (andT (andT unfolds_j1 unfolds_j2) unfolds_j3) unfolds_j4) unfolds_j5) unfolds_j6) unfolds_j7) unfolds_j8) unfolds_j9) unfolds_j10) unfolds_j11) unfolds_j12) unfolds_j13) unfolds_j14) unfolds_j15) unfolds_j16) unfolds_j17) unfolds_j18) unfolds_j19) unfolds_j20) unfolds_j21) unfolds_j22) unfolds_j23) unfolds_j24) unfolds_j25) unfolds_j26) unfolds_j27) unfolds_j28) unfolds_j29) unfolds_j30) unfolds_j31) unfolds_j32)
end Go.Proofs.YtnoompnjibfbfaaGreatDoor
