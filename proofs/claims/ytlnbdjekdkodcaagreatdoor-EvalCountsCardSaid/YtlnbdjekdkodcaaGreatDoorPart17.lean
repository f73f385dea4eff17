/- Part 17 of a proof of a law of this seat: no statement of the seat is proved here. -/
import Derived.Test.YtlnbdjekdkodcaaGreatDoorPart16
import Derived.Test.YtlnbdjekdkodcaaGreatDoorRows
import Derived.Lib.LaidIn
import Derived.Lib.LaidTab
import Derived.Handed
set_option linter.unusedVariables false
set_option linter.unusedSimpArgs false
namespace Go.Proofs
open Go Go.Sx
section
variable {H : Type} {enc : TypeId × Value -> H} {w : World}
theorem at1 {cs : List Value} {v : Value} {off m : Nat} {t : TypeId} (h : ∃ y, TR enc w m t ((cs.drop off).take (Tryz.prog.cellsOf t)) = some y) (hc : Tryz.prog.cellsOf t = 1) (hv : cs[off]? = some v) : ∃ y, TR enc w m t [v] = some y := by
 obtain ⟨y, hy⟩ := h
 refine ⟨y, ?_⟩
 have hlt := (List.getElem?_eq_some_iff.1 hv).1
 have e : (cs.drop off).take 1 = [v] := by
  rw [List.drop_eq_getElem_cons hlt, (List.getElem?_eq_some_iff.1 hv).2]
  simp
 rw [hc, e] at hy
 exact hy
theorem cl9 : Tryz.prog.cellsOf 9 = 1 := by kernel_rfl
theorem cl3 : Tryz.prog.cellsOf 3 = 1 := by kernel_rfl
theorem cl22 : Tryz.prog.cellsOf 22 = 1 := by kernel_rfl
theorem cl23 : Tryz.prog.cellsOf 23 = 1 := by kernel_rfl
theorem cl24 : Tryz.prog.cellsOf 24 = 1 := by kernel_rfl
theorem cl25 : Tryz.prog.cellsOf 25 = 1 := by kernel_rfl
theorem cl26 : Tryz.prog.cellsOf 26 = 1 := by kernel_rfl
theorem cl27 : Tryz.prog.cellsOf 27 = 1 := by kernel_rfl
theorem cl28 : Tryz.prog.cellsOf 28 = 1 := by kernel_rfl
theorem cl38 : Tryz.prog.cellsOf 85 = 1 := by kernel_rfl
theorem cl52 : Tryz.prog.cellsOf 77 = 1 := by kernel_rfl
theorem cl40 : Tryz.prog.cellsOf 87 = 4 := by kernel_rfl
theorem cl67 : Tryz.prog.cellsOf 81 = 2 := by kernel_rfl
theorem cl94 : Tryz.prog.cellsOf 119 = 2 := by kernel_rfl
theorem cl54 : Tryz.prog.cellsOf 79 = 5 := by kernel_rfl
theorem cl75 : Tryz.prog.cellsOf 89 = 5 := by kernel_rfl
theorem cl97 : Tryz.prog.cellsOf 148 = 7 := by kernel_rfl
theorem cl58 : Tryz.prog.cellsOf 151 = 6 := by kernel_rfl
theorem cl61 : Tryz.prog.cellsOf 153 = 5 := by kernel_rfl
theorem cl64 : Tryz.prog.cellsOf 155 = 5 := by kernel_rfl
theorem cl30 : Tryz.prog.cellsOf 30 = 8 := by kernel_rfl
theorem gS {m : Nat} {v : Value} (h : ∃ y, TR enc w m 9 [v] = some y) : ∃ s, v = .string s := by
 obtain ⟨y, hy⟩ := h
 obtain ⟨s, e⟩ := rd_str Tryz.underlying9 hy
 exact ⟨s, by simpa using e⟩
theorem gI {m : Nat} {v : Value} (h : ∃ y, TR enc w m 3 [v] = some y) : ∃ n : Int, v = .int .i64 n /\ IntKind.i64.min <= n /\ n <= IntKind.i64.max := by
 obtain ⟨y, hy⟩ := h
 obtain ⟨s, e, h1⟩ := rd_int Tryz.underlying3 hy
 exact ⟨s, by simpa using e, h1⟩
theorem gSl {α : Type} {row : α -> List Value} {ok : α -> Prop} {sz m : Nat} {t e : TypeId} {v : Value} (ht : Tryz.prog.underlying t = some (.slice e)) (hc : Tryz.prog.cellsOf e = sz) (hsz : 0 < sz) (hrow : ∀ a, (row a).length = sz)
  (hE : ∀ m', m' < m -> ∀ cs x, TR enc w m' e cs = some x -> ∃ a, row a = cs /\ ok a) (h : ∃ y, TR enc w m t [v] = some y) : ∃ (s : Sl) (xs : List α), v = .slice s.p s.n s.c /\ qAc (qAT w) s sz (xs.map row) /\ ∀ a ∈ xs, ok a := by
 obtain ⟨y, hy⟩ := h
 obtain ⟨s, xs, e, h1, h2⟩ := rd_slice ht hc hsz hrow hE hy
 exact ⟨s, xs, by simpa using e, h1, h2⟩
theorem len2 {cs : List Value} (h : cs.length = 2) : ∃ a b, cs = [a, b] := by
 match cs, h with
 | [a, b], _ => exact ⟨a, b, rfl⟩
theorem len4 {cs : List Value} (h : cs.length = 4) : ∃ a b c d, cs = [a, b, c, d] := by
 match cs, h with
 | [a, b, c, d], _ => exact ⟨a, b, c, d, rfl⟩
theorem len5 {cs : List Value} (h : cs.length = 5) : ∃ a b c d e, cs = [a, b, c, d, e] := by
 match cs, h with
 | [a, b, c, d, e], _ => exact ⟨a, b, c, d, e, rfl⟩
theorem len6 {cs : List Value} (h : cs.length = 6) : ∃ a b c d e f, cs = [a, b, c, d, e, f] := by
 match cs, h with
 | [a, b, c, d, e, f], _ => exact ⟨a, b, c, d, e, f, rfl⟩
theorem len7 {cs : List Value} (h : cs.length = 7) : ∃ a b c d e f g, cs = [a, b, c, d, e, f, g] := by
 match cs, h with
 | [a, b, c, d, e, f, g], _ => exact ⟨a, b, c, d, e, f, g, rfl⟩
theorem len8 {cs : List Value} (h : cs.length = 8) : ∃ a b c d e f g i, cs = [a, b, c, d, e, f, g, i] := by
 match cs, h with
 | [a, b, c, d, e, f, g, i], _ => exact ⟨a, b, c, d, e, f, g, i, rfl⟩
theorem rdFld {n : Nat} {cs : List Value} {x : DataW H × List MemPlace} (h : TR enc w n 81 cs = some x) : ∃ f : Fld, Fld.row f = cs /\ True := by
 obtain ⟨hl, m, -, hs⟩ := qAU Tryz.underlying81 h
 obtain ⟨a, b, rfl⟩ := len2 (hl.trans cl67)
 obtain ⟨s1, rfl⟩ := gS (at1 (hs 0 _ rfl) cl9 rfl)
 obtain ⟨s2, rfl⟩ := gS (at1 (hs 1 _ rfl) cl9 rfl)
 exact ⟨⟨s1, s2⟩, rfl, trivial⟩
theorem rdE : ∀ (n : Nat) (cs : List Value) (x : DataW H × List MemPlace), TR enc w n 87 cs = some x -> ∃ e : E, E.row e = cs /\ E.Ok (qAT w) e := by
 intro n
 induction n using Nat.strongRecOn with
 | _ n ih =>
 intro cs x h
 obtain ⟨hl, m, hm, hs⟩ := qAU Tryz.underlying87 h
 obtain ⟨a, b, c, d, rfl⟩ := len4 (hl.trans cl40)
 obtain ⟨op, rfl, ho⟩ := gI (at1 (hs 0 _ rfl) cl3 rfl)
 obtain ⟨nn, rfl, hn⟩ := gI (at1 (hs 1 _ rfl) cl3 rfl)
 obtain ⟨s, rfl⟩ := gS (at1 (hs 2 _ rfl) cl9 rfl)
 obtain ⟨l, k, rfl, hr, hk⟩ := gSl (row := E.row) (ok := E.Ok (qAT w)) Tryz.underlying85 cl40 (by decide) (fun _ => rfl) (fun m' hm' => ih m' (by omega)) (at1 (hs 3 _ rfl) cl38 rfl)
 exact ⟨.mk op nn s l k, rfl, .mk hr hk ho hn⟩
theorem S.row_len : ∀ s : S, (S.row s).length = 5 := fun s => by cases s; rfl
theorem rdS : ∀ (n : Nat) (cs : List Value) (x : DataW H × List MemPlace), TR enc w n 89 cs = some x -> ∃ e : S, S.row e = cs /\ S.Ok (qAT w) e := by
 intro n
 induction n using Nat.strongRecOn with
 | _ n ih =>
 intro cs x h
 obtain ⟨hl, m, hm, hs⟩ := qAU Tryz.underlying89 h
 obtain ⟨a, b, c, d, e, rfl⟩ := len5 (hl.trans cl75)
 obtain ⟨op, rfl, ho⟩ := gI (at1 (hs 0 _ rfl) cl3 rfl)
 obtain ⟨s, rfl⟩ := gS (at1 (hs 1 _ rfl) cl9 rfl)
 obtain ⟨el, es, rfl, hr1, hk1⟩ := gSl (row := E.row) (ok := E.Ok (qAT w)) Tryz.underlying85 cl40 (by decide) (fun _ => rfl) (fun m' _ => rdE m') (at1 (hs 2 _ rfl) cl38 rfl)
 obtain ⟨ll, ls, rfl, hr2, hk2⟩ := gSl (row := S.row) (ok := S.Ok (qAT w)) Tryz.underlying77 cl75 (by decide) S.row_len (fun m' hm' => ih m' (by omega)) (at1 (hs 3 _ rfl) cl52 rfl)
 obtain ⟨xl, xs, rfl, hr3, hk3⟩ := gSl (row := S.row) (ok := S.Ok (qAT w)) Tryz.underlying77 cl75 (by decide) S.row_len (fun m' hm' => ih m' (by omega)) (at1 (hs 4 _ rfl) cl52 rfl)
 exact ⟨.mk op s el es ll ls xl xs, rfl, .mk hr1 hk1 hr2 hk2 hr3 hk3 ho⟩
theorem gF {m : Nat} {v : Value} (h : ∃ y, TR enc w m 23 [v] = some y) : ∃ (s : Sl) (xs : List Fld), v = .slice s.p s.n s.c /\ qAc (qAT w) s 2 (xs.map Fld.row) := by
 obtain ⟨s, xs, h1, h2, -⟩ := gSl (row := Fld.row) (ok := fun _ => True) Tryz.underlying23 cl67 (by decide) (fun _ => rfl) (fun _ _ _ _ => rdFld) h
 exact ⟨s, xs, h1, h2⟩
theorem rdTy {n : Nat} {cs : List Value} {x : DataW H × List MemPlace} (h : TR enc w n 119 cs = some x) : ∃ f : Ty, Ty.row f = cs /\ Ty.Ok (qAT w) f := by
 obtain ⟨hl, m, -, hs⟩ := qAU Tryz.underlying119 h
 obtain ⟨a, b, rfl⟩ := len2 (hl.trans cl94)
 obtain ⟨s1, rfl⟩ := gS (at1 (hs 0 _ rfl) cl9 rfl)
 obtain ⟨l, k, rfl, hr⟩ := gF (at1 (hs 1 _ rfl) cl23 rfl)
 exact ⟨⟨s1, l, k⟩, rfl, ⟨hr⟩⟩
theorem rdPr {n : Nat} {cs : List Value} {x : DataW H × List MemPlace} (h : TR enc w n 79 cs = some x) : ∃ f : Pr, Pr.row f = cs /\ Pr.Ok (qAT w) f := by
 obtain ⟨hl, m, -, hs⟩ := qAU Tryz.underlying79 h
 obtain ⟨a, b, c, d, e, rfl⟩ := len5 (hl.trans cl54)
 obtain ⟨s1, rfl⟩ := gS (at1 (hs 0 _ rfl) cl9 rfl)
 obtain ⟨l1, k1, rfl, hr1⟩ := gF (at1 (hs 1 _ rfl) cl23 rfl)
 obtain ⟨s2, rfl⟩ := gS (at1 (hs 2 _ rfl) cl9 rfl)
 obtain ⟨l2, k2, rfl, hr2⟩ := gF (at1 (hs 3 _ rfl) cl23 rfl)
 obtain ⟨l3, k3, rfl, hr3, hk3⟩ := gSl (row := S.row) (ok := S.Ok (qAT w)) Tryz.underlying77 cl75 (by decide) S.row_len (fun m' _ => rdS m') (at1 (hs 4 _ rfl) cl52 rfl)
 exact ⟨⟨s1, l1, k1, s2, l2, k2, l3, k3⟩, rfl, ⟨hr1, hr2, hr3, hk3⟩⟩
theorem rdMs {n : Nat} {cs : List Value} {x : DataW H × List MemPlace} (h : TR enc w n 148 cs = some x) : ∃ f : Ms, Ms.row f = cs /\ Ms.Ok (qAT w) f := by
 obtain ⟨hl, m, -, hs⟩ := qAU Tryz.underlying148 h
 obtain ⟨a, b, c, d, e, f, g, rfl⟩ := len7 (hl.trans cl97)
 obtain ⟨s1, rfl⟩ := gS (at1 (hs 0 _ rfl) cl9 rfl)
 obtain ⟨s2, rfl⟩ := gS (at1 (hs 1 _ rfl) cl9 rfl)
 obtain ⟨nn, rfl, hn⟩ := gI (at1 (hs 2 _ rfl) cl3 rfl)
 obtain ⟨y, hy⟩ := hs 3 _ rfl
 change TR enc w m 87 (([Value.string s1, .string s2, .int .i64 nn, d, e, f, g].drop 3).take (Tryz.prog.cellsOf 87)) = some y at hy
 rw [cl40] at hy
 obtain ⟨x, hx, hxo⟩ := rdE m _ _ hy
 simp only [List.drop_succ_cons, List.drop_zero, List.take_succ_cons, List.take_zero, E.row, List.cons.injEq, and_true] at hx
 obtain ⟨rfl, rfl, rfl, rfl⟩ := hx
 exact ⟨⟨s1, s2, nn, x⟩, rfl, ⟨hxo, hn⟩⟩
theorem rdIv {n : Nat} {cs : List Value} {x : DataW H × List MemPlace} (h : TR enc w n 151 cs = some x) : ∃ f : Iv, Iv.row f = cs /\ E.Ok (qAT w) f.x := by
 obtain ⟨hl, m, -, hs⟩ := qAU Tryz.underlying151 h
 obtain ⟨a, b, d, e, f, g, rfl⟩ := len6 (hl.trans cl58)
 obtain ⟨s1, rfl⟩ := gS (at1 (hs 0 _ rfl) cl9 rfl)
 obtain ⟨s2, rfl⟩ := gS (at1 (hs 1 _ rfl) cl9 rfl)
 obtain ⟨y, hy⟩ := hs 2 _ rfl
 change TR enc w m 87 (([Value.string s1, .string s2, d, e, f, g].drop 2).take (Tryz.prog.cellsOf 87)) = some y at hy
 rw [cl40] at hy
 obtain ⟨x, hx, hxo⟩ := rdE m _ _ hy
 simp only [List.drop_succ_cons, List.drop_zero, List.take_succ_cons, List.take_zero, E.row, List.cons.injEq, and_true] at hx
 obtain ⟨rfl, rfl, rfl, rfl⟩ := hx
 exact ⟨⟨s1, s2, x⟩, rfl, hxo⟩
theorem rdPo {n : Nat} {cs : List Value} {x : DataW H × List MemPlace} (h : TR enc w n 153 cs = some x) : ∃ f : Po, Po.row f = cs /\ E.Ok (qAT w) f.x := by
 obtain ⟨hl, m, -, hs⟩ := qAU Tryz.underlying153 h
 obtain ⟨a, d, e, f, g, rfl⟩ := len5 (hl.trans cl61)
 obtain ⟨s1, rfl⟩ := gS (at1 (hs 0 _ rfl) cl9 rfl)
 obtain ⟨y, hy⟩ := hs 1 _ rfl
 change TR enc w m 87 (([Value.string s1, d, e, f, g].drop 1).take (Tryz.prog.cellsOf 87)) = some y at hy
 rw [cl40] at hy
 obtain ⟨x, hx, hxo⟩ := rdE m _ _ hy
 simp only [List.drop_succ_cons, List.drop_zero, List.take_succ_cons, List.take_zero, E.row, List.cons.injEq, and_true] at hx
 obtain ⟨rfl, rfl, rfl, rfl⟩ := hx
 exact ⟨⟨s1, x⟩, rfl, hxo⟩
theorem rdBd {n : Nat} {cs : List Value} {x : DataW H × List MemPlace} (h : TR enc w n 155 cs = some x) : ∃ f : Bd, Bd.row f = cs /\ E.Ok (qAT w) f.x := by
 obtain ⟨hl, m, -, hs⟩ := qAU Tryz.underlying155 h
 obtain ⟨a, d, e, f, g, rfl⟩ := len5 (hl.trans cl64)
 obtain ⟨s1, rfl⟩ := gS (at1 (hs 0 _ rfl) cl9 rfl)
 obtain ⟨y, hy⟩ := hs 1 _ rfl
 change TR enc w m 87 (([Value.string s1, d, e, f, g].drop 1).take (Tryz.prog.cellsOf 87)) = some y at hy
 rw [cl40] at hy
 obtain ⟨x, hx, hxo⟩ := rdE m _ _ hy
 simp only [List.drop_succ_cons, List.drop_zero, List.take_succ_cons, List.take_zero, E.row, List.cons.injEq, and_true] at hx
 obtain ⟨rfl, rfl, rfl, rfl⟩ := hx
 exact ⟨⟨s1, x⟩, rfl, hxo⟩
theorem rdDs {n : Nat} {cs : List Value} {x : DataW H × List MemPlace} (h : TR enc w n 30 cs = some x) : ∃ d : Ds, d.row = cs /\ Ds.Ok (qAT w) d := by
 obtain ⟨hl, m, -, hs⟩ := qAU Tryz.underlying30 h
 obtain ⟨a, b, c, d, e, f, g, i, rfl⟩ := len8 (hl.trans cl30)
 obtain ⟨s1, rfl⟩ := gS (at1 (hs 0 _ rfl) cl9 rfl)
 obtain ⟨l1, k1, rfl, h1, o1⟩ := gSl (row := Ty.row) (ok := Ty.Ok (qAT w)) Tryz.underlying22 cl94 (by decide) (fun _ => rfl) (fun _ _ _ _ => rdTy) (at1 (hs 1 _ rfl) cl22 rfl)
 obtain ⟨l2, k2, rfl, h2⟩ := gF (at1 (hs 2 _ rfl) cl23 rfl)
 obtain ⟨l3, k3, rfl, h3, o3⟩ := gSl (row := Pr.row) (ok := Pr.Ok (qAT w)) Tryz.underlying24 cl54 (by decide) (fun _ => rfl) (fun _ _ _ _ => rdPr) (at1 (hs 3 _ rfl) cl24 rfl)
 obtain ⟨l4, k4, rfl, h4, o4⟩ := gSl (row := Ms.row) (ok := Ms.Ok (qAT w)) Tryz.underlying25 cl97 (by decide) (fun _ => rfl) (fun _ _ _ _ => rdMs) (at1 (hs 4 _ rfl) cl25 rfl)
 obtain ⟨l5, k5, rfl, h5, o5⟩ := gSl (row := Iv.row) (ok := fun f => E.Ok (qAT w) f.x) Tryz.underlying26 cl58 (by decide) (fun _ => rfl) (fun _ _ _ _ => rdIv) (at1 (hs 5 _ rfl) cl26 rfl)
 obtain ⟨l6, k6, rfl, h6, o6⟩ := gSl (row := Po.row) (ok := fun f => E.Ok (qAT w) f.x) Tryz.underlying27 cl61 (by decide) (fun _ => rfl) (fun _ _ _ _ => rdPo) (at1 (hs 6 _ rfl) cl27 rfl)
 obtain ⟨l7, k7, rfl, h7, o7⟩ := gSl (row := Bd.row) (ok := fun f => E.Ok (qAT w) f.x) Tryz.underlying28 cl64 (by decide) (fun _ => rfl) (fun _ _ _ _ => rdBd) (at1 (hs 7 _ rfl) cl28 rfl)
 exact ⟨⟨s1, l1, k1, l2, k2, l3, k3, l4, k4, l5, k5, l6, k6, l7, k7⟩, rfl, ⟨h1, o1, h2, h3, o3, h4, o4, h5, o5, h6, o6, h7, o7⟩⟩
end
end Go.Proofs
namespace Go.Proofs.YtlnbdjekdkodcaaGreatDoor
open Go Go.Sx Go.Proofs Go.ChangeShapes Go.WideShapes Go.ChangeAt Go.RowKit
theorem same_old {P : Program} {f : FuncId} {args : List Value} {W : World} {v : Value} (h : Pur P f args (qAT W) v) : Calls P f args.toArray W fun e W' => e = .returned v /\ W'.os = W.os /\ W'.output = W.output /\ W.heap.size <= W'.heap.size /\ ∀ b, b < W.heap.size -> W'.heap[b]? = W.heap[b]? := by
 have h2 : Tri P f args.toArray (qAT W) fun e V' => e = .returned v /\ V' = qAT W := h
 unfold Tri at h2
 refine qCk (h2 W (heapM_le W)) ?_
 rintro e W' ⟨V', ⟨rfl, rfl⟩, hF⟩
 refine ⟨rfl, hF.os, hF.out, hF.size, fun b hb => ?_⟩
 have : qAT W b = some W.heap[b] := Array.getElem?_eq_getElem hb
 rw [hF.le b _ this]; exact this.symm
theorem Tryz.own : ownKnob Tryz.prog.godebug = none := by kernel_rfl
theorem Tryz.laidOut : laidOutB Tryz.prog = true := by kernel_rfl
theorem tab_of {W : World} (h : Lib.TabIs Tryz.prog W "strings.asciiSpace" .u8 Lib.asciiSpaceTab) : Tab (qAT W) := by
 have hg : Tryz.prog.globalNamed "strings.asciiSpace" = some 0 := by kernel_rfl
 unfold Lib.TabIs World.var? at h
 rw [hg, Option.bind_some] at h
 split at h
 ·rename_i cs t fr hb
  simp only [Option.some.injEq] at h
  exact ⟨t, fr, by rw [<- h]; exact hb⟩
 ·cases h
theorem desc_of {H : Type} {enc : TypeId × Value -> H} {W : World} {v : Value} {d0 : DataW H} {p : List MemPlace} (h : DataW.Trod enc Tryz.prog W 0 (fun _ => true) true 30 v d0 p) : ∃ d : Ds, v = d.v /\ Ds.Ok (qAT W) d := by
 obtain ⟨fuel, h⟩ := h
 obtain ⟨d, hd, hok⟩ := rdDs h
 refine ⟨d, ?_, hok⟩
 have hl : v.cells.toList.length = 8 := by rw [<- hd]; rfl
 cases v with
 | agg cs =>
  have : cs.toList = d.row := hd.symm
  show Value.agg cs = .agg d.row.toArray
  rw [<- this]
 | _ => simp [Value.cells] at hl
noncomputable def laidWorld (os : Os) : World :=
 let w0 := World.holding Tryz.prog os ⟨#[.cells #[.int .u16 9, .int .u16 13, .int .u16 1, .int .u16 32, .int .u16 133, .int .u16 101, .int .u16 160, .int .u16 5760, .int .u16 5600, .int .u16 8192, .int .u16 8202, .int .u16 1, .int .u16 8232, .int .u16 8233, .int .u16 1, .int .u16 8239, .int .u16 8287, .int .u16 48, .int .u16 12288, .int .u16 12288, .int .u16 1] 328,
  .cells #[.slice (some ⟨(World.settled Tryz.prog os).heap.size, 0, none⟩) 7 7, .slice none 0 0, .int .i64 2] 326], #[], []⟩
 {w0 with heap := (w0.heap.modify 0 fun
   | .cells _ t frozen => .cells (Lib.asciiSpaceTab.map fun z => Value.int .u8 z).toArray t frozen
   | o => o).modify 1 fun
   | .cells _ t frozen => .cells #[.pointer (some ⟨(World.settled Tryz.prog os).heap.size + 1, 0, none⟩)] t frozen
   | o => o }
theorem qIp (os : Os) (args : Array Value) : laidMet Tryz.prog [("unicode.White_Space", Rows.laid_unicode_White_Space), ("strings.asciiSpace", Rows.laid_strings_asciiSpace)] ((laidWorld os).forCall (fun _ _ => 0) ⟨#[], args, []⟩).memory :=
 (LaidIn.of_run [0, 1, (World.settled Tryz.prog os).heap.size, (World.settled Tryz.prog os).heap.size + 1] 12 (by kernel_rfl) (by kernel_rfl) (by kernel_rfl) (by kernel_rfl)).met
end Go.Proofs.YtlnbdjekdkodcaaGreatDoor
namespace Go.Proofs.YtlnbdjekdkodcaaGreatDoor
open Go Go.Sx Go.Proofs Go.ChangeShapes Go.WideShapes Go.ChangeAt Go.RowKit
abbrev laid0 : List (String × DataW Unit) := [("unicode.White_Space", Rows.laid_unicode_White_Space), ("strings.asciiSpace", Rows.laid_strings_asciiSpace)]
theorem noHandles : (laid0.filter fun x => x.2.handleName?.isSome) = [] := by kernel_rfl
theorem qFu {w : World} : laidMetH Tryz.prog laid0 w ↔ laidMet Tryz.prog laid0 w := by
 unfold laidMetH
 rw [noHandles]
theorem tab_laid {W : World} (h : laidMet Tryz.prog laid0 W) : Tab (qAT W) := by
 obtain ⟨ps, h1, h2, h3⟩ := h
 obtain ⟨g, t, cs, fuel, p, q, hg, ht, hvar, hd, hrest, hps⟩ := h1
 obtain ⟨g', t', cs', fuel', p', q', hg', ht', hvar', hd', hrest', hps'⟩ := hrest
 refine tab_of ?_
 unfold Lib.TabIs
 rw [hvar']
 have hgg : g' = 0 := Option.some.inj (hg'.symm.trans (show Tryz.prog.globalNamed "strings.asciiSpace" = some 0 by kernel_rfl))
 subst hgg
 have htt : t' = 295 := Option.some.inj (ht'.symm.trans (show (Tryz.prog.globals[0]?).map (·.type) = some 295 by kernel_rfl))
 subst htt
 have hdat : (Rows.laid_strings_asciiSpace : DataW Unit) = Lib.tabData .u8 Lib.asciiSpaceTab := by kernel_rfl
 rw [hdat] at hd'
 rw [<- Lib.cells_of_tab (n := 256) (e := 5) Tryz.underlying295 Tryz.underlying5 (by kernel_rfl) (by kernel_rfl) hd']
theorem kept {W W' : World} (h1 : W'.os = W.os) (h2 : W'.output = W.output) (hold : ∀ b, b < W.heap.size -> W'.heap[b]? = W.heap[b]?) (may : MemPlace -> Prop) : W.keptBut W' may := by
 refine ⟨h1, h2, fun i hi => ?_⟩
 rw [hold i hi]
 split <;> simp_all
theorem again_arg {H : Type} {enc : TypeId × Value -> H} {t : TypeId} (hr : Tryz.prog.readableRec t = true) (hrow : t < Tryz.prog.types.size) {W W' : World} {v : Value} {d : DataW H} {ps : List MemPlace} (h : DataW.Trod enc Tryz.prog W 0 (fun _ => true) true t v d ps)
  (hold : ∀ b, b < W.heap.size -> W'.heap[b]? = W.heap[b]?) (hlt : ∀ x ∈ ps, x.block < W.heap.size) : DataW.Trod enc Tryz.prog W' 0 (fun b => decide (b < W.heap.size)) true t v d ps :=
 WideElems.Trod_stays Tryz.laidOut hr hrow h (fun x hx => by
  have := hlt x hx
  cases x with
  | cell b o => exact World.cell?_of_block (w := W) (hold b this)
  | map b => exact hold b this) (fun x hx => by simpa using hlt x hx)
theorem wit {C : Checked} {os : Os} {f : FuncId} {fn : Func} {s : ChangeSpec} {conds : List PathCond} {apart : Bool} {X : World -> Array Value -> Prop} {H : Type} {enc : TypeId × Value -> H} (w0 : World) (args : Array Value) (fuel : Nat) (hos : w0.os = os)
  (hv : (w0.forCall (fun _ _ => 0) ⟨#[], args, []⟩).variablesRefB C.prog = true)
  (hr : ((w0.forCall (fun _ _ => 0) ⟨#[], args, []⟩).heap.toList.drop C.prog.globals.size).take ((begin C.prog (fun _ _ => 0) default).world.heap.size - C.prog.globals.size) =
   (begin C.prog (fun _ _ => 0) default).world.heap.toList.drop C.prog.globals.size)
  (hok : Input.okWideB C.prog (w0.forCall (fun _ _ => 0) ⟨#[], args, []⟩) f ⟨#[], args, []⟩ = true)
  (hpre : s.preB enc C.prog fn conds apart (w0.forCall (fun _ _ => 0) ⟨#[], args, []⟩).memory args fuel = true)
  (hsz : s.sizedB enc C.prog fn apart (w0.forCall (fun _ _ => 0) ⟨#[], args, []⟩).memory args fuel = true)
  (hx : X (w0.forCall (fun _ _ => 0) ⟨#[], args, []⟩).memory args) :
  ∃ (w : World) (tape : Tape) (i : Input), w.os = os /\ (w.forCall tape i).Shaped C.prog /\ i.vars = [] /\ Input.okWide C.prog (w.forCall tape i) .any w.heap.size f i /\
   ((s.pre enc C.prog fn conds apart (w.forCall tape i).memory i.args /\ X (w.forCall tape i).memory i.args) /\ sizedMet enc C.prog fn (OpenSpec.ofChange s) apart (w.forCall tape i).memory i.args) /\ ({} : Assume).holds C.prog (lone (Frame.enter C.prog f i.args .normal) [] (w.forCall tape i)) :=
 ⟨w0, fun _ _ => 0, ⟨#[], args, []⟩, hos, World.shaped_of_RefB hv hr, (Input.okWide_of_okWideB (base := 0) hok).1, (Input.okWide_of_okWideB hok).2, ⟨⟨ChangeSpec.pre_of_preB hpre, hx⟩, sizedMet_of_sizedB hsz⟩, by
  first | exact ⟨trivial, trivial⟩ | simp [Assume.holds]⟩
theorem again_all {H : Type} {enc : TypeId × Value -> H} {W W' : World} (hold : ∀ b, b < W.heap.size -> W'.heap[b]? = W.heap[b]?) : ∀ {ts : List TypeId} {vs : List Value} {ds : List (DataW H)} {ps : List MemPlace}, (∀ t ∈ ts, Tryz.prog.readableRec t = true /\ t < Tryz.prog.types.size) ->
  DataW.TrodAll enc Tryz.prog W 0 (fun _ => true) true ts vs ds ps -> (∀ x ∈ ps, x.block < W.heap.size) -> DataW.TrodAll enc Tryz.prog W' 0 (fun b => decide (b < W.heap.size)) true ts vs ds ps
 | [], _, _, _, _, h, _ => by
  obtain ⟨rfl, rfl, rfl⟩ := trodAll_nil h
  exact trodAll_mk0
 | t :: ts, _, _, _, hr, h, hlt => by
  obtain ⟨v, vs, d, ds, p, q, rfl, rfl, rfl, h1, h2⟩ := trodAll_cons h
  exact ⟨p, q, again_arg (hr t (by simp)).1 (hr t (by simp)).2 h1 hold (fun x hx => hlt x (List.mem_append_left _ hx)), again_all hold (fun u hu => hr u (by simp [hu])) h2 (fun x hx => hlt x (List.mem_append_right _ hx)), rfl⟩
end Go.Proofs.YtlnbdjekdkodcaaGreatDoor
namespace Go.Proofs.YtlnbdjekdkodcaaGreatDoor
open Go Go.Sx Go.Proofs Go.ChangeShapes Go.WideShapes Go.ChangeAt Go.RowKit
section
variable {H : Type} {enc : TypeId × Value -> H} {w : World}
theorem cl31 : Tryz.prog.cellsOf 31 = 1 := by kernel_rfl
theorem clNd : Tryz.prog.cellsOf 102 = 2 := by kernel_rfl
theorem clNds : Tryz.prog.cellsOf 32 = 1 := by kernel_rfl
theorem clMm : Tryz.prog.cellsOf 34 = 2 := by kernel_rfl
theorem gInts {m : Nat} {v : Value} (h : ∃ y, TR enc w m 31 [v] = some y) : ∃ (s : Sl) (xs : List Int), v = .slice s.p s.n s.c /\ qAc (qAT w) s 1 (xs.map qAq) /\ ∀ x ∈ xs, inI x :=
 gSl (row := qAq) (ok := inI) Tryz.underlying31 cl3 (by decide) (fun _ => rfl) (fun m' _ cs x hx => by
  obtain ⟨n, rfl, hn⟩ := rd_int Tryz.underlying3 hx
  exact ⟨n, rfl, hn⟩) h
theorem rdNd {n : Nat} {cs : List Value} {x : DataW H × List MemPlace} (h : TR enc w n 102 cs = some x) : ∃ f : Nd, Nd.row f = cs /\ Nd.Ok (qAT w) f := by
 obtain ⟨hl, m, -, hs⟩ := qAU Tryz.underlying102 h
 obtain ⟨a, b, rfl⟩ := len2 (hl.trans clNd)
 obtain ⟨t, rfl, ht⟩ := gI (at1 (hs 0 _ rfl) cl3 rfl)
 obtain ⟨l, k, rfl, hr, hk⟩ := gInts (at1 (hs 1 _ rfl) cl31 rfl)
 exact ⟨⟨t, l, k⟩, rfl, ⟨hr, ht, hk⟩⟩
theorem rdMm {n : Nat} {cs : List Value} {x : DataW H × List MemPlace} (h : TR enc w n 34 cs = some x) : ∃ m : Mm, m.row = cs /\ Mm.Ok (qAT w) m := by
 obtain ⟨hl, m, -, hs⟩ := qAU Tryz.underlying34 h
 obtain ⟨a, b, rfl⟩ := len2 (hl.trans clMm)
 obtain ⟨l1, k1, rfl, h1, o1⟩ := gInts (at1 (hs 0 _ rfl) cl31 rfl)
 obtain ⟨l2, k2, rfl, h2, o2⟩ := gSl (row := Nd.row) (ok := Nd.Ok (qAT w)) Tryz.underlying32 clNd (by decide) (fun _ => rfl) (fun _ _ _ _ => rdNd) (at1 (hs 1 _ rfl) clNds rfl)
 exact ⟨⟨l1, k1, l2, k2⟩, rfl, ⟨h1, o1, h2, o2⟩⟩
theorem clCl : Tryz.prog.cellsOf 36 = 2 := by kernel_rfl
theorem rdCl {n : Nat} {cs : List Value} {x : DataW H × List MemPlace} (h : TR enc w n 36 cs = some x) : ∃ (nm : ByteArray) (l : Sl) (xs : List Int), [Value.string nm, l.v] = cs /\ qAc (qAT w) l 1 (xs.map qAq) := by
 obtain ⟨hl, m, -, hs⟩ := qAU Tryz.underlying36 h
 obtain ⟨a, b, rfl⟩ := len2 (hl.trans clCl)
 obtain ⟨t, rfl⟩ := gS (at1 (hs 0 _ rfl) cl9 rfl)
 obtain ⟨l, k, rfl, hr, -⟩ := gInts (at1 (hs 1 _ rfl) cl31 rfl)
 exact ⟨t, l, k, rfl, hr⟩
end
theorem mem_of {H : Type} {enc : TypeId × Value -> H} {W : World} {v : Value} {d0 : DataW H} {p : List MemPlace} (h : DataW.Trod enc Tryz.prog W 0 (fun _ => true) true 34 v d0 p) : ∃ m : Mm, v = m.v /\ Mm.Ok (qAT W) m := by
 obtain ⟨fuel, h⟩ := h
 obtain ⟨m, hm, hok⟩ := rdMm h
 refine ⟨m, ?_, hok⟩
 have hl : v.cells.toList.length = 2 := by rw [<- hm]; rfl
 cases v with
 | agg cs =>
  have : cs.toList = m.row := hm.symm
  show Value.agg cs = .agg m.row.toArray
  rw [<- this]
 | _ => simp [Value.cells] at hl
theorem call_of {H : Type} {enc : TypeId × Value -> H} {W : World} {v : Value} {d0 : DataW H} {p : List MemPlace} (h : DataW.Trod enc Tryz.prog W 0 (fun _ => true) true 36 v d0 p) : ∃ (nm : ByteArray) (l : Sl) (xs : List Int), v = .agg #[.string nm, l.v] /\ qAc (qAT W) l 1 (xs.map qAq) := by
 obtain ⟨fuel, h⟩ := h
 obtain ⟨nm, l, xs, hm, hok⟩ := rdCl h
 refine ⟨nm, l, xs, ?_, hok⟩
 have hl : v.cells.toList.length = 2 := by rw [<- hm]; rfl
 cases v with
 | agg cs =>
  have : cs.toList = [Value.string nm, l.v] := hm.symm
  show Value.agg cs = .agg ([Value.string nm, l.v] : List Value).toArray
  rw [<- this]
 | _ => simp [Value.cells] at hl
theorem u16R {n : Int} (h : (Lit.int .u16 n).wf = true) : 0 <= n /\ n <= 65535 := by
 simp only [Lit.wf, Bool.and_eq_true, decide_eq_true_eq] at h
 exact ⟨h.1, h.2⟩
end Go.Proofs.YtlnbdjekdkodcaaGreatDoor
namespace Go.Proofs
open Go Go.Sx
attribute [local irreducible] Go.Sx.Tri
theorem loop5 {V : Mem} {B : Int -> Int -> Bool -> Bool -> Int -> Mem -> (List Value -> Mem -> Prop) -> Prop} (a0 b0 : Int) (c0 d0 : Bool) (len : Nat) (St : Nat -> Int -> Int -> Bool -> Mem -> Prop) (h0 : St 0 a0 b0 c0 V)
  (step : ∀ (i : Nat) (a b : Int) (c e : Bool) V1 J, i <= len -> St i a b c V1 -> (i < len -> ∀ a' b' c' e' V2, St (i + 1) a' b' c' V2 -> J [.int .i64 a', .int .i64 b', .bool c', .bool e', .int .i64 ((i : Int) + 1)] V2) -> B a b c e (i : Int) V1 J) :
  ∃ (I : Nat -> List Value -> Mem -> Prop) (n0 : Nat), I n0 [.int .i64 a0, .int .i64 b0, .bool c0, .bool d0, .int .i64 0] V /\ ∀ n V1, ∀ (a b : Int) (c e : Bool) (v : Int), I n [.int .i64 a, .int .i64 b, .bool c, .bool e, .int .i64 v] V1 -> ∀ J : List Value -> Mem -> Prop, (∀ m ys V'', m < n -> I m ys V'' -> J ys V'') -> B a b c e v V1 J := by
 refine ⟨LI len fun i xs V => ∃ a b c e, xs = [.int .i64 a, .int .i64 b, .bool c, .bool e, .int .i64 i] /\ St i a b c V, len, LI.start ⟨a0, b0, c0, d0, rfl, h0⟩, ?_⟩
 rintro n V1 a b c e v ⟨i, rfl, hi, a', b', c', e', hx, hs⟩ J hJ
 simp only [List.cons.injEq, Value.int.injEq, Value.bool.injEq, true_and, and_true] at hx
 obtain ⟨rfl, rfl, rfl, rfl, rfl⟩ := hx
 exact step i _ _ _ _ V1 J hi hs fun hlt a' b' c' e' V2 h2 => LI.next hJ hlt ⟨a', b', c', e', rfl, h2⟩
def chg (l : List (Int × Int × Int)) : Bool := l.any fun a => decide (a.1 = 3) || decide (a.1 = 2)
theorem chg_succ {l : List (Int × Int × Int)} {i : Nat} {x : Int × Int × Int} (h : l[i]? = some x) : chg (l.take (i + 1)) = (chg (l.take i) || (decide (x.1 = 3) || decide (x.1 = 2))) := by
 unfold chg
 rw [List.take_add_one, h, List.any_append]; simp
theorem alN_succ {l : List (Int × Int × Int)} {i : Nat} {x : Int × Int × Int} (h : l[i]? = some x) : alN (l.take (i + 1)) = alN (l.take i) + if x.1 = 3 then 1 else 0 := by
 unfold alN
 rw [List.take_add_one, h, List.filter_append, List.length_append]
 congr 1
 by_cases hx : x.1 = 3
 ·rw [if_pos hx]; simp [hx]
 ·rw [if_neg hx]; simp [hx]
theorem alN_le (l : List (Int × Int × Int)) (i : Nat) : alN (l.take i) <= i := by
 unfold alN
 refine Nat.le_trans (List.length_filter_le _ _) ?_
 rw [List.length_take]; omega
section
variable {V V0 : Mem} {d : Ds} {F : Nat} {m : Mm} {nm : ByteArray} {args : List Int} {l : Sl}
theorem play_gr (G : qAD d m) (hc : qEe d m nm args = 0) : Gr F 0 (qFl m) (qDU d F (qFq d nm) args (qFl m)).st := by
 obtain ⟨i, q, hi, hq, hval⟩ := qGV hc
 rw [hi]
 exact (play_snd (F := F) (qId G.valid G.chk) hq (good_st G) (qAf (qCo (qDI m).symm) hval)).gr
theorem c4 [Tab V] (hd : Ds.Ok V d) (hm : Mm.Ok V m) (ha : qAc V l 1 (args.map qAq)) {fu : Int} (hfu : 0 <= fu /\ fu <= 65535) :
  PP 4 [d.v, m.v, .agg #[.string nm, l.v], .int .u16 fu] V (.bool true) := by
 refine Pur.mk (x4 ?_)
 unfold w4
 first | unfold w4_0 | skip
 refine c9.call ⟨_, rfl, fun _ => ⟨⟨by omega, by omega⟩, by decide, fun b hb => ?_⟩, fun h => absurd rfl h⟩
 have s2 := Mem.sub_new hb (.cells #[.string nm, .slice l.p l.n l.c] 36 (0, 0))
 obtain ⟨U, hU⟩ : ∃ U, U = V.set b (.cells #[.string nm, .slice l.p l.n l.c] 36 (0, 0)) := ⟨_, rfl⟩
 show Tri _ _ #[_, _, .slice (sa b) 1 1, _] (V.set b (.cells #[.string nm, .slice l.p l.n l.c] 36 (0, 0))) _
 have hcb : U b = some (.cells #[.string nm, .slice l.p l.n l.c] 36 (0, 0)) := by rw [hU]; exact Mem.set_same _ _ _
 rw [<- hU] at s2 ⊢
 obtain ⟨a, rfl⟩ : ∃ a : Nat, fu = (a : Int) := ⟨fu.toNat, by omega⟩
 have hmod : ((a : Int).tmod (3001 : Int)) = ((a % 3001 : Nat) : Int) := (Int.ofNat_tmod a 3001).symm
 obtain ⟨F, hF⟩ : ∃ F, F = a % 3001 := ⟨_, rfl⟩
 have hF3 : F <= 3000 := by omega
 rw [hmod, <- hF]
 refine Tri.mono (smallC (hd.sub s2) (hm.sub s2) (s := ⟨some ⟨b, 0, none⟩, 1, 1⟩) (cs := [⟨nm, l⟩]) (qAc.cells (row := Cl1.row) (xs := [⟨nm, l⟩]) hcb rfl (fun _ => rfl) rfl (by simp))) ?_
 rintro _ _ ⟨rfl, bb, rfl⟩
 have fin : ∀ {V' : Mem}, V.sub V' -> (Ending.returned (.bool true) = .returned (.bool true) /\ V.sub V') := fun h => ⟨rfl, h⟩
 refine ⟨_, rfl, fun _ => ?_, fun _ => fin s2⟩
 haveI : Tab U := Tab.sub (V := V) inferInstance s2
 have hdU := hd.sub s2
 have hmU := hm.sub s2
 have haU := ha.sub s2
 refine Tri.mono (c11 (F := F) hdU hmU haU (by omega)) ?_
 rintro e V4 (⟨hc, hs, rfl⟩ | ⟨hst, r, gs, ns, ls4, nd4, hr, L, rfl⟩)
 ·haveI : Tab V4 := Tab.sub (V := U) inferInstance hs
  refine ⟨_, _, _, _, _, _, _, _, rfl, Tri.mono (c14 (F := F) (hdU.sub hs) (hmU.sub hs) (haU.sub hs) (by omega)) ?_⟩
  rintro e V5 (⟨-, hs5, rfl⟩ | ⟨hst, -⟩)
  ·exact ⟨_, _, rfl, fun h => absurd h hc, fun _ => ⟨fun _ => fin (s2.trans (hs.trans hs5)), fun h => absurd rfl h⟩⟩
  ·exact absurd hst hc
 obtain ⟨G, hcl⟩ := start_zero hst
 have s4 := L.sub
 haveI : Tab V4 := Tab.sub (V := U) inferInstance s4
 refine ⟨_, _, _, _, _, _, _, _, rfl, Tri.mono (c14 (F := F) (hdU.sub s4) (hmU.sub s4) (haU.sub s4) (by omega)) ?_⟩
 rintro e V5 (⟨hc, -⟩ | ⟨-, r5, ls, hr5, o5, rfl⟩)
 ·exact absurd hst hc
 obtain rfl : r5 = r := by rw [hr5, hr]
 have s5 := o5.sub
 have s45 := s4.trans s5
 have hg := play_good (F := F) G hcl
 have gr := play_gr (F := F) G hcl
 have htk := (fuel_tk (d := d) (F := F) (i := qFq d nm) (args := args) (s := qFl m) rfl).1
 rw [<- hr] at hg gr htk
 obtain ⟨hmA, hpA⟩ := mm_of_lay hdU L hg
 obtain ⟨lx, hlx, hlg, hsame⟩ := gr.lg
 have hlx : r5.st.lg = lx := hlx
 rw [<- hlx] at hlg hsame
 have hw := gr.w
 have hlb : r5.st.lg.length <= 12000000 := by
  have : r5.st.lg.length + r5.st.cm + 4000 * 0 <= 0 + 0 + 0 + 4000 * r5.st.tk := hw
  omega
 have hnl : (qFl m).ns.length = m.nodes.length := by unfold qFl; rw [List.length_map]
 rw [hnl] at hlg
 have hn9 := hm.nodes.n_eq
 have hmn := (qAt G.mem).2.1
 have R5 := o5.rows (row := qFA) (fun _ => rfl) (by decide)
 have hrn := R5.n_eq
 refine ⟨ls, 0, rfl, fun _ => ⟨fun _ => ?_, fun h => absurd rfl h⟩, fun h => absurd rfl h⟩
 refine loop5 0 (m.ns.n : Int) false false r5.st.lg.length (fun i x y c V6 => V5 = V6 /\ x = (qBF (r5.st.lg.take i) : Int) /\ y = ((m.nodes.length + alN (r5.st.lg.take i) : Nat) : Int) /\ c = chg (r5.st.lg.take i)) ⟨rfl, rfl, by rw [hn9]; rfl, rfl⟩ ?_
 rintro i x y c e V6 J hi ⟨rfl, rfl, rfl, rfl⟩ hJ
 refine ⟨fun hlt => ?_, fun hge => ?_⟩
 ·obtain ⟨q, -, hq, -, hil, hp, hz, hrow⟩ := R5.get hlt
  obtain ⟨k1, k2, k3, k4, k5⟩ := hlg.at_ i q hq
  have e1 := qGy hq
  have e2 := alN_succ hq
  have e3 := chg_succ hq
  have b1 := nodesN_le r5.st.lg i
  have b2 := alN_le r5.st.lg i
  have go : ∀ {x' y' : Int} {c' e' : Bool}, x' = (qBF (r5.st.lg.take (i + 1)) : Int) -> y' = ((m.nodes.length + alN (r5.st.lg.take (i + 1)) : Nat) : Int) -> c' = chg (r5.st.lg.take (i + 1)) -> J [.int .i64 x', .int .i64 y', .bool c', .bool e', .int .i64 ((i : Int) + 1)] V5 := fun h1 h2 h3 => hJ hil _ _ _ _ _ ⟨rfl, h1, h2, h3⟩
  refine ⟨hp, hz, hlt, _, _, _, hrow, fun hpos => ⟨⟨by omega, by omega⟩, fun h3 => ?_, fun h3 => ⟨fun h2 => ?_, fun h2 => ⟨fun h1 => ?_, fun h1 => ?_⟩⟩⟩, fun hpos => ⟨fun h3 => ?_, fun h3 => ⟨fun h2 => ?_, fun h2 => ⟨fun h1 => ?_, fun h1 => ?_⟩⟩⟩⟩
  ·have h3 : q.1 = 3 := h3
   have hpos : 0 < q.2.1 := hpos
   have := k2 h3
   rw [if_pos hpos] at e1
   rw [if_pos h3] at e2
   exact ⟨⟨by omega, by omega⟩, fun _ => ⟨fun h => absurd h (by omega), fun _ => ⟨fun h => absurd h (by omega), fun _ => ⟨fun h => absurd h (by omega), fun _ => ⟨⟨by omega, by omega⟩, go (by omega) (by omega) (by rw [e3, decide_eq_true h3]; simp)⟩⟩⟩⟩, fun h => absurd (by omega) h⟩
  ·have h2 : q.1 = 2 := h2
   have h3 : ¬ q.1 = 3 := h3
   have hpos : 0 < q.2.1 := hpos
   have := k3 h3
   rw [if_pos hpos] at e1
   rw [if_neg h3] at e2
   exact ⟨fun h => absurd h (by omega), fun _ => ⟨fun h => absurd h (by omega), fun _ => ⟨fun h => absurd h (by omega), fun _ => ⟨⟨by omega, by omega⟩, go (by omega) (by omega) (by rw [e3, decide_eq_true h2]; simp)⟩⟩⟩⟩
  ·have h1 : q.1 = 1 := h1
   have h2 : ¬ q.1 = 2 := h2
   have h3 : ¬ q.1 = 3 := h3
   have hpos : 0 < q.2.1 := hpos
   have := k3 h3
   rw [if_pos hpos] at e1
   rw [if_neg h3] at e2
   exact ⟨fun h => absurd h (by omega), fun _ => ⟨fun h => absurd h (by omega), fun _ => ⟨fun h => absurd h (by omega), fun _ => ⟨⟨by omega, by omega⟩, go (by omega) (by omega) (by rw [e3, decide_eq_false h2, decide_eq_false h3]; simp)⟩⟩⟩⟩
  ·exact absurd k1 (by rintro (h | h | h); exact h1 h; exact h2 h; exact h3 h)
  ·have h3 : q.1 = 3 := h3
   have hpos : ¬ 0 < q.2.1 := hpos
   have := k2 h3
   exact absurd (by omega) hpos
  ·have h2 : q.1 = 2 := h2
   have h3 : ¬ q.1 = 3 := h3
   have hpos : ¬ 0 < q.2.1 := hpos
   have := k3 h3
   rw [if_neg hpos] at e1
   rw [if_neg h3] at e2
   exact ⟨fun h => absurd h (by omega), fun _ => ⟨fun h => absurd h (by omega), fun _ => ⟨fun h => absurd h (by omega), fun _ => ⟨⟨by omega, by omega⟩, go (by omega) (by omega) (by rw [e3, decide_eq_true h2]; simp)⟩⟩⟩⟩
  ·have h1 : q.1 = 1 := h1
   have h2 : ¬ q.1 = 2 := h2
   have h3 : ¬ q.1 = 3 := h3
   have hpos : ¬ 0 < q.2.1 := hpos
   have := k3 h3
   rw [if_neg hpos] at e1
   rw [if_neg h3] at e2
   exact ⟨fun h => absurd h (by omega), fun _ => ⟨fun h => absurd h (by omega), fun _ => ⟨fun h => absurd h (by omega), fun _ => ⟨⟨by omega, by omega⟩, go (by omega) (by omega) (by rw [e3, decide_eq_false h2, decide_eq_false h3]; simp)⟩⟩⟩⟩
  ·exact absurd k1 (by rintro (h | h | h); exact h1 h; exact h2 h; exact h3 h)
 ·have hdn := (R5.done hge).2
  rw [List.take_of_length_le hdn]
  have hlen := hlg.len
  have hnn := hmA.nodes.n_eq
  have hndl : nd4.length = r5.st.ns.length := L.len
  have hvA : qCb d ⟨gs, r5.st.g, ns, nd4⟩ = true := qEi (hpA.trans (St.plain r5.st).symm).symm hg.mem
  have hs5' := s2.trans s45
  haveI : Tab V5 := Tab.sub (V := U) inferInstance s45
  refine ⟨fun _ => ⟨fun _ => ⟨fun h => absurd h (by omega), fun _ => ⟨fun _ => (c15 (hdU.sub s45) (hmA.sub s5)).call ⟨_, rfl, fun _ => ⟨fun _ => fin hs5', fun hch => ?_⟩, fun h => absurd hvA h⟩, fun h => absurd ?_ h⟩⟩, fun h => absurd rfl h⟩, fun h => absurd rfl h⟩
  ·refine (c13 (a := ⟨gs, r5.st.g, ns, nd4⟩) (b := m) (hmA.sub s5) (hmU.sub s45)).call ⟨_, rfl, ?_⟩
   have hall : ∀ a ∈ r5.st.lg, a.1 = 1 := fun a ha => by
    obtain ⟨i, hi⟩ := List.mem_iff_getElem?.1 ha
    obtain ⟨k1, -⟩ := hlg.at_ i a hi
    have hf : chg r5.st.lg = false := (Bool.not_eq_true _).mp hch
    have := List.any_eq_false.1 hf a ha
    rcases k1 with k1 | k1 | k1
    ·exact k1
    ·exact absurd (by rw [decide_eq_true k1]; simp) this
    ·exact absurd (by rw [decide_eq_true k1]; simp) this
   obtain ⟨q1, q2⟩ := hsame hall
   have : (⟨gs, r5.st.g, ns, nd4⟩ : Mm).plain = m.plain := by rw [hpA, q1, q2]; rfl
   rw [decide_eq_true this]
   exact fin hs5'
  ·have : ns.n = nd4.length := hnn
   omega
end
end Go.Proofs
namespace Go.Proofs.YtlnbdjekdkodcaaGreatDoor
open Go
set_option maxRecDepth 100000
theorem qEu {a b : Bool} (h : a = true) (k : b = true) : (a && b) = true := by rw [h, k]; rfl
theorem ecounts_j1 : (Rows.evalCountsRow.wf (OpenSpec.ofChange Rows.evalCountsSpec)) = true := by kernel_rfl
theorem ecounts_j2 : (laidOutB Tryz.prog) = true := by kernel_rfl
theorem ecounts_j3 : (mapsRowed Tryz.prog) = true := by kernel_rfl
theorem ecounts_j4 : (Tryz.f4.params.all (Tryz.prog.readableRec ·)) = true := by kernel_rfl
theorem ecounts_j5 : (namedTie Tryz.prog Rows.evalCountsRow.named Rows.evalCountsSpec.vars) = true := by kernel_rfl
theorem ecounts_j6 : ((Rows.evalCountsRow.stops == [])) = true := by kernel_rfl
theorem ecounts_j7 : ((Tryz.prog.stops == [])) = true := by kernel_rfl
theorem ecounts_j8 : ((Rows.evalCountsRow.knobs == [])) = true := by kernel_rfl
theorem ecounts_j9 : ((Tryz.prog.stopKnobs == [])) = true := by kernel_rfl
theorem ecounts_j10 : ((Rows.evalCountsRow.inPlace == Tryz.prog.inPlace 4)) = true := by kernel_rfl
theorem ecounts_j11 : ((Rows.evalCountsRow.unfollowed == Tryz.prog.unfollowed 4)) = true := by kernel_rfl
theorem ecounts_j12 : ((Rows.evalCountsRow.recurses == Tryz.prog.recurses 4)) = true := by kernel_rfl
theorem ecounts_j13 : ((Rows.evalCountsRow.named == Tryz.prog.varsNamed 4)) = true := by kernel_rfl
theorem ecounts_j14 : ((Rows.evalCountsRow.maps == (Tryz.f4.params.toList ++ Rows.evalCountsSpec.plain.varTypes Tryz.prog).any (Tryz.prog.mapsRec ·))) = true := by kernel_rfl
theorem ecounts_j15 : ((Rows.evalCountsRow.ifaces == (Tryz.f4.params.toList ++ Rows.evalCountsSpec.plain.varTypes Tryz.prog).any (Tryz.prog.ifacesRec ·))) = true := by kernel_rfl
theorem ecounts_j16 : ((Rows.evalCountsRow.mapsOut == Tryz.prog.mapsAmong Tryz.f4.resultTypes.toList)) = true := by kernel_rfl
theorem ecounts_j17 : ((Rows.evalCountsRow.loops == (Tryz.f4.params.toList ++ Rows.evalCountsSpec.plain.varTypes Tryz.prog).any (Tryz.prog.loopsFrom ·))) = true := by kernel_rfl
theorem ecounts_j18 : ((Rows.evalCountsRow.wideKeys == (Tryz.f4.params.toList ++ Rows.evalCountsSpec.plain.varTypes Tryz.prog ++ Tryz.f4.resultTypes.toList).any (Tryz.prog.wideKeysFrom ·))) = true := by kernel_rfl
theorem ecounts_j19 : (Rows.evalCountsSpec.vars.all (Tryz.prog.varReadable ·)) = true := by kernel_rfl
theorem ecounts_j20 : (Tryz.f4.resultTypes.all (fun t => Tryz.prog.readableRec t && decide (t < Tryz.prog.types.size))) = true := by kernel_rfl
theorem ecounts_j21 : ((Rows.evalCountsRow.ifacesOut == Tryz.f4.resultTypes.toList.any (Tryz.prog.ifacesRec ·))) = true := by kernel_rfl
theorem ecounts_j22 : ((Rows.evalCountsRow.loopsOut == Tryz.f4.resultTypes.toList.any (Tryz.prog.loopsFrom ·))) = true := by kernel_rfl
theorem ecounts_j23 : ((Rows.evalCountsRow.plainKeys == Tryz.prog.plainKeys)) = true := by kernel_rfl
theorem ecounts_j24 : (Rows.evalCountsRow.shortTexts.isNone) = true := by kernel_rfl
theorem ecounts_j25 : (Tryz.prog.stopsHeard) = true := by kernel_rfl
theorem ecounts_j26 : (Tryz.prog.mayEnter) = true := by kernel_rfl
theorem ecounts_j27 : ((Rows.evalCountsRow.lifted == Tryz.prog.liftsFinal)) = true := by kernel_rfl
theorem ecounts_j28 : ((Tryz.prog.make == some Rows.evalCountsRow.make)) = true := by kernel_rfl
theorem ecounts_j29 : ((Rows.evalCountsRow.kinds == (if Rows.evalCountsRow.domain.isEmpty then [] else Tryz.f4.params.toList.map fun t => match Tryz.prog.underlying t with | some (.int k) => some k | _ => none))) = true := by kernel_rfl
theorem ecounts_j30 : ((Rows.evalCountsRow.pinned == Rows.evalCountsRow.pinnedBy)) = true := by kernel_rfl
theorem ecounts_j31 : ((Rows.evalCountsRow.veiled == (Tryz.f4.params.toList ++ Rows.evalCountsSpec.plain.varTypes Tryz.prog ++ Tryz.f4.resultTypes.toList).any (Tryz.prog.veiledRec ·))) = true := by kernel_rfl
theorem ecounts_j32 : (Rows.evalCountsRow.veiledFits Tryz.prog Tryz.f4.params.toList (Tryz.f4.params.toList ++ Rows.evalCountsSpec.plain.varTypes Tryz.prog ++ Tryz.f4.resultTypes.toList)) = true := by kernel_rfl
theorem qID : joinedFacts Tryz.prog 4 Tryz.f4 Rows.evalCountsSpec Rows.evalCountsRow = true := (qEu (qEu (qEu (qEu (qEu (qEu (qEu (qEu (qEu (qEu (qEu (qEu (qEu (qEu (qEu (qEu (qEu (qEu (qEu (qEu (qEu (qEu (qEu (qEu (qEu (qEu (qEu (qEu (qEu (qEu (qEu ecounts_j1 ecounts_j2) ecounts_j3) ecounts_j4) ecounts_j5) ecounts_j6) ecounts_j7) ecounts_j8) ecounts_j9) ecounts_j10) ecounts_j11) ecounts_j12) ecounts_j13) ecounts_j14) ecounts_j15) ecounts_j16) ecounts_j17) ecounts_j18) ecounts_j19) ecounts_j20) ecounts_j21) ecounts_j22) ecounts_j23) ecounts_j24) ecounts_j25) ecounts_j26) ecounts_j27) ecounts_j28) ecounts_j29) ecounts_j30) ecounts_j31) ecounts_j32)
end Go.Proofs.YtlnbdjekdkodcaaGreatDoor
