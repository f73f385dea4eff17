/- Part 19 of a proof of a law of this seat: no statement of the seat is proved here. -/
import Derived.Test.YtjnmeimbcljkjaaGreatDoorPart17
set_option linter.unusedVariables false
set_option linter.unusedSimpArgs false
namespace Go.Sx
open Go
section
variable {P : Program}
def Has (N : Nat) (a : Act) (l : List (Nat × Value)) : Prop := a.tmps.size = N ∧ ∀ s v, l.lookup s = some v → a.tmps.getD s undef = v
theorem Seg.step {r : Option Nat} {n N : Nat} {Q : Exit → Act → World → Prop} {cs rest : List Code} {ins : List (Nat × Value)} {outs : List Nat} {V : Mem} {R : List Value → Mem → Prop} {a : Act} {w : World} (h : Seg P N cs ins outs V R) (hV : V.le w) (ha : Has N a ins)
    (k : ∀ a' w' vs V', a'.defers = a.defers → Has N a' (outs.zip vs) → R vs V' → Frm V w V' w' → wpL r n P Q rest a' w') : wpL r n P Q (cs ++ rest) a w := by
  refine wpL_append (wpL_mono ?_ (h r n a w hV ha.1 ha.2))
  rintro e a' w' ⟨rfl, h1, h2, vs, V', h3, h4, h5⟩
  exact k a' w' vs V' h1 ⟨h2, h3⟩ h4 h5
theorem SegO.step {r : Option Nat} {n N k m : Nat} {Q : Exit → Act → World → Prop} {ops : Array Oper} {rest : List Nat} {ins : List (Nat × Value)} {outs : List Nat} {V : Mem} {R : List Value → Mem → Prop} {a : Act} {w : World} (h : SegO P N ops k m ins outs V R) (hV : V.le w) (ha : Has N a ins)
    (go : ∀ a' w' vs V', a'.defers = a.defers → Has N a' (outs.zip vs) → R vs V' → Frm V w V' w' → wpOpsIn (wideR r) n P ops Q rest a' w') : wpOpsIn (wideR r) n P ops Q (List.range' k m ++ rest) a w := by
  refine wpOpsIn_append (fun c a w he => by cases he.1) (fun ⟨_, _, he⟩ => by cases he.1) ?_ (h r n a w hV ha.1 ha.2)
  rintro a' w' ⟨_, h1, h2, vs, V', h3, h4, h5⟩
  exact go a' w' vs V' h1 ⟨h2, h3⟩ h4 h5
theorem yield_op {ops : Array Oper} {i : Nat} {o : Oper} {c : Call} {fv : Operand} {l : Nat} {rec : Loop} {args : Array Value} {rest : List Nat} {Q : Exit → Act → World → Prop} {a : Act} {w : World} (ho : ops[i]? = some o) (hg : o.guard = none) (hop : o.op = .call c) (hc : c.callee = .value fv)
    (hf : a.eval fv = .func (.yield l) #[] #[]) (hargs : c.args.map a.eval = args) (hl : w.heap[l]? = some (.loop rec)) (hs : args.size = rec.params.size)
    (hR : RoundIn (wideR none) 0 P l rec.fn ((rec.params.zip args).foldl (fun t (p, v) => t.setIfInBounds p v) rec.tmps) rec.assign rec.body w fun e w' => ∃ v, e = .returned v ∧ wpOpsIn (wideR none) 0 P ops Q rest (a.put o.dst v) w') :
    wpOpsIn (wideR none) 0 P ops Q (i :: rest) a w := by
  rw [wpOpsIn_cons]
  unfold wpOpIn
  simp only [ho]
  rw [if_pos (by simp [Region.wanted, hg])]
  refine ⟨fun _ _ => trivial, ?_⟩
  rw [Oper.semAt_eq _ _ _ (fun d => by rw [hop]; intro h; cases h)]
  have hrun : (execOp a.eval o).run P w = .ok (.round l rec.fn ((rec.params.zip args).foldl (fun t (p, v) => t.setIfInBounds p v) rec.tmps) rec.assign rec.body) w := by
    unfold execOp
    simp only [hop, resolve, hc, hf, hargs, Deferred.ofValue, Sem.run_bind, Sem.run_pure, Result.andThen_ok, invoke]
    simp only [Array.append_empty, Array.empty_append]
    exact run_yield hl hs
  rw [hrun]
  refine ⟨fun h => by simp [wideR, Fence.wide] at h, hR.mono ?_⟩
  rintro e w' ⟨v, rfl, h⟩
  exact h
theorem Has.get {N : Nat} {a : Act} {l : List (Nat × Value)} (h : Has N a l) {s : Nat} {v : Value} (hs : l.lookup s = some v) : a.tmps.getD s undef = v := h.2 s v hs

theorem back_rule {f : FuncId} {fn : Func} {c L B : Code} {b0 b1 id : Nat} {cA cB cE : List Code} {ops : Array Oper} {o6 : Oper} {at6 : Array TypeId} {fn' : FuncId} {tmps : Array Value} {ps : Array Tmp} {assign body : Code} {D : Nat} {l : Nat} {box : Option Addr} {n : Nat} {el : Nat → Value} {J : Nat → Mem → Prop} {Bk : Mem → Prop} {V : Mem}
    (hf : P.funcs[f]? = some fn) (hb : fn.body = some c) (e1 : flat c = cA ++ [.block b0 (.loop L)]) (e2 : flat L = cB ++ ([.cond (.tmp 8) .skip (.exit b0), .block b1 B] ++ cE)) (e3 : flat B = [.region id ops false, .cond (.tmp 18) .ret .skip])
    (ho : ops[6]? = some o6) (hgd : o6.guard = none) (hop : o6.op = .call { callee := .value (.tmp 11), args := #[.tmp 12, .tmp 16], argTypes := at6 }) (hdst : o6.dst = some 17) (hsz : ops.size = 8) (hres : fn.results = #[]) (hN : fn.ntmps = 19) (hps : ps.size = 2)
    (hA : ∀ M, Bk M → Seg P 19 cA [(0, .func (.yield l) #[] #[]), (1, .pointer box)] [0, 1, 3] M fun vs V' => V' = M ∧ vs = [.func (.yield l) #[] #[], .pointer box, .int .i64 ((n : Int) - 1)])
    (hB : ∀ M (j : Int), Seg P 19 cB [(0, .func (.yield l) #[] #[]), (1, .pointer box), (3, .int .i64 j)] [0, 1, 3, 8] M fun vs V' => V' = M ∧ vs = [.func (.yield l) #[] #[], .pointer box, .int .i64 j, .bool (decide (0 ≤ j))])
    (hC : ∀ M (k : Nat), Bk M → k < n → SegO P 19 ops 0 6 [(0, .func (.yield l) #[] #[]), (1, .pointer box), (3, .int .i64 k)] [0, 1, 3, 11, 12, 16] M fun vs V' => V' = M ∧ vs = [.func (.yield l) #[] #[], .pointer box, .int .i64 k, .func (.yield l) #[] #[], .int .i64 k, el k])
    (hD : ∀ M (j : Int) (b : Bool), SegO P 19 ops 7 1 [(0, .func (.yield l) #[] #[]), (1, .pointer box), (3, .int .i64 j), (17, .bool b)] [0, 1, 3, 18] M fun vs V' => V' = M ∧ vs = [.func (.yield l) #[] #[], .pointer box, .int .i64 j, .bool (!b)])
    (hE : ∀ M (j : Int), Bk M → 0 ≤ j → j < n → Seg P 19 cE [(0, .func (.yield l) #[] #[]), (1, .pointer box), (3, .int .i64 j)] [0, 1, 3] M fun vs V' => V' = M ∧ vs = [.func (.yield l) #[] #[], .pointer box, .int .i64 (j - 1)])
    (hJ : ∀ i V2, J i V2 → V2 l = none → Bk (V2.set l (.loop (rec0 fn' tmps ps assign body D))))
    (hround : ∀ k, k < n → ∀ V2, J (n - 1 - k) V2 → V2 l = none → ∀ w, (V2.set l (.loop (rec0 fn' tmps ps assign body D))).le w →
      RoundIn (wideR none) 0 P l fn' ((ps.zip #[.int .i64 k, el k]).foldl (fun t (p, v) => t.setIfInBounds p v) tmps) assign body w fun e w' =>
        e = .returned (.bool true) ∧ ∃ V3, J (n - k) V3 ∧ V3 l = none ∧ Frm (V2.set l (.loop (rec0 fn' tmps ps assign body D))) w (V3.set l (.loop (rec0 fn' tmps ps assign body D))) w')
    (h0 : J 0 V) (hl : V l = none) :
    Tri P f #[.func (.yield l) #[] #[], .pointer box] (V.set l (.loop (rec0 fn' tmps ps assign body D))) fun e V' => (∃ v, e = .returned v) ∧ ∃ V2, V' = V2.set l (.loop (rec0 fn' tmps ps assign body D)) ∧ V2 l = none ∧ J n V2 := by
  intro w hV
  refine (callsIn_wide (n := 0)).1 (callsIn_of_wp (F := wideR none) hf hb trivial (wpIn_flat ?_) rfl)
  rw [e1]
  have hH0 : Has 19 { tmps := #[.func (.yield l) #[] #[], .pointer box] ++ Array.replicate (fn.ntmps - (#[Value.func (.yield l) #[] #[], .pointer box]).size) undef, defers := [] } [(0, .func (.yield l) #[] #[]), (1, .pointer box)] := by
    constructor
    · simp [hN]
    · intro s v hs
      simp only [List.lookup_cons] at hs
      split at hs
      · rename_i e
        simp only [beq_iff_eq] at e; subst e
        cases hs
        simp [Array.getD, hN]
      · split at hs
        · rename_i e
          simp only [beq_iff_eq] at e; subst e
          cases hs
          simp [Array.getD, hN]
        · cases hs
  refine (hA _ (hJ 0 V h0 hl)).step hV hH0 ?_
  rintro a1 w1 vs V1 hd1 hH1 ⟨rfl, rfl⟩ hF1
  refine wpIn_block ?_
  refine wpIn_loop_rel (fun m a w' => ∃ (i : Nat) (V2 : Mem), i ≤ n ∧ m = n - i ∧ J i V2 ∧ V2 l = none ∧ a.defers = [] ∧ Has 19 a [(0, .func (.yield l) #[] #[]), (1, .pointer box), (3, .int .i64 ((n : Int) - 1 - i))] ∧
    Frm (V.set l (.loop (rec0 fn' tmps ps assign body D))) w (V2.set l (.loop (rec0 fn' tmps ps assign body D))) w') ⟨n, 0, V, by omega, rfl, h0, hl, hd1, by simpa using hH1, hF1⟩ ?_
  rintro m a2 w2 ⟨i, V2, hi, rfl, hJi, hl2, hd2, hH2, hF2⟩
  refine wpIn_flat ?_
  rw [e2]
  refine (hB _ _).step hF2.le hH2 ?_
  rintro a3 w3 vs V3 hd3 hH3 ⟨rfl, rfl⟩ hF3
  have hev8 : a3.eval (.tmp 8) = .bool (decide (0 ≤ (n : Int) - 1 - i)) := hH3.get rfl
  show Code.wpIn (wideR none) 0 P _ _ a3 w3
  by_cases hlt : i < n
  · have hdc : decide (0 ≤ (n : Int) - 1 - i) = true := by simp; omega
    rw [hdc] at hev8
    refine wpIn_cond_true hev8 (wpIn_skip ?_)
    show Code.wpIn (wideR none) 0 P _ _ a3 w3
    refine wpIn_block (wpIn_flat ?_)
    rw [e3]
    have hk : ((n : Int) - 1 - i) = ((n - 1 - i : Nat) : Int) := by omega
    have hH3' : Has 19 a3 [(0, .func (.yield l) #[] #[]), (1, .pointer box), (3, .int .i64 ((n - 1 - i : Nat) : Int))] := ⟨hH3.1, fun s v hs => hH3.2 s v (by
      rw [hk]
      simp only [List.zip_cons_cons, List.lookup_cons] at hs ⊢
      split at hs
      · exact hs
      · split at hs
        · exact hs
        · split at hs
          · exact hs
          · cases hs)⟩
    refine wpIn_region ?_
    rw [hsz, show List.range 8 = List.range' 0 6 ++ [6, 7] from rfl]
    refine (hC _ (n - 1 - i) (hJ _ _ hJi hl2) (by omega)).step hF3.le hH3' ?_
    rintro a4 w4 vs V4 hd4 hH4 ⟨rfl, rfl⟩ hF4
    have hl4 : w4.heap[l]? = some (.loop (rec0 fn' tmps ps assign body D)) := hF4.le _ _ (Mem.set_same _ _ _)
    refine yield_op (args := #[.int .i64 ((n - 1 - i : Nat) : Int), el (n - 1 - i)]) ho hgd hop rfl (hH4.get rfl) ?_ hl4 (by simp [rec0, hps]) ?_
    · have g1 : a4.eval (.tmp 12) = .int .i64 ((n - 1 - i : Nat) : Int) := hH4.get rfl
      have g2 : a4.eval (.tmp 16) = el (n - 1 - i) := hH4.get rfl
      simp [g1, g2]
    refine (hround (n - 1 - i) (by omega) V2 (by rw [show n - 1 - (n - 1 - i) = i by omega]; exact hJi) hl2 w4 hF4.le).mono ?_
    rintro e w5 ⟨rfl, V5, hJ5, hl5, hF5⟩
    refine ⟨_, rfl, ?_⟩
    rw [hdst]
    have hlt17 : (17 : Nat) < a4.tmps.size := by rw [hH4.1]; decide
    have hH5 : Has 19 (a4.put (some 17) (.bool true)) [(0, .func (.yield l) #[] #[]), (1, .pointer box), (3, .int .i64 ((n - 1 - i : Nat) : Int)), (17, .bool true)] := by
      refine ⟨by simp [Act.put, hH4.1], fun s v hs => ?_⟩
      have other : ∀ s, s ≠ 17 → (a4.put (some 17) (.bool true)).tmps.getD s undef = a4.tmps.getD s undef := fun s hs => by
        simp [Act.put, Array.getD_eq_getD_getElem?, Array.getElem?_setIfInBounds_ne (Ne.symm hs)]
      simp only [List.lookup_cons] at hs
      split at hs
      · rename_i e; simp only [beq_iff_eq] at e; subst e; cases hs; rw [other _ (by decide)]; exact hH4.get rfl
      · split at hs
        · rename_i e; simp only [beq_iff_eq] at e; subst e; cases hs; rw [other _ (by decide)]; exact hH4.get rfl
        · split at hs
          · rename_i e; simp only [beq_iff_eq] at e; subst e; cases hs; rw [other _ (by decide)]; exact hH4.get rfl
          · split at hs
            · rename_i e; simp only [beq_iff_eq] at e; subst e; cases hs
              simp [Act.put, Array.getD_eq_getD_getElem?, hlt17]
            · cases hs
    rw [show [7] = List.range' 7 1 ++ [] from rfl]
    refine (hD _ _ true).step hF5.le hH5 ?_
    rintro a6 w6 vs V6 hd6 hH6 ⟨rfl, rfl⟩ hF6
    show Code.wpIn (wideR none) 0 P (.cond (.tmp 18) .ret .skip) _ a6 w6
    refine wpIn_cond_false (hH6.get rfl) (wpIn_skip ?_)
    rw [← List.append_nil cE]
    refine (hE _ ((n - 1 - i : Nat) : Int) (hJ _ _ hJ5 hl5) (by omega) (by omega)).step hF6.le ⟨hH6.1, fun s v hs => hH6.2 s v ?_⟩ ?_
    · simp only [List.zip_cons_cons, List.lookup_cons] at hs ⊢
      split at hs
      · exact hs
      · split at hs
        · exact hs
        · split at hs
          · exact hs
          · cases hs
    rintro a7 w7 vs V7 hd7 hH7 ⟨rfl, rfl⟩ hF7
    refine ⟨n - (i + 1), by omega, i + 1, V5, by omega, rfl, ?_, hl5, ?_, ?_, ?_⟩
    · rw [show i + 1 = n - (n - 1 - i) by omega]; exact hJ5
    · rw [hd7, hd6]
      show a4.defers = []
      rw [hd4, hd3, hd2]
    · rw [show (n : Int) - 1 - ((i + 1 : Nat) : Int) = ((n - 1 - i : Nat) : Int) - 1 by omega]
      exact hH7
    · exact ((((hF2.trans hF3).trans hF4).trans hF5).trans hF6).trans hF7
  · have hin : i = n := by omega
    subst hin
    have hdc : decide (0 ≤ (i : Int) - 1 - i) = false := by simp; omega
    rw [hdc] at hev8
    refine wpIn_cond_false hev8 (wpIn_exit ?_)
    show (if b0 = b0 then _ else _)
    rw [if_pos rfl]
    refine ⟨?_, _, results_none hres _ _ _, _, ⟨⟨_, rfl⟩, V2, rfl, hl2, hJi⟩, hF2.trans hF3⟩
    rw [hd3, hd2]
end
end Go.Sx
