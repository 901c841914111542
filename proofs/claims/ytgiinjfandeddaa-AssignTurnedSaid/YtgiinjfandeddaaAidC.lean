/- More small lemmas whose side goals prove themselves: they make printed walks shorter. -/
import Derived.Test.YtgiinjfandeddaaAidB
namespace Go.Proofs.Ytgiinjfandeddaa.Q
open Go.RowKit Go.Proofs.YtgiinjfandeddaaW.PrintWords Go.Proofs.YtgiinjfandeddaaW.PrintLast Go.Proofs.YtgiinjfandeddaaW.PrintMore
set_option linter.unusedVariables false

section
variable {α : Type} {d : Kd α} {e base n m c : Nat} {ok : Nat → Prop} {v : Value} {A : Option Addr} {xs : List α} {w W V V1 : World}
/-- What is read, told of a later world. -/
theorem cB (h : Aside0 (d.C w A n xs)) (HB : Aside0 (Below w.heap.size w W)) (k : Below w.heap.size w W → Below w.heap.size w V := by intro HB_; repeat (first | (with_reducible first | exact HB_ | apply below_alloc | apply pw_below_drewN | apply below_drew1 | refine below_set ?_ (Aside0.out (by assumption))) | exact HB_)) : d.C V A n xs := Kd.C_below h.out (k HB.out)
theorem cH (h : Aside0 (d.C W A n xs)) (k : d.C W A n xs → d.C V A n xs := by intro h_; repeat (first | exact h_ | (with_reducible refine Kd.C_alloc ?_ _) | (with_reducible refine Kd.C_drewN ?_ _) | (with_reducible refine Kd.C_drew ?_))) : d.C V A n xs := k h.out
theorem cV (h : Aside0 (Kd.V d e W base ok (.slice A n c) xs)) (k : d.C W A xs.length xs → d.C V A xs.length xs := by intro h_; repeat (first | exact h_ | (with_reducible refine Kd.C_alloc ?_ _) | (with_reducible refine Kd.C_drewN ?_ _) | (with_reducible refine Kd.C_drew ?_))) : d.C V A xs.length xs := k (Kd.V_reads' h.out).2.2
theorem lV (h : Aside0 (Kd.V d e W base ok (.slice A n c) xs)) : n ≤ c := (Kd.V_reads' h.out).2.1
/-- A view behind draws and new blocks, then behind a call. -/
theorem vB (h : Aside0 (Kd.V d e W base ok v xs)) (hb : Below V.heap.size V V1) (k : Kd.V d e W base ok v xs → Kd.V d e V base ok v xs := by intro h_; (with_reducible repeat (first | apply Kd.V_alloc | apply Kd.V_drewN | apply Kd.V_drew)); exact h_) : Aside0 (Kd.V d e V1 base ok v xs) := ⟨Kd.V_below (k h.out) hb⟩
theorem vE (h : Aside0 (Kd.V d e W base ok v xs)) (g : Nat) (hg : g = V.heap.size) (hb : Below V.heap.size V V1) (k : Kd.V d e W base ok v xs → Kd.V d e V base ok v xs := by intro h_; (with_reducible repeat (first | apply Kd.V_alloc | apply Kd.V_drewN | apply Kd.V_drew)); exact h_) : Aside0 (Kd.V d e V1 base (fun k => ok k ∧ k ≠ g) v xs) := ⟨Kd.V_below (Kd.V_elderB (k h.out) g (Nat.le_of_eq hg.symm)) hb⟩
theorem vD (h : Aside0 (Kd.V d e W base ok v xs)) : Aside0 (Kd.V d e W.drew base ok v xs) := ⟨Kd.V_drew h.out⟩
theorem vW (he : V = W) (h : Kd.V d e W base ok v xs) : Aside0 (Kd.V d e V base ok v xs) := ⟨he ▸ h⟩
end
section
variable {W V V1 w : World} {g g' n : Nat} {o : Obj} {t : TypeId} {cs : Array Value}
theorem bB (h : Aside0 (W.heap[g]? = some o)) (hb : Below V.heap.size V V1) [i : Lies W V] : Aside0 (V1.heap[g]? = some o) := ⟨zb h.out hb⟩
theorem bD (h : Aside0 (W.heap[g]? = some o)) : Aside0 (W.drew.heap[g]? = some o) := ⟨blk_drew h.out⟩
theorem bW (he : V = W) (h : W.heap[g]? = some o) : Aside0 (V.heap[g]? = some o) := ⟨he ▸ h⟩
theorem sB (HB : Aside0 (Below w.heap.size w W)) (hb : Below V.heap.size V V1) (k : Below w.heap.size w W → Below w.heap.size w V := by intro HB_; repeat (first | (with_reducible first | exact HB_ | apply below_alloc | apply pw_below_drewN | apply below_drew1 | refine below_set ?_ (Aside0.out (by assumption))) | exact HB_)) : Aside0 (Below w.heap.size w V1) := ⟨below_step (k HB.out) hb⟩
theorem hD (HB : Aside0 (Below n w W)) : Aside0 (Below n w W.drew) := ⟨below_drew1 HB.out⟩
theorem lW (he : V = W) (h : Below n w W) : Aside0 (Below n w V) := ⟨he ▸ h⟩
theorem nL (h : Aside0 (W.heap[g]? = some o)) (hg : g' = V.heap.size) [i : Lies W V] : Aside0 (g ≠ g') := ⟨by rw [hg]; exact Nat.ne_of_lt (blk_lt (zk h.out))⟩
theorem nG (h : Aside0 (g ≠ g')) : Aside0 (g' ≠ g) := ⟨Ne.symm h.out⟩
theorem gW (HB : Aside0 (Below w.heap.size w W)) (hg : g = V.heap.size) (k : Below w.heap.size w W → Below w.heap.size w V := by intro HB_; repeat (first | (with_reducible first | exact HB_ | apply below_alloc | apply pw_below_drewN | apply below_drew1 | refine below_set ?_ (Aside0.out (by assumption))) | exact HB_)) : Aside0 (w.heap.size ≤ g) := ⟨by rw [hg]; exact below_size (k HB.out)⟩
theorem fz (h : Aside0 (w.heap[g]? = some (.cells cs t (0, 0)))) (i : Nat) : w.frozen? ⟨g, i, none⟩ = false := blk_frozen h.out i
end
section
variable {w : World} {g g' : Nat} {t : TypeId} {a b c d a' b' c' d' : Value} {l : List Value} {cs : Array Value}
theorem bc0 (h : Aside0 (w.heap[g]? = some (.cells (a :: l).toArray t (0, 0)))) : w.cell? ⟨g, 0, none⟩ = some a := bc h 0
theorem bc1 (h : Aside0 (w.heap[g]? = some (.cells (a :: b :: l).toArray t (0, 0)))) : w.cell? ⟨g, 1, none⟩ = some b := bc h 1
theorem bc2 (h : Aside0 (w.heap[g]? = some (.cells (a :: b :: c :: l).toArray t (0, 0)))) : w.cell? ⟨g, 2, none⟩ = some c := bc h 2
theorem bc3 (h : Aside0 (w.heap[g]? = some (.cells (a :: b :: c :: d :: l).toArray t (0, 0)))) : w.cell? ⟨g, 3, none⟩ = some d := bc h 3
theorem bc4 {e1 : Value} (h : Aside0 (w.heap[g]? = some (.cells (a :: b :: c :: d :: e1 :: l).toArray t (0, 0)))) : w.cell? ⟨g, 4, none⟩ = some e1 := bc h 4
theorem bc5 {e1 e2 : Value} (h : Aside0 (w.heap[g]? = some (.cells (a :: b :: c :: d :: e1 :: e2 :: l).toArray t (0, 0)))) : w.cell? ⟨g, 5, none⟩ = some e2 := bc h 5
theorem bc6 {e1 e2 e3 : Value} (h : Aside0 (w.heap[g]? = some (.cells (a :: b :: c :: d :: e1 :: e2 :: e3 :: l).toArray t (0, 0)))) : w.cell? ⟨g, 6, none⟩ = some e3 := bc h 6
theorem bc7 {e1 e2 e3 e4 : Value} (h : Aside0 (w.heap[g]? = some (.cells (a :: b :: c :: d :: e1 :: e2 :: e3 :: e4 :: l).toArray t (0, 0)))) : w.cell? ⟨g, 7, none⟩ = some e4 := bc h 7
theorem bc8 {e1 e2 e3 e4 e5 : Value} (h : Aside0 (w.heap[g]? = some (.cells (a :: b :: c :: d :: e1 :: e2 :: e3 :: e4 :: e5 :: l).toArray t (0, 0)))) : w.cell? ⟨g, 8, none⟩ = some e5 := bc h 8
theorem bp3 (h : w.heap[g]? = some (.cells #[a, b, c] t (0, 0))) : (((w.setCell ⟨g, 0, none⟩ a').setCell ⟨g, 1, none⟩ b').setCell ⟨g, 2, none⟩ c').heap[g]? = some (.cells #[a', b', c'] t (0, 0)) :=
  blk_put (blk_put (blk_put h 0 _ rfl) 1 _ rfl) 2 _ rfl
theorem bp4 (h : w.heap[g]? = some (.cells #[a, b, c, d] t (0, 0))) : ((((w.setCell ⟨g, 0, none⟩ a').setCell ⟨g, 1, none⟩ b').setCell ⟨g, 2, none⟩ c').setCell ⟨g, 3, none⟩ d').heap[g]? = some (.cells #[a', b', c', d'] t (0, 0)) :=
  blk_put (blk_put (blk_put (blk_put h 0 _ rfl) 1 _ rfl) 2 _ rfl) 3 _ rfl
theorem bf3 (h : w.heap[g]? = some (.cells cs t (0, 0))) (hn : Aside0 (g ≠ g')) : (((w.setCell ⟨g', 0, none⟩ a').setCell ⟨g', 1, none⟩ b').setCell ⟨g', 2, none⟩ c').heap[g]? = some (.cells cs t (0, 0)) :=
  blk_far (blk_far (blk_far h hn.out _) hn.out _) hn.out _
theorem bf4 (h : w.heap[g]? = some (.cells cs t (0, 0))) (hn : Aside0 (g ≠ g')) : ((((w.setCell ⟨g', 0, none⟩ a').setCell ⟨g', 1, none⟩ b').setCell ⟨g', 2, none⟩ c').setCell ⟨g', 3, none⟩ d').heap[g]? = some (.cells cs t (0, 0)) :=
  blk_far (blk_far (blk_far (blk_far h hn.out _) hn.out _) hn.out _) hn.out _
end
section
variable {P : Program} {md : Region.Mode} {ops : Array Oper} {Q : Exit → Act → World → Prop} {S : World → Prop} {ds : List Nat} {T : Bool × List (List Nat × List Nat)} {n m0 : Nat}
/-- Steps of a region that draws, by its table. -/
theorem pA (H : Aside0 (rtab md ops = T)) (i u m : Nat) {oi : Oper} {v : Value} {fuel : Nat} {a a' : Act} {w : World} (h : wpAnyLast P md ops Q S ds fuel (ar n m) a' w)
    (hc : anyT T (ar n m0).toList (ar n m).toList i = true := by kernel_rfl) (hi : ops[i]? = some oi := by rfl) (hN : oi.dst = some u := by rfl) (hQ : ∀ c a w, Q (.panic c) (a.put oi.dst v) w → Q (.panic c) a w := by exact fun _ _ _ h => h)
    (hy : Yields P ops oi v a := by (refine Or.inl ⟨by rfl, ?_⟩; intro w'; go_simp; with_reducible rfl)) (ha : a.put (some u) v = a' := by (simp only [Act.put, List.setIfInBounds_toArray, List.set_cons_zero, List.set_cons_succ, i64_w, i32_w]; rfl)) :
    wpAnyLast P md ops Q S ds (fuel + 1) (ar n m0) a w := pure_ _ hi hN (any_of H.out hc) hQ hy ha h
theorem pU (H : Aside0 (rtab md ops = T)) (i u m : Nat) {oi : Oper} {fuel : Nat} {a a' : Act} {w : World} (h : wpAnyLast P md ops Q S ds fuel (ar n m) a' w)
    (hc : anyT T (ar n m0).toList (ar n m).toList i = true := by kernel_rfl) (hi : ops[i]? = some oi := by rfl) (hN : oi.dst = some u := by rfl) (hQ : ∀ c a w, Q (.panic c) (a.put oi.dst undef) w → Q (.panic c) a w := by exact fun _ _ _ h => h)
    (hy : Yields P ops oi undef a := by exact Or.inr ⟨by rfl, rfl⟩) (ha : a.put (some u) undef = a' := by (simp only [Act.put, List.setIfInBounds_toArray, List.set_cons_zero, List.set_cons_succ, i64_w, i32_w]; rfl)) :
    wpAnyLast P md ops Q S ds (fuel + 1) (ar n m0) a w := pure_ _ hi hN (any_of H.out hc) hQ hy ha h
theorem oA (H : Aside0 (rtab md ops = T)) (i u m : Nat) {oi : Oper} {fuel : Nat} {a : Act} {w : World}
    (h : ∀ K : Act → World → Prop, Shut (∀ a' w', S w' → (S w' → wpAnyLast P md ops Q S ds fuel (ar n m) a' w') → K a' w') → if Region.wanted oi (yielded ops a.tmps) = true then Oper.wp P oi a w K Q else K (a.put (some u) undef) w)
    (hc : (readyT T.2 (ar n m0).toList == [i] && (ar n m0).toList.set i true == (ar n m).toList) = true := by kernel_rfl) (hd : i ∉ ds := by decide) (hi : ops[i]? = some oi := by rfl) (hN : oi.dst = some u := by rfl) :
    wpAnyLast P md ops Q S ds (fuel + 1) (ar n m0) a w := one_ _ hi hN (one_of H.out hc) hd h
end
section
variable {P : Program} {ops : Array Oper} {rest : List Oper} {o : Oper} {a : Act} {Q : Exit → Act → World → Prop} {W w : World}
/-- A new block, as an arm of go_wp2_with. -/
theorem boxA {N : Tmp} (cs : Array Value) (t : TypeId) (h : ∀ g, g = W.heap.size → ∀ w1, w1.heap[g]? = some (.cells cs t (0, 0)) → Below W.heap.size W w1 → wpList P ops Q rest (a.put o.dst (.pointer (some ⟨g, 0, none⟩))) w1)
    (hd : o.dst = some N := by rfl) (hgd : o.guard = none := by rfl) (hrun : (execOp a.eval o).run P W = .ok (.value (.pointer (some ⟨W.heap.size, 0, none⟩))) (W.alloc (.cells cs t (0, 0))) := by first | (go_simp; done) | (go_simp; rfl)) : wpList P ops Q (o :: rest) a W := box_event hgd hd hrun h
theorem goesC (N : Tmp) {f : FuncId} {fn : Func} {as : Array Operand} {ts : Array TypeId} (hf : P.funcs[f]? = some fn) (args : Array Value)
    (h : Calls P f args w fun e w' => ∃ v, e = .returned v ∧ wpList P ops Q rest (a.put (some N) v) w') (hop : o.op = .call { callee := .value (.func f), args := as, argTypes := ts } := by with_reducible rfl) (hd : o.dst = some N := by rfl) (hg : o.guard = none := by rfl) (hname : (fn.name == "runtime.NumGoroutine") = false := by kernel_rfl) (hb : fn.body.isSome = true := by rfl)
    (hargs : as.map a.eval = args := by ((try simp only [List.map_toArray, List.map_cons, List.map_nil]); first | done | rfl | (simp only [List.length_drop, List.length_take]; rfl))) : wpList P ops Q (o :: rest) a w := goesL_ (some N) hd hg hf hname hb args hop hargs h
theorem goesA {N : Option Tmp} {K : Act → World → Prop} {f : FuncId} {fn : Func} {as : Array Operand} {ts : Array TypeId} (hf : P.funcs[f]? = some fn) (args : Array Value)
    (h : Calls P f args w fun e w' => ∃ v, e = .returned v ∧ K (a.put N v) w') (hop : o.op = .call { callee := .value (.func f), args := as, argTypes := ts } := by rfl) (hN : o.dst = N := by rfl) (hname : (fn.name == "runtime.NumGoroutine") = false := by kernel_rfl) (hb : fn.body.isSome = true := by rfl) (hw : Region.wanted o (yielded ops a.tmps) = true := by rfl)
    (hargs : as.map a.eval = args := by ((try simp only [List.map_toArray, List.map_cons, List.map_nil]); first | done | rfl | (simp only [List.length_drop, List.length_take]; rfl))) : if Region.wanted o (yielded ops a.tmps) = true then Oper.wp P o a w K Q else K (a.put N undef) w := goes_ hf hname hb args hw hN hop hargs h
end
end Go.Proofs.Ytgiinjfandeddaa.Q
