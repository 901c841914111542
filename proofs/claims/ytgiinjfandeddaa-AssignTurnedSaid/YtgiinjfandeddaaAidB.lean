/- Small lemmas whose side goals prove themselves (a tactic stands in the statement): they make printed walks shorter. -/
import Derived.Test.YtgiinjfandeddaaAid
import Derived.Test.YtgiinjfandeddaaWLast
import Derived.Test.YtgiinjfandeddaaWTab
import Derived.Test.YtgiinjfandeddaaWMore
import Derived.WalkKit
namespace Go.Proofs.Ytgiinjfandeddaa.Q
open Go.RowKit Go.Proofs.YtgiinjfandeddaaW.PrintWords Go.Proofs.YtgiinjfandeddaaW.PrintLast Go.Proofs.YtgiinjfandeddaaW.PrintMore
set_option linter.unusedVariables false

abbrev Y : Bool := true
abbrev N : Bool := false
/-- An index that is known, as the walk asks for it. -/
theorem idx4 (m : Nat) {x : Int} (h : x = (m : Int)) (hm : m < 4 := by decide) : x.toNat = m ∧ (x < 4) = True ∧ (0 ≤ x) = True ∧ decide (x < 4) = true ∧ decide (0 ≤ x) = true :=
  ⟨by omega, eq_true (by omega), eq_true (by omega), decide_eq_true (by omega), decide_eq_true (by omega)⟩
/-- Nothing old has changed, by the steps between. -/
theorem blw {n : Nat} {w A B : World} (h : Below n w A) (k : Below n w A → Below n w B := by intro HB_; repeat (first | (with_reducible first | exact HB_ | apply below_alloc | apply pw_below_drewN | apply below_drew1 | refine below_set ?_ (Aside0.out (by assumption))) | exact HB_)) : Below n w B := k h
/-- A block lies there still, behind draws, new blocks and stores elsewhere. -/
theorem zf {W V : World} {g : Nat} {o : Obj} (h : W.heap[g]? = some o) (k : W.heap[g]? = some o → V.heap[g]? = some o := by intro h_; with_reducible repeat (first | exact h_ | refine blk_drewN ?_ _ | refine blk_drew ?_ | refine blk_alloc ?_ _ | refine blk_far ?_ (Aside0.out (by assumption)) _)) : V.heap[g]? = some o := k h
theorem zp {W V : World} {g : Nat} {t : TypeId} {cs cs' : Array Value} (h : W.heap[g]? = some (.cells cs t (0, 0))) (k : W.heap[g]? = some (.cells cs t (0, 0)) → V.heap[g]? = some (.cells cs' t (0, 0)) := by intro h_; (with_reducible repeat (first | exact h_ | refine blk_drewN ?_ _ | refine blk_drew ?_ | refine blk_alloc ?_ _ | refine blk_far ?_ (Aside0.out (by assumption)) _ | refine blk_put ?_ _ _ ?_)); all_goals rfl) : V.heap[g]? = some (.cells cs' t (0, 0)) := k h
theorem zfb {W V V1 : World} {g : Nat} {o : Obj} (h : W.heap[g]? = some o) (hb : Below V.heap.size V V1) (k : W.heap[g]? = some o → V.heap[g]? = some o := by intro h_; with_reducible repeat (first | exact h_ | refine blk_drewN ?_ _ | refine blk_drew ?_ | refine blk_alloc ?_ _ | refine blk_far ?_ (Aside0.out (by assumption)) _)) : V1.heap[g]? = some o := blk_below (k h) hb
section
variable {α : Type} {d : Kd α} {e base : Nat} {ok : Nat → Prop} {v : Value} {xs : List α} {W W1 : World}
theorem rmv (h : d.R e W base ok v xs) (k : d.R e W base ok v xs → d.R e W1 base ok v xs := by intro h_; (with_reducible repeat (first | apply Kd.R_alloc | apply Kd.R_drewN | apply Kd.R_drew)); exact h_) : d.R e W1 base ok v xs := k h
theorem rfa {g : Nat} (h : d.R e W base (fun k => ok k ∧ k ≠ g) v xs) (k : d.R e W base (fun k => ok k ∧ k ≠ g) v xs → d.R e W1 base (fun k => ok k ∧ k ≠ g) v xs := by intro h_; with_reducible repeat (first | exact h_ | apply Kd.R_alloc | apply Kd.R_drewN | apply Kd.R_drew | refine Kd.R_far ?_ (fun _ hk => hk.2) _)) : d.R e W1 base ok v xs := Kd.R_mono (k h) (fun _ h => h.1)
theorem vmv (h : Kd.V d e W base ok v xs) (k : Kd.V d e W base ok v xs → Kd.V d e W1 base ok v xs := by intro h_; (with_reducible repeat (first | apply Kd.V_alloc | apply Kd.V_drewN | apply Kd.V_drew)); exact h_) : Kd.V d e W1 base ok v xs := k h
end
/-- A cell reads as before, behind stores elsewhere. -/
theorem cf {W V : World} {a : Addr} {x : Value} (h : W.cell? a = some x) (k : W.cell? a = some x → V.cell? a = some x := by intro h_; with_reducible repeat (first | exact h_ | refine (cell_far (Aside0.out (by assumption)) _).trans ?_)) : V.cell? a = some x := k h
theorem cfw {w0 W V : World} {a : Addr} {x y : Value} {g : Nat} (hw : w0.cell? a = some y) (hg : Aside0 (w0.heap.size ≤ g)) (h : W.cell? a = some x) (k : a.block ≠ g → W.cell? a = some x → V.cell? a = some x := by intro hn_ h_; with_reducible repeat (first | exact h_ | refine (cell_far hn_ _).trans ?_)) : V.cell? a = some x :=
  k (Nat.ne_of_lt (Nat.lt_of_lt_of_le (World.block_lt_of_cell? _ _ hw) hg.out)) h
theorem bc {w : World} {g : Nat} {t : TypeId} {cs : Array Value} (h : Aside0 (w.heap[g]? = some (.cells cs t (0, 0)))) (i : Nat) {v : Value} (e : cs[i]? = some v := by rfl) : w.cell? ⟨g, i, none⟩ = some v := (blk_cell h.out i).trans e
section
variable {α β : Type} {d : Kd α} {d' : Kd β} {e e' base base' : Nat} {ok ok' ok2 : Nat → Prop} {v v' : Value} {xs : List α} {xs' : List β} {W W1 : World}
theorem vlm2 (h0 : Kd.V d e W base ok v xs) (h1 : Kd.V d' e' W base ok2 v' xs') (hm : ∀ k, ok k → ok' k) (hm2 : ∀ k, ok2 k → ok k) (hb : base' ≤ base) : Aside0 (Kd.V d e W base' ok' v xs) ∧ Aside0 (Kd.V d' e' W base' ok' v' xs') :=
  ⟨⟨Kd.V_lower (Kd.V_mono h0 hm) hb⟩, ⟨Kd.V_lower (Kd.V_mono h1 (fun k hk => hm k (hm2 k hk))) hb⟩⟩
theorem vmo (h : Kd.V d e W base ok v xs) (hm : ∀ k, ok k → ok' k) (k : Kd.V d e W base ok v xs → Kd.V d e W1 base ok v xs := by intro h_; (with_reducible repeat (first | apply Kd.V_alloc | apply Kd.V_drewN | apply Kd.V_drew)); exact h_) : Kd.V d e W1 base ok' v xs := Kd.V_mono (k h) hm
end
theorem cfo {W V : World} {a : Addr} {x : Value} {g : Nat} {A : Addr} (hne : A.block ≠ g) (h : W.cell? a = some x) (k : A.block ≠ g → W.cell? a = some x → V.cell? a = some x := by intro hn_ h_; repeat (first | (with_reducible exact h_) | refine (cell_far (by first | exact hn_ | (rw [add_block]; exact hn_) | (show (Addr.add _ _).block ≠ _; rw [add_block]; exact hn_) | (dsimp only; exact hn_)) _).trans ?_)) : V.cell? a = some x := k hne h
theorem vfa {α : Type} {d : Kd α} {e base : Nat} {ok : Nat → Prop} {v : Value} {xs : List α} {W W1 : World} {g : Nat} (h : Kd.V d e W base ok v xs) (hg : ∀ k, ok k → k ≠ g) (k : (∀ k, ok k → k ≠ g) → Kd.V d e W base ok v xs → Kd.V d e W1 base ok v xs := by intro hg_ h_; with_reducible repeat (first | exact h_ | apply Kd.V_alloc | apply Kd.V_drewN | apply Kd.V_drew | refine Kd.V_far ?_ hg_ _)) : Kd.V d e W1 base ok v xs := k hg h
theorem vfa2 {α : Type} {d : Kd α} {e base : Nat} {ok : Nat → Prop} {v : Value} {xs : List α} {W W1 : World} {g1 g2 : Nat} (h : Kd.V d e W base ok v xs) (h1 : ∀ k, ok k → k ≠ g1) (h2 : ∀ k, ok k → k ≠ g2) (k : (∀ k, ok k → k ≠ g1) → (∀ k, ok k → k ≠ g2) → Kd.V d e W base ok v xs → Kd.V d e W1 base ok v xs := by intro a1_ a2_ h_; with_reducible repeat (first | exact h_ | apply Kd.V_alloc | apply Kd.V_drewN | apply Kd.V_drew | refine Kd.V_far ?_ a1_ _ | refine Kd.V_far ?_ a2_ _)) : Kd.V d e W1 base ok v xs := k h1 h2 h
theorem rfa2 {α : Type} {d : Kd α} {e base : Nat} {ok : Nat → Prop} {v : Value} {xs : List α} {W W1 : World} {g1 g2 : Nat} (h : d.R e W base (fun k => ((ok k ∧ k ≠ g1) ∧ k ≠ g2)) v xs) (k : (∀ k, ((ok k ∧ k ≠ g1) ∧ k ≠ g2) → k ≠ g1) → (∀ k, ((ok k ∧ k ≠ g1) ∧ k ≠ g2) → k ≠ g2) → d.R e W base (fun k => ((ok k ∧ k ≠ g1) ∧ k ≠ g2)) v xs → d.R e W1 base (fun k => ((ok k ∧ k ≠ g1) ∧ k ≠ g2)) v xs := by intro a1_ a2_ h_; with_reducible repeat (first | exact h_ | apply Kd.R_alloc | apply Kd.R_drewN | apply Kd.R_drew | refine Kd.R_far ?_ a1_ _ | refine Kd.R_far ?_ a2_ _)) : d.R e W1 base ok v xs := Kd.R_mono (k (fun _ h => h.1.2) (fun _ h => h.2) h) (fun _ h => h.1.1)
theorem vfa3 {α : Type} {d : Kd α} {e base : Nat} {ok : Nat → Prop} {v : Value} {xs : List α} {W W1 : World} {g1 g2 g3 : Nat} (h : Kd.V d e W base ok v xs) (h1 : ∀ k, ok k → k ≠ g1) (h2 : ∀ k, ok k → k ≠ g2) (h3 : ∀ k, ok k → k ≠ g3) (k : (∀ k, ok k → k ≠ g1) → (∀ k, ok k → k ≠ g2) → (∀ k, ok k → k ≠ g3) → Kd.V d e W base ok v xs → Kd.V d e W1 base ok v xs := by intro a1_ a2_ a3_ h_; with_reducible repeat (first | exact h_ | apply Kd.V_alloc | apply Kd.V_drewN | apply Kd.V_drew | refine Kd.V_far ?_ a1_ _ | refine Kd.V_far ?_ a2_ _ | refine Kd.V_far ?_ a3_ _)) : Kd.V d e W1 base ok v xs := k h1 h2 h3 h
theorem rfa3 {α : Type} {d : Kd α} {e base : Nat} {ok : Nat → Prop} {v : Value} {xs : List α} {W W1 : World} {g1 g2 g3 : Nat} (h : d.R e W base (fun k => (((ok k ∧ k ≠ g1) ∧ k ≠ g2) ∧ k ≠ g3)) v xs) (k : (∀ k, (((ok k ∧ k ≠ g1) ∧ k ≠ g2) ∧ k ≠ g3) → k ≠ g1) → (∀ k, (((ok k ∧ k ≠ g1) ∧ k ≠ g2) ∧ k ≠ g3) → k ≠ g2) → (∀ k, (((ok k ∧ k ≠ g1) ∧ k ≠ g2) ∧ k ≠ g3) → k ≠ g3) → d.R e W base (fun k => (((ok k ∧ k ≠ g1) ∧ k ≠ g2) ∧ k ≠ g3)) v xs → d.R e W1 base (fun k => (((ok k ∧ k ≠ g1) ∧ k ≠ g2) ∧ k ≠ g3)) v xs := by intro a1_ a2_ a3_ h_; with_reducible repeat (first | exact h_ | apply Kd.R_alloc | apply Kd.R_drewN | apply Kd.R_drew | refine Kd.R_far ?_ a1_ _ | refine Kd.R_far ?_ a2_ _ | refine Kd.R_far ?_ a3_ _)) : d.R e W1 base ok v xs := Kd.R_mono (k (fun _ h => h.1.1.2) (fun _ h => h.1.2) (fun _ h => h.2) h) (fun _ h => h.1.1.1)
theorem vfa4 {α : Type} {d : Kd α} {e base : Nat} {ok : Nat → Prop} {v : Value} {xs : List α} {W W1 : World} {g1 g2 g3 g4 : Nat} (h : Kd.V d e W base ok v xs) (h1 : ∀ k, ok k → k ≠ g1) (h2 : ∀ k, ok k → k ≠ g2) (h3 : ∀ k, ok k → k ≠ g3) (h4 : ∀ k, ok k → k ≠ g4) (k : (∀ k, ok k → k ≠ g1) → (∀ k, ok k → k ≠ g2) → (∀ k, ok k → k ≠ g3) → (∀ k, ok k → k ≠ g4) → Kd.V d e W base ok v xs → Kd.V d e W1 base ok v xs := by intro a1_ a2_ a3_ a4_ h_; with_reducible repeat (first | exact h_ | apply Kd.V_alloc | apply Kd.V_drewN | apply Kd.V_drew | refine Kd.V_far ?_ a1_ _ | refine Kd.V_far ?_ a2_ _ | refine Kd.V_far ?_ a3_ _ | refine Kd.V_far ?_ a4_ _)) : Kd.V d e W1 base ok v xs := k h1 h2 h3 h4 h
theorem rfa4 {α : Type} {d : Kd α} {e base : Nat} {ok : Nat → Prop} {v : Value} {xs : List α} {W W1 : World} {g1 g2 g3 g4 : Nat} (h : d.R e W base (fun k => ((((ok k ∧ k ≠ g1) ∧ k ≠ g2) ∧ k ≠ g3) ∧ k ≠ g4)) v xs) (k : (∀ k, ((((ok k ∧ k ≠ g1) ∧ k ≠ g2) ∧ k ≠ g3) ∧ k ≠ g4) → k ≠ g1) → (∀ k, ((((ok k ∧ k ≠ g1) ∧ k ≠ g2) ∧ k ≠ g3) ∧ k ≠ g4) → k ≠ g2) → (∀ k, ((((ok k ∧ k ≠ g1) ∧ k ≠ g2) ∧ k ≠ g3) ∧ k ≠ g4) → k ≠ g3) → (∀ k, ((((ok k ∧ k ≠ g1) ∧ k ≠ g2) ∧ k ≠ g3) ∧ k ≠ g4) → k ≠ g4) → d.R e W base (fun k => ((((ok k ∧ k ≠ g1) ∧ k ≠ g2) ∧ k ≠ g3) ∧ k ≠ g4)) v xs → d.R e W1 base (fun k => ((((ok k ∧ k ≠ g1) ∧ k ≠ g2) ∧ k ≠ g3) ∧ k ≠ g4)) v xs := by intro a1_ a2_ a3_ a4_ h_; with_reducible repeat (first | exact h_ | apply Kd.R_alloc | apply Kd.R_drewN | apply Kd.R_drew | refine Kd.R_far ?_ a1_ _ | refine Kd.R_far ?_ a2_ _ | refine Kd.R_far ?_ a3_ _ | refine Kd.R_far ?_ a4_ _)) : d.R e W1 base ok v xs := Kd.R_mono (k (fun _ h => h.1.1.1.2) (fun _ h => h.1.1.2) (fun _ h => h.1.2) (fun _ h => h.2) h) (fun _ h => h.1.1.1.1)
/-- An array of truth values, by its bits. -/
def arL : Nat → Nat → List Bool
  | 0, _ => []
  | n + 1, m => (m % 2 == 1) :: arL n (m / 2)
def ar (n m : Nat) : Array Bool := ⟨arL n m⟩
section
variable {P : Program} {md : Region.Mode} {ops : Array Oper} {Q : Exit → Act → World → Prop} {S : World → Prop} {ds : List Nat}
/-- An operation that only computes: what it gives is found. -/
theorem pureA {i : Nat} {N : Option Tmp} {oi : Oper} {v : Value} {fuel : Nat} {l : Array Bool} {a a' : Act} {w : World} (l' : Array Bool) (hc : anyB md ops l l' i = true) (h : wpAnyLast P md ops Q S ds fuel l' a' w)
    (hi : ops[i]? = some oi := by rfl) (hN : oi.dst = N := by rfl) (hQ : ∀ c a w, Q (.panic c) (a.put oi.dst v) w → Q (.panic c) a w := by exact fun _ _ _ h => h)
    (hy : Yields P ops oi v a := by (refine Or.inl ⟨by rfl, ?_⟩; intro w'; go_simp; with_reducible rfl)) (ha : a.put N v = a' := by (simp only [Act.put, List.setIfInBounds_toArray, List.set_cons_zero, List.set_cons_succ, i64_w, i32_w]; rfl)) :
    wpAnyLast P md ops Q S ds (fuel + 1) l a w := pure_ l' hi hN hc hQ hy ha h
theorem pureU {i : Nat} {N : Option Tmp} {oi : Oper} {fuel : Nat} {l : Array Bool} {a a' : Act} {w : World} (l' : Array Bool) (hc : anyB md ops l l' i = true) (h : wpAnyLast P md ops Q S ds fuel l' a' w)
    (hi : ops[i]? = some oi := by rfl) (hN : oi.dst = N := by rfl) (hQ : ∀ c a w, Q (.panic c) (a.put oi.dst undef) w → Q (.panic c) a w := by exact fun _ _ _ h => h)
    (hy : Yields P ops oi undef a := by exact Or.inr ⟨by rfl, rfl⟩) (ha : a.put N undef = a' := by (simp only [Act.put, List.setIfInBounds_toArray, List.set_cons_zero, List.set_cons_succ, i64_w, i32_w]; rfl)) :
    wpAnyLast P md ops Q S ds (fuel + 1) l a w := pure_ l' hi hN hc hQ hy ha h
theorem takeA {i : Nat} {N : Option Tmp} {oi : Oper} {v : Value} {fuel : Nat} {l : Array Bool} {a a' : Act} {w : World} (l' : Array Bool) (hi : ops[i]? = some oi) (hc : takeB md ops ds l l' i = true) (hS : S w) (hy : ∀ w', S w' → (execOp a.eval oi).run P w' = .ok (.value v) w') (h : wpAnyLast P md ops Q S ds fuel l' a' w)
    (hN : oi.dst = N := by rfl) (hQ : ∀ c a w, Q (.panic c) (a.put oi.dst v) w → Q (.panic c) a w := by exact fun _ _ _ h => h)
    (hw : Region.wanted oi (yielded ops a.tmps) = true := by rfl) (ha : a.put N v = a' := by (simp only [Act.put, List.setIfInBounds_toArray, List.set_cons_zero, List.set_cons_succ, i64_w, i32_w]; rfl)) :
    wpAnyLast P md ops Q S ds (fuel + 1) l a w := take_ l' hi hN hc hQ (Or.inl ⟨hw, hy⟩) hS ha h
theorem normA {fuel : Nat} {l : Array Bool} {a a' : Act} {w : World} (h : wpAnyLast P md ops Q S ds fuel l a' w) (ha : a = a' := by first | (simp only [putAll, Act.put, List.setIfInBounds_toArray, List.set_cons_zero, List.set_cons_succ]; done) | (simp only [putAll, Act.put, List.setIfInBounds_toArray, List.set_cons_zero, List.set_cons_succ]; rfl)) : wpAnyLast P md ops Q S ds fuel l a w := norm_ ha h
end
end Go.Proofs.Ytgiinjfandeddaa.Q
