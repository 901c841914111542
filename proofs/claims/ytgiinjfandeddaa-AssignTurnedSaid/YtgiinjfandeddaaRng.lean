/- A range over a function whose iterator may keep state in cells of its own: one law for the loop, over the kit's law of the statement. -/
import Derived.Test.YtgiinjfandeddaaWKept
import Derived.RangeFuncNested
import Derived.RangeFuncBound
import Derived.RangeFuncCalls
import Derived.RangeFuncLeaves
namespace Go.Proofs.Ytgiinjfandeddaa.Rng
open Go.RowKit Go.Proofs.YtgiinjfandeddaaW.PrintWords

/-- A step of the iterator's own: nothing outside turns, nothing that lies turns but the blocks of S. -/
def St (S : Nat → Prop) (A B : World) : Prop := B.os = A.os ∧ B.tape = A.tape ∧ B.output = A.output ∧ Kept A B S

theorem St.refl (S : Nat → Prop) (A : World) : St S A A := ⟨rfl, rfl, rfl, Kept.refl _ _⟩
theorem St.of_below {S : Nat → Prop} {A B : World} (h : Below A.heap.size A B) : St S A B := ⟨h.os, h.tape, h.output, Kept.of_below h S⟩
theorem St.setCell {S : Nat → Prop} {A B : World} (h : St S A B) {p : Addr} (hp : S p.block ∨ A.heap.size ≤ p.block) (v : Value) : St S A (B.setCell p v) :=
  ⟨h.1, h.2.1, h.2.2.1, h.2.2.2.setCell hp v⟩
theorem St.below {S : Nat → Prop} {A B C : World} (h : St S A B) (hb : Below B.heap.size B C) : St S A C :=
  ⟨hb.os.trans h.1, hb.tape.trans h.2.1, hb.output.trans h.2.2.1, h.2.2.2.below hb⟩
theorem St.trans {S : Nat → Prop} {A B C : World} (h : St S A B) (k : St S B C) : St S A C :=
  ⟨k.1.trans h.1, k.2.1.trans h.2.1, k.2.2.1.trans h.2.2.1, Nat.le_trans h.2.2.2.1 k.2.2.2.1, fun i hi hS => (k.2.2.2.2 i (Nat.lt_of_lt_of_le hi h.2.2.2.1) hS).trans (h.2.2.2.2 i hi hS)⟩
theorem St.blk {S : Nat → Prop} {A B : World} {g : Nat} {o : Obj} (h : St S A B) (hb : A.heap[g]? = some o) (hg : ¬ S g) : B.heap[g]? = some o :=
  (h.2.2.2.2 g (Array.getElem?_eq_some_iff.1 hb).1 hg).trans hb
theorem St.base {S : Nat → Prop} {b : Nat} {w A B : World} (h : St S A B) (hb : Below b w A) (hw : b ≤ w.heap.size) (hS : ∀ k, S k → b ≤ k) : Below b w B :=
  ⟨h.1.trans hb.os, h.2.1.trans hb.tape, h.2.2.1.trans hb.output, Nat.le_trans hb.size h.2.2.2.1, fun j hj => (h.2.2.2.2 j (by have := hb.size; omega) (fun hs => by have := hS j hs; omega)).trans (hb.block j hj)⟩
theorem St.mono {S T : Nat → Prop} {A B : World} (h : St S A B) (hST : ∀ k, S k → T k) : St T A B := ⟨h.1, h.2.1, h.2.2.1, h.2.2.2.1, fun i hi hT => h.2.2.2.2 i hi (fun hS => hT (hST i hS))⟩
theorem St.drewN {S : Nat → Prop} {A B : World} (h : St S A B) (n : Nat) : St S A (B.drewN n) := h
theorem St.drew {S : Nat → Prop} {A B : World} (h : St S A B) : St S A B.drew := h

/-- The iterator's contract: N rounds, yield called with enc 0, enc 1, ..; Pre: what it asks of the world at the start; U: the blocks that a round may turn. -/
def Iter (P : Program) (gf : Nat) (lb : Array Value) (enc : Nat → Array Value) (N : Nat) (U S : Nat → Prop) (Pre : World → Prop) : Prop :=
  ∀ (n l : Nat) (J Jx : Nat → World → Prop) (W : World), (∀ k A B, J k A → St S A B → J k B) → (∀ k A B, Jx k A → St S A B → Jx k B) →
    (∀ k A, k < N → J k A → YieldAt Fence.wide (n - 1) P l (enc k) A fun e B => (e = .returned (.bool true) ∧ J (k + 1) B ∧ St U A B) ∨ (e = .returned (.bool false) ∧ Jx k B)) →
    J 0 W → Pre W →
    CallsIn Fence.wide n P gf (#[.func (.yield l) #[] #[]] ++ lb) W fun e B => (∃ v, e = .returned v) ∧ (J N B ∨ ∃ k, k < N ∧ Jx k B)

/-- How a round's body may be left. -/
def bodyEnd (U : Nat → Prop) (I Ix : Nat → World → Prop) (k : Nat) (W : World) : Exit → Act → World → Prop
  | .normal, _, W' => KeepsOthers W W' ∧ St U W W' ∧ I (k + 1) W'
  | .ret, _, W' => KeepsOthers W W' ∧ Ix k W'
  | _, _, _ => False

theorem range_law {P : Program} {n : Nat} {g : Operand} {ps : Array Tmp} {assign body : Code} {Q : Exit → Act → World → Prop} {a : Act} {w : World}
    {gf : Nat} {lb : Array Value} (hg : a.eval g = .func (.func gf) #[] lb) (eg : ∀ args w, (callFunc gf args).run P w = .ok (.enter gf args) w)
    {enc : Nat → Array Value} {N : Nat} {U S : Nat → Prop} {Pre : World → Prop} (hit : Iter P gf lb enc N U S Pre) (hps : ∀ k, (enc k).size = ps.size)
    (hU : ∀ j, w.heap.size ≤ j → U j) (hS : ∀ k, S k → k < w.heap.size) (hpre : ∀ o1 o2, Pre ((w.alloc o1).alloc o2))
    (I Ix : Nat → World → Prop) (hI : ∀ k A B, I k A → St S A B → I k B) (hIx : ∀ k A B, Ix k A → St S A B → Ix k B)
    (hIb : ∀ k A q o o', I k A → w.heap.size ≤ q → A.heap[q]? = some o → o.isCells = false → I k (A.putObj q o'))
    (hIxb : ∀ k A q o o', Ix k A → w.heap.size ≤ q → A.heap[q]? = some o → o.isCells = false → Ix k (A.putObj q o'))
    (h0 : ∀ o1 o2, I 0 ((w.alloc o1).alloc o2))
    (I1 : Nat → Act → World → Prop) (hI1b : ∀ k b A q o o', I1 k b A → w.heap.size ≤ q → A.heap[q]? = some o → o.isCells = false → I1 k b (A.putObj q o'))
    (hassign : ∀ l k W, k < N → I k W → assign.wpIn (Fence.wide.inRound l) (n - 1 - 1) P (Exit.then (fun b W₁ => KeepsOthers W W₁ ∧ St U W W₁ ∧ I1 k b W₁) (fun _ _ _ => False))
      { tmps := (ps.zip (enc k)).foldl (fun t (p, v) => t.setIfInBounds p v) a.tmps, defers := [] } W)
    (hbody : ∀ l k b W, k < N → I1 k b W → body.wpIn (Fence.wide.inRound l) (n - 1 - 1) P (bodyEnd U I Ix k W) b W)
    (hdone : ∀ D W, w.heap.size ≤ D → I N W → W.heap[D]? = some (.deferred (some [])) → Q .normal { a with defers := { target := .collected D, args := #[] } :: a.defers } W)
    (hstop : ∀ D k W, w.heap.size ≤ D → k < N → Ix k W → W.heap[D]? = some (.deferred (some [])) → Code.ret.wpIn Fence.wide n P Q { a with defers := { target := .collected D, args := #[] } :: a.defers } W) :
    (Code.rangeFunc g ps assign body).wpIn Fence.wide n P Q a w := by
  refine wpIn_rangeFunc ?_
  intro fn hfn
  obtain ⟨rec, hrec⟩ : ∃ rec : LoopState → Option Code → Loop, rec = fun st pe => { state := st, pending := pe, fn, tmps := a.tmps, params := ps, assign, body, defers := w.heap.size } := ⟨_, rfl⟩
  obtain ⟨D, hD⟩ : ∃ D, D = w.heap.size := ⟨_, rfl⟩
  obtain ⟨W1, hW1⟩ : ∃ W1, (w.alloc (.deferred (some []))).alloc (.loop (rec .ready none)) = W1 := ⟨_, rfl⟩
  have hL1 : W1.heap[D + 1]? = some (.loop (rec .ready none)) := by
    rw [← hW1, hD]
    have := World.alloc_heap_new (w.alloc (.deferred (some []))) (.loop (rec .ready none))
    rwa [World.size_alloc] at this
  have hK1 : W1.heap[D]? = some (.deferred (some [])) := by
    rw [← hW1, hD]
    exact (Below.heap_alloc _ _ _ (by simp)).trans (World.alloc_heap_new w _)
  -- what the iterator's own steps leave alone
  have keepSt : ∀ {A B : World} {q : Nat} {o : Obj}, St S A B → D ≤ q → A.heap[q]? = some o → B.heap[q]? = some o := fun {A B q o} hs hq h =>
    (hs.2.2.2.2 q (Array.getElem?_eq_some_iff.1 h).1 (fun hS' => by have := hS q hS'; omega)).trans h
  refine ⟨D + 1, [{ target := .collected D, args := #[] }], W1, { target := .fn (.func gf) lb, args := #[.func (.yield (D + 1)) #[] #[]] }, W1, gf,
    #[.func (.yield (D + 1)) #[] #[]] ++ lb, W1, ?_, ?_, ?_, ?_, fun h => by simp [Fence.wide] at h, ?_⟩
  · rw [← hW1, hrec, hD]
    exact run_enterLoop_outer _ _ _ _ _
  · simp only [resolve, hg]
    simp [go_sem]
  · intro f' _
    trivial
  · simp [invoke, go_sem, eg]
  · refine (hit (n - 1) (D + 1) (fun k W => I k W ∧ W.heap[D + 1]? = some (.loop (rec .ready none)) ∧ W.heap[D]? = some (.deferred (some [])))
      (fun k W => Ix k W ∧ W.heap[D + 1]? = some (.loop (rec .done (some .ret))) ∧ W.heap[D]? = some (.deferred (some []))) W1
      (fun k A B h hs => ⟨hI k A B h.1 hs, keepSt hs (by omega) h.2.1, keepSt hs (by omega) h.2.2⟩)
      (fun k A B h hs => ⟨hIx k A B h.1 hs, keepSt hs (by omega) h.2.1, keepSt hs (by omega) h.2.2⟩)
      ?_ ⟨by rw [← hW1]; exact h0 _ _, hL1, hK1⟩ (by rw [← hW1]; exact hpre _ _)).mono ?_
    · rintro k W hk ⟨hi, hl, hd⟩
      have hy := run_yield (P := P) (args := enc k) hl (by rw [hrec]; exact hps k)
      rw [hrec] at hy
      refine ⟨fn, _, assign, body, hy, roundIn_of_wpIn trivial (wpIn_mono (hassign (D + 1) k W hk hi) ?_)⟩
      intro e b W2 hp
      cases e with
      | normal =>
        obtain ⟨hko, hbl, hi1⟩ := hp
        have hl2 := hko.same _ _ hl rfl
        have hd2 := hko.same _ _ hd rfl
        refine ⟨_, run_beginRound hl2 (by rw [hrec]), ?_⟩
        have hlt : D + 1 < W2.heap.size := (Array.getElem?_eq_some_iff.1 hl2).1
        have hl3 : (W2.putObj (D + 1) (.loop { rec .ready none with state := .busy })).heap[D + 1]? = some (.loop { rec .ready none with state := .busy }) := World.putObj_heap_same hlt
        have hd3 : (W2.putObj (D + 1) (.loop { rec .ready none with state := .busy })).heap[D]? = some (.deferred (some [])) := (World.putObj_heap_other (by omega)).trans hd2
        have putBelow : ∀ (A : World) (o : Obj), St U A (A.putObj (D + 1) o) := fun A o => ⟨rfl, rfl, rfl, by simp, fun j hj hu => World.putObj_heap_other (fun e => hu (e ▸ hU _ (by omega)))⟩
        refine wpIn_mono (hbody (D + 1) k b _ hk (hI1b _ _ _ _ _ _ hi1 (by omega) hl2 rfl)) ?_
        intro e b3 W3 hp3
        cases e with
        | normal =>
          obtain ⟨hk3, hb3, hi3⟩ := hp3
          have hl4 := hk3.same _ _ hl3 rfl
          have hd4 := hk3.same _ _ hd3 rfl
          have hr := run_endRound (P := P) none hl4
          refine ⟨_, _, hr, .inl ⟨rfl, ⟨hIb _ _ _ _ _ hi3 (by omega) hl4 rfl, ?_, (World.putObj_heap_other (by omega)).trans hd4⟩, ?_⟩⟩
          · rw [hrec]
            exact World.putObj_heap_same (Array.getElem?_eq_some_iff.1 hl4).1
          · exact ((hbl.trans (putBelow _ _)).trans hb3).trans (putBelow _ _)
        | ret =>
          obtain ⟨hk3, hi3⟩ := hp3
          have hl4 := hk3.same _ _ hl3 rfl
          have hd4 := hk3.same _ _ hd3 rfl
          have hr := run_endRound (P := P) (some .ret) hl4
          refine ⟨_, _, hr, .inr ⟨rfl, hIxb _ _ _ _ _ hi3 (by omega) hl4 rfl, ?_, (World.putObj_heap_other (by omega)).trans hd4⟩⟩
          rw [hrec]
          exact World.putObj_heap_same (Array.getElem?_eq_some_iff.1 hl4).1
        | exit id => exact hp3.elim
        | goto t => exact hp3.elim
        | panic ch => exact hp3.elim
        | outgrown => exact hp3.elim
      | exit id => exact hp.elim
      | goto t => exact hp.elim
      | ret => exact hp.elim
      | panic ch => exact hp.elim
      | outgrown => exact hp.elim
    · rintro e W2 ⟨⟨v, rfl⟩, (⟨hi, hl, hd⟩ | ⟨k, hk, hi, hl, hd⟩)⟩
      · have hr := run_endLoop (P := P) hl (by rw [hrec]; simp)
        rw [hrec] at hr
        exact ⟨none, _, hr, hdone D _ (by omega) (hIb _ _ _ _ _ hi (by omega) hl rfl) ((World.putObj_heap_other (by omega)).trans hd)⟩
      · have hr := run_endLoop (P := P) hl (by rw [hrec]; simp)
        rw [hrec] at hr
        exact ⟨some .ret, _, hr, hstop D k _ (by omega) hk (hIxb _ _ _ _ _ hi (by omega) hl rfl) ((World.putObj_heap_other (by omega)).trans hd)⟩
end Go.Proofs.Ytgiinjfandeddaa.Rng
