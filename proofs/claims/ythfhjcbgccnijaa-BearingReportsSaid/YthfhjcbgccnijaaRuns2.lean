/- By hand: turf.Run's loop. -/
import Derived.Test.YthfhjcbgccnijaaRuns
namespace Go.Proofs.Ythfhjcbgccnijaa.Q
open Go.RowKit Go.Proofs.YthfhjcbgccnijaaW.PrintWords Go.Proofs.YthfhjcbgccnijaaW.PrintLast Go.Proofs.YthfhjcbgccnijaaW.PrintMore Go.Proofs.Ythfhjcbgccnijaa.Rng
attribute [local go_sem] Oper.semAt_some
attribute [local go_sem] max2_int min2_int max_two min_two
set_option linter.unusedVariables false
set_option linter.unusedSimpArgs false

theorem after_ (a0_0 a0_1 : ByteArray) (a0_2 a0_3 a0_4 a0_5 a0_6 a1_0 a1_1 : Int) (A2 : Option Addr) (c2 n2 : Nat) (A3 : Option Addr) (c3 n3 : Nat) (w : World) :
    Calls Try.prog 48 #[.agg #[.string a0_0, .string a0_1, .int .i64 a0_2, .int .i64 a0_3, .int .i64 a0_4, .int .i64 a0_5, .int .i64 a0_6], .agg #[.int .i64 a1_0, .int .i64 a1_1], .slice A2 n2 c2, .slice A3 n3 c3] w fun e w' => e = .returned (.func (.func 75) #[] #[.pointer (some ⟨w.heap.size + 2, 0, none⟩), .pointer (some ⟨w.heap.size, 0, none⟩), .pointer (some ⟨w.heap.size + 1, 0, none⟩), .pointer (some ⟨w.heap.size + 3, 0, none⟩)]) ∧
      w' = (((w.alloc (.cells #[.string a0_0, .string a0_1, .int .i64 a0_2, .int .i64 a0_3, .int .i64 a0_4, .int .i64 a0_5, .int .i64 a0_6] 25)).alloc (.cells #[.int .i64 a1_0, .int .i64 a1_1] 27)).alloc (.cells #[.slice A2 n2 c2] 37)).alloc (.cells #[.slice A3 n3 c3] 31) := by
  go_enter Try.func48, Try.ntmps48
  go_wp2
  go_ret
  exact ⟨rfl, rfl⟩

section
variable {P : Program} {ops : Array Oper} {rest : List Oper} {o : Oper} {a : Act} {Q : Exit → Act → World → Prop} {α : Type} {F : Fence} {nF : Nat}
/-- The print's law of an append of one made thing, for a fenced walk. -/
theorem R_append_in (d : Kd α) {W : World} (base : Nat) (hgd : o.guard = none) (s x : Operand) (t e : TypeId) (z : Value) (bytes : Nat)
    (ho : o.op = .call { callee := .builtin .append, args := #[s, x], argTypes := #[t, t] })
    (ht : P.underlying t = some (.slice e)) (hinfo : (P.info? e).map (fun i => (i.zero, i.size, i.bytes)) = some (some z, d.sz, bytes)) (hz : z.cells.size = d.sz) (hs0 : 0 < d.sz) (hb0 : 0 < bytes)
    (v : Value) (xs : List α) (p : α) (cs : List Value) (ok okp : Nat → Prop) (hs : a.eval s = v) (hx : a.eval x = .slice (some ⟨W.heap.size, 0, none⟩) 1 1) (hp : d.M W base okp p cs) (hokp : ∀ k, okp k → ok k ∧ some k ≠ v.ownBlock) (hfresh : ∀ k, W.heap.size ≤ k → ok k)
    (HO : d.R e W base ok v xs) (hbase : base ≤ W.heap.size) (hl : (xs.length + 1) * bytes ≤ 140737488355328)
    (h : ∀ v1 w1, d.R e w1 base ok v1 (xs ++ [p]) → W.grownBy w1 v.ownBlock → wpListIn F nF P ops Q rest (a.put o.dst v1) w1) :
    wpListIn F nF P ops Q (o :: rest) a (W.alloc (.cells cs.toArray e)) := by
  obtain ⟨h0, inner, hown, hr⟩ := HO
  obtain ⟨i0, hi, hzz⟩ := Option.map_eq_some_iff.1 hinfo
  simp only [Prod.mk.injEq] at hzz
  obtain ⟨hz0, hz1, hz2⟩ := hzz
  have hlen : xs.length + 1 ≤ 140737488355328 := Nat.le_trans (Nat.le_mul_of_pos_right _ hb0) hl
  refine wpListIn_append_own_at (W.alloc (.cells cs.toArray e)) hgd s x t ho base e i0 z d.sz bytes ht hi hz0 hz1 hz2 hz hs0 v xs.length inner hs (hown.alloc _) ⟨W.heap.size, 0, none⟩ 1 1 cs hx (by rw [d.K_len (d.K_of_M hp)]; simp)
    (by simpa using World.news_of_block (cs := cs.toArray) (t := e) (fr := (0, 0)) (heap_alloc_new W (.cells cs.toArray e))) (d.K_one (d.K_of_M hp)) (by simp only [maxLen]; omega) hl (by simp; omega) ?_
  intro v1 w1 hown1 hg _ hat
  have hg1 := World.grownBy.trans (World.grownBy_alloc W _ v.ownBlock) hg
  refine h v1 w1 (Kd.R_appended h0 hr hp hokp hfresh hown1 hg1 ?_) hg1
  rcases hat with hat | hat
  · exact .inl hat
  · exact .inr ⟨_, hat, by simp⟩
end

/-- Between two rounds. -/
def RunI (w : World) (n₀ : Nat) (xs : List S27) (okE : Prop) (W : World) : Prop :=
  Below w.heap.size w W ∧ n₀ ≤ W.heap.size ∧ (∃ v, W.heap[w.heap.size + 2]? = some (.cells #[v] 46 (0, 0)) ∧ Kd.R k27 27 W n₀ (fun _ => True) v xs) ∧ W.heap[w.heap.size + 3]? = some (.cells #[.int .i64 0] 33 (0, 0)) ∧ okE
/-- Where a day has failed. -/
def RunX (w : World) (er : Int) (okE : Prop) (W : World) : Prop :=
  Below w.heap.size w W ∧ W.heap[w.heap.size + 2]? = some (.cells #[.slice none 0 0] 46 (0, 0)) ∧ W.heap[w.heap.size + 3]? = some (.cells #[.int .i64 er] 33 (0, 0)) ∧ okE
theorem RunI.st {w : World} {n₀ : Nat} {xs : List S27} {okE : Prop} {S : Nat → Prop} {A B : World} (h : RunI w n₀ xs okE A) (hs : St S A B) (hS : ∀ k, S k → w.heap.size + 4 ≤ k ∧ k < n₀) : RunI w n₀ xs okE B := by
  obtain ⟨h1, h2, ⟨v, h3, h4⟩, h5, h6⟩ := h
  refine ⟨hs.base h1 (Nat.le_refl _) (fun k hk => by have := hS k hk; omega), Nat.le_trans h2 hs.2.2.2.1, ⟨v, hs.blk h3 (fun hk => by have := hS _ hk; omega), ?_⟩, hs.blk h5 (fun hk => by have := hS _ hk; omega), h6⟩
  exact Kd.R_mono (Kd.R_step (Kd.R_bound h4) (fun k ho hlt => hs.2.2.2.2 k hlt (fun hk => by have := hS k hk; have := ho.2.1; omega))) (fun _ _ => trivial)
theorem RunX.st {w : World} {er : Int} {okE : Prop} {S : Nat → Prop} {A B : World} (h : RunX w er okE A) (hs : St S A B) (hS : ∀ k, S k → w.heap.size + 4 ≤ k) : RunX w er okE B :=
  ⟨hs.base h.1 (Nat.le_refl _) (fun k hk => by have := hS k hk; omega), hs.blk h.2.1 (fun hk => by have := hS _ hk; omega), hs.blk h.2.2.1 (fun hk => by have := hS _ hk; omega), h.2.2.2⟩
theorem put_other {A : World} {q g : Nat} {o o' : Obj} {cs : Array Value} {t : TypeId} {fr : Nat × Nat} (hq : A.heap[q]? = some o) (hc : o.isCells = false) (hg : A.heap[g]? = some (.cells cs t fr)) : (A.putObj q o').heap[g]? = A.heap[g]? :=
  World.putObj_heap_other (fun e => by subst e; rw [hg] at hq; cases hq; cases hc)
theorem below_put {b : Nat} {w A : World} {q : Nat} (o' : Obj) (h : Below b w A) (hq : b ≤ q) : Below b w (A.putObj q o') :=
  h.trans ⟨rfl, rfl, rfl, by simp, fun j hj => World.putObj_heap_other (by omega)⟩
theorem RunI.put {w : World} {n₀ : Nat} {xs : List S27} {okE : Prop} {A : World} {q : Nat} {o : Obj} (o' : Obj) (h : RunI w n₀ xs okE A) (hb : w.heap.size ≤ q) (hq : A.heap[q]? = some o) (hc : o.isCells = false) : RunI w n₀ xs okE (A.putObj q o') := by
  obtain ⟨h1, h2, ⟨v, h3, h4⟩, h5, h6⟩ := h
  refine ⟨below_put o' h1 hb, by simpa using h2, ⟨v, (put_other hq hc h3).trans h3, ?_⟩, (put_other hq hc h5).trans h5, h6⟩
  refine Kd.R_mono (Kd.R_step (Kd.R_bound h4) (fun k ho hlt => ?_)) (fun _ _ => trivial)
  obtain ⟨_, _, _, e, _, cells, hcells⟩ := ho
  exact put_other hq hc hcells
theorem RunX.put {w : World} {er : Int} {okE : Prop} {A : World} {q : Nat} {o : Obj} (o' : Obj) (h : RunX w er okE A) (hb : w.heap.size ≤ q) (hq : A.heap[q]? = some o) (hc : o.isCells = false) : RunX w er okE (A.putObj q o') :=
  ⟨below_put o' h.1 hb, (put_other hq hc h.2.1).trans h.2.1, (put_other hq hc h.2.2.1).trans h.2.2.1, h.2.2.2⟩
theorem rangesD_succ (bear wear grow uses : Int) (l2 : List S39) (l3 : List Int) (x : Int × Int) (k : Nat) :
    rangesD bear wear grow uses l2 l3 x (k + 1) = rangesD bear wear grow uses l2 l3 x k ++ [⟨(days bear wear grow uses l2 l3 x (k + 1)).1, (days bear wear grow uses l2 l3 x (k + 1)).2.1⟩] := by
  simp [rangesD, List.range_succ]
theorem errD_or (bear wear grow uses : Int) (l2 : List S39) (l3 : List Int) (x : Int × Int) (k : Nat) : errD bear wear grow uses l2 l3 x k = 0 ∨ errD bear wear grow uses l2 l3 x k = 280 := by
  unfold errD days nextV
  split <;> simp

set_option maxRecDepth 100000 in
set_option maxHeartbeats 4000000 in
theorem run_yes (a0_0 : ByteArray) (a0_1 : ByteArray) (a0_2 a0_3 a0_4 a0_5 a0_6 a1_0 a1_1 : Int) (A2 : Option Addr) (c2 : Nat) (l2 : List S39) (A3 : Option Addr) (c3 : Nat) (l3 : List Int) (w : World)
    (hr2 : Kd.C k39 w A2 l2.length l2) (hr3 : Kd.C (Kd.int .i64) w A3 l3.length l3) (hs : l2.length ≤ 512 ∧ l3.length ≤ 512) (hC : pitchB a0_3 a0_4 a0_5 a0_6 = true) (hX : withinB a1_0 a1_1 1000 = true) (hL : l3.length = l2.length) (r1 : List S27) (r2 : Int)
    (h : (if (List.range l2.length).all (fun k => decide (errD a0_3 a0_4 a0_5 a0_6 l2 l3 (a1_0, a1_1) k = 0)) = true then (rangesD a0_3 a0_4 a0_5 a0_6 l2 l3 (a1_0, a1_1) l2.length, 0) else (([] : List S27), (280 : Int))) = (r1, r2)) :
    Calls Try.prog 18 #[.agg #[.string a0_0, .string a0_1, .int .i64 a0_2, .int .i64 a0_3, .int .i64 a0_4, .int .i64 a0_5, .int .i64 a0_6], .agg #[.int .i64 a1_0, .int .i64 a1_1], .slice A2 l2.length c2, .slice A3 l3.length c3] w (RunOut w r1 r2) := by
  have hu := Try.underlying46
  have hu9 := Try.underlying33
  have HR2 := Aside0.mk hr2
  have HR3 := Aside0.mk hr3
  have HH := Aside0.mk h
  clear hr2 hr3 h
  obtain ⟨M, hM, hmx⟩ : ∃ M : Int, (if l2.length < l3.length then (l3.length : Int) else l2.length) = M ∧ M ≤ 512 := ⟨_, rfl, by split <;> omega⟩
  have hl1 : ((l2.length : Int) != l3.length) = false := bne_eq_false_iff_eq.mpr (by omega)
  have hl2 : (l2.length == l3.length) = true := beq_iff_eq.mpr (by omega)
  have HL := Aside0.mk hL
  clear hL
  have hc := check_ a0_0 a0_1 a0_2 a0_3 a0_4 a0_5 a0_6
  rw [hC, if_pos rfl] at hc
  have HC := Aside0.mk hc
  clear hc
  have hx := within_ a1_0 a1_1 1000
  rw [hX] at hx
  have HX := Aside0.mk hx
  clear hx
  clear hC hX
  have HA := Aside0.mk (after_ a0_0 a0_1 a0_2 a0_3 a0_4 a0_5 a0_6 a1_0 a1_1 A2 c2 l2.length A3 c3 l3.length)
  obtain ⟨q, _⟩ : ∃ q : Nat, q = 7 := ⟨_, rfl⟩
  refine (callsIn_wide (n := q)).1 ?_
  refine callsIn_of_wp_marks Try.func18 rfl trivial ?_ rfl
  simp only [Try.ntmps18, List.size_toArray, List.length_cons, List.length_nil, Nat.reduceAdd, Nat.reduceSub, Array.replicate_succ, Array.replicate_zero, List.push_toArray, List.append_toArray, List.nil_append, List.cons_append]
  gi_wp2
  refine ⟨trivial, callsIn_wide.2 ?_⟩
  refine (HC.out _).mono ?_
  rintro e w1 ⟨rfl, hb⟩
  have HI := Aside0.mk ((RunIn.new w a0_0 a0_1 a0_2 a0_3 a0_4 a0_5 a0_6 a1_0 a1_1).below hb)
  clear hb
  have c0 := (blk_cell HI.out.2.1 0).trans rfl
  have c1 := (blk_cell HI.out.2.1 1).trans rfl
  gi_wp2_with fail
  refine ⟨trivial, callsIn_wide.2 ?_⟩
  refine (HX.out _).mono ?_
  rintro e w2 ⟨rfl, hb⟩
  have HI2 := Aside0.mk (HI.out.below hb)
  clear hb
  clear c0 c1
  have c0 := (blk_cell HI2.out.1 0).trans rfl
  have c1 := (blk_cell HI2.out.1 1).trans rfl
  have c2' := (blk_cell HI2.out.1 2).trans rfl
  have c3' := (blk_cell HI2.out.1 3).trans rfl
  have c4 := (blk_cell HI2.out.1 4).trans rfl
  have c5 := (blk_cell HI2.out.1 5).trans rfl
  have c6 := (blk_cell HI2.out.1 6).trans rfl
  have d0 := (blk_cell HI2.out.2.1 0).trans rfl
  have d1 := (blk_cell HI2.out.2.1 1).trans rfl
  gi_wp2_with fail
  refine ⟨trivial, callsIn_wide.2 ?_⟩
  refine (HA.out _).mono ?_
  rintro e w3 ⟨rfl, hw3⟩
  clear c0 c1 c2' c3' c4 c5 c6 d0 d1
  have HI3 := Aside0.mk (HI2.out.below (hw3 ▸ (below_alloc (below_alloc (below_alloc (below_alloc (Below.refl w2.heap.size w2) _) _) _) _)))
  have B2 : w3.heap[w2.heap.size + 2]? = some (.cells #[.slice A2 l2.length c2] 37 (0, 0)) := hw3 ▸ heap_at_old _ _ _ _ (heap_at_new _ _ _ (by simp))
  have B0 : w3.heap[w2.heap.size]? = some (.cells #[.string a0_0, .string a0_1, .int .i64 a0_2, .int .i64 a0_3, .int .i64 a0_4, .int .i64 a0_5, .int .i64 a0_6] 25 (0, 0)) := hw3 ▸ heap_at_old _ _ _ _ (heap_at_old _ _ _ _ (heap_at_old _ _ _ _ (heap_at_new _ _ _ rfl)))
  have B1 : w3.heap[w2.heap.size + 1]? = some (.cells #[.int .i64 a1_0, .int .i64 a1_1] 27 (0, 0)) := hw3 ▸ heap_at_old _ _ _ _ (heap_at_old _ _ _ _ (heap_at_new _ _ _ (by simp)))
  have B3 : w3.heap[w2.heap.size + 3]? = some (.cells #[.slice A3 l3.length c3] 31 (0, 0)) := hw3 ▸ heap_at_new _ _ _ (by simp)
  have hs2 : w.heap.size + 4 ≤ w2.heap.size := by
    have := blk_lt HI2.out.2.2.2.1
    omega
  have hs3 : w3.heap.size = w2.heap.size + 4 := by rw [hw3]; simp
  have HP := Aside0.mk (show AfterIn w a0_0 a0_1 a0_2 a0_3 a0_4 a0_5 a0_6 l2 l3 A2 A3 c2 c3 (w2.heap.size + 2) w2.heap.size (w2.heap.size + 1) (w2.heap.size + 3) (a1_0, a1_1) 0 w3 from ⟨HI3.out.2.2.2.2, B2, B0, B3, B1⟩)
  clear B0 B1 B2 B3 HI HI2 HA HC HX
  clear hw3
  gi_wp2
  generalize Value.agg #[Value.string a0_0, Value.string a0_1, Value.int IntKind.i64 a0_2, Value.int IntKind.i64 a0_3, Value.int IntKind.i64 a0_4, Value.int IntKind.i64 a0_5, Value.int IntKind.i64 a0_6] = z2
  generalize Value.agg #[Value.int IntKind.i64 a1_0, Value.int IntKind.i64 a1_1] = z3
  generalize Value.slice A2 l2.length c2 = z1
  generalize Value.slice A3 l3.length c3 = z4
  generalize Value.int IntKind.i64 (l2.length : Int) = z5
  generalize Value.int IntKind.i64 (l3.length : Int) = z6
  generalize Value.int IntKind.i64 M = z7
  generalize Value.bool (decide (512 < M)) = z8
  obtain ⟨n₀, hn₀⟩ : ∃ n₀, w3.heap.size = n₀ := ⟨_, rfl⟩
  refine range_law (gf := 75) rfl (enters_of Try.func75 (by kernel_rfl) rfl)
    (after_iter w a0_0 a0_1 a0_2 a0_3 a0_4 a0_5 a0_6 l2 l3 A2 A3 c2 c3 (w2.heap.size + 2) w2.heap.size (w2.heap.size + 1) (w2.heap.size + 3) (fun j => j = w.heap.size + 2 ∨ j = w.heap.size + 3 ∨ n₀ ≤ j) (a1_0, a1_1) HR2.out HR3.out HL.out hs.1
      (by omega) (by omega) ⟨by omega, by omega⟩ (by omega) ⟨by omega, by omega, by omega⟩ (fun k hk => by omega))
    (fun _ => rfl) (fun j hj => .inr (.inr (by omega))) (fun k hk => by omega) (fun o1 o2 => HP.out.below (below_alloc (below_alloc (Below.refl _ _) _) _))
    (fun k => RunI w n₀ (rangesD a0_3 a0_4 a0_5 a0_6 l2 l3 (a1_0, a1_1) k) (∀ j, j < k → errD a0_3 a0_4 a0_5 a0_6 l2 l3 (a1_0, a1_1) j = 0))
    (fun k => RunX w (errD a0_3 a0_4 a0_5 a0_6 l2 l3 (a1_0, a1_1) k) (errD a0_3 a0_4 a0_5 a0_6 l2 l3 (a1_0, a1_1) k ≠ 0))
    (fun k A B h hS => h.st hS (fun k hk => ⟨by omega, by omega⟩)) (fun k A B h hS => h.st hS (fun k hk => by omega))
    (fun k A q o o' h hq hA hc => h.put o' (by omega) hA hc) (fun k A q o o' h hq hA hc => h.put o' (by omega) hA hc)
    (fun o1 o2 => ?_)
    (fun k b W => RunI w n₀ (rangesD a0_3 a0_4 a0_5 a0_6 l2 l3 (a1_0, a1_1) k) (∀ j, j < k → errD a0_3 a0_4 a0_5 a0_6 l2 l3 (a1_0, a1_1) j = 0) W ∧ ∃ bd v38 v39, b = { tmps := #[z2, z3, z1, z4, .pointer (some ⟨w.heap.size, 0, none⟩), .pointer (some ⟨w.heap.size + 1, 0, none⟩), undef, undef, .pointer (some ⟨w.heap.size + 1 + 1, 0, none⟩), .pointer (some ⟨w.heap.size + 1 + 1 + 1, 0, none⟩), .pointer (some ⟨bd, 0, none⟩), .int .i64 (days a0_3 a0_4 a0_5 a0_6 l2 l3 (a1_0, a1_1) (k + 1)).2.2, z1, z5, z4, z6, z7, z8, z2, .int .i64 0, .bool false, .bool false, z3, .bool true, .bool false, .bool false, .bool false, z1, z5, z4, z6, .bool false, .bool false, z2, z3, z1, z4, .func (.func 75) #[] #[.pointer (some ⟨w2.heap.size + 2, 0, none⟩), .pointer (some ⟨w2.heap.size, 0, none⟩), .pointer (some ⟨w2.heap.size + 1, 0, none⟩), .pointer (some ⟨w2.heap.size + 3, 0, none⟩)], v38, v39, undef, undef, undef, undef, undef, undef, undef, undef], defers := [] } ∧ W.heap[bd]? = some (.cells #[.int .i64 (days a0_3 a0_4 a0_5 a0_6 l2 l3 (a1_0, a1_1) (k + 1)).1, .int .i64 (days a0_3 a0_4 a0_5 a0_6 l2 l3 (a1_0, a1_1) (k + 1)).2.1] 27 (0, 0)))
    (fun k b A q o o' h hq hA hc => ⟨h.1.put o' (by omega) hA hc, ?_⟩) ?assign ?body ?done ?stop
  case assign =>
    intro l k W hk hI
    simp only [List.zip_toArray, List.zip_cons_cons, List.zip_nil_left, List.foldl_toArray, List.foldl_cons, List.foldl_nil, List.setIfInBounds_toArray, List.set_cons_succ, List.set_cons_zero]
    generalize hN : days a0_3 a0_4 a0_5 a0_6 l2 l3 (a1_0, a1_1) (k + 1) = N1
    obtain ⟨x1, x2, x3⟩ := N1
    gi_wp2
    have hal := below_alloc (Below.refl W.heap.size W) (.cells #[.int .i64 x1, .int .i64 x2] 27)
    exact ⟨KeepsOthers.alloc _ _, St.of_below hal, hI.st (St.of_below (S := fun _ => False) hal) (fun _ h => h.elim), W.heap.size, _, _, rfl, blk_new _ _⟩
  case body =>
    rintro l k b W hk ⟨hI, bd, v38, v39, rfl, hbd⟩
    obtain ⟨N1, hN⟩ : ∃ N1, days a0_3 a0_4 a0_5 a0_6 l2 l3 (a1_0, a1_1) (k + 1) = N1 := ⟨_, rfl⟩
    rw [hN] at hbd ⊢
    obtain ⟨x1, x2, x3⟩ := N1
    have hE : errD a0_3 a0_4 a0_5 a0_6 l2 l3 (a1_0, a1_1) k = x3 := by unfold errD; rw [hN]
    obtain ⟨h1, h2, ⟨v, h3, h4⟩, h5, h6⟩ := hI
    have HB := Aside0.mk h1
    have HR := Aside0.mk h4
    have H3 := Aside0.mk h3
    have H5 := Aside0.mk h5
    have HD := Aside0.mk hbd
    have H6 := Aside0.mk h6
    clear h1 h3 h4 h5 hbd h6
    dsimp only at HD
    have c0 := (blk_cell H3.out 0).trans rfl
    have c1 := (blk_cell H5.out 0).trans rfl
    have f0 := blk_frozen H3.out 0
    have f1 := blk_frozen H5.out 0
    have d0 := (blk_cell HD.out 0).trans rfl
    have d1 := (blk_cell HD.out 1).trans rfl
    have NE := Aside0.mk hN
    have EE := Aside0.mk hE
    clear hN hE
    have hv : ∀ j, v.ownBlock = some j → n₀ ≤ j ∧ ∀ o, W.heap[j]? = some o → o.isCells = true := by
      intro j hj
      obtain ⟨_, h2, _, e, _, cells, hc⟩ := (Kd.R_bound HR.out).1 j hj
      refine ⟨h2, fun o ho => ?_⟩
      rw [hc] at ho
      cases ho
      rfl
    have HV := Aside0.mk hv
    clear hv
    have HL5 := Aside0.mk (show (rangesD a0_3 a0_4 a0_5 a0_6 l2 l3 (a1_0, a1_1) k).length = k by simp [rangesD])
    by_cases hz : x3 = 0
    · subst hz
      gi_wp2_with (gi_at_builtin; refine R_append_in k27 n₀ rfl (.tmp 43) (.tmp 45) 46 27 (.agg #[.int .i64 0, .int .i64 0]) 16 rfl hu (by kernel_rfl) rfl (by decide) (by decide) v _ (⟨x1, x2⟩ : S27) [.int .i64 x1, .int .i64 x2] (fun _ => True) (fun _ => False) rfl rfl (k27_mkM _ _ _ _) (fun _ h => h.elim) (fun _ _ => trivial) HR.out h2 (by rw [HL5.out]; omega) ?_; intro v1 w1 hr1 hg1; obtain ⟨A5, c5, hv1⟩ := Kd.R_slice hr1; rw [List.length_append, List.length_singleton] at hv1; subst hv1; have G0 := Aside0.mk (blk_grown H3.out hg1 (Kd.R_ne HR.out H3.out (by decide))); have G1 := Aside0.mk (blk_grown H5.out hg1 (Kd.R_ne HR.out H5.out (by decide))); have R1 := Aside0.mk hr1; have GG := Aside0.mk hg1; clear hr1 hg1 c0 c1 f0 f1 d0 d1; have c0 := (blk_cell G0.out 0).trans rfl; have f0 := blk_frozen G0.out 0)
      have hst : St (fun j => j = w.heap.size + 2 ∨ j = w.heap.size + 3 ∨ n₀ ≤ j) W (w1.setCell ⟨w.heap.size + 1 + 1, 0, none⟩ (.slice A5 ((rangesD a0_3 a0_4 a0_5 a0_6 l2 l3 (a1_0, a1_1) k).length + 1) c5)) :=
        St.setCell ⟨GG.out.os, GG.out.tape, GG.out.output, GG.out.size, fun i hi hU => GG.out.block i hi (fun e => hU (.inr (.inr (HV.out i e.symm).1)))⟩ (.inl (.inl rfl)) _
      refine ⟨(KeepsOthers.of_grownBy GG.out (fun j o hj ho => (HV.out j hj).2 o ho)).trans (KeepsOthers.setCell _ _ _), hst, hst.base HB.out (Nat.le_refl _) (fun k hk => by omega), Nat.le_trans h2 hst.2.2.2.1, ⟨_, blk_put G0.out 0 _ rfl, ?_⟩, blk_far G1.out (by simp) _, ?_⟩
      · have hx := rangesD_succ a0_3 a0_4 a0_5 a0_6 l2 l3 (a1_0, a1_1) k
        rw [NE.out] at hx
        rw [hx]
        exact Kd.R_mono (Kd.R_far (Kd.R_bound R1.out) (fun k hk => by have := hk.2.1; show k ≠ w.heap.size + 2; omega) _) (fun _ _ => trivial)
      · intro j hj
        rcases Nat.lt_succ_iff_lt_or_eq.1 hj with hj | rfl
        · exact H6.out j hj
        · exact EE.out
    · have hz1 : (x3 != 0) = true := bne_iff_ne.mpr hz
      gi_wp2
      refine ⟨(KeepsOthers.setCell _ _ _).trans (KeepsOthers.setCell _ _ _), below_set (below_set HB.out (by omega)) (by omega), blk_far (blk_put H3.out 0 _ rfl) (by simp) _, ?_, ?_⟩
      · rw [EE.out]
        exact blk_put (blk_far H5.out (by simp) _) 0 _ rfl
      · rw [EE.out]
        exact hz
  case done =>
    intro D W hD hI hK
    obtain ⟨h1, h2, ⟨v, h3, h4⟩, h5, h6⟩ := hI
    have HB := Aside0.mk h1
    have HR := Aside0.mk h4
    have H3 := Aside0.mk h3
    have H5 := Aside0.mk h5
    have HK := Aside0.mk hK
    have H6 := Aside0.mk h6
    clear h1 h3 h4 h5 h6 hK
    obtain ⟨A5, c5, rfl⟩ := Kd.R_slice HR.out
    have c0 := (blk_cell H3.out 0).trans rfl
    have c1 := (blk_cell H5.out 0).trans rfl
    have f0 := blk_frozen H3.out 0
    have f1 := blk_frozen H5.out 0
    have h := HH.out
    rw [if_pos (by rw [List.all_eq_true]; intro j hj; exact decide_eq_true (H6.out j (List.mem_range.1 hj)))] at h
    obtain ⟨rfl, rfl⟩ := Prod.mk.inj h
    clear h HH
    gi_wp2
    obtain ⟨W', hW'⟩ : ∃ W', (W.setCell ⟨w.heap.size + 1 + 1, 0, none⟩ (.slice A5 (rangesD a0_3 a0_4 a0_5 a0_6 l2 l3 (a1_0, a1_1) l2.length).length c5)).setCell ⟨w.heap.size + 1 + 1 + 1, 0, none⟩ (.int .i64 0) = W' := ⟨_, rfl⟩
    have K1 := hW' ▸ ((KeepsOthers.setCell W ⟨w.heap.size + 1 + 1, 0, none⟩ (.slice A5 (rangesD a0_3 a0_4 a0_5 a0_6 l2 l3 (a1_0, a1_1) l2.length).length c5)).trans (KeepsOthers.setCell _ ⟨w.heap.size + 1 + 1 + 1, 0, none⟩ (.int .i64 0))).same D _ HK.out rfl
    have B8 : W'.heap[w.heap.size + 2]? = some (.cells #[.slice A5 (rangesD a0_3 a0_4 a0_5 a0_6 l2 l3 (a1_0, a1_1) l2.length).length c5] 46 (0, 0)) := hW' ▸ blk_far (blk_put H3.out 0 _ rfl) (by simp) _
    have B9 : W'.heap[w.heap.size + 3]? = some (.cells #[.int .i64 0] 33 (0, 0)) := hW' ▸ blk_put (blk_far H5.out (by simp) _) 0 _ rfl
    have B0 : Below w.heap.size w W' := hW' ▸ below_set (below_set HB.out (by omega)) (by omega)
    have BR : Kd.R k27 27 W' n₀ (fun _ => True) (.slice A5 (rangesD a0_3 a0_4 a0_5 a0_6 l2 l3 (a1_0, a1_1) l2.length).length c5) (rangesD a0_3 a0_4 a0_5 a0_6 l2 l3 (a1_0, a1_1) l2.length) :=
      hW' ▸ Kd.R_mono (Kd.R_far (Kd.R_far (Kd.R_bound HR.out) (fun k hk => by have := hk.2.1; show k ≠ w.heap.size + 2; omega) _) (fun k hk => by have := hk.2.1; show k ≠ w.heap.size + 3; omega) _) (fun _ _ => trivial)
    rw [hW']
    clear hW'
    refine ⟨by simp, .inl ⟨_, _, rfl, run_takeDeferred K1, ?_⟩⟩
    refine ⟨_, results_c2 rfl _ _ ⟨w.heap.size + 2, 0, none⟩ ⟨w.heap.size + 3, 0, none⟩ (.slice A5 (rangesD a0_3 a0_4 a0_5 a0_6 l2 l3 (a1_0, a1_1) l2.length).length c5) (.int .i64 0) _ _ rfl rfl ((blk_cell ((put_other K1 rfl B8).trans B8) 0).trans rfl) ((blk_cell ((put_other K1 rfl B9).trans B9) 0).trans rfl) hu rfl hu9 rfl, ?_⟩
    refine ⟨_, rfl, Kd.R_lower (Kd.R_mono (Kd.R_step (Kd.R_bound BR) (fun k ho hlt => ?_)) (fun _ _ => trivial)) (by omega), below_put _ B0 (by omega)⟩
    obtain ⟨_, _, _, e, _, cells, hcells⟩ := ho
    exact put_other K1 rfl hcells
  case stop =>
    intro D k W hD hk hX hK
    have hall : ¬ ((List.range l2.length).all (fun k => decide (errD a0_3 a0_4 a0_5 a0_6 l2 l3 (a1_0, a1_1) k = 0)) = true) := by
      intro h
      exact hX.2.2.2 (of_decide_eq_true (List.all_eq_true.1 h k (List.mem_range.2 hk)))
    have h := HH.out
    rw [if_neg hall] at h
    obtain ⟨rfl, rfl⟩ := Prod.mk.inj h
    have he := (errD_or a0_3 a0_4 a0_5 a0_6 l2 l3 (a1_0, a1_1) k).resolve_left hX.2.2.2
    rw [he] at hX
    clear h HH hall
    have HXX := Aside0.mk hX
    have K1 := Aside0.mk hK
    clear hX hK he
    gi_wp2
    refine ⟨by simp, .inl ⟨_, _, rfl, run_takeDeferred K1.out, ?_⟩⟩
    refine ⟨_, results_c2 rfl _ _ ⟨w.heap.size + 2, 0, none⟩ ⟨w.heap.size + 3, 0, none⟩ (.slice none 0 0) (.int .i64 280) _ _ rfl rfl ((blk_cell ((put_other K1.out rfl HXX.out.2.1).trans HXX.out.2.1) 0).trans rfl) ((blk_cell ((put_other K1.out rfl HXX.out.2.2.1).trans HXX.out.2.2.1) 0).trans rfl) hu rfl hu9 rfl, ?_⟩
    exact ⟨_, rfl, Kd.R_nil _ _ _ _ _, below_put _ HXX.out.1 (by omega)⟩
  · exact ⟨below_alloc (below_alloc HI3.out.2.2.2.2 _) _, by simp only [World.size_alloc]; omega, ⟨_, blk_alloc (blk_alloc HI3.out.2.2.1 _) _, Kd.R_nil _ _ _ _ _⟩, blk_alloc (blk_alloc HI3.out.2.2.2.1 _) _, fun j hj => absurd hj (by omega)⟩
  · obtain ⟨bd, v38, v39, hb, hbd⟩ := h.2
    exact ⟨bd, v38, v39, hb, (put_other hA hc hbd).trans hbd⟩

theorem turf_Run.calls (a0_0 : ByteArray) (a0_1 : ByteArray) (a0_2 : Int) (a0_3 : Int) (a0_4 : Int) (a0_5 : Int) (a0_6 : Int) (a1_0 : Int) (a1_1 : Int) (A2 : Option Addr) (c2 : Nat) (l2 : List S39) (A3 : Option Addr) (c3 : Nat) (l3 : List Int) (r1 : List S27) (r2 : Int) (w : World) (hr2 : Kd.C k39 w A2 l2.length l2) (hc2 : l2.length ≤ c2) (hr3 : Kd.C (Kd.int .i64) w A3 l3.length l3) (hc3 : l3.length ≤ c3) (h : turf_Run.f a0_0 a0_1 a0_2 a0_3 a0_4 a0_5 a0_6 a1_0 a1_1 l2 l3 = some (r1, r2)) :
    Calls Try.prog 18 #[.agg #[.string a0_0, .string a0_1, .int .i64 a0_2, .int .i64 a0_3, .int .i64 a0_4, .int .i64 a0_5, .int .i64 a0_6], .agg #[.int .i64 a1_0, .int .i64 a1_1], .slice A2 l2.length c2, .slice A3 l3.length c3] w fun e w' => ∃ v0_ : Value, e = .returned (.tuple #[v0_, .int .i64 r2]) ∧ Kd.R k27 27 w' w.heap.size (fun _ => True) v0_ r1 ∧ Below w.heap.size w w' := by
  unfold turf_Run.f at h
  by_cases hbig : 512 < l2.length ∨ 512 < l3.length
  · rw [if_pos hbig] at h
    obtain ⟨rfl, rfl⟩ := Prod.mk.inj (Option.some.inj h)
    exact run_big a0_0 a0_1 a0_2 a0_3 a0_4 a0_5 a0_6 a1_0 a1_1 A2 c2 l2.length A3 c3 l3.length w hbig
  · rw [if_neg hbig] at h
    have hs : l2.length ≤ 512 ∧ l3.length ≤ 512 := by omega
    cases hC : pitchB a0_3 a0_4 a0_5 a0_6
    · rw [hC, if_neg (by simp)] at h
      obtain ⟨rfl, rfl⟩ := Prod.mk.inj (Option.some.inj h)
      exact run_no1 a0_0 a0_1 a0_2 a0_3 a0_4 a0_5 a0_6 a1_0 a1_1 A2 c2 l2.length A3 c3 l3.length w hs hC
    · cases hX : withinB a1_0 a1_1 1000
      · rw [hC, hX, if_neg (by simp)] at h
        obtain ⟨rfl, rfl⟩ := Prod.mk.inj (Option.some.inj h)
        exact run_no2 a0_0 a0_1 a0_2 a0_3 a0_4 a0_5 a0_6 a1_0 a1_1 A2 c2 l2.length A3 c3 l3.length w hs hC hX
      · by_cases hL : l3.length = l2.length
        · rw [hC, hX, if_pos (by simp [hL])] at h
          refine run_yes a0_0 a0_1 a0_2 a0_3 a0_4 a0_5 a0_6 a1_0 a1_1 A2 c2 l2 A3 c3 l3 w hr2 hr3 hs hC hX hL r1 r2 ?_
          split at h
          · rename_i hall
            rw [if_pos hall]
            exact Option.some.inj h
          · rename_i hall
            rw [if_neg hall]
            exact Option.some.inj h
        · rw [hC, hX, if_neg (by simp [hL])] at h
          obtain ⟨rfl, rfl⟩ := Prod.mk.inj (Option.some.inj h)
          exact run_no3 a0_0 a0_1 a0_2 a0_3 a0_4 a0_5 a0_6 a1_0 a1_1 A2 c2 l2.length A3 c3 l3.length w hs hC hX hL
end Go.Proofs.Ythfhjcbgccnijaa.Q
