/- By hand: what journal.Open computes: a range over the records on the sectors. -/
import Derived.Test.YtljmdkeeppikhaaJRe
import Derived.Test.YtljmdkeeppikhaaDRd
import Derived.Test.YtljmdkeeppikhaaDCk
import Derived.Maps.OwnIn
namespace Go.Proofs.Ytljmdkeeppikhaa.Q
open Go.RowKit Go.Proofs.YtljmdkeeppikhaaW.PrintWords Go.Proofs.YtljmdkeeppikhaaW.PrintLast Go.Proofs.YtljmdkeeppikhaaW.PrintMore Go.Proofs.Ytljmdkeeppikhaa.Rng
attribute [local go_sem] Oper.semAt_some
attribute [local go_sem] max2_int min2_int max_two min_two max_three min_three max_four min_four
set_option linter.unusedVariables false
set_option linter.unusedSimpArgs false

private theorem put_o {A : World} {q g : Nat} {o o' : Obj} {cs : Array Value} {t : TypeId} {fr : Nat × Nat} (hq : A.heap[q]? = some o) (hc : o.isCells = false) (hg : A.heap[g]? = some (.cells cs t fr)) : (A.putObj q o').heap[g]? = A.heap[g]? :=
  World.putObj_heap_other (fun e => by subst e; rw [hg] at hq; cases hq; cases hc)
private theorem below_p {b : Nat} {w A : World} {q : Nat} (o' : Obj) (h : Below b w A) (hq : b ≤ q) : Below b w (A.putObj q o') :=
  h.trans ⟨rfl, rfl, rfl, by simp, fun j hj => World.putObj_heap_other (by omega)⟩

section
variable {P : Program} {ops : Array Oper} {rest : List Oper} {o : Oper} {a : Act} {Q : Exit → Act → World → Prop} {α : Type} {F : Fence} {nF : Nat}
/-- The print's law of an append of one thing, for a fenced walk. -/
theorem N_append_in (d : Kd α) {W : World} (base : Nat) (hgd : o.guard = none) (s x : Operand) (t e : TypeId) (z : Value) (bytes : Nat)
    (ho : o.op = .call { callee := .builtin .append, args := #[s, x], argTypes := #[t, t] })
    (ht : P.underlying t = some (.slice e)) (hinfo : (P.info? e).map (fun i => (i.zero, i.size, i.bytes)) = some (some z, d.sz, bytes)) (hz : z.cells.size = d.sz) (hs0 : 0 < d.sz) (hb0 : 0 < bytes)
    (v : Value) (xs : List α) (p : α) (cs : List Value) (ok okp : Nat → Prop) (hs : a.eval s = v) (hx : a.eval x = .slice (some ⟨W.heap.size, 0, none⟩) 1 1) (hp : Kd.FK d W okp p cs) (hokp : ∀ k, okp k → ok k ∧ some k ≠ v.ownBlock) (hfresh : ∀ k, W.heap.size ≤ k → ok k)
    (HO : Kd.N d e W base ok v xs) (hbase : base ≤ W.heap.size) (hl : (xs.length + 1) * bytes ≤ 140737488355328)
    (h : ∀ v1 w1, Kd.N d e w1 base ok v1 (xs ++ [p]) → W.grownBy w1 v.ownBlock → wpListIn F nF P ops Q rest (a.put o.dst v1) w1) :
    wpListIn F nF P ops Q (o :: rest) a (W.alloc (.cells cs.toArray e)) := by
  obtain ⟨h0, rows, hlr, hR, hf⟩ := HO
  obtain ⟨i0, hi, hzz⟩ := Option.map_eq_some_iff.1 hinfo
  simp only [Prod.mk.injEq] at hzz
  obtain ⟨hz0, hz1, hz2⟩ := hzz
  obtain ⟨h00, inner, hown, hr⟩ := Kd.raw_any hR
  have hlen : rows.length + 1 ≤ 140737488355328 := Nat.le_trans (Nat.le_mul_of_pos_right _ hb0) (by rw [hlr]; exact hl)
  have hraw := Kd.FK_raw hp
  refine wpListIn_append_own_at (W.alloc (.cells cs.toArray e)) hgd s x t ho base e i0 z d.sz bytes ht hi hz0 hz1 hz2 hz hs0 v rows.length inner hs (hown.alloc _) ⟨W.heap.size, 0, none⟩ 1 1 cs hx (by rw [hraw.2.1]; simp)
    (by simpa using World.news_of_block (cs := cs.toArray) (t := e) (fr := (0, 0)) (heap_alloc_new W (.cells cs.toArray e))) hraw.2.2 (by simp only [maxLen]; omega) (by rw [hlr]; exact hl) (by simp; omega) ?_
  intro v1 w1 hown1 hg _ hat
  have hg1 := World.grownBy.trans (World.grownBy_alloc W _ v.ownBlock) hg
  have hat1 : v1.ownBlock = v.ownBlock ∨ ∃ b, v1.ownBlock = some b ∧ W.heap.size ≤ b := by
    rcases hat with hat | hat
    · exact .inl hat
    · exact .inr ⟨_, hat, by simp⟩
  refine h v1 w1 (Kd.N_appended h0 hlr hf (ys := [p]) (news := [cs]) rfl (fun j y c hy hc => by
    rcases j with _ | j
    · simp only [List.getElem?_cons_zero, Option.some.injEq] at hy hc
      rw [← hy, ← hc]; exact hp
    · simp at hy) hokp hfresh (Kd.R_appended (okp := fun _ => False) h00 hr hraw (fun _ hk => hk.elim) (fun _ _ => trivial) hown1 hg1 hat1) hg1 hat1) hg1
end

theorem records_ (A : Option Addr) (n c : Nat) (w : World) :
    Calls Try.prog 32 #[.slice A n c] w fun e w' => e = .returned (.func (.func 60) #[] #[.pointer (some ⟨w.heap.size, 0, none⟩)]) ∧ w' = w.alloc (.cells #[.slice A n c] 22 (0, 0)) := by
  go_enter Try.func32, Try.ntmps32
  go_wp2
  go_ret
  exact ⟨rfl, rfl⟩

abbrev kRow : Kd (List Int) := Kd.slice 5 (Kd.int .u8)
/-- What a fuel that lasts finds on the sectors. -/
def recK (l : List (List Int)) : Nat := 100 * l.length + 1000
def journal_Open.f (l0 : List (List Int)) (l1 : List SW) (a : Int) (s : Bool) : Option ((List (List Int)) × Int × Int × Int) :=
  if dchk l0 l1 a ≠ 0 then some ([], 0, 0, dchk l0 l1 a) else if s = true then some ([], 0, 0, 40) else if 0 < l1.length then some ([], 0, 0, 1) else
    (recs.l0 (recK l0) l0 0 0).bind fun R => if R.length ≤ 100000 then some (R.map (fun x => x.2), (l0.length : Int), (R.length : Int), 0) else none

/-- Between two rounds of Open. -/
def OpI (w : World) (base : Nat) (m : Int) (xs : List (List Int)) (W : World) : Prop :=
  Below w.heap.size w W ∧ base ≤ W.heap.size ∧ ∃ v, W.heap[w.heap.size + 1]? = some (.cells #[v, .int .i64 m, .int .i64 0] 29 (0, 0)) ∧ Kd.N kRow 35 W base (fun j => base ≤ j) v xs
theorem OpI.below {w : World} {base : Nat} {m : Int} {xs : List (List Int)} {W V : World} (h : OpI w base m xs W) (hb : Below W.heap.size W V) : OpI w base m xs V := by
  obtain ⟨h1, h2, v, h3, h4⟩ := h
  exact ⟨below_step h1 hb, Nat.le_trans h2 hb.size, v, heap_below hb h3, Kd.N_below h4 hb⟩
theorem OpI.st {w : World} {base : Nat} {m : Int} {xs : List (List Int)} {W V : World} (h : OpI w base m xs W) (hs : St (fun _ => False) W V) : OpI w base m xs V :=
  h.below ⟨hs.1, hs.2.1, hs.2.2.1, hs.2.2.2.1, fun j hj => hs.2.2.2.2 j hj (fun h => h)⟩
theorem OpI.put {w : World} {base : Nat} {m : Int} {xs : List (List Int)} {W : World} {q : Nat} (o : Obj) (h : OpI w base m xs W) (hq : w.heap.size + 1 < q) (hq2 : q < base) : OpI w base m xs (W.putObj q o) := by
  obtain ⟨h1, h2, v, h3, h4⟩ := h
  exact ⟨below_p _ h1 (by omega), by simpa using h2, v, (World.putObj_heap_other (by omega)).trans h3, Kd.N_step h4 (fun k hk _ => World.putObj_heap_other (by omega))⟩

set_option maxRecDepth 100000 in
set_option maxHeartbeats 4000000 in
theorem open_no (A0 : Option Addr) (c0 : Nat) (l0 : List (List Int)) (A1 : Option Addr) (c1 : Nat) (l1 : List SW) (a : Int) (s : Bool) (c : Int) (w : World) (hr0 : Kd.C kSec w A0 l0.length l0) (hc0 : l0.length ≤ c0) (hr1 : Kd.C kW w A1 l1.length l1) (hc1 : l1.length ≤ c1)
    (h : (dchk l0 l1 a ≠ 0 ∧ dchk l0 l1 a = c) ∨ (dchk l0 l1 a = 0 ∧ s = true ∧ c = 40) ∨ (dchk l0 l1 a = 0 ∧ s = false ∧ 0 < l1.length ∧ c = 1)) :
    Calls Try.prog 12 #[.agg (dkV A0 l0.length c0 A1 l1.length c1 a s)] w fun e w' => e = .returned (.tuple #[.agg #[.slice none 0 0, .int .i64 0, .int .i64 0], .int .i64 c]) ∧ Below w.heap.size w w' := by
  have hu := Try.underlying29
  have HT := Aside0.mk (Two.new w (.cells (dkV A0 l0.length c0 A1 l1.length c1 a s) 25 (0, 0)) (.cells #[.slice none 0 0, .int .i64 0, .int .i64 0] 29 (0, 0)))
  have HC := Aside0.mk (disk_Check.calls A0 c0 l0 A1 c1 l1 a s (dchk l0 l1 a) _ (Kd.C_below hr0 HT.out.2.2) hc0 (Kd.C_below hr1 HT.out.2.2) hc1 rfl)
  clear hr0 hr1 hc0 hc1
  have b0_ := (blk_cell HT.out.1 0).trans rfl
  have b1_ := (blk_cell HT.out.1 1).trans rfl
  have b2_ := (blk_cell HT.out.1 2).trans rfl
  have b3_ := (blk_cell HT.out.1 3).trans rfl
  go_enter Try.func12, Try.ntmps12
  go_wp2_with fail
  refine HC.out.mono ?_
  rintro e w1 ⟨rfl, hb⟩
  have HT1 := Aside0.mk (HT.out.below hb)
  clear hb HT HC b0_ b1_ b2_ b3_
  have b1_ := (blk_cell HT1.out.1 1).trans rfl
  have b3_ := (blk_cell HT1.out.1 3).trans rfl
  have d0_ := (blk_cell HT1.out.2.1 0).trans rfl
  have d1_ := (blk_cell HT1.out.2.1 1).trans rfl
  have d2_ := (blk_cell HT1.out.2.1 2).trans rfl
  have df0_ := blk_frozen HT1.out.2.1 0
  have df1_ := blk_frozen HT1.out.2.1 1
  have df2_ := blk_frozen HT1.out.2.1 2
  have hblk := blk_put (blk_put (blk_put HT1.out.2.1 0 (.slice none 0 0) rfl) 1 (.int .i64 0) rfl) 2 (.int .i64 0) rfl
  have hbel := below_setCell (below_setCell (below_setCell HT1.out.2.2 (Nat.le_succ w.heap.size) 0 (.slice none 0 0)) (Nat.le_succ w.heap.size) 1 (.int .i64 0)) (Nat.le_succ w.heap.size) 2 (.int .i64 0)
  have HK := Aside0.mk hblk
  have HL := Aside0.mk hbel
  clear hblk hbel
  rcases h with ⟨h1, h2⟩ | ⟨h1, rfl, rfl⟩ | ⟨h1, rfl, h2, rfl⟩
  · have hk1 : (dchk l0 l1 a != 0) = true := bne_iff_ne.mpr h1
    rw [h2] at *
    go_wp2
    refine bodyPost_ret (results_ct rfl _ _ (w.heap.size + 1) 29 _ (0, 0) _ rfl HK.out hu rfl (by kernel_rfl)) rfl ?_
    exact ⟨rfl, HL.out⟩
  · rw [h1] at *
    go_wp2
    refine bodyPost_ret (results_ct rfl _ _ (w.heap.size + 1) 29 _ (0, 0) _ rfl HK.out hu rfl (by kernel_rfl)) rfl ?_
    exact ⟨rfl, HL.out⟩
  · rw [h1] at *
    have hp : decide (0 < (l1.length : Int)) = true := decide_eq_true (by omega)
    go_wp2
    refine bodyPost_ret (results_ct rfl _ _ (w.heap.size + 1) 29 _ (0, 0) _ rfl HK.out hu rfl (by kernel_rfl)) rfl ?_
    exact ⟨rfl, HL.out⟩

end Go.Proofs.Ytljmdkeeppikhaa.Q
