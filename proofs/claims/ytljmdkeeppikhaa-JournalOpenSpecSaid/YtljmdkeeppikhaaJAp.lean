/- By hand: what journal.Append does. UNDER WAY. -/
import Derived.Test.YtljmdkeeppikhaaJUs
import Derived.Test.YtljmdkeeppikhaaDCl
import Derived.Outline
import Derived.RegionTactic
import Derived.Deep.RegionWith
import Derived.StillTailTactics
namespace Go.Proofs.Ytljmdkeeppikhaa.Q
open Go.RowKit Go.Proofs.YtljmdkeeppikhaaW.PrintWords Go.Proofs.YtljmdkeeppikhaaW.PrintLast Go.Proofs.YtljmdkeeppikhaaW.PrintMore
set_option linter.unusedVariables false
set_option linter.unusedSimpArgs false

theorem clipS_ (A : Option Addr) (n c : Nat) (w : World) (hc : n ≤ c) : Calls Try.prog 37 #[.slice A n c] w fun e w' => e = .returned (.slice A n n) ∧ w' = w := by
  have hu := Try.underlying22
  go_enter Try.func37, Try.ntmps37
  go_wp2
  go_ret
  exact ⟨rfl, rfl⟩

def app.T4 : Bool × List (List Nat × List Nat) := (true, [([], []), ([0], [0]), ([], []), ([2], [2]), ([], []), ([4], [4]), ([5, 1], [5]), ([3, 6], [3, 6]), ([1, 7], [1, 7])])
def app.B4 : List Nat := [0, 1, 0, 4, 0, 16, 51, 127, 255]
theorem app.tab4 : rtab .any (opsOf Try.f15 4) = app.T4 := by kernel_rfl
theorem app.bits4 : waitsOk app.T4.2 app.B4 = true := by kernel_rfl
set_option maxHeartbeats 4000000 in
set_option maxRecDepth 100000 in
theorem append_bad (P : Nat → Prop) (A0 : Option Addr) (c0 : Nat) (l0 : List (List Int)) (a1 a2 : Int) (A1 : Option Addr) (c1 : Nat) (l1 : List Int) (w : World) (h0 : Kd.V (Kd.slice 5 (Kd.int .u8)) 35 w w.heap.size P (.slice A0 l0.length c0) l0)
    (hk : checkV l0 a1 a2 ≠ 0) :
    Calls Try.prog 15 #[.agg #[.slice A0 l0.length c0, .int .i64 a1, .int .i64 a2], .slice A1 l1.length c1] w fun e w' => e = .returned (.tuple #[.agg #[.slice none 0 0, .int .i64 0, .int .i64 0], .int .i64 (checkV l0 a1 a2)]) ∧ Below w.heap.size w w' := by
  have hu := Try.underlying29
  have HB := Aside0.mk (below_alloc (below_alloc (Below.refl w.heap.size w) (.cells #[.slice A0 l0.length c0, .int .i64 a1, .int .i64 a2] 29 (0, 0))) (.cells #[.slice none 0 0, .int .i64 0, .int .i64 0] 29 (0, 0)))
  have HC := Aside0.mk (fun W (hW : Below w.heap.size w W) => journal_Check.calls (0 + l0.length + 1) A0 c0 l0 a1 a2 (checkV l0 a1 a2) W (Kd.C_below (Kd.V_reads' h0).2.2 hW) (Kd.V_reads' h0).2.1 (check_is l0 (Kd.V_reads' h0).2.2.2.1 a1 a2 0))
  clear h0
  generalize checkV l0 a1 a2 = c at *
  have hb0 := Aside0.mk (heap_at_new w (.cells #[.slice A0 l0.length c0, .int .i64 a1, .int .i64 a2] 29 (0, 0)) _ rfl)
  have hb1 := Aside0.mk (heap_at_old (w.alloc (.cells #[.slice A0 l0.length c0, .int .i64 a1, .int .i64 a2] 29 (0, 0))) (.cells #[.slice none 0 0, .int .i64 0, .int .i64 0] 29 (0, 0)) _ _ hb0.out)
  have c0_ := (blk_cell hb1.out 0).trans rfl
  have c1_ := (blk_cell hb1.out 1).trans rfl
  have c2_ := (blk_cell hb1.out 2).trans rfl
  go_enter Try.func15, Try.ntmps15
  go_wp2_with fail
  refine (HC.out _ HB.out).mono ?_
  rintro e w1 ⟨rfl, hb⟩
  have HT := Aside0.mk (heap_below hb (heap_at_new (w.alloc (.cells #[.slice A0 l0.length c0, .int .i64 a1, .int .i64 a2] 29 (0, 0))) (.cells #[.slice none 0 0, .int .i64 0, .int .i64 0] 29 (0, 0)) (w.heap.size + 1) (by simp)))
  have HB1 := Aside0.mk (below_step HB.out hb)
  clear hb HB HC hb0 hb1 c0_ c1_ c2_
  have d0_ := (blk_cell HT.out 0).trans rfl
  have d1_ := (blk_cell HT.out 1).trans rfl
  have d2_ := (blk_cell HT.out 2).trans rfl
  have df0_ := blk_frozen HT.out 0
  have df1_ := blk_frozen HT.out 1
  have df2_ := blk_frozen HT.out 2
  have hk1 : (c == 0) = false := by rw [beq_eq_false_iff_ne]; exact hk
  go_wp2
  have hblk := blk_put (blk_put (blk_put HT.out 0 (.slice none 0 0) rfl) 1 (.int .i64 0) rfl) 2 (.int .i64 0) rfl
  refine bodyPost_ret (results_ct rfl _ _ (w.heap.size + 1) 29 _ (0, 0) _ rfl hblk hu rfl (by kernel_rfl)) rfl ?_
  exact ⟨rfl, below_setCell (below_setCell (below_setCell HB1.out (Nat.le_succ _) _ _) (Nat.le_succ _) _ _) (Nat.le_succ _) _ _⟩
set_option maxHeartbeats 4000000 in
set_option maxRecDepth 100000 in
theorem append_limit (P : Nat → Prop) (A0 : Option Addr) (c0 : Nat) (l0 : List (List Int)) (a1 a2 : Int) (A1 : Option Addr) (c1 : Nat) (l1 : List Int) (w : World) (h0 : Kd.V (Kd.slice 5 (Kd.int .u8)) 35 w w.heap.size P (.slice A0 l0.length c0) l0)
    (hr1 : Kd.C (Kd.int .u8) w A1 l1.length l1) (hc1 : l1.length ≤ c1) (hk : checkV l0 a1 a2 = 0) (hm : sectorsV l1 > wrap64 (a1 - usedV l0)) :
    Calls Try.prog 15 #[.agg #[.slice A0 l0.length c0, .int .i64 a1, .int .i64 a2], .slice A1 l1.length c1] w fun e w' => e = .returned (.tuple #[.agg #[.slice none 0 0, .int .i64 0, .int .i64 0], .int .i64 2]) ∧ Below w.heap.size w w' := by
  have hu := Try.underlying29
  have HB := Aside0.mk (below_alloc (below_alloc (Below.refl w.heap.size w) (.cells #[.slice A0 l0.length c0, .int .i64 a1, .int .i64 a2] 29 (0, 0))) (.cells #[.slice none 0 0, .int .i64 0, .int .i64 0] 29 (0, 0)))
  have HC := Aside0.mk (fun W (hW : Below w.heap.size w W) => journal_Check.calls (0 + l0.length + 1) A0 c0 l0 a1 a2 (checkV l0 a1 a2) W (Kd.C_below (Kd.V_reads' h0).2.2 hW) (Kd.V_reads' h0).2.1 (check_is l0 (Kd.V_reads' h0).2.2.2.1 a1 a2 0))
  have HU := Aside0.mk (fun W (hW : Below w.heap.size w W) => journal_used.calls (0 + l0.length + 1) A0 c0 l0 (usedV l0) W (Kd.C_below (Kd.V_reads' h0).2.2 hW) (Kd.V_reads' h0).2.1 (used_is l0 (Kd.V_reads' h0).2.2.2.1 0))
  have HR1 := Aside0.mk hr1
  have HCc := Aside0.mk hc1
  have HM := Aside0.mk hm
  rw [hk] at HC
  clear h0 hr1 hc1 hm hk
  have hb0 := Aside0.mk (heap_at_new w (.cells #[.slice A0 l0.length c0, .int .i64 a1, .int .i64 a2] 29 (0, 0)) _ rfl)
  have hb1 := Aside0.mk (heap_at_old (w.alloc (.cells #[.slice A0 l0.length c0, .int .i64 a1, .int .i64 a2] 29 (0, 0))) (.cells #[.slice none 0 0, .int .i64 0, .int .i64 0] 29 (0, 0)) _ _ hb0.out)
  have c0_ := (blk_cell hb1.out 0).trans rfl
  have c1_ := (blk_cell hb1.out 1).trans rfl
  have c2_ := (blk_cell hb1.out 2).trans rfl
  go_enter Try.func15, Try.ntmps15
  go_wp2_with fail
  refine (HC.out _ HB.out).mono ?_
  rintro e w1 ⟨rfl, hb⟩
  have HT := Aside0.mk (heap_below hb (heap_at_new (w.alloc (.cells #[.slice A0 l0.length c0, .int .i64 a1, .int .i64 a2] 29 (0, 0))) (.cells #[.slice none 0 0, .int .i64 0, .int .i64 0] 29 (0, 0)) (w.heap.size + 1) (by simp)))
  have HB1 := Aside0.mk (below_step HB.out hb)
  have HS := Aside0.mk (heap_below hb hb1.out)
  clear hb HB HC hb0 hb1 c0_ c1_ c2_
  go_upto_region 4 with fail
  have hd_ := Aside0.mk (show Below w.heap.size w w1.drew from below_step HB1.out (below_drew1 (Below.refl _ _)))
  refine start_ (n := 9) (S := fun w' => w'.heap[w.heap.size]? = some (.cells #[.slice A0 l0.length c0, .int .i64 a1, .int .i64 a2] 29 (0, 0)) ∧ Below w.heap.size w w' ∧ w'.heap[w.heap.size + 1]? = some (.cells #[.slice none 0 0, .int .i64 0, .int .i64 0] 29 (0, 0))) (ds := []) #[false, false, false, false, false, false, false, false, false] (by kernel_rfl) rfl rfl ⟨(blk_drew HS.out), (below_step HB1.out (below_drew1 (Below.refl _ _))), (blk_drew HT.out)⟩ (fun hHeld => ?_)
  refine with_tabW app.tab4 app.bits4 (fun HT_ HW_ => ?_)
  refine pure_ (i := 0) (N := some 13) (v := ?_) (a' := ?_) #[true, false, false, false, false, false, false, false, false] rfl rfl (any_of HT_.out (by kernel_rfl)) (fun _ _ _ h => h) (Or.inl ⟨by rfl, ?_⟩) ?_ ?_
  rotate_left
  · intro w'
    go_simp
    with_reducible rfl
  rotate_left
  · simp only [Act.put, List.setIfInBounds_toArray, List.set_cons_zero, List.set_cons_succ, i64_w, i32_w]
    rfl
  refine pure_ (i := 2) (N := some 15) (v := ?_) (a' := ?_) #[true, false, true, false, false, false, false, false, false] rfl rfl (any_of HT_.out (by kernel_rfl)) (fun _ _ _ h => h) (Or.inl ⟨by rfl, ?_⟩) ?_ ?_
  rotate_left
  · intro w'
    go_simp
    with_reducible rfl
  rotate_left
  · simp only [Act.put, List.setIfInBounds_toArray, List.set_cons_zero, List.set_cons_succ, i64_w, i32_w]
    rfl
  refine pure_ (i := 4) (N := some 17) (v := ?_) (a' := ?_) #[true, false, true, false, true, false, false, false, false] rfl rfl (any_of HT_.out (by kernel_rfl)) (fun _ _ _ h => h) (Or.inl ⟨by rfl, ?_⟩) ?_ ?_
  rotate_left
  · intro w'
    go_simp
    with_reducible rfl
  rotate_left
  · simp only [Act.put, List.setIfInBounds_toArray, List.set_cons_zero, List.set_cons_succ, i64_w, i32_w]
    rfl
  refine take_ (i := 3) (N := some 16) (v := ?_) (a' := ?_) #[true, false, true, true, true, false, false, false, false] rfl rfl (take_ofW HT_.out HW_.out (by kernel_rfl)) (fun _ _ _ h => h) (Or.inl ⟨by rfl, ?_⟩) hHeld ?_ ?_
  rotate_left
  · rintro w' ⟨s0, s1, s2⟩
    have e0_ := (blk_cell s0 0).trans rfl
    have e1_ := (blk_cell s0 1).trans rfl
    go_simp
    with_reducible rfl
  rotate_left
  · simp only [Act.put, List.setIfInBounds_toArray, List.set_cons_zero, List.set_cons_succ, i64_w, i32_w]
    rfl
  refine take_ (i := 5) (N := some 18) (v := ?_) (a' := ?_) #[true, false, true, true, true, true, false, false, false] rfl rfl (take_ofW HT_.out HW_.out (by kernel_rfl)) (fun _ _ _ h => h) (Or.inl ⟨by rfl, ?_⟩) hHeld ?_ ?_
  rotate_left
  · rintro w' ⟨s0, s1, s2⟩
    have e0_ := (blk_cell s0 0).trans rfl
    have e1_ := (blk_cell s0 1).trans rfl
    go_simp
    with_reducible rfl
  rotate_left
  · simp only [Act.put, List.setIfInBounds_toArray, List.set_cons_zero, List.set_cons_succ, i64_w, i32_w]
    rfl
  refine one_ (i := 1) (N := some 14) #[true, true, true, true, true, true, false, false, false] rfl rfl (one_of HT_.out (by kernel_rfl)) (by decide) (fun K hK => ?_)
  refine goes_ Try.func35 (by kernel_rfl) rfl #[.slice A1 l1.length c1] (by rfl) rfl rfl (by (try simp only [List.map_toArray, List.map_cons, List.map_nil]); first | done | rfl | (simp only [List.length_drop, List.length_take]; rfl)) ?_
  refine (journal_sectors.calls A1 c1 l1 (sectorsV l1) w1.drew (Kd.C_below HR1.out hd_.out) HCc.out rfl).mono ?_
  rintro e w2 ⟨rfl, hb⟩
  have HS2 := Aside0.mk (heap_below hb (blk_drew HS.out))
  have HT2 := Aside0.mk (heap_below hb (blk_drew HT.out))
  have HB2 := Aside0.mk (below_step hd_.out hb)
  clear hb
  refine ⟨_, rfl, ?_⟩
  refine hK.out _ _ ⟨HS2.out, HB2.out, HT2.out⟩ (fun hHeld => ?_)
  clear hK K
  refine norm_ (a' := ?_) ?_ ?_
  rotate_left
  · show Act.put _ (some 14) _ = _
    simp only [Act.put, List.setIfInBounds_toArray, List.set_cons_zero, List.set_cons_succ, i64_w, i32_w]
    rfl
  refine one_ (i := 6) (N := some 19) #[true, true, true, true, true, true, true, false, false] rfl rfl (one_of HT_.out (by kernel_rfl)) (by decide) (fun K hK => ?_)
  refine goes_ Try.func36 (by kernel_rfl) rfl #[.slice A0 l0.length c0] (by rfl) rfl rfl (by (try simp only [List.map_toArray, List.map_cons, List.map_nil]); first | done | rfl | (simp only [List.length_drop, List.length_take]; rfl)) ?_
  refine (HU.out _ HB2.out).mono ?_
  rintro e w3 ⟨rfl, hb⟩
  have HS3 := Aside0.mk (heap_below hb HS2.out)
  have HT3 := Aside0.mk (heap_below hb HT2.out)
  have HB3 := Aside0.mk (below_step HB2.out hb)
  clear hb
  refine ⟨_, rfl, ?_⟩
  refine hK.out _ _ ⟨HS3.out, HB3.out, HT3.out⟩ (fun hHeld => ?_)
  clear hK K
  refine norm_ (a' := ?_) ?_ ?_
  rotate_left
  · show Act.put _ (some 19) _ = _
    simp only [Act.put, List.setIfInBounds_toArray, List.set_cons_zero, List.set_cons_succ, i64_w, i32_w]
    rfl
  refine pure_ (i := 7) (N := some 20) (v := ?_) (a' := ?_) #[true, true, true, true, true, true, true, true, false] rfl rfl (any_of HT_.out (by kernel_rfl)) (fun _ _ _ h => h) (Or.inl ⟨by rfl, ?_⟩) ?_ ?_
  rotate_left
  · intro w'
    go_simp
    with_reducible rfl
  rotate_left
  · simp only [Act.put, List.setIfInBounds_toArray, List.set_cons_zero, List.set_cons_succ, i64_w, i32_w]
    rfl
  refine pure_ (i := 8) (N := some 21) (v := ?_) (a' := ?_) #[true, true, true, true, true, true, true, true, true] rfl rfl (any_of HT_.out (by kernel_rfl)) (fun _ _ _ h => h) (Or.inl ⟨by rfl, ?_⟩) ?_ ?_
  rotate_left
  · intro w'
    go_simp
    with_reducible rfl
  rotate_left
  · simp only [Act.put, List.setIfInBounds_toArray, List.set_cons_zero, List.set_cons_succ, i64_w, i32_w]
    rfl
  refine done_ (done_of HT_.out (by kernel_rfl)) ?_
  have hd1 : decide (wrap64 (a1 - usedV l0) < sectorsV l1) = true := decide_eq_true HM.out
  simp only [hd1]
  clear HT_ HW_ hHeld HS HT HB1 hd_ HS2 HT2 HB2 HU HM hd1
  have d0_ := (blk_cell HT3.out 0).trans rfl
  have d1_ := (blk_cell HT3.out 1).trans rfl
  have d2_ := (blk_cell HT3.out 2).trans rfl
  have df0_ := blk_frozen HT3.out 0
  have df1_ := blk_frozen HT3.out 1
  have df2_ := blk_frozen HT3.out 2
  go_wp2
  have hblk := blk_put (blk_put (blk_put HT3.out 0 (.slice none 0 0) rfl) 1 (.int .i64 0) rfl) 2 (.int .i64 0) rfl
  refine bodyPost_ret (results_ct rfl _ _ (w.heap.size + 1) 29 _ (0, 0) _ rfl hblk hu rfl (by kernel_rfl)) rfl ?_
  exact ⟨rfl, below_setCell (below_setCell (below_setCell HB3.out (Nat.le_succ _) _ _) (Nat.le_succ _) _ _) (Nat.le_succ _) _ _⟩
set_option maxHeartbeats 4000000 in
set_option maxRecDepth 100000 in
theorem int_tight {k : IntKind} {e : Nat} {w : World} {base : Nat} {ok : Nat → Prop} {v : Value} {xs : List Int} (h : Kd.N (Kd.int k) e w base ok v xs) : Kd.N (Kd.int k) e w base (fun i => base ≤ i) v xs := by
  have hb := Kd.N_base h
  obtain ⟨h0, rows, hl, hR, hf⟩ := h
  exact ⟨hb, rows, hl, hR, fun j x c hx hc W' _ => by
    have h := Kd.FK_now (hf j x c hx hc)
    exact h⟩

theorem append_ok (P : Nat → Prop) (A0 : Option Addr) (c0 : Nat) (l0 : List (List Int)) (a1 a2 : Int) (A1 : Option Addr) (c1 : Nat) (l1 : List Int) (w : World) (h0 : Kd.V (Kd.slice 5 (Kd.int .u8)) 35 w w.heap.size P (.slice A0 l0.length c0) l0)
    (hr1 : Kd.C (Kd.int .u8) w A1 l1.length l1) (hc1 : l1.length ≤ c1) (hk : checkV l0 a1 a2 = 0) (hm : ¬ sectorsV l1 > wrap64 (a1 - usedV l0)) (hl : l1.length ≤ 100000) (hl0 : l0.length ≤ 100000) :
    Calls Try.prog 15 #[.agg #[.slice A0 l0.length c0, .int .i64 a1, .int .i64 a2], .slice A1 l1.length c1] w fun e w' => ∃ v0_ : Value, e = .returned (.tuple #[.agg #[v0_, .int .i64 a1, .int .i64 a2], .int .i64 0]) ∧ Kd.V (Kd.slice 5 (Kd.int .u8)) 35 w' w.heap.size (fun k_ => P k_ ∨ w.heap.size ≤ k_) v0_ (l0 ++ [l1]) ∧ Below w.heap.size w w' := by
  have hu := Try.underlying29
  have HB := Aside0.mk (below_alloc (below_alloc (Below.refl w.heap.size w) (.cells #[.slice A0 l0.length c0, .int .i64 a1, .int .i64 a2] 29 (0, 0))) (.cells #[.slice none 0 0, .int .i64 0, .int .i64 0] 29 (0, 0)))
  have HC := Aside0.mk (fun W (hW : Below w.heap.size w W) => journal_Check.calls (0 + l0.length + 1) A0 c0 l0 a1 a2 (checkV l0 a1 a2) W (Kd.C_below (Kd.V_reads' h0).2.2 hW) (Kd.V_reads' h0).2.1 (check_is l0 (Kd.V_reads' h0).2.2.2.1 a1 a2 0))
  have HU := Aside0.mk (fun W (hW : Below w.heap.size w W) => journal_used.calls (0 + l0.length + 1) A0 c0 l0 (usedV l0) W (Kd.C_below (Kd.V_reads' h0).2.2 hW) (Kd.V_reads' h0).2.1 (used_is l0 (Kd.V_reads' h0).2.2.2.1 0))
  have HR1 := Aside0.mk hr1
  have Hl0 := Aside0.mk hl0
  have HF0 := Aside0.mk (Kd.V_F (Kd.V_bound h0))
  have HV0 := Aside0.mk (Kd.V_reads' h0).2.1
  have HCc := Aside0.mk hc1
  have HM := Aside0.mk hm
  rw [hk] at HC
  clear h0 hr1 hc1 hm hk
  have hb0 := Aside0.mk (heap_at_new w (.cells #[.slice A0 l0.length c0, .int .i64 a1, .int .i64 a2] 29 (0, 0)) _ rfl)
  have hb1 := Aside0.mk (heap_at_old (w.alloc (.cells #[.slice A0 l0.length c0, .int .i64 a1, .int .i64 a2] 29 (0, 0))) (.cells #[.slice none 0 0, .int .i64 0, .int .i64 0] 29 (0, 0)) _ _ hb0.out)
  have c0_ := (blk_cell hb1.out 0).trans rfl
  have c1_ := (blk_cell hb1.out 1).trans rfl
  have c2_ := (blk_cell hb1.out 2).trans rfl
  go_enter Try.func15, Try.ntmps15
  go_wp2_with fail
  refine (HC.out _ HB.out).mono ?_
  rintro e w1 ⟨rfl, hb⟩
  have HT := Aside0.mk (heap_below hb (heap_at_new (w.alloc (.cells #[.slice A0 l0.length c0, .int .i64 a1, .int .i64 a2] 29 (0, 0))) (.cells #[.slice none 0 0, .int .i64 0, .int .i64 0] 29 (0, 0)) (w.heap.size + 1) (by simp)))
  have HB1 := Aside0.mk (below_step HB.out hb)
  have HS := Aside0.mk (heap_below hb hb1.out)
  clear hb HB HC hb0 hb1 c0_ c1_ c2_
  go_upto_region 4 with fail
  have hd_ := Aside0.mk (show Below w.heap.size w w1.drew from below_step HB1.out (below_drew1 (Below.refl _ _)))
  refine start_ (n := 9) (S := fun w' => w'.heap[w.heap.size]? = some (.cells #[.slice A0 l0.length c0, .int .i64 a1, .int .i64 a2] 29 (0, 0)) ∧ Below w.heap.size w w' ∧ w'.heap[w.heap.size + 1]? = some (.cells #[.slice none 0 0, .int .i64 0, .int .i64 0] 29 (0, 0))) (ds := []) #[false, false, false, false, false, false, false, false, false] (by kernel_rfl) rfl rfl ⟨(blk_drew HS.out), (below_step HB1.out (below_drew1 (Below.refl _ _))), (blk_drew HT.out)⟩ (fun hHeld => ?_)
  refine with_tabW app.tab4 app.bits4 (fun HT_ HW_ => ?_)
  refine pure_ (i := 0) (N := some 13) (v := ?_) (a' := ?_) #[true, false, false, false, false, false, false, false, false] rfl rfl (any_of HT_.out (by kernel_rfl)) (fun _ _ _ h => h) (Or.inl ⟨by rfl, ?_⟩) ?_ ?_
  rotate_left
  · intro w'
    go_simp
    with_reducible rfl
  rotate_left
  · simp only [Act.put, List.setIfInBounds_toArray, List.set_cons_zero, List.set_cons_succ, i64_w, i32_w]
    rfl
  refine pure_ (i := 2) (N := some 15) (v := ?_) (a' := ?_) #[true, false, true, false, false, false, false, false, false] rfl rfl (any_of HT_.out (by kernel_rfl)) (fun _ _ _ h => h) (Or.inl ⟨by rfl, ?_⟩) ?_ ?_
  rotate_left
  · intro w'
    go_simp
    with_reducible rfl
  rotate_left
  · simp only [Act.put, List.setIfInBounds_toArray, List.set_cons_zero, List.set_cons_succ, i64_w, i32_w]
    rfl
  refine pure_ (i := 4) (N := some 17) (v := ?_) (a' := ?_) #[true, false, true, false, true, false, false, false, false] rfl rfl (any_of HT_.out (by kernel_rfl)) (fun _ _ _ h => h) (Or.inl ⟨by rfl, ?_⟩) ?_ ?_
  rotate_left
  · intro w'
    go_simp
    with_reducible rfl
  rotate_left
  · simp only [Act.put, List.setIfInBounds_toArray, List.set_cons_zero, List.set_cons_succ, i64_w, i32_w]
    rfl
  refine take_ (i := 3) (N := some 16) (v := ?_) (a' := ?_) #[true, false, true, true, true, false, false, false, false] rfl rfl (take_ofW HT_.out HW_.out (by kernel_rfl)) (fun _ _ _ h => h) (Or.inl ⟨by rfl, ?_⟩) hHeld ?_ ?_
  rotate_left
  · rintro w' ⟨s0, s1, s2⟩
    have e0_ := (blk_cell s0 0).trans rfl
    have e1_ := (blk_cell s0 1).trans rfl
    go_simp
    with_reducible rfl
  rotate_left
  · simp only [Act.put, List.setIfInBounds_toArray, List.set_cons_zero, List.set_cons_succ, i64_w, i32_w]
    rfl
  refine take_ (i := 5) (N := some 18) (v := ?_) (a' := ?_) #[true, false, true, true, true, true, false, false, false] rfl rfl (take_ofW HT_.out HW_.out (by kernel_rfl)) (fun _ _ _ h => h) (Or.inl ⟨by rfl, ?_⟩) hHeld ?_ ?_
  rotate_left
  · rintro w' ⟨s0, s1, s2⟩
    have e0_ := (blk_cell s0 0).trans rfl
    have e1_ := (blk_cell s0 1).trans rfl
    go_simp
    with_reducible rfl
  rotate_left
  · simp only [Act.put, List.setIfInBounds_toArray, List.set_cons_zero, List.set_cons_succ, i64_w, i32_w]
    rfl
  refine one_ (i := 1) (N := some 14) #[true, true, true, true, true, true, false, false, false] rfl rfl (one_of HT_.out (by kernel_rfl)) (by decide) (fun K hK => ?_)
  refine goes_ Try.func35 (by kernel_rfl) rfl #[.slice A1 l1.length c1] (by rfl) rfl rfl (by (try simp only [List.map_toArray, List.map_cons, List.map_nil]); first | done | rfl | (simp only [List.length_drop, List.length_take]; rfl)) ?_
  refine (journal_sectors.calls A1 c1 l1 (sectorsV l1) w1.drew (Kd.C_below HR1.out hd_.out) HCc.out rfl).mono ?_
  rintro e w2 ⟨rfl, hb⟩
  have HS2 := Aside0.mk (heap_below hb (blk_drew HS.out))
  have HT2 := Aside0.mk (heap_below hb (blk_drew HT.out))
  have HB2 := Aside0.mk (below_step hd_.out hb)
  clear hb
  refine ⟨_, rfl, ?_⟩
  refine hK.out _ _ ⟨HS2.out, HB2.out, HT2.out⟩ (fun hHeld => ?_)
  clear hK K
  refine norm_ (a' := ?_) ?_ ?_
  rotate_left
  · show Act.put _ (some 14) _ = _
    simp only [Act.put, List.setIfInBounds_toArray, List.set_cons_zero, List.set_cons_succ, i64_w, i32_w]
    rfl
  refine one_ (i := 6) (N := some 19) #[true, true, true, true, true, true, true, false, false] rfl rfl (one_of HT_.out (by kernel_rfl)) (by decide) (fun K hK => ?_)
  refine goes_ Try.func36 (by kernel_rfl) rfl #[.slice A0 l0.length c0] (by rfl) rfl rfl (by (try simp only [List.map_toArray, List.map_cons, List.map_nil]); first | done | rfl | (simp only [List.length_drop, List.length_take]; rfl)) ?_
  refine (HU.out _ HB2.out).mono ?_
  rintro e w3 ⟨rfl, hb⟩
  have HS3 := Aside0.mk (heap_below hb HS2.out)
  have HT3 := Aside0.mk (heap_below hb HT2.out)
  have HB3 := Aside0.mk (below_step HB2.out hb)
  clear hb
  refine ⟨_, rfl, ?_⟩
  refine hK.out _ _ ⟨HS3.out, HB3.out, HT3.out⟩ (fun hHeld => ?_)
  clear hK K
  refine norm_ (a' := ?_) ?_ ?_
  rotate_left
  · show Act.put _ (some 19) _ = _
    simp only [Act.put, List.setIfInBounds_toArray, List.set_cons_zero, List.set_cons_succ, i64_w, i32_w]
    rfl
  refine pure_ (i := 7) (N := some 20) (v := ?_) (a' := ?_) #[true, true, true, true, true, true, true, true, false] rfl rfl (any_of HT_.out (by kernel_rfl)) (fun _ _ _ h => h) (Or.inl ⟨by rfl, ?_⟩) ?_ ?_
  rotate_left
  · intro w'
    go_simp
    with_reducible rfl
  rotate_left
  · simp only [Act.put, List.setIfInBounds_toArray, List.set_cons_zero, List.set_cons_succ, i64_w, i32_w]
    rfl
  refine pure_ (i := 8) (N := some 21) (v := ?_) (a' := ?_) #[true, true, true, true, true, true, true, true, true] rfl rfl (any_of HT_.out (by kernel_rfl)) (fun _ _ _ h => h) (Or.inl ⟨by rfl, ?_⟩) ?_ ?_
  rotate_left
  · intro w'
    go_simp
    with_reducible rfl
  rotate_left
  · simp only [Act.put, List.setIfInBounds_toArray, List.set_cons_zero, List.set_cons_succ, i64_w, i32_w]
    rfl
  refine done_ (done_of HT_.out (by kernel_rfl)) ?_
  have hd1 : decide (wrap64 (a1 - usedV l0) < sectorsV l1) = false := decide_eq_false (Int.not_lt.2 HM.out)
  simp only [hd1]
  clear HT_ HW_ hHeld HS HT HB1 hd_ HS2 HT2 HB2 HU HM hd1
  have c0_ := (blk_cell HS3.out 0).trans rfl
  have d0_ := (blk_cell HT3.out 0).trans rfl
  have d1_ := (blk_cell HT3.out 1).trans rfl
  have d2_ := (blk_cell HT3.out 2).trans rfl
  go_wp2_with fail
  refine (clipS_ A0 l0.length c0 w3 HV0.out).mono ?_
  rintro e w4 ⟨rfl, rfl⟩
  go_wp2_with fail
  refine (clB l1 A1 c1 _ w4 (Kd.V_mk HCc.out (Kd.C_F (Kd.heap_int .u8) (Kd.C_below HR1.out HB3.out))) hl).mono ?_
  rintro e w5 ⟨v', rfl, hN, hb⟩
  obtain ⟨A', c', rfl⟩ := Kd.N_slice hN
  have HN := Aside0.mk hN
  have HS5 := Aside0.mk (heap_below hb HS3.out)
  have HT5 := Aside0.mk (heap_below hb HT3.out)
  have HB5 := Aside0.mk (below_step HB3.out hb)
  have HB45 := Aside0.mk hb
  have Hg3 := Aside0.mk (show w.heap.size + 1 < w4.heap.size from (Array.getElem?_eq_some_iff.1 HT3.out).1)
  have HF5 := Aside0.mk (Kd.F_below (Kd.F_bound HF0.out) HB5.out)
  clear hN hb HS3 HT3 HB3 c0_ d0_ d1_ d2_
  obtain ⟨i0, hi, hzz⟩ := Option.map_eq_some_iff.1 infS
  simp only [Prod.mk.injEq] at hzz
  obtain ⟨hz0, hz1, hz2⟩ := hzz
  have hu22 := Try.underlying22
  obtain ⟨inner, hi1, hi2⟩ := row_inner HF5.out
  have HI1 := Aside0.mk hi1
  have HI2 := Aside0.mk hi2
  have hn0 := Aside0.mk (show A0 = none → l0.length = 0 ∧ l0.length = 0 from fun hA => by
    rcases Nat.eq_zero_or_pos l0.length with h | h
    · exact ⟨h, h⟩
    · obtain ⟨ad, e, _⟩ := (Kd.F_now HF5.out).2.2 h
      rw [hA] at e; cases e)
  clear hi1 hi2
  go_wp2_with (at_builtin; refine wpList_append_grows _ rfl _ _ 22 rfl 35 i0 _ 1 24 hu22 hi hz0 hz1 hz2 rfl (by decide) A0 l0.length l0.length inner rfl hn0.out HI1.out.1 ?qh ⟨w5.heap.size, 0, none⟩ 1 1 [.slice A' l1.length c'] rfl rfl ?qc ?q1 (Nat.lt_succ_self _) ?qb1 ?qb2 ?_)
  case qh => exact fun b hb j u hj => Lib.cell?_alloc_some _ (HI2.out b hb j u hj)
  case qc =>
    intro j u hj
    rw [Addr.add_lit, Nat.zero_add, blk_cell (heap_at_new w5 (.cells #[.slice A' l1.length c'] 35 (0, 0)) _ rfl) j]
    simpa using hj
  case q1 =>
    intro u hu_
    simp only [List.mem_cons, List.not_mem_nil, or_false] at hu_
    rcases hu_ with rfl
    rfl
  case qb1 => simp only [maxLen]; have := Hl0.out; omega
  case qb2 => have := Hl0.out; omega
  intro v6 w6 hown hgrow
  have HS6 := Aside0.mk (blk_grown (blk_alloc HS5.out (.cells #[.slice A' l1.length c'] 35 (0, 0))) hgrow (by simp))
  have HT6 := Aside0.mk (blk_grown (blk_alloc HT5.out (.cells #[.slice A' l1.length c'] 35 (0, 0))) hgrow (by simp))
  have HO := Aside0.mk hown
  have HG := Aside0.mk hgrow
  clear hown hgrow
  have c0_ := (blk_cell HS6.out 0).trans rfl
  have c1_ := (blk_cell HS6.out 1).trans rfl
  have c2_ := (blk_cell HS6.out 2).trans rfl
  have cf0_ := blk_frozen HS6.out 0
  have d0_ := (blk_cell HT6.out 0).trans rfl
  have d1_ := (blk_cell HT6.out 1).trans rfl
  have d2_ := (blk_cell HT6.out 2).trans rfl
  have df0_ := blk_frozen HT6.out 0
  have df1_ := blk_frozen HT6.out 1
  have df2_ := blk_frozen HT6.out 2
  obtain ⟨g6, cap6, rfl⟩ : ∃ g cap, v6 = .slice (some ⟨g, 0, none⟩) (l0.length + 1) cap := by
    rcases HO.out.2 with ⟨_, h2⟩ | ⟨g, cap, cur, h1, h2, _⟩
    · omega
    · exact ⟨g, cap, h1⟩
  go_wp2
  have hblk := blk_put (blk_put (blk_put (blk_far (p := ⟨w.heap.size, 0, none⟩) HT6.out (show w.heap.size + 1 ≠ w.heap.size by omega) (.slice (some ⟨g6, 0, none⟩) (l0.length + 1) cap6)) 0 (.slice (some ⟨g6, 0, none⟩) (l0.length + 1) cap6) rfl) 1 (.int .i64 a1) rfl) 2 (.int .i64 a2) rfl
  refine bodyPost_ret (results_ct rfl _ _ (w.heap.size + 1) 29 _ (0, 0) _ rfl hblk hu rfl (by kernel_rfl)) rfl ?_
  have hg3 := Hg3.out
  have hg5 : w4.heap.size ≤ w5.heap.size := HB45.out.size
  have hN5 := Kd.N_bound (int_tight HN.out)
  have hx : Kd.FK (Kd.slice 5 (Kd.int .u8)) w6 (fun k => w4.heap.size ≤ k ∧ k < w5.heap.size) l1 [.slice A' l1.length c'] :=
    Kd.FK_slice_mk (Kd.N_reads' HN.out).2.1 (Kd.N_F (Kd.N_step (Kd.N_alloc hN5 (.cells #[.slice A' l1.length c'] 35 (0, 0))) (fun k hk _ => HG.out.block k (Nat.lt_of_lt_of_le hk.2 (by simp)) (by simp))))
  have HI7 := HI1.out.imp_ (fun p c hk => Kd.FK_step (Kd.FK_step (Kd.FK_bound hk) (fun k _ hlt => (below_alloc (Below.refl w5.heap.size w5) (.cells #[.slice A' l1.length c'] 35 (0, 0))).block k hlt)) (fun k hk _ => HG.out.block k (Nat.lt_of_lt_of_le hk.2 (by simp)) (by simp)))
  have hgs : w5.heap.size + 1 ≤ g6 := by
    rcases HO.out.2 with ⟨_, h2⟩ | ⟨g, cap, cur, h1, h2, _⟩
    · omega
    · simp only [Value.slice.injEq, Option.some.injEq, Addr.mk.injEq, and_true] at h1
      have h3 : w5.heap.size + 1 ≤ g := by simpa using h2
      omega
  have hown : w6.ownsRow (w5.heap.size + 1) 35 1 (.slice (some ⟨g6, 0, none⟩) (l0.length + 1) cap6) (l0.length + 1) (inner ++ [.slice A' l1.length c']) := by simpa using HO.out
  have hNN : Kd.N (Kd.slice 5 (Kd.int .u8)) 35 w6 (w5.heap.size + 1) (fun k => (P k ∨ w.heap.size ≤ k) ∧ k ≠ w.heap.size ∧ k ≠ w.heap.size + 1) (.slice (some ⟨g6, 0, none⟩) (l0.length + 1) cap6) (l0 ++ [l1]) := by
    refine own_N (inner := inner ++ [.slice A' l1.length c']) (okp := fun k => (((P k ∧ k < w.heap.size) ∧ k < w.heap.size) ∧ k < w5.heap.size) ∨ (w4.heap.size ≤ k ∧ k < w5.heap.size)) (by rw [List.length_append]; exact hown) (Reps.snoc (HI7.imp_ (fun p c hk => Kd.FK_mono hk (fun k h => .inl h))) (Kd.FK_mono hx (fun k h => .inr h)) rfl) ?_ ?_
    · intro k hk
      simp only [Value.ownBlock, ne_eq, Option.some.injEq]
      rcases hk with ⟨⟨⟨h1, h2⟩, _⟩, h3⟩ | ⟨h1, h2⟩
      · exact ⟨⟨.inl h1, by omega, by omega⟩, by omega⟩
      · exact ⟨⟨.inr (by omega), by omega, by omega⟩, by omega⟩
    · intro k hk
      simp only [Value.ownBlock, Option.some.injEq] at hk
      exact ⟨.inr (by omega), by omega, by omega⟩
  have hBg : Below w.heap.size w w6 := (below_alloc HB5.out (.cells #[.slice A' l1.length c'] 35 (0, 0))).grown HG.out (by have := HB5.out.size; simp only [World.alloc, Array.size_push]; omega) (fun k hk => by cases hk)
  have hBf := below_setCell (below_setCell (below_setCell (below_setCell hBg (Nat.le_refl w.heap.size) 0 (.slice (some ⟨g6, 0, none⟩) (l0.length + 1) cap6)) (Nat.le_succ w.heap.size) 0 (.slice (some ⟨g6, 0, none⟩) (l0.length + 1) cap6)) (Nat.le_succ w.heap.size) 1 (.int .i64 a1)) (Nat.le_succ w.heap.size) 2 (.int .i64 a2)
  refine ⟨_, rfl, ?_, hBf⟩
  refine Kd.V_mono (Kd.V_far (Kd.V_far (Kd.V_far (Kd.V_far (Kd.N_V hNN) (fun k hk => hk.2.1) _) (fun k hk => hk.2.2) _) (fun k hk => hk.2.2) _) (fun k hk => hk.2.2) _) (fun k hk => hk.1)

def journal_Append.f (l0 : List (List Int)) (a1 : Int) (a2 : Int) (l1 : List Int) : Option ((List (List Int)) × Int × Int × Int) :=
  if checkV l0 a1 a2 ≠ 0 then some ([], 0, 0, checkV l0 a1 a2) else if sectorsV l1 > wrap64 (a1 - usedV l0) then some ([], 0, 0, 2) else if l1.length ≤ 100000 ∧ l0.length ≤ 100000 then some (l0 ++ [l1], a1, a2, 0) else none
theorem journal_Append.calls (P0_0_ : Nat → Prop) (A0_0 : Option Addr) (c0_0 : Nat) (l0_0 : List (List Int)) (a0_1 : Int) (a0_2 : Int) (A1 : Option Addr) (c1 : Nat) (l1 : List Int) (r1 : List (List Int)) (r2 : Int) (r3 : Int) (r4 : Int) (w : World) (hs0_0 : Kd.V (Kd.slice 5 (Kd.int .u8)) 35 w w.heap.size (fun k_ => P0_0_ k_) (.slice A0_0 l0_0.length c0_0) l0_0) (hr1 : Kd.C (Kd.int .u8) w A1 l1.length l1) (hc1 : l1.length ≤ c1) (h : journal_Append.f l0_0 a0_1 a0_2 l1 = some (r1, r2, r3, r4)) :
    Calls Try.prog 15 #[.agg #[.slice A0_0 l0_0.length c0_0, .int .i64 a0_1, .int .i64 a0_2], .slice A1 l1.length c1] w fun e w' => ∃ v0_ : Value, e = .returned (.tuple #[.agg #[v0_, .int .i64 r2, .int .i64 r3], .int .i64 r4]) ∧ Kd.V (Kd.slice 5 (Kd.int .u8)) 35 w' w.heap.size (fun k_ => (P0_0_ k_ ∨ w.heap.size ≤ k_)) v0_ r1 ∧ Below w.heap.size w w' := by
  unfold journal_Append.f at h
  by_cases hk : checkV l0_0 a0_1 a0_2 = 0
  · rw [if_neg (fun hn => hn hk)] at h
    by_cases hm : sectorsV l1 > wrap64 (a0_1 - usedV l0_0)
    · rw [if_pos hm] at h
      simp only [Option.some.injEq, Prod.mk.injEq] at h
      obtain ⟨rfl, rfl, rfl, rfl⟩ := h
      refine (append_limit _ A0_0 c0_0 l0_0 a0_1 a0_2 A1 c1 l1 w hs0_0 hr1 hc1 hk hm).mono ?_
      rintro e w' ⟨rfl, hb⟩
      exact ⟨_, rfl, Kd.V_nil _ _ _ _ _, hb⟩
    · rw [if_neg hm] at h
      by_cases hl : l1.length ≤ 100000 ∧ l0_0.length ≤ 100000
      · rw [if_pos hl] at h
        simp only [Option.some.injEq, Prod.mk.injEq] at h
        obtain ⟨rfl, rfl, rfl, rfl⟩ := h
        exact append_ok _ A0_0 c0_0 l0_0 a0_1 a0_2 A1 c1 l1 w hs0_0 hr1 hc1 hk hm hl.1 hl.2
      · rw [if_neg hl] at h
        cases h
  · rw [if_pos hk] at h
    simp only [Option.some.injEq, Prod.mk.injEq] at h
    obtain ⟨rfl, rfl, rfl, rfl⟩ := h
    refine (append_bad _ A0_0 c0_0 l0_0 a0_1 a0_2 A1 c1 l1 w hs0_0 hk).mono ?_
    rintro e w' ⟨rfl, hb⟩
    exact ⟨_, rfl, Kd.V_nil _ _ _ _ _, hb⟩
end Go.Proofs.Ytljmdkeeppikhaa.Q
