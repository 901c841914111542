/- Functions of the translation as plain Lean functions, and proofs that the calls do what these say; written by a program of this session round the kit's print. -/
import Derived.Test.YthfhjcbgccnijaaQ0
import Derived.Test.YthfhjcbgccnijaaAidB
import Derived.Test.YthfhjcbgccnijaaVal
namespace Go.Proofs.Ythfhjcbgccnijaa.Q
open Go.RowKit Go.Proofs.YthfhjcbgccnijaaW.PrintWords Go.Proofs.YthfhjcbgccnijaaW.PrintLast Go.Proofs.YthfhjcbgccnijaaW.PrintMore
attribute [local go_sem] max2_int min2_int max_two min_two max_three min_three max_four min_four   -- for this text's walks alone
set_option linter.unusedVariables false
set_option linter.unusedSimpArgs false

/-! ### weather_Check: function 28 -/
def weather_Check.l0 : Nat → List (S41) → List (S41) → Int → Int → Option (Int)
  | 0, _, _, _, _ => none
  | k + 1, x0, x8, x9, x10 => if x10 < x9 then (if 0 ≤ x10 then (if x10 < (x8.length : Int) then ((weather_valid.f ((rd_T41 x8 x10).f0) ((rd_T41 x8 x10).f1) ((rd_T41 x8 x10).f2) ((rd_T41 x8 x10).f3) ((rd_T41 x8 x10).f4) ((rd_T41 x8 x10).f5.f0) ((rd_T41 x8 x10).f5.f1) ((rd_T41 x8 x10).f6.f0) ((rd_T41 x8 x10).f6.f1)).bind fun t103 => (if t103 = true then (if x10 > 0 then (if 0 ≤ (wrap64 (x10 - 1)) then (if (wrap64 (x10 - 1)) < (x0.length : Int) then (if ((rd_T41 x0 (wrap64 (x10 - 1))).f0) ≥ ((rd_T41 x8 x10).f0) then (some 270) else (weather_Check.l0 k x0 x8 x9 (wrap64 (x10 + 1)))) else (none)) else (none)) else (weather_Check.l0 k x0 x8 x9 (wrap64 (x10 + 1)))) else (some 270))) else (none)) else (none)) else (some 0)
def weather_Check.f (k : Nat) (l0 : List (S41)) : Option (Int) := if (l0.length : Int) > 4096 then (some 2) else (weather_Check.l0 k l0 l0 (l0.length : Int) 0)
theorem weather_Check.mono_l : ∀ k, (∀ y0 y1 y2 y3, LeO (weather_Check.l0 k y0 y1 y2 y3) (weather_Check.l0 (k + 1) y0 y1 y2 y3))
  | 0 => fun _ _ _ _ r h => by simp [weather_Check.l0] at h
  | k + 1 => by
    have ih0 := weather_Check.mono_l k
    · intro y0 y1 y2 y3
      unfold weather_Check.l0
      repeat' first
      | (with_reducible exact ih0 _ _ _ _)
      | (with_reducible exact LeO.refl _)
      | (with_reducible exact LeO.none _)
      | (with_reducible refine LeO.ite ?_ ?_)
      | (with_reducible refine LeO.bind ?_ (fun _ => ?_))
      | exact ih0 _ _ _ _
      | exact LeO.none _
      | refine LeO.ite ?_ ?_
      | refine LeO.bind ?_ (fun _ => ?_)
theorem weather_Check.mono : ∀ a0 k, LeO (weather_Check.f k a0) (weather_Check.f (k + 1) a0) := by
  intro a0 k
  have ih0 := weather_Check.mono_l k
  unfold weather_Check.f
  repeat' first
      | (with_reducible exact ih0 _ _ _ _)
      | (with_reducible exact LeO.refl _)
      | (with_reducible exact LeO.none _)
      | (with_reducible refine LeO.ite ?_ ?_)
      | (with_reducible refine LeO.bind ?_ (fun _ => ?_))
      | exact ih0 _ _ _ _
      | exact LeO.none _
      | refine LeO.ite ?_ ?_
      | refine LeO.bind ?_ (fun _ => ?_)
def weather_Check.T6 : Bool × List (List Nat × List Nat) := (true, [([], []), ([0], [0]), ([1], [1]), ([2, 1], [2]), ([3], [3]), ([4, 3], [3, 4]), ([5, 3, 3], [3, 5]), ([6], [6]), ([6], [6]), ([8, 6], [6, 8]), ([7, 9, 6], [6, 7, 9]), ([10, 6], [6, 10]), ([11, 6], [6, 11]), ([6], [6]), ([13, 6], [6, 13]), ([12, 14, 6], [6, 12, 14]), ([6, 15, 3], [3, 6, 15]), ([3, 16], [3, 16])])
def weather_Check.B6 : List Nat := [0, 1, 3, 7, 15, 31, 63, 127, 127, 383, 1023, 2047, 4095, 127, 8319, 32767, 65535, 131071]
theorem weather_Check.tab6 : rtab .any (opsOf Try.f28 6) = weather_Check.T6 := by kernel_rfl
theorem weather_Check.bits6 : waitsOk weather_Check.T6.2 weather_Check.B6 = true := by kernel_rfl
set_option maxHeartbeats 8000000 in
set_option maxRecDepth 100000 in
theorem weather_Check.calls (k : Nat) (A0 : Option Addr) (c0 : Nat) (l0 : List (S41)) (r : Int) (w : World) (hr0 : Kd.C k41 w A0 l0.length l0) (hc0 : l0.length ≤ c0) (h : weather_Check.f k l0 = some r) :
    Calls Try.prog 28 #[.slice A0 l0.length c0] w fun e w' => e = .returned (.int .i64 r) ∧ Below w.heap.size w w' := by
  have hu41 := Try.underlying41
  have HR0 := Aside0.mk hr0
  have HC0 := Aside0.mk hc0
  clear hr0 hc0
  have HB := Aside0.mk (Below.refl w.heap.size w)
  have H : (if (l0.length : Int) > 4096 then (some 2) else (weather_Check.l0 k l0 l0 (l0.length : Int) 0)) = some r := h
  clear h
  by_cases c2 : (l0.length : Int) > 4096
  · rw [if_pos c2] at H
    have c2b0 : decide (4096 < (l0.length : Int)) = true := decide_eq_true c2
    have c2b1 : decide (4096 < l0.length) = true := decide_eq_true (by omega)
    clear c2
    obtain rfl := Option.some.inj H
    go_enter Try.func28, Try.ntmps28
    go_wp2
    go_ret
    exact ⟨by first | rfl | (simp [errW_none, errW_some] <;> rfl) | (simp [*, errW_none, errW_some] <;> rfl), blw HB.out⟩
  · rw [if_neg c2] at H
    have c2b0 : decide (4096 < (l0.length : Int)) = false := decide_eq_false c2
    have c2b1 : decide (4096 < l0.length) = false := decide_eq_false (by omega)
    clear c2
    have H' := Aside0.mk H
    clear H
    go_enter Try.func28, Try.ntmps28
    go_wp2
    go_loopg [10] k (fun kq v10 w' => ∃ (x10_1 : Int), v10 = .int .i64 x10_1 ∧ Aside0 (weather_Check.l0 kq l0 l0 (l0.length : Int) x10_1 = some r) ∧ Aside0 (kq ≤ k) ∧ Aside0 (Below w.heap.size w w'))
    case atStart => exact ⟨(0), (by first | rfl | (simp; done) | (simp [*]; done)), H', ⟨Nat.le_refl _⟩, ⟨blw HB.out⟩⟩
    case round =>
      clear H'
      try clear c2
      try clear c2b0
      try clear c2b1
      try clear p2
      obtain ⟨x10_1, rfl, HA, HK1, HB⟩ := hrel
      cases gk with
      | zero => exact absurd HA.out (by simp [weather_Check.l0])
      | succ k1 =>
        have H := HA.out
        clear HA
        simp only [weather_Check.l0] at H
        by_cases c3 : x10_1 < (l0.length : Int)
        · rw [if_pos c3] at H
          have c3b0 : decide (x10_1 < (l0.length : Int)) = true := decide_eq_true c3
          clear c3
          by_cases c4 : 0 ≤ x10_1
          · rw [if_pos c4] at H
            have c4b0 : decide (0 ≤ x10_1) = true := decide_eq_true c4
            clear c4
            by_cases c5 : x10_1 < (l0.length : Int)
            · rw [if_pos c5] at H
              have c5b0 : decide (x10_1 < (l0.length : Int)) = true := decide_eq_true c5
              clear c5
              replace H := Option.bind_eq_some_iff.mp H
              obtain ⟨t103, A60, H⟩ := H
              replace H : (if t103 = true then (if x10_1 > 0 then (if 0 ≤ (wrap64 (x10_1 - 1)) then (if (wrap64 (x10_1 - 1)) < (l0.length : Int) then (if ((rd_T41 l0 (wrap64 (x10_1 - 1))).f0) ≥ ((rd_T41 l0 x10_1).f0) then (some 270) else (weather_Check.l0 k1 l0 l0 (l0.length : Int) (wrap64 (x10_1 + 1)))) else (none)) else (none)) else (weather_Check.l0 k1 l0 l0 (l0.length : Int) (wrap64 (x10_1 + 1)))) else (some 270)) = some r := H
              have A6 := Aside0.mk A60
              clear A60
              by_cases c7 : t103 = true
              · subst c7
                have H1 : (if x10_1 > 0 then (if 0 ≤ (wrap64 (x10_1 - 1)) then (if (wrap64 (x10_1 - 1)) < (l0.length : Int) then (if ((rd_T41 l0 (wrap64 (x10_1 - 1))).f0) ≥ ((rd_T41 l0 x10_1).f0) then (some 270) else (weather_Check.l0 k1 l0 l0 (l0.length : Int) (wrap64 (x10_1 + 1)))) else (none)) else (none)) else (weather_Check.l0 k1 l0 l0 (l0.length : Int) (wrap64 (x10_1 + 1)))) = some r := by rw [if_pos rfl] at H; exact H
                clear H
                have H := H1
                clear H1
                by_cases c8 : x10_1 > 0
                · rw [if_pos c8] at H
                  have c8b0 : decide (0 < x10_1) = true := decide_eq_true c8
                  clear c8
                  obtain ⟨ji9, hji9⟩ : ∃ j_ : Int, (wrap64 (x10_1 - 1)) = j_ := ⟨_, rfl⟩
                  replace H : (if 0 ≤ (ji9) then (if (ji9) < (l0.length : Int) then (if ((rd_T41 l0 (ji9)).f0) ≥ ((rd_T41 l0 x10_1).f0) then (some 270) else (weather_Check.l0 k1 l0 l0 (l0.length : Int) (wrap64 (x10_1 + 1)))) else (none)) else (none)) = some r := by first | (rw [hji9] at H; exact H) | (simp only [hji9] at H ⊢; exact H)
                  (try rw [hji9] at A6)
                  have hji9w : (IntKind.i64.wrap (x10_1 - 1)) = ji9 := (i64_w _).trans hji9
                  by_cases c10 : 0 ≤ (ji9)
                  · rw [if_pos c10] at H
                    have c10b0 : decide (0 ≤ (ji9)) = true := decide_eq_true c10
                    clear c10
                    by_cases c11 : (ji9) < (l0.length : Int)
                    · rw [if_pos c11] at H
                      have c11b0 : decide ((ji9) < (l0.length : Int)) = true := decide_eq_true c11
                      clear c11
                      by_cases c12 : ((rd_T41 l0 (ji9)).f0) ≥ ((rd_T41 l0 x10_1).f0)
                      · rw [if_pos c12] at H
                        have c12b0 : decide (((rd_T41 l0 x10_1).f0) ≤ ((rd_T41 l0 (ji9)).f0)) = true := decide_eq_true c12
                        clear c12
                        obtain rfl := Option.some.inj H
                        have p101 : 0 ≤ (x10_1 : Int) := of_decide_eq_true (by first | (with_reducible assumption) | assumption)
                        have q101 : x10_1 < (l0.length : Int) := of_decide_eq_true (by first | (with_reducible assumption) | assumption)
                        obtain ⟨ad101, e101, hx101_0, hx101_1, hx101_2, hx101_3, hx101_4, hx101_5, hx101_6, hx101_7, hx101_8⟩ := at_T41 HR0.out x10_1 p101 q101
                        cases e101
                        replace hx101_0 := (HB.out.cell (World.block_lt_of_cell? w _ hx101_0)).trans hx101_0
                        replace hx101_1 := (HB.out.cell (World.block_lt_of_cell? w _ hx101_1)).trans hx101_1
                        replace hx101_2 := (HB.out.cell (World.block_lt_of_cell? w _ hx101_2)).trans hx101_2
                        replace hx101_3 := (HB.out.cell (World.block_lt_of_cell? w _ hx101_3)).trans hx101_3
                        replace hx101_4 := (HB.out.cell (World.block_lt_of_cell? w _ hx101_4)).trans hx101_4
                        replace hx101_5 := (HB.out.cell (World.block_lt_of_cell? w _ hx101_5)).trans hx101_5
                        replace hx101_6 := (HB.out.cell (World.block_lt_of_cell? w _ hx101_6)).trans hx101_6
                        replace hx101_7 := (HB.out.cell (World.block_lt_of_cell? w _ hx101_7)).trans hx101_7
                        replace hx101_8 := (HB.out.cell (World.block_lt_of_cell? w _ hx101_8)).trans hx101_8
                        replace p101 := eq_true p101
                        replace q101 := eq_true q101
                        try go_wp2_with (first | ((with_reducible refine gate_dst (N := 4) rfl ?_); refine box_event ?hg (N := 4) ?hd (cs := #[.int .i64 0, .int .i64 0, .int .i64 0, .int .i64 0, .int .i64 0, .int .i64 0, .int .i64 0, .int .i64 0, .int .i64 0]) (t := 41) ?hr ?_; (case hd => rfl); (case hg => rfl); (case hr => first | (go_simp; done) | (go_simp; rfl)); intro gb102 hg w13 hbox hb; have BK102 := Aside0.mk (hbox); have GW102 := Aside0.mk ((by rw [hg]; exact (below_size (blw HB.out)) : w.heap.size ≤ gb102)); have GE102 := Aside0.mk ((by rw [hg]; exact (below_size (blw HB.out)) : w.heap.size ≤ gb102)); replace HB := Aside0.mk (below_step (blw HB.out) hb); clear hb hbox hg; have hcz14_0 : w13.cell? ⟨gb102, 0, none⟩ = some (.int .i64 0) := bc BK102 0; have hcz14_1 : w13.cell? ⟨gb102, 1, none⟩ = some (.int .i64 0) := bc BK102 1; have hcz14_2 : w13.cell? ⟨gb102, 2, none⟩ = some (.int .i64 0) := bc BK102 2; have hcz14_3 : w13.cell? ⟨gb102, 3, none⟩ = some (.int .i64 0) := bc BK102 3; have hcz14_4 : w13.cell? ⟨gb102, 4, none⟩ = some (.int .i64 0) := bc BK102 4; have hcz14_5 : w13.cell? ⟨gb102, 5, none⟩ = some (.int .i64 0) := bc BK102 5; have hcz14_6 : w13.cell? ⟨gb102, 6, none⟩ = some (.int .i64 0) := bc BK102 6; have hcz14_7 : w13.cell? ⟨gb102, 7, none⟩ = some (.int .i64 0) := bc BK102 7; have hcz14_8 : w13.cell? ⟨gb102, 8, none⟩ = some (.int .i64 0) := bc BK102 8; have hfz14_0 := blk_frozen BK102.out 0; have hfz14_1 := blk_frozen BK102.out 1; have hfz14_2 := blk_frozen BK102.out 2; have hfz14_3 := blk_frozen BK102.out 3; have hfz14_4 := blk_frozen BK102.out 4; have hfz14_5 := blk_frozen BK102.out 5; have hfz14_6 := blk_frozen BK102.out 6; have hfz14_7 := blk_frozen BK102.out 7; have hfz14_8 := blk_frozen BK102.out 8))
                        have n0_ : Aside0 ((((((((((w13.setCell ⟨gb102, 0, none⟩ (.int .i64 ((rd_T41 l0 x10_1).f0))).setCell ⟨gb102, 1, none⟩ (.int .i64 ((rd_T41 l0 x10_1).f1))).setCell ⟨gb102, 2, none⟩ (.int .i64 ((rd_T41 l0 x10_1).f2))).setCell ⟨gb102, 3, none⟩ (.int .i64 ((rd_T41 l0 x10_1).f3))).setCell ⟨gb102, 4, none⟩ (.int .i64 ((rd_T41 l0 x10_1).f4))).setCell ⟨gb102, 5, none⟩ (.int .i64 ((rd_T41 l0 x10_1).f5.f0))).setCell ⟨gb102, 6, none⟩ (.int .i64 ((rd_T41 l0 x10_1).f5.f1))).setCell ⟨gb102, 7, none⟩ (.int .i64 ((rd_T41 l0 x10_1).f6.f0))).setCell ⟨gb102, 8, none⟩ (.int .i64 ((rd_T41 l0 x10_1).f6.f1))).heap[gb102]? = some (.cells #[.int .i64 ((rd_T41 l0 x10_1).f0), .int .i64 ((rd_T41 l0 x10_1).f1), .int .i64 ((rd_T41 l0 x10_1).f2), .int .i64 ((rd_T41 l0 x10_1).f3), .int .i64 ((rd_T41 l0 x10_1).f4), .int .i64 ((rd_T41 l0 x10_1).f5.f0), .int .i64 ((rd_T41 l0 x10_1).f5.f1), .int .i64 ((rd_T41 l0 x10_1).f6.f0), .int .i64 ((rd_T41 l0 x10_1).f6.f1)] 41 (0, 0))) := ⟨by (with_reducible repeat (first | refine blk_drewN ?_ _ | refine blk_drew ?_ | refine blk_alloc ?_ _)); refine blk_put (cs := #[.int .i64 ((rd_T41 l0 x10_1).f0), .int .i64 ((rd_T41 l0 x10_1).f1), .int .i64 ((rd_T41 l0 x10_1).f2), .int .i64 ((rd_T41 l0 x10_1).f3), .int .i64 ((rd_T41 l0 x10_1).f4), .int .i64 ((rd_T41 l0 x10_1).f5.f0), .int .i64 ((rd_T41 l0 x10_1).f5.f1), .int .i64 ((rd_T41 l0 x10_1).f6.f0), .int .i64 0]) ?_ 8 _ rfl; (with_reducible repeat (first | refine blk_drewN ?_ _ | refine blk_drew ?_ | refine blk_alloc ?_ _)); refine blk_put (cs := #[.int .i64 ((rd_T41 l0 x10_1).f0), .int .i64 ((rd_T41 l0 x10_1).f1), .int .i64 ((rd_T41 l0 x10_1).f2), .int .i64 ((rd_T41 l0 x10_1).f3), .int .i64 ((rd_T41 l0 x10_1).f4), .int .i64 ((rd_T41 l0 x10_1).f5.f0), .int .i64 ((rd_T41 l0 x10_1).f5.f1), .int .i64 0, .int .i64 0]) ?_ 7 _ rfl; (with_reducible repeat (first | refine blk_drewN ?_ _ | refine blk_drew ?_ | refine blk_alloc ?_ _)); refine blk_put (cs := #[.int .i64 ((rd_T41 l0 x10_1).f0), .int .i64 ((rd_T41 l0 x10_1).f1), .int .i64 ((rd_T41 l0 x10_1).f2), .int .i64 ((rd_T41 l0 x10_1).f3), .int .i64 ((rd_T41 l0 x10_1).f4), .int .i64 ((rd_T41 l0 x10_1).f5.f0), .int .i64 0, .int .i64 0, .int .i64 0]) ?_ 6 _ rfl; (with_reducible repeat (first | refine blk_drewN ?_ _ | refine blk_drew ?_ | refine blk_alloc ?_ _)); refine blk_put (cs := #[.int .i64 ((rd_T41 l0 x10_1).f0), .int .i64 ((rd_T41 l0 x10_1).f1), .int .i64 ((rd_T41 l0 x10_1).f2), .int .i64 ((rd_T41 l0 x10_1).f3), .int .i64 ((rd_T41 l0 x10_1).f4), .int .i64 0, .int .i64 0, .int .i64 0, .int .i64 0]) ?_ 5 _ rfl; (with_reducible repeat (first | refine blk_drewN ?_ _ | refine blk_drew ?_ | refine blk_alloc ?_ _)); refine blk_put (cs := #[.int .i64 ((rd_T41 l0 x10_1).f0), .int .i64 ((rd_T41 l0 x10_1).f1), .int .i64 ((rd_T41 l0 x10_1).f2), .int .i64 ((rd_T41 l0 x10_1).f3), .int .i64 0, .int .i64 0, .int .i64 0, .int .i64 0, .int .i64 0]) ?_ 4 _ rfl; (with_reducible repeat (first | refine blk_drewN ?_ _ | refine blk_drew ?_ | refine blk_alloc ?_ _)); refine blk_put (cs := #[.int .i64 ((rd_T41 l0 x10_1).f0), .int .i64 ((rd_T41 l0 x10_1).f1), .int .i64 ((rd_T41 l0 x10_1).f2), .int .i64 0, .int .i64 0, .int .i64 0, .int .i64 0, .int .i64 0, .int .i64 0]) ?_ 3 _ rfl; (with_reducible repeat (first | refine blk_drewN ?_ _ | refine blk_drew ?_ | refine blk_alloc ?_ _)); refine blk_put (cs := #[.int .i64 ((rd_T41 l0 x10_1).f0), .int .i64 ((rd_T41 l0 x10_1).f1), .int .i64 0, .int .i64 0, .int .i64 0, .int .i64 0, .int .i64 0, .int .i64 0, .int .i64 0]) ?_ 2 _ rfl; (with_reducible repeat (first | refine blk_drewN ?_ _ | refine blk_drew ?_ | refine blk_alloc ?_ _)); refine blk_put (cs := #[.int .i64 ((rd_T41 l0 x10_1).f0), .int .i64 0, .int .i64 0, .int .i64 0, .int .i64 0, .int .i64 0, .int .i64 0, .int .i64 0, .int .i64 0]) ?_ 1 _ rfl; (with_reducible repeat (first | refine blk_drewN ?_ _ | refine blk_drew ?_ | refine blk_alloc ?_ _)); refine blk_put (cs := #[.int .i64 0, .int .i64 0, .int .i64 0, .int .i64 0, .int .i64 0, .int .i64 0, .int .i64 0, .int .i64 0, .int .i64 0]) ?_ 0 _ rfl; (with_reducible repeat (first | refine blk_drewN ?_ _ | refine blk_drew ?_ | refine blk_alloc ?_ _)); exact BK102.out⟩
                        have n1_ : Aside0 (Below w.heap.size w (((((((((w13.setCell ⟨gb102, 0, none⟩ (.int .i64 ((rd_T41 l0 x10_1).f0))).setCell ⟨gb102, 1, none⟩ (.int .i64 ((rd_T41 l0 x10_1).f1))).setCell ⟨gb102, 2, none⟩ (.int .i64 ((rd_T41 l0 x10_1).f2))).setCell ⟨gb102, 3, none⟩ (.int .i64 ((rd_T41 l0 x10_1).f3))).setCell ⟨gb102, 4, none⟩ (.int .i64 ((rd_T41 l0 x10_1).f4))).setCell ⟨gb102, 5, none⟩ (.int .i64 ((rd_T41 l0 x10_1).f5.f0))).setCell ⟨gb102, 6, none⟩ (.int .i64 ((rd_T41 l0 x10_1).f5.f1))).setCell ⟨gb102, 7, none⟩ (.int .i64 ((rd_T41 l0 x10_1).f6.f0))).setCell ⟨gb102, 8, none⟩ (.int .i64 ((rd_T41 l0 x10_1).f6.f1)))) := ⟨blw HB.out⟩
                        (try clear BK102)
                        (try clear HB)
                        generalize (((((((((w13.setCell ⟨gb102, 0, none⟩ (.int .i64 ((rd_T41 l0 x10_1).f0))).setCell ⟨gb102, 1, none⟩ (.int .i64 ((rd_T41 l0 x10_1).f1))).setCell ⟨gb102, 2, none⟩ (.int .i64 ((rd_T41 l0 x10_1).f2))).setCell ⟨gb102, 3, none⟩ (.int .i64 ((rd_T41 l0 x10_1).f3))).setCell ⟨gb102, 4, none⟩ (.int .i64 ((rd_T41 l0 x10_1).f4))).setCell ⟨gb102, 5, none⟩ (.int .i64 ((rd_T41 l0 x10_1).f5.f0))).setCell ⟨gb102, 6, none⟩ (.int .i64 ((rd_T41 l0 x10_1).f5.f1))).setCell ⟨gb102, 7, none⟩ (.int .i64 ((rd_T41 l0 x10_1).f6.f0))).setCell ⟨gb102, 8, none⟩ (.int .i64 ((rd_T41 l0 x10_1).f6.f1))) = w15 at n0_ n1_ ⊢
                        have BK102 := n0_
                        have HB := n1_
                        clear n0_ n1_
                        replace BK102 := Aside0.mk (blk_drew BK102.out)
                        replace HB := Aside0.mk (below_drew1 HB.out)
                        have p104 : 0 ≤ ((ji9) : Int) := of_decide_eq_true (by first | (with_reducible assumption) | assumption)
                        have q104 : (ji9) < (l0.length : Int) := of_decide_eq_true (by first | (with_reducible assumption) | assumption)
                        obtain ⟨ad104, e104, hx104_0, hx104_1, hx104_2, hx104_3, hx104_4, hx104_5, hx104_6, hx104_7, hx104_8⟩ := at_T41 HR0.out (ji9) p104 q104
                        have hw104_8 := hx104_8
                        have hw104_7 := hx104_7
                        have hw104_6 := hx104_6
                        have hw104_5 := hx104_5
                        have hw104_4 := hx104_4
                        have hw104_3 := hx104_3
                        have hw104_2 := hx104_2
                        have hw104_1 := hx104_1
                        have hw104_0 := hx104_0
                        obtain rfl : ad101 = ad104 := (by injection e104)
                        replace hx104_0 := (HB.out.cell (World.block_lt_of_cell? w _ hx104_0)).trans hx104_0
                        replace hx104_1 := (HB.out.cell (World.block_lt_of_cell? w _ hx104_1)).trans hx104_1
                        replace hx104_2 := (HB.out.cell (World.block_lt_of_cell? w _ hx104_2)).trans hx104_2
                        replace hx104_3 := (HB.out.cell (World.block_lt_of_cell? w _ hx104_3)).trans hx104_3
                        replace hx104_4 := (HB.out.cell (World.block_lt_of_cell? w _ hx104_4)).trans hx104_4
                        replace hx104_5 := (HB.out.cell (World.block_lt_of_cell? w _ hx104_5)).trans hx104_5
                        replace hx104_6 := (HB.out.cell (World.block_lt_of_cell? w _ hx104_6)).trans hx104_6
                        replace hx104_7 := (HB.out.cell (World.block_lt_of_cell? w _ hx104_7)).trans hx104_7
                        replace hx104_8 := (HB.out.cell (World.block_lt_of_cell? w _ hx104_8)).trans hx104_8
                        replace p104 := eq_true p104
                        replace q104 := eq_true q104
                        refine start_ (n := 18) (S := fun w' => w'.cell? ⟨gb102, 0, none⟩ = some (.int .i64 ((rd_T41 l0 x10_1).f0)) ∧ w'.cell? ⟨gb102, 1, none⟩ = some (.int .i64 ((rd_T41 l0 x10_1).f1)) ∧ w'.cell? ⟨gb102, 2, none⟩ = some (.int .i64 ((rd_T41 l0 x10_1).f2)) ∧ w'.cell? ⟨gb102, 3, none⟩ = some (.int .i64 ((rd_T41 l0 x10_1).f3)) ∧ w'.cell? ⟨gb102, 4, none⟩ = some (.int .i64 ((rd_T41 l0 x10_1).f4)) ∧ w'.cell? ⟨gb102, 5, none⟩ = some (.int .i64 ((rd_T41 l0 x10_1).f5.f0)) ∧ w'.cell? ⟨gb102, 6, none⟩ = some (.int .i64 ((rd_T41 l0 x10_1).f5.f1)) ∧ w'.cell? ⟨gb102, 7, none⟩ = some (.int .i64 ((rd_T41 l0 x10_1).f6.f0)) ∧ w'.cell? ⟨gb102, 8, none⟩ = some (.int .i64 ((rd_T41 l0 x10_1).f6.f1)) ∧ w'.cell? (ad101.add (((ji9)).toNat * 9)) = some (.int .i64 ((rd_T41 l0 (ji9)).f0)) ∧ w'.cell? ⟨(ad101.add (((ji9)).toNat * 9)).block, (ad101.add (((ji9)).toNat * 9)).off + 1, none⟩ = some (.int .i64 ((rd_T41 l0 (ji9)).f1)) ∧ w'.cell? ⟨(ad101.add (((ji9)).toNat * 9)).block, (ad101.add (((ji9)).toNat * 9)).off + 2, none⟩ = some (.int .i64 ((rd_T41 l0 (ji9)).f2)) ∧ w'.cell? ⟨(ad101.add (((ji9)).toNat * 9)).block, (ad101.add (((ji9)).toNat * 9)).off + 3, none⟩ = some (.int .i64 ((rd_T41 l0 (ji9)).f3)) ∧ w'.cell? ⟨(ad101.add (((ji9)).toNat * 9)).block, (ad101.add (((ji9)).toNat * 9)).off + 4, none⟩ = some (.int .i64 ((rd_T41 l0 (ji9)).f4)) ∧ w'.cell? ⟨(ad101.add (((ji9)).toNat * 9)).block, (ad101.add (((ji9)).toNat * 9)).off + 5, none⟩ = some (.int .i64 ((rd_T41 l0 (ji9)).f5.f0)) ∧ w'.cell? ⟨(ad101.add (((ji9)).toNat * 9)).block, (ad101.add (((ji9)).toNat * 9)).off + 6, none⟩ = some (.int .i64 ((rd_T41 l0 (ji9)).f5.f1)) ∧ w'.cell? ⟨(ad101.add (((ji9)).toNat * 9)).block, (ad101.add (((ji9)).toNat * 9)).off + 7, none⟩ = some (.int .i64 ((rd_T41 l0 (ji9)).f6.f0)) ∧ w'.cell? ⟨(ad101.add (((ji9)).toNat * 9)).block, (ad101.add (((ji9)).toNat * 9)).off + 8, none⟩ = some (.int .i64 ((rd_T41 l0 (ji9)).f6.f1))) (ds := []) #[N,N,N,N,N,N,N,N,N,N,N,N,N,N,N,N,N,N] (by kernel_rfl) rfl rfl ⟨bc BK102 0, bc BK102 1, bc BK102 2, bc BK102 3, bc BK102 4, bc BK102 5, bc BK102 6, bc BK102 7, bc BK102 8, ((HB.out.cell (World.block_lt_of_cell? w _ hw104_0)).trans hw104_0), ((HB.out.cell (World.block_lt_of_cell? w _ hw104_1)).trans hw104_1), ((HB.out.cell (World.block_lt_of_cell? w _ hw104_2)).trans hw104_2), ((HB.out.cell (World.block_lt_of_cell? w _ hw104_3)).trans hw104_3), ((HB.out.cell (World.block_lt_of_cell? w _ hw104_4)).trans hw104_4), ((HB.out.cell (World.block_lt_of_cell? w _ hw104_5)).trans hw104_5), ((HB.out.cell (World.block_lt_of_cell? w _ hw104_6)).trans hw104_6), ((HB.out.cell (World.block_lt_of_cell? w _ hw104_7)).trans hw104_7), ((HB.out.cell (World.block_lt_of_cell? w _ hw104_8)).trans hw104_8)⟩ (fun hHeld => ?_); refine with_tabW weather_Check.tab6 weather_Check.bits6 (fun HT_ HW_ => ?_)
                        generalize w15.drew = w16 at BK102 HB hx104_0 hx104_1 hx104_2 hx104_3 hx104_4 hx104_5 hx104_6 hx104_7 hx104_8 hHeld ⊢
                        refine take_ (i := 0) (N := some 15) (v := ?_) (a' := ?_) #[Y,N,N,N,N,N,N,N,N,N,N,N,N,N,N,N,N,N] rfl rfl (take_ofW HT_.out HW_.out (by kernel_rfl)) (fun _ _ _ h => h) (Or.inl ⟨by rfl, ?_⟩) hHeld ?_ ?_
                        rotate_left
                        · rintro w' ⟨s0, s1, s2, s3, s4, s5, s6, s7, s8, s9, s10, s11, s12, s13, s14, s15, s16, s17⟩
                          go_simp
                          with_reducible rfl
                        rotate_left
                        · simp only [Act.put, List.setIfInBounds_toArray, List.set_cons_zero, List.set_cons_succ, i64_w, i32_w]
                          rfl
                        refine one_ (i := 1) (N := some 16) #[Y,Y,N,N,N,N,N,N,N,N,N,N,N,N,N,N,N,N] rfl rfl (one_of HT_.out (by kernel_rfl)) (by decide) (fun K hK => ?_)
                        refine goes_ Try.func58 (by kernel_rfl) rfl #[.agg #[.int .i64 ((rd_T41 l0 x10_1).f0), .int .i64 ((rd_T41 l0 x10_1).f1), .int .i64 ((rd_T41 l0 x10_1).f2), .int .i64 ((rd_T41 l0 x10_1).f3), .int .i64 ((rd_T41 l0 x10_1).f4), .int .i64 ((rd_T41 l0 x10_1).f5.f0), .int .i64 ((rd_T41 l0 x10_1).f5.f1), .int .i64 ((rd_T41 l0 x10_1).f6.f0), .int .i64 ((rd_T41 l0 x10_1).f6.f1)]] (by rfl) rfl rfl (by (try simp only [List.map_toArray, List.map_cons, List.map_nil]); first | done | rfl | (simp only [List.length_drop, List.length_take]; rfl)) ?_
                        with_reducible refine (weather_valid.calls ((rd_T41 l0 x10_1).f0) ((rd_T41 l0 x10_1).f1) ((rd_T41 l0 x10_1).f2) ((rd_T41 l0 x10_1).f3) ((rd_T41 l0 x10_1).f4) ((rd_T41 l0 x10_1).f5.f0) ((rd_T41 l0 x10_1).f5.f1) ((rd_T41 l0 x10_1).f6.f0) ((rd_T41 l0 x10_1).f6.f1) true _ A6.out).mono ?_
                        rintro e w17 ⟨rfl, hb⟩
                        refine ⟨_, rfl, ?_⟩
                        replace BK102 := Aside0.mk (zb BK102.out hb)
                        replace HB := Aside0.mk (below_step (blw HB.out) hb)
                        (try clear hb)
                        (try clear hb2)
                        (try clear hk)
                        (try clear hi)
                        refine hK.out _ _ ⟨bc BK102 0, bc BK102 1, bc BK102 2, bc BK102 3, bc BK102 4, bc BK102 5, bc BK102 6, bc BK102 7, bc BK102 8, ((HB.out.cell (World.block_lt_of_cell? w _ hw104_0)).trans hw104_0), ((HB.out.cell (World.block_lt_of_cell? w _ hw104_1)).trans hw104_1), ((HB.out.cell (World.block_lt_of_cell? w _ hw104_2)).trans hw104_2), ((HB.out.cell (World.block_lt_of_cell? w _ hw104_3)).trans hw104_3), ((HB.out.cell (World.block_lt_of_cell? w _ hw104_4)).trans hw104_4), ((HB.out.cell (World.block_lt_of_cell? w _ hw104_5)).trans hw104_5), ((HB.out.cell (World.block_lt_of_cell? w _ hw104_6)).trans hw104_6), ((HB.out.cell (World.block_lt_of_cell? w _ hw104_7)).trans hw104_7), ((HB.out.cell (World.block_lt_of_cell? w _ hw104_8)).trans hw104_8)⟩ (fun hHeld => ?_)
                        clear hK K
                        refine norm_ (a' := ?_) ?_ ?_
                        rotate_left
                        · show Act.put _ (some 16) _ = _
                          simp only [Act.put, List.setIfInBounds_toArray, List.set_cons_zero, List.set_cons_succ, i64_w, i32_w]
                          rfl
                        refine pureA (i := 2) (N := some 17) #[Y,Y,Y,N,N,N,N,N,N,N,N,N,N,N,N,N,N,N] (any_of HT_.out (by kernel_rfl)) ?_
                        refine pureA (i := 3) (N := some 18) #[Y,Y,Y,Y,N,N,N,N,N,N,N,N,N,N,N,N,N,N] (any_of HT_.out (by kernel_rfl)) ?_
                        refine pureA (i := 4) (N := some 19) #[Y,Y,Y,Y,Y,N,N,N,N,N,N,N,N,N,N,N,N,N] (any_of HT_.out (by kernel_rfl)) ?_
                        refine pureA (i := 5) (N := some 20) #[Y,Y,Y,Y,Y,Y,N,N,N,N,N,N,N,N,N,N,N,N] (any_of HT_.out (by kernel_rfl)) ?_
                        refine pureA (i := 6) (N := some 21) #[Y,Y,Y,Y,Y,Y,Y,N,N,N,N,N,N,N,N,N,N,N] (any_of HT_.out (by kernel_rfl)) ?_
                        refine pureA (i := 7) (N := some 22) #[Y,Y,Y,Y,Y,Y,Y,Y,N,N,N,N,N,N,N,N,N,N] (any_of HT_.out (by kernel_rfl)) ?_
                        refine pureA (i := 8) (N := some 23) #[Y,Y,Y,Y,Y,Y,Y,Y,Y,N,N,N,N,N,N,N,N,N] (any_of HT_.out (by kernel_rfl)) ?_
                        refine pureA (i := 9) (N := some 24) #[Y,Y,Y,Y,Y,Y,Y,Y,Y,Y,N,N,N,N,N,N,N,N] (any_of HT_.out (by kernel_rfl)) ?_
                        refine pureA (i := 10) (N := some 25) #[Y,Y,Y,Y,Y,Y,Y,Y,Y,Y,Y,N,N,N,N,N,N,N] (any_of HT_.out (by kernel_rfl)) ?_
                        refine pureA (i := 11) (N := some 26) #[Y,Y,Y,Y,Y,Y,Y,Y,Y,Y,Y,Y,N,N,N,N,N,N] (any_of HT_.out (by kernel_rfl)) ?_
                        refine pureA (i := 13) (N := some 28) #[Y,Y,Y,Y,Y,Y,Y,Y,Y,Y,Y,Y,N,Y,N,N,N,N] (any_of HT_.out (by kernel_rfl)) ?_
                        refine take_ (i := 12) (N := some 27) (v := ?_) (a' := ?_) #[Y,Y,Y,Y,Y,Y,Y,Y,Y,Y,Y,Y,Y,Y,N,N,N,N] rfl rfl (take_ofW HT_.out HW_.out (by kernel_rfl)) (fun _ _ _ h => h) (Or.inl ⟨by rfl, ?_⟩) hHeld ?_ ?_
                        rotate_left
                        · rintro w' ⟨s0, s1, s2, s3, s4, s5, s6, s7, s8, s9, s10, s11, s12, s13, s14, s15, s16, s17⟩
                          go_simp
                          with_reducible rfl
                        rotate_left
                        · simp only [Act.put, List.setIfInBounds_toArray, List.set_cons_zero, List.set_cons_succ, i64_w, i32_w]
                          rfl
                        refine take_ (i := 14) (N := some 29) (v := ?_) (a' := ?_) #[Y,Y,Y,Y,Y,Y,Y,Y,Y,Y,Y,Y,Y,Y,Y,N,N,N] rfl rfl (take_ofW HT_.out HW_.out (by kernel_rfl)) (fun _ _ _ h => h) (Or.inl ⟨by rfl, ?_⟩) hHeld ?_ ?_
                        rotate_left
                        · rintro w' ⟨s0, s1, s2, s3, s4, s5, s6, s7, s8, s9, s10, s11, s12, s13, s14, s15, s16, s17⟩
                          go_simp
                          with_reducible rfl
                        rotate_left
                        · simp only [Act.put, List.setIfInBounds_toArray, List.set_cons_zero, List.set_cons_succ, i64_w, i32_w]
                          rfl
                        refine pureA (i := 15) (N := some 30) #[Y,Y,Y,Y,Y,Y,Y,Y,Y,Y,Y,Y,Y,Y,Y,Y,N,N] (any_of HT_.out (by kernel_rfl)) ?_
                        refine pureA (i := 16) (N := some 31) #[Y,Y,Y,Y,Y,Y,Y,Y,Y,Y,Y,Y,Y,Y,Y,Y,Y,N] (any_of HT_.out (by kernel_rfl)) ?_
                        refine pureA (i := 17) (N := some 32) #[Y,Y,Y,Y,Y,Y,Y,Y,Y,Y,Y,Y,Y,Y,Y,Y,Y,Y] (any_of HT_.out (by kernel_rfl)) ?_
                        refine done_ (done_of HT_.out (by kernel_rfl)) ?_
                        try go_wp2
                        go_ret
                        exact ⟨by first | rfl | (simp [errW_none, errW_some] <;> rfl) | (simp only [← hji9]; first | rfl | (simp [errW_none, errW_some] <;> rfl)) | (simp [*, errW_none, errW_some] <;> rfl), blw HB.out⟩
                      · rw [if_neg c12] at H
                        have c12b0 : decide (((rd_T41 l0 x10_1).f0) ≤ ((rd_T41 l0 (ji9)).f0)) = false := decide_eq_false c12
                        clear c12
                        have H' := Aside0.mk H
                        clear H
                        have p101 : 0 ≤ (x10_1 : Int) := of_decide_eq_true (by first | (with_reducible assumption) | assumption)
                        have q101 : x10_1 < (l0.length : Int) := of_decide_eq_true (by first | (with_reducible assumption) | assumption)
                        obtain ⟨ad101, e101, hx101_0, hx101_1, hx101_2, hx101_3, hx101_4, hx101_5, hx101_6, hx101_7, hx101_8⟩ := at_T41 HR0.out x10_1 p101 q101
                        cases e101
                        replace hx101_0 := (HB.out.cell (World.block_lt_of_cell? w _ hx101_0)).trans hx101_0
                        replace hx101_1 := (HB.out.cell (World.block_lt_of_cell? w _ hx101_1)).trans hx101_1
                        replace hx101_2 := (HB.out.cell (World.block_lt_of_cell? w _ hx101_2)).trans hx101_2
                        replace hx101_3 := (HB.out.cell (World.block_lt_of_cell? w _ hx101_3)).trans hx101_3
                        replace hx101_4 := (HB.out.cell (World.block_lt_of_cell? w _ hx101_4)).trans hx101_4
                        replace hx101_5 := (HB.out.cell (World.block_lt_of_cell? w _ hx101_5)).trans hx101_5
                        replace hx101_6 := (HB.out.cell (World.block_lt_of_cell? w _ hx101_6)).trans hx101_6
                        replace hx101_7 := (HB.out.cell (World.block_lt_of_cell? w _ hx101_7)).trans hx101_7
                        replace hx101_8 := (HB.out.cell (World.block_lt_of_cell? w _ hx101_8)).trans hx101_8
                        replace p101 := eq_true p101
                        replace q101 := eq_true q101
                        try go_wp2_with (first | ((with_reducible refine gate_dst (N := 4) rfl ?_); refine box_event ?hg (N := 4) ?hd (cs := #[.int .i64 0, .int .i64 0, .int .i64 0, .int .i64 0, .int .i64 0, .int .i64 0, .int .i64 0, .int .i64 0, .int .i64 0]) (t := 41) ?hr ?_; (case hd => rfl); (case hg => rfl); (case hr => first | (go_simp; done) | (go_simp; rfl)); intro gb102 hg w18 hbox hb; have BK102 := Aside0.mk (hbox); have GW102 := Aside0.mk ((by rw [hg]; exact (below_size (blw HB.out)) : w.heap.size ≤ gb102)); have GE102 := Aside0.mk ((by rw [hg]; exact (below_size (blw HB.out)) : w.heap.size ≤ gb102)); replace HB := Aside0.mk (below_step (blw HB.out) hb); clear hb hbox hg; have hcz19_0 : w18.cell? ⟨gb102, 0, none⟩ = some (.int .i64 0) := bc BK102 0; have hcz19_1 : w18.cell? ⟨gb102, 1, none⟩ = some (.int .i64 0) := bc BK102 1; have hcz19_2 : w18.cell? ⟨gb102, 2, none⟩ = some (.int .i64 0) := bc BK102 2; have hcz19_3 : w18.cell? ⟨gb102, 3, none⟩ = some (.int .i64 0) := bc BK102 3; have hcz19_4 : w18.cell? ⟨gb102, 4, none⟩ = some (.int .i64 0) := bc BK102 4; have hcz19_5 : w18.cell? ⟨gb102, 5, none⟩ = some (.int .i64 0) := bc BK102 5; have hcz19_6 : w18.cell? ⟨gb102, 6, none⟩ = some (.int .i64 0) := bc BK102 6; have hcz19_7 : w18.cell? ⟨gb102, 7, none⟩ = some (.int .i64 0) := bc BK102 7; have hcz19_8 : w18.cell? ⟨gb102, 8, none⟩ = some (.int .i64 0) := bc BK102 8; have hfz19_0 := blk_frozen BK102.out 0; have hfz19_1 := blk_frozen BK102.out 1; have hfz19_2 := blk_frozen BK102.out 2; have hfz19_3 := blk_frozen BK102.out 3; have hfz19_4 := blk_frozen BK102.out 4; have hfz19_5 := blk_frozen BK102.out 5; have hfz19_6 := blk_frozen BK102.out 6; have hfz19_7 := blk_frozen BK102.out 7; have hfz19_8 := blk_frozen BK102.out 8))
                        have n0_ : Aside0 ((((((((((w18.setCell ⟨gb102, 0, none⟩ (.int .i64 ((rd_T41 l0 x10_1).f0))).setCell ⟨gb102, 1, none⟩ (.int .i64 ((rd_T41 l0 x10_1).f1))).setCell ⟨gb102, 2, none⟩ (.int .i64 ((rd_T41 l0 x10_1).f2))).setCell ⟨gb102, 3, none⟩ (.int .i64 ((rd_T41 l0 x10_1).f3))).setCell ⟨gb102, 4, none⟩ (.int .i64 ((rd_T41 l0 x10_1).f4))).setCell ⟨gb102, 5, none⟩ (.int .i64 ((rd_T41 l0 x10_1).f5.f0))).setCell ⟨gb102, 6, none⟩ (.int .i64 ((rd_T41 l0 x10_1).f5.f1))).setCell ⟨gb102, 7, none⟩ (.int .i64 ((rd_T41 l0 x10_1).f6.f0))).setCell ⟨gb102, 8, none⟩ (.int .i64 ((rd_T41 l0 x10_1).f6.f1))).heap[gb102]? = some (.cells #[.int .i64 ((rd_T41 l0 x10_1).f0), .int .i64 ((rd_T41 l0 x10_1).f1), .int .i64 ((rd_T41 l0 x10_1).f2), .int .i64 ((rd_T41 l0 x10_1).f3), .int .i64 ((rd_T41 l0 x10_1).f4), .int .i64 ((rd_T41 l0 x10_1).f5.f0), .int .i64 ((rd_T41 l0 x10_1).f5.f1), .int .i64 ((rd_T41 l0 x10_1).f6.f0), .int .i64 ((rd_T41 l0 x10_1).f6.f1)] 41 (0, 0))) := ⟨by (with_reducible repeat (first | refine blk_drewN ?_ _ | refine blk_drew ?_ | refine blk_alloc ?_ _)); refine blk_put (cs := #[.int .i64 ((rd_T41 l0 x10_1).f0), .int .i64 ((rd_T41 l0 x10_1).f1), .int .i64 ((rd_T41 l0 x10_1).f2), .int .i64 ((rd_T41 l0 x10_1).f3), .int .i64 ((rd_T41 l0 x10_1).f4), .int .i64 ((rd_T41 l0 x10_1).f5.f0), .int .i64 ((rd_T41 l0 x10_1).f5.f1), .int .i64 ((rd_T41 l0 x10_1).f6.f0), .int .i64 0]) ?_ 8 _ rfl; (with_reducible repeat (first | refine blk_drewN ?_ _ | refine blk_drew ?_ | refine blk_alloc ?_ _)); refine blk_put (cs := #[.int .i64 ((rd_T41 l0 x10_1).f0), .int .i64 ((rd_T41 l0 x10_1).f1), .int .i64 ((rd_T41 l0 x10_1).f2), .int .i64 ((rd_T41 l0 x10_1).f3), .int .i64 ((rd_T41 l0 x10_1).f4), .int .i64 ((rd_T41 l0 x10_1).f5.f0), .int .i64 ((rd_T41 l0 x10_1).f5.f1), .int .i64 0, .int .i64 0]) ?_ 7 _ rfl; (with_reducible repeat (first | refine blk_drewN ?_ _ | refine blk_drew ?_ | refine blk_alloc ?_ _)); refine blk_put (cs := #[.int .i64 ((rd_T41 l0 x10_1).f0), .int .i64 ((rd_T41 l0 x10_1).f1), .int .i64 ((rd_T41 l0 x10_1).f2), .int .i64 ((rd_T41 l0 x10_1).f3), .int .i64 ((rd_T41 l0 x10_1).f4), .int .i64 ((rd_T41 l0 x10_1).f5.f0), .int .i64 0, .int .i64 0, .int .i64 0]) ?_ 6 _ rfl; (with_reducible repeat (first | refine blk_drewN ?_ _ | refine blk_drew ?_ | refine blk_alloc ?_ _)); refine blk_put (cs := #[.int .i64 ((rd_T41 l0 x10_1).f0), .int .i64 ((rd_T41 l0 x10_1).f1), .int .i64 ((rd_T41 l0 x10_1).f2), .int .i64 ((rd_T41 l0 x10_1).f3), .int .i64 ((rd_T41 l0 x10_1).f4), .int .i64 0, .int .i64 0, .int .i64 0, .int .i64 0]) ?_ 5 _ rfl; (with_reducible repeat (first | refine blk_drewN ?_ _ | refine blk_drew ?_ | refine blk_alloc ?_ _)); refine blk_put (cs := #[.int .i64 ((rd_T41 l0 x10_1).f0), .int .i64 ((rd_T41 l0 x10_1).f1), .int .i64 ((rd_T41 l0 x10_1).f2), .int .i64 ((rd_T41 l0 x10_1).f3), .int .i64 0, .int .i64 0, .int .i64 0, .int .i64 0, .int .i64 0]) ?_ 4 _ rfl; (with_reducible repeat (first | refine blk_drewN ?_ _ | refine blk_drew ?_ | refine blk_alloc ?_ _)); refine blk_put (cs := #[.int .i64 ((rd_T41 l0 x10_1).f0), .int .i64 ((rd_T41 l0 x10_1).f1), .int .i64 ((rd_T41 l0 x10_1).f2), .int .i64 0, .int .i64 0, .int .i64 0, .int .i64 0, .int .i64 0, .int .i64 0]) ?_ 3 _ rfl; (with_reducible repeat (first | refine blk_drewN ?_ _ | refine blk_drew ?_ | refine blk_alloc ?_ _)); refine blk_put (cs := #[.int .i64 ((rd_T41 l0 x10_1).f0), .int .i64 ((rd_T41 l0 x10_1).f1), .int .i64 0, .int .i64 0, .int .i64 0, .int .i64 0, .int .i64 0, .int .i64 0, .int .i64 0]) ?_ 2 _ rfl; (with_reducible repeat (first | refine blk_drewN ?_ _ | refine blk_drew ?_ | refine blk_alloc ?_ _)); refine blk_put (cs := #[.int .i64 ((rd_T41 l0 x10_1).f0), .int .i64 0, .int .i64 0, .int .i64 0, .int .i64 0, .int .i64 0, .int .i64 0, .int .i64 0, .int .i64 0]) ?_ 1 _ rfl; (with_reducible repeat (first | refine blk_drewN ?_ _ | refine blk_drew ?_ | refine blk_alloc ?_ _)); refine blk_put (cs := #[.int .i64 0, .int .i64 0, .int .i64 0, .int .i64 0, .int .i64 0, .int .i64 0, .int .i64 0, .int .i64 0, .int .i64 0]) ?_ 0 _ rfl; (with_reducible repeat (first | refine blk_drewN ?_ _ | refine blk_drew ?_ | refine blk_alloc ?_ _)); exact BK102.out⟩
                        have n1_ : Aside0 (Below w.heap.size w (((((((((w18.setCell ⟨gb102, 0, none⟩ (.int .i64 ((rd_T41 l0 x10_1).f0))).setCell ⟨gb102, 1, none⟩ (.int .i64 ((rd_T41 l0 x10_1).f1))).setCell ⟨gb102, 2, none⟩ (.int .i64 ((rd_T41 l0 x10_1).f2))).setCell ⟨gb102, 3, none⟩ (.int .i64 ((rd_T41 l0 x10_1).f3))).setCell ⟨gb102, 4, none⟩ (.int .i64 ((rd_T41 l0 x10_1).f4))).setCell ⟨gb102, 5, none⟩ (.int .i64 ((rd_T41 l0 x10_1).f5.f0))).setCell ⟨gb102, 6, none⟩ (.int .i64 ((rd_T41 l0 x10_1).f5.f1))).setCell ⟨gb102, 7, none⟩ (.int .i64 ((rd_T41 l0 x10_1).f6.f0))).setCell ⟨gb102, 8, none⟩ (.int .i64 ((rd_T41 l0 x10_1).f6.f1)))) := ⟨blw HB.out⟩
                        (try clear BK102)
                        (try clear HB)
                        generalize (((((((((w18.setCell ⟨gb102, 0, none⟩ (.int .i64 ((rd_T41 l0 x10_1).f0))).setCell ⟨gb102, 1, none⟩ (.int .i64 ((rd_T41 l0 x10_1).f1))).setCell ⟨gb102, 2, none⟩ (.int .i64 ((rd_T41 l0 x10_1).f2))).setCell ⟨gb102, 3, none⟩ (.int .i64 ((rd_T41 l0 x10_1).f3))).setCell ⟨gb102, 4, none⟩ (.int .i64 ((rd_T41 l0 x10_1).f4))).setCell ⟨gb102, 5, none⟩ (.int .i64 ((rd_T41 l0 x10_1).f5.f0))).setCell ⟨gb102, 6, none⟩ (.int .i64 ((rd_T41 l0 x10_1).f5.f1))).setCell ⟨gb102, 7, none⟩ (.int .i64 ((rd_T41 l0 x10_1).f6.f0))).setCell ⟨gb102, 8, none⟩ (.int .i64 ((rd_T41 l0 x10_1).f6.f1))) = w20 at n0_ n1_ ⊢
                        have BK102 := n0_
                        have HB := n1_
                        clear n0_ n1_
                        replace BK102 := Aside0.mk (blk_drew BK102.out)
                        replace HB := Aside0.mk (below_drew1 HB.out)
                        have p104 : 0 ≤ ((ji9) : Int) := of_decide_eq_true (by first | (with_reducible assumption) | assumption)
                        have q104 : (ji9) < (l0.length : Int) := of_decide_eq_true (by first | (with_reducible assumption) | assumption)
                        obtain ⟨ad104, e104, hx104_0, hx104_1, hx104_2, hx104_3, hx104_4, hx104_5, hx104_6, hx104_7, hx104_8⟩ := at_T41 HR0.out (ji9) p104 q104
                        have hw104_8 := hx104_8
                        have hw104_7 := hx104_7
                        have hw104_6 := hx104_6
                        have hw104_5 := hx104_5
                        have hw104_4 := hx104_4
                        have hw104_3 := hx104_3
                        have hw104_2 := hx104_2
                        have hw104_1 := hx104_1
                        have hw104_0 := hx104_0
                        obtain rfl : ad101 = ad104 := (by injection e104)
                        replace hx104_0 := (HB.out.cell (World.block_lt_of_cell? w _ hx104_0)).trans hx104_0
                        replace hx104_1 := (HB.out.cell (World.block_lt_of_cell? w _ hx104_1)).trans hx104_1
                        replace hx104_2 := (HB.out.cell (World.block_lt_of_cell? w _ hx104_2)).trans hx104_2
                        replace hx104_3 := (HB.out.cell (World.block_lt_of_cell? w _ hx104_3)).trans hx104_3
                        replace hx104_4 := (HB.out.cell (World.block_lt_of_cell? w _ hx104_4)).trans hx104_4
                        replace hx104_5 := (HB.out.cell (World.block_lt_of_cell? w _ hx104_5)).trans hx104_5
                        replace hx104_6 := (HB.out.cell (World.block_lt_of_cell? w _ hx104_6)).trans hx104_6
                        replace hx104_7 := (HB.out.cell (World.block_lt_of_cell? w _ hx104_7)).trans hx104_7
                        replace hx104_8 := (HB.out.cell (World.block_lt_of_cell? w _ hx104_8)).trans hx104_8
                        replace p104 := eq_true p104
                        replace q104 := eq_true q104
                        refine start_ (n := 18) (S := fun w' => w'.cell? ⟨gb102, 0, none⟩ = some (.int .i64 ((rd_T41 l0 x10_1).f0)) ∧ w'.cell? ⟨gb102, 1, none⟩ = some (.int .i64 ((rd_T41 l0 x10_1).f1)) ∧ w'.cell? ⟨gb102, 2, none⟩ = some (.int .i64 ((rd_T41 l0 x10_1).f2)) ∧ w'.cell? ⟨gb102, 3, none⟩ = some (.int .i64 ((rd_T41 l0 x10_1).f3)) ∧ w'.cell? ⟨gb102, 4, none⟩ = some (.int .i64 ((rd_T41 l0 x10_1).f4)) ∧ w'.cell? ⟨gb102, 5, none⟩ = some (.int .i64 ((rd_T41 l0 x10_1).f5.f0)) ∧ w'.cell? ⟨gb102, 6, none⟩ = some (.int .i64 ((rd_T41 l0 x10_1).f5.f1)) ∧ w'.cell? ⟨gb102, 7, none⟩ = some (.int .i64 ((rd_T41 l0 x10_1).f6.f0)) ∧ w'.cell? ⟨gb102, 8, none⟩ = some (.int .i64 ((rd_T41 l0 x10_1).f6.f1)) ∧ w'.cell? (ad101.add (((ji9)).toNat * 9)) = some (.int .i64 ((rd_T41 l0 (ji9)).f0)) ∧ w'.cell? ⟨(ad101.add (((ji9)).toNat * 9)).block, (ad101.add (((ji9)).toNat * 9)).off + 1, none⟩ = some (.int .i64 ((rd_T41 l0 (ji9)).f1)) ∧ w'.cell? ⟨(ad101.add (((ji9)).toNat * 9)).block, (ad101.add (((ji9)).toNat * 9)).off + 2, none⟩ = some (.int .i64 ((rd_T41 l0 (ji9)).f2)) ∧ w'.cell? ⟨(ad101.add (((ji9)).toNat * 9)).block, (ad101.add (((ji9)).toNat * 9)).off + 3, none⟩ = some (.int .i64 ((rd_T41 l0 (ji9)).f3)) ∧ w'.cell? ⟨(ad101.add (((ji9)).toNat * 9)).block, (ad101.add (((ji9)).toNat * 9)).off + 4, none⟩ = some (.int .i64 ((rd_T41 l0 (ji9)).f4)) ∧ w'.cell? ⟨(ad101.add (((ji9)).toNat * 9)).block, (ad101.add (((ji9)).toNat * 9)).off + 5, none⟩ = some (.int .i64 ((rd_T41 l0 (ji9)).f5.f0)) ∧ w'.cell? ⟨(ad101.add (((ji9)).toNat * 9)).block, (ad101.add (((ji9)).toNat * 9)).off + 6, none⟩ = some (.int .i64 ((rd_T41 l0 (ji9)).f5.f1)) ∧ w'.cell? ⟨(ad101.add (((ji9)).toNat * 9)).block, (ad101.add (((ji9)).toNat * 9)).off + 7, none⟩ = some (.int .i64 ((rd_T41 l0 (ji9)).f6.f0)) ∧ w'.cell? ⟨(ad101.add (((ji9)).toNat * 9)).block, (ad101.add (((ji9)).toNat * 9)).off + 8, none⟩ = some (.int .i64 ((rd_T41 l0 (ji9)).f6.f1))) (ds := []) #[N,N,N,N,N,N,N,N,N,N,N,N,N,N,N,N,N,N] (by kernel_rfl) rfl rfl ⟨bc BK102 0, bc BK102 1, bc BK102 2, bc BK102 3, bc BK102 4, bc BK102 5, bc BK102 6, bc BK102 7, bc BK102 8, ((HB.out.cell (World.block_lt_of_cell? w _ hw104_0)).trans hw104_0), ((HB.out.cell (World.block_lt_of_cell? w _ hw104_1)).trans hw104_1), ((HB.out.cell (World.block_lt_of_cell? w _ hw104_2)).trans hw104_2), ((HB.out.cell (World.block_lt_of_cell? w _ hw104_3)).trans hw104_3), ((HB.out.cell (World.block_lt_of_cell? w _ hw104_4)).trans hw104_4), ((HB.out.cell (World.block_lt_of_cell? w _ hw104_5)).trans hw104_5), ((HB.out.cell (World.block_lt_of_cell? w _ hw104_6)).trans hw104_6), ((HB.out.cell (World.block_lt_of_cell? w _ hw104_7)).trans hw104_7), ((HB.out.cell (World.block_lt_of_cell? w _ hw104_8)).trans hw104_8)⟩ (fun hHeld => ?_); refine with_tabW weather_Check.tab6 weather_Check.bits6 (fun HT_ HW_ => ?_)
                        generalize w20.drew = w21 at BK102 HB hx104_0 hx104_1 hx104_2 hx104_3 hx104_4 hx104_5 hx104_6 hx104_7 hx104_8 hHeld ⊢
                        refine take_ (i := 0) (N := some 15) (v := ?_) (a' := ?_) #[Y,N,N,N,N,N,N,N,N,N,N,N,N,N,N,N,N,N] rfl rfl (take_ofW HT_.out HW_.out (by kernel_rfl)) (fun _ _ _ h => h) (Or.inl ⟨by rfl, ?_⟩) hHeld ?_ ?_
                        rotate_left
                        · rintro w' ⟨s0, s1, s2, s3, s4, s5, s6, s7, s8, s9, s10, s11, s12, s13, s14, s15, s16, s17⟩
                          go_simp
                          with_reducible rfl
                        rotate_left
                        · simp only [Act.put, List.setIfInBounds_toArray, List.set_cons_zero, List.set_cons_succ, i64_w, i32_w]
                          rfl
                        refine one_ (i := 1) (N := some 16) #[Y,Y,N,N,N,N,N,N,N,N,N,N,N,N,N,N,N,N] rfl rfl (one_of HT_.out (by kernel_rfl)) (by decide) (fun K hK => ?_)
                        refine goes_ Try.func58 (by kernel_rfl) rfl #[.agg #[.int .i64 ((rd_T41 l0 x10_1).f0), .int .i64 ((rd_T41 l0 x10_1).f1), .int .i64 ((rd_T41 l0 x10_1).f2), .int .i64 ((rd_T41 l0 x10_1).f3), .int .i64 ((rd_T41 l0 x10_1).f4), .int .i64 ((rd_T41 l0 x10_1).f5.f0), .int .i64 ((rd_T41 l0 x10_1).f5.f1), .int .i64 ((rd_T41 l0 x10_1).f6.f0), .int .i64 ((rd_T41 l0 x10_1).f6.f1)]] (by rfl) rfl rfl (by (try simp only [List.map_toArray, List.map_cons, List.map_nil]); first | done | rfl | (simp only [List.length_drop, List.length_take]; rfl)) ?_
                        with_reducible refine (weather_valid.calls ((rd_T41 l0 x10_1).f0) ((rd_T41 l0 x10_1).f1) ((rd_T41 l0 x10_1).f2) ((rd_T41 l0 x10_1).f3) ((rd_T41 l0 x10_1).f4) ((rd_T41 l0 x10_1).f5.f0) ((rd_T41 l0 x10_1).f5.f1) ((rd_T41 l0 x10_1).f6.f0) ((rd_T41 l0 x10_1).f6.f1) true _ A6.out).mono ?_
                        rintro e w22 ⟨rfl, hb⟩
                        refine ⟨_, rfl, ?_⟩
                        replace BK102 := Aside0.mk (zb BK102.out hb)
                        replace HB := Aside0.mk (below_step (blw HB.out) hb)
                        (try clear hb)
                        (try clear hb2)
                        (try clear hk)
                        (try clear hi)
                        refine hK.out _ _ ⟨bc BK102 0, bc BK102 1, bc BK102 2, bc BK102 3, bc BK102 4, bc BK102 5, bc BK102 6, bc BK102 7, bc BK102 8, ((HB.out.cell (World.block_lt_of_cell? w _ hw104_0)).trans hw104_0), ((HB.out.cell (World.block_lt_of_cell? w _ hw104_1)).trans hw104_1), ((HB.out.cell (World.block_lt_of_cell? w _ hw104_2)).trans hw104_2), ((HB.out.cell (World.block_lt_of_cell? w _ hw104_3)).trans hw104_3), ((HB.out.cell (World.block_lt_of_cell? w _ hw104_4)).trans hw104_4), ((HB.out.cell (World.block_lt_of_cell? w _ hw104_5)).trans hw104_5), ((HB.out.cell (World.block_lt_of_cell? w _ hw104_6)).trans hw104_6), ((HB.out.cell (World.block_lt_of_cell? w _ hw104_7)).trans hw104_7), ((HB.out.cell (World.block_lt_of_cell? w _ hw104_8)).trans hw104_8)⟩ (fun hHeld => ?_)
                        clear hK K
                        refine norm_ (a' := ?_) ?_ ?_
                        rotate_left
                        · show Act.put _ (some 16) _ = _
                          simp only [Act.put, List.setIfInBounds_toArray, List.set_cons_zero, List.set_cons_succ, i64_w, i32_w]
                          rfl
                        refine pureA (i := 2) (N := some 17) #[Y,Y,Y,N,N,N,N,N,N,N,N,N,N,N,N,N,N,N] (any_of HT_.out (by kernel_rfl)) ?_
                        refine pureA (i := 3) (N := some 18) #[Y,Y,Y,Y,N,N,N,N,N,N,N,N,N,N,N,N,N,N] (any_of HT_.out (by kernel_rfl)) ?_
                        refine pureA (i := 4) (N := some 19) #[Y,Y,Y,Y,Y,N,N,N,N,N,N,N,N,N,N,N,N,N] (any_of HT_.out (by kernel_rfl)) ?_
                        refine pureA (i := 5) (N := some 20) #[Y,Y,Y,Y,Y,Y,N,N,N,N,N,N,N,N,N,N,N,N] (any_of HT_.out (by kernel_rfl)) ?_
                        refine pureA (i := 6) (N := some 21) #[Y,Y,Y,Y,Y,Y,Y,N,N,N,N,N,N,N,N,N,N,N] (any_of HT_.out (by kernel_rfl)) ?_
                        refine pureA (i := 7) (N := some 22) #[Y,Y,Y,Y,Y,Y,Y,Y,N,N,N,N,N,N,N,N,N,N] (any_of HT_.out (by kernel_rfl)) ?_
                        refine pureA (i := 8) (N := some 23) #[Y,Y,Y,Y,Y,Y,Y,Y,Y,N,N,N,N,N,N,N,N,N] (any_of HT_.out (by kernel_rfl)) ?_
                        refine pureA (i := 9) (N := some 24) #[Y,Y,Y,Y,Y,Y,Y,Y,Y,Y,N,N,N,N,N,N,N,N] (any_of HT_.out (by kernel_rfl)) ?_
                        refine pureA (i := 10) (N := some 25) #[Y,Y,Y,Y,Y,Y,Y,Y,Y,Y,Y,N,N,N,N,N,N,N] (any_of HT_.out (by kernel_rfl)) ?_
                        refine pureA (i := 11) (N := some 26) #[Y,Y,Y,Y,Y,Y,Y,Y,Y,Y,Y,Y,N,N,N,N,N,N] (any_of HT_.out (by kernel_rfl)) ?_
                        refine pureA (i := 13) (N := some 28) #[Y,Y,Y,Y,Y,Y,Y,Y,Y,Y,Y,Y,N,Y,N,N,N,N] (any_of HT_.out (by kernel_rfl)) ?_
                        refine take_ (i := 12) (N := some 27) (v := ?_) (a' := ?_) #[Y,Y,Y,Y,Y,Y,Y,Y,Y,Y,Y,Y,Y,Y,N,N,N,N] rfl rfl (take_ofW HT_.out HW_.out (by kernel_rfl)) (fun _ _ _ h => h) (Or.inl ⟨by rfl, ?_⟩) hHeld ?_ ?_
                        rotate_left
                        · rintro w' ⟨s0, s1, s2, s3, s4, s5, s6, s7, s8, s9, s10, s11, s12, s13, s14, s15, s16, s17⟩
                          go_simp
                          with_reducible rfl
                        rotate_left
                        · simp only [Act.put, List.setIfInBounds_toArray, List.set_cons_zero, List.set_cons_succ, i64_w, i32_w]
                          rfl
                        refine take_ (i := 14) (N := some 29) (v := ?_) (a' := ?_) #[Y,Y,Y,Y,Y,Y,Y,Y,Y,Y,Y,Y,Y,Y,Y,N,N,N] rfl rfl (take_ofW HT_.out HW_.out (by kernel_rfl)) (fun _ _ _ h => h) (Or.inl ⟨by rfl, ?_⟩) hHeld ?_ ?_
                        rotate_left
                        · rintro w' ⟨s0, s1, s2, s3, s4, s5, s6, s7, s8, s9, s10, s11, s12, s13, s14, s15, s16, s17⟩
                          go_simp
                          with_reducible rfl
                        rotate_left
                        · simp only [Act.put, List.setIfInBounds_toArray, List.set_cons_zero, List.set_cons_succ, i64_w, i32_w]
                          rfl
                        refine pureA (i := 15) (N := some 30) #[Y,Y,Y,Y,Y,Y,Y,Y,Y,Y,Y,Y,Y,Y,Y,Y,N,N] (any_of HT_.out (by kernel_rfl)) ?_
                        refine pureA (i := 16) (N := some 31) #[Y,Y,Y,Y,Y,Y,Y,Y,Y,Y,Y,Y,Y,Y,Y,Y,Y,N] (any_of HT_.out (by kernel_rfl)) ?_
                        refine pureA (i := 17) (N := some 32) #[Y,Y,Y,Y,Y,Y,Y,Y,Y,Y,Y,Y,Y,Y,Y,Y,Y,Y] (any_of HT_.out (by kernel_rfl)) ?_
                        refine done_ (done_of HT_.out (by kernel_rfl)) ?_
                        try go_wp2
                        go_roundg k1
                        case measure => have := HK1.out; omega
                        case rel => exact ⟨(wrap64 (x10_1 + 1)), (by first | rfl | (simp; done) | (simp [*]; done)), H', ⟨by have := HK1.out; omega⟩, ⟨blw HB.out⟩⟩
                    · rw [if_neg c11] at H
                      exact absurd H (by simp)
                  · rw [if_neg c10] at H
                    exact absurd H (by simp)
                · rw [if_neg c8] at H
                  have c8b0 : decide (0 < x10_1) = false := decide_eq_false c8
                  clear c8
                  have H' := Aside0.mk H
                  clear H
                  have p101 : 0 ≤ (x10_1 : Int) := of_decide_eq_true (by first | (with_reducible assumption) | assumption)
                  have q101 : x10_1 < (l0.length : Int) := of_decide_eq_true (by first | (with_reducible assumption) | assumption)
                  obtain ⟨ad101, e101, hx101_0, hx101_1, hx101_2, hx101_3, hx101_4, hx101_5, hx101_6, hx101_7, hx101_8⟩ := at_T41 HR0.out x10_1 p101 q101
                  cases e101
                  replace hx101_0 := (HB.out.cell (World.block_lt_of_cell? w _ hx101_0)).trans hx101_0
                  replace hx101_1 := (HB.out.cell (World.block_lt_of_cell? w _ hx101_1)).trans hx101_1
                  replace hx101_2 := (HB.out.cell (World.block_lt_of_cell? w _ hx101_2)).trans hx101_2
                  replace hx101_3 := (HB.out.cell (World.block_lt_of_cell? w _ hx101_3)).trans hx101_3
                  replace hx101_4 := (HB.out.cell (World.block_lt_of_cell? w _ hx101_4)).trans hx101_4
                  replace hx101_5 := (HB.out.cell (World.block_lt_of_cell? w _ hx101_5)).trans hx101_5
                  replace hx101_6 := (HB.out.cell (World.block_lt_of_cell? w _ hx101_6)).trans hx101_6
                  replace hx101_7 := (HB.out.cell (World.block_lt_of_cell? w _ hx101_7)).trans hx101_7
                  replace hx101_8 := (HB.out.cell (World.block_lt_of_cell? w _ hx101_8)).trans hx101_8
                  replace p101 := eq_true p101
                  replace q101 := eq_true q101
                  try go_wp2_with (first | ((with_reducible refine gate_dst (N := 4) rfl ?_); refine box_event ?hg (N := 4) ?hd (cs := #[.int .i64 0, .int .i64 0, .int .i64 0, .int .i64 0, .int .i64 0, .int .i64 0, .int .i64 0, .int .i64 0, .int .i64 0]) (t := 41) ?hr ?_; (case hd => rfl); (case hg => rfl); (case hr => first | (go_simp; done) | (go_simp; rfl)); intro gb102 hg w23 hbox hb; have BK102 := Aside0.mk (hbox); have GW102 := Aside0.mk ((by rw [hg]; exact (below_size (blw HB.out)) : w.heap.size ≤ gb102)); have GE102 := Aside0.mk ((by rw [hg]; exact (below_size (blw HB.out)) : w.heap.size ≤ gb102)); replace HB := Aside0.mk (below_step (blw HB.out) hb); clear hb hbox hg; have hcz24_0 : w23.cell? ⟨gb102, 0, none⟩ = some (.int .i64 0) := bc BK102 0; have hcz24_1 : w23.cell? ⟨gb102, 1, none⟩ = some (.int .i64 0) := bc BK102 1; have hcz24_2 : w23.cell? ⟨gb102, 2, none⟩ = some (.int .i64 0) := bc BK102 2; have hcz24_3 : w23.cell? ⟨gb102, 3, none⟩ = some (.int .i64 0) := bc BK102 3; have hcz24_4 : w23.cell? ⟨gb102, 4, none⟩ = some (.int .i64 0) := bc BK102 4; have hcz24_5 : w23.cell? ⟨gb102, 5, none⟩ = some (.int .i64 0) := bc BK102 5; have hcz24_6 : w23.cell? ⟨gb102, 6, none⟩ = some (.int .i64 0) := bc BK102 6; have hcz24_7 : w23.cell? ⟨gb102, 7, none⟩ = some (.int .i64 0) := bc BK102 7; have hcz24_8 : w23.cell? ⟨gb102, 8, none⟩ = some (.int .i64 0) := bc BK102 8; have hfz24_0 := blk_frozen BK102.out 0; have hfz24_1 := blk_frozen BK102.out 1; have hfz24_2 := blk_frozen BK102.out 2; have hfz24_3 := blk_frozen BK102.out 3; have hfz24_4 := blk_frozen BK102.out 4; have hfz24_5 := blk_frozen BK102.out 5; have hfz24_6 := blk_frozen BK102.out 6; have hfz24_7 := blk_frozen BK102.out 7; have hfz24_8 := blk_frozen BK102.out 8))
                  have n0_ : Aside0 ((((((((((w23.setCell ⟨gb102, 0, none⟩ (.int .i64 ((rd_T41 l0 x10_1).f0))).setCell ⟨gb102, 1, none⟩ (.int .i64 ((rd_T41 l0 x10_1).f1))).setCell ⟨gb102, 2, none⟩ (.int .i64 ((rd_T41 l0 x10_1).f2))).setCell ⟨gb102, 3, none⟩ (.int .i64 ((rd_T41 l0 x10_1).f3))).setCell ⟨gb102, 4, none⟩ (.int .i64 ((rd_T41 l0 x10_1).f4))).setCell ⟨gb102, 5, none⟩ (.int .i64 ((rd_T41 l0 x10_1).f5.f0))).setCell ⟨gb102, 6, none⟩ (.int .i64 ((rd_T41 l0 x10_1).f5.f1))).setCell ⟨gb102, 7, none⟩ (.int .i64 ((rd_T41 l0 x10_1).f6.f0))).setCell ⟨gb102, 8, none⟩ (.int .i64 ((rd_T41 l0 x10_1).f6.f1))).heap[gb102]? = some (.cells #[.int .i64 ((rd_T41 l0 x10_1).f0), .int .i64 ((rd_T41 l0 x10_1).f1), .int .i64 ((rd_T41 l0 x10_1).f2), .int .i64 ((rd_T41 l0 x10_1).f3), .int .i64 ((rd_T41 l0 x10_1).f4), .int .i64 ((rd_T41 l0 x10_1).f5.f0), .int .i64 ((rd_T41 l0 x10_1).f5.f1), .int .i64 ((rd_T41 l0 x10_1).f6.f0), .int .i64 ((rd_T41 l0 x10_1).f6.f1)] 41 (0, 0))) := ⟨by (with_reducible repeat (first | refine blk_drewN ?_ _ | refine blk_drew ?_ | refine blk_alloc ?_ _)); refine blk_put (cs := #[.int .i64 ((rd_T41 l0 x10_1).f0), .int .i64 ((rd_T41 l0 x10_1).f1), .int .i64 ((rd_T41 l0 x10_1).f2), .int .i64 ((rd_T41 l0 x10_1).f3), .int .i64 ((rd_T41 l0 x10_1).f4), .int .i64 ((rd_T41 l0 x10_1).f5.f0), .int .i64 ((rd_T41 l0 x10_1).f5.f1), .int .i64 ((rd_T41 l0 x10_1).f6.f0), .int .i64 0]) ?_ 8 _ rfl; (with_reducible repeat (first | refine blk_drewN ?_ _ | refine blk_drew ?_ | refine blk_alloc ?_ _)); refine blk_put (cs := #[.int .i64 ((rd_T41 l0 x10_1).f0), .int .i64 ((rd_T41 l0 x10_1).f1), .int .i64 ((rd_T41 l0 x10_1).f2), .int .i64 ((rd_T41 l0 x10_1).f3), .int .i64 ((rd_T41 l0 x10_1).f4), .int .i64 ((rd_T41 l0 x10_1).f5.f0), .int .i64 ((rd_T41 l0 x10_1).f5.f1), .int .i64 0, .int .i64 0]) ?_ 7 _ rfl; (with_reducible repeat (first | refine blk_drewN ?_ _ | refine blk_drew ?_ | refine blk_alloc ?_ _)); refine blk_put (cs := #[.int .i64 ((rd_T41 l0 x10_1).f0), .int .i64 ((rd_T41 l0 x10_1).f1), .int .i64 ((rd_T41 l0 x10_1).f2), .int .i64 ((rd_T41 l0 x10_1).f3), .int .i64 ((rd_T41 l0 x10_1).f4), .int .i64 ((rd_T41 l0 x10_1).f5.f0), .int .i64 0, .int .i64 0, .int .i64 0]) ?_ 6 _ rfl; (with_reducible repeat (first | refine blk_drewN ?_ _ | refine blk_drew ?_ | refine blk_alloc ?_ _)); refine blk_put (cs := #[.int .i64 ((rd_T41 l0 x10_1).f0), .int .i64 ((rd_T41 l0 x10_1).f1), .int .i64 ((rd_T41 l0 x10_1).f2), .int .i64 ((rd_T41 l0 x10_1).f3), .int .i64 ((rd_T41 l0 x10_1).f4), .int .i64 0, .int .i64 0, .int .i64 0, .int .i64 0]) ?_ 5 _ rfl; (with_reducible repeat (first | refine blk_drewN ?_ _ | refine blk_drew ?_ | refine blk_alloc ?_ _)); refine blk_put (cs := #[.int .i64 ((rd_T41 l0 x10_1).f0), .int .i64 ((rd_T41 l0 x10_1).f1), .int .i64 ((rd_T41 l0 x10_1).f2), .int .i64 ((rd_T41 l0 x10_1).f3), .int .i64 0, .int .i64 0, .int .i64 0, .int .i64 0, .int .i64 0]) ?_ 4 _ rfl; (with_reducible repeat (first | refine blk_drewN ?_ _ | refine blk_drew ?_ | refine blk_alloc ?_ _)); refine blk_put (cs := #[.int .i64 ((rd_T41 l0 x10_1).f0), .int .i64 ((rd_T41 l0 x10_1).f1), .int .i64 ((rd_T41 l0 x10_1).f2), .int .i64 0, .int .i64 0, .int .i64 0, .int .i64 0, .int .i64 0, .int .i64 0]) ?_ 3 _ rfl; (with_reducible repeat (first | refine blk_drewN ?_ _ | refine blk_drew ?_ | refine blk_alloc ?_ _)); refine blk_put (cs := #[.int .i64 ((rd_T41 l0 x10_1).f0), .int .i64 ((rd_T41 l0 x10_1).f1), .int .i64 0, .int .i64 0, .int .i64 0, .int .i64 0, .int .i64 0, .int .i64 0, .int .i64 0]) ?_ 2 _ rfl; (with_reducible repeat (first | refine blk_drewN ?_ _ | refine blk_drew ?_ | refine blk_alloc ?_ _)); refine blk_put (cs := #[.int .i64 ((rd_T41 l0 x10_1).f0), .int .i64 0, .int .i64 0, .int .i64 0, .int .i64 0, .int .i64 0, .int .i64 0, .int .i64 0, .int .i64 0]) ?_ 1 _ rfl; (with_reducible repeat (first | refine blk_drewN ?_ _ | refine blk_drew ?_ | refine blk_alloc ?_ _)); refine blk_put (cs := #[.int .i64 0, .int .i64 0, .int .i64 0, .int .i64 0, .int .i64 0, .int .i64 0, .int .i64 0, .int .i64 0, .int .i64 0]) ?_ 0 _ rfl; (with_reducible repeat (first | refine blk_drewN ?_ _ | refine blk_drew ?_ | refine blk_alloc ?_ _)); exact BK102.out⟩
                  have n1_ : Aside0 (Below w.heap.size w (((((((((w23.setCell ⟨gb102, 0, none⟩ (.int .i64 ((rd_T41 l0 x10_1).f0))).setCell ⟨gb102, 1, none⟩ (.int .i64 ((rd_T41 l0 x10_1).f1))).setCell ⟨gb102, 2, none⟩ (.int .i64 ((rd_T41 l0 x10_1).f2))).setCell ⟨gb102, 3, none⟩ (.int .i64 ((rd_T41 l0 x10_1).f3))).setCell ⟨gb102, 4, none⟩ (.int .i64 ((rd_T41 l0 x10_1).f4))).setCell ⟨gb102, 5, none⟩ (.int .i64 ((rd_T41 l0 x10_1).f5.f0))).setCell ⟨gb102, 6, none⟩ (.int .i64 ((rd_T41 l0 x10_1).f5.f1))).setCell ⟨gb102, 7, none⟩ (.int .i64 ((rd_T41 l0 x10_1).f6.f0))).setCell ⟨gb102, 8, none⟩ (.int .i64 ((rd_T41 l0 x10_1).f6.f1)))) := ⟨blw HB.out⟩
                  (try clear BK102)
                  (try clear HB)
                  generalize (((((((((w23.setCell ⟨gb102, 0, none⟩ (.int .i64 ((rd_T41 l0 x10_1).f0))).setCell ⟨gb102, 1, none⟩ (.int .i64 ((rd_T41 l0 x10_1).f1))).setCell ⟨gb102, 2, none⟩ (.int .i64 ((rd_T41 l0 x10_1).f2))).setCell ⟨gb102, 3, none⟩ (.int .i64 ((rd_T41 l0 x10_1).f3))).setCell ⟨gb102, 4, none⟩ (.int .i64 ((rd_T41 l0 x10_1).f4))).setCell ⟨gb102, 5, none⟩ (.int .i64 ((rd_T41 l0 x10_1).f5.f0))).setCell ⟨gb102, 6, none⟩ (.int .i64 ((rd_T41 l0 x10_1).f5.f1))).setCell ⟨gb102, 7, none⟩ (.int .i64 ((rd_T41 l0 x10_1).f6.f0))).setCell ⟨gb102, 8, none⟩ (.int .i64 ((rd_T41 l0 x10_1).f6.f1))) = w25 at n0_ n1_ ⊢
                  have BK102 := n0_
                  have HB := n1_
                  clear n0_ n1_
                  replace BK102 := Aside0.mk (blk_drew BK102.out)
                  replace HB := Aside0.mk (below_drew1 HB.out)
                  refine start_ (n := 18) (S := fun w' => w'.cell? ⟨gb102, 0, none⟩ = some (.int .i64 ((rd_T41 l0 x10_1).f0)) ∧ w'.cell? ⟨gb102, 1, none⟩ = some (.int .i64 ((rd_T41 l0 x10_1).f1)) ∧ w'.cell? ⟨gb102, 2, none⟩ = some (.int .i64 ((rd_T41 l0 x10_1).f2)) ∧ w'.cell? ⟨gb102, 3, none⟩ = some (.int .i64 ((rd_T41 l0 x10_1).f3)) ∧ w'.cell? ⟨gb102, 4, none⟩ = some (.int .i64 ((rd_T41 l0 x10_1).f4)) ∧ w'.cell? ⟨gb102, 5, none⟩ = some (.int .i64 ((rd_T41 l0 x10_1).f5.f0)) ∧ w'.cell? ⟨gb102, 6, none⟩ = some (.int .i64 ((rd_T41 l0 x10_1).f5.f1)) ∧ w'.cell? ⟨gb102, 7, none⟩ = some (.int .i64 ((rd_T41 l0 x10_1).f6.f0)) ∧ w'.cell? ⟨gb102, 8, none⟩ = some (.int .i64 ((rd_T41 l0 x10_1).f6.f1))) (ds := []) #[N,N,N,N,N,N,N,N,N,N,N,N,N,N,N,N,N,N] (by kernel_rfl) rfl rfl ⟨bc BK102 0, bc BK102 1, bc BK102 2, bc BK102 3, bc BK102 4, bc BK102 5, bc BK102 6, bc BK102 7, bc BK102 8⟩ (fun hHeld => ?_); refine with_tabW weather_Check.tab6 weather_Check.bits6 (fun HT_ HW_ => ?_)
                  generalize w25.drew = w26 at BK102 HB hHeld ⊢
                  refine take_ (i := 0) (N := some 15) (v := ?_) (a' := ?_) #[Y,N,N,N,N,N,N,N,N,N,N,N,N,N,N,N,N,N] rfl rfl (take_ofW HT_.out HW_.out (by kernel_rfl)) (fun _ _ _ h => h) (Or.inl ⟨by rfl, ?_⟩) hHeld ?_ ?_
                  rotate_left
                  · rintro w' ⟨s0, s1, s2, s3, s4, s5, s6, s7, s8⟩
                    go_simp
                    with_reducible rfl
                  rotate_left
                  · simp only [Act.put, List.setIfInBounds_toArray, List.set_cons_zero, List.set_cons_succ, i64_w, i32_w]
                    rfl
                  refine one_ (i := 1) (N := some 16) #[Y,Y,N,N,N,N,N,N,N,N,N,N,N,N,N,N,N,N] rfl rfl (one_of HT_.out (by kernel_rfl)) (by decide) (fun K hK => ?_)
                  refine goes_ Try.func58 (by kernel_rfl) rfl #[.agg #[.int .i64 ((rd_T41 l0 x10_1).f0), .int .i64 ((rd_T41 l0 x10_1).f1), .int .i64 ((rd_T41 l0 x10_1).f2), .int .i64 ((rd_T41 l0 x10_1).f3), .int .i64 ((rd_T41 l0 x10_1).f4), .int .i64 ((rd_T41 l0 x10_1).f5.f0), .int .i64 ((rd_T41 l0 x10_1).f5.f1), .int .i64 ((rd_T41 l0 x10_1).f6.f0), .int .i64 ((rd_T41 l0 x10_1).f6.f1)]] (by rfl) rfl rfl (by (try simp only [List.map_toArray, List.map_cons, List.map_nil]); first | done | rfl | (simp only [List.length_drop, List.length_take]; rfl)) ?_
                  with_reducible refine (weather_valid.calls ((rd_T41 l0 x10_1).f0) ((rd_T41 l0 x10_1).f1) ((rd_T41 l0 x10_1).f2) ((rd_T41 l0 x10_1).f3) ((rd_T41 l0 x10_1).f4) ((rd_T41 l0 x10_1).f5.f0) ((rd_T41 l0 x10_1).f5.f1) ((rd_T41 l0 x10_1).f6.f0) ((rd_T41 l0 x10_1).f6.f1) true _ A6.out).mono ?_
                  rintro e w27 ⟨rfl, hb⟩
                  refine ⟨_, rfl, ?_⟩
                  replace BK102 := Aside0.mk (zb BK102.out hb)
                  replace HB := Aside0.mk (below_step (blw HB.out) hb)
                  (try clear hb)
                  (try clear hb2)
                  (try clear hk)
                  (try clear hi)
                  refine hK.out _ _ ⟨bc BK102 0, bc BK102 1, bc BK102 2, bc BK102 3, bc BK102 4, bc BK102 5, bc BK102 6, bc BK102 7, bc BK102 8⟩ (fun hHeld => ?_)
                  clear hK K
                  refine norm_ (a' := ?_) ?_ ?_
                  rotate_left
                  · show Act.put _ (some 16) _ = _
                    simp only [Act.put, List.setIfInBounds_toArray, List.set_cons_zero, List.set_cons_succ, i64_w, i32_w]
                    rfl
                  refine pureA (i := 2) (N := some 17) #[Y,Y,Y,N,N,N,N,N,N,N,N,N,N,N,N,N,N,N] (any_of HT_.out (by kernel_rfl)) ?_
                  refine pureA (i := 3) (N := some 18) #[Y,Y,Y,Y,N,N,N,N,N,N,N,N,N,N,N,N,N,N] (any_of HT_.out (by kernel_rfl)) ?_
                  refine pureA (i := 4) (N := some 19) #[Y,Y,Y,Y,Y,N,N,N,N,N,N,N,N,N,N,N,N,N] (any_of HT_.out (by kernel_rfl)) ?_
                  refine pureA (i := 5) (N := some 20) #[Y,Y,Y,Y,Y,Y,N,N,N,N,N,N,N,N,N,N,N,N] (any_of HT_.out (by kernel_rfl)) ?_
                  refine pureA (i := 6) (N := some 21) #[Y,Y,Y,Y,Y,Y,Y,N,N,N,N,N,N,N,N,N,N,N] (any_of HT_.out (by kernel_rfl)) ?_
                  refine pureU (i := 7) (N := some 22) #[Y,Y,Y,Y,Y,Y,Y,Y,N,N,N,N,N,N,N,N,N,N] (any_of HT_.out (by kernel_rfl)) ?_
                  refine pureU (i := 8) (N := some 23) #[Y,Y,Y,Y,Y,Y,Y,Y,Y,N,N,N,N,N,N,N,N,N] (any_of HT_.out (by kernel_rfl)) ?_
                  refine pureU (i := 9) (N := some 24) #[Y,Y,Y,Y,Y,Y,Y,Y,Y,Y,N,N,N,N,N,N,N,N] (any_of HT_.out (by kernel_rfl)) ?_
                  refine pureU (i := 10) (N := some 25) #[Y,Y,Y,Y,Y,Y,Y,Y,Y,Y,Y,N,N,N,N,N,N,N] (any_of HT_.out (by kernel_rfl)) ?_
                  refine pureU (i := 11) (N := some 26) #[Y,Y,Y,Y,Y,Y,Y,Y,Y,Y,Y,Y,N,N,N,N,N,N] (any_of HT_.out (by kernel_rfl)) ?_
                  refine pureU (i := 12) (N := some 27) #[Y,Y,Y,Y,Y,Y,Y,Y,Y,Y,Y,Y,Y,N,N,N,N,N] (any_of HT_.out (by kernel_rfl)) ?_
                  refine pureU (i := 13) (N := some 28) #[Y,Y,Y,Y,Y,Y,Y,Y,Y,Y,Y,Y,Y,Y,N,N,N,N] (any_of HT_.out (by kernel_rfl)) ?_
                  refine pureU (i := 14) (N := some 29) #[Y,Y,Y,Y,Y,Y,Y,Y,Y,Y,Y,Y,Y,Y,Y,N,N,N] (any_of HT_.out (by kernel_rfl)) ?_
                  refine pureU (i := 15) (N := some 30) #[Y,Y,Y,Y,Y,Y,Y,Y,Y,Y,Y,Y,Y,Y,Y,Y,N,N] (any_of HT_.out (by kernel_rfl)) ?_
                  refine pureA (i := 16) (N := some 31) #[Y,Y,Y,Y,Y,Y,Y,Y,Y,Y,Y,Y,Y,Y,Y,Y,Y,N] (any_of HT_.out (by kernel_rfl)) ?_
                  refine pureA (i := 17) (N := some 32) #[Y,Y,Y,Y,Y,Y,Y,Y,Y,Y,Y,Y,Y,Y,Y,Y,Y,Y] (any_of HT_.out (by kernel_rfl)) ?_
                  refine done_ (done_of HT_.out (by kernel_rfl)) ?_
                  try go_wp2
                  go_roundg k1
                  case measure => have := HK1.out; omega
                  case rel => exact ⟨(wrap64 (x10_1 + 1)), (by first | rfl | (simp; done) | (simp [*]; done)), H', ⟨by have := HK1.out; omega⟩, ⟨blw HB.out⟩⟩
              · replace c7 := Bool.eq_false_iff.mpr c7
                subst c7
                have H1 : (some 270) = some r := by rw [if_neg (show ¬ (false = true) by decide)] at H; exact H
                clear H
                have H := H1
                clear H1
                obtain rfl := Option.some.inj H
                have p101 : 0 ≤ (x10_1 : Int) := of_decide_eq_true (by first | (with_reducible assumption) | assumption)
                have q101 : x10_1 < (l0.length : Int) := of_decide_eq_true (by first | (with_reducible assumption) | assumption)
                obtain ⟨ad101, e101, hx101_0, hx101_1, hx101_2, hx101_3, hx101_4, hx101_5, hx101_6, hx101_7, hx101_8⟩ := at_T41 HR0.out x10_1 p101 q101
                cases e101
                replace hx101_0 := (HB.out.cell (World.block_lt_of_cell? w _ hx101_0)).trans hx101_0
                replace hx101_1 := (HB.out.cell (World.block_lt_of_cell? w _ hx101_1)).trans hx101_1
                replace hx101_2 := (HB.out.cell (World.block_lt_of_cell? w _ hx101_2)).trans hx101_2
                replace hx101_3 := (HB.out.cell (World.block_lt_of_cell? w _ hx101_3)).trans hx101_3
                replace hx101_4 := (HB.out.cell (World.block_lt_of_cell? w _ hx101_4)).trans hx101_4
                replace hx101_5 := (HB.out.cell (World.block_lt_of_cell? w _ hx101_5)).trans hx101_5
                replace hx101_6 := (HB.out.cell (World.block_lt_of_cell? w _ hx101_6)).trans hx101_6
                replace hx101_7 := (HB.out.cell (World.block_lt_of_cell? w _ hx101_7)).trans hx101_7
                replace hx101_8 := (HB.out.cell (World.block_lt_of_cell? w _ hx101_8)).trans hx101_8
                replace p101 := eq_true p101
                replace q101 := eq_true q101
                try go_wp2_with (first | ((with_reducible refine gate_dst (N := 4) rfl ?_); refine box_event ?hg (N := 4) ?hd (cs := #[.int .i64 0, .int .i64 0, .int .i64 0, .int .i64 0, .int .i64 0, .int .i64 0, .int .i64 0, .int .i64 0, .int .i64 0]) (t := 41) ?hr ?_; (case hd => rfl); (case hg => rfl); (case hr => first | (go_simp; done) | (go_simp; rfl)); intro gb102 hg w28 hbox hb; have BK102 := Aside0.mk (hbox); have GW102 := Aside0.mk ((by rw [hg]; exact (below_size (blw HB.out)) : w.heap.size ≤ gb102)); have GE102 := Aside0.mk ((by rw [hg]; exact (below_size (blw HB.out)) : w.heap.size ≤ gb102)); replace HB := Aside0.mk (below_step (blw HB.out) hb); clear hb hbox hg; have hcz29_0 : w28.cell? ⟨gb102, 0, none⟩ = some (.int .i64 0) := bc BK102 0; have hcz29_1 : w28.cell? ⟨gb102, 1, none⟩ = some (.int .i64 0) := bc BK102 1; have hcz29_2 : w28.cell? ⟨gb102, 2, none⟩ = some (.int .i64 0) := bc BK102 2; have hcz29_3 : w28.cell? ⟨gb102, 3, none⟩ = some (.int .i64 0) := bc BK102 3; have hcz29_4 : w28.cell? ⟨gb102, 4, none⟩ = some (.int .i64 0) := bc BK102 4; have hcz29_5 : w28.cell? ⟨gb102, 5, none⟩ = some (.int .i64 0) := bc BK102 5; have hcz29_6 : w28.cell? ⟨gb102, 6, none⟩ = some (.int .i64 0) := bc BK102 6; have hcz29_7 : w28.cell? ⟨gb102, 7, none⟩ = some (.int .i64 0) := bc BK102 7; have hcz29_8 : w28.cell? ⟨gb102, 8, none⟩ = some (.int .i64 0) := bc BK102 8; have hfz29_0 := blk_frozen BK102.out 0; have hfz29_1 := blk_frozen BK102.out 1; have hfz29_2 := blk_frozen BK102.out 2; have hfz29_3 := blk_frozen BK102.out 3; have hfz29_4 := blk_frozen BK102.out 4; have hfz29_5 := blk_frozen BK102.out 5; have hfz29_6 := blk_frozen BK102.out 6; have hfz29_7 := blk_frozen BK102.out 7; have hfz29_8 := blk_frozen BK102.out 8))
                have n0_ : Aside0 ((((((((((w28.setCell ⟨gb102, 0, none⟩ (.int .i64 ((rd_T41 l0 x10_1).f0))).setCell ⟨gb102, 1, none⟩ (.int .i64 ((rd_T41 l0 x10_1).f1))).setCell ⟨gb102, 2, none⟩ (.int .i64 ((rd_T41 l0 x10_1).f2))).setCell ⟨gb102, 3, none⟩ (.int .i64 ((rd_T41 l0 x10_1).f3))).setCell ⟨gb102, 4, none⟩ (.int .i64 ((rd_T41 l0 x10_1).f4))).setCell ⟨gb102, 5, none⟩ (.int .i64 ((rd_T41 l0 x10_1).f5.f0))).setCell ⟨gb102, 6, none⟩ (.int .i64 ((rd_T41 l0 x10_1).f5.f1))).setCell ⟨gb102, 7, none⟩ (.int .i64 ((rd_T41 l0 x10_1).f6.f0))).setCell ⟨gb102, 8, none⟩ (.int .i64 ((rd_T41 l0 x10_1).f6.f1))).heap[gb102]? = some (.cells #[.int .i64 ((rd_T41 l0 x10_1).f0), .int .i64 ((rd_T41 l0 x10_1).f1), .int .i64 ((rd_T41 l0 x10_1).f2), .int .i64 ((rd_T41 l0 x10_1).f3), .int .i64 ((rd_T41 l0 x10_1).f4), .int .i64 ((rd_T41 l0 x10_1).f5.f0), .int .i64 ((rd_T41 l0 x10_1).f5.f1), .int .i64 ((rd_T41 l0 x10_1).f6.f0), .int .i64 ((rd_T41 l0 x10_1).f6.f1)] 41 (0, 0))) := ⟨by (with_reducible repeat (first | refine blk_drewN ?_ _ | refine blk_drew ?_ | refine blk_alloc ?_ _)); refine blk_put (cs := #[.int .i64 ((rd_T41 l0 x10_1).f0), .int .i64 ((rd_T41 l0 x10_1).f1), .int .i64 ((rd_T41 l0 x10_1).f2), .int .i64 ((rd_T41 l0 x10_1).f3), .int .i64 ((rd_T41 l0 x10_1).f4), .int .i64 ((rd_T41 l0 x10_1).f5.f0), .int .i64 ((rd_T41 l0 x10_1).f5.f1), .int .i64 ((rd_T41 l0 x10_1).f6.f0), .int .i64 0]) ?_ 8 _ rfl; (with_reducible repeat (first | refine blk_drewN ?_ _ | refine blk_drew ?_ | refine blk_alloc ?_ _)); refine blk_put (cs := #[.int .i64 ((rd_T41 l0 x10_1).f0), .int .i64 ((rd_T41 l0 x10_1).f1), .int .i64 ((rd_T41 l0 x10_1).f2), .int .i64 ((rd_T41 l0 x10_1).f3), .int .i64 ((rd_T41 l0 x10_1).f4), .int .i64 ((rd_T41 l0 x10_1).f5.f0), .int .i64 ((rd_T41 l0 x10_1).f5.f1), .int .i64 0, .int .i64 0]) ?_ 7 _ rfl; (with_reducible repeat (first | refine blk_drewN ?_ _ | refine blk_drew ?_ | refine blk_alloc ?_ _)); refine blk_put (cs := #[.int .i64 ((rd_T41 l0 x10_1).f0), .int .i64 ((rd_T41 l0 x10_1).f1), .int .i64 ((rd_T41 l0 x10_1).f2), .int .i64 ((rd_T41 l0 x10_1).f3), .int .i64 ((rd_T41 l0 x10_1).f4), .int .i64 ((rd_T41 l0 x10_1).f5.f0), .int .i64 0, .int .i64 0, .int .i64 0]) ?_ 6 _ rfl; (with_reducible repeat (first | refine blk_drewN ?_ _ | refine blk_drew ?_ | refine blk_alloc ?_ _)); refine blk_put (cs := #[.int .i64 ((rd_T41 l0 x10_1).f0), .int .i64 ((rd_T41 l0 x10_1).f1), .int .i64 ((rd_T41 l0 x10_1).f2), .int .i64 ((rd_T41 l0 x10_1).f3), .int .i64 ((rd_T41 l0 x10_1).f4), .int .i64 0, .int .i64 0, .int .i64 0, .int .i64 0]) ?_ 5 _ rfl; (with_reducible repeat (first | refine blk_drewN ?_ _ | refine blk_drew ?_ | refine blk_alloc ?_ _)); refine blk_put (cs := #[.int .i64 ((rd_T41 l0 x10_1).f0), .int .i64 ((rd_T41 l0 x10_1).f1), .int .i64 ((rd_T41 l0 x10_1).f2), .int .i64 ((rd_T41 l0 x10_1).f3), .int .i64 0, .int .i64 0, .int .i64 0, .int .i64 0, .int .i64 0]) ?_ 4 _ rfl; (with_reducible repeat (first | refine blk_drewN ?_ _ | refine blk_drew ?_ | refine blk_alloc ?_ _)); refine blk_put (cs := #[.int .i64 ((rd_T41 l0 x10_1).f0), .int .i64 ((rd_T41 l0 x10_1).f1), .int .i64 ((rd_T41 l0 x10_1).f2), .int .i64 0, .int .i64 0, .int .i64 0, .int .i64 0, .int .i64 0, .int .i64 0]) ?_ 3 _ rfl; (with_reducible repeat (first | refine blk_drewN ?_ _ | refine blk_drew ?_ | refine blk_alloc ?_ _)); refine blk_put (cs := #[.int .i64 ((rd_T41 l0 x10_1).f0), .int .i64 ((rd_T41 l0 x10_1).f1), .int .i64 0, .int .i64 0, .int .i64 0, .int .i64 0, .int .i64 0, .int .i64 0, .int .i64 0]) ?_ 2 _ rfl; (with_reducible repeat (first | refine blk_drewN ?_ _ | refine blk_drew ?_ | refine blk_alloc ?_ _)); refine blk_put (cs := #[.int .i64 ((rd_T41 l0 x10_1).f0), .int .i64 0, .int .i64 0, .int .i64 0, .int .i64 0, .int .i64 0, .int .i64 0, .int .i64 0, .int .i64 0]) ?_ 1 _ rfl; (with_reducible repeat (first | refine blk_drewN ?_ _ | refine blk_drew ?_ | refine blk_alloc ?_ _)); refine blk_put (cs := #[.int .i64 0, .int .i64 0, .int .i64 0, .int .i64 0, .int .i64 0, .int .i64 0, .int .i64 0, .int .i64 0, .int .i64 0]) ?_ 0 _ rfl; (with_reducible repeat (first | refine blk_drewN ?_ _ | refine blk_drew ?_ | refine blk_alloc ?_ _)); exact BK102.out⟩
                have n1_ : Aside0 (Below w.heap.size w (((((((((w28.setCell ⟨gb102, 0, none⟩ (.int .i64 ((rd_T41 l0 x10_1).f0))).setCell ⟨gb102, 1, none⟩ (.int .i64 ((rd_T41 l0 x10_1).f1))).setCell ⟨gb102, 2, none⟩ (.int .i64 ((rd_T41 l0 x10_1).f2))).setCell ⟨gb102, 3, none⟩ (.int .i64 ((rd_T41 l0 x10_1).f3))).setCell ⟨gb102, 4, none⟩ (.int .i64 ((rd_T41 l0 x10_1).f4))).setCell ⟨gb102, 5, none⟩ (.int .i64 ((rd_T41 l0 x10_1).f5.f0))).setCell ⟨gb102, 6, none⟩ (.int .i64 ((rd_T41 l0 x10_1).f5.f1))).setCell ⟨gb102, 7, none⟩ (.int .i64 ((rd_T41 l0 x10_1).f6.f0))).setCell ⟨gb102, 8, none⟩ (.int .i64 ((rd_T41 l0 x10_1).f6.f1)))) := ⟨blw HB.out⟩
                (try clear BK102)
                (try clear HB)
                generalize (((((((((w28.setCell ⟨gb102, 0, none⟩ (.int .i64 ((rd_T41 l0 x10_1).f0))).setCell ⟨gb102, 1, none⟩ (.int .i64 ((rd_T41 l0 x10_1).f1))).setCell ⟨gb102, 2, none⟩ (.int .i64 ((rd_T41 l0 x10_1).f2))).setCell ⟨gb102, 3, none⟩ (.int .i64 ((rd_T41 l0 x10_1).f3))).setCell ⟨gb102, 4, none⟩ (.int .i64 ((rd_T41 l0 x10_1).f4))).setCell ⟨gb102, 5, none⟩ (.int .i64 ((rd_T41 l0 x10_1).f5.f0))).setCell ⟨gb102, 6, none⟩ (.int .i64 ((rd_T41 l0 x10_1).f5.f1))).setCell ⟨gb102, 7, none⟩ (.int .i64 ((rd_T41 l0 x10_1).f6.f0))).setCell ⟨gb102, 8, none⟩ (.int .i64 ((rd_T41 l0 x10_1).f6.f1))) = w30 at n0_ n1_ ⊢
                have BK102 := n0_
                have HB := n1_
                clear n0_ n1_
                replace BK102 := Aside0.mk (blk_drew BK102.out)
                replace HB := Aside0.mk (below_drew1 HB.out)
                refine start_ (n := 18) (S := fun w' => w'.cell? ⟨gb102, 0, none⟩ = some (.int .i64 ((rd_T41 l0 x10_1).f0)) ∧ w'.cell? ⟨gb102, 1, none⟩ = some (.int .i64 ((rd_T41 l0 x10_1).f1)) ∧ w'.cell? ⟨gb102, 2, none⟩ = some (.int .i64 ((rd_T41 l0 x10_1).f2)) ∧ w'.cell? ⟨gb102, 3, none⟩ = some (.int .i64 ((rd_T41 l0 x10_1).f3)) ∧ w'.cell? ⟨gb102, 4, none⟩ = some (.int .i64 ((rd_T41 l0 x10_1).f4)) ∧ w'.cell? ⟨gb102, 5, none⟩ = some (.int .i64 ((rd_T41 l0 x10_1).f5.f0)) ∧ w'.cell? ⟨gb102, 6, none⟩ = some (.int .i64 ((rd_T41 l0 x10_1).f5.f1)) ∧ w'.cell? ⟨gb102, 7, none⟩ = some (.int .i64 ((rd_T41 l0 x10_1).f6.f0)) ∧ w'.cell? ⟨gb102, 8, none⟩ = some (.int .i64 ((rd_T41 l0 x10_1).f6.f1))) (ds := []) #[N,N,N,N,N,N,N,N,N,N,N,N,N,N,N,N,N,N] (by kernel_rfl) rfl rfl ⟨bc BK102 0, bc BK102 1, bc BK102 2, bc BK102 3, bc BK102 4, bc BK102 5, bc BK102 6, bc BK102 7, bc BK102 8⟩ (fun hHeld => ?_); refine with_tabW weather_Check.tab6 weather_Check.bits6 (fun HT_ HW_ => ?_)
                generalize w30.drew = w31 at BK102 HB hHeld ⊢
                refine take_ (i := 0) (N := some 15) (v := ?_) (a' := ?_) #[Y,N,N,N,N,N,N,N,N,N,N,N,N,N,N,N,N,N] rfl rfl (take_ofW HT_.out HW_.out (by kernel_rfl)) (fun _ _ _ h => h) (Or.inl ⟨by rfl, ?_⟩) hHeld ?_ ?_
                rotate_left
                · rintro w' ⟨s0, s1, s2, s3, s4, s5, s6, s7, s8⟩
                  go_simp
                  with_reducible rfl
                rotate_left
                · simp only [Act.put, List.setIfInBounds_toArray, List.set_cons_zero, List.set_cons_succ, i64_w, i32_w]
                  rfl
                refine one_ (i := 1) (N := some 16) #[Y,Y,N,N,N,N,N,N,N,N,N,N,N,N,N,N,N,N] rfl rfl (one_of HT_.out (by kernel_rfl)) (by decide) (fun K hK => ?_)
                refine goes_ Try.func58 (by kernel_rfl) rfl #[.agg #[.int .i64 ((rd_T41 l0 x10_1).f0), .int .i64 ((rd_T41 l0 x10_1).f1), .int .i64 ((rd_T41 l0 x10_1).f2), .int .i64 ((rd_T41 l0 x10_1).f3), .int .i64 ((rd_T41 l0 x10_1).f4), .int .i64 ((rd_T41 l0 x10_1).f5.f0), .int .i64 ((rd_T41 l0 x10_1).f5.f1), .int .i64 ((rd_T41 l0 x10_1).f6.f0), .int .i64 ((rd_T41 l0 x10_1).f6.f1)]] (by rfl) rfl rfl (by (try simp only [List.map_toArray, List.map_cons, List.map_nil]); first | done | rfl | (simp only [List.length_drop, List.length_take]; rfl)) ?_
                with_reducible refine (weather_valid.calls ((rd_T41 l0 x10_1).f0) ((rd_T41 l0 x10_1).f1) ((rd_T41 l0 x10_1).f2) ((rd_T41 l0 x10_1).f3) ((rd_T41 l0 x10_1).f4) ((rd_T41 l0 x10_1).f5.f0) ((rd_T41 l0 x10_1).f5.f1) ((rd_T41 l0 x10_1).f6.f0) ((rd_T41 l0 x10_1).f6.f1) false _ A6.out).mono ?_
                rintro e w32 ⟨rfl, hb⟩
                refine ⟨_, rfl, ?_⟩
                replace BK102 := Aside0.mk (zb BK102.out hb)
                replace HB := Aside0.mk (below_step (blw HB.out) hb)
                (try clear hb)
                (try clear hb2)
                (try clear hk)
                (try clear hi)
                refine hK.out _ _ ⟨bc BK102 0, bc BK102 1, bc BK102 2, bc BK102 3, bc BK102 4, bc BK102 5, bc BK102 6, bc BK102 7, bc BK102 8⟩ (fun hHeld => ?_)
                clear hK K
                refine norm_ (a' := ?_) ?_ ?_
                rotate_left
                · show Act.put _ (some 16) _ = _
                  simp only [Act.put, List.setIfInBounds_toArray, List.set_cons_zero, List.set_cons_succ, i64_w, i32_w]
                  rfl
                refine pureA (i := 2) (N := some 17) #[Y,Y,Y,N,N,N,N,N,N,N,N,N,N,N,N,N,N,N] (any_of HT_.out (by kernel_rfl)) ?_
                refine pureA (i := 3) (N := some 18) #[Y,Y,Y,Y,N,N,N,N,N,N,N,N,N,N,N,N,N,N] (any_of HT_.out (by kernel_rfl)) ?_
                refine pureU (i := 4) (N := some 19) #[Y,Y,Y,Y,Y,N,N,N,N,N,N,N,N,N,N,N,N,N] (any_of HT_.out (by kernel_rfl)) ?_
                refine pureU (i := 5) (N := some 20) #[Y,Y,Y,Y,Y,Y,N,N,N,N,N,N,N,N,N,N,N,N] (any_of HT_.out (by kernel_rfl)) ?_
                refine pureU (i := 6) (N := some 21) #[Y,Y,Y,Y,Y,Y,Y,N,N,N,N,N,N,N,N,N,N,N] (any_of HT_.out (by kernel_rfl)) ?_
                refine pureU (i := 7) (N := some 22) #[Y,Y,Y,Y,Y,Y,Y,Y,N,N,N,N,N,N,N,N,N,N] (any_of HT_.out (by kernel_rfl)) ?_
                refine pureU (i := 8) (N := some 23) #[Y,Y,Y,Y,Y,Y,Y,Y,Y,N,N,N,N,N,N,N,N,N] (any_of HT_.out (by kernel_rfl)) ?_
                refine pureU (i := 9) (N := some 24) #[Y,Y,Y,Y,Y,Y,Y,Y,Y,Y,N,N,N,N,N,N,N,N] (any_of HT_.out (by kernel_rfl)) ?_
                refine pureU (i := 10) (N := some 25) #[Y,Y,Y,Y,Y,Y,Y,Y,Y,Y,Y,N,N,N,N,N,N,N] (any_of HT_.out (by kernel_rfl)) ?_
                refine pureU (i := 11) (N := some 26) #[Y,Y,Y,Y,Y,Y,Y,Y,Y,Y,Y,Y,N,N,N,N,N,N] (any_of HT_.out (by kernel_rfl)) ?_
                refine pureU (i := 12) (N := some 27) #[Y,Y,Y,Y,Y,Y,Y,Y,Y,Y,Y,Y,Y,N,N,N,N,N] (any_of HT_.out (by kernel_rfl)) ?_
                refine pureU (i := 13) (N := some 28) #[Y,Y,Y,Y,Y,Y,Y,Y,Y,Y,Y,Y,Y,Y,N,N,N,N] (any_of HT_.out (by kernel_rfl)) ?_
                refine pureU (i := 14) (N := some 29) #[Y,Y,Y,Y,Y,Y,Y,Y,Y,Y,Y,Y,Y,Y,Y,N,N,N] (any_of HT_.out (by kernel_rfl)) ?_
                refine pureU (i := 15) (N := some 30) #[Y,Y,Y,Y,Y,Y,Y,Y,Y,Y,Y,Y,Y,Y,Y,Y,N,N] (any_of HT_.out (by kernel_rfl)) ?_
                refine pureU (i := 16) (N := some 31) #[Y,Y,Y,Y,Y,Y,Y,Y,Y,Y,Y,Y,Y,Y,Y,Y,Y,N] (any_of HT_.out (by kernel_rfl)) ?_
                refine pureA (i := 17) (N := some 32) #[Y,Y,Y,Y,Y,Y,Y,Y,Y,Y,Y,Y,Y,Y,Y,Y,Y,Y] (any_of HT_.out (by kernel_rfl)) ?_
                refine done_ (done_of HT_.out (by kernel_rfl)) ?_
                try go_wp2
                go_ret
                exact ⟨by first | rfl | (simp [errW_none, errW_some] <;> rfl) | (simp [*, errW_none, errW_some] <;> rfl), blw HB.out⟩
            · rw [if_neg c5] at H
              exact absurd H (by simp)
          · rw [if_neg c4] at H
            exact absurd H (by simp)
        · rw [if_neg c3] at H
          have c3b0 : decide (x10_1 < (l0.length : Int)) = false := decide_eq_false c3
          clear c3
          obtain rfl := Option.some.inj H
          go_wp2
          go_ret
          exact ⟨by first | rfl | (simp [errW_none, errW_some] <;> rfl) | (simp [*, errW_none, errW_some] <;> rfl), blw HB.out⟩

end Go.Proofs.Ythfhjcbgccnijaa.Q
