/- assign.Best$1 (cheap): can the row i have the column j, at the least cost? From the print of the turned function. -/
import Derived.Test.YtgiinjfandeddaaQ0
import Derived.Test.YtgiinjfandeddaaGCl
import Derived.Test.YtgiinjfandeddaaQ2
namespace Go.Proofs.Ytgiinjfandeddaa.Q
open Go.RowKit Go.Proofs.YtgiinjfandeddaaW.PrintWords Go.Proofs.YtgiinjfandeddaaW.PrintLast Go.Proofs.YtgiinjfandeddaaW.PrintMore
attribute [local go_sem] max2_int min2_int max_two min_two max_three min_three max_four min_four
set_option linter.unusedVariables false
set_option linter.unusedSimpArgs false

/-- A row of nothing, made with room. -/
theorem S_made0 (W : World) (Z : Array Value) (base n : Nat) (hz : Z.size = n) (hn : n ≤ 100000) (hb : base ≤ W.heap.size) : Kd.S (Kd.slice 3 (Kd.int .i64)) 23 (W.alloc (.cells Z 23 (0, 0))) base (fun _ => True) (.slice (some ⟨W.heap.size, 0, none⟩) 0 n) [] :=
  ⟨fun _ => 0, fun _ _ => trivial, [], ⟨by simp, .inr ⟨W.heap.size, n, Z, rfl, hb, heap_at_new _ _ _ rfl, Nat.zero_le _, by simp only [maxLen]; omega, by rw [hz]; show n = n * 1; omega, by simp⟩⟩, ⟨by simp, fun j p hj => by simp at hj⟩⟩

mutual
def assign_cheap.j0 : Nat → Int → Int → List Bool → List (List Int) → Int → Int → Int → Bool → Option (Bool)
  | 0, _, _, _, _, _, _, _, _ => none
  | k + 1, x0, x1, x2, x3, x4, x5, x6, x36 => if x36 = true then (some false) else (if 0 ≤ (wrap64 (x0 + 1)) then (if (wrap64 (x0 + 1)) ≤ (x3.length : Int) then ((some (x3.drop ((wrap64 (x0 + 1)) : Int).toNat : List (List Int))).bind fun y116 => (assign_cheap.l0 k x0 x1 x2 x3 x4 x5 x6 ([] : List (List Int)) y116 (y116.length : Int) 0)) else (none)) else (none))
def assign_cheap.l0 : Nat → Int → Int → List Bool → List (List Int) → Int → Int → Int → List (List Int) → List (List Int) → Int → Int → Option (Bool)
  | 0, _, _, _, _, _, _, _, _, _, _, _ => none
  | k + 1, x0, x1, x2, x3, x4, x5, x6, x10, x43, x44, x45 => if x45 < x44 then (if 0 ≤ x45 then (if x45 < (x43.length : Int) then ((slices_Clone_int_int.f (rd_L1 x43 x45)).bind fun t121 => (if 0 ≤ x1 then (if x1 < (t121.length : Int) then (assign_cheap.l1 k x0 x1 x2 x3 x4 x5 x6 x10 (t121.set (x1 : Int).toNat (-1)) x43 x44 x45 x2 (x2.length : Int) 0) else (none)) else (none))) else (none)) else (none)) else ((assign_solve.f 20000 x10 x4).bind fun bt130 => (if 0 ≤ x0 then (if x0 < (x3.length : Int) then (if 0 ≤ x1 then (if x1 < ((rd_L1 x3 x0).length : Int) then (assign_cheap.l2 k x6 x10 bt130.2.2.2 (wrap64 (x5 + (rd (rd_L1 x3 x0) x1))) bt130.1 (bt130.1.length : Int) 0) else (none)) else (none)) else (none)) else (none)))
def assign_cheap.l1 : Nat → Int → Int → List Bool → List (List Int) → Int → Int → Int → List (List Int) → List Int → List (List Int) → Int → Int → List Bool → Int → Int → Option (Bool)
  | 0, _, _, _, _, _, _, _, _, _, _, _, _, _, _, _ => none
  | k + 1, x0, x1, x2, x3, x4, x5, x6, x10, x13, x43, x44, x45, x54, x55, x56 => if x56 < x55 then (if 0 ≤ x56 then (if x56 < (x54.length : Int) then (if rdOf false x54 x56 = true then (if x56 < (x13.length : Int) then (assign_cheap.l1 k x0 x1 x2 x3 x4 x5 x6 x10 (x13.set (x56 : Int).toNat (-1)) x43 x44 x45 x54 x55 (wrap64 (x56 + 1))) else (none)) else (assign_cheap.l1 k x0 x1 x2 x3 x4 x5 x6 x10 x13 x43 x44 x45 x54 x55 (wrap64 (x56 + 1)))) else (none)) else (none)) else (if x10.length < 5864062014805 then (assign_cheap.l0 k x0 x1 x2 x3 x4 x5 x6 (x10 ++ [x13]) x43 x44 (wrap64 (x45 + 1))) else (none))
def assign_cheap.l2 : Nat → Int → List (List Int) → Bool → Int → List Int → Int → Int → Option (Bool)
  | 0, _, _, _, _, _, _, _ => none
  | k + 1, x6, x10, x19, x20, x88, x89, x90 => if x90 < x89 then (if 0 ≤ x90 then (if x90 < (x88.length : Int) then (if x90 < (x10.length : Int) then (if 0 ≤ (rd x88 x90) then (if (rd x88 x90) < ((rd_L1 x10 x90).length : Int) then (assign_cheap.l2 k x6 x10 x19 (wrap64 (x20 + (rd (rd_L1 x10 x90) (rd x88 x90)))) x88 x89 (wrap64 (x90 + 1))) else (none)) else (none)) else (none)) else (none)) else (none)) else (if x19 = true then (some (x20 == x6)) else (some false))
end
def assign_cheap.f (k : Nat) (a0 : Int) (a1 : Int) (l2 : List Bool) (l3 : List (List Int)) (a4 : Int) (a5 : Int) (a6 : Int) : Option (Bool) := if 0 ≤ a1 then (if a1 < (l2.length : Int) then (if rdOf false l2 a1 = true then (assign_cheap.j0 k a0 a1 l2 l3 a4 a5 a6 true) else (if 0 ≤ a0 then (if a0 < (l3.length : Int) then (if a1 < ((rd_L1 l3 a0).length : Int) then (assign_cheap.j0 k a0 a1 l2 l3 a4 a5 a6 (decide ((rd (rd_L1 l3 a0) a1) < 0))) else (none)) else (none)) else (none))) else (none)) else (none)
theorem assign_cheap.mono_l : ∀ k, (∀ y0 y1 y2 y3 y4 y5 y6 y7, LeO (assign_cheap.j0 k y0 y1 y2 y3 y4 y5 y6 y7) (assign_cheap.j0 (k + 1) y0 y1 y2 y3 y4 y5 y6 y7)) ∧ (∀ y0 y1 y2 y3 y4 y5 y6 y7 y8 y9 y10, LeO (assign_cheap.l0 k y0 y1 y2 y3 y4 y5 y6 y7 y8 y9 y10) (assign_cheap.l0 (k + 1) y0 y1 y2 y3 y4 y5 y6 y7 y8 y9 y10)) ∧ (∀ y0 y1 y2 y3 y4 y5 y6 y7 y8 y9 y10 y11 y12 y13 y14, LeO (assign_cheap.l1 k y0 y1 y2 y3 y4 y5 y6 y7 y8 y9 y10 y11 y12 y13 y14) (assign_cheap.l1 (k + 1) y0 y1 y2 y3 y4 y5 y6 y7 y8 y9 y10 y11 y12 y13 y14)) ∧ (∀ y0 y1 y2 y3 y4 y5 y6, LeO (assign_cheap.l2 k y0 y1 y2 y3 y4 y5 y6) (assign_cheap.l2 (k + 1) y0 y1 y2 y3 y4 y5 y6))
  | 0 => ⟨fun _ _ _ _ _ _ _ _ r h => by simp [assign_cheap.j0] at h, fun _ _ _ _ _ _ _ _ _ _ _ r h => by simp [assign_cheap.l0] at h, fun _ _ _ _ _ _ _ _ _ _ _ _ _ _ _ r h => by simp [assign_cheap.l1] at h, fun _ _ _ _ _ _ _ r h => by simp [assign_cheap.l2] at h⟩
  | k + 1 => by
    obtain ⟨ih0, ih1, ih2, ih3⟩ := assign_cheap.mono_l k
    refine ⟨?_, ?_, ?_, ?_⟩
    · intro y0 y1 y2 y3 y4 y5 y6 y7
      unfold assign_cheap.j0
      repeat' first
      | (with_reducible exact ih0 _ _ _ _ _ _ _ _)
      | (with_reducible exact ih1 _ _ _ _ _ _ _ _ _ _ _)
      | (with_reducible exact ih2 _ _ _ _ _ _ _ _ _ _ _ _ _ _ _)
      | (with_reducible exact ih3 _ _ _ _ _ _ _)
      | (with_reducible exact LeO.refl _)
      | (with_reducible exact LeO.none _)
      | (with_reducible refine LeO.ite ?_ ?_)
      | (with_reducible refine LeO.bind ?_ (fun _ => ?_))
      | exact ih0 _ _ _ _ _ _ _ _
      | exact ih1 _ _ _ _ _ _ _ _ _ _ _
      | exact ih2 _ _ _ _ _ _ _ _ _ _ _ _ _ _ _
      | exact ih3 _ _ _ _ _ _ _
      | exact LeO.none _
      | refine LeO.ite ?_ ?_
      | refine LeO.bind ?_ (fun _ => ?_)
    · intro y0 y1 y2 y3 y4 y5 y6 y7 y8 y9 y10
      unfold assign_cheap.l0
      repeat' first
      | (with_reducible exact ih0 _ _ _ _ _ _ _ _)
      | (with_reducible exact ih1 _ _ _ _ _ _ _ _ _ _ _)
      | (with_reducible exact ih2 _ _ _ _ _ _ _ _ _ _ _ _ _ _ _)
      | (with_reducible exact ih3 _ _ _ _ _ _ _)
      | (with_reducible exact LeO.refl _)
      | (with_reducible exact LeO.none _)
      | (with_reducible refine LeO.ite ?_ ?_)
      | (with_reducible refine LeO.bind ?_ (fun _ => ?_))
      | exact ih0 _ _ _ _ _ _ _ _
      | exact ih1 _ _ _ _ _ _ _ _ _ _ _
      | exact ih2 _ _ _ _ _ _ _ _ _ _ _ _ _ _ _
      | exact ih3 _ _ _ _ _ _ _
      | exact LeO.none _
      | refine LeO.ite ?_ ?_
      | refine LeO.bind ?_ (fun _ => ?_)
    · intro y0 y1 y2 y3 y4 y5 y6 y7 y8 y9 y10 y11 y12 y13 y14
      unfold assign_cheap.l1
      repeat' first
      | (with_reducible exact ih0 _ _ _ _ _ _ _ _)
      | (with_reducible exact ih1 _ _ _ _ _ _ _ _ _ _ _)
      | (with_reducible exact ih2 _ _ _ _ _ _ _ _ _ _ _ _ _ _ _)
      | (with_reducible exact ih3 _ _ _ _ _ _ _)
      | (with_reducible exact LeO.refl _)
      | (with_reducible exact LeO.none _)
      | (with_reducible refine LeO.ite ?_ ?_)
      | (with_reducible refine LeO.bind ?_ (fun _ => ?_))
      | exact ih0 _ _ _ _ _ _ _ _
      | exact ih1 _ _ _ _ _ _ _ _ _ _ _
      | exact ih2 _ _ _ _ _ _ _ _ _ _ _ _ _ _ _
      | exact ih3 _ _ _ _ _ _ _
      | exact LeO.none _
      | refine LeO.ite ?_ ?_
      | refine LeO.bind ?_ (fun _ => ?_)
    · intro y0 y1 y2 y3 y4 y5 y6
      unfold assign_cheap.l2
      repeat' first
      | (with_reducible exact ih0 _ _ _ _ _ _ _ _)
      | (with_reducible exact ih1 _ _ _ _ _ _ _ _ _ _ _)
      | (with_reducible exact ih2 _ _ _ _ _ _ _ _ _ _ _ _ _ _ _)
      | (with_reducible exact ih3 _ _ _ _ _ _ _)
      | (with_reducible exact LeO.refl _)
      | (with_reducible exact LeO.none _)
      | (with_reducible refine LeO.ite ?_ ?_)
      | (with_reducible refine LeO.bind ?_ (fun _ => ?_))
      | exact ih0 _ _ _ _ _ _ _ _
      | exact ih1 _ _ _ _ _ _ _ _ _ _ _
      | exact ih2 _ _ _ _ _ _ _ _ _ _ _ _ _ _ _
      | exact ih3 _ _ _ _ _ _ _
      | exact LeO.none _
      | refine LeO.ite ?_ ?_
      | refine LeO.bind ?_ (fun _ => ?_)
theorem assign_cheap.mono : ∀ a0 a1 a2 a3 a4 a5 a6 k, LeO (assign_cheap.f k a0 a1 a2 a3 a4 a5 a6) (assign_cheap.f (k + 1) a0 a1 a2 a3 a4 a5 a6) := by
  intro a0 a1 a2 a3 a4 a5 a6 k
  obtain ⟨ih0, ih1, ih2, ih3⟩ := assign_cheap.mono_l k
  unfold assign_cheap.f
  repeat' first
      | (with_reducible exact ih0 _ _ _ _ _ _ _ _)
      | (with_reducible exact ih1 _ _ _ _ _ _ _ _ _ _ _)
      | (with_reducible exact ih2 _ _ _ _ _ _ _ _ _ _ _ _ _ _ _)
      | (with_reducible exact ih3 _ _ _ _ _ _ _)
      | (with_reducible exact LeO.refl _)
      | (with_reducible exact LeO.none _)
      | (with_reducible refine LeO.ite ?_ ?_)
      | (with_reducible refine LeO.bind ?_ (fun _ => ?_))
      | exact ih0 _ _ _ _ _ _ _ _
      | exact ih1 _ _ _ _ _ _ _ _ _ _ _
      | exact ih2 _ _ _ _ _ _ _ _ _ _ _ _ _ _ _
      | exact ih3 _ _ _ _ _ _ _
      | exact LeO.none _
      | refine LeO.ite ?_ ?_
      | refine LeO.bind ?_ (fun _ => ?_)
set_option maxHeartbeats 8000000 in
set_option maxRecDepth 100000 in
theorem assign_cheap.calls (k : Nat) (a0 : Int) (a1 : Int) (A2 : Option Addr) (c2 : Nat) (l2 : List Bool) (A3 : Option Addr) (c3 : Nat) (l3 : List (List Int)) (a4 : Int) (a5 : Int) (a6 : Int) (x2 x3 x4 x5 x6 : Nat) (r : Bool) (w : World) (hr2 : Kd.C Kd.bool w A2 l2.length l2) (hc2 : l2.length ≤ c2) (hr3 : Kd.C (Kd.slice 3 (Kd.int .i64)) w A3 l3.length l3) (hc3 : l3.length ≤ c3) (hx2 : w.heap[x2]? = some (.cells #[.slice A2 l2.length c2] 47 (0, 0))) (hx3 : w.heap[x3]? = some (.cells #[.slice A3 l3.length c3] 22 (0, 0))) (hx4 : w.heap[x4]? = some (.cells #[.int .i64 a4] 3 (0, 0))) (hx5 : w.heap[x5]? = some (.cells #[.int .i64 a5] 3 (0, 0))) (hx6 : w.heap[x6]? = some (.cells #[.int .i64 a6] 3 (0, 0))) (hsm : l3.length ≤ 1000) (h : assign_cheap.f k a0 a1 l2 l3 a4 a5 a6 = some r) :
    Calls Try.prog 32 #[.int .i64 a0, .int .i64 a1, .pointer (some ⟨x2, 0, none⟩), .pointer (some ⟨x3, 0, none⟩), .pointer (some ⟨x4, 0, none⟩), .pointer (some ⟨x5, 0, none⟩), .pointer (some ⟨x6, 0, none⟩)] w fun e w' => e = .returned (.bool r) ∧ Below w.heap.size w w' := by
  have HR2 := Aside0.mk hr2
  have HC2 := Aside0.mk hc2
  clear hr2 hc2
  have HR3 := Aside0.mk hr3
  have HC3 := Aside0.mk hc3
  clear hr3 hc3
  have HX := Aside0.mk (show ∀ W : World, Below w.heap.size w W → W.cell? ⟨x2, 0, none⟩ = some (.slice A2 l2.length c2) ∧ W.cell? ⟨x3, 0, none⟩ = some (.slice A3 l3.length c3) ∧ W.cell? ⟨x4, 0, none⟩ = some (.int .i64 a4) ∧ W.cell? ⟨x5, 0, none⟩ = some (.int .i64 a5) ∧ W.cell? ⟨x6, 0, none⟩ = some (.int .i64 a6) from fun W hb => ⟨(blk_cell (heap_below hb hx2) 0).trans rfl, (blk_cell (heap_below hb hx3) 0).trans rfl, (blk_cell (heap_below hb hx4) 0).trans rfl, (blk_cell (heap_below hb hx5) 0).trans rfl, (blk_cell (heap_below hb hx6) 0).trans rfl⟩)
  have HSM := Aside0.mk hsm
  clear hx2 hx3 hx4 hx5 hx6 hsm
  have HB := Aside0.mk (Below.refl w.heap.size w)
  have H : (if 0 ≤ a1 then (if a1 < (l2.length : Int) then (if rdOf false l2 a1 = true then (assign_cheap.j0 k a0 a1 l2 l3 a4 a5 a6 true) else (if 0 ≤ a0 then (if a0 < (l3.length : Int) then (if a1 < ((rd_L1 l3 a0).length : Int) then (assign_cheap.j0 k a0 a1 l2 l3 a4 a5 a6 (decide ((rd (rd_L1 l3 a0) a1) < 0))) else (none)) else (none)) else (none))) else (none)) else (none)) = some r := h
  clear h
  have HC8 := Aside0.mk H
  clear H
  go_enter Try.func32, Try.ntmps32
  obtain ⟨b2_, b3_, b4_, b5_, b6_⟩ := HX.out _ HB.out
  go_upto_region 1 with (fail)
  repeat (go_quiet (fail); go_upto_region 1 with (fail))
  go_cut [36] (fun v36 wc => ∃ (kq : Nat) (x36_7 : Bool), v36 = .bool x36_7 ∧ Aside0 (assign_cheap.j0 kq a0 a1 l2 l3 a4 a5 a6 x36_7 = some r) ∧ Aside0 (kq ≤ k) ∧ Aside0 (Below w.heap.size w wc))
  case first =>
    have H := HC8.out
    clear HC8
    by_cases c9 : 0 ≤ a1
    · rw [if_pos c9] at H
      have c9b0 : decide (0 ≤ a1) = true := decide_eq_true c9
      clear c9
      (first | rw [c9b0] | (simp only [i64_w, i32_w]; rw [c9b0]) | skip)
      by_cases c10 : a1 < (l2.length : Int)
      · rw [if_pos c10] at H
        have c10b0 : decide (a1 < (l2.length : Int)) = true := decide_eq_true c10
        clear c10
        obtain ⟨bq11, hbq11⟩ : ∃ b_ : Bool, b_ = (rdOf false l2 a1) := ⟨_, rfl⟩
        replace H : (if bq11 = true then (assign_cheap.j0 k a0 a1 l2 l3 a4 a5 a6 true) else (if 0 ≤ a0 then (if a0 < (l3.length : Int) then (if a1 < ((rd_L1 l3 a0).length : Int) then (assign_cheap.j0 k a0 a1 l2 l3 a4 a5 a6 (decide ((rd (rd_L1 l3 a0) a1) < 0))) else (none)) else (none)) else (none))) = some r := by rw [← hbq11] at H; exact H
        have Nbq11 := Aside0.mk hbq11
        clear hbq11
        by_cases c12 : bq11 = true
        · subst c12
          have H1 : (assign_cheap.j0 k a0 a1 l2 l3 a4 a5 a6 true) = some r := by rw [if_pos rfl] at H; exact H
          clear H
          have H := H1
          clear H1
          have H' := Aside0.mk H
          clear H
          have p113 : 0 ≤ (a1 : Int) := of_decide_eq_true (by first | (with_reducible assumption) | assumption)
          have q113 : a1 < (l2.length : Int) := of_decide_eq_true (by first | (with_reducible assumption) | assumption)
          obtain ⟨ad113, e113, hx113_0⟩ := Kd.at_bool HR2.out a1 p113 q113
          (try rw [← Nbq11.out] at hx113_0)
          cases e113
          replace hx113_0 := (HB.out.cell (World.block_lt_of_cell? w _ hx113_0)).trans hx113_0
          replace p113 := eq_true p113
          replace q113 := eq_true q113
          obtain ⟨b2_, b3_, b4_, b5_, b6_⟩ := HX.out _ HB.out
          go_wp2
          repeat (go_quiet (fail); try go_wp2)
          go_meet
          case rel => exact ⟨_, (true), (by first | rfl | (simp; done) | (simp [*]; done)), H', ⟨by first | omega | exact Nat.le_refl _⟩, ⟨by repeat (first | (with_reducible first | exact HB.out | apply below_alloc | apply pw_below_drewN | apply below_drew1) | exact HB.out)⟩⟩
        · replace c12 := Bool.eq_false_iff.mpr c12
          subst c12
          have H1 : (if 0 ≤ a0 then (if a0 < (l3.length : Int) then (if a1 < ((rd_L1 l3 a0).length : Int) then (assign_cheap.j0 k a0 a1 l2 l3 a4 a5 a6 (decide ((rd (rd_L1 l3 a0) a1) < 0))) else (none)) else (none)) else (none)) = some r := by rw [if_neg (show ¬ (false = true) by decide)] at H; exact H
          clear H
          have H := H1
          clear H1
          by_cases c13 : 0 ≤ a0
          · rw [if_pos c13] at H
            have c13b0 : decide (0 ≤ a0) = true := decide_eq_true c13
            clear c13
            by_cases c14 : a0 < (l3.length : Int)
            · rw [if_pos c14] at H
              have c14b0 : decide (a0 < (l3.length : Int)) = true := decide_eq_true c14
              clear c14
              by_cases c15 : a1 < ((rd_L1 l3 a0).length : Int)
              · rw [if_pos c15] at H
                have c15b0 : decide (a1 < ((rd_L1 l3 a0).length : Int)) = true := decide_eq_true c15
                clear c15
                have H' := Aside0.mk H
                clear H
                have p113 : 0 ≤ (a1 : Int) := of_decide_eq_true (by first | (with_reducible assumption) | assumption)
                have q113 : a1 < (l2.length : Int) := of_decide_eq_true (by first | (with_reducible assumption) | assumption)
                obtain ⟨ad113, e113, hx113_0⟩ := Kd.at_bool HR2.out a1 p113 q113
                (try rw [← Nbq11.out] at hx113_0)
                cases e113
                replace hx113_0 := (HB.out.cell (World.block_lt_of_cell? w _ hx113_0)).trans hx113_0
                replace p113 := eq_true p113
                replace q113 := eq_true q113
                have p114 : 0 ≤ (a0 : Int) := of_decide_eq_true (by first | (with_reducible assumption) | assumption)
                have q114 : a0 < (l3.length : Int) := of_decide_eq_true (by first | (with_reducible assumption) | assumption)
                obtain ⟨ad114, A114_0, c114_0, e114, hx114_0, hl114_0, hi114_0⟩ := at_L1 HR3.out a0 p114 q114
                cases e114
                replace hx114_0 := (HB.out.cell (World.block_lt_of_cell? w _ hx114_0)).trans hx114_0
                have HR114_0 := Aside0.mk hi114_0
                have HC114_0 := Aside0.mk hl114_0
                clear hi114_0 hl114_0
                replace p114 := eq_true p114
                replace q114 := eq_true q114
                have p115 : 0 ≤ (a1 : Int) := of_decide_eq_true (by first | (with_reducible assumption) | assumption)
                have q115 : a1 < ((rd_L1 l3 a0).length : Int) := of_decide_eq_true (by first | (with_reducible assumption) | assumption)
                obtain ⟨ad115, e115, hx115_0⟩ := Kd.at_int HR114_0.out a1 p115 q115
                cases e115
                replace hx115_0 := (HB.out.cell (World.block_lt_of_cell? w _ hx115_0)).trans hx115_0
                replace p115 := eq_true p115
                replace q115 := eq_true q115
                obtain ⟨b2_, b3_, b4_, b5_, b6_⟩ := HX.out _ HB.out
                go_wp2
                repeat (go_quiet (fail); try go_wp2)
                go_meet
                case rel => exact ⟨_, (decide ((rd (rd_L1 l3 a0) a1) < 0)), (by first | rfl | (simp; done) | (simp [*]; done)), H', ⟨by first | omega | exact Nat.le_refl _⟩, ⟨by repeat (first | (with_reducible first | exact HB.out | apply below_alloc | apply pw_below_drewN | apply below_drew1) | exact HB.out)⟩⟩
              · rw [if_neg c15] at H
                exact absurd H (by simp)
            · rw [if_neg c14] at H
              exact absurd H (by simp)
          · rw [if_neg c13] at H
            exact absurd H (by simp)
      · rw [if_neg c10] at H
        exact absurd H (by simp)
    · rw [if_neg c9] at H
      exact absurd H (by simp)
  case rest =>
    clear HC8
    try clear c1
    try clear p1
    try clear q1
    try clear hx1
    try clear c2
    try clear p2
    try clear c3
    try clear c9
    try clear c9b0
    try clear c10
    try clear c10b0
    try clear c11
    try clear p11
    try clear q11
    try clear hx11
    try clear c12
    try clear c13
    try clear c13b0
    try clear c14
    try clear c14b0
    try clear c15
    try clear c15b0
    try clear hx113_0
    try clear hx114_0
    try clear hx115_0
    try clear p113
    try clear p114
    try clear p115
    try clear q113
    try clear q114
    try clear q115
    obtain ⟨kq, x36_7, rfl, HA, HJ7, HB⟩ := hcut
    cases kq with
    | zero => exact absurd HA.out (by simp [assign_cheap.j0])
    | succ kj7 =>
      have H := HA.out
      clear HA
      simp only [assign_cheap.j0] at H
      by_cases c16 : x36_7 = true
      · subst c16
        have H1 : (some false) = some r := by rw [if_pos rfl] at H; exact H
        clear H
        have H := H1
        clear H1
        obtain rfl := Option.some.inj H
        obtain ⟨b2_, b3_, b4_, b5_, b6_⟩ := HX.out _ HB.out
        go_wp2
        repeat (go_quiet (fail); try go_wp2)
        go_ret
        exact ⟨by first | rfl | (simp [errW_none, errW_some] <;> rfl) | (simp [*, errW_none, errW_some] <;> rfl), by repeat (first | (with_reducible first | exact HB.out | apply below_alloc | apply pw_below_drewN | apply below_drew1) | exact HB.out)⟩
      · replace c16 := Bool.eq_false_iff.mpr c16
        subst c16
        have H1 : (if 0 ≤ (wrap64 (a0 + 1)) then (if (wrap64 (a0 + 1)) ≤ (l3.length : Int) then ((some (l3.drop ((wrap64 (a0 + 1)) : Int).toNat : List (List Int))).bind fun y116 => (assign_cheap.l0 kj7 a0 a1 l2 l3 a4 a5 a6 ([] : List (List Int)) y116 (y116.length : Int) 0)) else (none)) else (none)) = some r := by rw [if_neg (show ¬ (false = true) by decide)] at H; exact H
        clear H
        have H := H1
        clear H1
        obtain ⟨ji17, hji17⟩ : ∃ j_ : Int, (wrap64 (a0 + 1)) = j_ := ⟨_, rfl⟩
        replace H : (if 0 ≤ (ji17) then (if (ji17) ≤ (l3.length : Int) then ((some (l3.drop ((ji17) : Int).toNat : List (List Int))).bind fun y116 => (assign_cheap.l0 kj7 a0 a1 l2 l3 a4 a5 a6 ([] : List (List Int)) y116 (y116.length : Int) 0)) else (none)) else (none)) = some r := by first | (rw [hji17] at H; exact H) | (simp only [hji17] at H ⊢; exact H)
        have hji17w : (IntKind.i64.wrap (a0 + 1)) = ji17 := (i64_w _).trans hji17
        by_cases c18 : 0 ≤ (ji17)
        · rw [if_pos c18] at H
          have c18b0 := eq_true c18
          have c18b1 : decide (0 ≤ (ji17)) = true := decide_eq_true c18
          clear c18
          by_cases c19 : (ji17) ≤ (l3.length : Int)
          · rw [if_pos c19] at H
            have c19b0 := eq_true c19
            have c19b1 : decide ((ji17) ≤ (l3.length : Int)) = true := decide_eq_true c19
            clear c19
            obtain ⟨y116, hy116⟩ : ∃ y_ : List (List Int), y_ = (l3.drop ((ji17) : Int).toNat) := ⟨_, rfl⟩
            replace H : (assign_cheap.l0 kj7 a0 a1 l2 l3 a4 a5 a6 ([] : List (List Int)) y116 (y116.length : Int) 0) = some r := by first | (rw [hy116]; with_reducible exact H) | (have H2_ := (Option.bind_some _ _).symm.trans H; rw [hy116]; with_reducible exact H2_) | (have H2_ := (Option.bind_some _ _).symm.trans H; with_reducible exact H2_) | with_reducible exact H | (rw [hy116]; exact H) | exact H
            have Ny116 := Aside0.mk hy116
            clear hy116
            have H' := Aside0.mk H
            clear H
            have q20 : ((ji17) : Int) ≤ ((l3.length : Int) : Int) := of_decide_eq_true (by first | (with_reducible assumption) | assumption)
            obtain ⟨i020, hi020, _, hsz20, _⟩ := info_parts info23
            have hroom20 : l3.length ≤ c3 := HC3.out
            have hC20 : Kd.C (Kd.slice 3 (Kd.int .i64)) _ A3 l3.length l3 := HR3.out
            have q020 : (0 : Int) ≤ ((ji17) : Int) := of_decide_eq_true (by first | (with_reducible assumption) | assumption)
            have hcut20 := cut_from (P := Try.prog) 22 23 .i64 Try.underlying22 hi020 1 hsz20 A3 l3.length c3 (ji17) q020 q20
            have hr20 := Kd.C_drop (m := ((ji17) : Int).toNat) (c := c3) hC20 (by omega) hroom20
            obtain ⟨A20, hA20⟩ : ∃ A1, A1 = (if c3 = ((ji17) : Int).toNat then A3 else (A3 : Option Addr).map (·.add (((ji17) : Int).toNat * 1))) := ⟨_, rfl⟩
            obtain ⟨c20, hc20⟩ : ∃ c1, c1 = c3 - ((ji17) : Int).toNat := ⟨_, rfl⟩
            have hy20 : y116.length = l3.length - ((ji17) : Int).toNat := (by rw [Ny116.out, List.length_drop] <;> omega)
            rw [show (l3).drop ((ji17) : Int).toNat = y116 from Ny116.out.symm] at hr20
            replace hr20 : Kd.C (Kd.slice 3 (Kd.int .i64)) _ A20 y116.length y116 := (by rw [hA20]; exact hr20)
            rw [← hy20, ← hA20, ← hc20] at hcut20
            have HR119 := Aside0.mk hr20
            have HC119 := Aside0.mk (show y116.length ≤ c20 from by rw [hy20, hc20]; exact Nat.sub_le_sub_right hroom20 _)
            clear hr20 hC20 hroom20 hi020 hsz20 hc20
            have KY20 := Aside0.mk hy20
            have KA20 := Aside0.mk hA20
            clear hy20 hA20
            replace q20 := eq_true q20
            obtain ⟨i0_, hi_, hzz_⟩ := Option.map_eq_some_iff.1 info23
            simp only [Prod.mk.injEq] at hzz_
            obtain ⟨hz0_, hz1_, hz2_⟩ := hzz_
            have hmk_ : ∀ W : World, (Instr.makeSlice 22 (.int .i64 0) (.int .i64 (l3.length : Int))).run Try.prog W = .ok (.slice (some ⟨W.heap.size, 0, none⟩) 0 l3.length) (W.alloc (.cells (madeCells (Value.slice none 0 0).cells l3.length) 23 (0, 0))) := fun W => by
              have h_ := run_make (P := Try.prog) W 22 23 i0_ _ Try.underlying22 hi_ hz0_ .i64 .i64 0 (l3.length : Int) (by omega) (by omega) (by rw [hz2_]; have := HSM.out; omega) (by have := HSM.out; omega)
              rw [hz1_, Nat.mul_one, Int.toNat_natCast] at h_
              exact h_
            have hzs_ : (madeCells (Value.slice none 0 0).cells l3.length).size = l3.length := size_madeCells _ _
            generalize madeCells (Value.slice none 0 0).cells l3.length = Z_ at hmk_ hzs_
            have HZS := Aside0.mk hzs_
            clear hi_ hz0_ hz1_ hz2_ hzs_
            obtain ⟨b2_, b3_, b4_, b5_, b6_⟩ := HX.out _ HB.out
            obtain ⟨d2_, d3_, d4_, d5_, d6_⟩ := HX.out _ (below_alloc HB.out (.cells Z_ 23 (0, 0)))
            go_wp2
            repeat (go_quiet (fail); try go_wp2)
            go_loopg [10, 45] kj7 (fun kq v10 v45 w' => ∃ (x10_2 : List (List Int)) (x45_2 : Int), v45 = .int .i64 x45_2 ∧ Aside0 (assign_cheap.l0 kq a0 a1 l2 l3 a4 a5 a6 x10_2 y116 (y116.length : Int) x45_2 = some r) ∧ Aside0 (kq ≤ kj7) ∧ Aside0 (Kd.S (Kd.slice 3 (Kd.int .i64)) 23 w' w.heap.size (fun _ => True) v10 x10_2) ∧ Aside0 (Below w.heap.size w w'))
            case atStart => exact ⟨(([] : List (List Int))), (0), (by first | rfl | (simp; done) | (simp [*]; done)), H', ⟨Nat.le_refl _⟩, ⟨S_made0 _ _ _ _ HZS.out (by have := HSM.out; omega) (below_size HB.out)⟩, ⟨by repeat (first | (with_reducible first | exact HB.out | apply below_alloc | apply pw_below_drewN | apply below_drew1) | exact HB.out)⟩⟩
            case round =>
              clear H'
              try clear c1
              try clear p1
              try clear q1
              try clear hx1
              try clear c2
              try clear p2
              try clear q2
              try clear c3
              try clear p6
              try clear c9
              try clear c9b0
              try clear c10
              try clear c10b0
              try clear c11
              try clear p11
              try clear q11
              try clear hx11
              try clear c12
              try clear c13
              try clear c13b0
              try clear c14
              try clear c14b0
              try clear c15
              try clear c15b0
              try clear c16
              try clear c18
              try clear c18b0
              try clear c18b1
              try clear c19
              try clear c19b0
              try clear c19b1
              try clear c20
              try clear q20
              try clear hx113_0
              try clear hx114_0
              try clear hx115_0
              try clear p1
              try clear p11
              try clear p113
              try clear p114
              try clear p115
              try clear p2
              try clear q020
              try clear q1
              try clear q11
              try clear q113
              try clear q114
              try clear q115
              try clear q20
              obtain ⟨x10_2, x45_2, rfl, HA, HK2, HO_10, HB⟩ := hrel
              cases gk with
              | zero => exact absurd HA.out (by simp [assign_cheap.l0])
              | succ k2 =>
                have H := HA.out
                clear HA
                simp only [assign_cheap.l0] at H
                by_cases c21 : x45_2 < (y116.length : Int)
                · rw [if_pos c21] at H
                  have c21b0 : decide (x45_2 < (y116.length : Int)) = true := decide_eq_true c21
                  clear c21
                  by_cases c22 : 0 ≤ x45_2
                  · rw [if_pos c22] at H
                    have c22b0 : decide (0 ≤ x45_2) = true := decide_eq_true c22
                    clear c22
                    by_cases c23 : x45_2 < (y116.length : Int)
                    · rw [if_pos c23] at H
                      have c23b0 : decide (x45_2 < (y116.length : Int)) = true := decide_eq_true c23
                      clear c23
                      replace H := Option.bind_eq_some_iff.mp H
                      obtain ⟨t121, A240, H⟩ := H
                      replace H : (if 0 ≤ a1 then (if a1 < (t121.length : Int) then (assign_cheap.l1 k2 a0 a1 l2 l3 a4 a5 a6 x10_2 (t121.set (a1 : Int).toNat (-1)) y116 (y116.length : Int) x45_2 l2 (l2.length : Int) 0) else (none)) else (none)) = some r := H
                      have A24 := Aside0.mk A240
                      clear A240
                      by_cases c25 : 0 ≤ a1
                      · rw [if_pos c25] at H
                        have c25b0 : decide (0 ≤ a1) = true := decide_eq_true c25
                        clear c25
                        by_cases c26 : a1 < (t121.length : Int)
                        · rw [if_pos c26] at H
                          have c26b0 : decide (a1 < (t121.length : Int)) = true := decide_eq_true c26
                          clear c26
                          obtain ⟨y124, hy124⟩ : ∃ y_ : List Int, y_ = (t121.set (a1 : Int).toNat (-1)) := ⟨_, rfl⟩
                          replace H : (assign_cheap.l1 k2 a0 a1 l2 l3 a4 a5 a6 x10_2 y124 y116 (y116.length : Int) x45_2 l2 (l2.length : Int) 0) = some r := by first | (rw [hy124]; with_reducible exact H) | (have H2_ := (Option.bind_some _ _).symm.trans H; rw [hy124]; with_reducible exact H2_) | (have H2_ := (Option.bind_some _ _).symm.trans H; with_reducible exact H2_) | with_reducible exact H | (rw [hy124]; exact H) | exact H
                          have Ny124 := Aside0.mk hy124
                          clear hy124
                          have H' := Aside0.mk H
                          clear H
                          have p120 : 0 ≤ (x45_2 : Int) := of_decide_eq_true (by first | (with_reducible assumption) | assumption)
                          have q120 : x45_2 < (y116.length : Int) := of_decide_eq_true (by first | (with_reducible assumption) | assumption)
                          obtain ⟨ad120, A120_0, c120_0, e120, hx120_0, hl120_0, hi120_0⟩ := at_L1 HR119.out x45_2 p120 q120
                          cases e120
                          replace hx120_0 := (HB.out.cell (World.block_lt_of_cell? w _ hx120_0)).trans hx120_0
                          have HR120_0 := Aside0.mk hi120_0
                          have HC120_0 := Aside0.mk hl120_0
                          clear hi120_0 hl120_0
                          replace p120 := eq_true p120
                          replace q120 := eq_true q120
                          obtain ⟨b2_, b3_, b4_, b5_, b6_⟩ := HX.out _ HB.out
                          go_wp2_with (first | (go_at_call 33; (with_reducible refine (slices_Clone_int_int.calls _ _ (rd_L1 y116 x45_2) t121 _ ?side1 ?side2 A24.out).mono ?_); (case side1 => repeat (first | exact (Kd.C_below HR120_0.out HB.out) | (with_reducible refine Kd.C_alloc ?_ _) | (with_reducible refine Kd.C_drewN ?_ _) | (with_reducible refine Kd.C_drew ?_))); (case side2 => exact HC120_0.out); rintro e w28 ⟨v122, rfl, ho0, hb⟩; have n0_ := Aside0.mk (Kd.S_elder' (by (with_reducible repeat (first | apply Kd.S_alloc | apply Kd.S_drewN | apply Kd.S_drew)); exact HO_10.out) (Kd.R_base ho0) hb); have n1_ := Aside0.mk (Kd.R_lower ho0 (below_size (by repeat (first | (with_reducible first | exact HB.out | apply below_alloc | apply pw_below_drewN | apply below_drew1) | exact HB.out)))); have n2_ := Aside0.mk (below_step (by repeat (first | (with_reducible first | exact HB.out | apply below_alloc | apply pw_below_drewN | apply below_drew1) | exact HB.out)) hb); clear HO_10; clear HB; have HO_10 := n0_; have HO123 := n1_; have HB := n2_; clear n0_ n1_ n2_; obtain ⟨b2_, b3_, b4_, b5_, b6_⟩ := HX.out _ HB.out; (try clear hb); (try clear hb2); (try clear hk); (try clear hi); (try clear ho0); have p27 : 0 ≤ (a1 : Int) := of_decide_eq_true (by first | (with_reducible assumption) | assumption); have q27 : (a1 : Int) < ((t121.length : Int) : Int) := of_decide_eq_true (by first | (with_reducible assumption) | assumption); obtain ⟨go27, co27, eo27, gb27, gl27, cl27, HG27⟩ := Kd.R_form HO123.out (by omega); (first | cases eo27 | (injection eo27 with ea_ en_ ec_; (first | subst ea_ | (injection ea_ with ea_; subst ea_)); subst ec_; clear en_)); have GB27 := Aside0.mk gb27; have GG27 := Aside0.mk HG27; clear gb27 gl27 HG27; obtain ⟨hx27_0, hf27_0⟩ := Kd.R_celln 0 HO123.out (a1 : Int) p27 q27; replace p27 := eq_true p27; replace q27 := eq_true q27; obtain ⟨hy29_, hz29_⟩ := Kd.R_celln 0 HO123.out (a1 : Int) (of_decide_eq_true (by first | (with_reducible assumption) | assumption)) (of_decide_eq_true (by first | (with_reducible assumption) | assumption)); have HP29 := Kd.R_putg HO123.out (a1 : Int) (-1)) | ((with_reducible refine gate_store (t := 3) (p := 53) rfl ?_); (try (rw [drewN_self w28]; generalize hq_ : World.drewN w28 _ = w28; have n0_ := Aside0.mk (Kd.S_at hq_ HO_10.out); have n1_ := Aside0.mk (Kd.R_at hq_ HO123.out); have n2_ := Aside0.mk (below_at hq_ HB.out); clear hq_ HO_10 HO123 HB; have HO_10 := n0_; have HO123 := n1_; have HB := n2_; clear n0_ n1_ n2_; obtain ⟨b2_, b3_, b4_, b5_, b6_⟩ := HX.out _ HB.out; (try (obtain ⟨hy29_, hz29_⟩ := Kd.R_celln 0 HO123.out (a1 : Int) (of_decide_eq_true (by first | (with_reducible assumption) | assumption)) (of_decide_eq_true (by first | (with_reducible assumption) | assumption)))); (try (have HP29 := Kd.R_putg HO123.out (a1 : Int) (-1))))); refine store_event (t := 3) (p := 53) (v := ?vo_w30) (w1 := (w28.setCell ⟨go27, (a1 : Int).toNat, none⟩ (.int .i64 (-1)))) ?hg ?ho ?hn ?hr ?_; (case ho => rfl); (case hg => rfl); (case hn => rfl); (case hr => first | (go_simp; done) | (go_simp; rfl)); intro w30 hw; have hg : w28.grownBy w30 (some go27) := (by rw [hw]; exact HP29.2); have hp_ : Kd.R (Kd.int .i64) 3 w30 w.heap.size (fun _ => True) (.slice (some ⟨go27, 0, none⟩) t121.length co27) y124 := (by rw [hw, Ny124.out]; exact HP29.1); clear HP29; have n0_ := Aside0.mk (Kd.S_after (v := (.slice (some ⟨go27, 0, none⟩) t121.length co27)) (v1 := (.slice (some ⟨go27, 0, none⟩) t121.length co27)) (ok := (fun _ => True)) (by (with_reducible repeat (first | apply Kd.S_alloc | apply Kd.S_drewN | apply Kd.S_drew)); exact HO_10.out) hg (.inl rfl)); have n1_ := Aside0.mk (hp_); have n2_ := Aside0.mk ((by rw [hw]; exact below_set (HB.out) GB27.out : Below w.heap.size w w30)); clear HO_10; clear HO123; clear HB; have HO_10 := n0_; have HO123 := n1_; have HB := n2_; clear n0_ n1_ n2_; obtain ⟨b2_, b3_, b4_, b5_, b6_⟩ := HX.out _ HB.out; clear hg hw hp_))
                          repeat (go_quiet (first | (go_at_call 33; (with_reducible refine (slices_Clone_int_int.calls _ _ (rd_L1 y116 x45_2) t121 _ ?side1 ?side2 A24.out).mono ?_); (case side1 => repeat (first | exact (Kd.C_below HR120_0.out HB.out) | (with_reducible refine Kd.C_alloc ?_ _) | (with_reducible refine Kd.C_drewN ?_ _) | (with_reducible refine Kd.C_drew ?_))); (case side2 => exact HC120_0.out); rintro e w28 ⟨v122, rfl, ho0, hb⟩; have n0_ := Aside0.mk (Kd.S_elder' (by (with_reducible repeat (first | apply Kd.S_alloc | apply Kd.S_drewN | apply Kd.S_drew)); exact HO_10.out) (Kd.R_base ho0) hb); have n1_ := Aside0.mk (Kd.R_lower ho0 (below_size (by repeat (first | (with_reducible first | exact HB.out | apply below_alloc | apply pw_below_drewN | apply below_drew1) | exact HB.out)))); have n2_ := Aside0.mk (below_step (by repeat (first | (with_reducible first | exact HB.out | apply below_alloc | apply pw_below_drewN | apply below_drew1) | exact HB.out)) hb); clear HO_10; clear HB; have HO_10 := n0_; have HO123 := n1_; have HB := n2_; clear n0_ n1_ n2_; obtain ⟨b2_, b3_, b4_, b5_, b6_⟩ := HX.out _ HB.out; (try clear hb); (try clear hb2); (try clear hk); (try clear hi); (try clear ho0); have p27 : 0 ≤ (a1 : Int) := of_decide_eq_true (by first | (with_reducible assumption) | assumption); have q27 : (a1 : Int) < ((t121.length : Int) : Int) := of_decide_eq_true (by first | (with_reducible assumption) | assumption); obtain ⟨go27, co27, eo27, gb27, gl27, cl27, HG27⟩ := Kd.R_form HO123.out (by omega); (first | cases eo27 | (injection eo27 with ea_ en_ ec_; (first | subst ea_ | (injection ea_ with ea_; subst ea_)); subst ec_; clear en_)); have GB27 := Aside0.mk gb27; have GG27 := Aside0.mk HG27; clear gb27 gl27 HG27; obtain ⟨hx27_0, hf27_0⟩ := Kd.R_celln 0 HO123.out (a1 : Int) p27 q27; replace p27 := eq_true p27; replace q27 := eq_true q27; obtain ⟨hy29_, hz29_⟩ := Kd.R_celln 0 HO123.out (a1 : Int) (of_decide_eq_true (by first | (with_reducible assumption) | assumption)) (of_decide_eq_true (by first | (with_reducible assumption) | assumption)); have HP29 := Kd.R_putg HO123.out (a1 : Int) (-1)) | ((with_reducible refine gate_store (t := 3) (p := 53) rfl ?_); (try (rw [drewN_self w28]; generalize hq_ : World.drewN w28 _ = w28; have n0_ := Aside0.mk (Kd.S_at hq_ HO_10.out); have n1_ := Aside0.mk (Kd.R_at hq_ HO123.out); have n2_ := Aside0.mk (below_at hq_ HB.out); clear hq_ HO_10 HO123 HB; have HO_10 := n0_; have HO123 := n1_; have HB := n2_; clear n0_ n1_ n2_; obtain ⟨b2_, b3_, b4_, b5_, b6_⟩ := HX.out _ HB.out; (try (obtain ⟨hy29_, hz29_⟩ := Kd.R_celln 0 HO123.out (a1 : Int) (of_decide_eq_true (by first | (with_reducible assumption) | assumption)) (of_decide_eq_true (by first | (with_reducible assumption) | assumption)))); (try (have HP29 := Kd.R_putg HO123.out (a1 : Int) (-1))))); refine store_event (t := 3) (p := 53) (v := ?vo_w30) (w1 := (w28.setCell ⟨go27, (a1 : Int).toNat, none⟩ (.int .i64 (-1)))) ?hg ?ho ?hn ?hr ?_; (case ho => rfl); (case hg => rfl); (case hn => rfl); (case hr => first | (go_simp; done) | (go_simp; rfl)); intro w30 hw; have hg : w28.grownBy w30 (some go27) := (by rw [hw]; exact HP29.2); have hp_ : Kd.R (Kd.int .i64) 3 w30 w.heap.size (fun _ => True) (.slice (some ⟨go27, 0, none⟩) t121.length co27) y124 := (by rw [hw, Ny124.out]; exact HP29.1); clear HP29; have n0_ := Aside0.mk (Kd.S_after (v := (.slice (some ⟨go27, 0, none⟩) t121.length co27)) (v1 := (.slice (some ⟨go27, 0, none⟩) t121.length co27)) (ok := (fun _ => True)) (by (with_reducible repeat (first | apply Kd.S_alloc | apply Kd.S_drewN | apply Kd.S_drew)); exact HO_10.out) hg (.inl rfl)); have n1_ := Aside0.mk (hp_); have n2_ := Aside0.mk ((by rw [hw]; exact below_set (HB.out) GB27.out : Below w.heap.size w w30)); clear HO_10; clear HO123; clear HB; have HO_10 := n0_; have HO123 := n1_; have HB := n2_; clear n0_ n1_ n2_; obtain ⟨b2_, b3_, b4_, b5_, b6_⟩ := HX.out _ HB.out; clear hg hw hp_)); try go_wp2_with (first | (go_at_call 33; (with_reducible refine (slices_Clone_int_int.calls _ _ (rd_L1 y116 x45_2) t121 _ ?side1 ?side2 A24.out).mono ?_); (case side1 => repeat (first | exact (Kd.C_below HR120_0.out HB.out) | (with_reducible refine Kd.C_alloc ?_ _) | (with_reducible refine Kd.C_drewN ?_ _) | (with_reducible refine Kd.C_drew ?_))); (case side2 => exact HC120_0.out); rintro e w28 ⟨v122, rfl, ho0, hb⟩; have n0_ := Aside0.mk (Kd.S_elder' (by (with_reducible repeat (first | apply Kd.S_alloc | apply Kd.S_drewN | apply Kd.S_drew)); exact HO_10.out) (Kd.R_base ho0) hb); have n1_ := Aside0.mk (Kd.R_lower ho0 (below_size (by repeat (first | (with_reducible first | exact HB.out | apply below_alloc | apply pw_below_drewN | apply below_drew1) | exact HB.out)))); have n2_ := Aside0.mk (below_step (by repeat (first | (with_reducible first | exact HB.out | apply below_alloc | apply pw_below_drewN | apply below_drew1) | exact HB.out)) hb); clear HO_10; clear HB; have HO_10 := n0_; have HO123 := n1_; have HB := n2_; clear n0_ n1_ n2_; obtain ⟨b2_, b3_, b4_, b5_, b6_⟩ := HX.out _ HB.out; (try clear hb); (try clear hb2); (try clear hk); (try clear hi); (try clear ho0); have p27 : 0 ≤ (a1 : Int) := of_decide_eq_true (by first | (with_reducible assumption) | assumption); have q27 : (a1 : Int) < ((t121.length : Int) : Int) := of_decide_eq_true (by first | (with_reducible assumption) | assumption); obtain ⟨go27, co27, eo27, gb27, gl27, cl27, HG27⟩ := Kd.R_form HO123.out (by omega); (first | cases eo27 | (injection eo27 with ea_ en_ ec_; (first | subst ea_ | (injection ea_ with ea_; subst ea_)); subst ec_; clear en_)); have GB27 := Aside0.mk gb27; have GG27 := Aside0.mk HG27; clear gb27 gl27 HG27; obtain ⟨hx27_0, hf27_0⟩ := Kd.R_celln 0 HO123.out (a1 : Int) p27 q27; replace p27 := eq_true p27; replace q27 := eq_true q27; obtain ⟨hy29_, hz29_⟩ := Kd.R_celln 0 HO123.out (a1 : Int) (of_decide_eq_true (by first | (with_reducible assumption) | assumption)) (of_decide_eq_true (by first | (with_reducible assumption) | assumption)); have HP29 := Kd.R_putg HO123.out (a1 : Int) (-1)) | ((with_reducible refine gate_store (t := 3) (p := 53) rfl ?_); (try (rw [drewN_self w28]; generalize hq_ : World.drewN w28 _ = w28; have n0_ := Aside0.mk (Kd.S_at hq_ HO_10.out); have n1_ := Aside0.mk (Kd.R_at hq_ HO123.out); have n2_ := Aside0.mk (below_at hq_ HB.out); clear hq_ HO_10 HO123 HB; have HO_10 := n0_; have HO123 := n1_; have HB := n2_; clear n0_ n1_ n2_; obtain ⟨b2_, b3_, b4_, b5_, b6_⟩ := HX.out _ HB.out; (try (obtain ⟨hy29_, hz29_⟩ := Kd.R_celln 0 HO123.out (a1 : Int) (of_decide_eq_true (by first | (with_reducible assumption) | assumption)) (of_decide_eq_true (by first | (with_reducible assumption) | assumption)))); (try (have HP29 := Kd.R_putg HO123.out (a1 : Int) (-1))))); refine store_event (t := 3) (p := 53) (v := ?vo_w30) (w1 := (w28.setCell ⟨go27, (a1 : Int).toNat, none⟩ (.int .i64 (-1)))) ?hg ?ho ?hn ?hr ?_; (case ho => rfl); (case hg => rfl); (case hn => rfl); (case hr => first | (go_simp; done) | (go_simp; rfl)); intro w30 hw; have hg : w28.grownBy w30 (some go27) := (by rw [hw]; exact HP29.2); have hp_ : Kd.R (Kd.int .i64) 3 w30 w.heap.size (fun _ => True) (.slice (some ⟨go27, 0, none⟩) t121.length co27) y124 := (by rw [hw, Ny124.out]; exact HP29.1); clear HP29; have n0_ := Aside0.mk (Kd.S_after (v := (.slice (some ⟨go27, 0, none⟩) t121.length co27)) (v1 := (.slice (some ⟨go27, 0, none⟩) t121.length co27)) (ok := (fun _ => True)) (by (with_reducible repeat (first | apply Kd.S_alloc | apply Kd.S_drewN | apply Kd.S_drew)); exact HO_10.out) hg (.inl rfl)); have n1_ := Aside0.mk (hp_); have n2_ := Aside0.mk ((by rw [hw]; exact below_set (HB.out) GB27.out : Below w.heap.size w w30)); clear HO_10; clear HO123; clear HB; have HO_10 := n0_; have HO123 := n1_; have HB := n2_; clear n0_ n1_ n2_; obtain ⟨b2_, b3_, b4_, b5_, b6_⟩ := HX.out _ HB.out; clear hg hw hp_)))
                          go_loopg [56] k2 (fun kq v56 w' => ∃ (x13_3 : List Int) (x56_3 : Int), v56 = .int .i64 x56_3 ∧ Aside0 (assign_cheap.l1 kq a0 a1 l2 l3 a4 a5 a6 x10_2 x13_3 y116 (y116.length : Int) x45_2 l2 (l2.length : Int) x56_3 = some r) ∧ Aside0 (kq ≤ k2) ∧ Aside0 (Kd.S (Kd.slice 3 (Kd.int .i64)) 23 w' w.heap.size (fun k_ => some k_ ≠ ((.slice (some ⟨go27, 0, none⟩) t121.length co27) : Value).ownBlock) u10 x10_2) ∧ Aside0 (Kd.R (Kd.int .i64) 3 w' w.heap.size (fun _ => True) (.slice (some ⟨go27, 0, none⟩) t121.length co27) x13_3) ∧ Aside0 (Below w.heap.size w w'))
                          case atStart => exact ⟨(y124), (0), (by first | rfl | (simp; done) | (simp [*]; done)), H', ⟨Nat.le_refl _⟩, ⟨by (with_reducible repeat (first | apply Kd.S_alloc | apply Kd.S_drewN | apply Kd.S_drew)); exact Kd.S_mono HO_10.out (fun _ hk => hk.2)⟩, ⟨by (with_reducible repeat (first | apply Kd.R_alloc | apply Kd.R_drewN | apply Kd.R_drew)); exact HO123.out⟩, ⟨by repeat (first | (with_reducible first | exact HB.out | apply below_alloc | apply pw_below_drewN | apply below_drew1) | exact HB.out)⟩⟩
                          case round =>
                            clear H'
                            try clear c1
                            try clear p1
                            try clear q1
                            try clear hx1
                            try clear c2
                            try clear p2
                            try clear q2
                            try clear hx2
                            try clear c3
                            try clear p6
                            try clear c9
                            try clear c9b0
                            try clear c10
                            try clear c10b0
                            try clear c11
                            try clear p11
                            try clear q11
                            try clear hx11
                            try clear c12
                            try clear p12
                            try clear q12
                            try clear hx12
                            try clear c13
                            try clear c13b0
                            try clear c14
                            try clear c14b0
                            try clear c15
                            try clear c15b0
                            try clear c16
                            try clear c18
                            try clear c18b0
                            try clear c18b1
                            try clear c19
                            try clear c19b0
                            try clear c19b1
                            try clear c20
                            try clear q20
                            try clear c21
                            try clear c21b0
                            try clear c22
                            try clear c22b0
                            try clear c23
                            try clear c23b0
                            try clear c25
                            try clear c25b0
                            try clear c26
                            try clear c26b0
                            try clear p27
                            try clear q27
                            try clear hx27
                            try clear hf27
                            try clear hx113_0
                            try clear hx114_0
                            try clear hx115_0
                            try clear hx120_0
                            try clear hx27_0
                            try clear p1
                            try clear p11
                            try clear p113
                            try clear p114
                            try clear p115
                            try clear p120
                            try clear p2
                            try clear p27
                            try clear p6
                            try clear q020
                            try clear q1
                            try clear q11
                            try clear q113
                            try clear q114
                            try clear q115
                            try clear q120
                            try clear q2
                            try clear q20
                            try clear q27
                            obtain ⟨x13_3, x56_3, rfl, HA, HK3, HO_10, HO_13, HB⟩ := hrel
                            have hl13_3 := (Kd.R_reads' HO_13.out).1
                            rw [hl13_3] at HO_13
                            (try simp only [hl13_3])
                            (try simp only [hl13_3] at HO_10)
                            cases gk with
                            | zero => exact absurd HA.out (by simp [assign_cheap.l1])
                            | succ k3 =>
                              have H := HA.out
                              clear HA
                              simp only [assign_cheap.l1] at H
                              by_cases c31 : x56_3 < (l2.length : Int)
                              · rw [if_pos c31] at H
                                have c31b0 : decide (x56_3 < (l2.length : Int)) = true := decide_eq_true c31
                                clear c31
                                by_cases c32 : 0 ≤ x56_3
                                · rw [if_pos c32] at H
                                  have c32b0 : decide (0 ≤ x56_3) = true := decide_eq_true c32
                                  clear c32
                                  by_cases c33 : x56_3 < (l2.length : Int)
                                  · rw [if_pos c33] at H
                                    have c33b0 : decide (x56_3 < (l2.length : Int)) = true := decide_eq_true c33
                                    clear c33
                                    obtain ⟨bq34, hbq34⟩ : ∃ b_ : Bool, b_ = (rdOf false l2 x56_3) := ⟨_, rfl⟩
                                    replace H : (if bq34 = true then (if x56_3 < (x13_3.length : Int) then (assign_cheap.l1 k3 a0 a1 l2 l3 a4 a5 a6 x10_2 (x13_3.set (x56_3 : Int).toNat (-1)) y116 (y116.length : Int) x45_2 l2 (l2.length : Int) (wrap64 (x56_3 + 1))) else (none)) else (assign_cheap.l1 k3 a0 a1 l2 l3 a4 a5 a6 x10_2 x13_3 y116 (y116.length : Int) x45_2 l2 (l2.length : Int) (wrap64 (x56_3 + 1)))) = some r := by rw [← hbq34] at H; exact H
                                    have Nbq34 := Aside0.mk hbq34
                                    clear hbq34
                                    by_cases c35 : bq34 = true
                                    · subst c35
                                      have H1 : (if x56_3 < (x13_3.length : Int) then (assign_cheap.l1 k3 a0 a1 l2 l3 a4 a5 a6 x10_2 (x13_3.set (x56_3 : Int).toNat (-1)) y116 (y116.length : Int) x45_2 l2 (l2.length : Int) (wrap64 (x56_3 + 1))) else (none)) = some r := by rw [if_pos rfl] at H; exact H
                                      clear H
                                      have H := H1
                                      clear H1
                                      by_cases c36 : x56_3 < (x13_3.length : Int)
                                      · rw [if_pos c36] at H
                                        have c36b0 : decide (x56_3 < (x13_3.length : Int)) = true := decide_eq_true c36
                                        clear c36
                                        obtain ⟨y126, hy126⟩ : ∃ y_ : List Int, y_ = (x13_3.set (x56_3 : Int).toNat (-1)) := ⟨_, rfl⟩
                                        replace H : (assign_cheap.l1 k3 a0 a1 l2 l3 a4 a5 a6 x10_2 y126 y116 (y116.length : Int) x45_2 l2 (l2.length : Int) (wrap64 (x56_3 + 1))) = some r := by first | (rw [hy126]; with_reducible exact H) | (have H2_ := (Option.bind_some _ _).symm.trans H; rw [hy126]; with_reducible exact H2_) | (have H2_ := (Option.bind_some _ _).symm.trans H; with_reducible exact H2_) | with_reducible exact H | (rw [hy126]; exact H) | exact H
                                        have Ny126 := Aside0.mk hy126
                                        clear hy126
                                        have H' := Aside0.mk H
                                        clear H
                                        have p125 : 0 ≤ (x56_3 : Int) := of_decide_eq_true (by first | (with_reducible assumption) | assumption)
                                        have q125 : x56_3 < (l2.length : Int) := of_decide_eq_true (by first | (with_reducible assumption) | assumption)
                                        obtain ⟨ad125, e125, hx125_0⟩ := Kd.at_bool HR2.out x56_3 p125 q125
                                        (try rw [← Nbq34.out] at hx125_0)
                                        cases e125
                                        replace hx125_0 := (HB.out.cell (World.block_lt_of_cell? w _ hx125_0)).trans hx125_0
                                        replace p125 := eq_true p125
                                        replace q125 := eq_true q125
                                        have p37 : 0 ≤ (x56_3 : Int) := of_decide_eq_true (by first | (with_reducible assumption) | assumption)
                                        have q37 : (x56_3 : Int) < ((x13_3.length : Int) : Int) := of_decide_eq_true (by first | (with_reducible assumption) | assumption)
                                        obtain ⟨hx37_0, hf37_0⟩ := Kd.R_celln 0 HO_13.out (x56_3 : Int) p37 q37
                                        replace p37 := eq_true p37
                                        replace q37 := eq_true q37
                                        have HP38 := Kd.R_putg HO_13.out (x56_3 : Int) (-1)
                                        obtain ⟨b2_, b3_, b4_, b5_, b6_⟩ := HX.out _ HB.out
                                        go_wp2_with (first | ((with_reducible refine gate_store (t := 3) (p := 64) rfl ?_); (try (rw [drewN_self wr]; generalize hq_ : World.drewN wr _ = wr; have n0_ := Aside0.mk (Kd.S_at hq_ HO_10.out); have n1_ := Aside0.mk (Kd.R_at hq_ HO_13.out); have n2_ := Aside0.mk (below_at hq_ HB.out); clear hq_ HO_10 HO_13 HB; have HO_10 := n0_; have HO_13 := n1_; have HB := n2_; clear n0_ n1_ n2_; obtain ⟨b2_, b3_, b4_, b5_, b6_⟩ := HX.out _ HB.out; (try (have HP38 := Kd.R_putg HO_13.out (x56_3 : Int) (-1))))); refine store_event (t := 3) (p := 64) (v := ?vo_w39) (w1 := (wr.setCell ⟨go27, (x56_3 : Int).toNat, none⟩ (.int .i64 (-1)))) ?hg ?ho ?hn ?hr ?_; (case ho => rfl); (case hg => rfl); (case hn => rfl); (case hr => first | (go_simp; done) | (go_simp; rfl)); intro w39 hw; have hg : wr.grownBy w39 (some go27) := (by rw [hw]; exact HP38.2); have hp_ : Kd.R (Kd.int .i64) 3 w39 w.heap.size (fun _ => True) (.slice (some ⟨go27, 0, none⟩) x13_3.length co27) y126 := (by rw [hw, Ny126.out]; exact HP38.1); clear HP38; have n0_ := Aside0.mk (Kd.S_after (v := (.slice (some ⟨go27, 0, none⟩) x13_3.length co27)) (v1 := (.slice (some ⟨go27, 0, none⟩) x13_3.length co27)) (ok := (fun _ => True)) (by (with_reducible repeat (first | apply Kd.S_alloc | apply Kd.S_drewN | apply Kd.S_drew)); exact Kd.S_mono HO_10.out (fun _ hk => ⟨trivial, hk⟩)) hg (.inl rfl)); have n1_ := Aside0.mk (hp_); have n2_ := Aside0.mk ((by rw [hw]; exact below_set (HB.out) GB27.out : Below w.heap.size w w39)); clear HO_10; clear HO_13; clear HB; have HO_10 := n0_; have HO_13 := n1_; have HB := n2_; clear n0_ n1_ n2_; obtain ⟨b2_, b3_, b4_, b5_, b6_⟩ := HX.out _ HB.out; clear hg hw hp_))
                                        repeat (go_quiet (first | ((with_reducible refine gate_store (t := 3) (p := 64) rfl ?_); (try (rw [drewN_self wr]; generalize hq_ : World.drewN wr _ = wr; have n0_ := Aside0.mk (Kd.S_at hq_ HO_10.out); have n1_ := Aside0.mk (Kd.R_at hq_ HO_13.out); have n2_ := Aside0.mk (below_at hq_ HB.out); clear hq_ HO_10 HO_13 HB; have HO_10 := n0_; have HO_13 := n1_; have HB := n2_; clear n0_ n1_ n2_; obtain ⟨b2_, b3_, b4_, b5_, b6_⟩ := HX.out _ HB.out; (try (have HP38 := Kd.R_putg HO_13.out (x56_3 : Int) (-1))))); refine store_event (t := 3) (p := 64) (v := ?vo_w39) (w1 := (wr.setCell ⟨go27, (x56_3 : Int).toNat, none⟩ (.int .i64 (-1)))) ?hg ?ho ?hn ?hr ?_; (case ho => rfl); (case hg => rfl); (case hn => rfl); (case hr => first | (go_simp; done) | (go_simp; rfl)); intro w39 hw; have hg : wr.grownBy w39 (some go27) := (by rw [hw]; exact HP38.2); have hp_ : Kd.R (Kd.int .i64) 3 w39 w.heap.size (fun _ => True) (.slice (some ⟨go27, 0, none⟩) x13_3.length co27) y126 := (by rw [hw, Ny126.out]; exact HP38.1); clear HP38; have n0_ := Aside0.mk (Kd.S_after (v := (.slice (some ⟨go27, 0, none⟩) x13_3.length co27)) (v1 := (.slice (some ⟨go27, 0, none⟩) x13_3.length co27)) (ok := (fun _ => True)) (by (with_reducible repeat (first | apply Kd.S_alloc | apply Kd.S_drewN | apply Kd.S_drew)); exact Kd.S_mono HO_10.out (fun _ hk => ⟨trivial, hk⟩)) hg (.inl rfl)); have n1_ := Aside0.mk (hp_); have n2_ := Aside0.mk ((by rw [hw]; exact below_set (HB.out) GB27.out : Below w.heap.size w w39)); clear HO_10; clear HO_13; clear HB; have HO_10 := n0_; have HO_13 := n1_; have HB := n2_; clear n0_ n1_ n2_; obtain ⟨b2_, b3_, b4_, b5_, b6_⟩ := HX.out _ HB.out; clear hg hw hp_)); try go_wp2_with (first | ((with_reducible refine gate_store (t := 3) (p := 64) rfl ?_); (try (rw [drewN_self wr]; generalize hq_ : World.drewN wr _ = wr; have n0_ := Aside0.mk (Kd.S_at hq_ HO_10.out); have n1_ := Aside0.mk (Kd.R_at hq_ HO_13.out); have n2_ := Aside0.mk (below_at hq_ HB.out); clear hq_ HO_10 HO_13 HB; have HO_10 := n0_; have HO_13 := n1_; have HB := n2_; clear n0_ n1_ n2_; obtain ⟨b2_, b3_, b4_, b5_, b6_⟩ := HX.out _ HB.out; (try (have HP38 := Kd.R_putg HO_13.out (x56_3 : Int) (-1))))); refine store_event (t := 3) (p := 64) (v := ?vo_w39) (w1 := (wr.setCell ⟨go27, (x56_3 : Int).toNat, none⟩ (.int .i64 (-1)))) ?hg ?ho ?hn ?hr ?_; (case ho => rfl); (case hg => rfl); (case hn => rfl); (case hr => first | (go_simp; done) | (go_simp; rfl)); intro w39 hw; have hg : wr.grownBy w39 (some go27) := (by rw [hw]; exact HP38.2); have hp_ : Kd.R (Kd.int .i64) 3 w39 w.heap.size (fun _ => True) (.slice (some ⟨go27, 0, none⟩) x13_3.length co27) y126 := (by rw [hw, Ny126.out]; exact HP38.1); clear HP38; have n0_ := Aside0.mk (Kd.S_after (v := (.slice (some ⟨go27, 0, none⟩) x13_3.length co27)) (v1 := (.slice (some ⟨go27, 0, none⟩) x13_3.length co27)) (ok := (fun _ => True)) (by (with_reducible repeat (first | apply Kd.S_alloc | apply Kd.S_drewN | apply Kd.S_drew)); exact Kd.S_mono HO_10.out (fun _ hk => ⟨trivial, hk⟩)) hg (.inl rfl)); have n1_ := Aside0.mk (hp_); have n2_ := Aside0.mk ((by rw [hw]; exact below_set (HB.out) GB27.out : Below w.heap.size w w39)); clear HO_10; clear HO_13; clear HB; have HO_10 := n0_; have HO_13 := n1_; have HB := n2_; clear n0_ n1_ n2_; obtain ⟨b2_, b3_, b4_, b5_, b6_⟩ := HX.out _ HB.out; clear hg hw hp_)))
                                        (try simp only [← hl13_3])
                                        go_roundg k3
                                        case measure => have := HJ7.out; have := HK2.out; have := HK3.out; omega
                                        case rel => exact ⟨(y126), (wrap64 (x56_3 + 1)), (by first | rfl | (simp; done) | (simp [*]; done)), H', ⟨by have := HJ7.out; have := HK2.out; have := HK3.out; omega⟩, ⟨by (try simp only [hl13_3]); (with_reducible repeat (first | apply Kd.S_alloc | apply Kd.S_drewN | apply Kd.S_drew)); exact Kd.S_mono HO_10.out (fun _ hk => hk.2)⟩, ⟨by (try simp only [hl13_3]); (with_reducible repeat (first | apply Kd.R_alloc | apply Kd.R_drewN | apply Kd.R_drew)); exact HO_13.out⟩, ⟨by repeat (first | (with_reducible first | exact HB.out | apply below_alloc | apply pw_below_drewN | apply below_drew1) | exact HB.out)⟩⟩
                                      · rw [if_neg c36] at H
                                        exact absurd H (by simp)
                                    · replace c35 := Bool.eq_false_iff.mpr c35
                                      subst c35
                                      have H1 : (assign_cheap.l1 k3 a0 a1 l2 l3 a4 a5 a6 x10_2 x13_3 y116 (y116.length : Int) x45_2 l2 (l2.length : Int) (wrap64 (x56_3 + 1))) = some r := by rw [if_neg (show ¬ (false = true) by decide)] at H; exact H
                                      clear H
                                      have H := H1
                                      clear H1
                                      have H' := Aside0.mk H
                                      clear H
                                      have p125 : 0 ≤ (x56_3 : Int) := of_decide_eq_true (by first | (with_reducible assumption) | assumption)
                                      have q125 : x56_3 < (l2.length : Int) := of_decide_eq_true (by first | (with_reducible assumption) | assumption)
                                      obtain ⟨ad125, e125, hx125_0⟩ := Kd.at_bool HR2.out x56_3 p125 q125
                                      (try rw [← Nbq34.out] at hx125_0)
                                      cases e125
                                      replace hx125_0 := (HB.out.cell (World.block_lt_of_cell? w _ hx125_0)).trans hx125_0
                                      replace p125 := eq_true p125
                                      replace q125 := eq_true q125
                                      obtain ⟨b2_, b3_, b4_, b5_, b6_⟩ := HX.out _ HB.out
                                      go_wp2
                                      repeat (go_quiet (fail); try go_wp2)
                                      (try simp only [← hl13_3])
                                      go_roundg k3
                                      case measure => have := HJ7.out; have := HK2.out; have := HK3.out; omega
                                      case rel => exact ⟨(x13_3), (wrap64 (x56_3 + 1)), (by first | rfl | (simp; done) | (simp [*]; done)), H', ⟨by have := HJ7.out; have := HK2.out; have := HK3.out; omega⟩, ⟨by (try simp only [hl13_3]); (with_reducible repeat (first | apply Kd.S_alloc | apply Kd.S_drewN | apply Kd.S_drew)); exact HO_10.out⟩, ⟨by (try simp only [hl13_3]); (with_reducible repeat (first | apply Kd.R_alloc | apply Kd.R_drewN | apply Kd.R_drew)); exact HO_13.out⟩, ⟨by repeat (first | (with_reducible first | exact HB.out | apply below_alloc | apply pw_below_drewN | apply below_drew1) | exact HB.out)⟩⟩
                                  · rw [if_neg c33] at H
                                    exact absurd H (by simp)
                                · rw [if_neg c32] at H
                                  exact absurd H (by simp)
                              · rw [if_neg c31] at H
                                have c31b0 : decide (x56_3 < (l2.length : Int)) = false := decide_eq_false c31
                                clear c31
                                by_cases c40 : x10_2.length < 5864062014805
                                · rw [if_pos c40] at H
                                  have LMc40 := Aside0.mk c40
                                  clear c40
                                  obtain ⟨y127, hy127⟩ : ∃ y_ : List (List Int), y_ = (x10_2 ++ [x13_3]) := ⟨_, rfl⟩
                                  replace H : (assign_cheap.l0 k3 a0 a1 l2 l3 a4 a5 a6 y127 y116 (y116.length : Int) (wrap64 (x45_2 + 1))) = some r := by first | (rw [hy127]; with_reducible exact H) | (have H2_ := (Option.bind_some _ _).symm.trans H; rw [hy127]; with_reducible exact H2_) | (have H2_ := (Option.bind_some _ _).symm.trans H; with_reducible exact H2_) | with_reducible exact H | (rw [hy127]; exact H) | exact H
                                  have Ny127 := Aside0.mk hy127
                                  clear hy127
                                  have H' := Aside0.mk H
                                  clear H
                                  obtain ⟨b2_, b3_, b4_, b5_, b6_⟩ := HX.out _ HB.out
                                  go_wp2_with (first | ((with_reducible refine gate_builtin (b := .append) (xs := #[.tmp 66, .tmp 68]) rfl ?_); at_builtin; refine Kd.S_append (Kd.slice 3 (Kd.int .i64)) (w0 := w) w.heap.size rfl (.tmp 66) (.tmp 68) 22 23 (.slice none 0 0) 24 rfl Try.underlying22 info23 rfl (by decide) (by omega) u10 x10_2 x13_3 [.slice (some ⟨go27, 0, none⟩) x13_3.length co27] (fun _ => True) (fun k_ => some k_ = (.slice (some ⟨go27, 0, none⟩) x13_3.length co27 : Value).ownBlock) rfl rfl ?aP (fun k_ hk_ => ((Kd.R_mono (ok' := fun k_ => ((fun _ => True)) k_ ∧ some k_ ≠ (u10 : Value).ownBlock) (Kd.R_apart' (HO_13.out) (Kd.S_typed HO_10.out) (by decide)) (fun k_ hk => ⟨trivial, hk.2⟩))).1 k_ hk_.symm) ?aF ?aO ?aB ?aS ?aL ?_; (case aP => exact Kd.M_row (Kd.R_mono (Kd.R_tight rfl (Kd.R_mono (ok' := fun k_ => ((fun _ => True)) k_ ∧ some k_ ≠ (u10 : Value).ownBlock) (Kd.R_apart' (HO_13.out) (Kd.S_typed HO_10.out) (by decide)) (fun k_ hk => ⟨trivial, hk.2⟩))) (fun _ h_ => h_))); (case aB => exact (by repeat (first | (with_reducible first | exact HB.out | apply below_alloc | apply pw_below_drewN | apply below_drew1) | exact HB.out))); (case aF => exact (fun _ _ => trivial)); (case aO => exact (by (with_reducible repeat (first | apply Kd.S_alloc | apply Kd.S_drewN | apply Kd.S_drew)); exact Kd.S_mono HO_10.out (fun k_ hk => ⟨trivial, fun e_ => hk e_⟩))); (case aS => exact (below_size (by repeat (first | (with_reducible first | exact HB.out | apply below_alloc | apply pw_below_drewN | apply below_drew1) | exact HB.out)))); (case aL => have := LMc40.out; omega); intro v128 w41 ho hb hg hat; rw [← Ny127.out] at ho; have n0_ := Aside0.mk (hb); have n1_ := Aside0.mk (ho); clear HB; clear HO_10; clear HO_13; have HB := n0_; have HO129 := n1_; clear n0_ n1_; clear ho hb hg hat))
                                  repeat (go_quiet (first | ((with_reducible refine gate_builtin (b := .append) (xs := #[.tmp 66, .tmp 68]) rfl ?_); at_builtin; refine Kd.S_append (Kd.slice 3 (Kd.int .i64)) (w0 := w) w.heap.size rfl (.tmp 66) (.tmp 68) 22 23 (.slice none 0 0) 24 rfl Try.underlying22 info23 rfl (by decide) (by omega) u10 x10_2 x13_3 [.slice (some ⟨go27, 0, none⟩) x13_3.length co27] (fun _ => True) (fun k_ => some k_ = (.slice (some ⟨go27, 0, none⟩) x13_3.length co27 : Value).ownBlock) rfl rfl ?aP (fun k_ hk_ => ((Kd.R_mono (ok' := fun k_ => ((fun _ => True)) k_ ∧ some k_ ≠ (u10 : Value).ownBlock) (Kd.R_apart' (HO_13.out) (Kd.S_typed HO_10.out) (by decide)) (fun k_ hk => ⟨trivial, hk.2⟩))).1 k_ hk_.symm) ?aF ?aO ?aB ?aS ?aL ?_; (case aP => exact Kd.M_row (Kd.R_mono (Kd.R_tight rfl (Kd.R_mono (ok' := fun k_ => ((fun _ => True)) k_ ∧ some k_ ≠ (u10 : Value).ownBlock) (Kd.R_apart' (HO_13.out) (Kd.S_typed HO_10.out) (by decide)) (fun k_ hk => ⟨trivial, hk.2⟩))) (fun _ h_ => h_))); (case aB => exact (by repeat (first | (with_reducible first | exact HB.out | apply below_alloc | apply pw_below_drewN | apply below_drew1) | exact HB.out))); (case aF => exact (fun _ _ => trivial)); (case aO => exact (by (with_reducible repeat (first | apply Kd.S_alloc | apply Kd.S_drewN | apply Kd.S_drew)); exact Kd.S_mono HO_10.out (fun k_ hk => ⟨trivial, fun e_ => hk e_⟩))); (case aS => exact (below_size (by repeat (first | (with_reducible first | exact HB.out | apply below_alloc | apply pw_below_drewN | apply below_drew1) | exact HB.out)))); (case aL => have := LMc40.out; omega); intro v128 w41 ho hb hg hat; rw [← Ny127.out] at ho; have n0_ := Aside0.mk (hb); have n1_ := Aside0.mk (ho); clear HB; clear HO_10; clear HO_13; have HB := n0_; have HO129 := n1_; clear n0_ n1_; clear ho hb hg hat)); try go_wp2_with (first | ((with_reducible refine gate_builtin (b := .append) (xs := #[.tmp 66, .tmp 68]) rfl ?_); at_builtin; refine Kd.S_append (Kd.slice 3 (Kd.int .i64)) (w0 := w) w.heap.size rfl (.tmp 66) (.tmp 68) 22 23 (.slice none 0 0) 24 rfl Try.underlying22 info23 rfl (by decide) (by omega) u10 x10_2 x13_3 [.slice (some ⟨go27, 0, none⟩) x13_3.length co27] (fun _ => True) (fun k_ => some k_ = (.slice (some ⟨go27, 0, none⟩) x13_3.length co27 : Value).ownBlock) rfl rfl ?aP (fun k_ hk_ => ((Kd.R_mono (ok' := fun k_ => ((fun _ => True)) k_ ∧ some k_ ≠ (u10 : Value).ownBlock) (Kd.R_apart' (HO_13.out) (Kd.S_typed HO_10.out) (by decide)) (fun k_ hk => ⟨trivial, hk.2⟩))).1 k_ hk_.symm) ?aF ?aO ?aB ?aS ?aL ?_; (case aP => exact Kd.M_row (Kd.R_mono (Kd.R_tight rfl (Kd.R_mono (ok' := fun k_ => ((fun _ => True)) k_ ∧ some k_ ≠ (u10 : Value).ownBlock) (Kd.R_apart' (HO_13.out) (Kd.S_typed HO_10.out) (by decide)) (fun k_ hk => ⟨trivial, hk.2⟩))) (fun _ h_ => h_))); (case aB => exact (by repeat (first | (with_reducible first | exact HB.out | apply below_alloc | apply pw_below_drewN | apply below_drew1) | exact HB.out))); (case aF => exact (fun _ _ => trivial)); (case aO => exact (by (with_reducible repeat (first | apply Kd.S_alloc | apply Kd.S_drewN | apply Kd.S_drew)); exact Kd.S_mono HO_10.out (fun k_ hk => ⟨trivial, fun e_ => hk e_⟩))); (case aS => exact (below_size (by repeat (first | (with_reducible first | exact HB.out | apply below_alloc | apply pw_below_drewN | apply below_drew1) | exact HB.out)))); (case aL => have := LMc40.out; omega); intro v128 w41 ho hb hg hat; rw [← Ny127.out] at ho; have n0_ := Aside0.mk (hb); have n1_ := Aside0.mk (ho); clear HB; clear HO_10; clear HO_13; have HB := n0_; have HO129 := n1_; clear n0_ n1_; clear ho hb hg hat)))
                                  (try simp only [← hl13_3])
                                  go_roundg k3
                                  case measure => have := HJ7.out; have := HK2.out; have := HK3.out; omega
                                  case rel => exact ⟨(y127), (wrap64 (x45_2 + 1)), (by first | rfl | (simp; done) | (simp [*]; done)), H', ⟨by have := HJ7.out; have := HK2.out; have := HK3.out; omega⟩, ⟨by (try simp only [hl13_3]); (with_reducible repeat (first | apply Kd.S_alloc | apply Kd.S_drewN | apply Kd.S_drew)); exact HO129.out⟩, ⟨by repeat (first | (with_reducible first | exact HB.out | apply below_alloc | apply pw_below_drewN | apply below_drew1) | exact HB.out)⟩⟩
                                · rw [if_neg c40] at H
                                  exact absurd H (by simp)
                        · rw [if_neg c26] at H
                          exact absurd H (by simp)
                      · rw [if_neg c25] at H
                        exact absurd H (by simp)
                    · rw [if_neg c23] at H
                      exact absurd H (by simp)
                  · rw [if_neg c22] at H
                    exact absurd H (by simp)
                · rw [if_neg c21] at H
                  have c21b0 : decide (x45_2 < (y116.length : Int)) = false := decide_eq_false c21
                  clear c21
                  replace H := Option.bind_eq_some_iff.mp H
                  obtain ⟨⟨t130, t131, t132, t133⟩, A420, H⟩ := H
                  replace H : (if 0 ≤ a0 then (if a0 < (l3.length : Int) then (if 0 ≤ a1 then (if a1 < ((rd_L1 l3 a0).length : Int) then (assign_cheap.l2 k2 a6 x10_2 t133 (wrap64 (a5 + (rd (rd_L1 l3 a0) a1))) t130 (t130.length : Int) 0) else (none)) else (none)) else (none)) else (none)) = some r := H
                  have A42 := Aside0.mk A420
                  clear A420
                  by_cases c43 : 0 ≤ a0
                  · rw [if_pos c43] at H
                    have c43b0 : decide (0 ≤ a0) = true := decide_eq_true c43
                    clear c43
                    by_cases c44 : a0 < (l3.length : Int)
                    · rw [if_pos c44] at H
                      have c44b0 : decide (a0 < (l3.length : Int)) = true := decide_eq_true c44
                      clear c44
                      by_cases c45 : 0 ≤ a1
                      · rw [if_pos c45] at H
                        have c45b0 : decide (0 ≤ a1) = true := decide_eq_true c45
                        clear c45
                        by_cases c46 : a1 < ((rd_L1 l3 a0).length : Int)
                        · rw [if_pos c46] at H
                          have c46b0 : decide (a1 < ((rd_L1 l3 a0).length : Int)) = true := decide_eq_true c46
                          clear c46
                          have H' := Aside0.mk H
                          clear H
                          obtain ⟨Ao47, co47, eo47⟩ := Kd.S_slice HO_10.out
                          subst eo47
                          obtain ⟨b2_, b3_, b4_, b5_, b6_⟩ := HX.out _ HB.out
                          go_wp2_with (first | (go_at_call 31; (with_reducible refine (assign_solve.calls 20000 _ _ x10_2 a4 t130 t131 t132 t133 _ ?side1 ?side2 A42.out).mono ?_); (case side1 => repeat (first | exact (Kd.S_reads' HO_10.out).2.2 | (with_reducible refine Kd.C_alloc ?_ _) | (with_reducible refine Kd.C_drewN ?_ _) | (with_reducible refine Kd.C_drew ?_))); (case side2 => exact (Kd.S_reads' HO_10.out).2.1); rintro e w48 ⟨v134, v136, v138, rfl, ho0, ho1, ho2, hb⟩; have n0_ := Aside0.mk (Kd.S_mono (Kd.S_told (Kd.S_told (Kd.S_told (Kd.S_old (by (with_reducible repeat (first | apply Kd.S_alloc | apply Kd.S_drewN | apply Kd.S_drew)); exact HO_10.out) hb) (Kd.R_base ho0)) (Kd.R_base ho1)) (Kd.R_base ho2)) (fun _ h_ => h_.1)); have n1_ := Aside0.mk (Kd.R_lower ho0 (below_size (by repeat (first | (with_reducible first | exact HB.out | apply below_alloc | apply pw_below_drewN | apply below_drew1) | exact HB.out)))); have n2_ := Aside0.mk (Kd.R_lower ho1 (below_size (by repeat (first | (with_reducible first | exact HB.out | apply below_alloc | apply pw_below_drewN | apply below_drew1) | exact HB.out)))); have n3_ := Aside0.mk (Kd.R_lower ho2 (below_size (by repeat (first | (with_reducible first | exact HB.out | apply below_alloc | apply pw_below_drewN | apply below_drew1) | exact HB.out)))); have n4_ := Aside0.mk (below_step (by repeat (first | (with_reducible first | exact HB.out | apply below_alloc | apply pw_below_drewN | apply below_drew1) | exact HB.out)) hb); clear HO_10; clear HB; have HO_10 := n0_; have HO135 := n1_; have HO137 := n2_; have HO139 := n3_; have HB := n4_; clear n0_ n1_ n2_ n3_ n4_; obtain ⟨b2_, b3_, b4_, b5_, b6_⟩ := HX.out _ HB.out; (try clear hb); (try clear hb2); (try clear hk); (try clear hi); (try clear ho0); (try clear ho1); (try clear ho2); have p140 : 0 ≤ (a0 : Int) := of_decide_eq_true (by first | (with_reducible assumption) | assumption); have q140 : a0 < (l3.length : Int) := of_decide_eq_true (by first | (with_reducible assumption) | assumption); obtain ⟨ad140, A140_0, c140_0, e140, hx140_0, hl140_0, hi140_0⟩ := at_L1 HR3.out a0 p140 q140; cases e140; replace hx140_0 := (HB.out.cell (World.block_lt_of_cell? w _ hx140_0)).trans hx140_0; have HR140_0 := Aside0.mk hi140_0; have HC140_0 := Aside0.mk hl140_0; clear hi140_0 hl140_0; replace p140 := eq_true p140; replace q140 := eq_true q140; have p141 : 0 ≤ (a1 : Int) := of_decide_eq_true (by first | (with_reducible assumption) | assumption); have q141 : a1 < ((rd_L1 l3 a0).length : Int) := of_decide_eq_true (by first | (with_reducible assumption) | assumption); obtain ⟨ad141, e141, hx141_0⟩ := Kd.at_int HR140_0.out a1 p141 q141; cases e141; replace hx141_0 := (HB.out.cell (World.block_lt_of_cell? w _ hx141_0)).trans hx141_0; replace p141 := eq_true p141; replace q141 := eq_true q141; obtain ⟨Ao49, co49, eo49⟩ := Kd.R_slice HO135.out; subst eo49))
                          repeat (go_quiet (first | (go_at_call 31; (with_reducible refine (assign_solve.calls 20000 _ _ x10_2 a4 t130 t131 t132 t133 _ ?side1 ?side2 A42.out).mono ?_); (case side1 => repeat (first | exact (Kd.S_reads' HO_10.out).2.2 | (with_reducible refine Kd.C_alloc ?_ _) | (with_reducible refine Kd.C_drewN ?_ _) | (with_reducible refine Kd.C_drew ?_))); (case side2 => exact (Kd.S_reads' HO_10.out).2.1); rintro e w48 ⟨v134, v136, v138, rfl, ho0, ho1, ho2, hb⟩; have n0_ := Aside0.mk (Kd.S_mono (Kd.S_told (Kd.S_told (Kd.S_told (Kd.S_old (by (with_reducible repeat (first | apply Kd.S_alloc | apply Kd.S_drewN | apply Kd.S_drew)); exact HO_10.out) hb) (Kd.R_base ho0)) (Kd.R_base ho1)) (Kd.R_base ho2)) (fun _ h_ => h_.1)); have n1_ := Aside0.mk (Kd.R_lower ho0 (below_size (by repeat (first | (with_reducible first | exact HB.out | apply below_alloc | apply pw_below_drewN | apply below_drew1) | exact HB.out)))); have n2_ := Aside0.mk (Kd.R_lower ho1 (below_size (by repeat (first | (with_reducible first | exact HB.out | apply below_alloc | apply pw_below_drewN | apply below_drew1) | exact HB.out)))); have n3_ := Aside0.mk (Kd.R_lower ho2 (below_size (by repeat (first | (with_reducible first | exact HB.out | apply below_alloc | apply pw_below_drewN | apply below_drew1) | exact HB.out)))); have n4_ := Aside0.mk (below_step (by repeat (first | (with_reducible first | exact HB.out | apply below_alloc | apply pw_below_drewN | apply below_drew1) | exact HB.out)) hb); clear HO_10; clear HB; have HO_10 := n0_; have HO135 := n1_; have HO137 := n2_; have HO139 := n3_; have HB := n4_; clear n0_ n1_ n2_ n3_ n4_; obtain ⟨b2_, b3_, b4_, b5_, b6_⟩ := HX.out _ HB.out; (try clear hb); (try clear hb2); (try clear hk); (try clear hi); (try clear ho0); (try clear ho1); (try clear ho2); have p140 : 0 ≤ (a0 : Int) := of_decide_eq_true (by first | (with_reducible assumption) | assumption); have q140 : a0 < (l3.length : Int) := of_decide_eq_true (by first | (with_reducible assumption) | assumption); obtain ⟨ad140, A140_0, c140_0, e140, hx140_0, hl140_0, hi140_0⟩ := at_L1 HR3.out a0 p140 q140; cases e140; replace hx140_0 := (HB.out.cell (World.block_lt_of_cell? w _ hx140_0)).trans hx140_0; have HR140_0 := Aside0.mk hi140_0; have HC140_0 := Aside0.mk hl140_0; clear hi140_0 hl140_0; replace p140 := eq_true p140; replace q140 := eq_true q140; have p141 : 0 ≤ (a1 : Int) := of_decide_eq_true (by first | (with_reducible assumption) | assumption); have q141 : a1 < ((rd_L1 l3 a0).length : Int) := of_decide_eq_true (by first | (with_reducible assumption) | assumption); obtain ⟨ad141, e141, hx141_0⟩ := Kd.at_int HR140_0.out a1 p141 q141; cases e141; replace hx141_0 := (HB.out.cell (World.block_lt_of_cell? w _ hx141_0)).trans hx141_0; replace p141 := eq_true p141; replace q141 := eq_true q141; obtain ⟨Ao49, co49, eo49⟩ := Kd.R_slice HO135.out; subst eo49)); try go_wp2_with (first | (go_at_call 31; (with_reducible refine (assign_solve.calls 20000 _ _ x10_2 a4 t130 t131 t132 t133 _ ?side1 ?side2 A42.out).mono ?_); (case side1 => repeat (first | exact (Kd.S_reads' HO_10.out).2.2 | (with_reducible refine Kd.C_alloc ?_ _) | (with_reducible refine Kd.C_drewN ?_ _) | (with_reducible refine Kd.C_drew ?_))); (case side2 => exact (Kd.S_reads' HO_10.out).2.1); rintro e w48 ⟨v134, v136, v138, rfl, ho0, ho1, ho2, hb⟩; have n0_ := Aside0.mk (Kd.S_mono (Kd.S_told (Kd.S_told (Kd.S_told (Kd.S_old (by (with_reducible repeat (first | apply Kd.S_alloc | apply Kd.S_drewN | apply Kd.S_drew)); exact HO_10.out) hb) (Kd.R_base ho0)) (Kd.R_base ho1)) (Kd.R_base ho2)) (fun _ h_ => h_.1)); have n1_ := Aside0.mk (Kd.R_lower ho0 (below_size (by repeat (first | (with_reducible first | exact HB.out | apply below_alloc | apply pw_below_drewN | apply below_drew1) | exact HB.out)))); have n2_ := Aside0.mk (Kd.R_lower ho1 (below_size (by repeat (first | (with_reducible first | exact HB.out | apply below_alloc | apply pw_below_drewN | apply below_drew1) | exact HB.out)))); have n3_ := Aside0.mk (Kd.R_lower ho2 (below_size (by repeat (first | (with_reducible first | exact HB.out | apply below_alloc | apply pw_below_drewN | apply below_drew1) | exact HB.out)))); have n4_ := Aside0.mk (below_step (by repeat (first | (with_reducible first | exact HB.out | apply below_alloc | apply pw_below_drewN | apply below_drew1) | exact HB.out)) hb); clear HO_10; clear HB; have HO_10 := n0_; have HO135 := n1_; have HO137 := n2_; have HO139 := n3_; have HB := n4_; clear n0_ n1_ n2_ n3_ n4_; obtain ⟨b2_, b3_, b4_, b5_, b6_⟩ := HX.out _ HB.out; (try clear hb); (try clear hb2); (try clear hk); (try clear hi); (try clear ho0); (try clear ho1); (try clear ho2); have p140 : 0 ≤ (a0 : Int) := of_decide_eq_true (by first | (with_reducible assumption) | assumption); have q140 : a0 < (l3.length : Int) := of_decide_eq_true (by first | (with_reducible assumption) | assumption); obtain ⟨ad140, A140_0, c140_0, e140, hx140_0, hl140_0, hi140_0⟩ := at_L1 HR3.out a0 p140 q140; cases e140; replace hx140_0 := (HB.out.cell (World.block_lt_of_cell? w _ hx140_0)).trans hx140_0; have HR140_0 := Aside0.mk hi140_0; have HC140_0 := Aside0.mk hl140_0; clear hi140_0 hl140_0; replace p140 := eq_true p140; replace q140 := eq_true q140; have p141 : 0 ≤ (a1 : Int) := of_decide_eq_true (by first | (with_reducible assumption) | assumption); have q141 : a1 < ((rd_L1 l3 a0).length : Int) := of_decide_eq_true (by first | (with_reducible assumption) | assumption); obtain ⟨ad141, e141, hx141_0⟩ := Kd.at_int HR140_0.out a1 p141 q141; cases e141; replace hx141_0 := (HB.out.cell (World.block_lt_of_cell? w _ hx141_0)).trans hx141_0; replace p141 := eq_true p141; replace q141 := eq_true q141; obtain ⟨Ao49, co49, eo49⟩ := Kd.R_slice HO135.out; subst eo49)))
                          go_loopg [20, 90] k2 (fun kq v20 v90 w' => ∃ (x20_3 : Int) (x90_3 : Int), v20 = .int .i64 x20_3 ∧ v90 = .int .i64 x90_3 ∧ Aside0 (assign_cheap.l2 kq a6 x10_2 t133 x20_3 t130 (t130.length : Int) x90_3 = some r) ∧ Aside0 (kq ≤ k2) ∧ Aside0 (Kd.S (Kd.slice 3 (Kd.int .i64)) 23 w' w.heap.size (fun k_ => some k_ ≠ ((.slice Ao49 t130.length co49) : Value).ownBlock) (.slice Ao47 x10_2.length co47) x10_2) ∧ Aside0 (Kd.R (Kd.int .i64) 3 w' w.heap.size (fun _ => True) (.slice Ao49 t130.length co49) t130) ∧ Aside0 (Below w.heap.size w w'))
                          case atStart => exact ⟨(wrap64 (a5 + (rd (rd_L1 l3 a0) a1))), (0), (by first | rfl | (simp; done) | (simp [*]; done)), (by first | rfl | (simp; done) | (simp [*]; done)), H', ⟨Nat.le_refl _⟩, ⟨by (with_reducible repeat (first | apply Kd.S_alloc | apply Kd.S_drewN | apply Kd.S_drew)); exact Kd.S_mono HO_10.out (fun _ hk => hk.1.1.2)⟩, ⟨by (with_reducible repeat (first | apply Kd.R_alloc | apply Kd.R_drewN | apply Kd.R_drew)); exact Kd.R_mono HO135.out (fun _ hk => trivial)⟩, ⟨by repeat (first | (with_reducible first | exact HB.out | apply below_alloc | apply pw_below_drewN | apply below_drew1) | exact HB.out)⟩⟩
                          case round =>
                            clear H'
                            try clear c1
                            try clear p1
                            try clear q1
                            try clear hx1
                            try clear c2
                            try clear p2
                            try clear q2
                            try clear hx2
                            try clear c3
                            try clear p3
                            try clear q3
                            try clear hx3
                            try clear c4
                            try clear p6
                            try clear c9
                            try clear c9b0
                            try clear c10
                            try clear c10b0
                            try clear c11
                            try clear p11
                            try clear q11
                            try clear hx11
                            try clear c12
                            try clear p12
                            try clear q12
                            try clear hx12
                            try clear c13
                            try clear c13b0
                            try clear c14
                            try clear c14b0
                            try clear p14
                            try clear q14
                            try clear hx14
                            try clear c15
                            try clear c15b0
                            try clear c16
                            try clear c18
                            try clear c18b0
                            try clear c18b1
                            try clear c19
                            try clear c19b0
                            try clear c19b1
                            try clear c20
                            try clear q20
                            try clear c21
                            try clear c21b0
                            try clear c22
                            try clear c22b0
                            try clear c23
                            try clear c23b0
                            try clear c25
                            try clear c25b0
                            try clear c26
                            try clear c26b0
                            try clear p27
                            try clear q27
                            try clear hx27
                            try clear hf27
                            try clear c31
                            try clear c31b0
                            try clear c32
                            try clear c32b0
                            try clear c33
                            try clear c33b0
                            try clear q34
                            try clear c35
                            try clear c36
                            try clear c36b0
                            try clear p37
                            try clear q37
                            try clear hx37
                            try clear hf37
                            try clear c40
                            try clear c43
                            try clear c43b0
                            try clear c44
                            try clear c44b0
                            try clear c45
                            try clear c45b0
                            try clear c46
                            try clear c46b0
                            try clear hx113_0
                            try clear hx114_0
                            try clear hx115_0
                            try clear hx120_0
                            try clear hx125_0
                            try clear hx140_0
                            try clear hx141_0
                            try clear hx27_0
                            try clear hx37_0
                            try clear p1
                            try clear p11
                            try clear p113
                            try clear p114
                            try clear p115
                            try clear p12
                            try clear p120
                            try clear p125
                            try clear p140
                            try clear p141
                            try clear p2
                            try clear p27
                            try clear p37
                            try clear p6
                            try clear q020
                            try clear q1
                            try clear q11
                            try clear q113
                            try clear q114
                            try clear q115
                            try clear q12
                            try clear q120
                            try clear q125
                            try clear q140
                            try clear q141
                            try clear q2
                            try clear q20
                            try clear q27
                            try clear q37
                            obtain ⟨x20_3, x90_3, rfl, rfl, HA, HK3, HO_10, HO_88, HB⟩ := hrel
                            cases gk with
                            | zero => exact absurd HA.out (by simp [assign_cheap.l2])
                            | succ k3 =>
                              have H := HA.out
                              clear HA
                              simp only [assign_cheap.l2] at H
                              by_cases c50 : x90_3 < (t130.length : Int)
                              · rw [if_pos c50] at H
                                have c50b0 : decide (x90_3 < (t130.length : Int)) = true := decide_eq_true c50
                                clear c50
                                by_cases c51 : 0 ≤ x90_3
                                · rw [if_pos c51] at H
                                  have c51b0 : decide (0 ≤ x90_3) = true := decide_eq_true c51
                                  clear c51
                                  by_cases c52 : x90_3 < (t130.length : Int)
                                  · rw [if_pos c52] at H
                                    have c52b0 : decide (x90_3 < (t130.length : Int)) = true := decide_eq_true c52
                                    clear c52
                                    by_cases c53 : x90_3 < (x10_2.length : Int)
                                    · rw [if_pos c53] at H
                                      have c53b0 : decide (x90_3 < (x10_2.length : Int)) = true := decide_eq_true c53
                                      clear c53
                                      by_cases c54 : 0 ≤ (rd t130 x90_3)
                                      · rw [if_pos c54] at H
                                        have c54b0 : decide (0 ≤ (rd t130 x90_3)) = true := decide_eq_true c54
                                        clear c54
                                        by_cases c55 : (rd t130 x90_3) < ((rd_L1 x10_2 x90_3).length : Int)
                                        · rw [if_pos c55] at H
                                          have c55b0 : decide ((rd t130 x90_3) < ((rd_L1 x10_2 x90_3).length : Int)) = true := decide_eq_true c55
                                          clear c55
                                          have H' := Aside0.mk H
                                          clear H
                                          have p142 : 0 ≤ (x90_3 : Int) := of_decide_eq_true (by first | (with_reducible assumption) | assumption)
                                          have q142 : x90_3 < (t130.length : Int) := of_decide_eq_true (by first | (with_reducible assumption) | assumption)
                                          obtain ⟨ad142, e142, hx142_0⟩ := Kd.at_int (Kd.R_reads' HO_88.out).2.2 x90_3 p142 q142
                                          cases e142
                                          replace p142 := eq_true p142
                                          replace q142 := eq_true q142
                                          have p143 : 0 ≤ (x90_3 : Int) := of_decide_eq_true (by first | (with_reducible assumption) | assumption)
                                          have q143 : x90_3 < (x10_2.length : Int) := of_decide_eq_true (by first | (with_reducible assumption) | assumption)
                                          obtain ⟨ad143, A143_0, c143_0, e143, hx143_0, hl143_0, hi143_0⟩ := at_L1 (Kd.S_reads' HO_10.out).2.2 x90_3 p143 q143
                                          cases e143
                                          obtain ⟨ce143, hce143, hMe143, hcc143⟩ := Kd.S_get HO_10.out [] x90_3 p143 (by first | exact q143 | exact of_decide_eq_true (by first | (with_reducible assumption) | assumption) | (have e_ := (Kd.S_reads' HO_10.out).1; omega))
                                          obtain ⟨ve143_0, rfl, ge143_0⟩ := hMe143
                                          have hv143_0 := hcc143 0 _ rfl
                                          rw [Nat.add_zero, show ((Kd.slice 3 (Kd.int .i64))).sz = 1 from rfl, Nat.mul_one] at hv143_0
                                          replace hv143_0 := Option.some.inj (hv143_0.symm.trans hx143_0)
                                          rw [hv143_0] at ge143_0
                                          have HL143_0 := Aside0.mk (show Kd.R (Kd.int .i64) 3 _ _ _ _ (rd_L1 x10_2 x90_3) from ge143_0)
                                          clear hv143_0 ge143_0
                                          clear hcc143 hce143
                                          have HR143_0 := Aside0.mk hi143_0
                                          have HC143_0 := Aside0.mk hl143_0
                                          clear hi143_0 hl143_0
                                          replace p143 := eq_true p143
                                          replace q143 := eq_true q143
                                          have p144 : 0 ≤ ((rd t130 x90_3) : Int) := of_decide_eq_true (by first | (with_reducible assumption) | assumption)
                                          have q144 : (rd t130 x90_3) < ((rd_L1 x10_2 x90_3).length : Int) := of_decide_eq_true (by first | (with_reducible assumption) | assumption)
                                          obtain ⟨ad144, e144, hx144_0⟩ := Kd.at_int (by repeat (first | (with_reducible exact HR143_0.out) | (with_reducible refine Kd.C_alloc ?_ _) | (with_reducible refine Kd.C_drewN ?_ _) | (with_reducible refine Kd.C_drew ?_) | exact HR143_0.out)) (rd t130 x90_3) p144 q144
                                          cases e144
                                          replace p144 := eq_true p144
                                          replace q144 := eq_true q144
                                          obtain ⟨b2_, b3_, b4_, b5_, b6_⟩ := HX.out _ HB.out
                                          go_wp2
                                          repeat (go_quiet (fail); try go_wp2)
                                          go_roundg k3
                                          case measure => have := HJ7.out; have := HK2.out; have := HK3.out; omega
                                          case rel => exact ⟨(wrap64 (x20_3 + (rd (rd_L1 x10_2 x90_3) (rd t130 x90_3)))), (wrap64 (x90_3 + 1)), (by first | rfl | (simp; done) | (simp [*]; done)), (by first | rfl | (simp; done) | (simp [*]; done)), H', ⟨by have := HJ7.out; have := HK2.out; have := HK3.out; omega⟩, ⟨by (with_reducible repeat (first | apply Kd.S_alloc | apply Kd.S_drewN | apply Kd.S_drew)); exact HO_10.out⟩, ⟨by (with_reducible repeat (first | apply Kd.R_alloc | apply Kd.R_drewN | apply Kd.R_drew)); exact HO_88.out⟩, ⟨by repeat (first | (with_reducible first | exact HB.out | apply below_alloc | apply pw_below_drewN | apply below_drew1) | exact HB.out)⟩⟩
                                        · rw [if_neg c55] at H
                                          exact absurd H (by simp)
                                      · rw [if_neg c54] at H
                                        exact absurd H (by simp)
                                    · rw [if_neg c53] at H
                                      exact absurd H (by simp)
                                  · rw [if_neg c52] at H
                                    exact absurd H (by simp)
                                · rw [if_neg c51] at H
                                  exact absurd H (by simp)
                              · rw [if_neg c50] at H
                                have c50b0 : decide (x90_3 < (t130.length : Int)) = false := decide_eq_false c50
                                clear c50
                                by_cases c56 : t133 = true
                                · subst c56
                                  have H1 : (some (x20_3 == a6)) = some r := by rw [if_pos rfl] at H; exact H
                                  clear H
                                  have H := H1
                                  clear H1
                                  obtain rfl := Option.some.inj H
                                  obtain ⟨b2_, b3_, b4_, b5_, b6_⟩ := HX.out _ HB.out
                                  go_wp2
                                  repeat (go_quiet (fail); try go_wp2)
                                  go_ret
                                  exact ⟨by first | rfl | (simp [errW_none, errW_some] <;> rfl) | (simp only [← hji17]; first | rfl | (simp [errW_none, errW_some] <;> rfl)) | (simp [*, errW_none, errW_some] <;> rfl), by repeat (first | (with_reducible first | exact HB.out | apply below_alloc | apply pw_below_drewN | apply below_drew1) | exact HB.out)⟩
                                · replace c56 := Bool.eq_false_iff.mpr c56
                                  subst c56
                                  have H1 : (some false) = some r := by rw [if_neg (show ¬ (false = true) by decide)] at H; exact H
                                  clear H
                                  have H := H1
                                  clear H1
                                  obtain rfl := Option.some.inj H
                                  obtain ⟨b2_, b3_, b4_, b5_, b6_⟩ := HX.out _ HB.out
                                  go_wp2
                                  repeat (go_quiet (fail); try go_wp2)
                                  go_ret
                                  exact ⟨by first | rfl | (simp [errW_none, errW_some] <;> rfl) | (simp only [← hji17]; first | rfl | (simp [errW_none, errW_some] <;> rfl)) | (simp [*, errW_none, errW_some] <;> rfl), by repeat (first | (with_reducible first | exact HB.out | apply below_alloc | apply pw_below_drewN | apply below_drew1) | exact HB.out)⟩
                        · rw [if_neg c46] at H
                          exact absurd H (by simp)
                      · rw [if_neg c45] at H
                        exact absurd H (by simp)
                    · rw [if_neg c44] at H
                      exact absurd H (by simp)
                  · rw [if_neg c43] at H
                    exact absurd H (by simp)
          · rw [if_neg c19] at H
            exact absurd H (by simp)
        · rw [if_neg c18] at H
          exact absurd H (by simp)

end Go.Proofs.Ytgiinjfandeddaa.Q
