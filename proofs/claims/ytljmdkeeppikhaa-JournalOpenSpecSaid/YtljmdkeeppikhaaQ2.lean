/- Functions of the translation as plain Lean functions, and proofs that the calls do what these say; written by a program of this session round the kit's print. -/
import Derived.Test.YtljmdkeeppikhaaQ0
import Derived.Test.YtljmdkeeppikhaaAidB
import Derived.Test.YtljmdkeeppikhaaAidC
import Derived.Test.YtljmdkeeppikhaaQ1
import Derived.Test.YtljmdkeeppikhaaJEn
namespace Go.Proofs.Ytljmdkeeppikhaa.Q
open Go.RowKit Go.Proofs.YtljmdkeeppikhaaW.PrintWords Go.Proofs.YtljmdkeeppikhaaW.PrintLast Go.Proofs.YtljmdkeeppikhaaW.PrintMore
attribute [local go_sem] max2_int min2_int max_two min_two max_three min_three max_four min_four   -- for this text's walks alone
set_option linter.unusedVariables false
set_option linter.unusedSimpArgs false

/-! ### journal_good: function 61 -/
def journal_good.j0 : Nat → List Int → Int → Int → Bool → Option (Bool)
  | 0, _, _, _, _ => none
  | k + 1, x0, x1, x5, x40 => if x40 = true then (some false) else (if 4 ≤ (x0.length : Int) then ((journal_get.f k (x0.take 4)).bind fun t109 => (if t109 > 0 then (if 10 < (x0.length : Int) then (if 12 ≤ (wrap64 (12 + x5)) then (if (wrap64 (12 + x5)) ≤ (x0.length : Int) then ((journal_encode.f t109 x1 (rd x0 10) ((x0.take ((wrap64 (12 + x5)) : Int).toNat).drop 12)).bind fun t112 => ((bytes_Equal.f x0 t112).bind fun t115 => (some t115))) else (none)) else (none)) else (none)) else (some false))) else (none))
def journal_good.f (k : Nat) (l0 : List Int) (a1 : Int) : Option (Bool) := if 11 < (l0.length : Int) then (if (wrap64 (rd l0 11)) > 112 then (journal_good.j0 k l0 a1 (wrap64 (rd l0 11)) true) else (if 10 < (l0.length : Int) then (if (rd l0 10) > 3 then (journal_good.j0 k l0 a1 (wrap64 (rd l0 11)) true) else (if (Go.bits .and .u8 (rd l0 10) 2) = 0 then (if (wrap64 (rd l0 11)) < 112 then (journal_good.j0 k l0 a1 (wrap64 (rd l0 11)) true) else (if (Go.bits .and .u8 (rd l0 10) 1) = 0 then (journal_good.j0 k l0 a1 (wrap64 (rd l0 11)) ((wrap64 (rd l0 11)) == 0)) else (journal_good.j0 k l0 a1 (wrap64 (rd l0 11)) false))) else (if (Go.bits .and .u8 (rd l0 10) 1) = 0 then (journal_good.j0 k l0 a1 (wrap64 (rd l0 11)) ((wrap64 (rd l0 11)) == 0)) else (journal_good.j0 k l0 a1 (wrap64 (rd l0 11)) false)))) else (none))) else (none)
set_option maxRecDepth 100000 in
theorem journal_good.mono_l : ∀ k, (∀ y0 y1 y2 y3, LeO (journal_good.j0 k y0 y1 y2 y3) (journal_good.j0 (k + 1) y0 y1 y2 y3))
  | 0 => fun _ _ _ _ r h => by simp [journal_good.j0] at h
  | k + 1 => by
    have ih0 := journal_good.mono_l k
    · intro y0 y1 y2 y3
      unfold journal_good.j0
      repeat' first
      | (with_reducible exact ih0 _ _ _ _)
      | (with_reducible exact journal_get.mono _ _)
      | (with_reducible exact LeO.refl _)
      | (with_reducible exact LeO.none _)
      | (with_reducible refine LeO.ite ?_ ?_)
      | (with_reducible refine LeO.bind ?_ (fun _ => ?_))
      | exact ih0 _ _ _ _
      | exact journal_get.mono _ _
      | exact LeO.none _
      | refine LeO.ite ?_ ?_
      | refine LeO.bind ?_ (fun _ => ?_)
theorem journal_good.mono : ∀ a0 a1 k, LeO (journal_good.f k a0 a1) (journal_good.f (k + 1) a0 a1) := by
  intro a0 a1 k
  have ih0 := journal_good.mono_l k
  unfold journal_good.f
  repeat' first
      | (with_reducible exact ih0 _ _ _ _)
      | (with_reducible exact journal_get.mono _ _)
      | (with_reducible exact LeO.refl _)
      | (with_reducible exact LeO.none _)
      | (with_reducible refine LeO.ite ?_ ?_)
      | (with_reducible refine LeO.bind ?_ (fun _ => ?_))
      | exact ih0 _ _ _ _
      | exact journal_get.mono _ _
      | exact LeO.none _
      | refine LeO.ite ?_ ?_
      | refine LeO.bind ?_ (fun _ => ?_)
def journal_good.T5 : Bool × List (List Nat × List Nat) := (true, [([], []), ([0], [0]), ([1], [1]), ([2], [2]), ([2], [2]), ([2], [2]), ([2], [2]), ([6, 2], [2, 6]), ([7, 2], [2, 7]), ([2], [2]), ([2], [2]), ([10, 2], [2, 10]), ([9, 11, 2], [2, 9, 11]), ([4, 5, 8, 12, 2, 2], [2, 4, 5, 8, 12]), ([3, 13, 13, 2], [2, 3, 13]), ([2, 14], [2, 14]), ([15, 14, 0, 1, 2, 3, 4, 5, 6, 7, 8, 9, 10, 11, 12, 13, 14, 15], [15])])
def journal_good.B5 : List Nat := [0, 1, 3, 7, 7, 7, 7, 71, 199, 7, 7, 1031, 3591, 8183, 16383, 32767, 65535]
theorem journal_good.tab5 : rtab .any (opsOf Try.f61 5) = journal_good.T5 := by kernel_rfl
theorem journal_good.bits5 : waitsOk journal_good.T5.2 journal_good.B5 = true := by kernel_rfl
set_option maxHeartbeats 8000000 in
set_option maxRecDepth 100000 in
theorem journal_good.calls (k : Nat) (A0 : Option Addr) (c0 : Nat) (l0 : List Int) (a1 : Int) (r : Bool) (w : World) (hr0 : Kd.C (Kd.int .u8) w A0 l0.length l0) (hc0 : l0.length ≤ c0) (h : journal_good.f k l0 a1 = some r) :
    Calls Try.prog 61 #[.slice A0 l0.length c0, .int .i64 a1] w fun e w' => e = .returned (.bool r) ∧ Below w.heap.size w w' := by
 have HR0 := Aside0.mk hr0; have HC0 := Aside0.mk hc0; clear hr0 hc0; have HB := Aside0.mk (Below.refl w.heap.size w); have H : (if 11 < (l0.length : Int) then (if (wrap64 (rd l0 11)) > 112 then (journal_good.j0 k l0 a1 (wrap64 (rd l0 11)) true) else (if 10 < (l0.length : Int) then (if (rd l0 10) > 3 then (journal_good.j0 k l0 a1 (wrap64 (rd l0 11)) true) else (if (Go.bits .and .u8 (rd l0 10) 2) = 0 then (if (wrap64 (rd l0 11)) < 112 then (journal_good.j0 k l0 a1 (wrap64 (rd l0 11)) true) else (if (Go.bits .and .u8 (rd l0 10) 1) = 0 then (journal_good.j0 k l0 a1 (wrap64 (rd l0 11)) ((wrap64 (rd l0 11)) == 0)) else (journal_good.j0 k l0 a1 (wrap64 (rd l0 11)) false))) else (if (Go.bits .and .u8 (rd l0 10) 1) = 0 then (journal_good.j0 k l0 a1 (wrap64 (rd l0 11)) ((wrap64 (rd l0 11)) == 0)) else (journal_good.j0 k l0 a1 (wrap64 (rd l0 11)) false)))) else (none))) else (none)) = some r := h; clear h
 by_cases c3 : 11 < (l0.length : Int)
 rotate_left
 ·rw [if_neg c3] at H
  exact absurd H (by simp)
 rw [if_pos c3] at H; have c3b0 : decide (11 < (l0.length : Int)) = true := decide_eq_true c3; have c3b1 : decide (11 < l0.length) = true := decide_eq_true (by omega); clear c3; have HC4 := Aside0.mk H; clear H; have p103 : 0 ≤ (11 : Int) := (by omega); have q103 : 11 < (l0.length : Int) := of_decide_eq_true (by first | (with_reducible assumption) | assumption); obtain ⟨ad103, e103, hx103_0⟩ := Kd.at_int HR0.out 11 p103 q103; cases e103
 (try simp only [show (11 : Int).toNat = 11 from rfl, Nat.reduceMul, Nat.reduceEqDiff, Go.Addr.add, ↓reduceIte] at hx103_0)
 have qi103 : (11 < l0.length) = True := eq_true (by omega)
 (try rw [show ((11 : Int)).toNat = 11 from rfl] at hx103_0)
 replace p103 := eq_true p103; replace q103 := eq_true q103
 go_enter Try.func61, Try.ntmps61
 go_upto_region 2 with (fail)
 go_cut [40] (fun v40 wc => ∃ (kq : Nat) (x40_3 : Bool), v40 = .bool x40_3 ∧ Aside0 (journal_good.j0 kq l0 a1 (wrap64 (rd l0 11)) x40_3 = some r) ∧ Aside0 (kq ≤ k) ∧ Aside0 (Below w.heap.size w wc))
 case first =>
  have H := HC4.out; clear HC4
  by_cases c5 : (wrap64 (rd l0 11)) > 112
  ·rw [if_pos c5] at H
   have c5b0 : decide (112 < (wrap64 (rd l0 11))) = true := decide_eq_true c5; clear c5
   (first | rw [c5b0] | (simp only [i64_w, i32_w]; rw [c5b0]) | skip)
   have H' := Aside0.mk H; clear H
   go_wp2
   go_meet
   case rel => exact ⟨_, (true), (by first | rfl | (simp; done) | (simp [*]; done)), H', ⟨by first | omega | exact Nat.le_refl _⟩, ⟨blw HB.out⟩⟩
  rw [if_neg c5] at H; have c5b0 : decide (112 < (wrap64 (rd l0 11))) = false := decide_eq_false c5; clear c5
  (first | rw [c5b0] | (simp only [i64_w, i32_w]; rw [c5b0]) | skip)
  by_cases c6 : 10 < (l0.length : Int)
  rotate_left
  ·rw [if_neg c6] at H
   exact absurd H (by simp)
  rw [if_pos c6] at H; have c6b0 : decide (10 < (l0.length : Int)) = true := decide_eq_true c6; have c6b1 : decide (10 < l0.length) = true := decide_eq_true (by omega); clear c6
  by_cases c7 : (rd l0 10) > 3
  ·rw [if_pos c7] at H
   have c7b0 : decide (3 < (rd l0 10)) = true := decide_eq_true c7; clear c7; have H' := Aside0.mk H; clear H; have p104 : 0 ≤ (10 : Int) := (by omega); have q104 : 10 < (l0.length : Int) := of_decide_eq_true (by first | (with_reducible assumption) | assumption); obtain ⟨ad104, e104, hx104_0⟩ := Kd.at_int HR0.out 10 p104 q104; obtain rfl : ad103 = ad104 := (by injection e104)
   (try simp only [show (10 : Int).toNat = 10 from rfl, Nat.reduceMul, Nat.reduceEqDiff, Go.Addr.add, ↓reduceIte] at hx104_0)
   have qi104 : (10 < l0.length) = True := eq_true (by omega)
   (try rw [show ((10 : Int)).toNat = 10 from rfl] at hx104_0)
   replace hx104_0 := (HB.out.cell (World.block_lt_of_cell? w _ hx104_0)).trans hx104_0; replace p104 := eq_true p104; replace q104 := eq_true q104
   go_wp2
   go_meet
   case rel => exact ⟨_, (true), (by first | rfl | (simp; done) | (simp [*]; done)), H', ⟨by first | omega | exact Nat.le_refl _⟩, ⟨blw HB.out⟩⟩
  rw [if_neg c7] at H; have c7b0 : decide (3 < (rd l0 10)) = false := decide_eq_false c7; clear c7
  by_cases c8 : (Go.bits .and .u8 (rd l0 10) 2) = 0
  rotate_left
  ·rw [if_neg c8] at H
   have c8b0 : ((Go.bits .and .u8 (rd l0 10) 2) == 0) = false := beq_eq_false_iff_ne.mpr c8; have c8b1 : ((Go.bits .and .u8 (rd l0 10) 2) != 0) = true := bne_iff_ne.mpr c8
   by_cases c11 : (Go.bits .and .u8 (rd l0 10) 1) = 0
   rotate_left
   ·rw [if_neg c11] at H
    have c11b0 : ((Go.bits .and .u8 (rd l0 10) 1) == 0) = false := beq_eq_false_iff_ne.mpr c11; have c11b1 : ((Go.bits .and .u8 (rd l0 10) 1) != 0) = true := bne_iff_ne.mpr c11; have H' := Aside0.mk H; clear H; have p104 : 0 ≤ (10 : Int) := (by omega); have q104 : 10 < (l0.length : Int) := of_decide_eq_true (by first | (with_reducible assumption) | assumption); obtain ⟨ad104, e104, hx104_0⟩ := Kd.at_int HR0.out 10 p104 q104; obtain rfl : ad103 = ad104 := (by injection e104)
    (try simp only [show (10 : Int).toNat = 10 from rfl, Nat.reduceMul, Nat.reduceEqDiff, Go.Addr.add, ↓reduceIte] at hx104_0)
    have qi104 : (10 < l0.length) = True := eq_true (by omega)
    (try rw [show ((10 : Int)).toNat = 10 from rfl] at hx104_0)
    replace hx104_0 := (HB.out.cell (World.block_lt_of_cell? w _ hx104_0)).trans hx104_0; replace p104 := eq_true p104; replace q104 := eq_true q104; have p105 : 0 ≤ (10 : Int) := (by omega); have q105 : 10 < (l0.length : Int) := of_decide_eq_true (by first | (with_reducible assumption) | assumption); obtain ⟨ad105, e105, hx105_0⟩ := Kd.at_int HR0.out 10 p105 q105; obtain rfl : ad103 = ad105 := (by injection e105)
    (try simp only [show (10 : Int).toNat = 10 from rfl, Nat.reduceMul, Nat.reduceEqDiff, Go.Addr.add, ↓reduceIte] at hx105_0)
    have qi105 : (10 < l0.length) = True := eq_true (by omega)
    (try rw [show ((10 : Int)).toNat = 10 from rfl] at hx105_0)
    replace hx105_0 := (HB.out.cell (World.block_lt_of_cell? w _ hx105_0)).trans hx105_0; replace p105 := eq_true p105; replace q105 := eq_true q105; have p107 : 0 ≤ (10 : Int) := (by omega); have q107 : 10 < (l0.length : Int) := of_decide_eq_true (by first | (with_reducible assumption) | assumption); obtain ⟨ad107, e107, hx107_0⟩ := Kd.at_int HR0.out 10 p107 q107; obtain rfl : ad103 = ad107 := (by injection e107)
    (try simp only [show (10 : Int).toNat = 10 from rfl, Nat.reduceMul, Nat.reduceEqDiff, Go.Addr.add, ↓reduceIte] at hx107_0)
    have qi107 : (10 < l0.length) = True := eq_true (by omega)
    (try rw [show ((10 : Int)).toNat = 10 from rfl] at hx107_0)
    replace hx107_0 := (HB.out.cell (World.block_lt_of_cell? w _ hx107_0)).trans hx107_0; replace p107 := eq_true p107; replace q107 := eq_true q107
    go_wp2
    go_meet
    case rel => exact ⟨_, (false), (by first | rfl | (simp; done) | (simp [*]; done)), H', ⟨by first | omega | exact Nat.le_refl _⟩, ⟨blw HB.out⟩⟩
   rw [if_pos c11] at H; have c11b0 : ((Go.bits .and .u8 (rd l0 10) 1) == 0) = true := beq_iff_eq.mpr c11; have c11b1 : ((Go.bits .and .u8 (rd l0 10) 1) != 0) = false := bne_eq_false_iff_eq.mpr c11; clear c11; have H' := Aside0.mk H; clear H; have p104 : 0 ≤ (10 : Int) := (by omega); have q104 : 10 < (l0.length : Int) := of_decide_eq_true (by first | (with_reducible assumption) | assumption); obtain ⟨ad104, e104, hx104_0⟩ := Kd.at_int HR0.out 10 p104 q104; obtain rfl : ad103 = ad104 := (by injection e104)
   (try simp only [show (10 : Int).toNat = 10 from rfl, Nat.reduceMul, Nat.reduceEqDiff, Go.Addr.add, ↓reduceIte] at hx104_0)
   have qi104 : (10 < l0.length) = True := eq_true (by omega)
   (try rw [show ((10 : Int)).toNat = 10 from rfl] at hx104_0)
   replace hx104_0 := (HB.out.cell (World.block_lt_of_cell? w _ hx104_0)).trans hx104_0; replace p104 := eq_true p104; replace q104 := eq_true q104; have p105 : 0 ≤ (10 : Int) := (by omega); have q105 : 10 < (l0.length : Int) := of_decide_eq_true (by first | (with_reducible assumption) | assumption); obtain ⟨ad105, e105, hx105_0⟩ := Kd.at_int HR0.out 10 p105 q105; obtain rfl : ad103 = ad105 := (by injection e105)
   (try simp only [show (10 : Int).toNat = 10 from rfl, Nat.reduceMul, Nat.reduceEqDiff, Go.Addr.add, ↓reduceIte] at hx105_0)
   have qi105 : (10 < l0.length) = True := eq_true (by omega)
   (try rw [show ((10 : Int)).toNat = 10 from rfl] at hx105_0)
   replace hx105_0 := (HB.out.cell (World.block_lt_of_cell? w _ hx105_0)).trans hx105_0; replace p105 := eq_true p105; replace q105 := eq_true q105; have p107 : 0 ≤ (10 : Int) := (by omega); have q107 : 10 < (l0.length : Int) := of_decide_eq_true (by first | (with_reducible assumption) | assumption); obtain ⟨ad107, e107, hx107_0⟩ := Kd.at_int HR0.out 10 p107 q107; obtain rfl : ad103 = ad107 := (by injection e107)
   (try simp only [show (10 : Int).toNat = 10 from rfl, Nat.reduceMul, Nat.reduceEqDiff, Go.Addr.add, ↓reduceIte] at hx107_0)
   have qi107 : (10 < l0.length) = True := eq_true (by omega)
   (try rw [show ((10 : Int)).toNat = 10 from rfl] at hx107_0)
   replace hx107_0 := (HB.out.cell (World.block_lt_of_cell? w _ hx107_0)).trans hx107_0; replace p107 := eq_true p107; replace q107 := eq_true q107
   go_wp2
   go_meet
   case rel => exact ⟨_, (((wrap64 (rd l0 11)) == 0)), (by first | rfl | (simp; done) | (simp [*]; done)), H', ⟨by first | omega | exact Nat.le_refl _⟩, ⟨blw HB.out⟩⟩
  rw [if_pos c8] at H; have c8b0 : ((Go.bits .and .u8 (rd l0 10) 2) == 0) = true := beq_iff_eq.mpr c8; have c8b1 : ((Go.bits .and .u8 (rd l0 10) 2) != 0) = false := bne_eq_false_iff_eq.mpr c8; clear c8
  by_cases c9 : (wrap64 (rd l0 11)) < 112
  ·rw [if_pos c9] at H
   have c9b0 : decide ((wrap64 (rd l0 11)) < 112) = true := decide_eq_true c9; clear c9; have H' := Aside0.mk H; clear H; have p104 : 0 ≤ (10 : Int) := (by omega); have q104 : 10 < (l0.length : Int) := of_decide_eq_true (by first | (with_reducible assumption) | assumption); obtain ⟨ad104, e104, hx104_0⟩ := Kd.at_int HR0.out 10 p104 q104; obtain rfl : ad103 = ad104 := (by injection e104)
   (try simp only [show (10 : Int).toNat = 10 from rfl, Nat.reduceMul, Nat.reduceEqDiff, Go.Addr.add, ↓reduceIte] at hx104_0)
   have qi104 : (10 < l0.length) = True := eq_true (by omega)
   (try rw [show ((10 : Int)).toNat = 10 from rfl] at hx104_0)
   replace hx104_0 := (HB.out.cell (World.block_lt_of_cell? w _ hx104_0)).trans hx104_0; replace p104 := eq_true p104; replace q104 := eq_true q104; have p105 : 0 ≤ (10 : Int) := (by omega); have q105 : 10 < (l0.length : Int) := of_decide_eq_true (by first | (with_reducible assumption) | assumption); obtain ⟨ad105, e105, hx105_0⟩ := Kd.at_int HR0.out 10 p105 q105; obtain rfl : ad103 = ad105 := (by injection e105)
   (try simp only [show (10 : Int).toNat = 10 from rfl, Nat.reduceMul, Nat.reduceEqDiff, Go.Addr.add, ↓reduceIte] at hx105_0)
   have qi105 : (10 < l0.length) = True := eq_true (by omega)
   (try rw [show ((10 : Int)).toNat = 10 from rfl] at hx105_0)
   replace hx105_0 := (HB.out.cell (World.block_lt_of_cell? w _ hx105_0)).trans hx105_0; replace p105 := eq_true p105; replace q105 := eq_true q105
   go_wp2
   go_meet
   case rel => exact ⟨_, (true), (by first | rfl | (simp; done) | (simp [*]; done)), H', ⟨by first | omega | exact Nat.le_refl _⟩, ⟨blw HB.out⟩⟩
  rw [if_neg c9] at H; have c9b0 : decide ((wrap64 (rd l0 11)) < 112) = false := decide_eq_false c9; clear c9
  by_cases c10 : (Go.bits .and .u8 (rd l0 10) 1) = 0
  rotate_left
  ·rw [if_neg c10] at H
   have c10b0 : ((Go.bits .and .u8 (rd l0 10) 1) == 0) = false := beq_eq_false_iff_ne.mpr c10; have c10b1 : ((Go.bits .and .u8 (rd l0 10) 1) != 0) = true := bne_iff_ne.mpr c10; have H' := Aside0.mk H; clear H; have p104 : 0 ≤ (10 : Int) := (by omega); have q104 : 10 < (l0.length : Int) := of_decide_eq_true (by first | (with_reducible assumption) | assumption); obtain ⟨ad104, e104, hx104_0⟩ := Kd.at_int HR0.out 10 p104 q104; obtain rfl : ad103 = ad104 := (by injection e104)
   (try simp only [show (10 : Int).toNat = 10 from rfl, Nat.reduceMul, Nat.reduceEqDiff, Go.Addr.add, ↓reduceIte] at hx104_0)
   have qi104 : (10 < l0.length) = True := eq_true (by omega)
   (try rw [show ((10 : Int)).toNat = 10 from rfl] at hx104_0)
   replace hx104_0 := (HB.out.cell (World.block_lt_of_cell? w _ hx104_0)).trans hx104_0; replace p104 := eq_true p104; replace q104 := eq_true q104; have p105 : 0 ≤ (10 : Int) := (by omega); have q105 : 10 < (l0.length : Int) := of_decide_eq_true (by first | (with_reducible assumption) | assumption); obtain ⟨ad105, e105, hx105_0⟩ := Kd.at_int HR0.out 10 p105 q105; obtain rfl : ad103 = ad105 := (by injection e105)
   (try simp only [show (10 : Int).toNat = 10 from rfl, Nat.reduceMul, Nat.reduceEqDiff, Go.Addr.add, ↓reduceIte] at hx105_0)
   have qi105 : (10 < l0.length) = True := eq_true (by omega)
   (try rw [show ((10 : Int)).toNat = 10 from rfl] at hx105_0)
   replace hx105_0 := (HB.out.cell (World.block_lt_of_cell? w _ hx105_0)).trans hx105_0; replace p105 := eq_true p105; replace q105 := eq_true q105; have p106 : 0 ≤ (10 : Int) := (by omega); have q106 : 10 < (l0.length : Int) := of_decide_eq_true (by first | (with_reducible assumption) | assumption); obtain ⟨ad106, e106, hx106_0⟩ := Kd.at_int HR0.out 10 p106 q106; obtain rfl : ad103 = ad106 := (by injection e106)
   (try simp only [show (10 : Int).toNat = 10 from rfl, Nat.reduceMul, Nat.reduceEqDiff, Go.Addr.add, ↓reduceIte] at hx106_0)
   have qi106 : (10 < l0.length) = True := eq_true (by omega)
   (try rw [show ((10 : Int)).toNat = 10 from rfl] at hx106_0)
   replace hx106_0 := (HB.out.cell (World.block_lt_of_cell? w _ hx106_0)).trans hx106_0; replace p106 := eq_true p106; replace q106 := eq_true q106
   go_wp2
   go_meet
   case rel => exact ⟨_, (false), (by first | rfl | (simp; done) | (simp [*]; done)), H', ⟨by first | omega | exact Nat.le_refl _⟩, ⟨blw HB.out⟩⟩
  rw [if_pos c10] at H; have c10b0 : ((Go.bits .and .u8 (rd l0 10) 1) == 0) = true := beq_iff_eq.mpr c10; have c10b1 : ((Go.bits .and .u8 (rd l0 10) 1) != 0) = false := bne_eq_false_iff_eq.mpr c10; clear c10; have H' := Aside0.mk H; clear H; have p104 : 0 ≤ (10 : Int) := (by omega); have q104 : 10 < (l0.length : Int) := of_decide_eq_true (by first | (with_reducible assumption) | assumption); obtain ⟨ad104, e104, hx104_0⟩ := Kd.at_int HR0.out 10 p104 q104; obtain rfl : ad103 = ad104 := (by injection e104)
  (try simp only [show (10 : Int).toNat = 10 from rfl, Nat.reduceMul, Nat.reduceEqDiff, Go.Addr.add, ↓reduceIte] at hx104_0)
  have qi104 : (10 < l0.length) = True := eq_true (by omega)
  (try rw [show ((10 : Int)).toNat = 10 from rfl] at hx104_0)
  replace hx104_0 := (HB.out.cell (World.block_lt_of_cell? w _ hx104_0)).trans hx104_0; replace p104 := eq_true p104; replace q104 := eq_true q104; have p105 : 0 ≤ (10 : Int) := (by omega); have q105 : 10 < (l0.length : Int) := of_decide_eq_true (by first | (with_reducible assumption) | assumption); obtain ⟨ad105, e105, hx105_0⟩ := Kd.at_int HR0.out 10 p105 q105; obtain rfl : ad103 = ad105 := (by injection e105)
  (try simp only [show (10 : Int).toNat = 10 from rfl, Nat.reduceMul, Nat.reduceEqDiff, Go.Addr.add, ↓reduceIte] at hx105_0)
  have qi105 : (10 < l0.length) = True := eq_true (by omega)
  (try rw [show ((10 : Int)).toNat = 10 from rfl] at hx105_0)
  replace hx105_0 := (HB.out.cell (World.block_lt_of_cell? w _ hx105_0)).trans hx105_0; replace p105 := eq_true p105; replace q105 := eq_true q105; have p106 : 0 ≤ (10 : Int) := (by omega); have q106 : 10 < (l0.length : Int) := of_decide_eq_true (by first | (with_reducible assumption) | assumption); obtain ⟨ad106, e106, hx106_0⟩ := Kd.at_int HR0.out 10 p106 q106; obtain rfl : ad103 = ad106 := (by injection e106)
  (try simp only [show (10 : Int).toNat = 10 from rfl, Nat.reduceMul, Nat.reduceEqDiff, Go.Addr.add, ↓reduceIte] at hx106_0)
  have qi106 : (10 < l0.length) = True := eq_true (by omega)
  (try rw [show ((10 : Int)).toNat = 10 from rfl] at hx106_0)
  replace hx106_0 := (HB.out.cell (World.block_lt_of_cell? w _ hx106_0)).trans hx106_0; replace p106 := eq_true p106; replace q106 := eq_true q106
  go_wp2
  go_meet
  case rel => exact ⟨_, (((wrap64 (rd l0 11)) == 0)), (by first | rfl | (simp; done) | (simp [*]; done)), H', ⟨by first | omega | exact Nat.le_refl _⟩, ⟨blw HB.out⟩⟩
 clear HC4; (try clear c1); (try clear p1); (try clear q1); (try clear hx1); (try clear qi1); (try clear p2); (try clear c3); (try clear c3b0); (try clear c3b1); (try clear c5); (try clear c5b0); (try clear c6); (try clear c6b0); (try clear c6b1); (try clear p6); (try clear c7); (try clear c7b0); (try clear c8); (try clear c8b0); (try clear c8b1); (try clear c9); (try clear c9b0); (try clear c10); (try clear c10b0); (try clear c10b1); (try clear p10); (try clear q10); (try clear hx10); (try clear qi10); (try clear c11); (try clear c11b0); (try clear c11b1); (try clear hx103_0); (try clear hx104_0); (try clear hx105_0); (try clear hx106_0); (try clear hx107_0); (try clear p103); (try clear p104); (try clear p105); (try clear p106); (try clear p107); (try clear q103); (try clear q104); (try clear q105); (try clear q106); (try clear q107); obtain ⟨kq, x40_3, rfl, HA, HJ3, HB⟩ := hcut
 cases kq with
 | zero => exact absurd HA.out (by simp [journal_good.j0])
 | succ kj3 =>
   have H := HA.out; clear HA
   simp only [journal_good.j0] at H
   by_cases c12 : x40_3 = true
   · subst c12
     have H1 : (some false) = some r := by rw [if_pos rfl] at H; exact H
     clear H; have H := H1; clear H1; obtain rfl := Option.some.inj H
     go_wp2
     go_ret
     exact ⟨by first | rfl | (simp [errW_none, errW_some] <;> rfl) | (simp [*, errW_none, errW_some] <;> rfl), blw HB.out⟩
   · replace c12 := Bool.eq_false_iff.mpr c12
     subst c12
     have H1 : (if 4 ≤ (l0.length : Int) then ((journal_get.f kj3 (l0.take 4)).bind fun t109 => (if t109 > 0 then (if 10 < (l0.length : Int) then (if 12 ≤ (wrap64 (12 + (wrap64 (rd l0 11)))) then (if (wrap64 (12 + (wrap64 (rd l0 11)))) ≤ (l0.length : Int) then ((journal_encode.f t109 a1 (rd l0 10) ((l0.take ((wrap64 (12 + (wrap64 (rd l0 11)))) : Int).toNat).drop 12)).bind fun t112 => ((bytes_Equal.f l0 t112).bind fun t115 => (some t115))) else (none)) else (none)) else (none)) else (some false))) else (none)) = some r := by rw [if_neg (show ¬ (false = true) by decide)] at H; exact H
     clear H; have H := H1; clear H1
     by_cases c13 : 4 ≤ (l0.length : Int)
     · rw [if_pos c13] at H
       have c13b0 := eq_true c13; have c13b1 : decide (4 ≤ (l0.length : Int)) = true := decide_eq_true c13; clear c13; replace H := Option.bind_eq_some_iff.mp H; obtain ⟨t109, A140, H⟩ := H; replace H : (if t109 > 0 then (if 10 < (l0.length : Int) then (if 12 ≤ (wrap64 (12 + (wrap64 (rd l0 11)))) then (if (wrap64 (12 + (wrap64 (rd l0 11)))) ≤ (l0.length : Int) then ((journal_encode.f t109 a1 (rd l0 10) ((l0.take ((wrap64 (12 + (wrap64 (rd l0 11)))) : Int).toNat).drop 12)).bind fun t112 => ((bytes_Equal.f l0 t112).bind fun t115 => (some t115))) else (none)) else (none)) else (none)) else (some false)) = some r := H; have A14 := Aside0.mk A140; clear A140
       by_cases c15 : t109 > 0
       · rw [if_pos c15] at H
         have c15b0 : decide (0 < t109) = true := decide_eq_true c15; clear c15
         by_cases c16 : 10 < (l0.length : Int)
         · rw [if_pos c16] at H
           have c16b0 : decide (10 < (l0.length : Int)) = true := decide_eq_true c16; have c16b1 : decide (10 < l0.length) = true := decide_eq_true (by omega); clear c16
           by_cases c17 : 12 ≤ (wrap64 (12 + (wrap64 (rd l0 11))))
           · rw [if_pos c17] at H
             have c17b0 := eq_true c17; have c17b1 : decide (12 ≤ (wrap64 (12 + (wrap64 (rd l0 11))))) = true := decide_eq_true c17
             by_cases c18 : (wrap64 (12 + (wrap64 (rd l0 11)))) ≤ (l0.length : Int)
             · rw [if_pos c18] at H
               have c18b0 := eq_true c18; have c18b1 : decide ((wrap64 (12 + (wrap64 (rd l0 11)))) ≤ (l0.length : Int)) = true := decide_eq_true c18; replace H := Option.bind_eq_some_iff.mp H; obtain ⟨t112, A190, H⟩ := H; replace H : ((bytes_Equal.f l0 t112).bind fun t115 => (some t115)) = some r := H; have A19 := Aside0.mk A190; clear A190; replace H := Option.bind_eq_some_iff.mp H; obtain ⟨t115, A200, H⟩ := H; replace H : (some t115) = some r := H; have A20 := Aside0.mk A200; clear A200; obtain rfl := Option.some.inj H; obtain ⟨i021, hi021, _, hsz21, _⟩ := info_parts info5; obtain ⟨hcut21, hA21, hC21⟩ := print_take_of (P := Try.prog) (Value.int .u8) 0 35 5 .i64 Try.underlying35 hi021 hsz21 (some ad103) c0 l0 4 (by omega) (of_decide_eq_true (by first | (with_reducible assumption) | assumption)) HC0.out; have HR108 := Aside0.mk (Kd.C_of_reads (h1 := fun _ => rfl) (hA21 _ (Kd.reads_of_C HR0.out))); have HC108 := Aside0.mk hC21; clear hA21 hC21 hi021 hsz21
               try go_wp2_with (first | ((with_reducible refine gate_callee (f := 41) rfl ?_); refine goesL_ (some 43) rfl rfl Try.func41 (by kernel_rfl) rfl #[.slice (some ad103) (l0.take 4).length c0] rfl (by (try simp only [List.map_toArray, List.map_cons, List.map_nil]); first | done | (rw [show (l0.take 4).length = 4 from (by rw [List.length_take]; have h_ : (4 : Int) ≤ (l0.length : Int) := of_decide_eq_true (by first | (with_reducible assumption) | assumption); omega)] <;> rfl) | rfl | (simp only [List.length_drop, List.length_take]; rfl)) ?_; (with_reducible refine (journal_get.calls kj3 _ _ (l0.take 4) t109 _ ?side1 ?side2 A14.out).mono ?_); (case side1 => exact cB HR108 HB); (case side2 => exact HC108.out); rintro e w' ⟨rfl, ⟨nd, rfl⟩⟩; refine ⟨_, rfl, ?_⟩))
               (try (rw [drewN_self wc]; generalize hq_ : World.drewN wc _ = wc; have n0_ : Aside0 (Below w.heap.size w wc) := ⟨by rw [← hq_]; exact (blw HB.out)⟩; clear HB hq_; have HB := n0_; clear n0_))
               replace HB := hD HB; have p110 : 0 ≤ (10 : Int) := (by omega); have q110 : 10 < (l0.length : Int) := of_decide_eq_true (by first | (with_reducible assumption) | assumption); obtain ⟨ad110, e110, hx110_0⟩ := Kd.at_int HR0.out 10 p110 q110; have hw110_0 := hx110_0
               (try rw [show ((10 : Int)).toNat = 10 from rfl] at hw110_0)
               (try rw [show 10 * 1 = 10 from rfl] at hw110_0)
               (try simp only [Nat.reduceMul, Nat.reduceEqDiff, Go.Addr.add, ↓reduceIte] at hw110_0)
               obtain rfl : ad103 = ad110 := (by injection e110)
               (try simp only [show (10 : Int).toNat = 10 from rfl, Nat.reduceMul, Nat.reduceEqDiff, Go.Addr.add, ↓reduceIte] at hx110_0)
               have qi110 : (10 < l0.length) = True := eq_true (by omega)
               (try rw [show ((10 : Int)).toNat = 10 from rfl] at hx110_0)
               replace hx110_0 := (HB.out.cell (World.block_lt_of_cell? w _ hx110_0)).trans hx110_0; replace p110 := eq_true p110; replace q110 := eq_true q110; obtain ⟨i023, hi023, _, hsz23, _⟩ := info_parts info5; obtain ⟨A23, hcut23, hA23, hC23⟩ := print_mid_of (P := Try.prog) (Value.int .u8) 0 35 5 .i64 .i64 Try.underlying35 hi023 hsz23 (some ad103) c0 l0 12 (wrap64 (12 + (wrap64 (rd l0 11)))) (by omega) (by first | omega | exact of_decide_eq_true (by first | (with_reducible assumption) | assumption)) (of_decide_eq_true (by first | (with_reducible assumption) | assumption)) HC0.out; have HR111 := Aside0.mk (Kd.C_of_reads (h1 := fun _ => rfl) (hA23 _ (Kd.reads_of_C HR0.out))); have HC111 := Aside0.mk hC23; clear hA23 hC23 hi023 hsz23
               refine start_ (n := 17) (S := fun w' => w'.cell? ⟨ad103.block, ad103.off + 10, none⟩ = some (.int .u8 (rd l0 10))) (ds := []) (ar 17 0) (by kernel_rfl) rfl rfl (((HB.out.cell (World.block_lt_of_cell? w _ hw110_0)).trans hw110_0)) (fun hHeld => ?_); refine with_tabW journal_good.tab5 journal_good.bits5 (fun HT_ HW_ => ?_)
               generalize wc.drew = w22 at HB HR111 hx110_0 hHeld ⊢
               refine pureA (i := 0) (N := some 44) (ar 17 1) (any_of HT_.out (by kernel_rfl)) ?_; refine pureA (i := 1) (N := some 45) (ar 17 3) (any_of HT_.out (by kernel_rfl)) ?_; refine pureA (i := 2) (N := some 46) (ar 17 7) (any_of HT_.out (by kernel_rfl)) ?_; refine pureA (i := 3) (N := some 47) (ar 17 15) (any_of HT_.out (by kernel_rfl)) ?_; refine pureA (i := 4) (N := some 48) (ar 17 31) (any_of HT_.out (by kernel_rfl)) ?_; refine pureA (i := 5) (N := some 49) (ar 17 63) (any_of HT_.out (by kernel_rfl)) ?_; refine pureA (i := 6) (N := some 50) (ar 17 127) (any_of HT_.out (by kernel_rfl)) ?_; refine pureA (i := 7) (N := some 51) (ar 17 255) (any_of HT_.out (by kernel_rfl)) ?_; refine pureA (i := 9) (N := some 53) (ar 17 767) (any_of HT_.out (by kernel_rfl)) ?_; refine pureA (i := 10) (N := some 54) (ar 17 1791) (any_of HT_.out (by kernel_rfl)) ?_; refine pureA (i := 11) (N := some 55) (ar 17 3839) (any_of HT_.out (by kernel_rfl)) ?_; refine pureA (i := 12) (N := some 56) (ar 17 7935) (any_of HT_.out (by kernel_rfl)) ?_
               refine take_ (i := 8) (N := some 52) (v := ?_) (a' := ?_) (ar 17 8191) rfl rfl (take_ofW HT_.out HW_.out (by kernel_rfl)) (fun _ _ _ h => h) (Or.inl ⟨by rfl, ?_⟩) hHeld ?_ ?_
               rotate_left
               · intro w' s0
                 go_simp
                 with_reducible rfl
               rotate_left
               · simp only [Act.put, List.setIfInBounds_toArray, List.set_cons_zero, List.set_cons_succ, i64_w, i32_w]
                 rfl
               refine oA HT_ 13 57 16383 fun K hK => ?_
               refine goes_ Try.func44 (by kernel_rfl) rfl #[.int .u64 t109, .int .i64 a1, .int .u8 (rd l0 10), .slice A23 ((l0.take ((wrap64 (12 + (wrap64 (rd l0 11)))) : Int).toNat).drop 12).length (c0 - 12)] (by rfl) rfl rfl (by (try simp only [List.map_toArray, List.map_cons, List.map_nil]); first | done | (rw [show ((l0.take ((wrap64 (12 + (wrap64 (rd l0 11)))) : Int).toNat).drop 12).length = ((wrap64 (12 + (wrap64 (rd l0 11)))).toNat - 12) from (by rw [List.length_drop, List.length_take]; have h_ : ((wrap64 (12 + (wrap64 (rd l0 11)))) : Int) ≤ (l0.length : Int) := of_decide_eq_true (by first | (with_reducible assumption) | assumption); omega)] <;> rfl) | rfl | (simp only [List.length_drop, List.length_take]; rfl)) ?_
               with_reducible refine (journal_encode.calls t109 a1 (rd l0 10) _ _ ((l0.take ((wrap64 (12 + (wrap64 (rd l0 11)))) : Int).toNat).drop 12) t112 _ ?side1 ?side2 A19.out).mono ?_
               (case side1 => exact cB HR111 HB)
               (case side2 => exact HC111.out)
               rintro e w24 ⟨v113, rfl, ho0, hb⟩
               refine ⟨_, rfl, ?_⟩
               have HO114 := Aside0.mk (Kd.V_lower (Kd.V_mono (ok' := fun k_ => True) ho0 (fun k_ hk_ => trivial)) (below_size (blw HB.out))); replace HB := sB HB hb; (try clear hb); (try clear hb2); (try clear hk); (try clear hi); (try clear ho0); obtain ⟨Ao25, co25, eo25⟩ := Kd.V_slice HO114.out
               (first | subst eo25 | (injection eo25 with f1_ f2_ f3_; have f4_ := f1_.symm; have f5_ := f3_.symm; clear f1_ f2_ f3_; subst f4_; subst f5_))
               refine hK.out _ _ (((HB.out.cell (World.block_lt_of_cell? w _ hw110_0)).trans hw110_0)) (fun hHeld => normA ?_); clear hK K
               refine oA HT_ 14 58 32767 fun K hK => ?_
               refine goesA Try.func43 #[.slice (some ad103) l0.length c0, .slice Ao25 t112.length co25] ?_
               with_reducible refine (bytes_Equal.calls _ _ l0 _ _ t112 t115 _ ?side1 ?side2 ?side3 ?side4 A20.out).mono ?_
               (case side1 => exact cB HR0 HB)
               (case side2 => exact HC0.out)
               (case side3 => exact cV HO114)
               (case side4 => exact lV HO114)
               rintro e w' ⟨rfl, ⟨nd, rfl⟩⟩
               refine ⟨_, rfl, ?_⟩
               refine hK.out _ _ (((HB.out.cell (World.block_lt_of_cell? w _ hw110_0)).trans hw110_0)) (fun hHeld => normA ?_); clear hK K
               refine pureA (i := 15) (N := some 59) (ar 17 65535) (any_of HT_.out (by kernel_rfl)) ?_; refine pureA (i := 16) (N := some 4) (ar 17 131071) (any_of HT_.out (by kernel_rfl)) ?_
               refine done_ (done_of HT_.out (by kernel_rfl)) ?_
               try go_wp2
               go_ret
               exact ⟨by first | rfl | (simp [errW_none, errW_some] <;> rfl) | (simp [*, errW_none, errW_some] <;> rfl), blw HB.out⟩
             · rw [if_neg c18] at H
               exact absurd H (by simp)
           · rw [if_neg c17] at H
             exact absurd H (by simp)
         · rw [if_neg c16] at H
           exact absurd H (by simp)
       · rw [if_neg c15] at H
         have c15b0 : decide (0 < t109) = false := decide_eq_false c15; clear c15; obtain rfl := Option.some.inj H; obtain ⟨i026, hi026, _, hsz26, _⟩ := info_parts info5; obtain ⟨hcut26, hA26, hC26⟩ := print_take_of (P := Try.prog) (Value.int .u8) 0 35 5 .i64 Try.underlying35 hi026 hsz26 (some ad103) c0 l0 4 (by omega) (of_decide_eq_true (by first | (with_reducible assumption) | assumption)) HC0.out; have HR108 := Aside0.mk (Kd.C_of_reads (h1 := fun _ => rfl) (hA26 _ (Kd.reads_of_C HR0.out))); have HC108 := Aside0.mk hC26; clear hA26 hC26 hi026 hsz26
         try go_wp2_with (first | ((with_reducible refine gate_callee (f := 41) rfl ?_); refine goesL_ (some 43) rfl rfl Try.func41 (by kernel_rfl) rfl #[.slice (some ad103) (l0.take 4).length c0] rfl (by (try simp only [List.map_toArray, List.map_cons, List.map_nil]); first | done | (rw [show (l0.take 4).length = 4 from (by rw [List.length_take]; have h_ : (4 : Int) ≤ (l0.length : Int) := of_decide_eq_true (by first | (with_reducible assumption) | assumption); omega)] <;> rfl) | rfl | (simp only [List.length_drop, List.length_take]; rfl)) ?_; (with_reducible refine (journal_get.calls kj3 _ _ (l0.take 4) t109 _ ?side1 ?side2 A14.out).mono ?_); (case side1 => exact cB HR108 HB); (case side2 => exact HC108.out); rintro e w' ⟨rfl, ⟨nd, rfl⟩⟩; refine ⟨_, rfl, ?_⟩))
         (try (rw [drewN_self wc]; generalize hq_ : World.drewN wc _ = wc; have n0_ : Aside0 (Below w.heap.size w wc) := ⟨by rw [← hq_]; exact (blw HB.out)⟩; clear HB hq_; have HB := n0_; clear n0_))
         replace HB := hD HB
         refine start_ (n := 17) (S := fun w' => True) (ds := []) (ar 17 0) (by kernel_rfl) rfl rfl trivial (fun hHeld => ?_); refine with_tabW journal_good.tab5 journal_good.bits5 (fun HT_ HW_ => ?_)
         generalize wc.drew = w27 at HB hHeld ⊢
         refine pureA (i := 0) (N := some 44) (ar 17 1) (any_of HT_.out (by kernel_rfl)) ?_; refine pureA (i := 1) (N := some 45) (ar 17 3) (any_of HT_.out (by kernel_rfl)) ?_; refine pureA (i := 2) (N := some 46) (ar 17 7) (any_of HT_.out (by kernel_rfl)) ?_; refine pureU (i := 3) (N := some 47) (ar 17 15) (any_of HT_.out (by kernel_rfl)) ?_; refine pureU (i := 4) (N := some 48) (ar 17 31) (any_of HT_.out (by kernel_rfl)) ?_; refine pureU (i := 5) (N := some 49) (ar 17 63) (any_of HT_.out (by kernel_rfl)) ?_; refine pureU (i := 6) (N := some 50) (ar 17 127) (any_of HT_.out (by kernel_rfl)) ?_; refine pureU (i := 7) (N := some 51) (ar 17 255) (any_of HT_.out (by kernel_rfl)) ?_; refine pureU (i := 8) (N := some 52) (ar 17 511) (any_of HT_.out (by kernel_rfl)) ?_; refine pureU (i := 9) (N := some 53) (ar 17 1023) (any_of HT_.out (by kernel_rfl)) ?_; refine pureU (i := 10) (N := some 54) (ar 17 2047) (any_of HT_.out (by kernel_rfl)) ?_; refine pureU (i := 11) (N := some 55) (ar 17 4095) (any_of HT_.out (by kernel_rfl)) ?_; refine pureU (i := 12) (N := some 56) (ar 17 8191) (any_of HT_.out (by kernel_rfl)) ?_
         refine pureU (i := 13) (N := some 57) (ar 17 16383) (any_of HT_.out (by kernel_rfl)) ?_; refine pureU (i := 14) (N := some 58) (ar 17 32767) (any_of HT_.out (by kernel_rfl)) ?_; refine pureA (i := 15) (N := some 59) (ar 17 65535) (any_of HT_.out (by kernel_rfl)) ?_; refine pureA (i := 16) (N := some 4) (ar 17 131071) (any_of HT_.out (by kernel_rfl)) ?_
         refine done_ (done_of HT_.out (by kernel_rfl)) ?_
         try go_wp2
         go_ret
         exact ⟨by first | rfl | (simp [errW_none, errW_some] <;> rfl) | (simp [*, errW_none, errW_some] <;> rfl), blw HB.out⟩
     · rw [if_neg c13] at H
       exact absurd H (by simp)

-- by hand: function 12 (journal_Open)

-- by hand: function 15 (journal_Append)

/-! ### journal_sectors: function 35 -/
def journal_sectors.f (l0 : List Int) : Option (Int) := some (mx 1 (wrap64 (Int.tdiv (wrap64 ((wrap64 ((l0.length : Int) + 112)) - 1)) 112)))
set_option maxHeartbeats 8000000 in
set_option maxRecDepth 100000 in
theorem journal_sectors.calls (A0 : Option Addr) (c0 : Nat) (l0 : List Int) (r : Int) (w : World) (hr0 : Kd.C (Kd.int .u8) w A0 l0.length l0) (hc0 : l0.length ≤ c0) (h : journal_sectors.f l0 = some r) :
    Calls Try.prog 35 #[.slice A0 l0.length c0] w fun e w' => e = .returned (.int .i64 r) ∧ Below w.heap.size w w' := by
 have HR0 := Aside0.mk hr0; have HC0 := Aside0.mk hc0; clear hr0 hc0; have HB := Aside0.mk (Below.refl w.heap.size w); have H : (some (mx 1 (wrap64 (Int.tdiv (wrap64 ((wrap64 ((l0.length : Int) + 112)) - 1)) 112)))) = some r := h; clear h; obtain ⟨ji2, hji2⟩ : ∃ j_ : Int, (mx 1 (wrap64 (Int.tdiv (wrap64 ((wrap64 ((l0.length : Int) + 112)) - 1)) 112))) = j_ := ⟨_, rfl⟩
 replace H : (some ji2) = some r := by first | (rw [hji2] at H; exact H) | (simp only [hji2] at H ⊢; exact H)
 (try (have hji2l : 1 ≤ ji2 := by (rw [← hji2]; unfold mx; (repeat' split) <;> omega)))
 (try (have hji2m : 0 ≤ ji2 := by omega))
 have hji2_ : (if 1 < (wrap64 (Int.tdiv (wrap64 ((wrap64 ((l0.length : Int) + 112)) - 1)) 112)) then (wrap64 (Int.tdiv (wrap64 ((wrap64 ((l0.length : Int) + 112)) - 1)) 112)) else 1) = ji2 := hji2; obtain rfl := Option.some.inj H
 go_enter Try.func35, Try.ntmps35
 go_wp2
 go_ret
 exact ⟨by first | rfl | (simp [errW_none, errW_some] <;> rfl) | (simp only [← hji2]; first | rfl | (simp [errW_none, errW_some] <;> rfl)) | (simp [*, errW_none, errW_some] <;> rfl), blw HB.out⟩

/-! ### journal_used: function 36 -/
def journal_used.l0 : Nat → Int → List (List Int) → Int → Int → Option (Int)
  | 0, _, _, _, _ => none
  | k + 1, x2, x5, x6, x7 => if x7 < x6 then (if 0 ≤ x7 then (if x7 < (x5.length : Int) then ((journal_sectors.f (rd_L1 x5 x7)).bind fun t117 => (journal_used.l0 k (wrap64 (x2 + t117)) x5 x6 (wrap64 (x7 + 1)))) else (none)) else (none)) else (some x2)
def journal_used.f (k : Nat) (l0 : List (List Int)) : Option (Int) := journal_used.l0 k 0 l0 (l0.length : Int) 0
set_option maxRecDepth 100000 in
theorem journal_used.mono_l : ∀ k, (∀ y0 y1 y2 y3, LeO (journal_used.l0 k y0 y1 y2 y3) (journal_used.l0 (k + 1) y0 y1 y2 y3))
  | 0 => fun _ _ _ _ r h => by simp [journal_used.l0] at h
  | k + 1 => by
    have ih0 := journal_used.mono_l k
    · intro y0 y1 y2 y3
      unfold journal_used.l0
      repeat' first
      | (with_reducible exact ih0 _ _ _ _)
      | (with_reducible exact LeO.refl _)
      | (with_reducible exact LeO.none _)
      | (with_reducible refine LeO.ite ?_ ?_)
      | (with_reducible refine LeO.bind ?_ (fun _ => ?_))
      | exact ih0 _ _ _ _
      | exact LeO.none _
      | refine LeO.ite ?_ ?_
      | refine LeO.bind ?_ (fun _ => ?_)
theorem journal_used.mono : ∀ a0 k, LeO (journal_used.f k a0) (journal_used.f (k + 1) a0) := by
  intro a0 k
  have ih0 := journal_used.mono_l k
  unfold journal_used.f
  repeat' first
      | (with_reducible exact ih0 _ _ _ _)
      | (with_reducible exact LeO.refl _)
      | (with_reducible exact LeO.none _)
      | (with_reducible refine LeO.ite ?_ ?_)
      | (with_reducible refine LeO.bind ?_ (fun _ => ?_))
      | exact ih0 _ _ _ _
      | exact LeO.none _
      | refine LeO.ite ?_ ?_
      | refine LeO.bind ?_ (fun _ => ?_)
set_option maxHeartbeats 8000000 in
set_option maxRecDepth 100000 in
theorem journal_used.calls (k : Nat) (A0 : Option Addr) (c0 : Nat) (l0 : List (List Int)) (r : Int) (w : World) (hr0 : Kd.C (Kd.slice 5 (Kd.int .u8)) w A0 l0.length l0) (hc0 : l0.length ≤ c0) (h : journal_used.f k l0 = some r) :
    Calls Try.prog 36 #[.slice A0 l0.length c0] w fun e w' => e = .returned (.int .i64 r) ∧ Below w.heap.size w w' := by
 have HR0 := Aside0.mk hr0; have HC0 := Aside0.mk hc0; clear hr0 hc0; have HB := Aside0.mk (Below.refl w.heap.size w); have H : (journal_used.l0 k 0 l0 (l0.length : Int) 0) = some r := h; clear h; have H' := Aside0.mk H; clear H
 go_enter Try.func36, Try.ntmps36
 go_wp2
 go_loopg [2, 7] k (fun kq v2 v7 w' => ∃ (x2_1 : Int) (x7_1 : Int), v2 = .int .i64 x2_1 ∧ v7 = .int .i64 x7_1 ∧ Aside0 (journal_used.l0 kq x2_1 l0 (l0.length : Int) x7_1 = some r) ∧ Aside0 (kq ≤ k) ∧ Aside0 (Below w.heap.size w w'))
 case atStart => exact ⟨(0), (0), (by first | rfl | (simp; done) | (simp [*]; done)), (by first | rfl | (simp; done) | (simp [*]; done)), H', ⟨Nat.le_refl _⟩, ⟨blw HB.out⟩⟩
 clear H'; obtain ⟨x2_1, x7_1, rfl, rfl, HA, HK1, HB⟩ := hrel
 cases gk with
 | zero => exact absurd HA.out (by simp [journal_used.l0])
 | succ k1 =>
   have H := HA.out; clear HA
   simp only [journal_used.l0] at H
   by_cases c2 : x7_1 < (l0.length : Int)
   · rw [if_pos c2] at H
     have c2b0 : decide (x7_1 < (l0.length : Int)) = true := decide_eq_true c2; clear c2
     by_cases c3 : 0 ≤ x7_1
     · rw [if_pos c3] at H
       have c3b0 : decide (0 ≤ x7_1) = true := decide_eq_true c3; clear c3
       by_cases c4 : x7_1 < (l0.length : Int)
       · rw [if_pos c4] at H
         have c4b0 : decide (x7_1 < (l0.length : Int)) = true := decide_eq_true c4; clear c4; replace H := Option.bind_eq_some_iff.mp H; obtain ⟨t117, A50, H⟩ := H; replace H : (journal_used.l0 k1 (wrap64 (x2_1 + t117)) l0 (l0.length : Int) (wrap64 (x7_1 + 1))) = some r := H; have A5 := Aside0.mk A50; clear A50; have H' := Aside0.mk H; clear H; have p116 : 0 ≤ (x7_1 : Int) := of_decide_eq_true (by first | (with_reducible assumption) | assumption); have q116 : x7_1 < (l0.length : Int) := of_decide_eq_true (by first | (with_reducible assumption) | assumption); obtain ⟨ad116, A116_0, c116_0, e116, hx116_0, hl116_0, hi116_0⟩ := at_L1 HR0.out x7_1 p116 q116; cases e116; replace hx116_0 := (HB.out.cell (World.block_lt_of_cell? w _ hx116_0)).trans hx116_0; have HR116_0 := Aside0.mk hi116_0; have HC116_0 := Aside0.mk hl116_0; clear hi116_0 hl116_0; replace p116 := eq_true p116; replace q116 := eq_true q116
         go_wp2_with (first | (refine goesC 13 Try.func35 #[.slice A116_0 (rd_L1 l0 x7_1).length c116_0] ?_; (with_reducible refine (journal_sectors.calls _ _ (rd_L1 l0 x7_1) t117 _ ?side1 ?side2 A5.out).mono ?_); (case side1 => exact cB HR116_0 HB); (case side2 => exact HC116_0.out); rintro e w6 ⟨rfl, hb⟩; refine ⟨_, rfl, ?_⟩; replace HB := sB HB hb; (try clear hb); (try clear hb2); (try clear hk); (try clear hi)))
         go_roundg k1
         case measure => have := HK1.out; omega
         case rel => exact ⟨(wrap64 (x2_1 + t117)), (wrap64 (x7_1 + 1)), (by first | rfl | (simp; done) | (simp [*]; done)), (by first | rfl | (simp; done) | (simp [*]; done)), H', ⟨by have := HK1.out; omega⟩, ⟨blw HB.out⟩⟩
       · rw [if_neg c4] at H
         exact absurd H (by simp)
     · rw [if_neg c3] at H
       exact absurd H (by simp)
   · rw [if_neg c2] at H
     have c2b0 : decide (x7_1 < (l0.length : Int)) = false := decide_eq_false c2; clear c2; obtain rfl := Option.some.inj H
     go_wp2
     go_ret
     exact ⟨by first | rfl | (simp [errW_none, errW_some] <;> rfl) | (simp [*, errW_none, errW_some] <;> rfl), blw HB.out⟩

end Go.Proofs.Ytljmdkeeppikhaa.Q
