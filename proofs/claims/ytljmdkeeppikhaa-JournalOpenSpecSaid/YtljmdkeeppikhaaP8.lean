/- Functions of the translation as plain Lean functions, and proofs that the calls do what these say; written by a program of this session round the kit's print. -/
import Derived.Test.YtljmdkeeppikhaaQ0
import Derived.Test.YtljmdkeeppikhaaAidB
import Derived.Test.YtljmdkeeppikhaaAidC
namespace Go.Proofs.Ytljmdkeeppikhaa.Q
open Go.RowKit Go.Proofs.YtljmdkeeppikhaaW.PrintWords Go.Proofs.YtljmdkeeppikhaaW.PrintLast Go.Proofs.YtljmdkeeppikhaaW.PrintMore
attribute [local go_sem] max2_int min2_int max_two min_two max_three min_three max_four min_four   -- for this text's walks alone
set_option linter.unusedVariables false
set_option linter.unusedSimpArgs false

/-! ### fastilaw05_few: function 11 -/
def fastilaw05_few.l0 : Nat → Int → List (List Int) → Int → Int → List (List Int) → List (S76) → Int → Bool → Option (Bool)
  | 0, _, _, _, _, _, _, _, _ => none
  | k + 1, x5, x8, x9, x10, x282000, x282001, x282002, x282003 => if x10 < x9 then (if 0 ≤ x10 then (if x10 < (x8.length : Int) then (fastilaw05_few.l0 k (wrap64 (x5 + (wrap64 (1 + ((rd_L1 x8 x10).length : Int))))) x8 x9 (wrap64 (x10 + 1)) x282000 x282001 x282002 x282003) else (none)) else (none)) else (if (x282000.length : Int) ≤ 40 then (if (x282001.length : Int) ≤ 40 then (some (decide (x5 ≤ 4000))) else (some false)) else (some false))
def fastilaw05_few.f (k : Nat) (l0_0 : List (List Int)) (l0_1 : List (S76)) (a0_2 : Int) (a0_3 : Bool) (l1 : List (List Int)) : Option (Bool) := fastilaw05_few.l0 k 0 l1 (l1.length : Int) 0 l0_0 l0_1 a0_2 a0_3
set_option maxRecDepth 100000 in
theorem fastilaw05_few.mono_l : ∀ k, (∀ y0 y1 y2 y3 y4 y5 y6 y7, LeO (fastilaw05_few.l0 k y0 y1 y2 y3 y4 y5 y6 y7) (fastilaw05_few.l0 (k + 1) y0 y1 y2 y3 y4 y5 y6 y7))
  | 0 => fun _ _ _ _ _ _ _ _ r h => by simp [fastilaw05_few.l0] at h
  | k + 1 => by
    have ih0 := fastilaw05_few.mono_l k
    · intro y0 y1 y2 y3 y4 y5 y6 y7
      unfold fastilaw05_few.l0
      repeat' first
      | (with_reducible exact ih0 _ _ _ _ _ _ _ _)
      | (with_reducible exact LeO.refl _)
      | (with_reducible exact LeO.none _)
      | (with_reducible refine LeO.ite ?_ ?_)
      | (with_reducible refine LeO.bind ?_ (fun _ => ?_))
      | exact ih0 _ _ _ _ _ _ _ _
      | exact LeO.none _
      | refine LeO.ite ?_ ?_
      | refine LeO.bind ?_ (fun _ => ?_)
theorem fastilaw05_few.mono : ∀ a0 a1 a2 a3 a4 k, LeO (fastilaw05_few.f k a0 a1 a2 a3 a4) (fastilaw05_few.f (k + 1) a0 a1 a2 a3 a4) := by
  intro a0 a1 a2 a3 a4 k
  have ih0 := fastilaw05_few.mono_l k
  unfold fastilaw05_few.f
  repeat' first
      | (with_reducible exact ih0 _ _ _ _ _ _ _ _)
      | (with_reducible exact LeO.refl _)
      | (with_reducible exact LeO.none _)
      | (with_reducible refine LeO.ite ?_ ?_)
      | (with_reducible refine LeO.bind ?_ (fun _ => ?_))
      | exact ih0 _ _ _ _ _ _ _ _
      | exact LeO.none _
      | refine LeO.ite ?_ ?_
      | refine LeO.bind ?_ (fun _ => ?_)
set_option maxHeartbeats 8000000 in
set_option maxRecDepth 100000 in
theorem fastilaw05_few.calls (k : Nat) (A0_0 : Option Addr) (c0_0 : Nat) (l0_0 : List (List Int)) (A0_1 : Option Addr) (c0_1 : Nat) (l0_1 : List (S76)) (a0_2 : Int) (a0_3 : Bool) (A1 : Option Addr) (c1 : Nat) (l1 : List (List Int)) (r : Bool) (w : World) (hr0_0 : Kd.C (Kd.slice 5 (Kd.int .u8)) w A0_0 l0_0.length l0_0) (hc0_0 : l0_0.length ≤ c0_0) (hr0_1 : Kd.C k76 w A0_1 l0_1.length l0_1) (hc0_1 : l0_1.length ≤ c0_1) (hr1 : Kd.C (Kd.slice 5 (Kd.int .u8)) w A1 l1.length l1) (hc1 : l1.length ≤ c1) (h : fastilaw05_few.f k l0_0 l0_1 a0_2 a0_3 l1 = some r) :
    Calls Try.prog 11 #[.agg #[.slice A0_0 l0_0.length c0_0, .slice A0_1 l0_1.length c0_1, .int .i64 a0_2, .bool a0_3], .slice A1 l1.length c1] w fun e w' => e = .returned (.bool r) ∧ Below w.heap.size w w' := by
 have hu25 := Try.underlying25; have HR0_0 := Aside0.mk hr0_0; have HC0_0 := Aside0.mk hc0_0; clear hr0_0 hc0_0; have HR0_1 := Aside0.mk hr0_1; have HC0_1 := Aside0.mk hc0_1; clear hr0_1 hc0_1; have HR1 := Aside0.mk hr1; have HC1 := Aside0.mk hc1; clear hr1 hc1; have HB := Aside0.mk (Below.refl w.heap.size w); have H : (fastilaw05_few.l0 k 0 l1 (l1.length : Int) 0 l0_0 l0_1 a0_2 a0_3) = some r := h; clear h; have H' := Aside0.mk H; clear H
 go_enter Try.func11, Try.ntmps11
 go_wp2_with (first | ((with_reducible refine gate_dst (N := 2) rfl ?_); (try (refine gate_guard (by rfl) ?_; dsimp only)); refine boxA (N := 2) #[.slice A0_0 l0_0.length c0_0, .slice A0_1 l0_1.length c0_1, .int .i64 a0_2, .bool a0_3] 25 ?_; intro gb281 hg w3 hbox hb; have BK281 := Aside0.mk (hbox); have GW281 := gW HB hg; have GE281 := gW HB hg; replace HB := sB HB hb; clear hb hbox hg))
 go_loopg [5, 10] k (fun kq v5 v10 w' => ∃ (x5_1 : Int) (x10_1 : Int), v5 = .int .i64 x5_1 ∧ v10 = .int .i64 x10_1 ∧ Aside0 (fastilaw05_few.l0 kq x5_1 l1 (l1.length : Int) x10_1 l0_0 l0_1 a0_2 a0_3 = some r) ∧ Aside0 (kq ≤ k) ∧ Aside0 (w'.heap[gb281]? = some (.cells #[(.slice A0_0 l0_0.length c0_0), (.slice A0_1 l0_1.length c0_1), .int .i64 a0_2, .bool a0_3] 25 (0, 0))) ∧ Aside0 (Below w.heap.size w w'))
 case atStart => exact ⟨(0), (0), (by first | rfl | (simp; done) | (simp [*]; done)), (by first | rfl | (simp; done) | (simp [*]; done)), H', ⟨Nat.le_refl _⟩, ⟨zk BK281.out⟩, ⟨blw HB.out⟩⟩
 clear H'; (try clear c1); (try clear p2); obtain ⟨x5_1, x10_1, rfl, rfl, HA, HK1, BK281, HB⟩ := hrel
 cases gk with
 | zero => exact absurd HA.out (by simp [fastilaw05_few.l0])
 | succ k1 =>
   have H := HA.out; clear HA
   simp only [fastilaw05_few.l0] at H
   by_cases c4 : x10_1 < (l1.length : Int)
   · rw [if_pos c4] at H
     have c4b0 : decide (x10_1 < (l1.length : Int)) = true := decide_eq_true c4; clear c4
     by_cases c5 : 0 ≤ x10_1
     · rw [if_pos c5] at H
       have c5b0 : decide (0 ≤ x10_1) = true := decide_eq_true c5; clear c5
       by_cases c6 : x10_1 < (l1.length : Int)
       · rw [if_pos c6] at H
         have c6b0 : decide (x10_1 < (l1.length : Int)) = true := decide_eq_true c6; clear c6; have H' := Aside0.mk H; clear H; have p282 : 0 ≤ (x10_1 : Int) := of_decide_eq_true (by first | (with_reducible assumption) | assumption); have q282 : x10_1 < (l1.length : Int) := of_decide_eq_true (by first | (with_reducible assumption) | assumption); obtain ⟨ad282, A282_0, c282_0, e282, hx282_0, hl282_0, hi282_0⟩ := at_L1 HR1.out x10_1 p282 q282; cases e282; replace hx282_0 := (HB.out.cell (World.block_lt_of_cell? w _ hx282_0)).trans hx282_0; have HR282_0 := Aside0.mk hi282_0; have HC282_0 := Aside0.mk hl282_0; clear hi282_0 hl282_0; replace p282 := eq_true p282; replace q282 := eq_true q282
         go_wp2
         go_roundg k1
         case measure => have := HK1.out; omega
         case rel => exact ⟨(wrap64 (x5_1 + (wrap64 (1 + ((rd_L1 l1 x10_1).length : Int))))), (wrap64 (x10_1 + 1)), (by first | rfl | (simp; done) | (simp [*]; done)), (by first | rfl | (simp; done) | (simp [*]; done)), H', ⟨by have := HK1.out; omega⟩, ⟨zk BK281.out⟩, ⟨blw HB.out⟩⟩
       · rw [if_neg c6] at H
         exact absurd H (by simp)
     · rw [if_neg c5] at H
       exact absurd H (by simp)
   · rw [if_neg c4] at H
     have c4b0 : decide (x10_1 < (l1.length : Int)) = false := decide_eq_false c4; clear c4
     by_cases c7 : (l0_0.length : Int) ≤ 40
     · rw [if_pos c7] at H
       have c7b0 : decide ((l0_0.length : Int) ≤ 40) = true := decide_eq_true c7; have c7b1 : decide (l0_0.length ≤ 40) = true := decide_eq_true (by omega); clear c7
       by_cases c8 : (l0_1.length : Int) ≤ 40
       · rw [if_pos c8] at H
         have c8b0 : decide ((l0_1.length : Int) ≤ 40) = true := decide_eq_true c8; have c8b1 : decide (l0_1.length ≤ 40) = true := decide_eq_true (by omega); clear c8; obtain rfl := Option.some.inj H; have hcz9_0 := bc0 BK281; have hcz9_1 := bc1 BK281; have hcz9_2 := bc2 BK281; have hcz9_3 := bc3 BK281; have hfz9_0 := fz BK281 0; have hfz9_1 := fz BK281 1; have hfz9_2 := fz BK281 2; have hfz9_3 := fz BK281 3
         go_wp2
         go_ret
         exact ⟨by first | rfl | (simp [errW_none, errW_some] <;> rfl) | (simp [*, errW_none, errW_some] <;> rfl), blw HB.out⟩
       · rw [if_neg c8] at H
         have c8b0 : decide ((l0_1.length : Int) ≤ 40) = false := decide_eq_false c8; have c8b1 : decide (l0_1.length ≤ 40) = false := decide_eq_false (by omega); clear c8; obtain rfl := Option.some.inj H; have hcz10_0 := bc0 BK281; have hcz10_1 := bc1 BK281; have hcz10_2 := bc2 BK281; have hcz10_3 := bc3 BK281; have hfz10_0 := fz BK281 0; have hfz10_1 := fz BK281 1; have hfz10_2 := fz BK281 2; have hfz10_3 := fz BK281 3
         go_wp2
         go_ret
         exact ⟨by first | rfl | (simp [errW_none, errW_some] <;> rfl) | (simp [*, errW_none, errW_some] <;> rfl), blw HB.out⟩
     · rw [if_neg c7] at H
       have c7b0 : decide ((l0_0.length : Int) ≤ 40) = false := decide_eq_false c7; have c7b1 : decide (l0_0.length ≤ 40) = false := decide_eq_false (by omega); clear c7; obtain rfl := Option.some.inj H; have hcz11_0 := bc0 BK281; have hcz11_1 := bc1 BK281; have hcz11_2 := bc2 BK281; have hcz11_3 := bc3 BK281; have hfz11_0 := fz BK281 0; have hfz11_1 := fz BK281 1; have hfz11_2 := fz BK281 2; have hfz11_3 := fz BK281 3
       go_wp2
       go_ret
       exact ⟨by first | rfl | (simp [errW_none, errW_some] <;> rfl) | (simp [*, errW_none, errW_some] <;> rfl), blw HB.out⟩

/-! ### fastiref04_Check: function 33 -/
mutual
def fastiref04_Check.j0 : Nat → Int → Bool → List (List Int) → List (S76) → Int → Bool → Option (Int)
  | 0, _, _, _, _, _, _ => none
  | k + 1, x3, x31, x284000, x284001, x284002, x284003 => if x31 = true then (some 40) else (fastiref04_Check.l0 k x3 0 x284000 x284001 x284002 x284003)
def fastiref04_Check.l0 : Nat → Int → Int → List (List Int) → List (S76) → Int → Bool → Option (Int)
  | 0, _, _, _, _, _, _ => none
  | k + 1, x3, x4, x284000, x284001, x284002, x284003 => if x4 < x3 then (if 0 ≤ x4 then (if x4 < (x284000.length : Int) then (if ((rd_L1 x284000 x4).length : Int) = 128 then (fastiref04_Check.l0 k x3 (wrap64 (x4 + 1)) x284000 x284001 x284002 x284003) else (some 40)) else (none)) else (none)) else (fastiref04_Check.l1 k x3 0 x284000 x284001 x284002 x284003)
def fastiref04_Check.l1 : Nat → Int → Int → List (List Int) → List (S76) → Int → Bool → Option (Int)
  | 0, _, _, _, _, _, _ => none
  | k + 1, x3, x5, x284000, x284001, x284002, x284003 => if x5 < (x284001.length : Int) then (if 0 ≤ x5 then (if ((rd_T76 x284001 x5).f0) < 0 then (some 40) else (if ((rd_T76 x284001 x5).f0) ≥ x3 then (some 40) else (if (((rd_T76 x284001 x5).f1).length : Int) = 128 then (fastiref04_Check.l1 k x3 (wrap64 (x5 + 1)) x284000 x284001 x284002 x284003) else (some 40)))) else (none)) else (some 0)
end
def fastiref04_Check.f (k : Nat) (l0_0 : List (List Int)) (l0_1 : List (S76)) (a0_2 : Int) (a0_3 : Bool) : Option (Int) := if (l0_0.length : Int) < 1 then (fastiref04_Check.j0 k (l0_0.length : Int) true l0_0 l0_1 a0_2 a0_3) else (if (l0_0.length : Int) > 4096 then (fastiref04_Check.j0 k (l0_0.length : Int) true l0_0 l0_1 a0_2 a0_3) else (if (l0_1.length : Int) > 4096 then (fastiref04_Check.j0 k (l0_0.length : Int) true l0_0 l0_1 a0_2 a0_3) else (if a0_2 < (-1) then (fastiref04_Check.j0 k (l0_0.length : Int) true l0_0 l0_1 a0_2 a0_3) else (fastiref04_Check.j0 k (l0_0.length : Int) (decide (a0_2 > 65536)) l0_0 l0_1 a0_2 a0_3))))
set_option maxRecDepth 100000 in
theorem fastiref04_Check.mono_l : ∀ k, (∀ y0 y1 y2 y3 y4 y5, LeO (fastiref04_Check.j0 k y0 y1 y2 y3 y4 y5) (fastiref04_Check.j0 (k + 1) y0 y1 y2 y3 y4 y5)) ∧ (∀ y0 y1 y2 y3 y4 y5, LeO (fastiref04_Check.l0 k y0 y1 y2 y3 y4 y5) (fastiref04_Check.l0 (k + 1) y0 y1 y2 y3 y4 y5)) ∧ (∀ y0 y1 y2 y3 y4 y5, LeO (fastiref04_Check.l1 k y0 y1 y2 y3 y4 y5) (fastiref04_Check.l1 (k + 1) y0 y1 y2 y3 y4 y5))
  | 0 => ⟨fun _ _ _ _ _ _ r h => by simp [fastiref04_Check.j0] at h, fun _ _ _ _ _ _ r h => by simp [fastiref04_Check.l0] at h, fun _ _ _ _ _ _ r h => by simp [fastiref04_Check.l1] at h⟩
  | k + 1 => by
    obtain ⟨ih0, ih1, ih2⟩ := fastiref04_Check.mono_l k
    refine ⟨?_, ?_, ?_⟩
    · intro y0 y1 y2 y3 y4 y5
      unfold fastiref04_Check.j0
      repeat' first
      | (with_reducible exact ih0 _ _ _ _ _ _)
      | (with_reducible exact ih1 _ _ _ _ _ _)
      | (with_reducible exact ih2 _ _ _ _ _ _)
      | (with_reducible exact LeO.refl _)
      | (with_reducible exact LeO.none _)
      | (with_reducible refine LeO.ite ?_ ?_)
      | (with_reducible refine LeO.bind ?_ (fun _ => ?_))
      | exact ih0 _ _ _ _ _ _
      | exact ih1 _ _ _ _ _ _
      | exact ih2 _ _ _ _ _ _
      | exact LeO.none _
      | refine LeO.ite ?_ ?_
      | refine LeO.bind ?_ (fun _ => ?_)
    · intro y0 y1 y2 y3 y4 y5
      unfold fastiref04_Check.l0
      repeat' first
      | (with_reducible exact ih0 _ _ _ _ _ _)
      | (with_reducible exact ih1 _ _ _ _ _ _)
      | (with_reducible exact ih2 _ _ _ _ _ _)
      | (with_reducible exact LeO.refl _)
      | (with_reducible exact LeO.none _)
      | (with_reducible refine LeO.ite ?_ ?_)
      | (with_reducible refine LeO.bind ?_ (fun _ => ?_))
      | exact ih0 _ _ _ _ _ _
      | exact ih1 _ _ _ _ _ _
      | exact ih2 _ _ _ _ _ _
      | exact LeO.none _
      | refine LeO.ite ?_ ?_
      | refine LeO.bind ?_ (fun _ => ?_)
    · intro y0 y1 y2 y3 y4 y5
      unfold fastiref04_Check.l1
      repeat' first
      | (with_reducible exact ih0 _ _ _ _ _ _)
      | (with_reducible exact ih1 _ _ _ _ _ _)
      | (with_reducible exact ih2 _ _ _ _ _ _)
      | (with_reducible exact LeO.refl _)
      | (with_reducible exact LeO.none _)
      | (with_reducible refine LeO.ite ?_ ?_)
      | (with_reducible refine LeO.bind ?_ (fun _ => ?_))
      | exact ih0 _ _ _ _ _ _
      | exact ih1 _ _ _ _ _ _
      | exact ih2 _ _ _ _ _ _
      | exact LeO.none _
      | refine LeO.ite ?_ ?_
      | refine LeO.bind ?_ (fun _ => ?_)
theorem fastiref04_Check.mono : ∀ a0 a1 a2 a3 k, LeO (fastiref04_Check.f k a0 a1 a2 a3) (fastiref04_Check.f (k + 1) a0 a1 a2 a3) := by
  intro a0 a1 a2 a3 k
  obtain ⟨ih0, ih1, ih2⟩ := fastiref04_Check.mono_l k
  unfold fastiref04_Check.f
  repeat' first
      | (with_reducible exact ih0 _ _ _ _ _ _)
      | (with_reducible exact ih1 _ _ _ _ _ _)
      | (with_reducible exact ih2 _ _ _ _ _ _)
      | (with_reducible exact LeO.refl _)
      | (with_reducible exact LeO.none _)
      | (with_reducible refine LeO.ite ?_ ?_)
      | (with_reducible refine LeO.bind ?_ (fun _ => ?_))
      | exact ih0 _ _ _ _ _ _
      | exact ih1 _ _ _ _ _ _
      | exact ih2 _ _ _ _ _ _
      | exact LeO.none _
      | refine LeO.ite ?_ ?_
      | refine LeO.bind ?_ (fun _ => ?_)
set_option maxHeartbeats 8000000 in
set_option maxRecDepth 100000 in
theorem fastiref04_Check.calls (k : Nat) (A0_0 : Option Addr) (c0_0 : Nat) (l0_0 : List (List Int)) (A0_1 : Option Addr) (c0_1 : Nat) (l0_1 : List (S76)) (a0_2 : Int) (a0_3 : Bool) (r : Int) (w : World) (hr0_0 : Kd.C (Kd.slice 5 (Kd.int .u8)) w A0_0 l0_0.length l0_0) (hc0_0 : l0_0.length ≤ c0_0) (hr0_1 : Kd.C k76 w A0_1 l0_1.length l0_1) (hc0_1 : l0_1.length ≤ c0_1) (h : fastiref04_Check.f k l0_0 l0_1 a0_2 a0_3 = some r) :
    Calls Try.prog 33 #[.agg #[.slice A0_0 l0_0.length c0_0, .slice A0_1 l0_1.length c0_1, .int .i64 a0_2, .bool a0_3]] w fun e w' => e = .returned (.int .i64 r) ∧ Below w.heap.size w w' := by
 have hu25 := Try.underlying25; have hu76 := Try.underlying76; have HR0_0 := Aside0.mk hr0_0; have HC0_0 := Aside0.mk hc0_0; clear hr0_0 hc0_0; have HR0_1 := Aside0.mk hr0_1; have HC0_1 := Aside0.mk hc0_1; clear hr0_1 hc0_1; have HB := Aside0.mk (Below.refl w.heap.size w); have H : (if (l0_0.length : Int) < 1 then (fastiref04_Check.j0 k (l0_0.length : Int) true l0_0 l0_1 a0_2 a0_3) else (if (l0_0.length : Int) > 4096 then (fastiref04_Check.j0 k (l0_0.length : Int) true l0_0 l0_1 a0_2 a0_3) else (if (l0_1.length : Int) > 4096 then (fastiref04_Check.j0 k (l0_0.length : Int) true l0_0 l0_1 a0_2 a0_3) else (if a0_2 < (-1) then (fastiref04_Check.j0 k (l0_0.length : Int) true l0_0 l0_1 a0_2 a0_3) else (fastiref04_Check.j0 k (l0_0.length : Int) (decide (a0_2 > 65536)) l0_0 l0_1 a0_2 a0_3))))) = some r := h; clear h; have HC2 := Aside0.mk H; clear H
 go_enter Try.func33, Try.ntmps33
 go_upto_region 2 with (first | ((with_reducible refine gate_dst (N := 1) rfl ?_); (try (refine gate_guard (by rfl) ?_; dsimp only)); refine boxA (N := 1) #[.slice A0_0 l0_0.length c0_0, .slice A0_1 l0_1.length c0_1, .int .i64 a0_2, .bool a0_3] 25 ?_; intro gb283 hg w3 hbox hb; have BK283 := Aside0.mk (hbox); have GW283 := gW HB hg; have GE283 := gW HB hg; replace HB := sB HB hb; clear hb hbox hg; have hcz4_0 := bc0 BK283; have hcz4_1 := bc1 BK283; have hcz4_2 := bc2 BK283; have hcz4_3 := bc3 BK283; have hfz4_0 := fz BK283 0; have hfz4_1 := fz BK283 1; have hfz4_2 := fz BK283 2; have hfz4_3 := fz BK283 3))
 (try simp only [Act.put, List.setIfInBounds_toArray, List.set_cons_zero, List.set_cons_succ])
 go_cut [31] (fun v31 wc => ∃ (kq : Nat) (x31_1 : Bool), v31 = .bool x31_1 ∧ Aside0 (fastiref04_Check.j0 kq (l0_0.length : Int) x31_1 l0_0 l0_1 a0_2 a0_3 = some r) ∧ Aside0 (kq ≤ k) ∧ Aside0 (wc.heap[gb283]? = some (.cells #[(.slice A0_0 l0_0.length c0_0), (.slice A0_1 l0_1.length c0_1), .int .i64 a0_2, .bool a0_3] 25 (0, 0))) ∧ Aside0 (Below w.heap.size w wc))
 case first =>
  have H := HC2.out; clear HC2
  by_cases c5 : (l0_0.length : Int) < 1
  ·rw [if_pos c5] at H
   have c5b0 : decide ((l0_0.length : Int) < 1) = true := decide_eq_true c5; have c5b1 : decide (l0_0.length < 1) = true := decide_eq_true (by omega); clear c5
   (first | rw [c5b0] | (simp only [i64_w, i32_w]; rw [c5b0]) | skip)
   have H' := Aside0.mk H; clear H
   go_wp2
   go_meet
   case rel => exact ⟨_, (true), (by first | rfl | (simp; done) | (simp [*]; done)), H', ⟨by first | omega | exact Nat.le_refl _⟩, ⟨zk BK283.out⟩, ⟨blw HB.out⟩⟩
  rw [if_neg c5] at H; have c5b0 : decide ((l0_0.length : Int) < 1) = false := decide_eq_false c5; have c5b1 : decide (l0_0.length < 1) = false := decide_eq_false (by omega); clear c5
  (first | rw [c5b0] | (simp only [i64_w, i32_w]; rw [c5b0]) | skip)
  by_cases c6 : (l0_0.length : Int) > 4096
  ·rw [if_pos c6] at H
   have c6b0 : decide (4096 < (l0_0.length : Int)) = true := decide_eq_true c6; have c6b1 : decide (4096 < l0_0.length) = true := decide_eq_true (by omega); clear c6; have H' := Aside0.mk H; clear H
   go_wp2
   go_meet
   case rel => exact ⟨_, (true), (by first | rfl | (simp; done) | (simp [*]; done)), H', ⟨by first | omega | exact Nat.le_refl _⟩, ⟨zk BK283.out⟩, ⟨blw HB.out⟩⟩
  rw [if_neg c6] at H; have c6b0 : decide (4096 < (l0_0.length : Int)) = false := decide_eq_false c6; have c6b1 : decide (4096 < l0_0.length) = false := decide_eq_false (by omega); clear c6
  by_cases c7 : (l0_1.length : Int) > 4096
  ·rw [if_pos c7] at H
   have c7b0 : decide (4096 < (l0_1.length : Int)) = true := decide_eq_true c7; have c7b1 : decide (4096 < l0_1.length) = true := decide_eq_true (by omega); clear c7; have H' := Aside0.mk H; clear H; have hcz8_0 := bc0 BK283; have hcz8_1 := bc1 BK283; have hcz8_2 := bc2 BK283; have hcz8_3 := bc3 BK283; have hfz8_0 := fz BK283 0; have hfz8_1 := fz BK283 1; have hfz8_2 := fz BK283 2; have hfz8_3 := fz BK283 3
   go_wp2
   go_meet
   case rel => exact ⟨_, (true), (by first | rfl | (simp; done) | (simp [*]; done)), H', ⟨by first | omega | exact Nat.le_refl _⟩, ⟨zk BK283.out⟩, ⟨blw HB.out⟩⟩
  rw [if_neg c7] at H; have c7b0 : decide (4096 < (l0_1.length : Int)) = false := decide_eq_false c7; have c7b1 : decide (4096 < l0_1.length) = false := decide_eq_false (by omega); clear c7
  by_cases c9 : a0_2 < (-1)
  ·rw [if_pos c9] at H
   have c9b0 : decide (a0_2 < (-1)) = true := decide_eq_true c9; clear c9; have H' := Aside0.mk H; clear H; have hcz10_0 := bc0 BK283; have hcz10_1 := bc1 BK283; have hcz10_2 := bc2 BK283; have hcz10_3 := bc3 BK283; have hfz10_0 := fz BK283 0; have hfz10_1 := fz BK283 1; have hfz10_2 := fz BK283 2; have hfz10_3 := fz BK283 3
   go_wp2
   go_meet
   case rel => exact ⟨_, (true), (by first | rfl | (simp; done) | (simp [*]; done)), H', ⟨by first | omega | exact Nat.le_refl _⟩, ⟨zk BK283.out⟩, ⟨blw HB.out⟩⟩
  rw [if_neg c9] at H; have c9b0 : decide (a0_2 < (-1)) = false := decide_eq_false c9; clear c9; have H' := Aside0.mk H; clear H; have hcz11_0 := bc0 BK283; have hcz11_1 := bc1 BK283; have hcz11_2 := bc2 BK283; have hcz11_3 := bc3 BK283; have hfz11_0 := fz BK283 0; have hfz11_1 := fz BK283 1; have hfz11_2 := fz BK283 2; have hfz11_3 := fz BK283 3
  go_wp2
  go_meet
  case rel => exact ⟨_, (decide (a0_2 > 65536)), (by first | rfl | (simp; done) | (simp [*]; done)), H', ⟨by first | omega | exact Nat.le_refl _⟩, ⟨zk BK283.out⟩, ⟨blw HB.out⟩⟩
 clear HC2; (try clear p2); (try clear c3); (try clear c5); (try clear c5b0); (try clear c5b1); (try clear c6); (try clear c6b0); (try clear c6b1); (try clear c7); (try clear c7b0); (try clear c7b1); (try clear c9); (try clear c9b0); (try clear hcz10_0); (try clear hcz10_1); (try clear hcz10_2); (try clear hcz10_3); (try clear hcz11_0); (try clear hcz11_1); (try clear hcz11_2); (try clear hcz11_3); (try clear hcz4_0); (try clear hcz4_1); (try clear hcz4_2); (try clear hcz4_3); (try clear hcz8_0); (try clear hcz8_1); (try clear hcz8_2); (try clear hcz8_3); (try clear hfz10_0); (try clear hfz10_1); (try clear hfz10_2); (try clear hfz10_3); (try clear hfz11_0); (try clear hfz11_1); (try clear hfz11_2); (try clear hfz11_3); (try clear hfz4_0); (try clear hfz4_1); (try clear hfz4_2); (try clear hfz4_3); (try clear hfz8_0); (try clear hfz8_1); (try clear hfz8_2); (try clear hfz8_3); obtain ⟨kq, x31_1, rfl, HA, HJ1, BK283, HB⟩ := hcut
 cases kq with
 | zero => exact absurd HA.out (by simp [fastiref04_Check.j0])
 | succ kj1 =>
   have H := HA.out; clear HA
   simp only [fastiref04_Check.j0] at H
   by_cases c12 : x31_1 = true
   · subst c12
     have H1 : (some 40) = some r := by rw [if_pos rfl] at H; exact H
     clear H; have H := H1; clear H1; obtain rfl := Option.some.inj H
     go_wp2
     go_ret
     exact ⟨by first | rfl | (simp [errW_none, errW_some] <;> rfl) | (simp [*, errW_none, errW_some] <;> rfl), blw HB.out⟩
   · replace c12 := Bool.eq_false_iff.mpr c12
     subst c12
     have H1 : (fastiref04_Check.l0 kj1 (l0_0.length : Int) 0 l0_0 l0_1 a0_2 a0_3) = some r := by rw [if_neg (show ¬ (false = true) by decide)] at H; exact H
     clear H; have H := H1; clear H1; have H' := Aside0.mk H; clear H
     go_wp2
     go_loopg [4] kj1 (fun kq v4 w' => ∃ (x4_2 : Int), v4 = .int .i64 x4_2 ∧ Aside0 (fastiref04_Check.l0 kq (l0_0.length : Int) x4_2 l0_0 l0_1 a0_2 a0_3 = some r) ∧ Aside0 (kq ≤ kj1) ∧ Aside0 (w'.heap[gb283]? = some (.cells #[(.slice A0_0 l0_0.length c0_0), (.slice A0_1 l0_1.length c0_1), .int .i64 a0_2, .bool a0_3] 25 (0, 0))) ∧ Aside0 (Below w.heap.size w w'))
     case atStart => exact ⟨(0), (by first | rfl | (simp; done) | (simp [*]; done)), H', ⟨Nat.le_refl _⟩, ⟨zk BK283.out⟩, ⟨blw HB.out⟩⟩
     case round =>
       clear H'; (try clear c1); (try clear p2); (try clear c3); (try clear c5); (try clear c5b0); (try clear c5b1); (try clear c6); (try clear c6b0); (try clear c6b1); (try clear c7); (try clear c7b0); (try clear c7b1); (try clear c9); (try clear c9b0); (try clear c12); (try clear hcz10_0); (try clear hcz10_1); (try clear hcz10_2); (try clear hcz10_3); (try clear hcz11_0); (try clear hcz11_1); (try clear hcz11_2); (try clear hcz11_3); (try clear hcz4_0); (try clear hcz4_1); (try clear hcz4_2); (try clear hcz4_3); (try clear hcz8_0); (try clear hcz8_1); (try clear hcz8_2); (try clear hcz8_3); (try clear hfz10_0); (try clear hfz10_1); (try clear hfz10_2); (try clear hfz10_3); (try clear hfz11_0); (try clear hfz11_1); (try clear hfz11_2); (try clear hfz11_3); (try clear hfz4_0); (try clear hfz4_1); (try clear hfz4_2); (try clear hfz4_3); (try clear hfz8_0); (try clear hfz8_1); (try clear hfz8_2); (try clear hfz8_3); (try clear p2); obtain ⟨x4_2, rfl, HA, HK2, BK283, HB⟩ := hrel
       cases gk with
       | zero => exact absurd HA.out (by simp [fastiref04_Check.l0])
       | succ k2 =>
         have H := HA.out; clear HA
         simp only [fastiref04_Check.l0] at H
         by_cases c13 : x4_2 < (l0_0.length : Int)
         · rw [if_pos c13] at H
           have c13b0 : decide (x4_2 < (l0_0.length : Int)) = true := decide_eq_true c13; clear c13
           by_cases c14 : 0 ≤ x4_2
           · rw [if_pos c14] at H
             have c14b0 : decide (0 ≤ x4_2) = true := decide_eq_true c14; clear c14
             by_cases c15 : x4_2 < (l0_0.length : Int)
             · rw [if_pos c15] at H
               have c15b0 : decide (x4_2 < (l0_0.length : Int)) = true := decide_eq_true c15; clear c15
               by_cases c16 : ((rd_L1 l0_0 x4_2).length : Int) = 128
               · rw [if_pos c16] at H
                 have c16b0 : (((rd_L1 l0_0 x4_2).length : Int) == 128) = true := beq_iff_eq.mpr c16; have c16b1 : (((rd_L1 l0_0 x4_2).length : Int) != 128) = false := bne_eq_false_iff_eq.mpr c16; clear c16; have H' := Aside0.mk H; clear H; have hcz17_0 := bc0 BK283; have hcz17_1 := bc1 BK283; have hcz17_2 := bc2 BK283; have hcz17_3 := bc3 BK283; have hfz17_0 := fz BK283 0; have hfz17_1 := fz BK283 1; have hfz17_2 := fz BK283 2; have hfz17_3 := fz BK283 3; have p284 : 0 ≤ (x4_2 : Int) := of_decide_eq_true (by first | (with_reducible assumption) | assumption); have q284 : x4_2 < (l0_0.length : Int) := of_decide_eq_true (by first | (with_reducible assumption) | assumption); obtain ⟨ad284, A284_0, c284_0, e284, hx284_0, hl284_0, hi284_0⟩ := at_L1 HR0_0.out x4_2 p284 q284; cases e284; replace hx284_0 := (HB.out.cell (World.block_lt_of_cell? w _ hx284_0)).trans hx284_0; have HR284_0 := Aside0.mk hi284_0; have HC284_0 := Aside0.mk hl284_0; clear hi284_0 hl284_0; replace p284 := eq_true p284; replace q284 := eq_true q284
                 go_wp2
                 go_roundg k2
                 case measure => have := HJ1.out; have := HK2.out; omega
                 case rel => exact ⟨(wrap64 (x4_2 + 1)), (by first | rfl | (simp; done) | (simp [*]; done)), H', ⟨by have := HJ1.out; have := HK2.out; omega⟩, ⟨zk BK283.out⟩, ⟨blw HB.out⟩⟩
               · rw [if_neg c16] at H
                 have c16b0 : (((rd_L1 l0_0 x4_2).length : Int) == 128) = false := beq_eq_false_iff_ne.mpr c16; have c16b1 : (((rd_L1 l0_0 x4_2).length : Int) != 128) = true := bne_iff_ne.mpr c16; obtain rfl := Option.some.inj H; have hcz18_0 := bc0 BK283; have hcz18_1 := bc1 BK283; have hcz18_2 := bc2 BK283; have hcz18_3 := bc3 BK283; have hfz18_0 := fz BK283 0; have hfz18_1 := fz BK283 1; have hfz18_2 := fz BK283 2; have hfz18_3 := fz BK283 3; have p284 : 0 ≤ (x4_2 : Int) := of_decide_eq_true (by first | (with_reducible assumption) | assumption); have q284 : x4_2 < (l0_0.length : Int) := of_decide_eq_true (by first | (with_reducible assumption) | assumption); obtain ⟨ad284, A284_0, c284_0, e284, hx284_0, hl284_0, hi284_0⟩ := at_L1 HR0_0.out x4_2 p284 q284; cases e284; replace hx284_0 := (HB.out.cell (World.block_lt_of_cell? w _ hx284_0)).trans hx284_0; have HR284_0 := Aside0.mk hi284_0; have HC284_0 := Aside0.mk hl284_0; clear hi284_0 hl284_0; replace p284 := eq_true p284; replace q284 := eq_true q284
                 go_wp2
                 go_ret
                 exact ⟨by first | rfl | (simp [errW_none, errW_some] <;> rfl) | (simp [*, errW_none, errW_some] <;> rfl), blw HB.out⟩
             · rw [if_neg c15] at H
               exact absurd H (by simp)
           · rw [if_neg c14] at H
             exact absurd H (by simp)
         · rw [if_neg c13] at H
           have c13b0 : decide (x4_2 < (l0_0.length : Int)) = false := decide_eq_false c13; clear c13; have H' := Aside0.mk H; clear H
           go_wp2
           go_loopg [5] k2 (fun kq v5 w' => ∃ (x5_3 : Int), v5 = .int .i64 x5_3 ∧ Aside0 (fastiref04_Check.l1 kq (l0_0.length : Int) x5_3 l0_0 l0_1 a0_2 a0_3 = some r) ∧ Aside0 (kq ≤ k2) ∧ Aside0 (w'.heap[gb283]? = some (.cells #[(.slice A0_0 l0_0.length c0_0), (.slice A0_1 l0_1.length c0_1), .int .i64 a0_2, .bool a0_3] 25 (0, 0))) ∧ Aside0 (Below w.heap.size w w'))
           case atStart => exact ⟨(0), (by first | rfl | (simp; done) | (simp [*]; done)), H', ⟨Nat.le_refl _⟩, ⟨zk BK283.out⟩, ⟨blw HB.out⟩⟩
           case round =>
             clear H'
             (try clear c1); (try clear c2); (try clear p2); (try clear q2); (try clear hx2); (try clear c3); (try clear c5); (try clear c5b0); (try clear c5b1); (try clear c6); (try clear c6b0); (try clear c6b1); (try clear p6); (try clear c7); (try clear c7b0); (try clear c7b1); (try clear c9); (try clear c9b0); (try clear c12); (try clear c13); (try clear c13b0); (try clear c14); (try clear c14b0); (try clear c15); (try clear c15b0); (try clear c16); (try clear c16b0); (try clear c16b1); (try clear hcz10_0); (try clear hcz10_1); (try clear hcz10_2); (try clear hcz10_3); (try clear hcz11_0); (try clear hcz11_1); (try clear hcz11_2); (try clear hcz11_3); (try clear hcz17_0); (try clear hcz17_1); (try clear hcz17_2); (try clear hcz17_3); (try clear hcz18_0); (try clear hcz18_1); (try clear hcz18_2); (try clear hcz18_3); (try clear hcz4_0); (try clear hcz4_1); (try clear hcz4_2); (try clear hcz4_3); (try clear hcz8_0); (try clear hcz8_1); (try clear hcz8_2); (try clear hcz8_3); (try clear hfz10_0); (try clear hfz10_1); (try clear hfz10_2); (try clear hfz10_3); (try clear hfz11_0); (try clear hfz11_1); (try clear hfz11_2); (try clear hfz11_3); (try clear hfz17_0); (try clear hfz17_1); (try clear hfz17_2); (try clear hfz17_3); (try clear hfz18_0); (try clear hfz18_1); (try clear hfz18_2); (try clear hfz18_3); (try clear hfz4_0); (try clear hfz4_1); (try clear hfz4_2); (try clear hfz4_3); (try clear hfz8_0); (try clear hfz8_1); (try clear hfz8_2); (try clear hfz8_3); (try clear hx284_0); (try clear p2); (try clear p284); (try clear q284)
             obtain ⟨x5_3, rfl, HA, HK3, BK283, HB⟩ := hrel
             cases gk with
             | zero => exact absurd HA.out (by simp [fastiref04_Check.l1])
             | succ k3 =>
               have H := HA.out; clear HA
               simp only [fastiref04_Check.l1] at H
               by_cases c19 : x5_3 < (l0_1.length : Int)
               · rw [if_pos c19] at H
                 have c19b0 : decide (x5_3 < (l0_1.length : Int)) = true := decide_eq_true c19; clear c19
                 by_cases c20 : 0 ≤ x5_3
                 · rw [if_pos c20] at H
                   have c20b0 : decide (0 ≤ x5_3) = true := decide_eq_true c20; clear c20
                   by_cases c21 : ((rd_T76 l0_1 x5_3).f0) < 0
                   · rw [if_pos c21] at H
                     have c21b0 : decide (((rd_T76 l0_1 x5_3).f0) < 0) = true := decide_eq_true c21; clear c21; obtain rfl := Option.some.inj H; have hcz22_0 := bc0 BK283; have hcz22_1 := bc1 BK283; have hcz22_2 := bc2 BK283; have hcz22_3 := bc3 BK283; have hfz22_0 := fz BK283 0; have hfz22_1 := fz BK283 1; have hfz22_2 := fz BK283 2; have hfz22_3 := fz BK283 3; have p285 : 0 ≤ (x5_3 : Int) := of_decide_eq_true (by first | (with_reducible assumption) | assumption); have q285 : x5_3 < (l0_1.length : Int) := of_decide_eq_true (by first | (with_reducible assumption) | assumption); obtain ⟨ad285, A285_1, c285_1, e285, hx285_0, hx285_1, hl285_1, hi285_1⟩ := at_T76 HR0_1.out x5_3 p285 q285; cases e285; replace hx285_0 := (HB.out.cell (World.block_lt_of_cell? w _ hx285_0)).trans hx285_0; replace hx285_1 := (HB.out.cell (World.block_lt_of_cell? w _ hx285_1)).trans hx285_1; have HR285_1 := Aside0.mk hi285_1; have HC285_1 := Aside0.mk hl285_1; clear hi285_1 hl285_1; replace p285 := eq_true p285; replace q285 := eq_true q285
                     go_wp2_with (first | ((with_reducible refine gate_dst (N := 6) rfl ?_); (try (refine gate_guard (by rfl) ?_; dsimp only)); refine boxA (N := 6) #[.int .i64 0, .slice none 0 0] 76 ?_; intro gb286 hg w23 hbox hb; have BK286 := Aside0.mk (hbox); have GW286 := gW HB hg; have GE286 := gW HB hg; replace HB := sB HB hb; have NB283_286 := nL BK283 hg; have NB286_283 := nG NB283_286; replace BK283 := bB BK283 hb; clear hb hbox hg; have hnb24 := NB286_283.out; have hnc24 := NB283_286.out; have hcz25_0 := bc0 BK286; have hcz25_1 := bc1 BK286; have hfz25_0 := fz BK286 0; have hfz25_1 := fz BK286 1))
                     go_ret
                     exact ⟨by first | rfl | (simp [errW_none, errW_some] <;> rfl) | (simp [*, errW_none, errW_some] <;> rfl), blw HB.out⟩
                   · rw [if_neg c21] at H
                     have c21b0 : decide (((rd_T76 l0_1 x5_3).f0) < 0) = false := decide_eq_false c21; clear c21
                     by_cases c26 : ((rd_T76 l0_1 x5_3).f0) ≥ (l0_0.length : Int)
                     · rw [if_pos c26] at H
                       have c26b0 : decide ((l0_0.length : Int) ≤ ((rd_T76 l0_1 x5_3).f0)) = true := decide_eq_true c26; clear c26; obtain rfl := Option.some.inj H; have hcz27_0 := bc0 BK283; have hcz27_1 := bc1 BK283; have hcz27_2 := bc2 BK283; have hcz27_3 := bc3 BK283; have hfz27_0 := fz BK283 0; have hfz27_1 := fz BK283 1; have hfz27_2 := fz BK283 2; have hfz27_3 := fz BK283 3; have p285 : 0 ≤ (x5_3 : Int) := of_decide_eq_true (by first | (with_reducible assumption) | assumption); have q285 : x5_3 < (l0_1.length : Int) := of_decide_eq_true (by first | (with_reducible assumption) | assumption); obtain ⟨ad285, A285_1, c285_1, e285, hx285_0, hx285_1, hl285_1, hi285_1⟩ := at_T76 HR0_1.out x5_3 p285 q285; cases e285; replace hx285_0 := (HB.out.cell (World.block_lt_of_cell? w _ hx285_0)).trans hx285_0; replace hx285_1 := (HB.out.cell (World.block_lt_of_cell? w _ hx285_1)).trans hx285_1; have HR285_1 := Aside0.mk hi285_1; have HC285_1 := Aside0.mk hl285_1; clear hi285_1 hl285_1; replace p285 := eq_true p285; replace q285 := eq_true q285
                       go_wp2_with (first | ((with_reducible refine gate_dst (N := 6) rfl ?_); (try (refine gate_guard (by rfl) ?_; dsimp only)); refine boxA (N := 6) #[.int .i64 0, .slice none 0 0] 76 ?_; intro gb286 hg w28 hbox hb; have BK286 := Aside0.mk (hbox); have GW286 := gW HB hg; have GE286 := gW HB hg; replace HB := sB HB hb; have NB283_286 := nL BK283 hg; have NB286_283 := nG NB283_286; replace BK283 := bB BK283 hb; clear hb hbox hg; have hnb29 := NB286_283.out; have hnc29 := NB283_286.out; have hcz30_0 := bc0 BK286; have hcz30_1 := bc1 BK286; have hfz30_0 := fz BK286 0; have hfz30_1 := fz BK286 1))
                       go_ret
                       exact ⟨by first | rfl | (simp [errW_none, errW_some] <;> rfl) | (simp [*, errW_none, errW_some] <;> rfl), blw HB.out⟩
                     · rw [if_neg c26] at H
                       have c26b0 : decide ((l0_0.length : Int) ≤ ((rd_T76 l0_1 x5_3).f0)) = false := decide_eq_false c26; clear c26
                       by_cases c31 : (((rd_T76 l0_1 x5_3).f1).length : Int) = 128
                       · rw [if_pos c31] at H
                         have c31b0 : ((((rd_T76 l0_1 x5_3).f1).length : Int) == 128) = true := beq_iff_eq.mpr c31; have c31b1 : ((((rd_T76 l0_1 x5_3).f1).length : Int) != 128) = false := bne_eq_false_iff_eq.mpr c31; clear c31; have H' := Aside0.mk H; clear H; have hcz32_0 := bc0 BK283; have hcz32_1 := bc1 BK283; have hcz32_2 := bc2 BK283; have hcz32_3 := bc3 BK283; have hfz32_0 := fz BK283 0; have hfz32_1 := fz BK283 1; have hfz32_2 := fz BK283 2; have hfz32_3 := fz BK283 3; have p285 : 0 ≤ (x5_3 : Int) := of_decide_eq_true (by first | (with_reducible assumption) | assumption); have q285 : x5_3 < (l0_1.length : Int) := of_decide_eq_true (by first | (with_reducible assumption) | assumption); obtain ⟨ad285, A285_1, c285_1, e285, hx285_0, hx285_1, hl285_1, hi285_1⟩ := at_T76 HR0_1.out x5_3 p285 q285; cases e285; replace hx285_0 := (HB.out.cell (World.block_lt_of_cell? w _ hx285_0)).trans hx285_0; replace hx285_1 := (HB.out.cell (World.block_lt_of_cell? w _ hx285_1)).trans hx285_1; have HR285_1 := Aside0.mk hi285_1; have HC285_1 := Aside0.mk hl285_1; clear hi285_1 hl285_1; replace p285 := eq_true p285; replace q285 := eq_true q285
                         go_wp2_with (first | ((with_reducible refine gate_dst (N := 6) rfl ?_); (try (refine gate_guard (by rfl) ?_; dsimp only)); refine boxA (N := 6) #[.int .i64 0, .slice none 0 0] 76 ?_; intro gb286 hg w33 hbox hb; have BK286 := Aside0.mk (hbox); have GW286 := gW HB hg; have GE286 := gW HB hg; replace HB := sB HB hb; have NB283_286 := nL BK283 hg; have NB286_283 := nG NB283_286; replace BK283 := bB BK283 hb; clear hb hbox hg; have hnb34 := NB286_283.out; have hnc34 := NB283_286.out; have hcz35_0 := bc0 BK286; have hcz35_1 := bc1 BK286; have hfz35_0 := fz BK286 0; have hfz35_1 := fz BK286 1))
                         go_roundg k3
                         case measure => have := HJ1.out; have := HK2.out; have := HK3.out; omega
                         case rel => exact ⟨(wrap64 (x5_3 + 1)), (by first | rfl | (simp; done) | (simp [*]; done)), H', ⟨by have := HJ1.out; have := HK2.out; have := HK3.out; omega⟩, ⟨zf BK283.out⟩, ⟨blw HB.out⟩⟩
                       · rw [if_neg c31] at H
                         have c31b0 : ((((rd_T76 l0_1 x5_3).f1).length : Int) == 128) = false := beq_eq_false_iff_ne.mpr c31; have c31b1 : ((((rd_T76 l0_1 x5_3).f1).length : Int) != 128) = true := bne_iff_ne.mpr c31; obtain rfl := Option.some.inj H; have hcz36_0 := bc0 BK283; have hcz36_1 := bc1 BK283; have hcz36_2 := bc2 BK283; have hcz36_3 := bc3 BK283; have hfz36_0 := fz BK283 0; have hfz36_1 := fz BK283 1; have hfz36_2 := fz BK283 2; have hfz36_3 := fz BK283 3; have p285 : 0 ≤ (x5_3 : Int) := of_decide_eq_true (by first | (with_reducible assumption) | assumption); have q285 : x5_3 < (l0_1.length : Int) := of_decide_eq_true (by first | (with_reducible assumption) | assumption); obtain ⟨ad285, A285_1, c285_1, e285, hx285_0, hx285_1, hl285_1, hi285_1⟩ := at_T76 HR0_1.out x5_3 p285 q285; cases e285; replace hx285_0 := (HB.out.cell (World.block_lt_of_cell? w _ hx285_0)).trans hx285_0; replace hx285_1 := (HB.out.cell (World.block_lt_of_cell? w _ hx285_1)).trans hx285_1; have HR285_1 := Aside0.mk hi285_1; have HC285_1 := Aside0.mk hl285_1; clear hi285_1 hl285_1; replace p285 := eq_true p285; replace q285 := eq_true q285
                         go_wp2_with (first | ((with_reducible refine gate_dst (N := 6) rfl ?_); (try (refine gate_guard (by rfl) ?_; dsimp only)); refine boxA (N := 6) #[.int .i64 0, .slice none 0 0] 76 ?_; intro gb286 hg w37 hbox hb; have BK286 := Aside0.mk (hbox); have GW286 := gW HB hg; have GE286 := gW HB hg; replace HB := sB HB hb; have NB283_286 := nL BK283 hg; have NB286_283 := nG NB283_286; replace BK283 := bB BK283 hb; clear hb hbox hg; have hnb38 := NB286_283.out; have hnc38 := NB283_286.out; have hcz39_0 := bc0 BK286; have hcz39_1 := bc1 BK286; have hfz39_0 := fz BK286 0; have hfz39_1 := fz BK286 1))
                         go_ret
                         exact ⟨by first | rfl | (simp [errW_none, errW_some] <;> rfl) | (simp [*, errW_none, errW_some] <;> rfl), blw HB.out⟩
                 · rw [if_neg c20] at H
                   exact absurd H (by simp)
               · rw [if_neg c19] at H
                 have c19b0 : decide (x5_3 < (l0_1.length : Int)) = false := decide_eq_false c19; clear c19; obtain rfl := Option.some.inj H; have hcz40_0 := bc0 BK283; have hcz40_1 := bc1 BK283; have hcz40_2 := bc2 BK283; have hcz40_3 := bc3 BK283; have hfz40_0 := fz BK283 0; have hfz40_1 := fz BK283 1; have hfz40_2 := fz BK283 2; have hfz40_3 := fz BK283 3
                 go_wp2
                 go_ret
                 exact ⟨by first | rfl | (simp [errW_none, errW_some] <;> rfl) | (simp [*, errW_none, errW_some] <;> rfl), blw HB.out⟩

/-! ### fastiref05_number: function 63 -/
def fastiref05_number.l0 : Nat → List Int → Int → Int → Option (Int)
  | 0, _, _, _ => none
  | k + 1, x0, x3, x4 => if x4 < (x0.length : Int) then (if 0 ≤ x4 then (fastiref05_number.l0 k x0 (IntKind.u64.wrap ((IntKind.u64.wrap (256 * x3)) + (IntKind.u64.wrap (rd x0 x4)))) (wrap64 (x4 + 1))) else (none)) else (some x3)
def fastiref05_number.f (k : Nat) (l0 : List Int) : Option (Int) := fastiref05_number.l0 k l0 0 0
set_option maxRecDepth 100000 in
theorem fastiref05_number.mono_l : ∀ k, (∀ y0 y1 y2, LeO (fastiref05_number.l0 k y0 y1 y2) (fastiref05_number.l0 (k + 1) y0 y1 y2))
  | 0 => fun _ _ _ r h => by simp [fastiref05_number.l0] at h
  | k + 1 => by
    have ih0 := fastiref05_number.mono_l k
    · intro y0 y1 y2
      unfold fastiref05_number.l0
      repeat' first
      | (with_reducible exact ih0 _ _ _)
      | (with_reducible exact LeO.refl _)
      | (with_reducible exact LeO.none _)
      | (with_reducible refine LeO.ite ?_ ?_)
      | (with_reducible refine LeO.bind ?_ (fun _ => ?_))
      | exact ih0 _ _ _
      | exact LeO.none _
      | refine LeO.ite ?_ ?_
      | refine LeO.bind ?_ (fun _ => ?_)
theorem fastiref05_number.mono : ∀ a0 k, LeO (fastiref05_number.f k a0) (fastiref05_number.f (k + 1) a0) := by
  intro a0 k
  have ih0 := fastiref05_number.mono_l k
  unfold fastiref05_number.f
  repeat' first
      | (with_reducible exact ih0 _ _ _)
      | (with_reducible exact LeO.refl _)
      | (with_reducible exact LeO.none _)
      | (with_reducible refine LeO.ite ?_ ?_)
      | (with_reducible refine LeO.bind ?_ (fun _ => ?_))
      | exact ih0 _ _ _
      | exact LeO.none _
      | refine LeO.ite ?_ ?_
      | refine LeO.bind ?_ (fun _ => ?_)
set_option maxHeartbeats 8000000 in
set_option maxRecDepth 100000 in
theorem fastiref05_number.calls (k : Nat) (A0 : Option Addr) (c0 : Nat) (l0 : List Int) (r : Int) (w : World) (hr0 : Kd.C (Kd.int .u8) w A0 l0.length l0) (hc0 : l0.length ≤ c0) (h : fastiref05_number.f k l0 = some r) :
    Calls Try.prog 63 #[.slice A0 l0.length c0] w fun e w' => e = .returned (.int .u64 r) ∧ Drawn0 w w' := by
 have HR0 := Aside0.mk hr0; have HC0 := Aside0.mk hc0; clear hr0 hc0; have H : (fastiref05_number.l0 k l0 0 0) = some r := h; clear h; have H' := Aside0.mk H; clear H
 go_enter Try.func63, Try.ntmps63
 go_wp2
 go_loopg [3, 4] k (fun kq v3 v4 w' => ∃ (x3_1 : Int) (x4_1 : Int), v3 = .int .u64 x3_1 ∧ v4 = .int .i64 x4_1 ∧ Aside0 (fastiref05_number.l0 kq l0 x3_1 x4_1 = some r) ∧ Aside0 (kq ≤ k) ∧ Drawn0 w w')
 case atStart => exact ⟨(0), (0), (by first | rfl | (simp; done) | (simp [*]; done)), (by first | rfl | (simp; done) | (simp [*]; done)), H', ⟨Nat.le_refl _⟩, by repeat (first | exact Drawn0.refl _ | apply Drawn0.step)⟩
 clear H'; obtain ⟨x3_1, x4_1, rfl, rfl, HA, HK1, ⟨m1, rfl⟩⟩ := hrel
 cases gk with
 | zero => exact absurd HA.out (by simp [fastiref05_number.l0])
 | succ k1 =>
   have H := HA.out; clear HA
   simp only [fastiref05_number.l0] at H
   by_cases c2 : x4_1 < (l0.length : Int)
   · rw [if_pos c2] at H
     have c2b0 : decide (x4_1 < (l0.length : Int)) = true := decide_eq_true c2; clear c2
     by_cases c3 : 0 ≤ x4_1
     · rw [if_pos c3] at H
       have c3b0 : decide (0 ≤ x4_1) = true := decide_eq_true c3; clear c3; have H' := Aside0.mk H; clear H; have p287 : 0 ≤ (x4_1 : Int) := of_decide_eq_true (by first | (with_reducible assumption) | assumption); have q287 : x4_1 < (l0.length : Int) := of_decide_eq_true (by first | (with_reducible assumption) | assumption); obtain ⟨ad287, e287, hx287_0⟩ := Kd.at_int HR0.out x4_1 p287 q287; cases e287; replace p287 := eq_true p287; replace q287 := eq_true q287
       go_wp2
       go_roundg k1
       case measure => have := HK1.out; omega
       case rel => exact ⟨(IntKind.u64.wrap ((IntKind.u64.wrap (256 * x3_1)) + (IntKind.u64.wrap (rd l0 x4_1)))), (wrap64 (x4_1 + 1)), (by first | rfl | (simp; done) | (simp [*]; done)), (by first | rfl | (simp; done) | (simp [*]; done)), H', ⟨by have := HK1.out; omega⟩, by repeat (first | exact Drawn0.refl _ | apply Drawn0.step)⟩
     · rw [if_neg c3] at H
       exact absurd H (by simp)
   · rw [if_neg c2] at H
     have c2b0 : decide (x4_1 < (l0.length : Int)) = false := decide_eq_false c2; clear c2; obtain rfl := Option.some.inj H
     go_wp2
     go_ret
     exact ⟨by first | rfl | (simp; done) | (simp [*]; done), by repeat (first | exact Drawn0.refl _ | apply Drawn0.step)⟩

end Go.Proofs.Ytljmdkeeppikhaa.Q
