/- Functions of the translation as plain Lean functions, and proofs that the calls do what these say; written by a program of this session round the kit's print. -/
import Derived.Test.YtgiinjfandeddaaQ0
import Derived.Test.YtgiinjfandeddaaAidB
import Derived.Test.YtgiinjfandeddaaAidC
namespace Go.Proofs.Ytgiinjfandeddaa.Q
open Go.RowKit Go.Proofs.YtgiinjfandeddaaW.PrintWords Go.Proofs.YtgiinjfandeddaaW.PrintLast Go.Proofs.YtgiinjfandeddaaW.PrintMore
attribute [local go_sem] max2_int min2_int max_two min_two max_three min_three max_four min_four   -- for this text's walks alone
set_option linter.unusedVariables false
set_option linter.unusedSimpArgs false

/-! ### fastiref14_Check: function 18 -/
mutual
def fastiref14_Check.l0 : Nat → List (List Int) → Int → Option (Int)
  | 0, _, _ => none
  | k + 1, x0, x3 => if x3 < (x0.length : Int) then (if 0 ≤ x3 then (if ((rd_L1 x0 x3).length : Int) > 16 then (some 2) else (fastiref14_Check.l0 k x0 (wrap64 (x3 + 1)))) else (none)) else (fastiref14_Check.l1 k x0 0)
def fastiref14_Check.l1 : Nat → List (List Int) → Int → Option (Int)
  | 0, _, _ => none
  | k + 1, x0, x4 => if x4 < (x0.length : Int) then (if 0 ≤ x4 then (if 0 < (x0.length : Int) then (if ((rd_L1 x0 x4).length : Int) = ((rd_L1 x0 0).length : Int) then (fastiref14_Check.l2 k x0 x4 0) else (some 140)) else (none)) else (none)) else (some 0)
def fastiref14_Check.l2 : Nat → List (List Int) → Int → Int → Option (Int)
  | 0, _, _, _ => none
  | k + 1, x0, x4, x5 => if 0 ≤ x4 then (if x4 < (x0.length : Int) then (if x5 < ((rd_L1 x0 x4).length : Int) then (if 0 ≤ x5 then (if (rd (rd_L1 x0 x4) x5) < (-1) then (some 140) else (if (rd (rd_L1 x0 x4) x5) > 1073741824 then (some 140) else (fastiref14_Check.l2 k x0 x4 (wrap64 (x5 + 1))))) else (none)) else (fastiref14_Check.l1 k x0 (wrap64 (x4 + 1)))) else (none)) else (none)
end
def fastiref14_Check.f (k : Nat) (l0 : List (List Int)) : Option (Int) := if (l0.length : Int) > 16 then (some 2) else (fastiref14_Check.l0 k l0 0)
theorem fastiref14_Check.mono_l : ∀ k, (∀ y0 y1, LeO (fastiref14_Check.l0 k y0 y1) (fastiref14_Check.l0 (k + 1) y0 y1)) ∧ (∀ y0 y1, LeO (fastiref14_Check.l1 k y0 y1) (fastiref14_Check.l1 (k + 1) y0 y1)) ∧ (∀ y0 y1 y2, LeO (fastiref14_Check.l2 k y0 y1 y2) (fastiref14_Check.l2 (k + 1) y0 y1 y2))
  | 0 => ⟨fun _ _ r h => by simp [fastiref14_Check.l0] at h, fun _ _ r h => by simp [fastiref14_Check.l1] at h, fun _ _ _ r h => by simp [fastiref14_Check.l2] at h⟩
  | k + 1 => by
    obtain ⟨ih0, ih1, ih2⟩ := fastiref14_Check.mono_l k
    refine ⟨?_, ?_, ?_⟩
    · intro y0 y1
      unfold fastiref14_Check.l0
      repeat' first
      | (with_reducible exact ih0 _ _)
      | (with_reducible exact ih1 _ _)
      | (with_reducible exact ih2 _ _ _)
      | (with_reducible exact LeO.refl _)
      | (with_reducible exact LeO.none _)
      | (with_reducible refine LeO.ite ?_ ?_)
      | (with_reducible refine LeO.bind ?_ (fun _ => ?_))
      | exact ih0 _ _
      | exact ih1 _ _
      | exact ih2 _ _ _
      | exact LeO.none _
      | refine LeO.ite ?_ ?_
      | refine LeO.bind ?_ (fun _ => ?_)
    · intro y0 y1
      unfold fastiref14_Check.l1
      repeat' first
      | (with_reducible exact ih0 _ _)
      | (with_reducible exact ih1 _ _)
      | (with_reducible exact ih2 _ _ _)
      | (with_reducible exact LeO.refl _)
      | (with_reducible exact LeO.none _)
      | (with_reducible refine LeO.ite ?_ ?_)
      | (with_reducible refine LeO.bind ?_ (fun _ => ?_))
      | exact ih0 _ _
      | exact ih1 _ _
      | exact ih2 _ _ _
      | exact LeO.none _
      | refine LeO.ite ?_ ?_
      | refine LeO.bind ?_ (fun _ => ?_)
    · intro y0 y1 y2
      unfold fastiref14_Check.l2
      repeat' first
      | (with_reducible exact ih0 _ _)
      | (with_reducible exact ih1 _ _)
      | (with_reducible exact ih2 _ _ _)
      | (with_reducible exact LeO.refl _)
      | (with_reducible exact LeO.none _)
      | (with_reducible refine LeO.ite ?_ ?_)
      | (with_reducible refine LeO.bind ?_ (fun _ => ?_))
      | exact ih0 _ _
      | exact ih1 _ _
      | exact ih2 _ _ _
      | exact LeO.none _
      | refine LeO.ite ?_ ?_
      | refine LeO.bind ?_ (fun _ => ?_)
theorem fastiref14_Check.mono : ∀ a0 k, LeO (fastiref14_Check.f k a0) (fastiref14_Check.f (k + 1) a0) := by
  intro a0 k
  obtain ⟨ih0, ih1, ih2⟩ := fastiref14_Check.mono_l k
  unfold fastiref14_Check.f
  repeat' first
      | (with_reducible exact ih0 _ _)
      | (with_reducible exact ih1 _ _)
      | (with_reducible exact ih2 _ _ _)
      | (with_reducible exact LeO.refl _)
      | (with_reducible exact LeO.none _)
      | (with_reducible refine LeO.ite ?_ ?_)
      | (with_reducible refine LeO.bind ?_ (fun _ => ?_))
      | exact ih0 _ _
      | exact ih1 _ _
      | exact ih2 _ _ _
      | exact LeO.none _
      | refine LeO.ite ?_ ?_
      | refine LeO.bind ?_ (fun _ => ?_)
set_option maxHeartbeats 8000000 in
set_option maxRecDepth 100000 in
theorem fastiref14_Check.calls (k : Nat) (A0 : Option Addr) (c0 : Nat) (l0 : List (List Int)) (r : Int) (w : World) (hr0 : Kd.C (Kd.slice 3 (Kd.int .i64)) w A0 l0.length l0) (hc0 : l0.length ≤ c0) (h : fastiref14_Check.f k l0 = some r) :
    Calls Try.prog 18 #[.slice A0 l0.length c0] w fun e w' => e = .returned (.int .i64 r) ∧ Drawn0 w w' := by
 have HR0 := Aside0.mk hr0; have HC0 := Aside0.mk hc0; clear hr0 hc0; have H : (if (l0.length : Int) > 16 then (some 2) else (fastiref14_Check.l0 k l0 0)) = some r := h; clear h
 by_cases c2 : (l0.length : Int) > 16
 ·rw [if_pos c2] at H
  have c2b0 : decide (16 < (l0.length : Int)) = true := decide_eq_true c2; have c2b1 : decide (16 < l0.length) = true := decide_eq_true (by omega); clear c2; obtain rfl := Option.some.inj H
  go_enter Try.func18, Try.ntmps18
  go_wp2
  repeat (go_quiet (fail); try go_wp2)
  go_ret
  exact ⟨by first | rfl | (simp; done) | (simp [*]; done), by repeat (first | exact Drawn0.refl _ | apply Drawn0.step)⟩
 rw [if_neg c2] at H; have c2b0 : decide (16 < (l0.length : Int)) = false := decide_eq_false c2; have c2b1 : decide (16 < l0.length) = false := decide_eq_false (by omega); clear c2; have H' := Aside0.mk H; clear H
 go_enter Try.func18, Try.ntmps18
 go_wp2
 repeat (go_quiet (fail); try go_wp2)
 go_loopg [3] k (fun kq v3 w' => ∃ (x3_1 : Int), v3 = .int .i64 x3_1 ∧ Aside0 (fastiref14_Check.l0 kq l0 x3_1 = some r) ∧ Aside0 (kq ≤ k) ∧ Drawn0 w w')
 case atStart => exact ⟨(0), (by first | rfl | (simp; done) | (simp [*]; done)), H', ⟨Nat.le_refl _⟩, by repeat (first | exact Drawn0.refl _ | apply Drawn0.step)⟩
 clear H'; (try clear c1); (try clear c2); (try clear c2b0); (try clear c2b1); (try clear p2); obtain ⟨x3_1, rfl, HA, HK1, ⟨m1, rfl⟩⟩ := hrel
 cases gk with
 | zero => exact absurd HA.out (by simp [fastiref14_Check.l0])
 | succ k1 =>
   have H := HA.out; clear HA
   simp only [fastiref14_Check.l0] at H
   by_cases c3 : x3_1 < (l0.length : Int)
   · rw [if_pos c3] at H
     have c3b0 : decide (x3_1 < (l0.length : Int)) = true := decide_eq_true c3; clear c3
     by_cases c4 : 0 ≤ x3_1
     · rw [if_pos c4] at H
       have c4b0 : decide (0 ≤ x3_1) = true := decide_eq_true c4; clear c4
       by_cases c5 : ((rd_L1 l0 x3_1).length : Int) > 16
       · rw [if_pos c5] at H
         have c5b0 : decide (16 < ((rd_L1 l0 x3_1).length : Int)) = true := decide_eq_true c5; have c5b1 : decide (16 < (rd_L1 l0 x3_1).length) = true := decide_eq_true (by omega); clear c5; obtain rfl := Option.some.inj H; have p313 : 0 ≤ (x3_1 : Int) := of_decide_eq_true (by first | (with_reducible assumption) | assumption); have q313 : x3_1 < (l0.length : Int) := of_decide_eq_true (by first | (with_reducible assumption) | assumption); obtain ⟨ad313, A313_0, c313_0, e313, hx313_0, hl313_0, hi313_0⟩ := at_L1 HR0.out x3_1 p313 q313; cases e313; have HR313_0 := Aside0.mk hi313_0; have HC313_0 := Aside0.mk hl313_0; clear hi313_0 hl313_0; replace p313 := eq_true p313; replace q313 := eq_true q313
         go_wp2
         repeat (go_quiet (fail); try go_wp2)
         go_ret
         exact ⟨by first | rfl | (simp; done) | (simp [*]; done), by repeat (first | exact Drawn0.refl _ | apply Drawn0.step)⟩
       · rw [if_neg c5] at H
         have c5b0 : decide (16 < ((rd_L1 l0 x3_1).length : Int)) = false := decide_eq_false c5; have c5b1 : decide (16 < (rd_L1 l0 x3_1).length) = false := decide_eq_false (by omega); clear c5; have H' := Aside0.mk H; clear H; have p313 : 0 ≤ (x3_1 : Int) := of_decide_eq_true (by first | (with_reducible assumption) | assumption); have q313 : x3_1 < (l0.length : Int) := of_decide_eq_true (by first | (with_reducible assumption) | assumption); obtain ⟨ad313, A313_0, c313_0, e313, hx313_0, hl313_0, hi313_0⟩ := at_L1 HR0.out x3_1 p313 q313; cases e313; have HR313_0 := Aside0.mk hi313_0; have HC313_0 := Aside0.mk hl313_0; clear hi313_0 hl313_0; replace p313 := eq_true p313; replace q313 := eq_true q313
         go_wp2
         repeat (go_quiet (fail); try go_wp2)
         go_roundg k1
         case measure => have := HK1.out; omega
         case rel => exact ⟨(wrap64 (x3_1 + 1)), (by first | rfl | (simp; done) | (simp [*]; done)), H', ⟨by have := HK1.out; omega⟩, by repeat (first | exact Drawn0.refl _ | apply Drawn0.step)⟩
     · rw [if_neg c4] at H
       exact absurd H (by simp)
   · rw [if_neg c3] at H
     have c3b0 : decide (x3_1 < (l0.length : Int)) = false := decide_eq_false c3; clear c3; have H' := Aside0.mk H; clear H
     go_wp2
     repeat (go_quiet (fail); try go_wp2)
     go_loopg [4] k1 (fun kq v4 w' => ∃ (x4_2 : Int), v4 = .int .i64 x4_2 ∧ Aside0 (fastiref14_Check.l1 kq l0 x4_2 = some r) ∧ Aside0 (kq ≤ k1) ∧ Drawn0 w w')
     case atStart => exact ⟨(0), (by first | rfl | (simp; done) | (simp [*]; done)), H', ⟨Nat.le_refl _⟩, by repeat (first | exact Drawn0.refl _ | apply Drawn0.step)⟩
     case round =>
       clear H'; (try clear c1); (try clear c2); (try clear c2b0); (try clear c2b1); (try clear p2); (try clear c3); (try clear c3b0); (try clear p3); (try clear q3); (try clear hx3); (try clear c4); (try clear c4b0); (try clear c5); (try clear c5b0); (try clear c5b1); (try clear hx313_0); (try clear p2); (try clear p313); (try clear q313); obtain ⟨x4_2, rfl, HA, HK2, ⟨m2, rfl⟩⟩ := hrel
       cases gk with
       | zero => exact absurd HA.out (by simp [fastiref14_Check.l1])
       | succ k2 =>
         have H := HA.out; clear HA
         simp only [fastiref14_Check.l1] at H
         by_cases c6 : x4_2 < (l0.length : Int)
         · rw [if_pos c6] at H
           have c6b0 : decide (x4_2 < (l0.length : Int)) = true := decide_eq_true c6; clear c6
           by_cases c7 : 0 ≤ x4_2
           · rw [if_pos c7] at H
             have c7b0 : decide (0 ≤ x4_2) = true := decide_eq_true c7; clear c7
             by_cases c8 : 0 < (l0.length : Int)
             · rw [if_pos c8] at H
               have c8b0 : decide (0 < (l0.length : Int)) = true := decide_eq_true c8; have c8b1 : decide (0 < l0.length) = true := decide_eq_true (by omega); clear c8
               by_cases c9 : ((rd_L1 l0 x4_2).length : Int) = ((rd_L1 l0 0).length : Int)
               · rw [if_pos c9] at H
                 have c9b0 : (((rd_L1 l0 x4_2).length : Int) == ((rd_L1 l0 0).length : Int)) = true := beq_iff_eq.mpr c9; have c9b1 : (((rd_L1 l0 x4_2).length : Int) != ((rd_L1 l0 0).length : Int)) = false := bne_eq_false_iff_eq.mpr c9
                 have c9b2 : ((rd_L1 l0 x4_2).length == (rd_L1 l0 0).length) = true := by first | simpa using c9 | (simp at c9 ⊢; omega)
                 clear c9; have H' := Aside0.mk H; clear H; have p314 : 0 ≤ (x4_2 : Int) := of_decide_eq_true (by first | (with_reducible assumption) | assumption); have q314 : x4_2 < (l0.length : Int) := of_decide_eq_true (by first | (with_reducible assumption) | assumption); obtain ⟨ad314, A314_0, c314_0, e314, hx314_0, hl314_0, hi314_0⟩ := at_L1 HR0.out x4_2 p314 q314; cases e314; have HR314_0 := Aside0.mk hi314_0; have HC314_0 := Aside0.mk hl314_0; clear hi314_0 hl314_0; replace p314 := eq_true p314; replace q314 := eq_true q314; have p315 : 0 ≤ (0 : Int) := (by omega); have q315 : 0 < (l0.length : Int) := of_decide_eq_true (by first | (with_reducible assumption) | assumption); obtain ⟨ad315, A315_0, c315_0, e315, hx315_0, hl315_0, hi315_0⟩ := at_L1 HR0.out 0 p315 q315; obtain rfl : ad314 = ad315 := (by injection e315); have qi315 : (0 < l0.length) = True := eq_true (by omega)
                 (try rw [show ((0 : Int)).toNat = 0 from rfl] at hx315_0)
                 (try rw [Addr.add_zero'] at hx315_0)
                 have HR315_0 := Aside0.mk hi315_0; have HC315_0 := Aside0.mk hl315_0; clear hi315_0 hl315_0; replace p315 := eq_true p315; replace q315 := eq_true q315
                 go_wp2
                 repeat (go_quiet (fail); try go_wp2)
                 go_loopg [5] k2 (fun kq v5 w' => ∃ (x5_3 : Int), v5 = .int .i64 x5_3 ∧ Aside0 (fastiref14_Check.l2 kq l0 x4_2 x5_3 = some r) ∧ Aside0 (kq ≤ k2) ∧ Drawn0 w w')
                 case atStart => exact ⟨(0), (by first | rfl | (simp; done) | (simp [*]; done)), H', ⟨Nat.le_refl _⟩, by repeat (first | exact Drawn0.refl _ | apply Drawn0.step)⟩
                 case round =>
                   clear H'; (try clear c1); (try clear c2); (try clear c2b0); (try clear c2b1); (try clear p2); (try clear c3); (try clear c3b0); (try clear p3); (try clear q3); (try clear hx3); (try clear qi3); (try clear c4); (try clear c4b0); (try clear c5); (try clear c5b0); (try clear c5b1); (try clear c6); (try clear c6b0); (try clear p6); (try clear c7); (try clear c7b0); (try clear c8); (try clear c8b0); (try clear c8b1); (try clear c9); (try clear c9b0); (try clear c9b1); (try clear c9b2); (try clear hx313_0); (try clear hx314_0); (try clear hx315_0); (try clear p2); (try clear p3); (try clear p313); (try clear p314); (try clear p315); (try clear q3); (try clear q313); (try clear q314); (try clear q315); obtain ⟨x5_3, rfl, HA, HK3, ⟨m3, rfl⟩⟩ := hrel
                   cases gk with
                   | zero => exact absurd HA.out (by simp [fastiref14_Check.l2])
                   | succ k3 =>
                     have H := HA.out; clear HA
                     simp only [fastiref14_Check.l2] at H
                     by_cases c10 : 0 ≤ x4_2
                     · rw [if_pos c10] at H
                       have c10b0 : decide (0 ≤ x4_2) = true := decide_eq_true c10; clear c10
                       by_cases c11 : x4_2 < (l0.length : Int)
                       · rw [if_pos c11] at H
                         have c11b0 : decide (x4_2 < (l0.length : Int)) = true := decide_eq_true c11; clear c11
                         by_cases c12 : x5_3 < ((rd_L1 l0 x4_2).length : Int)
                         · rw [if_pos c12] at H
                           have c12b0 : decide (x5_3 < ((rd_L1 l0 x4_2).length : Int)) = true := decide_eq_true c12; clear c12
                           by_cases c13 : 0 ≤ x5_3
                           · rw [if_pos c13] at H
                             have c13b0 : decide (0 ≤ x5_3) = true := decide_eq_true c13; clear c13
                             by_cases c14 : (rd (rd_L1 l0 x4_2) x5_3) < (-1)
                             · rw [if_pos c14] at H
                               have c14b0 : decide ((rd (rd_L1 l0 x4_2) x5_3) < (-1)) = true := decide_eq_true c14; clear c14; obtain rfl := Option.some.inj H; have p316 : 0 ≤ (x4_2 : Int) := of_decide_eq_true (by first | (with_reducible assumption) | assumption); have q316 : x4_2 < (l0.length : Int) := of_decide_eq_true (by first | (with_reducible assumption) | assumption); obtain ⟨ad316, A316_0, c316_0, e316, hx316_0, hl316_0, hi316_0⟩ := at_L1 HR0.out x4_2 p316 q316; obtain rfl : ad314 = ad316 := (by injection e316); have HR316_0 := Aside0.mk hi316_0; have HC316_0 := Aside0.mk hl316_0; clear hi316_0 hl316_0; replace p316 := eq_true p316; replace q316 := eq_true q316; have p317 : 0 ≤ (x4_2 : Int) := of_decide_eq_true (by first | (with_reducible assumption) | assumption); have q317 : x4_2 < (l0.length : Int) := of_decide_eq_true (by first | (with_reducible assumption) | assumption); obtain ⟨ad317, A317_0, c317_0, e317, hx317_0, hl317_0, hi317_0⟩ := at_L1 HR0.out x4_2 p317 q317; obtain rfl : ad314 = ad317 := (by injection e317); have HR317_0 := Aside0.mk hi317_0; have HC317_0 := Aside0.mk hl317_0; clear hi317_0 hl317_0; replace p317 := eq_true p317; replace q317 := eq_true q317; have ea_ := Option.some.inj (hx316_0.symm.trans hx317_0); injection ea_ with ea_ en_ ec_; subst ea_; subst ec_; clear en_; have p318 : 0 ≤ (x5_3 : Int) := of_decide_eq_true (by first | (with_reducible assumption) | assumption)
                               have q318 : x5_3 < ((rd_L1 l0 x4_2).length : Int) := of_decide_eq_true (by first | (with_reducible assumption) | assumption); obtain ⟨ad318, e318, hx318_0⟩ := Kd.at_int HR317_0.out x5_3 p318 q318; cases e318; replace p318 := eq_true p318; replace q318 := eq_true q318
                               go_wp2
                               repeat (go_quiet (fail); try go_wp2)
                               go_ret
                               exact ⟨by first | rfl | (simp; done) | (simp [*]; done), by repeat (first | exact Drawn0.refl _ | apply Drawn0.step)⟩
                             · rw [if_neg c14] at H
                               have c14b0 : decide ((rd (rd_L1 l0 x4_2) x5_3) < (-1)) = false := decide_eq_false c14; clear c14
                               by_cases c15 : (rd (rd_L1 l0 x4_2) x5_3) > 1073741824
                               · rw [if_pos c15] at H
                                 have c15b0 : decide (1073741824 < (rd (rd_L1 l0 x4_2) x5_3)) = true := decide_eq_true c15; clear c15; obtain rfl := Option.some.inj H; have p316 : 0 ≤ (x4_2 : Int) := of_decide_eq_true (by first | (with_reducible assumption) | assumption); have q316 : x4_2 < (l0.length : Int) := of_decide_eq_true (by first | (with_reducible assumption) | assumption); obtain ⟨ad316, A316_0, c316_0, e316, hx316_0, hl316_0, hi316_0⟩ := at_L1 HR0.out x4_2 p316 q316; obtain rfl : ad314 = ad316 := (by injection e316); have HR316_0 := Aside0.mk hi316_0; have HC316_0 := Aside0.mk hl316_0; clear hi316_0 hl316_0; replace p316 := eq_true p316; replace q316 := eq_true q316; have p317 : 0 ≤ (x4_2 : Int) := of_decide_eq_true (by first | (with_reducible assumption) | assumption); have q317 : x4_2 < (l0.length : Int) := of_decide_eq_true (by first | (with_reducible assumption) | assumption); obtain ⟨ad317, A317_0, c317_0, e317, hx317_0, hl317_0, hi317_0⟩ := at_L1 HR0.out x4_2 p317 q317; obtain rfl : ad314 = ad317 := (by injection e317); have HR317_0 := Aside0.mk hi317_0; have HC317_0 := Aside0.mk hl317_0; clear hi317_0 hl317_0; replace p317 := eq_true p317; replace q317 := eq_true q317; have ea_ := Option.some.inj (hx316_0.symm.trans hx317_0); injection ea_ with ea_ en_ ec_; subst ea_; subst ec_; clear en_; have p318 : 0 ≤ (x5_3 : Int) := of_decide_eq_true (by first | (with_reducible assumption) | assumption)
                                 have q318 : x5_3 < ((rd_L1 l0 x4_2).length : Int) := of_decide_eq_true (by first | (with_reducible assumption) | assumption); obtain ⟨ad318, e318, hx318_0⟩ := Kd.at_int HR317_0.out x5_3 p318 q318; cases e318; replace p318 := eq_true p318; replace q318 := eq_true q318; have p319 : 0 ≤ (x4_2 : Int) := of_decide_eq_true (by first | (with_reducible assumption) | assumption); have q319 : x4_2 < (l0.length : Int) := of_decide_eq_true (by first | (with_reducible assumption) | assumption); obtain ⟨ad319, A319_0, c319_0, e319, hx319_0, hl319_0, hi319_0⟩ := at_L1 HR0.out x4_2 p319 q319; obtain rfl : ad314 = ad319 := (by injection e319); have HR319_0 := Aside0.mk hi319_0; have HC319_0 := Aside0.mk hl319_0; clear hi319_0 hl319_0; replace p319 := eq_true p319; replace q319 := eq_true q319; have ea_ := Option.some.inj (hx316_0.symm.trans hx319_0); injection ea_ with ea_ en_ ec_; subst ea_; subst ec_; clear en_; have p320 : 0 ≤ (x5_3 : Int) := of_decide_eq_true (by first | (with_reducible assumption) | assumption); have q320 : x5_3 < ((rd_L1 l0 x4_2).length : Int) := of_decide_eq_true (by first | (with_reducible assumption) | assumption); obtain ⟨ad320, e320, hx320_0⟩ := Kd.at_int HR319_0.out x5_3 p320 q320; cases e320; replace p320 := eq_true p320; replace q320 := eq_true q320
                                 go_wp2
                                 repeat (go_quiet (fail); try go_wp2)
                                 go_ret
                                 exact ⟨by first | rfl | (simp; done) | (simp [*]; done), by repeat (first | exact Drawn0.refl _ | apply Drawn0.step)⟩
                               · rw [if_neg c15] at H
                                 have c15b0 : decide (1073741824 < (rd (rd_L1 l0 x4_2) x5_3)) = false := decide_eq_false c15; clear c15; have H' := Aside0.mk H; clear H; have p316 : 0 ≤ (x4_2 : Int) := of_decide_eq_true (by first | (with_reducible assumption) | assumption); have q316 : x4_2 < (l0.length : Int) := of_decide_eq_true (by first | (with_reducible assumption) | assumption); obtain ⟨ad316, A316_0, c316_0, e316, hx316_0, hl316_0, hi316_0⟩ := at_L1 HR0.out x4_2 p316 q316; obtain rfl : ad314 = ad316 := (by injection e316); have HR316_0 := Aside0.mk hi316_0; have HC316_0 := Aside0.mk hl316_0; clear hi316_0 hl316_0; replace p316 := eq_true p316; replace q316 := eq_true q316; have p317 : 0 ≤ (x4_2 : Int) := of_decide_eq_true (by first | (with_reducible assumption) | assumption); have q317 : x4_2 < (l0.length : Int) := of_decide_eq_true (by first | (with_reducible assumption) | assumption); obtain ⟨ad317, A317_0, c317_0, e317, hx317_0, hl317_0, hi317_0⟩ := at_L1 HR0.out x4_2 p317 q317; obtain rfl : ad314 = ad317 := (by injection e317); have HR317_0 := Aside0.mk hi317_0; have HC317_0 := Aside0.mk hl317_0; clear hi317_0 hl317_0; replace p317 := eq_true p317; replace q317 := eq_true q317; have ea_ := Option.some.inj (hx316_0.symm.trans hx317_0); injection ea_ with ea_ en_ ec_; subst ea_; subst ec_; clear en_; have p318 : 0 ≤ (x5_3 : Int) := of_decide_eq_true (by first | (with_reducible assumption) | assumption)
                                 have q318 : x5_3 < ((rd_L1 l0 x4_2).length : Int) := of_decide_eq_true (by first | (with_reducible assumption) | assumption); obtain ⟨ad318, e318, hx318_0⟩ := Kd.at_int HR317_0.out x5_3 p318 q318; cases e318; replace p318 := eq_true p318; replace q318 := eq_true q318; have p319 : 0 ≤ (x4_2 : Int) := of_decide_eq_true (by first | (with_reducible assumption) | assumption); have q319 : x4_2 < (l0.length : Int) := of_decide_eq_true (by first | (with_reducible assumption) | assumption); obtain ⟨ad319, A319_0, c319_0, e319, hx319_0, hl319_0, hi319_0⟩ := at_L1 HR0.out x4_2 p319 q319; obtain rfl : ad314 = ad319 := (by injection e319); have HR319_0 := Aside0.mk hi319_0; have HC319_0 := Aside0.mk hl319_0; clear hi319_0 hl319_0; replace p319 := eq_true p319; replace q319 := eq_true q319; have ea_ := Option.some.inj (hx316_0.symm.trans hx319_0); injection ea_ with ea_ en_ ec_; subst ea_; subst ec_; clear en_; have p320 : 0 ≤ (x5_3 : Int) := of_decide_eq_true (by first | (with_reducible assumption) | assumption); have q320 : x5_3 < ((rd_L1 l0 x4_2).length : Int) := of_decide_eq_true (by first | (with_reducible assumption) | assumption); obtain ⟨ad320, e320, hx320_0⟩ := Kd.at_int HR319_0.out x5_3 p320 q320; cases e320; replace p320 := eq_true p320; replace q320 := eq_true q320
                                 go_wp2
                                 repeat (go_quiet (fail); try go_wp2)
                                 go_roundg k3
                                 case measure => have := HK1.out; have := HK2.out; have := HK3.out; omega
                                 case rel => exact ⟨(wrap64 (x5_3 + 1)), (by first | rfl | (simp; done) | (simp [*]; done)), H', ⟨by have := HK1.out; have := HK2.out; have := HK3.out; omega⟩, by repeat (first | exact Drawn0.refl _ | apply Drawn0.step)⟩
                           · rw [if_neg c13] at H
                             exact absurd H (by simp)
                         · rw [if_neg c12] at H
                           have c12b0 : decide (x5_3 < ((rd_L1 l0 x4_2).length : Int)) = false := decide_eq_false c12; clear c12; have H' := Aside0.mk H; clear H; have p316 : 0 ≤ (x4_2 : Int) := of_decide_eq_true (by first | (with_reducible assumption) | assumption); have q316 : x4_2 < (l0.length : Int) := of_decide_eq_true (by first | (with_reducible assumption) | assumption); obtain ⟨ad316, A316_0, c316_0, e316, hx316_0, hl316_0, hi316_0⟩ := at_L1 HR0.out x4_2 p316 q316; obtain rfl : ad314 = ad316 := (by injection e316); have HR316_0 := Aside0.mk hi316_0; have HC316_0 := Aside0.mk hl316_0; clear hi316_0 hl316_0; replace p316 := eq_true p316; replace q316 := eq_true q316
                           go_wp2
                           repeat (go_quiet (fail); try go_wp2)
                           go_roundg k3
                           case measure => have := HK1.out; have := HK2.out; have := HK3.out; omega
                           case rel => exact ⟨(wrap64 (x4_2 + 1)), (by first | rfl | (simp; done) | (simp [*]; done)), H', ⟨by have := HK1.out; have := HK2.out; have := HK3.out; omega⟩, by repeat (first | exact Drawn0.refl _ | apply Drawn0.step)⟩
                       · rw [if_neg c11] at H
                         exact absurd H (by simp)
                     · rw [if_neg c10] at H
                       exact absurd H (by simp)
               · rw [if_neg c9] at H
                 have c9b0 : (((rd_L1 l0 x4_2).length : Int) == ((rd_L1 l0 0).length : Int)) = false := beq_eq_false_iff_ne.mpr c9; have c9b1 : (((rd_L1 l0 x4_2).length : Int) != ((rd_L1 l0 0).length : Int)) = true := bne_iff_ne.mpr c9
                 have c9b2 : ((rd_L1 l0 x4_2).length == (rd_L1 l0 0).length) = false := by first | simpa using c9 | (simp at c9 ⊢; omega)
                 obtain rfl := Option.some.inj H; have p314 : 0 ≤ (x4_2 : Int) := of_decide_eq_true (by first | (with_reducible assumption) | assumption); have q314 : x4_2 < (l0.length : Int) := of_decide_eq_true (by first | (with_reducible assumption) | assumption); obtain ⟨ad314, A314_0, c314_0, e314, hx314_0, hl314_0, hi314_0⟩ := at_L1 HR0.out x4_2 p314 q314; cases e314; have HR314_0 := Aside0.mk hi314_0; have HC314_0 := Aside0.mk hl314_0; clear hi314_0 hl314_0; replace p314 := eq_true p314; replace q314 := eq_true q314; have p315 : 0 ≤ (0 : Int) := (by omega); have q315 : 0 < (l0.length : Int) := of_decide_eq_true (by first | (with_reducible assumption) | assumption); obtain ⟨ad315, A315_0, c315_0, e315, hx315_0, hl315_0, hi315_0⟩ := at_L1 HR0.out 0 p315 q315; obtain rfl : ad314 = ad315 := (by injection e315); have qi315 : (0 < l0.length) = True := eq_true (by omega)
                 (try rw [show ((0 : Int)).toNat = 0 from rfl] at hx315_0)
                 (try rw [Addr.add_zero'] at hx315_0)
                 have HR315_0 := Aside0.mk hi315_0; have HC315_0 := Aside0.mk hl315_0; clear hi315_0 hl315_0; replace p315 := eq_true p315; replace q315 := eq_true q315
                 go_wp2
                 repeat (go_quiet (fail); try go_wp2)
                 go_ret
                 exact ⟨by first | rfl | (simp; done) | (simp [*]; done), by repeat (first | exact Drawn0.refl _ | apply Drawn0.step)⟩
             · rw [if_neg c8] at H
               exact absurd H (by simp)
           · rw [if_neg c7] at H
             exact absurd H (by simp)
         · rw [if_neg c6] at H
           have c6b0 : decide (x4_2 < (l0.length : Int)) = false := decide_eq_false c6; clear c6; obtain rfl := Option.some.inj H
           go_wp2
           repeat (go_quiet (fail); try go_wp2)
           go_ret
           exact ⟨by first | rfl | (simp; done) | (simp [*]; done), by repeat (first | exact Drawn0.refl _ | apply Drawn0.step)⟩

/-! ### fastiref14_columns: function 40 -/
def fastiref14_columns.f (l0 : List (List Int)) : Option (Int) := if (l0.length : Int) = 0 then (some 0) else (if 0 < (l0.length : Int) then (some ((rd_L1 l0 0).length : Int)) else (none))
set_option maxHeartbeats 8000000 in
set_option maxRecDepth 100000 in
theorem fastiref14_columns.calls (A0 : Option Addr) (c0 : Nat) (l0 : List (List Int)) (r : Int) (w : World) (hr0 : Kd.C (Kd.slice 3 (Kd.int .i64)) w A0 l0.length l0) (hc0 : l0.length ≤ c0) (h : fastiref14_columns.f l0 = some r) :
    Calls Try.prog 40 #[.slice A0 l0.length c0] w fun e w' => e = .returned (.int .i64 r) ∧ Drawn0 w w' := by
 have HR0 := Aside0.mk hr0; have HC0 := Aside0.mk hc0; clear hr0 hc0; have H : (if (l0.length : Int) = 0 then (some 0) else (if 0 < (l0.length : Int) then (some ((rd_L1 l0 0).length : Int)) else (none))) = some r := h; clear h
 by_cases c2 : (l0.length : Int) = 0
 ·rw [if_pos c2] at H
  have c2b0 : ((l0.length : Int) == 0) = true := beq_iff_eq.mpr c2; have c2b1 : ((l0.length : Int) != 0) = false := bne_eq_false_iff_eq.mpr c2; clear c2; obtain rfl := Option.some.inj H
  go_enter Try.func40, Try.ntmps40
  go_wp2
  go_ret
  exact ⟨by first | rfl | (simp; done) | (simp [*]; done), by repeat (first | exact Drawn0.refl _ | apply Drawn0.step)⟩
 rw [if_neg c2] at H; have c2b0 : ((l0.length : Int) == 0) = false := beq_eq_false_iff_ne.mpr c2; have c2b1 : ((l0.length : Int) != 0) = true := bne_iff_ne.mpr c2; have c2b2 : ¬ (l0 = []) := fun h_ => c2 (by rw [h_]; rfl)
 by_cases c3 : 0 < (l0.length : Int)
 rotate_left
 ·rw [if_neg c3] at H
  exact absurd H (by simp)
 rw [if_pos c3] at H; have c3b0 : decide (0 < (l0.length : Int)) = true := decide_eq_true c3; have c3b1 : decide (0 < l0.length) = true := decide_eq_true (by omega); clear c3; obtain rfl := Option.some.inj H; have p321 : 0 ≤ (0 : Int) := (by omega); have q321 : 0 < (l0.length : Int) := of_decide_eq_true (by first | (with_reducible assumption) | assumption); obtain ⟨ad321, A321_0, c321_0, e321, hx321_0, hl321_0, hi321_0⟩ := at_L1 HR0.out 0 p321 q321; cases e321; have qi321 : (0 < l0.length) = True := eq_true (by omega)
 (try rw [show ((0 : Int)).toNat = 0 from rfl] at hx321_0)
 (try rw [Addr.add_zero'] at hx321_0)
 have HR321_0 := Aside0.mk hi321_0; have HC321_0 := Aside0.mk hl321_0; clear hi321_0 hl321_0; replace p321 := eq_true p321; replace q321 := eq_true q321
 go_enter Try.func40, Try.ntmps40
 go_wp2
 go_ret
 exact ⟨by first | rfl | (simp; done) | (simp [*]; done), by repeat (first | exact Drawn0.refl _ | apply Drawn0.step)⟩

end Go.Proofs.Ytgiinjfandeddaa.Q
