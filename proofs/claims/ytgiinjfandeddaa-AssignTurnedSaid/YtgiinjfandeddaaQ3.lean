/- Functions of the translation as plain Lean functions, and proofs that the calls do what these say; written by a program of this session round the kit's print. -/
import Derived.Test.YtgiinjfandeddaaQ0
import Derived.Test.YtgiinjfandeddaaAidB
import Derived.Test.YtgiinjfandeddaaAidC
import Derived.Test.YtgiinjfandeddaaQ1
import Derived.Test.YtgiinjfandeddaaGCf
namespace Go.Proofs.Ytgiinjfandeddaa.Q
open Go.RowKit Go.Proofs.YtgiinjfandeddaaW.PrintWords Go.Proofs.YtgiinjfandeddaaW.PrintLast Go.Proofs.YtgiinjfandeddaaW.PrintMore
attribute [local go_sem] max2_int min2_int max_two min_two max_three min_three max_four min_four   -- for this text's walks alone
set_option linter.unusedVariables false
set_option linter.unusedSimpArgs false

-- by hand: function 15 (assign_Best)

/-! ### fastiref14_Same: function 19 -/
def fastiref14_Same.l0 : Nat → List Int → List Int → Int → Option (Bool)
  | 0, _, _, _ => none
  | k + 1, x0, x1, x5 => if x5 < (x0.length : Int) then (if 0 ≤ x5 then (if x5 < (x1.length : Int) then (if (rd x0 x5) = (rd x1 x5) then (fastiref14_Same.l0 k x0 x1 (wrap64 (x5 + 1))) else (some false)) else (none)) else (none)) else (some true)
def fastiref14_Same.f (k : Nat) (l0 : List Int) (l1 : List Int) : Option (Bool) := if (l0.length : Int) = (l1.length : Int) then (fastiref14_Same.l0 k l0 l1 0) else (some false)
theorem fastiref14_Same.mono_l : ∀ k, (∀ y0 y1 y2, LeO (fastiref14_Same.l0 k y0 y1 y2) (fastiref14_Same.l0 (k + 1) y0 y1 y2))
  | 0 => fun _ _ _ r h => by simp [fastiref14_Same.l0] at h
  | k + 1 => by
    have ih0 := fastiref14_Same.mono_l k
    · intro y0 y1 y2
      unfold fastiref14_Same.l0
      repeat' first
      | (with_reducible exact ih0 _ _ _)
      | (with_reducible exact LeO.refl _)
      | (with_reducible exact LeO.none _)
      | (with_reducible refine LeO.ite ?_ ?_)
      | (with_reducible refine LeO.bind ?_ (fun _ => ?_))
      | exact ih0 _ _ _
      | exact LeO.none _
      | refine LeO.ite ?_ ?_
      | refine LeO.bind ?_ (fun _ => ?_)
theorem fastiref14_Same.mono : ∀ a0 a1 k, LeO (fastiref14_Same.f k a0 a1) (fastiref14_Same.f (k + 1) a0 a1) := by
  intro a0 a1 k
  have ih0 := fastiref14_Same.mono_l k
  unfold fastiref14_Same.f
  repeat' first
      | (with_reducible exact ih0 _ _ _)
      | (with_reducible exact LeO.refl _)
      | (with_reducible exact LeO.none _)
      | (with_reducible refine LeO.ite ?_ ?_)
      | (with_reducible refine LeO.bind ?_ (fun _ => ?_))
      | exact ih0 _ _ _
      | exact LeO.none _
      | refine LeO.ite ?_ ?_
      | refine LeO.bind ?_ (fun _ => ?_)
set_option maxHeartbeats 8000000 in
set_option maxRecDepth 100000 in
theorem fastiref14_Same.calls (k : Nat) (A0 : Option Addr) (c0 : Nat) (l0 : List Int) (A1 : Option Addr) (c1 : Nat) (l1 : List Int) (r : Bool) (w : World) (hr0 : Kd.C (Kd.int .i64) w A0 l0.length l0) (hc0 : l0.length ≤ c0) (hr1 : Kd.C (Kd.int .i64) w A1 l1.length l1) (hc1 : l1.length ≤ c1) (h : fastiref14_Same.f k l0 l1 = some r) :
    Calls Try.prog 19 #[.slice A0 l0.length c0, .slice A1 l1.length c1] w fun e w' => e = .returned (.bool r) ∧ Drawn0 w w' := by
 have HR0 := Aside0.mk hr0; have HC0 := Aside0.mk hc0; clear hr0 hc0; have HR1 := Aside0.mk hr1; have HC1 := Aside0.mk hc1; clear hr1 hc1; have H : (if (l0.length : Int) = (l1.length : Int) then (fastiref14_Same.l0 k l0 l1 0) else (some false)) = some r := h; clear h
 by_cases c3 : (l0.length : Int) = (l1.length : Int)
 rotate_left
 ·rw [if_neg c3] at H
  have c3b0 : ((l0.length : Int) == (l1.length : Int)) = false := beq_eq_false_iff_ne.mpr c3; have c3b1 : ((l0.length : Int) != (l1.length : Int)) = true := bne_iff_ne.mpr c3
  have c3b2 : (l0.length == l1.length) = false := by first | simpa using c3 | (simp at c3 ⊢; omega)
  obtain rfl := Option.some.inj H
  go_enter Try.func19, Try.ntmps19
  go_wp2
  repeat (go_quiet (fail); try go_wp2)
  go_ret
  exact ⟨by first | rfl | (simp; done) | (simp [*]; done), by repeat (first | exact Drawn0.refl _ | apply Drawn0.step)⟩
 rw [if_pos c3] at H; have c3b0 : ((l0.length : Int) == (l1.length : Int)) = true := beq_iff_eq.mpr c3; have c3b1 : ((l0.length : Int) != (l1.length : Int)) = false := bne_eq_false_iff_eq.mpr c3
 have c3b2 : (l0.length == l1.length) = true := by first | simpa using c3 | (simp at c3 ⊢; omega)
 clear c3; have H' := Aside0.mk H; clear H
 go_enter Try.func19, Try.ntmps19
 go_wp2
 repeat (go_quiet (fail); try go_wp2)
 go_loopg [5] k (fun kq v5 w' => ∃ (x5_1 : Int), v5 = .int .i64 x5_1 ∧ Aside0 (fastiref14_Same.l0 kq l0 l1 x5_1 = some r) ∧ Aside0 (kq ≤ k) ∧ Drawn0 w w')
 case atStart => exact ⟨(0), (by first | rfl | (simp; done) | (simp [*]; done)), H', ⟨Nat.le_refl _⟩, by repeat (first | exact Drawn0.refl _ | apply Drawn0.step)⟩
 clear H'; (try clear c1); (try clear p2); (try clear c3); (try clear c3b0); (try clear c3b1); (try clear c3b2); obtain ⟨x5_1, rfl, HA, HK1, ⟨m1, rfl⟩⟩ := hrel
 cases gk with
 | zero => exact absurd HA.out (by simp [fastiref14_Same.l0])
 | succ k1 =>
   have H := HA.out; clear HA
   simp only [fastiref14_Same.l0] at H
   by_cases c4 : x5_1 < (l0.length : Int)
   · rw [if_pos c4] at H
     have c4b0 : decide (x5_1 < (l0.length : Int)) = true := decide_eq_true c4; clear c4
     by_cases c5 : 0 ≤ x5_1
     · rw [if_pos c5] at H
       have c5b0 : decide (0 ≤ x5_1) = true := decide_eq_true c5; clear c5
       by_cases c6 : x5_1 < (l1.length : Int)
       · rw [if_pos c6] at H
         have c6b0 : decide (x5_1 < (l1.length : Int)) = true := decide_eq_true c6; clear c6
         by_cases c7 : (rd l0 x5_1) = (rd l1 x5_1)
         · rw [if_pos c7] at H
           have c7b0 : ((rd l0 x5_1) == (rd l1 x5_1)) = true := beq_iff_eq.mpr c7; have c7b1 : ((rd l0 x5_1) != (rd l1 x5_1)) = false := bne_eq_false_iff_eq.mpr c7; clear c7; have H' := Aside0.mk H; clear H; have p181 : 0 ≤ (x5_1 : Int) := of_decide_eq_true (by first | (with_reducible assumption) | assumption); have q181 : x5_1 < (l0.length : Int) := of_decide_eq_true (by first | (with_reducible assumption) | assumption); obtain ⟨ad181, e181, hx181_0⟩ := Kd.at_int HR0.out x5_1 p181 q181; cases e181; replace p181 := eq_true p181; replace q181 := eq_true q181; have p182 : 0 ≤ (x5_1 : Int) := of_decide_eq_true (by first | (with_reducible assumption) | assumption); have q182 : x5_1 < (l1.length : Int) := of_decide_eq_true (by first | (with_reducible assumption) | assumption); obtain ⟨ad182, e182, hx182_0⟩ := Kd.at_int HR1.out x5_1 p182 q182; cases e182; replace p182 := eq_true p182; replace q182 := eq_true q182
           go_wp2
           repeat (go_quiet (fail); try go_wp2)
           go_roundg k1
           case measure => have := HK1.out; omega
           case rel => exact ⟨(wrap64 (x5_1 + 1)), (by first | rfl | (simp; done) | (simp [*]; done)), H', ⟨by have := HK1.out; omega⟩, by repeat (first | exact Drawn0.refl _ | apply Drawn0.step)⟩
         · rw [if_neg c7] at H
           have c7b0 : ((rd l0 x5_1) == (rd l1 x5_1)) = false := beq_eq_false_iff_ne.mpr c7; have c7b1 : ((rd l0 x5_1) != (rd l1 x5_1)) = true := bne_iff_ne.mpr c7; obtain rfl := Option.some.inj H; have p181 : 0 ≤ (x5_1 : Int) := of_decide_eq_true (by first | (with_reducible assumption) | assumption); have q181 : x5_1 < (l0.length : Int) := of_decide_eq_true (by first | (with_reducible assumption) | assumption); obtain ⟨ad181, e181, hx181_0⟩ := Kd.at_int HR0.out x5_1 p181 q181; cases e181; replace p181 := eq_true p181; replace q181 := eq_true q181; have p182 : 0 ≤ (x5_1 : Int) := of_decide_eq_true (by first | (with_reducible assumption) | assumption); have q182 : x5_1 < (l1.length : Int) := of_decide_eq_true (by first | (with_reducible assumption) | assumption); obtain ⟨ad182, e182, hx182_0⟩ := Kd.at_int HR1.out x5_1 p182 q182; cases e182; replace p182 := eq_true p182; replace q182 := eq_true q182
           go_wp2
           repeat (go_quiet (fail); try go_wp2)
           go_ret
           exact ⟨by first | rfl | (simp; done) | (simp [*]; done), by repeat (first | exact Drawn0.refl _ | apply Drawn0.step)⟩
       · rw [if_neg c6] at H
         exact absurd H (by simp)
     · rw [if_neg c5] at H
       exact absurd H (by simp)
   · rw [if_neg c4] at H
     have c4b0 : decide (x5_1 < (l0.length : Int)) = false := decide_eq_false c4; clear c4; obtain rfl := Option.some.inj H
     go_wp2
     repeat (go_quiet (fail); try go_wp2)
     go_ret
     exact ⟨by first | rfl | (simp; done) | (simp [*]; done), by repeat (first | exact Drawn0.refl _ | apply Drawn0.step)⟩

-- by hand: function 47 (slices_IndexFunc_int_int)

/-! ### assign_Proves: function 20 -/
mutual
def assign_Proves.j0 : Nat → List (List Int) → List Int → List Int → Int → Bool → Option (Int × Bool × Int)
  | 0, _, _, _, _, _ => none
  | k + 1, x0, x1, x2, x6, x35 => if x35 = true then (some (0, false, 0)) else (assign_Proves.l0 k x0 x1 x2 x6 x2 (x2.length : Int) 0)
def assign_Proves.l0 : Nat → List (List Int) → List Int → List Int → Int → List Int → Int → Int → Option (Int × Bool × Int)
  | 0, _, _, _, _, _, _, _ => none
  | k + 1, x0, x1, x2, x6, x36, x37, x38 => if x38 < x37 then (if 0 ≤ x38 then (if x38 < (x36.length : Int) then (assign_Proves.l0 k x0 x1 x2 (wrap64 (x6 + (rd x36 x38))) x36 x37 (wrap64 (x38 + 1))) else (none)) else (none)) else (assign_Proves.l1 k x0 x2 x6 x1 (x1.length : Int) 0)
def assign_Proves.l1 : Nat → List (List Int) → List Int → Int → List Int → Int → Int → Option (Int × Bool × Int)
  | 0, _, _, _, _, _, _ => none
  | k + 1, x0, x2, x6, x46, x47, x48 => if x48 < x47 then (if 0 ≤ x48 then (if x48 < (x46.length : Int) then (if (rd x46 x48) < (-1099511627776) then (assign_Proves.j3 k x0 x2 x6 x48 (rd x46 x48) x46 x47 x48 true) else (assign_Proves.j3 k x0 x2 x6 x48 (rd x46 x48) x46 x47 x48 (decide ((rd x46 x48) > 1099511627776)))) else (none)) else (none)) else (some (x6, true, 0))
def assign_Proves.j3 : Nat → List (List Int) → List Int → Int → Int → Int → List Int → Int → Int → Bool → Option (Int × Bool × Int)
  | 0, _, _, _, _, _, _, _, _, _ => none
  | k + 1, x0, x2, x6, x11, x12, x46, x47, x48, x58 => if x58 = true then (some (0, false, 0)) else (if 0 ≤ x11 then (if x11 < (x0.length : Int) then (assign_Proves.l2 k x0 x2 (wrap64 (x6 + x12)) x12 x46 x47 x48 (rd_L1 x0 x11) ((rd_L1 x0 x11).length : Int) 0) else (none)) else (none))
def assign_Proves.l2 : Nat → List (List Int) → List Int → Int → Int → List Int → Int → Int → List Int → Int → Int → Option (Int × Bool × Int)
  | 0, _, _, _, _, _, _, _, _, _, _ => none
  | k + 1, x0, x2, x6, x12, x46, x47, x48, x65, x66, x67 => if x67 < x66 then (if 0 ≤ x67 then (if x67 < (x65.length : Int) then (if (rd x65 x67) ≥ 0 then (if x67 < (x2.length : Int) then (if (wrap64 (x12 + (rd x2 x67))) > (rd x65 x67) then (some (0, false, 0)) else (assign_Proves.l2 k x0 x2 x6 x12 x46 x47 x48 x65 x66 (wrap64 (x67 + 1)))) else (none)) else (assign_Proves.l2 k x0 x2 x6 x12 x46 x47 x48 x65 x66 (wrap64 (x67 + 1)))) else (none)) else (none)) else (assign_Proves.l1 k x0 x2 x6 x46 x47 (wrap64 (x48 + 1)))
end
def assign_Proves.f (k : Nat) (l0 : List (List Int)) (l1 : List Int) (l2 : List Int) : Option (Int × Bool × Int) := (assign_Check.f k l0).bind fun t183 => (if t183 = 0 then (if (l1.length : Int) = (l0.length : Int) then ((assign_width.f l0).bind fun t184 => (if (l2.length : Int) = t184 then ((slices_IndexFunc_int_int.f l2).bind fun t185 => (assign_Proves.j0 k l0 l1 l2 0 t185)) else (assign_Proves.j0 k l0 l1 l2 0 true))) else (assign_Proves.j0 k l0 l1 l2 0 true)) else (some (0, false, t183)))
theorem assign_Proves.mono_l : ∀ k, (∀ y0 y1 y2 y3 y4, LeO (assign_Proves.j0 k y0 y1 y2 y3 y4) (assign_Proves.j0 (k + 1) y0 y1 y2 y3 y4)) ∧ (∀ y0 y1 y2 y3 y4 y5 y6, LeO (assign_Proves.l0 k y0 y1 y2 y3 y4 y5 y6) (assign_Proves.l0 (k + 1) y0 y1 y2 y3 y4 y5 y6)) ∧ (∀ y0 y1 y2 y3 y4 y5, LeO (assign_Proves.l1 k y0 y1 y2 y3 y4 y5) (assign_Proves.l1 (k + 1) y0 y1 y2 y3 y4 y5)) ∧ (∀ y0 y1 y2 y3 y4 y5 y6 y7 y8, LeO (assign_Proves.j3 k y0 y1 y2 y3 y4 y5 y6 y7 y8) (assign_Proves.j3 (k + 1) y0 y1 y2 y3 y4 y5 y6 y7 y8)) ∧ (∀ y0 y1 y2 y3 y4 y5 y6 y7 y8 y9, LeO (assign_Proves.l2 k y0 y1 y2 y3 y4 y5 y6 y7 y8 y9) (assign_Proves.l2 (k + 1) y0 y1 y2 y3 y4 y5 y6 y7 y8 y9))
  | 0 => ⟨fun _ _ _ _ _ r h => by simp [assign_Proves.j0] at h, fun _ _ _ _ _ _ _ r h => by simp [assign_Proves.l0] at h, fun _ _ _ _ _ _ r h => by simp [assign_Proves.l1] at h, fun _ _ _ _ _ _ _ _ _ r h => by simp [assign_Proves.j3] at h, fun _ _ _ _ _ _ _ _ _ _ r h => by simp [assign_Proves.l2] at h⟩
  | k + 1 => by
    obtain ⟨ih0, ih1, ih2, ih3, ih4⟩ := assign_Proves.mono_l k
    refine ⟨?_, ?_, ?_, ?_, ?_⟩
    · intro y0 y1 y2 y3 y4
      unfold assign_Proves.j0
      repeat' first
      | (with_reducible exact ih0 _ _ _ _ _)
      | (with_reducible exact ih1 _ _ _ _ _ _ _)
      | (with_reducible exact ih2 _ _ _ _ _ _)
      | (with_reducible exact ih3 _ _ _ _ _ _ _ _ _)
      | (with_reducible exact ih4 _ _ _ _ _ _ _ _ _ _)
      | (with_reducible exact assign_Check.mono _ _)
      | (with_reducible exact LeO.refl _)
      | (with_reducible exact LeO.none _)
      | (with_reducible refine LeO.ite ?_ ?_)
      | (with_reducible refine LeO.bind ?_ (fun _ => ?_))
      | exact ih0 _ _ _ _ _
      | exact ih1 _ _ _ _ _ _ _
      | exact ih2 _ _ _ _ _ _
      | exact ih3 _ _ _ _ _ _ _ _ _
      | exact ih4 _ _ _ _ _ _ _ _ _ _
      | exact assign_Check.mono _ _
      | exact LeO.none _
      | refine LeO.ite ?_ ?_
      | refine LeO.bind ?_ (fun _ => ?_)
    · intro y0 y1 y2 y3 y4 y5 y6
      unfold assign_Proves.l0
      repeat' first
      | (with_reducible exact ih0 _ _ _ _ _)
      | (with_reducible exact ih1 _ _ _ _ _ _ _)
      | (with_reducible exact ih2 _ _ _ _ _ _)
      | (with_reducible exact ih3 _ _ _ _ _ _ _ _ _)
      | (with_reducible exact ih4 _ _ _ _ _ _ _ _ _ _)
      | (with_reducible exact assign_Check.mono _ _)
      | (with_reducible exact LeO.refl _)
      | (with_reducible exact LeO.none _)
      | (with_reducible refine LeO.ite ?_ ?_)
      | (with_reducible refine LeO.bind ?_ (fun _ => ?_))
      | exact ih0 _ _ _ _ _
      | exact ih1 _ _ _ _ _ _ _
      | exact ih2 _ _ _ _ _ _
      | exact ih3 _ _ _ _ _ _ _ _ _
      | exact ih4 _ _ _ _ _ _ _ _ _ _
      | exact assign_Check.mono _ _
      | exact LeO.none _
      | refine LeO.ite ?_ ?_
      | refine LeO.bind ?_ (fun _ => ?_)
    · intro y0 y1 y2 y3 y4 y5
      unfold assign_Proves.l1
      repeat' first
      | (with_reducible exact ih0 _ _ _ _ _)
      | (with_reducible exact ih1 _ _ _ _ _ _ _)
      | (with_reducible exact ih2 _ _ _ _ _ _)
      | (with_reducible exact ih3 _ _ _ _ _ _ _ _ _)
      | (with_reducible exact ih4 _ _ _ _ _ _ _ _ _ _)
      | (with_reducible exact assign_Check.mono _ _)
      | (with_reducible exact LeO.refl _)
      | (with_reducible exact LeO.none _)
      | (with_reducible refine LeO.ite ?_ ?_)
      | (with_reducible refine LeO.bind ?_ (fun _ => ?_))
      | exact ih0 _ _ _ _ _
      | exact ih1 _ _ _ _ _ _ _
      | exact ih2 _ _ _ _ _ _
      | exact ih3 _ _ _ _ _ _ _ _ _
      | exact ih4 _ _ _ _ _ _ _ _ _ _
      | exact assign_Check.mono _ _
      | exact LeO.none _
      | refine LeO.ite ?_ ?_
      | refine LeO.bind ?_ (fun _ => ?_)
    · intro y0 y1 y2 y3 y4 y5 y6 y7 y8
      unfold assign_Proves.j3
      repeat' first
      | (with_reducible exact ih0 _ _ _ _ _)
      | (with_reducible exact ih1 _ _ _ _ _ _ _)
      | (with_reducible exact ih2 _ _ _ _ _ _)
      | (with_reducible exact ih3 _ _ _ _ _ _ _ _ _)
      | (with_reducible exact ih4 _ _ _ _ _ _ _ _ _ _)
      | (with_reducible exact assign_Check.mono _ _)
      | (with_reducible exact LeO.refl _)
      | (with_reducible exact LeO.none _)
      | (with_reducible refine LeO.ite ?_ ?_)
      | (with_reducible refine LeO.bind ?_ (fun _ => ?_))
      | exact ih0 _ _ _ _ _
      | exact ih1 _ _ _ _ _ _ _
      | exact ih2 _ _ _ _ _ _
      | exact ih3 _ _ _ _ _ _ _ _ _
      | exact ih4 _ _ _ _ _ _ _ _ _ _
      | exact assign_Check.mono _ _
      | exact LeO.none _
      | refine LeO.ite ?_ ?_
      | refine LeO.bind ?_ (fun _ => ?_)
    · intro y0 y1 y2 y3 y4 y5 y6 y7 y8 y9
      unfold assign_Proves.l2
      repeat' first
      | (with_reducible exact ih0 _ _ _ _ _)
      | (with_reducible exact ih1 _ _ _ _ _ _ _)
      | (with_reducible exact ih2 _ _ _ _ _ _)
      | (with_reducible exact ih3 _ _ _ _ _ _ _ _ _)
      | (with_reducible exact ih4 _ _ _ _ _ _ _ _ _ _)
      | (with_reducible exact assign_Check.mono _ _)
      | (with_reducible exact LeO.refl _)
      | (with_reducible exact LeO.none _)
      | (with_reducible refine LeO.ite ?_ ?_)
      | (with_reducible refine LeO.bind ?_ (fun _ => ?_))
      | exact ih0 _ _ _ _ _
      | exact ih1 _ _ _ _ _ _ _
      | exact ih2 _ _ _ _ _ _
      | exact ih3 _ _ _ _ _ _ _ _ _
      | exact ih4 _ _ _ _ _ _ _ _ _ _
      | exact assign_Check.mono _ _
      | exact LeO.none _
      | refine LeO.ite ?_ ?_
      | refine LeO.bind ?_ (fun _ => ?_)
theorem assign_Proves.mono : ∀ a0 a1 a2 k, LeO (assign_Proves.f k a0 a1 a2) (assign_Proves.f (k + 1) a0 a1 a2) := by
  intro a0 a1 a2 k
  obtain ⟨ih0, ih1, ih2, ih3, ih4⟩ := assign_Proves.mono_l k
  unfold assign_Proves.f
  repeat' first
      | (with_reducible exact ih0 _ _ _ _ _)
      | (with_reducible exact ih1 _ _ _ _ _ _ _)
      | (with_reducible exact ih2 _ _ _ _ _ _)
      | (with_reducible exact ih3 _ _ _ _ _ _ _ _ _)
      | (with_reducible exact ih4 _ _ _ _ _ _ _ _ _ _)
      | (with_reducible exact assign_Check.mono _ _)
      | (with_reducible exact LeO.refl _)
      | (with_reducible exact LeO.none _)
      | (with_reducible refine LeO.ite ?_ ?_)
      | (with_reducible refine LeO.bind ?_ (fun _ => ?_))
      | exact ih0 _ _ _ _ _
      | exact ih1 _ _ _ _ _ _ _
      | exact ih2 _ _ _ _ _ _
      | exact ih3 _ _ _ _ _ _ _ _ _
      | exact ih4 _ _ _ _ _ _ _ _ _ _
      | exact assign_Check.mono _ _
      | exact LeO.none _
      | refine LeO.ite ?_ ?_
      | refine LeO.bind ?_ (fun _ => ?_)
set_option maxHeartbeats 8000000 in
set_option maxRecDepth 100000 in
theorem assign_Proves.calls (k : Nat) (A0 : Option Addr) (c0 : Nat) (l0 : List (List Int)) (A1 : Option Addr) (c1 : Nat) (l1 : List Int) (A2 : Option Addr) (c2 : Nat) (l2 : List Int) (r1 : Int) (r2 : Bool) (r3 : Int) (w : World) (hr0 : Kd.C (Kd.slice 3 (Kd.int .i64)) w A0 l0.length l0) (hc0 : l0.length ≤ c0) (hr1 : Kd.C (Kd.int .i64) w A1 l1.length l1) (hc1 : l1.length ≤ c1) (hr2 : Kd.C (Kd.int .i64) w A2 l2.length l2) (hc2 : l2.length ≤ c2) (h : assign_Proves.f k l0 l1 l2 = some (r1, r2, r3)) :
    Calls Try.prog 20 #[.slice A0 l0.length c0, .slice A1 l1.length c1, .slice A2 l2.length c2] w fun e w' => e = .returned (.tuple #[.int .i64 r1, .bool r2, .int .i64 r3]) ∧ Below w.heap.size w w' := by
 have HR0 := Aside0.mk hr0; have HC0 := Aside0.mk hc0; clear hr0 hc0; have HR1 := Aside0.mk hr1; have HC1 := Aside0.mk hc1; clear hr1 hc1; have HR2 := Aside0.mk hr2; have HC2 := Aside0.mk hc2; clear hr2 hc2; have HB := Aside0.mk (Below.refl w.heap.size w); have H : ((assign_Check.f k l0).bind fun t183 => (if t183 = 0 then (if (l1.length : Int) = (l0.length : Int) then ((assign_width.f l0).bind fun t184 => (if (l2.length : Int) = t184 then ((slices_IndexFunc_int_int.f l2).bind fun t185 => (assign_Proves.j0 k l0 l1 l2 0 t185)) else (assign_Proves.j0 k l0 l1 l2 0 true))) else (assign_Proves.j0 k l0 l1 l2 0 true)) else (some (0, false, t183)))) = some (r1, r2, r3) := h; clear h; replace H := Option.bind_eq_some_iff.mp H; obtain ⟨t183, A40, H⟩ := H; replace H : (if t183 = 0 then (if (l1.length : Int) = (l0.length : Int) then ((assign_width.f l0).bind fun t184 => (if (l2.length : Int) = t184 then ((slices_IndexFunc_int_int.f l2).bind fun t185 => (assign_Proves.j0 k l0 l1 l2 0 t185)) else (assign_Proves.j0 k l0 l1 l2 0 true))) else (assign_Proves.j0 k l0 l1 l2 0 true)) else (some (0, false, t183))) = some (r1, r2, r3) := H; have A4 := Aside0.mk A40; clear A40
 by_cases c5 : t183 = 0
 rotate_left
 ·rw [if_neg c5] at H
  have c5b0 : (t183 == 0) = false := beq_eq_false_iff_ne.mpr c5; have c5b1 : (t183 != 0) = true := bne_iff_ne.mpr c5
  simp only [Option.some.injEq, Prod.mk.injEq] at H
  obtain ⟨rfl, rfl, rfl⟩ := H
  go_enter Try.func20, Try.ntmps20
  go_wp2_with (first | (refine goesC 16 Try.func17 #[.slice A0 l0.length c0] ?_; (with_reducible refine (assign_Check.calls k _ _ l0 t183 _ ?side1 ?side2 A4.out).mono ?_); (case side1 => exact cH HR0); (case side2 => exact HC0.out); rintro e w31 ⟨rfl, hb⟩; refine ⟨_, rfl, ?_⟩; replace HB := sB HB hb; (try clear hb); (try clear hb2); (try clear hk); (try clear hi)))
  go_ret3
  exact ⟨by first | rfl | (simp [errW_none, errW_some] <;> rfl) | (simp [*, errW_none, errW_some] <;> rfl), blw HB.out⟩
 rw [if_pos c5] at H; have c5b0 : (t183 == 0) = true := beq_iff_eq.mpr c5; have c5b1 : (t183 != 0) = false := bne_eq_false_iff_eq.mpr c5; clear c5; have HC6 := Aside0.mk H; clear H
 go_enter Try.func20, Try.ntmps20
 go_upto_region 4 with (first | (refine goesC 16 Try.func17 #[.slice A0 l0.length c0] ?_; (with_reducible refine (assign_Check.calls k _ _ l0 t183 _ ?side1 ?side2 A4.out).mono ?_); (case side1 => exact cH HR0); (case side2 => exact HC0.out); rintro e w7 ⟨rfl, hb⟩; refine ⟨_, rfl, ?_⟩; replace HB := sB HB hb; (try clear hb); (try clear hb2); (try clear hk); (try clear hi)))
 (try simp only [Act.put, List.setIfInBounds_toArray, List.set_cons_zero, List.set_cons_succ])
 go_cut [35] (fun v35 wc => ∃ (kq : Nat) (x35_5 : Bool), v35 = .bool x35_5 ∧ Aside0 (assign_Proves.j0 kq l0 l1 l2 0 x35_5 = some (r1, r2, r3)) ∧ Aside0 (kq ≤ k) ∧ Aside0 (Below w.heap.size w wc))
 case first =>
  have H := HC6.out; clear HC6
  by_cases c8 : (l1.length : Int) = (l0.length : Int)
  rotate_left
  ·rw [if_neg c8] at H
   have c8b0 : ((l1.length : Int) == (l0.length : Int)) = false := beq_eq_false_iff_ne.mpr c8; have c8b1 : ((l1.length : Int) != (l0.length : Int)) = true := bne_iff_ne.mpr c8
   have c8b2 : (l1.length == l0.length) = false := by first | simpa using c8 | (simp at c8 ⊢; omega)
   (first | rw [c8b0] | (simp only [i64_w, i32_w]; rw [c8b0]) | skip)
   have H' := Aside0.mk H; clear H
   go_wp2
   go_meet
   case rel => exact ⟨_, (true), (by first | rfl | (simp; done) | (simp [*]; done)), H', ⟨by first | omega | exact Nat.le_refl _⟩, ⟨blw HB.out⟩⟩
  rw [if_pos c8] at H; have c8b0 : ((l1.length : Int) == (l0.length : Int)) = true := beq_iff_eq.mpr c8; have c8b1 : ((l1.length : Int) != (l0.length : Int)) = false := bne_eq_false_iff_eq.mpr c8
  have c8b2 : (l1.length == l0.length) = true := by first | simpa using c8 | (simp at c8 ⊢; omega)
  clear c8
  (first | rw [c8b0] | (simp only [i64_w, i32_w]; rw [c8b0]) | skip)
  replace H := Option.bind_eq_some_iff.mp H; obtain ⟨t184, A90, H⟩ := H; replace H : (if (l2.length : Int) = t184 then ((slices_IndexFunc_int_int.f l2).bind fun t185 => (assign_Proves.j0 k l0 l1 l2 0 t185)) else (assign_Proves.j0 k l0 l1 l2 0 true)) = some (r1, r2, r3) := H; have A9 := Aside0.mk A90; clear A90
  by_cases c10 : (l2.length : Int) = t184
  rotate_left
  ·rw [if_neg c10] at H
   have c10b0 : ((l2.length : Int) == t184) = false := beq_eq_false_iff_ne.mpr c10; have c10b1 : ((l2.length : Int) != t184) = true := bne_iff_ne.mpr c10; have H' := Aside0.mk H; clear H
   go_wp2_with (first | (go_at_call 29; (with_reducible refine (assign_width.calls _ _ l0 t184 _ ?side1 ?side2 A9.out).mono ?_); (case side1 => exact cB HR0 HB); (case side2 => exact HC0.out); rintro e w' ⟨rfl, ⟨nd, rfl⟩⟩))
   go_meet
   case rel => exact ⟨_, (true), (by first | rfl | (simp; done) | (simp [*]; done)), H', ⟨by first | omega | exact Nat.le_refl _⟩, ⟨blw HB.out⟩⟩
  rw [if_pos c10] at H; have c10b0 : ((l2.length : Int) == t184) = true := beq_iff_eq.mpr c10; have c10b1 : ((l2.length : Int) != t184) = false := bne_eq_false_iff_eq.mpr c10; clear c10; replace H := Option.bind_eq_some_iff.mp H; obtain ⟨t185, A110, H⟩ := H; replace H : (assign_Proves.j0 k l0 l1 l2 0 t185) = some (r1, r2, r3) := H; have A11 := Aside0.mk A110; clear A110; have H' := Aside0.mk H; clear H
  go_wp2_with (first | (go_at_call 29; (with_reducible refine (assign_width.calls _ _ l0 t184 _ ?side1 ?side2 A9.out).mono ?_); (case side1 => exact cB HR0 HB); (case side2 => exact HC0.out); rintro e w' ⟨rfl, ⟨nd, rfl⟩⟩) | (go_at_call 38; (with_reducible refine (slices_IndexFunc_int_int.calls _ _ l2 t185 _ ?side1 ?side2 A11.out).mono ?_); (case side1 => exact cB HR2 HB); (case side2 => exact HC2.out); rintro e w12 ⟨rfl, hb⟩; replace HB := sB HB hb; (try clear hb); (try clear hb2); (try clear hk); (try clear hi)))
  go_meet
  case rel => exact ⟨_, (t185), (by first | rfl | (simp; done) | (simp [*]; done)), H', ⟨by first | omega | exact Nat.le_refl _⟩, ⟨blw HB.out⟩⟩
 clear HC6; (try clear c1); (try clear c2); (try clear p2); (try clear c5); (try clear c5b0); (try clear c5b1); (try clear c8); (try clear c8b0); (try clear c8b1); (try clear c8b2); (try clear c10); (try clear c10b0); (try clear c10b1); obtain ⟨kq, x35_5, rfl, HA, HJ5, HB⟩ := hcut
 cases kq with
 | zero => exact absurd HA.out (by simp [assign_Proves.j0])
 | succ kj5 =>
   have H := HA.out; clear HA
   simp only [assign_Proves.j0] at H
   by_cases c13 : x35_5 = true
   · subst c13
     have H1 : (some (0, false, 0)) = some (r1, r2, r3) := by rw [if_pos rfl] at H; exact H
     clear H; have H := H1; clear H1
     simp only [Option.some.injEq, Prod.mk.injEq] at H
     obtain ⟨rfl, rfl, rfl⟩ := H
     go_wp2
     go_ret3
     exact ⟨by first | rfl | (simp [errW_none, errW_some] <;> rfl) | (simp [*, errW_none, errW_some] <;> rfl), blw HB.out⟩
   · replace c13 := Bool.eq_false_iff.mpr c13
     subst c13
     have H1 : (assign_Proves.l0 kj5 l0 l1 l2 0 l2 (l2.length : Int) 0) = some (r1, r2, r3) := by rw [if_neg (show ¬ (false = true) by decide)] at H; exact H
     clear H; have H := H1; clear H1; have H' := Aside0.mk H; clear H
     go_wp2
     go_loopg [6, 38] kj5 (fun kq v6 v38 w' => ∃ (x6_2 : Int) (x38_2 : Int), v6 = .int .i64 x6_2 ∧ v38 = .int .i64 x38_2 ∧ Aside0 (assign_Proves.l0 kq l0 l1 l2 x6_2 l2 (l2.length : Int) x38_2 = some (r1, r2, r3)) ∧ Aside0 (kq ≤ kj5) ∧ Aside0 (Below w.heap.size w w'))
     case atStart => exact ⟨(0), (0), (by first | rfl | (simp; done) | (simp [*]; done)), (by first | rfl | (simp; done) | (simp [*]; done)), H', ⟨Nat.le_refl _⟩, ⟨blw HB.out⟩⟩
     case round =>
       clear H'; (try clear c1); (try clear c2); (try clear p2); (try clear c5); (try clear c5b0); (try clear c5b1); (try clear c8); (try clear c8b0); (try clear c8b1); (try clear c8b2); (try clear c10); (try clear c10b0); (try clear c10b1); (try clear c13); (try clear p2); obtain ⟨x6_2, x38_2, rfl, rfl, HA, HK2, HB⟩ := hrel
       cases gk with
       | zero => exact absurd HA.out (by simp [assign_Proves.l0])
       | succ k2 =>
         have H := HA.out; clear HA
         simp only [assign_Proves.l0] at H
         by_cases c14 : x38_2 < (l2.length : Int)
         · rw [if_pos c14] at H
           have c14b0 : decide (x38_2 < (l2.length : Int)) = true := decide_eq_true c14; clear c14
           by_cases c15 : 0 ≤ x38_2
           · rw [if_pos c15] at H
             have c15b0 : decide (0 ≤ x38_2) = true := decide_eq_true c15; clear c15
             by_cases c16 : x38_2 < (l2.length : Int)
             · rw [if_pos c16] at H
               have c16b0 : decide (x38_2 < (l2.length : Int)) = true := decide_eq_true c16; clear c16; have H' := Aside0.mk H; clear H; have p186 : 0 ≤ (x38_2 : Int) := of_decide_eq_true (by first | (with_reducible assumption) | assumption); have q186 : x38_2 < (l2.length : Int) := of_decide_eq_true (by first | (with_reducible assumption) | assumption); obtain ⟨ad186, e186, hx186_0⟩ := Kd.at_int HR2.out x38_2 p186 q186; cases e186; replace hx186_0 := (HB.out.cell (World.block_lt_of_cell? w _ hx186_0)).trans hx186_0; replace p186 := eq_true p186; replace q186 := eq_true q186
               go_wp2
               go_roundg k2
               case measure => have := HJ5.out; have := HK2.out; omega
               case rel => exact ⟨(wrap64 (x6_2 + (rd l2 x38_2))), (wrap64 (x38_2 + 1)), (by first | rfl | (simp; done) | (simp [*]; done)), (by first | rfl | (simp; done) | (simp [*]; done)), H', ⟨by have := HJ5.out; have := HK2.out; omega⟩, ⟨blw HB.out⟩⟩
             · rw [if_neg c16] at H
               exact absurd H (by simp)
           · rw [if_neg c15] at H
             exact absurd H (by simp)
         · rw [if_neg c14] at H
           have c14b0 : decide (x38_2 < (l2.length : Int)) = false := decide_eq_false c14; clear c14; have H' := Aside0.mk H; clear H
           go_wp2
           go_loopg [6, 48] k2 (fun kq v6 v48 w' => ∃ (x6_3 : Int) (x48_3 : Int), v6 = .int .i64 x6_3 ∧ v48 = .int .i64 x48_3 ∧ Aside0 (assign_Proves.l1 kq l0 l2 x6_3 l1 (l1.length : Int) x48_3 = some (r1, r2, r3)) ∧ Aside0 (kq ≤ k2) ∧ Aside0 (Below w.heap.size w w'))
           case atStart => exact ⟨(x6_2), (0), (by first | rfl | (simp; done) | (simp [*]; done)), (by first | rfl | (simp; done) | (simp [*]; done)), H', ⟨Nat.le_refl _⟩, ⟨blw HB.out⟩⟩
           case round =>
             clear H'; (try clear c1); (try clear p1); (try clear q1); (try clear hx1); (try clear c2); (try clear p2); (try clear c5); (try clear c5b0); (try clear c5b1); (try clear p6); (try clear c8); (try clear c8b0); (try clear c8b1); (try clear c8b2); (try clear c10); (try clear c10b0); (try clear c10b1); (try clear c13); (try clear c14); (try clear c14b0); (try clear c15); (try clear c15b0); (try clear c16); (try clear c16b0); (try clear hx186_0); (try clear p186); (try clear p2); (try clear q186); obtain ⟨x6_3, x48_3, rfl, rfl, HA, HK3, HB⟩ := hrel
             cases gk with
             | zero => exact absurd HA.out (by simp [assign_Proves.l1])
             | succ k3 =>
               have H := HA.out; clear HA
               simp only [assign_Proves.l1] at H
               by_cases c17 : x48_3 < (l1.length : Int)
               · rw [if_pos c17] at H
                 have c17b0 : decide (x48_3 < (l1.length : Int)) = true := decide_eq_true c17; clear c17
                 by_cases c18 : 0 ≤ x48_3
                 · rw [if_pos c18] at H
                   have c18b0 : decide (0 ≤ x48_3) = true := decide_eq_true c18; clear c18
                   by_cases c19 : x48_3 < (l1.length : Int)
                   · rw [if_pos c19] at H
                     have c19b0 : decide (x48_3 < (l1.length : Int)) = true := decide_eq_true c19; clear c19; have HC20 := Aside0.mk H; clear H; have p187 : 0 ≤ (x48_3 : Int) := of_decide_eq_true (by first | (with_reducible assumption) | assumption); have q187 : x48_3 < (l1.length : Int) := of_decide_eq_true (by first | (with_reducible assumption) | assumption); obtain ⟨ad187, e187, hx187_0⟩ := Kd.at_int HR1.out x48_3 p187 q187; cases e187; replace hx187_0 := (HB.out.cell (World.block_lt_of_cell? w _ hx187_0)).trans hx187_0; replace p187 := eq_true p187; replace q187 := eq_true q187
                     go_upto_region 14 with (fail)
                     go_cut [58] (fun v58 wc => ∃ (kq : Nat) (x58_19 : Bool), v58 = .bool x58_19 ∧ Aside0 (assign_Proves.j3 kq l0 l2 x6_3 x48_3 (rd l1 x48_3) l1 (l1.length : Int) x48_3 x58_19 = some (r1, r2, r3)) ∧ Aside0 (kq ≤ k3) ∧ Aside0 (Below w.heap.size w wc))
                     case first =>
                       have H := HC20.out; clear HC20
                       by_cases c21 : (rd l1 x48_3) < (-1099511627776)
                       · rw [if_pos c21] at H
                         have c21b0 : decide ((rd l1 x48_3) < (-1099511627776)) = true := decide_eq_true c21; clear c21
                         (first | rw [c21b0] | (simp only [i64_w, i32_w]; rw [c21b0]) | skip)
                         have H' := Aside0.mk H; clear H
                         go_wp2
                         go_meet
                         case rel => exact ⟨_, (true), (by first | rfl | (simp; done) | (simp [*]; done)), H', ⟨by have := HJ5.out; have := HK2.out; have := HK3.out; first | omega | exact Nat.le_refl _⟩, ⟨blw HB.out⟩⟩
                       · rw [if_neg c21] at H
                         have c21b0 : decide ((rd l1 x48_3) < (-1099511627776)) = false := decide_eq_false c21; clear c21
                         (first | rw [c21b0] | (simp only [i64_w, i32_w]; rw [c21b0]) | skip)
                         have H' := Aside0.mk H; clear H
                         go_wp2
                         go_meet
                         case rel => exact ⟨_, (decide ((rd l1 x48_3) > 1099511627776)), (by first | rfl | (simp; done) | (simp [*]; done)), H', ⟨by have := HJ5.out; have := HK2.out; have := HK3.out; first | omega | exact Nat.le_refl _⟩, ⟨blw HB.out⟩⟩
                     case rest =>
                       clear HC20; (try clear c1); (try clear p1); (try clear q1); (try clear hx1); (try clear c2); (try clear p2); (try clear c5); (try clear c5b0); (try clear c5b1); (try clear p6); (try clear c8); (try clear c8b0); (try clear c8b1); (try clear c8b2); (try clear c10); (try clear c10b0); (try clear c10b1); (try clear c13); (try clear c14); (try clear c14b0); (try clear c15); (try clear c15b0); (try clear c16); (try clear c16b0); (try clear c17); (try clear c17b0); (try clear c18); (try clear c18b0); (try clear p18); (try clear q18); (try clear hx18); (try clear c19); (try clear c19b0); (try clear c20); (try clear c21); (try clear c21b0); (try clear hx186_0); (try clear hx187_0); (try clear p1); (try clear p186); (try clear p187); (try clear p2); (try clear p6); (try clear q1); (try clear q186); (try clear q187); obtain ⟨kq, x58_19, rfl, HA, HJ19, HB⟩ := hcut
                       cases kq with
                       | zero => exact absurd HA.out (by simp [assign_Proves.j3])
                       | succ kj19 =>
                         have H := HA.out; clear HA
                         simp only [assign_Proves.j3] at H
                         by_cases c22 : x58_19 = true
                         · subst c22
                           have H1 : (some (0, false, 0)) = some (r1, r2, r3) := by rw [if_pos rfl] at H; exact H
                           clear H; have H := H1; clear H1
                           simp only [Option.some.injEq, Prod.mk.injEq] at H
                           obtain ⟨rfl, rfl, rfl⟩ := H
                           go_wp2
                           go_ret3
                           exact ⟨by first | rfl | (simp [errW_none, errW_some] <;> rfl) | (simp [*, errW_none, errW_some] <;> rfl), blw HB.out⟩
                         · replace c22 := Bool.eq_false_iff.mpr c22
                           subst c22
                           have H1 : (if 0 ≤ x48_3 then (if x48_3 < (l0.length : Int) then (assign_Proves.l2 kj19 l0 l2 (wrap64 (x6_3 + (rd l1 x48_3))) (rd l1 x48_3) l1 (l1.length : Int) x48_3 (rd_L1 l0 x48_3) ((rd_L1 l0 x48_3).length : Int) 0) else (none)) else (none)) = some (r1, r2, r3) := by rw [if_neg (show ¬ (false = true) by decide)] at H; exact H
                           clear H; have H := H1; clear H1
                           by_cases c23 : 0 ≤ x48_3
                           · rw [if_pos c23] at H
                             have c23b0 : decide (0 ≤ x48_3) = true := decide_eq_true c23; clear c23
                             by_cases c24 : x48_3 < (l0.length : Int)
                             · rw [if_pos c24] at H
                               have c24b0 : decide (x48_3 < (l0.length : Int)) = true := decide_eq_true c24; clear c24; have H' := Aside0.mk H; clear H; have p188 : 0 ≤ (x48_3 : Int) := of_decide_eq_true (by first | (with_reducible assumption) | assumption); have q188 : x48_3 < (l0.length : Int) := of_decide_eq_true (by first | (with_reducible assumption) | assumption); obtain ⟨ad188, A188_0, c188_0, e188, hx188_0, hl188_0, hi188_0⟩ := at_L1 HR0.out x48_3 p188 q188; cases e188; replace hx188_0 := (HB.out.cell (World.block_lt_of_cell? w _ hx188_0)).trans hx188_0; have HR188_0 := Aside0.mk hi188_0; have HC188_0 := Aside0.mk hl188_0; clear hi188_0 hl188_0; replace p188 := eq_true p188; replace q188 := eq_true q188
                               go_wp2
                               go_loopg [6, 67] kj19 (fun kq v6 v67 w' => ∃ (x6_5 : Int) (x67_5 : Int), v6 = .int .i64 x6_5 ∧ v67 = .int .i64 x67_5 ∧ Aside0 (assign_Proves.l2 kq l0 l2 x6_5 (rd l1 x48_3) l1 (l1.length : Int) x48_3 (rd_L1 l0 x48_3) ((rd_L1 l0 x48_3).length : Int) x67_5 = some (r1, r2, r3)) ∧ Aside0 (kq ≤ kj19) ∧ Aside0 (Below w.heap.size w w'))
                               case atStart => exact ⟨(wrap64 (x6_3 + (rd l1 x48_3))), (0), (by first | rfl | (simp; done) | (simp [*]; done)), (by first | rfl | (simp; done) | (simp [*]; done)), H', ⟨Nat.le_refl _⟩, ⟨blw HB.out⟩⟩
                               case round =>
                                 clear H'; (try clear c1); (try clear p1); (try clear q1); (try clear hx1); (try clear c2); (try clear p2); (try clear c5); (try clear c5b0); (try clear c5b1); (try clear p6); (try clear c8); (try clear c8b0); (try clear c8b1); (try clear c8b2); (try clear c10); (try clear c10b0); (try clear c10b1); (try clear c13); (try clear c14); (try clear c14b0); (try clear c15); (try clear c15b0); (try clear c16); (try clear c16b0); (try clear c17); (try clear c17b0); (try clear c18); (try clear c18b0); (try clear p18); (try clear q18); (try clear hx18); (try clear c19); (try clear c19b0); (try clear c20); (try clear c21); (try clear c21b0); (try clear c22); (try clear c23); (try clear c23b0); (try clear c24); (try clear c24b0); (try clear hx186_0); (try clear hx187_0); (try clear hx188_0); (try clear p1); (try clear p18); (try clear p186); (try clear p187); (try clear p188); (try clear p2); (try clear p6); (try clear q1); (try clear q18); (try clear q186); (try clear q187); (try clear q188); obtain ⟨x6_5, x67_5, rfl, rfl, HA, HK5, HB⟩ := hrel
                                 cases gk with
                                 | zero => exact absurd HA.out (by simp [assign_Proves.l2])
                                 | succ k5 =>
                                   have H := HA.out; clear HA
                                   simp only [assign_Proves.l2] at H
                                   by_cases c25 : x67_5 < ((rd_L1 l0 x48_3).length : Int)
                                   · rw [if_pos c25] at H
                                     have c25b0 : decide (x67_5 < ((rd_L1 l0 x48_3).length : Int)) = true := decide_eq_true c25; clear c25
                                     by_cases c26 : 0 ≤ x67_5
                                     · rw [if_pos c26] at H
                                       have c26b0 : decide (0 ≤ x67_5) = true := decide_eq_true c26; clear c26
                                       by_cases c27 : x67_5 < ((rd_L1 l0 x48_3).length : Int)
                                       · rw [if_pos c27] at H
                                         have c27b0 : decide (x67_5 < ((rd_L1 l0 x48_3).length : Int)) = true := decide_eq_true c27; clear c27
                                         by_cases c28 : (rd (rd_L1 l0 x48_3) x67_5) ≥ 0
                                         · rw [if_pos c28] at H
                                           have c28b0 : decide (0 ≤ (rd (rd_L1 l0 x48_3) x67_5)) = true := decide_eq_true c28; clear c28
                                           by_cases c29 : x67_5 < (l2.length : Int)
                                           · rw [if_pos c29] at H
                                             have c29b0 : decide (x67_5 < (l2.length : Int)) = true := decide_eq_true c29; clear c29
                                             by_cases c30 : (wrap64 ((rd l1 x48_3) + (rd l2 x67_5))) > (rd (rd_L1 l0 x48_3) x67_5)
                                             · rw [if_pos c30] at H
                                               have c30b0 : decide ((rd (rd_L1 l0 x48_3) x67_5) < (wrap64 ((rd l1 x48_3) + (rd l2 x67_5)))) = true := decide_eq_true c30; clear c30
                                               simp only [Option.some.injEq, Prod.mk.injEq] at H
                                               obtain ⟨rfl, rfl, rfl⟩ := H; have p189 : 0 ≤ (x67_5 : Int) := of_decide_eq_true (by first | (with_reducible assumption) | assumption); have q189 : x67_5 < ((rd_L1 l0 x48_3).length : Int) := of_decide_eq_true (by first | (with_reducible assumption) | assumption); obtain ⟨ad189, e189, hx189_0⟩ := Kd.at_int HR188_0.out x67_5 p189 q189; cases e189; replace hx189_0 := (HB.out.cell (World.block_lt_of_cell? w _ hx189_0)).trans hx189_0; replace p189 := eq_true p189; replace q189 := eq_true q189; have p190 : 0 ≤ (x67_5 : Int) := of_decide_eq_true (by first | (with_reducible assumption) | assumption); have q190 : x67_5 < (l2.length : Int) := of_decide_eq_true (by first | (with_reducible assumption) | assumption); obtain ⟨ad190, e190, hx190_0⟩ := Kd.at_int HR2.out x67_5 p190 q190; cases e190; replace hx190_0 := (HB.out.cell (World.block_lt_of_cell? w _ hx190_0)).trans hx190_0; replace p190 := eq_true p190; replace q190 := eq_true q190
                                               go_wp2
                                               go_ret3
                                               exact ⟨by first | rfl | (simp [errW_none, errW_some] <;> rfl) | (simp [*, errW_none, errW_some] <;> rfl), blw HB.out⟩
                                             · rw [if_neg c30] at H
                                               have c30b0 : decide ((rd (rd_L1 l0 x48_3) x67_5) < (wrap64 ((rd l1 x48_3) + (rd l2 x67_5)))) = false := decide_eq_false c30; clear c30; have H' := Aside0.mk H; clear H; have p189 : 0 ≤ (x67_5 : Int) := of_decide_eq_true (by first | (with_reducible assumption) | assumption); have q189 : x67_5 < ((rd_L1 l0 x48_3).length : Int) := of_decide_eq_true (by first | (with_reducible assumption) | assumption); obtain ⟨ad189, e189, hx189_0⟩ := Kd.at_int HR188_0.out x67_5 p189 q189; cases e189; replace hx189_0 := (HB.out.cell (World.block_lt_of_cell? w _ hx189_0)).trans hx189_0; replace p189 := eq_true p189; replace q189 := eq_true q189; have p190 : 0 ≤ (x67_5 : Int) := of_decide_eq_true (by first | (with_reducible assumption) | assumption); have q190 : x67_5 < (l2.length : Int) := of_decide_eq_true (by first | (with_reducible assumption) | assumption); obtain ⟨ad190, e190, hx190_0⟩ := Kd.at_int HR2.out x67_5 p190 q190; cases e190; replace hx190_0 := (HB.out.cell (World.block_lt_of_cell? w _ hx190_0)).trans hx190_0; replace p190 := eq_true p190; replace q190 := eq_true q190
                                               go_wp2
                                               go_roundg k5
                                               case measure => have := HJ5.out; have := HK2.out; have := HK3.out; have := HJ19.out; have := HK5.out; omega
                                               case rel => exact ⟨(x6_5), (wrap64 (x67_5 + 1)), (by first | rfl | (simp; done) | (simp [*]; done)), (by first | rfl | (simp; done) | (simp [*]; done)), H', ⟨by have := HJ5.out; have := HK2.out; have := HK3.out; have := HJ19.out; have := HK5.out; omega⟩, ⟨blw HB.out⟩⟩
                                           · rw [if_neg c29] at H
                                             exact absurd H (by simp)
                                         · rw [if_neg c28] at H
                                           have c28b0 : decide (0 ≤ (rd (rd_L1 l0 x48_3) x67_5)) = false := decide_eq_false c28; clear c28; have H' := Aside0.mk H; clear H; have p189 : 0 ≤ (x67_5 : Int) := of_decide_eq_true (by first | (with_reducible assumption) | assumption); have q189 : x67_5 < ((rd_L1 l0 x48_3).length : Int) := of_decide_eq_true (by first | (with_reducible assumption) | assumption); obtain ⟨ad189, e189, hx189_0⟩ := Kd.at_int HR188_0.out x67_5 p189 q189; cases e189; replace hx189_0 := (HB.out.cell (World.block_lt_of_cell? w _ hx189_0)).trans hx189_0; replace p189 := eq_true p189; replace q189 := eq_true q189
                                           go_wp2
                                           go_roundg k5
                                           case measure => have := HJ5.out; have := HK2.out; have := HK3.out; have := HJ19.out; have := HK5.out; omega
                                           case rel => exact ⟨(x6_5), (wrap64 (x67_5 + 1)), (by first | rfl | (simp; done) | (simp [*]; done)), (by first | rfl | (simp; done) | (simp [*]; done)), H', ⟨by have := HJ5.out; have := HK2.out; have := HK3.out; have := HJ19.out; have := HK5.out; omega⟩, ⟨blw HB.out⟩⟩
                                       · rw [if_neg c27] at H
                                         exact absurd H (by simp)
                                     · rw [if_neg c26] at H
                                       exact absurd H (by simp)
                                   · rw [if_neg c25] at H
                                     have c25b0 : decide (x67_5 < ((rd_L1 l0 x48_3).length : Int)) = false := decide_eq_false c25; clear c25; have H' := Aside0.mk H; clear H
                                     go_wp2
                                     go_roundg k5
                                     case measure => have := HJ5.out; have := HK2.out; have := HK3.out; have := HJ19.out; have := HK5.out; omega
                                     case rel => exact ⟨(x6_5), (wrap64 (x48_3 + 1)), (by first | rfl | (simp; done) | (simp [*]; done)), (by first | rfl | (simp; done) | (simp [*]; done)), H', ⟨by have := HJ5.out; have := HK2.out; have := HK3.out; have := HJ19.out; have := HK5.out; omega⟩, ⟨blw HB.out⟩⟩
                             · rw [if_neg c24] at H
                               exact absurd H (by simp)
                           · rw [if_neg c23] at H
                             exact absurd H (by simp)
                   · rw [if_neg c19] at H
                     exact absurd H (by simp)
                 · rw [if_neg c18] at H
                   exact absurd H (by simp)
               · rw [if_neg c17] at H
                 have c17b0 : decide (x48_3 < (l1.length : Int)) = false := decide_eq_false c17; clear c17
                 simp only [Option.some.injEq, Prod.mk.injEq] at H
                 obtain ⟨rfl, rfl, rfl⟩ := H
                 go_wp2
                 go_ret3
                 exact ⟨by first | rfl | (simp [errW_none, errW_some] <;> rfl) | (simp [*, errW_none, errW_some] <;> rfl), blw HB.out⟩

-- by hand: function 22 (assign_Deny)

end Go.Proofs.Ytgiinjfandeddaa.Q
