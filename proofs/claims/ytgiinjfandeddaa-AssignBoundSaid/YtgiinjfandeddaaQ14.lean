/- Functions of the translation as plain Lean functions, and proofs that the calls do what these say; written by a program of this session round the kit's print. -/
import Derived.Test.YtgiinjfandeddaaQ0
import Derived.Test.YtgiinjfandeddaaAidB
import Derived.Test.YtgiinjfandeddaaAidC
import Derived.Test.YtgiinjfandeddaaQ1
import Derived.Test.YtgiinjfandeddaaQ3
import Derived.Test.YtgiinjfandeddaaQ4
import Derived.Test.YtgiinjfandeddaaQ13H
import Derived.Test.YtgiinjfandeddaaGBe
namespace Go.Proofs.Ytgiinjfandeddaa.Q
open Go.RowKit Go.Proofs.YtgiinjfandeddaaW.PrintWords Go.Proofs.YtgiinjfandeddaaW.PrintLast Go.Proofs.YtgiinjfandeddaaW.PrintMore
attribute [local go_sem] max2_int min2_int max_two min_two max_three min_three max_four min_four   -- for this text's walks alone
set_option linter.unusedVariables false
set_option linter.unusedSimpArgs false

/-! ### fastilaw14_AssignBound: function 6 -/
mutual
def fastilaw14_AssignBound.j0 : Nat → List (List Int) → List Int → List Int → List Int → Bool → Option (Bool)
  | 0, _, _, _, _, _ => none
  | k + 1, x0, x1, x2, x3, x44 => if x44 = true then (some true) else ((assign_Proves.f k x0 x2 x3).bind fun bt536 => (if bt536.2.2 = 0 then (if bt536.2.1 = true then (if (x2.length : Int) = (x0.length : Int) then (if (x0.length : Int) > 0 then (if 0 < (x0.length : Int) then (fastilaw14_AssignBound.j1 k x0 x1 x2 x3 bt536.1 ((x3.length : Int) != ((rd_L1 x0 0).length : Int))) else (none)) else (fastilaw14_AssignBound.j1 k x0 x1 x2 x3 bt536.1 false)) else (fastilaw14_AssignBound.j1 k x0 x1 x2 x3 bt536.1 true)) else (some (bt536.1 == 0))) else (none)))
def fastilaw14_AssignBound.j1 : Nat → List (List Int) → List Int → List Int → List Int → Int → Bool → Option (Bool)
  | 0, _, _, _, _, _, _ => none
  | k + 1, x0, x1, x2, x3, x9, x77 => if x77 = true then (none) else (fastilaw14_AssignBound.l0 k x0 x1 x2 x3 x9 0 x3 (x3.length : Int) 0)
def fastilaw14_AssignBound.l0 : Nat → List (List Int) → List Int → List Int → List Int → Int → Int → List Int → Int → Int → Option (Bool)
  | 0, _, _, _, _, _, _, _, _, _ => none
  | k + 1, x0, x1, x2, x3, x9, x12, x78, x79, x80 => if x80 < x79 then (if 0 ≤ x80 then (if x80 < (x78.length : Int) then (if (rd x78 x80) > 0 then (none) else (fastilaw14_AssignBound.l0 k x0 x1 x2 x3 x9 (wrap64 (x12 + (rd x78 x80))) x78 x79 (wrap64 (x80 + 1)))) else (none)) else (none)) else (fastilaw14_AssignBound.l1 k x0 x1 x3 x9 x12 x2 (x2.length : Int) 0)
def fastilaw14_AssignBound.l1 : Nat → List (List Int) → List Int → List Int → Int → Int → List Int → Int → Int → Option (Bool)
  | 0, _, _, _, _, _, _, _, _ => none
  | k + 1, x0, x1, x3, x9, x12, x90, x91, x92 => if x92 < x91 then (if 0 ≤ x92 then (if x92 < (x90.length : Int) then (if x92 < (x0.length : Int) then (fastilaw14_AssignBound.l2 k x0 x1 x3 x9 (wrap64 (x12 + (rd x90 x92))) (rd x90 x92) x90 x91 x92 (rd_L1 x0 x92) ((rd_L1 x0 x92).length : Int) 0) else (none)) else (none)) else (none)) else ((assign_Cost.f k x0 x1).bind fun bt541 => ((assign_Best.f x0).bind fun bt543 => (if x12 = x9 then (if bt543.2.2.2 = 0 then (if bt541.2 = 0 then (if bt541.1 ≥ x9 then (if bt543.2.2.1 = true then (some (decide (bt543.2.1 ≥ x9))) else (some true)) else (none)) else (if bt543.2.2.1 = true then (some (decide (bt543.2.1 ≥ x9))) else (some true))) else (none)) else (none))))
def fastilaw14_AssignBound.l2 : Nat → List (List Int) → List Int → List Int → Int → Int → Int → List Int → Int → Int → List Int → Int → Int → Option (Bool)
  | 0, _, _, _, _, _, _, _, _, _, _, _, _ => none
  | k + 1, x0, x1, x3, x9, x12, x16, x90, x91, x92, x103, x104, x105 => if x105 < x104 then (if 0 ≤ x105 then (if x105 < (x103.length : Int) then (if (rd x103 x105) ≥ 0 then (if x105 < (x3.length : Int) then (if (wrap64 (x16 + (rd x3 x105))) > (rd x103 x105) then (none) else (fastilaw14_AssignBound.l2 k x0 x1 x3 x9 x12 x16 x90 x91 x92 x103 x104 (wrap64 (x105 + 1)))) else (none)) else (fastilaw14_AssignBound.l2 k x0 x1 x3 x9 x12 x16 x90 x91 x92 x103 x104 (wrap64 (x105 + 1)))) else (none)) else (none)) else (fastilaw14_AssignBound.l1 k x0 x1 x3 x9 x12 x90 x91 (wrap64 (x92 + 1)))
end
def fastilaw14_AssignBound.f (k : Nat) (l0 : List (List Int)) (l1 : List Int) (l2 : List Int) (l3 : List Int) : Option (Bool) := (fastilaw14_sane.f k).bind fun t534 => (if t534 = true then ((fastilaw14_right.f k l0).bind fun t535 => (if t535 = true then (if (l1.length : Int) > 20 then (fastilaw14_AssignBound.j0 k l0 l1 l2 l3 true) else (if (l2.length : Int) > 20 then (fastilaw14_AssignBound.j0 k l0 l1 l2 l3 true) else (fastilaw14_AssignBound.j0 k l0 l1 l2 l3 (decide ((l3.length : Int) > 20))))) else (fastilaw14_AssignBound.j0 k l0 l1 l2 l3 true))) else (none))
set_option maxHeartbeats 8000000 in
set_option maxRecDepth 100000 in
theorem fastilaw14_AssignBound.calls (k : Nat) (A0 : Option Addr) (c0 : Nat) (l0 : List (List Int)) (A1 : Option Addr) (c1 : Nat) (l1 : List Int) (A2 : Option Addr) (c2 : Nat) (l2 : List Int) (A3 : Option Addr) (c3 : Nat) (l3 : List Int) (r : Bool) (w : World) (hr0 : Kd.C (Kd.slice 3 (Kd.int .i64)) w A0 l0.length l0) (hc0 : l0.length ≤ c0) (hr1 : Kd.C (Kd.int .i64) w A1 l1.length l1) (hc1 : l1.length ≤ c1) (hr2 : Kd.C (Kd.int .i64) w A2 l2.length l2) (hc2 : l2.length ≤ c2) (hr3 : Kd.C (Kd.int .i64) w A3 l3.length l3) (hc3 : l3.length ≤ c3) (h : fastilaw14_AssignBound.f k l0 l1 l2 l3 = some r) :
    Calls Try.prog 6 #[.slice A0 l0.length c0, .slice A1 l1.length c1, .slice A2 l2.length c2, .slice A3 l3.length c3] w fun e w' => e = .returned (.bool r) ∧ Below w.heap.size w w' := by
 have HR0 := Aside0.mk hr0; have HC0 := Aside0.mk hc0; clear hr0 hc0; have HR1 := Aside0.mk hr1; have HC1 := Aside0.mk hc1; clear hr1 hc1; have HR2 := Aside0.mk hr2; have HC2 := Aside0.mk hc2; clear hr2 hc2; have HR3 := Aside0.mk hr3; have HC3 := Aside0.mk hc3; clear hr3 hc3; have HB := Aside0.mk (Below.refl w.heap.size w); have H : ((fastilaw14_sane.f k).bind fun t534 => (if t534 = true then ((fastilaw14_right.f k l0).bind fun t535 => (if t535 = true then (if (l1.length : Int) > 20 then (fastilaw14_AssignBound.j0 k l0 l1 l2 l3 true) else (if (l2.length : Int) > 20 then (fastilaw14_AssignBound.j0 k l0 l1 l2 l3 true) else (fastilaw14_AssignBound.j0 k l0 l1 l2 l3 (decide ((l3.length : Int) > 20))))) else (fastilaw14_AssignBound.j0 k l0 l1 l2 l3 true))) else (none))) = some r := h; clear h; replace H := Option.bind_eq_some_iff.mp H; obtain ⟨t534, A50, H⟩ := H; replace H : (if t534 = true then ((fastilaw14_right.f k l0).bind fun t535 => (if t535 = true then (if (l1.length : Int) > 20 then (fastilaw14_AssignBound.j0 k l0 l1 l2 l3 true) else (if (l2.length : Int) > 20 then (fastilaw14_AssignBound.j0 k l0 l1 l2 l3 true) else (fastilaw14_AssignBound.j0 k l0 l1 l2 l3 (decide ((l3.length : Int) > 20))))) else (fastilaw14_AssignBound.j0 k l0 l1 l2 l3 true))) else (none)) = some r := H; have A5 := Aside0.mk A50; clear A50
 by_cases c6 : t534 = true
 rotate_left
 ·replace c6 := Bool.eq_false_iff.mpr c6
  subst c6
  have H1 : (none) = some r := by rw [if_neg (show ¬ (false = true) by decide)] at H; exact H
  clear H; have H := H1; clear H1
  exact absurd H (by simp)
 subst c6
 have H1 : ((fastilaw14_right.f k l0).bind fun t535 => (if t535 = true then (if (l1.length : Int) > 20 then (fastilaw14_AssignBound.j0 k l0 l1 l2 l3 true) else (if (l2.length : Int) > 20 then (fastilaw14_AssignBound.j0 k l0 l1 l2 l3 true) else (fastilaw14_AssignBound.j0 k l0 l1 l2 l3 (decide ((l3.length : Int) > 20))))) else (fastilaw14_AssignBound.j0 k l0 l1 l2 l3 true))) = some r := by rw [if_pos rfl] at H; exact H
 clear H; have H := H1; clear H1; have HC7 := Aside0.mk H; clear H
 go_enter Try.func6, Try.ntmps6
 go_upto_region 3 with (first | (refine goesC 25 Try.func11 #[] ?_; (with_reducible refine (fastilaw14_sane.calls k  true _ A5.out).mono ?_); rintro e w8 ⟨rfl, hb⟩; refine ⟨_, rfl, ?_⟩; replace HB := sB HB hb; (try clear hb); (try clear hb2); (try clear hk); (try clear hi)))
 (try simp only [Act.put, List.setIfInBounds_toArray, List.set_cons_zero, List.set_cons_succ])
 go_cut [44] (fun v44 wc => ∃ (kq : Nat) (x44_6 : Bool), v44 = .bool x44_6 ∧ Aside0 (fastilaw14_AssignBound.j0 kq l0 l1 l2 l3 x44_6 = some r) ∧ Aside0 (kq ≤ k) ∧ Aside0 (Below w.heap.size w wc))
 case first =>
  have H := HC7.out; clear HC7; replace H := Option.bind_eq_some_iff.mp H; obtain ⟨t535, A90, H⟩ := H; replace H : (if t535 = true then (if (l1.length : Int) > 20 then (fastilaw14_AssignBound.j0 k l0 l1 l2 l3 true) else (if (l2.length : Int) > 20 then (fastilaw14_AssignBound.j0 k l0 l1 l2 l3 true) else (fastilaw14_AssignBound.j0 k l0 l1 l2 l3 (decide ((l3.length : Int) > 20))))) else (fastilaw14_AssignBound.j0 k l0 l1 l2 l3 true)) = some r := H; have A9 := Aside0.mk A90; clear A90
  by_cases c10 : t535 = true
  rotate_left
  ·replace c10 := Bool.eq_false_iff.mpr c10
   subst c10
   have H1 : (fastilaw14_AssignBound.j0 k l0 l1 l2 l3 true) = some r := by rw [if_neg (show ¬ (false = true) by decide)] at H; exact H
   clear H; have H := H1; clear H1; have H' := Aside0.mk H; clear H
   go_wp2_with (first | (refine goesC 28 Try.func26 #[.slice A0 l0.length c0] ?_; (with_reducible refine (fastilaw14_right.calls k _ _ l0 false _ ?side1 ?side2 A9.out).mono ?_); (case side1 => exact cB HR0 HB); (case side2 => exact HC0.out); rintro e w' ⟨rfl, ⟨nd, rfl⟩⟩; refine ⟨_, rfl, ?_⟩))
   go_meet
   case rel => exact ⟨_, (true), (by first | rfl | (simp; done) | (simp [*]; done)), H', ⟨by first | omega | exact Nat.le_refl _⟩, ⟨blw HB.out⟩⟩
  subst c10
  have H1 : (if (l1.length : Int) > 20 then (fastilaw14_AssignBound.j0 k l0 l1 l2 l3 true) else (if (l2.length : Int) > 20 then (fastilaw14_AssignBound.j0 k l0 l1 l2 l3 true) else (fastilaw14_AssignBound.j0 k l0 l1 l2 l3 (decide ((l3.length : Int) > 20))))) = some r := by rw [if_pos rfl] at H; exact H
  clear H; have H := H1; clear H1
  by_cases c11 : (l1.length : Int) > 20
  ·rw [if_pos c11] at H
   have c11b0 : decide (20 < (l1.length : Int)) = true := decide_eq_true c11; have c11b1 : decide (20 < l1.length) = true := decide_eq_true (by omega); clear c11
   (first | rw [c11b0] | (simp only [i64_w, i32_w]; rw [c11b0]) | skip)
   have H' := Aside0.mk H; clear H
   go_wp2_with (first | (refine goesC 28 Try.func26 #[.slice A0 l0.length c0] ?_; (with_reducible refine (fastilaw14_right.calls k _ _ l0 true _ ?side1 ?side2 A9.out).mono ?_); (case side1 => exact cB HR0 HB); (case side2 => exact HC0.out); rintro e w' ⟨rfl, ⟨nd, rfl⟩⟩; refine ⟨_, rfl, ?_⟩))
   go_meet
   case rel => exact ⟨_, (true), (by first | rfl | (simp; done) | (simp [*]; done)), H', ⟨by first | omega | exact Nat.le_refl _⟩, ⟨blw HB.out⟩⟩
  rw [if_neg c11] at H; have c11b0 : decide (20 < (l1.length : Int)) = false := decide_eq_false c11; have c11b1 : decide (20 < l1.length) = false := decide_eq_false (by omega); clear c11
  (first | rw [c11b0] | (simp only [i64_w, i32_w]; rw [c11b0]) | skip)
  by_cases c12 : (l2.length : Int) > 20
  ·rw [if_pos c12] at H
   have c12b0 : decide (20 < (l2.length : Int)) = true := decide_eq_true c12; have c12b1 : decide (20 < l2.length) = true := decide_eq_true (by omega); clear c12; have H' := Aside0.mk H; clear H
   go_wp2_with (first | (refine goesC 28 Try.func26 #[.slice A0 l0.length c0] ?_; (with_reducible refine (fastilaw14_right.calls k _ _ l0 true _ ?side1 ?side2 A9.out).mono ?_); (case side1 => exact cB HR0 HB); (case side2 => exact HC0.out); rintro e w' ⟨rfl, ⟨nd, rfl⟩⟩; refine ⟨_, rfl, ?_⟩))
   go_meet
   case rel => exact ⟨_, (true), (by first | rfl | (simp; done) | (simp [*]; done)), H', ⟨by first | omega | exact Nat.le_refl _⟩, ⟨blw HB.out⟩⟩
  rw [if_neg c12] at H; have c12b0 : decide (20 < (l2.length : Int)) = false := decide_eq_false c12; have c12b1 : decide (20 < l2.length) = false := decide_eq_false (by omega); clear c12; have H' := Aside0.mk H; clear H
  go_wp2_with (first | (refine goesC 28 Try.func26 #[.slice A0 l0.length c0] ?_; (with_reducible refine (fastilaw14_right.calls k _ _ l0 true _ ?side1 ?side2 A9.out).mono ?_); (case side1 => exact cB HR0 HB); (case side2 => exact HC0.out); rintro e w' ⟨rfl, ⟨nd, rfl⟩⟩; refine ⟨_, rfl, ?_⟩))
  go_meet
  case rel => exact ⟨_, (decide ((l3.length : Int) > 20)), (by first | rfl | (simp; done) | (simp [*]; done)), H', ⟨by first | omega | exact Nat.le_refl _⟩, ⟨blw HB.out⟩⟩
 clear HC7; (try clear c1); (try clear c2); (try clear p2); (try clear c3); (try clear c6); (try clear c10); (try clear c11); (try clear c11b0); (try clear c11b1); (try clear c12); (try clear c12b0); (try clear c12b1); obtain ⟨kq, x44_6, rfl, HA, HJ6, HB⟩ := hcut
 cases kq with
 | zero => exact absurd HA.out (by simp [fastilaw14_AssignBound.j0])
 | succ kj6 =>
   have H := HA.out; clear HA
   simp only [fastilaw14_AssignBound.j0] at H
   by_cases c13 : x44_6 = true
   · subst c13
     have H1 : (some true) = some r := by rw [if_pos rfl] at H; exact H
     clear H; have H := H1; clear H1; obtain rfl := Option.some.inj H
     go_wp2
     go_ret
     exact ⟨by first | rfl | (simp [errW_none, errW_some] <;> rfl) | (simp [*, errW_none, errW_some] <;> rfl), blw HB.out⟩
   · replace c13 := Bool.eq_false_iff.mpr c13
     subst c13
     have H1 : ((assign_Proves.f kj6 l0 l2 l3).bind fun bt536 => (if bt536.2.2 = 0 then (if bt536.2.1 = true then (if (l2.length : Int) = (l0.length : Int) then (if (l0.length : Int) > 0 then (if 0 < (l0.length : Int) then (fastilaw14_AssignBound.j1 kj6 l0 l1 l2 l3 bt536.1 ((l3.length : Int) != ((rd_L1 l0 0).length : Int))) else (none)) else (fastilaw14_AssignBound.j1 kj6 l0 l1 l2 l3 bt536.1 false)) else (fastilaw14_AssignBound.j1 kj6 l0 l1 l2 l3 bt536.1 true)) else (some (bt536.1 == 0))) else (none))) = some r := by rw [if_neg (show ¬ (false = true) by decide)] at H; exact H
     clear H; have H := H1; clear H1; replace H := Option.bind_eq_some_iff.mp H; obtain ⟨⟨t536, t537, t538⟩, A140, H⟩ := H; replace H : (if t538 = 0 then (if t537 = true then (if (l2.length : Int) = (l0.length : Int) then (if (l0.length : Int) > 0 then (if 0 < (l0.length : Int) then (fastilaw14_AssignBound.j1 kj6 l0 l1 l2 l3 t536 ((l3.length : Int) != ((rd_L1 l0 0).length : Int))) else (none)) else (fastilaw14_AssignBound.j1 kj6 l0 l1 l2 l3 t536 false)) else (fastilaw14_AssignBound.j1 kj6 l0 l1 l2 l3 t536 true)) else (some (t536 == 0))) else (none)) = some r := H; have A14 := Aside0.mk A140; clear A140
     by_cases c15 : t538 = 0
     · rw [if_pos c15] at H
       have c15b0 : (t538 == 0) = true := beq_iff_eq.mpr c15; have c15b1 : (t538 != 0) = false := bne_eq_false_iff_eq.mpr c15; clear c15
       by_cases c16 : t537 = true
       · subst c16
         have H1 : (if (l2.length : Int) = (l0.length : Int) then (if (l0.length : Int) > 0 then (if 0 < (l0.length : Int) then (fastilaw14_AssignBound.j1 kj6 l0 l1 l2 l3 t536 ((l3.length : Int) != ((rd_L1 l0 0).length : Int))) else (none)) else (fastilaw14_AssignBound.j1 kj6 l0 l1 l2 l3 t536 false)) else (fastilaw14_AssignBound.j1 kj6 l0 l1 l2 l3 t536 true)) = some r := by rw [if_pos rfl] at H; exact H
         clear H; have H := H1; clear H1; have HC17 := Aside0.mk H; clear H
         go_upto_region 10 with (first | (refine goesC 49 Try.func20 #[.slice A0 l0.length c0, .slice A2 l2.length c2, .slice A3 l3.length c3] ?_; (with_reducible refine (assign_Proves.calls kj6 _ _ l0 _ _ l2 _ _ l3 t536 true t538 _ ?side1 ?side2 ?side3 ?side4 ?side5 ?side6 A14.out).mono ?_); (case side1 => exact cB HR0 HB); (case side2 => exact HC0.out); (case side3 => exact cB HR2 HB); (case side4 => exact HC2.out); (case side5 => exact cB HR3 HB); (case side6 => exact HC3.out); rintro e w18 ⟨rfl, hb⟩; refine ⟨_, rfl, ?_⟩; replace HB := sB HB hb; (try clear hb); (try clear hb2); (try clear hk); (try clear hi)))
         (try simp only [Act.put, List.setIfInBounds_toArray, List.set_cons_zero, List.set_cons_succ])
         go_cut [77] (fun v77 wc => ∃ (kq : Nat) (x77_16 : Bool), v77 = .bool x77_16 ∧ Aside0 (fastilaw14_AssignBound.j1 kq l0 l1 l2 l3 t536 x77_16 = some r) ∧ Aside0 (kq ≤ kj6) ∧ Aside0 (Below w.heap.size w wc))
         case first =>
           have H := HC17.out; clear HC17
           by_cases c19 : (l2.length : Int) = (l0.length : Int)
           · rw [if_pos c19] at H
             have c19b0 : ((l2.length : Int) == (l0.length : Int)) = true := beq_iff_eq.mpr c19; have c19b1 : ((l2.length : Int) != (l0.length : Int)) = false := bne_eq_false_iff_eq.mpr c19
             have c19b2 : (l2.length == l0.length) = true := by first | simpa using c19 | (simp at c19 ⊢; omega)
             clear c19
             (first | rw [c19b0] | (simp only [i64_w, i32_w]; rw [c19b0]) | skip)
             by_cases c20 : (l0.length : Int) > 0
             · rw [if_pos c20] at H
               have c20b0 : decide (0 < (l0.length : Int)) = true := decide_eq_true c20; have c20b1 : decide (0 < l0.length) = true := decide_eq_true (by omega); clear c20
               by_cases c21 : 0 < (l0.length : Int)
               · rw [if_pos c21] at H
                 have c21b0 : decide (0 < (l0.length : Int)) = true := decide_eq_true c21; have c21b1 : decide (0 < l0.length) = true := decide_eq_true (by omega); clear c21; have H' := Aside0.mk H; clear H; have p539 : 0 ≤ (0 : Int) := (by omega); have q539 : 0 < (l0.length : Int) := of_decide_eq_true (by first | (with_reducible assumption) | assumption); obtain ⟨ad539, A539_0, c539_0, e539, hx539_0, hl539_0, hi539_0⟩ := at_L1 HR0.out 0 p539 q539; cases e539; have qi539 : (0 < l0.length) = True := eq_true (by omega)
                 (try rw [show ((0 : Int)).toNat = 0 from rfl] at hx539_0)
                 (try rw [Addr.add_zero'] at hx539_0)
                 replace hx539_0 := (HB.out.cell (World.block_lt_of_cell? w _ hx539_0)).trans hx539_0; have HR539_0 := Aside0.mk hi539_0; have HC539_0 := Aside0.mk hl539_0; clear hi539_0 hl539_0; replace p539 := eq_true p539; replace q539 := eq_true q539
                 go_wp2
                 go_meet
                 case rel => exact ⟨_, (((l3.length : Int) != ((rd_L1 l0 0).length : Int))), (by first | rfl | (simp; done) | (simp [*]; done)), H', ⟨by have := HJ6.out; first | omega | exact Nat.le_refl _⟩, ⟨blw HB.out⟩⟩
               · rw [if_neg c21] at H
                 exact absurd H (by simp)
             · rw [if_neg c20] at H
               have c20b0 : decide (0 < (l0.length : Int)) = false := decide_eq_false c20; have c20b1 : decide (0 < l0.length) = false := decide_eq_false (by omega)
               have c20n : ¬ 0 < l0.length := by omega
               clear c20; have H' := Aside0.mk H; clear H
               go_wp2
               go_meet
               case rel => exact ⟨_, (false), (by first | rfl | (simp; done) | (simp [*]; done)), H', ⟨by have := HJ6.out; first | omega | exact Nat.le_refl _⟩, ⟨blw HB.out⟩⟩
           · rw [if_neg c19] at H
             have c19b0 : ((l2.length : Int) == (l0.length : Int)) = false := beq_eq_false_iff_ne.mpr c19; have c19b1 : ((l2.length : Int) != (l0.length : Int)) = true := bne_iff_ne.mpr c19
             have c19b2 : (l2.length == l0.length) = false := by first | simpa using c19 | (simp at c19 ⊢; omega)
             (first | rw [c19b0] | (simp only [i64_w, i32_w]; rw [c19b0]) | skip)
             have H' := Aside0.mk H; clear H
             go_wp2
             go_meet
             case rel => exact ⟨_, (true), (by first | rfl | (simp; done) | (simp [*]; done)), H', ⟨by have := HJ6.out; first | omega | exact Nat.le_refl _⟩, ⟨blw HB.out⟩⟩
         case rest =>
           clear HC17; (try clear c1); (try clear c2); (try clear p2); (try clear c3); (try clear c5); (try clear p5); (try clear q5); (try clear hx5); (try clear qi5); (try clear c6); (try clear c10); (try clear c11); (try clear c11b0); (try clear c11b1); (try clear c12); (try clear c12b0); (try clear c12b1); (try clear c13); (try clear c15); (try clear c15b0); (try clear c15b1); (try clear c16); (try clear c19); (try clear c19b0); (try clear c19b1); (try clear c19b2); (try clear c20); (try clear c20b0); (try clear c20b1); (try clear c21); (try clear c21b0); (try clear c21b1); (try clear hx539_0); (try clear p2); (try clear p539); (try clear q539); obtain ⟨kq, x77_16, rfl, HA, HJ16, HB⟩ := hcut
           cases kq with
           | zero => exact absurd HA.out (by simp [fastilaw14_AssignBound.j1])
           | succ kj16 =>
             have H := HA.out; clear HA
             simp only [fastilaw14_AssignBound.j1] at H
             by_cases c22 : x77_16 = true
             · subst c22
               have H1 : (none) = some r := by rw [if_pos rfl] at H; exact H
               clear H; have H := H1; clear H1
               exact absurd H (by simp)
             · replace c22 := Bool.eq_false_iff.mpr c22
               subst c22
               have H1 : (fastilaw14_AssignBound.l0 kj16 l0 l1 l2 l3 t536 0 l3 (l3.length : Int) 0) = some r := by rw [if_neg (show ¬ (false = true) by decide)] at H; exact H
               clear H; have H := H1; clear H1; have H' := Aside0.mk H; clear H
               go_wp2
               go_loopg [12, 80] kj16 (fun kq v12 v80 w' => ∃ (x12_3 : Int) (x80_3 : Int), v12 = .int .i64 x12_3 ∧ v80 = .int .i64 x80_3 ∧ Aside0 (fastilaw14_AssignBound.l0 kq l0 l1 l2 l3 t536 x12_3 l3 (l3.length : Int) x80_3 = some r) ∧ Aside0 (kq ≤ kj16) ∧ Aside0 (Below w.heap.size w w'))
               case atStart => exact ⟨(0), (0), (by first | rfl | (simp; done) | (simp [*]; done)), (by first | rfl | (simp; done) | (simp [*]; done)), H', ⟨Nat.le_refl _⟩, ⟨blw HB.out⟩⟩
               case round =>
                 clear H'; (try clear c1); (try clear c2); (try clear p2); (try clear c3); (try clear c5); (try clear p5); (try clear q5); (try clear hx5); (try clear qi5); (try clear c6); (try clear c10); (try clear c11); (try clear c11b0); (try clear c11b1); (try clear c12); (try clear c12b0); (try clear c12b1); (try clear c13); (try clear c15); (try clear c15b0); (try clear c15b1); (try clear c16); (try clear c19); (try clear c19b0); (try clear c19b1); (try clear c19b2); (try clear c20); (try clear c20b0); (try clear c20b1); (try clear c21); (try clear c21b0); (try clear c21b1); (try clear c22); (try clear hx539_0); (try clear p2); (try clear p5); (try clear p539); (try clear q5); (try clear q539); obtain ⟨x12_3, x80_3, rfl, rfl, HA, HK3, HB⟩ := hrel
                 cases gk with
                 | zero => exact absurd HA.out (by simp [fastilaw14_AssignBound.l0])
                 | succ k3 =>
                   have H := HA.out; clear HA
                   simp only [fastilaw14_AssignBound.l0] at H
                   by_cases c23 : x80_3 < (l3.length : Int)
                   · rw [if_pos c23] at H
                     have c23b0 : decide (x80_3 < (l3.length : Int)) = true := decide_eq_true c23; clear c23
                     by_cases c24 : 0 ≤ x80_3
                     · rw [if_pos c24] at H
                       have c24b0 : decide (0 ≤ x80_3) = true := decide_eq_true c24; clear c24
                       by_cases c25 : x80_3 < (l3.length : Int)
                       · rw [if_pos c25] at H
                         have c25b0 : decide (x80_3 < (l3.length : Int)) = true := decide_eq_true c25; clear c25
                         by_cases c26 : (rd l3 x80_3) > 0
                         · rw [if_pos c26] at H
                           exact absurd H (by simp)
                         · rw [if_neg c26] at H
                           have c26b0 : decide (0 < (rd l3 x80_3)) = false := decide_eq_false c26; clear c26; have H' := Aside0.mk H; clear H; have p540 : 0 ≤ (x80_3 : Int) := of_decide_eq_true (by first | (with_reducible assumption) | assumption); have q540 : x80_3 < (l3.length : Int) := of_decide_eq_true (by first | (with_reducible assumption) | assumption); obtain ⟨ad540, e540, hx540_0⟩ := Kd.at_int HR3.out x80_3 p540 q540; cases e540; replace hx540_0 := (HB.out.cell (World.block_lt_of_cell? w _ hx540_0)).trans hx540_0; replace p540 := eq_true p540; replace q540 := eq_true q540
                           go_wp2
                           go_roundg k3
                           case measure => have := HJ6.out; have := HJ16.out; have := HK3.out; omega
                           case rel => exact ⟨(wrap64 (x12_3 + (rd l3 x80_3))), (wrap64 (x80_3 + 1)), (by first | rfl | (simp; done) | (simp [*]; done)), (by first | rfl | (simp; done) | (simp [*]; done)), H', ⟨by have := HJ6.out; have := HJ16.out; have := HK3.out; omega⟩, ⟨blw HB.out⟩⟩
                       · rw [if_neg c25] at H
                         exact absurd H (by simp)
                     · rw [if_neg c24] at H
                       exact absurd H (by simp)
                   · rw [if_neg c23] at H
                     have c23b0 : decide (x80_3 < (l3.length : Int)) = false := decide_eq_false c23; clear c23; have H' := Aside0.mk H; clear H
                     go_wp2
                     go_loopg [12, 92] k3 (fun kq v12 v92 w' => ∃ (x12_4 : Int) (x92_4 : Int), v12 = .int .i64 x12_4 ∧ v92 = .int .i64 x92_4 ∧ Aside0 (fastilaw14_AssignBound.l1 kq l0 l1 l3 t536 x12_4 l2 (l2.length : Int) x92_4 = some r) ∧ Aside0 (kq ≤ k3) ∧ Aside0 (Below w.heap.size w w'))
                     case atStart => exact ⟨(x12_3), (0), (by first | rfl | (simp; done) | (simp [*]; done)), (by first | rfl | (simp; done) | (simp [*]; done)), H', ⟨Nat.le_refl _⟩, ⟨blw HB.out⟩⟩
                     case round =>
                       clear H'; (try clear c1); (try clear c2); (try clear p2); (try clear c3); (try clear c5); (try clear p5); (try clear q5); (try clear hx5); (try clear qi5); (try clear c6); (try clear p6); (try clear c10); (try clear c11); (try clear c11b0); (try clear c11b1); (try clear c12); (try clear c12b0); (try clear c12b1); (try clear c13); (try clear c15); (try clear c15b0); (try clear c15b1); (try clear c16); (try clear c19); (try clear c19b0); (try clear c19b1); (try clear c19b2); (try clear c20); (try clear c20b0); (try clear c20b1); (try clear c21); (try clear c21b0); (try clear c21b1); (try clear c22); (try clear c23); (try clear c23b0); (try clear c24); (try clear c24b0); (try clear c25); (try clear c25b0); (try clear c26); (try clear c26b0); (try clear hx539_0); (try clear hx540_0); (try clear p2); (try clear p5); (try clear p539); (try clear p540); (try clear q5); (try clear q539); (try clear q540); obtain ⟨x12_4, x92_4, rfl, rfl, HA, HK4, HB⟩ := hrel
                       cases gk with
                       | zero => exact absurd HA.out (by simp [fastilaw14_AssignBound.l1])
                       | succ k4 =>
                         have H := HA.out; clear HA
                         simp only [fastilaw14_AssignBound.l1] at H
                         by_cases c27 : x92_4 < (l2.length : Int)
                         · rw [if_pos c27] at H
                           have c27b0 : decide (x92_4 < (l2.length : Int)) = true := decide_eq_true c27; clear c27
                           by_cases c28 : 0 ≤ x92_4
                           · rw [if_pos c28] at H
                             have c28b0 : decide (0 ≤ x92_4) = true := decide_eq_true c28; clear c28
                             by_cases c29 : x92_4 < (l2.length : Int)
                             · rw [if_pos c29] at H
                               have c29b0 : decide (x92_4 < (l2.length : Int)) = true := decide_eq_true c29; clear c29
                               by_cases c30 : x92_4 < (l0.length : Int)
                               · rw [if_pos c30] at H
                                 have c30b0 : decide (x92_4 < (l0.length : Int)) = true := decide_eq_true c30; clear c30; have H' := Aside0.mk H; clear H; have p549 : 0 ≤ (x92_4 : Int) := of_decide_eq_true (by first | (with_reducible assumption) | assumption); have q549 : x92_4 < (l2.length : Int) := of_decide_eq_true (by first | (with_reducible assumption) | assumption); obtain ⟨ad549, e549, hx549_0⟩ := Kd.at_int HR2.out x92_4 p549 q549; cases e549; replace hx549_0 := (HB.out.cell (World.block_lt_of_cell? w _ hx549_0)).trans hx549_0; replace p549 := eq_true p549; replace q549 := eq_true q549; have p550 : 0 ≤ (x92_4 : Int) := of_decide_eq_true (by first | (with_reducible assumption) | assumption); have q550 : x92_4 < (l0.length : Int) := of_decide_eq_true (by first | (with_reducible assumption) | assumption); obtain ⟨ad550, A550_0, c550_0, e550, hx550_0, hl550_0, hi550_0⟩ := at_L1 HR0.out x92_4 p550 q550; cases e550; replace hx550_0 := (HB.out.cell (World.block_lt_of_cell? w _ hx550_0)).trans hx550_0; have HR550_0 := Aside0.mk hi550_0; have HC550_0 := Aside0.mk hl550_0; clear hi550_0 hl550_0; replace p550 := eq_true p550; replace q550 := eq_true q550
                                 go_wp2
                                 go_loopg [105] k4 (fun kq v105 w' => ∃ (x105_5 : Int), v105 = .int .i64 x105_5 ∧ Aside0 (fastilaw14_AssignBound.l2 kq l0 l1 l3 t536 (wrap64 (x12_4 + (rd l2 x92_4))) (rd l2 x92_4) l2 (l2.length : Int) x92_4 (rd_L1 l0 x92_4) ((rd_L1 l0 x92_4).length : Int) x105_5 = some r) ∧ Aside0 (kq ≤ k4) ∧ Aside0 (Below w.heap.size w w'))
                                 case atStart => exact ⟨(0), (by first | rfl | (simp; done) | (simp [*]; done)), H', ⟨Nat.le_refl _⟩, ⟨blw HB.out⟩⟩
                                 case round =>
                                   clear H'; (try clear c1); (try clear c2); (try clear p2); (try clear c3); (try clear c5); (try clear p5); (try clear q5); (try clear hx5); (try clear qi5); (try clear c6); (try clear p6); (try clear c10); (try clear c11); (try clear c11b0); (try clear c11b1); (try clear c12); (try clear c12b0); (try clear c12b1); (try clear c13); (try clear c15); (try clear c15b0); (try clear c15b1); (try clear c16); (try clear c19); (try clear c19b0); (try clear c19b1); (try clear c19b2); (try clear c20); (try clear c20b0); (try clear c20b1); (try clear c21); (try clear c21b0); (try clear c21b1); (try clear c22); (try clear c23); (try clear c23b0); (try clear c24); (try clear c24b0); (try clear c25); (try clear c25b0); (try clear c26); (try clear c26b0); (try clear c27); (try clear c27b0); (try clear c28); (try clear c28b0); (try clear c29); (try clear c29b0); (try clear c30); (try clear c30b0); (try clear hx539_0); (try clear hx540_0); (try clear hx549_0); (try clear hx550_0); (try clear p2); (try clear p5); (try clear p539); (try clear p540); (try clear p549); (try clear p550); (try clear p6); (try clear q5); (try clear q539); (try clear q540); (try clear q549); (try clear q550); obtain ⟨x105_5, rfl, HA, HK5, HB⟩ := hrel
                                   cases gk with
                                   | zero => exact absurd HA.out (by simp [fastilaw14_AssignBound.l2])
                                   | succ k5 =>
                                     have H := HA.out; clear HA
                                     simp only [fastilaw14_AssignBound.l2] at H
                                     by_cases c31 : x105_5 < ((rd_L1 l0 x92_4).length : Int)
                                     · rw [if_pos c31] at H
                                       have c31b0 : decide (x105_5 < ((rd_L1 l0 x92_4).length : Int)) = true := decide_eq_true c31; clear c31
                                       by_cases c32 : 0 ≤ x105_5
                                       · rw [if_pos c32] at H
                                         have c32b0 : decide (0 ≤ x105_5) = true := decide_eq_true c32; clear c32
                                         by_cases c33 : x105_5 < ((rd_L1 l0 x92_4).length : Int)
                                         · rw [if_pos c33] at H
                                           have c33b0 : decide (x105_5 < ((rd_L1 l0 x92_4).length : Int)) = true := decide_eq_true c33; clear c33
                                           by_cases c34 : (rd (rd_L1 l0 x92_4) x105_5) ≥ 0
                                           · rw [if_pos c34] at H
                                             have c34b0 : decide (0 ≤ (rd (rd_L1 l0 x92_4) x105_5)) = true := decide_eq_true c34; clear c34
                                             by_cases c35 : x105_5 < (l3.length : Int)
                                             · rw [if_pos c35] at H
                                               have c35b0 : decide (x105_5 < (l3.length : Int)) = true := decide_eq_true c35; clear c35
                                               by_cases c36 : (wrap64 ((rd l2 x92_4) + (rd l3 x105_5))) > (rd (rd_L1 l0 x92_4) x105_5)
                                               · rw [if_pos c36] at H
                                                 exact absurd H (by simp)
                                               · rw [if_neg c36] at H
                                                 have c36b0 : decide ((rd (rd_L1 l0 x92_4) x105_5) < (wrap64 ((rd l2 x92_4) + (rd l3 x105_5)))) = false := decide_eq_false c36; clear c36; have H' := Aside0.mk H; clear H; have p551 : 0 ≤ (x105_5 : Int) := of_decide_eq_true (by first | (with_reducible assumption) | assumption); have q551 : x105_5 < ((rd_L1 l0 x92_4).length : Int) := of_decide_eq_true (by first | (with_reducible assumption) | assumption); obtain ⟨ad551, e551, hx551_0⟩ := Kd.at_int HR550_0.out x105_5 p551 q551; cases e551; replace hx551_0 := (HB.out.cell (World.block_lt_of_cell? w _ hx551_0)).trans hx551_0; replace p551 := eq_true p551; replace q551 := eq_true q551; have p552 : 0 ≤ (x105_5 : Int) := of_decide_eq_true (by first | (with_reducible assumption) | assumption); have q552 : x105_5 < (l3.length : Int) := of_decide_eq_true (by first | (with_reducible assumption) | assumption); obtain ⟨ad552, e552, hx552_0⟩ := Kd.at_int HR3.out x105_5 p552 q552; cases e552; replace hx552_0 := (HB.out.cell (World.block_lt_of_cell? w _ hx552_0)).trans hx552_0; replace p552 := eq_true p552; replace q552 := eq_true q552
                                                 go_wp2
                                                 go_roundg k5
                                                 case measure => have := HJ6.out; have := HJ16.out; have := HK3.out; have := HK4.out; have := HK5.out; omega
                                                 case rel => exact ⟨(wrap64 (x105_5 + 1)), (by first | rfl | (simp; done) | (simp [*]; done)), H', ⟨by have := HJ6.out; have := HJ16.out; have := HK3.out; have := HK4.out; have := HK5.out; omega⟩, ⟨blw HB.out⟩⟩
                                             · rw [if_neg c35] at H
                                               exact absurd H (by simp)
                                           · rw [if_neg c34] at H
                                             have c34b0 : decide (0 ≤ (rd (rd_L1 l0 x92_4) x105_5)) = false := decide_eq_false c34; clear c34; have H' := Aside0.mk H; clear H; have p551 : 0 ≤ (x105_5 : Int) := of_decide_eq_true (by first | (with_reducible assumption) | assumption); have q551 : x105_5 < ((rd_L1 l0 x92_4).length : Int) := of_decide_eq_true (by first | (with_reducible assumption) | assumption); obtain ⟨ad551, e551, hx551_0⟩ := Kd.at_int HR550_0.out x105_5 p551 q551; cases e551; replace hx551_0 := (HB.out.cell (World.block_lt_of_cell? w _ hx551_0)).trans hx551_0; replace p551 := eq_true p551; replace q551 := eq_true q551
                                             go_wp2
                                             go_roundg k5
                                             case measure => have := HJ6.out; have := HJ16.out; have := HK3.out; have := HK4.out; have := HK5.out; omega
                                             case rel => exact ⟨(wrap64 (x105_5 + 1)), (by first | rfl | (simp; done) | (simp [*]; done)), H', ⟨by have := HJ6.out; have := HJ16.out; have := HK3.out; have := HK4.out; have := HK5.out; omega⟩, ⟨blw HB.out⟩⟩
                                         · rw [if_neg c33] at H
                                           exact absurd H (by simp)
                                       · rw [if_neg c32] at H
                                         exact absurd H (by simp)
                                     · rw [if_neg c31] at H
                                       have c31b0 : decide (x105_5 < ((rd_L1 l0 x92_4).length : Int)) = false := decide_eq_false c31; clear c31; have H' := Aside0.mk H; clear H
                                       go_wp2
                                       go_roundg k5
                                       case measure => have := HJ6.out; have := HJ16.out; have := HK3.out; have := HK4.out; have := HK5.out; omega
                                       case rel => exact ⟨((wrap64 (x12_4 + (rd l2 x92_4)))), (wrap64 (x92_4 + 1)), (by first | rfl | (simp; done) | (simp [*]; done)), (by first | rfl | (simp; done) | (simp [*]; done)), H', ⟨by have := HJ6.out; have := HJ16.out; have := HK3.out; have := HK4.out; have := HK5.out; omega⟩, ⟨blw HB.out⟩⟩
                               · rw [if_neg c30] at H
                                 exact absurd H (by simp)
                             · rw [if_neg c29] at H
                               exact absurd H (by simp)
                           · rw [if_neg c28] at H
                             exact absurd H (by simp)
                         · rw [if_neg c27] at H
                           have c27b0 : decide (x92_4 < (l2.length : Int)) = false := decide_eq_false c27; clear c27; replace H := Option.bind_eq_some_iff.mp H; obtain ⟨⟨t541, t542⟩, A370, H⟩ := H; replace H : ((assign_Best.f l0).bind fun bt543 => (if x12_4 = t536 then (if bt543.2.2.2 = 0 then (if t542 = 0 then (if t541 ≥ t536 then (if bt543.2.2.1 = true then (some (decide (bt543.2.1 ≥ t536))) else (some true)) else (none)) else (if bt543.2.2.1 = true then (some (decide (bt543.2.1 ≥ t536))) else (some true))) else (none)) else (none))) = some r := H; have A37 := Aside0.mk A370; clear A370; replace H := Option.bind_eq_some_iff.mp H; obtain ⟨⟨t543, t544, t545, t546⟩, A380, H⟩ := H; replace H : (if x12_4 = t536 then (if t546 = 0 then (if t542 = 0 then (if t541 ≥ t536 then (if t545 = true then (some (decide (t544 ≥ t536))) else (some true)) else (none)) else (if t545 = true then (some (decide (t544 ≥ t536))) else (some true))) else (none)) else (none)) = some r := H; have A38 := Aside0.mk A380; clear A380
                           by_cases c39 : x12_4 = t536
                           · rw [if_pos c39] at H
                             have c39b0 : (x12_4 == t536) = true := beq_iff_eq.mpr c39; have c39b1 : (x12_4 != t536) = false := bne_eq_false_iff_eq.mpr c39; clear c39
                             by_cases c40 : t546 = 0
                             · rw [if_pos c40] at H
                               have c40b0 : (t546 == 0) = true := beq_iff_eq.mpr c40; have c40b1 : (t546 != 0) = false := bne_eq_false_iff_eq.mpr c40; clear c40
                               by_cases c41 : t542 = 0
                               · rw [if_pos c41] at H
                                 have c41b0 : (t542 == 0) = true := beq_iff_eq.mpr c41; have c41b1 : (t542 != 0) = false := bne_eq_false_iff_eq.mpr c41; clear c41
                                 by_cases c42 : t541 ≥ t536
                                 · rw [if_pos c42] at H
                                   have c42b0 : decide (t536 ≤ t541) = true := decide_eq_true c42; clear c42
                                   by_cases c43 : t545 = true
                                   · subst c43
                                     have H1 : (some (decide (t544 ≥ t536))) = some r := by rw [if_pos rfl] at H; exact H
                                     clear H; have H := H1; clear H1; obtain rfl := Option.some.inj H
                                     go_wp2_with (first | (refine goesC 127 Try.func13 #[.slice A0 l0.length c0, .slice A1 l1.length c1] ?_; (with_reducible refine (assign_Cost.calls k4 _ _ l0 _ _ l1 t541 t542 _ ?side1 ?side2 ?side3 ?side4 A37.out).mono ?_); (case side1 => exact cB HR0 HB); (case side2 => exact HC0.out); (case side3 => exact cB HR1 HB); (case side4 => exact HC1.out); rintro e w44 ⟨rfl, hb⟩; refine ⟨_, rfl, ?_⟩; replace HB := sB HB hb; (try clear hb); (try clear hb2); (try clear hk); (try clear hi)) | (refine goesC 132 Try.func15 #[.slice A0 l0.length c0] ?_; (with_reducible refine (assign_Best.calls _ _ l0 t543 t544 true t546 _ ?side1 ?side2 A38.out).mono ?_); (case side1 => exact cB HR0 HB); (case side2 => exact HC0.out); rintro e w45 ⟨v547, rfl, ho0, hb⟩; refine ⟨_, rfl, ?_⟩; replace HB := sB HB hb; (try clear hb); (try clear hb2); (try clear hk); (try clear hi); (try clear ho0)))
                                     go_ret
                                     exact ⟨by first | rfl | (simp [errW_none, errW_some] <;> rfl) | (simp [*, errW_none, errW_some] <;> rfl), blw HB.out⟩
                                   · replace c43 := Bool.eq_false_iff.mpr c43
                                     subst c43
                                     have H1 : (some true) = some r := by rw [if_neg (show ¬ (false = true) by decide)] at H; exact H
                                     clear H; have H := H1; clear H1; obtain rfl := Option.some.inj H
                                     go_wp2_with (first | (refine goesC 127 Try.func13 #[.slice A0 l0.length c0, .slice A1 l1.length c1] ?_; (with_reducible refine (assign_Cost.calls k4 _ _ l0 _ _ l1 t541 t542 _ ?side1 ?side2 ?side3 ?side4 A37.out).mono ?_); (case side1 => exact cB HR0 HB); (case side2 => exact HC0.out); (case side3 => exact cB HR1 HB); (case side4 => exact HC1.out); rintro e w46 ⟨rfl, hb⟩; refine ⟨_, rfl, ?_⟩; replace HB := sB HB hb; (try clear hb); (try clear hb2); (try clear hk); (try clear hi)) | (refine goesC 132 Try.func15 #[.slice A0 l0.length c0] ?_; (with_reducible refine (assign_Best.calls _ _ l0 t543 t544 false t546 _ ?side1 ?side2 A38.out).mono ?_); (case side1 => exact cB HR0 HB); (case side2 => exact HC0.out); rintro e w47 ⟨v547, rfl, ho0, hb⟩; refine ⟨_, rfl, ?_⟩; replace HB := sB HB hb; (try clear hb); (try clear hb2); (try clear hk); (try clear hi); (try clear ho0)))
                                     go_ret
                                     exact ⟨by first | rfl | (simp [errW_none, errW_some] <;> rfl) | (simp [*, errW_none, errW_some] <;> rfl), blw HB.out⟩
                                 · rw [if_neg c42] at H
                                   exact absurd H (by simp)
                               · rw [if_neg c41] at H
                                 have c41b0 : (t542 == 0) = false := beq_eq_false_iff_ne.mpr c41; have c41b1 : (t542 != 0) = true := bne_iff_ne.mpr c41
                                 by_cases c48 : t545 = true
                                 · subst c48
                                   have H1 : (some (decide (t544 ≥ t536))) = some r := by rw [if_pos rfl] at H; exact H
                                   clear H; have H := H1; clear H1; obtain rfl := Option.some.inj H
                                   go_wp2_with (first | (refine goesC 127 Try.func13 #[.slice A0 l0.length c0, .slice A1 l1.length c1] ?_; (with_reducible refine (assign_Cost.calls k4 _ _ l0 _ _ l1 t541 t542 _ ?side1 ?side2 ?side3 ?side4 A37.out).mono ?_); (case side1 => exact cB HR0 HB); (case side2 => exact HC0.out); (case side3 => exact cB HR1 HB); (case side4 => exact HC1.out); rintro e w49 ⟨rfl, hb⟩; refine ⟨_, rfl, ?_⟩; replace HB := sB HB hb; (try clear hb); (try clear hb2); (try clear hk); (try clear hi)) | (refine goesC 132 Try.func15 #[.slice A0 l0.length c0] ?_; (with_reducible refine (assign_Best.calls _ _ l0 t543 t544 true t546 _ ?side1 ?side2 A38.out).mono ?_); (case side1 => exact cB HR0 HB); (case side2 => exact HC0.out); rintro e w50 ⟨v547, rfl, ho0, hb⟩; refine ⟨_, rfl, ?_⟩; replace HB := sB HB hb; (try clear hb); (try clear hb2); (try clear hk); (try clear hi); (try clear ho0)))
                                   go_ret
                                   exact ⟨by first | rfl | (simp [errW_none, errW_some] <;> rfl) | (simp [*, errW_none, errW_some] <;> rfl), blw HB.out⟩
                                 · replace c48 := Bool.eq_false_iff.mpr c48
                                   subst c48
                                   have H1 : (some true) = some r := by rw [if_neg (show ¬ (false = true) by decide)] at H; exact H
                                   clear H; have H := H1; clear H1; obtain rfl := Option.some.inj H
                                   go_wp2_with (first | (refine goesC 127 Try.func13 #[.slice A0 l0.length c0, .slice A1 l1.length c1] ?_; (with_reducible refine (assign_Cost.calls k4 _ _ l0 _ _ l1 t541 t542 _ ?side1 ?side2 ?side3 ?side4 A37.out).mono ?_); (case side1 => exact cB HR0 HB); (case side2 => exact HC0.out); (case side3 => exact cB HR1 HB); (case side4 => exact HC1.out); rintro e w51 ⟨rfl, hb⟩; refine ⟨_, rfl, ?_⟩; replace HB := sB HB hb; (try clear hb); (try clear hb2); (try clear hk); (try clear hi)) | (refine goesC 132 Try.func15 #[.slice A0 l0.length c0] ?_; (with_reducible refine (assign_Best.calls _ _ l0 t543 t544 false t546 _ ?side1 ?side2 A38.out).mono ?_); (case side1 => exact cB HR0 HB); (case side2 => exact HC0.out); rintro e w52 ⟨v547, rfl, ho0, hb⟩; refine ⟨_, rfl, ?_⟩; replace HB := sB HB hb; (try clear hb); (try clear hb2); (try clear hk); (try clear hi); (try clear ho0)))
                                   go_ret
                                   exact ⟨by first | rfl | (simp [errW_none, errW_some] <;> rfl) | (simp [*, errW_none, errW_some] <;> rfl), blw HB.out⟩
                             · rw [if_neg c40] at H
                               exact absurd H (by simp)
                           · rw [if_neg c39] at H
                             exact absurd H (by simp)
       · replace c16 := Bool.eq_false_iff.mpr c16
         subst c16
         have H1 : (some (t536 == 0)) = some r := by rw [if_neg (show ¬ (false = true) by decide)] at H; exact H
         clear H; have H := H1; clear H1; obtain rfl := Option.some.inj H
         go_wp2_with (first | (refine goesC 49 Try.func20 #[.slice A0 l0.length c0, .slice A2 l2.length c2, .slice A3 l3.length c3] ?_; (with_reducible refine (assign_Proves.calls kj6 _ _ l0 _ _ l2 _ _ l3 t536 false t538 _ ?side1 ?side2 ?side3 ?side4 ?side5 ?side6 A14.out).mono ?_); (case side1 => exact cB HR0 HB); (case side2 => exact HC0.out); (case side3 => exact cB HR2 HB); (case side4 => exact HC2.out); (case side5 => exact cB HR3 HB); (case side6 => exact HC3.out); rintro e w53 ⟨rfl, hb⟩; refine ⟨_, rfl, ?_⟩; replace HB := sB HB hb; (try clear hb); (try clear hb2); (try clear hk); (try clear hi)))
         go_ret
         exact ⟨by first | rfl | (simp [errW_none, errW_some] <;> rfl) | (simp [*, errW_none, errW_some] <;> rfl), blw HB.out⟩
     · rw [if_neg c15] at H
       exact absurd H (by simp)

end Go.Proofs.Ytgiinjfandeddaa.Q
