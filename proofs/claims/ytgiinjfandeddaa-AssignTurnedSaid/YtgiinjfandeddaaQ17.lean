/- Functions of the translation as plain Lean functions, and proofs that the calls do what these say; written by a program of this session round the kit's print. -/
import Derived.Test.YtgiinjfandeddaaQ0
import Derived.Test.YtgiinjfandeddaaAidB
import Derived.Test.YtgiinjfandeddaaAidC
import Derived.Test.YtgiinjfandeddaaQ4
import Derived.Test.YtgiinjfandeddaaQ13H
import Derived.Test.YtgiinjfandeddaaGBe
import Derived.Test.YtgiinjfandeddaaGDe
namespace Go.Proofs.Ytgiinjfandeddaa.Q
open Go.RowKit Go.Proofs.YtgiinjfandeddaaW.PrintWords Go.Proofs.YtgiinjfandeddaaW.PrintLast Go.Proofs.YtgiinjfandeddaaW.PrintMore
attribute [local go_sem] max2_int min2_int max_two min_two max_three min_three max_four min_four   -- for this text's walks alone
set_option linter.unusedVariables false
set_option linter.unusedSimpArgs false

/-! ### fastilaw14_AssignTurned: function 10 -/
mutual
def fastilaw14_AssignTurned.j0 : Nat → List (List Int) → Bool → Option (Bool)
  | 0, _, _ => none
  | k + 1, x0, x37 => if x37 = true then (some true) else (if 0 ≤ (x0.length : Int) then (if ((x0.length : Int) : Int).toNat ≤ 11728124029610 then (fastilaw14_AssignTurned.l0 k x0 (List.replicate ((x0.length : Int) : Int).toNat []) x0 (x0.length : Int) 0) else (none)) else (none))
def fastilaw14_AssignTurned.l0 : Nat → List (List Int) → List (List Int) → List (List Int) → Int → Int → Option (Bool)
  | 0, _, _, _, _, _ => none
  | k + 1, x0, x3, x41, x42, x43 => if x43 < x42 then (if 0 ≤ x43 then (if x43 < (x41.length : Int) then (fastilaw14_AssignTurned.l1 k x0 x3 x41 x42 x43 (rd_L1 x41 x43) ((rd_L1 x41 x43).length : Int) 0) else (none)) else (none)) else ((assign_Best.f x0).bind fun bt661 => ((assign_Best.f x3).bind fun bt667 => ((assign_Deny.f x3).bind fun bt673 => (if bt661.2.2.2 = 0 then (if bt667.2.2.2 = 0 then (if bt673.2.2 = 0 then (if (bt661.2.2.1 == bt667.2.2.1) = true then (if bt661.2.1 = bt667.2.1 then (some (bt673.2.1 != bt661.2.2.1)) else (none)) else (none)) else (none)) else (none)) else (none)))))
def fastilaw14_AssignTurned.l1 : Nat → List (List Int) → List (List Int) → List (List Int) → Int → Int → List Int → Int → Int → Option (Bool)
  | 0, _, _, _, _, _, _, _, _ => none
  | k + 1, x0, x3, x41, x42, x43, x47, x48, x49 => if x49 < x48 then (if 0 ≤ x49 then (if x49 < (x47.length : Int) then (if x49 < (x3.length : Int) then (if (rd_L1 x3 x49).length < 17592186044416 then (fastilaw14_AssignTurned.l1 k x0 (x3.set (x49 : Int).toNat ((rd_L1 x3 x49) ++ [rd x47 x49])) x41 x42 x43 x47 x48 (wrap64 (x49 + 1))) else (none)) else (none)) else (none)) else (none)) else (fastilaw14_AssignTurned.l0 k x0 x3 x41 x42 (wrap64 (x43 + 1)))
end
def fastilaw14_AssignTurned.f (k : Nat) (l0 : List (List Int)) : Option (Bool) := (fastilaw14_sane.f k).bind fun t655 => (if t655 = true then ((fastilaw14_right.f k l0).bind fun t656 => (if t656 = true then (if (l0.length : Int) = 0 then (fastilaw14_AssignTurned.j0 k l0 true) else (if 0 < (l0.length : Int) then (fastilaw14_AssignTurned.j0 k l0 (((rd_L1 l0 0).length : Int) != (l0.length : Int))) else (none))) else (fastilaw14_AssignTurned.j0 k l0 true))) else (none))
set_option maxHeartbeats 8000000 in
set_option maxRecDepth 100000 in
theorem fastilaw14_AssignTurned.calls (k : Nat) (A0 : Option Addr) (c0 : Nat) (l0 : List (List Int)) (r : Bool) (w : World) (hr0 : Kd.C (Kd.slice 3 (Kd.int .i64)) w A0 l0.length l0) (hc0 : l0.length ≤ c0) (h : fastilaw14_AssignTurned.f k l0 = some r) :
    Calls Try.prog 10 #[.slice A0 l0.length c0] w fun e w' => e = .returned (.bool r) ∧ Below w.heap.size w w' := by
 have HR0 := Aside0.mk hr0; have HC0 := Aside0.mk hc0; clear hr0 hc0; have HB := Aside0.mk (Below.refl w.heap.size w); have H : ((fastilaw14_sane.f k).bind fun t655 => (if t655 = true then ((fastilaw14_right.f k l0).bind fun t656 => (if t656 = true then (if (l0.length : Int) = 0 then (fastilaw14_AssignTurned.j0 k l0 true) else (if 0 < (l0.length : Int) then (fastilaw14_AssignTurned.j0 k l0 (((rd_L1 l0 0).length : Int) != (l0.length : Int))) else (none))) else (fastilaw14_AssignTurned.j0 k l0 true))) else (none))) = some r := h; clear h; replace H := Option.bind_eq_some_iff.mp H; obtain ⟨t655, A20, H⟩ := H; replace H : (if t655 = true then ((fastilaw14_right.f k l0).bind fun t656 => (if t656 = true then (if (l0.length : Int) = 0 then (fastilaw14_AssignTurned.j0 k l0 true) else (if 0 < (l0.length : Int) then (fastilaw14_AssignTurned.j0 k l0 (((rd_L1 l0 0).length : Int) != (l0.length : Int))) else (none))) else (fastilaw14_AssignTurned.j0 k l0 true))) else (none)) = some r := H; have A2 := Aside0.mk A20; clear A20
 by_cases c3 : t655 = true
 rotate_left
 ·replace c3 := Bool.eq_false_iff.mpr c3
  subst c3
  have H1 : (none) = some r := by rw [if_neg (show ¬ (false = true) by decide)] at H; exact H
  clear H; have H := H1; clear H1
  exact absurd H (by simp)
 subst c3
 have H1 : ((fastilaw14_right.f k l0).bind fun t656 => (if t656 = true then (if (l0.length : Int) = 0 then (fastilaw14_AssignTurned.j0 k l0 true) else (if 0 < (l0.length : Int) then (fastilaw14_AssignTurned.j0 k l0 (((rd_L1 l0 0).length : Int) != (l0.length : Int))) else (none))) else (fastilaw14_AssignTurned.j0 k l0 true))) = some r := by rw [if_pos rfl] at H; exact H
 clear H; have H := H1; clear H1; have HC4 := Aside0.mk H; clear H
 go_enter Try.func10, Try.ntmps10
 go_upto_region 3 with (first | (refine goesC 19 Try.func11 #[] ?_; (with_reducible refine (fastilaw14_sane.calls k  true _ A2.out).mono ?_); rintro e w5 ⟨rfl, hb⟩; refine ⟨_, rfl, ?_⟩; replace HB := sB HB hb; (try clear hb); (try clear hb2); (try clear hk); (try clear hi)))
 (try simp only [Act.put, List.setIfInBounds_toArray, List.set_cons_zero, List.set_cons_succ])
 go_cut [37] (fun v37 wc => ∃ (kq : Nat) (x37_3 : Bool), v37 = .bool x37_3 ∧ Aside0 (fastilaw14_AssignTurned.j0 kq l0 x37_3 = some r) ∧ Aside0 (kq ≤ k) ∧ Aside0 (Below w.heap.size w wc))
 case first =>
  have H := HC4.out; clear HC4; replace H := Option.bind_eq_some_iff.mp H; obtain ⟨t656, A60, H⟩ := H; replace H : (if t656 = true then (if (l0.length : Int) = 0 then (fastilaw14_AssignTurned.j0 k l0 true) else (if 0 < (l0.length : Int) then (fastilaw14_AssignTurned.j0 k l0 (((rd_L1 l0 0).length : Int) != (l0.length : Int))) else (none))) else (fastilaw14_AssignTurned.j0 k l0 true)) = some r := H; have A6 := Aside0.mk A60; clear A60
  by_cases c7 : t656 = true
  rotate_left
  ·replace c7 := Bool.eq_false_iff.mpr c7
   subst c7
   have H1 : (fastilaw14_AssignTurned.j0 k l0 true) = some r := by rw [if_neg (show ¬ (false = true) by decide)] at H; exact H
   clear H; have H := H1; clear H1; have H' := Aside0.mk H; clear H
   go_wp2_with (first | (refine goesC 22 Try.func26 #[.slice A0 l0.length c0] ?_; (with_reducible refine (fastilaw14_right.calls k _ _ l0 false _ ?side1 ?side2 A6.out).mono ?_); (case side1 => exact cB HR0 HB); (case side2 => exact HC0.out); rintro e w' ⟨rfl, ⟨nd, rfl⟩⟩; refine ⟨_, rfl, ?_⟩))
   go_meet
   case rel => exact ⟨_, (true), (by first | rfl | (simp; done) | (simp [*]; done)), H', ⟨by first | omega | exact Nat.le_refl _⟩, ⟨blw HB.out⟩⟩
  subst c7
  have H1 : (if (l0.length : Int) = 0 then (fastilaw14_AssignTurned.j0 k l0 true) else (if 0 < (l0.length : Int) then (fastilaw14_AssignTurned.j0 k l0 (((rd_L1 l0 0).length : Int) != (l0.length : Int))) else (none))) = some r := by rw [if_pos rfl] at H; exact H
  clear H; have H := H1; clear H1
  by_cases c8 : (l0.length : Int) = 0
  ·rw [if_pos c8] at H
   have c8b0 : ((l0.length : Int) == 0) = true := beq_iff_eq.mpr c8; have c8b1 : ((l0.length : Int) != 0) = false := bne_eq_false_iff_eq.mpr c8; clear c8
   (first | rw [c8b0] | (simp only [i64_w, i32_w]; rw [c8b0]) | skip)
   have H' := Aside0.mk H; clear H
   go_wp2_with (first | (refine goesC 22 Try.func26 #[.slice A0 l0.length c0] ?_; (with_reducible refine (fastilaw14_right.calls k _ _ l0 true _ ?side1 ?side2 A6.out).mono ?_); (case side1 => exact cB HR0 HB); (case side2 => exact HC0.out); rintro e w' ⟨rfl, ⟨nd, rfl⟩⟩; refine ⟨_, rfl, ?_⟩))
   go_meet
   case rel => exact ⟨_, (true), (by first | rfl | (simp; done) | (simp [*]; done)), H', ⟨by first | omega | exact Nat.le_refl _⟩, ⟨blw HB.out⟩⟩
  rw [if_neg c8] at H; have c8b0 : ((l0.length : Int) == 0) = false := beq_eq_false_iff_ne.mpr c8; have c8b1 : ((l0.length : Int) != 0) = true := bne_iff_ne.mpr c8; have c8b2 : ¬ (l0 = []) := fun h_ => c8 (by rw [h_]; rfl)
  (first | rw [c8b0] | (simp only [i64_w, i32_w]; rw [c8b0]) | skip)
  by_cases c9 : 0 < (l0.length : Int)
  rotate_left
  ·rw [if_neg c9] at H
   exact absurd H (by simp)
  rw [if_pos c9] at H; have c9b0 : decide (0 < (l0.length : Int)) = true := decide_eq_true c9; have c9b1 : decide (0 < l0.length) = true := decide_eq_true (by omega); clear c9; have H' := Aside0.mk H; clear H
  go_wp2_with (first | (refine goesC 22 Try.func26 #[.slice A0 l0.length c0] ?_; (with_reducible refine (fastilaw14_right.calls k _ _ l0 true _ ?side1 ?side2 A6.out).mono ?_); (case side1 => exact cB HR0 HB); (case side2 => exact HC0.out); rintro e w' ⟨rfl, ⟨nd, rfl⟩⟩; refine ⟨_, rfl, ?_⟩; have p657 : 0 ≤ (0 : Int) := (by omega); have q657 : 0 < (l0.length : Int) := of_decide_eq_true (by first | (with_reducible assumption) | assumption); obtain ⟨ad657, A657_0, c657_0, e657, hx657_0, hl657_0, hi657_0⟩ := at_L1 HR0.out 0 p657 q657; cases e657; have qi657 : (0 < l0.length) = True := eq_true (by omega); (try rw [show ((0 : Int)).toNat = 0 from rfl] at hx657_0); (try rw [Addr.add_zero'] at hx657_0); replace hx657_0 := (HB.out.cell (World.block_lt_of_cell? w _ hx657_0)).trans hx657_0; have HR657_0 := Aside0.mk hi657_0; have HC657_0 := Aside0.mk hl657_0; clear hi657_0 hl657_0; replace p657 := eq_true p657; replace q657 := eq_true q657))
  go_meet
  case rel => exact ⟨_, ((((rd_L1 l0 0).length : Int) != (l0.length : Int))), (by first | rfl | (simp; done) | (simp [*]; done)), H', ⟨by first | omega | exact Nat.le_refl _⟩, ⟨blw HB.out⟩⟩
 clear HC4; (try clear c1); (try clear c2); (try clear p2); (try clear c3); (try clear c6); (try clear p6); (try clear q6); (try clear hx6); (try clear qi6); (try clear c7); (try clear c8); (try clear c8b0); (try clear c8b1); (try clear c8b2); (try clear c9); (try clear c9b0); (try clear c9b1); (try clear hx657_0); (try clear p657); (try clear q657); obtain ⟨kq, x37_3, rfl, HA, HJ3, HB⟩ := hcut
 cases kq with
 | zero => exact absurd HA.out (by simp [fastilaw14_AssignTurned.j0])
 | succ kj3 =>
   have H := HA.out; clear HA
   simp only [fastilaw14_AssignTurned.j0] at H
   by_cases c10 : x37_3 = true
   · subst c10
     have H1 : (some true) = some r := by rw [if_pos rfl] at H; exact H
     clear H; have H := H1; clear H1; obtain rfl := Option.some.inj H
     go_wp2
     go_ret
     exact ⟨by first | rfl | (simp [errW_none, errW_some] <;> rfl) | (simp [*, errW_none, errW_some] <;> rfl), blw HB.out⟩
   · replace c10 := Bool.eq_false_iff.mpr c10
     subst c10
     have H1 : (if 0 ≤ (l0.length : Int) then (if ((l0.length : Int) : Int).toNat ≤ 11728124029610 then (fastilaw14_AssignTurned.l0 kj3 l0 (List.replicate ((l0.length : Int) : Int).toNat []) l0 (l0.length : Int) 0) else (none)) else (none)) = some r := by rw [if_neg (show ¬ (false = true) by decide)] at H; exact H
     clear H; have H := H1; clear H1
     by_cases c11 : 0 ≤ (l0.length : Int)
     · rw [if_pos c11] at H
       have c11b0 := eq_true c11; have c11b1 : decide (0 ≤ (l0.length : Int)) = true := decide_eq_true c11; clear c11
       by_cases c12 : ((l0.length : Int) : Int).toNat ≤ 11728124029610
       · rw [if_pos c12] at H
         have c12b0 := eq_true c12; have c12b1 : decide (((l0.length : Int) : Int).toNat ≤ 11728124029610) = true := decide_eq_true c12; clear c12; obtain ⟨y658, hy658⟩ : ∃ y_ : List (List Int), y_ = (List.replicate ((l0.length : Int) : Int).toNat []) := ⟨_, rfl⟩
         replace H : (fastilaw14_AssignTurned.l0 kj3 l0 y658 l0 (l0.length : Int) 0) = some r := by first | (rw [hy658]; with_reducible exact H) | (have H2_ := (Option.bind_some _ _).symm.trans H; rw [hy658]; with_reducible exact H2_) | (have H2_ := (Option.bind_some _ _).symm.trans H; with_reducible exact H2_) | with_reducible exact H | (rw [hy658]; exact H) | exact H
         have Ny658 := Aside0.mk hy658; clear hy658; have H' := Aside0.mk H; clear H
         go_wp2_with (first | ((with_reducible refine gate_dst (N := 40) rfl ?_); (try (refine gate_guard (by rfl) ?_; dsimp only)); refine Kd.S_make (Kd.slice 3 (Kd.int .i64)) _ 23 rfl (N := 40) rfl 22 _ _ rfl (l0.length : Int) rfl rfl Try.underlying22 (.slice none 0 0) 24 info23 rfl (by decide) (by omega) [] (ok := fun _ => True) (okp := fun _ => True) ⟨_, rfl, Kd.R_nil _ _ _ _ _⟩ (fun _ hk => hk) trivial (of_decide_eq_true (by first | (with_reducible assumption) | assumption)) (Nat.le_trans (Nat.mul_le_mul_right _ (of_decide_eq_true (by first | (with_reducible assumption) | assumption) : (l0.length : Int).toNat ≤ 11728124029610)) (by omega)) (Below.refl _ _) (Nat.le_refl _) ?_; intro v659 w13 ho14 hb hg_ hnew_; clear hg_ hnew_; (first | rw [← Ny658.out] at ho14 | (simp only [Int.reduceToNat] at ho14; rw [← Ny658.out] at ho14)); have HO660 := Aside0.mk (Kd.S_lower ho14 (below_size (blw HB.out))); replace HB := sB HB hb; clear hb ho14))
         go_loopg [43] kj3 (fun kq v43 w' => ∃ (x3_2 : List (List Int)) (x43_2 : Int), v43 = .int .i64 x43_2 ∧ Aside0 (fastilaw14_AssignTurned.l0 kq l0 x3_2 l0 (l0.length : Int) x43_2 = some r) ∧ Aside0 (kq ≤ kj3) ∧ Aside0 (Kd.S (Kd.slice 3 (Kd.int .i64)) 23 w' w.heap.size (fun _ => True) v659 x3_2) ∧ Aside0 (Below w.heap.size w w'))
         case atStart => exact ⟨(y658), (0), (by first | rfl | (simp; done) | (simp [*]; done)), H', ⟨Nat.le_refl _⟩, ⟨by (with_reducible repeat (first | apply Kd.S_alloc | apply Kd.S_drewN | apply Kd.S_drew)); exact HO660.out⟩, ⟨blw HB.out⟩⟩
         case round =>
           clear H'; (try clear c1); (try clear c2); (try clear p2); (try clear c3); (try clear c6); (try clear p6); (try clear q6); (try clear hx6); (try clear qi6); (try clear c7); (try clear c8); (try clear c8b0); (try clear c8b1); (try clear c8b2); (try clear c9); (try clear c9b0); (try clear c9b1); (try clear c10); (try clear c11); (try clear c11b0); (try clear c11b1); (try clear c12); (try clear c12b0); (try clear c12b1); (try clear hx657_0); (try clear p2); (try clear p6); (try clear p657); (try clear q6); (try clear q657); obtain ⟨x3_2, x43_2, rfl, HA, HK2, HO_3, HB⟩ := hrel
           cases gk with
           | zero => exact absurd HA.out (by simp [fastilaw14_AssignTurned.l0])
           | succ k2 =>
             have H := HA.out; clear HA
             simp only [fastilaw14_AssignTurned.l0] at H
             by_cases c15 : x43_2 < (l0.length : Int)
             · rw [if_pos c15] at H
               have c15b0 : decide (x43_2 < (l0.length : Int)) = true := decide_eq_true c15; clear c15
               by_cases c16 : 0 ≤ x43_2
               · rw [if_pos c16] at H
                 have c16b0 : decide (0 ≤ x43_2) = true := decide_eq_true c16; clear c16
                 by_cases c17 : x43_2 < (l0.length : Int)
                 · rw [if_pos c17] at H
                   have c17b0 : decide (x43_2 < (l0.length : Int)) = true := decide_eq_true c17; clear c17; have H' := Aside0.mk H; clear H; have p678 : 0 ≤ (x43_2 : Int) := of_decide_eq_true (by first | (with_reducible assumption) | assumption); have q678 : x43_2 < (l0.length : Int) := of_decide_eq_true (by first | (with_reducible assumption) | assumption); obtain ⟨ad678, A678_0, c678_0, e678, hx678_0, hl678_0, hi678_0⟩ := at_L1 HR0.out x43_2 p678 q678; cases e678; replace hx678_0 := (HB.out.cell (World.block_lt_of_cell? w _ hx678_0)).trans hx678_0; have HR678_0 := Aside0.mk hi678_0; have HC678_0 := Aside0.mk hl678_0; clear hi678_0 hl678_0; replace p678 := eq_true p678; replace q678 := eq_true q678
                   go_wp2
                   go_loopg [49] k2 (fun kq v49 w' => ∃ (x3_3 : List (List Int)) (x49_3 : Int), v49 = .int .i64 x49_3 ∧ Aside0 (fastilaw14_AssignTurned.l1 kq l0 x3_3 l0 (l0.length : Int) x43_2 (rd_L1 l0 x43_2) ((rd_L1 l0 x43_2).length : Int) x49_3 = some r) ∧ Aside0 (kq ≤ k2) ∧ Aside0 (Kd.S (Kd.slice 3 (Kd.int .i64)) 23 w' w.heap.size (fun _ => True) v659 x3_3) ∧ Aside0 (Below w.heap.size w w'))
                   case atStart => exact ⟨(x3_2), (0), (by first | rfl | (simp; done) | (simp [*]; done)), H', ⟨Nat.le_refl _⟩, ⟨by (with_reducible repeat (first | apply Kd.S_alloc | apply Kd.S_drewN | apply Kd.S_drew)); exact HO_3.out⟩, ⟨blw HB.out⟩⟩
                   case round =>
                     clear H'; (try clear c1); (try clear c2); (try clear p2); (try clear c3); (try clear c6); (try clear p6); (try clear q6); (try clear hx6); (try clear qi6); (try clear c7); (try clear c8); (try clear c8b0); (try clear c8b1); (try clear c8b2); (try clear c9); (try clear c9b0); (try clear c9b1); (try clear c10); (try clear c11); (try clear c11b0); (try clear c11b1); (try clear c12); (try clear c12b0); (try clear c12b1); (try clear c15); (try clear c15b0); (try clear c16); (try clear c16b0); (try clear c17); (try clear c17b0); (try clear hx657_0); (try clear hx678_0); (try clear p2); (try clear p6); (try clear p657); (try clear p678); (try clear q6); (try clear q657); (try clear q678); obtain ⟨x3_3, x49_3, rfl, HA, HK3, HO_3, HB⟩ := hrel
                     cases gk with
                     | zero => exact absurd HA.out (by simp [fastilaw14_AssignTurned.l1])
                     | succ k3 =>
                       have H := HA.out; clear HA
                       simp only [fastilaw14_AssignTurned.l1] at H
                       by_cases c18 : x49_3 < ((rd_L1 l0 x43_2).length : Int)
                       · rw [if_pos c18] at H
                         have c18b0 : decide (x49_3 < ((rd_L1 l0 x43_2).length : Int)) = true := decide_eq_true c18; clear c18
                         by_cases c19 : 0 ≤ x49_3
                         · rw [if_pos c19] at H
                           have c19b0 : decide (0 ≤ x49_3) = true := decide_eq_true c19; clear c19
                           by_cases c20 : x49_3 < ((rd_L1 l0 x43_2).length : Int)
                           · rw [if_pos c20] at H
                             have c20b0 : decide (x49_3 < ((rd_L1 l0 x43_2).length : Int)) = true := decide_eq_true c20; clear c20
                             by_cases c21 : x49_3 < (x3_3.length : Int)
                             · rw [if_pos c21] at H
                               have c21b0 : decide (x49_3 < (x3_3.length : Int)) = true := decide_eq_true c21; clear c21
                               by_cases c22 : (rd_L1 x3_3 x49_3).length < 17592186044416
                               · rw [if_pos c22] at H
                                 have LMc22 := Aside0.mk c22; clear c22; obtain ⟨y681, hy681⟩ : ∃ y_ : List Int, y_ = ((rd_L1 x3_3 x49_3) ++ [rd (rd_L1 l0 x43_2) x49_3]) := ⟨_, rfl⟩
                                 replace H : (fastilaw14_AssignTurned.l1 k3 l0 (x3_3.set (x49_3 : Int).toNat y681) l0 (l0.length : Int) x43_2 (rd_L1 l0 x43_2) ((rd_L1 l0 x43_2).length : Int) (wrap64 (x49_3 + 1))) = some r := by first | (rw [hy681]; with_reducible exact H) | (have H2_ := (Option.bind_some _ _).symm.trans H; rw [hy681]; with_reducible exact H2_) | (have H2_ := (Option.bind_some _ _).symm.trans H; with_reducible exact H2_) | with_reducible exact H | (rw [hy681]; exact H) | exact H
                                 have Ny681 := Aside0.mk hy681; clear hy681; obtain ⟨y684, hy684⟩ : ∃ y_ : List (List Int), y_ = (x3_3.set (x49_3 : Int).toNat y681) := ⟨_, rfl⟩
                                 replace H : (fastilaw14_AssignTurned.l1 k3 l0 y684 l0 (l0.length : Int) x43_2 (rd_L1 l0 x43_2) ((rd_L1 l0 x43_2).length : Int) (wrap64 (x49_3 + 1))) = some r := by first | (rw [hy684]; with_reducible exact H) | (have H2_ := (Option.bind_some _ _).symm.trans H; rw [hy684]; with_reducible exact H2_) | (have H2_ := (Option.bind_some _ _).symm.trans H; with_reducible exact H2_) | with_reducible exact H | (rw [hy684]; exact H) | exact H
                                 have Ny684 := Aside0.mk hy684; clear hy684; have H' := Aside0.mk H; clear H; have p679 : 0 ≤ (x49_3 : Int) := of_decide_eq_true (by first | (with_reducible assumption) | assumption); have q679 : x49_3 < ((rd_L1 l0 x43_2).length : Int) := of_decide_eq_true (by first | (with_reducible assumption) | assumption); obtain ⟨ad679, e679, hx679_0⟩ := Kd.at_int HR678_0.out x49_3 p679 q679; cases e679; replace hx679_0 := (HB.out.cell (World.block_lt_of_cell? w _ hx679_0)).trans hx679_0; replace p679 := eq_true p679; replace q679 := eq_true q679; obtain ⟨Ao24, co24, eo24⟩ := Kd.S_slice HO_3.out; subst eo24; have p680 : 0 ≤ (x49_3 : Int) := of_decide_eq_true (by first | (with_reducible assumption) | assumption); have q680 : x49_3 < (x3_3.length : Int) := of_decide_eq_true (by first | (with_reducible assumption) | assumption); obtain ⟨ad680, A680_0, c680_0, e680, hx680_0, hl680_0, hi680_0⟩ := at_L1 (Kd.S_reads' HO_3.out).2.2 x49_3 p680 q680; cases e680; obtain ⟨ce680, hce680, hMe680, hcc680⟩ := Kd.S_get HO_3.out [] x49_3 p680 (by first | exact q680 | exact of_decide_eq_true (by first | (with_reducible assumption) | assumption) | (have e_ := (Kd.S_reads' HO_3.out).1; omega)); obtain ⟨ve680_0, rfl, ge680_0⟩ := hMe680; have hv680_0 := hcc680 0 _ rfl; rw [Nat.add_zero, show ((Kd.slice 3 (Kd.int .i64))).sz = 1 from rfl, Nat.mul_one] at hv680_0; replace hv680_0 := Option.some.inj (hv680_0.symm.trans hx680_0); rw [hv680_0] at ge680_0
                                 have HL680_0 := Aside0.mk (show Kd.R (Kd.int .i64) 3 _ _ _ _ (rd_L1 x3_3 x49_3) from ge680_0); clear hv680_0 ge680_0; have HX680_0 := Aside0.mk hx680_0; clear hcc680 hce680; have HR680_0 := Aside0.mk hi680_0; have HC680_0 := Aside0.mk hl680_0; clear hi680_0 hl680_0; replace p680 := eq_true p680; replace q680 := eq_true q680; obtain ⟨go25, co25, eo25, gb25, gl25, cl25, HG25⟩ := Kd.S_form HO_3.out (by have h_ : (x49_3 : Int) < ((x3_3.length : Int) : Int) := of_decide_eq_true (by first | (with_reducible assumption) | assumption); have h2_ : 0 ≤ (x49_3 : Int) := (of_decide_eq_true (by first | (with_reducible assumption) | assumption)); omega)
                                 (first | cases eo25 | (injection eo25 with ea_ en_ ec_; (first | subst ea_ | (injection ea_ with ea_; subst ea_)); subst ec_; clear en_))
                                 have GB25 := Aside0.mk gb25; have GG25 := Aside0.mk HG25; clear gb25 gl25 HG25
                                 (first | simp only [add_plain] at hx680_0 | skip)
                                 obtain ⟨oki25, ce25, hcl25, hM25, hcc25, _, _, hH25⟩ := Kd.S_elem HO_3.out [] (x49_3 : Int) (of_decide_eq_true (by first | (with_reducible assumption) | assumption)) (by have h_ : (x49_3 : Int) < ((x3_3.length : Int) : Int) := of_decide_eq_true (by first | (with_reducible assumption) | assumption); first | exact h_ | (have e_ := (Kd.S_reads' HO_3.out).1; omega) | simpa using h_); obtain ⟨ve25_0, rfl, ge25_0⟩ := hM25; have hv25 := hcc25 0 _ rfl; have hX25 := HX680_0.out
                                 (try simp only [add_plain] at hX25)
                                 (try simp only [Nat.add_zero] at hv25)
                                 (try rw [show ((Kd.slice 3 (Kd.int .i64))).sz = 1 from rfl, Nat.mul_one] at hv25)
                                 replace hv25 := Option.some.inj (hv25.symm.trans hX25); subst hv25; clear hX25 hcc25 hcl25; have UU25 := Aside0.mk (show Kd.R (Kd.int .i64) 3 _ w.heap.size oki25 (.slice A680_0 (rd_L1 x3_3 x49_3).length c680_0) (rd_L1 x3_3 x49_3) from ge25_0); have HH25 := Aside0.mk hH25; have HN25 := Aside0.mk (Kd.S_reads' HO_3.out).1; clear hH25 ge25_0
                                 go_wp2_with (first | ((with_reducible refine gate_builtin (b := .append) (xs := #[.tmp 59, .tmp 61]) rfl ?_); (try (refine gate_guard (by rfl) ?_; dsimp only)); at_builtin; refine Kd.R_append (Kd.int .i64) (w0 := w) w.heap.size rfl (.tmp 59) (.tmp 61) 23 3 (.int .i64 0) 8 rfl Try.underlying23 info3 rfl (by decide) (by omega) (.slice A680_0 (rd_L1 x3_3 x49_3).length c680_0) (rd_L1 x3_3 x49_3) (rd (rd_L1 l0 x43_2) x49_3) [.int .i64 (rd (rd_L1 l0 x43_2) x49_3)] (fun k_ => oki25 k_ ∨ ((fun _ => True)) k_ ∧ wr.heap.size ≤ k_) (fun _ => False) rfl rfl ?aP (fun _ hk => hk.elim) ?aF ?aO ?aB ?aS ?aL ?_; (case aP => exact rfl); (case aB => exact (blw HB.out)); (case aF => exact (fun k_ hk => .inr ⟨trivial, hk⟩)); (case aO => exact (by (with_reducible repeat (first | apply Kd.R_alloc | apply Kd.R_drewN | apply Kd.R_drew)); exact Kd.R_mono UU25.out (fun _ hk => .inl hk))); (case aS => exact (below_size (blw HB.out))); (case aL => have := LMc22.out; omega); intro v682 w26 ho hb hg hat; rw [← Ny681.out] at ho; replace HB := Aside0.mk (hb); replace HH25 := Aside0.mk (Kd.H_grown (Kd.H_widen (by repeat (first | exact HH25.out | refine Kd.H_alloc ?_ _ | refine Kd.H_drewN ?_ _ | refine Kd.H_drew ?_))) hg (fun k_ e_ => .inl (UU25.out.1 k_ e_))); have HO683 := Aside0.mk (ho); clear HO_3; clear UU25; clear HL680_0; clear ho hb hg hat; have p23 : 0 ≤ (x49_3 : Int) := of_decide_eq_true (by first | (with_reducible assumption) | assumption); have q23 : (x49_3 : Int) < ((x3_3.length : Int) : Int) := of_decide_eq_true (by first | (with_reducible assumption) | assumption); replace p23 := eq_true p23; replace q23 := eq_true q23; obtain ⟨Ao29, co29, eo29⟩ := Kd.R_slice HO683.out; subst eo29; obtain ⟨_, _, hraw27, _, _, hcc27, _⟩ := Kd.H_raw HH25.out (of_decide_eq_true (by first | (with_reducible assumption) | assumption)) (by have h_ : (x49_3 : Int) < ((x3_3.length : Int) : Int) := of_decide_eq_true (by first | (with_reducible assumption) | assumption); first | exact h_ | (have e_ := (HN25.out); omega) | simpa using h_); obtain ⟨_, hfr27⟩ := Kd.H_at HH25.out (of_decide_eq_true (by first | (with_reducible assumption) | assumption)) (by have h_ : (x49_3 : Int) < ((x3_3.length : Int) : Int) := of_decide_eq_true (by first | (with_reducible assumption) | assumption); first | exact h_ | (have e_ := (HN25.out); omega) | simpa using h_); have hx27_0 := hcc27 0 _ rfl; have hf27_0 := hfr27 0; (try simp only [Nat.add_zero] at hx27_0 hf27_0); (try rw [show ((Kd.slice 3 (Kd.int .i64))).sz = 1 from rfl, Nat.mul_one] at hx27_0); (try rw [show ((Kd.slice 3 (Kd.int .i64))).sz = 1 from rfl, Nat.mul_one] at hf27_0); have HP27 := Kd.S_seg0 HH25.out (of_decide_eq_true (by first | (with_reducible assumption) | assumption)) (by have h_ : (x49_3 : Int) < ((x3_3.length : Int) : Int) := of_decide_eq_true (by first | (with_reducible assumption) | assumption); first | exact h_ | (have e_ := (HN25.out); omega) | simpa using h_) (seg := [.slice Ao29 y681.length co29]) (j := 0) (show 1 ≤ 1 from by decide) (x' := y681) (Kd.M_row HO683.out) (fun _ hk => hk); (try simp only [show ((Kd.slice 3 (Kd.int .i64))).sz = 1 from rfl, Nat.mul_one, Nat.add_zero] at HP27); clear hcc27 hfr27) | ((with_reducible refine gate_store (t := 23) (p := 63) rfl ?_); refine store_event (t := 23) (p := 63) (v := ?vo_w28) (w1 := (w26.setCell ⟨go25, (x49_3 : Int).toNat, none⟩ (.slice Ao29 y681.length co29))) ?hg ?ho ?hn ?hr ?_; (case ho => rfl); (case hg => rfl); (case hn => rfl); (case hr => first | (go_simp; done) | (go_simp; rfl)); intro w28 hw; have hg : w26.grownBy w28 (some go25) := (by rw [hw]; exact HP27.2); have hp_ : Kd.S (Kd.slice 3 (Kd.int .i64)) 23 w28 w.heap.size (fun _ => True) (.slice (some ⟨go25, 0, none⟩) x3_3.length co24) y684 := (by rw [hw, Ny684.out]; exact HP27.1); clear HP27; replace HB := Aside0.mk ((by rw [hw]; exact below_set HB.out GB25.out : Below w.heap.size w w28)); have HO_3 := Aside0.mk (hp_); clear HO683; clear HH25; clear hg hw hp_ hraw27))
                                 go_roundg k3
                                 case measure => have := HJ3.out; have := HK2.out; have := HK3.out; omega
                                 case rel => exact ⟨(y684), (wrap64 (x49_3 + 1)), (by first | rfl | (simp; done) | (simp [*]; done)), H', ⟨by have := HJ3.out; have := HK2.out; have := HK3.out; omega⟩, ⟨by (with_reducible repeat (first | apply Kd.S_alloc | apply Kd.S_drewN | apply Kd.S_drew)); exact HO_3.out⟩, ⟨blw HB.out⟩⟩
                               · rw [if_neg c22] at H
                                 exact absurd H (by simp)
                             · rw [if_neg c21] at H
                               exact absurd H (by simp)
                           · rw [if_neg c20] at H
                             exact absurd H (by simp)
                         · rw [if_neg c19] at H
                           exact absurd H (by simp)
                       · rw [if_neg c18] at H
                         have c18b0 : decide (x49_3 < ((rd_L1 l0 x43_2).length : Int)) = false := decide_eq_false c18; clear c18; have H' := Aside0.mk H; clear H
                         go_wp2
                         go_roundg k3
                         case measure => have := HJ3.out; have := HK2.out; have := HK3.out; omega
                         case rel => exact ⟨(x3_3), (wrap64 (x43_2 + 1)), (by first | rfl | (simp; done) | (simp [*]; done)), H', ⟨by have := HJ3.out; have := HK2.out; have := HK3.out; omega⟩, ⟨by (with_reducible repeat (first | apply Kd.S_alloc | apply Kd.S_drewN | apply Kd.S_drew)); exact HO_3.out⟩, ⟨blw HB.out⟩⟩
                 · rw [if_neg c17] at H
                   exact absurd H (by simp)
               · rw [if_neg c16] at H
                 exact absurd H (by simp)
             · rw [if_neg c15] at H
               have c15b0 : decide (x43_2 < (l0.length : Int)) = false := decide_eq_false c15; clear c15; replace H := Option.bind_eq_some_iff.mp H; obtain ⟨⟨t661, t662, t663, t664⟩, A300, H⟩ := H; replace H : ((assign_Best.f x3_2).bind fun bt667 => ((assign_Deny.f x3_2).bind fun bt673 => (if t664 = 0 then (if bt667.2.2.2 = 0 then (if bt673.2.2 = 0 then (if (t663 == bt667.2.2.1) = true then (if t662 = bt667.2.1 then (some (bt673.2.1 != t663)) else (none)) else (none)) else (none)) else (none)) else (none)))) = some r := H; have A30 := Aside0.mk A300; clear A300; replace H := Option.bind_eq_some_iff.mp H; obtain ⟨⟨t667, t668, t669, t670⟩, A310, H⟩ := H; replace H : ((assign_Deny.f x3_2).bind fun bt673 => (if t664 = 0 then (if t670 = 0 then (if bt673.2.2 = 0 then (if (t663 == t669) = true then (if t662 = t668 then (some (bt673.2.1 != t663)) else (none)) else (none)) else (none)) else (none)) else (none))) = some r := H; have A31 := Aside0.mk A310; clear A310; replace H := Option.bind_eq_some_iff.mp H; obtain ⟨⟨t673, t674, t675⟩, A320, H⟩ := H; replace H : (if t664 = 0 then (if t670 = 0 then (if t675 = 0 then (if (t663 == t669) = true then (if t662 = t668 then (some (t674 != t663)) else (none)) else (none)) else (none)) else (none)) else (none)) = some r := H; have A32 := Aside0.mk A320; clear A320
               by_cases c33 : t664 = 0
               · rw [if_pos c33] at H
                 have c33b0 : (t664 == 0) = true := beq_iff_eq.mpr c33; have c33b1 : (t664 != 0) = false := bne_eq_false_iff_eq.mpr c33; clear c33
                 by_cases c34 : t670 = 0
                 · rw [if_pos c34] at H
                   have c34b0 : (t670 == 0) = true := beq_iff_eq.mpr c34; have c34b1 : (t670 != 0) = false := bne_eq_false_iff_eq.mpr c34; clear c34
                   by_cases c35 : t675 = 0
                   · rw [if_pos c35] at H
                     have c35b0 : (t675 == 0) = true := beq_iff_eq.mpr c35; have c35b1 : (t675 != 0) = false := bne_eq_false_iff_eq.mpr c35; clear c35
                     by_cases c36 : (t663 == t669) = true
                     · rw [if_pos c36] at H
                       have c36b0 : (t663 == t669) = true := c36
                       (try (have c36b1 : decide (t663 = t669) = true := by simpa using c36))
                       (try (have c36b2 : (t663 == t669) = true := by simpa using c36))
                       clear c36
                       by_cases c37 : t662 = t668
                       · rw [if_pos c37] at H
                         have c37b0 : (t662 == t668) = true := beq_iff_eq.mpr c37; have c37b1 : (t662 != t668) = false := bne_eq_false_iff_eq.mpr c37; clear c37; obtain rfl := Option.some.inj H
                         go_wp2_with (first | (refine goesC 68 Try.func15 #[.slice A0 l0.length c0] ?_; (with_reducible refine (assign_Best.calls _ _ l0 t661 t662 t663 t664 _ ?side1 ?side2 A30.out).mono ?_); (case side1 => exact cB HR0 HB); (case side2 => exact HC0.out); rintro e w38 ⟨v665, rfl, ho0, hb⟩; refine ⟨_, rfl, ?_⟩; replace HO_3 := Aside0.mk (Kd.S_elder' (by (with_reducible repeat (first | apply Kd.S_alloc | apply Kd.S_drewN | apply Kd.S_drew)); exact HO_3.out) (Kd.R_base ho0) hb); replace HB := sB HB hb; (try clear hb); (try clear hb2); (try clear hk); (try clear hi); (try clear ho0); obtain ⟨Ao39, co39, eo39⟩ := Kd.S_slice HO_3.out; subst eo39) | (refine goesC 75 Try.func15 #[.slice Ao39 x3_2.length co39] ?_; (with_reducible refine (assign_Best.calls _ _ x3_2 t667 t668 t669 t670 _ ?side1 ?side2 A31.out).mono ?_); (case side1 => repeat (first | exact (Kd.S_reads' HO_3.out).2.2 | (with_reducible refine Kd.C_alloc ?_ _) | (with_reducible refine Kd.C_drewN ?_ _) | (with_reducible refine Kd.C_drew ?_))); (case side2 => exact (Kd.S_reads' HO_3.out).2.1); rintro e w40 ⟨v671, rfl, ho0, hb⟩; refine ⟨_, rfl, ?_⟩; replace HO_3 := Aside0.mk (Kd.S_elder' (by (with_reducible repeat (first | apply Kd.S_alloc | apply Kd.S_drewN | apply Kd.S_drew)); exact HO_3.out) (Kd.R_base ho0) hb); replace HB := sB HB hb; (try clear hb); (try clear hb2); (try clear hk); (try clear hi); (try clear ho0)) | (refine goesC 82 Try.func22 #[.slice Ao39 x3_2.length co39] ?_; (with_reducible refine (assign_Deny.calls _ _ x3_2 t673 t674 t675 _ ?side1 ?side2 A32.out).mono ?_); (case side1 => repeat (first | exact (Kd.S_reads' HO_3.out).2.2 | (with_reducible refine Kd.C_alloc ?_ _) | (with_reducible refine Kd.C_drewN ?_ _) | (with_reducible refine Kd.C_drew ?_))); (case side2 => exact (Kd.S_reads' HO_3.out).2.1); rintro e w41 ⟨v676, rfl, ho0, hb⟩; refine ⟨_, rfl, ?_⟩; replace HO_3 := Aside0.mk (Kd.S_elder' (by (with_reducible repeat (first | apply Kd.S_alloc | apply Kd.S_drewN | apply Kd.S_drew)); exact HO_3.out) (Kd.R_base ho0) hb); replace HB := sB HB hb; (try clear hb); (try clear hb2); (try clear hk); (try clear hi); (try clear ho0)))
                         go_ret
                         exact ⟨by first | rfl | (simp [errW_none, errW_some] <;> rfl) | (simp [*, errW_none, errW_some] <;> rfl), blw HB.out⟩
                       · rw [if_neg c37] at H
                         exact absurd H (by simp)
                     · rw [if_neg c36] at H
                       exact absurd H (by simp)
                   · rw [if_neg c35] at H
                     exact absurd H (by simp)
                 · rw [if_neg c34] at H
                   exact absurd H (by simp)
               · rw [if_neg c33] at H
                 exact absurd H (by simp)
       · rw [if_neg c12] at H
         exact absurd H (by simp)
     · rw [if_neg c11] at H
       exact absurd H (by simp)

end Go.Proofs.Ytgiinjfandeddaa.Q
