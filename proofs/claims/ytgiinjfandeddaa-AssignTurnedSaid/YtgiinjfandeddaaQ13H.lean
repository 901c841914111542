/- Functions of the translation as plain Lean functions, and proofs that the calls do what these say; written by a program of this session round the kit's print. -/
import Derived.Test.YtgiinjfandeddaaQ0
import Derived.Test.YtgiinjfandeddaaAidB
import Derived.Test.YtgiinjfandeddaaAidC
import Derived.Test.YtgiinjfandeddaaQ4
import Derived.Test.YtgiinjfandeddaaQ5
import Derived.Test.YtgiinjfandeddaaQ1
namespace Go.Proofs.Ytgiinjfandeddaa.Q
open Go.RowKit Go.Proofs.YtgiinjfandeddaaW.PrintWords Go.Proofs.YtgiinjfandeddaaW.PrintLast Go.Proofs.YtgiinjfandeddaaW.PrintMore
attribute [local go_sem] max2_int min2_int max_two min_two max_three min_three max_four min_four   -- for this text's walks alone
set_option linter.unusedVariables false
set_option linter.unusedSimpArgs false

/-! ### fastilaw14_right: function 26 -/
def fastilaw14_right.f (k : Nat) (l0 : List (List Int)) : Option (Bool) := (fastiref14_Few.f k l0).bind fun t503 => (if t503 = true then ((fastiref14_Check.f k l0).bind fun t504 => (some (t504 == 0))) else (some false))
theorem fastilaw14_right.mono : ∀ a0 k, LeO (fastilaw14_right.f k a0) (fastilaw14_right.f (k + 1) a0) := by
  intro a0 k
  unfold fastilaw14_right.f
  repeat' first
      | (with_reducible exact fastiref14_Check.mono _ _)
      | (with_reducible exact fastiref14_Few.mono _ _)
      | (with_reducible exact LeO.refl _)
      | (with_reducible exact LeO.none _)
      | (with_reducible refine LeO.ite ?_ ?_)
      | (with_reducible refine LeO.bind ?_ (fun _ => ?_))
      | exact fastiref14_Check.mono _ _
      | exact fastiref14_Few.mono _ _
      | exact LeO.none _
      | refine LeO.ite ?_ ?_
      | refine LeO.bind ?_ (fun _ => ?_)
set_option maxHeartbeats 8000000 in
set_option maxRecDepth 100000 in
theorem fastilaw14_right.calls (k : Nat) (A0 : Option Addr) (c0 : Nat) (l0 : List (List Int)) (r : Bool) (w : World) (hr0 : Kd.C (Kd.slice 3 (Kd.int .i64)) w A0 l0.length l0) (hc0 : l0.length ≤ c0) (h : fastilaw14_right.f k l0 = some r) :
    Calls Try.prog 26 #[.slice A0 l0.length c0] w fun e w' => e = .returned (.bool r) ∧ Drawn0 w w' := by
 have HR0 := Aside0.mk hr0; have HC0 := Aside0.mk hc0; clear hr0 hc0; have H : ((fastiref14_Few.f k l0).bind fun t503 => (if t503 = true then ((fastiref14_Check.f k l0).bind fun t504 => (some (t504 == 0))) else (some false))) = some r := h; clear h; replace H := Option.bind_eq_some_iff.mp H; obtain ⟨t503, A20, H⟩ := H; replace H : (if t503 = true then ((fastiref14_Check.f k l0).bind fun t504 => (some (t504 == 0))) else (some false)) = some r := H; have A2 := Aside0.mk A20; clear A20
 by_cases c3 : t503 = true
 rotate_left
 ·replace c3 := Bool.eq_false_iff.mpr c3
  subst c3
  have H1 : (some false) = some r := by rw [if_neg (show ¬ (false = true) by decide)] at H; exact H
  clear H; have H := H1; clear H1; obtain rfl := Option.some.inj H
  go_enter Try.func26, Try.ntmps26
  go_wp2_with (first | (refine goesC 4 Try.func12 #[.slice A0 l0.length c0] ?_; (with_reducible refine (fastiref14_Few.calls k _ _ l0 false _ ?side1 ?side2 A2.out).mono ?_); (case side1 => exact cH HR0); (case side2 => exact HC0.out); rintro e w' ⟨rfl, ⟨nd, rfl⟩⟩; refine ⟨_, rfl, ?_⟩))
  go_ret
  exact ⟨by first | rfl | (simp; done) | (simp [*]; done), by repeat (first | exact Drawn0.refl _ | apply Drawn0.step)⟩
 subst c3
 have H1 : ((fastiref14_Check.f k l0).bind fun t504 => (some (t504 == 0))) = some r := by rw [if_pos rfl] at H; exact H
 clear H; have H := H1; clear H1; replace H := Option.bind_eq_some_iff.mp H; obtain ⟨t504, A40, H⟩ := H; replace H : (some (t504 == 0)) = some r := H; have A4 := Aside0.mk A40; clear A40; obtain rfl := Option.some.inj H
 go_enter Try.func26, Try.ntmps26
 go_wp2_with (first | (refine goesC 4 Try.func12 #[.slice A0 l0.length c0] ?_; (with_reducible refine (fastiref14_Few.calls k _ _ l0 true _ ?side1 ?side2 A2.out).mono ?_); (case side1 => exact cH HR0); (case side2 => exact HC0.out); rintro e w' ⟨rfl, ⟨nd, rfl⟩⟩; refine ⟨_, rfl, ?_⟩) | (go_at_call 18; (with_reducible refine (fastiref14_Check.calls k _ _ l0 t504 _ ?side1 ?side2 A4.out).mono ?_); (case side1 => exact cH HR0); (case side2 => exact HC0.out); rintro e w' ⟨rfl, ⟨nd, rfl⟩⟩))
 go_ret
 exact ⟨by first | rfl | (simp; done) | (simp [*]; done), by repeat (first | exact Drawn0.refl _ | apply Drawn0.step)⟩

-- by hand: function 27 (fastilaw14_crowded)
end Go.Proofs.Ytgiinjfandeddaa.Q
