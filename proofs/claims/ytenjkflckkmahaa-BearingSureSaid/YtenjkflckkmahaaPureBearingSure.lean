/- The plain law of BearingSure. -/
import Derived.Test.YtenjkflckkmahaaSayBearingSure
import Derived.Test.YtenjkflckkmahaaBrP
namespace Go.Proofs.Ytenjkflckkmahaa.Pure
open Go.RowKit Go.Proofs.Ytenjkflckkmahaa.Q Go.Proofs.YtenjkflckkmahaaW.PrintWords Go.Proofs.YtenjkflckkmahaaW.PrintLast Go.Proofs.YtenjkflckkmahaaW.PrintMore

theorem BearingSure : fastilaw29_BearingSure.Pure := by
  intro x0 x1 state _ _ _
  refine ⟨2001, ?_⟩
  unfold fastilaw29_BearingSure.f
  rw [sane29 2001 (by omega), Option.bind_some, if_pos rfl]
  by_cases hr : rightB x0.f2 x0.f3 x0.f4 x0.f5 x1.f0 x1.f1 = true
  · have b := (rightB_iff ..).1 hr
    have bi := bad_in (bear := x0.f2) (lo := x1.f0) (hi := x1.f1) (by omega)
    rw [permit_yes 2000 hr (by omega), permit_yes 2000 hr (by omega)]
    simp only [Option.bind_some, if_true]
    by_cases h1 : state < x1.f0
    · rw [if_pos h1]
      simp only [fastilaw29_BearingSure.j0, if_true, beq_self_eq_true]
    · rw [if_neg h1]
      by_cases h2 : state > x1.f1
      · simp only [fastilaw29_BearingSure.j0, h2, decide_true, if_true, beq_self_eq_true]
      · simp only [fastilaw29_BearingSure.j0, h2, decide_false, Bool.false_eq_true, if_false]
        unfold permitB
        by_cases h3 : x0.f2 ≤ x1.f0
        · rw [if_pos h3, if_pos h3, if_pos rfl, if_neg (by omega), if_pos rfl]
        · rw [if_neg h3, if_neg h3]
          by_cases h4 : x1.f1 < x0.f2
          · rw [if_pos h4, if_pos h4]
            simp
            omega
          · rw [if_neg h4, if_neg h4]
            simp
            omega
  · have hf : rightB x0.f2 x0.f3 x0.f4 x0.f5 x1.f0 x1.f1 = false := by simpa using hr
    rw [permit_no 2000 (.inl hf), permit_no 2000 (.inl hf)]
    simp only [Option.bind_some, if_true]
    rw [if_neg (by decide)]
    simp only [fastilaw29_BearingSure.j0, if_true, beq_self_eq_true]

end Go.Proofs.Ytenjkflckkmahaa.Pure
