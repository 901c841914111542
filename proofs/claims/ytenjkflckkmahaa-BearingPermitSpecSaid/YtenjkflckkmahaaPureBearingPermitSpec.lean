/- The plain law of BearingPermitSpec. -/
import Derived.Test.YtenjkflckkmahaaSayBearingPermitSpec
import Derived.Test.YtenjkflckkmahaaBrP
namespace Go.Proofs.Ytenjkflckkmahaa.Pure
open Go.RowKit Go.Proofs.Ytenjkflckkmahaa.Q Go.Proofs.YtenjkflckkmahaaW.PrintWords Go.Proofs.YtenjkflckkmahaaW.PrintLast Go.Proofs.YtenjkflckkmahaaW.PrintMore

theorem BearingPermitSpec : fastilaw29_BearingPermitSpec.Pure := by
  intro x0 x1 limit acc _ _ _
  refine ⟨2001, ?_⟩
  unfold fastilaw29_BearingPermitSpec.f
  rw [sane29 2001 (by omega), Option.bind_some, if_pos rfl]
  have e : fastiref29_Permit.f 2001 x0.f0 x0.f1.f0 x0.f1.f1 x0.f2 x0.f3 x0.f4 x0.f5 x1.f0 x1.f1 limit acc = bearing_Permit.f 2001 x0.f0 x0.f1.f0 x0.f1.f1 x0.f2 x0.f3 x0.f4 x0.f5 x1.f0 x1.f1 limit acc := by
    unfold fastiref29_Permit.f
    rw [ref_bears 2001 (by omega), ref_risk 2001 (by omega)]
    by_cases hr : rightB x0.f2 x0.f3 x0.f4 x0.f5 x1.f0 x1.f1 = true
    · have b := (rightB_iff ..).1 hr
      rw [bears_yes hr, Option.bind_some, if_pos rfl]
      by_cases h1 : limit < 0
      · rw [if_pos h1, permit_no 2000 (.inr (by omega))]
      · rw [if_neg h1]
        by_cases h2 : limit > 1000
        · rw [if_pos h2, permit_no 2000 (.inr (by omega))]
        · rw [if_neg h2, permit_yes 2000 hr (by omega), risk_yes hr, Option.bind_some]
          have mb := mul_bounds (a := limit) (by omega) (b := x1.f1 - x1.f0 + 1) (by omega)
          have bi := bad_in (bear := x0.f2) (lo := x1.f0) (hi := x1.f1) (by omega)
          rw [wrap_in (x := 1000 * badN x0.f2 x1.f0 x1.f1) (by omega), wrap_in (x := limit * (x1.f1 - x1.f0 + 1)) (by omega)]
          unfold kindN permitB
          by_cases h3 : x0.f2 ≤ x1.f0
          · rw [if_pos h3, if_pos h3, if_pos rfl]
          · rw [if_neg h3, if_neg h3]
            by_cases h4 : x1.f1 < x0.f2
            · rw [if_pos h4, if_pos h4]
              cases acc <;> simp
            · rw [if_neg h4, if_neg h4]
              cases acc <;> simp
    · have hf : rightB x0.f2 x0.f3 x0.f4 x0.f5 x1.f0 x1.f1 = false := by simpa using hr
      rw [bears_no hf, Option.bind_some, if_neg (by decide), permit_no 2000 (.inl hf)]
  rw [e]
  obtain ⟨a, b, hb⟩ : ∃ a b, bearing_Permit.f 2001 x0.f0 x0.f1.f0 x0.f1.f1 x0.f2 x0.f3 x0.f4 x0.f5 x1.f0 x1.f1 limit acc = some (a, b) := by
    by_cases hr : rightB x0.f2 x0.f3 x0.f4 x0.f5 x1.f0 x1.f1 = true
    · by_cases hl : 0 ≤ limit ∧ limit ≤ 1000
      · exact ⟨_, _, permit_yes 2000 hr hl⟩
      · exact ⟨_, _, permit_no 2000 (.inr hl)⟩
    · exact ⟨_, _, permit_no 2000 (.inl (by simpa using hr))⟩
  rw [hb]
  simp only [Option.bind_some, beq_self_eq_true, if_true]

end Go.Proofs.Ytenjkflckkmahaa.Pure
