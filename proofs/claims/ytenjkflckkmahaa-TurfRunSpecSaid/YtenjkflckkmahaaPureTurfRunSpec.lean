/- The plain law of TurfRunSpec. -/
import Derived.Test.YtenjkflckkmahaaSayTurfRunSpec
import Derived.Test.YtenjkflckkmahaaTrP
namespace Go.Proofs.Ytenjkflckkmahaa.Pure
open Go.RowKit Go.Proofs.Ytenjkflckkmahaa.Q Go.Proofs.YtenjkflckkmahaaW.PrintWords Go.Proofs.YtenjkflckkmahaaW.PrintLast Go.Proofs.YtenjkflckkmahaaW.PrintMore

theorem TurfRunSpec : fastilaw28_TurfRunSpec.Pure := by
  intro x0 x1 l2 l3 _ _ _ _
  refine ⟨2001, ?_⟩
  unfold fastilaw28_TurfRunSpec.f
  rw [sane28 2001 (by omega), Option.bind_some, if_pos rfl]
  have hj : ∀ b, fastilaw28_TurfRunSpec.j0 2001 l2 l3 b x0.f0 x0.f1.f0 x0.f1.f1 x0.f2 x0.f3 x0.f4 x0.f5 x1.f0 x1.f1 = some true := by
    intro b
    simp only [fastilaw28_TurfRunSpec.j0]
    cases b
    · rw [if_neg (by decide), run_28 2000 (by omega)]
      obtain ⟨a, c, hR, hL⟩ : ∃ a c, turf_Run.f x0.f0 x0.f1.f0 x0.f1.f1 x0.f2 x0.f3 x0.f4 x0.f5 x1.f0 x1.f1 l2 l3 = some (a, c) ∧ a.length ≤ 512 := by
        unfold turf_Run.f
        split
        · exact ⟨_, _, rfl, by simp⟩
        · split
          · split
            · exact ⟨_, _, rfl, by simp [rangesD]; omega⟩
            · exact ⟨_, _, rfl, by simp⟩
          · exact ⟨_, _, rfl, by simp⟩
      rw [hR]
      simp only [Option.bind_some]
      rw [same_28 a hL 2000 (by omega)]
      simp
    · rw [if_pos rfl]
  split
  · exact hj _
  · exact hj _

end Go.Proofs.Ytenjkflckkmahaa.Pure
