/- The plain law of TurfSpec. -/
import Derived.Test.YtenjkflckkmahaaSayTurfSpec
import Derived.Test.YtenjkflckkmahaaTrP
namespace Go.Proofs.Ytenjkflckkmahaa.Pure
open Go.RowKit Go.Proofs.Ytenjkflckkmahaa.Q Go.Proofs.YtenjkflckkmahaaW.PrintWords Go.Proofs.YtenjkflckkmahaaW.PrintLast Go.Proofs.YtenjkflckkmahaaW.PrintMore

theorem TurfSpec : fastilaw28_TurfSpec.Pure := by
  intro x0 x1 x2 a3 _ _ _ _
  refine ⟨2001, ?_⟩
  unfold fastilaw28_TurfSpec.f
  obtain ⟨a, b, c, hN⟩ : ∃ a b c, turf_Next.f x0.f0 x0.f1.f0 x0.f1.f1 x0.f2 x0.f3 x0.f4 x0.f5 x1.f0 x1.f1 x2.f0.f0 x2.f0.f1 x2.f1.f0 x2.f1.f1 a3 = some (a, b, c) := ⟨_, _, _, rfl⟩
  obtain ⟨d, hC⟩ : ∃ d, turf_Check.f x0.f0 x0.f1.f0 x0.f1.f1 x0.f2 x0.f3 x0.f4 x0.f5 = some d := ⟨_, rfl⟩
  rw [sane28 2001 (by omega), next_28 2001 (by omega), check_28, hN, hC]
  simp only [Option.bind_some, if_true, fastilaw28_TurfSpec.j0, beq_self_eq_true, Bool.and_self]

end Go.Proofs.Ytenjkflckkmahaa.Pure
