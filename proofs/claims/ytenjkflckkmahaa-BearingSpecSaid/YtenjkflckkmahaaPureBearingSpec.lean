/- The plain law of BearingSpec. -/
import Derived.Test.YtenjkflckkmahaaSayBearingSpec
import Derived.Test.YtenjkflckkmahaaBrP
namespace Go.Proofs.Ytenjkflckkmahaa.Pure
open Go.RowKit Go.Proofs.Ytenjkflckkmahaa.Q Go.Proofs.YtenjkflckkmahaaW.PrintWords Go.Proofs.YtenjkflckkmahaaW.PrintLast Go.Proofs.YtenjkflckkmahaaW.PrintMore

theorem BearingSpec : fastilaw29_BearingSpec.Pure := by
  intro x0 x1 _ _
  refine ⟨2001, ?_⟩
  unfold fastilaw29_BearingSpec.f
  rw [sane29 2001 (by omega), Option.bind_some, if_pos rfl, ref_bears 2001 (by omega), ref_risk 2001 (by omega)]
  obtain ⟨a, b, hb⟩ : ∃ a b, bearing_Bears.f x0.f0 x0.f1.f0 x0.f1.f1 x0.f2 x0.f3 x0.f4 x0.f5 x1.f0 x1.f1 = some (a, b) := by
    cases h : rightB x0.f2 x0.f3 x0.f4 x0.f5 x1.f0 x1.f1
    · exact ⟨_, _, bears_no h⟩
    · exact ⟨_, _, bears_yes h⟩
  obtain ⟨c, d, e, hr⟩ : ∃ a b c, bearing_Risk.f x0.f0 x0.f1.f0 x0.f1.f1 x0.f2 x0.f3 x0.f4 x0.f5 x1.f0 x1.f1 = some (a, b, c) := ⟨_, _, _, rfl⟩
  rw [hb, hr]
  simp only [Option.bind_some, if_true, fastilaw29_BearingSpec.j0, beq_self_eq_true]

end Go.Proofs.Ytenjkflckkmahaa.Pure
