/- The plain law of BearingMore. -/
import Derived.Test.YtenjkflckkmahaaSayBearingMore
import Derived.Test.YtenjkflckkmahaaBrP
namespace Go.Proofs.Ytenjkflckkmahaa.Pure
open Go.RowKit Go.Proofs.Ytenjkflckkmahaa.Q Go.Proofs.YtenjkflckkmahaaW.PrintWords Go.Proofs.YtenjkflckkmahaaW.PrintLast Go.Proofs.YtenjkflckkmahaaW.PrintMore

theorem permit_more {bear bear2 lo hi limit limit2 : Int} (h : lo ≤ hi) (hb : bear2 ≤ bear) (hl : limit ≤ limit2) (acc : Bool) (hp : permitB bear lo hi limit acc = true) : permitB bear2 lo hi limit2 acc = true := by
  unfold permitB at *
  by_cases h1 : bear2 ≤ lo
  · rw [if_pos h1]
  · rw [if_neg h1]
    rw [if_neg (by omega)] at hp
    by_cases h2 : hi < bear
    · rw [if_pos h2] at hp
      exact absurd hp (by decide)
    · rw [if_neg h2] at hp
      rw [if_neg (by omega)]
      simp only [Bool.and_eq_true, decide_eq_true_eq] at hp ⊢
      refine ⟨hp.1, ?_⟩
      have e1 : badN bear2 lo hi ≤ badN bear lo hi := by
        unfold badN
        omega
      have e2 : limit * (hi - lo + 1) ≤ limit2 * (hi - lo + 1) := Int.mul_le_mul_of_nonneg_right hl (by omega)
      omega

theorem permit_acc {bear lo hi limit : Int} (hp : permitB bear lo hi limit false = true) : permitB bear lo hi limit true = true := by
  unfold permitB at *
  by_cases h1 : bear ≤ lo
  · rw [if_pos h1]
  · rw [if_neg h1] at hp
    by_cases h2 : hi < bear
    · rw [if_pos h2] at hp
      exact absurd hp (by decide)
    · rw [if_neg h2] at hp
      exact absurd hp (by simp)

theorem BearingMore : fastilaw29_BearingMore.Pure := by
  intro x0 x1 limit more less _ _ hl hm hs
  have hm' := bounds_u16 hm
  have hs' := bounds_u16 hs
  refine ⟨2001, ?_⟩
  unfold fastilaw29_BearingMore.f
  rw [sane29 2001 (by omega), Option.bind_some, if_pos rfl]
  by_cases hr : rightB x0.f2 x0.f3 x0.f4 x0.f5 x1.f0 x1.f1 = true ∧ 0 ≤ limit ∧ limit ≤ 1000
  · obtain ⟨hr, hl1⟩ := hr
    have b := (rightB_iff ..).1 hr
    rw [permit_yes 2000 hr hl1, permit_yes 2000 hr hl1]
    simp only [Option.bind_some, if_true, fastilaw29_BearingMore.j0]
    rw [if_neg (by decide), wrap_in (x := more) (by omega), wrap_in (x := limit + more) (by omega), wrap_in (x := less) (by omega), wrap_in (x := x0.f2 - less) (by omega)]
    have m1 : limit ≤ mn 1000 (limit + more) ∧ mn 1000 (limit + more) ≤ 1000 := by unfold mn; omega
    have m2 : 0 ≤ mx 0 (x0.f2 - less) ∧ mx 0 (x0.f2 - less) ≤ x0.f2 := by unfold mx; omega
    have hr2 : rightB (mx 0 (x0.f2 - less)) x0.f3 x0.f4 x0.f5 x1.f0 x1.f1 = true := (rightB_iff ..).2 ⟨by omega, b.2.1, b.2.2.1, b.2.2.2.1, b.2.2.2.2⟩
    rw [permit_yes 1999 hr (by omega), permit_yes 1999 hr2 hl1]
    simp only [Option.bind_some, if_true]
    cases hw : permitB x0.f2 x1.f0 x1.f1 limit false
    · cases hn : permitB x0.f2 x1.f0 x1.f1 limit true
      · simp
      · have e1 := permit_more (bear2 := x0.f2) (limit2 := mn 1000 (limit + more)) (by omega) (by omega) m1.1 true hn
        have e2 := permit_more (bear2 := mx 0 (x0.f2 - less)) (limit2 := limit) (by omega) m2.2 (by omega) true hn
        rw [e1, e2]
        simp
    · have hn := permit_acc hw
      have e1 := permit_more (bear2 := x0.f2) (limit2 := mn 1000 (limit + more)) (by omega) (by omega) m1.1 true hn
      have e2 := permit_more (bear2 := mx 0 (x0.f2 - less)) (limit2 := limit) (by omega) m2.2 (by omega) true hn
      rw [hn, e1, e2]
      simp
  · have hn : rightB x0.f2 x0.f3 x0.f4 x0.f5 x1.f0 x1.f1 = false ∨ ¬ (0 ≤ limit ∧ limit ≤ 1000) := by
      by_cases h1 : rightB x0.f2 x0.f3 x0.f4 x0.f5 x1.f0 x1.f1 = true
      · exact .inr (fun h2 => hr ⟨h1, h2⟩)
      · exact .inl (by simpa using h1)
    rw [permit_no 2000 hn, permit_no 2000 hn]
    simp only [Option.bind_some, if_true, fastilaw29_BearingMore.j0]
    rw [if_pos (by decide)]
    simp

end Go.Proofs.Ytenjkflckkmahaa.Pure
