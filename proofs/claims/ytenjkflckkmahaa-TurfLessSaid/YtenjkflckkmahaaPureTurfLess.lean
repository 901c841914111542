/- The plain law of TurfLess. -/
import Derived.Test.YtenjkflckkmahaaSayTurfLess
import Derived.Test.YtenjkflckkmahaaTrQ
namespace Go.Proofs.Ytenjkflckkmahaa.Pure
open Go.RowKit Go.Proofs.Ytenjkflckkmahaa.Q Go.Proofs.YtenjkflckkmahaaW.PrintWords Go.Proofs.YtenjkflckkmahaaW.PrintLast Go.Proofs.YtenjkflckkmahaaW.PrintMore

theorem part_law {lo hi a b : Int} (h : 0 ≤ lo ∧ lo ≤ hi ∧ hi ≤ 1000) (ha : 0 ≤ a ∧ a ≤ 65535) (hb : 0 ≤ b ∧ b ≤ 65535) : ∃ p q, fastilaw28_part.f lo hi a b = some (p, q) ∧ lo ≤ p ∧ p ≤ q ∧ q ≤ hi := by
  obtain ⟨x, hx, x1, x2⟩ := pick_law h ha
  obtain ⟨y, hy, y1, y2⟩ := pick_law h hb
  unfold fastilaw28_part.f
  rw [hx, Option.bind_some, hy, Option.bind_some]
  refine ⟨_, _, rfl, ?_⟩
  unfold mn mx
  repeat' split
  all_goals omega

theorem TurfLess : fastilaw28_TurfLess.Pure := by
  intro x0 x1 x2 a3 x4 _ _ _ _ h4
  refine ⟨2004, ?_⟩
  unfold fastilaw28_TurfLess.f
  rw [sane28 2004 (by omega), Option.bind_some, if_pos rfl]
  by_cases hok : okNext x0.f2 x0.f3 x0.f4 x0.f5 x1.f0 x1.f1 x2.f0.f0 x2.f0.f1 x2.f1.f0 x2.f1.f1 a3 = true
  · obtain ⟨⟨hp1, hp2, hp3, hp4⟩, hx, hr, hf, hu⟩ := okNext_iff.1 hok
    obtain ⟨b0, b1, b2, b3, b4, b5⟩ := h4
    obtain ⟨r0, r1, hR, r2, r3, r4⟩ := part_law (lo := x2.f0.f0) (hi := x2.f0.f1) (by omega) (bounds_u16 b2) (bounds_u16 b3)
    obtain ⟨f0, f1, hF, f2, f3, f4⟩ := part_law (lo := x2.f1.f0) (hi := x2.f1.f1) (by omega) (bounds_u16 b4) (bounds_u16 b5)
    obtain ⟨c0, c1, hCc, c2, c3, c4⟩ := part_law (lo := x1.f0) (hi := x1.f1) hx (bounds_u16 b0) (bounds_u16 b1)
    have hok2 : okNext x0.f2 x0.f3 x0.f4 x0.f5 c0 c1 r0 r1 f0 f1 a3 = true := okNext_iff.2 ⟨⟨hp1, hp2, hp3, hp4⟩, by omega, by omega, by omega, hu⟩
    have e1 : dayV x0.f3 x0.f4 a3 x1.f0 x2.f0.f1 x2.f1.f1 ≤ dayV x0.f3 x0.f4 a3 c0 r1 f1 := dayV_mono (by omega) (by omega) c2 r4 (fun h => by omega)
    have e2 : dayV x0.f3 x0.f4 a3 c1 r0 f0 ≤ dayV x0.f3 x0.f4 a3 x1.f1 x2.f0.f0 x2.f1.f0 := dayV_mono (by omega) (by omega) c4 r2 (fun h => by omega)
    rw [next_yes' hok, Option.bind_some, if_pos rfl, right_28, Option.bind_some, withinB_iff.2 hx, if_pos rfl, fine_28, Option.bind_some, withinB_iff.2 hr, withinB_iff.2 hf]
    simp only [fastilaw28_TurfLess.j0, Bool.and_self, Bool.not_true, Bool.false_eq_true, if_false]
    rw [hR, Option.bind_some, hF, Option.bind_some, hCc, Option.bind_some]
    simp only [next_yes' hok2, Option.bind_some, if_true, fastilaw28_inside.f]
    rw [if_pos e1, decide_eq_true e2]
    simp only [Option.bind_some, Bool.not_true, fastilaw28_TurfLess.j1, Bool.false_eq_true, if_false]
    have z1 : a3 = 0 → x1.f0 ≤ dayV x0.f3 x0.f4 a3 x1.f0 x2.f0.f1 x2.f1.f1 := fun h => by rw [h]; exact dayV_none hp3.1 (by omega)
    have z2 : a3 = 0 → x1.f1 ≤ dayV x0.f3 x0.f4 a3 x1.f1 x2.f0.f0 x2.f1.f0 := fun h => by rw [h]; exact dayV_none hp3.1 (by omega)
    have m1 : dayV x0.f3 x0.f4 (a3 + 1) x1.f0 x2.f0.f1 x2.f1.f1 ≤ dayV x0.f3 x0.f4 a3 x1.f0 x2.f0.f1 x2.f1.f1 := dayV_more hp2.1 (by omega)
    have m2 : dayV x0.f3 x0.f4 (a3 + 1) x1.f1 x2.f0.f0 x2.f1.f0 ≤ dayV x0.f3 x0.f4 a3 x1.f1 x2.f0.f0 x2.f1.f0 := dayV_more hp2.1 (by omega)
    have last : fastilaw28_TurfLess.j2 2002 a3 false x0.f0 x0.f1.f0 x0.f1.f1 x0.f2 x0.f3 x0.f4 x0.f5 x1.f0 x1.f1 x2.f0.f0 x2.f0.f1 x2.f1.f0 x2.f1.f1 (dayV x0.f3 x0.f4 a3 x1.f0 x2.f0.f1 x2.f1.f1) (dayV x0.f3 x0.f4 a3 x1.f1 x2.f0.f0 x2.f1.f0) = some true := by
      simp only [fastilaw28_TurfLess.j2, Bool.false_eq_true, if_false]
      rw [wrap_in28 (x := a3 + 1) (by omega)]
      by_cases h4' : a3 = 4
      · rw [next_no' (fun h => by have := (okNext_iff.1 h).2.2.2.2; omega), Option.bind_some, if_pos h4']
        simp [fastilaw28_TurfLess.j3]
      · rw [next_yes' (okNext_iff.2 ⟨⟨hp1, hp2, hp3, hp4⟩, hx, hr, hf, by omega⟩), Option.bind_some, if_neg h4', if_pos rfl, if_pos m1, decide_eq_true m2]
        simp only [fastilaw28_TurfLess.j3]
    by_cases hz : a3 = 0
    · rw [if_pos hz, if_neg (by have := z1 hz; omega), decide_eq_false (by have := z2 hz; omega)]
      exact last
    · rw [if_neg hz]
      exact last
  · rw [next_no' hok, Option.bind_some]
    simp

end Go.Proofs.Ytenjkflckkmahaa.Pure
