/- The plain law of BearingKnows. -/
import Derived.Test.YtenjkflckkmahaaSayBearingKnows
import Derived.Test.YtenjkflckkmahaaBrP
namespace Go.Proofs.Ytenjkflckkmahaa.Pure
open Go.RowKit Go.Proofs.Ytenjkflckkmahaa.Q Go.Proofs.YtenjkflckkmahaaW.PrintWords Go.Proofs.YtenjkflckkmahaaW.PrintLast Go.Proofs.YtenjkflckkmahaaW.PrintMore

theorem knows_step (k : Nat) (b s : Int) (y : List S27) (i p q : Int) (n m : ByteArray) (t bear wear grow uses : Int) (hy : y.length = 3) (h0 : 0 ≤ i) (h3 : i < 3) (hp : (rd_T27 y i).f0 = p) (hq : (rd_T27 y i).f1 = q)
    (hr : p ≤ q → rightB bear wear grow uses p q = true) (hs : 0 ≤ s ∧ s ≤ 5000) :
    fastilaw29_BearingKnows.l0 (k + 1) b s y (y.length : Int) i n m t bear wear grow uses = fastilaw29_BearingKnows.l0 k b (s + if p ≤ q then badN bear p q else 0) y (y.length : Int) (i + 1) n m t bear wear grow uses := by
  simp only [fastilaw29_BearingKnows.l0]
  rw [if_pos (by omega), if_pos h0, if_pos (by omega), hp, hq, wrap_in (x := i + 1) (by omega)]
  by_cases h : p ≤ q
  · have hb := (rightB_iff ..).1 (hr h)
    have bi := bad_in (bear := bear) h
    rw [if_neg (by omega), risk_yes (hr h), Option.bind_some, wrap_in (x := q - p) (by omega), wrap_in (x := q - p + 1) (by omega), if_pos rfl, if_pos rfl, if_neg (by simp; omega), if_neg (by simp; omega), if_pos h, wrap_in (x := s + badN bear p q) (by omega)]
  · rw [if_pos (by omega), if_neg h, Int.add_zero]

theorem BearingKnows : fastilaw29_BearingKnows.Pure := by
  intro x0 x1 a b _ _ ha hb
  have ha' := bounds_u16 ha
  have hb' := bounds_u16 hb
  refine ⟨2001, ?_⟩
  unfold fastilaw29_BearingKnows.f
  rw [sane29 2001 (by omega), Option.bind_some, if_pos rfl]
  by_cases hr : rightB x0.f2 x0.f3 x0.f4 x0.f5 x1.f0 x1.f1 = true
  · have r := (rightB_iff ..).1 hr
    rw [bears_yes hr, Option.bind_some, if_pos rfl, wrap_in (x := x1.f1 - x1.f0) (by omega), wrap_in (x := x1.f1 - x1.f0 + 1) (by omega), if_neg (by omega), wrap_in (x := a) (by omega), wrap_in (x := b) (by omega)]
    have m1 : 0 ≤ Int.tmod a (x1.f1 - x1.f0 + 1) ∧ Int.tmod a (x1.f1 - x1.f0 + 1) < x1.f1 - x1.f0 + 1 := ⟨Int.tmod_nonneg _ ha'.1, Int.tmod_lt_of_pos _ (by omega)⟩
    rw [wrap_in (x := x1.f0 + Int.tmod a (x1.f1 - x1.f0 + 1)) (by omega)]
    obtain ⟨L, hL⟩ : ∃ L, L = x1.f0 + Int.tmod a (x1.f1 - x1.f0 + 1) := ⟨_, rfl⟩
    have l1 : x1.f0 ≤ L ∧ L ≤ x1.f1 := by omega
    rw [← hL]
    clear hL m1
    rw [wrap_in (x := x1.f1 - L) (by omega), wrap_in (x := x1.f1 - L + 1) (by omega), if_neg (by omega)]
    have m2 : 0 ≤ Int.tmod b (x1.f1 - L + 1) ∧ Int.tmod b (x1.f1 - L + 1) < x1.f1 - L + 1 := ⟨Int.tmod_nonneg _ hb'.1, Int.tmod_lt_of_pos _ (by omega)⟩
    rw [wrap_in (x := L + Int.tmod b (x1.f1 - L + 1)) (by omega)]
    obtain ⟨R, hR⟩ : ∃ R, R = L + Int.tmod b (x1.f1 - L + 1) := ⟨_, rfl⟩
    have l2 : L ≤ R ∧ R ≤ x1.f1 := by omega
    rw [← hR]
    clear hR m2
    have sub : ∀ p q : Int, x1.f0 ≤ p → p ≤ q → q ≤ x1.f1 → rightB x0.f2 x0.f3 x0.f4 x0.f5 p q = true := fun p q h1 h2 h3 => (rightB_iff ..).2 ⟨r.1, r.2.1, r.2.2.1, r.2.2.2.1, by omega, h2, by omega⟩
    have fin : fastilaw29_BearingKnows.j0 2001 L R (badN x0.f2 x1.f0 x1.f1) (x1.f1 - x1.f0 + 1 != x1.f1 - x1.f0 + 1) x0.f0 x0.f1.f0 x0.f1.f1 x0.f2 x0.f3 x0.f4 x0.f5 x1.f0 x1.f1 = some true := by
      simp only [fastilaw29_BearingKnows.j0]
      rw [if_neg (by simp), Option.bind_some, wrap_in (x := L - 1) (by omega), wrap_in (x := R + 1) (by omega)]
      have bL := bad_in (bear := x0.f2) (lo := L) (hi := R) (by omega)
      rw [knows_step 1999 _ 0 _ 0 x1.f0 (L - 1) _ _ _ _ _ _ _ rfl (by omega) (by omega) rfl rfl (fun h => sub _ _ (by omega) h (by omega)) (by omega)]
      have b1 : 0 ≤ (0 + if x1.f0 ≤ L - 1 then badN x0.f2 x1.f0 (L - 1) else 0) ∧ (0 + if x1.f0 ≤ L - 1 then badN x0.f2 x1.f0 (L - 1) else 0) ≤ 1001 := by
        split
        · have := bad_in (bear := x0.f2) (lo := x1.f0) (hi := L - 1) (by omega)
          omega
        · omega
      rw [knows_step 1998 _ _ _ (0 + 1) L R _ _ _ _ _ _ _ rfl (by omega) (by omega) rfl rfl (fun h => sub _ _ (by omega) h (by omega)) (by omega), if_pos l2.1]
      rw [knows_step 1997 _ _ _ (0 + 1 + 1) (R + 1) x1.f1 _ _ _ _ _ _ _ rfl (by omega) (by omega) rfl rfl (fun h => sub _ _ (by omega) h (by omega)) (by omega)]
      rw [fastilaw29_BearingKnows.l0, if_neg (by simp)]
      congr 1
      rw [beq_iff_eq]
      unfold badN
      omega
    rw [bears_yes (sub L R l1.1 l2.1 l2.2), Option.bind_some, risk_yes hr, Option.bind_some, if_pos rfl, if_pos rfl, fin]
    by_cases hk : kindN x0.f2 x1.f0 x1.f1 = 1
    · rw [if_pos hk]
    · rw [if_neg hk, if_pos]
      show kindN x0.f2 L R = kindN x0.f2 x1.f0 x1.f1
      unfold kindN at *
      omega
  · have hf : rightB x0.f2 x0.f3 x0.f4 x0.f5 x1.f0 x1.f1 = false := by simpa using hr
    rw [bears_no hf, Option.bind_some, if_neg (by decide)]
    rfl

end Go.Proofs.Ytenjkflckkmahaa.Pure
