/- The plain law of TurfPath. -/
import Derived.Test.YtenjkflckkmahaaSayTurfPath
import Derived.Test.YtenjkflckkmahaaTrQ
namespace Go.Proofs.Ytenjkflckkmahaa.Pure
open Go.RowKit Go.Proofs.Ytenjkflckkmahaa.Q Go.Proofs.YtenjkflckkmahaaW.PrintWords Go.Proofs.YtenjkflckkmahaaW.PrintLast Go.Proofs.YtenjkflckkmahaaW.PrintMore

theorem path_go {n m : ByteArray} {t bear wear grow uses lo hi : Int} {l2 : List S44} {l3 : List Int} {l5 : List S62} (hn : l2.length ≤ 512) (hl : l3.length = l2.length) (he : ∀ k, k < l2.length → errD bear wear grow uses l2 l3 (lo, hi) k = 0)
    (hb : ∀ a, a ∈ l5 → B62 a) (hlen : l5.length < 9223372036854775807) :
    ∀ (d i k : Nat) (c : Int), i + d = l2.length → 2 * d + 2 ≤ k → (days bear wear grow uses l2 l3 (lo, hi) i).1 ≤ c → c ≤ (days bear wear grow uses l2 l3 (lo, hi) i).2.1 →
      fastilaw28_TurfPath.l0 k l2 l3 l5 (rangesD bear wear grow uses l2 l3 (lo, hi) l2.length) c (l2.length : Int) i n m t bear wear grow uses = some true := by
  intro d
  induction d with
  | zero =>
    intro i k c hid hk _ _
    obtain ⟨k, rfl⟩ : ∃ j, k = j + 1 := ⟨k - 1, by omega⟩
    simp only [fastilaw28_TurfPath.l0]
    rw [if_neg (by omega)]
  | succ d ih =>
    intro i k c hid hk h1 h2
    obtain ⟨k, rfl⟩ : ∃ j, k = j + 2 := ⟨k - 2, by omega⟩
    obtain ⟨hok, hd⟩ := errD_ok (he i (by omega))
    have ho := okNext_iff.1 hok
    have step : ∀ a b : Int, (0 ≤ a ∧ a ≤ 65535) → (0 ≤ b ∧ b ≤ 65535) → fastilaw28_TurfPath.j3 (k + 1) l2 l3 l5 (rangesD bear wear grow uses l2 l3 (lo, hi) l2.length) c i (l2.length : Int) i n m t bear wear grow uses a b = some true := by
      intro a b ha hb'
      obtain ⟨p, hp, hp1, hp2⟩ := pick_law (n := a) (lo := (rd_T44 l2 i).f0.f0) (hi := (rd_T44 l2 i).f0.f1) (by omega) ha
      obtain ⟨q, hq, hq1, hq2⟩ := pick_law (n := b) (lo := (rd_T44 l2 i).f1.f0) (hi := (rd_T44 l2 i).f1.f1) (by omega) hb'
      simp only [fastilaw28_TurfPath.j3]
      have e1 : (days bear wear grow uses l2 l3 (lo, hi) (i + 1)).1 ≤ dayV wear grow (rd l3 i) c p q := by
        rw [hd]
        exact dayV_mono (by omega) (by omega) h1 hp2 (fun h => by omega)
      have e2 : dayV wear grow (rd l3 i) c p q ≤ (days bear wear grow uses l2 l3 (lo, hi) (i + 1)).2.1 := by
        rw [hd]
        exact dayV_mono (by omega) (by omega) h2 hp1 (fun h => by omega)
      rw [if_pos (by omega), if_pos (by omega), hp, Option.bind_some, hq, Option.bind_some, if_pos (by omega), day_law k (by omega) (by omega) (by omega) (by omega) (by omega) (by omega), Option.bind_some, rangesD_length, if_pos (by omega), rangesD_rd (by omega),
        if_neg (by simp only; omega), if_neg (by simp only; omega), wrap_in28 (by omega)]
      exact ih (i + 1) k _ (by omega) (by omega) e1 e2
    simp only [fastilaw28_TurfPath.l0]
    rw [if_pos (by omega), if_pos (by omega), if_pos (by omega), fine_28, Option.bind_some, withinB_iff.2 (by omega), withinB_iff.2 (by omega), Bool.and_self, if_pos rfl]
    by_cases hz : (l5.length : Int) > 0
    · have m1 := Int.emod_nonneg (i : Int) (b := (l5.length : Int)) (by omega)
      have m2 := Int.emod_lt_of_pos (i : Int) hz
      rw [if_pos hz, if_neg (by omega), Int.tmod_eq_emod_of_nonneg (by omega), if_pos m1, if_pos m2]
      have hm : rd_T62 l5 ((i : Int) % (l5.length : Int)) ∈ l5 := by
        unfold rd_T62
        rw [List.getD_eq_getElem?_getD, List.getElem?_eq_getElem (by omega)]
        exact List.getElem_mem _
      have hB := hb _ hm
      exact step _ _ (bounds_u16 hB.1) (bounds_u16 hB.2)
    · rw [if_neg hz]
      exact step 0 0 (by omega) (by omega)

theorem TurfPath : fastilaw28_TurfPath.Pure := by
  intro x0 x1 l2 l3 a4 l5 _ _ _ _ h4 h5
  refine ⟨2001, ?_⟩
  unfold fastilaw28_TurfPath.f
  rw [sane28 2001 (by omega), Option.bind_some, if_pos rfl]
  have hb4 := bounds_u16 h4
  have hj : ∀ b, (b = false → ¬ (512 < l2.length ∨ 512 < l3.length)) → fastilaw28_TurfPath.j0 2001 l2 l3 a4 l5 b x0.f0 x0.f1.f0 x0.f1.f1 x0.f2 x0.f3 x0.f4 x0.f5 x1.f0 x1.f1 = some true := by
    intro b hb
    simp only [fastilaw28_TurfPath.j0]
    cases b
    · have hs := hb rfl
      rw [if_neg (by decide)]
      rcases run_ways x0.f0 x0.f1.f0 x0.f1.f1 x0.f2 x0.f3 x0.f4 x0.f5 x1.f0 x1.f1 l2 l3 hs with h | ⟨h, hl, hp, hx, he⟩
      · rw [h]
        simp
      · have hx' := withinB_iff.1 hx
        obtain ⟨c, hc, c1, c2⟩ := pick_law (n := a4) hx' hb4
        rw [h, Option.bind_some, if_pos rfl, rangesD_length, if_pos rfl, if_pos (by omega), right_28, Option.bind_some, hx]
        simp only [fastilaw28_TurfPath.j1, Bool.not_true, Bool.false_eq_true, if_false]
        rw [hc, Option.bind_some]
        exact path_go (by omega) hl he h5.2 (by have := h5.1; omega) l2.length 0 1999 c (by omega) (by omega) c1 c2
    · rw [if_pos rfl]
  split
  · exact hj _ (fun h => by cases h)
  · exact hj _ (fun h => by have := of_decide_eq_false h; omega)

end Go.Proofs.Ytenjkflckkmahaa.Pure
