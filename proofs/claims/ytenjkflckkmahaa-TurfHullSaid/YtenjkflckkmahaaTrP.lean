/- The plain laws of turf: the reference answers as the program does. -/
import Derived.Test.YtenjkflckkmahaaRuns2
import Derived.Test.YtenjkflckkmahaaQ5
import Derived.Test.YtenjkflckkmahaaQ2
namespace Go.Proofs.Ytenjkflckkmahaa.Q
open Go.RowKit Go.Proofs.YtenjkflckkmahaaW.PrintWords Go.Proofs.YtenjkflckkmahaaW.PrintLast Go.Proofs.YtenjkflckkmahaaW.PrintMore

theorem wrap_in28 {x : Int} (h : -9223372036854775808 ≤ x ∧ x ≤ 9223372036854775807) : wrap64 x = x := by
  unfold wrap64
  omega

theorem between_28 (a lo hi : Int) : fastiref28_between.f a lo hi = some (decide (lo ≤ a ∧ a ≤ hi)) := by
  unfold fastiref28_between.f
  by_cases h : lo ≤ a
  · rw [if_pos h]
    simp [h]
  · rw [if_neg h]
    simp [h]

theorem check_28 (n m : ByteArray) (t a b c d : Int) : fastiref28_Check.f n m t a b c d = turf_Check.f n m t a b c d := by
  simp only [fastiref28_Check.f, between_28, Option.bind_some, decide_eq_true_eq, turf_Check.f, pitchB]
  by_cases h1 : 0 ≤ a ∧ a ≤ 1000 <;> by_cases h2 : 0 ≤ b ∧ b ≤ 1000 <;> by_cases h3 : 0 ≤ c ∧ c ≤ 1000 <;> by_cases h4 : 1 ≤ d ∧ d ≤ 4 <;> simp [h1, h2, h3, h4]

theorem right_28 (lo hi m : Int) : fastiref28_Right.f lo hi m = some (withinB lo hi m) := by
  unfold fastiref28_Right.f withinB
  by_cases h1 : 0 ≤ lo <;> by_cases h2 : lo ≤ hi <;> simp [h1, h2]

theorem fine_28 (a b c d : Int) : fastiref28_Fine.f a b c d = some (withinB a b 200 && withinB c d 40) := by
  unfold fastiref28_Fine.f
  rw [right_28, right_28]
  cases withinB a b 200 <;> simp

theorem day_28 (n m : ByteArray) (t bear wear grow uses c rain frost u : Int) (hw : 0 ≤ wear ∧ wear ≤ 1000) (hg : 0 ≤ grow ∧ grow ≤ 1000) (hc : 0 ≤ c ∧ c ≤ 1000) (hr : 0 ≤ rain ∧ rain ≤ 200) (hu : 0 ≤ u ∧ u ≤ 4) :
    fastiref28_Day.f n m t bear wear grow uses c rain frost u = some (dayV wear grow u c rain frost) := by
  have h1 := mul_in hu hw
  have h2 := mul_in hu hr
  have e1 : wrap64 (u * wear) = u * wear := wrap_in28 (by omega)
  have e2 : wrap64 (u * rain) = u * rain := wrap_in28 (by omega)
  have e3 : wrap64 (c + grow) = c + grow := wrap_in28 (by omega)
  have e4 : wrap64 (Int.tdiv (u * rain) 4) = u * rain / 4 := by
    rw [Int.tdiv_eq_ediv_of_nonneg h2.1]
    exact wrap_in28 (by omega)
  have e5 : ∀ x : Int, 0 ≤ x ∧ x ≤ 2000 → wrap64 (wrap64 (x - u * wear) - u * rain / 4) = x - u * wear - u * rain / 4 := by
    intro x hx
    rw [wrap_in28 (x := x - u * wear) (by omega)]
    exact wrap_in28 (by omega)
  have em : ∀ x : Int, mx 0 (mn 1000 x) = mn (mx x 0) 1000 := by
    intro x
    unfold mx mn
    split <;> split <;> split <;> split <;> omega
  unfold fastiref28_Day.f dayV
  rw [e1, e2, e3, e4]
  by_cases hf : frost = 0
  · rw [if_pos hf, if_pos hf, e5 _ (by omega), em]
  · rw [if_neg hf, if_neg hf, e5 _ (by omega), em]

theorem next_28 (k : Nat) (hk : 1 ≤ k) (n m : ByteArray) (t bear wear grow uses lo hi rlo rhi flo fhi u : Int) :
    fastiref28_Next.f k n m t bear wear grow uses lo hi rlo rhi flo fhi u = turf_Next.f n m t bear wear grow uses lo hi rlo rhi flo fhi u := by
  obtain ⟨k, rfl⟩ : ∃ j, k = j + 1 := ⟨k - 1, by omega⟩
  simp only [fastiref28_Next.f, fastiref28_Next.j0, check_28, right_28, fine_28, between_28, Option.bind_some, turf_Check.f, turf_Next.f, okNext]
  rcases (Bool.eq_false_or_eq_true (pitchB bear wear grow uses)).symm with hC | hC
  · simp [hC]
  · rcases (Bool.eq_false_or_eq_true (withinB lo hi 1000)).symm with hX | hX
    · simp [hC, hX]
    · rcases (Bool.eq_false_or_eq_true (withinB rlo rhi 200 && withinB flo fhi 40)).symm with hF | hF
      · simp only [hC, hX, hF]
        simp
      · by_cases hu : 0 ≤ u ∧ u ≤ 4
        · obtain ⟨hp1, hp2, hp3, hp4⟩ := pitchB_iff.1 hC
          have hx := withinB_iff.1 hX
          obtain ⟨hf1, hf2⟩ := Bool.and_eq_true_iff.1 hF
          have hr := withinB_iff.1 hf1
          rw [day_28 n m t bear wear grow uses lo rhi fhi u hp2 hp3 (by omega) (by omega) hu, day_28 n m t bear wear grow uses hi rlo flo u hp2 hp3 (by omega) (by omega) hu]
          simp only [hC, hX, hF]
          simp [hu]
        · have h1 : (!decide (0 ≤ u ∧ u ≤ 4)) = true := by rw [decide_eq_false hu]; rfl
          have h2 : (decide (0 ≤ u) && decide (u ≤ 4)) = false := by
            rw [← Bool.decide_and]
            exact decide_eq_false hu
          simp only [hC, hX, hF, h1, h2]
          simp

theorem sane28 (k : Nat) (hk : 2000 ≤ k) : fastilaw28_sane.f k = some true := by
  have h : fastilaw28_sane.f 60 = some true := by kernel_rfl
  have up : ∀ d : Nat, fastilaw28_sane.f (60 + d) = some true := by
    intro d
    induction d with
    | zero => exact h
    | succ d ih => exact fastilaw28_sane.mono (60 + d) true ih
  have := up (k - 60)
  rwa [show 60 + (k - 60) = k by omega] at this

theorem same_28 (xs : List S27) (hb : xs.length ≤ 512) (k : Nat) (hk : 514 ≤ k) : fastiref28_Same.f k xs xs = some true := by
  have go : ∀ (d i k : Nat), i + d = xs.length → d + 1 ≤ k → fastiref28_Same.l0 k xs xs i = some true := by
    intro d
    induction d with
    | zero =>
      intro i k hi hk
      obtain ⟨k, rfl⟩ : ∃ j, k = j + 1 := ⟨k - 1, by omega⟩
      simp only [fastiref28_Same.l0]
      rw [if_neg (by omega)]
    | succ d ih =>
      intro i k hi hk
      obtain ⟨k, rfl⟩ : ∃ j, k = j + 1 := ⟨k - 1, by omega⟩
      simp only [fastiref28_Same.l0]
      rw [if_pos (by omega), if_pos (by omega), if_pos (by omega), if_neg (by simp), wrap_in28 (by omega)]
      exact ih (i + 1) k (by omega) (by omega)
  unfold fastiref28_Same.f
  rw [if_pos rfl]
  exact go xs.length 0 k (by omega) (by omega)

theorem run_28 (k : Nat) (hk : 600 ≤ k) (n m : ByteArray) (t bear wear grow uses lo hi : Int) (l2 : List S44) (l3 : List Int) :
    fastiref28_Run.f k n m t bear wear grow uses lo hi l2 l3 = turf_Run.f n m t bear wear grow uses lo hi l2 l3 := by
  obtain ⟨k, rfl⟩ : ∃ j, k = j + 2 := ⟨k - 2, by omega⟩
  have go : ∀ (d i k : Nat), l2.length ≤ 512 → l3.length = l2.length → i + d = l2.length → d + 2 ≤ k → (∀ j, j < i → errD bear wear grow uses l2 l3 (lo, hi) j = 0) →
      fastiref28_Run.l0 k l2 l3 (rangesD bear wear grow uses l2 l3 (lo, hi) i) i n m t bear wear grow uses (days bear wear grow uses l2 l3 (lo, hi) i).1 (days bear wear grow uses l2 l3 (lo, hi) i).2.1 =
        if (List.range l2.length).all (fun k => decide (errD bear wear grow uses l2 l3 (lo, hi) k = 0)) = true then some (rangesD bear wear grow uses l2 l3 (lo, hi) l2.length, 0) else some ([], 280) := by
    intro d
    induction d with
    | zero =>
      intro i k hn hl hid hk hj
      obtain ⟨k, rfl⟩ : ∃ j, k = j + 1 := ⟨k - 1, by omega⟩
      obtain rfl : i = l2.length := by omega
      simp only [fastiref28_Run.l0]
      rw [if_neg (by omega), if_pos]
      rw [List.all_eq_true]
      intro j h
      exact decide_eq_true (hj j (List.mem_range.1 h))
    | succ d ih =>
      intro i k hn hl hid hk hj
      obtain ⟨k, rfl⟩ : ∃ j, k = j + 1 := ⟨k - 1, by omega⟩
      simp only [fastiref28_Run.l0]
      rw [if_pos (by omega), if_pos (by omega), if_pos (by omega), next_28 k (by omega)]
      have hN : turf_Next.f n m t bear wear grow uses (days bear wear grow uses l2 l3 (lo, hi) i).1 (days bear wear grow uses l2 l3 (lo, hi) i).2.1 (rd_T44 l2 i).f0.f0 (rd_T44 l2 i).f0.f1 (rd_T44 l2 i).f1.f0 (rd_T44 l2 i).f1.f1 (rd l3 i) = some (days bear wear grow uses l2 l3 (lo, hi) (i + 1)) := rfl
      rw [hN, Option.bind_some]
      by_cases he : (days bear wear grow uses l2 l3 (lo, hi) (i + 1)).2.2 = 0
      · rw [if_pos he, if_pos (by simp [rangesD]; omega), ← rangesD_succ, wrap_in28 (by omega)]
        refine ih (i + 1) k hn hl (by omega) (by omega) (fun j h => ?_)
        rcases Nat.lt_succ_iff_lt_or_eq.1 h with h | rfl
        · exact hj j h
        · exact he
      · rw [if_neg he, if_neg]
        intro h
        exact he (of_decide_eq_true (List.all_eq_true.1 h i (List.mem_range.2 (by omega))))
  unfold fastiref28_Run.f turf_Run.f
  by_cases hbig : 512 < l2.length ∨ 512 < l3.length
  · rw [if_pos hbig]
    have : (if (l2.length : Int) > 512 then (fastiref28_Run.j0 (k + 2) l2 l3 true n m t bear wear grow uses lo hi) else (fastiref28_Run.j0 (k + 2) l2 l3 (decide ((l3.length : Int) > 512)) n m t bear wear grow uses lo hi)) = fastiref28_Run.j0 (k + 2) l2 l3 true n m t bear wear grow uses lo hi := by
      split
      · rfl
      · rw [decide_eq_true (by omega)]
    rw [this]
    simp only [fastiref28_Run.j0, if_true]
  · rw [if_neg hbig, if_neg (by omega), decide_eq_false (by omega)]
    have hn : l2.length ≤ 512 := by omega
    simp only [fastiref28_Run.j0, fastiref28_Run.j1, check_28, right_28, Option.bind_some, turf_Check.f, Bool.false_eq_true, if_false, if_true]
    rcases (Bool.eq_false_or_eq_true (pitchB bear wear grow uses)).symm with hC | hC
    · simp [hC]
    · rcases (Bool.eq_false_or_eq_true (withinB lo hi 1000)).symm with hX | hX
      · simp [hC, hX]
      · by_cases hL : l3.length = l2.length
        · have h1 : ((l2.length : Int) != (l3.length : Int)) = false := bne_eq_false_iff_eq.mpr (by omega)
          have h2 : decide (l3.length = l2.length) = true := decide_eq_true hL
          have := go l2.length 0 k hn hL (by omega) (by omega) (fun j h => absurd h (by omega))
          simp only [rangesD, List.range_zero, List.map_nil, days] at this
          simp only [hC, hX, h1, h2, if_true, Bool.and_self, Bool.false_eq_true, if_false]
          exact this
        · have h1 : ((l2.length : Int) != (l3.length : Int)) = true := bne_iff_ne.mpr (by omega)
          simp [hC, hX, h1, hL]
end Go.Proofs.Ytenjkflckkmahaa.Q
