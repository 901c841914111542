/- The plain laws of turf, second part: a day by the statements' own words, what a day keeps, a run by its days. -/
import Derived.Test.YtenjkflckkmahaaTrP
import Derived.OpenShut
import Derived.Test.YtenjkflckkmahaaQ6
namespace Go.Proofs.Ytenjkflckkmahaa.Q
open Go.RowKit Go.Proofs.YtenjkflckkmahaaW.PrintWords Go.Proofs.YtenjkflckkmahaaW.PrintLast Go.Proofs.YtenjkflckkmahaaW.PrintMore

theorem clamp (X : Int) : mn (mx X 0) 1000 = if X < 0 then 0 else if 1000 < X then 1000 else X := by
  unfold mn mx
  by_cases h : X < 0
  · rw [if_pos h, if_neg (by omega), if_pos h]
  · rw [if_neg h, if_neg h]

theorem dayV_in (wear grow u c rain frost : Int) : 0 ≤ dayV wear grow u c rain frost ∧ dayV wear grow u c rain frost ≤ 1000 := by
  unfold dayV
  generalize (if frost = 0 then c + grow else c) - u * wear - u * rain / 4 = X
  unfold mn mx
  repeat' split
  all_goals omega

theorem dayV_mono {wear grow u c c' rain rain' frost frost' : Int} (hg : 0 ≤ grow) (hu : 0 ≤ u) (hc : c ≤ c') (hr : rain' ≤ rain) (hf : frost = 0 → frost' = 0) : dayV wear grow u c rain frost ≤ dayV wear grow u c' rain' frost' := by
  have hm : u * rain' ≤ u * rain := Int.mul_le_mul_of_nonneg_left hr hu
  have hd : u * rain' / 4 ≤ u * rain / 4 := by omega
  have hx : (if frost = 0 then c + grow else c) ≤ (if frost' = 0 then c' + grow else c') := by
    by_cases h : frost = 0
    · rw [if_pos h, if_pos (hf h)]
      omega
    · rw [if_neg h]
      split <;> omega
  unfold dayV
  generalize (if frost = 0 then c + grow else c) = X at hx ⊢
  generalize (if frost' = 0 then c' + grow else c') = X' at hx ⊢
  generalize u * rain / 4 = Y at hd ⊢
  generalize u * rain' / 4 = Y' at hd ⊢
  generalize u * wear = Z
  unfold mn mx
  repeat' split
  all_goals omega

theorem dayV_more {wear grow u c rain frost : Int} (hw : 0 ≤ wear) (hr : 0 ≤ rain) : dayV wear grow (u + 1) c rain frost ≤ dayV wear grow u c rain frost := by
  have h1 : (u + 1) * wear = u * wear + wear := by rw [Int.add_mul, Int.one_mul]
  have h2 : (u + 1) * rain = u * rain + rain := by rw [Int.add_mul, Int.one_mul]
  have hd : u * rain / 4 ≤ (u * rain + rain) / 4 := by omega
  unfold dayV
  rw [h1, h2]
  generalize (if frost = 0 then c + grow else c) = X
  generalize u * rain / 4 = Y at hd ⊢
  generalize (u * rain + rain) / 4 = Y' at hd ⊢
  generalize u * wear = Z
  unfold mn mx
  repeat' split
  all_goals omega

theorem dayV_none {wear grow c rain frost : Int} (hg : 0 ≤ grow) (hc : 0 ≤ c ∧ c ≤ 1000) : c ≤ dayV wear grow 0 c rain frost := by
  have hx : c ≤ (if frost = 0 then c + grow else c) := by split <;> omega
  unfold dayV
  generalize (if frost = 0 then c + grow else c) = X at hx ⊢
  rw [Int.zero_mul, Int.zero_mul]
  unfold mn mx
  repeat' split
  all_goals omega

theorem okNext_iff {bear wear grow uses lo hi rlo rhi flo fhi n : Int} : okNext bear wear grow uses lo hi rlo rhi flo fhi n = true ↔
    ((0 ≤ bear ∧ bear ≤ 1000) ∧ (0 ≤ wear ∧ wear ≤ 1000) ∧ (0 ≤ grow ∧ grow ≤ 1000) ∧ (1 ≤ uses ∧ uses ≤ 4)) ∧ (0 ≤ lo ∧ lo ≤ hi ∧ hi ≤ 1000) ∧ (0 ≤ rlo ∧ rlo ≤ rhi ∧ rhi ≤ 200) ∧ (0 ≤ flo ∧ flo ≤ fhi ∧ fhi ≤ 40) ∧ (0 ≤ n ∧ n ≤ 4) := by
  simp only [okNext, Bool.and_eq_true, pitchB_iff, withinB_iff, decide_eq_true_eq, and_assoc]

theorem next_yes' {n m : ByteArray} {t bear wear grow uses lo hi rlo rhi flo fhi u : Int} (h : okNext bear wear grow uses lo hi rlo rhi flo fhi u = true) :
    turf_Next.f n m t bear wear grow uses lo hi rlo rhi flo fhi u = some (dayV wear grow u lo rhi fhi, dayV wear grow u hi rlo flo, 0) := by
  unfold turf_Next.f
  rw [if_pos h]
theorem next_no' {n m : ByteArray} {t bear wear grow uses lo hi rlo rhi flo fhi u : Int} (h : ¬ okNext bear wear grow uses lo hi rlo rhi flo fhi u = true) :
    turf_Next.f n m t bear wear grow uses lo hi rlo rhi flo fhi u = some (0, 0, 280) := by
  unfold turf_Next.f
  rw [if_neg h]

theorem pick_law {lo hi n : Int} (h : 0 ≤ lo ∧ lo ≤ hi ∧ hi ≤ 1000) (hn : 0 ≤ n ∧ n ≤ 65535) : ∃ p, fastilaw28_pick.f lo hi n = some p ∧ lo ≤ p ∧ p ≤ hi := by
  unfold fastilaw28_pick.f
  rw [wrap_in28 (x := hi - lo) (by omega), wrap_in28 (x := hi - lo + 1) (by omega), if_neg (by omega), wrap_in28 (x := n) (by omega), Int.tmod_eq_emod_of_nonneg hn.1]
  have h1 := Int.emod_nonneg n (b := hi - lo + 1) (by omega)
  have h2 := Int.emod_lt_of_pos n (b := hi - lo + 1) (by omega)
  generalize n % (hi - lo + 1) = M at h1 h2 ⊢
  rw [wrap_in28 (by omega)]
  exact ⟨_, rfl, by omega, by omega⟩

theorem day_law (k : Nat) (hk : 1 ≤ k) {n m : ByteArray} {t bear wear grow uses c rain frost u : Int} (hw : 0 ≤ wear ∧ wear ≤ 1000) (hg : 0 ≤ grow ∧ grow ≤ 1000) (hc : 0 ≤ c ∧ c ≤ 1000) (hr : 0 ≤ rain ∧ rain ≤ 200) (hu : 0 ≤ u ∧ u ≤ 4) :
    fastilaw28_day.f k n m t bear wear grow uses c rain frost u = some (dayV wear grow u c rain frost) := by
  obtain ⟨k, rfl⟩ : ∃ j, k = j + 1 := ⟨k - 1, by omega⟩
  have h1 := mul_in hu hw
  have h2 := mul_in hu hr
  have key : ∀ x : Int, 0 ≤ x ∧ x ≤ 2000 → fastilaw28_day.j0 (k + 1) x rain u n m t bear wear grow uses = some (mn (mx (x - u * wear - u * rain / 4) 0) 1000) := by
    intro x hx
    simp only [fastilaw28_day.j0]
    rw [wrap_in28 (x := u * wear) (by omega), wrap_in28 (x := u * rain) (by omega), Int.tdiv_eq_ediv_of_nonneg h2.1, wrap_in28 (x := u * rain / 4) (by omega), wrap_in28 (x := u * wear + u * rain / 4) (by omega), wrap_in28 (x := x - (u * wear + u * rain / 4)) (by omega)]
    generalize u * rain / 4 = Y
    generalize u * wear = Z
    rw [clamp, show x - Z - Y = x - (Z + Y) by omega]
    by_cases hl : x - (Z + Y) < 0
    · rw [if_pos hl, if_pos hl]
    · rw [if_neg hl, if_neg hl]
      by_cases hm : 1000 < x - (Z + Y)
      · rw [if_pos hm, if_pos hm]
      · rw [if_neg hm, if_neg hm]
  unfold fastilaw28_day.f dayV
  by_cases hf : frost = 0
  · rw [if_pos hf, if_pos hf, wrap_in28 (x := c + grow) (by omega)]
    exact key _ (by omega)
  · rw [if_neg hf, if_neg hf]
    exact key _ (by omega)

/-- A day that has no error: what holds of it, what it leads to. -/
theorem errD_ok {bear wear grow uses : Int} {l2 : List S44} {l3 : List Int} {x : Int × Int} {k : Nat} (h : errD bear wear grow uses l2 l3 x k = 0) :
    okNext bear wear grow uses (days bear wear grow uses l2 l3 x k).1 (days bear wear grow uses l2 l3 x k).2.1 (rd_T44 l2 k).f0.f0 (rd_T44 l2 k).f0.f1 (rd_T44 l2 k).f1.f0 (rd_T44 l2 k).f1.f1 (rd l3 k) = true ∧
    days bear wear grow uses l2 l3 x (k + 1) = (dayV wear grow (rd l3 k) (days bear wear grow uses l2 l3 x k).1 (rd_T44 l2 k).f0.f1 (rd_T44 l2 k).f1.f1, dayV wear grow (rd l3 k) (days bear wear grow uses l2 l3 x k).2.1 (rd_T44 l2 k).f0.f0 (rd_T44 l2 k).f1.f0, 0) := by
  unfold errD at h
  simp only [days, nextV] at h ⊢
  split at h
  · rename_i ho
    exact ⟨ho, if_pos ho⟩
  · simp at h

theorem rangesD_rd {bear wear grow uses : Int} {l2 : List S44} {l3 : List Int} {x : Int × Int} {N k : Nat} (h : k < N) :
    rd_T27 (rangesD bear wear grow uses l2 l3 x N) k = ⟨(days bear wear grow uses l2 l3 x (k + 1)).1, (days bear wear grow uses l2 l3 x (k + 1)).2.1⟩ := by
  unfold rd_T27 rangesD
  rw [Int.toNat_natCast, List.getD_eq_getElem?_getD, List.getElem?_map, List.getElem?_range h]
  rfl
theorem rangesD_length {bear wear grow uses : Int} {l2 : List S44} {l3 : List Int} {x : Int × Int} {N : Nat} : (rangesD bear wear grow uses l2 l3 x N).length = N := by simp [rangesD]

/-- The ways of a run. -/
theorem run_ways (n m : ByteArray) (t bear wear grow uses lo hi : Int) (l2 : List S44) (l3 : List Int) (h : ¬ (512 < l2.length ∨ 512 < l3.length)) :
    turf_Run.f n m t bear wear grow uses lo hi l2 l3 = some ([], 280) ∨
    (turf_Run.f n m t bear wear grow uses lo hi l2 l3 = some (rangesD bear wear grow uses l2 l3 (lo, hi) l2.length, 0) ∧ l3.length = l2.length ∧ pitchB bear wear grow uses = true ∧ withinB lo hi 1000 = true ∧ ∀ k, k < l2.length → errD bear wear grow uses l2 l3 (lo, hi) k = 0) := by
  unfold turf_Run.f
  rw [if_neg h]
  split
  · rename_i h1
    simp only [Bool.and_eq_true, decide_eq_true_eq] at h1
    split
    · rename_i h2
      exact .inr ⟨rfl, h1.2.2, h1.1, h1.2.1, fun k hk => of_decide_eq_true (List.all_eq_true.1 h2 k (List.mem_range.2 hk))⟩
    · exact .inl rfl
  · exact .inl rfl
end Go.Proofs.Ytenjkflckkmahaa.Q
