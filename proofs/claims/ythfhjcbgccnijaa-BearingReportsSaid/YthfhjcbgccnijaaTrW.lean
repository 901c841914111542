/- The plain laws of turf that the statement on the weather needs: what a day keeps, a run by its days. -/
import Derived.Test.YthfhjcbgccnijaaRuns2
import Derived.Test.YthfhjcbgccnijaaBrW
namespace Go.Proofs.Ythfhjcbgccnijaa.Q
open Go.RowKit Go.Proofs.YthfhjcbgccnijaaW.PrintWords Go.Proofs.YthfhjcbgccnijaaW.PrintLast Go.Proofs.YthfhjcbgccnijaaW.PrintMore

theorem dayV_in (wear grow u c rain frost : Int) : 0 ≤ dayV wear grow u c rain frost ∧ dayV wear grow u c rain frost ≤ 1000 := by
  unfold dayV
  generalize (if frost = 0 then c + grow else c) - u * wear - u * rain / 4 = X
  unfold mn mx
  repeat' split
  all_goals omega

theorem dayV_mono {wear grow u c c' rain rain' frost frost' : Int} (hg : 0 ≤ grow) (hu : 0 ≤ u) (hc : c ≤ c') (hr : rain' ≤ rain) (hf : frost = 0 → frost' = 0) : dayV wear grow u c rain frost ≤ dayV wear grow u c' rain' frost' := by
  have hm : u * rain' ≤ u * rain := Int.mul_le_mul_of_nonneg_left hr hu
  have hd : u * rain' / 4 ≤ u * rain / 4 := by omega
  have hx : (if frost = 0 then c + grow else c) ≤ (if frost' = 0 then c' + grow else c') := by
    by_cases h : frost = 0
    · rw [if_pos h, if_pos (hf h)]
      omega
    · rw [if_neg h]
      split <;> omega
  unfold dayV
  generalize (if frost = 0 then c + grow else c) = X at hx ⊢
  generalize (if frost' = 0 then c' + grow else c') = X' at hx ⊢
  generalize u * rain / 4 = Y at hd ⊢
  generalize u * rain' / 4 = Y' at hd ⊢
  generalize u * wear = Z
  unfold mn mx
  repeat' split
  all_goals omega

theorem okNext_iff {bear wear grow uses lo hi rlo rhi flo fhi n : Int} : okNext bear wear grow uses lo hi rlo rhi flo fhi n = true ↔
    ((0 ≤ bear ∧ bear ≤ 1000) ∧ (0 ≤ wear ∧ wear ≤ 1000) ∧ (0 ≤ grow ∧ grow ≤ 1000) ∧ (1 ≤ uses ∧ uses ≤ 4)) ∧ (0 ≤ lo ∧ lo ≤ hi ∧ hi ≤ 1000) ∧ (0 ≤ rlo ∧ rlo ≤ rhi ∧ rhi ≤ 200) ∧ (0 ≤ flo ∧ flo ≤ fhi ∧ fhi ≤ 40) ∧ (0 ≤ n ∧ n ≤ 4) := by
  simp only [okNext, Bool.and_eq_true, pitchB_iff, withinB_iff, decide_eq_true_eq, and_assoc]

/-- A day that has no error: what holds of it, what it leads to. -/
theorem errD_ok {bear wear grow uses : Int} {l2 : List S39} {l3 : List Int} {x : Int × Int} {k : Nat} (h : errD bear wear grow uses l2 l3 x k = 0) :
    okNext bear wear grow uses (days bear wear grow uses l2 l3 x k).1 (days bear wear grow uses l2 l3 x k).2.1 (rd_T39 l2 k).f0.f0 (rd_T39 l2 k).f0.f1 (rd_T39 l2 k).f1.f0 (rd_T39 l2 k).f1.f1 (rd l3 k) = true ∧
    days bear wear grow uses l2 l3 x (k + 1) = (dayV wear grow (rd l3 k) (days bear wear grow uses l2 l3 x k).1 (rd_T39 l2 k).f0.f1 (rd_T39 l2 k).f1.f1, dayV wear grow (rd l3 k) (days bear wear grow uses l2 l3 x k).2.1 (rd_T39 l2 k).f0.f0 (rd_T39 l2 k).f1.f0, 0) := by
  unfold errD at h
  simp only [days, nextV] at h ⊢
  split at h
  · rename_i ho
    exact ⟨ho, if_pos ho⟩
  · simp at h

theorem rangesD_rd {bear wear grow uses : Int} {l2 : List S39} {l3 : List Int} {x : Int × Int} {N k : Nat} (h : k < N) :
    rd_T27 (rangesD bear wear grow uses l2 l3 x N) k = ⟨(days bear wear grow uses l2 l3 x (k + 1)).1, (days bear wear grow uses l2 l3 x (k + 1)).2.1⟩ := by
  unfold rd_T27 rangesD
  rw [Int.toNat_natCast, List.getD_eq_getElem?_getD, List.getElem?_map, List.getElem?_range h]
  rfl
theorem rangesD_length {bear wear grow uses : Int} {l2 : List S39} {l3 : List Int} {x : Int × Int} {N : Nat} : (rangesD bear wear grow uses l2 l3 x N).length = N := by simp [rangesD]

section
variable {bear wear grow uses : Int} {l2 : List S39} {l3 : List Int} {x : Int × Int}
theorem run_all {n m : ByteArray} {t lo hi : Int} (hs : ¬ (512 < l2.length ∨ 512 < l3.length)) (hp : pitchB bear wear grow uses = true) (hx : withinB lo hi 1000 = true) (hl : l3.length = l2.length) (he : ∀ k, k < l2.length → errD bear wear grow uses l2 l3 (lo, hi) k = 0) :
    turf_Run.f n m t bear wear grow uses lo hi l2 l3 = some (rangesD bear wear grow uses l2 l3 (lo, hi) l2.length, 0) := by
  unfold turf_Run.f
  rw [if_neg hs, hp, hx, decide_eq_true hl, Bool.and_self, Bool.and_self, if_pos rfl, if_pos]
  rw [List.all_eq_true]
  intro k hk
  exact decide_eq_true (he k (List.mem_range.1 hk))


/-- Days that all go through: where the range and each day's weather and uses are right. -/
theorem days_ok (hp : (0 ≤ bear ∧ bear ≤ 1000) ∧ (0 ≤ wear ∧ wear ≤ 1000) ∧ (0 ≤ grow ∧ grow ≤ 1000) ∧ (1 ≤ uses ∧ uses ≤ 4)) (hx : 0 ≤ x.1 ∧ x.1 ≤ x.2 ∧ x.2 ≤ 1000) {n : Nat}
    (hs : ∀ j : Nat, j < n → (0 ≤ (rd_T39 l2 j).f0.f0 ∧ (rd_T39 l2 j).f0.f0 ≤ (rd_T39 l2 j).f0.f1 ∧ (rd_T39 l2 j).f0.f1 ≤ 200) ∧ (0 ≤ (rd_T39 l2 j).f1.f0 ∧ (rd_T39 l2 j).f1.f0 ≤ (rd_T39 l2 j).f1.f1 ∧ (rd_T39 l2 j).f1.f1 ≤ 40) ∧ (0 ≤ rd l3 j ∧ rd l3 j ≤ 4)) :
    ∀ j, j ≤ n → (0 ≤ (days bear wear grow uses l2 l3 x j).1 ∧ (days bear wear grow uses l2 l3 x j).1 ≤ (days bear wear grow uses l2 l3 x j).2.1 ∧ (days bear wear grow uses l2 l3 x j).2.1 ≤ 1000) ∧ ∀ i, i < j → errD bear wear grow uses l2 l3 x i = 0 := by
  intro j
  induction j with
  | zero => exact fun _ => ⟨hx, fun i hi => absurd hi (by omega)⟩
  | succ j ih =>
    intro h
    obtain ⟨h1, h2⟩ := ih (by omega)
    obtain ⟨r1, r2, r3⟩ := hs j (by omega)
    have hok : okNext bear wear grow uses (days bear wear grow uses l2 l3 x j).1 (days bear wear grow uses l2 l3 x j).2.1 (rd_T39 l2 j).f0.f0 (rd_T39 l2 j).f0.f1 (rd_T39 l2 j).f1.f0 (rd_T39 l2 j).f1.f1 (rd l3 j) = true :=
      okNext_iff.2 ⟨hp, h1, r1, r2, r3⟩
    have he : errD bear wear grow uses l2 l3 x j = 0 := by
      unfold errD
      simp only [days, nextV]
      rw [if_pos hok]
    obtain ⟨_, hd⟩ := errD_ok he
    have d1 := dayV_in wear grow (rd l3 j) (days bear wear grow uses l2 l3 x j).1 (rd_T39 l2 j).f0.f1 (rd_T39 l2 j).f1.f1
    have d2 := dayV_in wear grow (rd l3 j) (days bear wear grow uses l2 l3 x j).2.1 (rd_T39 l2 j).f0.f0 (rd_T39 l2 j).f1.f0
    have d3 : dayV wear grow (rd l3 j) (days bear wear grow uses l2 l3 x j).1 (rd_T39 l2 j).f0.f1 (rd_T39 l2 j).f1.f1 ≤ dayV wear grow (rd l3 j) (days bear wear grow uses l2 l3 x j).2.1 (rd_T39 l2 j).f0.f0 (rd_T39 l2 j).f1.f0 :=
      dayV_mono hp.2.2.1.1 r3.1 h1.2.1 r1.2.1 (fun h => by omega)
    refine ⟨?_, fun i hi => ?_⟩
    · rw [hd]
      exact ⟨d1.1, d3, d2.2⟩
    · rcases Nat.lt_succ_iff_lt_or_eq.1 hi with hi | rfl
      · exact h2 i hi
      · exact he
end

/-- What is within at the start, under weather that is within, stays within. -/
theorem days_within {bear wear grow uses : Int} {l2 m2 : List S39} {l3 : List Int} {x y : Int × Int} {n : Nat} (hg : 0 ≤ grow)
    (hx : ∀ i, i < n → errD bear wear grow uses l2 l3 x i = 0) (hy : ∀ i, i < n → errD bear wear grow uses m2 l3 y i = 0) (hu : ∀ j : Nat, j < n → 0 ≤ rd l3 j)
    (h0 : y.1 ≤ x.1 ∧ x.1 = x.2 ∧ x.2 ≤ y.2)
    (hs : ∀ j : Nat, j < n → ((rd_T39 l2 j).f0.f0 = (rd_T39 l2 j).f0.f1 ∧ (rd_T39 l2 j).f1.f0 = (rd_T39 l2 j).f1.f1) ∧ ((rd_T39 m2 j).f0.f0 ≤ (rd_T39 l2 j).f0.f0 ∧ (rd_T39 l2 j).f0.f0 ≤ (rd_T39 m2 j).f0.f1) ∧ (0 ≤ (rd_T39 m2 j).f1.f0 ∧ (rd_T39 m2 j).f1.f0 ≤ (rd_T39 l2 j).f1.f0 ∧ (rd_T39 l2 j).f1.f0 ≤ (rd_T39 m2 j).f1.f1)) :
    ∀ j, j ≤ n → (days bear wear grow uses m2 l3 y j).1 ≤ (days bear wear grow uses l2 l3 x j).1 ∧ (days bear wear grow uses l2 l3 x j).1 = (days bear wear grow uses l2 l3 x j).2.1 ∧ (days bear wear grow uses l2 l3 x j).2.1 ≤ (days bear wear grow uses m2 l3 y j).2.1 := by
  intro j
  induction j with
  | zero => exact fun _ => h0
  | succ j ih =>
    intro h
    obtain ⟨i1, i2, i3⟩ := ih (by omega)
    obtain ⟨_, e1⟩ := errD_ok (hx j (by omega))
    obtain ⟨_, e2⟩ := errD_ok (hy j (by omega))
    obtain ⟨⟨s1, s2⟩, ⟨s3, s4⟩, s5, s6, s7⟩ := hs j (by omega)
    have u0 := hu j (by omega)
    rw [e1, e2]
    refine ⟨dayV_mono hg u0 i1 (by omega) (fun h => by omega), ?_, dayV_mono hg u0 i3 s3 (fun h => by omega)⟩
    rw [i2, s1, s2]
end Go.Proofs.Ythfhjcbgccnijaa.Q
