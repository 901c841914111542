/- The reference's disk in plain Lean: what Few, Check and Same of the reference compute. -/
import Derived.Test.YtmeoapalnkibfaaDWx
import Derived.Test.YtmeoapalnkibfaaQ1
import Derived.Test.YtmeoapalnkibfaaQ2
import Derived.Test.YtmeoapalnkibfaaQ3
namespace Go.Proofs.Ytmeoapalnkibfaa.Q
open Go.RowKit Go.Proofs.YtmeoapalnkibfaaW.PrintWords Go.Proofs.YtmeoapalnkibfaaW.PrintLast Go.Proofs.YtmeoapalnkibfaaW.PrintMore
set_option linter.unusedVariables false
set_option linter.unusedSimpArgs false

theorem wr_in {x : Int} (h : -9223372036854775808 ≤ x ∧ x ≤ 9223372036854775807) : wrap64 x = x := by
  unfold wrap64
  omega
theorem wr_up (n : Nat) (h : n ≤ 140737488351232) : wrap64 ((n : Int) + 1) = ((n + 1 : Nat) : Int) := by rw [wr_in (by omega)]; omega
theorem rdT_get (l : List SW) (n : Nat) (h : n < l.length) : rd_T54 l (n : Int) = l[n] := by simp [rd_T54, List.getD, h]
theorem rdL_get (l : List (List Int)) (n : Nat) (h : n < l.length) : rd_L1 l (n : Int) = l[n] := by simp [rd_L1, List.getD, h]
theorem up_ {α : Type} {f : Nat → Option α} (hm : ∀ k, LeO (f k) (f (k + 1))) {K : Nat} {r : α} (h : f K = some r) : ∀ k, K ≤ k → f k = some r := by
  intro k hk
  induction hk with
  | refl => exact h
  | step _ ih => exact hm _ _ ih

theorem few_l1 (l0 : List (List Int)) (l1 : List SW) (a : Int) (s : Bool) (hl : l1.length ≤ 140737488351232) : ∀ (m n : Nat) (x : Int), n + m = l1.length → ∀ k, m < k → ∃ b, fastiref04_Few.l1 k x n l0 l1 a s = some b := by
  intro m
  induction m with
  | zero =>
    intro n x hn k hk
    obtain ⟨k, rfl⟩ := Nat.exists_eq_succ_of_ne_zero (show k ≠ 0 by omega)
    simp only [fastiref04_Few.l1]
    rw [if_neg (by omega)]
    exact ⟨_, rfl⟩
  | succ m ih =>
    intro n x hn k hk
    obtain ⟨k, rfl⟩ := Nat.exists_eq_succ_of_ne_zero (show k ≠ 0 by omega)
    simp only [fastiref04_Few.l1]
    rw [if_pos (by omega)]
    split
    · rw [if_pos (by omega), wr_up n (by omega)]
      exact ih (n + 1) _ (by omega) k (by omega)
    · exact ⟨_, rfl⟩
theorem few_l0 (l0 : List (List Int)) (l1 : List SW) (a : Int) (s : Bool) (hl0 : l0.length ≤ 140737488351232) (hl : l1.length ≤ 140737488351232) : ∀ (m n : Nat) (x : Int), n + m = l0.length → ∀ k, m + l1.length + 2 < k → ∃ b, fastiref04_Few.l0 k x n l0 l1 a s = some b := by
  have hj : ∀ x k, l1.length + 1 < k → ∃ b, fastiref04_Few.j1 k x l0 l1 a s = some b := by
    intro x k hk
    obtain ⟨k, rfl⟩ := Nat.exists_eq_succ_of_ne_zero (show k ≠ 0 by omega)
    simp only [fastiref04_Few.j1]
    exact few_l1 l0 l1 a s hl l1.length 0 x (by omega) k (by omega)
  intro m
  induction m with
  | zero =>
    intro n x hn k hk
    obtain ⟨k, rfl⟩ := Nat.exists_eq_succ_of_ne_zero (show k ≠ 0 by omega)
    simp only [fastiref04_Few.l0]
    rw [if_neg (by omega)]
    exact hj x k (by omega)
  | succ m ih =>
    intro n x hn k hk
    obtain ⟨k, rfl⟩ := Nat.exists_eq_succ_of_ne_zero (show k ≠ 0 by omega)
    simp only [fastiref04_Few.l0]
    rw [if_pos (by omega)]
    split
    · rw [if_pos (by omega), wr_up n (by omega)]
      exact ih (n + 1) _ (by omega) k (by omega)
    · exact hj x k (by omega)
theorem few_ev (l0 : List (List Int)) (l1 : List SW) (a : Int) (s : Bool) (hl0 : l0.length ≤ 140737488351232) (hl : l1.length ≤ 140737488351232) : ∃ b, ∀ k, l0.length + l1.length + 3 ≤ k → fastiref04_Few.f k l0 l1 a s = some b := by
  obtain ⟨b, hb⟩ := few_l0 l0 l1 a s hl0 hl l0.length 0 0 (by omega) (l0.length + l1.length + 3) (by omega)
  exact ⟨b, up_ (f := fun k => fastiref04_Few.f k l0 l1 a s) (fun k => fastiref04_Few.mono l0 l1 a s k) hb⟩

theorem chk_l1 (l0 : List (List Int)) (l1 : List SW) (a : Int) (s : Bool) (n0 : Int) (hl : l1.length ≤ 140737488351232) : ∀ (m n : Nat), n + m = l1.length → ∀ k, m < k → fastiref04_Check.l1 k n0 n l0 l1 a s = some (if (l1.drop n).all (okP n0) = true then 0 else 40) := by
  intro m
  induction m with
  | zero =>
    intro n hn k hk
    obtain ⟨k, rfl⟩ := Nat.exists_eq_succ_of_ne_zero (show k ≠ 0 by omega)
    simp only [fastiref04_Check.l1]
    rw [if_neg (by omega), List.drop_of_length_le (by omega)]
    rfl
  | succ m ih =>
    intro n hn k hk
    obtain ⟨k, rfl⟩ := Nat.exists_eq_succ_of_ne_zero (show k ≠ 0 by omega)
    have hlt : n < l1.length := by omega
    have ih' := ih (n + 1) (by omega) k (by omega)
    simp only [fastiref04_Check.l1]
    rw [if_pos (by omega), if_pos (by omega), rdT_get l1 n hlt, wr_up n (by omega), ih', List.drop_eq_getElem_cons hlt, List.all_cons]
    generalize (List.drop (n + 1) l1).all (okP n0) = r
    by_cases c1 : l1[n].f0 < 0
    · rw [if_pos c1, show okP n0 l1[n] = false from by simp [okP, c1]]
      rfl
    · rw [if_neg c1]
      by_cases c2 : l1[n].f0 ≥ n0
      · rw [if_pos c2, show okP n0 l1[n] = false from by simp [okP, c2]]
        rfl
      · rw [if_neg c2]
        by_cases c3 : (l1[n].f1.length : Int) = 128
        · rw [if_pos c3, show okP n0 l1[n] = true from by simp only [okP, okS, c1, c3]; simp; omega, Bool.true_and]
        · rw [if_neg c3, show okP n0 l1[n] = false from by simp only [okP, okS, c3]; simp]
          rfl
theorem chk_l0 (l0 : List (List Int)) (l1 : List SW) (a : Int) (s : Bool) (hl0 : l0.length ≤ 140737488351232) (hl : l1.length ≤ 140737488351232) : ∀ (m n : Nat), n + m = l0.length → ∀ k, m + l1.length + 1 < k → fastiref04_Check.l0 k l0.length n l0 l1 a s = some (if l1.all (okP l0.length) = true then (if (l0.drop n).all okS = true then 0 else 40) else 40) := by
  intro m
  induction m with
  | zero =>
    intro n hn k hk
    obtain ⟨k, rfl⟩ := Nat.exists_eq_succ_of_ne_zero (show k ≠ 0 by omega)
    have := chk_l1 l0 l1 a s l0.length hl l1.length 0 (by omega) k (by omega)
    rw [List.drop_zero] at this
    simp only [fastiref04_Check.l0]
    rw [if_neg (by omega), List.drop_of_length_le (by omega)]
    exact this
  | succ m ih =>
    intro n hn k hk
    obtain ⟨k, rfl⟩ := Nat.exists_eq_succ_of_ne_zero (show k ≠ 0 by omega)
    have hlt : n < l0.length := by omega
    have ih' := ih (n + 1) (by omega) k (by omega)
    simp only [fastiref04_Check.l0]
    rw [if_pos (by omega), if_pos (by omega), if_pos (by omega), rdL_get l0 n hlt, wr_up n (by omega), ih', List.drop_eq_getElem_cons hlt, List.all_cons]
    generalize (List.drop (n + 1) l0).all okS = r
    by_cases c3 : (l0[n].length : Int) = 128
    · rw [if_pos c3, show okS l0[n] = true from by simp [okS, c3], Bool.true_and]
    · rw [if_neg c3, show okS l0[n] = false from by simp [okS, c3], Bool.false_and]
      simp
theorem chk_evn (l0 : List (List Int)) (l1 : List SW) (a : Int) (s : Bool) : ∀ k, l0.length + l1.length + 3 ≤ k → fastiref04_Check.f k l0 l1 a s = some (dchk l0 l1 a) := by
  intro k hk
  obtain ⟨k, rfl⟩ := Nat.exists_eq_succ_of_ne_zero (show k ≠ 0 by omega)
  unfold fastiref04_Check.f dchk
  have ht : ∀ x, fastiref04_Check.j0 (k + 1) x true l0 l1 a s = some 40 := fun x => by simp only [fastiref04_Check.j0, if_true]
  by_cases c1 : (l0.length : Int) < 1
  · rw [if_pos c1, if_pos (Or.inl c1), ht]
  · rw [if_neg c1]
    by_cases c2 : (l0.length : Int) > 4096
    · rw [if_pos c2, if_pos (by simp [c2]), ht]
    · rw [if_neg c2]
      by_cases c3 : (l1.length : Int) > 4096
      · rw [if_pos c3, if_pos (by simp [c3]), ht]
      · rw [if_neg c3]
        by_cases c4 : a < -1
        · rw [if_pos c4, if_pos (by simp [c4]), ht]
        · rw [if_neg c4]
          by_cases c5 : a > 65536
          · rw [decide_eq_true c5, if_pos (by simp [c5]), ht]
          · rw [decide_eq_false c5, if_neg (by omega)]
            simp only [fastiref04_Check.j0]
            rw [if_neg (by decide)]
            have hb := chk_l0 l0 l1 a s (by omega) (by omega) l0.length 0 (by omega) k (by omega)
            rw [List.drop_zero] at hb
            exact hb

theorem chk_ev (l0 : List (List Int)) (l1 : List SW) (a : Int) (s : Bool) (hl0 : l0.length ≤ 140737488351232) (hl : l1.length ≤ 140737488351232) : ∀ k, l0.length + l1.length + 3 ≤ k → fastiref04_Check.f k l0 l1 a s = some (dchk l0 l1 a) := chk_evn l0 l1 a s

theorem same_l1 (l0 : List (List Int)) (l1 : List SW) (a : Int) (s : Bool) (hl : l1.length ≤ 140737488351232) : ∀ (m n : Nat), n + m = l1.length → ∀ k, m < k → fastiref04_Same.l1 k n l0 l1 a s l0 l1 a s = some true := by
  intro m
  induction m with
  | zero =>
    intro n hn k hk
    obtain ⟨k, rfl⟩ := Nat.exists_eq_succ_of_ne_zero (show k ≠ 0 by omega)
    simp only [fastiref04_Same.l1]
    rw [if_neg (by omega)]
  | succ m ih =>
    intro n hn k hk
    obtain ⟨k, rfl⟩ := Nat.exists_eq_succ_of_ne_zero (show k ≠ 0 by omega)
    simp only [fastiref04_Same.l1]
    rw [if_pos (by omega), if_pos (by omega), if_pos (by omega), if_pos True.intro, if_pos True.intro, wr_up n (by omega)]
    exact ih (n + 1) (by omega) k (by omega)
theorem same_l0 (l0 : List (List Int)) (l1 : List SW) (a : Int) (s : Bool) (hl0 : l0.length ≤ 140737488351232) (hl : l1.length ≤ 140737488351232) : ∀ (m n : Nat), n + m = l0.length → ∀ k, m + l1.length + 1 < k → fastiref04_Same.l0 k n l0 l1 a s l0 l1 a s = some true := by
  intro m
  induction m with
  | zero =>
    intro n hn k hk
    obtain ⟨k, rfl⟩ := Nat.exists_eq_succ_of_ne_zero (show k ≠ 0 by omega)
    simp only [fastiref04_Same.l0]
    rw [if_neg (by omega)]
    exact same_l1 l0 l1 a s hl l1.length 0 (by omega) k (by omega)
  | succ m ih =>
    intro n hn k hk
    obtain ⟨k, rfl⟩ := Nat.exists_eq_succ_of_ne_zero (show k ≠ 0 by omega)
    simp only [fastiref04_Same.l0]
    rw [if_pos (by omega), if_pos (by omega), if_pos (by omega), if_pos True.intro, wr_up n (by omega)]
    exact ih (n + 1) (by omega) k (by omega)
theorem same_ev (l0 : List (List Int)) (l1 : List SW) (a : Int) (s : Bool) (hl0 : l0.length ≤ 140737488351232) (hl : l1.length ≤ 140737488351232) : ∀ k, l0.length + l1.length + 4 ≤ k → fastiref04_Same.f k l0 l1 a s l0 l1 a s = some true := by
  intro k hk
  obtain ⟨k, rfl⟩ := Nat.exists_eq_succ_of_ne_zero (show k ≠ 0 by omega)
  unfold fastiref04_Same.f
  rw [if_pos rfl, if_pos rfl, if_pos rfl, show (s != s) = false from by simp]
  simp only [fastiref04_Same.j0]
  rw [if_neg (by decide)]
  exact same_l0 l0 l1 a s hl0 hl l0.length 0 (by omega) k (by omega)

theorem runs_iff (l0 : List (List Int)) (l1 : List SW) (a : Int) (s : Bool) : runsV l0 l1 a s = true ↔ dchk l0 l1 a = 0 ∧ s = false := by
  unfold runsV
  cases s <;> simp
theorem dchk_len {l0 : List (List Int)} {l1 : List SW} {a : Int} (h : dchk l0 l1 a = 0) : l0.length ≤ 4096 ∧ l1.length ≤ 4096 := by
  unfold dchk at h
  split at h
  · exact absurd h (by decide)
  · omega
end Go.Proofs.Ytmeoapalnkibfaa.Q
