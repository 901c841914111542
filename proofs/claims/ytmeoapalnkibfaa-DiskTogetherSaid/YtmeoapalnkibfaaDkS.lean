/- The reference's disk in plain Lean: what Few and Same of the reference compute. -/
import Derived.Test.YtmeoapalnkibfaaDWx
import Derived.Test.YtmeoapalnkibfaaQ1
import Derived.Test.YtmeoapalnkibfaaQ2
namespace Go.Proofs.Ytmeoapalnkibfaa.Q
open Go.RowKit Go.Proofs.YtmeoapalnkibfaaW.PrintWords Go.Proofs.YtmeoapalnkibfaaW.PrintLast Go.Proofs.YtmeoapalnkibfaaW.PrintMore
set_option linter.unusedVariables false
set_option linter.unusedSimpArgs false

theorem wr_in {x : Int} (h : -9223372036854775808 ≤ x ∧ x ≤ 9223372036854775807) : wrap64 x = x := by
  unfold wrap64
  omega
theorem wr_up (n : Nat) (h : n ≤ 140737488351232) : wrap64 ((n : Int) + 1) = ((n + 1 : Nat) : Int) := by rw [wr_in (by omega)]; omega
theorem rdT_get (l : List SW) (n : Nat) (h : n < l.length) : rd_T54 l (n : Int) = l[n] := by simp [rd_T54, List.getD, h]
theorem rdL_get (l : List (List Int)) (n : Nat) (h : n < l.length) : rd_L1 l (n : Int) = l[n] := by simp [rd_L1, List.getD, h]
theorem up_ {α : Type} {f : Nat → Option α} (hm : ∀ k, LeO (f k) (f (k + 1))) {K : Nat} {r : α} (h : f K = some r) : ∀ k, K ≤ k → f k = some r := by
  intro k hk
  induction hk with
  | refl => exact h
  | step _ ih => exact hm _ _ ih

theorem few_l1 (l0 : List (List Int)) (l1 : List SW) (a : Int) (s : Bool) (hl : l1.length ≤ 140737488351232) : ∀ (m n : Nat) (x : Int), n + m = l1.length → ∀ k, m < k → ∃ b, fastiref04_Few.l1 k x n l0 l1 a s = some b := by
  intro m
  induction m with
  | zero =>
    intro n x hn k hk
    obtain ⟨k, rfl⟩ := Nat.exists_eq_succ_of_ne_zero (show k ≠ 0 by omega)
    simp only [fastiref04_Few.l1]
    rw [if_neg (by omega)]
    exact ⟨_, rfl⟩
  | succ m ih =>
    intro n x hn k hk
    obtain ⟨k, rfl⟩ := Nat.exists_eq_succ_of_ne_zero (show k ≠ 0 by omega)
    simp only [fastiref04_Few.l1]
    rw [if_pos (by omega)]
    split
    · rw [if_pos (by omega), wr_up n (by omega)]
      exact ih (n + 1) _ (by omega) k (by omega)
    · exact ⟨_, rfl⟩
theorem few_l0 (l0 : List (List Int)) (l1 : List SW) (a : Int) (s : Bool) (hl0 : l0.length ≤ 140737488351232) (hl : l1.length ≤ 140737488351232) : ∀ (m n : Nat) (x : Int), n + m = l0.length → ∀ k, m + l1.length + 2 < k → ∃ b, fastiref04_Few.l0 k x n l0 l1 a s = some b := by
  have hj : ∀ x k, l1.length + 1 < k → ∃ b, fastiref04_Few.j1 k x l0 l1 a s = some b := by
    intro x k hk
    obtain ⟨k, rfl⟩ := Nat.exists_eq_succ_of_ne_zero (show k ≠ 0 by omega)
    simp only [fastiref04_Few.j1]
    exact few_l1 l0 l1 a s hl l1.length 0 x (by omega) k (by omega)
  intro m
  induction m with
  | zero =>
    intro n x hn k hk
    obtain ⟨k, rfl⟩ := Nat.exists_eq_succ_of_ne_zero (show k ≠ 0 by omega)
    simp only [fastiref04_Few.l0]
    rw [if_neg (by omega)]
    exact hj x k (by omega)
  | succ m ih =>
    intro n x hn k hk
    obtain ⟨k, rfl⟩ := Nat.exists_eq_succ_of_ne_zero (show k ≠ 0 by omega)
    simp only [fastiref04_Few.l0]
    rw [if_pos (by omega)]
    split
    · rw [if_pos (by omega), wr_up n (by omega)]
      exact ih (n + 1) _ (by omega) k (by omega)
    · exact hj x k (by omega)
theorem few_ev (l0 : List (List Int)) (l1 : List SW) (a : Int) (s : Bool) (hl0 : l0.length ≤ 140737488351232) (hl : l1.length ≤ 140737488351232) : ∃ b, ∀ k, l0.length + l1.length + 3 ≤ k → fastiref04_Few.f k l0 l1 a s = some b := by
  obtain ⟨b, hb⟩ := few_l0 l0 l1 a s hl0 hl l0.length 0 0 (by omega) (l0.length + l1.length + 3) (by omega)
  exact ⟨b, up_ (f := fun k => fastiref04_Few.f k l0 l1 a s) (fun k => fastiref04_Few.mono l0 l1 a s k) hb⟩

theorem same_l1 (l0 : List (List Int)) (l1 : List SW) (a : Int) (s : Bool) (hl : l1.length ≤ 140737488351232) : ∀ (m n : Nat), n + m = l1.length → ∀ k, m < k → fastiref04_Same.l1 k n l0 l1 a s l0 l1 a s = some true := by
  intro m
  induction m with
  | zero =>
    intro n hn k hk
    obtain ⟨k, rfl⟩ := Nat.exists_eq_succ_of_ne_zero (show k ≠ 0 by omega)
    simp only [fastiref04_Same.l1]
    rw [if_neg (by omega)]
  | succ m ih =>
    intro n hn k hk
    obtain ⟨k, rfl⟩ := Nat.exists_eq_succ_of_ne_zero (show k ≠ 0 by omega)
    simp only [fastiref04_Same.l1]
    rw [if_pos (by omega), if_pos (by omega), if_pos (by omega), if_pos True.intro, if_pos True.intro, wr_up n (by omega)]
    exact ih (n + 1) (by omega) k (by omega)
theorem same_l0 (l0 : List (List Int)) (l1 : List SW) (a : Int) (s : Bool) (hl0 : l0.length ≤ 140737488351232) (hl : l1.length ≤ 140737488351232) : ∀ (m n : Nat), n + m = l0.length → ∀ k, m + l1.length + 1 < k → fastiref04_Same.l0 k n l0 l1 a s l0 l1 a s = some true := by
  intro m
  induction m with
  | zero =>
    intro n hn k hk
    obtain ⟨k, rfl⟩ := Nat.exists_eq_succ_of_ne_zero (show k ≠ 0 by omega)
    simp only [fastiref04_Same.l0]
    rw [if_neg (by omega)]
    exact same_l1 l0 l1 a s hl l1.length 0 (by omega) k (by omega)
  | succ m ih =>
    intro n hn k hk
    obtain ⟨k, rfl⟩ := Nat.exists_eq_succ_of_ne_zero (show k ≠ 0 by omega)
    simp only [fastiref04_Same.l0]
    rw [if_pos (by omega), if_pos (by omega), if_pos (by omega), if_pos True.intro, wr_up n (by omega)]
    exact ih (n + 1) (by omega) k (by omega)
theorem same_ev (l0 : List (List Int)) (l1 : List SW) (a : Int) (s : Bool) (hl0 : l0.length ≤ 140737488351232) (hl : l1.length ≤ 140737488351232) : ∀ k, l0.length + l1.length + 4 ≤ k → fastiref04_Same.f k l0 l1 a s l0 l1 a s = some true := by
  intro k hk
  obtain ⟨k, rfl⟩ := Nat.exists_eq_succ_of_ne_zero (show k ≠ 0 by omega)
  unfold fastiref04_Same.f
  rw [if_pos rfl, if_pos rfl, if_pos rfl, show (s != s) = false from by simp]
  simp only [fastiref04_Same.j0]
  rw [if_neg (by decide)]
  exact same_l0 l0 l1 a s hl0 hl l0.length 0 (by omega) k (by omega)
end Go.Proofs.Ytmeoapalnkibfaa.Q
