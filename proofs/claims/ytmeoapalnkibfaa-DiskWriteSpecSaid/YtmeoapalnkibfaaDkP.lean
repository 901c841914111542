/- The reference's disk in plain Lean: what Few, Check, New, Same, Write and Read of the reference compute. -/
import Derived.Test.YtmeoapalnkibfaaDWx
import Derived.Test.YtmeoapalnkibfaaQ1
import Derived.Test.YtmeoapalnkibfaaQ2
import Derived.Test.YtmeoapalnkibfaaQ3
import Derived.Test.YtmeoapalnkibfaaQ5
import Derived.Test.YtmeoapalnkibfaaQ6
namespace Go.Proofs.Ytmeoapalnkibfaa.Q
open Go.RowKit Go.Proofs.YtmeoapalnkibfaaW.PrintWords Go.Proofs.YtmeoapalnkibfaaW.PrintLast Go.Proofs.YtmeoapalnkibfaaW.PrintMore
set_option linter.unusedVariables false
set_option linter.unusedSimpArgs false

theorem wr_in {x : Int} (h : -9223372036854775808 ≤ x ∧ x ≤ 9223372036854775807) : wrap64 x = x := by
  unfold wrap64
  omega
theorem wr_up (n : Nat) (h : n ≤ 140737488351232) : wrap64 ((n : Int) + 1) = ((n + 1 : Nat) : Int) := by rw [wr_in (by omega)]; omega
theorem rdT_get (l : List SW) (n : Nat) (h : n < l.length) : rd_T54 l (n : Int) = l[n] := by simp [rd_T54, List.getD, h]
theorem rdL_get (l : List (List Int)) (n : Nat) (h : n < l.length) : rd_L1 l (n : Int) = l[n] := by simp [rd_L1, List.getD, h]
theorem up_ {α : Type} {f : Nat → Option α} (hm : ∀ k, LeO (f k) (f (k + 1))) {K : Nat} {r : α} (h : f K = some r) : ∀ k, K ≤ k → f k = some r := by
  intro k hk
  induction hk with
  | refl => exact h
  | step _ ih => exact hm _ _ ih

theorem few_l1 (l0 : List (List Int)) (l1 : List SW) (a : Int) (s : Bool) (hl : l1.length ≤ 140737488351232) : ∀ (m n : Nat) (x : Int), n + m = l1.length → ∀ k, m < k → ∃ b, fastiref04_Few.l1 k x n l0 l1 a s = some b := by
  intro m
  induction m with
  | zero =>
    intro n x hn k hk
    obtain ⟨k, rfl⟩ := Nat.exists_eq_succ_of_ne_zero (show k ≠ 0 by omega)
    simp only [fastiref04_Few.l1]
    rw [if_neg (by omega)]
    exact ⟨_, rfl⟩
  | succ m ih =>
    intro n x hn k hk
    obtain ⟨k, rfl⟩ := Nat.exists_eq_succ_of_ne_zero (show k ≠ 0 by omega)
    simp only [fastiref04_Few.l1]
    rw [if_pos (by omega)]
    split
    · rw [if_pos (by omega), wr_up n (by omega)]
      exact ih (n + 1) _ (by omega) k (by omega)
    · exact ⟨_, rfl⟩
theorem few_l0 (l0 : List (List Int)) (l1 : List SW) (a : Int) (s : Bool) (hl0 : l0.length ≤ 140737488351232) (hl : l1.length ≤ 140737488351232) : ∀ (m n : Nat) (x : Int), n + m = l0.length → ∀ k, m + l1.length + 2 < k → ∃ b, fastiref04_Few.l0 k x n l0 l1 a s = some b := by
  have hj : ∀ x k, l1.length + 1 < k → ∃ b, fastiref04_Few.j1 k x l0 l1 a s = some b := by
    intro x k hk
    obtain ⟨k, rfl⟩ := Nat.exists_eq_succ_of_ne_zero (show k ≠ 0 by omega)
    simp only [fastiref04_Few.j1]
    exact few_l1 l0 l1 a s hl l1.length 0 x (by omega) k (by omega)
  intro m
  induction m with
  | zero =>
    intro n x hn k hk
    obtain ⟨k, rfl⟩ := Nat.exists_eq_succ_of_ne_zero (show k ≠ 0 by omega)
    simp only [fastiref04_Few.l0]
    rw [if_neg (by omega)]
    exact hj x k (by omega)
  | succ m ih =>
    intro n x hn k hk
    obtain ⟨k, rfl⟩ := Nat.exists_eq_succ_of_ne_zero (show k ≠ 0 by omega)
    simp only [fastiref04_Few.l0]
    rw [if_pos (by omega)]
    split
    · rw [if_pos (by omega), wr_up n (by omega)]
      exact ih (n + 1) _ (by omega) k (by omega)
    · exact hj x k (by omega)
theorem few_ev (l0 : List (List Int)) (l1 : List SW) (a : Int) (s : Bool) (hl0 : l0.length ≤ 140737488351232) (hl : l1.length ≤ 140737488351232) : ∃ b, ∀ k, l0.length + l1.length + 3 ≤ k → fastiref04_Few.f k l0 l1 a s = some b := by
  obtain ⟨b, hb⟩ := few_l0 l0 l1 a s hl0 hl l0.length 0 0 (by omega) (l0.length + l1.length + 3) (by omega)
  exact ⟨b, up_ (f := fun k => fastiref04_Few.f k l0 l1 a s) (fun k => fastiref04_Few.mono l0 l1 a s k) hb⟩

theorem chk_l1 (l0 : List (List Int)) (l1 : List SW) (a : Int) (s : Bool) (n0 : Int) (hl : l1.length ≤ 140737488351232) : ∀ (m n : Nat), n + m = l1.length → ∀ k, m < k → fastiref04_Check.l1 k n0 n l0 l1 a s = some (if (l1.drop n).all (okP n0) = true then 0 else 40) := by
  intro m
  induction m with
  | zero =>
    intro n hn k hk
    obtain ⟨k, rfl⟩ := Nat.exists_eq_succ_of_ne_zero (show k ≠ 0 by omega)
    simp only [fastiref04_Check.l1]
    rw [if_neg (by omega), List.drop_of_length_le (by omega)]
    rfl
  | succ m ih =>
    intro n hn k hk
    obtain ⟨k, rfl⟩ := Nat.exists_eq_succ_of_ne_zero (show k ≠ 0 by omega)
    have hlt : n < l1.length := by omega
    have ih' := ih (n + 1) (by omega) k (by omega)
    simp only [fastiref04_Check.l1]
    rw [if_pos (by omega), if_pos (by omega), rdT_get l1 n hlt, wr_up n (by omega), ih', List.drop_eq_getElem_cons hlt, List.all_cons]
    generalize (List.drop (n + 1) l1).all (okP n0) = r
    by_cases c1 : l1[n].f0 < 0
    · rw [if_pos c1, show okP n0 l1[n] = false from by simp [okP, c1]]
      rfl
    · rw [if_neg c1]
      by_cases c2 : l1[n].f0 ≥ n0
      · rw [if_pos c2, show okP n0 l1[n] = false from by simp [okP, c2]]
        rfl
      · rw [if_neg c2]
        by_cases c3 : (l1[n].f1.length : Int) = 128
        · rw [if_pos c3, show okP n0 l1[n] = true from by simp only [okP, okS, c1, c3]; simp; omega, Bool.true_and]
        · rw [if_neg c3, show okP n0 l1[n] = false from by simp only [okP, okS, c3]; simp]
          rfl
theorem chk_l0 (l0 : List (List Int)) (l1 : List SW) (a : Int) (s : Bool) (hl0 : l0.length ≤ 140737488351232) (hl : l1.length ≤ 140737488351232) : ∀ (m n : Nat), n + m = l0.length → ∀ k, m + l1.length + 1 < k → fastiref04_Check.l0 k l0.length n l0 l1 a s = some (if l1.all (okP l0.length) = true then (if (l0.drop n).all okS = true then 0 else 40) else 40) := by
  intro m
  induction m with
  | zero =>
    intro n hn k hk
    obtain ⟨k, rfl⟩ := Nat.exists_eq_succ_of_ne_zero (show k ≠ 0 by omega)
    have := chk_l1 l0 l1 a s l0.length hl l1.length 0 (by omega) k (by omega)
    rw [List.drop_zero] at this
    simp only [fastiref04_Check.l0]
    rw [if_neg (by omega), List.drop_of_length_le (by omega)]
    exact this
  | succ m ih =>
    intro n hn k hk
    obtain ⟨k, rfl⟩ := Nat.exists_eq_succ_of_ne_zero (show k ≠ 0 by omega)
    have hlt : n < l0.length := by omega
    have ih' := ih (n + 1) (by omega) k (by omega)
    simp only [fastiref04_Check.l0]
    rw [if_pos (by omega), if_pos (by omega), if_pos (by omega), rdL_get l0 n hlt, wr_up n (by omega), ih', List.drop_eq_getElem_cons hlt, List.all_cons]
    generalize (List.drop (n + 1) l0).all okS = r
    by_cases c3 : (l0[n].length : Int) = 128
    · rw [if_pos c3, show okS l0[n] = true from by simp [okS, c3], Bool.true_and]
    · rw [if_neg c3, show okS l0[n] = false from by simp [okS, c3], Bool.false_and]
      simp
theorem chk_ev (l0 : List (List Int)) (l1 : List SW) (a : Int) (s : Bool) (hl0 : l0.length ≤ 140737488351232) (hl : l1.length ≤ 140737488351232) : ∀ k, l0.length + l1.length + 3 ≤ k → fastiref04_Check.f k l0 l1 a s = some (dchk l0 l1 a) := by
  intro k hk
  obtain ⟨k, rfl⟩ := Nat.exists_eq_succ_of_ne_zero (show k ≠ 0 by omega)
  have hb := chk_l0 l0 l1 a s hl0 hl l0.length 0 (by omega) k (by omega)
  rw [List.drop_zero] at hb
  unfold fastiref04_Check.f dchk
  have ht : ∀ x, fastiref04_Check.j0 (k + 1) x true l0 l1 a s = some 40 := fun x => by simp only [fastiref04_Check.j0, if_true]
  by_cases c1 : (l0.length : Int) < 1
  · rw [if_pos c1, if_pos (Or.inl c1), ht]
  · rw [if_neg c1]
    by_cases c2 : (l0.length : Int) > 4096
    · rw [if_pos c2, if_pos (by simp [c2]), ht]
    · rw [if_neg c2]
      by_cases c3 : (l1.length : Int) > 4096
      · rw [if_pos c3, if_pos (by simp [c3]), ht]
      · rw [if_neg c3]
        by_cases c4 : a < -1
        · rw [if_pos c4, if_pos (by simp [c4]), ht]
        · rw [if_neg c4]
          by_cases c5 : a > 65536
          · rw [decide_eq_true c5, if_pos (by simp [c5]), ht]
          · rw [decide_eq_false c5, if_neg (by omega)]
            simp only [fastiref04_Check.j0]
            rw [if_neg (by decide)]
            exact hb

theorem new_l0 (N : Nat) (hN : N ≤ 4096) : ∀ (m n : Nat) (acc : List (List Int)), n + m = N → acc.length = n → ∀ k, m < k → fastiref04_New.l0 k N n acc (-1) false = some (acc ++ List.replicate m (List.replicate 128 0), [], -1, false, 0) := by
  intro m
  induction m with
  | zero =>
    intro n acc hn ha k hk
    obtain ⟨k, rfl⟩ := Nat.exists_eq_succ_of_ne_zero (show k ≠ 0 by omega)
    simp only [fastiref04_New.l0]
    rw [if_neg (by omega), List.replicate_zero, List.append_nil]
  | succ m ih =>
    intro n acc hn ha k hk
    obtain ⟨k, rfl⟩ := Nat.exists_eq_succ_of_ne_zero (show k ≠ 0 by omega)
    simp only [fastiref04_New.l0]
    rw [if_pos (by omega), if_pos (by omega), wr_up n (by omega), ih (n + 1) _ (by omega) (by rw [List.length_append]; simp [ha]) k (by omega), List.replicate_succ, List.append_assoc]
    rfl
theorem new_ev (a : Int) : ∀ k, 4098 ≤ k → fastiref04_New.f k a = some (newV a) := by
  intro k hk
  obtain ⟨k, rfl⟩ := Nat.exists_eq_succ_of_ne_zero (show k ≠ 0 by omega)
  unfold fastiref04_New.f newV
  have ht : ∀ x, fastiref04_New.j0 (k + 1) x true = some ([], [], 0, false, 1) := fun x => by simp only [fastiref04_New.j0, if_true]
  by_cases c1 : a < 1
  · rw [if_pos c1, if_pos (Or.inl c1), ht]
  · rw [if_neg c1]
    by_cases c2 : a > 4096
    · rw [decide_eq_true c2, if_pos (by simp [c2]), ht]
    · rw [decide_eq_false c2, if_neg (by omega)]
      simp only [fastiref04_New.j0]
      rw [if_neg (by decide)]
      obtain ⟨N, rfl⟩ := Int.eq_ofNat_of_zero_le (show 0 ≤ a by omega)
      have := new_l0 N (by omega) N 0 [] (by omega) rfl k (by omega)
      rw [List.nil_append] at this
      exact this
theorem newV_len (a : Int) : (newV a).1.length ≤ 4096 ∧ (newV a).2.1.length ≤ 4096 := by
  unfold newV
  split
  · simp
  · simp
    omega

theorem same_l1 (l0 : List (List Int)) (l1 : List SW) (a : Int) (s : Bool) (hl : l1.length ≤ 140737488351232) : ∀ (m n : Nat), n + m = l1.length → ∀ k, m < k → fastiref04_Same.l1 k n l0 l1 a s l0 l1 a s = some true := by
  intro m
  induction m with
  | zero =>
    intro n hn k hk
    obtain ⟨k, rfl⟩ := Nat.exists_eq_succ_of_ne_zero (show k ≠ 0 by omega)
    simp only [fastiref04_Same.l1]
    rw [if_neg (by omega)]
  | succ m ih =>
    intro n hn k hk
    obtain ⟨k, rfl⟩ := Nat.exists_eq_succ_of_ne_zero (show k ≠ 0 by omega)
    simp only [fastiref04_Same.l1]
    rw [if_pos (by omega), if_pos (by omega), if_pos (by omega), if_pos True.intro, if_pos True.intro, wr_up n (by omega)]
    exact ih (n + 1) (by omega) k (by omega)
theorem same_l0 (l0 : List (List Int)) (l1 : List SW) (a : Int) (s : Bool) (hl0 : l0.length ≤ 140737488351232) (hl : l1.length ≤ 140737488351232) : ∀ (m n : Nat), n + m = l0.length → ∀ k, m + l1.length + 1 < k → fastiref04_Same.l0 k n l0 l1 a s l0 l1 a s = some true := by
  intro m
  induction m with
  | zero =>
    intro n hn k hk
    obtain ⟨k, rfl⟩ := Nat.exists_eq_succ_of_ne_zero (show k ≠ 0 by omega)
    simp only [fastiref04_Same.l0]
    rw [if_neg (by omega)]
    exact same_l1 l0 l1 a s hl l1.length 0 (by omega) k (by omega)
  | succ m ih =>
    intro n hn k hk
    obtain ⟨k, rfl⟩ := Nat.exists_eq_succ_of_ne_zero (show k ≠ 0 by omega)
    simp only [fastiref04_Same.l0]
    rw [if_pos (by omega), if_pos (by omega), if_pos (by omega), if_pos True.intro, wr_up n (by omega)]
    exact ih (n + 1) (by omega) k (by omega)
theorem same_ev (l0 : List (List Int)) (l1 : List SW) (a : Int) (s : Bool) (hl0 : l0.length ≤ 140737488351232) (hl : l1.length ≤ 140737488351232) : ∀ k, l0.length + l1.length + 4 ≤ k → fastiref04_Same.f k l0 l1 a s l0 l1 a s = some true := by
  intro k hk
  obtain ⟨k, rfl⟩ := Nat.exists_eq_succ_of_ne_zero (show k ≠ 0 by omega)
  unfold fastiref04_Same.f
  rw [if_pos rfl, if_pos rfl, if_pos rfl, show (s != s) = false from by simp]
  simp only [fastiref04_Same.j0]
  rw [if_neg (by decide)]
  exact same_l0 l0 l1 a s hl0 hl l0.length 0 (by omega) k (by omega)

/-! ### Write and Read -/
theorem write_l0 (l0 : List (List Int)) (l1 : List SW) (a i : Int) (s : Bool) (hl : l1.length ≤ 4096) : ∀ (m : Nat) (x : List Int), m = 128 - x.length → ∀ k, m < k → x.length ≤ 140737488351232 → fastiref04_Write.l0 k i x l0 l1 a s = some (l0, l1 ++ [⟨i, x ++ List.replicate m 0⟩], a, s, 0) := by
  intro m
  induction m with
  | zero =>
    intro x hx k hk hxl
    obtain ⟨k, rfl⟩ := Nat.exists_eq_succ_of_ne_zero (show k ≠ 0 by omega)
    unfold fastiref04_Write.l0
    rw [if_neg (by omega)]
    simp only [Option.bind_some, List.nil_append, List.length_nil, Nat.zero_add]
    rw [if_pos (by omega), if_pos (by omega), List.replicate_zero, List.append_nil]
  | succ m ih =>
    intro x hx k hk hxl
    obtain ⟨k, rfl⟩ := Nat.exists_eq_succ_of_ne_zero (show k ≠ 0 by omega)
    unfold fastiref04_Write.l0
    rw [if_pos (by omega), if_pos (by omega), ih (x ++ [0]) (by rw [List.length_append]; simp; omega) k (by omega) (by rw [List.length_append]; simp; omega), List.append_assoc, List.replicate_succ]
    rfl
theorem runs_iff (l0 : List (List Int)) (l1 : List SW) (a : Int) (s : Bool) : runsV l0 l1 a s = true ↔ dchk l0 l1 a = 0 ∧ s = false := by
  unfold runsV
  cases s <;> simp
theorem dchk_len {l0 : List (List Int)} {l1 : List SW} {a : Int} (h : dchk l0 l1 a = 0) : l0.length ≤ 4096 ∧ l1.length ≤ 4096 := by
  unfold dchk at h
  split at h
  · exact absurd h (by decide)
  · omega
theorem write_ev (l0 : List (List Int)) (l1 : List SW) (a : Int) (s : Bool) (i : Int) (b : List Int) (hl0 : l0.length ≤ 140737488351232) (hl : l1.length ≤ 140737488351232) (hb : b.length ≤ 140737488351232) : ∀ k, l0.length + l1.length + 200 ≤ k → fastiref04_Write.f k l0 l1 a s i b = some (writeV l0 l1 a s i b) := by
  intro k hk
  obtain ⟨k, rfl⟩ := Nat.exists_eq_succ_of_ne_zero (show k ≠ 0 by omega)
  unfold fastiref04_Write.f writeV
  rw [chk_ev l0 l1 a s hl0 hl (k + 1) (by omega), Option.bind_some]
  have ht : fastiref04_Write.j0 (k + 1) i b true l0 l1 a s = some ([], [], 0, false, 40) := by simp only [fastiref04_Write.j0, if_true]
  by_cases c1 : dchk l0 l1 a = 0
  · rw [if_pos c1]
    by_cases c2 : s = true
    · rw [if_pos c2, if_neg (by rintro ⟨h, _⟩; rw [runs_iff] at h; rw [h.2] at c2; cases c2), ht]
    · rw [if_neg c2]
      have hs : s = false := by simpa using c2
      have hr : runsV l0 l1 a s = true := (runs_iff l0 l1 a s).2 ⟨c1, hs⟩
      by_cases c3 : i < 0
      · rw [if_pos c3, if_neg (by omega), ht]
      · rw [if_neg c3]
        by_cases c4 : i ≥ (l0.length : Int)
        · rw [decide_eq_true c4, if_neg (by omega), ht]
        · rw [decide_eq_false c4, if_pos ⟨hr, by omega, by omega⟩]
          have hlen := dchk_len c1
          simp only [fastiref04_Write.j0]
          rw [if_neg (by decide)]
          by_cases c5 : (b.length : Int) > 128
          · rw [if_pos c5, if_pos c5]
          · rw [if_neg c5, if_neg c5]
            by_cases c6 : (l1.length : Int) = 4096
            · rw [if_pos c6, if_pos (by omega)]
            · rw [if_neg c6, if_neg (by omega)]
              simp only [Option.bind_some, List.nil_append, List.length_nil, Nat.zero_add]
              rw [if_pos (by omega), write_l0 l0 l1 a i s hlen.2 (128 - b.length) b rfl k (by omega) hb]
              rfl
  · rw [if_neg c1, if_neg (by rintro ⟨h, _⟩; rw [runs_iff] at h; exact c1 h.1), ht]

theorem read_l0 (l0 : List (List Int)) (l1 : List SW) (a i : Int) (s : Bool) (hl : l1.length ≤ 140737488351232) : ∀ (m n : Nat) (x : List Int), n + m = l1.length → ∀ k, m < k → fastiref04_Read.l0 k i x n l0 l1 a s = some ((match (l1.drop n).reverse.find? (fun x => decide (x.f0 = i)) with | some y => y.f1 | none => x), 0) := by
  intro m
  induction m with
  | zero =>
    intro n x hn k hk
    obtain ⟨k, rfl⟩ := Nat.exists_eq_succ_of_ne_zero (show k ≠ 0 by omega)
    simp only [fastiref04_Read.l0]
    rw [if_neg (by omega), List.drop_of_length_le (by omega)]
    rfl
  | succ m ih =>
    intro n x hn k hk
    obtain ⟨k, rfl⟩ := Nat.exists_eq_succ_of_ne_zero (show k ≠ 0 by omega)
    have hlt : n < l1.length := by omega
    simp only [fastiref04_Read.l0]
    rw [if_pos (by omega), if_pos (by omega), rdT_get l1 n hlt, wr_up n (by omega), ih (n + 1) _ (by omega) k (by omega), ih (n + 1) _ (by omega) k (by omega), List.drop_eq_getElem_cons hlt, List.reverse_cons, List.find?_append]
    cases hf : (List.drop (n + 1) l1).reverse.find? (fun x => decide (x.f0 = i)) with
    | some y => simp
    | none =>
      by_cases c : l1[n].f0 = i
      · rw [if_pos c]
        simp [c]
      · rw [if_neg c]
        simp [c]
theorem read_ev (l0 : List (List Int)) (l1 : List SW) (a : Int) (s : Bool) (i : Int) (hl0 : l0.length ≤ 140737488351232) (hl : l1.length ≤ 140737488351232) : ∀ k, l0.length + l1.length + 4 ≤ k → fastiref04_Read.f k l0 l1 a s i = some (readV l0 l1 a s i) := by
  intro k hk
  obtain ⟨k, rfl⟩ := Nat.exists_eq_succ_of_ne_zero (show k ≠ 0 by omega)
  unfold fastiref04_Read.f readV
  rw [chk_ev l0 l1 a s hl0 hl (k + 1) (by omega), Option.bind_some]
  have ht : fastiref04_Read.j0 (k + 1) i true l0 l1 a s = some ([], 40) := by simp only [fastiref04_Read.j0, if_true]
  by_cases c1 : dchk l0 l1 a = 0
  · rw [if_pos c1]
    by_cases c2 : s = true
    · rw [if_pos c2, if_neg (by rintro ⟨h, _⟩; rw [runs_iff] at h; rw [h.2] at c2; cases c2), ht]
    · rw [if_neg c2]
      have hs : s = false := by simpa using c2
      have hr : runsV l0 l1 a s = true := (runs_iff l0 l1 a s).2 ⟨c1, hs⟩
      by_cases c3 : i < 0
      · rw [if_pos c3, if_neg (by omega), ht]
      · rw [if_neg c3]
        by_cases c4 : i ≥ (l0.length : Int)
        · rw [decide_eq_true c4, if_neg (by omega), ht]
        · rw [decide_eq_false c4, if_pos ⟨hr, by omega, by omega⟩]
          simp only [fastiref04_Read.j0]
          rw [if_neg (by decide), if_pos (by omega), if_pos (by omega)]
          have := read_l0 l0 l1 a i s hl l1.length 0 (rd_L1 l0 i) (by omega) k (by omega)
          rw [List.drop_zero] at this
          exact this
  · rw [if_neg c1, if_neg (by rintro ⟨h, _⟩; rw [runs_iff] at h; exact c1 h.1), ht]
theorem writeV_len (l0 : List (List Int)) (l1 : List SW) (a : Int) (s : Bool) (i : Int) (b : List Int) : (writeV l0 l1 a s i b).1.length ≤ l0.length ∧ (writeV l0 l1 a s i b).2.1.length ≤ l1.length + 1 := by
  unfold writeV
  split
  · split
    · simp
    · split
      · simp
      · simp
  · simp
end Go.Proofs.Ytmeoapalnkibfaa.Q
