/- Plain laws of assign.Check, assign.width. -/
import Derived.Test.YtgiinjfandeddaaQ1
namespace Go.Proofs.Ytgiinjfandeddaa.Q
open Go.RowKit Go.Proofs.YtgiinjfandeddaaW.PrintWords Go.Proofs.YtgiinjfandeddaaW.PrintLast Go.Proofs.YtgiinjfandeddaaW.PrintMore
set_option linter.unusedVariables false
set_option linter.unusedSimpArgs false

def widthV (C : List (List Int)) : Nat := if C.length = 0 then 0 else (rd_L1 C 0).length
theorem width_eq (C : List (List Int)) : assign_width.f C = some (widthV C : Int) := by
  unfold assign_width.f widthV
  by_cases h : C.length = 0
  · rw [if_pos (by omega), if_pos h]; rfl
  · rw [if_neg (by omega), if_pos (by omega), if_neg h]
/-- Is the row i right? -/
def rowOk (C : List (List Int)) (i : Nat) : Bool := decide ((rd_L1 C i).length = widthV C) && (rd_L1 C i).all okCost
def chkV (C : List (List Int)) : Int := if 16 < C.length ∨ C.all okRow = false then 2 else if (List.range C.length).all (rowOk C) = true then 0 else 140

theorem rd_mem {C : List (List Int)} {i : Nat} (h : i < C.length) : rd_L1 C (i : Int) ∈ C := by
  unfold rd_L1
  rw [Int.toNat_natCast, List.getD_eq_getElem?_getD, List.getElem?_eq_getElem h, Option.getD_some]
  exact List.getElem_mem _

theorem check_loop (C : List (List Int)) (hm : C.length ≤ 16) (hr : C.all okRow = true) : ∀ (m i : Nat), i + m = C.length → ∀ k, m < k →
    assign_Check.l0 k C C (C.length : Int) (i : Int) = some (if (List.range' i m).all (rowOk C) then 0 else 140)
  | m, i, h, 0, hk => by omega
  | 0, i, h, k + 1, _ => by
    unfold assign_Check.l0
    rw [if_neg (by omega)]
    simp
  | m + 1, i, h, k + 1, hk => by
    unfold assign_Check.l0
    rw [if_pos (by omega), if_pos (by omega), if_pos (by omega), width_eq, Option.bind_some]
    have hlen : (rd_L1 C (i : Int)).length ≤ 16 := by
      have := List.all_eq_true.1 hr _ (rd_mem (i := i) (by omega))
      unfold okRow at this
      have := of_decide_eq_true this
      omega
    rw [List.range'_succ, List.all_cons]
    by_cases h1 : (rd_L1 C (i : Int)).length = widthV C
    · rw [if_pos (by omega)]
      unfold slices_ContainsFunc_int_int_38.f
      rw [if_pos (by omega), Option.bind_some]
      have hro : rowOk C i = (rd_L1 C (i : Int)).all okCost := by unfold rowOk; rw [decide_eq_true h1, Bool.true_and]
      cases h2 : (rd_L1 C (i : Int)).all okCost with
      | false => rw [hro, h2]; simp
      | true =>
        rw [hro, h2, Bool.not_true, if_neg (by decide), Bool.true_and, show wrap64 ((i : Int) + 1) = ((i + 1 : Nat) : Int) by unfold wrap64; omega]
        exact check_loop C hm hr m (i + 1) (by omega) k (by omega)
    · rw [if_neg (by omega)]
      have hro : rowOk C i = false := by unfold rowOk; rw [decide_eq_false h1, Bool.false_and]
      rw [hro, Bool.false_and]
      rfl

theorem check_eq (C : List (List Int)) (k : Nat) (hk : 20 ≤ k) : assign_Check.f k C = some (chkV C) := by
  unfold assign_Check.f chkV
  obtain ⟨k, rfl⟩ : ∃ m, k = m + 1 := ⟨k - 1, by omega⟩
  by_cases h : 16 < C.length
  · rw [if_pos (by omega), if_pos (.inl h)]
    simp [assign_Check.j0]
  · rw [if_neg (by omega)]
    unfold slices_ContainsFunc_int_int_35.f
    rw [if_pos (by omega), Option.bind_some]
    cases hr : C.all okRow with
    | false => rw [if_pos (.inr rfl)]; simp [assign_Check.j0]
    | true =>
      rw [if_neg (show ¬ (16 < C.length ∨ true = false) by simp; omega)]
      rw [assign_Check.j0, if_neg (show ¬ (!true) = true by decide)]
      have := check_loop C (by omega) hr C.length 0 (by omega) k (by omega)
      rw [show ((0 : Nat) : Int) = 0 from rfl] at this
      rw [this, List.range_eq_range']

/-- Right costs. -/
structure Good (C : List (List Int)) : Prop where
  rows : C.length ≤ 16
  cols : widthV C ≤ 16
  len : ∀ i : Int, 0 ≤ i → i < (C.length : Int) → (rd_L1 C i).length = widthV C
  low : ∀ i j : Int, 0 ≤ i → i < (C.length : Int) → 0 ≤ j → j < (widthV C : Int) → -1 ≤ rd (rd_L1 C i) j ∧ rd (rd_L1 C i) j ≤ 1073741824

theorem good_of (C : List (List Int)) (h : chkV C = 0) : Good C := by
  unfold chkV at h
  split at h
  · exact absurd h (by decide)
  · rename_i h1
    rw [not_or] at h1
    split at h
    · rename_i h2
      have hr : C.all okRow = true := by simpa using h1.2
      have hrow : ∀ i : Int, 0 ≤ i → i < (C.length : Int) → rowOk C i.toNat = true := fun i h0 hi => List.all_eq_true.1 h2 _ (List.mem_range.2 (by omega))
      have hlen : ∀ i : Int, 0 ≤ i → i < (C.length : Int) → (rd_L1 C i).length = widthV C := fun i h0 hi => by
        have := hrow i h0 hi
        unfold rowOk at this
        rw [Int.toNat_of_nonneg h0] at this
        simp only [Bool.and_eq_true, decide_eq_true_eq] at this
        exact this.1
      refine ⟨by omega, ?_, hlen, fun i j h0 hi h3 hj => ?_⟩
      · unfold widthV
        split
        · omega
        · have := List.all_eq_true.1 hr _ (rd_mem (C := C) (i := 0) (by omega))
          unfold okRow at this
          have h9 : ((rd_L1 C ((0 : Nat) : Int)).length : Int) ≤ 16 := of_decide_eq_true this
          rw [show ((0 : Nat) : Int) = 0 from rfl] at h9
          omega
      · have := hrow i h0 hi
        unfold rowOk at this
        rw [Int.toNat_of_nonneg h0] at this
        simp only [Bool.and_eq_true] at this
        have hl := hlen i h0 hi
        have hmem : rd (rd_L1 C i) j ∈ rd_L1 C i := by
          simp only [rd, rdOf]
          rw [List.getD_eq_getElem?_getD, List.getElem?_eq_getElem (by omega), Option.getD_some]
          exact List.getElem_mem _
        have := List.all_eq_true.1 this.2 _ hmem
        unfold okCost at this
        simp at this
        omega
    · exact absurd h (by decide)
theorem good_iff (C : List (List Int)) (h : Good C) : chkV C = 0 := by
  unfold chkV
  rw [if_neg, if_pos]
  · rw [List.all_eq_true]
    intro i hi
    have hi := List.mem_range.1 hi
    unfold rowOk
    rw [Bool.and_eq_true]
    refine ⟨decide_eq_true (h.len i (by omega) (by omega)), List.all_eq_true.2 fun x hx => ?_⟩
    obtain ⟨j, hj, rfl⟩ := List.getElem_of_mem hx
    have hl := h.len i (by omega) (by omega)
    have := h.low i j (by omega) (by omega) (by omega) (by omega)
    rw [show rd (rd_L1 C (i : Int)) (j : Int) = (rd_L1 C (i : Int))[j] by simp [rd, rdOf, List.getD_eq_getElem?_getD, List.getElem?_eq_getElem hj]] at this
    unfold okCost
    simp
    omega
  · rw [not_or]
    refine ⟨by have := h.rows; omega, ?_⟩
    rw [Bool.not_eq_false, List.all_eq_true]
    intro x hx
    obtain ⟨i, hi, rfl⟩ := List.getElem_of_mem hx
    have hl := h.len i (by omega) (by omega)
    rw [show rd_L1 C (i : Int) = C[i] by simp [rd_L1, List.getD_eq_getElem?_getD, List.getElem?_eq_getElem hi]] at hl
    unfold okRow
    rw [hl]
    exact decide_eq_true (by have := h.cols; omega)
end Go.Proofs.Ytgiinjfandeddaa.Q
