/- Plain facts on disks: what a write and a sync do to what is read. -/
import Derived.Test.YtmeoapalnkibfaaDWx
namespace Go.Proofs.Ytmeoapalnkibfaa.Q
open Go.RowKit Go.Proofs.YtmeoapalnkibfaaW.PrintWords Go.Proofs.YtmeoapalnkibfaaW.PrintLast Go.Proofs.YtmeoapalnkibfaaW.PrintMore
set_option linter.unusedVariables false
set_option linter.unusedSimpArgs false

theorem runs_two (l0 : List (List Int)) (l1 : List SW) (a : Int) (s : Bool) : runsV l0 l1 a s = true ↔ dchk l0 l1 a = 0 ∧ s = false := by
  unfold runsV
  cases s <;> simp
theorem dchk_iff (l0 : List (List Int)) (l1 : List SW) (a : Int) : dchk l0 l1 a = 0 ↔ (1 ≤ l0.length ∧ l0.length ≤ 4096 ∧ l1.length ≤ 4096 ∧ -1 ≤ a ∧ a ≤ 65536) ∧ (∀ x ∈ l1, okP l0.length x = true) ∧ (∀ b ∈ l0, okS b = true) := by
  unfold dchk
  constructor
  · intro h
    split at h
    · exact absurd h (by decide)
    · split at h
      · rename_i h2
        split at h
        · rename_i h3
          exact ⟨by omega, fun x hx => List.all_eq_true.1 h2 x hx, fun b hb => List.all_eq_true.1 h3 b hb⟩
        · exact absurd h (by decide)
      · exact absurd h (by decide)
  · rintro ⟨h1, h2, h3⟩
    rw [if_neg (by omega), if_pos (List.all_eq_true.2 h2), if_pos (List.all_eq_true.2 h3)]
theorem padV_len128 (b : List Int) (h : b.length ≤ 128) : (padV b).length = 128 := by
  unfold padV
  rw [List.length_append, List.length_replicate]
  omega
theorem okP_mk (n : Nat) (i : Int) (d : List Int) (h0 : 0 ≤ i) (h1 : i < n) (hd : d.length = 128) : okP n ⟨i, d⟩ = true := by
  simp only [okP, okS, hd]
  simp
  omega
theorem runs_write {l0 : List (List Int)} {l1 : List SW} {a : Int} {s : Bool} (h : runsV l0 l1 a s = true) {i : Int} (h0 : 0 ≤ i) (h1 : i < l0.length) {b : List Int} (hb : b.length ≤ 128) (hn : l1.length ≠ 4096) : runsV l0 (l1 ++ [⟨i, padV b⟩]) a s = true := by
  rw [runs_two, dchk_iff] at h ⊢
  obtain ⟨⟨h2, h3, h4⟩, h5⟩ := h
  refine ⟨⟨⟨h2.1, h2.2.1, ?_, h2.2.2.2⟩, ?_, h4⟩, h5⟩
  · rw [List.length_append]
    simp
    omega
  · intro x hx
    rcases List.mem_append.1 hx with hx | hx
    · exact h3 x hx
    · obtain rfl := List.mem_singleton.1 hx
      exact okP_mk _ _ _ h0 h1 (padV_len128 b hb)
theorem lastW_app (l1 : List SW) (x : SW) (i : Int) : lastW (l1 ++ [x]) i = if x.f0 = i then some x else lastW l1 i := by
  unfold lastW
  rw [List.reverse_append]
  simp only [List.reverse_cons, List.reverse_nil, List.nil_append, List.singleton_append, List.find?_cons]
  by_cases h : x.f0 = i
  · rw [if_pos h]
    simp [h]
  · rw [if_neg h]
    simp [h]
theorem perfV_app (l0 : List (List Int)) (ws : List SW) (x : SW) : perfV l0 (ws ++ [x]) = (perfV l0 ws).set x.f0.toNat x.f1 := by
  unfold perfV
  rw [List.foldl_append]
  rfl
/-- What is read of a synced disk is what was read before. -/
theorem read_perf (l0 : List (List Int)) (i : Int) (h0 : 0 ≤ i) (h1 : i < l0.length) : ∀ (n : Nat) (ws : List SW), ws.length = n → (∀ x ∈ ws, 0 ≤ x.f0) → rd_L1 (perfV l0 ws) i = (match lastW ws i with | some x => x.f1 | none => rd_L1 l0 i) := by
  intro n
  induction n with
  | zero =>
    intro ws hn _
    obtain rfl := List.eq_nil_of_length_eq_zero hn
    rfl
  | succ n ih =>
    intro ws hn hw
    rcases List.eq_nil_or_concat ws with rfl | ⟨ws', x, rfl⟩
    · simp at hn
    · rw [List.concat_eq_append] at hn hw ⊢
      have hx := hw x (by simp)
      have ih' := ih ws' (by simpa using hn) (fun y hy => hw y (List.mem_append_left _ hy))
      rw [perfV_app, lastW_app]
      have hl := perfV_length ws' l0
      unfold rd_L1 at ih' ⊢
      by_cases h : x.f0 = i
      · rw [if_pos h, h, List.getD_eq_getElem?_getD, List.getElem?_set_self (by omega)]
        rfl
      · rw [if_neg h, ← ih', List.getD_eq_getElem?_getD, List.getElem?_set_ne (by omega), List.getD_eq_getElem?_getD]
theorem runs_sync {l0 : List (List Int)} {l1 : List SW} {a : Int} {s : Bool} (h : runsV l0 l1 a s = true) {c : Int} (hc : -1 ≤ c ∧ c ≤ 65536) : runsV (perfV l0 l1) [] c false = true := by
  obtain ⟨h1, h2, h3, h4, h5, _⟩ := runs_ok h
  rw [runs_two, dchk_iff]
  have hl := perfV_length l1 l0
  refine ⟨⟨⟨by omega, by omega, by simp, hc.1, hc.2⟩, by simp, ?_⟩, rfl⟩
  intro b hb
  have := perfV_all l1 l0 h4 (fun x hx => (h3 x hx).2) b hb
  simp [okS, this]
end Go.Proofs.Ytmeoapalnkibfaa.Q
