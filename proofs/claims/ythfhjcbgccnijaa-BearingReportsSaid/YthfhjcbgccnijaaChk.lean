/- What weather.Check answers, as a plain function. -/
import Derived.Test.YthfhjcbgccnijaaQ2

namespace Go.Proofs.Ythfhjcbgccnijaa.Q
open Go.RowKit Go.Proofs.YthfhjcbgccnijaaW.PrintWords Go.Proofs.YthfhjcbgccnijaaW.PrintLast Go.Proofs.YthfhjcbgccnijaaW.PrintMore
set_option linter.unusedVariables false
set_option linter.unusedSimpArgs false

theorem wr_in {x : Int} (h : -9223372036854775808 ≤ x ∧ x ≤ 9223372036854775807) : wrap64 x = x := by
  unfold wrap64
  omega
def vB (r : S41) : Bool :=
  [r.f0].all (okw 1048576) && [r.f1].all (okw 15) && [r.f2].all (okw 63) && [r.f3].all (okw 73048) && [r.f4].all (okw 134217727) && okr 200 r.f5.f0 r.f5.f1 && okr 40 r.f6.f0 r.f6.f1
theorem valid_vB (r : S41) : weather_valid.f r.f0 r.f1 r.f2 r.f3 r.f4 r.f5.f0 r.f5.f1 r.f6.f0 r.f6.f1 = some (vB r) := rfl
/-- Is the report at i valid, and its number greater than the one before? -/
def goodAt (l : List S41) (i : Nat) : Bool := vB (rd_T41 l (i : Int)) && (decide (i = 0) || decide ((rd_T41 l ((i - 1 : Nat) : Int)).f0 < (rd_T41 l (i : Int)).f0))
def chkV (l : List S41) : Int := if 4096 < l.length then 2 else if (List.range l.length).all (goodAt l) then 0 else 270

theorem chk_loop (l : List S41) (hn : l.length ≤ 4096) : ∀ (m i : Nat), i + m = l.length → ∀ k, m < k →
    weather_Check.l0 k l l (l.length : Int) (i : Int) = some (if (List.range' i m).all (goodAt l) then 0 else 270)
  | 0, i, h, k + 1, _ => by
    unfold weather_Check.l0
    rw [if_neg (by omega)]
    simp
  | m + 1, i, h, k + 1, hk => by
    have hw : wrap64 ((i : Int) + 1) = ((i + 1 : Nat) : Int) := by rw [wr_in (by omega)]; omega
    unfold weather_Check.l0
    rw [if_pos (by omega), if_pos (by omega), if_pos (by omega), valid_vB, Option.bind_some, List.range'_succ, List.all_cons]
    have ih := chk_loop l hn m (i + 1) (by omega) k (by omega)
    cases hv : vB (rd_T41 l (i : Int)) with
    | false =>
      rw [if_neg (by simp)]
      have hg : goodAt l i = false := by unfold goodAt; rw [hv]; rfl
      rw [hg]
      rfl
    | true =>
      rw [if_pos rfl]
      by_cases h0 : i = 0
      · subst h0
        have hg : goodAt l 0 = true := by unfold goodAt; rw [hv]; rfl
        rw [if_neg (by omega), hw, ih, hg]
        rfl
      · have hw1 : wrap64 ((i : Int) - 1) = ((i - 1 : Nat) : Int) := by rw [wr_in (by omega)]; omega
        rw [if_pos (by omega), hw1, if_pos (by omega), if_pos (by omega)]
        have hg : goodAt l i = decide ((rd_T41 l ((i - 1 : Nat) : Int)).f0 < (rd_T41 l (i : Int)).f0) := by unfold goodAt; rw [hv]; simp [h0]
        by_cases h1 : (rd_T41 l ((i - 1 : Nat) : Int)).f0 < (rd_T41 l (i : Int)).f0
        · rw [if_neg (by omega), hw, ih, hg, decide_eq_true h1]
          rfl
        · rw [if_pos (by omega), hg, decide_eq_false h1]
          rfl
theorem chk_eq (l : List S41) : weather_Check.f (l.length + 2) l = some (chkV l) := by
  unfold weather_Check.f chkV
  by_cases h : 4096 < l.length
  · rw [if_pos (by omega), if_pos h]
  · rw [if_neg (by omega), if_neg h]
    have := chk_loop l (by omega) l.length 0 (by omega) (l.length + 2) (by omega)
    rw [← List.range_eq_range'] at this
    exact this
theorem chk_calls (A0 : Option Addr) (c0 : Nat) (l0 : List S41) (w : World) (hr0 : Kd.C k41 w A0 l0.length l0) (hc0 : l0.length ≤ c0) :
    Calls Try.prog 28 #[.slice A0 l0.length c0] w fun e w' => e = .returned (.int .i64 (chkV l0)) ∧ Below w.heap.size w w' := weather_Check.calls (l0.length + 2) A0 c0 l0 (chkV l0) w hr0 hc0 (chk_eq l0)

theorem chk_ok {l : List S41} (h : chkV l = 0) : l.length ≤ 4096 ∧ ∀ i, i < l.length → goodAt l i = true := by
  unfold chkV at h
  split at h
  · cases h
  · split at h
    · rename_i h1 h2
      refine ⟨by omega, fun i hi => ?_⟩
      rw [List.all_eq_true] at h2
      exact h2 i (List.mem_range.2 hi)
    · cases h
theorem chk_valid {l : List S41} (h : chkV l = 0) : ∀ r ∈ l, vB r = true := by
  intro r hr
  obtain ⟨i, hi, rfl⟩ := List.getElem_of_mem hr
  have h2 := (chk_ok h).2 i hi
  unfold goodAt at h2
  rw [Bool.and_eq_true] at h2
  have e : rd_T41 l (i : Int) = l[i] := by simp [rd_T41, List.getD_eq_getElem?_getD, hi]
  rw [e] at h2
  exact h2.1
theorem vB_source {r : S41} (h : vB r = true) : 0 ≤ r.f1 ∧ r.f1 ≤ 15 := by
  unfold vB at h
  simp only [Bool.and_eq_true, List.all_cons, List.all_nil, Bool.and_true, okw, decide_eq_true_eq] at h
  omega
end Go.Proofs.Ythfhjcbgccnijaa.Q
