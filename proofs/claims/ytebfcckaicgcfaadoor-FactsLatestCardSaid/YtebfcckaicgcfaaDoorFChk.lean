/- What facts.right and facts.Check answer, as plain functions. -/
import Derived.Test.YtebfcckaicgcfaaDoorQ5
import Derived.Test.YtebfcckaicgcfaaDoorFInsr
namespace Go.Proofs.YtebfcckaicgcfaaDoor.Q
open Go.RowKit Go.Proofs.YtebfcckaicgcfaaDoorW.PrintWords Go.Proofs.YtebfcckaicgcfaaDoorW.PrintLast Go.Proofs.YtebfcckaicgcfaaDoorW.PrintMore
set_option linter.unusedVariables false
set_option linter.unusedSimpArgs false

def wi (x lo hi : Int) : Bool := decide (lo ≤ x) && decide (x ≤ hi)
theorem wi_iff {x lo hi : Int} : wi x lo hi = true ↔ lo ≤ x ∧ x ≤ hi := by simp [wi]
theorem fwithin (x lo hi : Int) : facts_within.f x lo hi = some (wi x lo hi) := by
  unfold facts_within.f wi
  by_cases h : lo ≤ x <;> simp [h]
theorem fmoment (x : Int) : facts_moment.f x = some (wi x 0 134217727) := by
  unfold facts_moment.f
  rw [fwithin]
  rfl
def vRow (r : S24) (t : Int × Int × Int × Int × Int × Int × Int × Int) : Bool :=
  wi r.f2 0 t.1 && (wi r.f3 0 t.2.1 && (wi r.f4 0 t.2.2.1 && (wi r.f7 0 t.2.2.2.1 && (if r.f5 = -1 then r.f6 == 0 else (wi r.f5 t.2.2.2.2.1 t.2.2.2.2.2.1 && wi r.f6 t.2.2.2.2.2.2.1 t.2.2.2.2.2.2.2)))))
def rowV (k : Int) : Int × Int × Int × Int × Int × Int × Int × Int := (api_Fact.f k).getD (0, 0, 0, 0, 0, 0, 0, 0)
theorem rowV_eq {k : Int} (h : 1 ≤ k ∧ k ≤ 6) : api_Fact.f k = some (rowV k) := by
  unfold rowV api_Fact.f
  rw [if_pos (by omega)]
  rfl
/-- Is the fact right? -/
def fB (r : S24) : Bool := wi r.f1 1 6 && (wi r.f0 0 1048576 && (wi r.f8 0 134217727 && vRow r (rowV r.f1)))
theorem right_fB (r : S24) (k : Nat) : facts_right.f (k + 2) r.f0 r.f1 r.f2 r.f3 r.f4 r.f5 r.f6 r.f7 r.f8 = some (fB r) := by
  unfold facts_right.f fB
  rw [fwithin, Option.bind_some]
  cases h1 : wi r.f1 1 6 with
  | false => simp [facts_right.j0]
  | true =>
    rw [if_pos rfl, fwithin, Option.bind_some]
    cases h2 : wi r.f0 0 1048576 with
    | false => simp [facts_right.j0]
    | true =>
      rw [if_pos rfl, fmoment, Option.bind_some]
      cases h3 : wi r.f8 0 134217727 with
      | false => simp [facts_right.j0]
      | true =>
        have ht := rowV_eq (wi_iff.1 h1)
        generalize rowV r.f1 = t at ht
        rw [facts_right.j0, if_neg (by simp), ht, Option.bind_some, fwithin, Option.bind_some]
        unfold vRow
        cases h4 : wi r.f2 0 t.1 with
        | false => simp [facts_right.j1]
        | true =>
          rw [if_pos rfl, fwithin, Option.bind_some]
          cases h5 : wi r.f3 0 t.2.1 with
          | false => simp [facts_right.j1]
          | true =>
            rw [if_pos rfl, fwithin, Option.bind_some]
            cases h6 : wi r.f4 0 t.2.2.1 with
            | false => simp [facts_right.j1]
            | true =>
              rw [if_pos rfl, fwithin, Option.bind_some]
              rw [facts_right.j1]
              cases h7 : wi r.f7 0 t.2.2.2.1 with
              | false => simp
              | true =>
                rw [if_neg (by simp)]
                by_cases h8 : r.f5 = -1
                · simp [h8]
                · rw [if_neg h8, if_neg h8, fwithin, Option.bind_some]
                  cases h9 : wi r.f5 t.2.2.2.2.1 t.2.2.2.2.2.1 with
                  | false => simp
                  | true =>
                    rw [if_pos rfl, fwithin, Option.bind_some]
                    simp
theorem right_calls (r : S24) (w : World) (hrw : RowsAt w) : Calls Tryd.prog 24 #[.agg #[.int .i64 r.f0, .int .i64 r.f1, .int .i64 r.f2, .int .i64 r.f3, .int .i64 r.f4, .int .i64 r.f5, .int .i64 r.f6, .int .i64 r.f7, .int .i64 r.f8]] w fun e w' => e = .returned (.bool (fB r)) ∧ Below w.heap.size w w' :=
  facts_right.calls 2 r.f0 r.f1 r.f2 r.f3 r.f4 r.f5 r.f6 r.f7 r.f8 (fB r) w (right_fB r 0) hrw
/-- Is the fact at i valid, and its number greater than the one before? -/
def goodAt (l : List S24) (i : Nat) : Bool := fB (rd_T24 l (i : Int)) && (decide (i = 0) || decide ((rd_T24 l ((i - 1 : Nat) : Int)).f0 < (rd_T24 l (i : Int)).f0))
def chkV (l : List S24) : Int := if 4096 < l.length then 2 else if (List.range l.length).all (goodAt l) then 0 else 460

theorem chk_loop (l : List S24) (hn : l.length ≤ 4096) : ∀ (m i : Nat), i + m = l.length → ∀ k, m + 2 < k →
    facts_Check.l0 k l l (l.length : Int) (i : Int) = some (if (List.range' i m).all (goodAt l) then 0 else 460)
  | 0, i, h, k + 1, _ => by
    unfold facts_Check.l0
    rw [if_neg (by omega)]
    simp
  | m + 1, i, h, k + 3, hk => by
    have hw : wrap64 ((i : Int) + 1) = ((i + 1 : Nat) : Int) := by rw [wr_in (by omega)]; omega
    unfold facts_Check.l0
    rw [if_pos (by omega), if_pos (by omega), if_pos (by omega), right_fB, Option.bind_some, List.range'_succ, List.all_cons]
    have ih := chk_loop l hn m (i + 1) (by omega) (k + 2) (by omega)
    cases hv : fB (rd_T24 l (i : Int)) with
    | false =>
      rw [if_neg (by simp)]
      have hg : goodAt l i = false := by unfold goodAt; rw [hv]; rfl
      rw [hg]
      rfl
    | true =>
      rw [if_pos rfl]
      by_cases h0 : i = 0
      · subst h0
        have hg : goodAt l 0 = true := by unfold goodAt; rw [hv]; rfl
        rw [if_neg (by omega), hw, ih, hg]
        rfl
      · have hw1 : wrap64 ((i : Int) - 1) = ((i - 1 : Nat) : Int) := by rw [wr_in (by omega)]; omega
        rw [if_pos (by omega), hw1, if_pos (by omega), if_pos (by omega)]
        have hg : goodAt l i = decide ((rd_T24 l ((i - 1 : Nat) : Int)).f0 < (rd_T24 l (i : Int)).f0) := by unfold goodAt; rw [hv]; simp [h0]
        by_cases h1 : (rd_T24 l ((i - 1 : Nat) : Int)).f0 < (rd_T24 l (i : Int)).f0
        · rw [if_neg (by omega), hw, ih, hg, decide_eq_true h1]
          rfl
        · rw [if_pos (by omega), hg, decide_eq_false h1]
          rfl
theorem chk_eq (l : List S24) : facts_Check.f (l.length + 3) l = some (chkV l) := by
  unfold facts_Check.f chkV
  by_cases h : 4096 < l.length
  · rw [if_pos (by omega), if_pos h]
  · rw [if_neg (by omega), if_neg h]
    have := chk_loop l (by omega) l.length 0 (by omega) (l.length + 3) (by omega)
    rw [← List.range_eq_range'] at this
    exact this
theorem chk_calls (A0 : Option Addr) (c0 : Nat) (l0 : List S24) (w : World) (hr0 : Kd.C k24 w A0 l0.length l0) (hc0 : l0.length ≤ c0) (hrw : RowsAt w) :
    Calls Tryd.prog 14 #[.slice A0 l0.length c0] w fun e w' => e = .returned (.int .i64 (chkV l0)) ∧ Below w.heap.size w w' := facts_Check.calls (l0.length + 3) A0 c0 l0 (chkV l0) w hr0 hc0 (chk_eq l0) hrw

theorem chk_ok {l : List S24} (h : chkV l = 0) : l.length ≤ 4096 ∧ ∀ i, i < l.length → goodAt l i = true := by
  unfold chkV at h
  split at h
  · cases h
  · split at h
    · rename_i h1 h2
      refine ⟨by omega, fun i hi => ?_⟩
      rw [List.all_eq_true] at h2
      exact h2 i (List.mem_range.2 hi)
    · cases h
theorem chk_valid {l : List S24} (h : chkV l = 0) : ∀ r ∈ l, fB r = true := by
  intro r hr
  obtain ⟨i, hi, rfl⟩ := List.getElem_of_mem hr
  have h2 := (chk_ok h).2 i hi
  unfold goodAt at h2
  rw [Bool.and_eq_true] at h2
  have e : rd_T24 l (i : Int) = l[i] := by simp [rd_T24, List.getD_eq_getElem?_getD, hi]
  rw [e] at h2
  exact h2.1
end Go.Proofs.YtebfcckaicgcfaaDoor.Q
