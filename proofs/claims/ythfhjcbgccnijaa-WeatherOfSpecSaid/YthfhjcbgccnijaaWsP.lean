/- What the reference's functions about weather reports answer, as plain functions. -/
import Derived.Test.YthfhjcbgccnijaaQ3
import Derived.Test.YthfhjcbgccnijaaQ4
import Derived.Test.YthfhjcbgccnijaaChk
namespace Go.Proofs.Ythfhjcbgccnijaa.Q
open Go.RowKit Go.Proofs.YthfhjcbgccnijaaW.PrintWords Go.Proofs.YthfhjcbgccnijaaW.PrintLast Go.Proofs.YthfhjcbgccnijaaW.PrintMore
set_option linter.unusedVariables false
set_option linter.unusedSimpArgs false

theorem ref_within (x m : Int) : fastiref27_within.f x 0 m = some (okw m x) := by
  unfold fastiref27_within.f okw
  by_cases h : 0 ≤ x
  · rw [if_pos h, decide_eq_true h]; rfl
  · rw [if_neg h, decide_eq_false h]; rfl
theorem ref_span (lo hi m : Int) : fastiref27_span.f lo hi m = some (okr m lo hi) := by
  unfold fastiref27_span.f okr
  simp only [List.all_cons, List.all_nil, Bool.and_true, okw]
  by_cases h : 0 ≤ lo
  · rw [if_pos h]
    by_cases h2 : lo ≤ hi
    · rw [if_pos h2, decide_eq_true h, decide_eq_true h2, decide_eq_true (show 0 ≤ hi by omega)]
      by_cases h3 : hi ≤ m
      · rw [decide_eq_true h3, decide_eq_true (show lo ≤ m by omega)]; rfl
      · rw [decide_eq_false h3]; simp
    · rw [if_neg h2, decide_eq_false h2]; rfl
  · rw [if_neg h, decide_eq_false h]; simp
theorem ref_valid (k : Nat) (r : S41) : fastiref27_Valid.f (k + 1) r.f0 r.f1 r.f2 r.f3 r.f4 r.f5.f0 r.f5.f1 r.f6.f0 r.f6.f1 = some (vB r) := by
  have e : ∀ x m, [x].all (okw m) = okw m x := fun x m => by simp
  unfold fastiref27_Valid.f vB
  rw [e, e, e, e, e, ref_within, Option.bind_some]
  cases okw 1048576 r.f0 with
  | false => rfl
  | true =>
    rw [if_pos rfl, ref_within, Option.bind_some]
    cases okw 15 r.f1 with
    | false => rfl
    | true =>
      rw [if_pos rfl, ref_within, Option.bind_some]
      cases okw 63 r.f2 with
      | false => rfl
      | true =>
        rw [if_pos rfl, ref_within, Option.bind_some]
        cases okw 73048 r.f3 with
        | false => rfl
        | true =>
          rw [if_pos rfl, ref_within, Option.bind_some]
          cases okw 134217727 r.f4 with
          | false => rfl
          | true =>
            rw [fastiref27_Valid.j0]
            rw [if_neg (by simp), ref_span, Option.bind_some]
            cases okr 200 r.f5.f0 r.f5.f1 with
            | false => rfl
            | true =>
              rw [if_pos rfl, ref_span, Option.bind_some]
              rfl

theorem refchk_loop (l : List S41) (hn : l.length ≤ 4096) : ∀ (m i : Nat), i + m = l.length → ∀ k, m + 1 < k →
    fastiref27_Check.l0 k l (i : Int) = some (if (List.range' i m).all (goodAt l) then 0 else 270)
  | 0, i, h, k + 1, _ => by
    unfold fastiref27_Check.l0
    rw [if_neg (by omega)]
    simp
  | m + 1, i, h, k + 2, hk => by
    have hw : wrap64 ((i : Int) + 1) = ((i + 1 : Nat) : Int) := by rw [wr_in (by omega)]; omega
    unfold fastiref27_Check.l0
    rw [if_pos (by omega), if_pos (by omega), ref_valid, Option.bind_some, List.range'_succ, List.all_cons]
    have ih := refchk_loop l hn m (i + 1) (by omega) (k + 1) (by omega)
    cases hv : vB (rd_T41 l (i : Int)) with
    | false =>
      rw [if_neg (by simp)]
      have hg : goodAt l i = false := by unfold goodAt; rw [hv]; rfl
      rw [hg]
      rfl
    | true =>
      rw [if_pos rfl]
      by_cases h0 : i = 0
      · subst h0
        have hg : goodAt l 0 = true := by unfold goodAt; rw [hv]; rfl
        rw [if_neg (by omega), hw, ih, hg]
        rfl
      · have hw1 : wrap64 ((i : Int) - 1) = ((i - 1 : Nat) : Int) := by rw [wr_in (by omega)]; omega
        rw [if_pos (by omega), hw1, if_pos (by omega), if_pos (by omega)]
        have hg : goodAt l i = decide ((rd_T41 l ((i - 1 : Nat) : Int)).f0 < (rd_T41 l (i : Int)).f0) := by unfold goodAt; rw [hv]; simp [h0]
        by_cases h1 : (rd_T41 l ((i - 1 : Nat) : Int)).f0 < (rd_T41 l (i : Int)).f0
        · rw [if_neg (by omega), hw, ih, hg, decide_eq_true h1]
          rfl
        · rw [if_pos (by omega), hg, decide_eq_false h1]
          rfl
theorem ref_chk (l : List S41) (k : Nat) (hk : l.length + 1 < k) : fastiref27_Check.f k l = some (chkV l) := by
  unfold fastiref27_Check.f chkV
  by_cases h : 4096 < l.length
  · rw [if_pos (by omega), if_pos h]
  · rw [if_neg (by omega), if_neg h]
    have := refchk_loop l (by omega) l.length 0 (by omega) k hk
    rw [← List.range_eq_range'] at this
    exact this
theorem chk_le {f : Nat → Option Int} (hm : ∀ k, LeO (f k) (f (k + 1))) {a b : Nat} (h : a ≤ b) {v : Int} (hv : f a = some v) : f b = some v := by
  induction h with
  | refl => exact hv
  | step _ ih => exact hm _ _ ih
theorem wchk (l : List S41) (k : Nat) (hk : l.length + 2 ≤ k) : weather_Check.f k l = some (chkV l) := chk_le (fun k => weather_Check.mono l k) hk (chk_eq l)

end Go.Proofs.Ythfhjcbgccnijaa.Q
