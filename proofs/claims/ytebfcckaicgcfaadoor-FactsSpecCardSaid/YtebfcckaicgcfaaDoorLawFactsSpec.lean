/- The tied card of the law FactsSpec: given the package's table as its initialiser lays it (the card ties that to the program's text): for every input the call returns true and leaves its arguments as they were. No condition but the form's own. -/
import Derived.Test.YtebfcckaicgcfaaDoorQ0
import Derived.Test.YtebfcckaicgcfaaDoorOpn
import Derived.Test.YtebfcckaicgcfaaDoorQ8
import Derived.Test.YtebfcckaicgcfaaDoorQ9
import Derived.Test.YtebfcckaicgcfaaDoorQ10
import Derived.Test.YtebfcckaicgcfaaDoorFAd
import Derived.Test.YtebfcckaicgcfaaDoorQ6
import Derived.Test.YtebfcckaicgcfaaDoorRows
import Derived.WalkKit
import Derived.ProofKit
import Derived.OpenShut
import Derived.ShutString
import Derived.ChangeOld
import Derived.Below
import Derived.SizedLaws
import Derived.Test.YtebfcckaicgcfaaDoorFLa
import Derived.Test.YtebfcckaicgcfaaDoorTie
import Derived.Test.YtebfcckaicgcfaaDoorCards
import Derived.SevenTiedAt

namespace Go.Proofs.YtebfcckaicgcfaaDoor.Q
open Go.RowKit Go.Proofs.YtebfcckaicgcfaaDoor.Opn Go.Proofs.YtebfcckaicgcfaaDoorW.PrintWords Go.Proofs.YtebfcckaicgcfaaDoorW.PrintLast
set_option maxRecDepth 100000
def B24 (x : S24) : Prop := (fun a_ : Int => (Lit.int .i64 a_).wf = true) x.f0 ∧ (fun a_ : Int => (Lit.int .i64 a_).wf = true) x.f1 ∧ (fun a_ : Int => (Lit.int .i64 a_).wf = true) x.f2 ∧ (fun a_ : Int => (Lit.int .i64 a_).wf = true) x.f3 ∧ (fun a_ : Int => (Lit.int .i64 a_).wf = true) x.f4 ∧ (fun a_ : Int => (Lit.int .i64 a_).wf = true) x.f5 ∧ (fun a_ : Int => (Lit.int .i64 a_).wf = true) x.f6 ∧ (fun a_ : Int => (Lit.int .i64 a_).wf = true) x.f7 ∧ (fun a_ : Int => (Lit.int .i64 a_).wf = true) x.f8
theorem opn24 : Opn Tryd.prog 24 k24 B24 := opn_iso (fun a => ⟨a.1, a.2.1, a.2.2.1, a.2.2.2.1, a.2.2.2.2.1, a.2.2.2.2.2.1, a.2.2.2.2.2.2.1, a.2.2.2.2.2.2.2.1, a.2.2.2.2.2.2.2.2⟩) (fun _ => rfl) (opn_struct (sz := 9) Tryd.underlying24 (by kernel_rfl) rfl (opnF_cons (sz := 1) rfl (by kernel_rfl) rfl (opn_int Tryd.underlying3) (opnF_cons (sz := 1) rfl (by kernel_rfl) rfl (opn_int Tryd.underlying3) (opnF_cons (sz := 1) rfl (by kernel_rfl) rfl (opn_int Tryd.underlying3) (opnF_cons (sz := 1) rfl (by kernel_rfl) rfl (opn_int Tryd.underlying3) (opnF_cons (sz := 1) rfl (by kernel_rfl) rfl (opn_int Tryd.underlying3) (opnF_cons (sz := 1) rfl (by kernel_rfl) rfl (opn_int Tryd.underlying3) (opnF_cons (sz := 1) rfl (by kernel_rfl) rfl (opn_int Tryd.underlying3) (opnF_cons (sz := 1) rfl (by kernel_rfl) rfl (opn_int Tryd.underlying3) (opnF_one (sz := 1) rfl (by kernel_rfl) rfl (opn_int Tryd.underlying3)))))))))))

end Go.Proofs.YtebfcckaicgcfaaDoor.Q

namespace Go.Proofs.YtebfcckaicgcfaaDoor.Q
open Go.RowKit Go.Proofs.YtebfcckaicgcfaaDoorW.PrintWords Go.Proofs.YtebfcckaicgcfaaDoorW.PrintLast Go.Proofs.YtebfcckaicgcfaaDoorW.PrintMore
set_option linter.unusedVariables false
set_option linter.unusedSimpArgs false

theorem rwithin (x lo hi : Int) : fastiref46_within.f x lo hi = some (wi x lo hi) := by
  unfold fastiref46_within.f wi
  by_cases h : lo ≤ x <;> simp [h]
theorem rmoment (x : Int) : fastiref46_Moment.f x = some (wi x 0 134217727) := by
  unfold fastiref46_Moment.f
  rw [rwithin]
  rfl
theorem ite_sf (p : Prop) [Decidable p] (b : Bool) : (if p then some b else some false) = some (decide p && b) := by by_cases h : p <;> simp [h]
theorem wi00 (x : Int) : wi x 0 0 = decide (x = 0) := by
  unfold wi
  by_cases h : x = 0
  · subst h; rfl
  · rw [decide_eq_false h]
    by_cases h2 : 0 ≤ x
    · rw [decide_eq_false (show ¬ x ≤ 0 by omega), Bool.and_false]
    · rw [decide_eq_false h2, Bool.false_and]
/-- What the reference asks of a fact's subject and numbers is what the table says. -/
theorem ref_parts (k : Nat) (r : S24) : (fastiref46_subject.f (k + 2) r.f0 r.f1 r.f2 r.f3 r.f4 r.f5 r.f6 r.f7 r.f8).bind (fun s => if s = true then (fastiref46_numbers.f r.f0 r.f1 r.f2 r.f3 r.f4 r.f5 r.f6 r.f7 r.f8).bind (fun b => some b) else some false) = some (wi r.f1 1 6 && vRow r (rowV r.f1)) := by
  obtain ⟨f0, f1, f2, f3, f4, f5, f6, f7, f8⟩ := r
  dsimp only
  have e0 : ∀ x : Int, (x == 0) = decide (x = 0) := fun x => by by_cases h : x = 0 <;> simp [h]
  by_cases h : 1 ≤ f1 ∧ f1 ≤ 6
  · have hk : f1 = 1 ∨ f1 = 2 ∨ f1 = 3 ∨ f1 = 4 ∨ f1 = 5 ∨ f1 = 6 := by omega
    rcases hk with rfl | rfl | rfl | rfl | rfl | rfl
    · have hv : rowV 1 = (0, 1023, 0, 0, 0, 99, 0, 99) := rfl
      simp only [hv, vRow, wi00, fastiref46_subject.f, fastiref46_subject.j0, fastiref46_subject.j1, fastiref46_numbers.f, rwithin, Option.bind_some, ite_sf, e0]
      by_cases h5 : f5 = -1 <;> simp [h5, e0, wi00, Bool.and_comm, Bool.and_left_comm, Bool.and_assoc, ite_sf, show wi 1 1 6 = true from rfl]
    · have hv : rowV 2 = (0, 0, 63, 73048, 1, 512, 0, 0) := rfl
      simp only [hv, vRow, wi00, fastiref46_subject.f, fastiref46_subject.j0, fastiref46_subject.j1, fastiref46_numbers.f, rwithin, Option.bind_some, ite_sf, e0]
      by_cases h5 : f5 = -1 <;> simp [h5, e0, wi00, Bool.and_comm, Bool.and_left_comm, Bool.and_assoc, ite_sf, show wi 2 1 6 = true from rfl]
    · have hv : rowV 3 = (63, 0, 0, 73048, 1, 512, 0, 0) := rfl
      simp only [hv, vRow, wi00, fastiref46_subject.f, fastiref46_subject.j0, fastiref46_subject.j1, fastiref46_numbers.f, rwithin, Option.bind_some, ite_sf, e0]
      by_cases h5 : f5 = -1 <;> simp [h5, e0, wi00, Bool.and_comm, Bool.and_left_comm, Bool.and_assoc, ite_sf, show wi 3 1 6 = true from rfl]
    · have hv : rowV 4 = (0, 0, 0, 73048, 1, 512, 0, 1440) := rfl
      simp only [hv, vRow, wi00, fastiref46_subject.f, fastiref46_subject.j0, fastiref46_subject.j1, fastiref46_numbers.f, rwithin, Option.bind_some, ite_sf, e0]
      by_cases h5 : f5 = -1 <;> simp [h5, e0, wi00, Bool.and_comm, Bool.and_left_comm, Bool.and_assoc, ite_sf, show wi 4 1 6 = true from rfl]
    · have hv : rowV 5 = (63, 0, 0, 73048, 0, 0, 0, 0) := rfl
      simp only [hv, vRow, wi00, fastiref46_subject.f, fastiref46_subject.j0, fastiref46_subject.j1, fastiref46_numbers.f, rwithin, Option.bind_some, ite_sf, e0]
      by_cases h5 : f5 = -1 <;> simp [h5, e0, wi00, Bool.and_comm, Bool.and_left_comm, Bool.and_assoc, ite_sf, show wi 5 1 6 = true from rfl]
    · have hv : rowV 6 = (0, 1023, 0, 0, 0, 73048, 0, 15) := rfl
      simp only [hv, vRow, wi00, fastiref46_subject.f, fastiref46_subject.j0, fastiref46_subject.j1, fastiref46_numbers.f, rwithin, Option.bind_some, ite_sf, e0]
      by_cases h5 : f5 = -1 <;> simp [h5, e0, wi00, Bool.and_comm, Bool.and_left_comm, Bool.and_assoc, ite_sf, show wi 6 1 6 = true from rfl]
  · have hw : wi f1 1 6 = false := by
      cases hc : wi f1 1 6 with
      | false => rfl
      | true => exact absurd (wi_iff.1 hc) h
    have h1 : ¬ f1 = 1 := by omega
    have h2 : ¬ f1 = 2 := by omega
    have h3 : ¬ f1 = 3 := by omega
    have h4 : ¬ f1 = 4 := by omega
    have h5 : ¬ f1 = 5 := by omega
    have h6 : ¬ f1 = 6 := by omega
    simp [hw, fastiref46_subject.f, fastiref46_subject.j0, fastiref46_subject.j1, h1, h2, h3, h4, h5, h6]
theorem ref_right (k : Nat) (r : S24) : fastiref46_Right.f (k + 2) r.f0 r.f1 r.f2 r.f3 r.f4 r.f5 r.f6 r.f7 r.f8 = some (fB r) := by
  unfold fastiref46_Right.f fB
  rw [rwithin, Option.bind_some]
  cases h1 : wi r.f0 0 1048576 with
  | false => simp
  | true =>
    rw [if_pos rfl, rmoment, Option.bind_some]
    cases h2 : wi r.f8 0 134217727 with
    | false => simp
    | true =>
      rw [if_pos rfl]
      have := ref_parts k r
      rw [Bool.true_and, Bool.true_and]
      exact this
theorem refchk_loop (l : List S24) (hn : l.length ≤ 4096) : ∀ (m i : Nat), i + m = l.length → ∀ k, m + 2 < k →
    fastiref46_Check.l0 k l (i : Int) = some (if (List.range' i m).all (goodAt l) then 0 else 460)
  | 0, i, h, k + 1, _ => by
    unfold fastiref46_Check.l0
    rw [if_neg (by omega)]
    simp
  | m + 1, i, h, k + 3, hk => by
    have hw : wrap64 ((i : Int) + 1) = ((i + 1 : Nat) : Int) := by rw [wr_in (by omega)]; omega
    unfold fastiref46_Check.l0
    rw [if_pos (by omega), if_pos (by omega), ref_right, Option.bind_some, List.range'_succ, List.all_cons]
    have ih := refchk_loop l hn m (i + 1) (by omega) (k + 2) (by omega)
    cases hv : fB (rd_T24 l (i : Int)) with
    | false =>
      rw [if_neg (by simp)]
      have hg : goodAt l i = false := by unfold goodAt; rw [hv]; rfl
      rw [hg]
      rfl
    | true =>
      rw [if_pos rfl]
      by_cases h0 : i = 0
      · subst h0
        have hg : goodAt l 0 = true := by unfold goodAt; rw [hv]; rfl
        rw [if_neg (by omega), hw, ih, hg]
        rfl
      · have hw1 : wrap64 ((i : Int) - 1) = ((i - 1 : Nat) : Int) := by rw [wr_in (by omega)]; omega
        rw [if_pos (by omega), hw1, if_pos (by omega), if_pos (by omega)]
        have hg : goodAt l i = decide ((rd_T24 l ((i - 1 : Nat) : Int)).f0 < (rd_T24 l (i : Int)).f0) := by unfold goodAt; rw [hv]; simp [h0]
        by_cases h1 : (rd_T24 l ((i - 1 : Nat) : Int)).f0 < (rd_T24 l (i : Int)).f0
        · rw [if_neg (by omega), hw, ih, hg, decide_eq_true h1]
          rfl
        · rw [if_pos (by omega), hg, decide_eq_false h1]
          rfl
theorem ref_chk (l : List S24) (k : Nat) (hk : l.length + 2 < k) : fastiref46_Check.f k l = some (chkV l) := by
  unfold fastiref46_Check.f chkV
  by_cases h : 4096 < l.length
  · rw [if_pos (by omega), if_pos h]
  · rw [if_neg (by omega), if_neg h]
    have := refchk_loop l (by omega) l.length 0 (by omega) k hk
    rw [← List.range_eq_range'] at this
    exact this
theorem chk_le {f : Nat → Option Int} (hm : ∀ k, LeO (f k) (f (k + 1))) {a b : Nat} (h : a ≤ b) {v : Int} (hv : f a = some v) : f b = some v := by
  induction h with
  | refl => exact hv
  | step _ ih => exact hm _ _ ih
theorem wchk (l : List S24) (k : Nat) (hk : l.length + 3 ≤ k) : facts_Check.f k l = some (chkV l) := chk_le (fun k => facts_Check.mono l k) hk (chk_eq l)


theorem posV_spec : ∀ (l : List S24) (x : Int), (∀ j, j < posV l x → noAt l j < x) ∧ (posV l x < l.length → x ≤ noAt l (posV l x))
  | [], x => ⟨fun j hj => by simp [posV] at hj, fun h => by simp at h⟩
  | a :: r, x => by
    by_cases h : a.f0 < x
    · have hp : posV (a :: r) x = posV r x + 1 := by unfold posV; rw [List.takeWhile_cons, if_pos (decide_eq_true h), List.length_cons]
      have ih := posV_spec r x
      have hc : ∀ j, noAt (a :: r) (j + 1) = noAt r j := fun j => by simp [noAt, rd_T24]
      rw [hp]
      refine ⟨fun j hj => ?_, fun hj => ?_⟩
      · cases j with
        | zero => rw [noAt_get _ _ (by simp)]; exact h
        | succ j => rw [hc]; exact ih.1 j (by omega)
      · rw [hc]
        exact ih.2 (by simpa using hj)
    · have hp : posV (a :: r) x = 0 := by unfold posV; rw [List.takeWhile_cons, if_neg (by simpa using h)]; rfl
      rw [hp]
      refine ⟨fun j hj => by omega, fun hj => ?_⟩
      rw [noAt_get _ _ (by simp)]
      show x ≤ a.f0
      omega

theorem refadd_loop (l : List S24) (r : S24) (hn : l.length ≤ 4096) : ∀ (m i : Nat), i + m = posV l r.f0 → ∀ k, m + 2 < k →
    fastiref46_Add.l0 k l (i : Int) r.f0 r.f1 r.f2 r.f3 r.f4 r.f5 r.f6 r.f7 r.f8 = some (if twiceB l r.f0 = true then ([], 171) else if l.length = 4096 then ([], 2) else (insAt l (posV l r.f0) r, 0))
  | 0, i, h, k + 3, _ => by
    have hs := (posV_spec l r.f0).2
    have hle := posV_le l r.f0
    obtain rfl : i = posV l r.f0 := by omega
    generalize hp : posV l r.f0 = p at hs hle ⊢
    have hj2 : ∀ b, fastiref46_Add.j2 (k + 1) l (p : Int) b r.f0 r.f1 r.f2 r.f3 r.f4 r.f5 r.f6 r.f7 r.f8 = some (if b = true then ([], 171) else if l.length = 4096 then ([], 2) else (insAt l p r, 0)) := by
      intro b
      rw [fastiref46_Add.j2]
      cases b with
      | true => rfl
      | false =>
        rw [if_neg (by simp)]
        try rw [if_neg (by simp)]
        by_cases h4 : l.length = 4096
        · rw [if_pos (show (l.length : Int) = 4096 by omega), if_pos h4]
          try rfl
        · rw [if_neg (show ¬ (l.length : Int) = 4096 by omega), if_neg h4, Option.bind_some, if_pos (by omega), if_pos (by omega), Option.bind_some, Int.toNat_natCast, if_pos (by simp; omega), Option.bind_some, if_pos (by simp; omega), Option.bind_some, Option.bind_some, if_pos (by simp; omega)]
          simp [insAt]
    have htw : twiceB l r.f0 = (decide (p < l.length) && decide (noAt l p = r.f0)) := by unfold twiceB; rw [hp]
    have hj1 : fastiref46_Add.j1 (k + 2) l (p : Int) r.f0 r.f1 r.f2 r.f3 r.f4 r.f5 r.f6 r.f7 r.f8 = some (if twiceB l r.f0 = true then ([], 171) else if l.length = 4096 then ([], 2) else (insAt l p r, 0)) := by
      rw [fastiref46_Add.j1]
      by_cases hlt : p < l.length
      · rw [if_pos (by omega), if_pos (by omega), hj2, htw, decide_eq_true hlt, Bool.true_and]
        rfl
      · rw [if_neg (by omega), hj2, htw, decide_eq_false hlt, Bool.false_and]
    rw [fastiref46_Add.l0]
    by_cases hlt : p < l.length
    · have h1 := hs hlt
      rw [if_pos (by omega), if_pos (by omega), if_neg (by unfold noAt at h1; omega)]
      exact hj1
    · rw [if_neg (by omega)]
      exact hj1
  | m + 1, i, h, k + 1, hk => by
    have hle := posV_le l r.f0
    have h1 := (posV_spec l r.f0).1 i (by omega)
    have hw : wrap64 ((i : Int) + 1) = ((i + 1 : Nat) : Int) := by rw [wr_in (by omega)]; omega
    rw [fastiref46_Add.l0]
    rw [if_pos (by omega), if_pos (by omega), if_pos (by exact h1), hw]
    exact refadd_loop l r hn m (i + 1) (by omega) k (by omega)
theorem ref_add (l : List S24) (r : S24) (k : Nat) (hk : l.length + 4 ≤ k) : fastiref46_Add.f k l r.f0 r.f1 r.f2 r.f3 r.f4 r.f5 r.f6 r.f7 r.f8 = some (addV l r) := by
  unfold fastiref46_Add.f addV
  rw [ref_chk l k (by omega), Option.bind_some]
  by_cases h : chkV l = 0
  · rw [if_pos h, if_pos h]
    obtain ⟨q, rfl⟩ : ∃ q, k = q + 2 := ⟨k - 2, by omega⟩
    rw [ref_right, Option.bind_some]
    cases fB r with
    | false => rfl
    | true =>
      rw [if_pos rfl, if_pos rfl]
      exact refadd_loop l r (chk_ok h).1 (posV l r.f0) 0 (by omega) (q + 2) (by have := posV_le l r.f0; omega)
  · rw [if_neg h, if_neg h]
end Go.Proofs.YtebfcckaicgcfaaDoor.Q

namespace Go.Proofs.YtebfcckaicgcfaaDoor.Q
open Go.RowKit Go.Proofs.YtebfcckaicgcfaaDoorW.PrintWords Go.Proofs.YtebfcckaicgcfaaDoorW.PrintLast Go.Proofs.YtebfcckaicgcfaaDoorW.PrintMore
set_option linter.unusedVariables false
set_option linter.unusedSimpArgs false

theorem sane_20 : fastilaw46_sane.f 20 = some true := by kernel_rfl
theorem le_of {α : Type} {f : Nat → Option α} (hm : ∀ k, LeO (f k) (f (k + 1))) {a b : Nat} (h : a ≤ b) {v : α} (hv : f a = some v) : f b = some v := by
  induction h with
  | refl => exact hv
  | step _ ih => exact hm _ _ ih
theorem sane_k (k : Nat) (hk : 20 ≤ k) : fastilaw46_sane.f k = some true := le_of (fun k => fastilaw46_sane.mono k) hk sane_20
theorem same_loop (l : List S24) (hn : l.length ≤ 10000) : ∀ (m i : Nat), i + m = l.length → ∀ k, m < k → fastiref46_Same.l0 k l l (i : Int) = some true
  | 0, i, h, k + 1, _ => by
    rw [fastiref46_Same.l0, if_neg (by omega)]
  | m + 1, i, h, k + 1, hk => by
    have hw : wrap64 ((i : Int) + 1) = ((i + 1 : Nat) : Int) := by rw [wr_in (by omega)]; omega
    rw [fastiref46_Same.l0, if_pos (by omega), if_pos (by omega), if_pos (by omega), if_neg (by simp), hw]
    exact same_loop l hn m (i + 1) (by omega) k (by omega)
theorem same_refl (l : List S24) (hn : l.length ≤ 10000) (k : Nat) (hk : l.length < k) : fastiref46_Same.f k l l = some true := by
  unfold fastiref46_Same.f
  rw [if_pos rfl]
  exact same_loop l hn l.length 0 (by omega) k hk
theorem insAt_length' (l : List S24) (i : Nat) (r : S24) (h : i ≤ l.length) : (insAt l i r).length = l.length + 1 := insAt_length l i r h
theorem addV_length (l : List S24) (r : S24) : (addV l r).1.length ≤ l.length + 1 := by
  unfold addV
  split
  · split
    · split
      · simp
      · split
        · simp
        · rw [insAt_length _ _ _ (posV_le l r.f0)]
          omega
    · simp
  · simp
theorem few_eq (l : List S24) : ∃ b, fastiref46_Few.f l = some b ∧ (b = true → l.length ≤ 5000) := by
  unfold fastiref46_Few.f
  split
  · exact ⟨_, rfl, fun _ => by omega⟩
  · split
    · exact ⟨_, rfl, fun h => by have := of_decide_eq_true h; omega⟩
    · exact ⟨_, rfl, fun h => by cases h⟩
end Go.Proofs.YtebfcckaicgcfaaDoor.Q

namespace Go.Proofs.YtebfcckaicgcfaaDoor.Q
open Go.RowKit Go.Proofs.YtebfcckaicgcfaaDoorW.PrintWords Go.Proofs.YtebfcckaicgcfaaDoorW.PrintLast
def fastilaw46_FactsSpec.Pure : Prop := ∀ (l0 : List (S24)) (x1 : S24), (fun l_ : List (S24) => l_.length * 72 ≤ 140737488351232 ∧ ∀ a, a ∈ l_ → B24 a) l0 → B24 x1 → ∃ k, fastilaw46_FactsSpec.f k l0 x1.f0 x1.f1 x1.f2 x1.f3 x1.f4 x1.f5 x1.f6 x1.f7 x1.f8 = some true
end Go.Proofs.YtebfcckaicgcfaaDoor.Q

namespace Go.Proofs.YtebfcckaicgcfaaDoor.Q
open Go.RowKit Go.Proofs.YtebfcckaicgcfaaDoorW.PrintWords Go.Proofs.YtebfcckaicgcfaaDoorW.PrintLast Go.Proofs.YtebfcckaicgcfaaDoorW.PrintMore
set_option linter.unusedVariables false
set_option linter.unusedSimpArgs false

theorem fastilaw46_FactsSpec.pure : fastilaw46_FactsSpec.Pure := by
  intro l r _ _
  refine ⟨l.length + 30, ?_⟩
  unfold fastilaw46_FactsSpec.f
  rw [sane_k _ (by omega), Option.bind_some, if_pos rfl]
  obtain ⟨b, hb, hl⟩ := few_eq l
  rw [hb, Option.bind_some]
  cases b with
  | false => rfl
  | true =>
    have hn := hl rfl
    rw [if_pos rfl, show facts_Add.f l r.f0 r.f1 r.f2 r.f3 r.f4 r.f5 r.f6 r.f7 r.f8 = some (addV l r) from rfl, Option.bind_some, ref_add l r _ (by omega), Option.bind_some, wchk l _ (by omega), Option.bind_some, ref_chk l _ (by omega), Option.bind_some, if_pos rfl,
      same_refl (addV l r).1 (by have := addV_length l r; omega) _ (by have := addV_length l r; omega), Option.bind_some, if_pos rfl]
    simp
end Go.Proofs.YtebfcckaicgcfaaDoor.Q
namespace Go.Proofs.YtebfcckaicgcfaaDoor.Pure
theorem FactsSpec : Go.Proofs.YtebfcckaicgcfaaDoor.Q.fastilaw46_FactsSpec.Pure := Go.Proofs.YtebfcckaicgcfaaDoor.Q.fastilaw46_FactsSpec.pure
end Go.Proofs.YtebfcckaicgcfaaDoor.Pure

namespace Go.Proofs.YtebfcckaicgcfaaDoor.factsSpec
open Go.ChangeShapes Go.WideShapes Go.ChangeAt Go.RowKit Go.Proofs.YtebfcckaicgcfaaDoor.Q Go.Proofs.YtebfcckaicgcfaaDoor.Opn Go.Proofs.YtebfcckaicgcfaaDoorW.PrintWords Go.Proofs.YtebfcckaicgcfaaDoorW.PrintLast
open Go.ChangeMaps (open_string shut_string)
open Go
set_option linter.unusedVariables false
theorem own : ownKnob Tryd.prog.godebug = none := by kernel_rfl
theorem laidOut : laidOutB Tryd.prog = true := by kernel_rfl
/-- The door's own heap meets the condition. -/
theorem door_met (os : Os) (args : Array Value) : laidMetH Tryd.prog laidL ((World.doorLaid Tryd.prog 28 os).forCall (fun _ _ => 0) ⟨#[], args, []⟩).memory :=
  laidMetH_of_parts3 (fuel := 8) (laidMet_of_run' 8 (by kernel_rfl) (by kernel_rfl)) (by kernel_rfl) (by kernel_rfl)
set_option maxRecDepth 100000 in
theorem lifted (os : Os) (started : os.Started) (H : Type) (enc : TypeId × Value → H) :
    ReturnsInHanded {} Tryd.checked os 3 .any (fun w args => (Rows.factsSpecSpec.pre enc Tryd.prog Tryd.f3 [] false w args ∧ laidMetH Tryd.prog laidL w) ∧ sizedMet enc Tryd.prog Tryd.f3 (OpenSpec.ofChange Rows.factsSpecSpec) false w args) (Rows.factsSpecSpec.post enc Tryd.prog Tryd.f3 false true false false) := by
  refine returnsInHanded_of_change_and (C := Tryd.checked) (X := fun w _ => laidMetH Tryd.prog laidL w) (fun _ _ _ hh h => h.of_heap hh) own started (by kernel_rfl) Tryd.func3
    (ChangeSpec.witness_shaped (enc := enc) (C := Tryd.checked) (os := os) (X := fun w _ => laidMetH Tryd.prog laidL w) false (World.doorLaid Tryd.prog 28 os) #[.slice none 0 0, .agg #[(.int .i64 0), (.int .i64 0), (.int .i64 0), (.int .i64 0), (.int .i64 0), (.int .i64 0), (.int .i64 0), (.int .i64 0), (.int .i64 0)]] 8 rfl (World.shaped_of_RefB (by kernel_rfl) (by kernel_rfl)) (by kernel_rfl) (by kernel_rfl) (by kernel_rfl) (door_met os _)) ?_
  intro W base args ds gs before hval0 hW hcnd hsz0 hL _
  have hrw := rows_of_laid hL
  have hsz : (DataW.weightsEach Tryd.prog (Tryd.f3.params.toList ++ Rows.factsSpecSpec.plain.varTypes Tryd.prog) (ds ++ gs)).all (· ≤ reachBytes) = true := hsz0
  have hval : ∀ (j : Nat) t v, Tryd.f3.params[j]? = some t → args[j]? = some v → Value.okWide Tryd.prog W .any base t v := hval0
  have hW' := hW
  obtain ⟨p, q, hA0, hV, rfl, hfz, hnd⟩ := hW
  have hA : DataW.TrodAll enc Tryd.prog W 0 (fun _ => true) true Tryd.f3.params.toList args.toList ds p := hA0
  rw [Tryd.params3] at hA hval hsz
  obtain ⟨v0, vs0, d0, ds0, p0, q0, hargs, rfl, rfl, h0, r0⟩ := trodAll_cons hA
  obtain ⟨v1, vs1, d1, ds1, p1, q1, rfl, rfl, rfl, h1, r1⟩ := trodAll_cons r0
  obtain ⟨rfl, rfl, rfl⟩ := trodAll_nil r1
  obtain rfl : args = #[v0, v1] := by cases args; simp_all
  obtain ⟨rfl, rfl⟩ := trodVars_none hV
  have k0 := h0
  have lt0 : ∀ x ∈ p0, x.block < W.heap.size := by obtain ⟨m, hm⟩ := k0; exact DataW.trod_lt m _ _ _ hm
  obtain ⟨l0, hK0, hB0⟩ : ∃ a_ : List (S24), (Kd.slice 24 k24).K W a_ v0.cells.toList ∧ (fun l_ : List (S24) => l_.length * 72 ≤ 140737488351232 ∧ ∀ a, a ∈ l_ → B24 a) a_ := arg (j := 0) (opn_slice (sz := 9) Tryd.underlying22 (by kernel_rfl) rfl (by kernel_rfl) opn24) hsz rfl rfl h0
  obtain ⟨a0, len0, cap0, rfl⟩ := okWide_slice Tryd.underlying22 (hval 0 22 v0 rfl rfl)
  obtain ⟨A0, c0, he0, hc0, hr0⟩ := hK0
  obtain ⟨rfl, rfl, rfl⟩ : a0 = A0 ∧ len0 = l0.length ∧ cap0 = c0 := by have := List.cons.inj he0; simpa using this
  have k1 := h1
  have lt1 : ∀ x ∈ p1, x.block < W.heap.size := by obtain ⟨m, hm⟩ := k1; exact DataW.trod_lt m _ _ _ hm
  obtain ⟨x1, hK1, hB1⟩ : ∃ a_ : S24, (k24).K W a_ v1.cells.toList ∧ B24 a_ := arg (j := 1) opn24 hsz rfl rfl h1
  obtain ⟨cs1, rfl, _⟩ := okWide_struct Tryd.underlying24 (hval 1 24 v1 rfl rfl)
  have ho1 := k24_open hK1
  have he1 := ho1
  obtain rfl := agg_of he1
  clear hA0 hval0 hsz0 hsz
  obtain ⟨k, h⟩ := Pure.FactsSpec l0 x1 hB0 hB1
  refine (fastilaw46_FactsSpec.calls k _ _ l0 x1.f0 x1.f1 x1.f2 x1.f3 x1.f4 x1.f5 x1.f6 x1.f7 x1.f8 true W hr0 hc0 h hrw).mono fun e W' he_ => ?_
  obtain ⟨he, bel0⟩ := he_
  subst he
  have bel : Below W.heap.size W W' := bel0
  exact ⟨_, rfl, _, _, _, [], _, [], hW', trodAll_mk1 (shut_bool Tryd.underlying4 _), (trodAll_cons_mk (Below.trod laidOut (by kernel_rfl) (of_decide_eq_true (by kernel_rfl)) k0 bel lt0) (trodAll_cons_mk (Below.trod laidOut (by kernel_rfl) (of_decide_eq_true (by kernel_rfl)) k1 bel lt1) trodAll_mk0)), rfl, bel.frame _, fun h => by cases h⟩
theorem over : Rows.factsSpecRow.holds Tryd.pinned (OpenSpec.ofChange Rows.factsSpecSpec) :=
  OpenClaim.holds_of_wide 3 Tryd.f3 rfl rfl rfl rfl rfl rfl rfl ⟨rfl, rfl, rfl, rfl, rfl⟩ rfl rfl rfl rfl rfl (by kernel_rfl) Tryd.func3 (by kernel_rfl)
    (of_decide_eq_true (by kernel_rfl)) (by unfold Func.isWrapper; first | (rw [if_pos (by decide +kernel)]; kernel_rfl) | (rw [if_neg (by decide +kernel)]; exact ⟨rfl, rfl⟩))
    (fun os started H enc _ => lifted os started H enc)
theorem proved : Rows.FactsSpecCardSaid :=
  Claim7.holds_tied_plain_at .later [] [.data] true (true, "25e62b46fb574479bbaa49f574636e523fa3f10f860c20300a91c53940a2b552") false
    over (fun _ h => by cases h) (by kernel_rfl) (fun _ h => by cases h) factsSpec_row_tie rfl ⟨rfl, rfl⟩ (by kernel_rfl) rfl
    (fun f fn hf hfn => by
      obtain rfl : f = 3 := Option.some.inj ((show Tryd.prog.funcNamed "fasti/fastilaw46.FactsSpec" = some 3 by kernel_rfl).symm.trans hf) |>.symm
      obtain rfl : fn = Tryd.f3 := (Option.some.inj (Tryd.func3.symm.trans hfn)).symm
      exact ⟨by kernel_rfl, fun j t ht => by
        rw [Tryd.params3] at ht
        have hm : t ∈ [22, 24] := by simpa using Array.mem_of_getElem? ht
        have hall : ([22, 24].all fun u => !Tryd.prog.wantsStandIn u) = true := by kernel_rfl
        exact (show Tryd.prog.wantsStandIn t = false by simpa using List.all_eq_true.1 hall t hm)⟩)
    (by kernel_rfl)
#print axioms proved
end Go.Proofs.YtebfcckaicgcfaaDoor.factsSpec
namespace Go.Proofs.YtebfcckaicgcfaaDoor
theorem factsSpecCard_holds : Rows.FactsSpecCardSaid := factsSpec.proved
end Go.Proofs.YtebfcckaicgcfaaDoor
