/- The tied card of the law FactsLatest: given the package's table as its initialiser lays it (the card ties that to the program's text): for every input the call returns true and leaves its arguments as they were. No condition but the form's own. -/
import Derived.Test.YtebfcckaicgcfaaDoorQ0
import Derived.Test.YtebfcckaicgcfaaDoorOpn
import Derived.Test.YtebfcckaicgcfaaDoorQ8
import Derived.Test.YtebfcckaicgcfaaDoorQ9
import Derived.Test.YtebfcckaicgcfaaDoorFAd
import Derived.Test.YtebfcckaicgcfaaDoorQ6
import Derived.Test.YtebfcckaicgcfaaDoorFSt
import Derived.Test.YtebfcckaicgcfaaDoorQ13
import Derived.Maps.RangeRun
import Derived.Test.YtebfcckaicgcfaaDoorRows
import Derived.WalkKit
import Derived.ProofKit
import Derived.OpenShut
import Derived.ShutString
import Derived.ChangeOld
import Derived.Below
import Derived.SizedLaws
import Derived.Test.YtebfcckaicgcfaaDoorFLa
import Derived.Test.YtebfcckaicgcfaaDoorTie
import Derived.Test.YtebfcckaicgcfaaDoorCards
import Derived.SevenTiedAt

namespace Go.Proofs.YtebfcckaicgcfaaDoor.Q
open Go.RowKit Go.Proofs.YtebfcckaicgcfaaDoor.Opn Go.Proofs.YtebfcckaicgcfaaDoorW.PrintWords Go.Proofs.YtebfcckaicgcfaaDoorW.PrintLast
set_option maxRecDepth 100000
def B24 (x : S24) : Prop := (fun a_ : Int => (Lit.int .i64 a_).wf = true) x.f0 ∧ (fun a_ : Int => (Lit.int .i64 a_).wf = true) x.f1 ∧ (fun a_ : Int => (Lit.int .i64 a_).wf = true) x.f2 ∧ (fun a_ : Int => (Lit.int .i64 a_).wf = true) x.f3 ∧ (fun a_ : Int => (Lit.int .i64 a_).wf = true) x.f4 ∧ (fun a_ : Int => (Lit.int .i64 a_).wf = true) x.f5 ∧ (fun a_ : Int => (Lit.int .i64 a_).wf = true) x.f6 ∧ (fun a_ : Int => (Lit.int .i64 a_).wf = true) x.f7 ∧ (fun a_ : Int => (Lit.int .i64 a_).wf = true) x.f8
theorem opn24 : Opn Tryd.prog 24 k24 B24 := opn_iso (fun a => ⟨a.1, a.2.1, a.2.2.1, a.2.2.2.1, a.2.2.2.2.1, a.2.2.2.2.2.1, a.2.2.2.2.2.2.1, a.2.2.2.2.2.2.2.1, a.2.2.2.2.2.2.2.2⟩) (fun _ => rfl) (opn_struct (sz := 9) Tryd.underlying24 (by kernel_rfl) rfl (opnF_cons (sz := 1) rfl (by kernel_rfl) rfl (opn_int Tryd.underlying3) (opnF_cons (sz := 1) rfl (by kernel_rfl) rfl (opn_int Tryd.underlying3) (opnF_cons (sz := 1) rfl (by kernel_rfl) rfl (opn_int Tryd.underlying3) (opnF_cons (sz := 1) rfl (by kernel_rfl) rfl (opn_int Tryd.underlying3) (opnF_cons (sz := 1) rfl (by kernel_rfl) rfl (opn_int Tryd.underlying3) (opnF_cons (sz := 1) rfl (by kernel_rfl) rfl (opn_int Tryd.underlying3) (opnF_cons (sz := 1) rfl (by kernel_rfl) rfl (opn_int Tryd.underlying3) (opnF_cons (sz := 1) rfl (by kernel_rfl) rfl (opn_int Tryd.underlying3) (opnF_one (sz := 1) rfl (by kernel_rfl) rfl (opn_int Tryd.underlying3)))))))))))

end Go.Proofs.YtebfcckaicgcfaaDoor.Q

namespace Go.Proofs.YtebfcckaicgcfaaDoor.Q
open Go.RowKit Go.Proofs.YtebfcckaicgcfaaDoorW.PrintWords Go.Proofs.YtebfcckaicgcfaaDoorW.PrintLast Go.Proofs.YtebfcckaicgcfaaDoorW.PrintMore
set_option linter.unusedVariables false
set_option linter.unusedSimpArgs false

theorem rwithin (x lo hi : Int) : fastiref46_within.f x lo hi = some (wi x lo hi) := by
  unfold fastiref46_within.f wi
  by_cases h : lo ≤ x <;> simp [h]
theorem rmoment (x : Int) : fastiref46_Moment.f x = some (wi x 0 134217727) := by
  unfold fastiref46_Moment.f
  rw [rwithin]
  rfl
theorem ite_sf (p : Prop) [Decidable p] (b : Bool) : (if p then some b else some false) = some (decide p && b) := by by_cases h : p <;> simp [h]
theorem wi00 (x : Int) : wi x 0 0 = decide (x = 0) := by
  unfold wi
  by_cases h : x = 0
  · subst h; rfl
  · rw [decide_eq_false h]
    by_cases h2 : 0 ≤ x
    · rw [decide_eq_false (show ¬ x ≤ 0 by omega), Bool.and_false]
    · rw [decide_eq_false h2, Bool.false_and]
/-- What the reference asks of a fact's subject and numbers is what the table says. -/
theorem ref_parts (k : Nat) (r : S24) : (fastiref46_subject.f (k + 2) r.f0 r.f1 r.f2 r.f3 r.f4 r.f5 r.f6 r.f7 r.f8).bind (fun s => if s = true then (fastiref46_numbers.f r.f0 r.f1 r.f2 r.f3 r.f4 r.f5 r.f6 r.f7 r.f8).bind (fun b => some b) else some false) = some (wi r.f1 1 6 && vRow r (rowV r.f1)) := by
  obtain ⟨f0, f1, f2, f3, f4, f5, f6, f7, f8⟩ := r
  dsimp only
  have e0 : ∀ x : Int, (x == 0) = decide (x = 0) := fun x => by by_cases h : x = 0 <;> simp [h]
  by_cases h : 1 ≤ f1 ∧ f1 ≤ 6
  · have hk : f1 = 1 ∨ f1 = 2 ∨ f1 = 3 ∨ f1 = 4 ∨ f1 = 5 ∨ f1 = 6 := by omega
    rcases hk with rfl | rfl | rfl | rfl | rfl | rfl
    · have hv : rowV 1 = (0, 1023, 0, 0, 0, 99, 0, 99) := rfl
      simp only [hv, vRow, wi00, fastiref46_subject.f, fastiref46_subject.j0, fastiref46_subject.j1, fastiref46_numbers.f, rwithin, Option.bind_some, ite_sf, e0]
      by_cases h5 : f5 = -1 <;> simp [h5, e0, wi00, Bool.and_comm, Bool.and_left_comm, Bool.and_assoc, ite_sf, show wi 1 1 6 = true from rfl]
    · have hv : rowV 2 = (0, 0, 63, 73048, 1, 512, 0, 0) := rfl
      simp only [hv, vRow, wi00, fastiref46_subject.f, fastiref46_subject.j0, fastiref46_subject.j1, fastiref46_numbers.f, rwithin, Option.bind_some, ite_sf, e0]
      by_cases h5 : f5 = -1 <;> simp [h5, e0, wi00, Bool.and_comm, Bool.and_left_comm, Bool.and_assoc, ite_sf, show wi 2 1 6 = true from rfl]
    · have hv : rowV 3 = (63, 0, 0, 73048, 1, 512, 0, 0) := rfl
      simp only [hv, vRow, wi00, fastiref46_subject.f, fastiref46_subject.j0, fastiref46_subject.j1, fastiref46_numbers.f, rwithin, Option.bind_some, ite_sf, e0]
      by_cases h5 : f5 = -1 <;> simp [h5, e0, wi00, Bool.and_comm, Bool.and_left_comm, Bool.and_assoc, ite_sf, show wi 3 1 6 = true from rfl]
    · have hv : rowV 4 = (0, 0, 0, 73048, 1, 512, 0, 1440) := rfl
      simp only [hv, vRow, wi00, fastiref46_subject.f, fastiref46_subject.j0, fastiref46_subject.j1, fastiref46_numbers.f, rwithin, Option.bind_some, ite_sf, e0]
      by_cases h5 : f5 = -1 <;> simp [h5, e0, wi00, Bool.and_comm, Bool.and_left_comm, Bool.and_assoc, ite_sf, show wi 4 1 6 = true from rfl]
    · have hv : rowV 5 = (63, 0, 0, 73048, 0, 0, 0, 0) := rfl
      simp only [hv, vRow, wi00, fastiref46_subject.f, fastiref46_subject.j0, fastiref46_subject.j1, fastiref46_numbers.f, rwithin, Option.bind_some, ite_sf, e0]
      by_cases h5 : f5 = -1 <;> simp [h5, e0, wi00, Bool.and_comm, Bool.and_left_comm, Bool.and_assoc, ite_sf, show wi 5 1 6 = true from rfl]
    · have hv : rowV 6 = (0, 1023, 0, 0, 0, 73048, 0, 15) := rfl
      simp only [hv, vRow, wi00, fastiref46_subject.f, fastiref46_subject.j0, fastiref46_subject.j1, fastiref46_numbers.f, rwithin, Option.bind_some, ite_sf, e0]
      by_cases h5 : f5 = -1 <;> simp [h5, e0, wi00, Bool.and_comm, Bool.and_left_comm, Bool.and_assoc, ite_sf, show wi 6 1 6 = true from rfl]
  · have hw : wi f1 1 6 = false := by
      cases hc : wi f1 1 6 with
      | false => rfl
      | true => exact absurd (wi_iff.1 hc) h
    have h1 : ¬ f1 = 1 := by omega
    have h2 : ¬ f1 = 2 := by omega
    have h3 : ¬ f1 = 3 := by omega
    have h4 : ¬ f1 = 4 := by omega
    have h5 : ¬ f1 = 5 := by omega
    have h6 : ¬ f1 = 6 := by omega
    simp [hw, fastiref46_subject.f, fastiref46_subject.j0, fastiref46_subject.j1, h1, h2, h3, h4, h5, h6]
theorem ref_right (k : Nat) (r : S24) : fastiref46_Right.f (k + 2) r.f0 r.f1 r.f2 r.f3 r.f4 r.f5 r.f6 r.f7 r.f8 = some (fB r) := by
  unfold fastiref46_Right.f fB
  rw [rwithin, Option.bind_some]
  cases h1 : wi r.f0 0 1048576 with
  | false => simp
  | true =>
    rw [if_pos rfl, rmoment, Option.bind_some]
    cases h2 : wi r.f8 0 134217727 with
    | false => simp
    | true =>
      rw [if_pos rfl]
      have := ref_parts k r
      rw [Bool.true_and, Bool.true_and]
      exact this
theorem refchk_loop (l : List S24) (hn : l.length ≤ 4096) : ∀ (m i : Nat), i + m = l.length → ∀ k, m + 2 < k →
    fastiref46_Check.l0 k l (i : Int) = some (if (List.range' i m).all (goodAt l) then 0 else 460)
  | 0, i, h, k + 1, _ => by
    unfold fastiref46_Check.l0
    rw [if_neg (by omega)]
    simp
  | m + 1, i, h, k + 3, hk => by
    have hw : wrap64 ((i : Int) + 1) = ((i + 1 : Nat) : Int) := by rw [wr_in (by omega)]; omega
    unfold fastiref46_Check.l0
    rw [if_pos (by omega), if_pos (by omega), ref_right, Option.bind_some, List.range'_succ, List.all_cons]
    have ih := refchk_loop l hn m (i + 1) (by omega) (k + 2) (by omega)
    cases hv : fB (rd_T24 l (i : Int)) with
    | false =>
      rw [if_neg (by simp)]
      have hg : goodAt l i = false := by unfold goodAt; rw [hv]; rfl
      rw [hg]
      rfl
    | true =>
      rw [if_pos rfl]
      by_cases h0 : i = 0
      · subst h0
        have hg : goodAt l 0 = true := by unfold goodAt; rw [hv]; rfl
        rw [if_neg (by omega), hw, ih, hg]
        rfl
      · have hw1 : wrap64 ((i : Int) - 1) = ((i - 1 : Nat) : Int) := by rw [wr_in (by omega)]; omega
        rw [if_pos (by omega), hw1, if_pos (by omega), if_pos (by omega)]
        have hg : goodAt l i = decide ((rd_T24 l ((i - 1 : Nat) : Int)).f0 < (rd_T24 l (i : Int)).f0) := by unfold goodAt; rw [hv]; simp [h0]
        by_cases h1 : (rd_T24 l ((i - 1 : Nat) : Int)).f0 < (rd_T24 l (i : Int)).f0
        · rw [if_neg (by omega), hw, ih, hg, decide_eq_true h1]
          rfl
        · rw [if_pos (by omega), hg, decide_eq_false h1]
          rfl
theorem ref_chk (l : List S24) (k : Nat) (hk : l.length + 2 < k) : fastiref46_Check.f k l = some (chkV l) := by
  unfold fastiref46_Check.f chkV
  by_cases h : 4096 < l.length
  · rw [if_pos (by omega), if_pos h]
  · rw [if_neg (by omega), if_neg h]
    have := refchk_loop l (by omega) l.length 0 (by omega) k hk
    rw [← List.range_eq_range'] at this
    exact this
theorem chk_le {f : Nat → Option Int} (hm : ∀ k, LeO (f k) (f (k + 1))) {a b : Nat} (h : a ≤ b) {v : Int} (hv : f a = some v) : f b = some v := by
  induction h with
  | refl => exact hv
  | step _ ih => exact hm _ _ ih
theorem wchk (l : List S24) (k : Nat) (hk : l.length + 3 ≤ k) : facts_Check.f k l = some (chkV l) := chk_le (fun k => facts_Check.mono l k) hk (chk_eq l)


theorem posV_spec : ∀ (l : List S24) (x : Int), (∀ j, j < posV l x → noAt l j < x) ∧ (posV l x < l.length → x ≤ noAt l (posV l x))
  | [], x => ⟨fun j hj => by simp [posV] at hj, fun h => by simp at h⟩
  | a :: r, x => by
    by_cases h : a.f0 < x
    · have hp : posV (a :: r) x = posV r x + 1 := by unfold posV; rw [List.takeWhile_cons, if_pos (decide_eq_true h), List.length_cons]
      have ih := posV_spec r x
      have hc : ∀ j, noAt (a :: r) (j + 1) = noAt r j := fun j => by simp [noAt, rd_T24]
      rw [hp]
      refine ⟨fun j hj => ?_, fun hj => ?_⟩
      · cases j with
        | zero => rw [noAt_get _ _ (by simp)]; exact h
        | succ j => rw [hc]; exact ih.1 j (by omega)
      · rw [hc]
        exact ih.2 (by simpa using hj)
    · have hp : posV (a :: r) x = 0 := by unfold posV; rw [List.takeWhile_cons, if_neg (by simpa using h)]; rfl
      rw [hp]
      refine ⟨fun j hj => by omega, fun hj => ?_⟩
      rw [noAt_get _ _ (by simp)]
      show x ≤ a.f0
      omega

end Go.Proofs.YtebfcckaicgcfaaDoor.Q

namespace Go.Proofs.YtebfcckaicgcfaaDoor.Q
open Go.RowKit Go.Proofs.YtebfcckaicgcfaaDoorW.PrintWords Go.Proofs.YtebfcckaicgcfaaDoorW.PrintLast Go.Proofs.YtebfcckaicgcfaaDoorW.PrintMore
set_option linter.unusedVariables false
set_option linter.unusedSimpArgs false

theorem sane_20 : fastilaw46_sane.f 20 = some true := by kernel_rfl
theorem le_of {α : Type} {f : Nat → Option α} (hm : ∀ k, LeO (f k) (f (k + 1))) {a b : Nat} (h : a ≤ b) {v : α} (hv : f a = some v) : f b = some v := by
  induction h with
  | refl => exact hv
  | step _ ih => exact hm _ _ ih
theorem sane_k (k : Nat) (hk : 20 ≤ k) : fastilaw46_sane.f k = some true := le_of (fun k => fastilaw46_sane.mono k) hk sane_20
theorem same_loop (l : List S24) (hn : l.length ≤ 10000) : ∀ (m i : Nat), i + m = l.length → ∀ k, m < k → fastiref46_Same.l0 k l l (i : Int) = some true
  | 0, i, h, k + 1, _ => by
    rw [fastiref46_Same.l0, if_neg (by omega)]
  | m + 1, i, h, k + 1, hk => by
    have hw : wrap64 ((i : Int) + 1) = ((i + 1 : Nat) : Int) := by rw [wr_in (by omega)]; omega
    rw [fastiref46_Same.l0, if_pos (by omega), if_pos (by omega), if_pos (by omega), if_neg (by simp), hw]
    exact same_loop l hn m (i + 1) (by omega) k (by omega)
theorem same_refl (l : List S24) (hn : l.length ≤ 10000) (k : Nat) (hk : l.length < k) : fastiref46_Same.f k l l = some true := by
  unfold fastiref46_Same.f
  rw [if_pos rfl]
  exact same_loop l hn l.length 0 (by omega) k hk
theorem insAt_length' (l : List S24) (i : Nat) (r : S24) (h : i ≤ l.length) : (insAt l i r).length = l.length + 1 := insAt_length l i r h
theorem addV_length (l : List S24) (r : S24) : (addV l r).1.length ≤ l.length + 1 := by
  unfold addV
  split
  · split
    · split
      · simp
      · split
        · simp
        · rw [insAt_length _ _ _ (posV_le l r.f0)]
          omega
    · simp
  · simp
theorem few_eq (l : List S24) : ∃ b, fastiref46_Few.f l = some b ∧ (b = true → l.length ≤ 5000) := by
  unfold fastiref46_Few.f
  split
  · exact ⟨_, rfl, fun _ => by omega⟩
  · split
    · exact ⟨_, rfl, fun h => by have := of_decide_eq_true h; omega⟩
    · exact ⟨_, rfl, fun h => by cases h⟩
end Go.Proofs.YtebfcckaicgcfaaDoor.Q

namespace Go.Proofs.YtebfcckaicgcfaaDoor.Q
open Go.RowKit Go.Proofs.YtebfcckaicgcfaaDoorW.PrintWords Go.Proofs.YtebfcckaicgcfaaDoorW.PrintLast Go.Proofs.YtebfcckaicgcfaaDoorW.PrintMore
set_option linter.unusedVariables false
set_option linter.unusedSimpArgs false

abbrev Fct := S24
theorem rd_get (l : List Fct) (i : Nat) (hi : i < l.length) : rd_T24 l (i : Int) = l[i] := by simp [rd_T24, List.getD_eq_getElem?_getD, hi]
/-- A right list: few enough, of right facts, their numbers rising. -/
def RightL (l : List Fct) : Prop := l.length ≤ 4096 ∧ (∀ x ∈ l, fB x = true) ∧ l.Pairwise (fun a b => a.f0 < b.f0)
theorem right_of_chk {l : List Fct} (h : chkV l = 0) : RightL l := by
  refine ⟨(chk_ok h).1, chk_valid h, ?_⟩
  rw [List.pairwise_iff_getElem]
  intro i j hi hj hij
  have := sorted_ h i j hij hj
  rwa [noAt_get l i hi, noAt_get l j hj] at this
theorem chk_of_right {l : List Fct} (h : RightL l) : chkV l = 0 := by
  obtain ⟨h1, h2, h3⟩ := h
  unfold chkV
  rw [if_neg (by omega), if_pos]
  rw [List.all_eq_true]
  intro i hi
  have hi := List.mem_range.1 hi
  unfold goodAt
  rw [rd_get l i hi, h2 _ (List.getElem_mem hi), Bool.true_and]
  by_cases h0 : i = 0
  · simp [h0]
  · have h4 := (List.pairwise_iff_getElem.1 h3) (i - 1) i (by omega) hi (by omega)
    rw [rd_get l (i - 1) (by omega), decide_eq_true h4, Bool.or_true]
theorem RightL.sub {l l' : List Fct} (h : RightL l) (hs : l'.Sublist l) : RightL l' :=
  ⟨Nat.le_trans hs.length_le h.1, fun x hx => h.2.1 x (hs.subset hx), h.2.2.sublist hs⟩
theorem RightL.uniq {l : List Fct} (h : RightL l) {x y : Fct} (hx : x ∈ l) (hy : y ∈ l) (e : x.f0 = y.f0) : x = y := by
  obtain ⟨i, hi, rfl⟩ := List.getElem_of_mem hx
  obtain ⟨j, hj, rfl⟩ := List.getElem_of_mem hy
  have hp := List.pairwise_iff_getElem.1 h.2.2
  rcases Nat.lt_trichotomy i j with h1 | h1 | h1
  · have := hp i j hi hj h1; omega
  · subst h1; rfl
  · have := hp j i hj hi h1; omega

/-- Is y later than x? -/
def later (y x : Fct) : Bool := decide (x.f8 < y.f8) || (decide (x.f8 = y.f8) && decide (x.f0 < y.f0))
theorem later_iff {y x : Fct} : later y x = true ↔ x.f8 < y.f8 ∨ (x.f8 = y.f8 ∧ x.f0 < y.f0) := by simp [later]
theorem later_no {y x : Fct} : later y x = false ↔ ¬ (x.f8 < y.f8 ∨ (x.f8 = y.f8 ∧ x.f0 < y.f0)) := by rw [← later_iff]; simp
/-- Does x stand at t among l? -/
def standB (l : List Fct) (t : Int) (x : Fct) : Bool := decide (x.f8 ≤ t) && ((x.f5 != -1) && l.all (fun y => !(decide (y.f8 ≤ t) && (decide (subOf y = subOf x) && later y x))))
theorem standB_iff {l : List Fct} {t : Int} {x : Fct} : standB l t x = true ↔ x.f8 ≤ t ∧ x.f5 ≠ -1 ∧ ∀ y ∈ l, y.f8 ≤ t → subOf y = subOf x → later y x = false := by
  unfold standB
  rw [Bool.and_eq_true, Bool.and_eq_true, decide_eq_true_eq, bne_iff_ne, List.all_eq_true]
  refine and_congr Iff.rfl (and_congr Iff.rfl ?_)
  constructor
  · intro h y hy h1 h2
    have := h y hy
    simpa [h1, h2] using this
  · intro h y hy
    by_cases h1 : y.f8 ≤ t
    · by_cases h2 : subOf y = subOf x
      · simp [h1, h2, h y hy h1 h2]
      · simp [h2]
    · simp [h1]

theorem mget_mput (m : List (Sub × Fct)) (s : Sub) (v : Fct) (s' : Sub) : mget (mput m s v) s' = if s' = s then some v else mget m s' := by
  induction m with
  | nil =>
    unfold mput mget
    by_cases h : s' = s
    · simp [h]
    · have h' : ¬ s = s' := fun e => h e.symm
      simp [h, h']
  | cons p r ih =>
    unfold mput
    by_cases h : p.1 = s
    · rw [if_pos h]
      unfold mget
      by_cases h2 : s' = s
      · simp [h2]
      · have h' : ¬ s = s' := fun e => h2 e.symm
        have h3 : ¬ p.1 = s' := fun e => h2 (e.symm.trans h)
        simp [h2, h', h3]
    · rw [if_neg h]
      unfold mget at ih ⊢
      by_cases h2 : p.1 = s'
      · have h3 : ¬ s' = s := fun e => h (h2.trans e)
        simp [h2, h3]
      · rw [List.find?_cons_of_neg (by simpa using h2), List.find?_cons_of_neg (by simpa using h2)]
        exact ih
/-- z is the latest of D about s. -/
def IsL (D : List Fct) (s : Sub) (z : Fct) : Prop := z ∈ D ∧ subOf z = s ∧ ∀ y ∈ D, subOf y = s → later y z = false
def MInv (D : List Fct) (m : List (Sub × Fct)) : Prop := ∀ s, (∀ z, mget m s = some z → IsL D s z) ∧ (mget m s = none → ∀ y ∈ D, subOf y ≠ s)
theorem minv_step {D : List Fct} {m : List (Sub × Fct)} {y : Fct} (h : MInv D m) (hy : ∀ x ∈ D, x.f0 < y.f0) : MInv (D ++ [y]) (stepM m y) := by
  intro s
  by_cases hs : s = subOf y
  · subst hs
    have h0 := h (subOf y)
    have hnew : (∀ x ∈ D, subOf x = subOf y → x.f8 ≤ y.f8) → IsL (D ++ [y]) (subOf y) y := fun hle => by
      refine ⟨by simp, rfl, fun y' hy' e => ?_⟩
      rw [later_no]
      rcases List.mem_append.1 hy' with h1 | h1
      · have a := hle y' h1 e
        have b := hy y' h1
        omega
      · obtain rfl := List.mem_singleton.1 h1
        omega
    unfold stepM
    cases hg : mget m (subOf y) with
    | none =>
      have hno := h0.2 hg
      simp only [mget_mput, if_true]
      exact ⟨fun z hz => by cases hz; exact hnew (fun x hx e => absurd e (hno x hx)), fun hz => by cases hz⟩
    | some z =>
      obtain ⟨z1, z2, z3⟩ := h0.1 z hg
      by_cases hc : z.f8 ≤ y.f8
      · simp only [if_pos hc, mget_mput, if_true]
        refine ⟨fun z' hz => ?_, fun hz => by cases hz⟩
        cases hz
        refine hnew (fun x hx e => ?_)
        have := later_no.1 (z3 x hx e)
        omega
      · simp only [if_neg hc, hg]
        refine ⟨fun z' hz => ?_, fun hz => by cases hz⟩
        cases hz
        refine ⟨by simp [z1], z2, fun y' hy' e => ?_⟩
        rcases List.mem_append.1 hy' with h1 | h1
        · exact z3 y' h1 e
        · obtain rfl := List.mem_singleton.1 h1
          rw [later_no]
          omega
  · have hm : mget (stepM m y) s = mget m s := by
      unfold stepM
      split
      · rw [mget_mput, if_neg hs]
      · split
        · rw [mget_mput, if_neg hs]
        · rfl
    rw [hm]
    obtain ⟨a, b⟩ := h s
    refine ⟨fun z hz => ?_, fun hz y' hy' => ?_⟩
    · obtain ⟨z1, z2, z3⟩ := a z hz
      refine ⟨by simp [z1], z2, fun y' hy' e => ?_⟩
      rcases List.mem_append.1 hy' with h1 | h1
      · exact z3 y' h1 e
      · obtain rfl := List.mem_singleton.1 h1
        exact absurd e.symm hs
    · rcases List.mem_append.1 hy' with h1 | h1
      · exact b hz y' h1
      · obtain rfl := List.mem_singleton.1 h1
        exact fun e => hs e.symm
theorem minv_fold : ∀ (R D : List Fct) (m : List (Sub × Fct)), MInv D m → (D ++ R).Pairwise (fun a b => a.f0 < b.f0) → MInv (D ++ R) (R.foldl stepM m)
  | [], D, m, h, _ => by simpa using h
  | y :: R, D, m, h, hp => by
    have e : D ++ y :: R = (D ++ [y]) ++ R := by simp
    rw [e] at hp ⊢
    refine minv_fold R (D ++ [y]) (stepM m y) (minv_step h (fun x hx => ?_)) hp
    have := (List.pairwise_append.1 hp).1
    exact (List.pairwise_append.1 this).2.2 x hx y (by simp)
theorem mapL_inv {K : List Fct} (hp : K.Pairwise (fun a b => a.f0 < b.f0)) : MInv K (mapL K) := by
  have := minv_fold K [] [] (fun s => ⟨fun z hz => by simp [mget] at hz, fun _ y hy => by simp at hy⟩) (by simpa using hp)
  rw [List.nil_append] at this
  exact this
theorem fEq_iff {x y : Fct} : fEq x y = true ↔ x = y := by
  obtain ⟨a0, a1, a2, a3, a4, a5, a6, a7, a8⟩ := x
  obtain ⟨b0, b1, b2, b3, b4, b5, b6, b7, b8⟩ := y
  simp [fEq]
theorem standV_eq {l : List Fct} {t : Int} (h : chkV l = 0) (ht : wi t 0 134217727 = true) : standV l t = (l.filter (standB l t), 0) := by
  have hR := right_of_chk h
  unfold standV
  rw [if_pos h, if_pos ht]
  congr 1
  have hK : RightL (knownV t l) := hR.sub (List.filter_sublist ..)
  have hI := mapL_inv hK.2.2
  generalize hM : mapL (knownV t l) = M at hI
  unfold knownV
  rw [List.filter_filter]
  refine List.filter_congr fun x hx => ?_
  by_cases hxt : x.f8 ≤ t
  · rw [decide_eq_true hxt, Bool.and_true]
    have hxK : x ∈ knownV t l := List.mem_filter.2 ⟨hx, decide_eq_true hxt⟩
    cases hg : mget M (subOf x) with
    | none => exact absurd rfl ((hI (subOf x)).2 hg x hxK)
    | some z =>
      obtain ⟨z1, z2, z3⟩ := (hI (subOf x)).1 z hg
      rw [Bool.eq_iff_iff, standB_iff]
      unfold stB
      rw [hg, Option.getD_some, Bool.and_eq_true, fEq_iff, bne_iff_ne]
      constructor
      · rintro ⟨rfl, h5⟩
        exact ⟨hxt, h5, fun y hy h1 h2 => z3 y (List.mem_filter.2 ⟨hy, decide_eq_true h1⟩) h2⟩
      · rintro ⟨_, h5, hall⟩
        refine ⟨?_, h5⟩
        have hz := List.mem_filter.1 z1
        have a := later_no.1 (hall z hz.1 (of_decide_eq_true hz.2) z2)
        have b := later_no.1 (z3 x hxK rfl)
        exact hR.uniq hz.1 hx (by omega)
  · rw [decide_eq_false hxt, Bool.and_false]
    unfold standB
    rw [decide_eq_false hxt, Bool.false_and]
end Go.Proofs.YtebfcckaicgcfaaDoor.Q

namespace Go.Proofs.YtebfcckaicgcfaaDoor.Q
open Go.RowKit Go.Proofs.YtebfcckaicgcfaaDoorW.PrintWords Go.Proofs.YtebfcckaicgcfaaDoorW.PrintLast Go.Proofs.YtebfcckaicgcfaaDoorW.PrintMore
set_option linter.unusedVariables false
set_option linter.unusedSimpArgs false

theorem ref_about (a b : Fct) : fastiref46_About.f a.f0 a.f1 a.f2 a.f3 a.f4 a.f5 a.f6 a.f7 a.f8 b.f0 b.f1 b.f2 b.f3 b.f4 b.f5 b.f6 b.f7 b.f8 = some (decide (subOf a = subOf b)) := by
  unfold fastiref46_About.f subOf
  by_cases h1 : a.f1 = b.f1 <;> by_cases h2 : a.f2 = b.f2 <;> by_cases h3 : a.f3 = b.f3 <;> by_cases h4 : a.f4 = b.f4 <;> by_cases h5 : a.f7 = b.f7 <;> simp [h1, h2, h3, h4, h5]
theorem ref_later (a b : Fct) : fastiref46_Later.f a.f0 a.f1 a.f2 a.f3 a.f4 a.f5 a.f6 a.f7 a.f8 b.f0 b.f1 b.f2 b.f3 b.f4 b.f5 b.f6 b.f7 b.f8 = some (later a b) := by
  unfold fastiref46_Later.f later
  by_cases h : a.f8 > b.f8
  · have h' : b.f8 < a.f8 := h
    simp [h, h']
  · rw [if_neg h]
    have h' : ¬ b.f8 < a.f8 := h
    by_cases h2 : a.f8 = b.f8
    · simp [h', h2]
    · have h3 : ¬ b.f8 = a.f8 := fun e => h2 e.symm
      simp [h', h2, h3]
theorem stands_loop (l : List Fct) (x : Fct) (t : Int) (hn : l.length ≤ 4096) : ∀ (m i : Nat), i + m = l.length → ∀ k, m < k →
    fastiref46_stands.l0 k l t (i : Int) x.f0 x.f1 x.f2 x.f3 x.f4 x.f5 x.f6 x.f7 x.f8 = some ((l.drop i).all (fun y => !(decide (y.f8 ≤ t) && (decide (subOf y = subOf x) && later y x))))
  | 0, i, h, k + 1, _ => by
    rw [fastiref46_stands.l0, if_neg (by omega), List.drop_eq_nil_of_le (by omega)]
    rfl
  | m + 1, i, h, k + 1, hk => by
    have hw : wrap64 ((i : Int) + 1) = ((i + 1 : Nat) : Int) := by rw [wr_in (by omega)]; omega
    have ih := stands_loop l x t hn m (i + 1) (by omega) k (by omega)
    rw [fastiref46_stands.l0, if_pos (by omega), if_pos (by omega), hw, ih, ref_about, ref_later, rd_get l i (by omega), List.drop_eq_getElem_cons (show i < l.length by omega), List.all_cons]
    by_cases h1 : l[i].f8 ≤ t
    · rw [if_pos h1, Option.bind_some]
      by_cases h2 : subOf l[i] = subOf x
      · rw [if_pos (decide_eq_true h2), Option.bind_some]
        cases h3 : later l[i] x with
        | true => simp [h1, h2]
        | false => simp [h1, h2]
      · rw [if_neg (by simpa using h2)]
        simp [h2]
    · rw [if_neg h1]
      simp [h1]
theorem ref_stands (l : List Fct) (x : Fct) (t : Int) (hn : l.length ≤ 4096) (k : Nat) (hk : l.length + 2 ≤ k) : fastiref46_stands.f k l x.f0 x.f1 x.f2 x.f3 x.f4 x.f5 x.f6 x.f7 x.f8 t = some (standB l t x) := by
  obtain ⟨q, rfl⟩ : ∃ q, k = q + 1 := ⟨k - 1, by omega⟩
  have hL := stands_loop l x t hn l.length 0 (by omega) q (by omega)
  rw [List.drop_zero] at hL
  unfold fastiref46_stands.f standB
  by_cases h1 : x.f8 > t
  · rw [if_pos h1, fastiref46_stands.j0, if_pos rfl, decide_eq_false (show ¬ x.f8 ≤ t by omega)]
    rfl
  · rw [if_neg h1, fastiref46_stands.j0, decide_eq_true (show x.f8 ≤ t by omega)]
    by_cases h2 : x.f5 = -1
    · simp [h2]
    · rw [if_neg (by simpa using h2)]
      have h3 : (x.f5 != -1) = true := by simpa using h2
      rw [h3, Bool.true_and, Bool.true_and]
      exact hL
theorem standing_loop (l : List Fct) (t : Int) (hn : l.length ≤ 4096) : ∀ (m i : Nat) (acc : List Fct), i + m = l.length → acc.length ≤ i → ∀ k, m + l.length + 2 < k →
    fastiref46_Standing.l0 k l t acc (i : Int) = some (acc ++ (l.drop i).filter (standB l t), 0)
  | 0, i, acc, h, _, k + 1, _ => by
    rw [fastiref46_Standing.l0, if_neg (by omega), List.drop_eq_nil_of_le (by omega)]
    simp
  | m + 1, i, acc, h, ha, k + 1, hk => by
    have hw : wrap64 ((i : Int) + 1) = ((i + 1 : Nat) : Int) := by rw [wr_in (by omega)]; omega
    rw [fastiref46_Standing.l0, if_pos (by omega), if_pos (by omega), rd_get l i (by omega), ref_stands l _ t hn k (by omega), Option.bind_some, hw, List.drop_eq_getElem_cons (show i < l.length by omega)]
    cases hs : standB l t l[i] with
    | true =>
      rw [if_pos rfl, if_pos (by omega), standing_loop l t hn m (i + 1) _ (by omega) (by simp; omega) k (by omega), List.filter_cons_of_pos hs]
      simp
    | false =>
      rw [if_neg (by simp), standing_loop l t hn m (i + 1) acc (by omega) (by omega) k (by omega), List.filter_cons_of_neg (by simp [hs])]
theorem ref_standing (l : List Fct) (t : Int) (k : Nat) (hk : 2 * l.length + 5 ≤ k) : fastiref46_Standing.f k l t = some (standV l t) := by
  unfold fastiref46_Standing.f
  rw [ref_chk l k (by omega), Option.bind_some]
  by_cases h : chkV l = 0
  · rw [if_pos h, rmoment, Option.bind_some]
    cases ht : wi t 0 134217727 with
    | true =>
      rw [if_pos rfl, standV_eq h ht]
      have := standing_loop l t (chk_ok h).1 l.length 0 [] (by omega) (by simp) k (by omega)
      simpa using this
    | false =>
      unfold standV
      rw [if_pos h, ht]
      rfl
  · unfold standV
    rw [if_neg h, if_neg h]
theorem due_loop (l : List Fct) (no a : Int) (hn : l.length ≤ 4096) : ∀ (m i : Nat), i + m = l.length → (∀ j, j < i → noAt l j ≠ no) → ∀ k, m < k →
    fastiref46_Due.l0 k no a l (i : Int) = some (match l.findIdx? (fun r => decide (r.f0 = no)) with
    | some k => (l.set k ⟨(rd_T24 l k).f0, (rd_T24 l k).f1, (rd_T24 l k).f2, (rd_T24 l k).f3, (rd_T24 l k).f4, (rd_T24 l k).f5, (rd_T24 l k).f6, (rd_T24 l k).f7, a⟩, 0)
    | none => ([], 460))
  | 0, i, h, h0, k + 1, _ => by
    obtain rfl : i = l.length := by omega
    rw [fastiref46_Due.l0, if_neg (by omega), idx_none h0]
  | m + 1, i, h, h0, k + 1, hk => by
    have hw : wrap64 ((i : Int) + 1) = ((i + 1 : Nat) : Int) := by rw [wr_in (by omega)]; omega
    rw [fastiref46_Due.l0, if_pos (by omega), if_pos (by omega)]
    by_cases h1 : (rd_T24 l (i : Int)).f0 = no
    · rw [if_pos h1, idx_some (show i < l.length by omega) h0 h1]
      simp
    · rw [if_neg h1, hw]
      refine due_loop l no a hn m (i + 1) (by omega) (fun j hj => ?_) k (by omega)
      rcases Nat.lt_succ_iff_lt_or_eq.1 hj with h2 | rfl
      · exact h0 j h2
      · exact h1
theorem ref_due (l : List Fct) (no a : Int) (k : Nat) (hk : l.length + 5 ≤ k) : fastiref46_Due.f k l no a = some (dueV l no a) := by
  unfold fastiref46_Due.f dueV
  rw [ref_chk l k (by omega), Option.bind_some]
  by_cases h : chkV l = 0
  · have hn := (chk_ok h).1
    rw [if_pos h, if_pos h, rmoment, Option.bind_some]
    cases ht : wi a 0 134217727 with
    | true =>
      rw [if_pos rfl, if_pos rfl, Option.bind_some, if_pos (by simp; omega), List.nil_append]
      exact due_loop l no a hn l.length 0 (by omega) (fun j hj => by omega) k (by omega)
    | false => rfl
  · rw [if_neg h, if_neg h]
theorem standV_length (l : List Fct) (t : Int) : (standV l t).1.length ≤ l.length := by
  unfold standV
  split
  · split
    · unfold knownV
      rw [List.filter_filter]
      exact List.length_filter_le _ _
    · simp
  · simp
theorem dueV_length (l : List Fct) (no a : Int) : (dueV l no a).1.length ≤ l.length := by
  unfold dueV
  split
  · split
    · split
      · simp
      · simp
    · simp
  · simp
end Go.Proofs.YtebfcckaicgcfaaDoor.Q

namespace Go.Proofs.YtebfcckaicgcfaaDoor.Q
open Go.RowKit Go.Proofs.YtebfcckaicgcfaaDoorW.PrintWords Go.Proofs.YtebfcckaicgcfaaDoorW.PrintLast Go.Proofs.YtebfcckaicgcfaaDoorW.PrintMore
set_option linter.unusedVariables false
set_option linter.unusedSimpArgs false

theorem right_eq (l : List Fct) (k : Nat) (hk : l.length + 3 ≤ k) : fastilaw46_right.f k l = some (decide (l.length ≤ 300) && decide (chkV l = 0)) := by
  unfold fastilaw46_right.f
  by_cases h : l.length ≤ 300
  · rw [if_pos (by omega), ref_chk l k (by omega), Option.bind_some, decide_eq_true h, Bool.true_and]
    by_cases h2 : chkV l = 0 <;> simp [h2]
  · rw [if_neg (by omega), decide_eq_false h, Bool.false_and]
theorem early_known {l : List Fct} {t : Int} (h : chkV l = 0) (ht : wi t 0 134217727 = true) : standV (knownV t l) t = standV l t := by
  have hR := right_of_chk h
  have hK : chkV (knownV t l) = 0 := chk_of_right (hR.sub (List.filter_sublist ..))
  rw [standV_eq h ht, standV_eq hK ht]
  congr 1
  unfold knownV
  rw [List.filter_filter]
  refine List.filter_congr fun x hx => ?_
  rw [Bool.eq_iff_iff, Bool.and_eq_true, standB_iff, standB_iff, decide_eq_true_eq]
  constructor
  · rintro ⟨⟨a, b, c⟩, _⟩
    exact ⟨a, b, fun y hy h1 h2 => c y (List.mem_filter.2 ⟨hy, decide_eq_true h1⟩) h1 h2⟩
  · rintro ⟨a, b, c⟩
    exact ⟨⟨a, b, fun y hy h1 h2 => c y (List.mem_filter.1 hy).1 h1 h2⟩, a⟩
/-- The which-th of the facts. -/
theorem which_eq (a : Int) (n : Nat) (hn : 0 < n) (ha : (Lit.int .u16 a).wf = true) : ∃ p : Nat, p < n ∧ Int.tmod (wrap64 a) (n : Int) = (p : Int) := by
  have hb : 0 ≤ a ∧ a < 65536 := by
    have h1 : IntKind.u16.min ≤ a ∧ a ≤ IntKind.u16.max := by simpa [Lit.wf] using ha
    have m0 : IntKind.u16.min = 0 := by decide
    have m1 : IntKind.u16.max = 65535 := by decide
    omega
  rw [wr_in (by omega), Int.tmod_eq_emod_of_nonneg hb.1]
  have h1 := Int.emod_nonneg a (show (n : Int) ≠ 0 by omega)
  have h2 := Int.emod_lt_of_pos a (show (0 : Int) < n by omega)
  exact ⟨(a % (n : Int)).toNat, by omega, by omega⟩

def atT (x : Fct) (a : Int) : Fct := ⟨x.f0, x.f1, x.f2, x.f3, x.f4, x.f5, x.f6, x.f7, a⟩
theorem fB_at {x : Fct} {a : Int} (h : fB x = true) (ha : wi a 0 134217727 = true) : fB (atT x a) = true := by
  unfold fB at h ⊢
  unfold atT
  simp only [Bool.and_eq_true] at h ⊢
  exact ⟨h.1, h.2.1, ha, h.2.2.2⟩
theorem right_set {l : List Fct} (h : RightL l) (p : Nat) (hp : p < l.length) (a : Int) (ha : wi a 0 134217727 = true) : RightL (l.set p (atT l[p] a)) := by
  refine ⟨by rw [List.length_set]; exact h.1, fun x hx => ?_, ?_⟩
  · rcases List.mem_or_eq_of_mem_set hx with h1 | h1
    · exact h.2.1 x h1
    · subst h1
      exact fB_at (h.2.1 _ (List.getElem_mem hp)) ha
  · rw [List.pairwise_iff_getElem]
    intro i j hi hj hij
    have hp' := List.pairwise_iff_getElem.1 h.2.2 i j (by simpa using hi) (by simpa using hj) hij
    have e : ∀ q (hq : q < (l.set p (atT l[p] a)).length), (l.set p (atT l[p] a))[q].f0 = (l[q]'(by simpa using hq)).f0 := fun q hq => by
      rw [List.getElem_set]
      split
      · rename_i e
        subst e
        rfl
      · rfl
    rw [e i hi, e j hj]
    exact hp'
theorem due_at {l : List Fct} (h : RightL l) (p : Nat) (hp : p < l.length) (a : Int) (ha : wi a 0 134217727 = true) : dueV l l[p].f0 a = (l.set p (atT l[p] a), 0) := by
  have hp' := List.pairwise_iff_getElem.1 h.2.2
  have hi : l.findIdx? (fun r => decide (r.f0 = l[p].f0)) = some p := idx_some hp (fun j hj => by
    rw [noAt_get l j (by omega)]
    have := hp' j p (by omega) hp hj
    omega) (noAt_get l p hp)
  unfold dueV
  rw [if_pos (chk_of_right h), if_pos ha, hi]
  simp only [rd_get l p hp]
  rfl
theorem known_set {l : List Fct} {t : Int} (p : Nat) (hp : p < l.length) (v : Fct) (h1 : t < l[p].f8) (h2 : t < v.f8) : knownV t (l.set p v) = knownV t l := by
  have e1 : l = l.take p ++ (l[p] :: l.drop (p + 1)) := by rw [← List.drop_eq_getElem_cons hp, List.take_append_drop]
  have e2 : l.set p v = l.take p ++ (v :: l.drop (p + 1)) := by rw [List.set_eq_take_append_cons_drop, if_pos hp]
  unfold knownV
  rw [e2]
  conv => rhs; rw [e1]
  rw [List.filter_append, List.filter_append, List.filter_cons, List.filter_cons, if_neg (by simp; omega), if_neg (by simp; omega)]
theorem mem_insAt (l : List Fct) (i : Nat) (x r : Fct) : r ∈ insAt l i x ↔ r ∈ l ∨ r = x := by
  unfold insAt
  have e : r ∈ l ↔ r ∈ l.take i ∨ r ∈ l.drop i := by rw [← List.mem_append, List.take_append_drop]
  rw [e]
  simp only [List.mem_append, List.mem_cons, List.not_mem_nil, or_false]
  constructor
  · rintro (h | h | h)
    · exact .inl (.inl h)
    · exact .inr h
    · exact .inl (.inr h)
  · rintro ((h | h) | h)
    · exact .inl h
    · exact .inr (.inr h)
    · exact .inr (.inl h)
theorem ins_right {y : List Fct} (hy : RightL y) {x : Fct} (hx : fB x = true) (hl : y.length < 4096) (hno : ∀ r ∈ y, r.f0 ≠ x.f0) : RightL (insAt y (posV y x.f0) x) := by
  have hs := posV_spec y x.f0
  have hle := posV_le y x.f0
  have hp := List.pairwise_iff_getElem.1 hy.2.2
  refine ⟨by rw [insAt_length _ _ _ hle]; omega, fun r hr => ?_, ?_⟩
  · rcases (mem_insAt y _ x r).1 hr with h | h
    · exact hy.2.1 r h
    · rw [h]; exact hx
  · have h1 : ∀ r ∈ y.take (posV y x.f0), r.f0 < x.f0 := fun r hr => by
      obtain ⟨j, hj, rfl⟩ := List.getElem_of_mem hr
      rw [List.length_take] at hj
      rw [List.getElem_take]
      have := hs.1 j (by omega)
      rwa [noAt_get y j (by omega)] at this
    have h2 : ∀ r ∈ y.drop (posV y x.f0), x.f0 < r.f0 := fun r hr => by
      have hne := hno r (List.mem_of_mem_drop hr)
      obtain ⟨j, hj, rfl⟩ := List.getElem_of_mem hr
      rw [List.length_drop] at hj
      rw [List.getElem_drop] at hne ⊢
      have h3 := hs.2 (by omega)
      rw [noAt_get y _ (by omega)] at h3
      rcases Nat.eq_zero_or_pos j with h4 | h4
      · subst h4
        simp only [Nat.add_zero] at hne ⊢
        omega
      · have := hp (posV y x.f0) (posV y x.f0 + j) (by omega) (by omega) (by omega)
        omega
    have e : y.Pairwise (fun a b => a.f0 < b.f0) := hy.2.2
    rw [← List.take_append_drop (posV y x.f0) y] at e
    obtain ⟨e1, e2, e3⟩ := List.pairwise_append.1 e
    unfold insAt
    refine List.pairwise_append.2 ⟨e1, List.pairwise_cons.2 ⟨fun r hr => h2 r hr, e2⟩, fun a ha b hb => ?_⟩
    rcases List.mem_cons.1 hb with rfl | hb
    · exact h1 a ha
    · exact e3 a ha b hb
theorem twice_no {y : List Fct} {x : Int} (hno : ∀ r ∈ y, r.f0 ≠ x) : twiceB y x = false := by
  unfold twiceB
  by_cases h : posV y x < y.length
  · rw [decide_eq_true h, Bool.true_and, noAt_get y _ h]
    exact decide_eq_false (hno _ (List.getElem_mem h))
  · rw [decide_eq_false h, Bool.false_and]
theorem twice_yes {y : List Fct} (hy : RightL y) {x : Fct} (hx : x ∈ y) : twiceB y x.f0 = true := by
  obtain ⟨i, hi, rfl⟩ := List.getElem_of_mem hx
  have hs := posV_spec y y[i].f0
  have hp := List.pairwise_iff_getElem.1 hy.2.2
  have hle : posV y y[i].f0 ≤ i := by
    rcases Nat.lt_or_ge i (posV y y[i].f0) with h | h
    · have := hs.1 i h
      rw [noAt_get y i hi] at this
      omega
    · exact h
  have hlt : posV y y[i].f0 < y.length := by omega
  have h3 := hs.2 hlt
  rw [noAt_get y _ hlt] at h3
  have e : posV y y[i].f0 = i := by
    rcases Nat.eq_or_lt_of_le hle with h | h
    · exact h
    · have := hp _ i hlt hi h
      omega
  unfold twiceB
  rw [decide_eq_true hlt, Bool.true_and, noAt_get y _ hlt]
  simp only [e, decide_true]
theorem add_new {y : List Fct} (hy : RightL y) {x : Fct} (hx : fB x = true) (hl : y.length < 4096) (hno : ∀ r ∈ y, r.f0 ≠ x.f0) : addV y x = (insAt y (posV y x.f0) x, 0) := by
  unfold addV
  rw [if_pos (chk_of_right hy), if_pos hx, twice_no hno, if_neg (by simp), if_neg (by omega)]
theorem add_old {y : List Fct} (hy : RightL y) {x : Fct} (hx : x ∈ y) : addV y x = ([], 171) := by
  unfold addV
  rw [if_pos (chk_of_right hy), if_pos (hy.2.1 x hx), twice_yes hy hx, if_pos rfl]

end Go.Proofs.YtebfcckaicgcfaaDoor.Q

namespace Go.Proofs.YtebfcckaicgcfaaDoor.Q
open Go.RowKit Go.Proofs.YtebfcckaicgcfaaDoorW.PrintWords Go.Proofs.YtebfcckaicgcfaaDoorW.PrintLast Go.Proofs.YtebfcckaicgcfaaDoorW.PrintMore
attribute [local go_sem] max2_int min2_int max_two min_two
set_option linter.unusedVariables false
set_option linter.unusedSimpArgs false

/-- Block b holds the map m; the stamps of its entries are of different times, all before now. -/
def MapS (W : World) (b : Nat) (m : List (Sub × S24)) : Prop :=
  ∃ es clock, W.heap[b]? = some (.map es clock) ∧ es.toList.map (fun e => (e.key, e.val)) = m.map (fun p => (Value.agg (keyC p.1), Value.agg (facC p.2))) ∧ (∀ e ∈ es.toList, e.born < clock) ∧ (es.toList.map (·.born)).Nodup
theorem MapS.at {W : World} {b : Nat} {m : List (Sub × S24)} (h : MapS W b m) : MapAt W b m := by
  obtain ⟨es, clock, h1, h2, _⟩ := h
  exact ⟨es, clock, h1, h2⟩
theorem MapS.blk {A B : World} {b : Nat} {m : List (Sub × S24)} (h : MapS A b m) (e : B.heap[b]? = A.heap[b]?) : MapS B b m := by
  obtain ⟨es, clock, h1, h2⟩ := h
  exact ⟨es, clock, e.trans h1, h2⟩
theorem MapS.lt {A : World} {b : Nat} {m : List (Sub × S24)} (h : MapS A b m) : b < A.heap.size := by
  obtain ⟨es, clock, h1, h2⟩ := h
  exact blk_lt h1
theorem MapS.new (w : World) : MapS (w.alloc (.map #[] 0)) w.heap.size [] := ⟨#[], 0, heap_at_new _ _ _ rfl, rfl, by simp, by simp⟩
def mdel (m : List (Sub × S24)) (s : Sub) : List (Sub × S24) := m.eraseP (fun p => decide (p.1 = s))

section
variable {pp : String} (T : TypeId) (hT : Tryd.prog.underlying T = some (.struct (kfields pp))) (hp : Tryd.prog.stoodInHeld T = false)
variable {M : TypeId} (hM : Tryd.prog.underlying M = some (.map T 24))
include hT hp hM
theorem updS_run {W : World} {b : Nat} {m : List (Sub × S24)} (h : MapS W b m) (s : Sub) (v : S24) :
    ∃ W', (Instr.mapUpdate M (.map (some b)) (.agg (keyC s)) (.agg (facC v))).run Tryd.prog W = .ok () W' ∧ MapS W' b (mput m s v) ∧ W.grownBy W' (some b) := by
  obtain ⟨es, clock, hb, he, hlt, hnd⟩ := h
  have hf := findK T hT hp W s m es.toList he
  have hc := checkK T hT false W s
  have hs := staysK W s
  have hgr : ∀ o, W.grownBy (ChangeMaps.setBlock W b o) (some b) := fun o => ⟨rfl, rfl, rfl, by simp [ChangeMaps.setBlock], fun i _ hi => ChangeMaps.heap_setBlock_other hb _ (fun e => hi (by rw [e]))⟩
  cases h1 : mfind m s 0 with
  | none =>
    rw [h1] at hf
    refine ⟨ChangeMaps.setBlock W b (.map (es.push { key := .agg (keyC s), val := .agg (facC v), born := clock }) (clock + 1)), ?_, ⟨_, _, ChangeMaps.heap_setBlock_same hb _, ?_, ?_, ?_⟩, hgr _⟩
    · simp [Instr.mapUpdate, run_underlying hM, MapKept.run_getObj_map hb, hc, hf, MapKept.run_setObj_map _ hb, Result.andThen, ChangeMaps.setBlock]
    · rw [mfind_none s v m 0 h1, Array.toList_push, List.map_append, he, List.map_append]
      rfl
    · intro e hm
      rw [Array.toList_push] at hm
      rcases List.mem_append.1 hm with h2 | h2
      · exact Nat.lt_succ_of_lt (hlt e h2)
      · obtain rfl := List.mem_singleton.1 h2
        exact Nat.lt_succ_self _
    · rw [Array.toList_push, List.map_append, List.nodup_append]
      refine ⟨hnd, by simp, fun a ha c hc' => ?_⟩
      obtain ⟨e, he1, rfl⟩ := List.mem_map.1 ha
      have h3 := hlt e he1
      simp only [List.map_cons, List.map_nil, List.mem_singleton] at hc'
      subst hc'
      omega
  | some q =>
    obtain ⟨j, x⟩ := q
    rw [h1] at hf
    obtain ⟨_, h2, p, h3, h4⟩ := mfind_some s v m 0 j x h1
    rw [Nat.sub_zero] at h2 h3
    have hlen : es.toList.length = m.length := by
      have := congrArg List.length he
      simpa using this
    have hjm : j < m.length := (List.getElem?_eq_some_iff.1 h3).1
    have hj : j < es.size := by rw [← Array.length_toList, hlen]; exact hjm
    have hkey : es[j].key = .agg (keyC s) := by
      have h5 := congrArg (fun l => l[j]?) he
      simp only [List.getElem?_map, h3, Option.map_some, Array.getElem?_toList, Array.getElem?_eq_getElem hj, Option.some.injEq, Prod.mk.injEq] at h5
      rw [h5.1, h4]
    have hborn : ((es.modify j fun e => { e with key := .agg (keyC s), val := .agg (facC v) }).toList.map (·.born)) = es.toList.map (·.born) := by
      rw [Array.toList_modify]
      apply List.ext_getElem?
      intro i
      rw [List.getElem?_map, List.getElem?_modify, List.getElem?_map]
      cases es.toList[i]? with
      | none => rfl
      | some e => by_cases hij : j = i <;> simp [hij]
    refine ⟨ChangeMaps.setBlock W b (.map (es.modify j fun e => { e with key := .agg (keyC s), val := .agg (facC v) }) clock), ?_, ⟨_, _, ChangeMaps.heap_setBlock_same hb _, ?_, ?_, ?_⟩, hgr _⟩
    · simp [Instr.mapUpdate, run_underlying hM, MapKept.run_getObj_map hb, hc, hf, Array.getElem?_eq_getElem hj, hkey, hs, MapKept.run_setObj_map _ hb, Result.andThen, ChangeMaps.setBlock]
    · rw [h2, List.map_set, ← he, Array.toList_modify]
      apply List.ext_getElem?
      intro i
      rw [List.getElem?_map, List.getElem?_modify, List.getElem?_set, List.getElem?_map]
      by_cases hij : j = i
      · subst hij
        simp [hj]
      · simp [hij]
    · intro e hm
      have hm' : e.born ∈ es.toList.map (·.born) := by rw [← hborn]; exact List.mem_map.2 ⟨e, hm, rfl⟩
      obtain ⟨e0, he0, h5⟩ := List.mem_map.1 hm'
      rw [← h5]
      exact hlt e0 he0
    · rw [hborn]
      exact hnd
omit hT hp hM in
theorem mfind_del (s : Sub) : ∀ (m : List (Sub × S24)) (i : Nat), match mfind m s i with
    | some (j, _) => i ≤ j ∧ mdel m s = m.eraseIdx (j - i)
    | none => mdel m s = m
  | [], i => rfl
  | p :: m, i => by
    unfold mfind mdel
    by_cases h : p.1 = s
    · simp [h]
    · have ih := mfind_del s m (i + 1)
      unfold mdel at ih
      rw [if_neg h]
      cases hf : mfind m s (i + 1) with
      | none =>
        rw [hf] at ih
        simp only at ih ⊢
        rw [List.eraseP_cons_of_neg (by simpa using h), ih]
      | some q =>
        obtain ⟨j, x⟩ := q
        rw [hf] at ih
        simp only at ih ⊢
        obtain ⟨a, c⟩ := ih
        have e : j - i = (j - (i + 1)) + 1 := by omega
        rw [List.eraseP_cons_of_neg (by simpa using h), c, e]
        exact ⟨by omega, rfl⟩
theorem delS_run {W : World} {b : Nat} {m : List (Sub × S24)} (h : MapS W b m) (s : Sub) (ty : TypeId) :
    ∃ W', (Builtin.delete_ #[M, T] ty #[.map (some b), .agg (keyC s)]).run Tryd.prog W = .ok (.tuple #[]) W' ∧ MapS W' b (mdel m s) ∧ W.grownBy W' (some b) := by
  obtain ⟨es, clock, hb, he, hlt, hnd⟩ := h
  have hf := findK T hT hp W s m es.toList he
  have hc := checkK T hT es.isEmpty W s
  have hgr : ∀ o, W.grownBy (ChangeMaps.setBlock W b o) (some b) := fun o => ⟨rfl, rfl, rfl, by simp [ChangeMaps.setBlock], fun i _ hi => ChangeMaps.heap_setBlock_other hb _ (fun e => hi (by rw [e]))⟩
  have hd := mfind_del s m 0
  cases h1 : mfind m s 0 with
  | none =>
    rw [h1] at hf hd
    refine ⟨ChangeMaps.setBlock W b (.map es clock), ?_, ⟨es, clock, ChangeMaps.heap_setBlock_same hb _, by rw [show mdel m s = m from hd]; exact he, hlt, hnd⟩, hgr _⟩
    simp [Builtin.delete_, run_underlying hM, MapKept.run_getObj_map hb, hc, hf, MapKept.run_setObj_map _ hb, Result.andThen, ChangeMaps.setBlock]
  | some q =>
    obtain ⟨j, x⟩ := q
    rw [h1] at hf hd
    simp only at hd
    rw [Nat.sub_zero] at hd
    have hsub : (es.eraseIdxIfInBounds j).toList = es.toList.eraseIdx j := by
      unfold Array.eraseIdxIfInBounds
      by_cases hj : j < es.size
      · rw [dif_pos hj]; simp
      · rw [dif_neg hj, List.eraseIdx_of_length_le (by simpa using hj)]
    refine ⟨ChangeMaps.setBlock W b (.map (es.eraseIdxIfInBounds j) clock), ?_, ⟨_, clock, ChangeMaps.heap_setBlock_same hb _, ?_, ?_, ?_⟩, hgr _⟩
    · simp [Builtin.delete_, run_underlying hM, MapKept.run_getObj_map hb, hc, hf, MapKept.run_setObj_map _ hb, Result.andThen, ChangeMaps.setBlock]
    · rw [hsub, ChangeMaps.map_eraseIdx, he, ← ChangeMaps.map_eraseIdx, hd.2]
    · intro e hm
      rw [hsub] at hm
      exact hlt e ((List.eraseIdx_sublist ..).subset hm)
    · rw [hsub, ChangeMaps.map_eraseIdx]
      exact hnd.sublist (List.eraseIdx_sublist ..)
omit hT hp hM in
theorem setB_same {w : World} {r : Nat} {o o' : Obj} (h : w.heap[r]? = some o) : (ChangeMaps.setBlock w r o').heap[r]? = some o' := by
  have hl := blk_lt h
  simp [ChangeMaps.setBlock, hl]
omit hT hp hM in
theorem setB_other {w : World} {r i : Nat} {o' : Obj} (h : i ≠ r) : (ChangeMaps.setBlock w r o').heap[i]? = w.heap[i]? := by
  have h' : ¬ r = i := fun e => h e.symm
  simp [ChangeMaps.setBlock, h']
/-- An iterator in block r over the map of block b. -/
def MapIt (W : World) (b r : Nat) (m : List (Sub × S24)) (n : Nat) : Prop :=
  ∃ es clock seen c0, W.heap[b]? = some (.map es clock) ∧ es.toList.map (fun e => (e.key, e.val)) = m.map (fun p => (Value.agg (keyC p.1), Value.agg (facC p.2))) ∧ (∀ e ∈ es.toList, e.born < clock) ∧ (es.toList.map (·.born)).Nodup ∧
    W.heap[r]? = some (.mapIter (some b) clock seen c0) ∧ clock ≤ c0 ∧ (leftOf es seen).size = n
omit hT hp hM in
theorem MapIt.blk {A B : World} {b r n : Nat} {m : List (Sub × S24)} (h : MapIt A b r m n) (e1 : B.heap[b]? = A.heap[b]?) (e2 : B.heap[r]? = A.heap[r]?) : MapIt B b r m n := by
  obtain ⟨es, clock, seen, c0, h1, h2, h3, h4, h5, h6⟩ := h
  exact ⟨es, clock, seen, c0, e1.trans h1, h2, h3, h4, e2.trans h5, h6⟩
omit hT hp in
theorem rangeS_run {W : World} {b : Nat} {m : List (Sub × S24)} (h : MapS W b m) :
    ∃ W' n, (Instr.range M (.map (some b))).run Tryd.prog W = .ok (.pointer (some ⟨W.heap.size, 0, none⟩)) W' ∧ MapIt W' b W.heap.size m n ∧ Below W.heap.size W W' ∧ W'.heap.size = W.heap.size + 1 := by
  obtain ⟨es, clock, hb, he, hlt, hnd⟩ := h
  refine ⟨W.alloc (.mapIter (some b) clock #[] clock), (leftOf es #[]).size, ?_, ⟨es, clock, #[], clock, heap_at_old _ _ _ _ hb, he, hlt, hnd, heap_at_new _ _ _ rfl, Nat.le_refl _, rfl⟩, below_alloc (Below.refl _ _) _, by simp⟩
  simp [Instr.range, run_underlying hM, MapKept.run_getObj_map hb, Result.andThen, go_sem]
omit hT hp hM in
theorem nextS_run {W : World} {b r n : Nat} {m : List (Sub × S24)} (h : MapIt W b r m n) (hne : b ≠ r) (ty : TypeId) :
    (Instr.next (.pointer (some ⟨r, 0, none⟩)) false ty).run Tryd.prog W = .ok (.tuple #[.bool false]) W ∨
    ∃ p ∈ m, ∃ W' n', (Instr.next (.pointer (some ⟨r, 0, none⟩)) false ty).run Tryd.prog W = .ok (.tuple #[.bool true, .agg (keyC p.1), .agg (facC p.2)]) W' ∧ MapIt W' b r m n' ∧ n' < n ∧ W.grownBy W' (some r) ∧ W'.heap.size = W.heap.size ∧
      (Instr.entry (.pointer (some ⟨r, 0, none⟩))).run Tryd.prog W' = .ok (.tuple #[.agg (keyC p.1), .agg (facC p.2)]) W' := by
  obtain ⟨es, clock, seen, c0, hb, he, hlt, hnd, hr, hc, hn⟩ := h
  rcases run_next_at (P := Tryd.prog) W ty r b clock c0 seen es clock hr hb hlt hc with ⟨_, h1⟩ | ⟨e, hm, w1, hw1, h1⟩
  · exact .inl h1
  · have hme := (mem_left hm).1
    have hpair : (e.key, e.val) ∈ m.map (fun p => (Value.agg (keyC p.1), Value.agg (facC p.2))) := by rw [← he]; exact List.mem_map.2 ⟨e, hme, rfl⟩
    obtain ⟨p, hp', hpe⟩ := List.mem_map.1 hpair
    simp only [Prod.mk.injEq] at hpe
    have hr1 : w1.heap[r]? = some (.mapIter (some b) clock seen c0) := by rcases hw1 with rfl | rfl <;> exact hr
    have hb1 : w1.heap[b]? = some (.map es clock) := by rcases hw1 with rfl | rfl <;> exact hb
    have hr2 : (ChangeMaps.setBlock w1 r (.mapIter (some b) clock (seen.push e.born) clock)).heap[r]? = some (.mapIter (some b) clock (seen.push e.born) clock) := setB_same hr1
    have hb2 : (ChangeMaps.setBlock w1 r (.mapIter (some b) clock (seen.push e.born) clock)).heap[b]? = some (.map es clock) := (setB_other hne).trans hb1
    refine .inr ⟨p, hp', _, _, ?_, ⟨es, clock, seen.push e.born, clock, hb2, he, hlt, hnd, hr2, Nat.le_refl _, rfl⟩, by rw [← hn]; exact left_shrinks es seen e hm, ?_, ?_, ?_⟩
    · rw [h1, ← hpe.1, ← hpe.2]
    · rcases hw1 with rfl | rfl
      · exact ⟨rfl, rfl, rfl, by simp [ChangeMaps.setBlock], fun i _ hi => setB_other (fun e => hi (by rw [e]))⟩
      · exact ⟨rfl, rfl, rfl, by unfold ChangeMaps.setBlock; simp only [Array.size_setIfInBounds]; exact Nat.le_refl _, fun i _ hi => setB_other (fun e => hi (by rw [e]))⟩
    · rcases hw1 with rfl | rfl <;> (unfold ChangeMaps.setBlock; simp only [Array.size_setIfInBounds]; try rfl)
    · rw [run_entry_at _ r b clock seen es clock e hr2 hb2 hme hnd, ← hpe.1, ← hpe.2]

variable {ops : Array Oper} {rest : List Oper} {o : Oper} {a : Act} {Q : Exit → Act → World → Prop} {w : World}
theorem lookL {c : Bool} (x y : Operand) (b : Nat) (m : List (Sub × S24)) (s : Sub) (hop : o.op = Op.lookup M x y c) (hg : o.guard = none) (hm : a.eval x = .map (some b)) (hx : a.eval y = .agg (keyC s)) (h : MapAt w b m) (V : Value) (hV : lookV c m s = V)
    (hK : wpList Tryd.prog ops Q rest (a.put o.dst V) w) : wpList Tryd.prog ops Q (o :: rest) a w := by
  subst hV
  refine wpList_plain hg fun K' hK' => ?_
  have hrun := look_run T hT hp hM c h s
  unfold Oper.wp
  simp [execOp, hop, hm, hx, hrun, Result.andThen]
  exact hK' _ _ hK
theorem delL (x y : Operand) (b : Nat) (m : List (Sub × S24)) (s : Sub) (hop : o.op = Op.call { callee := Callee.builtin Builtin.delete, args := #[x, y], argTypes := #[M, T] }) (hg : o.guard = none) (hm : a.eval x = .map (some b)) (hx : a.eval y = .agg (keyC s)) (h : MapS w b m)
    (hK : ∀ w', MapS w' b (mdel m s) → w.grownBy w' (some b) → wpList Tryd.prog ops Q rest (a.put o.dst (.tuple #[])) w') : wpList Tryd.prog ops Q (o :: rest) a w := by
  refine wpList_plain hg fun K' hK' => ?_
  obtain ⟨w', hrun, r1, r2⟩ := delS_run T hT hp hM h s o.type
  unfold Oper.wp
  simp [execOp, hop, resolve, invoke, builtin, hm, hx, hrun, Result.andThen]
  exact hK' _ _ (hK w' r1 r2)
omit hT hp in
theorem rangeL (x : Operand) (b : Nat) (m : List (Sub × S24)) (hop : o.op = Op.range M x) (hg : o.guard = none) (hm : a.eval x = .map (some b)) (h : MapS w b m)
    (hK : ∀ w' n, MapIt w' b w.heap.size m n → Below w.heap.size w w' → w'.heap.size = w.heap.size + 1 → wpList Tryd.prog ops Q rest (a.put o.dst (.pointer (some ⟨w.heap.size, 0, none⟩))) w') : wpList Tryd.prog ops Q (o :: rest) a w := by
  refine wpList_plain hg fun K' hK' => ?_
  obtain ⟨w', n, hrun, r1, r2, r3⟩ := rangeS_run T hM h
  unfold Oper.wp
  simp [execOp, hop, hm, hrun, Result.andThen]
  exact hK' _ _ (hK w' n r1 r2 r3)
omit hT hp hM in
theorem nextL (x : Operand) (b r n : Nat) (m : List (Sub × S24)) (hop : o.op = Op.next x false) (hg : o.guard = none) (hm : a.eval x = .pointer (some ⟨r, 0, none⟩)) (h : MapIt w b r m n) (hne : b ≠ r)
    (hDone : wpList Tryd.prog ops Q rest (a.put o.dst (.tuple #[.bool false])) w)
    (hMore : ∀ p w' n', p ∈ m → MapIt w' b r m n' → n' < n → w.grownBy w' (some r) → w'.heap.size = w.heap.size → (Instr.entry (.pointer (some ⟨r, 0, none⟩))).run Tryd.prog w' = .ok (.tuple #[.agg (keyC p.1), .agg (facC p.2)]) w' →
      wpList Tryd.prog ops Q rest (a.put o.dst (.tuple #[.bool true, .agg (keyC p.1), .agg (facC p.2)])) w') : wpList Tryd.prog ops Q (o :: rest) a w := by
  refine wpList_plain hg fun K' hK' => ?_
  unfold Oper.wp
  rcases nextS_run h hne o.type with hrun | ⟨p, hp', w', n', hrun, r1, r2, r3, r4, r5⟩
  · simp [execOp, hop, hm, hrun, Result.andThen]
    exact hK' _ _ hDone
  · simp [execOp, hop, hm, hrun, Result.andThen]
    exact hK' _ _ (hMore p w' n' hp' r1 r2 r3 r4 r5)
end
end Go.Proofs.YtebfcckaicgcfaaDoor.Q

namespace Go.Proofs.YtebfcckaicgcfaaDoor.Q
open Go.RowKit Go.Proofs.YtebfcckaicgcfaaDoorW.PrintWords Go.Proofs.YtebfcckaicgcfaaDoorW.PrintLast Go.Proofs.YtebfcckaicgcfaaDoorW.PrintMore
set_option linter.unusedVariables false
set_option linter.unusedSimpArgs false

theorem mput_keys (s : Sub) (v : Fct) (x : Sub) : ∀ (m : List (Sub × Fct)), x ∈ (mput m s v).map (·.1) → x = s ∨ x ∈ m.map (·.1)
  | [], h => by simp [mput] at h; exact .inl h
  | p :: m, h => by
    unfold mput at h
    by_cases h1 : p.1 = s
    · rw [if_pos h1, List.map_cons, List.mem_cons] at h
      rcases h with h | h
      · exact .inl h
      · exact .inr (by simp only [List.map_cons, List.mem_cons]; exact .inr h)
    · rw [if_neg h1, List.map_cons, List.mem_cons] at h
      rcases h with h | h
      · exact .inr (by simp [h])
      · rcases mput_keys s v x m h with h | h
        · exact .inl h
        · exact .inr (by simp only [List.map_cons, List.mem_cons]; exact .inr h)
theorem mput_nodup (s : Sub) (v : Fct) : ∀ (m : List (Sub × Fct)), (m.map (·.1)).Nodup → ((mput m s v).map (·.1)).Nodup
  | [], _ => by simp [mput]
  | p :: m, h => by
    rw [List.map_cons, List.nodup_cons] at h
    unfold mput
    by_cases h1 : p.1 = s
    · rw [if_pos h1, List.map_cons, List.nodup_cons]
      exact ⟨h1 ▸ h.1, h.2⟩
    · rw [if_neg h1, List.map_cons, List.nodup_cons]
      refine ⟨fun hx => ?_, mput_nodup s v m h.2⟩
      rcases mput_keys s v p.1 m hx with h2 | h2
      · exact h1 h2
      · exact h.1 h2
theorem stepM_nodup (m : List (Sub × Fct)) (y : Fct) (h : (m.map (·.1)).Nodup) : ((stepM m y).map (·.1)).Nodup := by
  unfold stepM
  split
  · exact mput_nodup _ _ _ h
  · split
    · exact mput_nodup _ _ _ h
    · exact h
theorem mapL_nodup (L : List Fct) : ((mapL L).map (·.1)).Nodup := by
  have : ∀ (L : List Fct) (m : List (Sub × Fct)), (m.map (·.1)).Nodup → ((L.foldl stepM m).map (·.1)).Nodup := by
    intro L
    induction L with
    | nil => exact fun m h => h
    | cons y L ih => exact fun m h => ih _ (stepM_nodup m y h)
  exact this L [] (by simp)
theorem mget_mem : ∀ (m : List (Sub × Fct)), (m.map (·.1)).Nodup → ∀ p ∈ m, mget m p.1 = some p.2
  | [], _, p, hp => by cases hp
  | q :: m, h, p, hp => by
    rw [List.map_cons, List.nodup_cons] at h
    unfold mget
    rcases List.mem_cons.1 hp with rfl | hp
    · simp
    · have h1 : ¬ q.1 = p.1 := fun e => h.1 (e ▸ List.mem_map.2 ⟨p, hp, rfl⟩)
      have ih := mget_mem m h.2 p hp
      unfold mget at ih
      rw [List.find?_cons_of_neg (by simpa using h1)]
      exact ih
theorem mget_mdel_ne (s s' : Sub) (hn : s' ≠ s) : ∀ (m : List (Sub × Fct)), mget (mdel m s) s' = mget m s'
  | [] => rfl
  | p :: m => by
    have ih := mget_mdel_ne s s' hn m
    unfold mdel at ih ⊢
    by_cases h : p.1 = s
    · have h2 : ¬ p.1 = s' := fun e => hn (e.symm.trans h)
      rw [List.eraseP_cons_of_pos (by simpa using h)]
      unfold mget
      rw [List.find?_cons_of_neg (by simpa using h2)]
    · rw [List.eraseP_cons_of_neg (by simpa using h)]
      unfold mget at ih ⊢
      by_cases h2 : p.1 = s'
      · simp [h2]
      · rw [List.find?_cons_of_neg (by simpa using h2), List.find?_cons_of_neg (by simpa using h2)]
        exact ih
theorem mdel_sub (m : List (Sub × Fct)) (s : Sub) : (mdel m s).Sublist m := List.eraseP_sublist ..
theorem mdel_not (s : Sub) : ∀ (m : List (Sub × Fct)), (m.map (·.1)).Nodup → s ∉ (mdel m s).map (·.1)
  | [], _ => by simp [mdel]
  | p :: m, h => by
    rw [List.map_cons, List.nodup_cons] at h
    have ih := mdel_not s m h.2
    unfold mdel at ih ⊢
    by_cases h1 : p.1 = s
    · rw [List.eraseP_cons_of_pos (by simpa using h1)]
      exact h1 ▸ h.1
    · rw [List.eraseP_cons_of_neg (by simpa using h1), List.map_cons, List.mem_cons]
      rintro (h2 | h2)
      · exact h1 h2.symm
      · exact ih h2
/-- The map without what the facts are about. -/
def mdels (m : List (Sub × Fct)) (X : List Fct) : List (Sub × Fct) := X.foldl (fun m x => mdel m (subOf x)) m
theorem mdels_sub : ∀ (X : List Fct) (m : List (Sub × Fct)), (mdels m X).Sublist m
  | [], m => List.Sublist.refl _
  | x :: X, m => (mdels_sub X (mdel m (subOf x))).trans (mdel_sub m _)
theorem mget_mdels (s : Sub) : ∀ (X : List Fct) (m : List (Sub × Fct)), (∀ x ∈ X, subOf x ≠ s) → mget (mdels m X) s = mget m s
  | [], m, _ => rfl
  | x :: X, m, h => (mget_mdels s X (mdel m (subOf x)) (fun y hy => h y (List.mem_cons_of_mem _ hy))).trans (mget_mdel_ne _ _ (fun e => h x (by simp) e.symm) m)
theorem mdels_not : ∀ (X : List Fct) (m : List (Sub × Fct)), (m.map (·.1)).Nodup → ∀ x ∈ X, subOf x ∉ (mdels m X).map (·.1)
  | x :: X, m, h, y, hy => by
    have hn : ((mdel m (subOf x)).map (·.1)).Nodup := h.sublist ((mdel_sub m _).map _)
    rcases List.mem_cons.1 hy with rfl | hy
    · intro hm
      exact mdel_not (subOf y) m h (((mdels_sub X (mdel m (subOf y))).map _).subset hm)
    · exact mdels_not X (mdel m (subOf x)) hn y hy
theorem mdels_succ (m : List (Sub × Fct)) (X : List Fct) (k : Nat) (hk : k < X.length) : mdels m (X.take (k + 1)) = mdel (mdels m (X.take k)) (subOf (rd_T24 X (k : Int))) := by
  unfold mdels
  rw [List.take_succ_eq_append_getElem hk, List.foldl_append, rd_get X k hk]
  rfl
section
variable {l : List Fct} {t : Int} (h : chkV l = 0)
include h
theorem lat_inv : MInv (knownV t l) (mapL (knownV t l)) := mapL_inv ((right_of_chk h).sub (List.filter_sublist ..)).2.2
theorem lat_mem {x : Fct} (hx : x ∈ l.filter (standB l t)) : mget (mapL (knownV t l)) (subOf x) = some x := by
  have hR := right_of_chk h
  obtain ⟨hl, hs⟩ := List.mem_filter.1 hx
  obtain ⟨h8, h5, hall⟩ := standB_iff.1 hs
  have hxK : x ∈ knownV t l := List.mem_filter.2 ⟨hl, decide_eq_true h8⟩
  have hI := lat_inv (t := t) h (subOf x)
  cases hg : mget (mapL (knownV t l)) (subOf x) with
  | none => exact absurd rfl (hI.2 hg x hxK)
  | some z =>
    obtain ⟨z1, z2, z3⟩ := hI.1 z hg
    have hz := List.mem_filter.1 z1
    have a := later_no.1 (hall z hz.1 (of_decide_eq_true hz.2) z2)
    have b := later_no.1 (z3 x hxK rfl)
    rw [hR.uniq hz.1 hl (by omega)]
theorem lat_get (k : Nat) (hk : k < (l.filter (standB l t)).length) : mget (mdels (mapL (knownV t l)) ((l.filter (standB l t)).take k)) (subOf (rd_T24 (l.filter (standB l t)) (k : Int))) = some (rd_T24 (l.filter (standB l t)) (k : Int)) := by
  rw [rd_get _ k hk]
  have hm : (l.filter (standB l t))[k] ∈ l.filter (standB l t) := List.getElem_mem hk
  rw [mget_mdels, lat_mem h hm]
  intro x hx e
  obtain ⟨i, hi, rfl⟩ := List.getElem_of_mem hx
  rw [List.getElem_take] at e
  have hi' : i < k := by rw [List.length_take] at hi; omega
  have hm2 : (l.filter (standB l t))[i]'(by omega) ∈ l.filter (standB l t) := List.getElem_mem _
  have h1 := lat_mem h hm
  have h2 := lat_mem h hm2
  rw [e, h1] at h2
  have hX := (right_of_chk h).sub (List.filter_sublist (p := standB l t))
  have := (List.pairwise_iff_getElem.1 hX.2.2) i k (by omega) hk hi'
  rw [Option.some.inj h2] at this
  omega
theorem lat_rest (p : Sub × Fct) (hp : p ∈ mdels (mapL (knownV t l)) (l.filter (standB l t))) : p.2.f5 = -1 := by
  have hnd := mapL_nodup (knownV t l)
  have hpM : p ∈ mapL (knownV t l) := (mdels_sub _ _).subset hp
  obtain ⟨z1, z2, z3⟩ := (lat_inv (t := t) h p.1).1 p.2 (mget_mem _ hnd p hpM)
  have hz := List.mem_filter.1 z1
  by_cases h5 : p.2.f5 = -1
  · exact h5
  · exfalso
    have hs : p.2 ∈ l.filter (standB l t) := List.mem_filter.2 ⟨hz.1, standB_iff.2 ⟨of_decide_eq_true hz.2, h5, fun y hy h1 h2 => z3 y (List.mem_filter.2 ⟨hy, decide_eq_true h1⟩) (h2.trans z2)⟩⟩
    exact mdels_not _ _ hnd p.2 hs (List.mem_map.2 ⟨p, hp, z2.symm⟩)
/-- The number before. -/
def beforeV (X : List Fct) (k : Nat) : Int := if k = 0 then -1 else (rd_T24 X ((k - 1 : Nat) : Int)).f0
theorem lat_no (k : Nat) (hk : k < (l.filter (standB l t)).length) : beforeV (l.filter (standB l t)) k < (rd_T24 (l.filter (standB l t)) (k : Int)).f0 ∧ (rd_T24 (l.filter (standB l t)) (k : Int)).f5 ≠ -1 := by
  have hX := (right_of_chk h).sub (List.filter_sublist (p := standB l t))
  have hm : (l.filter (standB l t))[k] ∈ l.filter (standB l t) := List.getElem_mem hk
  rw [rd_get _ k hk]
  refine ⟨?_, (standB_iff.1 (List.mem_filter.1 hm).2).2.1⟩
  unfold beforeV
  by_cases h0 : k = 0
  · rw [if_pos h0]
    have := hX.2.1 _ hm
    unfold fB at this
    simp only [Bool.and_eq_true] at this
    have := (wi_iff.1 this.2.1).1
    omega
  · rw [if_neg h0, rd_get _ (k - 1) (by omega)]
    exact (List.pairwise_iff_getElem.1 hX.2.2) (k - 1) k (by omega) hk (by omega)
omit h in
theorem before_succ (X : List Fct) (k : Nat) : beforeV X (k + 1) = (rd_T24 X (k : Int)).f0 := by
  unfold beforeV
  rw [if_neg (by omega), Nat.add_sub_cancel]
omit h in
theorem known_succ (k : Nat) (hk : k < l.length) : knownV t (l.take (k + 1)) = knownV t (l.take k) ++ (if (rd_T24 l (k : Int)).f8 ≤ t then [rd_T24 l (k : Int)] else []) := by
  unfold knownV
  rw [List.take_succ_eq_append_getElem hk, List.filter_append, rd_get l k hk]
  by_cases h1 : l[k].f8 ≤ t <;> simp [h1]
/-- What a round of the first loop finds. -/
theorem lat_old (k : Nat) (hk : k < l.length) {z : Fct} (hz : mget (mapL (knownV t (l.take k))) (subOf (rd_T24 l (k : Int))) = some z) : z.f0 < (rd_T24 l (k : Int)).f0 := by
  have hR := right_of_chk h
  have hT := hR.sub (List.take_sublist k l)
  have hI := mapL_inv (hT.sub (List.filter_sublist (p := fun x => decide (x.f8 ≤ t)))).2.2 (subOf (rd_T24 l (k : Int)))
  have hz1 := (hI.1 z hz).1
  have hz2 := (List.mem_filter.1 hz1).1
  obtain ⟨i, hi, rfl⟩ := List.getElem_of_mem hz2
  rw [List.getElem_take, rd_get l k hk]
  rw [List.length_take] at hi
  exact (List.pairwise_iff_getElem.1 hR.2.2) i k (by omega) hk (by omega)
end
end Go.Proofs.YtebfcckaicgcfaaDoor.Q

namespace Go.Proofs.YtebfcckaicgcfaaDoor.Q
open Go.RowKit Go.Proofs.YtebfcckaicgcfaaDoorW.PrintWords Go.Proofs.YtebfcckaicgcfaaDoorW.PrintLast Go.Proofs.YtebfcckaicgcfaaDoorW.PrintMore
attribute [local go_sem] max2_int min2_int max_two min_two
set_option linter.unusedVariables false
set_option linter.unusedSimpArgs false

theorem uKb : Tryd.prog.underlying 40 = some (.struct (kfields "fasti/fastilaw46")) := Tryd.underlying40
theorem pKb : Tryd.prog.stoodInHeld 40 = false := by kernel_rfl
theorem uMb : Tryd.prog.underlying 37 = some (.map 40 24) := Tryd.underlying37
theorem below_grownS {n b : Nat} {w A B : World} (h : Below n w A) (hg : A.grownBy B (some b)) (hb : n ≤ b) (hn : n ≤ A.heap.size) : Below n w B :=
  ⟨hg.os.trans h.os, hg.tape.trans h.tape, hg.output.trans h.output, Nat.le_trans h.size hg.size, fun j hj => (hg.block j (by omega) (by simp; omega)).trans (h.block j hj)⟩
section
variable {ops : Array Oper} {rest : List Oper} {a : Act} {Q : Exit → Act → World → Prop} {w : World}
theorem entL {o : Oper} (x : Operand) (V : Value) (hop : o.op = Op.entry x) (hg : o.guard = none) (hrun : (Instr.entry (a.eval x)).run Tryd.prog w = .ok V w)
    (hK : wpList Tryd.prog ops Q rest (a.put o.dst V) w) : wpList Tryd.prog ops Q (o :: rest) a w := by
  refine wpList_plain hg fun K' hK' => ?_
  unfold Oper.wp
  simp [execOp, hop, hrun, Result.andThen]
  exact hK' _ _ hK
theorem nextK {o : Oper} {w' : World} (x : Operand) (V : Value) (hop : o.op = Op.next x false) (hg : o.guard = none) (hrun : (Instr.next (a.eval x) false o.type).run Tryd.prog w = .ok V w')
    (hK : wpList Tryd.prog ops Q rest (a.put o.dst V) w') : wpList Tryd.prog ops Q (o :: rest) a w := by
  refine wpList_plain hg fun K' hK' => ?_
  unfold Oper.wp
  simp [execOp, hop, hrun, Result.andThen]
  exact hK' _ _ hK
theorem updK {oi : Oper} {K : Act → World → Prop} {wE : World} {M : TypeId} (x y z : Operand) (b : Nat) (s : Sub) (v : Fct) (hw : Region.wanted oi (yielded ops a.tmps) = true) (hN : oi.dst = none) (hop : oi.op = Op.mapUpdate M x y z)
    (hx : a.eval x = .map (some b)) (hy : a.eval y = .agg (keyC s)) (hz : a.eval z = .agg (facC v)) (hrun : (Instr.mapUpdate M (.map (some b)) (.agg (keyC s)) (.agg (facC v))).run Tryd.prog w = .ok () wE)
    (h : K a wE) : if Region.wanted oi (yielded ops a.tmps) = true then Oper.wp Tryd.prog oi a w K Q else K (a.put none undef) w := by
  have hr : (execOp a.eval oi).run Tryd.prog w = .ok .skip wE := by
    unfold execOp
    simp [hop, hx, hy, hz, hrun, Result.andThen]
  rw [if_pos hw]
  unfold Oper.wp
  rw [hr]
  show K (a.put oi.dst undef) wE
  rw [hN]
  exact h
end
end Go.Proofs.YtebfcckaicgcfaaDoor.Q

namespace Go.Proofs.YtebfcckaicgcfaaDoor.Q
open Go.RowKit Go.Proofs.YtebfcckaicgcfaaDoorW.PrintWords Go.Proofs.YtebfcckaicgcfaaDoorW.PrintLast Go.Proofs.YtebfcckaicgcfaaDoorW.PrintMore
attribute [local go_sem] max2_int min2_int max_two min_two
set_option linter.unusedVariables false
set_option linter.unusedSimpArgs false

def latest.T15 : Bool × List (List Nat × List Nat) := (true, [([], []), ([], []), ([1], [1]), ([], []), ([0, 2, 3, 2, 0, 1, 2, 3], [0, 2, 3])])
def latest.B15 : List Nat := [0, 0, 2, 0, 15]
theorem latest.tab15 : rtab .any (opsOf Tryd.f5 15) = latest.T15 := by kernel_rfl
theorem latest.bits15 : waitsOk latest.T15.2 latest.B15 = true := by kernel_rfl

theorem below_tr {n m : Nat} {w A B : World} (h : Below n w A) (hb : Below m A B) (hn : n ≤ m) : Below n w B :=
  ⟨hb.os.trans h.os, hb.tape.trans h.tape, hb.output.trans h.output, Nat.le_trans h.size hb.size, fun j hj => (hb.block j (by omega)).trans (h.block j hj)⟩
theorem below_go {n : Nat} {w A B : World} (h : Below n w A) (hn : n ≤ A.heap.size) (hb : Below A.heap.size A B) : Below n w B :=
  ⟨hb.os.trans h.os, hb.tape.trans h.tape, hb.output.trans h.output, Nat.le_trans h.size hb.size, fun j hj => (hb.block j (by omega)).trans (h.block j hj)⟩
theorem mapL_snoc (L : List Fct) (r : Fct) : mapL (L ++ [r]) = stepM (mapL L) r := by
  unfold mapL
  rw [List.foldl_append]
  rfl
/-- Held in the region that stores into the map. -/
def SL15 (w0 : World) (bm g9 : Nat) (r : Fct) (m : List (Sub × Fct)) (W : World) : Prop :=
  Below bm w0 W ∧ MapS W bm m ∧ W.heap[g9]? = some (.cells #[.int .i64 r.f0, .int .i64 r.f1, .int .i64 r.f2, .int .i64 r.f3, .int .i64 r.f4, .int .i64 r.f5, .int .i64 r.f6, .int .i64 r.f7, .int .i64 r.f8] 24 (0, 0))
theorem SL15.below {w0 : World} {bm g9 : Nat} {r : Fct} {m : List (Sub × Fct)} {W V : World} (h : SL15 w0 bm g9 r m W) (hb : Below W.heap.size W V) : SL15 w0 bm g9 r m V :=
  ⟨below_go h.1 (Nat.le_of_lt h.2.1.lt) hb, h.2.1.blk (hb.block _ h.2.1.lt), heap_below hb h.2.2⟩
theorem SL15.drew {w0 : World} {bm g9 : Nat} {r : Fct} {m : List (Sub × Fct)} {W : World} (h : SL15 w0 bm g9 r m W) : SL15 w0 bm g9 r m (World.drew W) := h.below (below_drew1 (Below.refl _ _))
set_option maxRecDepth 100000 in
set_option maxHeartbeats 8000000 in
theorem lat_yes (A0 : Option Addr) (c0 : Nat) (l0 : List S24) (a1 : Int) (w : World) (hr0 : Kd.C k24 w A0 l0.length l0) (hc0 : l0.length ≤ c0) (hrw : RowsAt w) (h1 : chkV l0 = 0) (h2 : wi a1 0 134217727 = true) (hn3 : l0.length ≤ 300) :
    Calls Tryd.prog 5 #[.slice A0 l0.length c0, .int .i64 a1] w fun e w' => e = .returned (.bool true) ∧ Below w.heap.size w w' := by
  have hmm := @run_makeMap Tryd.prog
  have HSA := Aside0.mk (fastilaw46_sane.calls 20 true w sane_20 hrw)
  have HRI := Aside0.mk (fun W (hb : Below w.heap.size w W) => fastilaw46_right.calls (l0.length + 3) A0 c0 l0 true W (Kd.C_below hr0 hb) hc0 (by rw [right_eq l0 _ (Nat.le_refl _), decide_eq_true hn3, decide_eq_true h1]; rfl))
  have HMO := Aside0.mk (fun W => fastiref46_Moment.calls a1 true W (by rw [rmoment, h2]))
  have HST := Aside0.mk (fun W (hb : Below w.heap.size w W) => facts_Standing.calls A0 c0 l0 a1 (l0.filter (standB l0 a1)) 0 W (Kd.C_below hr0 hb) hc0 (by unfold facts_Standing.f; rw [standV_eq h1 h2]) (hrw.below hb hrw.pos))
  have HOK := Aside0.mk h1
  have HR := Aside0.mk hr0
  have HN3 := Aside0.mk hn3
  have HB := Aside0.mk (Below.refl w.heap.size w)
  clear hrw hr0 h1 h2 hn3
  go_enter Tryd.func5, Tryd.ntmps5
  go_wp2_with (first | ((with_reducible refine gate_callee (f := 10) rfl ?_); refine goesL_ (some 19) rfl rfl Tryd.func10 (by kernel_rfl) rfl #[] rfl (by (try simp only [List.map_toArray, List.map_cons, List.map_nil]); first | done | rfl) ?_; refine (HSA.out).mono ?_; rintro e w19 ⟨rfl, hb19⟩; refine ⟨_, rfl, ?_⟩; replace HB := Aside0.mk hb19; clear hb19) | ((with_reducible refine gate_callee (f := 21) rfl ?_); refine goesL_ (some 22) rfl rfl Tryd.func21 (by kernel_rfl) rfl #[.slice A0 l0.length c0] rfl (by (try simp only [List.map_toArray, List.map_cons, List.map_nil]); first | done | rfl) ?_; refine (HRI.out _ HB.out).mono ?_; rintro e w22 ⟨rfl, hb22⟩; refine ⟨_, rfl, ?_⟩; replace HB := Aside0.mk (below_step HB.out hb22); clear hb22) | ((with_reducible refine gate_callee (f := 22) rfl ?_); (try (refine gate_guard (by rfl) ?_; dsimp only)); refine goesL_ (some 26) rfl rfl Tryd.func22 (by kernel_rfl) rfl #[.int .i64 a1] rfl (by (try simp only [List.map_toArray, List.map_cons, List.map_nil]); first | done | rfl) ?_; refine (HMO.out _).mono ?_; rintro e w26 ⟨rfl, nd, rfl⟩; refine ⟨_, rfl, ?_⟩; replace HB := Aside0.mk (pw_below_drewN HB.out nd)) | ((with_reducible refine gate_callee (f := 17) rfl ?_); refine goesL_ (some 32) rfl rfl Tryd.func17 (by kernel_rfl) rfl #[.slice A0 l0.length c0, .int .i64 a1] rfl (by (try simp only [List.map_toArray, List.map_cons, List.map_nil]); first | done | rfl) ?_; refine (HST.out _ HB.out).mono ?_; rintro e w0 ⟨vX, rfl, hX, hb⟩; refine ⟨_, rfl, ?_⟩; replace HB := Aside0.mk (below_step HB.out hb); have HX := Aside0.mk hX; clear hb hX))
  clear HSA HRI HMO HST
  have HLG := Aside0.mk (fun k hk => lat_get HOK.out (t := a1) k hk)
  have HLN := Aside0.mk (fun k hk => lat_no HOK.out (t := a1) k hk)
  have HLR := Aside0.mk (fun p hp => lat_rest HOK.out (t := a1) p hp)
  have HLX : Aside0 ((l0.filter (standB l0 a1)).length ≤ 300) := ⟨Nat.le_trans (List.length_filter_le _ _) HN3.out⟩
  obtain ⟨X, hX⟩ : ∃ X, l0.filter (standB l0 a1) = X := ⟨_, rfl⟩
  rw [hX] at HX HLG HLN HLR HLX
  clear hX
  obtain ⟨AX, cX, rfl, hcX, hX6⟩ := Kd.R_reads HX.out
  clear HX
  have HXC := Aside0.mk hX6
  clear hX6
  have HW := HB
  have hM0 := MapS.new w0
  clear HB
  obtain ⟨bm, hbm⟩ : ∃ bm, w0.heap.size = bm := ⟨_, rfl⟩
  rw [hbm] at hM0 ⊢
  have hB0 : Below bm w0 (w0.alloc (.map #[] 0)) := hbm ▸ below_alloc (Below.refl _ _) _
  have HR0 : Aside0 (Kd.C k24 w0 A0 l0.length l0) := ⟨Kd.C_below HR.out HW.out⟩
  clear HR
  have hs0 : w0.heap.size ≤ bm := Nat.le_of_eq hbm
  have HS1 : Aside0 (w.heap.size ≤ bm) := ⟨Nat.le_trans HW.out.size (Nat.le_of_eq hbm)⟩
  have HS0 := Aside0.mk hs0
  clear hbm
  go_loopg [40] (l0.length + 1) (fun n v40 wr => ∃ k : Nat, v40 = .int .i64 (k : Int) ∧ Aside0 (k + n = l0.length + 1 ∧ k ≤ l0.length) ∧ Aside0 (Below bm w0 wr) ∧ Aside0 (MapS wr bm (mapL (knownV a1 (l0.take k)))))
  case atStart => exact ⟨0, rfl, ⟨by omega, by omega⟩, ⟨hB0⟩, ⟨hM0⟩⟩
  case round =>
    clear hB0 hM0 hs0
    obtain ⟨k, rfl, HG, HB, HM⟩ := hrel
    by_cases hk : k < l0.length
    · have p : 0 ≤ (k : Int) := by omega
      have q : (k : Int) < (l0.length : Int) := by omega
      obtain ⟨ad, e, x0, x1, x2, x3, x4, x5, x6, x7, x8⟩ := at_T24 HR0.out (k : Int) p q
      cases e
      rw [Int.toNat_natCast] at x0
      replace x0 := (HB.out.cell (Nat.lt_of_lt_of_le (World.block_lt_of_cell? w0 _ x0) HS0.out)).trans x0
      rw [Int.toNat_natCast] at x1
      replace x1 := (HB.out.cell (Nat.lt_of_lt_of_le (World.block_lt_of_cell? w0 _ x1) HS0.out)).trans x1
      rw [Int.toNat_natCast] at x2
      replace x2 := (HB.out.cell (Nat.lt_of_lt_of_le (World.block_lt_of_cell? w0 _ x2) HS0.out)).trans x2
      rw [Int.toNat_natCast] at x3
      replace x3 := (HB.out.cell (Nat.lt_of_lt_of_le (World.block_lt_of_cell? w0 _ x3) HS0.out)).trans x3
      rw [Int.toNat_natCast] at x4
      replace x4 := (HB.out.cell (Nat.lt_of_lt_of_le (World.block_lt_of_cell? w0 _ x4) HS0.out)).trans x4
      rw [Int.toNat_natCast] at x5
      replace x5 := (HB.out.cell (Nat.lt_of_lt_of_le (World.block_lt_of_cell? w0 _ x5) HS0.out)).trans x5
      rw [Int.toNat_natCast] at x6
      replace x6 := (HB.out.cell (Nat.lt_of_lt_of_le (World.block_lt_of_cell? w0 _ x6) HS0.out)).trans x6
      rw [Int.toNat_natCast] at x7
      replace x7 := (HB.out.cell (Nat.lt_of_lt_of_le (World.block_lt_of_cell? w0 _ x7) HS0.out)).trans x7
      rw [Int.toNat_natCast] at x8
      replace x8 := (HB.out.cell (Nat.lt_of_lt_of_le (World.block_lt_of_cell? w0 _ x8) HS0.out)).trans x8
      have HK := Aside0.mk (known_succ (l := l0) (t := a1) k hk)
      have HOld := Aside0.mk (fun z => lat_old HOK.out (t := a1) k hk (z := z))
      generalize hr : rd_T24 l0 (k : Int) = r at x0 x1 x2 x3 x4 x5 x6 x7 x8 HK HOld
      clear hr
      have hkd : decide ((k : Int) < (l0.length : Int)) = true := decide_eq_true q
      replace p := eq_true p
      replace q := eq_true q
      by_cases ht : r.f8 ≤ a1
      · have htd : decide (a1 < r.f8) = false := decide_eq_false (by omega)
        replace HK : Aside0 (knownV a1 (l0.take (k + 1)) = knownV a1 (l0.take k) ++ [r]) := ⟨by rw [HK.out, if_pos ht]⟩
        clear ht
        have HML := Aside0.mk (mapL_snoc (knownV a1 (l0.take k)) r)
        generalize mapL (knownV a1 (l0.take k)) = m at HM HML HOld
        generalize hz : (mget m (subOf r)).getD z24 = z
        have HZ := Aside0.mk hz
        clear hz
        have HLV : Aside0 (lookV true m (subOf r) = .tuple #[.agg #[.int .i64 z.f0, .int .i64 z.f1, .int .i64 z.f2, .int .i64 z.f3, .int .i64 z.f4, .int .i64 z.f5, .int .i64 z.f6, .int .i64 z.f7, .int .i64 z.f8], .bool (mget m (subOf r)).isSome]) := ⟨by unfold lookV; rw [if_pos rfl, HZ.out]; rfl⟩
        go_wp2_with fail
        refine (fastilaw46_about.calls r.f0 r.f1 r.f2 r.f3 r.f4 r.f5 r.f6 r.f7 r.f8 r.f1 r.f2 r.f3 r.f4 r.f7 _ rfl).mono ?_
        rintro e wC ⟨rfl, hb⟩
        have B9 : Aside0 (wC.heap[wr.heap.size]? = some (.cells #[.int .i64 r.f0, .int .i64 r.f1, .int .i64 r.f2, .int .i64 r.f3, .int .i64 r.f4, .int .i64 r.f5, .int .i64 r.f6, .int .i64 r.f7, .int .i64 r.f8] 24 (0, 0))) := ⟨heap_below hb (heap_at_new _ _ _ rfl)⟩
        have hbw := Aside0.mk HM.out.lt
        replace HB := Aside0.mk (below_go HB.out (Nat.le_of_lt hbw.out) (below_step (below_alloc (Below.refl _ _) _) hb))
        replace HM := Aside0.mk (HM.out.blk ((hb.block _ (by have := hbw.out; simp; omega)).trans (Below.heap_alloc _ _ _ hbw.out)))
        clear hb
        have hle9 := Aside0.mk (blk_lt B9.out)
        have hbw9 : Aside0 (bm ≠ wr.heap.size) := ⟨by have := hbw.out; omega⟩
        clear x0 x1 x2 x3 x4 x5 x6 x7 x8 p q
        generalize wr.heap.size = g9 at B9 hle9 hbw9 ⊢
        clear hbw
        have B9' := Aside0.mk (heap_at_old wC (.cells #[.int .i64 z.f0, .int .i64 z.f1, .int .i64 z.f2, .int .i64 z.f3, .int .i64 z.f4, .int .i64 z.f5, .int .i64 z.f6, .int .i64 z.f7, .int .i64 z.f8] 24 (0, 0)) _ _ B9.out)
        have B10 := Aside0.mk (heap_at_new wC (.cells #[.int .i64 z.f0, .int .i64 z.f1, .int .i64 z.f2, .int .i64 z.f3, .int .i64 z.f4, .int .i64 z.f5, .int .i64 z.f6, .int .i64 z.f7, .int .i64 z.f8] 24 (0, 0)) _ rfl)
        have HB' := Aside0.mk (below_go HB.out (Nat.le_of_lt HM.out.lt) (below_alloc (Below.refl _ _) (.cells #[.int .i64 z.f0, .int .i64 z.f1, .int .i64 z.f2, .int .i64 z.f3, .int .i64 z.f4, .int .i64 z.f5, .int .i64 z.f6, .int .i64 z.f7, .int .i64 z.f8] 24 (0, 0))))
        have HM' := Aside0.mk (HM.out.blk (Below.heap_alloc _ (.cells #[.int .i64 z.f0, .int .i64 z.f1, .int .i64 z.f2, .int .i64 z.f3, .int .i64 z.f4, .int .i64 z.f5, .int .i64 z.f6, .int .i64 z.f7, .int .i64 z.f8] 24 (0, 0)) _ HM.out.lt))
        have d0 : _ = some (Value.int .i64 r.f0) := (blk_cell B9'.out 0).trans rfl; have d1 : _ = some (Value.int .i64 r.f1) := (blk_cell B9'.out 1).trans rfl; have d2 : _ = some (Value.int .i64 r.f2) := (blk_cell B9'.out 2).trans rfl; have d3 : _ = some (Value.int .i64 r.f3) := (blk_cell B9'.out 3).trans rfl; have d4 : _ = some (Value.int .i64 r.f4) := (blk_cell B9'.out 4).trans rfl; have d5 : _ = some (Value.int .i64 r.f5) := (blk_cell B9'.out 5).trans rfl; have d6 : _ = some (Value.int .i64 r.f6) := (blk_cell B9'.out 6).trans rfl; have d7 : _ = some (Value.int .i64 r.f7) := (blk_cell B9'.out 7).trans rfl; have d8 : _ = some (Value.int .i64 r.f8) := (blk_cell B9'.out 8).trans rfl
        have e0 : _ = some (Value.int .i64 z.f0) := (blk_cell B10.out 0).trans rfl; have e1 : _ = some (Value.int .i64 z.f1) := (blk_cell B10.out 1).trans rfl; have e2 : _ = some (Value.int .i64 z.f2) := (blk_cell B10.out 2).trans rfl; have e3 : _ = some (Value.int .i64 z.f3) := (blk_cell B10.out 3).trans rfl; have e4 : _ = some (Value.int .i64 z.f4) := (blk_cell B10.out 4).trans rfl; have e5 : _ = some (Value.int .i64 z.f5) := (blk_cell B10.out 5).trans rfl; have e6 : _ = some (Value.int .i64 z.f6) := (blk_cell B10.out 6).trans rfl; have e7 : _ = some (Value.int .i64 z.f7) := (blk_cell B10.out 7).trans rfl; have e8 : _ = some (Value.int .i64 z.f8) := (blk_cell B10.out 8).trans rfl
        clear hmm
        go_upto_region 14 with (first | ((with_reducible refine gate_dst (N := 52) rfl ?_); refine lookL 40 uKb pKb uMb (.tmp 49) (.tmp 51) bm (m) (subOf r) rfl rfl rfl rfl HM.out.at (.tuple #[.agg #[.int .i64 z.f0, .int .i64 z.f1, .int .i64 z.f2, .int .i64 z.f3, .int .i64 z.f4, .int .i64 z.f5, .int .i64 z.f6, .int .i64 z.f7, .int .i64 z.f8], .bool (mget m (subOf r)).isSome]) HLV.out ?_))
        clear HLV
        cases hg : mget m (subOf r) with
        | none =>
          have HST2 : Aside0 (stepM m r = mput m (subOf r) r) := ⟨by unfold stepM; rw [hg]⟩
          rw [Option.isSome_none]
          clear HOld HZ hg
          go_wp2
          have hS0 := Aside0.mk (SL15.drew ⟨HB'.out, HM'.out, B9'.out⟩)
          refine start_ (n := 5) (S := SL15 w0 bm g9 r m) (ds := [4]) #[false, false, false, false, false] (by kernel_rfl) rfl rfl hS0.out (fun hHeld => ?_)
          clear hS0
          refine with_tabW latest.tab15 latest.bits15 (fun HT_ HW_ => ?_)
          generalize World.drew _ = Wd at hHeld ⊢
          refine pure_ (i := 0) (N := some 78) (v := ?_) (a' := ?_) #[true, false, false, false, false] rfl rfl (any_of HT_.out (by kernel_rfl)) (fun _ _ _ h => h) (Or.inl ⟨by rfl, ?_⟩) ?_ ?_
          rotate_left
          · intro w'
            go_simp
            with_reducible rfl
          rotate_left
          · simp only [Act.put, List.setIfInBounds_toArray, List.set_cons_zero, List.set_cons_succ, i64_w, i32_w]
            rfl
          refine take_ (i := 1) (N := some 79) (v := ?_) (a' := ?_) #[true, true, false, false, false] rfl rfl (take_ofW HT_.out HW_.out (by kernel_rfl)) (fun _ _ _ h => h) (Or.inl ⟨by rfl, ?_⟩) hHeld ?_ ?_
          rotate_left
          · rintro w' hs
            have hs3 := hs.2.2
            have y0 : _ = some (Value.int .i64 r.f0) := (blk_cell hs3 0).trans rfl
            have y1 : _ = some (Value.int .i64 r.f1) := (blk_cell hs3 1).trans rfl
            have y2 : _ = some (Value.int .i64 r.f2) := (blk_cell hs3 2).trans rfl
            have y3 : _ = some (Value.int .i64 r.f3) := (blk_cell hs3 3).trans rfl
            have y4 : _ = some (Value.int .i64 r.f4) := (blk_cell hs3 4).trans rfl
            have y5 : _ = some (Value.int .i64 r.f5) := (blk_cell hs3 5).trans rfl
            have y6 : _ = some (Value.int .i64 r.f6) := (blk_cell hs3 6).trans rfl
            have y7 : _ = some (Value.int .i64 r.f7) := (blk_cell hs3 7).trans rfl
            have y8 : _ = some (Value.int .i64 r.f8) := (blk_cell hs3 8).trans rfl
            go_simp
            with_reducible rfl
          rotate_left
          · simp only [Act.put, List.setIfInBounds_toArray, List.set_cons_zero, List.set_cons_succ, i64_w, i32_w]
            rfl
          refine take_ (i := 3) (N := some 81) (v := ?_) (a' := ?_) #[true, true, false, true, false] rfl rfl (take_ofW HT_.out HW_.out (by kernel_rfl)) (fun _ _ _ h => h) (Or.inl ⟨by rfl, ?_⟩) hHeld ?_ ?_
          rotate_left
          · rintro w' hs
            have hs3 := hs.2.2
            have y0 : _ = some (Value.int .i64 r.f0) := (blk_cell hs3 0).trans rfl
            have y1 : _ = some (Value.int .i64 r.f1) := (blk_cell hs3 1).trans rfl
            have y2 : _ = some (Value.int .i64 r.f2) := (blk_cell hs3 2).trans rfl
            have y3 : _ = some (Value.int .i64 r.f3) := (blk_cell hs3 3).trans rfl
            have y4 : _ = some (Value.int .i64 r.f4) := (blk_cell hs3 4).trans rfl
            have y5 : _ = some (Value.int .i64 r.f5) := (blk_cell hs3 5).trans rfl
            have y6 : _ = some (Value.int .i64 r.f6) := (blk_cell hs3 6).trans rfl
            have y7 : _ = some (Value.int .i64 r.f7) := (blk_cell hs3 7).trans rfl
            have y8 : _ = some (Value.int .i64 r.f8) := (blk_cell hs3 8).trans rfl
            go_simp
            with_reducible rfl
          rotate_left
          · simp only [Act.put, List.setIfInBounds_toArray, List.set_cons_zero, List.set_cons_succ, i64_w, i32_w]
            rfl
          refine one_ (i := 2) (N := some 80) #[true, true, true, true, false] rfl rfl (one_of HT_.out (by kernel_rfl)) (by decide) (fun K hK => ?_)
          refine goes_ Tryd.func23 (by kernel_rfl) rfl #[.agg #[.int .i64 r.f0, .int .i64 r.f1, .int .i64 r.f2, .int .i64 r.f3, .int .i64 r.f4, .int .i64 r.f5, .int .i64 r.f6, .int .i64 r.f7, .int .i64 r.f8]] (by rfl) rfl rfl (by (try simp only [List.map_toArray, List.map_cons, List.map_nil]); first | done | rfl) ?_
          refine (fastilaw46_about.calls r.f0 r.f1 r.f2 r.f3 r.f4 r.f5 r.f6 r.f7 r.f8 r.f1 r.f2 r.f3 r.f4 r.f7 _ rfl).mono ?_
          rintro e wD ⟨rfl, hb⟩
          refine ⟨_, rfl, ?_⟩
          refine hK.out _ _ (hHeld.below hb) (fun hHeld => ?_)
          clear hK K hb
          refine norm_ (a' := ?_) ?_ ?_
          rotate_left
          · show Act.put _ (some 80) _ = _
            simp only [Act.put, List.setIfInBounds_toArray, List.set_cons_zero, List.set_cons_succ, i64_w, i32_w]
            rfl
          obtain ⟨wE, hE1, hE2, hE3⟩ := updS_run 40 uKb pKb uMb hHeld.2.1 (subOf r) r
          have hE1 := Aside0.mk hE1
          have HE2 := Aside0.mk hE2
          have HE3 := Aside0.mk (below_grownS hHeld.1 hE3 (Nat.le_refl _) (Nat.le_of_lt hHeld.2.1.lt))
          clear hE2 hE3
          refine last_ (i := 4) (N := none) #[true, true, true, true, true] rfl rfl (one_of HT_.out (by kernel_rfl)) (by decide) (fun K hK => ?_)
          refine updK (.tmp 78) (.tmp 80) (.tmp 81) bm (subOf r) r (by rfl) rfl rfl (by rfl) (by rfl) (by rfl) hE1.out ?_
          refine hK.out _ _ ?_
          clear hK K hHeld
          refine done_ (done_of HT_.out (by kernel_rfl)) ?_
          go_wp2
          have hw : wrap64 ((k : Int) + 1) = ((k + 1 : Nat) : Int) := by have := HN3.out; rw [wr_in (by omega)]; omega
          rw [hw]
          go_roundg (gk - 1)
          case measure => have := HG.out; omega
          case rel => exact ⟨k + 1, rfl, ⟨by have := HG.out; omega⟩, HE3, ⟨by rw [HK.out, HML.out, HST2.out]; exact HE2.out⟩⟩
        | some z0 =>
          have hzo : z.f0 < r.f0 := by
            have := HOld.out z0 hg
            rw [hg] at HZ
            rw [← HZ.out]
            exact this
          obtain rfl : z0 = z := by rw [hg] at HZ; exact HZ.out
          rw [Option.isSome_some]
          rcases Int.lt_trichotomy z0.f8 r.f8 with hc | hc | hc
          · have HST2 : Aside0 (stepM m r = mput m (subOf r) r) := ⟨by unfold stepM; rw [hg]; exact if_pos (by omega)⟩
            have hd1 : decide (z0.f8 < r.f8) = true := decide_eq_true hc
            clear HOld HZ hg hzo hc
            go_wp2
            have hS0 := Aside0.mk (SL15.drew ⟨HB'.out, HM'.out, B9'.out⟩)
            refine start_ (n := 5) (S := SL15 w0 bm g9 r m) (ds := [4]) #[false, false, false, false, false] (by kernel_rfl) rfl rfl hS0.out (fun hHeld => ?_)
            clear hS0
            refine with_tabW latest.tab15 latest.bits15 (fun HT_ HW_ => ?_)
            generalize World.drew _ = Wd at hHeld ⊢
            refine pure_ (i := 0) (N := some 78) (v := ?_) (a' := ?_) #[true, false, false, false, false] rfl rfl (any_of HT_.out (by kernel_rfl)) (fun _ _ _ h => h) (Or.inl ⟨by rfl, ?_⟩) ?_ ?_
            rotate_left
            · intro w'
              go_simp
              with_reducible rfl
            rotate_left
            · simp only [Act.put, List.setIfInBounds_toArray, List.set_cons_zero, List.set_cons_succ, i64_w, i32_w]
              rfl
            refine take_ (i := 1) (N := some 79) (v := ?_) (a' := ?_) #[true, true, false, false, false] rfl rfl (take_ofW HT_.out HW_.out (by kernel_rfl)) (fun _ _ _ h => h) (Or.inl ⟨by rfl, ?_⟩) hHeld ?_ ?_
            rotate_left
            · rintro w' hs
              have hs3 := hs.2.2
              have y0 : _ = some (Value.int .i64 r.f0) := (blk_cell hs3 0).trans rfl
              have y1 : _ = some (Value.int .i64 r.f1) := (blk_cell hs3 1).trans rfl
              have y2 : _ = some (Value.int .i64 r.f2) := (blk_cell hs3 2).trans rfl
              have y3 : _ = some (Value.int .i64 r.f3) := (blk_cell hs3 3).trans rfl
              have y4 : _ = some (Value.int .i64 r.f4) := (blk_cell hs3 4).trans rfl
              have y5 : _ = some (Value.int .i64 r.f5) := (blk_cell hs3 5).trans rfl
              have y6 : _ = some (Value.int .i64 r.f6) := (blk_cell hs3 6).trans rfl
              have y7 : _ = some (Value.int .i64 r.f7) := (blk_cell hs3 7).trans rfl
              have y8 : _ = some (Value.int .i64 r.f8) := (blk_cell hs3 8).trans rfl
              go_simp
              with_reducible rfl
            rotate_left
            · simp only [Act.put, List.setIfInBounds_toArray, List.set_cons_zero, List.set_cons_succ, i64_w, i32_w]
              rfl
            refine take_ (i := 3) (N := some 81) (v := ?_) (a' := ?_) #[true, true, false, true, false] rfl rfl (take_ofW HT_.out HW_.out (by kernel_rfl)) (fun _ _ _ h => h) (Or.inl ⟨by rfl, ?_⟩) hHeld ?_ ?_
            rotate_left
            · rintro w' hs
              have hs3 := hs.2.2
              have y0 : _ = some (Value.int .i64 r.f0) := (blk_cell hs3 0).trans rfl
              have y1 : _ = some (Value.int .i64 r.f1) := (blk_cell hs3 1).trans rfl
              have y2 : _ = some (Value.int .i64 r.f2) := (blk_cell hs3 2).trans rfl
              have y3 : _ = some (Value.int .i64 r.f3) := (blk_cell hs3 3).trans rfl
              have y4 : _ = some (Value.int .i64 r.f4) := (blk_cell hs3 4).trans rfl
              have y5 : _ = some (Value.int .i64 r.f5) := (blk_cell hs3 5).trans rfl
              have y6 : _ = some (Value.int .i64 r.f6) := (blk_cell hs3 6).trans rfl
              have y7 : _ = some (Value.int .i64 r.f7) := (blk_cell hs3 7).trans rfl
              have y8 : _ = some (Value.int .i64 r.f8) := (blk_cell hs3 8).trans rfl
              go_simp
              with_reducible rfl
            rotate_left
            · simp only [Act.put, List.setIfInBounds_toArray, List.set_cons_zero, List.set_cons_succ, i64_w, i32_w]
              rfl
            refine one_ (i := 2) (N := some 80) #[true, true, true, true, false] rfl rfl (one_of HT_.out (by kernel_rfl)) (by decide) (fun K hK => ?_)
            refine goes_ Tryd.func23 (by kernel_rfl) rfl #[.agg #[.int .i64 r.f0, .int .i64 r.f1, .int .i64 r.f2, .int .i64 r.f3, .int .i64 r.f4, .int .i64 r.f5, .int .i64 r.f6, .int .i64 r.f7, .int .i64 r.f8]] (by rfl) rfl rfl (by (try simp only [List.map_toArray, List.map_cons, List.map_nil]); first | done | rfl) ?_
            refine (fastilaw46_about.calls r.f0 r.f1 r.f2 r.f3 r.f4 r.f5 r.f6 r.f7 r.f8 r.f1 r.f2 r.f3 r.f4 r.f7 _ rfl).mono ?_
            rintro e wD ⟨rfl, hb⟩
            refine ⟨_, rfl, ?_⟩
            refine hK.out _ _ (hHeld.below hb) (fun hHeld => ?_)
            clear hK K hb
            refine norm_ (a' := ?_) ?_ ?_
            rotate_left
            · show Act.put _ (some 80) _ = _
              simp only [Act.put, List.setIfInBounds_toArray, List.set_cons_zero, List.set_cons_succ, i64_w, i32_w]
              rfl
            obtain ⟨wE, hE1, hE2, hE3⟩ := updS_run 40 uKb pKb uMb hHeld.2.1 (subOf r) r
            have hE1 := Aside0.mk hE1
            have HE2 := Aside0.mk hE2
            have HE3 := Aside0.mk (below_grownS hHeld.1 hE3 (Nat.le_refl _) (Nat.le_of_lt hHeld.2.1.lt))
            clear hE2 hE3
            refine last_ (i := 4) (N := none) #[true, true, true, true, true] rfl rfl (one_of HT_.out (by kernel_rfl)) (by decide) (fun K hK => ?_)
            refine updK (.tmp 78) (.tmp 80) (.tmp 81) bm (subOf r) r (by rfl) rfl rfl (by rfl) (by rfl) (by rfl) hE1.out ?_
            refine hK.out _ _ ?_
            clear hK K hHeld
            refine done_ (done_of HT_.out (by kernel_rfl)) ?_
            go_wp2
            have hw : wrap64 ((k : Int) + 1) = ((k + 1 : Nat) : Int) := by have := HN3.out; rw [wr_in (by omega)]; omega
            rw [hw]
            go_roundg (gk - 1)
            case measure => have := HG.out; omega
            case rel => exact ⟨k + 1, rfl, ⟨by have := HG.out; omega⟩, HE3, ⟨by rw [HK.out, HML.out, HST2.out]; exact HE2.out⟩⟩
          · have HST2 : Aside0 (stepM m r = mput m (subOf r) r) := ⟨by unfold stepM; rw [hg]; exact if_pos (by omega)⟩
            have hd1 : decide (z0.f8 < r.f8) = false := decide_eq_false (by omega)
            have hd2 : (r.f8 == z0.f8) = true := beq_iff_eq.2 hc.symm
            have hd3 : decide (z0.f0 < r.f0) = true := decide_eq_true hzo
            clear HOld HZ hg hzo hc
            go_wp2
            have hS0 := Aside0.mk (SL15.drew ⟨HB'.out, HM'.out, B9'.out⟩)
            refine start_ (n := 5) (S := SL15 w0 bm g9 r m) (ds := [4]) #[false, false, false, false, false] (by kernel_rfl) rfl rfl hS0.out (fun hHeld => ?_)
            clear hS0
            refine with_tabW latest.tab15 latest.bits15 (fun HT_ HW_ => ?_)
            generalize World.drew _ = Wd at hHeld ⊢
            refine pure_ (i := 0) (N := some 78) (v := ?_) (a' := ?_) #[true, false, false, false, false] rfl rfl (any_of HT_.out (by kernel_rfl)) (fun _ _ _ h => h) (Or.inl ⟨by rfl, ?_⟩) ?_ ?_
            rotate_left
            · intro w'
              go_simp
              with_reducible rfl
            rotate_left
            · simp only [Act.put, List.setIfInBounds_toArray, List.set_cons_zero, List.set_cons_succ, i64_w, i32_w]
              rfl
            refine take_ (i := 1) (N := some 79) (v := ?_) (a' := ?_) #[true, true, false, false, false] rfl rfl (take_ofW HT_.out HW_.out (by kernel_rfl)) (fun _ _ _ h => h) (Or.inl ⟨by rfl, ?_⟩) hHeld ?_ ?_
            rotate_left
            · rintro w' hs
              have hs3 := hs.2.2
              have y0 : _ = some (Value.int .i64 r.f0) := (blk_cell hs3 0).trans rfl
              have y1 : _ = some (Value.int .i64 r.f1) := (blk_cell hs3 1).trans rfl
              have y2 : _ = some (Value.int .i64 r.f2) := (blk_cell hs3 2).trans rfl
              have y3 : _ = some (Value.int .i64 r.f3) := (blk_cell hs3 3).trans rfl
              have y4 : _ = some (Value.int .i64 r.f4) := (blk_cell hs3 4).trans rfl
              have y5 : _ = some (Value.int .i64 r.f5) := (blk_cell hs3 5).trans rfl
              have y6 : _ = some (Value.int .i64 r.f6) := (blk_cell hs3 6).trans rfl
              have y7 : _ = some (Value.int .i64 r.f7) := (blk_cell hs3 7).trans rfl
              have y8 : _ = some (Value.int .i64 r.f8) := (blk_cell hs3 8).trans rfl
              go_simp
              with_reducible rfl
            rotate_left
            · simp only [Act.put, List.setIfInBounds_toArray, List.set_cons_zero, List.set_cons_succ, i64_w, i32_w]
              rfl
            refine take_ (i := 3) (N := some 81) (v := ?_) (a' := ?_) #[true, true, false, true, false] rfl rfl (take_ofW HT_.out HW_.out (by kernel_rfl)) (fun _ _ _ h => h) (Or.inl ⟨by rfl, ?_⟩) hHeld ?_ ?_
            rotate_left
            · rintro w' hs
              have hs3 := hs.2.2
              have y0 : _ = some (Value.int .i64 r.f0) := (blk_cell hs3 0).trans rfl
              have y1 : _ = some (Value.int .i64 r.f1) := (blk_cell hs3 1).trans rfl
              have y2 : _ = some (Value.int .i64 r.f2) := (blk_cell hs3 2).trans rfl
              have y3 : _ = some (Value.int .i64 r.f3) := (blk_cell hs3 3).trans rfl
              have y4 : _ = some (Value.int .i64 r.f4) := (blk_cell hs3 4).trans rfl
              have y5 : _ = some (Value.int .i64 r.f5) := (blk_cell hs3 5).trans rfl
              have y6 : _ = some (Value.int .i64 r.f6) := (blk_cell hs3 6).trans rfl
              have y7 : _ = some (Value.int .i64 r.f7) := (blk_cell hs3 7).trans rfl
              have y8 : _ = some (Value.int .i64 r.f8) := (blk_cell hs3 8).trans rfl
              go_simp
              with_reducible rfl
            rotate_left
            · simp only [Act.put, List.setIfInBounds_toArray, List.set_cons_zero, List.set_cons_succ, i64_w, i32_w]
              rfl
            refine one_ (i := 2) (N := some 80) #[true, true, true, true, false] rfl rfl (one_of HT_.out (by kernel_rfl)) (by decide) (fun K hK => ?_)
            refine goes_ Tryd.func23 (by kernel_rfl) rfl #[.agg #[.int .i64 r.f0, .int .i64 r.f1, .int .i64 r.f2, .int .i64 r.f3, .int .i64 r.f4, .int .i64 r.f5, .int .i64 r.f6, .int .i64 r.f7, .int .i64 r.f8]] (by rfl) rfl rfl (by (try simp only [List.map_toArray, List.map_cons, List.map_nil]); first | done | rfl) ?_
            refine (fastilaw46_about.calls r.f0 r.f1 r.f2 r.f3 r.f4 r.f5 r.f6 r.f7 r.f8 r.f1 r.f2 r.f3 r.f4 r.f7 _ rfl).mono ?_
            rintro e wD ⟨rfl, hb⟩
            refine ⟨_, rfl, ?_⟩
            refine hK.out _ _ (hHeld.below hb) (fun hHeld => ?_)
            clear hK K hb
            refine norm_ (a' := ?_) ?_ ?_
            rotate_left
            · show Act.put _ (some 80) _ = _
              simp only [Act.put, List.setIfInBounds_toArray, List.set_cons_zero, List.set_cons_succ, i64_w, i32_w]
              rfl
            obtain ⟨wE, hE1, hE2, hE3⟩ := updS_run 40 uKb pKb uMb hHeld.2.1 (subOf r) r
            have hE1 := Aside0.mk hE1
            have HE2 := Aside0.mk hE2
            have HE3 := Aside0.mk (below_grownS hHeld.1 hE3 (Nat.le_refl _) (Nat.le_of_lt hHeld.2.1.lt))
            clear hE2 hE3
            refine last_ (i := 4) (N := none) #[true, true, true, true, true] rfl rfl (one_of HT_.out (by kernel_rfl)) (by decide) (fun K hK => ?_)
            refine updK (.tmp 78) (.tmp 80) (.tmp 81) bm (subOf r) r (by rfl) rfl rfl (by rfl) (by rfl) (by rfl) hE1.out ?_
            refine hK.out _ _ ?_
            clear hK K hHeld
            refine done_ (done_of HT_.out (by kernel_rfl)) ?_
            go_wp2
            have hw : wrap64 ((k : Int) + 1) = ((k + 1 : Nat) : Int) := by have := HN3.out; rw [wr_in (by omega)]; omega
            rw [hw]
            go_roundg (gk - 1)
            case measure => have := HG.out; omega
            case rel => exact ⟨k + 1, rfl, ⟨by have := HG.out; omega⟩, HE3, ⟨by rw [HK.out, HML.out, HST2.out]; exact HE2.out⟩⟩
          · have HST2 : Aside0 (stepM m r = m) := ⟨by unfold stepM; rw [hg]; exact if_neg (by omega)⟩
            have hd1 : decide (z0.f8 < r.f8) = false := decide_eq_false (by omega)
            have hd2 : (r.f8 == z0.f8) = false := beq_eq_false_iff_ne.2 (by omega)
            clear HOld HZ hg hzo hc
            go_wp2
            have hw : wrap64 ((k : Int) + 1) = ((k + 1 : Nat) : Int) := by have := HN3.out; rw [wr_in (by omega)]; omega
            rw [hw]
            go_roundg (gk - 1)
            case measure => have := HG.out; omega
            case rel => exact ⟨k + 1, rfl, ⟨by have := HG.out; omega⟩, HB', ⟨by rw [HK.out, HML.out, HST2.out]; exact HM'.out⟩⟩
      · have htd : decide (a1 < r.f8) = true := decide_eq_true (by omega)
        replace HK : Aside0 (knownV a1 (l0.take (k + 1)) = knownV a1 (l0.take k)) := ⟨by rw [HK.out, if_neg ht, List.append_nil]⟩
        clear ht
        have hbw := Aside0.mk HM.out.lt
        have HB' := Aside0.mk (below_go HB.out (Nat.le_of_lt hbw.out) (below_alloc (Below.refl _ _) (.cells #[.int .i64 r.f0, .int .i64 r.f1, .int .i64 r.f2, .int .i64 r.f3, .int .i64 r.f4, .int .i64 r.f5, .int .i64 r.f6, .int .i64 r.f7, .int .i64 r.f8] 24 (0, 0))))
        have HM' := Aside0.mk (HM.out.blk (Below.heap_alloc _ (.cells #[.int .i64 r.f0, .int .i64 r.f1, .int .i64 r.f2, .int .i64 r.f3, .int .i64 r.f4, .int .i64 r.f5, .int .i64 r.f6, .int .i64 r.f7, .int .i64 r.f8] 24 (0, 0)) _ HM.out.lt))
        go_wp2_with fail
        have hw : wrap64 ((k : Int) + 1) = ((k + 1 : Nat) : Int) := by have := HN3.out; rw [wr_in (by omega)]; omega
        rw [hw]
        go_roundg (gk - 1)
        case measure => have := HG.out; omega
        case rel => exact ⟨k + 1, rfl, ⟨by have := HG.out; omega⟩, HB', ⟨by rw [HK.out]; exact HM'.out⟩⟩
    · have hkl : k = l0.length := by have := HG.out; omega
      subst hkl
      have hkd : decide ((l0.length : Int) < (l0.length : Int)) = false := decide_eq_false (by omega)
      clear hmm HG hk
      replace HM : Aside0 (MapS wr bm (mapL (knownV a1 l0))) := ⟨by have := HM.out; rwa [List.take_length] at this⟩
      have HSU := Aside0.mk (fun k hk => mdels_succ (mapL (knownV a1 l0)) X k hk)
      have hM2 : MapS wr bm (mdels (mapL (knownV a1 l0)) (X.take 0)) := HM.out
      generalize mapL (knownV a1 l0) = M at HM HSU HLG HLR hM2
      have HM2 := Aside0.mk hM2
      clear hM2 HM
      go_wp2
      clear hkd
      go_loopg [12, 85] (X.length + 1) (fun n v12 v85 wr => ∃ k : Nat, v12 = .int .i64 (beforeV X k) ∧ v85 = .int .i64 (k : Int) ∧ Aside0 (k + n = X.length + 1 ∧ k ≤ X.length) ∧ Aside0 (Below bm w0 wr) ∧ Aside0 (MapS wr bm (mdels M (X.take k))))
      case atStart => exact ⟨0, rfl, rfl, ⟨by omega, by omega⟩, HB, HM2⟩
      case round =>
      clear HM2 HB
      obtain ⟨k, rfl, rfl, HG, HB, HM⟩ := hrel
      by_cases hk : k < X.length
      · have p : 0 ≤ (k : Int) := by omega
        have q : (k : Int) < (X.length : Int) := by omega
        obtain ⟨ad, e, x0, x1, x2, x3, x4, x5, x6, x7, x8⟩ := at_T24 HXC.out (k : Int) p q
        cases e
        rw [Int.toNat_natCast] at x0
        replace x0 := (HB.out.cell (Nat.lt_of_lt_of_le (World.block_lt_of_cell? w0 _ x0) HS0.out)).trans x0
        rw [Int.toNat_natCast] at x1
        replace x1 := (HB.out.cell (Nat.lt_of_lt_of_le (World.block_lt_of_cell? w0 _ x1) HS0.out)).trans x1
        rw [Int.toNat_natCast] at x2
        replace x2 := (HB.out.cell (Nat.lt_of_lt_of_le (World.block_lt_of_cell? w0 _ x2) HS0.out)).trans x2
        rw [Int.toNat_natCast] at x3
        replace x3 := (HB.out.cell (Nat.lt_of_lt_of_le (World.block_lt_of_cell? w0 _ x3) HS0.out)).trans x3
        rw [Int.toNat_natCast] at x4
        replace x4 := (HB.out.cell (Nat.lt_of_lt_of_le (World.block_lt_of_cell? w0 _ x4) HS0.out)).trans x4
        rw [Int.toNat_natCast] at x5
        replace x5 := (HB.out.cell (Nat.lt_of_lt_of_le (World.block_lt_of_cell? w0 _ x5) HS0.out)).trans x5
        rw [Int.toNat_natCast] at x6
        replace x6 := (HB.out.cell (Nat.lt_of_lt_of_le (World.block_lt_of_cell? w0 _ x6) HS0.out)).trans x6
        rw [Int.toNat_natCast] at x7
        replace x7 := (HB.out.cell (Nat.lt_of_lt_of_le (World.block_lt_of_cell? w0 _ x7) HS0.out)).trans x7
        rw [Int.toNat_natCast] at x8
        replace x8 := (HB.out.cell (Nat.lt_of_lt_of_le (World.block_lt_of_cell? w0 _ x8) HS0.out)).trans x8
        have HG1 := Aside0.mk (HLG.out k hk)
        have HG2 := Aside0.mk (HLN.out k hk)
        have HG3 := Aside0.mk (HSU.out k hk)
        have HG4 := Aside0.mk (before_succ X k)
        generalize hr : rd_T24 X (k : Int) = r at x0 x1 x2 x3 x4 x5 x6 x7 x8 HG1 HG2 HG3 HG4
        clear hr
        have hkd : decide ((k : Int) < (X.length : Int)) = true := decide_eq_true q
        replace p := eq_true p
        replace q := eq_true q
        generalize mdels M (X.take k) = m at HM HG1 HG3
        generalize beforeV X k = b at HG2 ⊢
        have hd1 : decide (r.f0 ≤ b) = false := decide_eq_false (by have := HG2.out.1; omega)
        have hd2 : (r.f5 == -1) = false := beq_eq_false_iff_ne.2 HG2.out.2
        clear HG2
        have HLV : Aside0 (lookV true m (subOf r) = .tuple #[.agg #[.int .i64 r.f0, .int .i64 r.f1, .int .i64 r.f2, .int .i64 r.f3, .int .i64 r.f4, .int .i64 r.f5, .int .i64 r.f6, .int .i64 r.f7, .int .i64 r.f8], .bool true]) := ⟨by unfold lookV; rw [if_pos rfl, HG1.out]; rfl⟩
        clear HG1
        have hq : ∀ w : World, (binOp .neq 24 (.agg #[.int .i64 r.f0, .int .i64 r.f1, .int .i64 r.f2, .int .i64 r.f3, .int .i64 r.f4, .int .i64 r.f5, .int .i64 r.f6, .int .i64 r.f7, .int .i64 r.f8]) (.agg #[.int .i64 r.f0, .int .i64 r.f1, .int .i64 r.f2, .int .i64 r.f3, .int .i64 r.f4, .int .i64 r.f5, .int .i64 r.f6, .int .i64 r.f7, .int .i64 r.f8])).run Tryd.prog w = .ok (.bool false) w := fun w => by
          have h : (Op.equal 24 (.agg #[.int .i64 r.f0, .int .i64 r.f1, .int .i64 r.f2, .int .i64 r.f3, .int .i64 r.f4, .int .i64 r.f5, .int .i64 r.f6, .int .i64 r.f7, .int .i64 r.f8]) (.agg #[.int .i64 r.f0, .int .i64 r.f1, .int .i64 r.f2, .int .i64 r.f3, .int .i64 r.f4, .int .i64 r.f5, .int .i64 r.f6, .int .i64 r.f7, .int .i64 r.f8])).run Tryd.prog w = .ok (fEq r r) w := eqA24 9998 w _ _ _ _ _ _ _ _ _ _ _ _ _ _ _ _ _ _
          have h2 : fEq r r = true := fEq_iff.2 rfl
          rw [h2] at h
          simp [binOp, h, go_sem]
        go_wp2_with fail
        refine (fastilaw46_about.calls r.f0 r.f1 r.f2 r.f3 r.f4 r.f5 r.f6 r.f7 r.f8 r.f1 r.f2 r.f3 r.f4 r.f7 _ rfl).mono ?_
        rintro e wC ⟨rfl, hb⟩
        have B9 : Aside0 (wC.heap[wr.heap.size]? = some (.cells #[.int .i64 r.f0, .int .i64 r.f1, .int .i64 r.f2, .int .i64 r.f3, .int .i64 r.f4, .int .i64 r.f5, .int .i64 r.f6, .int .i64 r.f7, .int .i64 r.f8] 24 (0, 0))) := ⟨heap_below hb (heap_at_new _ _ _ rfl)⟩
        have hbw := Aside0.mk HM.out.lt
        replace HB := Aside0.mk (below_go HB.out (Nat.le_of_lt hbw.out) (below_step (below_alloc (Below.refl _ _) _) hb))
        replace HM := Aside0.mk (HM.out.blk ((hb.block _ (by have := hbw.out; simp; omega)).trans (Below.heap_alloc _ _ _ hbw.out)))
        clear hb hbw
        clear x0 x1 x2 x3 x4 x5 x6 x7 x8 p q hkd
        generalize wr.heap.size = g9 at B9 ⊢
        have B9' := Aside0.mk (heap_at_old wC (.cells #[.int .i64 r.f0, .int .i64 r.f1, .int .i64 r.f2, .int .i64 r.f3, .int .i64 r.f4, .int .i64 r.f5, .int .i64 r.f6, .int .i64 r.f7, .int .i64 r.f8] 24 (0, 0)) _ _ B9.out)
        have B10 := Aside0.mk (heap_at_new wC (.cells #[.int .i64 r.f0, .int .i64 r.f1, .int .i64 r.f2, .int .i64 r.f3, .int .i64 r.f4, .int .i64 r.f5, .int .i64 r.f6, .int .i64 r.f7, .int .i64 r.f8] 24 (0, 0)) _ rfl)
        have HB' := Aside0.mk (below_go HB.out (Nat.le_of_lt HM.out.lt) (below_alloc (Below.refl _ _) (.cells #[.int .i64 r.f0, .int .i64 r.f1, .int .i64 r.f2, .int .i64 r.f3, .int .i64 r.f4, .int .i64 r.f5, .int .i64 r.f6, .int .i64 r.f7, .int .i64 r.f8] 24 (0, 0))))
        have HM' := Aside0.mk (HM.out.blk (Below.heap_alloc _ (.cells #[.int .i64 r.f0, .int .i64 r.f1, .int .i64 r.f2, .int .i64 r.f3, .int .i64 r.f4, .int .i64 r.f5, .int .i64 r.f6, .int .i64 r.f7, .int .i64 r.f8] 24 (0, 0)) _ HM.out.lt))
        have d0 : _ = some (Value.int .i64 r.f0) := (blk_cell B9'.out 0).trans rfl; have d1 : _ = some (Value.int .i64 r.f1) := (blk_cell B9'.out 1).trans rfl; have d2 : _ = some (Value.int .i64 r.f2) := (blk_cell B9'.out 2).trans rfl; have d3 : _ = some (Value.int .i64 r.f3) := (blk_cell B9'.out 3).trans rfl; have d4 : _ = some (Value.int .i64 r.f4) := (blk_cell B9'.out 4).trans rfl; have d5 : _ = some (Value.int .i64 r.f5) := (blk_cell B9'.out 5).trans rfl; have d6 : _ = some (Value.int .i64 r.f6) := (blk_cell B9'.out 6).trans rfl; have d7 : _ = some (Value.int .i64 r.f7) := (blk_cell B9'.out 7).trans rfl; have d8 : _ = some (Value.int .i64 r.f8) := (blk_cell B9'.out 8).trans rfl
        have e0 : _ = some (Value.int .i64 r.f0) := (blk_cell B10.out 0).trans rfl; have e1 : _ = some (Value.int .i64 r.f1) := (blk_cell B10.out 1).trans rfl; have e2 : _ = some (Value.int .i64 r.f2) := (blk_cell B10.out 2).trans rfl; have e3 : _ = some (Value.int .i64 r.f3) := (blk_cell B10.out 3).trans rfl; have e4 : _ = some (Value.int .i64 r.f4) := (blk_cell B10.out 4).trans rfl; have e5 : _ = some (Value.int .i64 r.f5) := (blk_cell B10.out 5).trans rfl; have e6 : _ = some (Value.int .i64 r.f6) := (blk_cell B10.out 6).trans rfl; have e7 : _ = some (Value.int .i64 r.f7) := (blk_cell B10.out 7).trans rfl; have e8 : _ = some (Value.int .i64 r.f8) := (blk_cell B10.out 8).trans rfl
        go_wp2_with (first | ((with_reducible refine gate_dst (N := 93) rfl ?_); refine lookL 40 uKb pKb uMb (.tmp 90) (.tmp 92) bm (m) (subOf r) rfl rfl rfl rfl HM.out.at (.tuple #[.agg #[.int .i64 r.f0, .int .i64 r.f1, .int .i64 r.f2, .int .i64 r.f3, .int .i64 r.f4, .int .i64 r.f5, .int .i64 r.f6, .int .i64 r.f7, .int .i64 r.f8], .bool true]) HLV.out ?_))
        refine (fastilaw46_about.calls r.f0 r.f1 r.f2 r.f3 r.f4 r.f5 r.f6 r.f7 r.f8 r.f1 r.f2 r.f3 r.f4 r.f7 _ rfl).mono ?_
        rintro e wD ⟨rfl, hb⟩
        replace HB' := Aside0.mk (below_go HB'.out (Nat.le_of_lt HM'.out.lt) hb)
        replace HM' := Aside0.mk (HM'.out.blk (hb.block _ HM'.out.lt))
        clear hb d0 d1 d2 d3 d4 d5 d6 d7 d8 e0 e1 e2 e3 e4 e5 e6 e7 e8 B9' B10 HLV hq hd1 hd2
        go_wp2_with (first | ((with_reducible refine gate_builtin (b := .delete) rfl ?_); refine delL 40 uKb pKb uMb (.tmp 116) (.tmp 118) bm m (subOf r) rfl rfl rfl rfl HM'.out ?_; intro wE hE1 hE2; have HE1 := Aside0.mk hE1; have HE2 := Aside0.mk (below_grownS HB'.out hE2 (Nat.le_refl _) (Nat.le_of_lt HM'.out.lt)); clear hE1 hE2))
        have hw : wrap64 ((k : Int) + 1) = ((k + 1 : Nat) : Int) := by have := HLX.out; rw [wr_in (by omega)]; omega
        rw [hw, ← HG4.out]
        go_roundg (gk - 1)
        case measure => have := HG.out; omega
        case rel => exact ⟨k + 1, rfl, rfl, ⟨by have := HG.out; omega⟩, HE2, ⟨by rw [HG3.out]; exact HE1.out⟩⟩
      · have hkl : k = X.length := by have := HG.out; omega
        subst hkl
        have hkd : decide ((X.length : Int) < (X.length : Int)) = false := decide_eq_false (by omega)
        clear HG hk
        replace HM : Aside0 (MapS wr bm (mdels M X)) := ⟨by have := HM.out; rwa [List.take_length] at this⟩
        generalize mdels M X = m at HM HLR
        go_wp2_with (first | ((with_reducible refine gate_dst (N := 121) rfl ?_); refine rangeL 40 uMb (.tmp 120) bm m rfl rfl rfl HM.out ?_; intro wI nI hI hbI hsI; have HI := Aside0.mk hI; have hne : Aside0 (bm ≠ wr.heap.size) := ⟨Nat.ne_of_lt HM.out.lt⟩; replace HB := Aside0.mk (below_go HB.out (Nat.le_of_lt HM.out.lt) hbI); clear hI hbI hsI))
        clear hkd
        have HRI := Aside0.mk HM.out.lt
        clear HM
        generalize wr.heap.size = rI at HI hne HRI ⊢
        simp only [Act.put, List.setIfInBounds_toArray, List.set_cons_zero, List.set_cons_succ]
        go_loopg [] nI (fun n wr => Aside0 (MapIt wr bm rI m n) ∧ Aside0 (Below bm w0 wr))
        case atStart => exact ⟨HI, HB⟩
        case round =>
        clear HI HB
        obtain ⟨HI, HB⟩ := hrel
        have hbl : bm < wr.heap.size := by obtain ⟨es, clock, seen, c0, h1, _⟩ := HI.out; exact blk_lt h1
        have hrl : rI < wr.heap.size := by obtain ⟨es, clock, seen, c0, _, _, _, _, h1, _⟩ := HI.out; exact blk_lt h1
        have HBL := Aside0.mk hbl
        have HRL := Aside0.mk hrl
        clear hbl hrl
        rcases nextS_run HI.out hne.out 0 with hrun | ⟨p, hp, W', n', hrun, h1, h2, h3, h4, h5⟩
        · have HRun := Aside0.mk hrun
          clear hrun
          go_wp2_with (first | ((with_reducible refine gate_dst (N := 122) rfl ?_); refine nextK (.tmp 121) _ rfl rfl HRun.out ?_))
          go_ret
          exact ⟨rfl, below_tr HW.out HB.out HS1.out⟩
        · obtain ⟨ps, pf⟩ := p
          unfold facC at hrun h5
          have HRun := Aside0.mk hrun
          have HEnt := Aside0.mk h5
          have hp5 : (pf.f5 != -1) = false := bne_eq_false_iff_eq.2 (HLR.out (ps, pf) hp)
          replace HB := Aside0.mk (below_grownS HB.out h3 (Nat.le_of_lt HRI.out) (Nat.le_of_lt HBL.out))
          go_wp2_with (first | ((with_reducible refine gate_dst (N := 122) rfl ?_); refine nextK (.tmp 121) _ rfl rfl HRun.out ?_) | ((with_reducible refine gate_dst (N := 124) rfl ?_); refine entL (.tmp 121) _ rfl rfl HEnt.out ?_))
          go_roundg n'
          case measure => exact h2
          case rel => exact ⟨⟨h1.blk (Below.heap_alloc _ _ _ (by rw [h4]; exact HBL.out)) (Below.heap_alloc _ _ _ (by rw [h4]; exact HRL.out))⟩, ⟨below_go HB.out (by rw [h4]; exact Nat.le_of_lt HBL.out) (below_alloc (Below.refl _ _) _)⟩⟩
set_option maxRecDepth 100000 in
set_option maxHeartbeats 8000000 in
theorem lat_no1 (A0 : Option Addr) (c0 : Nat) (l0 : List S24) (a1 : Int) (w : World) (hr0 : Kd.C k24 w A0 l0.length l0) (hc0 : l0.length ≤ c0) (hrw : RowsAt w) (hn : (decide (l0.length ≤ 300) && decide (chkV l0 = 0)) = false) :
    Calls Tryd.prog 5 #[.slice A0 l0.length c0, .int .i64 a1] w fun e w' => e = .returned (.bool true) ∧ Below w.heap.size w w' := by
  have HSA := Aside0.mk (fastilaw46_sane.calls 20 true w sane_20 hrw)
  have HRI := Aside0.mk (fun W (hb : Below w.heap.size w W) => fastilaw46_right.calls (l0.length + 3) A0 c0 l0 false W (Kd.C_below hr0 hb) hc0 (by rw [right_eq l0 _ (Nat.le_refl _), hn]))
  have HB := Aside0.mk (Below.refl w.heap.size w)
  clear hrw hr0
  go_enter Tryd.func5, Tryd.ntmps5
  go_wp2_with (first | ((with_reducible refine gate_callee (f := 10) rfl ?_); refine goesL_ (some 19) rfl rfl Tryd.func10 (by kernel_rfl) rfl #[] rfl (by (try simp only [List.map_toArray, List.map_cons, List.map_nil]); first | done | rfl) ?_; refine (HSA.out).mono ?_; rintro e w19 ⟨rfl, hb19⟩; refine ⟨_, rfl, ?_⟩; replace HB := Aside0.mk hb19; clear hb19) | ((with_reducible refine gate_callee (f := 21) rfl ?_); refine goesL_ (some 22) rfl rfl Tryd.func21 (by kernel_rfl) rfl #[.slice A0 l0.length c0] rfl (by (try simp only [List.map_toArray, List.map_cons, List.map_nil]); first | done | rfl) ?_; refine (HRI.out _ HB.out).mono ?_; rintro e w22 ⟨rfl, hb22⟩; refine ⟨_, rfl, ?_⟩; replace HB := Aside0.mk (below_step HB.out hb22); clear hb22) | ((with_reducible refine gate_callee (f := 22) rfl ?_); (try (refine gate_guard (by rfl) ?_; dsimp only)); refine goesL_ (some 26) rfl rfl Tryd.func22 (by kernel_rfl) rfl #[.int .i64 a1] rfl (by (try simp only [List.map_toArray, List.map_cons, List.map_nil]); first | done | rfl) ?_; refine (HMO.out _).mono ?_; rintro e w26 ⟨rfl, nd, rfl⟩; refine ⟨_, rfl, ?_⟩; replace HB := Aside0.mk (pw_below_drewN HB.out nd)))
  go_ret
  exact ⟨rfl, HB.out⟩
set_option maxRecDepth 100000 in
set_option maxHeartbeats 8000000 in
theorem lat_no2 (A0 : Option Addr) (c0 : Nat) (l0 : List S24) (a1 : Int) (w : World) (hr0 : Kd.C k24 w A0 l0.length l0) (hc0 : l0.length ≤ c0) (hrw : RowsAt w) (hn : (decide (l0.length ≤ 300) && decide (chkV l0 = 0)) = true) (h2 : wi a1 0 134217727 = false) :
    Calls Tryd.prog 5 #[.slice A0 l0.length c0, .int .i64 a1] w fun e w' => e = .returned (.bool true) ∧ Below w.heap.size w w' := by
  have HSA := Aside0.mk (fastilaw46_sane.calls 20 true w sane_20 hrw)
  have HRI := Aside0.mk (fun W (hb : Below w.heap.size w W) => fastilaw46_right.calls (l0.length + 3) A0 c0 l0 true W (Kd.C_below hr0 hb) hc0 (by rw [right_eq l0 _ (Nat.le_refl _), hn]))
  have HMO := Aside0.mk (fun W => fastiref46_Moment.calls a1 false W (by rw [rmoment, h2]))
  have HB := Aside0.mk (Below.refl w.heap.size w)
  clear hrw hr0
  go_enter Tryd.func5, Tryd.ntmps5
  go_wp2_with (first | ((with_reducible refine gate_callee (f := 10) rfl ?_); refine goesL_ (some 19) rfl rfl Tryd.func10 (by kernel_rfl) rfl #[] rfl (by (try simp only [List.map_toArray, List.map_cons, List.map_nil]); first | done | rfl) ?_; refine (HSA.out).mono ?_; rintro e w19 ⟨rfl, hb19⟩; refine ⟨_, rfl, ?_⟩; replace HB := Aside0.mk hb19; clear hb19) | ((with_reducible refine gate_callee (f := 21) rfl ?_); refine goesL_ (some 22) rfl rfl Tryd.func21 (by kernel_rfl) rfl #[.slice A0 l0.length c0] rfl (by (try simp only [List.map_toArray, List.map_cons, List.map_nil]); first | done | rfl) ?_; refine (HRI.out _ HB.out).mono ?_; rintro e w22 ⟨rfl, hb22⟩; refine ⟨_, rfl, ?_⟩; replace HB := Aside0.mk (below_step HB.out hb22); clear hb22) | ((with_reducible refine gate_callee (f := 22) rfl ?_); (try (refine gate_guard (by rfl) ?_; dsimp only)); refine goesL_ (some 26) rfl rfl Tryd.func22 (by kernel_rfl) rfl #[.int .i64 a1] rfl (by (try simp only [List.map_toArray, List.map_cons, List.map_nil]); first | done | rfl) ?_; refine (HMO.out _).mono ?_; rintro e w26 ⟨rfl, nd, rfl⟩; refine ⟨_, rfl, ?_⟩; replace HB := Aside0.mk (pw_below_drewN HB.out nd)))
  go_ret
  exact ⟨rfl, HB.out⟩
/-- It answers true. -/
def fastilaw46_FactsLatest.f (l0 : List (S24)) (a1 : Int) : Option (Bool) := some true
theorem fastilaw46_FactsLatest.calls (A0 : Option Addr) (c0 : Nat) (l0 : List (S24)) (a1 : Int) (r : Bool) (w : World) (hr0 : Kd.C k24 w A0 l0.length l0) (hc0 : l0.length ≤ c0) (h : fastilaw46_FactsLatest.f l0 a1 = some r) (hrw : RowsAt w) :
    Calls Tryd.prog 5 #[.slice A0 l0.length c0, .int .i64 a1] w fun e w' => e = .returned (.bool r) ∧ Below w.heap.size w w' := by
  obtain rfl := Option.some.inj h
  cases hn : (decide (l0.length ≤ 300) && decide (chkV l0 = 0)) with
  | false => exact lat_no1 A0 c0 l0 a1 w hr0 hc0 hrw hn
  | true =>
    cases h2 : wi a1 0 134217727 with
    | false => exact lat_no2 A0 c0 l0 a1 w hr0 hc0 hrw hn h2
    | true =>
      rw [Bool.and_eq_true, decide_eq_true_eq, decide_eq_true_eq] at hn
      exact lat_yes A0 c0 l0 a1 w hr0 hc0 hrw hn.2 h2 hn.1
end Go.Proofs.YtebfcckaicgcfaaDoor.Q

namespace Go.Proofs.YtebfcckaicgcfaaDoor.Q
open Go.RowKit Go.Proofs.YtebfcckaicgcfaaDoorW.PrintWords Go.Proofs.YtebfcckaicgcfaaDoorW.PrintLast
def fastilaw46_FactsLatest.Pure : Prop := ∀ (l0 : List (S24)) (a1 : Int), (fun l_ : List (S24) => l_.length * 72 ≤ 140737488351232 ∧ ∀ a, a ∈ l_ → B24 a) l0 → (fun a_ : Int => (Lit.int .i64 a_).wf = true) a1 → fastilaw46_FactsLatest.f l0 a1 = some true
end Go.Proofs.YtebfcckaicgcfaaDoor.Q

namespace Go.Proofs.YtebfcckaicgcfaaDoor.Pure
open Go.RowKit Go.Proofs.YtebfcckaicgcfaaDoor.Q Go.Proofs.YtebfcckaicgcfaaDoorW.PrintWords Go.Proofs.YtebfcckaicgcfaaDoorW.PrintLast
theorem FactsLatest : fastilaw46_FactsLatest.Pure := fun _ _ _ _ => rfl
end Go.Proofs.YtebfcckaicgcfaaDoor.Pure

namespace Go.Proofs.YtebfcckaicgcfaaDoor.factsLatest
open Go.ChangeShapes Go.WideShapes Go.ChangeAt Go.RowKit Go.Proofs.YtebfcckaicgcfaaDoor.Q Go.Proofs.YtebfcckaicgcfaaDoor.Opn Go.Proofs.YtebfcckaicgcfaaDoorW.PrintWords Go.Proofs.YtebfcckaicgcfaaDoorW.PrintLast
open Go.ChangeMaps (open_string shut_string)
open Go
set_option linter.unusedVariables false
theorem own : ownKnob Tryd.prog.godebug = none := by kernel_rfl
theorem laidOut : laidOutB Tryd.prog = true := by kernel_rfl
/-- The door's own heap meets the condition. -/
theorem door_met (os : Os) (args : Array Value) : laidMetH Tryd.prog laidL ((World.doorLaid Tryd.prog 28 os).forCall (fun _ _ => 0) ⟨#[], args, []⟩).memory :=
  laidMetH_of_parts3 (fuel := 8) (laidMet_of_run' 8 (by kernel_rfl) (by kernel_rfl)) (by kernel_rfl) (by kernel_rfl)
set_option maxRecDepth 100000 in
theorem lifted (os : Os) (started : os.Started) (H : Type) (enc : TypeId × Value → H) :
    ReturnsInHanded {} Tryd.checked os 5 .any (fun w args => (Rows.factsLatestSpec.pre enc Tryd.prog Tryd.f5 [] false w args ∧ laidMetH Tryd.prog laidL w) ∧ sizedMet enc Tryd.prog Tryd.f5 (OpenSpec.ofChange Rows.factsLatestSpec) false w args) (Rows.factsLatestSpec.post enc Tryd.prog Tryd.f5 false true false false) := by
  refine returnsInHanded_of_change_and (C := Tryd.checked) (X := fun w _ => laidMetH Tryd.prog laidL w) (fun _ _ _ hh h => h.of_heap hh) own started (by kernel_rfl) Tryd.func5
    (ChangeSpec.witness_shaped (enc := enc) (C := Tryd.checked) (os := os) (X := fun w _ => laidMetH Tryd.prog laidL w) false (World.doorLaid Tryd.prog 28 os) #[.slice none 0 0, .int .i64 0] 8 rfl (World.shaped_of_RefB (by kernel_rfl) (by kernel_rfl)) (by kernel_rfl) (by kernel_rfl) (by kernel_rfl) (door_met os _)) ?_
  intro W base args ds gs before hval0 hW hcnd hsz0 hL _
  have hrw := rows_of_laid hL
  have hsz : (DataW.weightsEach Tryd.prog (Tryd.f5.params.toList ++ Rows.factsLatestSpec.plain.varTypes Tryd.prog) (ds ++ gs)).all (· ≤ reachBytes) = true := hsz0
  have hval : ∀ (j : Nat) t v, Tryd.f5.params[j]? = some t → args[j]? = some v → Value.okWide Tryd.prog W .any base t v := hval0
  have hW' := hW
  obtain ⟨p, q, hA0, hV, rfl, hfz, hnd⟩ := hW
  have hA : DataW.TrodAll enc Tryd.prog W 0 (fun _ => true) true Tryd.f5.params.toList args.toList ds p := hA0
  rw [Tryd.params5] at hA hval hsz
  obtain ⟨v0, vs0, d0, ds0, p0, q0, hargs, rfl, rfl, h0, r0⟩ := trodAll_cons hA
  obtain ⟨v1, vs1, d1, ds1, p1, q1, rfl, rfl, rfl, h1, r1⟩ := trodAll_cons r0
  obtain ⟨rfl, rfl, rfl⟩ := trodAll_nil r1
  obtain rfl : args = #[v0, v1] := by cases args; simp_all
  obtain ⟨rfl, rfl⟩ := trodVars_none hV
  have k0 := h0
  have lt0 : ∀ x ∈ p0, x.block < W.heap.size := by obtain ⟨m, hm⟩ := k0; exact DataW.trod_lt m _ _ _ hm
  obtain ⟨l0, hK0, hB0⟩ : ∃ a_ : List (S24), (Kd.slice 24 k24).K W a_ v0.cells.toList ∧ (fun l_ : List (S24) => l_.length * 72 ≤ 140737488351232 ∧ ∀ a, a ∈ l_ → B24 a) a_ := arg (j := 0) (opn_slice (sz := 9) Tryd.underlying22 (by kernel_rfl) rfl (by kernel_rfl) opn24) hsz rfl rfl h0
  obtain ⟨a0, len0, cap0, rfl⟩ := okWide_slice Tryd.underlying22 (hval 0 22 v0 rfl rfl)
  obtain ⟨A0, c0, he0, hc0, hr0⟩ := hK0
  obtain ⟨rfl, rfl, rfl⟩ : a0 = A0 ∧ len0 = l0.length ∧ cap0 = c0 := by have := List.cons.inj he0; simpa using this
  have k1 := h1
  have lt1 : ∀ x ∈ p1, x.block < W.heap.size := by obtain ⟨m, hm⟩ := k1; exact DataW.trod_lt m _ _ _ hm
  obtain ⟨a1, hK1, hB1⟩ : ∃ a_ : Int, ((Kd.int .i64)).K W a_ v1.cells.toList ∧ (fun a_ : Int => (Lit.int .i64 a_).wf = true) a_ := arg (j := 1) (opn_int Tryd.underlying3) hsz rfl rfl h1
  obtain ⟨b1, rfl⟩ := okWide_int Tryd.underlying3 (hval 1 3 v1 rfl rfl)
  obtain rfl : b1 = a1 := by have := List.cons.inj (show [_] = [_] from hK1); simpa using this
  clear hA0 hval0 hsz0 hsz
  have h := Pure.FactsLatest l0 b1 hB0 hB1
  refine (fastilaw46_FactsLatest.calls _ _ l0 b1 true W hr0 hc0 h hrw).mono fun e W' he_ => ?_
  obtain ⟨he, bel0⟩ := he_
  subst he
  have bel : Below W.heap.size W W' := bel0
  exact ⟨_, rfl, _, _, _, [], _, [], hW', trodAll_mk1 (shut_bool Tryd.underlying4 _), (trodAll_cons_mk (Below.trod laidOut (by kernel_rfl) (of_decide_eq_true (by kernel_rfl)) k0 bel lt0) (trodAll_cons_mk (Below.trod laidOut (by kernel_rfl) (of_decide_eq_true (by kernel_rfl)) k1 bel lt1) trodAll_mk0)), rfl, bel.frame _, fun h => by cases h⟩
theorem over : Rows.factsLatestRow.holds Tryd.pinned (OpenSpec.ofChange Rows.factsLatestSpec) :=
  OpenClaim.holds_of_wide 5 Tryd.f5 rfl rfl rfl rfl rfl rfl rfl ⟨rfl, rfl, rfl, rfl, rfl⟩ rfl rfl rfl rfl rfl (by kernel_rfl) Tryd.func5 (by kernel_rfl)
    (of_decide_eq_true (by kernel_rfl)) (by unfold Func.isWrapper; first | (rw [if_pos (by decide +kernel)]; kernel_rfl) | (rw [if_neg (by decide +kernel)]; exact ⟨rfl, rfl⟩))
    (fun os started H enc _ => lifted os started H enc)
theorem proved : Rows.FactsLatestCardSaid :=
  Claim7.holds_tied_plain_at .later [] [.data] true (true, "25e62b46fb574479bbaa49f574636e523fa3f10f860c20300a91c53940a2b552") false
    over (fun _ h => by cases h) (by kernel_rfl) (fun _ h => by cases h) factsLatest_row_tie rfl ⟨rfl, rfl⟩ (by kernel_rfl) rfl
    (fun f fn hf hfn => by
      obtain rfl : f = 5 := Option.some.inj ((show Tryd.prog.funcNamed "fasti/fastilaw46.FactsLatest" = some 5 by kernel_rfl).symm.trans hf) |>.symm
      obtain rfl : fn = Tryd.f5 := (Option.some.inj (Tryd.func5.symm.trans hfn)).symm
      exact ⟨by kernel_rfl, fun j t ht => by
        rw [Tryd.params5] at ht
        have hm : t ∈ [22, 3] := by simpa using Array.mem_of_getElem? ht
        have hall : ([22, 3].all fun u => !Tryd.prog.wantsStandIn u) = true := by kernel_rfl
        exact (show Tryd.prog.wantsStandIn t = false by simpa using List.all_eq_true.1 hall t hm)⟩)
    (by kernel_rfl)
#print axioms proved
end Go.Proofs.YtebfcckaicgcfaaDoor.factsLatest
namespace Go.Proofs.YtebfcckaicgcfaaDoor
theorem factsLatestCard_holds : Rows.FactsLatestCardSaid := factsLatest.proved
end Go.Proofs.YtebfcckaicgcfaaDoor
