/- The tied card of the law FactsOrder: given the package's table as its initialiser lays it (the card ties that to the program's text): for every input the call returns true and leaves its arguments as they were. No condition but the form's own. -/
import Derived.Test.YtebfcckaicgcfaaDoorQ0
import Derived.Test.YtebfcckaicgcfaaDoorOpn
import Derived.Test.YtebfcckaicgcfaaDoorQ8
import Derived.Test.YtebfcckaicgcfaaDoorQ9
import Derived.Test.YtebfcckaicgcfaaDoorFAd
import Derived.Test.YtebfcckaicgcfaaDoorQ6
import Derived.Test.YtebfcckaicgcfaaDoorFSt
import Derived.Test.YtebfcckaicgcfaaDoorQ13
import Derived.Test.YtebfcckaicgcfaaDoorQ14
import Derived.Test.YtebfcckaicgcfaaDoorRows
import Derived.WalkKit
import Derived.ProofKit
import Derived.OpenShut
import Derived.ShutString
import Derived.ChangeOld
import Derived.Below
import Derived.SizedLaws
import Derived.Test.YtebfcckaicgcfaaDoorFLa
import Derived.Test.YtebfcckaicgcfaaDoorTie
import Derived.Test.YtebfcckaicgcfaaDoorCards
import Derived.SevenTiedAt

namespace Go.Proofs.YtebfcckaicgcfaaDoor.Q
open Go.RowKit Go.Proofs.YtebfcckaicgcfaaDoor.Opn Go.Proofs.YtebfcckaicgcfaaDoorW.PrintWords Go.Proofs.YtebfcckaicgcfaaDoorW.PrintLast
set_option maxRecDepth 100000
def B24 (x : S24) : Prop := (fun a_ : Int => (Lit.int .i64 a_).wf = true) x.f0 ∧ (fun a_ : Int => (Lit.int .i64 a_).wf = true) x.f1 ∧ (fun a_ : Int => (Lit.int .i64 a_).wf = true) x.f2 ∧ (fun a_ : Int => (Lit.int .i64 a_).wf = true) x.f3 ∧ (fun a_ : Int => (Lit.int .i64 a_).wf = true) x.f4 ∧ (fun a_ : Int => (Lit.int .i64 a_).wf = true) x.f5 ∧ (fun a_ : Int => (Lit.int .i64 a_).wf = true) x.f6 ∧ (fun a_ : Int => (Lit.int .i64 a_).wf = true) x.f7 ∧ (fun a_ : Int => (Lit.int .i64 a_).wf = true) x.f8
theorem opn24 : Opn Tryd.prog 24 k24 B24 := opn_iso (fun a => ⟨a.1, a.2.1, a.2.2.1, a.2.2.2.1, a.2.2.2.2.1, a.2.2.2.2.2.1, a.2.2.2.2.2.2.1, a.2.2.2.2.2.2.2.1, a.2.2.2.2.2.2.2.2⟩) (fun _ => rfl) (opn_struct (sz := 9) Tryd.underlying24 (by kernel_rfl) rfl (opnF_cons (sz := 1) rfl (by kernel_rfl) rfl (opn_int Tryd.underlying3) (opnF_cons (sz := 1) rfl (by kernel_rfl) rfl (opn_int Tryd.underlying3) (opnF_cons (sz := 1) rfl (by kernel_rfl) rfl (opn_int Tryd.underlying3) (opnF_cons (sz := 1) rfl (by kernel_rfl) rfl (opn_int Tryd.underlying3) (opnF_cons (sz := 1) rfl (by kernel_rfl) rfl (opn_int Tryd.underlying3) (opnF_cons (sz := 1) rfl (by kernel_rfl) rfl (opn_int Tryd.underlying3) (opnF_cons (sz := 1) rfl (by kernel_rfl) rfl (opn_int Tryd.underlying3) (opnF_cons (sz := 1) rfl (by kernel_rfl) rfl (opn_int Tryd.underlying3) (opnF_one (sz := 1) rfl (by kernel_rfl) rfl (opn_int Tryd.underlying3)))))))))))

end Go.Proofs.YtebfcckaicgcfaaDoor.Q

namespace Go.Proofs.YtebfcckaicgcfaaDoor.Q
open Go.RowKit Go.Proofs.YtebfcckaicgcfaaDoorW.PrintWords Go.Proofs.YtebfcckaicgcfaaDoorW.PrintLast Go.Proofs.YtebfcckaicgcfaaDoorW.PrintMore
set_option linter.unusedVariables false
set_option linter.unusedSimpArgs false

theorem rwithin (x lo hi : Int) : fastiref46_within.f x lo hi = some (wi x lo hi) := by
  unfold fastiref46_within.f wi
  by_cases h : lo ≤ x <;> simp [h]
theorem rmoment (x : Int) : fastiref46_Moment.f x = some (wi x 0 134217727) := by
  unfold fastiref46_Moment.f
  rw [rwithin]
  rfl
theorem ite_sf (p : Prop) [Decidable p] (b : Bool) : (if p then some b else some false) = some (decide p && b) := by by_cases h : p <;> simp [h]
theorem wi00 (x : Int) : wi x 0 0 = decide (x = 0) := by
  unfold wi
  by_cases h : x = 0
  · subst h; rfl
  · rw [decide_eq_false h]
    by_cases h2 : 0 ≤ x
    · rw [decide_eq_false (show ¬ x ≤ 0 by omega), Bool.and_false]
    · rw [decide_eq_false h2, Bool.false_and]
/-- What the reference asks of a fact's subject and numbers is what the table says. -/
theorem ref_parts (k : Nat) (r : S24) : (fastiref46_subject.f (k + 2) r.f0 r.f1 r.f2 r.f3 r.f4 r.f5 r.f6 r.f7 r.f8).bind (fun s => if s = true then (fastiref46_numbers.f r.f0 r.f1 r.f2 r.f3 r.f4 r.f5 r.f6 r.f7 r.f8).bind (fun b => some b) else some false) = some (wi r.f1 1 6 && vRow r (rowV r.f1)) := by
  obtain ⟨f0, f1, f2, f3, f4, f5, f6, f7, f8⟩ := r
  dsimp only
  have e0 : ∀ x : Int, (x == 0) = decide (x = 0) := fun x => by by_cases h : x = 0 <;> simp [h]
  by_cases h : 1 ≤ f1 ∧ f1 ≤ 6
  · have hk : f1 = 1 ∨ f1 = 2 ∨ f1 = 3 ∨ f1 = 4 ∨ f1 = 5 ∨ f1 = 6 := by omega
    rcases hk with rfl | rfl | rfl | rfl | rfl | rfl
    · have hv : rowV 1 = (0, 1023, 0, 0, 0, 99, 0, 99) := rfl
      simp only [hv, vRow, wi00, fastiref46_subject.f, fastiref46_subject.j0, fastiref46_subject.j1, fastiref46_numbers.f, rwithin, Option.bind_some, ite_sf, e0]
      by_cases h5 : f5 = -1 <;> simp [h5, e0, wi00, Bool.and_comm, Bool.and_left_comm, Bool.and_assoc, ite_sf, show wi 1 1 6 = true from rfl]
    · have hv : rowV 2 = (0, 0, 63, 73048, 1, 512, 0, 0) := rfl
      simp only [hv, vRow, wi00, fastiref46_subject.f, fastiref46_subject.j0, fastiref46_subject.j1, fastiref46_numbers.f, rwithin, Option.bind_some, ite_sf, e0]
      by_cases h5 : f5 = -1 <;> simp [h5, e0, wi00, Bool.and_comm, Bool.and_left_comm, Bool.and_assoc, ite_sf, show wi 2 1 6 = true from rfl]
    · have hv : rowV 3 = (63, 0, 0, 73048, 1, 512, 0, 0) := rfl
      simp only [hv, vRow, wi00, fastiref46_subject.f, fastiref46_subject.j0, fastiref46_subject.j1, fastiref46_numbers.f, rwithin, Option.bind_some, ite_sf, e0]
      by_cases h5 : f5 = -1 <;> simp [h5, e0, wi00, Bool.and_comm, Bool.and_left_comm, Bool.and_assoc, ite_sf, show wi 3 1 6 = true from rfl]
    · have hv : rowV 4 = (0, 0, 0, 73048, 1, 512, 0, 1440) := rfl
      simp only [hv, vRow, wi00, fastiref46_subject.f, fastiref46_subject.j0, fastiref46_subject.j1, fastiref46_numbers.f, rwithin, Option.bind_some, ite_sf, e0]
      by_cases h5 : f5 = -1 <;> simp [h5, e0, wi00, Bool.and_comm, Bool.and_left_comm, Bool.and_assoc, ite_sf, show wi 4 1 6 = true from rfl]
    · have hv : rowV 5 = (63, 0, 0, 73048, 0, 0, 0, 0) := rfl
      simp only [hv, vRow, wi00, fastiref46_subject.f, fastiref46_subject.j0, fastiref46_subject.j1, fastiref46_numbers.f, rwithin, Option.bind_some, ite_sf, e0]
      by_cases h5 : f5 = -1 <;> simp [h5, e0, wi00, Bool.and_comm, Bool.and_left_comm, Bool.and_assoc, ite_sf, show wi 5 1 6 = true from rfl]
    · have hv : rowV 6 = (0, 1023, 0, 0, 0, 73048, 0, 15) := rfl
      simp only [hv, vRow, wi00, fastiref46_subject.f, fastiref46_subject.j0, fastiref46_subject.j1, fastiref46_numbers.f, rwithin, Option.bind_some, ite_sf, e0]
      by_cases h5 : f5 = -1 <;> simp [h5, e0, wi00, Bool.and_comm, Bool.and_left_comm, Bool.and_assoc, ite_sf, show wi 6 1 6 = true from rfl]
  · have hw : wi f1 1 6 = false := by
      cases hc : wi f1 1 6 with
      | false => rfl
      | true => exact absurd (wi_iff.1 hc) h
    have h1 : ¬ f1 = 1 := by omega
    have h2 : ¬ f1 = 2 := by omega
    have h3 : ¬ f1 = 3 := by omega
    have h4 : ¬ f1 = 4 := by omega
    have h5 : ¬ f1 = 5 := by omega
    have h6 : ¬ f1 = 6 := by omega
    simp [hw, fastiref46_subject.f, fastiref46_subject.j0, fastiref46_subject.j1, h1, h2, h3, h4, h5, h6]
theorem ref_right (k : Nat) (r : S24) : fastiref46_Right.f (k + 2) r.f0 r.f1 r.f2 r.f3 r.f4 r.f5 r.f6 r.f7 r.f8 = some (fB r) := by
  unfold fastiref46_Right.f fB
  rw [rwithin, Option.bind_some]
  cases h1 : wi r.f0 0 1048576 with
  | false => simp
  | true =>
    rw [if_pos rfl, rmoment, Option.bind_some]
    cases h2 : wi r.f8 0 134217727 with
    | false => simp
    | true =>
      rw [if_pos rfl]
      have := ref_parts k r
      rw [Bool.true_and, Bool.true_and]
      exact this
theorem refchk_loop (l : List S24) (hn : l.length ≤ 4096) : ∀ (m i : Nat), i + m = l.length → ∀ k, m + 2 < k →
    fastiref46_Check.l0 k l (i : Int) = some (if (List.range' i m).all (goodAt l) then 0 else 460)
  | 0, i, h, k + 1, _ => by
    unfold fastiref46_Check.l0
    rw [if_neg (by omega)]
    simp
  | m + 1, i, h, k + 3, hk => by
    have hw : wrap64 ((i : Int) + 1) = ((i + 1 : Nat) : Int) := by rw [wr_in (by omega)]; omega
    unfold fastiref46_Check.l0
    rw [if_pos (by omega), if_pos (by omega), ref_right, Option.bind_some, List.range'_succ, List.all_cons]
    have ih := refchk_loop l hn m (i + 1) (by omega) (k + 2) (by omega)
    cases hv : fB (rd_T24 l (i : Int)) with
    | false =>
      rw [if_neg (by simp)]
      have hg : goodAt l i = false := by unfold goodAt; rw [hv]; rfl
      rw [hg]
      rfl
    | true =>
      rw [if_pos rfl]
      by_cases h0 : i = 0
      · subst h0
        have hg : goodAt l 0 = true := by unfold goodAt; rw [hv]; rfl
        rw [if_neg (by omega), hw, ih, hg]
        rfl
      · have hw1 : wrap64 ((i : Int) - 1) = ((i - 1 : Nat) : Int) := by rw [wr_in (by omega)]; omega
        rw [if_pos (by omega), hw1, if_pos (by omega), if_pos (by omega)]
        have hg : goodAt l i = decide ((rd_T24 l ((i - 1 : Nat) : Int)).f0 < (rd_T24 l (i : Int)).f0) := by unfold goodAt; rw [hv]; simp [h0]
        by_cases h1 : (rd_T24 l ((i - 1 : Nat) : Int)).f0 < (rd_T24 l (i : Int)).f0
        · rw [if_neg (by omega), hw, ih, hg, decide_eq_true h1]
          rfl
        · rw [if_pos (by omega), hg, decide_eq_false h1]
          rfl
theorem ref_chk (l : List S24) (k : Nat) (hk : l.length + 2 < k) : fastiref46_Check.f k l = some (chkV l) := by
  unfold fastiref46_Check.f chkV
  by_cases h : 4096 < l.length
  · rw [if_pos (by omega), if_pos h]
  · rw [if_neg (by omega), if_neg h]
    have := refchk_loop l (by omega) l.length 0 (by omega) k hk
    rw [← List.range_eq_range'] at this
    exact this
theorem chk_le {f : Nat → Option Int} (hm : ∀ k, LeO (f k) (f (k + 1))) {a b : Nat} (h : a ≤ b) {v : Int} (hv : f a = some v) : f b = some v := by
  induction h with
  | refl => exact hv
  | step _ ih => exact hm _ _ ih
theorem wchk (l : List S24) (k : Nat) (hk : l.length + 3 ≤ k) : facts_Check.f k l = some (chkV l) := chk_le (fun k => facts_Check.mono l k) hk (chk_eq l)


theorem posV_spec : ∀ (l : List S24) (x : Int), (∀ j, j < posV l x → noAt l j < x) ∧ (posV l x < l.length → x ≤ noAt l (posV l x))
  | [], x => ⟨fun j hj => by simp [posV] at hj, fun h => by simp at h⟩
  | a :: r, x => by
    by_cases h : a.f0 < x
    · have hp : posV (a :: r) x = posV r x + 1 := by unfold posV; rw [List.takeWhile_cons, if_pos (decide_eq_true h), List.length_cons]
      have ih := posV_spec r x
      have hc : ∀ j, noAt (a :: r) (j + 1) = noAt r j := fun j => by simp [noAt, rd_T24]
      rw [hp]
      refine ⟨fun j hj => ?_, fun hj => ?_⟩
      · cases j with
        | zero => rw [noAt_get _ _ (by simp)]; exact h
        | succ j => rw [hc]; exact ih.1 j (by omega)
      · rw [hc]
        exact ih.2 (by simpa using hj)
    · have hp : posV (a :: r) x = 0 := by unfold posV; rw [List.takeWhile_cons, if_neg (by simpa using h)]; rfl
      rw [hp]
      refine ⟨fun j hj => by omega, fun hj => ?_⟩
      rw [noAt_get _ _ (by simp)]
      show x ≤ a.f0
      omega

end Go.Proofs.YtebfcckaicgcfaaDoor.Q

namespace Go.Proofs.YtebfcckaicgcfaaDoor.Q
open Go.RowKit Go.Proofs.YtebfcckaicgcfaaDoorW.PrintWords Go.Proofs.YtebfcckaicgcfaaDoorW.PrintLast Go.Proofs.YtebfcckaicgcfaaDoorW.PrintMore
set_option linter.unusedVariables false
set_option linter.unusedSimpArgs false

theorem sane_20 : fastilaw46_sane.f 20 = some true := by kernel_rfl
theorem le_of {α : Type} {f : Nat → Option α} (hm : ∀ k, LeO (f k) (f (k + 1))) {a b : Nat} (h : a ≤ b) {v : α} (hv : f a = some v) : f b = some v := by
  induction h with
  | refl => exact hv
  | step _ ih => exact hm _ _ ih
theorem sane_k (k : Nat) (hk : 20 ≤ k) : fastilaw46_sane.f k = some true := le_of (fun k => fastilaw46_sane.mono k) hk sane_20
theorem same_loop (l : List S24) (hn : l.length ≤ 10000) : ∀ (m i : Nat), i + m = l.length → ∀ k, m < k → fastiref46_Same.l0 k l l (i : Int) = some true
  | 0, i, h, k + 1, _ => by
    rw [fastiref46_Same.l0, if_neg (by omega)]
  | m + 1, i, h, k + 1, hk => by
    have hw : wrap64 ((i : Int) + 1) = ((i + 1 : Nat) : Int) := by rw [wr_in (by omega)]; omega
    rw [fastiref46_Same.l0, if_pos (by omega), if_pos (by omega), if_pos (by omega), if_neg (by simp), hw]
    exact same_loop l hn m (i + 1) (by omega) k (by omega)
theorem same_refl (l : List S24) (hn : l.length ≤ 10000) (k : Nat) (hk : l.length < k) : fastiref46_Same.f k l l = some true := by
  unfold fastiref46_Same.f
  rw [if_pos rfl]
  exact same_loop l hn l.length 0 (by omega) k hk
theorem insAt_length' (l : List S24) (i : Nat) (r : S24) (h : i ≤ l.length) : (insAt l i r).length = l.length + 1 := insAt_length l i r h
theorem addV_length (l : List S24) (r : S24) : (addV l r).1.length ≤ l.length + 1 := by
  unfold addV
  split
  · split
    · split
      · simp
      · split
        · simp
        · rw [insAt_length _ _ _ (posV_le l r.f0)]
          omega
    · simp
  · simp
theorem few_eq (l : List S24) : ∃ b, fastiref46_Few.f l = some b ∧ (b = true → l.length ≤ 5000) := by
  unfold fastiref46_Few.f
  split
  · exact ⟨_, rfl, fun _ => by omega⟩
  · split
    · exact ⟨_, rfl, fun h => by have := of_decide_eq_true h; omega⟩
    · exact ⟨_, rfl, fun h => by cases h⟩
end Go.Proofs.YtebfcckaicgcfaaDoor.Q

namespace Go.Proofs.YtebfcckaicgcfaaDoor.Q
open Go.RowKit Go.Proofs.YtebfcckaicgcfaaDoorW.PrintWords Go.Proofs.YtebfcckaicgcfaaDoorW.PrintLast Go.Proofs.YtebfcckaicgcfaaDoorW.PrintMore
set_option linter.unusedVariables false
set_option linter.unusedSimpArgs false

abbrev Fct := S24
theorem rd_get (l : List Fct) (i : Nat) (hi : i < l.length) : rd_T24 l (i : Int) = l[i] := by simp [rd_T24, List.getD_eq_getElem?_getD, hi]
/-- A right list: few enough, of right facts, their numbers rising. -/
def RightL (l : List Fct) : Prop := l.length ≤ 4096 ∧ (∀ x ∈ l, fB x = true) ∧ l.Pairwise (fun a b => a.f0 < b.f0)
theorem right_of_chk {l : List Fct} (h : chkV l = 0) : RightL l := by
  refine ⟨(chk_ok h).1, chk_valid h, ?_⟩
  rw [List.pairwise_iff_getElem]
  intro i j hi hj hij
  have := sorted_ h i j hij hj
  rwa [noAt_get l i hi, noAt_get l j hj] at this
theorem chk_of_right {l : List Fct} (h : RightL l) : chkV l = 0 := by
  obtain ⟨h1, h2, h3⟩ := h
  unfold chkV
  rw [if_neg (by omega), if_pos]
  rw [List.all_eq_true]
  intro i hi
  have hi := List.mem_range.1 hi
  unfold goodAt
  rw [rd_get l i hi, h2 _ (List.getElem_mem hi), Bool.true_and]
  by_cases h0 : i = 0
  · simp [h0]
  · have h4 := (List.pairwise_iff_getElem.1 h3) (i - 1) i (by omega) hi (by omega)
    rw [rd_get l (i - 1) (by omega), decide_eq_true h4, Bool.or_true]
theorem RightL.sub {l l' : List Fct} (h : RightL l) (hs : l'.Sublist l) : RightL l' :=
  ⟨Nat.le_trans hs.length_le h.1, fun x hx => h.2.1 x (hs.subset hx), h.2.2.sublist hs⟩
theorem RightL.uniq {l : List Fct} (h : RightL l) {x y : Fct} (hx : x ∈ l) (hy : y ∈ l) (e : x.f0 = y.f0) : x = y := by
  obtain ⟨i, hi, rfl⟩ := List.getElem_of_mem hx
  obtain ⟨j, hj, rfl⟩ := List.getElem_of_mem hy
  have hp := List.pairwise_iff_getElem.1 h.2.2
  rcases Nat.lt_trichotomy i j with h1 | h1 | h1
  · have := hp i j hi hj h1; omega
  · subst h1; rfl
  · have := hp j i hj hi h1; omega

/-- Is y later than x? -/
def later (y x : Fct) : Bool := decide (x.f8 < y.f8) || (decide (x.f8 = y.f8) && decide (x.f0 < y.f0))
theorem later_iff {y x : Fct} : later y x = true ↔ x.f8 < y.f8 ∨ (x.f8 = y.f8 ∧ x.f0 < y.f0) := by simp [later]
theorem later_no {y x : Fct} : later y x = false ↔ ¬ (x.f8 < y.f8 ∨ (x.f8 = y.f8 ∧ x.f0 < y.f0)) := by rw [← later_iff]; simp
/-- Does x stand at t among l? -/
def standB (l : List Fct) (t : Int) (x : Fct) : Bool := decide (x.f8 ≤ t) && ((x.f5 != -1) && l.all (fun y => !(decide (y.f8 ≤ t) && (decide (subOf y = subOf x) && later y x))))
theorem standB_iff {l : List Fct} {t : Int} {x : Fct} : standB l t x = true ↔ x.f8 ≤ t ∧ x.f5 ≠ -1 ∧ ∀ y ∈ l, y.f8 ≤ t → subOf y = subOf x → later y x = false := by
  unfold standB
  rw [Bool.and_eq_true, Bool.and_eq_true, decide_eq_true_eq, bne_iff_ne, List.all_eq_true]
  refine and_congr Iff.rfl (and_congr Iff.rfl ?_)
  constructor
  · intro h y hy h1 h2
    have := h y hy
    simpa [h1, h2] using this
  · intro h y hy
    by_cases h1 : y.f8 ≤ t
    · by_cases h2 : subOf y = subOf x
      · simp [h1, h2, h y hy h1 h2]
      · simp [h2]
    · simp [h1]

theorem mget_mput (m : List (Sub × Fct)) (s : Sub) (v : Fct) (s' : Sub) : mget (mput m s v) s' = if s' = s then some v else mget m s' := by
  induction m with
  | nil =>
    unfold mput mget
    by_cases h : s' = s
    · simp [h]
    · have h' : ¬ s = s' := fun e => h e.symm
      simp [h, h']
  | cons p r ih =>
    unfold mput
    by_cases h : p.1 = s
    · rw [if_pos h]
      unfold mget
      by_cases h2 : s' = s
      · simp [h2]
      · have h' : ¬ s = s' := fun e => h2 e.symm
        have h3 : ¬ p.1 = s' := fun e => h2 (e.symm.trans h)
        simp [h2, h', h3]
    · rw [if_neg h]
      unfold mget at ih ⊢
      by_cases h2 : p.1 = s'
      · have h3 : ¬ s' = s := fun e => h (h2.trans e)
        simp [h2, h3]
      · rw [List.find?_cons_of_neg (by simpa using h2), List.find?_cons_of_neg (by simpa using h2)]
        exact ih
/-- z is the latest of D about s. -/
def IsL (D : List Fct) (s : Sub) (z : Fct) : Prop := z ∈ D ∧ subOf z = s ∧ ∀ y ∈ D, subOf y = s → later y z = false
def MInv (D : List Fct) (m : List (Sub × Fct)) : Prop := ∀ s, (∀ z, mget m s = some z → IsL D s z) ∧ (mget m s = none → ∀ y ∈ D, subOf y ≠ s)
theorem minv_step {D : List Fct} {m : List (Sub × Fct)} {y : Fct} (h : MInv D m) (hy : ∀ x ∈ D, x.f0 < y.f0) : MInv (D ++ [y]) (stepM m y) := by
  intro s
  by_cases hs : s = subOf y
  · subst hs
    have h0 := h (subOf y)
    have hnew : (∀ x ∈ D, subOf x = subOf y → x.f8 ≤ y.f8) → IsL (D ++ [y]) (subOf y) y := fun hle => by
      refine ⟨by simp, rfl, fun y' hy' e => ?_⟩
      rw [later_no]
      rcases List.mem_append.1 hy' with h1 | h1
      · have a := hle y' h1 e
        have b := hy y' h1
        omega
      · obtain rfl := List.mem_singleton.1 h1
        omega
    unfold stepM
    cases hg : mget m (subOf y) with
    | none =>
      have hno := h0.2 hg
      simp only [mget_mput, if_true]
      exact ⟨fun z hz => by cases hz; exact hnew (fun x hx e => absurd e (hno x hx)), fun hz => by cases hz⟩
    | some z =>
      obtain ⟨z1, z2, z3⟩ := h0.1 z hg
      by_cases hc : z.f8 ≤ y.f8
      · simp only [if_pos hc, mget_mput, if_true]
        refine ⟨fun z' hz => ?_, fun hz => by cases hz⟩
        cases hz
        refine hnew (fun x hx e => ?_)
        have := later_no.1 (z3 x hx e)
        omega
      · simp only [if_neg hc, hg]
        refine ⟨fun z' hz => ?_, fun hz => by cases hz⟩
        cases hz
        refine ⟨by simp [z1], z2, fun y' hy' e => ?_⟩
        rcases List.mem_append.1 hy' with h1 | h1
        · exact z3 y' h1 e
        · obtain rfl := List.mem_singleton.1 h1
          rw [later_no]
          omega
  · have hm : mget (stepM m y) s = mget m s := by
      unfold stepM
      split
      · rw [mget_mput, if_neg hs]
      · split
        · rw [mget_mput, if_neg hs]
        · rfl
    rw [hm]
    obtain ⟨a, b⟩ := h s
    refine ⟨fun z hz => ?_, fun hz y' hy' => ?_⟩
    · obtain ⟨z1, z2, z3⟩ := a z hz
      refine ⟨by simp [z1], z2, fun y' hy' e => ?_⟩
      rcases List.mem_append.1 hy' with h1 | h1
      · exact z3 y' h1 e
      · obtain rfl := List.mem_singleton.1 h1
        exact absurd e.symm hs
    · rcases List.mem_append.1 hy' with h1 | h1
      · exact b hz y' h1
      · obtain rfl := List.mem_singleton.1 h1
        exact fun e => hs e.symm
theorem minv_fold : ∀ (R D : List Fct) (m : List (Sub × Fct)), MInv D m → (D ++ R).Pairwise (fun a b => a.f0 < b.f0) → MInv (D ++ R) (R.foldl stepM m)
  | [], D, m, h, _ => by simpa using h
  | y :: R, D, m, h, hp => by
    have e : D ++ y :: R = (D ++ [y]) ++ R := by simp
    rw [e] at hp ⊢
    refine minv_fold R (D ++ [y]) (stepM m y) (minv_step h (fun x hx => ?_)) hp
    have := (List.pairwise_append.1 hp).1
    exact (List.pairwise_append.1 this).2.2 x hx y (by simp)
theorem mapL_inv {K : List Fct} (hp : K.Pairwise (fun a b => a.f0 < b.f0)) : MInv K (mapL K) := by
  have := minv_fold K [] [] (fun s => ⟨fun z hz => by simp [mget] at hz, fun _ y hy => by simp at hy⟩) (by simpa using hp)
  rw [List.nil_append] at this
  exact this
theorem fEq_iff {x y : Fct} : fEq x y = true ↔ x = y := by
  obtain ⟨a0, a1, a2, a3, a4, a5, a6, a7, a8⟩ := x
  obtain ⟨b0, b1, b2, b3, b4, b5, b6, b7, b8⟩ := y
  simp [fEq]
theorem standV_eq {l : List Fct} {t : Int} (h : chkV l = 0) (ht : wi t 0 134217727 = true) : standV l t = (l.filter (standB l t), 0) := by
  have hR := right_of_chk h
  unfold standV
  rw [if_pos h, if_pos ht]
  congr 1
  have hK : RightL (knownV t l) := hR.sub (List.filter_sublist ..)
  have hI := mapL_inv hK.2.2
  generalize hM : mapL (knownV t l) = M at hI
  unfold knownV
  rw [List.filter_filter]
  refine List.filter_congr fun x hx => ?_
  by_cases hxt : x.f8 ≤ t
  · rw [decide_eq_true hxt, Bool.and_true]
    have hxK : x ∈ knownV t l := List.mem_filter.2 ⟨hx, decide_eq_true hxt⟩
    cases hg : mget M (subOf x) with
    | none => exact absurd rfl ((hI (subOf x)).2 hg x hxK)
    | some z =>
      obtain ⟨z1, z2, z3⟩ := (hI (subOf x)).1 z hg
      rw [Bool.eq_iff_iff, standB_iff]
      unfold stB
      rw [hg, Option.getD_some, Bool.and_eq_true, fEq_iff, bne_iff_ne]
      constructor
      · rintro ⟨rfl, h5⟩
        exact ⟨hxt, h5, fun y hy h1 h2 => z3 y (List.mem_filter.2 ⟨hy, decide_eq_true h1⟩) h2⟩
      · rintro ⟨_, h5, hall⟩
        refine ⟨?_, h5⟩
        have hz := List.mem_filter.1 z1
        have a := later_no.1 (hall z hz.1 (of_decide_eq_true hz.2) z2)
        have b := later_no.1 (z3 x hxK rfl)
        exact hR.uniq hz.1 hx (by omega)
  · rw [decide_eq_false hxt, Bool.and_false]
    unfold standB
    rw [decide_eq_false hxt, Bool.false_and]
end Go.Proofs.YtebfcckaicgcfaaDoor.Q

namespace Go.Proofs.YtebfcckaicgcfaaDoor.Q
open Go.RowKit Go.Proofs.YtebfcckaicgcfaaDoorW.PrintWords Go.Proofs.YtebfcckaicgcfaaDoorW.PrintLast Go.Proofs.YtebfcckaicgcfaaDoorW.PrintMore
set_option linter.unusedVariables false
set_option linter.unusedSimpArgs false

theorem ref_about (a b : Fct) : fastiref46_About.f a.f0 a.f1 a.f2 a.f3 a.f4 a.f5 a.f6 a.f7 a.f8 b.f0 b.f1 b.f2 b.f3 b.f4 b.f5 b.f6 b.f7 b.f8 = some (decide (subOf a = subOf b)) := by
  unfold fastiref46_About.f subOf
  by_cases h1 : a.f1 = b.f1 <;> by_cases h2 : a.f2 = b.f2 <;> by_cases h3 : a.f3 = b.f3 <;> by_cases h4 : a.f4 = b.f4 <;> by_cases h5 : a.f7 = b.f7 <;> simp [h1, h2, h3, h4, h5]
theorem ref_later (a b : Fct) : fastiref46_Later.f a.f0 a.f1 a.f2 a.f3 a.f4 a.f5 a.f6 a.f7 a.f8 b.f0 b.f1 b.f2 b.f3 b.f4 b.f5 b.f6 b.f7 b.f8 = some (later a b) := by
  unfold fastiref46_Later.f later
  by_cases h : a.f8 > b.f8
  · have h' : b.f8 < a.f8 := h
    simp [h, h']
  · rw [if_neg h]
    have h' : ¬ b.f8 < a.f8 := h
    by_cases h2 : a.f8 = b.f8
    · simp [h', h2]
    · have h3 : ¬ b.f8 = a.f8 := fun e => h2 e.symm
      simp [h', h2, h3]
theorem stands_loop (l : List Fct) (x : Fct) (t : Int) (hn : l.length ≤ 4096) : ∀ (m i : Nat), i + m = l.length → ∀ k, m < k →
    fastiref46_stands.l0 k l t (i : Int) x.f0 x.f1 x.f2 x.f3 x.f4 x.f5 x.f6 x.f7 x.f8 = some ((l.drop i).all (fun y => !(decide (y.f8 ≤ t) && (decide (subOf y = subOf x) && later y x))))
  | 0, i, h, k + 1, _ => by
    rw [fastiref46_stands.l0, if_neg (by omega), List.drop_eq_nil_of_le (by omega)]
    rfl
  | m + 1, i, h, k + 1, hk => by
    have hw : wrap64 ((i : Int) + 1) = ((i + 1 : Nat) : Int) := by rw [wr_in (by omega)]; omega
    have ih := stands_loop l x t hn m (i + 1) (by omega) k (by omega)
    rw [fastiref46_stands.l0, if_pos (by omega), if_pos (by omega), hw, ih, ref_about, ref_later, rd_get l i (by omega), List.drop_eq_getElem_cons (show i < l.length by omega), List.all_cons]
    by_cases h1 : l[i].f8 ≤ t
    · rw [if_pos h1, Option.bind_some]
      by_cases h2 : subOf l[i] = subOf x
      · rw [if_pos (decide_eq_true h2), Option.bind_some]
        cases h3 : later l[i] x with
        | true => simp [h1, h2]
        | false => simp [h1, h2]
      · rw [if_neg (by simpa using h2)]
        simp [h2]
    · rw [if_neg h1]
      simp [h1]
theorem ref_stands (l : List Fct) (x : Fct) (t : Int) (hn : l.length ≤ 4096) (k : Nat) (hk : l.length + 2 ≤ k) : fastiref46_stands.f k l x.f0 x.f1 x.f2 x.f3 x.f4 x.f5 x.f6 x.f7 x.f8 t = some (standB l t x) := by
  obtain ⟨q, rfl⟩ : ∃ q, k = q + 1 := ⟨k - 1, by omega⟩
  have hL := stands_loop l x t hn l.length 0 (by omega) q (by omega)
  rw [List.drop_zero] at hL
  unfold fastiref46_stands.f standB
  by_cases h1 : x.f8 > t
  · rw [if_pos h1, fastiref46_stands.j0, if_pos rfl, decide_eq_false (show ¬ x.f8 ≤ t by omega)]
    rfl
  · rw [if_neg h1, fastiref46_stands.j0, decide_eq_true (show x.f8 ≤ t by omega)]
    by_cases h2 : x.f5 = -1
    · simp [h2]
    · rw [if_neg (by simpa using h2)]
      have h3 : (x.f5 != -1) = true := by simpa using h2
      rw [h3, Bool.true_and, Bool.true_and]
      exact hL
theorem standing_loop (l : List Fct) (t : Int) (hn : l.length ≤ 4096) : ∀ (m i : Nat) (acc : List Fct), i + m = l.length → acc.length ≤ i → ∀ k, m + l.length + 2 < k →
    fastiref46_Standing.l0 k l t acc (i : Int) = some (acc ++ (l.drop i).filter (standB l t), 0)
  | 0, i, acc, h, _, k + 1, _ => by
    rw [fastiref46_Standing.l0, if_neg (by omega), List.drop_eq_nil_of_le (by omega)]
    simp
  | m + 1, i, acc, h, ha, k + 1, hk => by
    have hw : wrap64 ((i : Int) + 1) = ((i + 1 : Nat) : Int) := by rw [wr_in (by omega)]; omega
    rw [fastiref46_Standing.l0, if_pos (by omega), if_pos (by omega), rd_get l i (by omega), ref_stands l _ t hn k (by omega), Option.bind_some, hw, List.drop_eq_getElem_cons (show i < l.length by omega)]
    cases hs : standB l t l[i] with
    | true =>
      rw [if_pos rfl, if_pos (by omega), standing_loop l t hn m (i + 1) _ (by omega) (by simp; omega) k (by omega), List.filter_cons_of_pos hs]
      simp
    | false =>
      rw [if_neg (by simp), standing_loop l t hn m (i + 1) acc (by omega) (by omega) k (by omega), List.filter_cons_of_neg (by simp [hs])]
theorem ref_standing (l : List Fct) (t : Int) (k : Nat) (hk : 2 * l.length + 5 ≤ k) : fastiref46_Standing.f k l t = some (standV l t) := by
  unfold fastiref46_Standing.f
  rw [ref_chk l k (by omega), Option.bind_some]
  by_cases h : chkV l = 0
  · rw [if_pos h, rmoment, Option.bind_some]
    cases ht : wi t 0 134217727 with
    | true =>
      rw [if_pos rfl, standV_eq h ht]
      have := standing_loop l t (chk_ok h).1 l.length 0 [] (by omega) (by simp) k (by omega)
      simpa using this
    | false =>
      unfold standV
      rw [if_pos h, ht]
      rfl
  · unfold standV
    rw [if_neg h, if_neg h]
theorem due_loop (l : List Fct) (no a : Int) (hn : l.length ≤ 4096) : ∀ (m i : Nat), i + m = l.length → (∀ j, j < i → noAt l j ≠ no) → ∀ k, m < k →
    fastiref46_Due.l0 k no a l (i : Int) = some (match l.findIdx? (fun r => decide (r.f0 = no)) with
    | some k => (l.set k ⟨(rd_T24 l k).f0, (rd_T24 l k).f1, (rd_T24 l k).f2, (rd_T24 l k).f3, (rd_T24 l k).f4, (rd_T24 l k).f5, (rd_T24 l k).f6, (rd_T24 l k).f7, a⟩, 0)
    | none => ([], 460))
  | 0, i, h, h0, k + 1, _ => by
    obtain rfl : i = l.length := by omega
    rw [fastiref46_Due.l0, if_neg (by omega), idx_none h0]
  | m + 1, i, h, h0, k + 1, hk => by
    have hw : wrap64 ((i : Int) + 1) = ((i + 1 : Nat) : Int) := by rw [wr_in (by omega)]; omega
    rw [fastiref46_Due.l0, if_pos (by omega), if_pos (by omega)]
    by_cases h1 : (rd_T24 l (i : Int)).f0 = no
    · rw [if_pos h1, idx_some (show i < l.length by omega) h0 h1]
      simp
    · rw [if_neg h1, hw]
      refine due_loop l no a hn m (i + 1) (by omega) (fun j hj => ?_) k (by omega)
      rcases Nat.lt_succ_iff_lt_or_eq.1 hj with h2 | rfl
      · exact h0 j h2
      · exact h1
theorem ref_due (l : List Fct) (no a : Int) (k : Nat) (hk : l.length + 5 ≤ k) : fastiref46_Due.f k l no a = some (dueV l no a) := by
  unfold fastiref46_Due.f dueV
  rw [ref_chk l k (by omega), Option.bind_some]
  by_cases h : chkV l = 0
  · have hn := (chk_ok h).1
    rw [if_pos h, if_pos h, rmoment, Option.bind_some]
    cases ht : wi a 0 134217727 with
    | true =>
      rw [if_pos rfl, if_pos rfl, Option.bind_some, if_pos (by simp; omega), List.nil_append]
      exact due_loop l no a hn l.length 0 (by omega) (fun j hj => by omega) k (by omega)
    | false => rfl
  · rw [if_neg h, if_neg h]
theorem standV_length (l : List Fct) (t : Int) : (standV l t).1.length ≤ l.length := by
  unfold standV
  split
  · split
    · unfold knownV
      rw [List.filter_filter]
      exact List.length_filter_le _ _
    · simp
  · simp
theorem dueV_length (l : List Fct) (no a : Int) : (dueV l no a).1.length ≤ l.length := by
  unfold dueV
  split
  · split
    · split
      · simp
      · simp
    · simp
  · simp
end Go.Proofs.YtebfcckaicgcfaaDoor.Q

namespace Go.Proofs.YtebfcckaicgcfaaDoor.Q
open Go.RowKit Go.Proofs.YtebfcckaicgcfaaDoorW.PrintWords Go.Proofs.YtebfcckaicgcfaaDoorW.PrintLast Go.Proofs.YtebfcckaicgcfaaDoorW.PrintMore
set_option linter.unusedVariables false
set_option linter.unusedSimpArgs false

theorem right_eq (l : List Fct) (k : Nat) (hk : l.length + 3 ≤ k) : fastilaw46_right.f k l = some (decide (l.length ≤ 300) && decide (chkV l = 0)) := by
  unfold fastilaw46_right.f
  by_cases h : l.length ≤ 300
  · rw [if_pos (by omega), ref_chk l k (by omega), Option.bind_some, decide_eq_true h, Bool.true_and]
    by_cases h2 : chkV l = 0 <;> simp [h2]
  · rw [if_neg (by omega), decide_eq_false h, Bool.false_and]
theorem early_known {l : List Fct} {t : Int} (h : chkV l = 0) (ht : wi t 0 134217727 = true) : standV (knownV t l) t = standV l t := by
  have hR := right_of_chk h
  have hK : chkV (knownV t l) = 0 := chk_of_right (hR.sub (List.filter_sublist ..))
  rw [standV_eq h ht, standV_eq hK ht]
  congr 1
  unfold knownV
  rw [List.filter_filter]
  refine List.filter_congr fun x hx => ?_
  rw [Bool.eq_iff_iff, Bool.and_eq_true, standB_iff, standB_iff, decide_eq_true_eq]
  constructor
  · rintro ⟨⟨a, b, c⟩, _⟩
    exact ⟨a, b, fun y hy h1 h2 => c y (List.mem_filter.2 ⟨hy, decide_eq_true h1⟩) h1 h2⟩
  · rintro ⟨a, b, c⟩
    exact ⟨⟨a, b, fun y hy h1 h2 => c y (List.mem_filter.1 hy).1 h1 h2⟩, a⟩
/-- The which-th of the facts. -/
theorem which_eq (a : Int) (n : Nat) (hn : 0 < n) (ha : (Lit.int .u16 a).wf = true) : ∃ p : Nat, p < n ∧ Int.tmod (wrap64 a) (n : Int) = (p : Int) := by
  have hb : 0 ≤ a ∧ a < 65536 := by
    have h1 : IntKind.u16.min ≤ a ∧ a ≤ IntKind.u16.max := by simpa [Lit.wf] using ha
    have m0 : IntKind.u16.min = 0 := by decide
    have m1 : IntKind.u16.max = 65535 := by decide
    omega
  rw [wr_in (by omega), Int.tmod_eq_emod_of_nonneg hb.1]
  have h1 := Int.emod_nonneg a (show (n : Int) ≠ 0 by omega)
  have h2 := Int.emod_lt_of_pos a (show (0 : Int) < n by omega)
  exact ⟨(a % (n : Int)).toNat, by omega, by omega⟩

def atT (x : Fct) (a : Int) : Fct := ⟨x.f0, x.f1, x.f2, x.f3, x.f4, x.f5, x.f6, x.f7, a⟩
theorem fB_at {x : Fct} {a : Int} (h : fB x = true) (ha : wi a 0 134217727 = true) : fB (atT x a) = true := by
  unfold fB at h ⊢
  unfold atT
  simp only [Bool.and_eq_true] at h ⊢
  exact ⟨h.1, h.2.1, ha, h.2.2.2⟩
theorem right_set {l : List Fct} (h : RightL l) (p : Nat) (hp : p < l.length) (a : Int) (ha : wi a 0 134217727 = true) : RightL (l.set p (atT l[p] a)) := by
  refine ⟨by rw [List.length_set]; exact h.1, fun x hx => ?_, ?_⟩
  · rcases List.mem_or_eq_of_mem_set hx with h1 | h1
    · exact h.2.1 x h1
    · subst h1
      exact fB_at (h.2.1 _ (List.getElem_mem hp)) ha
  · rw [List.pairwise_iff_getElem]
    intro i j hi hj hij
    have hp' := List.pairwise_iff_getElem.1 h.2.2 i j (by simpa using hi) (by simpa using hj) hij
    have e : ∀ q (hq : q < (l.set p (atT l[p] a)).length), (l.set p (atT l[p] a))[q].f0 = (l[q]'(by simpa using hq)).f0 := fun q hq => by
      rw [List.getElem_set]
      split
      · rename_i e
        subst e
        rfl
      · rfl
    rw [e i hi, e j hj]
    exact hp'
theorem due_at {l : List Fct} (h : RightL l) (p : Nat) (hp : p < l.length) (a : Int) (ha : wi a 0 134217727 = true) : dueV l l[p].f0 a = (l.set p (atT l[p] a), 0) := by
  have hp' := List.pairwise_iff_getElem.1 h.2.2
  have hi : l.findIdx? (fun r => decide (r.f0 = l[p].f0)) = some p := idx_some hp (fun j hj => by
    rw [noAt_get l j (by omega)]
    have := hp' j p (by omega) hp hj
    omega) (noAt_get l p hp)
  unfold dueV
  rw [if_pos (chk_of_right h), if_pos ha, hi]
  simp only [rd_get l p hp]
  rfl
theorem known_set {l : List Fct} {t : Int} (p : Nat) (hp : p < l.length) (v : Fct) (h1 : t < l[p].f8) (h2 : t < v.f8) : knownV t (l.set p v) = knownV t l := by
  have e1 : l = l.take p ++ (l[p] :: l.drop (p + 1)) := by rw [← List.drop_eq_getElem_cons hp, List.take_append_drop]
  have e2 : l.set p v = l.take p ++ (v :: l.drop (p + 1)) := by rw [List.set_eq_take_append_cons_drop, if_pos hp]
  unfold knownV
  rw [e2]
  conv => rhs; rw [e1]
  rw [List.filter_append, List.filter_append, List.filter_cons, List.filter_cons, if_neg (by simp; omega), if_neg (by simp; omega)]
theorem mem_insAt (l : List Fct) (i : Nat) (x r : Fct) : r ∈ insAt l i x ↔ r ∈ l ∨ r = x := by
  unfold insAt
  have e : r ∈ l ↔ r ∈ l.take i ∨ r ∈ l.drop i := by rw [← List.mem_append, List.take_append_drop]
  rw [e]
  simp only [List.mem_append, List.mem_cons, List.not_mem_nil, or_false]
  constructor
  · rintro (h | h | h)
    · exact .inl (.inl h)
    · exact .inr h
    · exact .inl (.inr h)
  · rintro ((h | h) | h)
    · exact .inl h
    · exact .inr (.inr h)
    · exact .inr (.inl h)
theorem ins_right {y : List Fct} (hy : RightL y) {x : Fct} (hx : fB x = true) (hl : y.length < 4096) (hno : ∀ r ∈ y, r.f0 ≠ x.f0) : RightL (insAt y (posV y x.f0) x) := by
  have hs := posV_spec y x.f0
  have hle := posV_le y x.f0
  have hp := List.pairwise_iff_getElem.1 hy.2.2
  refine ⟨by rw [insAt_length _ _ _ hle]; omega, fun r hr => ?_, ?_⟩
  · rcases (mem_insAt y _ x r).1 hr with h | h
    · exact hy.2.1 r h
    · rw [h]; exact hx
  · have h1 : ∀ r ∈ y.take (posV y x.f0), r.f0 < x.f0 := fun r hr => by
      obtain ⟨j, hj, rfl⟩ := List.getElem_of_mem hr
      rw [List.length_take] at hj
      rw [List.getElem_take]
      have := hs.1 j (by omega)
      rwa [noAt_get y j (by omega)] at this
    have h2 : ∀ r ∈ y.drop (posV y x.f0), x.f0 < r.f0 := fun r hr => by
      have hne := hno r (List.mem_of_mem_drop hr)
      obtain ⟨j, hj, rfl⟩ := List.getElem_of_mem hr
      rw [List.length_drop] at hj
      rw [List.getElem_drop] at hne ⊢
      have h3 := hs.2 (by omega)
      rw [noAt_get y _ (by omega)] at h3
      rcases Nat.eq_zero_or_pos j with h4 | h4
      · subst h4
        simp only [Nat.add_zero] at hne ⊢
        omega
      · have := hp (posV y x.f0) (posV y x.f0 + j) (by omega) (by omega) (by omega)
        omega
    have e : y.Pairwise (fun a b => a.f0 < b.f0) := hy.2.2
    rw [← List.take_append_drop (posV y x.f0) y] at e
    obtain ⟨e1, e2, e3⟩ := List.pairwise_append.1 e
    unfold insAt
    refine List.pairwise_append.2 ⟨e1, List.pairwise_cons.2 ⟨fun r hr => h2 r hr, e2⟩, fun a ha b hb => ?_⟩
    rcases List.mem_cons.1 hb with rfl | hb
    · exact h1 a ha
    · exact e3 a ha b hb
theorem twice_no {y : List Fct} {x : Int} (hno : ∀ r ∈ y, r.f0 ≠ x) : twiceB y x = false := by
  unfold twiceB
  by_cases h : posV y x < y.length
  · rw [decide_eq_true h, Bool.true_and, noAt_get y _ h]
    exact decide_eq_false (hno _ (List.getElem_mem h))
  · rw [decide_eq_false h, Bool.false_and]
theorem twice_yes {y : List Fct} (hy : RightL y) {x : Fct} (hx : x ∈ y) : twiceB y x.f0 = true := by
  obtain ⟨i, hi, rfl⟩ := List.getElem_of_mem hx
  have hs := posV_spec y y[i].f0
  have hp := List.pairwise_iff_getElem.1 hy.2.2
  have hle : posV y y[i].f0 ≤ i := by
    rcases Nat.lt_or_ge i (posV y y[i].f0) with h | h
    · have := hs.1 i h
      rw [noAt_get y i hi] at this
      omega
    · exact h
  have hlt : posV y y[i].f0 < y.length := by omega
  have h3 := hs.2 hlt
  rw [noAt_get y _ hlt] at h3
  have e : posV y y[i].f0 = i := by
    rcases Nat.eq_or_lt_of_le hle with h | h
    · exact h
    · have := hp _ i hlt hi h
      omega
  unfold twiceB
  rw [decide_eq_true hlt, Bool.true_and, noAt_get y _ hlt]
  simp only [e, decide_true]
theorem add_new {y : List Fct} (hy : RightL y) {x : Fct} (hx : fB x = true) (hl : y.length < 4096) (hno : ∀ r ∈ y, r.f0 ≠ x.f0) : addV y x = (insAt y (posV y x.f0) x, 0) := by
  unfold addV
  rw [if_pos (chk_of_right hy), if_pos hx, twice_no hno, if_neg (by simp), if_neg (by omega)]
theorem add_old {y : List Fct} (hy : RightL y) {x : Fct} (hx : x ∈ y) : addV y x = ([], 171) := by
  unfold addV
  rw [if_pos (chk_of_right hy), if_pos (hy.2.1 x hx), twice_yes hy hx, if_pos rfl]

end Go.Proofs.YtebfcckaicgcfaaDoor.Q

namespace Go.Proofs.YtebfcckaicgcfaaDoor.Q
open Go.RowKit Go.Proofs.YtebfcckaicgcfaaDoorW.PrintWords Go.Proofs.YtebfcckaicgcfaaDoorW.PrintLast
def fastilaw46_FactsOrder.Pure : Prop := ∀ (l0 : List (S24)) (l1 : List Int), (fun l_ : List (S24) => l_.length * 72 ≤ 140737488351232 ∧ ∀ a, a ∈ l_ → B24 a) l0 → (fun l_ : List Int => l_.length * 1 ≤ 140737488351232 ∧ ∀ a, a ∈ l_ → (fun a_ : Int => (Lit.int .u8 a_).wf = true) a) l1 → ∃ k, fastilaw46_FactsOrder.f k l0 l1 = some true
end Go.Proofs.YtebfcckaicgcfaaDoor.Q

namespace Go.Proofs.YtebfcckaicgcfaaDoor.Q
open Go.RowKit Go.Proofs.YtebfcckaicgcfaaDoorW.PrintWords Go.Proofs.YtebfcckaicgcfaaDoorW.PrintLast Go.Proofs.YtebfcckaicgcfaaDoorW.PrintMore
set_option linter.unusedVariables false
set_option linter.unusedSimpArgs false

/-- Right lists of the same facts are the same. -/
theorem sorted_ext : ∀ (a b : List Fct), a.Pairwise (fun x y => x.f0 < y.f0) → b.Pairwise (fun x y => x.f0 < y.f0) → (∀ x, x ∈ a ↔ x ∈ b) → a = b
  | [], [], _, _, _ => rfl
  | [], y :: b, _, _, h => by simpa using (h y).2 (by simp)
  | x :: a, [], _, _, h => by simpa using (h x).1 (by simp)
  | x :: a, y :: b, ha, hb, h => by
    obtain ⟨ha1, ha2⟩ := List.pairwise_cons.1 ha
    obtain ⟨hb1, hb2⟩ := List.pairwise_cons.1 hb
    have e : x = y := by
      rcases List.mem_cons.1 ((h x).1 (by simp)) with h1 | h1
      · exact h1
      · rcases List.mem_cons.1 ((h y).2 (by simp)) with h2 | h2
        · exact h2.symm
        · have p := hb1 x h1
          have q := ha1 y h2
          omega
    subst e
    congr 1
    refine sorted_ext a b ha2 hb2 (fun z => ?_)
    constructor
    · intro hz
      rcases List.mem_cons.1 ((h z).1 (by simp [hz])) with h1 | h1
      · subst h1; have := ha1 z hz; omega
      · exact h1
    · intro hz
      rcases List.mem_cons.1 ((h z).2 (by simp [hz])) with h1 | h1
      · subst h1; have := hb1 z hz; omega
      · exact h1
theorem order_round (l : List Fct) (hR : RightL l) (ord : List Int) (hn : l.length ≤ 40) (left y : List Fct) (i : Nat) (hL : RightL left) (hY : RightL y) (hm : ∀ r, r ∈ y ↔ r ∈ l ∧ r ∉ left) (hsub : ∀ r ∈ left, r ∈ l) (hi : i + left.length = l.length) (hyl : y.length = i) (p : Nat) (hp : p < left.length) (k : Nat)
    (hnext : ∀ y', RightL y' → (∀ r, r ∈ y' ↔ r ∈ l ∧ r ∉ (left.take p ++ left.drop (p + 1))) → y'.length = i + 1 → fastilaw46_FactsOrder.l0 k l ord (left.take p ++ left.drop (p + 1)) y' ((i + 1 : Nat) : Int) = some true) :
    fastilaw46_FactsOrder.j2 (k + 2) l ord left y (i : Int) (p : Int) = some true := by
  have hw : wrap64 ((p : Int) + 1) = ((p + 1 : Nat) : Int) := by rw [wr_in (by omega)]; omega
  have hw2 : wrap64 ((i : Int) + 1) = ((i + 1 : Nat) : Int) := by rw [wr_in (by omega)]; omega
  have hw3 : wrap64 ((y.length : Int) + 1) = ((y.length + 1 : Nat) : Int) := by rw [wr_in (by omega)]; omega
  have hx : left[p] ∈ left := List.getElem_mem hp
  have hxf := hL.2.1 _ hx
  have hno : ∀ r ∈ y, r.f0 ≠ left[p].f0 := fun r hr e => by
    obtain ⟨h1, h2⟩ := (hm r).1 hr
    have := hR.uniq h1 (hsub _ hx) e
    exact h2 (this ▸ hx)
  have ha := add_new hY hxf (by omega) hno
  have hY' := ins_right hY hxf (by omega) hno
  have hmem : left[p] ∈ insAt y (posV y left[p].f0) left[p] := (mem_insAt _ _ _ _).2 (.inr rfl)
  have hb := add_old hY' hmem
  have hlen := insAt_length y (posV y left[p].f0) left[p] (posV_le _ _)
  have el : left = left.take p ++ (left[p] :: left.drop (p + 1)) := by rw [← List.drop_eq_getElem_cons hp, List.take_append_drop]
  have hpw := hL.2.2
  rw [el] at hpw
  obtain ⟨_, e2, e3⟩ := List.pairwise_append.1 hpw
  have e4 := (List.pairwise_cons.1 e2).1
  have hxn : left[p] ∉ left.take p ++ left.drop (p + 1) := fun h => by
    rcases List.mem_append.1 h with h | h
    · have := e3 _ h _ (List.mem_cons_self ..); omega
    · have := e4 _ h; omega
  have hml : ∀ r, r ∈ left ↔ r ∈ left.take p ++ left.drop (p + 1) ∨ r = left[p] := fun r => by
    conv => lhs; rw [el]
    simp only [List.mem_append, List.mem_cons]
    constructor
    · rintro (h | h | h)
      · exact .inl (.inl h)
      · exact .inr h
      · exact .inl (.inr h)
    · rintro ((h | h) | h)
      · exact .inl h
      · exact .inr (.inr h)
      · exact .inr (.inl h)
  have hm' : ∀ r, r ∈ insAt y (posV y left[p].f0) left[p] ↔ r ∈ l ∧ r ∉ (left.take p ++ left.drop (p + 1)) := fun r => by
    rw [mem_insAt, hm]
    constructor
    · rintro (⟨h1, h2⟩ | h)
      · exact ⟨h1, fun h3 => h2 ((hml r).2 (.inl h3))⟩
      · subst h; exact ⟨hsub _ hx, hxn⟩
    · rintro ⟨h1, h2⟩
      by_cases h : r = left[p]
      · exact .inr h
      · exact .inl ⟨h1, fun h3 => ((hml r).1 h3).elim h2 h⟩
  have hnx := hnext _ hY' hm' (by rw [hlen]; omega)
  have l1 : (left.take p).length ≤ 40 := by rw [List.length_take]; omega
  have l2 : (left.drop (p + 1)).length ≤ 40 := by rw [List.length_drop]; omega
  rw [fastilaw46_FactsOrder.j2, if_pos (by omega), if_pos (by omega), Option.bind_some, if_pos (by omega), Option.bind_some, Int.toNat_natCast, List.length_nil, if_pos (by omega), Option.bind_some, hw, if_pos (by omega), if_pos (by omega), Option.bind_some, Int.toNat_natCast, List.nil_append,
    if_pos (by omega), Option.bind_some, rd_get left p hp, show facts_Add.f y left[p].f0 left[p].f1 left[p].f2 left[p].f3 left[p].f4 left[p].f5 left[p].f6 left[p].f7 left[p].f8 = some (addV y left[p]) from rfl, ha, Option.bind_some, if_pos rfl]
  rw [fastilaw46_FactsOrder.j3, hlen, hw3, if_neg (by simp), show facts_Add.f (insAt y (posV y left[p].f0) left[p]) left[p].f0 left[p].f1 left[p].f2 left[p].f3 left[p].f4 left[p].f5 left[p].f6 left[p].f7 left[p].f8 = some (addV (insAt y (posV y left[p].f0) left[p]) left[p]) from rfl, hb, Option.bind_some, if_pos rfl, hw2]
  exact hnx
theorem order_loop (l : List Fct) (hR : RightL l) (ord : List Int) (ho : ∀ a ∈ ord, (Lit.int .u8 a).wf = true) (hn : l.length ≤ 40) : ∀ (m : Nat) (left y : List Fct) (i : Nat), left.length = m → RightL left → RightL y → (∀ r, r ∈ y ↔ r ∈ l ∧ r ∉ left) → (∀ r ∈ left, r ∈ l) → i + m = l.length → y.length = i → ∀ k, 3 * m + 60 < k →
    fastilaw46_FactsOrder.l0 k l ord left y (i : Int) = some true
  | 0, left, y, i, hl, hL, hY, hm, hsub, hi, hyl, k + 1, hk => by
    obtain rfl : left = [] := List.eq_nil_of_length_eq_zero hl
    have e : y = l := sorted_ext y l hY.2.2 hR.2.2 (fun x => by rw [hm]; simp)
    rw [fastilaw46_FactsOrder.l0, if_neg (by simp), e, same_refl l (by omega) _ (by omega)]
    rfl
  | m + 1, left, y, i, hl, hL, hY, hm, hsub, hi, hyl, k + 3, hk => by
    have go : ∀ p, p < left.length → fastilaw46_FactsOrder.j2 (k + 2) l ord left y (i : Int) (p : Int) = some true := fun p hp => by
      refine order_round l hR ord hn left y i hL hY hm hsub (by omega) hyl p hp k (fun y' hY' hm' hl' => ?_)
      have hs : (left.take p ++ left.drop (p + 1)).Sublist left := by
        rw [← List.eraseIdx_eq_take_drop_succ]
        exact List.eraseIdx_sublist ..
      refine order_loop l hR ord ho hn m _ y' (i + 1) ?_ (hL.sub hs) hY' hm' (fun r hr => hsub r (hs.subset hr)) (by omega) hl' k (by omega)
      rw [List.length_append, List.length_take, List.length_drop]
      omega
    rw [fastilaw46_FactsOrder.l0, if_pos (by omega)]
    by_cases h : (i : Int) < (ord.length : Int)
    · rw [if_pos h, if_pos (by omega), if_neg (by omega)]
      have hr : rd ord (i : Int) ∈ ord := by
        have hlt : i < ord.length := by omega
        simp [rd, List.getD_eq_getElem?_getD, hlt]
      have hwf := ho _ hr
      generalize rd ord (i : Int) = a at hwf
      have hb : 0 ≤ a ∧ a ≤ 255 := by
        have h1 : IntKind.u8.min ≤ a ∧ a ≤ IntKind.u8.max := by simpa [Lit.wf] using hwf
        have m0 : IntKind.u8.min = 0 := by decide
        have m1 : IntKind.u8.max = 255 := by decide
        omega
      have e : ∃ p : Nat, p < left.length ∧ Int.tmod (wrap64 a) (left.length : Int) = (p : Int) := by
        rw [wr_in (by omega), Int.tmod_eq_emod_of_nonneg hb.1]
        have h1 := Int.emod_nonneg a (show (left.length : Int) ≠ 0 by omega)
        have h2 := Int.emod_lt_of_pos a (show (0 : Int) < (left.length : Int) by omega)
        exact ⟨(a % (left.length : Int)).toNat, by omega, by omega⟩
      obtain ⟨p, hp, hpe⟩ := e
      rw [hpe]
      exact go p hp
    · rw [if_neg h]
      exact go 0 (by omega)
theorem fastilaw46_FactsOrder.pure : fastilaw46_FactsOrder.Pure := by
  intro l ord _ ho
  refine ⟨1000 + l.length, ?_⟩
  obtain ⟨q, hq⟩ : ∃ q, 1000 + l.length = q + 1 := ⟨999 + l.length, by omega⟩
  have hj : fastilaw46_FactsOrder.j0 (q + 1) l ord true = some true := by rw [fastilaw46_FactsOrder.j0, if_pos rfl]
  unfold fastilaw46_FactsOrder.f
  rw [sane_k _ (by omega), Option.bind_some, if_pos rfl, right_eq l _ (by omega), Option.bind_some, hq]
  cases hg : (decide (l.length ≤ 300) && decide (chkV l = 0)) with
  | false => exact hj
  | true =>
    rw [Bool.and_eq_true, decide_eq_true_eq, decide_eq_true_eq] at hg
    obtain ⟨hn, hc⟩ := hg
    rw [if_pos rfl]
    by_cases h40 : (l.length : Int) > 40
    · rw [decide_eq_true h40]; exact hj
    · have hR := right_of_chk hc
      rw [decide_eq_false h40, fastilaw46_FactsOrder.j0, if_neg (by simp), Option.bind_some, List.length_nil, if_pos (by omega), List.nil_append]
      refine order_loop l hR ord ho.2 (by omega) l.length l [] 0 rfl hR ⟨by simp, fun x hx => by simp at hx, List.Pairwise.nil⟩ (fun r => by simp) (fun r h => h) (by omega) rfl q (by omega)
end Go.Proofs.YtebfcckaicgcfaaDoor.Q
namespace Go.Proofs.YtebfcckaicgcfaaDoor.Pure
theorem FactsOrder : Go.Proofs.YtebfcckaicgcfaaDoor.Q.fastilaw46_FactsOrder.Pure := Go.Proofs.YtebfcckaicgcfaaDoor.Q.fastilaw46_FactsOrder.pure
end Go.Proofs.YtebfcckaicgcfaaDoor.Pure

namespace Go.Proofs.YtebfcckaicgcfaaDoor.factsOrder
open Go.ChangeShapes Go.WideShapes Go.ChangeAt Go.RowKit Go.Proofs.YtebfcckaicgcfaaDoor.Q Go.Proofs.YtebfcckaicgcfaaDoor.Opn Go.Proofs.YtebfcckaicgcfaaDoorW.PrintWords Go.Proofs.YtebfcckaicgcfaaDoorW.PrintLast
open Go.ChangeMaps (open_string shut_string)
open Go
set_option linter.unusedVariables false
theorem own : ownKnob Tryd.prog.godebug = none := by kernel_rfl
theorem laidOut : laidOutB Tryd.prog = true := by kernel_rfl
/-- The door's own heap meets the condition. -/
theorem door_met (os : Os) (args : Array Value) : laidMetH Tryd.prog laidL ((World.doorLaid Tryd.prog 28 os).forCall (fun _ _ => 0) ⟨#[], args, []⟩).memory :=
  laidMetH_of_parts3 (fuel := 8) (laidMet_of_run' 8 (by kernel_rfl) (by kernel_rfl)) (by kernel_rfl) (by kernel_rfl)
set_option maxRecDepth 100000 in
theorem lifted (os : Os) (started : os.Started) (H : Type) (enc : TypeId × Value → H) :
    ReturnsInHanded {} Tryd.checked os 6 .any (fun w args => (Rows.factsOrderSpec.pre enc Tryd.prog Tryd.f6 [] false w args ∧ laidMetH Tryd.prog laidL w) ∧ sizedMet enc Tryd.prog Tryd.f6 (OpenSpec.ofChange Rows.factsOrderSpec) false w args) (Rows.factsOrderSpec.post enc Tryd.prog Tryd.f6 false true false false) := by
  refine returnsInHanded_of_change_and (C := Tryd.checked) (X := fun w _ => laidMetH Tryd.prog laidL w) (fun _ _ _ hh h => h.of_heap hh) own started (by kernel_rfl) Tryd.func6
    (ChangeSpec.witness_shaped (enc := enc) (C := Tryd.checked) (os := os) (X := fun w _ => laidMetH Tryd.prog laidL w) false (World.doorLaid Tryd.prog 28 os) #[.slice none 0 0, .slice none 0 0] 8 rfl (World.shaped_of_RefB (by kernel_rfl) (by kernel_rfl)) (by kernel_rfl) (by kernel_rfl) (by kernel_rfl) (door_met os _)) ?_
  intro W base args ds gs before hval0 hW hcnd hsz0 hL _
  have hrw := rows_of_laid hL
  have hsz : (DataW.weightsEach Tryd.prog (Tryd.f6.params.toList ++ Rows.factsOrderSpec.plain.varTypes Tryd.prog) (ds ++ gs)).all (· ≤ reachBytes) = true := hsz0
  have hval : ∀ (j : Nat) t v, Tryd.f6.params[j]? = some t → args[j]? = some v → Value.okWide Tryd.prog W .any base t v := hval0
  have hW' := hW
  obtain ⟨p, q, hA0, hV, rfl, hfz, hnd⟩ := hW
  have hA : DataW.TrodAll enc Tryd.prog W 0 (fun _ => true) true Tryd.f6.params.toList args.toList ds p := hA0
  rw [Tryd.params6] at hA hval hsz
  obtain ⟨v0, vs0, d0, ds0, p0, q0, hargs, rfl, rfl, h0, r0⟩ := trodAll_cons hA
  obtain ⟨v1, vs1, d1, ds1, p1, q1, rfl, rfl, rfl, h1, r1⟩ := trodAll_cons r0
  obtain ⟨rfl, rfl, rfl⟩ := trodAll_nil r1
  obtain rfl : args = #[v0, v1] := by cases args; simp_all
  obtain ⟨rfl, rfl⟩ := trodVars_none hV
  have k0 := h0
  have lt0 : ∀ x ∈ p0, x.block < W.heap.size := by obtain ⟨m, hm⟩ := k0; exact DataW.trod_lt m _ _ _ hm
  obtain ⟨l0, hK0, hB0⟩ : ∃ a_ : List (S24), (Kd.slice 24 k24).K W a_ v0.cells.toList ∧ (fun l_ : List (S24) => l_.length * 72 ≤ 140737488351232 ∧ ∀ a, a ∈ l_ → B24 a) a_ := arg (j := 0) (opn_slice (sz := 9) Tryd.underlying22 (by kernel_rfl) rfl (by kernel_rfl) opn24) hsz rfl rfl h0
  obtain ⟨a0, len0, cap0, rfl⟩ := okWide_slice Tryd.underlying22 (hval 0 22 v0 rfl rfl)
  obtain ⟨A0, c0, he0, hc0, hr0⟩ := hK0
  obtain ⟨rfl, rfl, rfl⟩ : a0 = A0 ∧ len0 = l0.length ∧ cap0 = c0 := by have := List.cons.inj he0; simpa using this
  have k1 := h1
  have lt1 : ∀ x ∈ p1, x.block < W.heap.size := by obtain ⟨m, hm⟩ := k1; exact DataW.trod_lt m _ _ _ hm
  obtain ⟨l1, hK1, hB1⟩ : ∃ a_ : List Int, (Kd.slice 5 (Kd.int .u8)).K W a_ v1.cells.toList ∧ (fun l_ : List Int => l_.length * 1 ≤ 140737488351232 ∧ ∀ a, a ∈ l_ → (fun a_ : Int => (Lit.int .u8 a_).wf = true) a) a_ := arg (j := 1) (opn_slice (sz := 1) Tryd.underlying43 (by kernel_rfl) rfl (by kernel_rfl) (opn_int Tryd.underlying5)) hsz rfl rfl h1
  obtain ⟨a1, len1, cap1, rfl⟩ := okWide_slice Tryd.underlying43 (hval 1 43 v1 rfl rfl)
  obtain ⟨A1, c1, he1, hc1, hr1⟩ := hK1
  obtain ⟨rfl, rfl, rfl⟩ : a1 = A1 ∧ len1 = l1.length ∧ cap1 = c1 := by have := List.cons.inj he1; simpa using this
  clear hA0 hval0 hsz0 hsz
  obtain ⟨k, h⟩ := Pure.FactsOrder l0 l1 hB0 hB1
  refine (fastilaw46_FactsOrder.calls k _ _ l0 _ _ l1 true W hr0 hc0 hr1 hc1 h hrw).mono fun e W' he_ => ?_
  obtain ⟨he, bel0⟩ := he_
  subst he
  have bel : Below W.heap.size W W' := bel0
  exact ⟨_, rfl, _, _, _, [], _, [], hW', trodAll_mk1 (shut_bool Tryd.underlying4 _), (trodAll_cons_mk (Below.trod laidOut (by kernel_rfl) (of_decide_eq_true (by kernel_rfl)) k0 bel lt0) (trodAll_cons_mk (Below.trod laidOut (by kernel_rfl) (of_decide_eq_true (by kernel_rfl)) k1 bel lt1) trodAll_mk0)), rfl, bel.frame _, fun h => by cases h⟩
theorem over : Rows.factsOrderRow.holds Tryd.pinned (OpenSpec.ofChange Rows.factsOrderSpec) :=
  OpenClaim.holds_of_wide 6 Tryd.f6 rfl rfl rfl rfl rfl rfl rfl ⟨rfl, rfl, rfl, rfl, rfl⟩ rfl rfl rfl rfl rfl (by kernel_rfl) Tryd.func6 (by kernel_rfl)
    (of_decide_eq_true (by kernel_rfl)) (by unfold Func.isWrapper; first | (rw [if_pos (by decide +kernel)]; kernel_rfl) | (rw [if_neg (by decide +kernel)]; exact ⟨rfl, rfl⟩))
    (fun os started H enc _ => lifted os started H enc)
theorem proved : Rows.FactsOrderCardSaid :=
  Claim7.holds_tied_plain_at .later [] [.data] true (true, "25e62b46fb574479bbaa49f574636e523fa3f10f860c20300a91c53940a2b552") false
    over (fun _ h => by cases h) (by kernel_rfl) (fun _ h => by cases h) factsOrder_row_tie rfl ⟨rfl, rfl⟩ (by kernel_rfl) rfl
    (fun f fn hf hfn => by
      obtain rfl : f = 6 := Option.some.inj ((show Tryd.prog.funcNamed "fasti/fastilaw46.FactsOrder" = some 6 by kernel_rfl).symm.trans hf) |>.symm
      obtain rfl : fn = Tryd.f6 := (Option.some.inj (Tryd.func6.symm.trans hfn)).symm
      exact ⟨by kernel_rfl, fun j t ht => by
        rw [Tryd.params6] at ht
        have hm : t ∈ [22, 43] := by simpa using Array.mem_of_getElem? ht
        have hall : ([22, 43].all fun u => !Tryd.prog.wantsStandIn u) = true := by kernel_rfl
        exact (show Tryd.prog.wantsStandIn t = false by simpa using List.all_eq_true.1 hall t hm)⟩)
    (by kernel_rfl)
#print axioms proved
end Go.Proofs.YtebfcckaicgcfaaDoor.factsOrder
namespace Go.Proofs.YtebfcckaicgcfaaDoor
theorem factsOrderCard_holds : Rows.FactsOrderCardSaid := factsOrder.proved
end Go.Proofs.YtebfcckaicgcfaaDoor
