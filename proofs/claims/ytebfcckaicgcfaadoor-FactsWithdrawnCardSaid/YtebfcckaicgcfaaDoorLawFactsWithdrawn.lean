/- The tied card of the law FactsWithdrawn: given the package's table as its initialiser lays it (the card ties that to the program's text): for every input the call returns true and leaves its arguments as they were. No condition but the form's own. -/
import Derived.Test.YtebfcckaicgcfaaDoorQ0
import Derived.Test.YtebfcckaicgcfaaDoorOpn
import Derived.Test.YtebfcckaicgcfaaDoorQ8
import Derived.Test.YtebfcckaicgcfaaDoorQ9
import Derived.Test.YtebfcckaicgcfaaDoorFAd
import Derived.Test.YtebfcckaicgcfaaDoorQ6
import Derived.Test.YtebfcckaicgcfaaDoorFSt
import Derived.Test.YtebfcckaicgcfaaDoorQ13
import Derived.Test.YtebfcckaicgcfaaDoorQ16
import Derived.Test.YtebfcckaicgcfaaDoorRows
import Derived.WalkKit
import Derived.ProofKit
import Derived.OpenShut
import Derived.ShutString
import Derived.ChangeOld
import Derived.Below
import Derived.SizedLaws
import Derived.Test.YtebfcckaicgcfaaDoorFLa
import Derived.Test.YtebfcckaicgcfaaDoorTie
import Derived.Test.YtebfcckaicgcfaaDoorCards
import Derived.SevenTiedAt

namespace Go.Proofs.YtebfcckaicgcfaaDoor.Q
open Go.RowKit Go.Proofs.YtebfcckaicgcfaaDoor.Opn Go.Proofs.YtebfcckaicgcfaaDoorW.PrintWords Go.Proofs.YtebfcckaicgcfaaDoorW.PrintLast
set_option maxRecDepth 100000
def B24 (x : S24) : Prop := (fun a_ : Int => (Lit.int .i64 a_).wf = true) x.f0 ∧ (fun a_ : Int => (Lit.int .i64 a_).wf = true) x.f1 ∧ (fun a_ : Int => (Lit.int .i64 a_).wf = true) x.f2 ∧ (fun a_ : Int => (Lit.int .i64 a_).wf = true) x.f3 ∧ (fun a_ : Int => (Lit.int .i64 a_).wf = true) x.f4 ∧ (fun a_ : Int => (Lit.int .i64 a_).wf = true) x.f5 ∧ (fun a_ : Int => (Lit.int .i64 a_).wf = true) x.f6 ∧ (fun a_ : Int => (Lit.int .i64 a_).wf = true) x.f7 ∧ (fun a_ : Int => (Lit.int .i64 a_).wf = true) x.f8
theorem opn24 : Opn Tryd.prog 24 k24 B24 := opn_iso (fun a => ⟨a.1, a.2.1, a.2.2.1, a.2.2.2.1, a.2.2.2.2.1, a.2.2.2.2.2.1, a.2.2.2.2.2.2.1, a.2.2.2.2.2.2.2.1, a.2.2.2.2.2.2.2.2⟩) (fun _ => rfl) (opn_struct (sz := 9) Tryd.underlying24 (by kernel_rfl) rfl (opnF_cons (sz := 1) rfl (by kernel_rfl) rfl (opn_int Tryd.underlying3) (opnF_cons (sz := 1) rfl (by kernel_rfl) rfl (opn_int Tryd.underlying3) (opnF_cons (sz := 1) rfl (by kernel_rfl) rfl (opn_int Tryd.underlying3) (opnF_cons (sz := 1) rfl (by kernel_rfl) rfl (opn_int Tryd.underlying3) (opnF_cons (sz := 1) rfl (by kernel_rfl) rfl (opn_int Tryd.underlying3) (opnF_cons (sz := 1) rfl (by kernel_rfl) rfl (opn_int Tryd.underlying3) (opnF_cons (sz := 1) rfl (by kernel_rfl) rfl (opn_int Tryd.underlying3) (opnF_cons (sz := 1) rfl (by kernel_rfl) rfl (opn_int Tryd.underlying3) (opnF_one (sz := 1) rfl (by kernel_rfl) rfl (opn_int Tryd.underlying3)))))))))))

end Go.Proofs.YtebfcckaicgcfaaDoor.Q

namespace Go.Proofs.YtebfcckaicgcfaaDoor.Q
open Go.RowKit Go.Proofs.YtebfcckaicgcfaaDoorW.PrintWords Go.Proofs.YtebfcckaicgcfaaDoorW.PrintLast Go.Proofs.YtebfcckaicgcfaaDoorW.PrintMore
set_option linter.unusedVariables false
set_option linter.unusedSimpArgs false

theorem rwithin (x lo hi : Int) : fastiref46_within.f x lo hi = some (wi x lo hi) := by
  unfold fastiref46_within.f wi
  by_cases h : lo ≤ x <;> simp [h]
theorem rmoment (x : Int) : fastiref46_Moment.f x = some (wi x 0 134217727) := by
  unfold fastiref46_Moment.f
  rw [rwithin]
  rfl
theorem ite_sf (p : Prop) [Decidable p] (b : Bool) : (if p then some b else some false) = some (decide p && b) := by by_cases h : p <;> simp [h]
theorem wi00 (x : Int) : wi x 0 0 = decide (x = 0) := by
  unfold wi
  by_cases h : x = 0
  · subst h; rfl
  · rw [decide_eq_false h]
    by_cases h2 : 0 ≤ x
    · rw [decide_eq_false (show ¬ x ≤ 0 by omega), Bool.and_false]
    · rw [decide_eq_false h2, Bool.false_and]
/-- What the reference asks of a fact's subject and numbers is what the table says. -/
theorem ref_parts (k : Nat) (r : S24) : (fastiref46_subject.f (k + 2) r.f0 r.f1 r.f2 r.f3 r.f4 r.f5 r.f6 r.f7 r.f8).bind (fun s => if s = true then (fastiref46_numbers.f r.f0 r.f1 r.f2 r.f3 r.f4 r.f5 r.f6 r.f7 r.f8).bind (fun b => some b) else some false) = some (wi r.f1 1 6 && vRow r (rowV r.f1)) := by
  obtain ⟨f0, f1, f2, f3, f4, f5, f6, f7, f8⟩ := r
  dsimp only
  have e0 : ∀ x : Int, (x == 0) = decide (x = 0) := fun x => by by_cases h : x = 0 <;> simp [h]
  by_cases h : 1 ≤ f1 ∧ f1 ≤ 6
  · have hk : f1 = 1 ∨ f1 = 2 ∨ f1 = 3 ∨ f1 = 4 ∨ f1 = 5 ∨ f1 = 6 := by omega
    rcases hk with rfl | rfl | rfl | rfl | rfl | rfl
    · have hv : rowV 1 = (0, 1023, 0, 0, 0, 99, 0, 99) := rfl
      simp only [hv, vRow, wi00, fastiref46_subject.f, fastiref46_subject.j0, fastiref46_subject.j1, fastiref46_numbers.f, rwithin, Option.bind_some, ite_sf, e0]
      by_cases h5 : f5 = -1 <;> simp [h5, e0, wi00, Bool.and_comm, Bool.and_left_comm, Bool.and_assoc, ite_sf, show wi 1 1 6 = true from rfl]
    · have hv : rowV 2 = (0, 0, 63, 73048, 1, 512, 0, 0) := rfl
      simp only [hv, vRow, wi00, fastiref46_subject.f, fastiref46_subject.j0, fastiref46_subject.j1, fastiref46_numbers.f, rwithin, Option.bind_some, ite_sf, e0]
      by_cases h5 : f5 = -1 <;> simp [h5, e0, wi00, Bool.and_comm, Bool.and_left_comm, Bool.and_assoc, ite_sf, show wi 2 1 6 = true from rfl]
    · have hv : rowV 3 = (63, 0, 0, 73048, 1, 512, 0, 0) := rfl
      simp only [hv, vRow, wi00, fastiref46_subject.f, fastiref46_subject.j0, fastiref46_subject.j1, fastiref46_numbers.f, rwithin, Option.bind_some, ite_sf, e0]
      by_cases h5 : f5 = -1 <;> simp [h5, e0, wi00, Bool.and_comm, Bool.and_left_comm, Bool.and_assoc, ite_sf, show wi 3 1 6 = true from rfl]
    · have hv : rowV 4 = (0, 0, 0, 73048, 1, 512, 0, 1440) := rfl
      simp only [hv, vRow, wi00, fastiref46_subject.f, fastiref46_subject.j0, fastiref46_subject.j1, fastiref46_numbers.f, rwithin, Option.bind_some, ite_sf, e0]
      by_cases h5 : f5 = -1 <;> simp [h5, e0, wi00, Bool.and_comm, Bool.and_left_comm, Bool.and_assoc, ite_sf, show wi 4 1 6 = true from rfl]
    · have hv : rowV 5 = (63, 0, 0, 73048, 0, 0, 0, 0) := rfl
      simp only [hv, vRow, wi00, fastiref46_subject.f, fastiref46_subject.j0, fastiref46_subject.j1, fastiref46_numbers.f, rwithin, Option.bind_some, ite_sf, e0]
      by_cases h5 : f5 = -1 <;> simp [h5, e0, wi00, Bool.and_comm, Bool.and_left_comm, Bool.and_assoc, ite_sf, show wi 5 1 6 = true from rfl]
    · have hv : rowV 6 = (0, 1023, 0, 0, 0, 73048, 0, 15) := rfl
      simp only [hv, vRow, wi00, fastiref46_subject.f, fastiref46_subject.j0, fastiref46_subject.j1, fastiref46_numbers.f, rwithin, Option.bind_some, ite_sf, e0]
      by_cases h5 : f5 = -1 <;> simp [h5, e0, wi00, Bool.and_comm, Bool.and_left_comm, Bool.and_assoc, ite_sf, show wi 6 1 6 = true from rfl]
  · have hw : wi f1 1 6 = false := by
      cases hc : wi f1 1 6 with
      | false => rfl
      | true => exact absurd (wi_iff.1 hc) h
    have h1 : ¬ f1 = 1 := by omega
    have h2 : ¬ f1 = 2 := by omega
    have h3 : ¬ f1 = 3 := by omega
    have h4 : ¬ f1 = 4 := by omega
    have h5 : ¬ f1 = 5 := by omega
    have h6 : ¬ f1 = 6 := by omega
    simp [hw, fastiref46_subject.f, fastiref46_subject.j0, fastiref46_subject.j1, h1, h2, h3, h4, h5, h6]
theorem ref_right (k : Nat) (r : S24) : fastiref46_Right.f (k + 2) r.f0 r.f1 r.f2 r.f3 r.f4 r.f5 r.f6 r.f7 r.f8 = some (fB r) := by
  unfold fastiref46_Right.f fB
  rw [rwithin, Option.bind_some]
  cases h1 : wi r.f0 0 1048576 with
  | false => simp
  | true =>
    rw [if_pos rfl, rmoment, Option.bind_some]
    cases h2 : wi r.f8 0 134217727 with
    | false => simp
    | true =>
      rw [if_pos rfl]
      have := ref_parts k r
      rw [Bool.true_and, Bool.true_and]
      exact this
theorem refchk_loop (l : List S24) (hn : l.length ≤ 4096) : ∀ (m i : Nat), i + m = l.length → ∀ k, m + 2 < k →
    fastiref46_Check.l0 k l (i : Int) = some (if (List.range' i m).all (goodAt l) then 0 else 460)
  | 0, i, h, k + 1, _ => by
    unfold fastiref46_Check.l0
    rw [if_neg (by omega)]
    simp
  | m + 1, i, h, k + 3, hk => by
    have hw : wrap64 ((i : Int) + 1) = ((i + 1 : Nat) : Int) := by rw [wr_in (by omega)]; omega
    unfold fastiref46_Check.l0
    rw [if_pos (by omega), if_pos (by omega), ref_right, Option.bind_some, List.range'_succ, List.all_cons]
    have ih := refchk_loop l hn m (i + 1) (by omega) (k + 2) (by omega)
    cases hv : fB (rd_T24 l (i : Int)) with
    | false =>
      rw [if_neg (by simp)]
      have hg : goodAt l i = false := by unfold goodAt; rw [hv]; rfl
      rw [hg]
      rfl
    | true =>
      rw [if_pos rfl]
      by_cases h0 : i = 0
      · subst h0
        have hg : goodAt l 0 = true := by unfold goodAt; rw [hv]; rfl
        rw [if_neg (by omega), hw, ih, hg]
        rfl
      · have hw1 : wrap64 ((i : Int) - 1) = ((i - 1 : Nat) : Int) := by rw [wr_in (by omega)]; omega
        rw [if_pos (by omega), hw1, if_pos (by omega), if_pos (by omega)]
        have hg : goodAt l i = decide ((rd_T24 l ((i - 1 : Nat) : Int)).f0 < (rd_T24 l (i : Int)).f0) := by unfold goodAt; rw [hv]; simp [h0]
        by_cases h1 : (rd_T24 l ((i - 1 : Nat) : Int)).f0 < (rd_T24 l (i : Int)).f0
        · rw [if_neg (by omega), hw, ih, hg, decide_eq_true h1]
          rfl
        · rw [if_pos (by omega), hg, decide_eq_false h1]
          rfl
theorem ref_chk (l : List S24) (k : Nat) (hk : l.length + 2 < k) : fastiref46_Check.f k l = some (chkV l) := by
  unfold fastiref46_Check.f chkV
  by_cases h : 4096 < l.length
  · rw [if_pos (by omega), if_pos h]
  · rw [if_neg (by omega), if_neg h]
    have := refchk_loop l (by omega) l.length 0 (by omega) k hk
    rw [← List.range_eq_range'] at this
    exact this
theorem chk_le {f : Nat → Option Int} (hm : ∀ k, LeO (f k) (f (k + 1))) {a b : Nat} (h : a ≤ b) {v : Int} (hv : f a = some v) : f b = some v := by
  induction h with
  | refl => exact hv
  | step _ ih => exact hm _ _ ih
theorem wchk (l : List S24) (k : Nat) (hk : l.length + 3 ≤ k) : facts_Check.f k l = some (chkV l) := chk_le (fun k => facts_Check.mono l k) hk (chk_eq l)


theorem posV_spec : ∀ (l : List S24) (x : Int), (∀ j, j < posV l x → noAt l j < x) ∧ (posV l x < l.length → x ≤ noAt l (posV l x))
  | [], x => ⟨fun j hj => by simp [posV] at hj, fun h => by simp at h⟩
  | a :: r, x => by
    by_cases h : a.f0 < x
    · have hp : posV (a :: r) x = posV r x + 1 := by unfold posV; rw [List.takeWhile_cons, if_pos (decide_eq_true h), List.length_cons]
      have ih := posV_spec r x
      have hc : ∀ j, noAt (a :: r) (j + 1) = noAt r j := fun j => by simp [noAt, rd_T24]
      rw [hp]
      refine ⟨fun j hj => ?_, fun hj => ?_⟩
      · cases j with
        | zero => rw [noAt_get _ _ (by simp)]; exact h
        | succ j => rw [hc]; exact ih.1 j (by omega)
      · rw [hc]
        exact ih.2 (by simpa using hj)
    · have hp : posV (a :: r) x = 0 := by unfold posV; rw [List.takeWhile_cons, if_neg (by simpa using h)]; rfl
      rw [hp]
      refine ⟨fun j hj => by omega, fun hj => ?_⟩
      rw [noAt_get _ _ (by simp)]
      show x ≤ a.f0
      omega

end Go.Proofs.YtebfcckaicgcfaaDoor.Q

namespace Go.Proofs.YtebfcckaicgcfaaDoor.Q
open Go.RowKit Go.Proofs.YtebfcckaicgcfaaDoorW.PrintWords Go.Proofs.YtebfcckaicgcfaaDoorW.PrintLast Go.Proofs.YtebfcckaicgcfaaDoorW.PrintMore
set_option linter.unusedVariables false
set_option linter.unusedSimpArgs false

theorem sane_20 : fastilaw46_sane.f 20 = some true := by kernel_rfl
theorem le_of {α : Type} {f : Nat → Option α} (hm : ∀ k, LeO (f k) (f (k + 1))) {a b : Nat} (h : a ≤ b) {v : α} (hv : f a = some v) : f b = some v := by
  induction h with
  | refl => exact hv
  | step _ ih => exact hm _ _ ih
theorem sane_k (k : Nat) (hk : 20 ≤ k) : fastilaw46_sane.f k = some true := le_of (fun k => fastilaw46_sane.mono k) hk sane_20
theorem same_loop (l : List S24) (hn : l.length ≤ 10000) : ∀ (m i : Nat), i + m = l.length → ∀ k, m < k → fastiref46_Same.l0 k l l (i : Int) = some true
  | 0, i, h, k + 1, _ => by
    rw [fastiref46_Same.l0, if_neg (by omega)]
  | m + 1, i, h, k + 1, hk => by
    have hw : wrap64 ((i : Int) + 1) = ((i + 1 : Nat) : Int) := by rw [wr_in (by omega)]; omega
    rw [fastiref46_Same.l0, if_pos (by omega), if_pos (by omega), if_pos (by omega), if_neg (by simp), hw]
    exact same_loop l hn m (i + 1) (by omega) k (by omega)
theorem same_refl (l : List S24) (hn : l.length ≤ 10000) (k : Nat) (hk : l.length < k) : fastiref46_Same.f k l l = some true := by
  unfold fastiref46_Same.f
  rw [if_pos rfl]
  exact same_loop l hn l.length 0 (by omega) k hk
theorem insAt_length' (l : List S24) (i : Nat) (r : S24) (h : i ≤ l.length) : (insAt l i r).length = l.length + 1 := insAt_length l i r h
theorem addV_length (l : List S24) (r : S24) : (addV l r).1.length ≤ l.length + 1 := by
  unfold addV
  split
  · split
    · split
      · simp
      · split
        · simp
        · rw [insAt_length _ _ _ (posV_le l r.f0)]
          omega
    · simp
  · simp
theorem few_eq (l : List S24) : ∃ b, fastiref46_Few.f l = some b ∧ (b = true → l.length ≤ 5000) := by
  unfold fastiref46_Few.f
  split
  · exact ⟨_, rfl, fun _ => by omega⟩
  · split
    · exact ⟨_, rfl, fun h => by have := of_decide_eq_true h; omega⟩
    · exact ⟨_, rfl, fun h => by cases h⟩
end Go.Proofs.YtebfcckaicgcfaaDoor.Q

namespace Go.Proofs.YtebfcckaicgcfaaDoor.Q
open Go.RowKit Go.Proofs.YtebfcckaicgcfaaDoorW.PrintWords Go.Proofs.YtebfcckaicgcfaaDoorW.PrintLast Go.Proofs.YtebfcckaicgcfaaDoorW.PrintMore
set_option linter.unusedVariables false
set_option linter.unusedSimpArgs false

abbrev Fct := S24
theorem rd_get (l : List Fct) (i : Nat) (hi : i < l.length) : rd_T24 l (i : Int) = l[i] := by simp [rd_T24, List.getD_eq_getElem?_getD, hi]
/-- A right list: few enough, of right facts, their numbers rising. -/
def RightL (l : List Fct) : Prop := l.length ≤ 4096 ∧ (∀ x ∈ l, fB x = true) ∧ l.Pairwise (fun a b => a.f0 < b.f0)
theorem right_of_chk {l : List Fct} (h : chkV l = 0) : RightL l := by
  refine ⟨(chk_ok h).1, chk_valid h, ?_⟩
  rw [List.pairwise_iff_getElem]
  intro i j hi hj hij
  have := sorted_ h i j hij hj
  rwa [noAt_get l i hi, noAt_get l j hj] at this
theorem chk_of_right {l : List Fct} (h : RightL l) : chkV l = 0 := by
  obtain ⟨h1, h2, h3⟩ := h
  unfold chkV
  rw [if_neg (by omega), if_pos]
  rw [List.all_eq_true]
  intro i hi
  have hi := List.mem_range.1 hi
  unfold goodAt
  rw [rd_get l i hi, h2 _ (List.getElem_mem hi), Bool.true_and]
  by_cases h0 : i = 0
  · simp [h0]
  · have h4 := (List.pairwise_iff_getElem.1 h3) (i - 1) i (by omega) hi (by omega)
    rw [rd_get l (i - 1) (by omega), decide_eq_true h4, Bool.or_true]
theorem RightL.sub {l l' : List Fct} (h : RightL l) (hs : l'.Sublist l) : RightL l' :=
  ⟨Nat.le_trans hs.length_le h.1, fun x hx => h.2.1 x (hs.subset hx), h.2.2.sublist hs⟩
theorem RightL.uniq {l : List Fct} (h : RightL l) {x y : Fct} (hx : x ∈ l) (hy : y ∈ l) (e : x.f0 = y.f0) : x = y := by
  obtain ⟨i, hi, rfl⟩ := List.getElem_of_mem hx
  obtain ⟨j, hj, rfl⟩ := List.getElem_of_mem hy
  have hp := List.pairwise_iff_getElem.1 h.2.2
  rcases Nat.lt_trichotomy i j with h1 | h1 | h1
  · have := hp i j hi hj h1; omega
  · subst h1; rfl
  · have := hp j i hj hi h1; omega

/-- Is y later than x? -/
def later (y x : Fct) : Bool := decide (x.f8 < y.f8) || (decide (x.f8 = y.f8) && decide (x.f0 < y.f0))
theorem later_iff {y x : Fct} : later y x = true ↔ x.f8 < y.f8 ∨ (x.f8 = y.f8 ∧ x.f0 < y.f0) := by simp [later]
theorem later_no {y x : Fct} : later y x = false ↔ ¬ (x.f8 < y.f8 ∨ (x.f8 = y.f8 ∧ x.f0 < y.f0)) := by rw [← later_iff]; simp
/-- Does x stand at t among l? -/
def standB (l : List Fct) (t : Int) (x : Fct) : Bool := decide (x.f8 ≤ t) && ((x.f5 != -1) && l.all (fun y => !(decide (y.f8 ≤ t) && (decide (subOf y = subOf x) && later y x))))
theorem standB_iff {l : List Fct} {t : Int} {x : Fct} : standB l t x = true ↔ x.f8 ≤ t ∧ x.f5 ≠ -1 ∧ ∀ y ∈ l, y.f8 ≤ t → subOf y = subOf x → later y x = false := by
  unfold standB
  rw [Bool.and_eq_true, Bool.and_eq_true, decide_eq_true_eq, bne_iff_ne, List.all_eq_true]
  refine and_congr Iff.rfl (and_congr Iff.rfl ?_)
  constructor
  · intro h y hy h1 h2
    have := h y hy
    simpa [h1, h2] using this
  · intro h y hy
    by_cases h1 : y.f8 ≤ t
    · by_cases h2 : subOf y = subOf x
      · simp [h1, h2, h y hy h1 h2]
      · simp [h2]
    · simp [h1]

theorem mget_mput (m : List (Sub × Fct)) (s : Sub) (v : Fct) (s' : Sub) : mget (mput m s v) s' = if s' = s then some v else mget m s' := by
  induction m with
  | nil =>
    unfold mput mget
    by_cases h : s' = s
    · simp [h]
    · have h' : ¬ s = s' := fun e => h e.symm
      simp [h, h']
  | cons p r ih =>
    unfold mput
    by_cases h : p.1 = s
    · rw [if_pos h]
      unfold mget
      by_cases h2 : s' = s
      · simp [h2]
      · have h' : ¬ s = s' := fun e => h2 e.symm
        have h3 : ¬ p.1 = s' := fun e => h2 (e.symm.trans h)
        simp [h2, h', h3]
    · rw [if_neg h]
      unfold mget at ih ⊢
      by_cases h2 : p.1 = s'
      · have h3 : ¬ s' = s := fun e => h (h2.trans e)
        simp [h2, h3]
      · rw [List.find?_cons_of_neg (by simpa using h2), List.find?_cons_of_neg (by simpa using h2)]
        exact ih
/-- z is the latest of D about s. -/
def IsL (D : List Fct) (s : Sub) (z : Fct) : Prop := z ∈ D ∧ subOf z = s ∧ ∀ y ∈ D, subOf y = s → later y z = false
def MInv (D : List Fct) (m : List (Sub × Fct)) : Prop := ∀ s, (∀ z, mget m s = some z → IsL D s z) ∧ (mget m s = none → ∀ y ∈ D, subOf y ≠ s)
theorem minv_step {D : List Fct} {m : List (Sub × Fct)} {y : Fct} (h : MInv D m) (hy : ∀ x ∈ D, x.f0 < y.f0) : MInv (D ++ [y]) (stepM m y) := by
  intro s
  by_cases hs : s = subOf y
  · subst hs
    have h0 := h (subOf y)
    have hnew : (∀ x ∈ D, subOf x = subOf y → x.f8 ≤ y.f8) → IsL (D ++ [y]) (subOf y) y := fun hle => by
      refine ⟨by simp, rfl, fun y' hy' e => ?_⟩
      rw [later_no]
      rcases List.mem_append.1 hy' with h1 | h1
      · have a := hle y' h1 e
        have b := hy y' h1
        omega
      · obtain rfl := List.mem_singleton.1 h1
        omega
    unfold stepM
    cases hg : mget m (subOf y) with
    | none =>
      have hno := h0.2 hg
      simp only [mget_mput, if_true]
      exact ⟨fun z hz => by cases hz; exact hnew (fun x hx e => absurd e (hno x hx)), fun hz => by cases hz⟩
    | some z =>
      obtain ⟨z1, z2, z3⟩ := h0.1 z hg
      by_cases hc : z.f8 ≤ y.f8
      · simp only [if_pos hc, mget_mput, if_true]
        refine ⟨fun z' hz => ?_, fun hz => by cases hz⟩
        cases hz
        refine hnew (fun x hx e => ?_)
        have := later_no.1 (z3 x hx e)
        omega
      · simp only [if_neg hc, hg]
        refine ⟨fun z' hz => ?_, fun hz => by cases hz⟩
        cases hz
        refine ⟨by simp [z1], z2, fun y' hy' e => ?_⟩
        rcases List.mem_append.1 hy' with h1 | h1
        · exact z3 y' h1 e
        · obtain rfl := List.mem_singleton.1 h1
          rw [later_no]
          omega
  · have hm : mget (stepM m y) s = mget m s := by
      unfold stepM
      split
      · rw [mget_mput, if_neg hs]
      · split
        · rw [mget_mput, if_neg hs]
        · rfl
    rw [hm]
    obtain ⟨a, b⟩ := h s
    refine ⟨fun z hz => ?_, fun hz y' hy' => ?_⟩
    · obtain ⟨z1, z2, z3⟩ := a z hz
      refine ⟨by simp [z1], z2, fun y' hy' e => ?_⟩
      rcases List.mem_append.1 hy' with h1 | h1
      · exact z3 y' h1 e
      · obtain rfl := List.mem_singleton.1 h1
        exact absurd e.symm hs
    · rcases List.mem_append.1 hy' with h1 | h1
      · exact b hz y' h1
      · obtain rfl := List.mem_singleton.1 h1
        exact fun e => hs e.symm
theorem minv_fold : ∀ (R D : List Fct) (m : List (Sub × Fct)), MInv D m → (D ++ R).Pairwise (fun a b => a.f0 < b.f0) → MInv (D ++ R) (R.foldl stepM m)
  | [], D, m, h, _ => by simpa using h
  | y :: R, D, m, h, hp => by
    have e : D ++ y :: R = (D ++ [y]) ++ R := by simp
    rw [e] at hp ⊢
    refine minv_fold R (D ++ [y]) (stepM m y) (minv_step h (fun x hx => ?_)) hp
    have := (List.pairwise_append.1 hp).1
    exact (List.pairwise_append.1 this).2.2 x hx y (by simp)
theorem mapL_inv {K : List Fct} (hp : K.Pairwise (fun a b => a.f0 < b.f0)) : MInv K (mapL K) := by
  have := minv_fold K [] [] (fun s => ⟨fun z hz => by simp [mget] at hz, fun _ y hy => by simp at hy⟩) (by simpa using hp)
  rw [List.nil_append] at this
  exact this
theorem fEq_iff {x y : Fct} : fEq x y = true ↔ x = y := by
  obtain ⟨a0, a1, a2, a3, a4, a5, a6, a7, a8⟩ := x
  obtain ⟨b0, b1, b2, b3, b4, b5, b6, b7, b8⟩ := y
  simp [fEq]
theorem standV_eq {l : List Fct} {t : Int} (h : chkV l = 0) (ht : wi t 0 134217727 = true) : standV l t = (l.filter (standB l t), 0) := by
  have hR := right_of_chk h
  unfold standV
  rw [if_pos h, if_pos ht]
  congr 1
  have hK : RightL (knownV t l) := hR.sub (List.filter_sublist ..)
  have hI := mapL_inv hK.2.2
  generalize hM : mapL (knownV t l) = M at hI
  unfold knownV
  rw [List.filter_filter]
  refine List.filter_congr fun x hx => ?_
  by_cases hxt : x.f8 ≤ t
  · rw [decide_eq_true hxt, Bool.and_true]
    have hxK : x ∈ knownV t l := List.mem_filter.2 ⟨hx, decide_eq_true hxt⟩
    cases hg : mget M (subOf x) with
    | none => exact absurd rfl ((hI (subOf x)).2 hg x hxK)
    | some z =>
      obtain ⟨z1, z2, z3⟩ := (hI (subOf x)).1 z hg
      rw [Bool.eq_iff_iff, standB_iff]
      unfold stB
      rw [hg, Option.getD_some, Bool.and_eq_true, fEq_iff, bne_iff_ne]
      constructor
      · rintro ⟨rfl, h5⟩
        exact ⟨hxt, h5, fun y hy h1 h2 => z3 y (List.mem_filter.2 ⟨hy, decide_eq_true h1⟩) h2⟩
      · rintro ⟨_, h5, hall⟩
        refine ⟨?_, h5⟩
        have hz := List.mem_filter.1 z1
        have a := later_no.1 (hall z hz.1 (of_decide_eq_true hz.2) z2)
        have b := later_no.1 (z3 x hxK rfl)
        exact hR.uniq hz.1 hx (by omega)
  · rw [decide_eq_false hxt, Bool.and_false]
    unfold standB
    rw [decide_eq_false hxt, Bool.false_and]
end Go.Proofs.YtebfcckaicgcfaaDoor.Q

namespace Go.Proofs.YtebfcckaicgcfaaDoor.Q
open Go.RowKit Go.Proofs.YtebfcckaicgcfaaDoorW.PrintWords Go.Proofs.YtebfcckaicgcfaaDoorW.PrintLast Go.Proofs.YtebfcckaicgcfaaDoorW.PrintMore
set_option linter.unusedVariables false
set_option linter.unusedSimpArgs false

theorem ref_about (a b : Fct) : fastiref46_About.f a.f0 a.f1 a.f2 a.f3 a.f4 a.f5 a.f6 a.f7 a.f8 b.f0 b.f1 b.f2 b.f3 b.f4 b.f5 b.f6 b.f7 b.f8 = some (decide (subOf a = subOf b)) := by
  unfold fastiref46_About.f subOf
  by_cases h1 : a.f1 = b.f1 <;> by_cases h2 : a.f2 = b.f2 <;> by_cases h3 : a.f3 = b.f3 <;> by_cases h4 : a.f4 = b.f4 <;> by_cases h5 : a.f7 = b.f7 <;> simp [h1, h2, h3, h4, h5]
theorem ref_later (a b : Fct) : fastiref46_Later.f a.f0 a.f1 a.f2 a.f3 a.f4 a.f5 a.f6 a.f7 a.f8 b.f0 b.f1 b.f2 b.f3 b.f4 b.f5 b.f6 b.f7 b.f8 = some (later a b) := by
  unfold fastiref46_Later.f later
  by_cases h : a.f8 > b.f8
  · have h' : b.f8 < a.f8 := h
    simp [h, h']
  · rw [if_neg h]
    have h' : ¬ b.f8 < a.f8 := h
    by_cases h2 : a.f8 = b.f8
    · simp [h', h2]
    · have h3 : ¬ b.f8 = a.f8 := fun e => h2 e.symm
      simp [h', h2, h3]
theorem stands_loop (l : List Fct) (x : Fct) (t : Int) (hn : l.length ≤ 4096) : ∀ (m i : Nat), i + m = l.length → ∀ k, m < k →
    fastiref46_stands.l0 k l t (i : Int) x.f0 x.f1 x.f2 x.f3 x.f4 x.f5 x.f6 x.f7 x.f8 = some ((l.drop i).all (fun y => !(decide (y.f8 ≤ t) && (decide (subOf y = subOf x) && later y x))))
  | 0, i, h, k + 1, _ => by
    rw [fastiref46_stands.l0, if_neg (by omega), List.drop_eq_nil_of_le (by omega)]
    rfl
  | m + 1, i, h, k + 1, hk => by
    have hw : wrap64 ((i : Int) + 1) = ((i + 1 : Nat) : Int) := by rw [wr_in (by omega)]; omega
    have ih := stands_loop l x t hn m (i + 1) (by omega) k (by omega)
    rw [fastiref46_stands.l0, if_pos (by omega), if_pos (by omega), hw, ih, ref_about, ref_later, rd_get l i (by omega), List.drop_eq_getElem_cons (show i < l.length by omega), List.all_cons]
    by_cases h1 : l[i].f8 ≤ t
    · rw [if_pos h1, Option.bind_some]
      by_cases h2 : subOf l[i] = subOf x
      · rw [if_pos (decide_eq_true h2), Option.bind_some]
        cases h3 : later l[i] x with
        | true => simp [h1, h2]
        | false => simp [h1, h2]
      · rw [if_neg (by simpa using h2)]
        simp [h2]
    · rw [if_neg h1]
      simp [h1]
theorem ref_stands (l : List Fct) (x : Fct) (t : Int) (hn : l.length ≤ 4096) (k : Nat) (hk : l.length + 2 ≤ k) : fastiref46_stands.f k l x.f0 x.f1 x.f2 x.f3 x.f4 x.f5 x.f6 x.f7 x.f8 t = some (standB l t x) := by
  obtain ⟨q, rfl⟩ : ∃ q, k = q + 1 := ⟨k - 1, by omega⟩
  have hL := stands_loop l x t hn l.length 0 (by omega) q (by omega)
  rw [List.drop_zero] at hL
  unfold fastiref46_stands.f standB
  by_cases h1 : x.f8 > t
  · rw [if_pos h1, fastiref46_stands.j0, if_pos rfl, decide_eq_false (show ¬ x.f8 ≤ t by omega)]
    rfl
  · rw [if_neg h1, fastiref46_stands.j0, decide_eq_true (show x.f8 ≤ t by omega)]
    by_cases h2 : x.f5 = -1
    · simp [h2]
    · rw [if_neg (by simpa using h2)]
      have h3 : (x.f5 != -1) = true := by simpa using h2
      rw [h3, Bool.true_and, Bool.true_and]
      exact hL
theorem standing_loop (l : List Fct) (t : Int) (hn : l.length ≤ 4096) : ∀ (m i : Nat) (acc : List Fct), i + m = l.length → acc.length ≤ i → ∀ k, m + l.length + 2 < k →
    fastiref46_Standing.l0 k l t acc (i : Int) = some (acc ++ (l.drop i).filter (standB l t), 0)
  | 0, i, acc, h, _, k + 1, _ => by
    rw [fastiref46_Standing.l0, if_neg (by omega), List.drop_eq_nil_of_le (by omega)]
    simp
  | m + 1, i, acc, h, ha, k + 1, hk => by
    have hw : wrap64 ((i : Int) + 1) = ((i + 1 : Nat) : Int) := by rw [wr_in (by omega)]; omega
    rw [fastiref46_Standing.l0, if_pos (by omega), if_pos (by omega), rd_get l i (by omega), ref_stands l _ t hn k (by omega), Option.bind_some, hw, List.drop_eq_getElem_cons (show i < l.length by omega)]
    cases hs : standB l t l[i] with
    | true =>
      rw [if_pos rfl, if_pos (by omega), standing_loop l t hn m (i + 1) _ (by omega) (by simp; omega) k (by omega), List.filter_cons_of_pos hs]
      simp
    | false =>
      rw [if_neg (by simp), standing_loop l t hn m (i + 1) acc (by omega) (by omega) k (by omega), List.filter_cons_of_neg (by simp [hs])]
theorem ref_standing (l : List Fct) (t : Int) (k : Nat) (hk : 2 * l.length + 5 ≤ k) : fastiref46_Standing.f k l t = some (standV l t) := by
  unfold fastiref46_Standing.f
  rw [ref_chk l k (by omega), Option.bind_some]
  by_cases h : chkV l = 0
  · rw [if_pos h, rmoment, Option.bind_some]
    cases ht : wi t 0 134217727 with
    | true =>
      rw [if_pos rfl, standV_eq h ht]
      have := standing_loop l t (chk_ok h).1 l.length 0 [] (by omega) (by simp) k (by omega)
      simpa using this
    | false =>
      unfold standV
      rw [if_pos h, ht]
      rfl
  · unfold standV
    rw [if_neg h, if_neg h]
theorem due_loop (l : List Fct) (no a : Int) (hn : l.length ≤ 4096) : ∀ (m i : Nat), i + m = l.length → (∀ j, j < i → noAt l j ≠ no) → ∀ k, m < k →
    fastiref46_Due.l0 k no a l (i : Int) = some (match l.findIdx? (fun r => decide (r.f0 = no)) with
    | some k => (l.set k ⟨(rd_T24 l k).f0, (rd_T24 l k).f1, (rd_T24 l k).f2, (rd_T24 l k).f3, (rd_T24 l k).f4, (rd_T24 l k).f5, (rd_T24 l k).f6, (rd_T24 l k).f7, a⟩, 0)
    | none => ([], 460))
  | 0, i, h, h0, k + 1, _ => by
    obtain rfl : i = l.length := by omega
    rw [fastiref46_Due.l0, if_neg (by omega), idx_none h0]
  | m + 1, i, h, h0, k + 1, hk => by
    have hw : wrap64 ((i : Int) + 1) = ((i + 1 : Nat) : Int) := by rw [wr_in (by omega)]; omega
    rw [fastiref46_Due.l0, if_pos (by omega), if_pos (by omega)]
    by_cases h1 : (rd_T24 l (i : Int)).f0 = no
    · rw [if_pos h1, idx_some (show i < l.length by omega) h0 h1]
      simp
    · rw [if_neg h1, hw]
      refine due_loop l no a hn m (i + 1) (by omega) (fun j hj => ?_) k (by omega)
      rcases Nat.lt_succ_iff_lt_or_eq.1 hj with h2 | rfl
      · exact h0 j h2
      · exact h1
theorem ref_due (l : List Fct) (no a : Int) (k : Nat) (hk : l.length + 5 ≤ k) : fastiref46_Due.f k l no a = some (dueV l no a) := by
  unfold fastiref46_Due.f dueV
  rw [ref_chk l k (by omega), Option.bind_some]
  by_cases h : chkV l = 0
  · have hn := (chk_ok h).1
    rw [if_pos h, if_pos h, rmoment, Option.bind_some]
    cases ht : wi a 0 134217727 with
    | true =>
      rw [if_pos rfl, if_pos rfl, Option.bind_some, if_pos (by simp; omega), List.nil_append]
      exact due_loop l no a hn l.length 0 (by omega) (fun j hj => by omega) k (by omega)
    | false => rfl
  · rw [if_neg h, if_neg h]
theorem standV_length (l : List Fct) (t : Int) : (standV l t).1.length ≤ l.length := by
  unfold standV
  split
  · split
    · unfold knownV
      rw [List.filter_filter]
      exact List.length_filter_le _ _
    · simp
  · simp
theorem dueV_length (l : List Fct) (no a : Int) : (dueV l no a).1.length ≤ l.length := by
  unfold dueV
  split
  · split
    · split
      · simp
      · simp
    · simp
  · simp
end Go.Proofs.YtebfcckaicgcfaaDoor.Q

namespace Go.Proofs.YtebfcckaicgcfaaDoor.Q
open Go.RowKit Go.Proofs.YtebfcckaicgcfaaDoorW.PrintWords Go.Proofs.YtebfcckaicgcfaaDoorW.PrintLast Go.Proofs.YtebfcckaicgcfaaDoorW.PrintMore
set_option linter.unusedVariables false
set_option linter.unusedSimpArgs false

theorem right_eq (l : List Fct) (k : Nat) (hk : l.length + 3 ≤ k) : fastilaw46_right.f k l = some (decide (l.length ≤ 300) && decide (chkV l = 0)) := by
  unfold fastilaw46_right.f
  by_cases h : l.length ≤ 300
  · rw [if_pos (by omega), ref_chk l k (by omega), Option.bind_some, decide_eq_true h, Bool.true_and]
    by_cases h2 : chkV l = 0 <;> simp [h2]
  · rw [if_neg (by omega), decide_eq_false h, Bool.false_and]
theorem early_known {l : List Fct} {t : Int} (h : chkV l = 0) (ht : wi t 0 134217727 = true) : standV (knownV t l) t = standV l t := by
  have hR := right_of_chk h
  have hK : chkV (knownV t l) = 0 := chk_of_right (hR.sub (List.filter_sublist ..))
  rw [standV_eq h ht, standV_eq hK ht]
  congr 1
  unfold knownV
  rw [List.filter_filter]
  refine List.filter_congr fun x hx => ?_
  rw [Bool.eq_iff_iff, Bool.and_eq_true, standB_iff, standB_iff, decide_eq_true_eq]
  constructor
  · rintro ⟨⟨a, b, c⟩, _⟩
    exact ⟨a, b, fun y hy h1 h2 => c y (List.mem_filter.2 ⟨hy, decide_eq_true h1⟩) h1 h2⟩
  · rintro ⟨a, b, c⟩
    exact ⟨⟨a, b, fun y hy h1 h2 => c y (List.mem_filter.1 hy).1 h1 h2⟩, a⟩
/-- The which-th of the facts. -/
theorem which_eq (a : Int) (n : Nat) (hn : 0 < n) (ha : (Lit.int .u16 a).wf = true) : ∃ p : Nat, p < n ∧ Int.tmod (wrap64 a) (n : Int) = (p : Int) := by
  have hb : 0 ≤ a ∧ a < 65536 := by
    have h1 : IntKind.u16.min ≤ a ∧ a ≤ IntKind.u16.max := by simpa [Lit.wf] using ha
    have m0 : IntKind.u16.min = 0 := by decide
    have m1 : IntKind.u16.max = 65535 := by decide
    omega
  rw [wr_in (by omega), Int.tmod_eq_emod_of_nonneg hb.1]
  have h1 := Int.emod_nonneg a (show (n : Int) ≠ 0 by omega)
  have h2 := Int.emod_lt_of_pos a (show (0 : Int) < n by omega)
  exact ⟨(a % (n : Int)).toNat, by omega, by omega⟩

def atT (x : Fct) (a : Int) : Fct := ⟨x.f0, x.f1, x.f2, x.f3, x.f4, x.f5, x.f6, x.f7, a⟩
theorem fB_at {x : Fct} {a : Int} (h : fB x = true) (ha : wi a 0 134217727 = true) : fB (atT x a) = true := by
  unfold fB at h ⊢
  unfold atT
  simp only [Bool.and_eq_true] at h ⊢
  exact ⟨h.1, h.2.1, ha, h.2.2.2⟩
theorem right_set {l : List Fct} (h : RightL l) (p : Nat) (hp : p < l.length) (a : Int) (ha : wi a 0 134217727 = true) : RightL (l.set p (atT l[p] a)) := by
  refine ⟨by rw [List.length_set]; exact h.1, fun x hx => ?_, ?_⟩
  · rcases List.mem_or_eq_of_mem_set hx with h1 | h1
    · exact h.2.1 x h1
    · subst h1
      exact fB_at (h.2.1 _ (List.getElem_mem hp)) ha
  · rw [List.pairwise_iff_getElem]
    intro i j hi hj hij
    have hp' := List.pairwise_iff_getElem.1 h.2.2 i j (by simpa using hi) (by simpa using hj) hij
    have e : ∀ q (hq : q < (l.set p (atT l[p] a)).length), (l.set p (atT l[p] a))[q].f0 = (l[q]'(by simpa using hq)).f0 := fun q hq => by
      rw [List.getElem_set]
      split
      · rename_i e
        subst e
        rfl
      · rfl
    rw [e i hi, e j hj]
    exact hp'
theorem due_at {l : List Fct} (h : RightL l) (p : Nat) (hp : p < l.length) (a : Int) (ha : wi a 0 134217727 = true) : dueV l l[p].f0 a = (l.set p (atT l[p] a), 0) := by
  have hp' := List.pairwise_iff_getElem.1 h.2.2
  have hi : l.findIdx? (fun r => decide (r.f0 = l[p].f0)) = some p := idx_some hp (fun j hj => by
    rw [noAt_get l j (by omega)]
    have := hp' j p (by omega) hp hj
    omega) (noAt_get l p hp)
  unfold dueV
  rw [if_pos (chk_of_right h), if_pos ha, hi]
  simp only [rd_get l p hp]
  rfl
theorem known_set {l : List Fct} {t : Int} (p : Nat) (hp : p < l.length) (v : Fct) (h1 : t < l[p].f8) (h2 : t < v.f8) : knownV t (l.set p v) = knownV t l := by
  have e1 : l = l.take p ++ (l[p] :: l.drop (p + 1)) := by rw [← List.drop_eq_getElem_cons hp, List.take_append_drop]
  have e2 : l.set p v = l.take p ++ (v :: l.drop (p + 1)) := by rw [List.set_eq_take_append_cons_drop, if_pos hp]
  unfold knownV
  rw [e2]
  conv => rhs; rw [e1]
  rw [List.filter_append, List.filter_append, List.filter_cons, List.filter_cons, if_neg (by simp; omega), if_neg (by simp; omega)]
theorem mem_insAt (l : List Fct) (i : Nat) (x r : Fct) : r ∈ insAt l i x ↔ r ∈ l ∨ r = x := by
  unfold insAt
  have e : r ∈ l ↔ r ∈ l.take i ∨ r ∈ l.drop i := by rw [← List.mem_append, List.take_append_drop]
  rw [e]
  simp only [List.mem_append, List.mem_cons, List.not_mem_nil, or_false]
  constructor
  · rintro (h | h | h)
    · exact .inl (.inl h)
    · exact .inr h
    · exact .inl (.inr h)
  · rintro ((h | h) | h)
    · exact .inl h
    · exact .inr (.inr h)
    · exact .inr (.inl h)
theorem ins_right {y : List Fct} (hy : RightL y) {x : Fct} (hx : fB x = true) (hl : y.length < 4096) (hno : ∀ r ∈ y, r.f0 ≠ x.f0) : RightL (insAt y (posV y x.f0) x) := by
  have hs := posV_spec y x.f0
  have hle := posV_le y x.f0
  have hp := List.pairwise_iff_getElem.1 hy.2.2
  refine ⟨by rw [insAt_length _ _ _ hle]; omega, fun r hr => ?_, ?_⟩
  · rcases (mem_insAt y _ x r).1 hr with h | h
    · exact hy.2.1 r h
    · rw [h]; exact hx
  · have h1 : ∀ r ∈ y.take (posV y x.f0), r.f0 < x.f0 := fun r hr => by
      obtain ⟨j, hj, rfl⟩ := List.getElem_of_mem hr
      rw [List.length_take] at hj
      rw [List.getElem_take]
      have := hs.1 j (by omega)
      rwa [noAt_get y j (by omega)] at this
    have h2 : ∀ r ∈ y.drop (posV y x.f0), x.f0 < r.f0 := fun r hr => by
      have hne := hno r (List.mem_of_mem_drop hr)
      obtain ⟨j, hj, rfl⟩ := List.getElem_of_mem hr
      rw [List.length_drop] at hj
      rw [List.getElem_drop] at hne ⊢
      have h3 := hs.2 (by omega)
      rw [noAt_get y _ (by omega)] at h3
      rcases Nat.eq_zero_or_pos j with h4 | h4
      · subst h4
        simp only [Nat.add_zero] at hne ⊢
        omega
      · have := hp (posV y x.f0) (posV y x.f0 + j) (by omega) (by omega) (by omega)
        omega
    have e : y.Pairwise (fun a b => a.f0 < b.f0) := hy.2.2
    rw [← List.take_append_drop (posV y x.f0) y] at e
    obtain ⟨e1, e2, e3⟩ := List.pairwise_append.1 e
    unfold insAt
    refine List.pairwise_append.2 ⟨e1, List.pairwise_cons.2 ⟨fun r hr => h2 r hr, e2⟩, fun a ha b hb => ?_⟩
    rcases List.mem_cons.1 hb with rfl | hb
    · exact h1 a ha
    · exact e3 a ha b hb
theorem twice_no {y : List Fct} {x : Int} (hno : ∀ r ∈ y, r.f0 ≠ x) : twiceB y x = false := by
  unfold twiceB
  by_cases h : posV y x < y.length
  · rw [decide_eq_true h, Bool.true_and, noAt_get y _ h]
    exact decide_eq_false (hno _ (List.getElem_mem h))
  · rw [decide_eq_false h, Bool.false_and]
theorem twice_yes {y : List Fct} (hy : RightL y) {x : Fct} (hx : x ∈ y) : twiceB y x.f0 = true := by
  obtain ⟨i, hi, rfl⟩ := List.getElem_of_mem hx
  have hs := posV_spec y y[i].f0
  have hp := List.pairwise_iff_getElem.1 hy.2.2
  have hle : posV y y[i].f0 ≤ i := by
    rcases Nat.lt_or_ge i (posV y y[i].f0) with h | h
    · have := hs.1 i h
      rw [noAt_get y i hi] at this
      omega
    · exact h
  have hlt : posV y y[i].f0 < y.length := by omega
  have h3 := hs.2 hlt
  rw [noAt_get y _ hlt] at h3
  have e : posV y y[i].f0 = i := by
    rcases Nat.eq_or_lt_of_le hle with h | h
    · exact h
    · have := hp _ i hlt hi h
      omega
  unfold twiceB
  rw [decide_eq_true hlt, Bool.true_and, noAt_get y _ hlt]
  simp only [e, decide_true]
theorem add_new {y : List Fct} (hy : RightL y) {x : Fct} (hx : fB x = true) (hl : y.length < 4096) (hno : ∀ r ∈ y, r.f0 ≠ x.f0) : addV y x = (insAt y (posV y x.f0) x, 0) := by
  unfold addV
  rw [if_pos (chk_of_right hy), if_pos hx, twice_no hno, if_neg (by simp), if_neg (by omega)]
theorem add_old {y : List Fct} (hy : RightL y) {x : Fct} (hx : x ∈ y) : addV y x = ([], 171) := by
  unfold addV
  rw [if_pos (chk_of_right hy), if_pos (hy.2.1 x hx), twice_yes hy hx, if_pos rfl]

end Go.Proofs.YtebfcckaicgcfaaDoor.Q

namespace Go.Proofs.YtebfcckaicgcfaaDoor.Q
open Go.RowKit Go.Proofs.YtebfcckaicgcfaaDoorW.PrintWords Go.Proofs.YtebfcckaicgcfaaDoorW.PrintLast
def fastilaw46_FactsWithdrawn.Pure : Prop := ∀ (l0 : List (S24)) (a1 : Int) (a2 : Int), (fun l_ : List (S24) => l_.length * 72 ≤ 140737488351232 ∧ ∀ a, a ∈ l_ → B24 a) l0 → (fun a_ : Int => (Lit.int .u16 a_).wf = true) a1 → (fun a_ : Int => (Lit.int .i64 a_).wf = true) a2 → ∃ k, fastilaw46_FactsWithdrawn.f k l0 a1 a2 = some true
end Go.Proofs.YtebfcckaicgcfaaDoor.Q

namespace Go.Proofs.YtebfcckaicgcfaaDoor.Q
open Go.RowKit Go.Proofs.YtebfcckaicgcfaaDoorW.PrintWords Go.Proofs.YtebfcckaicgcfaaDoorW.PrintLast Go.Proofs.YtebfcckaicgcfaaDoorW.PrintMore
set_option linter.unusedVariables false
set_option linter.unusedSimpArgs false

theorem add_last {l : List Fct} (hl : RightL l) {g : Fct} (hg : fB g = true) (hn : l.length < 4096) (hno : ∀ r ∈ l, r.f0 < g.f0) : addV l g = (l ++ [g], 0) ∧ RightL (l ++ [g]) := by
  have hne : ∀ r ∈ l, r.f0 ≠ g.f0 := fun r hr => by have := hno r hr; omega
  have hp : posV l g.f0 = l.length := posV_eq l g.f0 l.length (Nat.le_refl _) (fun j hj => by rw [noAt_get l j hj]; exact hno _ (List.getElem_mem hj)) (fun h => by omega)
  have e : insAt l (posV l g.f0) g = l ++ [g] := by
    unfold insAt
    rw [hp, List.take_length, List.drop_length]
  have h1 := add_new hl hg hn hne
  have h2 := ins_right hl hg hn hne
  rw [e] at h1 h2
  exact ⟨h1, h2⟩
def gone (x : Fct) (n t : Int) : Fct := ⟨n + 1, x.f1, x.f2, x.f3, x.f4, -1, 0, x.f7, t⟩
def back (x : Fct) (n t : Int) : Fct := ⟨n + 2, x.f1, x.f2, x.f3, x.f4, x.f5, x.f6, x.f7, t + 1⟩
theorem fB_gone {x : Fct} {n t : Int} (h : fB x = true) (hn : wi (n + 1) 0 1048576 = true) (ht : wi t 0 134217727 = true) : fB (gone x n t) = true := by
  unfold fB at h ⊢
  unfold gone vRow at *
  simp only [Bool.and_eq_true] at h ⊢
  exact ⟨h.1, hn, ht, h.2.2.2.1, h.2.2.2.2.1, h.2.2.2.2.2.1, h.2.2.2.2.2.2.1, by simp⟩
theorem fB_back {x : Fct} {n t : Int} (h : fB x = true) (hn : wi (n + 2) 0 1048576 = true) (ht : wi (t + 1) 0 134217727 = true) : fB (back x n t) = true := by
  unfold fB at h ⊢
  unfold back vRow at *
  simp only [Bool.and_eq_true] at h ⊢
  exact ⟨h.1, hn, ht, h.2.2.2⟩
/-- Is it about something else? -/
def elseB (x s : Fct) : Bool := !decide (subOf s = subOf x)
theorem stand_y {l : List Fct} {x : Fct} {n t : Int} (hk : ∀ r ∈ l, r.f8 ≤ t) (hno : ∀ r ∈ l, r.f0 < n + 1) :
    (l ++ [gone x n t]).filter (standB (l ++ [gone x n t]) t) = (l.filter (standB l t)).filter (elseB x) := by
  rw [List.filter_append, List.filter_filter]
  have hg : standB (l ++ [gone x n t]) t (gone x n t) = false := by
    unfold standB gone
    simp
  rw [List.filter_cons, hg, if_neg (by simp), List.filter_nil, List.append_nil]
  refine List.filter_congr fun s hs => ?_
  rw [Bool.eq_iff_iff, Bool.and_eq_true, standB_iff, standB_iff]
  unfold elseB
  have a := hk s hs
  have b := hno s hs
  constructor
  · rintro ⟨h1, h2, h3⟩
    refine ⟨?_, h1, h2, fun y hy => h3 y (by simp [hy])⟩
    cases hd : decide (subOf s = subOf x) with
    | false => rfl
    | true =>
      have h4 := h3 (gone x n t) (by simp) (show t ≤ t by omega) (show subOf x = subOf s from (of_decide_eq_true hd).symm)
      rw [later_no] at h4
      exact absurd (show s.f8 < t ∨ (s.f8 = t ∧ s.f0 < n + 1) by omega) h4
  · rintro ⟨h0, h1, h2, h3⟩
    refine ⟨h1, h2, fun y hy h4 h5 => ?_⟩
    rcases List.mem_append.1 hy with h | h
    · exact h3 y h h4 h5
    · obtain rfl := List.mem_singleton.1 h
      have h6 : subOf s = subOf x := h5.symm
      rw [decide_eq_true h6] at h0
      cases h0
theorem stand_z {l : List Fct} {x : Fct} {n t : Int} (hk : ∀ r ∈ l, r.f8 ≤ t) (hno : ∀ r ∈ l, r.f0 < n + 1) :
    ((l ++ [gone x n t]) ++ [back x n t]).filter (standB ((l ++ [gone x n t]) ++ [back x n t]) (t + 1)) = (l.filter (standB l t)).filter (elseB x) ++ (if x.f5 = -1 then [] else [back x n t]) := by
  rw [List.filter_append, List.filter_append, List.filter_filter]
  have hg : standB ((l ++ [gone x n t]) ++ [back x n t]) (t + 1) (gone x n t) = false := by
    unfold standB gone
    simp
  have hb : standB ((l ++ [gone x n t]) ++ [back x n t]) (t + 1) (back x n t) = !decide (x.f5 = -1) := by
    rw [Bool.eq_iff_iff, standB_iff]
    constructor
    · rintro ⟨_, h, _⟩
      have h' : ¬ x.f5 = -1 := h
      simp [h']
    · intro h
      have h' : ¬ x.f5 = -1 := by simpa using h
      refine ⟨show t + 1 ≤ t + 1 by omega, h', fun y hy _ _ => ?_⟩
      rw [later_no]
      show ¬ (t + 1 < y.f8 ∨ (t + 1 = y.f8 ∧ n + 2 < y.f0))
      rcases List.mem_append.1 hy with h | h
      · rcases List.mem_append.1 h with h | h
        · have := hk y h; omega
        · obtain rfl := List.mem_singleton.1 h
          show ¬ (t + 1 < t ∨ (t + 1 = t ∧ _))
          omega
      · obtain rfl := List.mem_singleton.1 h
        show ¬ (t + 1 < t + 1 ∨ (t + 1 = t + 1 ∧ n + 2 < n + 2))
        omega
  rw [List.filter_cons, hg, if_neg (by simp), List.filter_nil, List.append_nil, List.filter_cons, hb, List.filter_nil]
  congr 1
  · refine List.filter_congr fun s hs => ?_
    rw [Bool.eq_iff_iff, Bool.and_eq_true, standB_iff, standB_iff]
    unfold elseB
    have a := hk s hs
    have b := hno s hs
    constructor
    · rintro ⟨h1, h2, h3⟩
      refine ⟨?_, a, h2, fun y hy h4 => h3 y (by simp [hy]) (by omega)⟩
      cases hd : decide (subOf s = subOf x) with
      | false => rfl
      | true =>
        have h4 := h3 (gone x n t) (by simp) (show t ≤ t + 1 by omega) (show subOf x = subOf s from (of_decide_eq_true hd).symm)
        rw [later_no] at h4
        exact absurd (show s.f8 < t ∨ (s.f8 = t ∧ s.f0 < n + 1) by omega) h4
    · rintro ⟨h0, h1, h2, h3⟩
      refine ⟨by omega, h2, fun y hy h4 h5 => ?_⟩
      have hno6 : ¬ subOf s = subOf x := fun h6 => by rw [decide_eq_true h6] at h0; cases h0
      rcases List.mem_append.1 hy with h | h
      · rcases List.mem_append.1 h with h | h
        · exact h3 y h (hk y h) h5
        · obtain rfl := List.mem_singleton.1 h
          exact absurd (show subOf x = subOf s from h5).symm hno6
      · obtain rfl := List.mem_singleton.1 h
        exact absurd (show subOf x = subOf s from h5).symm hno6
  · by_cases h : x.f5 = -1 <;> simp [h]

theorem wd_known (l : List Fct) (a1 t : Int) (hn : l.length ≤ 300) (R : Option Bool) (hyes : ∀ k, fastilaw46_FactsWithdrawn.l0 (k + 1) l a1 t l (l.length : Int) (l.length : Int) = R → R = R) : True := trivial
theorem wd_loop (l : List Fct) (a1 t : Int) (hn : l.length ≤ 300) : ∀ (m i : Nat), i + m = l.length → ∀ k, m < k →
    ((∀ r ∈ l.drop i, r.f8 ≤ t) → ∀ q, k ≤ q + m + 1 → fastilaw46_FactsWithdrawn.l0 (q + 1) l a1 t l (l.length : Int) (l.length : Int) = some true) → fastilaw46_FactsWithdrawn.l0 k l a1 t l (l.length : Int) (i : Int) = some true
  | 0, i, h, k + 1, _, hR => by
    obtain rfl : i = l.length := by omega
    exact hR (fun r hr => by simp at hr) k (by omega)
  | m + 1, i, h, k + 1, hk, hR => by
    have hw : wrap64 ((i : Int) + 1) = ((i + 1 : Nat) : Int) := by rw [wr_in (by omega)]; omega
    have hd := List.drop_eq_getElem_cons (show i < l.length by omega)
    rw [fastilaw46_FactsWithdrawn.l0, if_pos (by omega), if_pos (by omega), if_pos (by omega), rd_get l i (by omega), hw]
    by_cases h1 : l[i].f8 > t
    · rw [if_pos h1]
    · rw [if_neg h1]
      refine wd_loop l a1 t hn m (i + 1) (by omega) k (by omega) (fun hall q hq => hR (fun r hr => ?_) q (by omega))
      rw [hd] at hr
      rcases List.mem_cons.1 hr with h2 | h2
      · rw [h2]; omega
      · exact hall r h2
theorem about_ne (s x : Fct) : (!(s.f1 == x.f1) || (!(s.f2 == x.f2) || (!(s.f3 == x.f3) || (!(s.f4 == x.f4) || (!(s.f7 == x.f7)))))) = elseB x s := by
  unfold elseB subOf
  by_cases h1 : s.f1 = x.f1 <;> by_cases h2 : s.f2 = x.f2 <;> by_cases h3 : s.f3 = x.f3 <;> by_cases h4 : s.f4 = x.f4 <;> by_cases h5 : s.f7 = x.f7 <;> simp [h1, h2, h3, h4, h5]
theorem rest_loop (x bk : Fct) (b c a : List Fct) (ha : a.length ≤ 300) (hb : b = a.filter (elseB x)) (hc : c = a.filter (elseB x) ++ (if x.f5 = -1 then [] else [bk])) : ∀ (m i : Nat) (acc : List Fct), i + m = a.length → acc.length ≤ i → acc ++ (a.drop i).filter (elseB x) = a.filter (elseB x) → ∀ k, m + 400 < k →
    fastilaw46_FactsWithdrawn.l1 k b c acc a (a.length : Int) (i : Int) x.f0 x.f1 x.f2 x.f3 x.f4 x.f5 x.f6 x.f7 x.f8 bk.f0 bk.f1 bk.f2 bk.f3 bk.f4 bk.f5 bk.f6 bk.f7 bk.f8 = some true
  | 0, i, acc, h, hl, he, k + 1, hk => by
    obtain rfl : i = a.length := by omega
    rw [List.drop_length, List.filter_nil, List.append_nil] at he
    have hlf : (a.filter (elseB x)).length ≤ a.length := List.length_filter_le _ _
    rw [fastilaw46_FactsWithdrawn.l1, if_neg (by omega), hb, he, same_refl _ (by omega) _ (by omega), Option.bind_some, if_pos rfl, hc]
    by_cases h5 : x.f5 = -1
    · rw [if_pos h5, if_pos h5, List.append_nil, same_refl _ (by omega) _ (by omega)]
      rfl
    · rw [if_neg h5, if_neg h5, if_pos (by omega)]
      have e : (⟨bk.f0, bk.f1, bk.f2, bk.f3, bk.f4, bk.f5, bk.f6, bk.f7, bk.f8⟩ : Fct) = bk := rfl
      rw [e, same_refl (a.filter (elseB x) ++ [bk]) (by simp; omega) _ (by simp; omega)]
      rfl
  | m + 1, i, acc, h, hl, he, k + 1, hk => by
    have hw : wrap64 ((i : Int) + 1) = ((i + 1 : Nat) : Int) := by rw [wr_in (by omega)]; omega
    rw [List.drop_eq_getElem_cons (show i < a.length by omega), List.filter_cons] at he
    rw [fastilaw46_FactsWithdrawn.l1, if_pos (by omega), if_pos (by omega), if_pos (by omega), rd_get a i (by omega), hw]
    simp only [fastilaw46_about.f, Option.bind_some]
    rw [about_ne a[i] x]
    cases hs : elseB x a[i] with
    | true =>
      rw [hs, if_pos rfl] at he
      rw [if_pos rfl, if_pos (by omega)]
      exact rest_loop x bk b c a ha hb hc m (i + 1) _ (by omega) (by simp; omega) (by rw [List.append_assoc]; exact he) k (by omega)
    | false =>
      rw [hs, if_neg (by simp)] at he
      rw [if_neg (by simp)]
      exact rest_loop x bk b c a ha hb hc m (i + 1) acc (by omega) (by omega) he k (by omega)

theorem fastilaw46_FactsWithdrawn.pure : fastilaw46_FactsWithdrawn.Pure := by
  intro l a1 t _ hw ht64
  refine ⟨2000, ?_⟩
  have hj : fastilaw46_FactsWithdrawn.j0 2000 l a1 t true = some true := by rw [fastilaw46_FactsWithdrawn.j0, if_pos rfl]
  unfold fastilaw46_FactsWithdrawn.f
  have ht : -9223372036854775808 ≤ t ∧ t ≤ 9223372036854775807 := by
    have h1 : IntKind.i64.min ≤ t ∧ t ≤ IntKind.i64.max := by simpa [Lit.wf] using ht64
    have m0 : IntKind.i64.min = -9223372036854775808 := by decide
    have m1 : IntKind.i64.max = 9223372036854775807 := by decide
    omega
  rw [sane_k _ (by omega), Option.bind_some, if_pos rfl]
  by_cases hn : l.length ≤ 300
  · rw [right_eq l _ (by omega), Option.bind_some]
    by_cases hc : chkV l = 0
    · rw [decide_eq_true hn, decide_eq_true hc, if_pos (by rfl)]
      by_cases h0 : l.length = 0
      · rw [if_pos (by omega)]; exact hj
      · rw [if_neg (by omega), rmoment, Option.bind_some]
        cases hm : wi (wrap64 (t + 1)) 0 134217727 with
        | false => exact hj
        | true =>
          have hmm := wi_iff.1 hm
          have hwt : wrap64 (t + 1) = t + 1 := by
            rcases Int.lt_or_le t 9223372036854775807 with h | h
            · exact wr_in (by omega)
            · exfalso
              have : t = 9223372036854775807 := by omega
              subst this
              have : wrap64 (9223372036854775807 + 1) = -9223372036854775808 := by unfold wrap64; omega
              omega
          rw [hwt] at hm hmm
          have hwl : wrap64 ((l.length : Int) - 1) = ((l.length - 1 : Nat) : Int) := by rw [wr_in (by omega)]; omega
          rw [if_pos rfl, hwl, if_pos (by omega), if_pos (by omega), rd_get l (l.length - 1) (by omega)]
          by_cases hN : l[l.length - 1].f0 > 1048574
          · rw [decide_eq_true hN]; exact hj
          · rw [decide_eq_false hN, fastilaw46_FactsWithdrawn.j0, if_neg (by simp)]
            refine wd_loop l a1 t hn l.length 0 (by omega) 1999 (by omega) (fun hall q hq => ?_)
            rw [List.drop_zero] at hall
            have hR := right_of_chk hc
            obtain ⟨p, hp, hpe⟩ := which_eq a1 l.length (by omega) hw
            have hx := hR.2.1 _ (List.getElem_mem hp)
            have hlast := hR.2.1 _ (List.getElem_mem (show l.length - 1 < l.length by omega))
            have hN0 : 0 ≤ l[l.length - 1].f0 := by
              unfold fB at hlast
              simp only [Bool.and_eq_true] at hlast
              exact (wi_iff.1 hlast.2.1).1
            have hk0 : 0 ≤ l[p].f8 := by
              have hx' := hx
              unfold fB at hx'
              simp only [Bool.and_eq_true] at hx'
              exact (wi_iff.1 hx'.2.2.1).1
            have hpt := hall _ (List.getElem_mem hp)
            have hmax : ∀ r ∈ l, r.f0 < l[l.length - 1].f0 + 1 := fun r hr => by
              obtain ⟨j, hj', rfl⟩ := List.getElem_of_mem hr
              rcases Nat.eq_or_lt_of_le (show j ≤ l.length - 1 by omega) with h | h
              · simp only [h]; omega
              · have := List.pairwise_iff_getElem.1 hR.2.2 j (l.length - 1) hj' (by omega) h
                omega
            generalize hNe : l[l.length - 1].f0 = n at hN hN0 hmax
            have htm : wi t 0 134217727 = true := wi_iff.2 (by omega)
            have hg := fB_gone (n := n) (t := t) hx (wi_iff.2 (by omega)) htm
            have hbk := fB_back (n := n) (t := t) hx (wi_iff.2 (by omega)) hm
            obtain ⟨y1, y2⟩ := add_last hR hg (by omega) (fun r hr => hmax r hr)
            obtain ⟨z1, z2⟩ := add_last y2 hbk (by simp; omega) (fun r hr => by
              rcases List.mem_append.1 hr with h | h
              · have := hmax r h; show r.f0 < n + 2; omega
              · obtain rfl := List.mem_singleton.1 h; show n + 1 < n + 2; omega)
            have sa := standV_eq hc htm
            have sb := standV_eq (chk_of_right y2) htm
            have sc := standV_eq (chk_of_right z2) hm
            rw [stand_y hall hmax] at sb
            rw [stand_z hall hmax] at sc
            have hw1 : wrap64 (n + 1) = n + 1 := wr_in (by omega)
            have hw2 : wrap64 (n + 1 + 1) = n + 2 := by rw [wr_in (by omega)]; omega
            have hal := standV_length l t
            rw [fastilaw46_FactsWithdrawn.l0, if_neg (by omega), if_neg (by omega), hpe, if_pos (by omega), if_pos (by omega), hwl, if_pos (by omega), if_pos (by omega), rd_get l p hp, rd_get l (l.length - 1) (by omega), hNe, hw1, hw2, hwt,
              show facts_Add.f l (n + 1) l[p].f1 l[p].f2 l[p].f3 l[p].f4 (-1) 0 l[p].f7 t = some (addV l (gone l[p] n t)) from rfl, y1, Option.bind_some,
              show facts_Add.f (l ++ [gone l[p] n t]) (n + 2) l[p].f1 l[p].f2 l[p].f3 l[p].f4 l[p].f5 l[p].f6 l[p].f7 (t + 1) = some (addV (l ++ [gone l[p] n t]) (back l[p] n t)) from rfl, z1, Option.bind_some,
              show facts_Standing.f l t = some (standV l t) from rfl, sa, Option.bind_some, show facts_Standing.f (l ++ [gone l[p] n t]) t = some (standV (l ++ [gone l[p] n t]) t) from rfl, sb, Option.bind_some,
              show facts_Standing.f (l ++ [gone l[p] n t] ++ [back l[p] n t]) (t + 1) = some (standV (l ++ [gone l[p] n t] ++ [back l[p] n t]) (t + 1)) from rfl, sc, Option.bind_some, if_pos rfl, if_pos rfl, if_pos rfl, if_pos rfl]
            obtain ⟨q', rfl⟩ : ∃ q', q = q' + 1 := ⟨q - 1, by omega⟩
            rw [fastilaw46_FactsWithdrawn.j2, if_neg (by simp)]
            have hal' : (l.filter (standB l t)).length ≤ 300 := Nat.le_trans (List.length_filter_le _ _) hn
            exact rest_loop l[p] (back l[p] n t) _ _ (l.filter (standB l t)) hal' rfl rfl (l.filter (standB l t)).length 0 [] (by omega) (by simp) (by simp) q' (by omega)
    · rw [decide_eq_false hc, Bool.and_false, if_neg (by simp)]; exact hj
  · have hr : fastilaw46_right.f 2000 l = some false := by
      unfold fastilaw46_right.f
      rw [if_neg (by omega)]
    rw [hr, Option.bind_some, if_neg (by simp)]
    exact hj
end Go.Proofs.YtebfcckaicgcfaaDoor.Q
namespace Go.Proofs.YtebfcckaicgcfaaDoor.Pure
theorem FactsWithdrawn : Go.Proofs.YtebfcckaicgcfaaDoor.Q.fastilaw46_FactsWithdrawn.Pure := Go.Proofs.YtebfcckaicgcfaaDoor.Q.fastilaw46_FactsWithdrawn.pure
end Go.Proofs.YtebfcckaicgcfaaDoor.Pure

namespace Go.Proofs.YtebfcckaicgcfaaDoor.factsWithdrawn
open Go.ChangeShapes Go.WideShapes Go.ChangeAt Go.RowKit Go.Proofs.YtebfcckaicgcfaaDoor.Q Go.Proofs.YtebfcckaicgcfaaDoor.Opn Go.Proofs.YtebfcckaicgcfaaDoorW.PrintWords Go.Proofs.YtebfcckaicgcfaaDoorW.PrintLast
open Go.ChangeMaps (open_string shut_string)
open Go
set_option linter.unusedVariables false
theorem own : ownKnob Tryd.prog.godebug = none := by kernel_rfl
theorem laidOut : laidOutB Tryd.prog = true := by kernel_rfl
/-- The door's own heap meets the condition. -/
theorem door_met (os : Os) (args : Array Value) : laidMetH Tryd.prog laidL ((World.doorLaid Tryd.prog 28 os).forCall (fun _ _ => 0) ⟨#[], args, []⟩).memory :=
  laidMetH_of_parts3 (fuel := 8) (laidMet_of_run' 8 (by kernel_rfl) (by kernel_rfl)) (by kernel_rfl) (by kernel_rfl)
set_option maxRecDepth 100000 in
theorem lifted (os : Os) (started : os.Started) (H : Type) (enc : TypeId × Value → H) :
    ReturnsInHanded {} Tryd.checked os 9 .any (fun w args => (Rows.factsWithdrawnSpec.pre enc Tryd.prog Tryd.f9 [] false w args ∧ laidMetH Tryd.prog laidL w) ∧ sizedMet enc Tryd.prog Tryd.f9 (OpenSpec.ofChange Rows.factsWithdrawnSpec) false w args) (Rows.factsWithdrawnSpec.post enc Tryd.prog Tryd.f9 false true false false) := by
  refine returnsInHanded_of_change_and (C := Tryd.checked) (X := fun w _ => laidMetH Tryd.prog laidL w) (fun _ _ _ hh h => h.of_heap hh) own started (by kernel_rfl) Tryd.func9
    (ChangeSpec.witness_shaped (enc := enc) (C := Tryd.checked) (os := os) (X := fun w _ => laidMetH Tryd.prog laidL w) false (World.doorLaid Tryd.prog 28 os) #[.slice none 0 0, .int .u16 0, .int .i64 0] 8 rfl (World.shaped_of_RefB (by kernel_rfl) (by kernel_rfl)) (by kernel_rfl) (by kernel_rfl) (by kernel_rfl) (door_met os _)) ?_
  intro W base args ds gs before hval0 hW hcnd hsz0 hL _
  have hrw := rows_of_laid hL
  have hsz : (DataW.weightsEach Tryd.prog (Tryd.f9.params.toList ++ Rows.factsWithdrawnSpec.plain.varTypes Tryd.prog) (ds ++ gs)).all (· ≤ reachBytes) = true := hsz0
  have hval : ∀ (j : Nat) t v, Tryd.f9.params[j]? = some t → args[j]? = some v → Value.okWide Tryd.prog W .any base t v := hval0
  have hW' := hW
  obtain ⟨p, q, hA0, hV, rfl, hfz, hnd⟩ := hW
  have hA : DataW.TrodAll enc Tryd.prog W 0 (fun _ => true) true Tryd.f9.params.toList args.toList ds p := hA0
  rw [Tryd.params9] at hA hval hsz
  obtain ⟨v0, vs0, d0, ds0, p0, q0, hargs, rfl, rfl, h0, r0⟩ := trodAll_cons hA
  obtain ⟨v1, vs1, d1, ds1, p1, q1, rfl, rfl, rfl, h1, r1⟩ := trodAll_cons r0
  obtain ⟨v2, vs2, d2, ds2, p2, q2, rfl, rfl, rfl, h2, r2⟩ := trodAll_cons r1
  obtain ⟨rfl, rfl, rfl⟩ := trodAll_nil r2
  obtain rfl : args = #[v0, v1, v2] := by cases args; simp_all
  obtain ⟨rfl, rfl⟩ := trodVars_none hV
  have k0 := h0
  have lt0 : ∀ x ∈ p0, x.block < W.heap.size := by obtain ⟨m, hm⟩ := k0; exact DataW.trod_lt m _ _ _ hm
  obtain ⟨l0, hK0, hB0⟩ : ∃ a_ : List (S24), (Kd.slice 24 k24).K W a_ v0.cells.toList ∧ (fun l_ : List (S24) => l_.length * 72 ≤ 140737488351232 ∧ ∀ a, a ∈ l_ → B24 a) a_ := arg (j := 0) (opn_slice (sz := 9) Tryd.underlying22 (by kernel_rfl) rfl (by kernel_rfl) opn24) hsz rfl rfl h0
  obtain ⟨a0, len0, cap0, rfl⟩ := okWide_slice Tryd.underlying22 (hval 0 22 v0 rfl rfl)
  obtain ⟨A0, c0, he0, hc0, hr0⟩ := hK0
  obtain ⟨rfl, rfl, rfl⟩ : a0 = A0 ∧ len0 = l0.length ∧ cap0 = c0 := by have := List.cons.inj he0; simpa using this
  have k1 := h1
  have lt1 : ∀ x ∈ p1, x.block < W.heap.size := by obtain ⟨m, hm⟩ := k1; exact DataW.trod_lt m _ _ _ hm
  obtain ⟨a1, hK1, hB1⟩ : ∃ a_ : Int, ((Kd.int .u16)).K W a_ v1.cells.toList ∧ (fun a_ : Int => (Lit.int .u16 a_).wf = true) a_ := arg (j := 1) (opn_int Tryd.underlying45) hsz rfl rfl h1
  obtain ⟨b1, rfl⟩ := okWide_int Tryd.underlying45 (hval 1 45 v1 rfl rfl)
  obtain rfl : b1 = a1 := by have := List.cons.inj (show [_] = [_] from hK1); simpa using this
  have k2 := h2
  have lt2 : ∀ x ∈ p2, x.block < W.heap.size := by obtain ⟨m, hm⟩ := k2; exact DataW.trod_lt m _ _ _ hm
  obtain ⟨a2, hK2, hB2⟩ : ∃ a_ : Int, ((Kd.int .i64)).K W a_ v2.cells.toList ∧ (fun a_ : Int => (Lit.int .i64 a_).wf = true) a_ := arg (j := 2) (opn_int Tryd.underlying3) hsz rfl rfl h2
  obtain ⟨b2, rfl⟩ := okWide_int Tryd.underlying3 (hval 2 3 v2 rfl rfl)
  obtain rfl : b2 = a2 := by have := List.cons.inj (show [_] = [_] from hK2); simpa using this
  clear hA0 hval0 hsz0 hsz
  obtain ⟨k, h⟩ := Pure.FactsWithdrawn l0 b1 b2 hB0 hB1 hB2
  refine (fastilaw46_FactsWithdrawn.calls k _ _ l0 b1 b2 true W hr0 hc0 h hrw).mono fun e W' he_ => ?_
  obtain ⟨he, bel0⟩ := he_
  subst he
  have bel : Below W.heap.size W W' := bel0
  exact ⟨_, rfl, _, _, _, [], _, [], hW', trodAll_mk1 (shut_bool Tryd.underlying4 _), (trodAll_cons_mk (Below.trod laidOut (by kernel_rfl) (of_decide_eq_true (by kernel_rfl)) k0 bel lt0) (trodAll_cons_mk (Below.trod laidOut (by kernel_rfl) (of_decide_eq_true (by kernel_rfl)) k1 bel lt1) (trodAll_cons_mk (Below.trod laidOut (by kernel_rfl) (of_decide_eq_true (by kernel_rfl)) k2 bel lt2) trodAll_mk0))), rfl, bel.frame _, fun h => by cases h⟩
theorem over : Rows.factsWithdrawnRow.holds Tryd.pinned (OpenSpec.ofChange Rows.factsWithdrawnSpec) :=
  OpenClaim.holds_of_wide 9 Tryd.f9 rfl rfl rfl rfl rfl rfl rfl ⟨rfl, rfl, rfl, rfl, rfl⟩ rfl rfl rfl rfl rfl (by kernel_rfl) Tryd.func9 (by kernel_rfl)
    (of_decide_eq_true (by kernel_rfl)) (by unfold Func.isWrapper; first | (rw [if_pos (by decide +kernel)]; kernel_rfl) | (rw [if_neg (by decide +kernel)]; exact ⟨rfl, rfl⟩))
    (fun os started H enc _ => lifted os started H enc)
theorem proved : Rows.FactsWithdrawnCardSaid :=
  Claim7.holds_tied_plain_at .later [] [.data] true (true, "25e62b46fb574479bbaa49f574636e523fa3f10f860c20300a91c53940a2b552") false
    over (fun _ h => by cases h) (by kernel_rfl) (fun _ h => by cases h) factsWithdrawn_row_tie rfl ⟨rfl, rfl⟩ (by kernel_rfl) rfl
    (fun f fn hf hfn => by
      obtain rfl : f = 9 := Option.some.inj ((show Tryd.prog.funcNamed "fasti/fastilaw46.FactsWithdrawn" = some 9 by kernel_rfl).symm.trans hf) |>.symm
      obtain rfl : fn = Tryd.f9 := (Option.some.inj (Tryd.func9.symm.trans hfn)).symm
      exact ⟨by kernel_rfl, fun j t ht => by
        rw [Tryd.params9] at ht
        have hm : t ∈ [22, 45, 3] := by simpa using Array.mem_of_getElem? ht
        have hall : ([22, 45, 3].all fun u => !Tryd.prog.wantsStandIn u) = true := by kernel_rfl
        exact (show Tryd.prog.wantsStandIn t = false by simpa using List.all_eq_true.1 hall t hm)⟩)
    (by kernel_rfl)
#print axioms proved
end Go.Proofs.YtebfcckaicgcfaaDoor.factsWithdrawn
namespace Go.Proofs.YtebfcckaicgcfaaDoor
theorem factsWithdrawnCard_holds : Rows.FactsWithdrawnCardSaid := factsWithdrawn.proved
end Go.Proofs.YtebfcckaicgcfaaDoor
