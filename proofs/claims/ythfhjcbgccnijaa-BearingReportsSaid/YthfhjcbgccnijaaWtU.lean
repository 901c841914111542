/- What the sources say of a day: it comes from the reports, and reports that contain the truth join to a range that contains it. -/
import Derived.Test.YthfhjcbgccnijaaOf
namespace Go.Proofs.Ythfhjcbgccnijaa.Q
open Go.RowKit Go.Proofs.YthfhjcbgccnijaaW.PrintWords Go.Proofs.YthfhjcbgccnijaaW.PrintLast Go.Proofs.YthfhjcbgccnijaaW.PrintMore
set_option linter.unusedVariables false
set_option linter.unusedSimpArgs false

/-- What one source says last. -/
def step1 (g d t : Int) (s : Nat) (p : RepE) (r : S41) : RepE := if hit g d t r && newer p r && decide (r.f1.toNat = s) then (r, true) else p
theorem fold1 (g d t : Int) (s : Nat) (l : List S41) : ∀ L : Nat → RepE, (l.foldl (stepE g d t) L) s = l.foldl (step1 g d t s) (L s) := by
  induction l with
  | nil => intro L; rfl
  | cons a r ih =>
    intro L
    rw [List.foldl_cons, List.foldl_cons, ih]
    congr 1
    unfold stepE step1
    by_cases hs : a.f1.toNat = s
    · subst hs
      by_cases h : (hit g d t a && newer (L a.f1.toNat) a) = true
      · rw [if_pos h, if_pos rfl, if_pos (by rw [Bool.and_eq_true]; exact ⟨h, by simp⟩)]
      · rw [if_neg h, if_neg (fun e => h ((Bool.and_eq_true _ _).mp e).1)]
    · rw [if_neg (show ¬ (hit g d t a && newer (L s) a && decide (a.f1.toNat = s)) = true by simp [hs])]
      split
      · exact if_neg (fun e => hs e.symm)
      · rfl
theorem last1 (g d t : Int) (l : List S41) (s : Nat) : lastE g d t l s = l.foldl (step1 g d t s) zE := fold1 g d t s l _
theorem fold_mem (g d t : Int) (s : Nat) : ∀ (l : List S41) (p : RepE), (l.foldl (step1 g d t s) p) = p ∨ ((l.foldl (step1 g d t s) p).1 ∈ l ∧ hit g d t (l.foldl (step1 g d t s) p).1 = true)
  | [], p => .inl rfl
  | x :: q, p => by
    rw [List.foldl_cons]
    rcases fold_mem g d t s q (step1 g d t s p x) with h | h
    · rw [h]
      unfold step1
      split
      · rename_i hc
        simp only [Bool.and_eq_true] at hc
        exact .inr ⟨by simp, hc.1.1⟩
      · exact .inl rfl
    · exact .inr ⟨by simp [h.1], h.2⟩
theorem says_iff {g d t : Int} {l : List S41} {r : S41} : r ∈ says g d t l ↔ ∃ s, s < 16 ∧ lastE g d t l s = (r, true) := by
  unfold says oksOf
  rw [List.mem_map]
  constructor
  · rintro ⟨s, hs, rfl⟩
    obtain ⟨h1, h2⟩ := List.mem_filter.1 hs
    exact ⟨s, List.mem_range.1 h1, Prod.ext rfl h2⟩
  · rintro ⟨s, h1, h2⟩
    exact ⟨s, List.mem_filter.2 ⟨List.mem_range.2 h1, by rw [h2]⟩, by rw [h2]⟩
theorem says_hit {g d t : Int} {l : List S41} {r : S41} (h : r ∈ says g d t l) : r ∈ l ∧ r.f2 = g ∧ r.f3 = d ∧ r.f4 ≤ t := by
  obtain ⟨s, _, h⟩ := says_iff.1 h
  rw [last1] at h
  rcases fold_mem g d t s l zE with h1 | ⟨h1, h2⟩
  · rw [h1] at h
    exact absurd (show false = true from congrArg Prod.snd h) (by decide)
  · rw [h] at h1 h2
    simp only [hit, Bool.and_eq_true, decide_eq_true_eq] at h2
    exact ⟨h1, h2.1, h2.2.1, h2.2.2⟩
theorem fold_lo (xs : List (Int × Int)) : ∀ p y, (xs.foldl meetS p).1.1 ≤ y ↔ p.1.1 ≤ y ∧ ∀ x ∈ xs, x.1 ≤ y := by
  induction xs with
  | nil => intro p y; simp
  | cons a r ih =>
    intro p y
    rw [List.foldl_cons, ih]
    have : (meetS p a).1.1 ≤ y ↔ p.1.1 ≤ y ∧ a.1 ≤ y := by
      unfold meetS mx
      simp only
      split <;> omega
    rw [this, List.forall_mem_cons, and_assoc]
theorem fold_hi (xs : List (Int × Int)) : ∀ p y, y ≤ (xs.foldl meetS p).1.2 ↔ y ≤ p.1.2 ∧ ∀ x ∈ xs, y ≤ x.2 := by
  induction xs with
  | nil => intro p y; simp
  | cons a r ih =>
    intro p y
    rw [List.foldl_cons, ih]
    have : y ≤ (meetS p a).1.2 ↔ y ≤ p.1.2 ∧ y ≤ a.2 := by
      unfold meetS mn
      simp only
      split <;> omega
    rw [this, List.forall_mem_cons, and_assoc]
theorem sky_true {m v : Int} {xs : List (Int × Int)} (h0 : 0 ≤ v) (h1 : v ≤ m) (h : ∀ x ∈ xs, x.1 ≤ v ∧ v ≤ x.2) : skyV m xs = (joinS m xs).1 ∧ (skyV m xs).1 ≤ v ∧ v ≤ (skyV m xs).2 := by
  have hl : (joinS m xs).1.1 ≤ v := (fold_lo xs _ v).2 ⟨h0, fun x hx => (h x hx).1⟩
  have hh : v ≤ (joinS m xs).1.2 := (fold_hi xs _ v).2 ⟨h1, fun x hx => (h x hx).2⟩
  have e : skyV m xs = (joinS m xs).1 := if_neg (by omega)
  rw [e]
  exact ⟨rfl, hl, hh⟩
theorem chk_mk {l : List S41} (h1 : l.length ≤ 4096) (h2 : ∀ r ∈ l, vB r = true) (h3 : l.Pairwise (fun a b => a.f0 < b.f0)) : chkV l = 0 := by
  unfold chkV
  rw [if_neg (by omega), if_pos]
  rw [List.all_eq_true]
  intro i hi
  have hi := List.mem_range.1 hi
  unfold goodAt
  have e : rd_T41 l (i : Int) = l[i] := by simp [rd_T41, List.getD_eq_getElem?_getD, hi]
  rw [e, h2 _ (List.getElem_mem hi), Bool.true_and]
  by_cases h0 : i = 0
  · simp [h0]
  · have e2 : rd_T41 l ((i - 1 : Nat) : Int) = l[i - 1] := by
      have hlt : i - 1 < l.length := by omega
      simp [rd_T41, List.getD_eq_getElem?_getD, hlt]
    rw [e2]
    have := (List.pairwise_iff_getElem.1 h3) (i - 1) i (by omega) hi (by omega)
    simp [this]
theorem vB_mk {r : S41} (h0 : 0 ≤ r.f0 ∧ r.f0 ≤ 1048576) (h1 : 0 ≤ r.f1 ∧ r.f1 ≤ 15) (h2 : 0 ≤ r.f2 ∧ r.f2 ≤ 63) (h3 : 0 ≤ r.f3 ∧ r.f3 ≤ 73048) (h4 : 0 ≤ r.f4 ∧ r.f4 ≤ 134217727) (h5 : 0 ≤ r.f5.f0 ∧ r.f5.f0 ≤ r.f5.f1 ∧ r.f5.f1 ≤ 200) (h6 : 0 ≤ r.f6.f0 ∧ r.f6.f0 ≤ r.f6.f1 ∧ r.f6.f1 ≤ 40) : vB r = true := by
  unfold vB
  simp only [Bool.and_eq_true, List.all_cons, List.all_nil, Bool.and_true, okw, okr, decide_eq_true_eq]
  omega
/-- What Of says of a day contains the truth, where each report about it that is known contains it. -/
theorem of_true {l : List S41} {g d t rain frost : Int} (hr : 0 ≤ rain ∧ rain ≤ 200) (hf : 0 ≤ frost ∧ frost ≤ 40) (h : ∀ y ∈ l, y.f2 = g → y.f3 = d → y.f4 ≤ t → (y.f5.f0 ≤ rain ∧ rain ≤ y.f5.f1) ∧ y.f6.f0 ≤ frost ∧ frost ≤ y.f6.f1) :
    ((0 ≤ (skyV 200 ((says g d t l).map rng_rain)).1 ∧ (skyV 200 ((says g d t l).map rng_rain)).1 ≤ rain) ∧ rain ≤ (skyV 200 ((says g d t l).map rng_rain)).2 ∧ (skyV 200 ((says g d t l).map rng_rain)).2 ≤ 200) ∧
    ((0 ≤ (skyV 40 ((says g d t l).map rng_frost)).1 ∧ (skyV 40 ((says g d t l).map rng_frost)).1 ≤ frost) ∧ frost ≤ (skyV 40 ((says g d t l).map rng_frost)).2 ∧ (skyV 40 ((says g d t l).map rng_frost)).2 ≤ 40) := by
  have hs : ∀ y ∈ says g d t l, (y.f5.f0 ≤ rain ∧ rain ≤ y.f5.f1) ∧ y.f6.f0 ≤ frost ∧ frost ≤ y.f6.f1 := by
    intro y hy
    obtain ⟨a, b, c, e⟩ := says_hit hy
    exact h y a b c e
  have key : ∀ (m v : Int) (xs : List (Int × Int)), 0 ≤ v → v ≤ m → (∀ x ∈ xs, x.1 ≤ v ∧ v ≤ x.2) → (0 ≤ (skyV m xs).1 ∧ (skyV m xs).1 ≤ v) ∧ v ≤ (skyV m xs).2 ∧ (skyV m xs).2 ≤ m := by
    intro m v xs h0 h1 hx
    obtain ⟨e, a, b⟩ := sky_true h0 h1 hx
    refine ⟨⟨?_, a⟩, b, ?_⟩
    · rw [e]
      exact ((fold_lo xs ((0, m), (m, 0)) _).1 (Int.le_refl _)).1
    · rw [e]
      exact ((fold_hi xs ((0, m), (m, 0)) _).1 (Int.le_refl _)).1
  refine ⟨key 200 rain _ hr.1 hr.2 ?_, key 40 frost _ hf.1 hf.2 ?_⟩
  · intro x hx
    obtain ⟨y, hy, rfl⟩ := List.mem_map.1 hx
    exact (hs y hy).1
  · intro x hx
    obtain ⟨y, hy, rfl⟩ := List.mem_map.1 hx
    exact (hs y hy).2
end Go.Proofs.Ythfhjcbgccnijaa.Q
