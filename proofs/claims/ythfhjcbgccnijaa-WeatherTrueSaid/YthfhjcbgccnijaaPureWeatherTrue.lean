/- WeatherTrue's plain statement: the sky contains the truth, and a further true source does not widen it. -/
import Derived.Test.YthfhjcbgccnijaaSayWeatherTrue
import Derived.Test.YthfhjcbgccnijaaOf
import Derived.Test.YthfhjcbgccnijaaAdd
namespace Go.Proofs.Ythfhjcbgccnijaa.Pure
open Go.RowKit Go.Proofs.YthfhjcbgccnijaaW.PrintWords Go.Proofs.YthfhjcbgccnijaaW.PrintLast Go.Proofs.YthfhjcbgccnijaaW.PrintMore Go.Proofs.Ythfhjcbgccnijaa.Q
set_option linter.unusedVariables false
set_option linter.unusedSimpArgs false

def insR (r : S41) : List S41 → List S41
  | [] => [r]
  | x :: t => if x.f0 < r.f0 then x :: insR r t else r :: x :: t
theorem insR_eq (r : S41) : ∀ l : List S41, insAt l (posV l r.f0) r = insR r l
  | [] => rfl
  | x :: t => by
    have ih := insR_eq r t
    unfold insR
    by_cases h : x.f0 < r.f0
    · have hp : posV (x :: t) r.f0 = posV t r.f0 + 1 := by unfold posV; rw [List.takeWhile_cons, if_pos (decide_eq_true h), List.length_cons]
      rw [if_pos h, hp, ← ih]
      rfl
    · have hp : posV (x :: t) r.f0 = 0 := by unfold posV; rw [List.takeWhile_cons, if_neg (by simpa using h)]; rfl
      rw [if_neg h, hp]
      rfl
theorem insR_comm (a b : S41) (hab : a.f0 ≠ b.f0) : ∀ l : List S41, insR b (insR a l) = insR a (insR b l)
  | [] => by
    simp only [insR]
    by_cases h : a.f0 < b.f0
    · rw [if_pos h, if_neg (by omega)]
    · rw [if_neg h, if_pos (by omega)]
  | x :: t => by
    have ih := insR_comm a b hab t
    by_cases h1 : x.f0 < a.f0
    · by_cases h2 : x.f0 < b.f0
      · simp only [insR, if_pos h1, if_pos h2, ih]
      · have h3 : b.f0 < a.f0 := by omega
        simp only [insR, if_pos h1, if_neg h2, if_pos h3]
    · by_cases h2 : x.f0 < b.f0
      · have h3 : a.f0 < b.f0 := by omega
        simp only [insR, if_neg h1, if_pos h2, if_pos h3]
      · by_cases h3 : a.f0 < b.f0
        · have h4 : ¬ b.f0 < a.f0 := by omega
          simp only [insR, if_neg h1, if_neg h2, if_pos h3, if_neg h4]
        · have h4 : b.f0 < a.f0 := by omega
          simp only [insR, if_neg h1, if_neg h2, if_neg h3, if_pos h4]
theorem mem_insR (r y : S41) : ∀ l : List S41, y ∈ insR r l ↔ y = r ∨ y ∈ l
  | [] => by simp [insR]
  | x :: t => by
    have ih := mem_insR r y t
    unfold insR
    split
    · rw [List.mem_cons, ih, List.mem_cons]
      constructor
      · rintro (h | h | h) <;> simp [h]
      · rintro (h | h | h) <;> simp [h]
    · rw [List.mem_cons]
theorem sort_insR (r : S41) : ∀ l : List S41, l.Pairwise (fun a b => a.f0 < b.f0) → (∀ y ∈ l, y.f0 ≠ r.f0) → (insR r l).Pairwise (fun a b => a.f0 < b.f0)
  | [], _, _ => by simp [insR]
  | x :: t, h, hn => by
    obtain ⟨h1, h2⟩ := List.pairwise_cons.1 h
    have ih := sort_insR r t h2 (fun y hy => hn y (by simp [hy]))
    unfold insR
    split
    · rename_i hc
      refine List.pairwise_cons.2 ⟨fun y hy => ?_, ih⟩
      rcases (mem_insR r y t).1 hy with rfl | hy
      · exact hc
      · exact h1 y hy
    · rename_i hc
      have hx := hn x (by simp)
      refine List.pairwise_cons.2 ⟨fun y hy => ?_, h⟩
      rcases List.mem_cons.1 hy with rfl | hy
      · omega
      · have := h1 y hy; omega
theorem ochk_iff (l : List S41) : chkV l = 0 ↔ l.length ≤ 4096 ∧ (∀ r ∈ l, vB r = true) ∧ l.Pairwise (fun a b => a.f0 < b.f0) := by
  constructor
  · intro h
    refine ⟨(chk_ok h).1, chk_valid h, ?_⟩
    rw [List.pairwise_iff_getElem]
    intro i j hi hj hij
    have := sorted_ h i j hij hj
    rwa [noAt_get l i hi, noAt_get l j hj] at this
  · rintro ⟨h1, h2, h3⟩
    unfold chkV
    rw [if_neg (by omega), if_pos]
    rw [List.all_eq_true]
    intro i hi
    have hi := List.mem_range.1 hi
    unfold goodAt
    have e : rd_T41 l (i : Int) = l[i] := by simp [rd_T41, List.getD_eq_getElem?_getD, hi]
    rw [e, h2 _ (List.getElem_mem hi), Bool.true_and]
    by_cases h0 : i = 0
    · simp [h0]
    · have e2 : rd_T41 l ((i - 1 : Nat) : Int) = l[i - 1] := by
        have hlt : i - 1 < l.length := by omega
        simp [rd_T41, List.getD_eq_getElem?_getD, hlt]
      rw [e2]
      have := (List.pairwise_iff_getElem.1 h3) (i - 1) i (by omega) hi (by omega)
      simp [this]
theorem oposV : ∀ (l : List S41) (x : Int), (∀ j, j < posV l x → noAt l j < x) ∧ (posV l x < l.length → x ≤ noAt l (posV l x))
  | [], x => ⟨fun j hj => by simp [posV] at hj, fun h => by simp at h⟩
  | a :: r, x => by
    by_cases h : a.f0 < x
    · have hp : posV (a :: r) x = posV r x + 1 := by unfold posV; rw [List.takeWhile_cons, if_pos (decide_eq_true h), List.length_cons]
      have ih := oposV r x
      have hc : ∀ j, noAt (a :: r) (j + 1) = noAt r j := fun j => by simp [noAt, rd_T41]
      rw [hp]
      refine ⟨fun j hj => ?_, fun hj => ?_⟩
      · cases j with
        | zero => rw [noAt_get _ _ (by simp)]; exact h
        | succ j => rw [hc]; exact ih.1 j (by omega)
      · rw [hc]
        exact ih.2 (by simpa using hj)
    · have hp : posV (a :: r) x = 0 := by unfold posV; rw [List.takeWhile_cons, if_neg (by simpa using h)]; rfl
      rw [hp]
      refine ⟨fun j hj => by omega, fun hj => ?_⟩
      rw [noAt_get _ _ (by simp)]
      show x ≤ a.f0
      omega
theorem twice_iff {l : List S41} (h : chkV l = 0) (v : Int) : twiceB l v = true ↔ ∃ y ∈ l, y.f0 = v := by
  unfold twiceB
  rw [Bool.and_eq_true, decide_eq_true_eq, decide_eq_true_eq]
  constructor
  · rintro ⟨h1, h2⟩
    exact ⟨l[posV l v], List.getElem_mem h1, by rw [← noAt_get l _ h1]; exact h2⟩
  · rintro ⟨y, hy, hv⟩
    obtain ⟨i, hi, rfl⟩ := List.getElem_of_mem hy
    rw [← noAt_get l i hi] at hv
    obtain ⟨p1, p2⟩ := oposV l v
    have h1 : posV l v ≤ i := by
      rcases Nat.lt_or_ge i (posV l v) with h3 | h3
      · have := p1 i h3; omega
      · exact h3
    have h2 := p2 (by omega)
    refine ⟨by omega, ?_⟩
    rcases Nat.lt_or_ge (posV l v) i with h3 | h3
    · have := sorted_ h _ _ h3 hi; omega
    · obtain rfl : posV l v = i := by omega
      exact hv
theorem addV_err {l : List S41} {r : S41} (h : (addV l r).2 ≠ 0) : (addV l r).1 = [] := by
  unfold addV at h ⊢
  split at h
  · rename_i h1
    rw [if_pos h1]
    split at h
    · rename_i h2
      rw [if_pos h2]
      split at h
      · rename_i h3
        rw [if_pos h3]
      · rename_i h3
        rw [if_neg h3]
        split at h
        · rename_i h4
          rw [if_pos h4]
        · exact absurd rfl h
    · rename_i h2
      rw [if_neg h2]
  · rename_i h1
    rw [if_neg h1]
theorem addV_ok {l : List S41} {r : S41} (h : (addV l r).2 = 0) : chkV l = 0 ∧ vB r = true ∧ twiceB l r.f0 = false ∧ ¬ l.length = 4096 ∧ (addV l r).1 = insR r l := by
  unfold addV at h ⊢
  by_cases h1 : chkV l = 0
  · rw [if_pos h1] at h ⊢
    by_cases h2 : vB r = true
    · rw [if_pos h2] at h ⊢
      by_cases h3 : twiceB l r.f0 = true
      · rw [if_pos h3] at h; cases h
      · rw [if_neg h3] at h ⊢
        by_cases h4 : l.length = 4096
        · rw [if_pos h4] at h; cases h
        · rw [if_neg h4]
          exact ⟨h1, h2, by simpa using h3, h4, insR_eq r l⟩
    · rw [if_neg h2] at h; cases h
  · rw [if_neg h1] at h
    exact absurd h h1
theorem insR_length (r : S41) (l : List S41) : (insR r l).length = l.length + 1 := by
  rw [← insR_eq, insAt_length _ _ _ (posV_le l r.f0)]
theorem chk_insR {l : List S41} {r : S41} (h : (addV l r).2 = 0) : chkV (insR r l) = 0 := by
  obtain ⟨c1, a2, a3, a4, _⟩ := addV_ok h
  obtain ⟨l1, l2, l3⟩ := (ochk_iff l).1 c1
  have hna : ∀ y ∈ l, y.f0 ≠ r.f0 := fun y hy e => by
    have := (twice_iff c1 r.f0).2 ⟨y, hy, e⟩
    rw [a3] at this; cases this
  refine (ochk_iff _).2 ⟨by rw [insR_length]; omega, fun y hy => ?_, sort_insR r l l3 hna⟩
  rcases (mem_insR r y l).1 hy with rfl | hy
  · exact a2
  · exact l2 y hy

/-- What one source says last. -/
def step1 (g d t : Int) (s : Nat) (p : RepE) (r : S41) : RepE := if hit g d t r && newer p r && decide (r.f1.toNat = s) then (r, true) else p
theorem fold1 (g d t : Int) (s : Nat) (l : List S41) : ∀ L : Nat → RepE, (l.foldl (stepE g d t) L) s = l.foldl (step1 g d t s) (L s) := by
  induction l with
  | nil => intro L; rfl
  | cons a r ih =>
    intro L
    rw [List.foldl_cons, List.foldl_cons, ih]
    congr 1
    unfold stepE step1
    by_cases hs : a.f1.toNat = s
    · subst hs
      by_cases h : (hit g d t a && newer (L a.f1.toNat) a) = true
      · rw [if_pos h, if_pos rfl, if_pos (by rw [Bool.and_eq_true]; exact ⟨h, by simp⟩)]
      · rw [if_neg h, if_neg (fun e => h ((Bool.and_eq_true _ _).mp e).1)]
    · rw [if_neg (show ¬ (hit g d t a && newer (L s) a && decide (a.f1.toNat = s)) = true by simp [hs])]
      split
      · exact if_neg (fun e => hs e.symm)
      · rfl
theorem last1 (g d t : Int) (l : List S41) (s : Nat) : lastE g d t l s = l.foldl (step1 g d t s) zE := fold1 g d t s l _
theorem step1_other {g d t : Int} {s : Nat} {r : S41} (h : r.f1.toNat ≠ s) (p : RepE) : step1 g d t s p r = p := by
  unfold step1
  rw [if_neg (by simp [h])]
theorem fold_insR (g d t : Int) (s : Nat) (r : S41) (h : r.f1.toNat ≠ s) : ∀ (l : List S41) (p : RepE), (insR r l).foldl (step1 g d t s) p = l.foldl (step1 g d t s) p
  | [], p => by simp [insR, step1_other h]
  | x :: q, p => by
    unfold insR
    split
    · rw [List.foldl_cons, List.foldl_cons, fold_insR g d t s r h q]
    · rw [List.foldl_cons, step1_other h]
theorem fold_none (g d t : Int) (s : Nat) : ∀ (l : List S41), (∀ y ∈ l, y.f2 = g → y.f3 = d → y.f1.toNat ≠ s) → ∀ p : RepE, l.foldl (step1 g d t s) p = p
  | [], _, _ => rfl
  | x :: q, h, p => by
    rw [List.foldl_cons, fold_none g d t s q (fun y hy => h y (by simp [hy]))]
    unfold step1
    rw [if_neg]
    intro hh
    simp only [Bool.and_eq_true, decide_eq_true_eq, hit] at hh
    exact h x (by simp) hh.1.1.1 hh.1.1.2.1 hh.2
theorem fold_mem (g d t : Int) (s : Nat) : ∀ (l : List S41) (p : RepE), (l.foldl (step1 g d t s) p) = p ∨ ((l.foldl (step1 g d t s) p).1 ∈ l ∧ hit g d t (l.foldl (step1 g d t s) p).1 = true)
  | [], p => .inl rfl
  | x :: q, p => by
    rw [List.foldl_cons]
    rcases fold_mem g d t s q (step1 g d t s p x) with h | h
    · rw [h]
      unfold step1
      split
      · rename_i hc
        simp only [Bool.and_eq_true] at hc
        exact .inr ⟨by simp, hc.1.1⟩
      · exact .inl rfl
    · exact .inr ⟨by simp [h.1], h.2⟩
theorem says_iff {g d t : Int} {l : List S41} {r : S41} : r ∈ says g d t l ↔ ∃ s, s < 16 ∧ lastE g d t l s = (r, true) := by
  unfold says oksOf
  rw [List.mem_map]
  constructor
  · rintro ⟨s, hs, rfl⟩
    obtain ⟨h1, h2⟩ := List.mem_filter.1 hs
    exact ⟨s, List.mem_range.1 h1, Prod.ext rfl h2⟩
  · rintro ⟨s, h1, h2⟩
    exact ⟨s, List.mem_filter.2 ⟨List.mem_range.2 h1, by rw [h2]⟩, by rw [h2]⟩
theorem says_hit {g d t : Int} {l : List S41} {r : S41} (h : r ∈ says g d t l) : r ∈ l ∧ r.f2 = g ∧ r.f3 = d := by
  obtain ⟨s, _, h⟩ := says_iff.1 h
  rw [last1] at h
  rcases fold_mem g d t s l zE with h1 | ⟨h1, h2⟩
  · rw [h1] at h
    exact absurd (show false = true from congrArg Prod.snd h) (by decide)
  · rw [h] at h1 h2
    simp only [hit, Bool.and_eq_true, decide_eq_true_eq] at h2
    exact ⟨h1, h2.1, h2.2.1⟩
theorem says_more {g d t : Int} {l : List S41} {r : S41} (hv : ∀ y ∈ l, 0 ≤ y.f1) (hr : 0 ≤ r.f1) (hf : ∀ y ∈ l, y.f2 = g → y.f3 = d → y.f1 ≠ r.f1) {y : S41} (h : y ∈ says g d t l) : y ∈ says g d t (insR r l) := by
  obtain ⟨s, h1, h2⟩ := says_iff.1 h
  refine says_iff.2 ⟨s, h1, ?_⟩
  rw [last1] at h2 ⊢
  by_cases hs : r.f1.toNat = s
  · rw [fold_none g d t s l (fun y hy a b => by have := hf y hy a b; have := hv y hy; omega)] at h2
    exact absurd (show false = true from congrArg Prod.snd h2) (by decide)
  · rw [fold_insR g d t s r hs]
    exact h2

theorem fold_lo (xs : List (Int × Int)) : ∀ p y, (xs.foldl meetS p).1.1 ≤ y ↔ p.1.1 ≤ y ∧ ∀ x ∈ xs, x.1 ≤ y := by
  induction xs with
  | nil => intro p y; simp
  | cons a r ih =>
    intro p y
    rw [List.foldl_cons, ih]
    have : (meetS p a).1.1 ≤ y ↔ p.1.1 ≤ y ∧ a.1 ≤ y := by
      unfold meetS mx
      simp only
      split <;> omega
    rw [this, List.forall_mem_cons, and_assoc]
theorem fold_hi (xs : List (Int × Int)) : ∀ p y, y ≤ (xs.foldl meetS p).1.2 ↔ y ≤ p.1.2 ∧ ∀ x ∈ xs, y ≤ x.2 := by
  induction xs with
  | nil => intro p y; simp
  | cons a r ih =>
    intro p y
    rw [List.foldl_cons, ih]
    have : y ≤ (meetS p a).1.2 ↔ y ≤ p.1.2 ∧ y ≤ a.2 := by
      unfold meetS mn
      simp only
      split <;> omega
    rw [this, List.forall_mem_cons, and_assoc]
theorem sky_true {m v : Int} {xs : List (Int × Int)} (h0 : 0 ≤ v) (h1 : v ≤ m) (h : ∀ x ∈ xs, x.1 ≤ v ∧ v ≤ x.2) : skyV m xs = (joinS m xs).1 ∧ (skyV m xs).1 ≤ v ∧ v ≤ (skyV m xs).2 := by
  have hl : (joinS m xs).1.1 ≤ v := (fold_lo xs _ v).2 ⟨h0, fun x hx => (h x hx).1⟩
  have hh : v ≤ (joinS m xs).1.2 := (fold_hi xs _ v).2 ⟨h1, fun x hx => (h x hx).2⟩
  have e : skyV m xs = (joinS m xs).1 := if_neg (by omega)
  rw [e]
  exact ⟨rfl, hl, hh⟩
theorem join_sub {m : Int} {xs ys : List (Int × Int)} (h : ∀ x ∈ xs, x ∈ ys) : (joinS m xs).1.1 ≤ (joinS m ys).1.1 ∧ (joinS m ys).1.2 ≤ (joinS m xs).1.2 := by
  have h1 := (fold_lo ys ((0, m), (m, 0)) (joinS m ys).1.1).1 (Int.le_refl _)
  have h2 := (fold_hi ys ((0, m), (m, 0)) (joinS m ys).1.2).1 (Int.le_refl _)
  exact ⟨(fold_lo xs _ _).2 ⟨h1.1, fun x hx => h1.2 x (h x hx)⟩, (fold_hi xs _ _).2 ⟨h2.1, fun x hx => h2.2 x (h x hx)⟩⟩
theorem holds_eq (a b c : Int) : fastilaw27_holds.f a b c = some (decide (a ≤ c ∧ c ≤ b)) := by
  unfold fastilaw27_holds.f
  by_cases h : c ≥ a
  · rw [if_pos h]
    have : a ≤ c := h
    simp [this]
  · rw [if_neg h]
    have : ¬ a ≤ c := h
    simp [this]
theorem tr_ranges {r : S41} (h : vB r = true) : (0 ≤ r.f5.f0 ∧ r.f5.f0 ≤ r.f5.f1 ∧ r.f5.f1 ≤ 200) ∧ 0 ≤ r.f6.f0 ∧ r.f6.f0 ≤ r.f6.f1 ∧ r.f6.f1 ≤ 40 := by
  unfold vB at h
  simp only [Bool.and_eq_true, List.all_cons, List.all_nil, Bool.and_true, okw, okr, decide_eq_true_eq] at h
  omega

/-- The report contains the truth. -/
def Tru (rain frost : Int) (y : S41) : Prop := (y.f5.f0 ≤ rain ∧ rain ≤ y.f5.f1) ∧ y.f6.f0 ≤ frost ∧ frost ≤ y.f6.f1
theorem true_end (l : List S41) (r : S41) (t rain frost : Int) (fr : Bool) (ha : (addV l r).2 = 0) (hr : Tru rain frost r) (hall : ∀ y ∈ l, y.f2 = r.f2 → y.f3 = r.f3 → Tru rain frost y)
    (hfr : fr = true → ∀ y ∈ l, y.f2 = r.f2 → y.f3 = r.f3 → y.f1 ≠ r.f1) (i : Int) (hi : ¬ i < (l.length : Int)) (k : Nat) :
    fastilaw27_WeatherTrue.l0 (k + 3) l t rain frost (insR r l) fr i r.f0 r.f1 r.f2 r.f3 r.f4 r.f5.f0 r.f5.f1 r.f6.f0 r.f6.f1 = some true := by
  obtain ⟨hc, hv, _, _, _⟩ := addV_ok ha
  have hx := chk_insR ha
  rw [fastilaw27_WeatherTrue.l0, if_neg hi]
  by_cases hb : argsB r.f2 r.f3 t = true
  · have e1 : weather_Of.f l r.f2 r.f3 t = some ((skyV 200 ((says r.f2 r.f3 t l).map rng_rain)).1, (skyV 200 ((says r.f2 r.f3 t l).map rng_rain)).2, (skyV 40 ((says r.f2 r.f3 t l).map rng_frost)).1, (skyV 40 ((says r.f2 r.f3 t l).map rng_frost)).2, ((says r.f2 r.f3 t l).length : Int), 0) := by
      unfold weather_Of.f
      rw [if_pos hc, if_pos hb]
    have e2 : weather_Of.f (insR r l) r.f2 r.f3 t = some ((skyV 200 ((says r.f2 r.f3 t (insR r l)).map rng_rain)).1, (skyV 200 ((says r.f2 r.f3 t (insR r l)).map rng_rain)).2, (skyV 40 ((says r.f2 r.f3 t (insR r l)).map rng_frost)).1, (skyV 40 ((says r.f2 r.f3 t (insR r l)).map rng_frost)).2, ((says r.f2 r.f3 t (insR r l)).length : Int), 0) := by
      unfold weather_Of.f
      rw [if_pos hx, if_pos hb]
    obtain ⟨v5, v6⟩ := tr_ranges hv
    obtain ⟨r5, r6⟩ := hr
    have t1 : ∀ y ∈ says r.f2 r.f3 t l, Tru rain frost y := fun y hy => by
      obtain ⟨h1, h2, h3⟩ := says_hit hy
      exact hall y h1 h2 h3
    have t2 : ∀ y ∈ says r.f2 r.f3 t (insR r l), Tru rain frost y := fun y hy => by
      obtain ⟨h1, h2, h3⟩ := says_hit hy
      rcases (mem_insR r y l).1 h1 with rfl | h1
      · exact ⟨r5, r6⟩
      · exact hall y h1 h2 h3
    obtain ⟨a1, a2, a3⟩ := sky_true (m := 200) (v := rain) (xs := (says r.f2 r.f3 t l).map rng_rain) (by omega) (by omega) (fun x hx => by
      obtain ⟨y, hy, rfl⟩ := List.mem_map.1 hx
      exact (t1 y hy).1)
    obtain ⟨b1, b2, b3⟩ := sky_true (m := 40) (v := frost) (xs := (says r.f2 r.f3 t l).map rng_frost) (by omega) (by omega) (fun x hx => by
      obtain ⟨y, hy, rfl⟩ := List.mem_map.1 hx
      exact (t1 y hy).2)
    obtain ⟨c1, c2, c3⟩ := sky_true (m := 200) (v := rain) (xs := (says r.f2 r.f3 t (insR r l)).map rng_rain) (by omega) (by omega) (fun x hx => by
      obtain ⟨y, hy, rfl⟩ := List.mem_map.1 hx
      exact (t2 y hy).1)
    obtain ⟨d1, d2, d3⟩ := sky_true (m := 40) (v := frost) (xs := (says r.f2 r.f3 t (insR r l)).map rng_frost) (by omega) (by omega) (fun x hx => by
      obtain ⟨y, hy, rfl⟩ := List.mem_map.1 hx
      exact (t2 y hy).2)
    rw [e1, Option.bind_some, e2, Option.bind_some, if_pos rfl, fastilaw27_WeatherTrue.j3, if_neg (by simp)]
    simp only [holds_eq, Option.bind_some]
    rw [if_pos (decide_eq_true ⟨a2, a3⟩), if_pos (decide_eq_true ⟨b2, b3⟩), if_pos (decide_eq_true ⟨c2, c3⟩), fastilaw27_WeatherTrue.j4, if_neg (by simp [d2, d3])]
    cases fr with
    | false => rfl
    | true =>
      have hsub : ∀ y ∈ says r.f2 r.f3 t l, y ∈ says r.f2 r.f3 t (insR r l) := fun y hy =>
        says_more (fun z hz => (vB_source (chk_valid hc z hz)).1) (vB_source hv).1 (hfr rfl) hy
      have s1 := join_sub (m := 200) (xs := (says r.f2 r.f3 t l).map rng_rain) (ys := (says r.f2 r.f3 t (insR r l)).map rng_rain) (fun x hx => by
        obtain ⟨y, hy, rfl⟩ := List.mem_map.1 hx
        exact List.mem_map.2 ⟨y, hsub y hy, rfl⟩)
      have s2 := join_sub (m := 40) (xs := (says r.f2 r.f3 t l).map rng_frost) (ys := (says r.f2 r.f3 t (insR r l)).map rng_frost) (fun x hx => by
        obtain ⟨y, hy, rfl⟩ := List.mem_map.1 hx
        exact List.mem_map.2 ⟨y, hsub y hy, rfl⟩)
      have i1 : fastilaw27_inside.f (skyV 200 ((says r.f2 r.f3 t (insR r l)).map rng_rain)).1 (skyV 200 ((says r.f2 r.f3 t (insR r l)).map rng_rain)).2 (skyV 200 ((says r.f2 r.f3 t l).map rng_rain)).1 (skyV 200 ((says r.f2 r.f3 t l).map rng_rain)).2 = some true := by
        unfold fastilaw27_inside.f
        rw [a1, c1, if_pos s1.1, decide_eq_true s1.2]
      have i2 : fastilaw27_inside.f (skyV 40 ((says r.f2 r.f3 t (insR r l)).map rng_frost)).1 (skyV 40 ((says r.f2 r.f3 t (insR r l)).map rng_frost)).2 (skyV 40 ((says r.f2 r.f3 t l).map rng_frost)).1 (skyV 40 ((says r.f2 r.f3 t l).map rng_frost)).2 = some true := by
        unfold fastilaw27_inside.f
        rw [b1, d1, if_pos s2.1, decide_eq_true s2.2]
      rw [if_pos rfl, i1, Option.bind_some, if_pos rfl, i2]
      rfl
  · have e1 : weather_Of.f l r.f2 r.f3 t = some (0, 0, 0, 0, 0, 1) := by
      unfold weather_Of.f
      rw [if_pos hc, if_neg hb]
    have e2 : weather_Of.f (insR r l) r.f2 r.f3 t = some (0, 0, 0, 0, 0, 1) := by
      unfold weather_Of.f
      rw [if_pos hx, if_neg hb]
    rw [e1, Option.bind_some, e2, Option.bind_some, if_neg (by decide), fastilaw27_WeatherTrue.j3]
    rfl
theorem true_loop (l : List S41) (r : S41) (t rain frost : Int) (ha : (addV l r).2 = 0) (hr : Tru rain frost r) : ∀ (m i : Nat), i + m = l.length → ∀ (fr : Bool), (∀ y ∈ l.take i, y.f2 = r.f2 → y.f3 = r.f3 → Tru rain frost y) →
    (fr = true → ∀ y ∈ l.take i, y.f2 = r.f2 → y.f3 = r.f3 → y.f1 ≠ r.f1) → ∀ k, 2 * m < k →
    fastilaw27_WeatherTrue.l0 (k + 3) l t rain frost (insR r l) fr (i : Int) r.f0 r.f1 r.f2 r.f3 r.f4 r.f5.f0 r.f5.f1 r.f6.f0 r.f6.f1 = some true
  | 0, i, h, fr, hall, hfr, k, _ => by
    rw [List.take_of_length_le (by omega)] at hall hfr
    exact true_end l r t rain frost fr ha hr hall hfr _ (by omega) k
  | m + 1, i, h, fr, hall, hfr, k + 2, hk => by
    obtain ⟨hc, hv, _, _, _⟩ := addV_ok ha
    have hlt : i < l.length := by omega
    have hn := (chk_ok hc).1
    have hw : wrap64 ((i : Int) + 1) = ((i + 1 : Nat) : Int) := by rw [wr_in (by omega)]; omega
    have ih := fun fr' p q => true_loop l r t rain frost ha hr m (i + 1) (by omega) fr' p q k (by omega)
    have hrd : l[i] = rd_T41 l (i : Int) := by simp [rd_T41, List.getD_eq_getElem?_getD, hlt]
    rw [List.take_succ_eq_append_getElem hlt, hrd] at ih
    rw [fastilaw27_WeatherTrue.l0, if_pos (by omega), if_pos (by omega)]
    have hj : ∀ b, fastilaw27_WeatherTrue.j2 (k + 4) l t rain frost (insR r l) fr (i : Int) b r.f0 r.f1 r.f2 r.f3 r.f4 r.f5.f0 r.f5.f1 r.f6.f0 r.f6.f1 = _ := fun b => by rw [fastilaw27_WeatherTrue.j2, hw, if_pos (show (0 : Int) ≤ (i : Int) by omega), if_pos (show (i : Int) < (l.length : Int) by omega), holds_eq, holds_eq, Option.bind_some, Option.bind_some]
    generalize rd_T41 l (i : Int) = y at ih hj ⊢
    have hskip : ¬ (y.f2 = r.f2 ∧ y.f3 = r.f3) → fastilaw27_WeatherTrue.l0 (k + 3) l t rain frost (insR r l) fr ((i + 1 : Nat) : Int) r.f0 r.f1 r.f2 r.f3 r.f4 r.f5.f0 r.f5.f1 r.f6.f0 r.f6.f1 = some true := fun hne =>
      ih fr (fun z hz a b => by
        rcases List.mem_append.1 hz with hz | hz
        · exact hall z hz a b
        · obtain rfl := List.mem_singleton.1 hz
          exact absurd ⟨a, b⟩ hne) (fun hf z hz a b => by
        rcases List.mem_append.1 hz with hz | hz
        · exact hfr hf z hz a b
        · obtain rfl := List.mem_singleton.1 hz
          exact absurd ⟨a, b⟩ hne)
    by_cases h2 : y.f2 = r.f2
    · rw [if_pos h2, hj]
      by_cases h3 : y.f3 = r.f3
      · rw [if_neg (by simp [h3])]
        by_cases h5 : y.f5.f0 ≤ rain ∧ rain ≤ y.f5.f1
        · rw [if_pos (decide_eq_true h5)]
          by_cases h6 : y.f6.f0 ≤ frost ∧ frost ≤ y.f6.f1
          · rw [if_pos (decide_eq_true h6)]
            have hall' : ∀ z ∈ l.take i ++ [y], z.f2 = r.f2 → z.f3 = r.f3 → Tru rain frost z := fun z hz a b => by
              rcases List.mem_append.1 hz with hz | hz
              · exact hall z hz a b
              · obtain rfl := List.mem_singleton.1 hz
                exact ⟨h5, h6⟩
            cases fr with
            | false => exact ih false hall' (fun e => by cases e)
            | true =>
              rw [if_pos rfl]
              refine ih _ hall' (fun e z hz a b => ?_)
              rcases List.mem_append.1 hz with hz | hz
              · exact hfr rfl z hz a b
              · obtain rfl := List.mem_singleton.1 hz
                simpa using e
          · rw [if_neg (by rw [decide_eq_false h6]; simp)]
        · rw [if_neg (by rw [decide_eq_false h5]; simp)]
      · rw [if_pos (by simpa using h3)]
        exact hskip (fun e => h3 e.2)
    · rw [if_neg h2, hj, if_pos rfl]
      exact hskip (fun e => h2 e.1)
theorem WeatherTrue : fastilaw27_WeatherTrue.Pure := by
  intro l r t rain frost _ _ _ _ _
  refine ⟨2 * l.length + 10, ?_⟩
  unfold fastilaw27_WeatherTrue.f
  rw [show fastilaw27_sane.f = some true from rfl, Option.bind_some, if_pos rfl]
  by_cases h : (l.length : Int) > 5000
  · rw [if_pos h]
  · rw [if_neg h, show weather_Add.f l r.f0 r.f1 r.f2 r.f3 r.f4 r.f5.f0 r.f5.f1 r.f6.f0 r.f6.f1 = some (addV l r) from rfl, Option.bind_some, holds_eq, Option.bind_some, holds_eq, Option.bind_some]
    have hj : ∀ b, fastilaw27_WeatherTrue.j0 (2 * l.length + 10) l t rain frost (addV l r).1 b r.f0 r.f1 r.f2 r.f3 r.f4 r.f5.f0 r.f5.f1 r.f6.f0 r.f6.f1 = if b = true then some true else fastilaw27_WeatherTrue.l0 (2 * l.length + 9) l t rain frost (addV l r).1 true 0 r.f0 r.f1 r.f2 r.f3 r.f4 r.f5.f0 r.f5.f1 r.f6.f0 r.f6.f1 := fun b => by rw [fastilaw27_WeatherTrue.j0]
    rw [hj, hj]
    by_cases ha : (addV l r).2 = 0
    · rw [if_pos ha]
      by_cases h5 : r.f5.f0 ≤ rain ∧ rain ≤ r.f5.f1
      · rw [if_pos (decide_eq_true h5)]
        by_cases h6 : r.f6.f0 ≤ frost ∧ frost ≤ r.f6.f1
        · rw [if_neg (by simp [h6]), (addV_ok ha).2.2.2.2]
          exact true_loop l r t rain frost ha ⟨h5, h6⟩ l.length 0 (by omega) true (fun y hy => by simp at hy) (fun _ y hy => by simp at hy) (2 * l.length + 6) (by omega)
        · rw [if_pos (by rw [decide_eq_false h6]; rfl)]
      · rw [if_neg (by rw [decide_eq_false h5]; simp)]
        rfl
    · rw [if_neg ha]
      rfl
end Go.Proofs.Ythfhjcbgccnijaa.Pure
