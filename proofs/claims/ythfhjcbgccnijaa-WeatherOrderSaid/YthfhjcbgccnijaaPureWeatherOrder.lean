/- WeatherOrder's plain statement: the order in which two reports are added does not matter. -/
import Derived.Test.YthfhjcbgccnijaaSayWeatherOrder
import Derived.Test.YthfhjcbgccnijaaAdd
import Derived.Test.YthfhjcbgccnijaaQ9
namespace Go.Proofs.Ythfhjcbgccnijaa.Pure
open Go.RowKit Go.Proofs.YthfhjcbgccnijaaW.PrintWords Go.Proofs.YthfhjcbgccnijaaW.PrintLast Go.Proofs.YthfhjcbgccnijaaW.PrintMore Go.Proofs.Ythfhjcbgccnijaa.Q
set_option linter.unusedVariables false
set_option linter.unusedSimpArgs false

theorem osame_loop (l : List S41) (hn : l.length ≤ 10000) : ∀ (m i : Nat), i + m = l.length → ∀ k, m < k → fastiref27_Same.l0 k l l (i : Int) = some true
  | 0, i, h, k + 1, _ => by
    rw [fastiref27_Same.l0, if_neg (by omega)]
  | m + 1, i, h, k + 1, hk => by
    have hw : wrap64 ((i : Int) + 1) = ((i + 1 : Nat) : Int) := by rw [wr_in (by omega)]; omega
    rw [fastiref27_Same.l0, if_pos (by omega), if_pos (by omega), if_pos (by omega), if_neg (by simp), hw]
    exact osame_loop l hn m (i + 1) (by omega) k (by omega)
theorem osame_refl (l : List S41) (hn : l.length ≤ 10000) (k : Nat) (hk : l.length < k) : fastiref27_Same.f k l l = some true := by
  unfold fastiref27_Same.f
  rw [if_pos rfl]
  exact osame_loop l hn l.length 0 (by omega) k hk

def insR (r : S41) : List S41 → List S41
  | [] => [r]
  | x :: t => if x.f0 < r.f0 then x :: insR r t else r :: x :: t
theorem insR_eq (r : S41) : ∀ l : List S41, insAt l (posV l r.f0) r = insR r l
  | [] => rfl
  | x :: t => by
    have ih := insR_eq r t
    unfold insR
    by_cases h : x.f0 < r.f0
    · have hp : posV (x :: t) r.f0 = posV t r.f0 + 1 := by unfold posV; rw [List.takeWhile_cons, if_pos (decide_eq_true h), List.length_cons]
      rw [if_pos h, hp, ← ih]
      rfl
    · have hp : posV (x :: t) r.f0 = 0 := by unfold posV; rw [List.takeWhile_cons, if_neg (by simpa using h)]; rfl
      rw [if_neg h, hp]
      rfl
theorem insR_comm (a b : S41) (hab : a.f0 ≠ b.f0) : ∀ l : List S41, insR b (insR a l) = insR a (insR b l)
  | [] => by
    simp only [insR]
    by_cases h : a.f0 < b.f0
    · rw [if_pos h, if_neg (by omega)]
    · rw [if_neg h, if_pos (by omega)]
  | x :: t => by
    have ih := insR_comm a b hab t
    by_cases h1 : x.f0 < a.f0
    · by_cases h2 : x.f0 < b.f0
      · simp only [insR, if_pos h1, if_pos h2, ih]
      · have h3 : b.f0 < a.f0 := by omega
        simp only [insR, if_pos h1, if_neg h2, if_pos h3]
    · by_cases h2 : x.f0 < b.f0
      · have h3 : a.f0 < b.f0 := by omega
        simp only [insR, if_neg h1, if_pos h2, if_pos h3]
      · by_cases h3 : a.f0 < b.f0
        · have h4 : ¬ b.f0 < a.f0 := by omega
          simp only [insR, if_neg h1, if_neg h2, if_pos h3, if_neg h4]
        · have h4 : b.f0 < a.f0 := by omega
          simp only [insR, if_neg h1, if_neg h2, if_neg h3, if_pos h4]
theorem mem_insR (r y : S41) : ∀ l : List S41, y ∈ insR r l ↔ y = r ∨ y ∈ l
  | [] => by simp [insR]
  | x :: t => by
    have ih := mem_insR r y t
    unfold insR
    split
    · rw [List.mem_cons, ih, List.mem_cons]
      constructor
      · rintro (h | h | h) <;> simp [h]
      · rintro (h | h | h) <;> simp [h]
    · rw [List.mem_cons]
theorem sort_insR (r : S41) : ∀ l : List S41, l.Pairwise (fun a b => a.f0 < b.f0) → (∀ y ∈ l, y.f0 ≠ r.f0) → (insR r l).Pairwise (fun a b => a.f0 < b.f0)
  | [], _, _ => by simp [insR]
  | x :: t, h, hn => by
    obtain ⟨h1, h2⟩ := List.pairwise_cons.1 h
    have ih := sort_insR r t h2 (fun y hy => hn y (by simp [hy]))
    unfold insR
    split
    · rename_i hc
      refine List.pairwise_cons.2 ⟨fun y hy => ?_, ih⟩
      rcases (mem_insR r y t).1 hy with rfl | hy
      · exact hc
      · exact h1 y hy
    · rename_i hc
      have hx := hn x (by simp)
      refine List.pairwise_cons.2 ⟨fun y hy => ?_, h⟩
      rcases List.mem_cons.1 hy with rfl | hy
      · omega
      · have := h1 y hy; omega
theorem ochk_iff (l : List S41) : chkV l = 0 ↔ l.length ≤ 4096 ∧ (∀ r ∈ l, vB r = true) ∧ l.Pairwise (fun a b => a.f0 < b.f0) := by
  constructor
  · intro h
    refine ⟨(chk_ok h).1, chk_valid h, ?_⟩
    rw [List.pairwise_iff_getElem]
    intro i j hi hj hij
    have := sorted_ h i j hij hj
    rwa [noAt_get l i hi, noAt_get l j hj] at this
  · rintro ⟨h1, h2, h3⟩
    unfold chkV
    rw [if_neg (by omega), if_pos]
    rw [List.all_eq_true]
    intro i hi
    have hi := List.mem_range.1 hi
    unfold goodAt
    have e : rd_T41 l (i : Int) = l[i] := by simp [rd_T41, List.getD_eq_getElem?_getD, hi]
    rw [e, h2 _ (List.getElem_mem hi), Bool.true_and]
    by_cases h0 : i = 0
    · simp [h0]
    · have e2 : rd_T41 l ((i - 1 : Nat) : Int) = l[i - 1] := by
        have hlt : i - 1 < l.length := by omega
        simp [rd_T41, List.getD_eq_getElem?_getD, hlt]
      rw [e2]
      have := (List.pairwise_iff_getElem.1 h3) (i - 1) i (by omega) hi (by omega)
      simp [this]
theorem oposV : ∀ (l : List S41) (x : Int), (∀ j, j < posV l x → noAt l j < x) ∧ (posV l x < l.length → x ≤ noAt l (posV l x))
  | [], x => ⟨fun j hj => by simp [posV] at hj, fun h => by simp at h⟩
  | a :: r, x => by
    by_cases h : a.f0 < x
    · have hp : posV (a :: r) x = posV r x + 1 := by unfold posV; rw [List.takeWhile_cons, if_pos (decide_eq_true h), List.length_cons]
      have ih := oposV r x
      have hc : ∀ j, noAt (a :: r) (j + 1) = noAt r j := fun j => by simp [noAt, rd_T41]
      rw [hp]
      refine ⟨fun j hj => ?_, fun hj => ?_⟩
      · cases j with
        | zero => rw [noAt_get _ _ (by simp)]; exact h
        | succ j => rw [hc]; exact ih.1 j (by omega)
      · rw [hc]
        exact ih.2 (by simpa using hj)
    · have hp : posV (a :: r) x = 0 := by unfold posV; rw [List.takeWhile_cons, if_neg (by simpa using h)]; rfl
      rw [hp]
      refine ⟨fun j hj => by omega, fun hj => ?_⟩
      rw [noAt_get _ _ (by simp)]
      show x ≤ a.f0
      omega
theorem twice_iff {l : List S41} (h : chkV l = 0) (v : Int) : twiceB l v = true ↔ ∃ y ∈ l, y.f0 = v := by
  unfold twiceB
  rw [Bool.and_eq_true, decide_eq_true_eq, decide_eq_true_eq]
  constructor
  · rintro ⟨h1, h2⟩
    exact ⟨l[posV l v], List.getElem_mem h1, by rw [← noAt_get l _ h1]; exact h2⟩
  · rintro ⟨y, hy, hv⟩
    obtain ⟨i, hi, rfl⟩ := List.getElem_of_mem hy
    rw [← noAt_get l i hi] at hv
    obtain ⟨p1, p2⟩ := oposV l v
    have h1 : posV l v ≤ i := by
      rcases Nat.lt_or_ge i (posV l v) with h3 | h3
      · have := p1 i h3; omega
      · exact h3
    have h2 := p2 (by omega)
    refine ⟨by omega, ?_⟩
    rcases Nat.lt_or_ge (posV l v) i with h3 | h3
    · have := sorted_ h _ _ h3 hi; omega
    · obtain rfl : posV l v = i := by omega
      exact hv
theorem addV_err {l : List S41} {r : S41} (h : (addV l r).2 ≠ 0) : (addV l r).1 = [] := by
  unfold addV at h ⊢
  split at h
  · rename_i h1
    rw [if_pos h1]
    split at h
    · rename_i h2
      rw [if_pos h2]
      split at h
      · rename_i h3
        rw [if_pos h3]
      · rename_i h3
        rw [if_neg h3]
        split at h
        · rename_i h4
          rw [if_pos h4]
        · exact absurd rfl h
    · rename_i h2
      rw [if_neg h2]
  · rename_i h1
    rw [if_neg h1]
theorem addV_ok {l : List S41} {r : S41} (h : (addV l r).2 = 0) : chkV l = 0 ∧ vB r = true ∧ twiceB l r.f0 = false ∧ ¬ l.length = 4096 ∧ (addV l r).1 = insR r l := by
  unfold addV at h ⊢
  by_cases h1 : chkV l = 0
  · rw [if_pos h1] at h ⊢
    by_cases h2 : vB r = true
    · rw [if_pos h2] at h ⊢
      by_cases h3 : twiceB l r.f0 = true
      · rw [if_pos h3] at h; cases h
      · rw [if_neg h3] at h ⊢
        by_cases h4 : l.length = 4096
        · rw [if_pos h4] at h; cases h
        · rw [if_neg h4]
          exact ⟨h1, h2, by simpa using h3, h4, insR_eq r l⟩
    · rw [if_neg h2] at h; cases h
  · rw [if_neg h1] at h
    exact absurd h h1
theorem insR_length (r : S41) (l : List S41) : (insR r l).length = l.length + 1 := by
  rw [← insR_eq, insAt_length _ _ _ (posV_le l r.f0)]
theorem add_second {l : List S41} {a b : S41} (ha : (addV l a).2 = 0) (hb : (addV l b).2 = 0) :
    addV (insR a l) b = if a.f0 = b.f0 then ([], 171) else if l.length = 4095 then ([], 2) else (insR b (insR a l), 0) := by
  obtain ⟨c1, a2, a3, a4, _⟩ := addV_ok ha
  obtain ⟨_, b2, b3, _, _⟩ := addV_ok hb
  obtain ⟨l1, l2, l3⟩ := (ochk_iff l).1 c1
  have hna : ∀ y ∈ l, y.f0 ≠ a.f0 := fun y hy e => by
    have := (twice_iff c1 a.f0).2 ⟨y, hy, e⟩
    rw [a3] at this; cases this
  have hnb : ∀ y ∈ l, y.f0 ≠ b.f0 := fun y hy e => by
    have := (twice_iff c1 b.f0).2 ⟨y, hy, e⟩
    rw [b3] at this; cases this
  have hc : chkV (insR a l) = 0 := (ochk_iff _).2 ⟨by rw [insR_length]; omega, fun y hy => by
    rcases (mem_insR a y l).1 hy with rfl | hy
    · exact a2
    · exact l2 y hy, sort_insR a l l3 hna⟩
  have ht : twiceB (insR a l) b.f0 = decide (a.f0 = b.f0) := by
    rw [Bool.eq_iff_iff, twice_iff hc, decide_eq_true_eq]
    constructor
    · rintro ⟨y, hy, e⟩
      rcases (mem_insR a y l).1 hy with rfl | hy
      · exact e
      · exact absurd e (hnb y hy)
    · intro e
      exact ⟨a, (mem_insR a a l).2 (.inl rfl), e⟩
  unfold addV
  rw [if_pos hc, if_pos b2, ht, insR_eq, insR_length]
  by_cases h : a.f0 = b.f0
  · rw [if_pos (decide_eq_true h), if_pos h]
  · rw [if_neg (by simpa using h), if_neg h]
    by_cases h4 : l.length = 4095
    · rw [if_pos (by omega), if_pos h4]
    · rw [if_neg (by omega), if_neg h4]

theorem WeatherOrder : fastilaw27_WeatherOrder.Pure := by
  intro l a b _ _ _
  refine ⟨l.length + 6, ?_⟩
  unfold fastilaw27_WeatherOrder.f
  rw [show fastilaw27_sane.f = some true from rfl, Option.bind_some, if_pos rfl]
  by_cases h : (l.length : Int) > 5000
  · rw [if_pos h]
  · rw [if_neg h, show weather_Add.f l a.f0 a.f1 a.f2 a.f3 a.f4 a.f5.f0 a.f5.f1 a.f6.f0 a.f6.f1 = some (addV l a) from rfl, Option.bind_some, show weather_Add.f l b.f0 b.f1 b.f2 b.f3 b.f4 b.f5.f0 b.f5.f1 b.f6.f0 b.f6.f1 = some (addV l b) from rfl, Option.bind_some]
    by_cases ha : (addV l a).2 = 0
    · rw [if_pos ha]
      by_cases hb : (addV l b).2 = 0
      · rw [fastilaw27_WeatherOrder.j0, if_neg (by simp [hb])]
        have s1 := add_second ha hb
        have s2 := add_second hb ha
        rw [(addV_ok ha).2.2.2.2, (addV_ok hb).2.2.2.2, show weather_Add.f (insR a l) b.f0 b.f1 b.f2 b.f3 b.f4 b.f5.f0 b.f5.f1 b.f6.f0 b.f6.f1 = some (addV (insR a l) b) from rfl, Option.bind_some,
          show weather_Add.f (insR b l) a.f0 a.f1 a.f2 a.f3 a.f4 a.f5.f0 a.f5.f1 a.f6.f0 a.f6.f1 = some (addV (insR b l) a) from rfl, Option.bind_some]
        by_cases hab : a.f0 = b.f0
        · rw [if_pos hab] at s1
          rw [if_pos hab.symm] at s2
          rw [s1, s2, if_pos rfl, osame_refl [] (by simp) _ (by simp), Option.bind_some, if_pos rfl, if_neg (by decide), if_pos hab, if_pos rfl]
        · rw [if_neg hab] at s1
          rw [if_neg (show ¬ b.f0 = a.f0 from fun e => hab e.symm)] at s2
          by_cases h5 : l.length = 4095
          · rw [if_pos h5] at s1 s2
            rw [s1, s2, if_pos rfl, osame_refl [] (by simp) _ (by simp), Option.bind_some, if_pos rfl, if_neg (by decide), if_neg hab, if_pos (by omega)]
            rfl
          · rw [if_neg h5] at s1 s2
            rw [s1, s2, if_pos rfl, insR_comm a b hab l, osame_refl _ (by rw [insR_length, insR_length]; omega) _ (by rw [insR_length, insR_length]; omega), Option.bind_some, if_pos rfl, if_pos rfl]
      · rw [fastilaw27_WeatherOrder.j0, if_pos (by simp [hb]), if_pos ha, if_neg hb, addV_err hb]
        rfl
    · rw [if_neg ha, fastilaw27_WeatherOrder.j0, if_pos rfl, if_neg ha, addV_err ha, if_pos (by simp)]
      by_cases hb : (addV l b).2 = 0
      · rw [if_pos hb]
      · rw [if_neg hb, addV_err hb]
        rfl
end Go.Proofs.Ythfhjcbgccnijaa.Pure
