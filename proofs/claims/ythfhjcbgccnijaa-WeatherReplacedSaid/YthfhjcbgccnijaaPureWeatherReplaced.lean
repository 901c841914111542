/- WeatherReplaced's plain statement: what a source said before it corrected itself does not matter. -/
import Derived.Test.YthfhjcbgccnijaaSayWeatherReplaced
import Derived.Test.YthfhjcbgccnijaaOf
namespace Go.Proofs.Ythfhjcbgccnijaa.Pure
open Go.RowKit Go.Proofs.YthfhjcbgccnijaaW.PrintWords Go.Proofs.YthfhjcbgccnijaaW.PrintLast Go.Proofs.YthfhjcbgccnijaaW.PrintMore Go.Proofs.Ythfhjcbgccnijaa.Q
set_option linter.unusedVariables false
set_option linter.unusedSimpArgs false

theorem chk_iff (l : List S41) : chkV l = 0 ↔ l.length ≤ 4096 ∧ (∀ r ∈ l, vB r = true) ∧ l.Pairwise (fun a b => a.f0 < b.f0) := by
  constructor
  · intro h
    refine ⟨(chk_ok h).1, chk_valid h, ?_⟩
    rw [List.pairwise_iff_getElem]
    intro i j hi hj hij
    have := sorted_ h i j hij hj
    rwa [noAt_get l i hi, noAt_get l j hj] at this
  · rintro ⟨h1, h2, h3⟩
    unfold chkV
    rw [if_neg (by omega), if_pos]
    rw [List.all_eq_true]
    intro i hi
    have hi := List.mem_range.1 hi
    unfold goodAt
    have e : rd_T41 l (i : Int) = l[i] := by simp [rd_T41, List.getD_eq_getElem?_getD, hi]
    rw [e, h2 _ (List.getElem_mem hi), Bool.true_and]
    by_cases h0 : i = 0
    · simp [h0]
    · have e2 : rd_T41 l ((i - 1 : Nat) : Int) = l[i - 1] := by
        have hlt : i - 1 < l.length := by omega
        simp [rd_T41, List.getD_eq_getElem?_getD, hlt]
      rw [e2]
      have := (List.pairwise_iff_getElem.1 h3) (i - 1) i (by omega) hi (by omega)
      simp [this]
theorem chk_sub {l s : List S41} (h : chkV l = 0) (hs : s.Sublist l) : chkV s = 0 := by
  obtain ⟨h1, h2, h3⟩ := (chk_iff l).1 h
  exact (chk_iff s).2 ⟨Nat.le_trans hs.length_le h1, fun r hr => h2 r (hs.subset hr), h3.sublist hs⟩
/-- What one source says last. -/
def step1 (g d t : Int) (s : Nat) (p : RepE) (r : S41) : RepE := if hit g d t r && newer p r && decide (r.f1.toNat = s) then (r, true) else p
theorem fold1 (g d t : Int) (s : Nat) (l : List S41) : ∀ L : Nat → RepE, (l.foldl (stepE g d t) L) s = l.foldl (step1 g d t s) (L s) := by
  induction l with
  | nil => intro L; rfl
  | cons a r ih =>
    intro L
    rw [List.foldl_cons, List.foldl_cons, ih]
    congr 1
    unfold stepE step1
    by_cases hs : a.f1.toNat = s
    · subst hs
      by_cases h : (hit g d t a && newer (L a.f1.toNat) a) = true
      · rw [if_pos h, if_pos rfl, if_pos (by rw [Bool.and_eq_true]; exact ⟨h, by simp⟩)]
      · rw [if_neg h, if_neg (fun e => h ((Bool.and_eq_true _ _).mp e).1)]
    · rw [if_neg (show ¬ (hit g d t a && newer (L s) a && decide (a.f1.toNat = s)) = true by simp [hs])]
      split
      · exact if_neg (fun e => hs e.symm)
      · rfl
theorem last1 (g d t : Int) (l : List S41) (s : Nat) : lastE g d t l s = l.foldl (step1 g d t s) zE := fold1 g d t s l _
theorem step1_other {g d t : Int} {s : Nat} {r : S41} (h : r.f1.toNat ≠ s) (p : RepE) : step1 g d t s p r = p := by
  unfold step1
  rw [if_neg (by simp [h])]
theorem step1_hit {g d t : Int} {s : Nat} {r : S41} {p : RepE} (h : hit g d t r = true) (hn : newer p r = true) (hs : r.f1.toNat = s) : step1 g d t s p r = (r, true) := by
  unfold step1
  rw [h, hn, decide_eq_true hs]
  rfl
theorem step1_old {g d t : Int} {s : Nat} {r : S41} {p : RepE} (hn : newer p r = false) : step1 g d t s p r = p := by
  unfold step1
  rw [hn]
  simp
theorem step1_miss {g d t : Int} {s : Nat} {r : S41} {p : RepE} (h : hit g d t r = false) : step1 g d t s p r = p := by
  unfold step1
  rw [h]
  simp
theorem step1_cases (g d t : Int) (s : Nat) (p : RepE) (r : S41) : (step1 g d t s p r = p) ∨ (step1 g d t s p r = (r, true) ∧ hit g d t r = true ∧ newer p r = true ∧ r.f1.toNat = s) := by
  by_cases h : hit g d t r = true
  · by_cases hn : newer p r = true
    · by_cases hs : r.f1.toNat = s
      · exact .inr ⟨step1_hit h hn hs, h, hn, hs⟩
      · exact .inl (step1_other hs p)
    · exact .inl (step1_old (by simpa using hn))
  · exact .inl (step1_miss (by simpa using h))
theorem fold_up (g d t : Int) (s : Nat) (c : Int) : ∀ (q : List S41) (p : RepE), p.2 = true → c ≤ p.1.f4 → (q.foldl (step1 g d t s) p).2 = true ∧ c ≤ (q.foldl (step1 g d t s) p).1.f4
  | [], p, h1, h2 => ⟨h1, h2⟩
  | x :: q, p, h1, h2 => by
    rw [List.foldl_cons]
    rcases step1_cases g d t s p x with h | ⟨h, _, hn, _⟩
    · rw [h]; exact fold_up g d t s c q p h1 h2
    · rw [h]
      refine fold_up g d t s c q _ rfl ?_
      unfold newer at hn
      rw [h1] at hn
      have : p.1.f4 ≤ x.f4 := by simpa using hn
      show c ≤ x.f4
      omega
theorem fold_ge (g d t : Int) (s : Nat) (b : S41) (hb : hit g d t b = true) (hs : b.f1.toNat = s) : ∀ (q : List S41) (p : RepE), b ∈ q → (q.foldl (step1 g d t s) p).2 = true ∧ b.f4 ≤ (q.foldl (step1 g d t s) p).1.f4
  | [], p, h => by cases h
  | x :: q, p, h => by
    rw [List.foldl_cons]
    rcases List.mem_cons.1 h with rfl | h
    · by_cases hn : newer p b = true
      · rw [step1_hit hb hn hs]
        exact fold_up g d t s _ q _ rfl (Int.le_refl _)
      · rw [step1_old (by simpa using hn)]
        have hn' : newer p b = false := by simpa using hn
        unfold newer at hn'
        rw [Bool.or_eq_false_iff] at hn'
        have h1 : p.2 = true := by simpa using hn'.1
        have h2 : ¬ p.1.f4 ≤ b.f4 := by simpa using hn'.2
        exact fold_up g d t s _ q _ h1 (by omega)
    · exact fold_ge g d t s b hb hs q _ h
theorem fold_rep (g d t : Int) (s : Nat) (a : S41) : ∀ (q : List S41) (p : RepE), (p.2 = true → p.1.f4 ≤ a.f4) → (∃ b ∈ q, hit g d t b = true ∧ b.f1.toNat = s ∧ a.f4 ≤ b.f4) → q.foldl (step1 g d t s) (a, true) = q.foldl (step1 g d t s) p
  | [], p, _, h => by obtain ⟨b, hb, _⟩ := h; cases hb
  | x :: q, p, hp, h => by
    rw [List.foldl_cons, List.foldl_cons]
    by_cases hx : hit g d t x = true ∧ x.f1.toNat = s
    · obtain ⟨hx, hs⟩ := hx
      by_cases hc : a.f4 ≤ x.f4
      · rw [step1_hit hx (by unfold newer; simpa using hc) hs, step1_hit hx ?_ hs]
        unfold newer
        cases hp2 : p.2 with
        | false => rfl
        | true =>
          have := hp hp2
          simp only [Bool.not_true, Bool.false_or]
          exact decide_eq_true (by omega)
      · have e1 : step1 g d t s (a, true) x = (a, true) := step1_old (by unfold newer; simpa using hc)
        rw [e1]
        refine fold_rep g d t s a q _ ?_ ?_
        · rcases step1_cases g d t s p x with h1 | ⟨h1, _⟩
          · rw [h1]; exact hp
          · rw [h1]; intro _; show x.f4 ≤ a.f4; omega
        · obtain ⟨b, hb, b1, b2, b3⟩ := h
          rcases List.mem_cons.1 hb with rfl | hb
          · exact absurd b3 hc
          · exact ⟨b, hb, b1, b2, b3⟩
    · have hno : ∀ p : RepE, step1 g d t s p x = p := fun p => by
        rcases step1_cases g d t s p x with h1 | ⟨_, h1, _, h2⟩
        · exact h1
        · exact absurd ⟨h1, h2⟩ hx
      rw [hno, hno]
      refine fold_rep g d t s a q p hp ?_
      obtain ⟨b, hb, b1, b2, b3⟩ := h
      rcases List.mem_cons.1 hb with rfl | hb
      · exact absurd ⟨b1, b2⟩ hx
      · exact ⟨b, hb, b1, b2, b3⟩
/-- Is the report a replaced by the report b behind (later) or ahead of it? -/
def Repl (t : Int) (a b : S41) (later : Prop) : Prop := b.f1 = a.f1 ∧ b.f2 = a.f2 ∧ b.f3 = a.f3 ∧ b.f4 ≤ t ∧ (b.f4 > a.f4 ∨ (b.f4 = a.f4 ∧ later))
theorem last_repl (t : Int) (a : S41) (p q : List S41) (h : (∃ b ∈ p, Repl t a b False) ∨ ∃ b ∈ q, Repl t a b True) (s : Nat) : lastE a.f2 a.f3 t (p ++ a :: q) s = lastE a.f2 a.f3 t (p ++ q) s := by
  rw [last1, last1, List.foldl_append, List.foldl_append, List.foldl_cons]
  by_cases hs : a.f1.toNat = s
  · have hit_ : ∀ b P, Repl t a b P → hit a.f2 a.f3 t b = true ∧ b.f1.toNat = s := fun b P hb => by
      obtain ⟨b1, b2, b3, b4, _⟩ := hb
      refine ⟨by unfold hit; rw [decide_eq_true b2, decide_eq_true b3, decide_eq_true b4]; rfl, by rw [b1]; exact hs⟩
    rcases h with ⟨b, hb, hr⟩ | ⟨b, hb, hr⟩
    · obtain ⟨h1, h2⟩ := hit_ b _ hr
      obtain ⟨g1, g2⟩ := fold_ge a.f2 a.f3 t s b h1 h2 p zE hb
      have h4 : b.f4 > a.f4 := by
        rcases hr.2.2.2.2 with h | h
        · exact h
        · exact h.2.elim
      rw [step1_old]
      unfold newer
      rw [g1]
      simp only [Bool.not_true, Bool.false_or]
      exact decide_eq_false (by omega)
    · obtain ⟨h1, h2⟩ := hit_ b _ hr
      have h4 : a.f4 ≤ b.f4 := by rcases hr.2.2.2.2 with h | h <;> omega
      have ha : hit a.f2 a.f3 t a = true := by
        have := hr.2.2.2.1
        unfold hit
        rw [decide_eq_true rfl, decide_eq_true rfl, decide_eq_true (show a.f4 ≤ t by omega)]; rfl
      generalize p.foldl (step1 a.f2 a.f3 t s) zE = X
      by_cases hn : newer X a = true
      · rw [step1_hit ha hn hs]
        refine fold_rep a.f2 a.f3 t s a q X (fun hx => ?_) ⟨b, hb, h1, h2, h4⟩
        unfold newer at hn
        rw [hx] at hn
        simpa using hn
      · rw [step1_old (by simpa using hn)]
  · rw [step1_other hs]
theorem of_repl (t : Int) (l : List S41) (at_ : Nat) (hat : at_ < l.length) (hc : chkV l = 0) (h : ∃ j, ∃ hj : j < l.length, Repl t (l[at_]) (l[j]) (at_ < j)) :
    weather_Of.f (l.take at_ ++ l.drop (at_ + 1)) (l[at_]).f2 (l[at_]).f3 t = weather_Of.f l (l[at_]).f2 (l[at_]).f3 t := by
  have el : l = l.take at_ ++ l[at_] :: l.drop (at_ + 1) := by
    rw [← List.drop_eq_getElem_cons hat, List.take_append_drop]
  have hsub : (l.take at_ ++ l.drop (at_ + 1)).Sublist l := by
    refine List.Sublist.trans (List.Sublist.append (List.Sublist.refl _) (List.sublist_cons_self (l[at_]) _)) ?_
    rw [← el]
    exact List.Sublist.refl _
  have hL : lastE (l[at_]).f2 (l[at_]).f3 t (l.take at_ ++ l.drop (at_ + 1)) = lastE (l[at_]).f2 (l[at_]).f3 t l := by
    funext s
    refine Eq.trans (last_repl t (l[at_]) (l.take at_) (l.drop (at_ + 1)) ?_ s).symm (by rw [← el])
    obtain ⟨j, hj, hr⟩ := h
    rcases Nat.lt_trichotomy j at_ with h1 | h1 | h1
    · refine .inl ⟨l[j], ?_, hr.1, hr.2.1, hr.2.2.1, hr.2.2.2.1, ?_⟩
      · rw [List.mem_take_iff_getElem]
        exact ⟨j, by omega, rfl⟩
      · rcases hr.2.2.2.2 with h2 | h2
        · exact .inl h2
        · omega
    · subst h1
      rcases hr.2.2.2.2 with h2 | h2 <;> omega
    · refine .inr ⟨l[j], ?_, hr.1, hr.2.1, hr.2.2.1, hr.2.2.2.1, ?_⟩
      · rw [List.mem_drop_iff_getElem]
        exact ⟨j - (at_ + 1), by omega, by congr 1; omega⟩
      · rcases hr.2.2.2.2 with h2 | h2
        · exact .inl h2
        · exact .inr ⟨h2.1, trivial⟩
  unfold weather_Of.f
  rw [chk_sub hc hsub, hc]
  unfold says
  rw [hL]

theorem j4_eq (k : Nat) (b : Bool) : fastilaw27_WeatherReplaced.j4 (k + 1) b = some b := by rw [fastilaw27_WeatherReplaced.j4]
theorem repl_end (l : List S41) (at_ : Nat) (hat : at_ < l.length) (hl : l.length ≤ 5000) (t : Int) (x8 : Bool) (hx : x8 = true → ∃ j, ∃ hj : j < l.length, Repl t (l[at_]) (l[j]) (at_ < j)) (i : Int) (hi : ¬ i < (l.length : Int)) (k : Nat) (c4 c6 c7 c8 c9 c0 c1 : Int) :
    fastilaw27_WeatherReplaced.l0 (k + 2) l (at_ : Int) t x8 i c0 c1 (l[at_]).f2 (l[at_]).f3 c4 c6 c7 c8 c9 = some true := by
  rw [fastilaw27_WeatherReplaced.l0, if_neg hi]
  obtain ⟨v0, v1, v2, v3, v4, v5, hv⟩ : ∃ v0 v1 v2 v3 v4 v5, weather_Of.f l (l[at_]).f2 (l[at_]).f3 t = some (v0, v1, v2, v3, v4, v5) := by
    unfold weather_Of.f
    split
    · split
      · exact ⟨_, _, _, _, _, _, rfl⟩
      · exact ⟨_, _, _, _, _, _, rfl⟩
    · exact ⟨_, _, _, _, _, _, rfl⟩
  rw [hv, Option.bind_some]
  by_cases h0 : v5 = 0
  · subst h0
    rw [if_pos rfl]
    cases x8 with
    | false => rfl
    | true =>
      have hc : chkV l = 0 := by
        unfold weather_Of.f at hv
        by_cases hc : chkV l = 0
        · exact hc
        · rw [if_neg hc] at hv
          simp only [Option.some.injEq, Prod.mk.injEq] at hv
          exact hv.2.2.2.2.2
      have hw : wrap64 ((at_ : Int) + 1) = ((at_ + 1 : Nat) : Int) := by rw [wr_in (by omega)]; omega
      have ho := of_repl t l at_ hat hc (hx rfl)
      rw [if_pos rfl, Option.bind_some, if_pos (by omega), if_pos (by omega), Option.bind_some, if_pos (by simp only [List.length_nil, List.length_take, Int.toNat_natCast]; omega), Option.bind_some, hw, if_pos (by omega), if_pos (by omega), Option.bind_some, if_pos (by simp only [List.length_nil, List.nil_append, List.length_take, List.length_drop, Int.toNat_natCast]; omega), Int.toNat_natCast, Int.toNat_natCast, List.nil_append, ho, hv, Option.bind_some, if_pos rfl, j4_eq, j4_eq]
      simp
  · rw [if_neg h0]
theorem repl_loop (l : List S41) (at_ : Nat) (hat : at_ < l.length) (hl : l.length ≤ 5000) (t : Int) : ∀ (m i : Nat), i + m = l.length → ∀ (x8 : Bool), (x8 = true → ∃ j, ∃ hj : j < l.length, Repl t (l[at_]) (l[j]) (at_ < j)) → ∀ k, 3 * m + 1 < k →
    fastilaw27_WeatherReplaced.l0 k l (at_ : Int) t x8 (i : Int) (l[at_]).f0 (l[at_]).f1 (l[at_]).f2 (l[at_]).f3 (l[at_]).f4 (l[at_]).f5.f0 (l[at_]).f5.f1 (l[at_]).f6.f0 (l[at_]).f6.f1 = some true
  | 0, i, h, x8, hx, k, hk => by
    obtain ⟨q, rfl⟩ : ∃ q, k = q + 2 := ⟨k - 2, by omega⟩
    exact repl_end l at_ hat hl t x8 hx _ (by omega) q _ _ _ _ _ _ _
  | m + 1, i, h, x8, hx, k, hk => by
    obtain ⟨q, rfl⟩ : ∃ q, k = q + 3 := ⟨k - 3, by omega⟩
    have hlt : i < l.length := by omega
    have hw : wrap64 ((i : Int) + 1) = ((i + 1 : Nat) : Int) := by rw [wr_in (by omega)]; omega
    have ih := fun x8 hx => repl_loop l at_ hat hl t m (i + 1) (by omega) x8 hx q (by omega)
    have hrd : rd_T41 l (i : Int) = l[i] := by simp [rd_T41, List.getD_eq_getElem?_getD, hlt]
    have hF : fastilaw27_WeatherReplaced.j2 (q + 2) l (at_ : Int) t x8 (i : Int) false (l[at_]).f0 (l[at_]).f1 (l[at_]).f2 (l[at_]).f3 (l[at_]).f4 (l[at_]).f5.f0 (l[at_]).f5.f1 (l[at_]).f6.f0 (l[at_]).f6.f1 = some true := by
      rw [fastilaw27_WeatherReplaced.j2, if_neg (by simp), fastilaw27_WeatherReplaced.j3, hw]
      exact ih x8 hx
    have hT : Repl t (l[at_]) (l[i]) (at_ < i) → fastilaw27_WeatherReplaced.j2 (q + 2) l (at_ : Int) t x8 (i : Int) true (l[at_]).f0 (l[at_]).f1 (l[at_]).f2 (l[at_]).f3 (l[at_]).f4 (l[at_]).f5.f0 (l[at_]).f5.f1 (l[at_]).f6.f0 (l[at_]).f6.f1 = some true := fun hr => by
      rw [fastilaw27_WeatherReplaced.j2, if_pos rfl, fastilaw27_WeatherReplaced.j3, hw]
      exact ih true (fun _ => ⟨i, hlt, hr⟩)
    rw [fastilaw27_WeatherReplaced.l0, if_pos (by omega), if_pos (by omega), hrd]
    by_cases h1 : (l[i]).f1 = (l[at_]).f1
    · rw [if_pos h1]
      by_cases h2 : (l[i]).f2 = (l[at_]).f2
      · rw [if_pos h2]
        by_cases h3 : (l[i]).f3 = (l[at_]).f3
        · rw [if_pos h3]
          by_cases h4 : (l[i]).f4 ≤ t
          · rw [if_pos h4]
            by_cases h5 : (l[i]).f4 > (l[at_]).f4
            · rw [if_pos h5]
              exact hT ⟨h1, h2, h3, h4, .inl h5⟩
            · rw [if_neg h5]
              by_cases h6 : (l[i]).f4 = (l[at_]).f4
              · rw [if_pos h6]
                by_cases h7 : (i : Int) > (at_ : Int)
                · rw [decide_eq_true h7]
                  exact hT ⟨h1, h2, h3, h4, .inr ⟨h6, by omega⟩⟩
                · rw [decide_eq_false h7]
                  exact hF
              · rw [if_neg h6]
                exact hF
          · rw [if_neg h4]
            exact hF
        · rw [if_neg h3]
          exact hF
      · rw [if_neg h2]
        exact hF
    · rw [if_neg h1]
      exact hF
theorem WeatherReplaced : fastilaw27_WeatherReplaced.Pure := by
  intro l a t _ _ _
  refine ⟨3 * l.length + 10, ?_⟩
  unfold fastilaw27_WeatherReplaced.f
  have hj : ∀ b, fastilaw27_WeatherReplaced.j0 (3 * l.length + 10) l a t b = _ := fun b => by rw [fastilaw27_WeatherReplaced.j0]
  rw [show fastilaw27_sane.f = some true from rfl, Option.bind_some, if_pos rfl, hj, hj]
  by_cases h : (l.length : Int) > 5000
  · rw [if_pos h, if_pos rfl]
  · rw [if_neg h]
    by_cases h1 : a < 0
    · rw [if_pos h1, if_pos rfl]
    · rw [if_neg h1]
      by_cases h2 : a ≥ (l.length : Int)
      · rw [if_pos (decide_eq_true h2)]
      · rw [if_neg (by simpa using h2), if_pos (by omega), if_pos (by omega)]
        obtain ⟨n, rfl⟩ : ∃ n : Nat, a = (n : Int) := ⟨a.toNat, by omega⟩
        have hlt : n < l.length := by omega
        have hrd : rd_T41 l (n : Int) = l[n] := by simp [rd_T41, List.getD_eq_getElem?_getD, hlt]
        rw [hrd]
        exact repl_loop l n hlt (by omega) t l.length 0 (by omega) false (fun e => by cases e) _ (by omega)
end Go.Proofs.Ythfhjcbgccnijaa.Pure
