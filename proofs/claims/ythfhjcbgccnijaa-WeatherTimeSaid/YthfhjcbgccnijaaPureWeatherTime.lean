/- WeatherTime's plain statement: reports that are known later, or are about other days, do not matter. -/
import Derived.Test.YthfhjcbgccnijaaSayWeatherTime
import Derived.Test.YthfhjcbgccnijaaOf
import Derived.Test.YthfhjcbgccnijaaAdd
namespace Go.Proofs.Ythfhjcbgccnijaa.Pure
open Go.RowKit Go.Proofs.YthfhjcbgccnijaaW.PrintWords Go.Proofs.YthfhjcbgccnijaaW.PrintLast Go.Proofs.YthfhjcbgccnijaaW.PrintMore Go.Proofs.Ythfhjcbgccnijaa.Q
set_option linter.unusedVariables false
set_option linter.unusedSimpArgs false

theorem chk_iff (l : List S41) : chkV l = 0 ↔ l.length ≤ 4096 ∧ (∀ r ∈ l, vB r = true) ∧ l.Pairwise (fun a b => a.f0 < b.f0) := by
  constructor
  · intro h
    refine ⟨(chk_ok h).1, chk_valid h, ?_⟩
    rw [List.pairwise_iff_getElem]
    intro i j hi hj hij
    have := sorted_ h i j hij hj
    rwa [noAt_get l i hi, noAt_get l j hj] at this
  · rintro ⟨h1, h2, h3⟩
    unfold chkV
    rw [if_neg (by omega), if_pos]
    rw [List.all_eq_true]
    intro i hi
    have hi := List.mem_range.1 hi
    unfold goodAt
    have e : rd_T41 l (i : Int) = l[i] := by simp [rd_T41, List.getD_eq_getElem?_getD, hi]
    rw [e, h2 _ (List.getElem_mem hi), Bool.true_and]
    by_cases h0 : i = 0
    · simp [h0]
    · have e2 : rd_T41 l ((i - 1 : Nat) : Int) = l[i - 1] := by
        have hlt : i - 1 < l.length := by omega
        simp [rd_T41, List.getD_eq_getElem?_getD, hlt]
      rw [e2]
      have := (List.pairwise_iff_getElem.1 h3) (i - 1) i (by omega) hi (by omega)
      simp [this]
theorem chk_sub {l s : List S41} (h : chkV l = 0) (hs : s.Sublist l) : chkV s = 0 := by
  obtain ⟨h1, h2, h3⟩ := (chk_iff l).1 h
  exact (chk_iff s).2 ⟨Nat.le_trans hs.length_le h1, fun r hr => h2 r (hs.subset hr), h3.sublist hs⟩
theorem lastE_filter (g d t : Int) (l : List S41) : lastE g d t (l.filter (hit g d t)) = lastE g d t l := by
  unfold lastE
  generalize (fun _ => zE : Nat → RepE) = L
  induction l generalizing L with
  | nil => rfl
  | cons a r ih =>
    by_cases h : hit g d t a = true
    · rw [List.filter_cons_of_pos h, List.foldl_cons, List.foldl_cons, ih]
    · rw [List.filter_cons_of_neg h, List.foldl_cons, ih]
      congr 1
      unfold stepE
      rw [show hit g d t a = false by simpa using h]
      rfl
theorem oks_upd (L : Nat → RepE) (s : Nat) (e : RepE) : ∀ n, (oksOf (fun k => if k = s then e else L k) n).length ≤ (oksOf L n).length + (if s < n then 1 else 0)
  | 0 => by simp [oksOf]
  | n + 1 => by
    have ih := oks_upd L s e n
    rw [oksOf_succ, oksOf_succ, List.length_append, List.length_append]
    have h2 : ∀ (b : Bool) (x : S41), (if b = true then [x] else []).length ≤ 1 := fun b x => by cases b <;> simp
    by_cases h : n = s
    · subst h
      have ih' : (oksOf (fun k => if k = n then e else L k) n).length ≤ (oksOf L n).length := by simpa using ih
      have h1 : (if n < n + 1 then 1 else 0) = 1 := if_pos (by omega)
      rw [h1]
      have h3 := h2 (if n = n then e else L n).2 (if n = n then e else L n).1
      omega
    · have e1 : (if n = s then e else L n) = L n := if_neg h
      rw [e1]
      by_cases hs : s < n
      · rw [if_pos hs] at ih
        rw [if_pos (show s < n + 1 by omega)]
        omega
      · rw [if_neg hs] at ih
        rw [if_neg (show ¬ s < n + 1 by omega)]
        omega
theorem oks_le_hits (g d t : Int) (l : List S41) : ∀ (L : Nat → RepE), (oksOf (l.foldl (stepE g d t) L) 16).length ≤ (oksOf L 16).length + (l.filter (hit g d t)).length := by
  induction l with
  | nil => intro L; simp
  | cons a r ih =>
    intro L
    have h1 := ih (stepE g d t L a)
    rw [List.foldl_cons]
    by_cases h : hit g d t a = true
    · rw [List.filter_cons_of_pos h, List.length_cons]
      have h2 : (oksOf (stepE g d t L a) 16).length ≤ (oksOf L 16).length + 1 := by
        unfold stepE
        split
        · have := oks_upd L a.f1.toNat (a, true) 16
          split at this <;> omega
        · omega
      omega
    · rw [List.filter_cons_of_neg h]
      have h2 : stepE g d t L a = L := by
        unfold stepE
        rw [show hit g d t a = false by simpa using h]
        rfl
      rw [h2] at h1 ⊢
      exact h1
theorem says_le (g d t : Int) (l : List S41) : (says g d t l).length ≤ (l.filter (hit g d t)).length := by
  have := oks_le_hits g d t l (fun _ => zE)
  have h0 : oksOf (fun _ => zE) 16 = [] := rfl
  rw [h0] at this
  simpa [says, lastE] using this

theorem time_loop (l : List S41) (hc : chkV l = 0) (g d t : Int) (ha : argsB g d t = true) (s0 s1 s2 s3 : Int) (n : Int) (hv : weather_Of.f l g d t = some (s0, s1, s2, s3, n, 0)) : ∀ (m i : Nat), i + m = l.length → ∀ k, m < k →
    fastilaw27_WeatherTime.l0 k l g d t n ((l.take i).filter (hit g d t)) (i : Int) s0 s1 s2 s3 = some true
  | 0, i, h, k + 1, _ => by
    have hof : weather_Of.f (l.filter (hit g d t)) g d t = some (s0, s1, s2, s3, n, 0) := by
      rw [← hv]
      unfold weather_Of.f
      rw [if_pos hc, if_pos (chk_sub hc List.filter_sublist), if_pos ha, if_pos ha]
      unfold says
      rw [lastE_filter]
    have hle : n ≤ ((l.filter (hit g d t)).length : Int) := by
      unfold weather_Of.f at hv
      rw [if_pos hc, if_pos ha] at hv
      simp only [Option.some.injEq, Prod.mk.injEq] at hv
      have := says_le g d t l
      omega
    rw [fastilaw27_WeatherTime.l0, if_neg (by omega), List.take_of_length_le (by omega), hof, Option.bind_some]
    simp [hle]
  | m + 1, i, h, k + 1, hk => by
    have hlt : i < l.length := by omega
    have hn := (chk_ok hc).1
    have hw : wrap64 ((i : Int) + 1) = ((i + 1 : Nat) : Int) := by rw [wr_in (by omega)]; omega
    have ih := time_loop l hc g d t ha s0 s1 s2 s3 n hv m (i + 1) (by omega) k (by omega)
    have hr : l[i] = rd_T41 l (i : Int) := by simp [rd_T41, List.getD_eq_getElem?_getD, hlt]
    have hfl : ((l.take i).filter (hit g d t)).length ≤ 4096 := Nat.le_trans (List.length_filter_le _ _) (by rw [List.length_take]; omega)
    rw [List.take_succ_eq_append_getElem hlt, List.filter_append, hr] at ih
    rw [fastilaw27_WeatherTime.l0, if_pos (by omega), if_pos (by omega), hw]
    generalize rd_T41 l (i : Int) = r at ih ⊢
    by_cases h4 : r.f4 ≤ t
    · rw [if_pos h4]
      by_cases h2 : r.f2 = g
      · rw [if_pos h2]
        by_cases h3 : r.f3 = d
        · rw [if_pos h3, if_pos (by omega)]
          have hh : hit g d t r = true := by simp [hit, h2, h3, h4]
          rw [List.filter_cons_of_pos hh] at ih
          exact ih
        · rw [if_neg h3]
          have hh : hit g d t r = false := by unfold hit; rw [decide_eq_false h3]; simp
          rw [List.filter_cons_of_neg (by rw [hh]; simp), List.filter_nil, List.append_nil] at ih
          exact ih
      · rw [if_neg h2]
        have hh : hit g d t r = false := by unfold hit; rw [decide_eq_false h2]; rfl
        rw [List.filter_cons_of_neg (by rw [hh]; simp), List.filter_nil, List.append_nil] at ih
        exact ih
    · rw [if_neg h4]
      have hh : hit g d t r = false := by unfold hit; rw [decide_eq_false h4]; simp
      rw [List.filter_cons_of_neg (by rw [hh]; simp), List.filter_nil, List.append_nil] at ih
      exact ih
theorem WeatherTime : fastilaw27_WeatherTime.Pure := by
  intro l g d t _ _ _ _
  refine ⟨l.length + 1, ?_⟩
  unfold fastilaw27_WeatherTime.f
  rw [show fastilaw27_sane.f = some true from rfl, Option.bind_some, if_pos rfl]
  by_cases h : (l.length : Int) > 5000
  · rw [if_pos h]
  · rw [if_neg h]
    by_cases hc : chkV l = 0
    · by_cases ha : argsB g d t = true
      · have hv : ∃ s0 s1 s2 s3 n, weather_Of.f l g d t = some (s0, s1, s2, s3, n, 0) := by
          unfold weather_Of.f
          rw [if_pos hc, if_pos ha]
          exact ⟨_, _, _, _, _, rfl⟩
        obtain ⟨s0, s1, s2, s3, n, hv⟩ := hv
        rw [hv, Option.bind_some, if_pos rfl]
        exact time_loop l hc g d t ha s0 s1 s2 s3 n hv l.length 0 (by omega) _ (by omega)
      · have hv : weather_Of.f l g d t = some (0, 0, 0, 0, 0, 1) := by
          unfold weather_Of.f
          rw [if_pos hc, if_neg ha]
        rw [hv, Option.bind_some]
        rfl
    · have hv : weather_Of.f l g d t = some (0, 0, 0, 0, 0, chkV l) := by
        unfold weather_Of.f
        rw [if_neg hc]
      rw [hv, Option.bind_some, if_neg hc]
      rfl
end Go.Proofs.Ythfhjcbgccnijaa.Pure
