/- What the reference says about the weather of a day, as the plain function of weather.Of. -/
import Derived.Test.YthfhjcbgccnijaaQ14
import Derived.Test.YthfhjcbgccnijaaWsP
import Derived.Test.YthfhjcbgccnijaaOf
namespace Go.Proofs.Ythfhjcbgccnijaa.Q
open Go.RowKit Go.Proofs.YthfhjcbgccnijaaW.PrintWords Go.Proofs.YthfhjcbgccnijaaW.PrintLast Go.Proofs.YthfhjcbgccnijaaW.PrintMore
set_option linter.unusedVariables false
set_option linter.unusedSimpArgs false

theorem says_loop (l : List S41) (hn : l.length ≤ 4096) (hv : ∀ r ∈ l, 0 ≤ r.f1 ∧ r.f1 ≤ 15) (s : Nat) (g d t : Int) : ∀ (m i : Nat), i + m = l.length → ∀ (p q : RepE), lastE g d t (l.take i) s = p → lastE g d t l s = q → ∀ k, m < k →
    fastiref27_Says.l0 k l (s : Int) g d t p.2 (i : Int) p.1.f0 p.1.f1 p.1.f2 p.1.f3 p.1.f4 p.1.f5.f0 p.1.f5.f1 p.1.f6.f0 p.1.f6.f1 = some (q.1.f0, q.1.f1, q.1.f2, q.1.f3, q.1.f4, q.1.f5.f0, q.1.f5.f1, q.1.f6.f0, q.1.f6.f1, q.2)
  | 0, i, h, p, q, hp, hq, k + 1, _ => by
    obtain rfl : p = q := by rw [← hp, ← hq, List.take_of_length_le (by omega)]
    rw [fastiref27_Says.l0, if_neg (by omega)]
  | m + 1, i, h, p, q, hp, hq, k + 1, hk => by
    have hw : wrap64 ((i : Int) + 1) = ((i + 1 : Nat) : Int) := by rw [wr_in (by omega)]; omega
    have hst := lastE_take g d t l i (by omega)
    have hr : rd_T41 l (i : Int) ∈ l := by
      have hlt : i < l.length := by omega
      simp [rd_T41, List.getD_eq_getElem?_getD, hlt]
    obtain ⟨hv0, hv1⟩ := hv _ hr
    have ih := fun p' hp' => says_loop l hn hv s g d t m (i + 1) (by omega) p' q hp' hq k (by omega)
    rw [fastiref27_Says.l0, if_pos (by omega), if_pos (by omega), hw]
    generalize rd_T41 l (i : Int) = r at hst hv0 hv1 ⊢
    have hkeep : ((hit g d t r && newer (lastE g d t (l.take i) r.f1.toNat) r) = false ∨ s ≠ r.f1.toNat) → lastE g d t (l.take (i + 1)) s = p := by
      intro hh
      rw [hst]
      unfold stepE
      rcases hh with hh | hh
      · rw [hh]; exact hp
      · split
        · exact (if_neg hh).trans hp
        · exact hp
    by_cases h1 : r.f1 = (s : Int)
    · have hs : s = r.f1.toNat := by omega
      have hnew : hit g d t r = true → newer p r = true → lastE g d t (l.take (i + 1)) s = (r, true) := by
        intro a b
        rw [hst]
        unfold stepE
        rw [a, ← hs, hp, b]
        simp
      have hkeep2 : (hit g d t r && newer p r) = false → lastE g d t (l.take (i + 1)) s = p := fun a => hkeep (.inl (by rw [← hs, hp]; exact a))
      rw [if_pos h1]
      by_cases h2 : r.f2 = g
      · rw [if_pos h2]
        by_cases h3 : r.f3 = d
        · rw [if_pos h3]
          by_cases h4 : r.f4 ≤ t
          · rw [if_pos h4]
            have hh : hit g d t r = true := by simp [hit, h2, h3, h4]
            obtain ⟨pr, pb⟩ := p
            cases pb with
            | false =>
              rw [if_neg (by simp)]
              exact ih (r, true) (hnew hh (by simp [newer]))
            | true =>
              rw [if_pos rfl]
              by_cases h5 : r.f4 ≥ pr.f4
              · rw [if_pos h5]
                exact ih (r, true) (hnew hh (by simp only [newer, Bool.not_true, Bool.false_or]; exact decide_eq_true h5))
              · rw [if_neg h5]
                exact ih (pr, true) (hkeep2 (by rw [hh, Bool.true_and]; simp only [newer, Bool.not_true, Bool.false_or]; exact decide_eq_false h5))
          · rw [if_neg h4]
            exact ih p (hkeep2 (by rw [show hit g d t r = false by unfold hit; rw [decide_eq_false h4]; simp]; rfl))
        · rw [if_neg h3]
          exact ih p (hkeep2 (by rw [show hit g d t r = false by unfold hit; rw [decide_eq_false h3]; simp]; rfl))
      · rw [if_neg h2]
        exact ih p (hkeep2 (by rw [show hit g d t r = false by unfold hit; rw [decide_eq_false h2]; rfl]; rfl))
    · rw [if_neg h1]
      exact ih p (hkeep (.inr (by omega)))
theorem says_ref (l : List S41) (hn : l.length ≤ 4096) (hv : ∀ r ∈ l, 0 ≤ r.f1 ∧ r.f1 ≤ 15) (s : Nat) (g d t : Int) (k : Nat) (hk : l.length < k) :
    fastiref27_Says.f k l (s : Int) g d t = some ((lastE g d t l s).1.f0, (lastE g d t l s).1.f1, (lastE g d t l s).1.f2, (lastE g d t l s).1.f3, (lastE g d t l s).1.f4, (lastE g d t l s).1.f5.f0, (lastE g d t l s).1.f5.f1, (lastE g d t l s).1.f6.f0, (lastE g d t l s).1.f6.f1, (lastE g d t l s).2) :=
  says_loop l hn hv s g d t l.length 0 (by omega) zE _ rfl rfl k hk

def pr (x : S27) : Int × Int := (x.f0, x.f1)
theorem join_loop (xs : List S27) (hn : xs.length ≤ 16) : ∀ (m i : Nat), i + m = xs.length → ∀ (a b c d : Int) (k : Nat), m < k →
    fastiref27_join.l0 k xs (i : Int) a b c d = some (let p := ((xs.drop i).map pr).foldl meetS ((a, b), (c, d)); if p.1.1 ≤ p.1.2 then p.1 else p.2)
  | 0, i, h, a, b, c, d, k + 1, _ => by
    rw [fastiref27_join.l0, if_neg (by omega), List.drop_eq_nil_of_le (by omega)]
    simp only [List.map_nil, List.foldl_nil]
    split <;> rfl
  | m + 1, i, h, a, b, c, d, k + 1, hk => by
    have hw : wrap64 ((i : Int) + 1) = ((i + 1 : Nat) : Int) := by rw [wr_in (by omega)]; omega
    have hlt : i < xs.length := by omega
    have hd : xs.drop i = rd_T27 xs (i : Int) :: xs.drop (i + 1) := by
      rw [List.drop_eq_getElem_cons hlt]
      simp [rd_T27, List.getD_eq_getElem?_getD, hlt]
    rw [fastiref27_join.l0, if_pos (by omega), if_pos (by omega), hw, join_loop xs hn m (i + 1) (by omega) _ _ _ _ k (by omega), hd]
    rfl
theorem join_ref (xs : List S27) (m : Int) (hn : xs.length ≤ 16) (h0 : 0 < xs.length) (hx : ∀ x ∈ xs, 0 ≤ x.f0 ∧ x.f0 ≤ x.f1 ∧ x.f1 ≤ m) (k : Nat) (hk : xs.length < k) : fastiref27_join.f k xs = some (skyV m (xs.map pr)) := by
  unfold fastiref27_join.f
  rw [if_pos (by omega)]
  cases xs with
  | nil => simp at h0
  | cons x r =>
    obtain ⟨h1, h2, h3⟩ := hx x (by simp)
    have e := join_loop (x :: r) hn r.length 1 (by simp; omega) (rd_T27 (x :: r) 0).f0 (rd_T27 (x :: r) 0).f1 (rd_T27 (x :: r) 0).f0 (rd_T27 (x :: r) 0).f1 k (by simp at hk; omega)
    have hrd : rd_T27 (x :: r) 0 = x := rfl
    rw [hrd] at e ⊢
    refine (show _ = _ from e).trans ?_
    have hj : joinS m ((x :: r).map pr) = (r.map pr).foldl meetS ((x.f0, x.f1), (x.f0, x.f1)) := by
      unfold joinS
      rw [List.map_cons, List.foldl_cons]
      congr 1
      unfold meetS pr mx mn
      simp only
      rw [show (if (0 : Int) < x.f0 then x.f0 else 0) = x.f0 by split <;> omega, show (if x.f1 < m then x.f1 else m) = x.f1 by split <;> omega, show (if x.f0 < m then x.f0 else m) = x.f0 by split <;> omega, show (if (0 : Int) < x.f1 then x.f1 else 0) = x.f1 by split <;> omega]
    unfold skyV
    rw [hj]
    simp only [List.drop_succ_cons, List.drop_zero]
    generalize (r.map pr).foldl meetS ((x.f0, x.f1), (x.f0, x.f1)) = p
    by_cases hc : p.1.1 ≤ p.1.2
    · rw [if_pos hc, if_neg (by omega)]
    · rw [if_neg hc, if_pos (by omega)]

theorem lastE_mem (g d t : Int) (l : List S41) (s : Nat) : ∀ i, i ≤ l.length → (lastE g d t (l.take i) s).2 = true → (lastE g d t (l.take i) s).1 ∈ l
  | 0, _, h => by simp [lastE, zE] at h
  | i + 1, hi, h => by
    have ih := lastE_mem g d t l s i (by omega)
    rw [lastE_take g d t l i (by omega)] at h ⊢
    have hr : rd_T41 l (i : Int) ∈ l := by
      have hlt : i < l.length := by omega
      simp [rd_T41, List.getD_eq_getElem?_getD, hlt]
    generalize rd_T41 l (i : Int) = r at h hr ⊢
    unfold stepE at h ⊢
    split at h
    · rename_i hc
      rw [if_pos hc]
      simp only at h ⊢
      split at h
      · rename_i hs
        rw [if_pos hs]
        exact hr
      · rename_i hs
        rw [if_neg hs]
        exact ih h
    · rename_i hc
      rw [if_neg hc]
      exact ih h
theorem says_mem {g d t : Int} {l : List S41} {r : S41} (h : r ∈ says g d t l) : r ∈ l := by
  unfold says oksOf at h
  obtain ⟨s, hs, rfl⟩ := List.mem_map.1 h
  have h2 := (List.mem_filter.1 hs).2
  have := lastE_mem g d t l s l.length (Nat.le_refl _)
  rw [List.take_length] at this
  exact this h2
theorem vB_ranges {r : S41} (h : vB r = true) : (0 ≤ r.f5.f0 ∧ r.f5.f0 ≤ r.f5.f1 ∧ r.f5.f1 ≤ 200) ∧ 0 ≤ r.f6.f0 ∧ r.f6.f0 ≤ r.f6.f1 ∧ r.f6.f1 ≤ 40 := by
  unfold vB at h
  simp only [Bool.and_eq_true, List.all_cons, List.all_nil, Bool.and_true, okw, okr, decide_eq_true_eq] at h
  omega
theorem of_loop (l : List S41) (hc : chkV l = 0) (g d t : Int) : ∀ (m i : Nat), i + m = 16 → ∀ k, m + l.length + 20 < k →
    fastiref27_Of.l0 k l g d t ((oksOf (lastE g d t l) i).map (fun r => r.f5)) ((oksOf (lastE g d t l) i).map (fun r => r.f6)) (i : Int) =
      some ((skyV 200 ((says g d t l).map rng_rain)).1, (skyV 200 ((says g d t l).map rng_rain)).2, (skyV 40 ((says g d t l).map rng_frost)).1, (skyV 40 ((says g d t l).map rng_frost)).2, ((says g d t l).length : Int), 0)
  | 0, i, h, k + 1, hk => by
    obtain rfl : i = 16 := by omega
    have hsy : oksOf (lastE g d t l) 16 = says g d t l := rfl
    have hl16 : (says g d t l).length ≤ 16 := oksOf_le _ 16
    rw [fastiref27_Of.l0, if_neg (by decide), hsy]
    by_cases h0 : (says g d t l).length = 0
    · have hnil := List.eq_nil_of_length_eq_zero h0
      rw [if_pos (by rw [List.length_map]; omega), hnil]
      rfl
    · rw [if_neg (by rw [List.length_map]; omega)]
      have hm : ∀ r ∈ says g d t l, vB r = true := fun r hr => chk_valid hc r (says_mem hr)
      rw [join_ref _ 200 (by rw [List.length_map]; omega) (by rw [List.length_map]; omega) (fun x hx => by obtain ⟨r, hr, rfl⟩ := List.mem_map.1 hx; exact (vB_ranges (hm r hr)).1) k (by rw [List.length_map]; omega), Option.bind_some,
        join_ref _ 40 (by rw [List.length_map]; omega) (by rw [List.length_map]; omega) (fun x hx => by obtain ⟨r, hr, rfl⟩ := List.mem_map.1 hx; exact (vB_ranges (hm r hr)).2) k (by rw [List.length_map]; omega), Option.bind_some, List.map_map, List.map_map, List.length_map]
      rfl
  | m + 1, i, h, k + 1, hk => by
    have hw : wrap64 ((i : Int) + 1) = ((i + 1 : Nat) : Int) := by rw [wr_in (by omega)]; omega
    have hli : (oksOf (lastE g d t l) i).length ≤ i := oksOf_le _ i
    have hv : ∀ r ∈ l, 0 ≤ r.f1 ∧ r.f1 ≤ 15 := fun r hr => vB_source (chk_valid hc r hr)
    have ih := of_loop l hc g d t m (i + 1) (by omega) k (by omega)
    rw [oksOf_succ] at ih
    rw [fastiref27_Of.l0, if_pos (by omega), says_ref l (chk_ok hc).1 hv i g d t k (by omega), Option.bind_some, hw]
    generalize lastE g d t l i = p at ih ⊢
    obtain ⟨pr_, pb⟩ := p
    cases pb with
    | false =>
      rw [if_neg (by simp)]
      simpa using ih
    | true =>
      rw [if_pos rfl, if_pos (by rw [List.length_map]; omega), if_pos (by rw [List.length_map]; omega)]
      simpa using ih
theorem of_ref (l : List S41) (g d t : Int) (k : Nat) (hk : l.length + 50 < k) : fastiref27_Of.f k l g d t = weather_Of.f l g d t := by
  unfold fastiref27_Of.f weather_Of.f argsB
  have e : ∀ x m, [x].all (okw m) = okw m x := fun x m => by simp
  rw [e, e, e, ref_chk l k (by omega), Option.bind_some]
  obtain ⟨q, rfl⟩ : ∃ q, k = q + 1 := ⟨k - 1, by omega⟩
  have hj : ∀ b, fastiref27_Of.j0 (q + 1) l g d t b = if b = true then some (0, 0, 0, 0, 0, 1) else fastiref27_Of.l0 q l g d t [] [] 0 := fun b => by rw [fastiref27_Of.j0]
  by_cases h : chkV l = 0
  · rw [if_pos h, if_pos h, ref_within, Option.bind_some]
    cases okw 63 g with
    | false => rw [if_neg (by simp), hj]; rfl
    | true =>
      rw [if_pos rfl, ref_within, Option.bind_some]
      cases okw 73048 d with
      | false => rw [if_neg (by simp), hj]; rfl
      | true =>
        rw [if_pos rfl, ref_within, Option.bind_some, hj]
        cases okw 134217727 t with
        | false => rfl
        | true =>
          rw [if_neg (by simp), if_pos (by simp)]
          exact of_loop l h g d t 16 0 (by omega) q (by omega)
  · rw [if_neg h, if_neg h]
end Go.Proofs.Ythfhjcbgccnijaa.Q
