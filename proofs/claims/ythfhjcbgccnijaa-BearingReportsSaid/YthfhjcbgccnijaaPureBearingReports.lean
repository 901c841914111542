/- The plain law of BearingReports. -/
import Derived.Test.YthfhjcbgccnijaaSayBearingReports
import Derived.Test.YthfhjcbgccnijaaTrW
import Derived.Test.YthfhjcbgccnijaaWtU
namespace Go.Proofs.Ythfhjcbgccnijaa.Pure
open Go.RowKit Go.Proofs.Ythfhjcbgccnijaa.Q Go.Proofs.YthfhjcbgccnijaaW.PrintWords Go.Proofs.YthfhjcbgccnijaaW.PrintLast Go.Proofs.YthfhjcbgccnijaaW.PrintMore
set_option linter.unusedVariables false
set_option linter.unusedSimpArgs false

theorem getV_in {l : List Int} {i : Nat} {most : Int} (hm : 0 ≤ most ∧ most ≤ 1000) (hl : ∀ a, a ∈ l → 0 ≤ a ∧ a ≤ 255) : 0 ≤ getV l i most ∧ getV l i most ≤ most := by
  unfold getV
  split
  · rename_i h
    have hmem : rd l i ∈ l := by
      unfold rd
      rw [Int.toNat_natCast, List.getD_eq_getElem?_getD, List.getElem?_eq_getElem (by omega)]
      exact List.getElem_mem _
    have hb := hl _ hmem
    rw [wrap_in (x := rd l i) (by omega), wrap_in (x := most + 1) (by omega), Int.tmod_eq_emod_of_nonneg hb.1]
    have h1 := Int.emod_nonneg (rd l i) (b := most + 1) (by omega)
    have h2 := Int.emod_lt_of_pos (rd l i) (b := most + 1) (by omega)
    omega
  · omega
/-- What is known about a day contains what it was. -/
theorem skyD_in (l1 l2 l3 l4 : List Int) (j : Nat) (b1 : ∀ a, a ∈ l1 → 0 ≤ a ∧ a ≤ 255) (b2 : ∀ a, a ∈ l2 → 0 ≤ a ∧ a ≤ 255) (b3 : ∀ a, a ∈ l3 → 0 ≤ a ∧ a ≤ 255) (b4 : ∀ a, a ∈ l4 → 0 ≤ a ∧ a ≤ 255) :
    ((0 ≤ getV l1 j 200 ∧ getV l1 j 200 ≤ 200) ∧ 0 ≤ getV l2 j 40 ∧ getV l2 j 40 ≤ 40) ∧
    (0 ≤ (skyD l1 l2 l3 l4 j).2.2.2.2.1 ∧ (skyD l1 l2 l3 l4 j).2.2.2.2.1 ≤ getV l1 j 200 ∧ getV l1 j 200 ≤ (skyD l1 l2 l3 l4 j).2.2.2.2.2.1 ∧ (skyD l1 l2 l3 l4 j).2.2.2.2.2.1 ≤ 200) ∧
    (0 ≤ (skyD l1 l2 l3 l4 j).2.2.2.2.2.2.1 ∧ (skyD l1 l2 l3 l4 j).2.2.2.2.2.2.1 ≤ getV l2 j 40 ∧ getV l2 j 40 ≤ (skyD l1 l2 l3 l4 j).2.2.2.2.2.2.2 ∧ (skyD l1 l2 l3 l4 j).2.2.2.2.2.2.2 ≤ 40) := by
  have g1 := getV_in (i := j) (most := 200) (by omega) b1
  have g2 := getV_in (i := j) (most := 40) (by omega) b2
  have g3 := getV_in (i := j) (most := 30) (by omega) b3
  have g4 := getV_in (i := j) (most := 30) (by omega) b4
  simp only [skyD]
  generalize getV l1 (j : Int) 200 = rain at g1 ⊢
  generalize getV l2 (j : Int) 40 = frost at g2 ⊢
  generalize getV l3 (j : Int) 30 = less at g3 ⊢
  generalize getV l4 (j : Int) 30 = more at g4 ⊢
  rw [Int.tmod_eq_emod_of_nonneg g3.1, Int.tmod_eq_emod_of_nonneg g4.1]
  have t1 : 0 ≤ more % 4 ∧ more % 4 ≤ 3 := by omega
  have t2 : 0 ≤ less % 4 ∧ less % 4 ≤ 3 := by omega
  rw [wrap_in (x := rain - less) (by omega), wrap_in (x := rain + more) (by omega), wrap_in (x := frost - more % 4) (by omega), wrap_in (x := frost + less % 4) (by omega)]
  generalize more % 4 = q1 at t1 ⊢
  generalize less % 4 = q2 at t2 ⊢
  have m1 : 0 ≤ mx 0 (rain - less) ∧ mx 0 (rain - less) ≤ rain := by unfold mx; split <;> omega
  have m2 : rain ≤ mn 200 (rain + more) ∧ mn 200 (rain + more) ≤ 200 := by unfold mn; split <;> omega
  have m3 : 0 ≤ mx 0 (frost - q1) ∧ mx 0 (frost - q1) ≤ frost := by unfold mx; split <;> omega
  have m4 : frost ≤ mn 40 (frost + q2) ∧ mn 40 (frost + q2) ≤ 40 := by unfold mn; split <;> omega
  omega

/-- The report at i. -/
def repD (l1 l2 l5 : List Int) (i : Nat) : S41 :=
  ⟨(i : Int), Int.tmod (wrap64 (rd l5 i)) 3, 2, 9, wrap64 (100 * (i : Int)),
    ⟨(skyD l1 l2 [rd l5 i] [(Int.tdiv (rd l5 i) 16) % 256] 0).2.2.2.2.1, (skyD l1 l2 [rd l5 i] [(Int.tdiv (rd l5 i) 16) % 256] 0).2.2.2.2.2.1⟩,
    ⟨(skyD l1 l2 [rd l5 i] [(Int.tdiv (rd l5 i) 16) % 256] 0).2.2.2.2.2.2.1, (skyD l1 l2 [rd l5 i] [(Int.tdiv (rd l5 i) 16) % 256] 0).2.2.2.2.2.2.2⟩⟩

theorem reports_go {n m : ByteArray} {t bear wear grow uses st tm a b c e : Int} {l1 l2 l3 l4 l5 : List Int} (hn : l5.length ≤ 6) (k : Nat) :
    ∀ (d i : Nat), i + d = l5.length →
      fastilaw29_BearingReports.l0 (k + d) tm ((List.range i).map (repD l1 l2 l5)) (l5.length : Int) i n m t bear wear grow uses st l1 l2 l3 l4 l5 a b c e =
        fastilaw29_BearingReports.l0 k tm ((List.range l5.length).map (repD l1 l2 l5)) (l5.length : Int) (l5.length : Int) n m t bear wear grow uses st l1 l2 l3 l4 l5 a b c e := by
  intro d
  induction d with
  | zero =>
    intro i hi
    obtain rfl : i = l5.length := by omega
    rfl
  | succ d ih =>
    intro i hi
    rw [← ih (i + 1) (by omega), ← Nat.add_assoc]
    conv => lhs; unfold fastilaw29_BearingReports.l0
    have hs : fastilaw29_sky.f 0 l1 l2 [rd l5 i] [(Int.tdiv (rd l5 i) 16) % 256] [] 0 = some (skyD l1 l2 [rd l5 i] [(Int.tdiv (rd l5 i) 16) % 256] 0) := by
      unfold fastilaw29_sky.f
      rw [if_pos (by omega)]
    have e : ∀ {α : Type} (f : Nat → α), (List.range i).map f ++ [f i] = (List.range (i + 1)).map f := by
      intro α f
      rw [List.range_succ, List.map_append]
      rfl
    have hwr : wrap64 ((i : Int) + 1) = ((i + 1 : Nat) : Int) := by rw [wrap_in (by omega)]; rfl
    rw [if_pos (by omega), if_pos (by omega), if_pos (by omega), hs, Option.bind_some, if_pos (by simp; omega), hwr]
    have h1 := e (repD l1 l2 l5)
    rw [← h1]
    rfl

theorem u8_in {l : List Int} (h : ∀ a, a ∈ l → (Lit.int .u8 a).wf = true) : ∀ a, a ∈ l → 0 ≤ a ∧ a ≤ 255 := fun a ha => bounds_u8 (h a ha)

theorem rep_in {l1 l2 l5 : List Int} (b1 : ∀ a, a ∈ l1 → 0 ≤ a ∧ a ≤ 255) (b2 : ∀ a, a ∈ l2 → 0 ≤ a ∧ a ≤ 255) (b5 : ∀ a, a ∈ l5 → 0 ≤ a ∧ a ≤ 255) (hn : l5.length ≤ 6) {i : Nat} (hi : i < l5.length) :
    vB (repD l1 l2 l5 i) = true ∧ ((repD l1 l2 l5 i).f5.f0 ≤ getV l1 0 200 ∧ getV l1 0 200 ≤ (repD l1 l2 l5 i).f5.f1) ∧ (repD l1 l2 l5 i).f6.f0 ≤ getV l2 0 40 ∧ getV l2 0 40 ≤ (repD l1 l2 l5 i).f6.f1 := by
  have hmem : rd l5 i ∈ l5 := by
    unfold rd
    rw [Int.toNat_natCast, List.getD_eq_getElem?_getD, List.getElem?_eq_getElem (by omega)]
    exact List.getElem_mem _
  have hb := b5 _ hmem
  obtain ⟨⟨h1, h2⟩, h3, h4⟩ := skyD_in l1 l2 [rd l5 i] [(Int.tdiv (rd l5 i) 16) % 256] 0 b1 b2 (fun a ha => by rw [List.mem_singleton.1 ha]; exact hb) (fun a ha => by rw [List.mem_singleton.1 ha]; omega)
  have e0 : ((0 : Nat) : Int) = (0 : Int) := rfl
  rw [e0] at h1 h2 h3 h4
  refine ⟨vB_mk ?_ ?_ ?_ ?_ ?_ ?_ ?_, ?_, ?_⟩
  · simp only [repD]
    omega
  · simp only [repD]
    rw [wrap_in (x := rd l5 i) (by omega), Int.tmod_eq_emod_of_nonneg hb.1]
    omega
  · simp only [repD]
    omega
  · simp only [repD]
    omega
  · simp only [repD]
    rw [wrap_in (by omega)]
    omega
  · simp only [repD]
    omega
  · simp only [repD]
    omega
  · simp only [repD]
    omega
  · simp only [repD]
    omega

theorem BearingReports : fastilaw29_BearingReports.Pure := by
  intro x0 x1 tm _ hB htm
  obtain ⟨_, b1, b2, b3, b4, b5⟩ := hB
  have ht := bounds_u16 htm
  have c1 := u8_in b1.2
  have c2 := u8_in b2.2
  have c5 := u8_in b5.2
  obtain ⟨q, hq⟩ : ∃ q : Nat, q = 2000 := ⟨_, rfl⟩
  refine ⟨(q + 6 + x1.f5.length) + 1, ?_⟩
  unfold fastilaw29_BearingReports.f
  rw [sane29 _ (by omega), Option.bind_some, if_pos rfl, pitch_val, Option.bind_some]
  have hyes : fastilaw29_BearingReports.j0 ((q + 6 + x1.f5.length) + 1) tm (x1.f5.length : Int) true x0.f0 x0.f1.f0 x0.f1.f1 x0.f2 x0.f3 x0.f4 x0.f5 x1.f0 x1.f1 x1.f2 x1.f3 x1.f4 x1.f5 = some true := by
    simp only [fastilaw29_BearingReports.j0, if_true]
  by_cases hp : (0 ≤ x0.f2 ∧ x0.f2 ≤ 1000) ∧ (0 ≤ x0.f3 ∧ x0.f3 ≤ 1000) ∧ (0 ≤ x0.f4 ∧ x0.f4 ≤ 1000) ∧ (1 ≤ x0.f5 ∧ x0.f5 ≤ 4)
  · rw [if_pos (decide_eq_true hp)]
    by_cases hn : (x1.f5.length : Int) > 6
    · rw [if_pos hn]
      exact hyes
    · rw [if_neg hn]
      by_cases h0 : x1.f0 < 0
      · rw [if_pos h0]
        exact hyes
      · rw [if_neg h0]
        by_cases h1 : x1.f0 > 1000
        · rw [decide_eq_true h1]
          exact hyes
        · rw [decide_eq_false h1]
          simp only [fastilaw29_BearingReports.j0]
          have hs : fastilaw29_sky.f x1.f0 x1.f1 x1.f2 x1.f3 x1.f4 x1.f5 0 = some (skyD x1.f1 x1.f2 x1.f3 x1.f4 0) := by
            unfold fastilaw29_sky.f
            rw [if_pos (by omega)]
          rw [if_neg (by decide), hs, Option.bind_some]
          have go := reports_go (n := x0.f0) (m := x0.f1.f0) (t := x0.f1.f1) (bear := x0.f2) (wear := x0.f3) (grow := x0.f4) (uses := x0.f5) (st := x1.f0) (tm := tm) (a := (skyD x1.f1 x1.f2 x1.f3 x1.f4 0).1) (b := (skyD x1.f1 x1.f2 x1.f3 x1.f4 0).2.1) (c := (skyD x1.f1 x1.f2 x1.f3 x1.f4 0).2.2.1) (e := (skyD x1.f1 x1.f2 x1.f3 x1.f4 0).2.2.2.1) (l1 := x1.f1) (l2 := x1.f2) (l3 := x1.f3) (l4 := x1.f4) (l5 := x1.f5) (by omega) (q + 6) x1.f5.length 0 (by omega)
          rw [show ((0 : Nat) : Int) = (0 : Int) from rfl] at go
          simp only [List.range_zero, List.map_nil] at go
          rw [go]
          clear go
          simp only [skyD]
          obtain ⟨⟨⟨r0, r1⟩, f0, f1⟩, _⟩ := skyD_in x1.f1 x1.f2 [] [] 0 c1 c2 (fun a h => absurd h (by simp)) (fun a h => absurd h (by simp))
          rw [show ((0 : Nat) : Int) = (0 : Int) from rfl] at r0 r1 f0 f1
          obtain ⟨L, hL⟩ : ∃ L, (List.range x1.f5.length).map (repD x1.f1 x1.f2 x1.f5) = L := ⟨_, rfl⟩
          have hin : ∀ y ∈ L, vB y = true ∧ (y.f5.f0 ≤ getV x1.f1 0 200 ∧ getV x1.f1 0 200 ≤ y.f5.f1) ∧ y.f6.f0 ≤ getV x1.f2 0 40 ∧ getV x1.f2 0 40 ≤ y.f6.f1 := by
            intro y hy
            rw [← hL] at hy
            obtain ⟨i, hi, rfl⟩ := List.mem_map.1 hy
            exact rep_in c1 c2 c5 (by omega) (List.mem_range.1 hi)
          have hck : chkV L = 0 := by
            refine chk_mk (by rw [← hL]; simp; omega) (fun y hy => (hin y hy).1) ?_
            rw [← hL, List.pairwise_map]
            refine List.pairwise_lt_range.imp ?_
            intro a b hab
            simp only [repD]
            omega
          have hof := of_true (l := L) (g := 2) (d := 9) (t := tm) ⟨r0, r1⟩ ⟨f0, f1⟩ (fun y hy _ _ _ => (hin y hy).2)
          have hO : weather_Of.f L 2 9 tm = some ((skyV 200 ((says 2 9 tm L).map rng_rain)).1, (skyV 200 ((says 2 9 tm L).map rng_rain)).2, (skyV 40 ((says 2 9 tm L).map rng_frost)).1, (skyV 40 ((says 2 9 tm L).map rng_frost)).2, ((says 2 9 tm L).length : Int), 0) := by
            unfold weather_Of.f
            rw [if_pos hck, if_pos]
            unfold argsB
            simp only [Bool.and_eq_true, List.all_cons, List.all_nil, Bool.and_true, okw, decide_eq_true_eq]
            omega
          rw [hL]
          clear hL hin hck
          generalize (skyV 200 ((says 2 9 tm L).map rng_rain)) = S1 at hof hO
          generalize (skyV 40 ((says 2 9 tm L).map rng_frost)) = S2 at hof hO
          generalize ((says 2 9 tm L).length : Int) = many at hO
          conv => lhs; unfold fastilaw29_BearingReports.l0
          rw [if_neg (by omega), wrap_in (x := tm) (by omega), hO, Option.bind_some, if_pos rfl]
          generalize getV x1.f1 0 200 = rain at r0 r1 hof ⊢
          generalize getV x1.f2 0 40 = frost at f0 f1 hof ⊢
          obtain ⟨L2, hL2⟩ : ∃ L2 : List S39, ([(⟨⟨rain, rain⟩, ⟨frost, frost⟩⟩ : S39)] : List S39) = L2 := ⟨_, rfl⟩
          obtain ⟨M2, hM2⟩ : ∃ L2 : List S39, ([(⟨⟨S1.1, S1.2⟩, ⟨S2.1, S2.2⟩⟩ : S39)] : List S39) = L2 := ⟨_, rfl⟩
          obtain ⟨L3, hL3⟩ : ∃ L3 : List Int, ([1] : List Int) = L3 := ⟨_, rfl⟩
          have n2 : L2.length = 1 := by rw [← hL2]; rfl
          have n2' : M2.length = 1 := by rw [← hM2]; rfl
          have n3 : L3.length = 1 := by rw [← hL3]; rfl
          have g2 : rd_T39 L2 ((0 : Nat) : Int) = ⟨⟨rain, rain⟩, ⟨frost, frost⟩⟩ := by rw [← hL2]; rfl
          have g2' : rd_T39 M2 ((0 : Nat) : Int) = ⟨⟨S1.1, S1.2⟩, ⟨S2.1, S2.2⟩⟩ := by rw [← hM2]; rfl
          have g3 : rd L3 ((0 : Nat) : Int) = 1 := by rw [← hL3]; rfl
          rw [hL2, hM2, hL3]
          clear hL2 hM2 hL3
          have okR := days_ok (l2 := L2) (l3 := L3) (x := (x1.f0, x1.f0)) hp ⟨by simp only; omega, Int.le_refl _, by simp only; omega⟩ (n := 1) (fun j h => by
            obtain rfl : j = 0 := by omega
            rw [g2, g3]
            simp only
            omega)
          have okM := days_ok (l2 := M2) (l3 := L3) (x := (x1.f0, x1.f0)) hp ⟨by simp only; omega, Int.le_refl _, by simp only; omega⟩ (n := 1) (fun j h => by
            obtain rfl : j = 0 := by omega
            rw [g2', g3]
            simp only
            omega)
          have hin := days_within (l2 := L2) (m2 := M2) (l3 := L3) (x := (x1.f0, x1.f0)) (y := (x1.f0, x1.f0)) (bear := x0.f2) (wear := x0.f3) (uses := x0.f5) (n := 1) hp.2.2.1.1 (okR 1 (Nat.le_refl _)).2 (okM 1 (Nat.le_refl _)).2 (fun j h => by
            obtain rfl : j = 0 := by omega
            rw [g3]
            omega) ⟨Int.le_refl _, rfl, Int.le_refl _⟩ (fun j h => by
            obtain rfl : j = 0 := by omega
            rw [g2, g2']
            refine ⟨⟨rfl, rfl⟩, ⟨?_, ?_⟩, ?_, ?_, ?_⟩ <;> simp only <;> omega) 1 (Nat.le_refl _)
          have hpB : pitchB x0.f2 x0.f3 x0.f4 x0.f5 = true := pitchB_iff.2 hp
          have runR := run_all (n := x0.f0) (m := x0.f1.f0) (t := x0.f1.f1) (l2 := L2) (l3 := L3) (by omega) hpB (lo := x1.f0) (hi := x1.f0) (withinB_iff.2 ⟨by omega, Int.le_refl _, by omega⟩) (by omega) (by rw [n2]; exact (okR 1 (Nat.le_refl _)).2)
          have runM := run_all (n := x0.f0) (m := x0.f1.f0) (t := x0.f1.f1) (l2 := M2) (l3 := L3) (by omega) hpB (lo := x1.f0) (hi := x1.f0) (withinB_iff.2 ⟨by omega, Int.le_refl _, by omega⟩) (by omega) (by rw [n2']; exact (okM 1 (Nat.le_refl _)).2)
          rw [n2] at runR
          rw [n2'] at runM
          rw [runR, Option.bind_some, runM, Option.bind_some, if_pos rfl, if_pos rfl, rangesD_length, if_pos (by omega), rangesD_length]
          have hne : (((1 : Nat) : Int) != (1 : Int)) = false := by decide
          rw [hne]
          have wM := (okM 1 (Nat.le_refl _)).1
          have e1 := rangesD_rd (bear := x0.f2) (wear := x0.f3) (grow := x0.f4) (uses := x0.f5) (l2 := L2) (l3 := L3) (x := (x1.f0, x1.f0)) (N := 1) (k := 0) (by omega)
          have e2 := rangesD_rd (bear := x0.f2) (wear := x0.f3) (grow := x0.f4) (uses := x0.f5) (l2 := M2) (l3 := L3) (x := (x1.f0, x1.f0)) (N := 1) (k := 0) (by omega)
          rw [show ((0 : Nat) : Int) = (0 : Int) from rfl] at e1 e2
          simp only [fastilaw29_BearingReports.j2]
          rw [if_neg (by decide), rangesD_length, if_pos (by omega), e2, rangesD_length, e1]
          simp only [Nat.zero_add]
          have hr : rightB x0.f2 x0.f3 x0.f4 x0.f5 (days x0.f2 x0.f3 x0.f4 x0.f5 M2 L3 (x1.f0, x1.f0) 1).1 (days x0.f2 x0.f3 x0.f4 x0.f5 M2 L3 (x1.f0, x1.f0) 1).2.1 = true := (rightB_iff ..).2 ⟨hp.1, hp.2.1, hp.2.2.1, hp.2.2.2, wM⟩
          have hq2 : q + 4 = (q + 3) + 1 := rfl
          rw [permit_yes (q + 3) hr (by omega), Option.bind_some, if_pos rfl]
          by_cases hb : x0.f2 ≤ (days x0.f2 x0.f3 x0.f4 x0.f5 M2 L3 (x1.f0, x1.f0) 1).1
          · have hpe : permitB x0.f2 (days x0.f2 x0.f3 x0.f4 x0.f5 M2 L3 (x1.f0, x1.f0) 1).1 (days x0.f2 x0.f3 x0.f4 x0.f5 M2 L3 (x1.f0, x1.f0) 1).2.1 0 false = true := by
              unfold permitB
              rw [if_pos hb]
            rw [if_pos hpe, if_pos (by omega)]
            simp only [fastilaw29_BearingReports.j3]
            rw [decide_eq_true (by omega)]
          · have hpe : permitB x0.f2 (days x0.f2 x0.f3 x0.f4 x0.f5 M2 L3 (x1.f0, x1.f0) 1).1 (days x0.f2 x0.f3 x0.f4 x0.f5 M2 L3 (x1.f0, x1.f0) 1).2.1 0 false = false := by
              unfold permitB
              rw [if_neg hb]
              split <;> rfl
            rw [if_neg (by rw [hpe]; decide)]
            simp only [fastilaw29_BearingReports.j3]
  · rw [if_neg (by simpa using hp)]
    exact hyes

end Go.Proofs.Ythfhjcbgccnijaa.Pure
