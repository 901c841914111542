/- The plain law of BearingWeather. -/
import Derived.Test.YtenjkflckkmahaaSayBearingWeather
import Derived.Test.YtenjkflckkmahaaTrW
namespace Go.Proofs.Ytenjkflckkmahaa.Pure
open Go.RowKit Go.Proofs.Ytenjkflckkmahaa.Q Go.Proofs.YtenjkflckkmahaaW.PrintWords Go.Proofs.YtenjkflckkmahaaW.PrintLast Go.Proofs.YtenjkflckkmahaaW.PrintMore

theorem getV_in {l : List Int} {i : Nat} {most : Int} (hm : 0 ≤ most ∧ most ≤ 1000) (hl : ∀ a, a ∈ l → (Lit.int .u8 a).wf = true) : 0 ≤ getV l i most ∧ getV l i most ≤ most := by
  unfold getV
  split
  · rename_i h
    have hmem : rd l i ∈ l := by
      unfold rd
      rw [Int.toNat_natCast, List.getD_eq_getElem?_getD, List.getElem?_eq_getElem (by omega)]
      exact List.getElem_mem _
    have hb := bounds_u8 (hl _ hmem)
    rw [wrap_in (x := rd l i) (by omega), wrap_in (x := most + 1) (by omega), Int.tmod_eq_emod_of_nonneg hb.1]
    have h1 := Int.emod_nonneg (rd l i) (b := most + 1) (by omega)
    have h2 := Int.emod_lt_of_pos (rd l i) (b := most + 1) (by omega)
    omega
  · omega

section
variable (l1 l2 l3 l4 l5 : List Int) (uses : Int)
def wasD (i : Nat) : S44 := ⟨⟨(skyV l1 l2 l3 l4 i).1, (skyV l1 l2 l3 l4 i).2.1⟩, ⟨(skyV l1 l2 l3 l4 i).2.2.1, (skyV l1 l2 l3 l4 i).2.2.2.1⟩⟩
def knowD (i : Nat) : S44 := ⟨⟨(skyV l1 l2 l3 l4 i).2.2.2.2.1, (skyV l1 l2 l3 l4 i).2.2.2.2.2.1⟩, ⟨(skyV l1 l2 l3 l4 i).2.2.2.2.2.2.1, (skyV l1 l2 l3 l4 i).2.2.2.2.2.2.2⟩⟩
def useD (i : Nat) : Int := Int.tmod (wrap64 (rd l5 i)) (wrap64 (uses + 1))
end

theorem rdS_map (f : Nat → S44) {n j : Nat} (h : j < n) : rd_T44 ((List.range n).map f) (j : Int) = f j := by
  unfold rd_T44
  rw [Int.toNat_natCast, List.getD_eq_getElem?_getD, List.getElem?_map, List.getElem?_range h]
  rfl
theorem rdI_map (f : Nat → Int) {n j : Nat} (h : j < n) : rd ((List.range n).map f) (j : Int) = f j := by
  unfold rd
  rw [Int.toNat_natCast, List.getD_eq_getElem?_getD, List.getElem?_map, List.getElem?_range h]
  rfl

theorem weather_go {n m : ByteArray} {t bear wear grow uses st : Int} {l1 l2 l3 l4 l5 : List Int} (hn : l5.length ≤ 8) (hu : 1 ≤ uses ∧ uses ≤ 4) (k : Nat) :
    ∀ (d i : Nat), i + d = l5.length →
      fastilaw29_BearingWeather.l0 (k + d) (l5.length : Int) st ((List.range i).map (wasD l1 l2 l3 l4)) ((List.range i).map (knowD l1 l2 l3 l4)) ((List.range i).map (useD l5 uses)) (l5.length : Int) i n m t bear wear grow uses st l1 l2 l3 l4 l5 =
        fastilaw29_BearingWeather.l0 k (l5.length : Int) st ((List.range l5.length).map (wasD l1 l2 l3 l4)) ((List.range l5.length).map (knowD l1 l2 l3 l4)) ((List.range l5.length).map (useD l5 uses)) (l5.length : Int) (l5.length : Int) n m t bear wear grow uses st l1 l2 l3 l4 l5 := by
  intro d
  induction d with
  | zero =>
    intro i hi
    obtain rfl : i = l5.length := by omega
    rfl
  | succ d ih =>
    intro i hi
    rw [← ih (i + 1) (by omega), ← Nat.add_assoc]
    conv => lhs; unfold fastilaw29_BearingWeather.l0
    have hs : fastilaw29_sky.f st l1 l2 l3 l4 l5 (i : Int) = some (skyV l1 l2 l3 l4 i) := by
      unfold fastilaw29_sky.f
      rw [if_pos (by omega)]
    have hw : wrap64 (uses + 1) = uses + 1 := wrap_in (by omega)
    have e : ∀ {α : Type} (f : Nat → α), (List.range i).map f ++ [f i] = (List.range (i + 1)).map f := by
      intro α f
      rw [List.range_succ, List.map_append]
      rfl
    have hwr : wrap64 ((i : Int) + 1) = ((i + 1 : Nat) : Int) := by rw [wrap_in (by omega)]; rfl
    rw [if_pos (by omega), hs, Option.bind_some, Option.bind_some, if_pos (by simp; omega), Option.bind_some, if_pos (by simp; omega), if_pos (by omega), if_pos (by omega), if_neg (by rw [hw]; omega), Option.bind_some, if_pos (by simp; omega), hwr]
    have h1 := e (wasD l1 l2 l3 l4)
    have h2 := e (knowD l1 l2 l3 l4)
    have h3 := e (useD l5 uses)
    rw [← h1, ← h2, ← h3]
    rfl

theorem BearingWeather : fastilaw29_BearingWeather.Pure := by
  intro x0 x1 _ hB
  obtain ⟨_, b1, b2, b3, b4, b5⟩ := hB
  obtain ⟨q, hq⟩ : ∃ q : Nat, q = 2000 := ⟨_, rfl⟩
  refine ⟨(q + 6 + x1.f5.length) + 1 + 1, ?_⟩
  unfold fastilaw29_BearingWeather.f
  rw [sane29 _ (by omega), Option.bind_some, if_pos rfl, pitch_val, Option.bind_some]
  by_cases hp : (0 ≤ x0.f2 ∧ x0.f2 ≤ 1000) ∧ (0 ≤ x0.f3 ∧ x0.f3 ≤ 1000) ∧ (0 ≤ x0.f4 ∧ x0.f4 ≤ 1000) ∧ (1 ≤ x0.f5 ∧ x0.f5 ≤ 4)
  · rw [if_pos (decide_eq_true hp)]
    simp only [fastilaw29_BearingWeather.j0]
    by_cases hn : (x1.f5.length : Int) > 8
    · rw [if_pos (decide_eq_true hn)]
    · rw [if_neg (by simpa using hn)]
      have hj : ∀ b, (b = false → 0 ≤ x1.f0 ∧ x1.f0 ≤ 1000) → fastilaw29_BearingWeather.j1 ((q + 6 + x1.f5.length) + 1) (x1.f5.length : Int) x1.f0 b x0.f0 x0.f1.f0 x0.f1.f1 x0.f2 x0.f3 x0.f4 x0.f5 x1.f0 x1.f1 x1.f2 x1.f3 x1.f4 x1.f5 = some true := by
        intro b hb
        simp only [fastilaw29_BearingWeather.j1]
        cases b
        · obtain ⟨s0, s1⟩ := hb rfl
          rw [if_neg (by decide)]
          have go := weather_go (n := x0.f0) (m := x0.f1.f0) (t := x0.f1.f1) (bear := x0.f2) (wear := x0.f3) (grow := x0.f4) (uses := x0.f5) (st := x1.f0) (l1 := x1.f1) (l2 := x1.f2) (l3 := x1.f3) (l4 := x1.f4) (l5 := x1.f5) (by omega) hp.2.2.2 (q + 6) x1.f5.length 0 (by omega)
          rw [show ((0 : Nat) : Int) = (0 : Int) from rfl] at go
          simp only [List.range_zero, List.map_nil] at go
          rw [go]
          clear go
          obtain ⟨n, hN⟩ : ∃ n, x1.f5.length = n := ⟨_, rfl⟩
          have hm3 : mx 0 (wrap64 (x1.f0 - 3)) = (if x1.f0 < 3 then 0 else x1.f0 - 3) := by
            rw [wrap_in (by omega)]
            unfold mx
            split <;> split <;> omega
          have hm5 : mn 1000 (wrap64 (x1.f0 + 5)) = (if 995 < x1.f0 then 1000 else x1.f0 + 5) := by
            rw [wrap_in (by omega)]
            unfold mn
            split <;> split <;> omega
          have hwl : 0 ≤ mx 0 (wrap64 (x1.f0 - 3)) ∧ mx 0 (wrap64 (x1.f0 - 3)) ≤ x1.f0 := by rw [hm3]; split <;> omega
          have hwh : x1.f0 ≤ mn 1000 (wrap64 (x1.f0 + 5)) ∧ mn 1000 (wrap64 (x1.f0 + 5)) ≤ 1000 := by rw [hm5]; split <;> omega
          clear hm3 hm5
          obtain ⟨wl, hwl0⟩ : ∃ a, mx 0 (wrap64 (x1.f0 - 3)) = a := ⟨_, rfl⟩
          obtain ⟨wh, hwh0⟩ : ∃ a, mn 1000 (wrap64 (x1.f0 + 5)) = a := ⟨_, rfl⟩
          rw [hwl0] at hwl
          rw [hwh0] at hwh
          -- the weather of a day
          have hsky : ∀ j : Nat, ((0 ≤ (wasD x1.f1 x1.f2 x1.f3 x1.f4 j).f0.f0 ∧ (wasD x1.f1 x1.f2 x1.f3 x1.f4 j).f0.f0 = (wasD x1.f1 x1.f2 x1.f3 x1.f4 j).f0.f1 ∧ (wasD x1.f1 x1.f2 x1.f3 x1.f4 j).f0.f1 ≤ 200) ∧ (0 ≤ (wasD x1.f1 x1.f2 x1.f3 x1.f4 j).f1.f0 ∧ (wasD x1.f1 x1.f2 x1.f3 x1.f4 j).f1.f0 = (wasD x1.f1 x1.f2 x1.f3 x1.f4 j).f1.f1 ∧ (wasD x1.f1 x1.f2 x1.f3 x1.f4 j).f1.f1 ≤ 40)) ∧
              ((0 ≤ (knowD x1.f1 x1.f2 x1.f3 x1.f4 j).f0.f0 ∧ (knowD x1.f1 x1.f2 x1.f3 x1.f4 j).f0.f0 ≤ (wasD x1.f1 x1.f2 x1.f3 x1.f4 j).f0.f0 ∧ (wasD x1.f1 x1.f2 x1.f3 x1.f4 j).f0.f0 ≤ (knowD x1.f1 x1.f2 x1.f3 x1.f4 j).f0.f1 ∧ (knowD x1.f1 x1.f2 x1.f3 x1.f4 j).f0.f1 ≤ 200) ∧
               (0 ≤ (knowD x1.f1 x1.f2 x1.f3 x1.f4 j).f1.f0 ∧ (knowD x1.f1 x1.f2 x1.f3 x1.f4 j).f1.f0 ≤ (wasD x1.f1 x1.f2 x1.f3 x1.f4 j).f1.f0 ∧ (wasD x1.f1 x1.f2 x1.f3 x1.f4 j).f1.f0 ≤ (knowD x1.f1 x1.f2 x1.f3 x1.f4 j).f1.f1 ∧ (knowD x1.f1 x1.f2 x1.f3 x1.f4 j).f1.f1 ≤ 40)) := by
            intro j
            have g1 := getV_in (i := j) (most := 200) (by omega) b1.2
            have g2 := getV_in (i := j) (most := 40) (by omega) b2.2
            have g3 := getV_in (i := j) (most := 30) (by omega) b3.2
            have g4 := getV_in (i := j) (most := 30) (by omega) b4.2
            simp only [wasD, knowD, skyV]
            generalize getV x1.f1 (j : Int) 200 = rain at g1 ⊢
            generalize getV x1.f2 (j : Int) 40 = frost at g2 ⊢
            generalize getV x1.f3 (j : Int) 30 = less at g3 ⊢
            generalize getV x1.f4 (j : Int) 30 = more at g4 ⊢
            rw [Int.tmod_eq_emod_of_nonneg g3.1, Int.tmod_eq_emod_of_nonneg g4.1]
            have t1 : 0 ≤ more % 4 ∧ more % 4 ≤ 3 := by omega
            have t2 : 0 ≤ less % 4 ∧ less % 4 ≤ 3 := by omega
            rw [wrap_in (x := rain - less) (by omega), wrap_in (x := rain + more) (by omega), wrap_in (x := frost - more % 4) (by omega), wrap_in (x := frost + less % 4) (by omega)]
            generalize more % 4 = q1 at t1 ⊢
            generalize less % 4 = q2 at t2 ⊢
            have m1 : 0 ≤ mx 0 (rain - less) ∧ mx 0 (rain - less) ≤ rain := by unfold mx; split <;> omega
            have m2 : rain ≤ mn 200 (rain + more) ∧ mn 200 (rain + more) ≤ 200 := by unfold mn; split <;> omega
            have m3 : 0 ≤ mx 0 (frost - q1) ∧ mx 0 (frost - q1) ≤ frost := by unfold mx; split <;> omega
            have m4 : frost ≤ mn 40 (frost + q2) ∧ mn 40 (frost + q2) ≤ 40 := by unfold mn; split <;> omega
            refine ⟨⟨⟨?_, ?_, ?_⟩, ?_, ?_, ?_⟩, ⟨?_, ?_, ?_, ?_⟩, ?_, ?_, ?_, ?_⟩ <;> first | trivial | omega
          have huse : ∀ j : Nat, j < n → 0 ≤ useD x1.f5 x0.f5 j ∧ useD x1.f5 x0.f5 j ≤ 4 := by
            intro j hj
            have hmem : rd x1.f5 (j : Int) ∈ x1.f5 := by
              unfold rd
              rw [Int.toNat_natCast, List.getD_eq_getElem?_getD, List.getElem?_eq_getElem (by omega)]
              exact List.getElem_mem _
            have hb := bounds_u8 (b5.2 _ hmem)
            unfold useD
            rw [wrap_in (x := rd x1.f5 (j : Int)) (by omega), wrap_in (x := x0.f5 + 1) (by omega), Int.tmod_eq_emod_of_nonneg hb.1]
            have h1 := Int.emod_nonneg (rd x1.f5 (j : Int)) (b := x0.f5 + 1) (by omega)
            have h2 := Int.emod_lt_of_pos (rd x1.f5 (j : Int)) (b := x0.f5 + 1) (by omega)
            omega
          rw [hN] at hn ⊢
          obtain ⟨L2, hL2⟩ : ∃ L, (List.range n).map (wasD x1.f1 x1.f2 x1.f3 x1.f4) = L := ⟨_, rfl⟩
          obtain ⟨M2, hM2⟩ : ∃ L, (List.range n).map (knowD x1.f1 x1.f2 x1.f3 x1.f4) = L := ⟨_, rfl⟩
          obtain ⟨L3, hL3⟩ : ∃ L, (List.range n).map (useD x1.f5 x0.f5) = L := ⟨_, rfl⟩
          have n2 : L2.length = n := by rw [← hL2]; simp
          have n2' : M2.length = n := by rw [← hM2]; simp
          have n3 : L3.length = n := by rw [← hL3]; simp
          have r2 : ∀ j : Nat, j < n → rd_T44 L2 j = wasD x1.f1 x1.f2 x1.f3 x1.f4 j := fun j h => by rw [← hL2]; exact rdS_map _ h
          have r2' : ∀ j : Nat, j < n → rd_T44 M2 j = knowD x1.f1 x1.f2 x1.f3 x1.f4 j := fun j h => by rw [← hM2]; exact rdS_map _ h
          have r3 : ∀ j : Nat, j < n → rd L3 j = useD x1.f5 x0.f5 j := fun j h => by rw [← hL3]; exact rdI_map _ h
          rw [hL2, hM2, hL3]
          clear hL2 hM2 hL3
          have okR := days_ok (l2 := L2) (l3 := L3) (x := (x1.f0, x1.f0)) hp ⟨s0, Int.le_refl _, s1⟩ (n := n) (fun j h => by
            rw [r2 j h, r3 j h]
            have := hsky j
            have := huse j h
            omega)
          have okM := days_ok (l2 := M2) (l3 := L3) (x := (wl, wh)) hp ⟨hwl.1, by simp only; omega, hwh.2⟩ (n := n) (fun j h => by
            rw [r2' j h, r3 j h]
            have := hsky j
            have := huse j h
            omega)
          have hin := days_within (l2 := L2) (m2 := M2) (l3 := L3) (x := (x1.f0, x1.f0)) (y := (wl, wh)) (bear := x0.f2) (wear := x0.f3) (uses := x0.f5) (n := n) hp.2.2.1.1 (okR n (Nat.le_refl _)).2 (okM n (Nat.le_refl _)).2 (fun j h => by rw [r3 j h]; exact (huse j h).1) ⟨hwl.2, rfl, hwh.1⟩ (fun j h => by
            rw [r2 j h, r2' j h]
            have := hsky j
            omega) n (Nat.le_refl _)
          have hpB : pitchB x0.f2 x0.f3 x0.f4 x0.f5 = true := pitchB_iff.2 hp
          have runR := run_all (n := x0.f0) (m := x0.f1.f0) (t := x0.f1.f1) (l2 := L2) (l3 := L3) (by omega) hpB (lo := x1.f0) (hi := x1.f0) (withinB_iff.2 ⟨s0, Int.le_refl _, s1⟩) (by omega) (by rw [n2]; exact (okR n (Nat.le_refl _)).2)
          have runM := run_all (n := x0.f0) (m := x0.f1.f0) (t := x0.f1.f1) (l2 := M2) (l3 := L3) (by omega) hpB (lo := wl) (hi := wh) (withinB_iff.2 ⟨hwl.1, by omega, hwh.2⟩) (by omega) (by rw [n2']; exact (okM n (Nat.le_refl _)).2)
          rw [n2] at runR
          rw [n2'] at runM
          have last : ∀ lo hi a b : Int, lo ≤ a → a = b → b ≤ hi → 0 ≤ lo → hi ≤ 1000 → fastilaw29_BearingWeather.j4 (q + 4) x0.f0 x0.f1.f0 x0.f1.f1 x0.f2 x0.f3 x0.f4 x0.f5 a b lo hi = some true := by
            intro lo hi a b ha hab hb hlo hhi
            subst hab
            have hr : rightB x0.f2 x0.f3 x0.f4 x0.f5 lo hi = true := (rightB_iff ..).2 ⟨hp.1, hp.2.1, hp.2.2.1, hp.2.2.2, hlo, by omega, hhi⟩
            simp only [fastilaw29_BearingWeather.j4]
            rw [permit_yes (q + 2) hr (by omega), permit_yes (q + 2) hr (by omega), Option.bind_some, Option.bind_some, if_pos rfl, if_pos rfl]
            simp only [fastilaw29_BearingWeather.j5, bne_self_eq_false, Bool.false_eq_true, if_false]
            have bi := bad_in (bear := x0.f2) (lo := lo) (hi := hi) (by omega)
            unfold permitB
            by_cases h1 : x0.f2 ≤ lo
            · rw [if_pos h1, if_pos rfl, if_pos h1, if_pos (by omega), if_pos rfl]
              simp only [fastilaw29_BearingWeather.j6]
            · rw [if_neg h1]
              by_cases h2 : hi < x0.f2
              · rw [if_pos h2, if_neg (by decide), if_neg h1, if_pos h2, if_neg (by decide), decide_eq_true (by omega)]
                simp only [fastilaw29_BearingWeather.j6]
              · rw [if_neg h2, Bool.false_and, if_neg (by decide), if_neg h1, if_neg h2, Bool.true_and, if_pos (decide_eq_true (by omega))]
                simp only [fastilaw29_BearingWeather.j6]
          conv => lhs; unfold fastilaw29_BearingWeather.l0
          rw [hwl0, hwh0, if_neg (by omega), runR, Option.bind_some, runM, Option.bind_some, if_pos rfl, if_pos rfl, rangesD_length, if_pos rfl, rangesD_length]
          have hne : ((n : Int) != (n : Int)) = false := by simp
          rw [hne]
          simp only [fastilaw29_BearingWeather.j3, Bool.false_eq_true, if_false]
          have wM := (okM n (Nat.le_refl _)).1
          by_cases hz : (n : Int) > 0
          · obtain ⟨j, rfl⟩ : ∃ j, n = j + 1 := ⟨n - 1, by omega⟩
            have hw : wrap64 (((j + 1 : Nat) : Int) - 1) = (j : Int) := by rw [wrap_in (by omega)]; omega
            rw [if_pos hz, hw, if_pos (by omega), rangesD_length, if_pos (by omega), rangesD_length, if_pos (by omega), rangesD_rd (by omega), rangesD_rd (by omega)]
            exact last _ _ _ _ hin.1 hin.2.1 hin.2.2 wM.1 wM.2.2
          · rw [if_neg hz]
            exact last _ _ _ _ hwl.2 rfl hwh.1 hwl.1 hwh.2
        · rw [if_pos rfl]
      split
      · exact hj _ (fun h => by cases h)
      · refine hj _ (fun h => ?_)
        have := of_decide_eq_false h
        omega
  · rw [if_neg (by simpa using hp)]
    simp only [fastilaw29_BearingWeather.j0, if_true]

end Go.Proofs.Ytenjkflckkmahaa.Pure
