/- The plain law of TurfParts. -/
import Derived.Test.YtenjkflckkmahaaSayTurfParts
import Derived.Test.YtenjkflckkmahaaTrQ
namespace Go.Proofs.Ytenjkflckkmahaa.Pure
open Go.RowKit Go.Proofs.Ytenjkflckkmahaa.Q Go.Proofs.YtenjkflckkmahaaW.PrintWords Go.Proofs.YtenjkflckkmahaaW.PrintLast Go.Proofs.YtenjkflckkmahaaW.PrintMore

theorem rdS_take (l : List S44) {j k : Nat} (h : j < k) : rd_T44 (l.take k) (j : Int) = rd_T44 l (j : Int) := by
  unfold rd_T44
  rw [Int.toNat_natCast, List.getD_eq_getElem?_getD, List.getD_eq_getElem?_getD, List.getElem?_take_of_lt h]
theorem rdI_take (l : List Int) {j k : Nat} (h : j < k) : rd (l.take k) (j : Int) = rd l (j : Int) := by
  unfold rd
  rw [Int.toNat_natCast, List.getD_eq_getElem?_getD, List.getD_eq_getElem?_getD, List.getElem?_take_of_lt h]
theorem rdS_drop (l : List S44) (j k : Nat) : rd_T44 (l.drop k) (j : Int) = rd_T44 l ((k + j : Nat) : Int) := by
  unfold rd_T44
  rw [Int.toNat_natCast, Int.toNat_natCast, List.getD_eq_getElem?_getD, List.getD_eq_getElem?_getD, List.getElem?_drop]
theorem rdI_drop (l : List Int) (j k : Nat) : rd (l.drop k) (j : Int) = rd l ((k + j : Nat) : Int) := by
  unfold rd
  rw [Int.toNat_natCast, Int.toNat_natCast, List.getD_eq_getElem?_getD, List.getD_eq_getElem?_getD, List.getElem?_drop]

section
variable {bear wear grow uses : Int} {l2 : List S44} {l3 : List Int} {x : Int × Int}

theorem days_take (k : Nat) : ∀ j, j ≤ k → days bear wear grow uses (l2.take k) (l3.take k) x j = days bear wear grow uses l2 l3 x j := by
  intro j
  induction j with
  | zero => intro _; rfl
  | succ j ih =>
    intro h
    simp only [days]
    rw [ih (by omega), rdS_take l2 (by omega), rdI_take l3 (by omega)]

theorem days_drop (k : Nat) : ∀ j, (days bear wear grow uses (l2.drop k) (l3.drop k) ((days bear wear grow uses l2 l3 x k).1, (days bear wear grow uses l2 l3 x k).2.1) j).1 = (days bear wear grow uses l2 l3 x (k + j)).1 ∧
    (days bear wear grow uses (l2.drop k) (l3.drop k) ((days bear wear grow uses l2 l3 x k).1, (days bear wear grow uses l2 l3 x k).2.1) j).2.1 = (days bear wear grow uses l2 l3 x (k + j)).2.1 := by
  intro j
  induction j with
  | zero => exact ⟨rfl, rfl⟩
  | succ j ih =>
    rw [show k + (j + 1) = (k + j) + 1 by omega]
    rw [days, days, ih.1, ih.2, rdS_drop, rdI_drop]
    exact ⟨rfl, rfl⟩
theorem days_drop1 (k j : Nat) : days bear wear grow uses (l2.drop k) (l3.drop k) ((days bear wear grow uses l2 l3 x k).1, (days bear wear grow uses l2 l3 x k).2.1) (j + 1) = days bear wear grow uses l2 l3 x (k + j + 1) := by
  rw [days, days, (days_drop k j).1, (days_drop k j).2, rdS_drop, rdI_drop]

theorem within_days (hx : withinB x.1 x.2 1000 = true) {N : Nat} (he : ∀ k, k < N → errD bear wear grow uses l2 l3 x k = 0) : ∀ j, j ≤ N → withinB (days bear wear grow uses l2 l3 x j).1 (days bear wear grow uses l2 l3 x j).2.1 1000 = true := by
  intro j
  cases j with
  | zero => intro _; exact hx
  | succ j =>
    intro h
    obtain ⟨hok, hd⟩ := errD_ok (he j (by omega))
    have ho := okNext_iff.1 hok
    rw [hd]
    have h1 := dayV_in wear grow (rd l3 j) (days bear wear grow uses l2 l3 x j).1 (rd_T44 l2 j).f0.f1 (rd_T44 l2 j).f1.f1
    have h2 := dayV_in wear grow (rd l3 j) (days bear wear grow uses l2 l3 x j).2.1 (rd_T44 l2 j).f0.f0 (rd_T44 l2 j).f1.f0
    have h3 : dayV wear grow (rd l3 j) (days bear wear grow uses l2 l3 x j).1 (rd_T44 l2 j).f0.f1 (rd_T44 l2 j).f1.f1 ≤ dayV wear grow (rd l3 j) (days bear wear grow uses l2 l3 x j).2.1 (rd_T44 l2 j).f0.f0 (rd_T44 l2 j).f1.f0 :=
      dayV_mono (by omega) (by omega) (by omega) (by omega) (fun h => by omega)
    exact withinB_iff.2 ⟨h1.1, h3, h2.2⟩

theorem run_all {n m : ByteArray} {t lo hi : Int} (hs : ¬ (512 < l2.length ∨ 512 < l3.length)) (hp : pitchB bear wear grow uses = true) (hx : withinB lo hi 1000 = true) (hl : l3.length = l2.length) (he : ∀ k, k < l2.length → errD bear wear grow uses l2 l3 (lo, hi) k = 0) :
    turf_Run.f n m t bear wear grow uses lo hi l2 l3 = some (rangesD bear wear grow uses l2 l3 (lo, hi) l2.length, 0) := by
  unfold turf_Run.f
  rw [if_neg hs, hp, hx, decide_eq_true hl, Bool.and_self, Bool.and_self, if_pos rfl, if_pos]
  rw [List.all_eq_true]
  intro k hk
  exact decide_eq_true (he k (List.mem_range.1 hk))

theorem ranges_split (k d : Nat) : rangesD bear wear grow uses l2 l3 x (k + d) = rangesD bear wear grow uses (l2.take k) (l3.take k) x k ++ rangesD bear wear grow uses (l2.drop k) (l3.drop k) ((days bear wear grow uses l2 l3 x k).1, (days bear wear grow uses l2 l3 x k).2.1) d := by
  have h1 : rangesD bear wear grow uses (l2.take k) (l3.take k) x k = rangesD bear wear grow uses l2 l3 x k := by
    unfold rangesD
    refine List.map_congr_left (fun j hj => ?_)
    rw [days_take k (j + 1) (by have := List.mem_range.1 hj; omega)]
  rw [h1]
  induction d with
  | zero => simp [rangesD]
  | succ d ih =>
    rw [← Nat.add_assoc, rangesD_succ, ih, rangesD_succ, List.append_assoc, days_drop1]
end

theorem TurfParts : fastilaw28_TurfParts.Pure := by
  intro x0 x1 l2 l3 a4 _ _ _ _ h4
  refine ⟨2005, ?_⟩
  unfold fastilaw28_TurfParts.f
  rw [sane28 2005 (by omega), Option.bind_some, if_pos rfl]
  have hb4 := bounds_u16 h4
  have hj : ∀ b, (b = false → l2.length ≤ 512 ∧ l3.length = l2.length) → fastilaw28_TurfParts.j0 2005 l2 l3 a4 b x0.f0 x0.f1.f0 x0.f1.f1 x0.f2 x0.f3 x0.f4 x0.f5 x1.f0 x1.f1 = some true := by
    intro b hb
    simp only [fastilaw28_TurfParts.j0]
    cases b
    · obtain ⟨hn, hl⟩ := hb rfl
      rw [if_neg (by decide)]
      rcases run_ways x0.f0 x0.f1.f0 x0.f1.f1 x0.f2 x0.f3 x0.f4 x0.f5 x1.f0 x1.f1 l2 l3 (by omega) with h | ⟨h, _, hp, hx, he⟩
      · rw [h]
        simp
      · rw [h, Option.bind_some, if_pos rfl, wrap_in28 (x := (l2.length : Int) + 1) (by omega), wrap_in28 (x := a4) (by omega), if_neg (by omega), Int.tmod_eq_emod_of_nonneg hb4.1]
        have m1 := Int.emod_nonneg a4 (b := (l2.length : Int) + 1) (by omega)
        have m2 := Int.emod_lt_of_pos a4 (b := (l2.length : Int) + 1) (by omega)
        obtain ⟨k, hk⟩ : ∃ k : Nat, a4 % ((l2.length : Int) + 1) = (k : Int) := ⟨(a4 % ((l2.length : Int) + 1)).toNat, by omega⟩
        rw [hk] at m1 m2 ⊢
        have hkn : k ≤ l2.length := by omega
        have ht2 : (l2.take k).length = k := by rw [List.length_take]; omega
        have ht3 : (l3.take k).length = k := by rw [List.length_take]; omega
        have hd2 : (l2.drop k).length = l2.length - k := List.length_drop
        have hd3 : (l3.drop k).length = l2.length - k := by rw [List.length_drop, hl]
        have hA := run_all (n := x0.f0) (m := x0.f1.f0) (t := x0.f1.f1) (l2 := l2.take k) (l3 := l3.take k) (by omega) hp hx (by omega) (fun j hj => by
          unfold errD
          rw [days_take k (j + 1) (by omega)]
          exact he j (by omega))
        rw [ht2] at hA
        have hB := run_all (n := x0.f0) (m := x0.f1.f0) (t := x0.f1.f1) (l2 := l2.drop k) (l3 := l3.drop k) (by omega) hp (within_days hx he k hkn) (by omega) (fun j hj => by
          unfold errD
          rw [days_drop1]
          exact he (k + j) (by omega))
        rw [hd2] at hB
        rw [if_pos m1, if_pos (by omega), if_pos (by omega), Int.toNat_natCast, hA, Option.bind_some, if_pos rfl, rangesD_length, if_pos rfl, rangesD_length]
        have hlast : fastilaw28_TurfParts.j3 2002 l2 l3 (rangesD x0.f2 x0.f3 x0.f4 x0.f5 l2 l3 (x1.f0, x1.f1) l2.length) false x0.f0 x0.f1.f0 x0.f1.f1 x0.f2 x0.f3 x0.f4 x0.f5 x1.f0 x1.f1 = some true := by
          simp only [fastilaw28_TurfParts.j3, Bool.false_eq_true, if_false]
          by_cases hz : (l2.length : Int) = 0
          · rw [if_pos hz]
          · have hN : turf_Next.f x0.f0 x0.f1.f0 x0.f1.f1 x0.f2 x0.f3 x0.f4 x0.f5 x1.f0 x1.f1 (rd_T44 l2 0).f0.f0 (rd_T44 l2 0).f0.f1 (rd_T44 l2 0).f1.f0 (rd_T44 l2 0).f1.f1 (rd l3 0) = some (days x0.f2 x0.f3 x0.f4 x0.f5 l2 l3 (x1.f0, x1.f1) 1) := rfl
            have h0 := he 0 (by omega)
            unfold errD at h0
            have hr := rangesD_rd (bear := x0.f2) (wear := x0.f3) (grow := x0.f4) (uses := x0.f5) (l2 := l2) (l3 := l3) (x := (x1.f0, x1.f1)) (N := l2.length) (k := 0) (by omega)
            rw [if_neg hz, if_pos (by omega), if_pos (by omega), hN, Option.bind_some, if_pos h0, rangesD_length, if_pos (by omega)]
            rw [show ((0 : Nat) : Int) = (0 : Int) from rfl] at hr
            rw [hr]
            simp
        have hmid : fastilaw28_TurfParts.j2 2003 l2 l3 (rangesD x0.f2 x0.f3 x0.f4 x0.f5 l2 l3 (x1.f0, x1.f1) l2.length) (k : Int) (rangesD x0.f2 x0.f3 x0.f4 x0.f5 (l2.take k) (l3.take k) (x1.f0, x1.f1) k) x0.f0 x0.f1.f0 x0.f1.f1 x0.f2 x0.f3 x0.f4 x0.f5 x1.f0 x1.f1 (days x0.f2 x0.f3 x0.f4 x0.f5 l2 l3 (x1.f0, x1.f1) k).1 (days x0.f2 x0.f3 x0.f4 x0.f5 l2 l3 (x1.f0, x1.f1) k).2.1 = some true := by
          simp only [fastilaw28_TurfParts.j2]
          have hsplit := ranges_split (bear := x0.f2) (wear := x0.f3) (grow := x0.f4) (uses := x0.f5) (l2 := l2) (l3 := l3) (x := (x1.f0, x1.f1)) k (l2.length - k)
          rw [show k + (l2.length - k) = l2.length by omega] at hsplit
          rw [if_pos m1, if_pos (by omega), if_pos (by omega), Int.toNat_natCast, hB, Option.bind_some, if_pos rfl, Option.bind_some, rangesD_length, if_pos (by simp; omega), Option.bind_some, List.nil_append, rangesD_length, rangesD_length, if_pos (by omega), ← hsplit, same_28 _ (by rw [rangesD_length]; omega) 2002 (by omega), Option.bind_some]
          exact hlast
        have hne : ((l2.length : Int) != (l2.length : Int)) = false := by simp
        rw [hne]
        simp only [fastilaw28_TurfParts.j1, Bool.false_eq_true, if_false]
        by_cases hz : (k : Int) > 0
        · obtain ⟨j, rfl⟩ : ∃ j, k = j + 1 := ⟨k - 1, by omega⟩
          have hr := rangesD_rd (bear := x0.f2) (wear := x0.f3) (grow := x0.f4) (uses := x0.f5) (l2 := l2.take (j + 1)) (l3 := l3.take (j + 1)) (x := (x1.f0, x1.f1)) (N := j + 1) (k := j) (by omega)
          have hw : wrap64 (((j + 1 : Nat) : Int) - 1) = (j : Int) := by rw [wrap_in28 (by omega)]; omega
          rw [if_pos hz, hw, if_pos (by omega), rangesD_length, if_pos (by omega), hr, days_take (j + 1) (j + 1) (by omega)]
          exact hmid
        · obtain rfl : k = 0 := by omega
          rw [if_neg hz]
          exact hmid
    · rw [if_pos rfl]
  split
  · exact hj _ (fun h => by cases h)
  · refine hj _ (fun h => ?_)
    have := bne_eq_false_iff_eq.1 h
    omega

end Go.Proofs.Ytenjkflckkmahaa.Pure
