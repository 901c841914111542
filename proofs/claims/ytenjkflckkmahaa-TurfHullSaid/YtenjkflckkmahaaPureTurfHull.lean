/- The plain law of TurfHull. -/
import Derived.Test.YtenjkflckkmahaaSayTurfHull
import Derived.Test.YtenjkflckkmahaaTrQ
namespace Go.Proofs.Ytenjkflckkmahaa.Pure
open Go.RowKit Go.Proofs.Ytenjkflckkmahaa.Q Go.Proofs.YtenjkflckkmahaaW.PrintWords Go.Proofs.YtenjkflckkmahaaW.PrintLast Go.Proofs.YtenjkflckkmahaaW.PrintMore

section
variable {n m : ByteArray} {t bear wear grow uses u rlo rhi flo fhi lo hi : Int}

/-- One of the eight days. -/
theorem hull_2 (k : Nat) (hk : 1 ≤ k) (x14 x15 : Bool) (a b : Int) (X94 : List Int) (X95 X96 : Int) (X106 : List Int) (X107 X108 : Int) (f0 f1 : Int) (i : Nat) (hi2 : i < 2)
    (hw : 0 ≤ wear ∧ wear ≤ 1000) (hg : 0 ≤ grow ∧ grow ≤ 1000) (ha : 0 ≤ a ∧ a ≤ 1000) (hb : 0 ≤ b ∧ b ≤ 200) (hu : 0 ≤ u ∧ u ≤ 4) :
    fastilaw28_TurfHull.l2 (k + 1) u x14 x15 a b X94 X95 X96 X106 X107 X108 [f0, f1] 2 i n m t bear wear grow uses rlo rhi flo fhi lo hi =
      fastilaw28_TurfHull.l2 k u (x14 || dayV wear grow u a b (rd [f0, f1] i) == lo) (x15 || dayV wear grow u a b (rd [f0, f1] i) == hi) a b X94 X95 X96 X106 X107 X108 [f0, f1] 2 ((i + 1 : Nat) : Int) n m t bear wear grow uses rlo rhi flo fhi lo hi := by
  conv => lhs; unfold fastilaw28_TurfHull.l2
  have e : ((([f0, f1] : List Int).length : Nat) : Int) = 2 := rfl
  rw [if_pos (by omega), if_pos (by omega), e, if_pos (by omega), day_law k hk hw hg ha hb hu, Option.bind_some]
  have hwr : wrap64 ((i : Int) + 1) = ((i + 1 : Nat) : Int) := by rw [wrap_in28 (by omega)]; rfl
  cases x14 <;> cases x15 <;> simp only [Bool.true_or, Bool.false_or, if_true, Bool.false_eq_true, if_false, hwr]

theorem hull_2all (k : Nat) (x14 x15 : Bool) (a b : Int) (X94 : List Int) (X95 X96 : Int) (X106 : List Int) (X107 : Int) (j : Nat) (hj : j < 2) (f0 f1 : Int)
    (hw : 0 ≤ wear ∧ wear ≤ 1000) (hg : 0 ≤ grow ∧ grow ≤ 1000) (ha : 0 ≤ a ∧ a ≤ 1000) (hb : 0 ≤ b ∧ b ≤ 200) (hu : 0 ≤ u ∧ u ≤ 4) :
    fastilaw28_TurfHull.l2 (k + 3) u x14 x15 a b X94 X95 X96 X106 X107 (j : Int) [f0, f1] 2 0 n m t bear wear grow uses rlo rhi flo fhi lo hi =
      fastilaw28_TurfHull.l1 k u (x14 || dayV wear grow u a b f0 == lo || dayV wear grow u a b f1 == lo) (x15 || dayV wear grow u a b f0 == hi || dayV wear grow u a b f1 == hi) a X94 X95 X96 X106 X107 ((j + 1 : Nat) : Int) n m t bear wear grow uses rlo rhi flo fhi lo hi := by
  have h1 := hull_2 (n := n) (m := m) (t := t) (bear := bear) (wear := wear) (grow := grow) (uses := uses) (u := u) (rlo := rlo) (rhi := rhi) (flo := flo) (fhi := fhi) (lo := lo) (hi := hi) (k + 2) (by omega) x14 x15 a b X94 X95 X96 X106 X107 (j : Int) f0 f1 0 (by omega) hw hg ha hb hu
  have h2 := hull_2 (n := n) (m := m) (t := t) (bear := bear) (wear := wear) (grow := grow) (uses := uses) (u := u) (rlo := rlo) (rhi := rhi) (flo := flo) (fhi := fhi) (lo := lo) (hi := hi) (k + 1) (by omega) (x14 || dayV wear grow u a b f0 == lo) (x15 || dayV wear grow u a b f0 == hi) a b X94 X95 X96 X106 X107 (j : Int) f0 f1 1 (by omega) hw hg ha hb hu
  refine (h1.trans h2).trans ?_
  conv => lhs; unfold fastilaw28_TurfHull.l2
  rw [if_neg (by omega), wrap_in28 (by omega)]
  rfl

theorem hull_1all (k : Nat) (x14 x15 : Bool) (a : Int) (X94 : List Int) (X95 : Int) (j : Nat) (hj : j < 2)
    (hw : 0 ≤ wear ∧ wear ≤ 1000) (hg : 0 ≤ grow ∧ grow ≤ 1000) (ha : 0 ≤ a ∧ a ≤ 1000) (h0 : 0 ≤ rlo ∧ rlo ≤ 200) (h1 : 0 ≤ rhi ∧ rhi ≤ 200) (hu : 0 ≤ u ∧ u ≤ 4) :
    fastilaw28_TurfHull.l1 (k + 9) u x14 x15 a X94 X95 (j : Int) [rlo, rhi] 2 0 n m t bear wear grow uses rlo rhi flo fhi lo hi =
      fastilaw28_TurfHull.l0 k u (x14 || dayV wear grow u a rlo flo == lo || dayV wear grow u a rlo fhi == lo || dayV wear grow u a rhi flo == lo || dayV wear grow u a rhi fhi == lo)
        (x15 || dayV wear grow u a rlo flo == hi || dayV wear grow u a rlo fhi == hi || dayV wear grow u a rhi flo == hi || dayV wear grow u a rhi fhi == hi) X94 X95 ((j + 1 : Nat) : Int) n m t bear wear grow uses rlo rhi flo fhi lo hi := by
  have e : ((([rlo, rhi] : List Int).length : Nat) : Int) = 2 := rfl
  have e' : ((([flo, fhi] : List Int).length : Nat) : Int) = 2 := rfl
  have r1 : fastilaw28_TurfHull.l1 (k + 9) u x14 x15 a X94 X95 (j : Int) [rlo, rhi] 2 0 n m t bear wear grow uses rlo rhi flo fhi lo hi =
      fastilaw28_TurfHull.l1 (k + 5) u (x14 || dayV wear grow u a rlo flo == lo || dayV wear grow u a rlo fhi == lo) (x15 || dayV wear grow u a rlo flo == hi || dayV wear grow u a rlo fhi == hi) a X94 X95 (j : Int) [rlo, rhi] 2 1 n m t bear wear grow uses rlo rhi flo fhi lo hi := by
    conv => lhs; unfold fastilaw28_TurfHull.l1
    rw [if_pos (by omega), if_pos (by omega), e, if_pos (by omega), Option.bind_some, e']
    exact hull_2all (k + 5) x14 x15 a rlo X94 X95 (j : Int) [rlo, rhi] 2 0 (by omega) flo fhi hw hg ha h0 hu
  have r2 : ∀ y14 y15, fastilaw28_TurfHull.l1 (k + 5) u y14 y15 a X94 X95 (j : Int) [rlo, rhi] 2 1 n m t bear wear grow uses rlo rhi flo fhi lo hi =
      fastilaw28_TurfHull.l1 (k + 1) u (y14 || dayV wear grow u a rhi flo == lo || dayV wear grow u a rhi fhi == lo) (y15 || dayV wear grow u a rhi flo == hi || dayV wear grow u a rhi fhi == hi) a X94 X95 (j : Int) [rlo, rhi] 2 2 n m t bear wear grow uses rlo rhi flo fhi lo hi := by
    intro y14 y15
    conv => lhs; unfold fastilaw28_TurfHull.l1
    rw [if_pos (by omega), if_pos (by omega), e, if_pos (by omega), Option.bind_some, e']
    exact hull_2all (k + 1) y14 y15 a rhi X94 X95 (j : Int) [rlo, rhi] 2 1 (by omega) flo fhi hw hg ha h1 hu
  rw [r1, r2]
  conv => lhs; unfold fastilaw28_TurfHull.l1
  rw [if_neg (by omega), wrap_in28 (by omega)]
  rfl

theorem hull_all (k : Nat) (a0 a1 : Int)
    (hw : 0 ≤ wear ∧ wear ≤ 1000) (hg : 0 ≤ grow ∧ grow ≤ 1000) (ha0 : 0 ≤ a0 ∧ a0 ≤ 1000) (ha1 : 0 ≤ a1 ∧ a1 ≤ 1000) (h0 : 0 ≤ rlo ∧ rlo ≤ 200) (h1 : 0 ≤ rhi ∧ rhi ≤ 200) (hu : 0 ≤ u ∧ u ≤ 4)
    (hlo : dayV wear grow u a0 rhi fhi = lo) (hhi : dayV wear grow u a1 rlo flo = hi) :
    fastilaw28_TurfHull.l0 (k + 21) u false false [a0, a1] 2 0 n m t bear wear grow uses rlo rhi flo fhi lo hi = some true := by
  have e : ((([a0, a1] : List Int).length : Nat) : Int) = 2 := rfl
  have e' : ((([rlo, rhi] : List Int).length : Nat) : Int) = 2 := rfl
  have r1 : ∀ y14 y15, fastilaw28_TurfHull.l0 (k + 21) u y14 y15 [a0, a1] 2 0 n m t bear wear grow uses rlo rhi flo fhi lo hi =
      fastilaw28_TurfHull.l0 (k + 11) u (y14 || dayV wear grow u a0 rlo flo == lo || dayV wear grow u a0 rlo fhi == lo || dayV wear grow u a0 rhi flo == lo || dayV wear grow u a0 rhi fhi == lo)
        (y15 || dayV wear grow u a0 rlo flo == hi || dayV wear grow u a0 rlo fhi == hi || dayV wear grow u a0 rhi flo == hi || dayV wear grow u a0 rhi fhi == hi) [a0, a1] 2 1 n m t bear wear grow uses rlo rhi flo fhi lo hi := by
    intro y14 y15
    conv => lhs; unfold fastilaw28_TurfHull.l0
    rw [if_pos (by omega), if_pos (by omega), e, if_pos (by omega), Option.bind_some, e']
    exact hull_1all (k + 11) y14 y15 a0 [a0, a1] 2 0 (by omega) hw hg ha0 h0 h1 hu
  have r2 : ∀ y14 y15, fastilaw28_TurfHull.l0 (k + 11) u y14 y15 [a0, a1] 2 1 n m t bear wear grow uses rlo rhi flo fhi lo hi =
      fastilaw28_TurfHull.l0 (k + 1) u (y14 || dayV wear grow u a1 rlo flo == lo || dayV wear grow u a1 rlo fhi == lo || dayV wear grow u a1 rhi flo == lo || dayV wear grow u a1 rhi fhi == lo)
        (y15 || dayV wear grow u a1 rlo flo == hi || dayV wear grow u a1 rlo fhi == hi || dayV wear grow u a1 rhi flo == hi || dayV wear grow u a1 rhi fhi == hi) [a0, a1] 2 2 n m t bear wear grow uses rlo rhi flo fhi lo hi := by
    intro y14 y15
    conv => lhs; unfold fastilaw28_TurfHull.l0
    rw [if_pos (by omega), if_pos (by omega), e, if_pos (by omega), Option.bind_some, e']
    exact hull_1all (k + 1) y14 y15 a1 [a0, a1] 2 1 (by omega) hw hg ha1 h0 h1 hu
  rw [r1, r2]
  conv => lhs; unfold fastilaw28_TurfHull.l0
  rw [if_neg (by omega)]
  simp [hlo, hhi]
end

theorem TurfHull : fastilaw28_TurfHull.Pure := by
  intro x0 x1 x2 a3 x4 _ _ _ _ h4
  refine ⟨2001, ?_⟩
  unfold fastilaw28_TurfHull.f
  rw [sane28 2001 (by omega), Option.bind_some, if_pos rfl]
  by_cases hok : okNext x0.f2 x0.f3 x0.f4 x0.f5 x1.f0 x1.f1 x2.f0.f0 x2.f0.f1 x2.f1.f0 x2.f1.f1 a3 = true
  · obtain ⟨⟨hp1, hp2, hp3, hp4⟩, hx, hr, hf, hu⟩ := okNext_iff.1 hok
    have hC : turf_Check.f x0.f0 x0.f1.f0 x0.f1.f1 x0.f2 x0.f3 x0.f4 x0.f5 = some 0 := by
      unfold turf_Check.f
      rw [pitchB_iff.2 ⟨hp1, hp2, hp3, hp4⟩, if_pos rfl]
    obtain ⟨p, hp, p1, p2⟩ := pick_law (n := x4.f0) hx (bounds_u16 h4.1)
    obtain ⟨q, hq, q1, q2⟩ := pick_law (n := x4.f1) (lo := x2.f0.f0) (hi := x2.f0.f1) (by omega) (bounds_u16 h4.2.1)
    obtain ⟨r, hr', r1, r2⟩ := pick_law (n := x4.f2) (lo := x2.f1.f0) (hi := x2.f1.f1) (by omega) (bounds_u16 h4.2.2)
    have e1 : dayV x0.f3 x0.f4 a3 x1.f0 x2.f0.f1 x2.f1.f1 ≤ dayV x0.f3 x0.f4 a3 p q r := dayV_mono (by omega) (by omega) p1 q2 (fun h => by omega)
    have e2 : dayV x0.f3 x0.f4 a3 p q r ≤ dayV x0.f3 x0.f4 a3 x1.f1 x2.f0.f0 x2.f1.f0 := dayV_mono (by omega) (by omega) p2 q1 (fun h => by omega)
    rw [next_yes' hok, Option.bind_some, if_pos rfl, hC, Option.bind_some, if_pos rfl, right_28, Option.bind_some, withinB_iff.2 hx, if_pos rfl, fine_28, Option.bind_some, withinB_iff.2 hr, withinB_iff.2 hf, Bool.and_self, if_pos rfl, if_neg (by omega), decide_eq_false (by omega)]
    simp only [fastilaw28_TurfHull.j0, Bool.false_eq_true, if_false]
    rw [hp, Option.bind_some, hq, Option.bind_some, hr', Option.bind_some, day_law 2000 (by omega) hp2 hp3 (by omega) (by omega) hu, Option.bind_some, if_neg (by omega), decide_eq_false (by omega)]
    simp only [fastilaw28_TurfHull.j1, Bool.false_eq_true, if_false]
    rw [Option.bind_some]
    exact hull_all 1978 x1.f0 x1.f1 hp2 hp3 (by omega) (by omega) (by omega) (by omega) hu rfl rfl
  · rw [next_no' hok, Option.bind_some]
    simp

end Go.Proofs.Ytenjkflckkmahaa.Pure
