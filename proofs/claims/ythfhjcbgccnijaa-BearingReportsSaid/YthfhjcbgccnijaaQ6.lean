/- Functions of the translation as plain Lean functions, and proofs that the calls do what these say; written by a program of this session round the kit's print. -/
import Derived.Test.YthfhjcbgccnijaaQ0
import Derived.Test.YthfhjcbgccnijaaAidB
import Derived.Test.YthfhjcbgccnijaaQ3
import Derived.Test.YthfhjcbgccnijaaQ4
import Derived.Test.YthfhjcbgccnijaaQ5
import Derived.Test.YthfhjcbgccnijaaOf
import Derived.Test.YthfhjcbgccnijaaRuns2
import Derived.Test.YthfhjcbgccnijaaSky
namespace Go.Proofs.Ythfhjcbgccnijaa.Q
open Go.RowKit Go.Proofs.YthfhjcbgccnijaaW.PrintWords Go.Proofs.YthfhjcbgccnijaaW.PrintLast Go.Proofs.YthfhjcbgccnijaaW.PrintMore
attribute [local go_sem] max2_int min2_int max_two min_two max_three min_three max_four min_four   -- for this text's walks alone
set_option linter.unusedVariables false
set_option linter.unusedSimpArgs false

/-! ### fastilaw29_BearingReports: function 4 -/
mutual
def fastilaw29_BearingReports.j0 : Nat → Int → Int → Bool → ByteArray → ByteArray → Int → Int → Int → Int → Int → Int → List Int → List Int → List Int → List Int → List Int → Option (Bool)
 | 0, _, _, _, _, _, _, _, _, _, _, _, _, _, _, _, _ => none
 | k + 1, x2, x7, x46, x214000, x214001, x214002, x214003, x214004, x214005, x214006, x215000, x215001, x215002, x215003, x215004, x215005 => if x46 = true then (some true) else ((fastilaw29_sky.f x215000 x215001 x215002 x215003 x215004 x215005 0).bind fun bt217 => (fastilaw29_BearingReports.l0 k x2 ([] : List (S41)) x7 0 x214000 x214001 x214002 x214003 x214004 x214005 x214006 x215000 x215001 x215002 x215003 x215004 x215005 bt217.1 bt217.2.1 bt217.2.2.1 bt217.2.2.2.1))
def fastilaw29_BearingReports.l0 : Nat → Int → List (S41) → Int → Int → ByteArray → ByteArray → Int → Int → Int → Int → Int → Int → List Int → List Int → List Int → List Int → List Int → Int → Int → Int → Int → Option (Bool)
 | 0, _, _, _, _, _, _, _, _, _, _, _, _, _, _, _, _, _, _, _, _, _ => none
 | k + 1, x2, x10, x52, x53, x214000, x214001, x214002, x214003, x214004, x214005, x214006, x215000, x215001, x215002, x215003, x215004, x215005, x226000, x226001, x226002, x226003 => if x53 < x52 then (if 0 ≤ x53 then (if x53 < (x215005.length : Int) then ((fastilaw29_sky.f 0 x215001 x215002 (([rd x215005 x53] : List Int)) (([(Int.tdiv (rd x215005 x53) 16) % 256] : List Int)) ([] : List Int) 0).bind fun bt236 => (if x10.length < 1954687338268 then (fastilaw29_BearingReports.l0 k x2 (x10 ++ [(⟨x53, Int.tmod (wrap64 (rd x215005 x53)) 3, 2, 9, wrap64 (100 * x53), (⟨bt236.2.2.2.2.1, bt236.2.2.2.2.2.1⟩ : S27), (⟨bt236.2.2.2.2.2.2.1, bt236.2.2.2.2.2.2.2⟩ : S27)⟩ : S41)]) x52 (wrap64 (x53 + 1)) x214000 x214001 x214002 x214003 x214004 x214005 x214006 x215000 x215001 x215002 x215003 x215004 x215005 x226000 x226001 x226002 x226003) else (none))) else (none)) else (none)) else ((weather_Of.f x10 2 9 (wrap64 (x2))).bind fun bt250 => (if bt250.2.2.2.2.2 = 0 then ((turf_Run.f x214000 x214001 x214002 x214003 x214004 x214005 x214006 x215000 x215000 (([(⟨(⟨x226000, x226001⟩ : S27), (⟨x226002, x226003⟩ : S27)⟩ : S39)] : List (S39))) (([1] : List Int))).bind fun bt264 => ((turf_Run.f x214000 x214001 x214002 x214003 x214004 x214005 x214006 x215000 x215000 (([(⟨(⟨bt250.1, bt250.2.1⟩ : S27), (⟨bt250.2.2.1, bt250.2.2.2.1⟩ : S27)⟩ : S39)] : List (S39))) (([1] : List Int))).bind fun bt274 => (if bt264.2 = 0 then (if bt274.2 = 0 then (if (bt264.1.length : Int) = 1 then (fastilaw29_BearingReports.j2 k bt264.1 bt274.1 ((bt274.1.length : Int) != 1) x214000 x214001 x214002 x214003 x214004 x214005 x214006) else (fastilaw29_BearingReports.j2 k bt264.1 bt274.1 true x214000 x214001 x214002 x214003 x214004 x214005 x214006)) else (fastilaw29_BearingReports.j2 k bt264.1 bt274.1 true x214000 x214001 x214002 x214003 x214004 x214005 x214006)) else (fastilaw29_BearingReports.j2 k bt264.1 bt274.1 true x214000 x214001 x214002 x214003 x214004 x214005 x214006)))) else (none)))
def fastilaw29_BearingReports.j2 : Nat → List (S27) → List (S27) → Bool → ByteArray → ByteArray → Int → Int → Int → Int → Int → Option (Bool)
 | 0, _, _, _, _, _, _, _, _, _, _ => none
 | k + 1, x19, x21, x146, x214000, x214001, x214002, x214003, x214004, x214005, x214006 => if x146 = true then (none) else (if 0 < (x21.length : Int) then ((bearing_Permit.f k x214000 x214001 x214002 x214003 x214004 x214005 x214006 ((rd_T27 x21 0).f0) ((rd_T27 x21 0).f1) 0 false).bind fun bt279 => (if bt279.2 = 0 then (if bt279.1 = true then (if 0 < (x19.length : Int) then (fastilaw29_BearingReports.j3 k (decide (((rd_T27 x19 0).f0) ≥ x214003))) else (none)) else (fastilaw29_BearingReports.j3 k true)) else (fastilaw29_BearingReports.j3 k false))) else (none))
def fastilaw29_BearingReports.j3 : Nat → Bool → Option (Bool)
 | 0, _ => none
 | k + 1, x6 => some x6
end
def fastilaw29_BearingReports.f (k : Nat) (a0_0 : ByteArray) (a0_1 : ByteArray) (a0_2 : Int) (a0_3 : Int) (a0_4 : Int) (a0_5 : Int) (a0_6 : Int) (a1_0 : Int) (l1_1 : List Int) (l1_2 : List Int) (l1_3 : List Int) (l1_4 : List Int) (l1_5 : List Int) (a2 : Int) : Option (Bool) := (fastilaw29_sane.f k).bind fun t215 => (if t215 = true then ((fastiref29_Pitch.f a0_0 a0_1 a0_2 a0_3 a0_4 a0_5 a0_6).bind fun t216 => (if t216 = true then (if (l1_5.length : Int) > 6 then (fastilaw29_BearingReports.j0 k a2 (l1_5.length : Int) true a0_0 a0_1 a0_2 a0_3 a0_4 a0_5 a0_6 a1_0 l1_1 l1_2 l1_3 l1_4 l1_5) else (if a1_0 < 0 then (fastilaw29_BearingReports.j0 k a2 (l1_5.length : Int) true a0_0 a0_1 a0_2 a0_3 a0_4 a0_5 a0_6 a1_0 l1_1 l1_2 l1_3 l1_4 l1_5) else (fastilaw29_BearingReports.j0 k a2 (l1_5.length : Int) (decide (a1_0 > 1000)) a0_0 a0_1 a0_2 a0_3 a0_4 a0_5 a0_6 a1_0 l1_1 l1_2 l1_3 l1_4 l1_5))) else (fastilaw29_BearingReports.j0 k a2 (l1_5.length : Int) true a0_0 a0_1 a0_2 a0_3 a0_4 a0_5 a0_6 a1_0 l1_1 l1_2 l1_3 l1_4 l1_5))) else (none))
theorem fastilaw29_BearingReports.mono_l : ∀ k, (∀ y0 y1 y2 y3 y4 y5 y6 y7 y8 y9 y10 y11 y12 y13 y14 y15, LeO (fastilaw29_BearingReports.j0 k y0 y1 y2 y3 y4 y5 y6 y7 y8 y9 y10 y11 y12 y13 y14 y15) (fastilaw29_BearingReports.j0 (k + 1) y0 y1 y2 y3 y4 y5 y6 y7 y8 y9 y10 y11 y12 y13 y14 y15)) ∧ (∀ y0 y1 y2 y3 y4 y5 y6 y7 y8 y9 y10 y11 y12 y13 y14 y15 y16 y17 y18 y19 y20, LeO (fastilaw29_BearingReports.l0 k y0 y1 y2 y3 y4 y5 y6 y7 y8 y9 y10 y11 y12 y13 y14 y15 y16 y17 y18 y19 y20) (fastilaw29_BearingReports.l0 (k + 1) y0 y1 y2 y3 y4 y5 y6 y7 y8 y9 y10 y11 y12 y13 y14 y15 y16 y17 y18 y19 y20)) ∧ (∀ y0 y1 y2 y3 y4 y5 y6 y7 y8 y9, LeO (fastilaw29_BearingReports.j2 k y0 y1 y2 y3 y4 y5 y6 y7 y8 y9) (fastilaw29_BearingReports.j2 (k + 1) y0 y1 y2 y3 y4 y5 y6 y7 y8 y9)) ∧ (∀ y0, LeO (fastilaw29_BearingReports.j3 k y0) (fastilaw29_BearingReports.j3 (k + 1) y0))
 | 0 => ⟨fun _ _ _ _ _ _ _ _ _ _ _ _ _ _ _ _ r h => by simp [fastilaw29_BearingReports.j0] at h, fun _ _ _ _ _ _ _ _ _ _ _ _ _ _ _ _ _ _ _ _ _ r h => by simp [fastilaw29_BearingReports.l0] at h, fun _ _ _ _ _ _ _ _ _ _ r h => by simp [fastilaw29_BearingReports.j2] at h, fun _ r h => by simp [fastilaw29_BearingReports.j3] at h⟩
 | k + 1 => by
  obtain ⟨ih0, ih1, ih2, ih3⟩ := fastilaw29_BearingReports.mono_l k
  refine ⟨?_, ?_, ?_, ?_⟩
  ·intro y0 y1 y2 y3 y4 y5 y6 y7 y8 y9 y10 y11 y12 y13 y14 y15
   unfold fastilaw29_BearingReports.j0
   repeat' first
   | (with_reducible exact ih0 _ _ _ _ _ _ _ _ _ _ _ _ _ _ _ _)
   | (with_reducible exact ih1 _ _ _ _ _ _ _ _ _ _ _ _ _ _ _ _ _ _ _ _ _)
   | (with_reducible exact ih2 _ _ _ _ _ _ _ _ _ _)
   | (with_reducible exact ih3 _)
   | (with_reducible exact bearing_Permit.mono _ _ _ _ _ _ _ _ _ _ _ _)
   | (with_reducible exact fastilaw29_sane.mono _)
   | (with_reducible exact LeO.refl _)
   | (with_reducible exact LeO.none _)
   | (with_reducible refine LeO.ite ?_ ?_)
   | (with_reducible refine LeO.bind ?_ (fun _ => ?_))
   | exact ih0 _ _ _ _ _ _ _ _ _ _ _ _ _ _ _ _
   | exact ih1 _ _ _ _ _ _ _ _ _ _ _ _ _ _ _ _ _ _ _ _ _
   | exact ih2 _ _ _ _ _ _ _ _ _ _
   | exact ih3 _
   | exact bearing_Permit.mono _ _ _ _ _ _ _ _ _ _ _ _
   | exact fastilaw29_sane.mono _
   | exact LeO.none _
   | refine LeO.ite ?_ ?_
   | refine LeO.bind ?_ (fun _ => ?_)
  ·intro y0 y1 y2 y3 y4 y5 y6 y7 y8 y9 y10 y11 y12 y13 y14 y15 y16 y17 y18 y19 y20
   unfold fastilaw29_BearingReports.l0
   repeat' first
   | (with_reducible exact ih0 _ _ _ _ _ _ _ _ _ _ _ _ _ _ _ _)
   | (with_reducible exact ih1 _ _ _ _ _ _ _ _ _ _ _ _ _ _ _ _ _ _ _ _ _)
   | (with_reducible exact ih2 _ _ _ _ _ _ _ _ _ _)
   | (with_reducible exact ih3 _)
   | (with_reducible exact bearing_Permit.mono _ _ _ _ _ _ _ _ _ _ _ _)
   | (with_reducible exact fastilaw29_sane.mono _)
   | (with_reducible exact LeO.refl _)
   | (with_reducible exact LeO.none _)
   | (with_reducible refine LeO.ite ?_ ?_)
   | (with_reducible refine LeO.bind ?_ (fun _ => ?_))
   | exact ih0 _ _ _ _ _ _ _ _ _ _ _ _ _ _ _ _
   | exact ih1 _ _ _ _ _ _ _ _ _ _ _ _ _ _ _ _ _ _ _ _ _
   | exact ih2 _ _ _ _ _ _ _ _ _ _
   | exact ih3 _
   | exact bearing_Permit.mono _ _ _ _ _ _ _ _ _ _ _ _
   | exact fastilaw29_sane.mono _
   | exact LeO.none _
   | refine LeO.ite ?_ ?_
   | refine LeO.bind ?_ (fun _ => ?_)
  ·intro y0 y1 y2 y3 y4 y5 y6 y7 y8 y9
   unfold fastilaw29_BearingReports.j2
   repeat' first
   | (with_reducible exact ih0 _ _ _ _ _ _ _ _ _ _ _ _ _ _ _ _)
   | (with_reducible exact ih1 _ _ _ _ _ _ _ _ _ _ _ _ _ _ _ _ _ _ _ _ _)
   | (with_reducible exact ih2 _ _ _ _ _ _ _ _ _ _)
   | (with_reducible exact ih3 _)
   | (with_reducible exact bearing_Permit.mono _ _ _ _ _ _ _ _ _ _ _ _)
   | (with_reducible exact fastilaw29_sane.mono _)
   | (with_reducible exact LeO.refl _)
   | (with_reducible exact LeO.none _)
   | (with_reducible refine LeO.ite ?_ ?_)
   | (with_reducible refine LeO.bind ?_ (fun _ => ?_))
   | exact ih0 _ _ _ _ _ _ _ _ _ _ _ _ _ _ _ _
   | exact ih1 _ _ _ _ _ _ _ _ _ _ _ _ _ _ _ _ _ _ _ _ _
   | exact ih2 _ _ _ _ _ _ _ _ _ _
   | exact ih3 _
   | exact bearing_Permit.mono _ _ _ _ _ _ _ _ _ _ _ _
   | exact fastilaw29_sane.mono _
   | exact LeO.none _
   | refine LeO.ite ?_ ?_
   | refine LeO.bind ?_ (fun _ => ?_)
  ·intro y0
   unfold fastilaw29_BearingReports.j3
   repeat' first
   | (with_reducible exact ih0 _ _ _ _ _ _ _ _ _ _ _ _ _ _ _ _)
   | (with_reducible exact ih1 _ _ _ _ _ _ _ _ _ _ _ _ _ _ _ _ _ _ _ _ _)
   | (with_reducible exact ih2 _ _ _ _ _ _ _ _ _ _)
   | (with_reducible exact ih3 _)
   | (with_reducible exact bearing_Permit.mono _ _ _ _ _ _ _ _ _ _ _ _)
   | (with_reducible exact fastilaw29_sane.mono _)
   | (with_reducible exact LeO.refl _)
   | (with_reducible exact LeO.none _)
   | (with_reducible refine LeO.ite ?_ ?_)
   | (with_reducible refine LeO.bind ?_ (fun _ => ?_))
   | exact ih0 _ _ _ _ _ _ _ _ _ _ _ _ _ _ _ _
   | exact ih1 _ _ _ _ _ _ _ _ _ _ _ _ _ _ _ _ _ _ _ _ _
   | exact ih2 _ _ _ _ _ _ _ _ _ _
   | exact ih3 _
   | exact bearing_Permit.mono _ _ _ _ _ _ _ _ _ _ _ _
   | exact fastilaw29_sane.mono _
   | exact LeO.none _
   | refine LeO.ite ?_ ?_
   | refine LeO.bind ?_ (fun _ => ?_)
theorem fastilaw29_BearingReports.mono : ∀ a0 a1 a2 a3 a4 a5 a6 a7 a8 a9 a10 a11 a12 a13 k, LeO (fastilaw29_BearingReports.f k a0 a1 a2 a3 a4 a5 a6 a7 a8 a9 a10 a11 a12 a13) (fastilaw29_BearingReports.f (k + 1) a0 a1 a2 a3 a4 a5 a6 a7 a8 a9 a10 a11 a12 a13) := by
 intro a0 a1 a2 a3 a4 a5 a6 a7 a8 a9 a10 a11 a12 a13 k
 obtain ⟨ih0, ih1, ih2, ih3⟩ := fastilaw29_BearingReports.mono_l k
 unfold fastilaw29_BearingReports.f
 repeat' first
   | (with_reducible exact ih0 _ _ _ _ _ _ _ _ _ _ _ _ _ _ _ _)
   | (with_reducible exact ih1 _ _ _ _ _ _ _ _ _ _ _ _ _ _ _ _ _ _ _ _ _)
   | (with_reducible exact ih2 _ _ _ _ _ _ _ _ _ _)
   | (with_reducible exact ih3 _)
   | (with_reducible exact bearing_Permit.mono _ _ _ _ _ _ _ _ _ _ _ _)
   | (with_reducible exact fastilaw29_sane.mono _)
   | (with_reducible exact LeO.refl _)
   | (with_reducible exact LeO.none _)
   | (with_reducible refine LeO.ite ?_ ?_)
   | (with_reducible refine LeO.bind ?_ (fun _ => ?_))
   | exact ih0 _ _ _ _ _ _ _ _ _ _ _ _ _ _ _ _
   | exact ih1 _ _ _ _ _ _ _ _ _ _ _ _ _ _ _ _ _ _ _ _ _
   | exact ih2 _ _ _ _ _ _ _ _ _ _
   | exact ih3 _
   | exact bearing_Permit.mono _ _ _ _ _ _ _ _ _ _ _ _
   | exact fastilaw29_sane.mono _
   | exact LeO.none _
   | refine LeO.ite ?_ ?_
   | refine LeO.bind ?_ (fun _ => ?_)
def fastilaw29_BearingReports.T11 : Bool × List (List Nat × List Nat) := (true, [([], []), ([0], [0]), ([], []), ([2], [2]), ([], []), ([4], [4]), ([], []), ([5, 6], [5, 6]), ([7], [7]), ([8], [8]), ([], []), ([10], [10]), ([], []), ([11, 12], [11, 12]), ([13], [13]), ([14], [14]), ([15], [15]), ([1, 3, 9, 16], [1, 3, 9, 16]), ([], []), ([18, 17, 0, 1, 2, 3, 4, 5, 6, 7, 8, 9, 10, 11, 12, 13, 14, 15, 16, 17, 18], [17, 18])])
def fastilaw29_BearingReports.B11 : List Nat := [0, 1, 0, 4, 0, 16, 0, 112, 240, 496, 0, 1024, 0, 7168, 15360, 31744, 64512, 131071, 0, 524287]
theorem fastilaw29_BearingReports.tab11 : rtab .any (opsOf Try.f4 11) = fastilaw29_BearingReports.T11 := by kernel_rfl
theorem fastilaw29_BearingReports.bits11 : waitsOk fastilaw29_BearingReports.T11.2 fastilaw29_BearingReports.B11 = true := by kernel_rfl
def fastilaw29_BearingReports.T13 : Bool × List (List Nat × List Nat) := (true, [([], []), ([], []), ([], []), ([2], [2]), ([], []), ([3, 4], [3, 4]), ([5], [5]), ([6], [6]), ([7], [7]), ([], []), ([9], [9]), ([], []), ([11], [11]), ([], []), ([13], [13]), ([1, 8, 10, 12, 14], [1, 8, 10, 12, 14]), ([15], [15]), ([0, 16], [0, 16]), ([17, 17, 0, 1, 2, 3, 4, 5, 6, 7, 8, 9, 10, 11, 12, 13, 14, 15, 16, 17], [0, 17])])
def fastilaw29_BearingReports.B13 : List Nat := [0, 0, 0, 4, 0, 28, 60, 124, 252, 0, 512, 0, 2048, 0, 8192, 32766, 65534, 131071, 262143]
theorem fastilaw29_BearingReports.tab13 : rtab .any (opsOf Try.f4 13) = fastilaw29_BearingReports.T13 := by kernel_rfl
theorem fastilaw29_BearingReports.bits13 : waitsOk fastilaw29_BearingReports.T13.2 fastilaw29_BearingReports.B13 = true := by kernel_rfl
def fastilaw29_BearingReports.T23 : Bool × List (List Nat × List Nat) := (true, [([], []), ([], []), ([1], [1]), ([2], [2]), ([0, 3], [0, 3]), ([4], [4]), ([5], [5]), ([5], [5]), ([6, 4, 0, 1, 2, 3, 4, 5, 6], [6]), ([7, 8, 0, 1, 2, 3, 4, 5, 6, 7, 8], [7])])
def fastilaw29_BearingReports.B23 : List Nat := [0, 0, 2, 6, 15, 31, 63, 63, 127, 511]
theorem fastilaw29_BearingReports.tab23 : rtab .any (opsOf Try.f4 23) = fastilaw29_BearingReports.T23 := by kernel_rfl
theorem fastilaw29_BearingReports.bits23 : waitsOk fastilaw29_BearingReports.T23.2 fastilaw29_BearingReports.B23 = true := by kernel_rfl
def fastilaw29_BearingReports.T24 : Bool × List (List Nat × List Nat) := (true, [([], []), ([0], [0]), ([1], [1]), ([2], [2]), ([3, 2], [2, 3]), ([4, 2, 2], [2, 4]), ([5], [5]), ([6, 5], [5, 6]), ([7, 5], [5, 7]), ([8, 5], [5, 8]), ([5], [5]), ([10, 5], [5, 10]), ([9, 11, 5], [5, 9, 11]), ([5, 12, 2], [2, 5, 12]), ([2, 13], [2, 13]), ([14, 5, 0, 1, 2, 3, 4, 5, 6, 7, 8, 9, 10, 11, 12, 13, 14], [14])])
def fastilaw29_BearingReports.B24 : List Nat := [0, 1, 3, 7, 15, 31, 63, 127, 255, 511, 63, 1087, 4095, 8191, 16383, 32767]
theorem fastilaw29_BearingReports.tab24 : rtab .any (opsOf Try.f4 24) = fastilaw29_BearingReports.T24 := by kernel_rfl
theorem fastilaw29_BearingReports.bits24 : waitsOk fastilaw29_BearingReports.T24.2 fastilaw29_BearingReports.B24 = true := by kernel_rfl
set_option maxHeartbeats 8000000 in
set_option maxRecDepth 100000 in
theorem fastilaw29_BearingReports.calls (k : Nat) (a0_0 : ByteArray) (a0_1 : ByteArray) (a0_2 : Int) (a0_3 : Int) (a0_4 : Int) (a0_5 : Int) (a0_6 : Int) (a1_0 : Int) (A1_1 : Option Addr) (c1_1 : Nat) (l1_1 : List Int) (A1_2 : Option Addr) (c1_2 : Nat) (l1_2 : List Int) (A1_3 : Option Addr) (c1_3 : Nat) (l1_3 : List Int) (A1_4 : Option Addr) (c1_4 : Nat) (l1_4 : List Int) (A1_5 : Option Addr) (c1_5 : Nat) (l1_5 : List Int) (a2 : Int) (r : Bool) (w : World) (hr1_1 : Kd.C (Kd.int .u8) w A1_1 l1_1.length l1_1) (hc1_1 : l1_1.length ≤ c1_1) (hr1_2 : Kd.C (Kd.int .u8) w A1_2 l1_2.length l1_2) (hc1_2 : l1_2.length ≤ c1_2) (hr1_3 : Kd.C (Kd.int .u8) w A1_3 l1_3.length l1_3) (hc1_3 : l1_3.length ≤ c1_3) (hr1_4 : Kd.C (Kd.int .u8) w A1_4 l1_4.length l1_4) (hc1_4 : l1_4.length ≤ c1_4) (hr1_5 : Kd.C (Kd.int .u8) w A1_5 l1_5.length l1_5) (hc1_5 : l1_5.length ≤ c1_5) (h : fastilaw29_BearingReports.f k a0_0 a0_1 a0_2 a0_3 a0_4 a0_5 a0_6 a1_0 l1_1 l1_2 l1_3 l1_4 l1_5 a2 = some r) :
  Calls Try.prog 4 #[.agg #[.string a0_0, .string a0_1, .int .i64 a0_2, .int .i64 a0_3, .int .i64 a0_4, .int .i64 a0_5, .int .i64 a0_6], .agg #[.int .i64 a1_0, .slice A1_1 l1_1.length c1_1, .slice A1_2 l1_2.length c1_2, .slice A1_3 l1_3.length c1_3, .slice A1_4 l1_4.length c1_4, .slice A1_5 l1_5.length c1_5], .int .u16 a2] w fun e w' => e = .returned (.bool r) ∧ Below w.heap.size w w' := by
 have hu25 := Try.underlying25
 have hu57 := Try.underlying57
 have hu39 := Try.underlying39
 have hu27 := Try.underlying27
 have hu41 := Try.underlying41
 have HR1_1 := Aside0.mk hr1_1
 have HC1_1 := Aside0.mk hc1_1
 clear hr1_1 hc1_1
 have HR1_2 := Aside0.mk hr1_2
 have HC1_2 := Aside0.mk hc1_2
 clear hr1_2 hc1_2
 have HR1_3 := Aside0.mk hr1_3
 have HC1_3 := Aside0.mk hc1_3
 clear hr1_3 hc1_3
 have HR1_4 := Aside0.mk hr1_4
 have HC1_4 := Aside0.mk hc1_4
 clear hr1_4 hc1_4
 have HR1_5 := Aside0.mk hr1_5
 have HC1_5 := Aside0.mk hc1_5
 clear hr1_5 hc1_5
 have HB := Aside0.mk (Below.refl w.heap.size w)
 have H : ((fastilaw29_sane.f k).bind fun t215 => (if t215 = true then ((fastiref29_Pitch.f a0_0 a0_1 a0_2 a0_3 a0_4 a0_5 a0_6).bind fun t216 => (if t216 = true then (if (l1_5.length : Int) > 6 then (fastilaw29_BearingReports.j0 k a2 (l1_5.length : Int) true a0_0 a0_1 a0_2 a0_3 a0_4 a0_5 a0_6 a1_0 l1_1 l1_2 l1_3 l1_4 l1_5) else (if a1_0 < 0 then (fastilaw29_BearingReports.j0 k a2 (l1_5.length : Int) true a0_0 a0_1 a0_2 a0_3 a0_4 a0_5 a0_6 a1_0 l1_1 l1_2 l1_3 l1_4 l1_5) else (fastilaw29_BearingReports.j0 k a2 (l1_5.length : Int) (decide (a1_0 > 1000)) a0_0 a0_1 a0_2 a0_3 a0_4 a0_5 a0_6 a1_0 l1_1 l1_2 l1_3 l1_4 l1_5))) else (fastilaw29_BearingReports.j0 k a2 (l1_5.length : Int) true a0_0 a0_1 a0_2 a0_3 a0_4 a0_5 a0_6 a1_0 l1_1 l1_2 l1_3 l1_4 l1_5))) else (none))) = some r := h
 clear h
 replace H := Option.bind_eq_some_iff.mp H
 obtain ⟨t215, A40, H⟩ := H
 replace H : (if t215 = true then ((fastiref29_Pitch.f a0_0 a0_1 a0_2 a0_3 a0_4 a0_5 a0_6).bind fun t216 => (if t216 = true then (if (l1_5.length : Int) > 6 then (fastilaw29_BearingReports.j0 k a2 (l1_5.length : Int) true a0_0 a0_1 a0_2 a0_3 a0_4 a0_5 a0_6 a1_0 l1_1 l1_2 l1_3 l1_4 l1_5) else (if a1_0 < 0 then (fastilaw29_BearingReports.j0 k a2 (l1_5.length : Int) true a0_0 a0_1 a0_2 a0_3 a0_4 a0_5 a0_6 a1_0 l1_1 l1_2 l1_3 l1_4 l1_5) else (fastilaw29_BearingReports.j0 k a2 (l1_5.length : Int) (decide (a1_0 > 1000)) a0_0 a0_1 a0_2 a0_3 a0_4 a0_5 a0_6 a1_0 l1_1 l1_2 l1_3 l1_4 l1_5))) else (fastilaw29_BearingReports.j0 k a2 (l1_5.length : Int) true a0_0 a0_1 a0_2 a0_3 a0_4 a0_5 a0_6 a1_0 l1_1 l1_2 l1_3 l1_4 l1_5))) else (none)) = some r := H
 have A4 := Aside0.mk A40
 clear A40
 by_cases c5 : t215 = true
 ·subst c5
  have H1 : ((fastiref29_Pitch.f a0_0 a0_1 a0_2 a0_3 a0_4 a0_5 a0_6).bind fun t216 => (if t216 = true then (if (l1_5.length : Int) > 6 then (fastilaw29_BearingReports.j0 k a2 (l1_5.length : Int) true a0_0 a0_1 a0_2 a0_3 a0_4 a0_5 a0_6 a1_0 l1_1 l1_2 l1_3 l1_4 l1_5) else (if a1_0 < 0 then (fastilaw29_BearingReports.j0 k a2 (l1_5.length : Int) true a0_0 a0_1 a0_2 a0_3 a0_4 a0_5 a0_6 a1_0 l1_1 l1_2 l1_3 l1_4 l1_5) else (fastilaw29_BearingReports.j0 k a2 (l1_5.length : Int) (decide (a1_0 > 1000)) a0_0 a0_1 a0_2 a0_3 a0_4 a0_5 a0_6 a1_0 l1_1 l1_2 l1_3 l1_4 l1_5))) else (fastilaw29_BearingReports.j0 k a2 (l1_5.length : Int) true a0_0 a0_1 a0_2 a0_3 a0_4 a0_5 a0_6 a1_0 l1_1 l1_2 l1_3 l1_4 l1_5))) = some r := by rw [if_pos rfl] at H; exact H
  clear H
  have H := H1
  clear H1
  have HC6 := Aside0.mk H
  clear H
  go_enter Try.func4, Try.ntmps4
  go_upto_region 4 with (first | ((with_reducible refine gate_dst (N := 3) rfl ?_); (try (refine gate_guard (by rfl) ?_; dsimp only)); refine box_event ?hg (N := 3) ?hd (cs := #[.string a0_0, .string a0_1, .int .i64 a0_2, .int .i64 a0_3, .int .i64 a0_4, .int .i64 a0_5, .int .i64 a0_6]) (t := 25) ?hr ?_; (case hd => rfl); (case hg => rfl); (case hr => first | (go_simp; done) | (go_simp; rfl)); intro gb213 hg w7 hbox hb; have BK213 := Aside0.mk (hbox); have GW213 := Aside0.mk ((by rw [hg]; exact (below_size (blw HB.out)) : w.heap.size ≤ gb213)); have GE213 := Aside0.mk ((by rw [hg]; exact (below_size (blw HB.out)) : w.heap.size ≤ gb213)); replace HB := Aside0.mk (below_step (blw HB.out) hb); clear hb hbox hg) | ((with_reducible refine gate_dst (N := 4) rfl ?_); (try (refine gate_guard (by rfl) ?_; dsimp only)); refine box_event ?hg (N := 4) ?hd (cs := #[.int .i64 a1_0, .slice A1_1 l1_1.length c1_1, .slice A1_2 l1_2.length c1_2, .slice A1_3 l1_3.length c1_3, .slice A1_4 l1_4.length c1_4, .slice A1_5 l1_5.length c1_5]) (t := 57) ?hr ?_; (case hd => rfl); (case hg => rfl); (case hr => first | (go_simp; done) | (go_simp; rfl)); intro gb214 hg w8 hbox hb; have BK214 := Aside0.mk (hbox); have GW214 := Aside0.mk ((by rw [hg]; exact (below_size (blw HB.out)) : w.heap.size ≤ gb214)); have GE214 := Aside0.mk ((by rw [hg]; exact (below_size (blw HB.out)) : w.heap.size ≤ gb214)); replace HB := Aside0.mk (below_step (blw HB.out) hb); have NB213_214 := Aside0.mk ((by rw [hg]; exact Nat.ne_of_lt (blk_lt (zk BK213.out)) : gb213 ≠ gb214)); have NB214_213 := Aside0.mk ((by rw [hg]; exact Nat.ne_of_gt (blk_lt (zk BK213.out)) : gb214 ≠ gb213)); replace BK213 := Aside0.mk (zb BK213.out hb); clear hb hbox hg) | ((with_reducible refine gate_callee (f := 22) rfl ?_); refine goesL_ (some 25) rfl rfl Try.func22 (by kernel_rfl) rfl #[] rfl (by (try simp only [List.map_toArray, List.map_cons, List.map_nil]); first | done | rfl | (simp only [List.length_drop, List.length_take]; rfl)) ?_; (with_reducible refine (fastilaw29_sane.calls k  true _ A4.out).mono ?_); rintro e w9 ⟨rfl, hb⟩; refine ⟨_, rfl, ?_⟩; replace BK213 := Aside0.mk (zb BK213.out hb); replace BK214 := Aside0.mk (zb BK214.out hb); replace HB := Aside0.mk (below_step (blw HB.out) hb); (try clear hb); (try clear hb2); (try clear hk); (try clear hi); have hnb10 := NB214_213.out; have hnc10 := NB213_214.out; have hcz11_0 : w9.cell? ⟨gb214, 0, none⟩ = some (.int .i64 a1_0) := bc BK214 0; have hcz11_1 : w9.cell? ⟨gb214, 1, none⟩ = some (.slice A1_1 l1_1.length c1_1) := bc BK214 1; have hcz11_2 : w9.cell? ⟨gb214, 2, none⟩ = some (.slice A1_2 l1_2.length c1_2) := bc BK214 2; have hcz11_3 : w9.cell? ⟨gb214, 3, none⟩ = some (.slice A1_3 l1_3.length c1_3) := bc BK214 3; have hcz11_4 : w9.cell? ⟨gb214, 4, none⟩ = some (.slice A1_4 l1_4.length c1_4) := bc BK214 4; have hcz11_5 : w9.cell? ⟨gb214, 5, none⟩ = some (.slice A1_5 l1_5.length c1_5) := bc BK214 5; have hfz11_0 := blk_frozen BK214.out 0; have hfz11_1 := blk_frozen BK214.out 1; have hfz11_2 := blk_frozen BK214.out 2; have hfz11_3 := blk_frozen BK214.out 3; have hfz11_4 := blk_frozen BK214.out 4; have hfz11_5 := blk_frozen BK214.out 5))
  (try simp only [Act.put, List.setIfInBounds_toArray, List.set_cons_zero, List.set_cons_succ])
  go_cut [46] (fun v46 wc => ∃ (kq : Nat) (x46_5 : Bool), v46 = .bool x46_5 ∧ Aside0 (fastilaw29_BearingReports.j0 kq a2 (l1_5.length : Int) x46_5 a0_0 a0_1 a0_2 a0_3 a0_4 a0_5 a0_6 a1_0 l1_1 l1_2 l1_3 l1_4 l1_5 = some r) ∧ Aside0 (kq ≤ k) ∧ Aside0 (wc.heap[gb213]? = some (.cells #[.string a0_0, .string a0_1, .int .i64 a0_2, .int .i64 a0_3, .int .i64 a0_4, .int .i64 a0_5, .int .i64 a0_6] 25 (0, 0))) ∧ Aside0 (wc.heap[gb214]? = some (.cells #[.int .i64 a1_0, (.slice A1_1 l1_1.length c1_1), (.slice A1_2 l1_2.length c1_2), (.slice A1_3 l1_3.length c1_3), (.slice A1_4 l1_4.length c1_4), (.slice A1_5 l1_5.length c1_5)] 57 (0, 0))) ∧ Aside0 (Below w.heap.size w wc))
  case first =>
   have H := HC6.out
   clear HC6
   replace H := Option.bind_eq_some_iff.mp H
   obtain ⟨t216, A120, H⟩ := H
   replace H : (if t216 = true then (if (l1_5.length : Int) > 6 then (fastilaw29_BearingReports.j0 k a2 (l1_5.length : Int) true a0_0 a0_1 a0_2 a0_3 a0_4 a0_5 a0_6 a1_0 l1_1 l1_2 l1_3 l1_4 l1_5) else (if a1_0 < 0 then (fastilaw29_BearingReports.j0 k a2 (l1_5.length : Int) true a0_0 a0_1 a0_2 a0_3 a0_4 a0_5 a0_6 a1_0 l1_1 l1_2 l1_3 l1_4 l1_5) else (fastilaw29_BearingReports.j0 k a2 (l1_5.length : Int) (decide (a1_0 > 1000)) a0_0 a0_1 a0_2 a0_3 a0_4 a0_5 a0_6 a1_0 l1_1 l1_2 l1_3 l1_4 l1_5))) else (fastilaw29_BearingReports.j0 k a2 (l1_5.length : Int) true a0_0 a0_1 a0_2 a0_3 a0_4 a0_5 a0_6 a1_0 l1_1 l1_2 l1_3 l1_4 l1_5)) = some r := H
   have A12 := Aside0.mk A120
   clear A120
   by_cases c13 : t216 = true
   ·subst c13
    have H1 : (if (l1_5.length : Int) > 6 then (fastilaw29_BearingReports.j0 k a2 (l1_5.length : Int) true a0_0 a0_1 a0_2 a0_3 a0_4 a0_5 a0_6 a1_0 l1_1 l1_2 l1_3 l1_4 l1_5) else (if a1_0 < 0 then (fastilaw29_BearingReports.j0 k a2 (l1_5.length : Int) true a0_0 a0_1 a0_2 a0_3 a0_4 a0_5 a0_6 a1_0 l1_1 l1_2 l1_3 l1_4 l1_5) else (fastilaw29_BearingReports.j0 k a2 (l1_5.length : Int) (decide (a1_0 > 1000)) a0_0 a0_1 a0_2 a0_3 a0_4 a0_5 a0_6 a1_0 l1_1 l1_2 l1_3 l1_4 l1_5))) = some r := by rw [if_pos rfl] at H; exact H
    clear H
    have H := H1
    clear H1
    by_cases c14 : (l1_5.length : Int) > 6
    ·rw [if_pos c14] at H
     have c14b0 : decide (6 < (l1_5.length : Int)) = true := decide_eq_true c14
     have c14b1 : decide (6 < l1_5.length) = true := decide_eq_true (by omega)
     clear c14
     (first | rw [c14b0] | (simp only [i64_w, i32_w]; rw [c14b0]) | skip)
     have H' := Aside0.mk H
     clear H
     have hnb15 := NB213_214.out
     have hnc15 := NB214_213.out
     have hcz16_0 : w9.cell? ⟨gb213, 0, none⟩ = some (.string a0_0) := bc BK213 0
     have hcz16_1 : w9.cell? ⟨gb213, 1, none⟩ = some (.string a0_1) := bc BK213 1
     have hcz16_2 : w9.cell? ⟨gb213, 2, none⟩ = some (.int .i64 a0_2) := bc BK213 2
     have hcz16_3 : w9.cell? ⟨gb213, 3, none⟩ = some (.int .i64 a0_3) := bc BK213 3
     have hcz16_4 : w9.cell? ⟨gb213, 4, none⟩ = some (.int .i64 a0_4) := bc BK213 4
     have hcz16_5 : w9.cell? ⟨gb213, 5, none⟩ = some (.int .i64 a0_5) := bc BK213 5
     have hcz16_6 : w9.cell? ⟨gb213, 6, none⟩ = some (.int .i64 a0_6) := bc BK213 6
     have hfz16_0 := blk_frozen BK213.out 0
     have hfz16_1 := blk_frozen BK213.out 1
     have hfz16_2 := blk_frozen BK213.out 2
     have hfz16_3 := blk_frozen BK213.out 3
     have hfz16_4 := blk_frozen BK213.out 4
     have hfz16_5 := blk_frozen BK213.out 5
     have hfz16_6 := blk_frozen BK213.out 6
     go_wp2_with (first | ((with_reducible refine gate_callee (f := 23) rfl ?_); refine goesL_ (some 31) rfl rfl Try.func23 (by kernel_rfl) rfl #[.agg #[.string a0_0, .string a0_1, .int .i64 a0_2, .int .i64 a0_3, .int .i64 a0_4, .int .i64 a0_5, .int .i64 a0_6]] rfl (by (try simp only [List.map_toArray, List.map_cons, List.map_nil]); first | done | rfl | (simp only [List.length_drop, List.length_take]; rfl)) ?_; (with_reducible refine (fastiref29_Pitch.calls a0_0 a0_1 a0_2 a0_3 a0_4 a0_5 a0_6 true _ A12.out).mono ?_); rintro e w17 ⟨rfl, hb⟩; refine ⟨_, rfl, ?_⟩; replace BK213 := Aside0.mk (zb BK213.out hb); replace BK214 := Aside0.mk (zb BK214.out hb); replace HB := Aside0.mk (below_step (blw HB.out) hb); (try clear hb); (try clear hb2); (try clear hk); (try clear hi)))
     go_meet
     case rel => exact ⟨_, (true), (by first | rfl | (simp; done) | (simp [*]; done)), H', ⟨by first | omega | exact Nat.le_refl _⟩, ⟨zk BK213.out⟩, ⟨zk BK214.out⟩, ⟨blw HB.out⟩⟩
    ·rw [if_neg c14] at H
     have c14b0 : decide (6 < (l1_5.length : Int)) = false := decide_eq_false c14
     have c14b1 : decide (6 < l1_5.length) = false := decide_eq_false (by omega)
     clear c14
     (first | rw [c14b0] | (simp only [i64_w, i32_w]; rw [c14b0]) | skip)
     by_cases c18 : a1_0 < 0
     ·rw [if_pos c18] at H
      have c18b0 : decide (a1_0 < 0) = true := decide_eq_true c18
      clear c18
      have H' := Aside0.mk H
      clear H
      have hnb19 := NB213_214.out
      have hnc19 := NB214_213.out
      have hcz20_0 : w9.cell? ⟨gb213, 0, none⟩ = some (.string a0_0) := bc BK213 0
      have hcz20_1 : w9.cell? ⟨gb213, 1, none⟩ = some (.string a0_1) := bc BK213 1
      have hcz20_2 : w9.cell? ⟨gb213, 2, none⟩ = some (.int .i64 a0_2) := bc BK213 2
      have hcz20_3 : w9.cell? ⟨gb213, 3, none⟩ = some (.int .i64 a0_3) := bc BK213 3
      have hcz20_4 : w9.cell? ⟨gb213, 4, none⟩ = some (.int .i64 a0_4) := bc BK213 4
      have hcz20_5 : w9.cell? ⟨gb213, 5, none⟩ = some (.int .i64 a0_5) := bc BK213 5
      have hcz20_6 : w9.cell? ⟨gb213, 6, none⟩ = some (.int .i64 a0_6) := bc BK213 6
      have hfz20_0 := blk_frozen BK213.out 0
      have hfz20_1 := blk_frozen BK213.out 1
      have hfz20_2 := blk_frozen BK213.out 2
      have hfz20_3 := blk_frozen BK213.out 3
      have hfz20_4 := blk_frozen BK213.out 4
      have hfz20_5 := blk_frozen BK213.out 5
      have hfz20_6 := blk_frozen BK213.out 6
      go_wp2_with (first | ((with_reducible refine gate_callee (f := 23) rfl ?_); refine goesL_ (some 31) rfl rfl Try.func23 (by kernel_rfl) rfl #[.agg #[.string a0_0, .string a0_1, .int .i64 a0_2, .int .i64 a0_3, .int .i64 a0_4, .int .i64 a0_5, .int .i64 a0_6]] rfl (by (try simp only [List.map_toArray, List.map_cons, List.map_nil]); first | done | rfl | (simp only [List.length_drop, List.length_take]; rfl)) ?_; (with_reducible refine (fastiref29_Pitch.calls a0_0 a0_1 a0_2 a0_3 a0_4 a0_5 a0_6 true _ A12.out).mono ?_); rintro e w21 ⟨rfl, hb⟩; refine ⟨_, rfl, ?_⟩; replace BK213 := Aside0.mk (zb BK213.out hb); replace BK214 := Aside0.mk (zb BK214.out hb); replace HB := Aside0.mk (below_step (blw HB.out) hb); (try clear hb); (try clear hb2); (try clear hk); (try clear hi); have hcz22_0 : w21.cell? ⟨gb214, 0, none⟩ = some (.int .i64 a1_0) := bc BK214 0; have hcz22_1 : w21.cell? ⟨gb214, 1, none⟩ = some (.slice A1_1 l1_1.length c1_1) := bc BK214 1; have hcz22_2 : w21.cell? ⟨gb214, 2, none⟩ = some (.slice A1_2 l1_2.length c1_2) := bc BK214 2; have hcz22_3 : w21.cell? ⟨gb214, 3, none⟩ = some (.slice A1_3 l1_3.length c1_3) := bc BK214 3; have hcz22_4 : w21.cell? ⟨gb214, 4, none⟩ = some (.slice A1_4 l1_4.length c1_4) := bc BK214 4; have hcz22_5 : w21.cell? ⟨gb214, 5, none⟩ = some (.slice A1_5 l1_5.length c1_5) := bc BK214 5; have hfz22_0 := blk_frozen BK214.out 0; have hfz22_1 := blk_frozen BK214.out 1; have hfz22_2 := blk_frozen BK214.out 2; have hfz22_3 := blk_frozen BK214.out 3; have hfz22_4 := blk_frozen BK214.out 4; have hfz22_5 := blk_frozen BK214.out 5))
      go_meet
      case rel => exact ⟨_, (true), (by first | rfl | (simp; done) | (simp [*]; done)), H', ⟨by first | omega | exact Nat.le_refl _⟩, ⟨zk BK213.out⟩, ⟨zk BK214.out⟩, ⟨blw HB.out⟩⟩
     ·rw [if_neg c18] at H
      have c18b0 : decide (a1_0 < 0) = false := decide_eq_false c18
      clear c18
      have H' := Aside0.mk H
      clear H
      have hnb23 := NB213_214.out
      have hnc23 := NB214_213.out
      have hcz24_0 : w9.cell? ⟨gb213, 0, none⟩ = some (.string a0_0) := bc BK213 0
      have hcz24_1 : w9.cell? ⟨gb213, 1, none⟩ = some (.string a0_1) := bc BK213 1
      have hcz24_2 : w9.cell? ⟨gb213, 2, none⟩ = some (.int .i64 a0_2) := bc BK213 2
      have hcz24_3 : w9.cell? ⟨gb213, 3, none⟩ = some (.int .i64 a0_3) := bc BK213 3
      have hcz24_4 : w9.cell? ⟨gb213, 4, none⟩ = some (.int .i64 a0_4) := bc BK213 4
      have hcz24_5 : w9.cell? ⟨gb213, 5, none⟩ = some (.int .i64 a0_5) := bc BK213 5
      have hcz24_6 : w9.cell? ⟨gb213, 6, none⟩ = some (.int .i64 a0_6) := bc BK213 6
      have hfz24_0 := blk_frozen BK213.out 0
      have hfz24_1 := blk_frozen BK213.out 1
      have hfz24_2 := blk_frozen BK213.out 2
      have hfz24_3 := blk_frozen BK213.out 3
      have hfz24_4 := blk_frozen BK213.out 4
      have hfz24_5 := blk_frozen BK213.out 5
      have hfz24_6 := blk_frozen BK213.out 6
      go_wp2_with (first | ((with_reducible refine gate_callee (f := 23) rfl ?_); refine goesL_ (some 31) rfl rfl Try.func23 (by kernel_rfl) rfl #[.agg #[.string a0_0, .string a0_1, .int .i64 a0_2, .int .i64 a0_3, .int .i64 a0_4, .int .i64 a0_5, .int .i64 a0_6]] rfl (by (try simp only [List.map_toArray, List.map_cons, List.map_nil]); first | done | rfl | (simp only [List.length_drop, List.length_take]; rfl)) ?_; (with_reducible refine (fastiref29_Pitch.calls a0_0 a0_1 a0_2 a0_3 a0_4 a0_5 a0_6 true _ A12.out).mono ?_); rintro e w25 ⟨rfl, hb⟩; refine ⟨_, rfl, ?_⟩; replace BK213 := Aside0.mk (zb BK213.out hb); replace BK214 := Aside0.mk (zb BK214.out hb); replace HB := Aside0.mk (below_step (blw HB.out) hb); (try clear hb); (try clear hb2); (try clear hk); (try clear hi); have hcz26_0 : w25.cell? ⟨gb214, 0, none⟩ = some (.int .i64 a1_0) := bc BK214 0; have hcz26_1 : w25.cell? ⟨gb214, 1, none⟩ = some (.slice A1_1 l1_1.length c1_1) := bc BK214 1; have hcz26_2 : w25.cell? ⟨gb214, 2, none⟩ = some (.slice A1_2 l1_2.length c1_2) := bc BK214 2; have hcz26_3 : w25.cell? ⟨gb214, 3, none⟩ = some (.slice A1_3 l1_3.length c1_3) := bc BK214 3; have hcz26_4 : w25.cell? ⟨gb214, 4, none⟩ = some (.slice A1_4 l1_4.length c1_4) := bc BK214 4; have hcz26_5 : w25.cell? ⟨gb214, 5, none⟩ = some (.slice A1_5 l1_5.length c1_5) := bc BK214 5; have hfz26_0 := blk_frozen BK214.out 0; have hfz26_1 := blk_frozen BK214.out 1; have hfz26_2 := blk_frozen BK214.out 2; have hfz26_3 := blk_frozen BK214.out 3; have hfz26_4 := blk_frozen BK214.out 4; have hfz26_5 := blk_frozen BK214.out 5))
      go_meet
      case rel => exact ⟨_, (decide (a1_0 > 1000)), (by first | rfl | (simp; done) | (simp [*]; done)), H', ⟨by first | omega | exact Nat.le_refl _⟩, ⟨zk BK213.out⟩, ⟨zk BK214.out⟩, ⟨blw HB.out⟩⟩
   ·replace c13 := Bool.eq_false_iff.mpr c13
    subst c13
    have H1 : (fastilaw29_BearingReports.j0 k a2 (l1_5.length : Int) true a0_0 a0_1 a0_2 a0_3 a0_4 a0_5 a0_6 a1_0 l1_1 l1_2 l1_3 l1_4 l1_5) = some r := by rw [if_neg (show ¬ (false = true) by decide)] at H; exact H
    clear H
    have H := H1
    clear H1
    have H' := Aside0.mk H
    clear H
    have hnb27 := NB213_214.out
    have hnc27 := NB214_213.out
    have hcz28_0 : w9.cell? ⟨gb213, 0, none⟩ = some (.string a0_0) := bc BK213 0
    have hcz28_1 : w9.cell? ⟨gb213, 1, none⟩ = some (.string a0_1) := bc BK213 1
    have hcz28_2 : w9.cell? ⟨gb213, 2, none⟩ = some (.int .i64 a0_2) := bc BK213 2
    have hcz28_3 : w9.cell? ⟨gb213, 3, none⟩ = some (.int .i64 a0_3) := bc BK213 3
    have hcz28_4 : w9.cell? ⟨gb213, 4, none⟩ = some (.int .i64 a0_4) := bc BK213 4
    have hcz28_5 : w9.cell? ⟨gb213, 5, none⟩ = some (.int .i64 a0_5) := bc BK213 5
    have hcz28_6 : w9.cell? ⟨gb213, 6, none⟩ = some (.int .i64 a0_6) := bc BK213 6
    have hfz28_0 := blk_frozen BK213.out 0
    have hfz28_1 := blk_frozen BK213.out 1
    have hfz28_2 := blk_frozen BK213.out 2
    have hfz28_3 := blk_frozen BK213.out 3
    have hfz28_4 := blk_frozen BK213.out 4
    have hfz28_5 := blk_frozen BK213.out 5
    have hfz28_6 := blk_frozen BK213.out 6
    go_wp2_with (first | ((with_reducible refine gate_callee (f := 23) rfl ?_); refine goesL_ (some 31) rfl rfl Try.func23 (by kernel_rfl) rfl #[.agg #[.string a0_0, .string a0_1, .int .i64 a0_2, .int .i64 a0_3, .int .i64 a0_4, .int .i64 a0_5, .int .i64 a0_6]] rfl (by (try simp only [List.map_toArray, List.map_cons, List.map_nil]); first | done | rfl | (simp only [List.length_drop, List.length_take]; rfl)) ?_; (with_reducible refine (fastiref29_Pitch.calls a0_0 a0_1 a0_2 a0_3 a0_4 a0_5 a0_6 false _ A12.out).mono ?_); rintro e w29 ⟨rfl, hb⟩; refine ⟨_, rfl, ?_⟩; replace BK213 := Aside0.mk (zb BK213.out hb); replace BK214 := Aside0.mk (zb BK214.out hb); replace HB := Aside0.mk (below_step (blw HB.out) hb); (try clear hb); (try clear hb2); (try clear hk); (try clear hi)))
    go_meet
    case rel => exact ⟨_, (true), (by first | rfl | (simp; done) | (simp [*]; done)), H', ⟨by first | omega | exact Nat.le_refl _⟩, ⟨zk BK213.out⟩, ⟨zk BK214.out⟩, ⟨blw HB.out⟩⟩
  case rest =>
   clear HC6
   try clear c1
   try clear c2
   try clear p2
   try clear c4
   try clear c5
   try clear c10
   try clear c13
   try clear c14
   try clear c14b0
   try clear c14b1
   try clear c15
   try clear c18
   try clear c18b0
   try clear c19
   try clear c22
   try clear c23
   try clear c27
   try clear hcz11_0
   try clear hcz11_1
   try clear hcz11_2
   try clear hcz11_3
   try clear hcz11_4
   try clear hcz11_5
   try clear hcz16_0
   try clear hcz16_1
   try clear hcz16_2
   try clear hcz16_3
   try clear hcz16_4
   try clear hcz16_5
   try clear hcz16_6
   try clear hcz20_0
   try clear hcz20_1
   try clear hcz20_2
   try clear hcz20_3
   try clear hcz20_4
   try clear hcz20_5
   try clear hcz20_6
   try clear hcz22_0
   try clear hcz22_1
   try clear hcz22_2
   try clear hcz22_3
   try clear hcz22_4
   try clear hcz22_5
   try clear hcz24_0
   try clear hcz24_1
   try clear hcz24_2
   try clear hcz24_3
   try clear hcz24_4
   try clear hcz24_5
   try clear hcz24_6
   try clear hcz26_0
   try clear hcz26_1
   try clear hcz26_2
   try clear hcz26_3
   try clear hcz26_4
   try clear hcz26_5
   try clear hcz28_0
   try clear hcz28_1
   try clear hcz28_2
   try clear hcz28_3
   try clear hcz28_4
   try clear hcz28_5
   try clear hcz28_6
   try clear hfz11_0
   try clear hfz11_1
   try clear hfz11_2
   try clear hfz11_3
   try clear hfz11_4
   try clear hfz11_5
   try clear hfz16_0
   try clear hfz16_1
   try clear hfz16_2
   try clear hfz16_3
   try clear hfz16_4
   try clear hfz16_5
   try clear hfz16_6
   try clear hfz20_0
   try clear hfz20_1
   try clear hfz20_2
   try clear hfz20_3
   try clear hfz20_4
   try clear hfz20_5
   try clear hfz20_6
   try clear hfz22_0
   try clear hfz22_1
   try clear hfz22_2
   try clear hfz22_3
   try clear hfz22_4
   try clear hfz22_5
   try clear hfz24_0
   try clear hfz24_1
   try clear hfz24_2
   try clear hfz24_3
   try clear hfz24_4
   try clear hfz24_5
   try clear hfz24_6
   try clear hfz26_0
   try clear hfz26_1
   try clear hfz26_2
   try clear hfz26_3
   try clear hfz26_4
   try clear hfz26_5
   try clear hfz28_0
   try clear hfz28_1
   try clear hfz28_2
   try clear hfz28_3
   try clear hfz28_4
   try clear hfz28_5
   try clear hfz28_6
   obtain ⟨kq, x46_5, rfl, HA, HJ5, BK213, BK214, HB⟩ := hcut
   cases kq with
   | zero => exact absurd HA.out (by simp [fastilaw29_BearingReports.j0])
   | succ kj5 =>
    have H := HA.out
    clear HA
    simp only [fastilaw29_BearingReports.j0] at H
    by_cases c30 : x46_5 = true
    ·subst c30
     have H1 : (some true) = some r := by rw [if_pos rfl] at H; exact H
     clear H
     have H := H1
     clear H1
     obtain rfl := Option.some.inj H
     go_wp2
     go_ret
     exact ⟨by first | rfl | (simp [errW_none, errW_some] <;> rfl) | (simp [*, errW_none, errW_some] <;> rfl), blw HB.out⟩
    ·replace c30 := Bool.eq_false_iff.mpr c30
     subst c30
     have H1 : ((fastilaw29_sky.f a1_0 l1_1 l1_2 l1_3 l1_4 l1_5 0).bind fun bt217 => (fastilaw29_BearingReports.l0 kj5 a2 ([] : List (S41)) (l1_5.length : Int) 0 a0_0 a0_1 a0_2 a0_3 a0_4 a0_5 a0_6 a1_0 l1_1 l1_2 l1_3 l1_4 l1_5 bt217.1 bt217.2.1 bt217.2.2.1 bt217.2.2.2.1)) = some r := by rw [if_neg (show ¬ (false = true) by decide)] at H; exact H
     clear H
     have H := H1
     clear H1
     replace H := Option.bind_eq_some_iff.mp H
     obtain ⟨⟨t217, t218, t219, t220, t221, t222, t223, t224⟩, A310, H⟩ := H
     replace H : (fastilaw29_BearingReports.l0 kj5 a2 ([] : List (S41)) (l1_5.length : Int) 0 a0_0 a0_1 a0_2 a0_3 a0_4 a0_5 a0_6 a1_0 l1_1 l1_2 l1_3 l1_4 l1_5 t217 t218 t219 t220) = some r := H
     have A31 := Aside0.mk A310
     clear A310
     have H' := Aside0.mk H
     clear H
     have hnb32 := NB214_213.out
     have hnc32 := NB213_214.out
     have hcz33_0 : wc.cell? ⟨gb214, 0, none⟩ = some (.int .i64 a1_0) := bc BK214 0
     have hcz33_1 : wc.cell? ⟨gb214, 1, none⟩ = some (.slice A1_1 l1_1.length c1_1) := bc BK214 1
     have hcz33_2 : wc.cell? ⟨gb214, 2, none⟩ = some (.slice A1_2 l1_2.length c1_2) := bc BK214 2
     have hcz33_3 : wc.cell? ⟨gb214, 3, none⟩ = some (.slice A1_3 l1_3.length c1_3) := bc BK214 3
     have hcz33_4 : wc.cell? ⟨gb214, 4, none⟩ = some (.slice A1_4 l1_4.length c1_4) := bc BK214 4
     have hcz33_5 : wc.cell? ⟨gb214, 5, none⟩ = some (.slice A1_5 l1_5.length c1_5) := bc BK214 5
     have hfz33_0 := blk_frozen BK214.out 0
     have hfz33_1 := blk_frozen BK214.out 1
     have hfz33_2 := blk_frozen BK214.out 2
     have hfz33_3 := blk_frozen BK214.out 3
     have hfz33_4 := blk_frozen BK214.out 4
     have hfz33_5 := blk_frozen BK214.out 5
     go_wp2_with (first | ((with_reducible refine gate_callee (f := 24) rfl ?_); refine goesL_ (some 49) rfl rfl Try.func24 (by kernel_rfl) rfl #[.agg #[.int .i64 a1_0, .slice A1_1 l1_1.length c1_1, .slice A1_2 l1_2.length c1_2, .slice A1_3 l1_3.length c1_3, .slice A1_4 l1_4.length c1_4, .slice A1_5 l1_5.length c1_5], .int .i64 0] rfl (by (try simp only [List.map_toArray, List.map_cons, List.map_nil]); first | done | rfl | (simp only [List.length_drop, List.length_take]; rfl)) ?_; (with_reducible refine (fastilaw29_sky.calls a1_0 _ _ l1_1 _ _ l1_2 _ _ l1_3 _ _ l1_4 _ _ l1_5 0 t217 t218 t219 t220 t221 t222 t223 t224 _ ?side1 ?side2 ?side3 ?side4 ?side5 ?side6 ?side7 ?side8 ?side9 ?side10 A31.out).mono ?_); (case side1 => repeat (first | exact (Kd.C_below HR1_1.out HB.out) | (with_reducible refine Kd.C_alloc ?_ _) | (with_reducible refine Kd.C_drewN ?_ _) | (with_reducible refine Kd.C_drew ?_))); (case side2 => exact HC1_1.out); (case side3 => repeat (first | exact (Kd.C_below HR1_2.out HB.out) | (with_reducible refine Kd.C_alloc ?_ _) | (with_reducible refine Kd.C_drewN ?_ _) | (with_reducible refine Kd.C_drew ?_))); (case side4 => exact HC1_2.out); (case side5 => repeat (first | exact (Kd.C_below HR1_3.out HB.out) | (with_reducible refine Kd.C_alloc ?_ _) | (with_reducible refine Kd.C_drewN ?_ _) | (with_reducible refine Kd.C_drew ?_))); (case side6 => exact HC1_3.out); (case side7 => repeat (first | exact (Kd.C_below HR1_4.out HB.out) | (with_reducible refine Kd.C_alloc ?_ _) | (with_reducible refine Kd.C_drewN ?_ _) | (with_reducible refine Kd.C_drew ?_))); (case side8 => exact HC1_4.out); (case side9 => repeat (first | exact (Kd.C_below HR1_5.out HB.out) | (with_reducible refine Kd.C_alloc ?_ _) | (with_reducible refine Kd.C_drewN ?_ _) | (with_reducible refine Kd.C_drew ?_))); (case side10 => exact HC1_5.out); rintro e w34 ⟨rfl, hb⟩; refine ⟨_, rfl, ?_⟩; replace BK213 := Aside0.mk (zb BK213.out hb); replace BK214 := Aside0.mk (zb BK214.out hb); replace HB := Aside0.mk (below_step (blw HB.out) hb); (try clear hb); (try clear hb2); (try clear hk); (try clear hi)) | ((with_reducible refine gate_dst (N := 8) rfl ?_); (try (refine gate_guard (by rfl) ?_; dsimp only)); refine box_event ?hg (N := 8) ?hd (cs := #[.int .i64 0, .int .i64 0, .int .i64 0, .int .i64 0]) (t := 39) ?hr ?_; (case hd => rfl); (case hg => rfl); (case hr => first | (go_simp; done) | (go_simp; rfl)); intro gb225 hg w35 hbox hb; have BK225 := Aside0.mk (hbox); have GW225 := Aside0.mk ((by rw [hg]; exact (below_size (blw HB.out)) : w.heap.size ≤ gb225)); have GE225 := Aside0.mk ((by rw [hg]; exact (below_size (blw HB.out)) : w.heap.size ≤ gb225)); replace HB := Aside0.mk (below_step (blw HB.out) hb); have NB213_225 := Aside0.mk ((by rw [hg]; exact Nat.ne_of_lt (blk_lt (zk BK213.out)) : gb213 ≠ gb225)); have NB225_213 := Aside0.mk ((by rw [hg]; exact Nat.ne_of_gt (blk_lt (zk BK213.out)) : gb225 ≠ gb213)); replace BK213 := Aside0.mk (zb BK213.out hb); have NB214_225 := Aside0.mk ((by rw [hg]; exact Nat.ne_of_lt (blk_lt (zk BK214.out)) : gb214 ≠ gb225)); have NB225_214 := Aside0.mk ((by rw [hg]; exact Nat.ne_of_gt (blk_lt (zk BK214.out)) : gb225 ≠ gb214)); replace BK214 := Aside0.mk (zb BK214.out hb); clear hb hbox hg) | ((with_reducible refine gate_dst (N := 9) rfl ?_); (try (refine gate_guard (by rfl) ?_; dsimp only)); refine box_event ?hg (N := 9) ?hd (cs := #[.int .i64 0, .int .i64 0, .int .i64 0, .int .i64 0]) (t := 39) ?hr ?_; (case hd => rfl); (case hg => rfl); (case hr => first | (go_simp; done) | (go_simp; rfl)); intro gb226 hg w36 hbox hb; have BK226 := Aside0.mk (hbox); have GW226 := Aside0.mk ((by rw [hg]; exact (below_size (blw HB.out)) : w.heap.size ≤ gb226)); have GE226 := Aside0.mk ((by rw [hg]; exact (below_size (blw HB.out)) : w.heap.size ≤ gb226)); replace HB := Aside0.mk (below_step (blw HB.out) hb); have NB213_226 := Aside0.mk ((by rw [hg]; exact Nat.ne_of_lt (blk_lt (zk BK213.out)) : gb213 ≠ gb226)); have NB226_213 := Aside0.mk ((by rw [hg]; exact Nat.ne_of_gt (blk_lt (zk BK213.out)) : gb226 ≠ gb213)); replace BK213 := Aside0.mk (zb BK213.out hb); have NB214_226 := Aside0.mk ((by rw [hg]; exact Nat.ne_of_lt (blk_lt (zk BK214.out)) : gb214 ≠ gb226)); have NB226_214 := Aside0.mk ((by rw [hg]; exact Nat.ne_of_gt (blk_lt (zk BK214.out)) : gb226 ≠ gb214)); replace BK214 := Aside0.mk (zb BK214.out hb); have NB225_226 := Aside0.mk ((by rw [hg]; exact Nat.ne_of_lt (blk_lt (zk BK225.out)) : gb225 ≠ gb226)); have NB226_225 := Aside0.mk ((by rw [hg]; exact Nat.ne_of_gt (blk_lt (zk BK225.out)) : gb226 ≠ gb225)); replace BK225 := Aside0.mk (zb BK225.out hb); clear hb hbox hg; have hnb37 := NB225_213.out; have hnc37 := NB213_225.out; have hnb38 := NB225_214.out; have hnc38 := NB214_225.out; have hnb39 := NB225_226.out; have hnc39 := NB226_225.out; have hcz40_0 : w36.cell? ⟨gb225, 0, none⟩ = some (.int .i64 0) := bc BK225 0; have hcz40_1 : w36.cell? ⟨gb225, 1, none⟩ = some (.int .i64 0) := bc BK225 1; have hcz40_2 : w36.cell? ⟨gb225, 2, none⟩ = some (.int .i64 0) := bc BK225 2; have hcz40_3 : w36.cell? ⟨gb225, 3, none⟩ = some (.int .i64 0) := bc BK225 3; have hfz40_0 := blk_frozen BK225.out 0; have hfz40_1 := blk_frozen BK225.out 1; have hfz40_2 := blk_frozen BK225.out 2; have hfz40_3 := blk_frozen BK225.out 3; have hnb41 := NB226_213.out; have hnc41 := NB213_226.out; have hnb42 := NB226_214.out; have hnc42 := NB214_226.out; have hcz43_0 : w36.cell? ⟨gb226, 0, none⟩ = some (.int .i64 0) := bc BK226 0; have hcz43_1 : w36.cell? ⟨gb226, 1, none⟩ = some (.int .i64 0) := bc BK226 1; have hcz43_2 : w36.cell? ⟨gb226, 2, none⟩ = some (.int .i64 0) := bc BK226 2; have hcz43_3 : w36.cell? ⟨gb226, 3, none⟩ = some (.int .i64 0) := bc BK226 3; have hfz43_0 := blk_frozen BK226.out 0; have hfz43_1 := blk_frozen BK226.out 1; have hfz43_2 := blk_frozen BK226.out 2; have hfz43_3 := blk_frozen BK226.out 3))
     go_loopg [10, 53] kj5 (fun kq v10 v53 w' => ∃ (x10_2 : List (S41)) (x53_2 : Int), v53 = .int .i64 x53_2 ∧ Aside0 (fastilaw29_BearingReports.l0 kq a2 x10_2 (l1_5.length : Int) x53_2 a0_0 a0_1 a0_2 a0_3 a0_4 a0_5 a0_6 a1_0 l1_1 l1_2 l1_3 l1_4 l1_5 t217 t218 t219 t220 = some r) ∧ Aside0 (kq ≤ kj5) ∧ Aside0 (Kd.R k41 41 w' w.heap.size (fun _ => True) v10 x10_2) ∧ Aside0 (w'.heap[gb213]? = some (.cells #[.string a0_0, .string a0_1, .int .i64 a0_2, .int .i64 a0_3, .int .i64 a0_4, .int .i64 a0_5, .int .i64 a0_6] 25 (0, 0))) ∧ Aside0 (w'.heap[gb214]? = some (.cells #[.int .i64 a1_0, (.slice A1_1 l1_1.length c1_1), (.slice A1_2 l1_2.length c1_2), (.slice A1_3 l1_3.length c1_3), (.slice A1_4 l1_4.length c1_4), (.slice A1_5 l1_5.length c1_5)] 57 (0, 0))) ∧ Aside0 (w'.heap[gb225]? = some (.cells #[.int .i64 t217, .int .i64 t218, .int .i64 t219, .int .i64 t220] 39 (0, 0))) ∧ Aside0 (w'.heap[gb226]? = some (.cells #[.int .i64 t221, .int .i64 t222, .int .i64 t223, .int .i64 t224] 39 (0, 0))) ∧ Aside0 (Below w.heap.size w w'))
     case atStart => exact ⟨(([] : List (S41))), (0), (by first | rfl | (simp; done) | (simp [*]; done)), H', ⟨Nat.le_refl _⟩, ⟨by first | exact Kd.R_nil _ _ _ _ _ | exact Kd.N_nil _ _ _ _ _ | exact Kd.V_nil _ _ _ _ _ | exact Kd.Q_nil _ _ _ _ _ | exact Kd.S_nil _ _ _ _ _⟩, ⟨zf BK213.out⟩, ⟨zf BK214.out⟩, ⟨by (with_reducible repeat (first | refine blk_drewN ?_ _ | refine blk_drew ?_ | refine blk_alloc ?_ _)); refine blk_far ?_ NB225_226.out _; (with_reducible repeat (first | refine blk_drewN ?_ _ | refine blk_drew ?_ | refine blk_alloc ?_ _)); refine blk_far ?_ NB225_226.out _; (with_reducible repeat (first | refine blk_drewN ?_ _ | refine blk_drew ?_ | refine blk_alloc ?_ _)); refine blk_far ?_ NB225_226.out _; (with_reducible repeat (first | refine blk_drewN ?_ _ | refine blk_drew ?_ | refine blk_alloc ?_ _)); refine blk_far ?_ NB225_226.out _; (with_reducible repeat (first | refine blk_drewN ?_ _ | refine blk_drew ?_ | refine blk_alloc ?_ _)); refine blk_put (cs := #[.int .i64 t217, .int .i64 t218, .int .i64 t219, .int .i64 0]) ?_ 3 _ rfl; (with_reducible repeat (first | refine blk_drewN ?_ _ | refine blk_drew ?_ | refine blk_alloc ?_ _)); refine blk_put (cs := #[.int .i64 t217, .int .i64 t218, .int .i64 0, .int .i64 0]) ?_ 2 _ rfl; (with_reducible repeat (first | refine blk_drewN ?_ _ | refine blk_drew ?_ | refine blk_alloc ?_ _)); refine blk_put (cs := #[.int .i64 t217, .int .i64 0, .int .i64 0, .int .i64 0]) ?_ 1 _ rfl; (with_reducible repeat (first | refine blk_drewN ?_ _ | refine blk_drew ?_ | refine blk_alloc ?_ _)); refine blk_put (cs := #[.int .i64 0, .int .i64 0, .int .i64 0, .int .i64 0]) ?_ 0 _ rfl; (with_reducible repeat (first | refine blk_drewN ?_ _ | refine blk_drew ?_ | refine blk_alloc ?_ _)); exact BK225.out⟩, ⟨by (with_reducible repeat (first | refine blk_drewN ?_ _ | refine blk_drew ?_ | refine blk_alloc ?_ _)); refine blk_put (cs := #[.int .i64 t221, .int .i64 t222, .int .i64 t223, .int .i64 0]) ?_ 3 _ rfl; (with_reducible repeat (first | refine blk_drewN ?_ _ | refine blk_drew ?_ | refine blk_alloc ?_ _)); refine blk_put (cs := #[.int .i64 t221, .int .i64 t222, .int .i64 0, .int .i64 0]) ?_ 2 _ rfl; (with_reducible repeat (first | refine blk_drewN ?_ _ | refine blk_drew ?_ | refine blk_alloc ?_ _)); refine blk_put (cs := #[.int .i64 t221, .int .i64 0, .int .i64 0, .int .i64 0]) ?_ 1 _ rfl; (with_reducible repeat (first | refine blk_drewN ?_ _ | refine blk_drew ?_ | refine blk_alloc ?_ _)); refine blk_put (cs := #[.int .i64 0, .int .i64 0, .int .i64 0, .int .i64 0]) ?_ 0 _ rfl; (with_reducible repeat (first | refine blk_drewN ?_ _ | refine blk_drew ?_ | refine blk_alloc ?_ _)); refine blk_far ?_ NB226_225.out _; (with_reducible repeat (first | refine blk_drewN ?_ _ | refine blk_drew ?_ | refine blk_alloc ?_ _)); refine blk_far ?_ NB226_225.out _; (with_reducible repeat (first | refine blk_drewN ?_ _ | refine blk_drew ?_ | refine blk_alloc ?_ _)); refine blk_far ?_ NB226_225.out _; (with_reducible repeat (first | refine blk_drewN ?_ _ | refine blk_drew ?_ | refine blk_alloc ?_ _)); refine blk_far ?_ NB226_225.out _; (with_reducible repeat (first | refine blk_drewN ?_ _ | refine blk_drew ?_ | refine blk_alloc ?_ _)); exact BK226.out⟩, ⟨blw HB.out⟩⟩
     case round =>
      clear H'
      try clear c1
      try clear c2
      try clear p2
      try clear c3
      try clear c4
      try clear c5
      try clear c10
      try clear c13
      try clear c14
      try clear c14b0
      try clear c14b1
      try clear c15
      try clear c18
      try clear c18b0
      try clear c19
      try clear c22
      try clear c23
      try clear c24
      try clear c27
      try clear c30
      try clear c32
      try clear c37
      try clear c38
      try clear c39
      try clear c41
      try clear c42
      try clear hcz11_0
      try clear hcz11_1
      try clear hcz11_2
      try clear hcz11_3
      try clear hcz11_4
      try clear hcz11_5
      try clear hcz16_0
      try clear hcz16_1
      try clear hcz16_2
      try clear hcz16_3
      try clear hcz16_4
      try clear hcz16_5
      try clear hcz16_6
      try clear hcz20_0
      try clear hcz20_1
      try clear hcz20_2
      try clear hcz20_3
      try clear hcz20_4
      try clear hcz20_5
      try clear hcz20_6
      try clear hcz22_0
      try clear hcz22_1
      try clear hcz22_2
      try clear hcz22_3
      try clear hcz22_4
      try clear hcz22_5
      try clear hcz24_0
      try clear hcz24_1
      try clear hcz24_2
      try clear hcz24_3
      try clear hcz24_4
      try clear hcz24_5
      try clear hcz24_6
      try clear hcz26_0
      try clear hcz26_1
      try clear hcz26_2
      try clear hcz26_3
      try clear hcz26_4
      try clear hcz26_5
      try clear hcz28_0
      try clear hcz28_1
      try clear hcz28_2
      try clear hcz28_3
      try clear hcz28_4
      try clear hcz28_5
      try clear hcz28_6
      try clear hcz33_0
      try clear hcz33_1
      try clear hcz33_2
      try clear hcz33_3
      try clear hcz33_4
      try clear hcz33_5
      try clear hcz40_0
      try clear hcz40_1
      try clear hcz40_2
      try clear hcz40_3
      try clear hcz43_0
      try clear hcz43_1
      try clear hcz43_2
      try clear hcz43_3
      try clear hfz11_0
      try clear hfz11_1
      try clear hfz11_2
      try clear hfz11_3
      try clear hfz11_4
      try clear hfz11_5
      try clear hfz16_0
      try clear hfz16_1
      try clear hfz16_2
      try clear hfz16_3
      try clear hfz16_4
      try clear hfz16_5
      try clear hfz16_6
      try clear hfz20_0
      try clear hfz20_1
      try clear hfz20_2
      try clear hfz20_3
      try clear hfz20_4
      try clear hfz20_5
      try clear hfz20_6
      try clear hfz22_0
      try clear hfz22_1
      try clear hfz22_2
      try clear hfz22_3
      try clear hfz22_4
      try clear hfz22_5
      try clear hfz24_0
      try clear hfz24_1
      try clear hfz24_2
      try clear hfz24_3
      try clear hfz24_4
      try clear hfz24_5
      try clear hfz24_6
      try clear hfz26_0
      try clear hfz26_1
      try clear hfz26_2
      try clear hfz26_3
      try clear hfz26_4
      try clear hfz26_5
      try clear hfz28_0
      try clear hfz28_1
      try clear hfz28_2
      try clear hfz28_3
      try clear hfz28_4
      try clear hfz28_5
      try clear hfz28_6
      try clear hfz33_0
      try clear hfz33_1
      try clear hfz33_2
      try clear hfz33_3
      try clear hfz33_4
      try clear hfz33_5
      try clear hfz40_0
      try clear hfz40_1
      try clear hfz40_2
      try clear hfz40_3
      try clear hfz43_0
      try clear hfz43_1
      try clear hfz43_2
      try clear hfz43_3
      try clear p2
      obtain ⟨x10_2, x53_2, rfl, HA, HK2, HO_10, BK213, BK214, BK225, BK226, HB⟩ := hrel
      cases gk with
      | zero => exact absurd HA.out (by simp [fastilaw29_BearingReports.l0])
      | succ k2 =>
       have H := HA.out
       clear HA
       simp only [fastilaw29_BearingReports.l0] at H
       by_cases c44 : x53_2 < (l1_5.length : Int)
       ·rw [if_pos c44] at H
        have c44b0 : decide (x53_2 < (l1_5.length : Int)) = true := decide_eq_true c44
        clear c44
        by_cases c45 : 0 ≤ x53_2
        ·rw [if_pos c45] at H
         have c45b0 : decide (0 ≤ x53_2) = true := decide_eq_true c45
         clear c45
         by_cases c46 : x53_2 < (l1_5.length : Int)
         ·rw [if_pos c46] at H
          have c46b0 : decide (x53_2 < (l1_5.length : Int)) = true := decide_eq_true c46
          clear c46
          obtain ⟨y228, hy228⟩ : ∃ y_ : List Int, y_ = (([rd l1_5 x53_2] : List Int)) := ⟨_, rfl⟩
          replace H : ((fastilaw29_sky.f 0 l1_1 l1_2 y228 (([(Int.tdiv (rd l1_5 x53_2) 16) % 256] : List Int)) ([] : List Int) 0).bind fun bt236 => (if x10_2.length < 1954687338268 then (fastilaw29_BearingReports.l0 k2 a2 (x10_2 ++ [(⟨x53_2, Int.tmod (wrap64 (rd l1_5 x53_2)) 3, 2, 9, wrap64 (100 * x53_2), (⟨bt236.2.2.2.2.1, bt236.2.2.2.2.2.1⟩ : S27), (⟨bt236.2.2.2.2.2.2.1, bt236.2.2.2.2.2.2.2⟩ : S27)⟩ : S41)]) (l1_5.length : Int) (wrap64 (x53_2 + 1)) a0_0 a0_1 a0_2 a0_3 a0_4 a0_5 a0_6 a1_0 l1_1 l1_2 l1_3 l1_4 l1_5 t217 t218 t219 t220) else (none))) = some r := by first | (rw [hy228]; with_reducible exact H) | (have H2_ := (Option.bind_some _ _).symm.trans H; rw [hy228]; with_reducible exact H2_) | (have H2_ := (Option.bind_some _ _).symm.trans H; with_reducible exact H2_) | with_reducible exact H | (rw [hy228]; exact H) | exact H
          have Ny228 := Aside0.mk hy228
          clear hy228
          obtain ⟨y232, hy232⟩ : ∃ y_ : List Int, y_ = (([(Int.tdiv (rd l1_5 x53_2) 16) % 256] : List Int)) := ⟨_, rfl⟩
          replace H : ((fastilaw29_sky.f 0 l1_1 l1_2 y228 y232 ([] : List Int) 0).bind fun bt236 => (if x10_2.length < 1954687338268 then (fastilaw29_BearingReports.l0 k2 a2 (x10_2 ++ [(⟨x53_2, Int.tmod (wrap64 (rd l1_5 x53_2)) 3, 2, 9, wrap64 (100 * x53_2), (⟨bt236.2.2.2.2.1, bt236.2.2.2.2.2.1⟩ : S27), (⟨bt236.2.2.2.2.2.2.1, bt236.2.2.2.2.2.2.2⟩ : S27)⟩ : S41)]) (l1_5.length : Int) (wrap64 (x53_2 + 1)) a0_0 a0_1 a0_2 a0_3 a0_4 a0_5 a0_6 a1_0 l1_1 l1_2 l1_3 l1_4 l1_5 t217 t218 t219 t220) else (none))) = some r := by first | (rw [hy232]; with_reducible exact H) | (have H2_ := (Option.bind_some _ _).symm.trans H; rw [hy232]; with_reducible exact H2_) | (have H2_ := (Option.bind_some _ _).symm.trans H; with_reducible exact H2_) | with_reducible exact H | (rw [hy232]; exact H) | exact H
          have Ny232 := Aside0.mk hy232
          clear hy232
          replace H := Option.bind_eq_some_iff.mp H
          obtain ⟨⟨t236, t237, t238, t239, t240, t241, t242, t243⟩, A470, H⟩ := H
          replace H : (if x10_2.length < 1954687338268 then (fastilaw29_BearingReports.l0 k2 a2 (x10_2 ++ [(⟨x53_2, Int.tmod (wrap64 (rd l1_5 x53_2)) 3, 2, 9, wrap64 (100 * x53_2), (⟨t240, t241⟩ : S27), (⟨t242, t243⟩ : S27)⟩ : S41)]) (l1_5.length : Int) (wrap64 (x53_2 + 1)) a0_0 a0_1 a0_2 a0_3 a0_4 a0_5 a0_6 a1_0 l1_1 l1_2 l1_3 l1_4 l1_5 t217 t218 t219 t220) else (none)) = some r := H
          have A47 := Aside0.mk A470
          clear A470
          by_cases c48 : x10_2.length < 1954687338268
          ·rw [if_pos c48] at H
           have LMc48 := Aside0.mk c48
           clear c48
           obtain ⟨y247, hy247⟩ : ∃ y_ : List (S41), y_ = (x10_2 ++ [(⟨x53_2, Int.tmod (wrap64 (rd l1_5 x53_2)) 3, 2, 9, wrap64 (100 * x53_2), (⟨t240, t241⟩ : S27), (⟨t242, t243⟩ : S27)⟩ : S41)]) := ⟨_, rfl⟩
           replace H : (fastilaw29_BearingReports.l0 k2 a2 y247 (l1_5.length : Int) (wrap64 (x53_2 + 1)) a0_0 a0_1 a0_2 a0_3 a0_4 a0_5 a0_6 a1_0 l1_1 l1_2 l1_3 l1_4 l1_5 t217 t218 t219 t220) = some r := by first | (rw [hy247]; with_reducible exact H) | (have H2_ := (Option.bind_some _ _).symm.trans H; rw [hy247]; with_reducible exact H2_) | (have H2_ := (Option.bind_some _ _).symm.trans H; with_reducible exact H2_) | with_reducible exact H | (rw [hy247]; exact H) | exact H
           have Ny247 := Aside0.mk hy247
           clear hy247
           have H' := Aside0.mk H
           clear H
           try go_wp2
           replace HO_10 := Aside0.mk (Kd.R_drew HO_10.out)
           replace BK213 := Aside0.mk (blk_drew BK213.out)
           replace BK214 := Aside0.mk (blk_drew BK214.out)
           replace BK225 := Aside0.mk (blk_drew BK225.out)
           replace BK226 := Aside0.mk (blk_drew BK226.out)
           replace HB := Aside0.mk (below_drew1 HB.out)
           have p227 : 0 ≤ (x53_2 : Int) := of_decide_eq_true (by first | (with_reducible assumption) | assumption)
           have q227 : x53_2 < (l1_5.length : Int) := of_decide_eq_true (by first | (with_reducible assumption) | assumption)
           obtain ⟨ad227, e227, hx227_0⟩ := Kd.at_int HR1_5.out x53_2 p227 q227
           have hw227_0 := hx227_0
           cases e227
           replace hx227_0 := (HB.out.cell (World.block_lt_of_cell? w _ hx227_0)).trans hx227_0
           replace p227 := eq_true p227
           replace q227 := eq_true q227
           have p231 : 0 ≤ (x53_2 : Int) := of_decide_eq_true (by first | (with_reducible assumption) | assumption)
           have q231 : x53_2 < (l1_5.length : Int) := of_decide_eq_true (by first | (with_reducible assumption) | assumption)
           obtain ⟨ad231, e231, hx231_0⟩ := Kd.at_int HR1_5.out x53_2 p231 q231
           have hw231_0 := hx231_0
           obtain rfl : ad227 = ad231 := (by injection e231)
           replace hx231_0 := (HB.out.cell (World.block_lt_of_cell? w _ hx231_0)).trans hx231_0
           replace p231 := eq_true p231
           replace q231 := eq_true q231
           refine start_ (n := 20) (S := fun w' => w'.cell? ⟨gb214, 0, none⟩ = some (.int .i64 a1_0) ∧ w'.cell? ⟨gb214, 1, none⟩ = some (.slice A1_1 l1_1.length c1_1) ∧ w'.cell? ⟨gb214, 2, none⟩ = some (.slice A1_2 l1_2.length c1_2) ∧ w'.cell? ⟨gb214, 3, none⟩ = some (.slice A1_3 l1_3.length c1_3) ∧ w'.cell? ⟨gb214, 4, none⟩ = some (.slice A1_4 l1_4.length c1_4) ∧ w'.cell? ⟨gb214, 5, none⟩ = some (.slice (some ad227) l1_5.length c1_5) ∧ w'.cell? (ad227.add (x53_2).toNat) = some (.int .u8 (rd l1_5 x53_2)) ∧ w'.cell? (ad227.add (x53_2).toNat) = some (.int .u8 (rd l1_5 x53_2))) (ds := []) #[N,N,N,N,N,N,N,N,N,N,N,N,N,N,N,N,N,N,N,N] (by kernel_rfl) rfl rfl ⟨bc BK214 0, bc BK214 1, bc BK214 2, bc BK214 3, bc BK214 4, bc BK214 5, ((HB.out.cell (World.block_lt_of_cell? w _ hw227_0)).trans hw227_0), ((HB.out.cell (World.block_lt_of_cell? w _ hw231_0)).trans hw231_0)⟩ (fun hHeld => ?_); refine with_tabW fastilaw29_BearingReports.tab11 fastilaw29_BearingReports.bits11 (fun HT_ HW_ => ?_)
           generalize wr.drew = w49 at HO_10 BK213 BK214 BK225 BK226 HB hx227_0 hx231_0 hHeld ⊢
           refine pureA (i := 0) (N := some 56) #[Y,N,N,N,N,N,N,N,N,N,N,N,N,N,N,N,N,N,N,N] (any_of HT_.out (by kernel_rfl)) ?_
           refine pureA (i := 2) (N := some 58) #[Y,N,Y,N,N,N,N,N,N,N,N,N,N,N,N,N,N,N,N,N] (any_of HT_.out (by kernel_rfl)) ?_
           refine pureA (i := 4) (N := some 60) #[Y,N,Y,N,Y,N,N,N,N,N,N,N,N,N,N,N,N,N,N,N] (any_of HT_.out (by kernel_rfl)) ?_
           refine pureA (i := 6) (N := some 62) #[Y,N,Y,N,Y,N,Y,N,N,N,N,N,N,N,N,N,N,N,N,N] (any_of HT_.out (by kernel_rfl)) ?_
           refine pureA (i := 10) (N := some 66) #[Y,N,Y,N,Y,N,Y,N,N,N,Y,N,N,N,N,N,N,N,N,N] (any_of HT_.out (by kernel_rfl)) ?_
           refine pureA (i := 12) (N := some 68) #[Y,N,Y,N,Y,N,Y,N,N,N,Y,N,Y,N,N,N,N,N,N,N] (any_of HT_.out (by kernel_rfl)) ?_
           refine take_ (i := 1) (N := some 57) (v := ?_) (a' := ?_) #[Y,Y,Y,N,Y,N,Y,N,N,N,Y,N,Y,N,N,N,N,N,N,N] rfl rfl (take_ofW HT_.out HW_.out (by kernel_rfl)) (fun _ _ _ h => h) (Or.inl ⟨by rfl, ?_⟩) hHeld ?_ ?_
           rotate_left
           ·rintro w' ⟨s0, s1, s2, s3, s4, s5, s6, s7⟩
            go_simp
            with_reducible rfl
           rotate_left
           ·simp only [Act.put, List.setIfInBounds_toArray, List.set_cons_zero, List.set_cons_succ, i64_w, i32_w]
            rfl
           refine take_ (i := 3) (N := some 59) (v := ?_) (a' := ?_) #[Y,Y,Y,Y,Y,N,Y,N,N,N,Y,N,Y,N,N,N,N,N,N,N] rfl rfl (take_ofW HT_.out HW_.out (by kernel_rfl)) (fun _ _ _ h => h) (Or.inl ⟨by rfl, ?_⟩) hHeld ?_ ?_
           rotate_left
           ·rintro w' ⟨s0, s1, s2, s3, s4, s5, s6, s7⟩
            go_simp
            with_reducible rfl
           rotate_left
           ·simp only [Act.put, List.setIfInBounds_toArray, List.set_cons_zero, List.set_cons_succ, i64_w, i32_w]
            rfl
           refine take_ (i := 5) (N := some 61) (v := ?_) (a' := ?_) #[Y,Y,Y,Y,Y,Y,Y,N,N,N,Y,N,Y,N,N,N,N,N,N,N] rfl rfl (take_ofW HT_.out HW_.out (by kernel_rfl)) (fun _ _ _ h => h) (Or.inl ⟨by rfl, ?_⟩) hHeld ?_ ?_
           rotate_left
           ·rintro w' ⟨s0, s1, s2, s3, s4, s5, s6, s7⟩
            go_simp
            with_reducible rfl
           rotate_left
           ·simp only [Act.put, List.setIfInBounds_toArray, List.set_cons_zero, List.set_cons_succ, i64_w, i32_w]
            rfl
           refine pureA (i := 7) (N := some 63) #[Y,Y,Y,Y,Y,Y,Y,Y,N,N,Y,N,Y,N,N,N,N,N,N,N] (any_of HT_.out (by kernel_rfl)) ?_
           refine take_ (i := 8) (N := some 64) (v := ?_) (a' := ?_) #[Y,Y,Y,Y,Y,Y,Y,Y,Y,N,Y,N,Y,N,N,N,N,N,N,N] rfl rfl (take_ofW HT_.out HW_.out (by kernel_rfl)) (fun _ _ _ h => h) (Or.inl ⟨by rfl, ?_⟩) hHeld ?_ ?_
           rotate_left
           ·rintro w' ⟨s0, s1, s2, s3, s4, s5, s6, s7⟩
            go_simp
            with_reducible rfl
           rotate_left
           ·simp only [Act.put, List.setIfInBounds_toArray, List.set_cons_zero, List.set_cons_succ, i64_w, i32_w]
            rfl
           refine take_ (i := 11) (N := some 67) (v := ?_) (a' := ?_) #[Y,Y,Y,Y,Y,Y,Y,Y,Y,N,Y,Y,Y,N,N,N,N,N,N,N] rfl rfl (take_ofW HT_.out HW_.out (by kernel_rfl)) (fun _ _ _ h => h) (Or.inl ⟨by rfl, ?_⟩) hHeld ?_ ?_
           rotate_left
           ·rintro w' ⟨s0, s1, s2, s3, s4, s5, s6, s7⟩
            go_simp
            with_reducible rfl
           rotate_left
           ·simp only [Act.put, List.setIfInBounds_toArray, List.set_cons_zero, List.set_cons_succ, i64_w, i32_w]
            rfl
           refine pureA (i := 13) (N := some 69) #[Y,Y,Y,Y,Y,Y,Y,Y,Y,N,Y,Y,Y,Y,N,N,N,N,N,N] (any_of HT_.out (by kernel_rfl)) ?_
           refine take_ (i := 14) (N := some 70) (v := ?_) (a' := ?_) #[Y,Y,Y,Y,Y,Y,Y,Y,Y,N,Y,Y,Y,Y,Y,N,N,N,N,N] rfl rfl (take_ofW HT_.out HW_.out (by kernel_rfl)) (fun _ _ _ h => h) (Or.inl ⟨by rfl, ?_⟩) hHeld ?_ ?_
           rotate_left
           ·rintro w' ⟨s0, s1, s2, s3, s4, s5, s6, s7⟩
            go_simp
            with_reducible rfl
           rotate_left
           ·simp only [Act.put, List.setIfInBounds_toArray, List.set_cons_zero, List.set_cons_succ, i64_w, i32_w]
            rfl
           refine pureA (i := 15) (N := some 71) #[Y,Y,Y,Y,Y,Y,Y,Y,Y,N,Y,Y,Y,Y,Y,Y,N,N,N,N] (any_of HT_.out (by kernel_rfl)) ?_
           refine join_ (σ := Value × Value × Nat) 1 #[Y,Y,Y,Y,Y,Y,Y,Y,Y,Y,Y,Y,Y,Y,Y,Y,Y,Y,Y,N] (fun s_ => [(65, s_.1), (72, s_.2.1), (12, .pointer (some ⟨s_.2.2, 0, none⟩)), (73, .agg #[.int .i64 0, .slice A1_1 l1_1.length c1_1, .slice A1_2 l1_2.length c1_2, s_.1, s_.2.1, .slice none 0 0])]) (fun s_ w' => (w'.cell? ⟨gb214, 0, none⟩ = some (.int .i64 a1_0) ∧ w'.cell? ⟨gb214, 1, none⟩ = some (.slice A1_1 l1_1.length c1_1) ∧ w'.cell? ⟨gb214, 2, none⟩ = some (.slice A1_2 l1_2.length c1_2) ∧ w'.cell? ⟨gb214, 3, none⟩ = some (.slice A1_3 l1_3.length c1_3) ∧ w'.cell? ⟨gb214, 4, none⟩ = some (.slice A1_4 l1_4.length c1_4) ∧ w'.cell? ⟨gb214, 5, none⟩ = some (.slice (some ad227) l1_5.length c1_5) ∧ w'.cell? (ad227.add (x53_2).toNat) = some (.int .u8 (rd l1_5 x53_2)) ∧ w'.cell? (ad227.add (x53_2).toNat) = some (.int .u8 (rd l1_5 x53_2))) ∧ (Kd.R (Kd.int .u8) 5 w' w.heap.size (fun k_ => some k_ ≠ (s_.2.1 : Value).ownBlock) s_.1 y228) ∧ (Kd.R (Kd.int .u8) 5 w' w.heap.size (fun k_ => some k_ ≠ (s_.1 : Value).ownBlock) s_.2.1 y232) ∧ (Kd.R k41 41 w' w.heap.size (fun _ => True) u10 x10_2) ∧ (w'.heap[gb213]? = some (.cells #[.string a0_0, .string a0_1, .int .i64 a0_2, .int .i64 a0_3, .int .i64 a0_4, .int .i64 a0_5, .int .i64 a0_6] 25 (0, 0))) ∧ (w'.heap[gb214]? = some (.cells #[.int .i64 a1_0, .slice A1_1 l1_1.length c1_1, .slice A1_2 l1_2.length c1_2, .slice A1_3 l1_3.length c1_3, .slice A1_4 l1_4.length c1_4, .slice (some ad227) l1_5.length c1_5] 57 (0, 0))) ∧ (w'.heap[gb225]? = some (.cells #[.int .i64 t217, .int .i64 t218, .int .i64 t219, .int .i64 t220] 39 (0, 0))) ∧ (w'.heap[gb226]? = some (.cells #[.int .i64 t221, .int .i64 t222, .int .i64 t223, .int .i64 t224] 39 (0, 0))) ∧ (w'.heap[s_.2.2]? = some (.cells #[.int .i64 0, .slice none 0 0, .slice none 0 0, .slice none 0 0, .slice none 0 0, .slice none 0 0] 57 (0, 0))) ∧ (w.heap.size ≤ s_.2.2) ∧ (w.heap.size ≤ s_.2.2) ∧ (gb213 ≠ s_.2.2) ∧ (s_.2.2 ≠ gb213) ∧ (gb214 ≠ s_.2.2) ∧ (s_.2.2 ≠ gb214) ∧ (gb225 ≠ s_.2.2) ∧ (s_.2.2 ≠ gb225) ∧ (gb226 ≠ s_.2.2) ∧ (s_.2.2 ≠ gb226) ∧ (Below w.heap.size w w')) ?_ ?_
           rotate_left
           ·intro hJ9_16_18
            refine join_ (σ := Value × Value) 2 #[Y,Y,Y,Y,Y,Y,Y,Y,Y,Y,Y,Y,Y,Y,Y,Y,Y,Y,N,N] (fun s_ => [(65, s_.1), (72, s_.2), (73, .agg #[.int .i64 0, .slice A1_1 l1_1.length c1_1, .slice A1_2 l1_2.length c1_2, s_.1, s_.2, .slice none 0 0])]) (fun s_ w' => (w'.cell? ⟨gb214, 0, none⟩ = some (.int .i64 a1_0) ∧ w'.cell? ⟨gb214, 1, none⟩ = some (.slice A1_1 l1_1.length c1_1) ∧ w'.cell? ⟨gb214, 2, none⟩ = some (.slice A1_2 l1_2.length c1_2) ∧ w'.cell? ⟨gb214, 3, none⟩ = some (.slice A1_3 l1_3.length c1_3) ∧ w'.cell? ⟨gb214, 4, none⟩ = some (.slice A1_4 l1_4.length c1_4) ∧ w'.cell? ⟨gb214, 5, none⟩ = some (.slice (some ad227) l1_5.length c1_5) ∧ w'.cell? (ad227.add (x53_2).toNat) = some (.int .u8 (rd l1_5 x53_2)) ∧ w'.cell? (ad227.add (x53_2).toNat) = some (.int .u8 (rd l1_5 x53_2))) ∧ (Kd.R (Kd.int .u8) 5 w' w.heap.size (fun k_ => some k_ ≠ (s_.2 : Value).ownBlock) s_.1 y228) ∧ (Kd.R (Kd.int .u8) 5 w' w.heap.size (fun k_ => some k_ ≠ (s_.1 : Value).ownBlock) s_.2 y232) ∧ (Kd.R k41 41 w' w.heap.size (fun _ => True) u10 x10_2) ∧ (w'.heap[gb213]? = some (.cells #[.string a0_0, .string a0_1, .int .i64 a0_2, .int .i64 a0_3, .int .i64 a0_4, .int .i64 a0_5, .int .i64 a0_6] 25 (0, 0))) ∧ (w'.heap[gb214]? = some (.cells #[.int .i64 a1_0, .slice A1_1 l1_1.length c1_1, .slice A1_2 l1_2.length c1_2, .slice A1_3 l1_3.length c1_3, .slice A1_4 l1_4.length c1_4, .slice (some ad227) l1_5.length c1_5] 57 (0, 0))) ∧ (w'.heap[gb225]? = some (.cells #[.int .i64 t217, .int .i64 t218, .int .i64 t219, .int .i64 t220] 39 (0, 0))) ∧ (w'.heap[gb226]? = some (.cells #[.int .i64 t221, .int .i64 t222, .int .i64 t223, .int .i64 t224] 39 (0, 0))) ∧ (Below w.heap.size w w')) ?_ ?_
            rotate_left
            ·intro hJ9_16
             refine join_ (σ := Value × Nat) 3 #[Y,Y,Y,Y,Y,Y,Y,Y,Y,Y,Y,Y,Y,Y,Y,Y,N,N,Y,N] (fun s_ => [(65, s_.1), (12, .pointer (some ⟨s_.2, 0, none⟩))]) (fun s_ w' => (w'.cell? ⟨gb214, 0, none⟩ = some (.int .i64 a1_0) ∧ w'.cell? ⟨gb214, 1, none⟩ = some (.slice A1_1 l1_1.length c1_1) ∧ w'.cell? ⟨gb214, 2, none⟩ = some (.slice A1_2 l1_2.length c1_2) ∧ w'.cell? ⟨gb214, 3, none⟩ = some (.slice A1_3 l1_3.length c1_3) ∧ w'.cell? ⟨gb214, 4, none⟩ = some (.slice A1_4 l1_4.length c1_4) ∧ w'.cell? ⟨gb214, 5, none⟩ = some (.slice (some ad227) l1_5.length c1_5) ∧ w'.cell? (ad227.add (x53_2).toNat) = some (.int .u8 (rd l1_5 x53_2)) ∧ w'.cell? (ad227.add (x53_2).toNat) = some (.int .u8 (rd l1_5 x53_2))) ∧ (Kd.R (Kd.int .u8) 5 w' w.heap.size (fun _ => True) s_.1 y228) ∧ (Kd.R k41 41 w' w.heap.size (fun _ => True) u10 x10_2) ∧ (w'.heap[gb213]? = some (.cells #[.string a0_0, .string a0_1, .int .i64 a0_2, .int .i64 a0_3, .int .i64 a0_4, .int .i64 a0_5, .int .i64 a0_6] 25 (0, 0))) ∧ (w'.heap[gb214]? = some (.cells #[.int .i64 a1_0, .slice A1_1 l1_1.length c1_1, .slice A1_2 l1_2.length c1_2, .slice A1_3 l1_3.length c1_3, .slice A1_4 l1_4.length c1_4, .slice (some ad227) l1_5.length c1_5] 57 (0, 0))) ∧ (w'.heap[gb225]? = some (.cells #[.int .i64 t217, .int .i64 t218, .int .i64 t219, .int .i64 t220] 39 (0, 0))) ∧ (w'.heap[gb226]? = some (.cells #[.int .i64 t221, .int .i64 t222, .int .i64 t223, .int .i64 t224] 39 (0, 0))) ∧ (w'.heap[s_.2]? = some (.cells #[.int .i64 0, .slice none 0 0, .slice none 0 0, .slice none 0 0, .slice none 0 0, .slice none 0 0] 57 (0, 0))) ∧ (w.heap.size ≤ s_.2) ∧ (w.heap.size ≤ s_.2) ∧ (gb213 ≠ s_.2) ∧ (s_.2 ≠ gb213) ∧ (gb214 ≠ s_.2) ∧ (s_.2 ≠ gb214) ∧ (gb225 ≠ s_.2) ∧ (s_.2 ≠ gb225) ∧ (gb226 ≠ s_.2) ∧ (s_.2 ≠ gb226) ∧ (Below w.heap.size w w')) ?_ ?_
             rotate_left
             ·intro hJ9_18
              refine join_ (σ := Value × Nat) 3 #[Y,Y,Y,Y,Y,Y,Y,Y,Y,N,Y,Y,Y,Y,Y,Y,Y,N,Y,N] (fun s_ => [(72, s_.1), (12, .pointer (some ⟨s_.2, 0, none⟩))]) (fun s_ w' => (w'.cell? ⟨gb214, 0, none⟩ = some (.int .i64 a1_0) ∧ w'.cell? ⟨gb214, 1, none⟩ = some (.slice A1_1 l1_1.length c1_1) ∧ w'.cell? ⟨gb214, 2, none⟩ = some (.slice A1_2 l1_2.length c1_2) ∧ w'.cell? ⟨gb214, 3, none⟩ = some (.slice A1_3 l1_3.length c1_3) ∧ w'.cell? ⟨gb214, 4, none⟩ = some (.slice A1_4 l1_4.length c1_4) ∧ w'.cell? ⟨gb214, 5, none⟩ = some (.slice (some ad227) l1_5.length c1_5) ∧ w'.cell? (ad227.add (x53_2).toNat) = some (.int .u8 (rd l1_5 x53_2)) ∧ w'.cell? (ad227.add (x53_2).toNat) = some (.int .u8 (rd l1_5 x53_2))) ∧ (Kd.R (Kd.int .u8) 5 w' w.heap.size (fun _ => True) s_.1 y232) ∧ (Kd.R k41 41 w' w.heap.size (fun _ => True) u10 x10_2) ∧ (w'.heap[gb213]? = some (.cells #[.string a0_0, .string a0_1, .int .i64 a0_2, .int .i64 a0_3, .int .i64 a0_4, .int .i64 a0_5, .int .i64 a0_6] 25 (0, 0))) ∧ (w'.heap[gb214]? = some (.cells #[.int .i64 a1_0, .slice A1_1 l1_1.length c1_1, .slice A1_2 l1_2.length c1_2, .slice A1_3 l1_3.length c1_3, .slice A1_4 l1_4.length c1_4, .slice (some ad227) l1_5.length c1_5] 57 (0, 0))) ∧ (w'.heap[gb225]? = some (.cells #[.int .i64 t217, .int .i64 t218, .int .i64 t219, .int .i64 t220] 39 (0, 0))) ∧ (w'.heap[gb226]? = some (.cells #[.int .i64 t221, .int .i64 t222, .int .i64 t223, .int .i64 t224] 39 (0, 0))) ∧ (w'.heap[s_.2]? = some (.cells #[.int .i64 0, .slice none 0 0, .slice none 0 0, .slice none 0 0, .slice none 0 0, .slice none 0 0] 57 (0, 0))) ∧ (w.heap.size ≤ s_.2) ∧ (w.heap.size ≤ s_.2) ∧ (gb213 ≠ s_.2) ∧ (s_.2 ≠ gb213) ∧ (gb214 ≠ s_.2) ∧ (s_.2 ≠ gb214) ∧ (gb225 ≠ s_.2) ∧ (s_.2 ≠ gb225) ∧ (gb226 ≠ s_.2) ∧ (s_.2 ≠ gb226) ∧ (Below w.heap.size w w')) ?_ ?_
              rotate_left
              ·intro hJ16_18
               refine join_ (σ := Value) 4 #[Y,Y,Y,Y,Y,Y,Y,Y,Y,Y,Y,Y,Y,Y,Y,Y,N,N,N,N] (fun s_ => [(65, s_)]) (fun s_ w' => (w'.cell? ⟨gb214, 0, none⟩ = some (.int .i64 a1_0) ∧ w'.cell? ⟨gb214, 1, none⟩ = some (.slice A1_1 l1_1.length c1_1) ∧ w'.cell? ⟨gb214, 2, none⟩ = some (.slice A1_2 l1_2.length c1_2) ∧ w'.cell? ⟨gb214, 3, none⟩ = some (.slice A1_3 l1_3.length c1_3) ∧ w'.cell? ⟨gb214, 4, none⟩ = some (.slice A1_4 l1_4.length c1_4) ∧ w'.cell? ⟨gb214, 5, none⟩ = some (.slice (some ad227) l1_5.length c1_5) ∧ w'.cell? (ad227.add (x53_2).toNat) = some (.int .u8 (rd l1_5 x53_2)) ∧ w'.cell? (ad227.add (x53_2).toNat) = some (.int .u8 (rd l1_5 x53_2))) ∧ (Kd.R (Kd.int .u8) 5 w' w.heap.size (fun _ => True) s_ y228) ∧ (Kd.R k41 41 w' w.heap.size (fun _ => True) u10 x10_2) ∧ (w'.heap[gb213]? = some (.cells #[.string a0_0, .string a0_1, .int .i64 a0_2, .int .i64 a0_3, .int .i64 a0_4, .int .i64 a0_5, .int .i64 a0_6] 25 (0, 0))) ∧ (w'.heap[gb214]? = some (.cells #[.int .i64 a1_0, .slice A1_1 l1_1.length c1_1, .slice A1_2 l1_2.length c1_2, .slice A1_3 l1_3.length c1_3, .slice A1_4 l1_4.length c1_4, .slice (some ad227) l1_5.length c1_5] 57 (0, 0))) ∧ (w'.heap[gb225]? = some (.cells #[.int .i64 t217, .int .i64 t218, .int .i64 t219, .int .i64 t220] 39 (0, 0))) ∧ (w'.heap[gb226]? = some (.cells #[.int .i64 t221, .int .i64 t222, .int .i64 t223, .int .i64 t224] 39 (0, 0))) ∧ (Below w.heap.size w w')) ?_ ?_
               rotate_left
               ·intro hJ9
                refine join_ (σ := Value) 4 #[Y,Y,Y,Y,Y,Y,Y,Y,Y,N,Y,Y,Y,Y,Y,Y,Y,N,N,N] (fun s_ => [(72, s_)]) (fun s_ w' => (w'.cell? ⟨gb214, 0, none⟩ = some (.int .i64 a1_0) ∧ w'.cell? ⟨gb214, 1, none⟩ = some (.slice A1_1 l1_1.length c1_1) ∧ w'.cell? ⟨gb214, 2, none⟩ = some (.slice A1_2 l1_2.length c1_2) ∧ w'.cell? ⟨gb214, 3, none⟩ = some (.slice A1_3 l1_3.length c1_3) ∧ w'.cell? ⟨gb214, 4, none⟩ = some (.slice A1_4 l1_4.length c1_4) ∧ w'.cell? ⟨gb214, 5, none⟩ = some (.slice (some ad227) l1_5.length c1_5) ∧ w'.cell? (ad227.add (x53_2).toNat) = some (.int .u8 (rd l1_5 x53_2)) ∧ w'.cell? (ad227.add (x53_2).toNat) = some (.int .u8 (rd l1_5 x53_2))) ∧ (Kd.R (Kd.int .u8) 5 w' w.heap.size (fun _ => True) s_ y232) ∧ (Kd.R k41 41 w' w.heap.size (fun _ => True) u10 x10_2) ∧ (w'.heap[gb213]? = some (.cells #[.string a0_0, .string a0_1, .int .i64 a0_2, .int .i64 a0_3, .int .i64 a0_4, .int .i64 a0_5, .int .i64 a0_6] 25 (0, 0))) ∧ (w'.heap[gb214]? = some (.cells #[.int .i64 a1_0, .slice A1_1 l1_1.length c1_1, .slice A1_2 l1_2.length c1_2, .slice A1_3 l1_3.length c1_3, .slice A1_4 l1_4.length c1_4, .slice (some ad227) l1_5.length c1_5] 57 (0, 0))) ∧ (w'.heap[gb225]? = some (.cells #[.int .i64 t217, .int .i64 t218, .int .i64 t219, .int .i64 t220] 39 (0, 0))) ∧ (w'.heap[gb226]? = some (.cells #[.int .i64 t221, .int .i64 t222, .int .i64 t223, .int .i64 t224] 39 (0, 0))) ∧ (Below w.heap.size w w')) ?_ ?_
                rotate_left
                ·intro hJ16
                 refine join_ (σ := Nat) 4 #[Y,Y,Y,Y,Y,Y,Y,Y,Y,N,Y,Y,Y,Y,Y,Y,N,N,Y,N] (fun s_ => [(12, .pointer (some ⟨s_, 0, none⟩))]) (fun s_ w' => (w'.cell? ⟨gb214, 0, none⟩ = some (.int .i64 a1_0) ∧ w'.cell? ⟨gb214, 1, none⟩ = some (.slice A1_1 l1_1.length c1_1) ∧ w'.cell? ⟨gb214, 2, none⟩ = some (.slice A1_2 l1_2.length c1_2) ∧ w'.cell? ⟨gb214, 3, none⟩ = some (.slice A1_3 l1_3.length c1_3) ∧ w'.cell? ⟨gb214, 4, none⟩ = some (.slice A1_4 l1_4.length c1_4) ∧ w'.cell? ⟨gb214, 5, none⟩ = some (.slice (some ad227) l1_5.length c1_5) ∧ w'.cell? (ad227.add (x53_2).toNat) = some (.int .u8 (rd l1_5 x53_2)) ∧ w'.cell? (ad227.add (x53_2).toNat) = some (.int .u8 (rd l1_5 x53_2))) ∧ (Kd.R k41 41 w' w.heap.size (fun _ => True) u10 x10_2) ∧ (w'.heap[gb213]? = some (.cells #[.string a0_0, .string a0_1, .int .i64 a0_2, .int .i64 a0_3, .int .i64 a0_4, .int .i64 a0_5, .int .i64 a0_6] 25 (0, 0))) ∧ (w'.heap[gb214]? = some (.cells #[.int .i64 a1_0, .slice A1_1 l1_1.length c1_1, .slice A1_2 l1_2.length c1_2, .slice A1_3 l1_3.length c1_3, .slice A1_4 l1_4.length c1_4, .slice (some ad227) l1_5.length c1_5] 57 (0, 0))) ∧ (w'.heap[gb225]? = some (.cells #[.int .i64 t217, .int .i64 t218, .int .i64 t219, .int .i64 t220] 39 (0, 0))) ∧ (w'.heap[gb226]? = some (.cells #[.int .i64 t221, .int .i64 t222, .int .i64 t223, .int .i64 t224] 39 (0, 0))) ∧ (w'.heap[s_]? = some (.cells #[.int .i64 0, .slice none 0 0, .slice none 0 0, .slice none 0 0, .slice none 0 0, .slice none 0 0] 57 (0, 0))) ∧ (w.heap.size ≤ s_) ∧ (w.heap.size ≤ s_) ∧ (gb213 ≠ s_) ∧ (s_ ≠ gb213) ∧ (gb214 ≠ s_) ∧ (s_ ≠ gb214) ∧ (gb225 ≠ s_) ∧ (s_ ≠ gb225) ∧ (gb226 ≠ s_) ∧ (s_ ≠ gb226) ∧ (Below w.heap.size w w')) ?_ ?_
                 rotate_left
                 ·intro hJ18
                  refine three_ (i := 9) (j := 16) (k := 18) (Ni := some 65) (Nj := some 72) (Nk := some 12) #[Y,Y,Y,Y,Y,Y,Y,Y,Y,Y,Y,Y,Y,Y,Y,Y,N,N,N,N] #[Y,Y,Y,Y,Y,Y,Y,Y,Y,N,Y,Y,Y,Y,Y,Y,Y,N,N,N] #[Y,Y,Y,Y,Y,Y,Y,Y,Y,N,Y,Y,Y,Y,Y,Y,N,N,Y,N] rfl rfl rfl rfl rfl rfl (three_of HT_.out (by kernel_rfl)) (by decide) (by decide) (by decide) (fun K hK => ?_) (fun K hK => ?_) (fun K hK => ?_)
                  ·skip
                   refine Kd.R_lit_step (Kd.int .u8) _ 5 ?hg (N := 65) ?hd (xs := ([rd l1_5 x53_2] : List Int)) (inner := [.int .u8 (rd l1_5 x53_2)]) (ok := fun _ => True) (okp := fun _ => True) ?hr ?hp (fun _ hk => hk) trivial (Below.refl _ _) (Nat.le_refl _) (by simp) ?_; (case hd => rfl); (case hg => rfl); (case hr => first | (go_simp; done) | (go_simp; rfl)); (case hp => exact (Reps.one (show Kd.M (Kd.int .u8) _ _ _ (rd l1_5 x53_2) [.int .u8 (rd l1_5 x53_2)] from rfl) (Reps.none _ _)))
                   intro v229 w50 ho51 hb hg_ hnew_
                   clear hg_ hnew_
                   (first | rw [← Ny228.out] at ho51 | (simp only [Int.reduceToNat] at ho51; rw [← Ny228.out] at ho51))
                   replace HO_10 := Aside0.mk (Kd.R_below (rmv HO_10.out) hb)
                   have HO230 := Aside0.mk (Kd.R_lower ho51 (below_size (blw HB.out)))
                   replace BK213 := Aside0.mk (zb BK213.out hb)
                   replace BK214 := Aside0.mk (zb BK214.out hb)
                   replace BK225 := Aside0.mk (zb BK225.out hb)
                   replace BK226 := Aside0.mk (zb BK226.out hb)
                   replace HB := Aside0.mk (below_step (blw HB.out) hb)
                   clear hb ho51
                   refine hK.out _ _ ⟨bc BK214 0, bc BK214 1, bc BK214 2, bc BK214 3, bc BK214 4, bc BK214 5, ((HB.out.cell (World.block_lt_of_cell? w _ hw227_0)).trans hw227_0), ((HB.out.cell (World.block_lt_of_cell? w _ hw231_0)).trans hw231_0)⟩ (fun hHeld => ?_)
                   clear hK K
                   refine norm_ (a' := ?_) ?_ ?_
                   rotate_left
                   ·show Act.put _ (some 65) _ = _
                    simp only [Act.put, List.setIfInBounds_toArray, List.set_cons_zero, List.set_cons_succ, i64_w, i32_w]
                    rfl
                   exact normA (hJ9 (v229) _ ⟨hHeld, (rmv HO230.out), (rmv HO_10.out), (zk BK213.out), (zk BK214.out), (zk BK225.out), (zk BK226.out), (blw HB.out)⟩)
                  ·skip
                   refine Kd.R_lit_step (Kd.int .u8) _ 5 ?hg (N := 72) ?hd (xs := ([(Int.tdiv (rd l1_5 x53_2) 16) % 256] : List Int)) (inner := [.int .u8 ((Int.tdiv (rd l1_5 x53_2) 16) % 256)]) (ok := fun _ => True) (okp := fun _ => True) ?hr ?hp (fun _ hk => hk) trivial (Below.refl _ _) (Nat.le_refl _) (by simp) ?_; (case hd => rfl); (case hg => rfl); (case hr => first | (go_simp; done) | (go_simp; rfl)); (case hp => exact (Reps.one (show Kd.M (Kd.int .u8) _ _ _ ((Int.tdiv (rd l1_5 x53_2) 16) % 256) [.int .u8 ((Int.tdiv (rd l1_5 x53_2) 16) % 256)] from rfl) (Reps.none _ _)))
                   intro v233 w50 ho51 hb hg_ hnew_
                   clear hg_ hnew_
                   (first | rw [← Ny232.out] at ho51 | (simp only [Int.reduceToNat] at ho51; rw [← Ny232.out] at ho51))
                   replace HO_10 := Aside0.mk (Kd.R_below (rmv HO_10.out) hb)
                   have HO234 := Aside0.mk (Kd.R_lower ho51 (below_size (blw HB.out)))
                   replace BK213 := Aside0.mk (zb BK213.out hb)
                   replace BK214 := Aside0.mk (zb BK214.out hb)
                   replace BK225 := Aside0.mk (zb BK225.out hb)
                   replace BK226 := Aside0.mk (zb BK226.out hb)
                   replace HB := Aside0.mk (below_step (blw HB.out) hb)
                   clear hb ho51
                   refine hK.out _ _ ⟨bc BK214 0, bc BK214 1, bc BK214 2, bc BK214 3, bc BK214 4, bc BK214 5, ((HB.out.cell (World.block_lt_of_cell? w _ hw227_0)).trans hw227_0), ((HB.out.cell (World.block_lt_of_cell? w _ hw231_0)).trans hw231_0)⟩ (fun hHeld => ?_)
                   clear hK K
                   refine norm_ (a' := ?_) ?_ ?_
                   rotate_left
                   ·show Act.put _ (some 72) _ = _
                    simp only [Act.put, List.setIfInBounds_toArray, List.set_cons_zero, List.set_cons_succ, i64_w, i32_w]
                    rfl
                   exact normA (hJ16 (v233) _ ⟨hHeld, (rmv HO234.out), (rmv HO_10.out), (zk BK213.out), (zk BK214.out), (zk BK225.out), (zk BK226.out), (blw HB.out)⟩)
                  ·skip
                   refine box_step ?hg (N := 12) ?hd (cs := #[.int .i64 0, .slice none 0 0, .slice none 0 0, .slice none 0 0, .slice none 0 0, .slice none 0 0]) (t := 57) ?hr ?_; (case hd => rfl); (case hg => rfl); (case hr => first | (go_simp; done) | (go_simp; rfl))
                   intro gb235 hg w50 hbox hb
                   replace HO_10 := Aside0.mk (Kd.R_below (rmv HO_10.out) hb)
                   have BK235 := Aside0.mk (hbox)
                   have GW235 := Aside0.mk ((by rw [hg]; exact (below_size (blw HB.out)) : w.heap.size ≤ gb235))
                   have GE235 := Aside0.mk ((by rw [hg]; exact (below_size (blw HB.out)) : w.heap.size ≤ gb235))
                   replace HB := Aside0.mk (below_step (blw HB.out) hb)
                   have NB213_235 := Aside0.mk ((by rw [hg]; exact Nat.ne_of_lt (blk_lt (zk BK213.out)) : gb213 ≠ gb235))
                   have NB235_213 := Aside0.mk ((by rw [hg]; exact Nat.ne_of_gt (blk_lt (zk BK213.out)) : gb235 ≠ gb213))
                   replace BK213 := Aside0.mk (zb BK213.out hb)
                   have NB214_235 := Aside0.mk ((by rw [hg]; exact Nat.ne_of_lt (blk_lt (zk BK214.out)) : gb214 ≠ gb235))
                   have NB235_214 := Aside0.mk ((by rw [hg]; exact Nat.ne_of_gt (blk_lt (zk BK214.out)) : gb235 ≠ gb214))
                   replace BK214 := Aside0.mk (zb BK214.out hb)
                   have NB225_235 := Aside0.mk ((by rw [hg]; exact Nat.ne_of_lt (blk_lt (zk BK225.out)) : gb225 ≠ gb235))
                   have NB235_225 := Aside0.mk ((by rw [hg]; exact Nat.ne_of_gt (blk_lt (zk BK225.out)) : gb235 ≠ gb225))
                   replace BK225 := Aside0.mk (zb BK225.out hb)
                   have NB226_235 := Aside0.mk ((by rw [hg]; exact Nat.ne_of_lt (blk_lt (zk BK226.out)) : gb226 ≠ gb235))
                   have NB235_226 := Aside0.mk ((by rw [hg]; exact Nat.ne_of_gt (blk_lt (zk BK226.out)) : gb235 ≠ gb226))
                   replace BK226 := Aside0.mk (zb BK226.out hb)
                   clear hb hbox hg
                   refine hK.out _ _ ⟨bc BK214 0, bc BK214 1, bc BK214 2, bc BK214 3, bc BK214 4, bc BK214 5, ((HB.out.cell (World.block_lt_of_cell? w _ hw227_0)).trans hw227_0), ((HB.out.cell (World.block_lt_of_cell? w _ hw231_0)).trans hw231_0)⟩ (fun hHeld => ?_)
                   clear hK K
                   refine norm_ (a' := ?_) ?_ ?_
                   rotate_left
                   ·show Act.put _ (some 12) _ = _
                    simp only [Act.put, List.setIfInBounds_toArray, List.set_cons_zero, List.set_cons_succ, i64_w, i32_w]
                    rfl
                   exact normA (hJ18 (gb235) _ ⟨hHeld, (rmv HO_10.out), (zk BK213.out), (zk BK214.out), (zk BK225.out), (zk BK226.out), (zk BK235.out), GW235.out, GE235.out, NB213_235.out, NB235_213.out, NB214_235.out, NB235_214.out, NB225_235.out, NB235_225.out, NB226_235.out, NB235_226.out, (blw HB.out)⟩)
                 ·skip
                  rintro gb235 w51 ⟨hS_, h0_, h1_, h2_, h3_, h4_, h5_, h6_, h7_, h8_, h9_, h10_, h11_, h12_, h13_, h14_, h15_, h16_⟩
                  have n0_ : Aside0 (Kd.R k41 41 w51 w.heap.size (fun _ => True) u10 x10_2) := ⟨h0_⟩
                  have n1_ : Aside0 (w51.heap[gb213]? = some (.cells #[.string a0_0, .string a0_1, .int .i64 a0_2, .int .i64 a0_3, .int .i64 a0_4, .int .i64 a0_5, .int .i64 a0_6] 25 (0, 0))) := ⟨h1_⟩
                  have n2_ : Aside0 (w51.heap[gb214]? = some (.cells #[.int .i64 a1_0, .slice A1_1 l1_1.length c1_1, .slice A1_2 l1_2.length c1_2, .slice A1_3 l1_3.length c1_3, .slice A1_4 l1_4.length c1_4, .slice (some ad227) l1_5.length c1_5] 57 (0, 0))) := ⟨h2_⟩
                  have n3_ : Aside0 (w51.heap[gb225]? = some (.cells #[.int .i64 t217, .int .i64 t218, .int .i64 t219, .int .i64 t220] 39 (0, 0))) := ⟨h3_⟩
                  have n4_ : Aside0 (w51.heap[gb226]? = some (.cells #[.int .i64 t221, .int .i64 t222, .int .i64 t223, .int .i64 t224] 39 (0, 0))) := ⟨h4_⟩
                  have n5_ : Aside0 (w51.heap[gb235]? = some (.cells #[.int .i64 0, .slice none 0 0, .slice none 0 0, .slice none 0 0, .slice none 0 0, .slice none 0 0] 57 (0, 0))) := ⟨h5_⟩
                  have n6_ : Aside0 (w.heap.size ≤ gb235) := ⟨h6_⟩
                  have n7_ : Aside0 (w.heap.size ≤ gb235) := ⟨h7_⟩
                  have n8_ : Aside0 (gb213 ≠ gb235) := ⟨h8_⟩
                  have n9_ : Aside0 (gb235 ≠ gb213) := ⟨h9_⟩
                  have n10_ : Aside0 (gb214 ≠ gb235) := ⟨h10_⟩
                  have n11_ : Aside0 (gb235 ≠ gb214) := ⟨h11_⟩
                  have n12_ : Aside0 (gb225 ≠ gb235) := ⟨h12_⟩
                  have n13_ : Aside0 (gb235 ≠ gb225) := ⟨h13_⟩
                  have n14_ : Aside0 (gb226 ≠ gb235) := ⟨h14_⟩
                  have n15_ : Aside0 (gb235 ≠ gb226) := ⟨h15_⟩
                  have n16_ : Aside0 (Below w.heap.size w w51) := ⟨h16_⟩
                  clear HO_10 BK213 BK214 BK225 BK226 HB h0_ h1_ h2_ h3_ h4_ h5_ h6_ h7_ h8_ h9_ h10_ h11_ h12_ h13_ h14_ h15_ h16_
                  have HO_10 := n0_
                  have BK213 := n1_
                  have BK214 := n2_
                  have BK225 := n3_
                  have BK226 := n4_
                  have BK235 := n5_
                  have GW235 := n6_
                  have GE235 := n7_
                  have NB213_235 := n8_
                  have NB235_213 := n9_
                  have NB214_235 := n10_
                  have NB235_214 := n11_
                  have NB225_235 := n12_
                  have NB235_225 := n13_
                  have NB226_235 := n14_
                  have NB235_226 := n15_
                  have HB := n16_
                  clear n0_ n1_ n2_ n3_ n4_ n5_ n6_ n7_ n8_ n9_ n10_ n11_ n12_ n13_ n14_ n15_ n16_
                  have hHeld : w51.cell? ⟨gb214, 0, none⟩ = some (.int .i64 a1_0) ∧ w51.cell? ⟨gb214, 1, none⟩ = some (.slice A1_1 l1_1.length c1_1) ∧ w51.cell? ⟨gb214, 2, none⟩ = some (.slice A1_2 l1_2.length c1_2) ∧ w51.cell? ⟨gb214, 3, none⟩ = some (.slice A1_3 l1_3.length c1_3) ∧ w51.cell? ⟨gb214, 4, none⟩ = some (.slice A1_4 l1_4.length c1_4) ∧ w51.cell? ⟨gb214, 5, none⟩ = some (.slice (some ad227) l1_5.length c1_5) ∧ w51.cell? (ad227.add (x53_2).toNat) = some (.int .u8 (rd l1_5 x53_2)) ∧ w51.cell? (ad227.add (x53_2).toNat) = some (.int .u8 (rd l1_5 x53_2)) := hS_
                  refine norm_ (a' := ?_) ?_ ?_
                  rotate_left
                  ·simp only [putAll, Act.put, List.setIfInBounds_toArray, List.set_cons_zero, List.set_cons_succ]
                   rfl
                  refine two_ (i := 9) (j := 16) (Ni := some 65) (Nj := some 72) #[Y,Y,Y,Y,Y,Y,Y,Y,Y,Y,Y,Y,Y,Y,Y,Y,N,N,Y,N] #[Y,Y,Y,Y,Y,Y,Y,Y,Y,N,Y,Y,Y,Y,Y,Y,Y,N,Y,N] rfl rfl rfl rfl (two_of HT_.out (by kernel_rfl)) (by decide) (by decide) (fun K hK => ?_) (fun K hK => ?_)
                  ·skip
                   refine Kd.R_lit_step (Kd.int .u8) _ 5 ?hg (N := 65) ?hd (xs := ([rd l1_5 x53_2] : List Int)) (inner := [.int .u8 (rd l1_5 x53_2)]) (ok := fun _ => True) (okp := fun _ => True) ?hr ?hp (fun _ hk => hk) trivial (Below.refl _ _) (Nat.le_refl _) (by simp) ?_; (case hd => rfl); (case hg => rfl); (case hr => first | (go_simp; done) | (go_simp; rfl)); (case hp => exact (Reps.one (show Kd.M (Kd.int .u8) _ _ _ (rd l1_5 x53_2) [.int .u8 (rd l1_5 x53_2)] from rfl) (Reps.none _ _)))
                   intro v229 w52 ho53 hb hg_ hnew_
                   clear hg_ hnew_
                   (first | rw [← Ny228.out] at ho53 | (simp only [Int.reduceToNat] at ho53; rw [← Ny228.out] at ho53))
                   replace HO_10 := Aside0.mk (Kd.R_below (rmv HO_10.out) hb)
                   have HO230 := Aside0.mk (Kd.R_lower ho53 (below_size (blw HB.out)))
                   replace BK213 := Aside0.mk (zb BK213.out hb)
                   replace BK214 := Aside0.mk (zb BK214.out hb)
                   replace BK225 := Aside0.mk (zb BK225.out hb)
                   replace BK226 := Aside0.mk (zb BK226.out hb)
                   replace BK235 := Aside0.mk (zb BK235.out hb)
                   replace HB := Aside0.mk (below_step (blw HB.out) hb)
                   clear hb ho53
                   refine hK.out _ _ ⟨bc BK214 0, bc BK214 1, bc BK214 2, bc BK214 3, bc BK214 4, bc BK214 5, ((HB.out.cell (World.block_lt_of_cell? w _ hw227_0)).trans hw227_0), ((HB.out.cell (World.block_lt_of_cell? w _ hw231_0)).trans hw231_0)⟩ (fun hHeld => ?_)
                   clear hK K
                   refine norm_ (a' := ?_) ?_ ?_
                   rotate_left
                   ·show Act.put _ (some 65) _ = _
                    simp only [Act.put, List.setIfInBounds_toArray, List.set_cons_zero, List.set_cons_succ, i64_w, i32_w]
                    rfl
                   exact normA (hJ9_18 (v229, gb235) _ ⟨hHeld, (rmv HO230.out), (rmv HO_10.out), (zk BK213.out), (zk BK214.out), (zk BK225.out), (zk BK226.out), (zk BK235.out), GW235.out, GE235.out, NB213_235.out, NB235_213.out, NB214_235.out, NB235_214.out, NB225_235.out, NB235_225.out, NB226_235.out, NB235_226.out, (blw HB.out)⟩)
                  ·skip
                   refine Kd.R_lit_step (Kd.int .u8) _ 5 ?hg (N := 72) ?hd (xs := ([(Int.tdiv (rd l1_5 x53_2) 16) % 256] : List Int)) (inner := [.int .u8 ((Int.tdiv (rd l1_5 x53_2) 16) % 256)]) (ok := fun _ => True) (okp := fun _ => True) ?hr ?hp (fun _ hk => hk) trivial (Below.refl _ _) (Nat.le_refl _) (by simp) ?_; (case hd => rfl); (case hg => rfl); (case hr => first | (go_simp; done) | (go_simp; rfl)); (case hp => exact (Reps.one (show Kd.M (Kd.int .u8) _ _ _ ((Int.tdiv (rd l1_5 x53_2) 16) % 256) [.int .u8 ((Int.tdiv (rd l1_5 x53_2) 16) % 256)] from rfl) (Reps.none _ _)))
                   intro v233 w52 ho53 hb hg_ hnew_
                   clear hg_ hnew_
                   (first | rw [← Ny232.out] at ho53 | (simp only [Int.reduceToNat] at ho53; rw [← Ny232.out] at ho53))
                   replace HO_10 := Aside0.mk (Kd.R_below (rmv HO_10.out) hb)
                   have HO234 := Aside0.mk (Kd.R_lower ho53 (below_size (blw HB.out)))
                   replace BK213 := Aside0.mk (zb BK213.out hb)
                   replace BK214 := Aside0.mk (zb BK214.out hb)
                   replace BK225 := Aside0.mk (zb BK225.out hb)
                   replace BK226 := Aside0.mk (zb BK226.out hb)
                   replace BK235 := Aside0.mk (zb BK235.out hb)
                   replace HB := Aside0.mk (below_step (blw HB.out) hb)
                   clear hb ho53
                   refine hK.out _ _ ⟨bc BK214 0, bc BK214 1, bc BK214 2, bc BK214 3, bc BK214 4, bc BK214 5, ((HB.out.cell (World.block_lt_of_cell? w _ hw227_0)).trans hw227_0), ((HB.out.cell (World.block_lt_of_cell? w _ hw231_0)).trans hw231_0)⟩ (fun hHeld => ?_)
                   clear hK K
                   refine norm_ (a' := ?_) ?_ ?_
                   rotate_left
                   ·show Act.put _ (some 72) _ = _
                    simp only [Act.put, List.setIfInBounds_toArray, List.set_cons_zero, List.set_cons_succ, i64_w, i32_w]
                    rfl
                   exact normA (hJ16_18 (v233, gb235) _ ⟨hHeld, (rmv HO234.out), (rmv HO_10.out), (zk BK213.out), (zk BK214.out), (zk BK225.out), (zk BK226.out), (zk BK235.out), GW235.out, GE235.out, NB213_235.out, NB235_213.out, NB214_235.out, NB235_214.out, NB225_235.out, NB235_225.out, NB226_235.out, NB235_226.out, (blw HB.out)⟩)
                ·skip
                 rintro v233 w52 ⟨hS_, h0_, h1_, h2_, h3_, h4_, h5_, h6_⟩
                 have n0_ : Aside0 (Kd.R (Kd.int .u8) 5 w52 w.heap.size (fun _ => True) v233 y232) := ⟨h0_⟩
                 have n1_ : Aside0 (Kd.R k41 41 w52 w.heap.size (fun _ => True) u10 x10_2) := ⟨h1_⟩
                 have n2_ : Aside0 (w52.heap[gb213]? = some (.cells #[.string a0_0, .string a0_1, .int .i64 a0_2, .int .i64 a0_3, .int .i64 a0_4, .int .i64 a0_5, .int .i64 a0_6] 25 (0, 0))) := ⟨h2_⟩
                 have n3_ : Aside0 (w52.heap[gb214]? = some (.cells #[.int .i64 a1_0, .slice A1_1 l1_1.length c1_1, .slice A1_2 l1_2.length c1_2, .slice A1_3 l1_3.length c1_3, .slice A1_4 l1_4.length c1_4, .slice (some ad227) l1_5.length c1_5] 57 (0, 0))) := ⟨h3_⟩
                 have n4_ : Aside0 (w52.heap[gb225]? = some (.cells #[.int .i64 t217, .int .i64 t218, .int .i64 t219, .int .i64 t220] 39 (0, 0))) := ⟨h4_⟩
                 have n5_ : Aside0 (w52.heap[gb226]? = some (.cells #[.int .i64 t221, .int .i64 t222, .int .i64 t223, .int .i64 t224] 39 (0, 0))) := ⟨h5_⟩
                 have n6_ : Aside0 (Below w.heap.size w w52) := ⟨h6_⟩
                 clear HO_10 BK213 BK214 BK225 BK226 HB h0_ h1_ h2_ h3_ h4_ h5_ h6_
                 have HO234 := n0_
                 have HO_10 := n1_
                 have BK213 := n2_
                 have BK214 := n3_
                 have BK225 := n4_
                 have BK226 := n5_
                 have HB := n6_
                 clear n0_ n1_ n2_ n3_ n4_ n5_ n6_
                 have hHeld : w52.cell? ⟨gb214, 0, none⟩ = some (.int .i64 a1_0) ∧ w52.cell? ⟨gb214, 1, none⟩ = some (.slice A1_1 l1_1.length c1_1) ∧ w52.cell? ⟨gb214, 2, none⟩ = some (.slice A1_2 l1_2.length c1_2) ∧ w52.cell? ⟨gb214, 3, none⟩ = some (.slice A1_3 l1_3.length c1_3) ∧ w52.cell? ⟨gb214, 4, none⟩ = some (.slice A1_4 l1_4.length c1_4) ∧ w52.cell? ⟨gb214, 5, none⟩ = some (.slice (some ad227) l1_5.length c1_5) ∧ w52.cell? (ad227.add (x53_2).toNat) = some (.int .u8 (rd l1_5 x53_2)) ∧ w52.cell? (ad227.add (x53_2).toNat) = some (.int .u8 (rd l1_5 x53_2)) := hS_
                 refine norm_ (a' := ?_) ?_ ?_
                 rotate_left
                 ·simp only [putAll, Act.put, List.setIfInBounds_toArray, List.set_cons_zero, List.set_cons_succ]
                  rfl
                 refine two_ (i := 9) (j := 18) (Ni := some 65) (Nj := some 12) #[Y,Y,Y,Y,Y,Y,Y,Y,Y,Y,Y,Y,Y,Y,Y,Y,Y,N,N,N] #[Y,Y,Y,Y,Y,Y,Y,Y,Y,N,Y,Y,Y,Y,Y,Y,Y,N,Y,N] rfl rfl rfl rfl (two_of HT_.out (by kernel_rfl)) (by decide) (by decide) (fun K hK => ?_) (fun K hK => ?_)
                 ·skip
                  refine Kd.R_lit_step (Kd.int .u8) _ 5 ?hg (N := 65) ?hd (xs := ([rd l1_5 x53_2] : List Int)) (inner := [.int .u8 (rd l1_5 x53_2)]) (ok := fun _ => True) (okp := fun _ => True) ?hr ?hp (fun _ hk => hk) trivial (Below.refl _ _) (Nat.le_refl _) (by simp) ?_; (case hd => rfl); (case hg => rfl); (case hr => first | (go_simp; done) | (go_simp; rfl)); (case hp => exact (Reps.one (show Kd.M (Kd.int .u8) _ _ _ (rd l1_5 x53_2) [.int .u8 (rd l1_5 x53_2)] from rfl) (Reps.none _ _)))
                  intro v229 w53 ho54 hb hg_ hnew_
                  clear hg_ hnew_
                  (first | rw [← Ny228.out] at ho54 | (simp only [Int.reduceToNat] at ho54; rw [← Ny228.out] at ho54))
                  replace HO_10 := Aside0.mk (Kd.R_below (rmv HO_10.out) hb)
                  have HO230 := Aside0.mk (Kd.R_lower (Kd.R_new' ho54 (Kd.R_lt (rmv HO234.out))) (below_size (blw HB.out)))
                  replace HO234 := Aside0.mk (Kd.R_elder' (rmv HO234.out) (Kd.R_base ho54) hb)
                  replace BK213 := Aside0.mk (zb BK213.out hb)
                  replace BK214 := Aside0.mk (zb BK214.out hb)
                  replace BK225 := Aside0.mk (zb BK225.out hb)
                  replace BK226 := Aside0.mk (zb BK226.out hb)
                  replace HB := Aside0.mk (below_step (blw HB.out) hb)
                  clear hb ho54
                  obtain ⟨Ao55, co55, eo55⟩ := Kd.R_slice HO234.out
                  (first | subst eo55 | (injection eo55 with f1_ f2_ f3_; have f4_ := f1_.symm; have f5_ := f3_.symm; clear f1_ f2_ f3_; subst f4_; subst f5_))
                  obtain ⟨Ao56, co56, eo56⟩ := Kd.R_slice HO230.out
                  (first | subst eo56 | (injection eo56 with f1_ f2_ f3_; have f4_ := f1_.symm; have f5_ := f3_.symm; clear f1_ f2_ f3_; subst f4_; subst f5_))
                  refine hK.out _ _ ⟨bc BK214 0, bc BK214 1, bc BK214 2, bc BK214 3, bc BK214 4, bc BK214 5, ((HB.out.cell (World.block_lt_of_cell? w _ hw227_0)).trans hw227_0), ((HB.out.cell (World.block_lt_of_cell? w _ hw231_0)).trans hw231_0)⟩ (fun hHeld => ?_)
                  clear hK K
                  refine norm_ (a' := ?_) ?_ ?_
                  rotate_left
                  ·show Act.put _ (some 65) _ = _
                   simp only [Act.put, List.setIfInBounds_toArray, List.set_cons_zero, List.set_cons_succ, i64_w, i32_w]
                   rfl
                  refine pureA (i := 17) (N := some 73) #[Y,Y,Y,Y,Y,Y,Y,Y,Y,Y,Y,Y,Y,Y,Y,Y,Y,Y,N,N] (any_of HT_.out (by kernel_rfl)) ?_
                  exact normA (hJ9_16 (.slice Ao56 y228.length co56, .slice Ao55 y232.length co55) _ ⟨hHeld, (by (with_reducible repeat (first | apply Kd.R_alloc | apply Kd.R_drewN | apply Kd.R_drew)); exact Kd.R_mono HO230.out (fun _ hk => hk.2)), (by (with_reducible repeat (first | apply Kd.R_alloc | apply Kd.R_drewN | apply Kd.R_drew)); exact Kd.R_mono HO234.out (fun _ hk => hk.2)), (rmv HO_10.out), (zk BK213.out), (zk BK214.out), (zk BK225.out), (zk BK226.out), (blw HB.out)⟩)
                 ·skip
                  refine box_step ?hg (N := 12) ?hd (cs := #[.int .i64 0, .slice none 0 0, .slice none 0 0, .slice none 0 0, .slice none 0 0, .slice none 0 0]) (t := 57) ?hr ?_; (case hd => rfl); (case hg => rfl); (case hr => first | (go_simp; done) | (go_simp; rfl))
                  intro gb235 hg w53 hbox hb
                  replace HO_10 := Aside0.mk (Kd.R_below (rmv HO_10.out) hb)
                  replace HO234 := Aside0.mk (Kd.R_below (rmv HO234.out) hb)
                  have BK235 := Aside0.mk (hbox)
                  have GW235 := Aside0.mk ((by rw [hg]; exact (below_size (blw HB.out)) : w.heap.size ≤ gb235))
                  have GE235 := Aside0.mk ((by rw [hg]; exact (below_size (blw HB.out)) : w.heap.size ≤ gb235))
                  replace HB := Aside0.mk (below_step (blw HB.out) hb)
                  have NB213_235 := Aside0.mk ((by rw [hg]; exact Nat.ne_of_lt (blk_lt (zk BK213.out)) : gb213 ≠ gb235))
                  have NB235_213 := Aside0.mk ((by rw [hg]; exact Nat.ne_of_gt (blk_lt (zk BK213.out)) : gb235 ≠ gb213))
                  replace BK213 := Aside0.mk (zb BK213.out hb)
                  have NB214_235 := Aside0.mk ((by rw [hg]; exact Nat.ne_of_lt (blk_lt (zk BK214.out)) : gb214 ≠ gb235))
                  have NB235_214 := Aside0.mk ((by rw [hg]; exact Nat.ne_of_gt (blk_lt (zk BK214.out)) : gb235 ≠ gb214))
                  replace BK214 := Aside0.mk (zb BK214.out hb)
                  have NB225_235 := Aside0.mk ((by rw [hg]; exact Nat.ne_of_lt (blk_lt (zk BK225.out)) : gb225 ≠ gb235))
                  have NB235_225 := Aside0.mk ((by rw [hg]; exact Nat.ne_of_gt (blk_lt (zk BK225.out)) : gb235 ≠ gb225))
                  replace BK225 := Aside0.mk (zb BK225.out hb)
                  have NB226_235 := Aside0.mk ((by rw [hg]; exact Nat.ne_of_lt (blk_lt (zk BK226.out)) : gb226 ≠ gb235))
                  have NB235_226 := Aside0.mk ((by rw [hg]; exact Nat.ne_of_gt (blk_lt (zk BK226.out)) : gb235 ≠ gb226))
                  replace BK226 := Aside0.mk (zb BK226.out hb)
                  clear hb hbox hg
                  refine hK.out _ _ ⟨bc BK214 0, bc BK214 1, bc BK214 2, bc BK214 3, bc BK214 4, bc BK214 5, ((HB.out.cell (World.block_lt_of_cell? w _ hw227_0)).trans hw227_0), ((HB.out.cell (World.block_lt_of_cell? w _ hw231_0)).trans hw231_0)⟩ (fun hHeld => ?_)
                  clear hK K
                  refine norm_ (a' := ?_) ?_ ?_
                  rotate_left
                  ·show Act.put _ (some 12) _ = _
                   simp only [Act.put, List.setIfInBounds_toArray, List.set_cons_zero, List.set_cons_succ, i64_w, i32_w]
                   rfl
                  exact normA (hJ16_18 (v233, gb235) _ ⟨hHeld, (rmv HO234.out), (rmv HO_10.out), (zk BK213.out), (zk BK214.out), (zk BK225.out), (zk BK226.out), (zk BK235.out), GW235.out, GE235.out, NB213_235.out, NB235_213.out, NB214_235.out, NB235_214.out, NB225_235.out, NB235_225.out, NB226_235.out, NB235_226.out, (blw HB.out)⟩)
               ·skip
                rintro v229 w52 ⟨hS_, h0_, h1_, h2_, h3_, h4_, h5_, h6_⟩
                have n0_ : Aside0 (Kd.R (Kd.int .u8) 5 w52 w.heap.size (fun _ => True) v229 y228) := ⟨h0_⟩
                have n1_ : Aside0 (Kd.R k41 41 w52 w.heap.size (fun _ => True) u10 x10_2) := ⟨h1_⟩
                have n2_ : Aside0 (w52.heap[gb213]? = some (.cells #[.string a0_0, .string a0_1, .int .i64 a0_2, .int .i64 a0_3, .int .i64 a0_4, .int .i64 a0_5, .int .i64 a0_6] 25 (0, 0))) := ⟨h2_⟩
                have n3_ : Aside0 (w52.heap[gb214]? = some (.cells #[.int .i64 a1_0, .slice A1_1 l1_1.length c1_1, .slice A1_2 l1_2.length c1_2, .slice A1_3 l1_3.length c1_3, .slice A1_4 l1_4.length c1_4, .slice (some ad227) l1_5.length c1_5] 57 (0, 0))) := ⟨h3_⟩
                have n4_ : Aside0 (w52.heap[gb225]? = some (.cells #[.int .i64 t217, .int .i64 t218, .int .i64 t219, .int .i64 t220] 39 (0, 0))) := ⟨h4_⟩
                have n5_ : Aside0 (w52.heap[gb226]? = some (.cells #[.int .i64 t221, .int .i64 t222, .int .i64 t223, .int .i64 t224] 39 (0, 0))) := ⟨h5_⟩
                have n6_ : Aside0 (Below w.heap.size w w52) := ⟨h6_⟩
                clear HO_10 BK213 BK214 BK225 BK226 HB h0_ h1_ h2_ h3_ h4_ h5_ h6_
                have HO230 := n0_
                have HO_10 := n1_
                have BK213 := n2_
                have BK214 := n3_
                have BK225 := n4_
                have BK226 := n5_
                have HB := n6_
                clear n0_ n1_ n2_ n3_ n4_ n5_ n6_
                have hHeld : w52.cell? ⟨gb214, 0, none⟩ = some (.int .i64 a1_0) ∧ w52.cell? ⟨gb214, 1, none⟩ = some (.slice A1_1 l1_1.length c1_1) ∧ w52.cell? ⟨gb214, 2, none⟩ = some (.slice A1_2 l1_2.length c1_2) ∧ w52.cell? ⟨gb214, 3, none⟩ = some (.slice A1_3 l1_3.length c1_3) ∧ w52.cell? ⟨gb214, 4, none⟩ = some (.slice A1_4 l1_4.length c1_4) ∧ w52.cell? ⟨gb214, 5, none⟩ = some (.slice (some ad227) l1_5.length c1_5) ∧ w52.cell? (ad227.add (x53_2).toNat) = some (.int .u8 (rd l1_5 x53_2)) ∧ w52.cell? (ad227.add (x53_2).toNat) = some (.int .u8 (rd l1_5 x53_2)) := hS_
                refine norm_ (a' := ?_) ?_ ?_
                rotate_left
                ·simp only [putAll, Act.put, List.setIfInBounds_toArray, List.set_cons_zero, List.set_cons_succ]
                 rfl
                refine two_ (i := 16) (j := 18) (Ni := some 72) (Nj := some 12) #[Y,Y,Y,Y,Y,Y,Y,Y,Y,Y,Y,Y,Y,Y,Y,Y,Y,N,N,N] #[Y,Y,Y,Y,Y,Y,Y,Y,Y,Y,Y,Y,Y,Y,Y,Y,N,N,Y,N] rfl rfl rfl rfl (two_of HT_.out (by kernel_rfl)) (by decide) (by decide) (fun K hK => ?_) (fun K hK => ?_)
                ·skip
                 refine Kd.R_lit_step (Kd.int .u8) _ 5 ?hg (N := 72) ?hd (xs := ([(Int.tdiv (rd l1_5 x53_2) 16) % 256] : List Int)) (inner := [.int .u8 ((Int.tdiv (rd l1_5 x53_2) 16) % 256)]) (ok := fun _ => True) (okp := fun _ => True) ?hr ?hp (fun _ hk => hk) trivial (Below.refl _ _) (Nat.le_refl _) (by simp) ?_; (case hd => rfl); (case hg => rfl); (case hr => first | (go_simp; done) | (go_simp; rfl)); (case hp => exact (Reps.one (show Kd.M (Kd.int .u8) _ _ _ ((Int.tdiv (rd l1_5 x53_2) 16) % 256) [.int .u8 ((Int.tdiv (rd l1_5 x53_2) 16) % 256)] from rfl) (Reps.none _ _)))
                 intro v233 w53 ho54 hb hg_ hnew_
                 clear hg_ hnew_
                 (first | rw [← Ny232.out] at ho54 | (simp only [Int.reduceToNat] at ho54; rw [← Ny232.out] at ho54))
                 replace HO_10 := Aside0.mk (Kd.R_below (rmv HO_10.out) hb)
                 have HO234 := Aside0.mk (Kd.R_lower (Kd.R_new' ho54 (Kd.R_lt (rmv HO230.out))) (below_size (blw HB.out)))
                 replace HO230 := Aside0.mk (Kd.R_elder' (rmv HO230.out) (Kd.R_base ho54) hb)
                 replace BK213 := Aside0.mk (zb BK213.out hb)
                 replace BK214 := Aside0.mk (zb BK214.out hb)
                 replace BK225 := Aside0.mk (zb BK225.out hb)
                 replace BK226 := Aside0.mk (zb BK226.out hb)
                 replace HB := Aside0.mk (below_step (blw HB.out) hb)
                 clear hb ho54
                 obtain ⟨Ao55, co55, eo55⟩ := Kd.R_slice HO234.out
                 (first | subst eo55 | (injection eo55 with f1_ f2_ f3_; have f4_ := f1_.symm; have f5_ := f3_.symm; clear f1_ f2_ f3_; subst f4_; subst f5_))
                 obtain ⟨Ao56, co56, eo56⟩ := Kd.R_slice HO230.out
                 (first | subst eo56 | (injection eo56 with f1_ f2_ f3_; have f4_ := f1_.symm; have f5_ := f3_.symm; clear f1_ f2_ f3_; subst f4_; subst f5_))
                 refine hK.out _ _ ⟨bc BK214 0, bc BK214 1, bc BK214 2, bc BK214 3, bc BK214 4, bc BK214 5, ((HB.out.cell (World.block_lt_of_cell? w _ hw227_0)).trans hw227_0), ((HB.out.cell (World.block_lt_of_cell? w _ hw231_0)).trans hw231_0)⟩ (fun hHeld => ?_)
                 clear hK K
                 refine norm_ (a' := ?_) ?_ ?_
                 rotate_left
                 ·show Act.put _ (some 72) _ = _
                  simp only [Act.put, List.setIfInBounds_toArray, List.set_cons_zero, List.set_cons_succ, i64_w, i32_w]
                  rfl
                 refine pureA (i := 17) (N := some 73) #[Y,Y,Y,Y,Y,Y,Y,Y,Y,Y,Y,Y,Y,Y,Y,Y,Y,Y,N,N] (any_of HT_.out (by kernel_rfl)) ?_
                 exact normA (hJ9_16 (.slice Ao56 y228.length co56, .slice Ao55 y232.length co55) _ ⟨hHeld, (by (with_reducible repeat (first | apply Kd.R_alloc | apply Kd.R_drewN | apply Kd.R_drew)); exact Kd.R_mono HO230.out (fun _ hk => hk.2)), (by (with_reducible repeat (first | apply Kd.R_alloc | apply Kd.R_drewN | apply Kd.R_drew)); exact Kd.R_mono HO234.out (fun _ hk => hk.2)), (rmv HO_10.out), (zk BK213.out), (zk BK214.out), (zk BK225.out), (zk BK226.out), (blw HB.out)⟩)
                ·skip
                 refine box_step ?hg (N := 12) ?hd (cs := #[.int .i64 0, .slice none 0 0, .slice none 0 0, .slice none 0 0, .slice none 0 0, .slice none 0 0]) (t := 57) ?hr ?_; (case hd => rfl); (case hg => rfl); (case hr => first | (go_simp; done) | (go_simp; rfl))
                 intro gb235 hg w53 hbox hb
                 replace HO_10 := Aside0.mk (Kd.R_below (rmv HO_10.out) hb)
                 replace HO230 := Aside0.mk (Kd.R_below (rmv HO230.out) hb)
                 have BK235 := Aside0.mk (hbox)
                 have GW235 := Aside0.mk ((by rw [hg]; exact (below_size (blw HB.out)) : w.heap.size ≤ gb235))
                 have GE235 := Aside0.mk ((by rw [hg]; exact (below_size (blw HB.out)) : w.heap.size ≤ gb235))
                 replace HB := Aside0.mk (below_step (blw HB.out) hb)
                 have NB213_235 := Aside0.mk ((by rw [hg]; exact Nat.ne_of_lt (blk_lt (zk BK213.out)) : gb213 ≠ gb235))
                 have NB235_213 := Aside0.mk ((by rw [hg]; exact Nat.ne_of_gt (blk_lt (zk BK213.out)) : gb235 ≠ gb213))
                 replace BK213 := Aside0.mk (zb BK213.out hb)
                 have NB214_235 := Aside0.mk ((by rw [hg]; exact Nat.ne_of_lt (blk_lt (zk BK214.out)) : gb214 ≠ gb235))
                 have NB235_214 := Aside0.mk ((by rw [hg]; exact Nat.ne_of_gt (blk_lt (zk BK214.out)) : gb235 ≠ gb214))
                 replace BK214 := Aside0.mk (zb BK214.out hb)
                 have NB225_235 := Aside0.mk ((by rw [hg]; exact Nat.ne_of_lt (blk_lt (zk BK225.out)) : gb225 ≠ gb235))
                 have NB235_225 := Aside0.mk ((by rw [hg]; exact Nat.ne_of_gt (blk_lt (zk BK225.out)) : gb235 ≠ gb225))
                 replace BK225 := Aside0.mk (zb BK225.out hb)
                 have NB226_235 := Aside0.mk ((by rw [hg]; exact Nat.ne_of_lt (blk_lt (zk BK226.out)) : gb226 ≠ gb235))
                 have NB235_226 := Aside0.mk ((by rw [hg]; exact Nat.ne_of_gt (blk_lt (zk BK226.out)) : gb235 ≠ gb226))
                 replace BK226 := Aside0.mk (zb BK226.out hb)
                 clear hb hbox hg
                 refine hK.out _ _ ⟨bc BK214 0, bc BK214 1, bc BK214 2, bc BK214 3, bc BK214 4, bc BK214 5, ((HB.out.cell (World.block_lt_of_cell? w _ hw227_0)).trans hw227_0), ((HB.out.cell (World.block_lt_of_cell? w _ hw231_0)).trans hw231_0)⟩ (fun hHeld => ?_)
                 clear hK K
                 refine norm_ (a' := ?_) ?_ ?_
                 rotate_left
                 ·show Act.put _ (some 12) _ = _
                  simp only [Act.put, List.setIfInBounds_toArray, List.set_cons_zero, List.set_cons_succ, i64_w, i32_w]
                  rfl
                 exact normA (hJ9_18 (v229, gb235) _ ⟨hHeld, (rmv HO230.out), (rmv HO_10.out), (zk BK213.out), (zk BK214.out), (zk BK225.out), (zk BK226.out), (zk BK235.out), GW235.out, GE235.out, NB213_235.out, NB235_213.out, NB214_235.out, NB235_214.out, NB225_235.out, NB235_225.out, NB226_235.out, NB235_226.out, (blw HB.out)⟩)
              ·skip
               rintro ⟨v233, gb235⟩ w53 ⟨hS_, h0_, h1_, h2_, h3_, h4_, h5_, h6_, h7_, h8_, h9_, h10_, h11_, h12_, h13_, h14_, h15_, h16_, h17_⟩
               have n0_ : Aside0 (Kd.R (Kd.int .u8) 5 w53 w.heap.size (fun _ => True) v233 y232) := ⟨h0_⟩
               have n1_ : Aside0 (Kd.R k41 41 w53 w.heap.size (fun _ => True) u10 x10_2) := ⟨h1_⟩
               have n2_ : Aside0 (w53.heap[gb213]? = some (.cells #[.string a0_0, .string a0_1, .int .i64 a0_2, .int .i64 a0_3, .int .i64 a0_4, .int .i64 a0_5, .int .i64 a0_6] 25 (0, 0))) := ⟨h2_⟩
               have n3_ : Aside0 (w53.heap[gb214]? = some (.cells #[.int .i64 a1_0, .slice A1_1 l1_1.length c1_1, .slice A1_2 l1_2.length c1_2, .slice A1_3 l1_3.length c1_3, .slice A1_4 l1_4.length c1_4, .slice (some ad227) l1_5.length c1_5] 57 (0, 0))) := ⟨h3_⟩
               have n4_ : Aside0 (w53.heap[gb225]? = some (.cells #[.int .i64 t217, .int .i64 t218, .int .i64 t219, .int .i64 t220] 39 (0, 0))) := ⟨h4_⟩
               have n5_ : Aside0 (w53.heap[gb226]? = some (.cells #[.int .i64 t221, .int .i64 t222, .int .i64 t223, .int .i64 t224] 39 (0, 0))) := ⟨h5_⟩
               have n6_ : Aside0 (w53.heap[gb235]? = some (.cells #[.int .i64 0, .slice none 0 0, .slice none 0 0, .slice none 0 0, .slice none 0 0, .slice none 0 0] 57 (0, 0))) := ⟨h6_⟩
               have n7_ : Aside0 (w.heap.size ≤ gb235) := ⟨h7_⟩
               have n8_ : Aside0 (w.heap.size ≤ gb235) := ⟨h8_⟩
               have n9_ : Aside0 (gb213 ≠ gb235) := ⟨h9_⟩
               have n10_ : Aside0 (gb235 ≠ gb213) := ⟨h10_⟩
               have n11_ : Aside0 (gb214 ≠ gb235) := ⟨h11_⟩
               have n12_ : Aside0 (gb235 ≠ gb214) := ⟨h12_⟩
               have n13_ : Aside0 (gb225 ≠ gb235) := ⟨h13_⟩
               have n14_ : Aside0 (gb235 ≠ gb225) := ⟨h14_⟩
               have n15_ : Aside0 (gb226 ≠ gb235) := ⟨h15_⟩
               have n16_ : Aside0 (gb235 ≠ gb226) := ⟨h16_⟩
               have n17_ : Aside0 (Below w.heap.size w w53) := ⟨h17_⟩
               clear HO_10 BK213 BK214 BK225 BK226 HB h0_ h1_ h2_ h3_ h4_ h5_ h6_ h7_ h8_ h9_ h10_ h11_ h12_ h13_ h14_ h15_ h16_ h17_
               have HO234 := n0_
               have HO_10 := n1_
               have BK213 := n2_
               have BK214 := n3_
               have BK225 := n4_
               have BK226 := n5_
               have BK235 := n6_
               have GW235 := n7_
               have GE235 := n8_
               have NB213_235 := n9_
               have NB235_213 := n10_
               have NB214_235 := n11_
               have NB235_214 := n12_
               have NB225_235 := n13_
               have NB235_225 := n14_
               have NB226_235 := n15_
               have NB235_226 := n16_
               have HB := n17_
               clear n0_ n1_ n2_ n3_ n4_ n5_ n6_ n7_ n8_ n9_ n10_ n11_ n12_ n13_ n14_ n15_ n16_ n17_
               have hHeld : w53.cell? ⟨gb214, 0, none⟩ = some (.int .i64 a1_0) ∧ w53.cell? ⟨gb214, 1, none⟩ = some (.slice A1_1 l1_1.length c1_1) ∧ w53.cell? ⟨gb214, 2, none⟩ = some (.slice A1_2 l1_2.length c1_2) ∧ w53.cell? ⟨gb214, 3, none⟩ = some (.slice A1_3 l1_3.length c1_3) ∧ w53.cell? ⟨gb214, 4, none⟩ = some (.slice A1_4 l1_4.length c1_4) ∧ w53.cell? ⟨gb214, 5, none⟩ = some (.slice (some ad227) l1_5.length c1_5) ∧ w53.cell? (ad227.add (x53_2).toNat) = some (.int .u8 (rd l1_5 x53_2)) ∧ w53.cell? (ad227.add (x53_2).toNat) = some (.int .u8 (rd l1_5 x53_2)) := hS_
               refine norm_ (a' := ?_) ?_ ?_
               rotate_left
               ·simp only [putAll, Act.put, List.setIfInBounds_toArray, List.set_cons_zero, List.set_cons_succ]
                rfl
               refine one_ (i := 9) (N := some 65) #[Y,Y,Y,Y,Y,Y,Y,Y,Y,Y,Y,Y,Y,Y,Y,Y,Y,N,Y,N] rfl rfl (one_of HT_.out (by kernel_rfl)) (by decide) (fun K hK => ?_)
               refine Kd.R_lit_step (Kd.int .u8) _ 5 ?hg (N := 65) ?hd (xs := ([rd l1_5 x53_2] : List Int)) (inner := [.int .u8 (rd l1_5 x53_2)]) (ok := fun _ => True) (okp := fun _ => True) ?hr ?hp (fun _ hk => hk) trivial (Below.refl _ _) (Nat.le_refl _) (by simp) ?_; (case hd => rfl); (case hg => rfl); (case hr => first | (go_simp; done) | (go_simp; rfl)); (case hp => exact (Reps.one (show Kd.M (Kd.int .u8) _ _ _ (rd l1_5 x53_2) [.int .u8 (rd l1_5 x53_2)] from rfl) (Reps.none _ _)))
               intro v229 w54 ho55 hb hg_ hnew_
               clear hg_ hnew_
               (first | rw [← Ny228.out] at ho55 | (simp only [Int.reduceToNat] at ho55; rw [← Ny228.out] at ho55))
               replace HO_10 := Aside0.mk (Kd.R_below (rmv HO_10.out) hb)
               have HO230 := Aside0.mk (Kd.R_lower (Kd.R_new' ho55 (Kd.R_lt (rmv HO234.out))) (below_size (blw HB.out)))
               replace HO234 := Aside0.mk (Kd.R_elder' (rmv HO234.out) (Kd.R_base ho55) hb)
               replace BK213 := Aside0.mk (zb BK213.out hb)
               replace BK214 := Aside0.mk (zb BK214.out hb)
               replace BK225 := Aside0.mk (zb BK225.out hb)
               replace BK226 := Aside0.mk (zb BK226.out hb)
               replace BK235 := Aside0.mk (zb BK235.out hb)
               replace HB := Aside0.mk (below_step (blw HB.out) hb)
               clear hb ho55
               obtain ⟨Ao56, co56, eo56⟩ := Kd.R_slice HO234.out
               (first | subst eo56 | (injection eo56 with f1_ f2_ f3_; have f4_ := f1_.symm; have f5_ := f3_.symm; clear f1_ f2_ f3_; subst f4_; subst f5_))
               obtain ⟨Ao57, co57, eo57⟩ := Kd.R_slice HO230.out
               (first | subst eo57 | (injection eo57 with f1_ f2_ f3_; have f4_ := f1_.symm; have f5_ := f3_.symm; clear f1_ f2_ f3_; subst f4_; subst f5_))
               refine hK.out _ _ ⟨bc BK214 0, bc BK214 1, bc BK214 2, bc BK214 3, bc BK214 4, bc BK214 5, ((HB.out.cell (World.block_lt_of_cell? w _ hw227_0)).trans hw227_0), ((HB.out.cell (World.block_lt_of_cell? w _ hw231_0)).trans hw231_0)⟩ (fun hHeld => ?_)
               clear hK K
               refine norm_ (a' := ?_) ?_ ?_
               rotate_left
               ·show Act.put _ (some 65) _ = _
                simp only [Act.put, List.setIfInBounds_toArray, List.set_cons_zero, List.set_cons_succ, i64_w, i32_w]
                rfl
               refine pureA (i := 17) (N := some 73) #[Y,Y,Y,Y,Y,Y,Y,Y,Y,Y,Y,Y,Y,Y,Y,Y,Y,Y,Y,N] (any_of HT_.out (by kernel_rfl)) ?_
               exact normA (hJ9_16_18 (.slice Ao57 y228.length co57, .slice Ao56 y232.length co56, gb235) _ ⟨hHeld, (by (with_reducible repeat (first | apply Kd.R_alloc | apply Kd.R_drewN | apply Kd.R_drew)); exact Kd.R_mono HO230.out (fun _ hk => hk.2)), (by (with_reducible repeat (first | apply Kd.R_alloc | apply Kd.R_drewN | apply Kd.R_drew)); exact Kd.R_mono HO234.out (fun _ hk => hk.2)), (rmv HO_10.out), (zk BK213.out), (zk BK214.out), (zk BK225.out), (zk BK226.out), (zk BK235.out), GW235.out, GE235.out, NB213_235.out, NB235_213.out, NB214_235.out, NB235_214.out, NB225_235.out, NB235_225.out, NB226_235.out, NB235_226.out, (blw HB.out)⟩)
             ·skip
              rintro ⟨v229, gb235⟩ w53 ⟨hS_, h0_, h1_, h2_, h3_, h4_, h5_, h6_, h7_, h8_, h9_, h10_, h11_, h12_, h13_, h14_, h15_, h16_, h17_⟩
              have n0_ : Aside0 (Kd.R (Kd.int .u8) 5 w53 w.heap.size (fun _ => True) v229 y228) := ⟨h0_⟩
              have n1_ : Aside0 (Kd.R k41 41 w53 w.heap.size (fun _ => True) u10 x10_2) := ⟨h1_⟩
              have n2_ : Aside0 (w53.heap[gb213]? = some (.cells #[.string a0_0, .string a0_1, .int .i64 a0_2, .int .i64 a0_3, .int .i64 a0_4, .int .i64 a0_5, .int .i64 a0_6] 25 (0, 0))) := ⟨h2_⟩
              have n3_ : Aside0 (w53.heap[gb214]? = some (.cells #[.int .i64 a1_0, .slice A1_1 l1_1.length c1_1, .slice A1_2 l1_2.length c1_2, .slice A1_3 l1_3.length c1_3, .slice A1_4 l1_4.length c1_4, .slice (some ad227) l1_5.length c1_5] 57 (0, 0))) := ⟨h3_⟩
              have n4_ : Aside0 (w53.heap[gb225]? = some (.cells #[.int .i64 t217, .int .i64 t218, .int .i64 t219, .int .i64 t220] 39 (0, 0))) := ⟨h4_⟩
              have n5_ : Aside0 (w53.heap[gb226]? = some (.cells #[.int .i64 t221, .int .i64 t222, .int .i64 t223, .int .i64 t224] 39 (0, 0))) := ⟨h5_⟩
              have n6_ : Aside0 (w53.heap[gb235]? = some (.cells #[.int .i64 0, .slice none 0 0, .slice none 0 0, .slice none 0 0, .slice none 0 0, .slice none 0 0] 57 (0, 0))) := ⟨h6_⟩
              have n7_ : Aside0 (w.heap.size ≤ gb235) := ⟨h7_⟩
              have n8_ : Aside0 (w.heap.size ≤ gb235) := ⟨h8_⟩
              have n9_ : Aside0 (gb213 ≠ gb235) := ⟨h9_⟩
              have n10_ : Aside0 (gb235 ≠ gb213) := ⟨h10_⟩
              have n11_ : Aside0 (gb214 ≠ gb235) := ⟨h11_⟩
              have n12_ : Aside0 (gb235 ≠ gb214) := ⟨h12_⟩
              have n13_ : Aside0 (gb225 ≠ gb235) := ⟨h13_⟩
              have n14_ : Aside0 (gb235 ≠ gb225) := ⟨h14_⟩
              have n15_ : Aside0 (gb226 ≠ gb235) := ⟨h15_⟩
              have n16_ : Aside0 (gb235 ≠ gb226) := ⟨h16_⟩
              have n17_ : Aside0 (Below w.heap.size w w53) := ⟨h17_⟩
              clear HO_10 BK213 BK214 BK225 BK226 HB h0_ h1_ h2_ h3_ h4_ h5_ h6_ h7_ h8_ h9_ h10_ h11_ h12_ h13_ h14_ h15_ h16_ h17_
              have HO230 := n0_
              have HO_10 := n1_
              have BK213 := n2_
              have BK214 := n3_
              have BK225 := n4_
              have BK226 := n5_
              have BK235 := n6_
              have GW235 := n7_
              have GE235 := n8_
              have NB213_235 := n9_
              have NB235_213 := n10_
              have NB214_235 := n11_
              have NB235_214 := n12_
              have NB225_235 := n13_
              have NB235_225 := n14_
              have NB226_235 := n15_
              have NB235_226 := n16_
              have HB := n17_
              clear n0_ n1_ n2_ n3_ n4_ n5_ n6_ n7_ n8_ n9_ n10_ n11_ n12_ n13_ n14_ n15_ n16_ n17_
              have hHeld : w53.cell? ⟨gb214, 0, none⟩ = some (.int .i64 a1_0) ∧ w53.cell? ⟨gb214, 1, none⟩ = some (.slice A1_1 l1_1.length c1_1) ∧ w53.cell? ⟨gb214, 2, none⟩ = some (.slice A1_2 l1_2.length c1_2) ∧ w53.cell? ⟨gb214, 3, none⟩ = some (.slice A1_3 l1_3.length c1_3) ∧ w53.cell? ⟨gb214, 4, none⟩ = some (.slice A1_4 l1_4.length c1_4) ∧ w53.cell? ⟨gb214, 5, none⟩ = some (.slice (some ad227) l1_5.length c1_5) ∧ w53.cell? (ad227.add (x53_2).toNat) = some (.int .u8 (rd l1_5 x53_2)) ∧ w53.cell? (ad227.add (x53_2).toNat) = some (.int .u8 (rd l1_5 x53_2)) := hS_
              refine norm_ (a' := ?_) ?_ ?_
              rotate_left
              ·simp only [putAll, Act.put, List.setIfInBounds_toArray, List.set_cons_zero, List.set_cons_succ]
               rfl
              refine one_ (i := 16) (N := some 72) #[Y,Y,Y,Y,Y,Y,Y,Y,Y,Y,Y,Y,Y,Y,Y,Y,Y,N,Y,N] rfl rfl (one_of HT_.out (by kernel_rfl)) (by decide) (fun K hK => ?_)
              refine Kd.R_lit_step (Kd.int .u8) _ 5 ?hg (N := 72) ?hd (xs := ([(Int.tdiv (rd l1_5 x53_2) 16) % 256] : List Int)) (inner := [.int .u8 ((Int.tdiv (rd l1_5 x53_2) 16) % 256)]) (ok := fun _ => True) (okp := fun _ => True) ?hr ?hp (fun _ hk => hk) trivial (Below.refl _ _) (Nat.le_refl _) (by simp) ?_; (case hd => rfl); (case hg => rfl); (case hr => first | (go_simp; done) | (go_simp; rfl)); (case hp => exact (Reps.one (show Kd.M (Kd.int .u8) _ _ _ ((Int.tdiv (rd l1_5 x53_2) 16) % 256) [.int .u8 ((Int.tdiv (rd l1_5 x53_2) 16) % 256)] from rfl) (Reps.none _ _)))
              intro v233 w54 ho55 hb hg_ hnew_
              clear hg_ hnew_
              (first | rw [← Ny232.out] at ho55 | (simp only [Int.reduceToNat] at ho55; rw [← Ny232.out] at ho55))
              replace HO_10 := Aside0.mk (Kd.R_below (rmv HO_10.out) hb)
              have HO234 := Aside0.mk (Kd.R_lower (Kd.R_new' ho55 (Kd.R_lt (rmv HO230.out))) (below_size (blw HB.out)))
              replace HO230 := Aside0.mk (Kd.R_elder' (rmv HO230.out) (Kd.R_base ho55) hb)
              replace BK213 := Aside0.mk (zb BK213.out hb)
              replace BK214 := Aside0.mk (zb BK214.out hb)
              replace BK225 := Aside0.mk (zb BK225.out hb)
              replace BK226 := Aside0.mk (zb BK226.out hb)
              replace BK235 := Aside0.mk (zb BK235.out hb)
              replace HB := Aside0.mk (below_step (blw HB.out) hb)
              clear hb ho55
              obtain ⟨Ao56, co56, eo56⟩ := Kd.R_slice HO234.out
              (first | subst eo56 | (injection eo56 with f1_ f2_ f3_; have f4_ := f1_.symm; have f5_ := f3_.symm; clear f1_ f2_ f3_; subst f4_; subst f5_))
              obtain ⟨Ao57, co57, eo57⟩ := Kd.R_slice HO230.out
              (first | subst eo57 | (injection eo57 with f1_ f2_ f3_; have f4_ := f1_.symm; have f5_ := f3_.symm; clear f1_ f2_ f3_; subst f4_; subst f5_))
              refine hK.out _ _ ⟨bc BK214 0, bc BK214 1, bc BK214 2, bc BK214 3, bc BK214 4, bc BK214 5, ((HB.out.cell (World.block_lt_of_cell? w _ hw227_0)).trans hw227_0), ((HB.out.cell (World.block_lt_of_cell? w _ hw231_0)).trans hw231_0)⟩ (fun hHeld => ?_)
              clear hK K
              refine norm_ (a' := ?_) ?_ ?_
              rotate_left
              ·show Act.put _ (some 72) _ = _
               simp only [Act.put, List.setIfInBounds_toArray, List.set_cons_zero, List.set_cons_succ, i64_w, i32_w]
               rfl
              refine pureA (i := 17) (N := some 73) #[Y,Y,Y,Y,Y,Y,Y,Y,Y,Y,Y,Y,Y,Y,Y,Y,Y,Y,Y,N] (any_of HT_.out (by kernel_rfl)) ?_
              exact normA (hJ9_16_18 (.slice Ao57 y228.length co57, .slice Ao56 y232.length co56, gb235) _ ⟨hHeld, (by (with_reducible repeat (first | apply Kd.R_alloc | apply Kd.R_drewN | apply Kd.R_drew)); exact Kd.R_mono HO230.out (fun _ hk => hk.2)), (by (with_reducible repeat (first | apply Kd.R_alloc | apply Kd.R_drewN | apply Kd.R_drew)); exact Kd.R_mono HO234.out (fun _ hk => hk.2)), (rmv HO_10.out), (zk BK213.out), (zk BK214.out), (zk BK225.out), (zk BK226.out), (zk BK235.out), GW235.out, GE235.out, NB213_235.out, NB235_213.out, NB214_235.out, NB235_214.out, NB225_235.out, NB235_225.out, NB226_235.out, NB235_226.out, (blw HB.out)⟩)
            ·skip
             rintro ⟨v229, v233⟩ w56 ⟨hS_, h0_, h1_, h2_, h3_, h4_, h5_, h6_, h7_⟩
             have n0_ : Aside0 (Kd.R (Kd.int .u8) 5 w56 w.heap.size (fun k_ => some k_ ≠ (v233 : Value).ownBlock) v229 y228) := ⟨h0_⟩
             have n1_ : Aside0 (Kd.R (Kd.int .u8) 5 w56 w.heap.size (fun k_ => some k_ ≠ (v229 : Value).ownBlock) v233 y232) := ⟨h1_⟩
             have n2_ : Aside0 (Kd.R k41 41 w56 w.heap.size (fun _ => True) u10 x10_2) := ⟨h2_⟩
             have n3_ : Aside0 (w56.heap[gb213]? = some (.cells #[.string a0_0, .string a0_1, .int .i64 a0_2, .int .i64 a0_3, .int .i64 a0_4, .int .i64 a0_5, .int .i64 a0_6] 25 (0, 0))) := ⟨h3_⟩
             have n4_ : Aside0 (w56.heap[gb214]? = some (.cells #[.int .i64 a1_0, .slice A1_1 l1_1.length c1_1, .slice A1_2 l1_2.length c1_2, .slice A1_3 l1_3.length c1_3, .slice A1_4 l1_4.length c1_4, .slice (some ad227) l1_5.length c1_5] 57 (0, 0))) := ⟨h4_⟩
             have n5_ : Aside0 (w56.heap[gb225]? = some (.cells #[.int .i64 t217, .int .i64 t218, .int .i64 t219, .int .i64 t220] 39 (0, 0))) := ⟨h5_⟩
             have n6_ : Aside0 (w56.heap[gb226]? = some (.cells #[.int .i64 t221, .int .i64 t222, .int .i64 t223, .int .i64 t224] 39 (0, 0))) := ⟨h6_⟩
             have n7_ : Aside0 (Below w.heap.size w w56) := ⟨h7_⟩
             clear HO_10 BK213 BK214 BK225 BK226 HB h0_ h1_ h2_ h3_ h4_ h5_ h6_ h7_
             have HO230 := n0_
             have HO234 := n1_
             have HO_10 := n2_
             have BK213 := n3_
             have BK214 := n4_
             have BK225 := n5_
             have BK226 := n6_
             have HB := n7_
             clear n0_ n1_ n2_ n3_ n4_ n5_ n6_ n7_
             have hHeld : w56.cell? ⟨gb214, 0, none⟩ = some (.int .i64 a1_0) ∧ w56.cell? ⟨gb214, 1, none⟩ = some (.slice A1_1 l1_1.length c1_1) ∧ w56.cell? ⟨gb214, 2, none⟩ = some (.slice A1_2 l1_2.length c1_2) ∧ w56.cell? ⟨gb214, 3, none⟩ = some (.slice A1_3 l1_3.length c1_3) ∧ w56.cell? ⟨gb214, 4, none⟩ = some (.slice A1_4 l1_4.length c1_4) ∧ w56.cell? ⟨gb214, 5, none⟩ = some (.slice (some ad227) l1_5.length c1_5) ∧ w56.cell? (ad227.add (x53_2).toNat) = some (.int .u8 (rd l1_5 x53_2)) ∧ w56.cell? (ad227.add (x53_2).toNat) = some (.int .u8 (rd l1_5 x53_2)) := hS_
             obtain ⟨Ao57, co57, eo57⟩ := Kd.R_slice HO234.out
             (first | subst eo57 | (injection eo57 with f1_ f2_ f3_; have f4_ := f1_.symm; have f5_ := f3_.symm; clear f1_ f2_ f3_; subst f4_; subst f5_))
             obtain ⟨Ao58, co58, eo58⟩ := Kd.R_slice HO230.out
             (first | subst eo58 | (injection eo58 with f1_ f2_ f3_; have f4_ := f1_.symm; have f5_ := f3_.symm; clear f1_ f2_ f3_; subst f4_; subst f5_))
             refine norm_ (a' := ?_) ?_ ?_
             rotate_left
             ·simp only [putAll, Act.put, List.setIfInBounds_toArray, List.set_cons_zero, List.set_cons_succ]
              rfl
             refine one_ (i := 18) (N := some 12) #[Y,Y,Y,Y,Y,Y,Y,Y,Y,Y,Y,Y,Y,Y,Y,Y,Y,Y,Y,N] rfl rfl (one_of HT_.out (by kernel_rfl)) (by decide) (fun K hK => ?_)
             refine box_step ?hg (N := 12) ?hd (cs := #[.int .i64 0, .slice none 0 0, .slice none 0 0, .slice none 0 0, .slice none 0 0, .slice none 0 0]) (t := 57) ?hr ?_; (case hd => rfl); (case hg => rfl); (case hr => first | (go_simp; done) | (go_simp; rfl))
             intro gb235 hg w59 hbox hb
             replace HO_10 := Aside0.mk (Kd.R_below (rmv HO_10.out) hb)
             replace HO230 := Aside0.mk (Kd.R_below (rmv HO230.out) hb)
             replace HO234 := Aside0.mk (Kd.R_below (rmv HO234.out) hb)
             have BK235 := Aside0.mk (hbox)
             have GW235 := Aside0.mk ((by rw [hg]; exact (below_size (blw HB.out)) : w.heap.size ≤ gb235))
             have GE235 := Aside0.mk ((by rw [hg]; exact (below_size (blw HB.out)) : w.heap.size ≤ gb235))
             replace HB := Aside0.mk (below_step (blw HB.out) hb)
             have NB213_235 := Aside0.mk ((by rw [hg]; exact Nat.ne_of_lt (blk_lt (zk BK213.out)) : gb213 ≠ gb235))
             have NB235_213 := Aside0.mk ((by rw [hg]; exact Nat.ne_of_gt (blk_lt (zk BK213.out)) : gb235 ≠ gb213))
             replace BK213 := Aside0.mk (zb BK213.out hb)
             have NB214_235 := Aside0.mk ((by rw [hg]; exact Nat.ne_of_lt (blk_lt (zk BK214.out)) : gb214 ≠ gb235))
             have NB235_214 := Aside0.mk ((by rw [hg]; exact Nat.ne_of_gt (blk_lt (zk BK214.out)) : gb235 ≠ gb214))
             replace BK214 := Aside0.mk (zb BK214.out hb)
             have NB225_235 := Aside0.mk ((by rw [hg]; exact Nat.ne_of_lt (blk_lt (zk BK225.out)) : gb225 ≠ gb235))
             have NB235_225 := Aside0.mk ((by rw [hg]; exact Nat.ne_of_gt (blk_lt (zk BK225.out)) : gb235 ≠ gb225))
             replace BK225 := Aside0.mk (zb BK225.out hb)
             have NB226_235 := Aside0.mk ((by rw [hg]; exact Nat.ne_of_lt (blk_lt (zk BK226.out)) : gb226 ≠ gb235))
             have NB235_226 := Aside0.mk ((by rw [hg]; exact Nat.ne_of_gt (blk_lt (zk BK226.out)) : gb235 ≠ gb226))
             replace BK226 := Aside0.mk (zb BK226.out hb)
             clear hb hbox hg
             refine hK.out _ _ ⟨bc BK214 0, bc BK214 1, bc BK214 2, bc BK214 3, bc BK214 4, bc BK214 5, ((HB.out.cell (World.block_lt_of_cell? w _ hw227_0)).trans hw227_0), ((HB.out.cell (World.block_lt_of_cell? w _ hw231_0)).trans hw231_0)⟩ (fun hHeld => ?_)
             clear hK K
             refine norm_ (a' := ?_) ?_ ?_
             rotate_left
             ·show Act.put _ (some 12) _ = _
              simp only [Act.put, List.setIfInBounds_toArray, List.set_cons_zero, List.set_cons_succ, i64_w, i32_w]
              rfl
             exact normA (hJ9_16_18 (.slice Ao58 y228.length co58, .slice Ao57 y232.length co57, gb235) _ ⟨hHeld, (rmv HO230.out), (rmv HO234.out), (rmv HO_10.out), (zk BK213.out), (zk BK214.out), (zk BK225.out), (zk BK226.out), (zk BK235.out), GW235.out, GE235.out, NB213_235.out, NB235_213.out, NB214_235.out, NB235_214.out, NB225_235.out, NB235_225.out, NB226_235.out, NB235_226.out, (blw HB.out)⟩)
           rintro ⟨v229, v233, gb235⟩ w57 ⟨hS_, h0_, h1_, h2_, h3_, h4_, h5_, h6_, h7_, h8_, h9_, h10_, h11_, h12_, h13_, h14_, h15_, h16_, h17_, h18_⟩
           have n0_ : Aside0 (Kd.R (Kd.int .u8) 5 w57 w.heap.size (fun k_ => some k_ ≠ (v233 : Value).ownBlock) v229 y228) := ⟨h0_⟩
           have n1_ : Aside0 (Kd.R (Kd.int .u8) 5 w57 w.heap.size (fun k_ => some k_ ≠ (v229 : Value).ownBlock) v233 y232) := ⟨h1_⟩
           have n2_ : Aside0 (Kd.R k41 41 w57 w.heap.size (fun _ => True) u10 x10_2) := ⟨h2_⟩
           have n3_ : Aside0 (w57.heap[gb213]? = some (.cells #[.string a0_0, .string a0_1, .int .i64 a0_2, .int .i64 a0_3, .int .i64 a0_4, .int .i64 a0_5, .int .i64 a0_6] 25 (0, 0))) := ⟨h3_⟩
           have n4_ : Aside0 (w57.heap[gb214]? = some (.cells #[.int .i64 a1_0, .slice A1_1 l1_1.length c1_1, .slice A1_2 l1_2.length c1_2, .slice A1_3 l1_3.length c1_3, .slice A1_4 l1_4.length c1_4, .slice (some ad227) l1_5.length c1_5] 57 (0, 0))) := ⟨h4_⟩
           have n5_ : Aside0 (w57.heap[gb225]? = some (.cells #[.int .i64 t217, .int .i64 t218, .int .i64 t219, .int .i64 t220] 39 (0, 0))) := ⟨h5_⟩
           have n6_ : Aside0 (w57.heap[gb226]? = some (.cells #[.int .i64 t221, .int .i64 t222, .int .i64 t223, .int .i64 t224] 39 (0, 0))) := ⟨h6_⟩
           have n7_ : Aside0 (w57.heap[gb235]? = some (.cells #[.int .i64 0, .slice none 0 0, .slice none 0 0, .slice none 0 0, .slice none 0 0, .slice none 0 0] 57 (0, 0))) := ⟨h7_⟩
           have n8_ : Aside0 (w.heap.size ≤ gb235) := ⟨h8_⟩
           have n9_ : Aside0 (w.heap.size ≤ gb235) := ⟨h9_⟩
           have n10_ : Aside0 (gb213 ≠ gb235) := ⟨h10_⟩
           have n11_ : Aside0 (gb235 ≠ gb213) := ⟨h11_⟩
           have n12_ : Aside0 (gb214 ≠ gb235) := ⟨h12_⟩
           have n13_ : Aside0 (gb235 ≠ gb214) := ⟨h13_⟩
           have n14_ : Aside0 (gb225 ≠ gb235) := ⟨h14_⟩
           have n15_ : Aside0 (gb235 ≠ gb225) := ⟨h15_⟩
           have n16_ : Aside0 (gb226 ≠ gb235) := ⟨h16_⟩
           have n17_ : Aside0 (gb235 ≠ gb226) := ⟨h17_⟩
           have n18_ : Aside0 (Below w.heap.size w w57) := ⟨h18_⟩
           clear HO_10 BK213 BK214 BK225 BK226 HB h0_ h1_ h2_ h3_ h4_ h5_ h6_ h7_ h8_ h9_ h10_ h11_ h12_ h13_ h14_ h15_ h16_ h17_ h18_
           have HO230 := n0_
           have HO234 := n1_
           have HO_10 := n2_
           have BK213 := n3_
           have BK214 := n4_
           have BK225 := n5_
           have BK226 := n6_
           have BK235 := n7_
           have GW235 := n8_
           have GE235 := n9_
           have NB213_235 := n10_
           have NB235_213 := n11_
           have NB214_235 := n12_
           have NB235_214 := n13_
           have NB225_235 := n14_
           have NB235_225 := n15_
           have NB226_235 := n16_
           have NB235_226 := n17_
           have HB := n18_
           clear n0_ n1_ n2_ n3_ n4_ n5_ n6_ n7_ n8_ n9_ n10_ n11_ n12_ n13_ n14_ n15_ n16_ n17_ n18_
           have hHeld : w57.cell? ⟨gb214, 0, none⟩ = some (.int .i64 a1_0) ∧ w57.cell? ⟨gb214, 1, none⟩ = some (.slice A1_1 l1_1.length c1_1) ∧ w57.cell? ⟨gb214, 2, none⟩ = some (.slice A1_2 l1_2.length c1_2) ∧ w57.cell? ⟨gb214, 3, none⟩ = some (.slice A1_3 l1_3.length c1_3) ∧ w57.cell? ⟨gb214, 4, none⟩ = some (.slice A1_4 l1_4.length c1_4) ∧ w57.cell? ⟨gb214, 5, none⟩ = some (.slice (some ad227) l1_5.length c1_5) ∧ w57.cell? (ad227.add (x53_2).toNat) = some (.int .u8 (rd l1_5 x53_2)) ∧ w57.cell? (ad227.add (x53_2).toNat) = some (.int .u8 (rd l1_5 x53_2)) := hS_
           obtain ⟨Ao58, co58, eo58⟩ := Kd.R_slice HO234.out
           (first | subst eo58 | (injection eo58 with f1_ f2_ f3_; have f4_ := f1_.symm; have f5_ := f3_.symm; clear f1_ f2_ f3_; subst f4_; subst f5_))
           obtain ⟨Ao59, co59, eo59⟩ := Kd.R_slice HO230.out
           (first | subst eo59 | (injection eo59 with f1_ f2_ f3_; have f4_ := f1_.symm; have f5_ := f3_.symm; clear f1_ f2_ f3_; subst f4_; subst f5_))
           refine norm_ (a' := ?_) ?_ ?_
           rotate_left
           ·simp only [putAll, Act.put, List.setIfInBounds_toArray, List.set_cons_zero, List.set_cons_succ]
            rfl
           refine one_ (i := 19) (N := none) #[Y,Y,Y,Y,Y,Y,Y,Y,Y,Y,Y,Y,Y,Y,Y,Y,Y,Y,Y,Y] rfl rfl (one_of HT_.out (by kernel_rfl)) (by decide) (fun K hK => ?_)
           have hs60 : w57.cell? ⟨gb235, 0, none⟩ = some (.int .i64 0) := bc BK235 0
           have hfs60 := blk_frozen BK235.out 0
           have hns60_0 := NB213_235.out
           have hns60_1 := NB214_235.out
           have hns60_2 := NB225_235.out
           have hns60_3 := NB226_235.out
           have hms60_0 := NB235_213.out
           have hms60_1 := NB235_214.out
           have hms60_2 := NB235_225.out
           have hms60_3 := NB235_226.out
           have hs61 : w57.cell? ⟨gb235, 1, none⟩ = some (.slice none 0 0) := bc BK235 1
           have hfs61 := blk_frozen BK235.out 1
           have hns61_0 := NB213_235.out
           have hns61_1 := NB214_235.out
           have hns61_2 := NB225_235.out
           have hns61_3 := NB226_235.out
           have hms61_0 := NB235_213.out
           have hms61_1 := NB235_214.out
           have hms61_2 := NB235_225.out
           have hms61_3 := NB235_226.out
           have hs62 : w57.cell? ⟨gb235, 2, none⟩ = some (.slice none 0 0) := bc BK235 2
           have hfs62 := blk_frozen BK235.out 2
           have hns62_0 := NB213_235.out
           have hns62_1 := NB214_235.out
           have hns62_2 := NB225_235.out
           have hns62_3 := NB226_235.out
           have hms62_0 := NB235_213.out
           have hms62_1 := NB235_214.out
           have hms62_2 := NB235_225.out
           have hms62_3 := NB235_226.out
           have hs63 : w57.cell? ⟨gb235, 3, none⟩ = some (.slice none 0 0) := bc BK235 3
           have hfs63 := blk_frozen BK235.out 3
           have hns63_0 := NB213_235.out
           have hns63_1 := NB214_235.out
           have hns63_2 := NB225_235.out
           have hns63_3 := NB226_235.out
           have hms63_0 := NB235_213.out
           have hms63_1 := NB235_214.out
           have hms63_2 := NB235_225.out
           have hms63_3 := NB235_226.out
           have hs64 : w57.cell? ⟨gb235, 4, none⟩ = some (.slice none 0 0) := bc BK235 4
           have hfs64 := blk_frozen BK235.out 4
           have hns64_0 := NB213_235.out
           have hns64_1 := NB214_235.out
           have hns64_2 := NB225_235.out
           have hns64_3 := NB226_235.out
           have hms64_0 := NB235_213.out
           have hms64_1 := NB235_214.out
           have hms64_2 := NB235_225.out
           have hms64_3 := NB235_226.out
           have hs65 : w57.cell? ⟨gb235, 5, none⟩ = some (.slice none 0 0) := bc BK235 5
           have hfs65 := blk_frozen BK235.out 5
           have hns65_0 := NB213_235.out
           have hns65_1 := NB214_235.out
           have hns65_2 := NB225_235.out
           have hns65_3 := NB226_235.out
           have hms65_0 := NB235_213.out
           have hms65_1 := NB235_214.out
           have hms65_2 := NB235_225.out
           have hms65_3 := NB235_226.out
           refine skip_ (w1 := ?_) (by rfl) rfl ?_ ?_
           rotate_left
           ·go_simp
            rfl
           refine hK.out _ _ ⟨(cf hHeld.1), (cf hHeld.2.1), (cf hHeld.2.2.1), (cf hHeld.2.2.2.1), (cf hHeld.2.2.2.2.1), (cf hHeld.2.2.2.2.2.1), (cfw hw227_0 GW235 (hHeld.2.2.2.2.2.2.1)), (cfw hw231_0 GW235 (hHeld.2.2.2.2.2.2.2))⟩ (fun hHeld => ?_)
           clear hK K
           refine done_ (done_of HT_.out (by kernel_rfl)) ?_
           have hnb66 := NB235_213.out
           have hnc66 := NB213_235.out
           have hnb67 := NB235_214.out
           have hnc67 := NB214_235.out
           have hnb68 := NB235_225.out
           have hnc68 := NB225_235.out
           have hnb69 := NB235_226.out
           have hnc69 := NB226_235.out
           have hcz70_0 : w57.cell? ⟨gb235, 0, none⟩ = some (.int .i64 0) := bc BK235 0
           have hcz70_1 : w57.cell? ⟨gb235, 1, none⟩ = some (.slice none 0 0) := bc BK235 1
           have hcz70_2 : w57.cell? ⟨gb235, 2, none⟩ = some (.slice none 0 0) := bc BK235 2
           have hcz70_3 : w57.cell? ⟨gb235, 3, none⟩ = some (.slice none 0 0) := bc BK235 3
           have hcz70_4 : w57.cell? ⟨gb235, 4, none⟩ = some (.slice none 0 0) := bc BK235 4
           have hcz70_5 : w57.cell? ⟨gb235, 5, none⟩ = some (.slice none 0 0) := bc BK235 5
           have hfz70_0 := blk_frozen BK235.out 0
           have hfz70_1 := blk_frozen BK235.out 1
           have hfz70_2 := blk_frozen BK235.out 2
           have hfz70_3 := blk_frozen BK235.out 3
           have hfz70_4 := blk_frozen BK235.out 4
           have hfz70_5 := blk_frozen BK235.out 5
           try go_wp2_with (first | ((with_reducible refine gate_callee (f := 24) rfl ?_); refine goesL_ (some 76) rfl rfl Try.func24 (by kernel_rfl) rfl #[.agg #[.int .i64 0, .slice A1_1 l1_1.length c1_1, .slice A1_2 l1_2.length c1_2, .slice Ao59 y228.length co59, .slice Ao58 y232.length co58, .slice none 0 0], .int .i64 0] rfl (by (try simp only [List.map_toArray, List.map_cons, List.map_nil]); first | done | rfl | (simp only [List.length_drop, List.length_take]; rfl)) ?_; (refine (fastilaw29_sky.calls 0 _ _ l1_1 _ _ l1_2 _ _ y228 _ _ y232 _ _ ([] : List Int) 0 t236 t237 t238 t239 t240 t241 t242 t243 _ ?side1 ?side2 ?side3 ?side4 ?side5 ?side6 ?side7 ?side8 ?side9 ?side10 A47.out).mono ?_); (case side1 => exact Kd.C_below HR1_1.out (blw HB.out)); (case side2 => exact HC1_1.out); (case side3 => exact Kd.C_below HR1_2.out (blw HB.out)); (case side4 => exact HC1_2.out); (case side5 => refine (Kd.R_reads' (e := 5) (base := w.heap.size) (ok := fun k_ => some k_ ≠ (.slice Ao58 y232.length co58 : Value).ownBlock) (n := y228.length) (c := co59) ?_).2.2; exact (rfa (Kd.R_types HO230.out BK235.out (by decide)))); (case side6 => exact (Kd.R_reads' HO230.out).2.1); (case side7 => refine (Kd.R_reads' (e := 5) (base := w.heap.size) (ok := fun k_ => some k_ ≠ (.slice Ao59 y228.length co59 : Value).ownBlock) (n := y232.length) (c := co58) ?_).2.2; exact (rfa (Kd.R_types HO234.out BK235.out (by decide)))); (case side8 => exact (Kd.R_reads' HO234.out).2.1); (case side9 => exact Kd.C_nil _ _); (case side10 => exact Nat.le_refl _); rintro e w71 ⟨rfl, hb⟩; refine ⟨_, rfl, ?_⟩; replace HO_10 := Aside0.mk (Kd.R_below (rfa (Kd.R_types HO_10.out BK235.out (by decide))) hb); replace HO230 := Aside0.mk (Kd.R_below (rfa (Kd.R_types HO230.out BK235.out (by decide))) hb); replace HO234 := Aside0.mk (Kd.R_below (rfa (Kd.R_types HO234.out BK235.out (by decide))) hb); replace BK213 := Aside0.mk (zfb BK213.out hb); replace BK214 := Aside0.mk (zfb BK214.out hb); replace BK225 := Aside0.mk (zfb BK225.out hb); replace BK226 := Aside0.mk (zfb BK226.out hb); replace BK235 := Aside0.mk (blk_below (g := gb235) (o := .cells #[.int .i64 0, .slice A1_1 l1_1.length c1_1, .slice A1_2 l1_2.length c1_2, .slice Ao59 y228.length co59, .slice Ao58 y232.length co58, .slice none 0 0] 57 (0, 0)) (by (with_reducible repeat (first | refine blk_drewN ?_ _ | refine blk_drew ?_ | refine blk_alloc ?_ _)); refine blk_put (cs := #[.int .i64 0, .slice A1_1 l1_1.length c1_1, .slice A1_2 l1_2.length c1_2, .slice Ao59 y228.length co59, .slice Ao58 y232.length co58, .slice none 0 0]) ?_ 5 _ rfl; (with_reducible repeat (first | refine blk_drewN ?_ _ | refine blk_drew ?_ | refine blk_alloc ?_ _)); refine blk_put (cs := #[.int .i64 0, .slice A1_1 l1_1.length c1_1, .slice A1_2 l1_2.length c1_2, .slice Ao59 y228.length co59, .slice none 0 0, .slice none 0 0]) ?_ 4 _ rfl; (with_reducible repeat (first | refine blk_drewN ?_ _ | refine blk_drew ?_ | refine blk_alloc ?_ _)); refine blk_put (cs := #[.int .i64 0, .slice A1_1 l1_1.length c1_1, .slice A1_2 l1_2.length c1_2, .slice none 0 0, .slice none 0 0, .slice none 0 0]) ?_ 3 _ rfl; (with_reducible repeat (first | refine blk_drewN ?_ _ | refine blk_drew ?_ | refine blk_alloc ?_ _)); refine blk_put (cs := #[.int .i64 0, .slice A1_1 l1_1.length c1_1, .slice none 0 0, .slice none 0 0, .slice none 0 0, .slice none 0 0]) ?_ 2 _ rfl; (with_reducible repeat (first | refine blk_drewN ?_ _ | refine blk_drew ?_ | refine blk_alloc ?_ _)); refine blk_put (cs := #[.int .i64 0, .slice none 0 0, .slice none 0 0, .slice none 0 0, .slice none 0 0, .slice none 0 0]) ?_ 1 _ rfl; (with_reducible repeat (first | refine blk_drewN ?_ _ | refine blk_drew ?_ | refine blk_alloc ?_ _)); refine blk_put (cs := #[.int .i64 0, .slice none 0 0, .slice none 0 0, .slice none 0 0, .slice none 0 0, .slice none 0 0]) ?_ 0 _ rfl; (with_reducible repeat (first | refine blk_drewN ?_ _ | refine blk_drew ?_ | refine blk_alloc ?_ _)); exact BK235.out) hb); replace HB := Aside0.mk (below_step (blw HB.out) hb); (try clear hb); (try clear hb2); (try clear hk); (try clear hi)) | ((with_reducible refine gate_dst (N := 13) rfl ?_); (try (refine gate_guard (by rfl) ?_; dsimp only)); refine box_event ?hg (N := 13) ?hd (cs := #[.int .i64 0, .int .i64 0, .int .i64 0, .int .i64 0]) (t := 39) ?hr ?_; (case hd => rfl); (case hg => rfl); (case hr => first | (go_simp; done) | (go_simp; rfl)); intro gb244 hg w72 hbox hb; replace HO_10 := Aside0.mk (Kd.R_below (rmv HO_10.out) hb); replace HO230 := Aside0.mk (Kd.R_below (rmv HO230.out) hb); replace HO234 := Aside0.mk (Kd.R_below (rmv HO234.out) hb); have BK244 := Aside0.mk (hbox); have GW244 := Aside0.mk ((by rw [hg]; exact (below_size (blw HB.out)) : w.heap.size ≤ gb244)); have GE244 := Aside0.mk ((by rw [hg]; exact (below_size (blw HB.out)) : w.heap.size ≤ gb244)); replace HB := Aside0.mk (below_step (blw HB.out) hb); have NB213_244 := Aside0.mk ((by rw [hg]; exact Nat.ne_of_lt (blk_lt (zk BK213.out)) : gb213 ≠ gb244)); have NB244_213 := Aside0.mk ((by rw [hg]; exact Nat.ne_of_gt (blk_lt (zk BK213.out)) : gb244 ≠ gb213)); replace BK213 := Aside0.mk (zb BK213.out hb); have NB214_244 := Aside0.mk ((by rw [hg]; exact Nat.ne_of_lt (blk_lt (zk BK214.out)) : gb214 ≠ gb244)); have NB244_214 := Aside0.mk ((by rw [hg]; exact Nat.ne_of_gt (blk_lt (zk BK214.out)) : gb244 ≠ gb214)); replace BK214 := Aside0.mk (zb BK214.out hb); have NB225_244 := Aside0.mk ((by rw [hg]; exact Nat.ne_of_lt (blk_lt (zk BK225.out)) : gb225 ≠ gb244)); have NB244_225 := Aside0.mk ((by rw [hg]; exact Nat.ne_of_gt (blk_lt (zk BK225.out)) : gb244 ≠ gb225)); replace BK225 := Aside0.mk (zb BK225.out hb); have NB226_244 := Aside0.mk ((by rw [hg]; exact Nat.ne_of_lt (blk_lt (zk BK226.out)) : gb226 ≠ gb244)); have NB244_226 := Aside0.mk ((by rw [hg]; exact Nat.ne_of_gt (blk_lt (zk BK226.out)) : gb244 ≠ gb226)); replace BK226 := Aside0.mk (zb BK226.out hb); have NB235_244 := Aside0.mk ((by rw [hg]; exact Nat.ne_of_lt (blk_lt (zk BK235.out)) : gb235 ≠ gb244)); have NB244_235 := Aside0.mk ((by rw [hg]; exact Nat.ne_of_gt (blk_lt (zk BK235.out)) : gb244 ≠ gb235)); replace BK235 := Aside0.mk (zb BK235.out hb); clear hb hbox hg) | ((with_reducible refine gate_dst (N := 14) rfl ?_); (try (refine gate_guard (by rfl) ?_; dsimp only)); refine box_event ?hg (N := 14) ?hd (cs := #[.int .i64 0, .int .i64 0, .int .i64 0, .int .i64 0]) (t := 39) ?hr ?_; (case hd => rfl); (case hg => rfl); (case hr => first | (go_simp; done) | (go_simp; rfl)); intro gb245 hg w73 hbox hb; replace HO_10 := Aside0.mk (Kd.R_below (rmv HO_10.out) hb); replace HO230 := Aside0.mk (Kd.R_below (rmv HO230.out) hb); replace HO234 := Aside0.mk (Kd.R_below (rmv HO234.out) hb); have BK245 := Aside0.mk (hbox); have GW245 := Aside0.mk ((by rw [hg]; exact (below_size (blw HB.out)) : w.heap.size ≤ gb245)); have GE245 := Aside0.mk ((by rw [hg]; exact (below_size (blw HB.out)) : w.heap.size ≤ gb245)); replace HB := Aside0.mk (below_step (blw HB.out) hb); have NB213_245 := Aside0.mk ((by rw [hg]; exact Nat.ne_of_lt (blk_lt (zk BK213.out)) : gb213 ≠ gb245)); have NB245_213 := Aside0.mk ((by rw [hg]; exact Nat.ne_of_gt (blk_lt (zk BK213.out)) : gb245 ≠ gb213)); replace BK213 := Aside0.mk (zb BK213.out hb); have NB214_245 := Aside0.mk ((by rw [hg]; exact Nat.ne_of_lt (blk_lt (zk BK214.out)) : gb214 ≠ gb245)); have NB245_214 := Aside0.mk ((by rw [hg]; exact Nat.ne_of_gt (blk_lt (zk BK214.out)) : gb245 ≠ gb214)); replace BK214 := Aside0.mk (zb BK214.out hb); have NB225_245 := Aside0.mk ((by rw [hg]; exact Nat.ne_of_lt (blk_lt (zk BK225.out)) : gb225 ≠ gb245)); have NB245_225 := Aside0.mk ((by rw [hg]; exact Nat.ne_of_gt (blk_lt (zk BK225.out)) : gb245 ≠ gb225)); replace BK225 := Aside0.mk (zb BK225.out hb); have NB226_245 := Aside0.mk ((by rw [hg]; exact Nat.ne_of_lt (blk_lt (zk BK226.out)) : gb226 ≠ gb245)); have NB245_226 := Aside0.mk ((by rw [hg]; exact Nat.ne_of_gt (blk_lt (zk BK226.out)) : gb245 ≠ gb226)); replace BK226 := Aside0.mk (zb BK226.out hb); have NB235_245 := Aside0.mk ((by rw [hg]; exact Nat.ne_of_lt (blk_lt (zk BK235.out)) : gb235 ≠ gb245)); have NB245_235 := Aside0.mk ((by rw [hg]; exact Nat.ne_of_gt (blk_lt (zk BK235.out)) : gb245 ≠ gb235)); replace BK235 := Aside0.mk (zb BK235.out hb); have NB244_245 := Aside0.mk ((by rw [hg]; exact Nat.ne_of_lt (blk_lt (zk BK244.out)) : gb244 ≠ gb245)); have NB245_244 := Aside0.mk ((by rw [hg]; exact Nat.ne_of_gt (blk_lt (zk BK244.out)) : gb245 ≠ gb244)); replace BK244 := Aside0.mk (zb BK244.out hb); clear hb hbox hg; have hnb74 := NB244_213.out; have hnc74 := NB213_244.out; have hnb75 := NB244_214.out; have hnc75 := NB214_244.out; have hnb76 := NB244_225.out; have hnc76 := NB225_244.out; have hnb77 := NB244_226.out; have hnc77 := NB226_244.out; have hnb78 := NB244_235.out; have hnc78 := NB235_244.out; have hnb79 := NB244_245.out; have hnc79 := NB245_244.out; have hcz80_0 : w73.cell? ⟨gb244, 0, none⟩ = some (.int .i64 0) := bc BK244 0; have hcz80_1 : w73.cell? ⟨gb244, 1, none⟩ = some (.int .i64 0) := bc BK244 1; have hcz80_2 : w73.cell? ⟨gb244, 2, none⟩ = some (.int .i64 0) := bc BK244 2; have hcz80_3 : w73.cell? ⟨gb244, 3, none⟩ = some (.int .i64 0) := bc BK244 3; have hfz80_0 := blk_frozen BK244.out 0; have hfz80_1 := blk_frozen BK244.out 1; have hfz80_2 := blk_frozen BK244.out 2; have hfz80_3 := blk_frozen BK244.out 3; have hnb81 := NB245_213.out; have hnc81 := NB213_245.out; have hnb82 := NB245_214.out; have hnc82 := NB214_245.out; have hnb83 := NB245_225.out; have hnc83 := NB225_245.out; have hnb84 := NB245_226.out; have hnc84 := NB226_245.out; have hnb85 := NB245_235.out; have hnc85 := NB235_245.out; have hcz86_0 : w73.cell? ⟨gb245, 0, none⟩ = some (.int .i64 0) := bc BK245 0; have hcz86_1 : w73.cell? ⟨gb245, 1, none⟩ = some (.int .i64 0) := bc BK245 1; have hcz86_2 : w73.cell? ⟨gb245, 2, none⟩ = some (.int .i64 0) := bc BK245 2; have hcz86_3 : w73.cell? ⟨gb245, 3, none⟩ = some (.int .i64 0) := bc BK245 3; have hfz86_0 := blk_frozen BK245.out 0; have hfz86_1 := blk_frozen BK245.out 1; have hfz86_2 := blk_frozen BK245.out 2; have hfz86_3 := blk_frozen BK245.out 3))
           have n0_ : Aside0 (Kd.R k41 41 ((((((((w73.setCell ⟨gb244, 0, none⟩ (.int .i64 t236)).setCell ⟨gb244, 1, none⟩ (.int .i64 t237)).setCell ⟨gb244, 2, none⟩ (.int .i64 t238)).setCell ⟨gb244, 3, none⟩ (.int .i64 t239)).setCell ⟨gb245, 0, none⟩ (.int .i64 t240)).setCell ⟨gb245, 1, none⟩ (.int .i64 t241)).setCell ⟨gb245, 2, none⟩ (.int .i64 t242)).setCell ⟨gb245, 3, none⟩ (.int .i64 t243)) w.heap.size (fun _ => True) u10 x10_2) := ⟨by (with_reducible repeat (first | apply Kd.R_alloc | apply Kd.R_drewN | apply Kd.R_drew)); exact Kd.R_mono (Kd.R_far (p := ⟨gb245, 3, none⟩) (Kd.R_far (p := ⟨gb245, 2, none⟩) (Kd.R_far (p := ⟨gb245, 1, none⟩) (Kd.R_far (p := ⟨gb245, 0, none⟩) (Kd.R_far (p := ⟨gb244, 3, none⟩) (Kd.R_far (p := ⟨gb244, 2, none⟩) (Kd.R_far (p := ⟨gb244, 1, none⟩) (Kd.R_far (p := ⟨gb244, 0, none⟩) (Kd.R_types (Kd.R_types HO_10.out BK244.out (by decide)) BK245.out (by decide)) (fun _ hk => hk.1.2) (.int .i64 t236)) (fun _ hk => hk.1.2) (.int .i64 t237)) (fun _ hk => hk.1.2) (.int .i64 t238)) (fun _ hk => hk.1.2) (.int .i64 t239)) (fun _ hk => hk.2) (.int .i64 t240)) (fun _ hk => hk.2) (.int .i64 t241)) (fun _ hk => hk.2) (.int .i64 t242)) (fun _ hk => hk.2) (.int .i64 t243)) (fun _ hk => trivial)⟩
           have n1_ : Aside0 (Kd.R (Kd.int .u8) 5 ((((((((w73.setCell ⟨gb244, 0, none⟩ (.int .i64 t236)).setCell ⟨gb244, 1, none⟩ (.int .i64 t237)).setCell ⟨gb244, 2, none⟩ (.int .i64 t238)).setCell ⟨gb244, 3, none⟩ (.int .i64 t239)).setCell ⟨gb245, 0, none⟩ (.int .i64 t240)).setCell ⟨gb245, 1, none⟩ (.int .i64 t241)).setCell ⟨gb245, 2, none⟩ (.int .i64 t242)).setCell ⟨gb245, 3, none⟩ (.int .i64 t243)) w.heap.size (fun k_ => some k_ ≠ (.slice Ao58 y232.length co58 : Value).ownBlock) (.slice Ao59 y228.length co59) y228) := ⟨by (with_reducible repeat (first | apply Kd.R_alloc | apply Kd.R_drewN | apply Kd.R_drew)); exact Kd.R_mono (Kd.R_far (p := ⟨gb245, 3, none⟩) (Kd.R_far (p := ⟨gb245, 2, none⟩) (Kd.R_far (p := ⟨gb245, 1, none⟩) (Kd.R_far (p := ⟨gb245, 0, none⟩) (Kd.R_far (p := ⟨gb244, 3, none⟩) (Kd.R_far (p := ⟨gb244, 2, none⟩) (Kd.R_far (p := ⟨gb244, 1, none⟩) (Kd.R_far (p := ⟨gb244, 0, none⟩) (Kd.R_types (Kd.R_types HO230.out BK244.out (by decide)) BK245.out (by decide)) (fun _ hk => hk.1.2) (.int .i64 t236)) (fun _ hk => hk.1.2) (.int .i64 t237)) (fun _ hk => hk.1.2) (.int .i64 t238)) (fun _ hk => hk.1.2) (.int .i64 t239)) (fun _ hk => hk.2) (.int .i64 t240)) (fun _ hk => hk.2) (.int .i64 t241)) (fun _ hk => hk.2) (.int .i64 t242)) (fun _ hk => hk.2) (.int .i64 t243)) (fun _ hk => hk.1.1)⟩
           have n2_ : Aside0 (Kd.R (Kd.int .u8) 5 ((((((((w73.setCell ⟨gb244, 0, none⟩ (.int .i64 t236)).setCell ⟨gb244, 1, none⟩ (.int .i64 t237)).setCell ⟨gb244, 2, none⟩ (.int .i64 t238)).setCell ⟨gb244, 3, none⟩ (.int .i64 t239)).setCell ⟨gb245, 0, none⟩ (.int .i64 t240)).setCell ⟨gb245, 1, none⟩ (.int .i64 t241)).setCell ⟨gb245, 2, none⟩ (.int .i64 t242)).setCell ⟨gb245, 3, none⟩ (.int .i64 t243)) w.heap.size (fun k_ => some k_ ≠ (.slice Ao59 y228.length co59 : Value).ownBlock) (.slice Ao58 y232.length co58) y232) := ⟨by (with_reducible repeat (first | apply Kd.R_alloc | apply Kd.R_drewN | apply Kd.R_drew)); exact Kd.R_mono (Kd.R_far (p := ⟨gb245, 3, none⟩) (Kd.R_far (p := ⟨gb245, 2, none⟩) (Kd.R_far (p := ⟨gb245, 1, none⟩) (Kd.R_far (p := ⟨gb245, 0, none⟩) (Kd.R_far (p := ⟨gb244, 3, none⟩) (Kd.R_far (p := ⟨gb244, 2, none⟩) (Kd.R_far (p := ⟨gb244, 1, none⟩) (Kd.R_far (p := ⟨gb244, 0, none⟩) (Kd.R_types (Kd.R_types HO234.out BK244.out (by decide)) BK245.out (by decide)) (fun _ hk => hk.1.2) (.int .i64 t236)) (fun _ hk => hk.1.2) (.int .i64 t237)) (fun _ hk => hk.1.2) (.int .i64 t238)) (fun _ hk => hk.1.2) (.int .i64 t239)) (fun _ hk => hk.2) (.int .i64 t240)) (fun _ hk => hk.2) (.int .i64 t241)) (fun _ hk => hk.2) (.int .i64 t242)) (fun _ hk => hk.2) (.int .i64 t243)) (fun _ hk => hk.1.1)⟩
           have n3_ : Aside0 (((((((((w73.setCell ⟨gb244, 0, none⟩ (.int .i64 t236)).setCell ⟨gb244, 1, none⟩ (.int .i64 t237)).setCell ⟨gb244, 2, none⟩ (.int .i64 t238)).setCell ⟨gb244, 3, none⟩ (.int .i64 t239)).setCell ⟨gb245, 0, none⟩ (.int .i64 t240)).setCell ⟨gb245, 1, none⟩ (.int .i64 t241)).setCell ⟨gb245, 2, none⟩ (.int .i64 t242)).setCell ⟨gb245, 3, none⟩ (.int .i64 t243)).heap[gb213]? = some (.cells #[.string a0_0, .string a0_1, .int .i64 a0_2, .int .i64 a0_3, .int .i64 a0_4, .int .i64 a0_5, .int .i64 a0_6] 25 (0, 0))) := ⟨zf BK213.out⟩
           have n4_ : Aside0 (((((((((w73.setCell ⟨gb244, 0, none⟩ (.int .i64 t236)).setCell ⟨gb244, 1, none⟩ (.int .i64 t237)).setCell ⟨gb244, 2, none⟩ (.int .i64 t238)).setCell ⟨gb244, 3, none⟩ (.int .i64 t239)).setCell ⟨gb245, 0, none⟩ (.int .i64 t240)).setCell ⟨gb245, 1, none⟩ (.int .i64 t241)).setCell ⟨gb245, 2, none⟩ (.int .i64 t242)).setCell ⟨gb245, 3, none⟩ (.int .i64 t243)).heap[gb214]? = some (.cells #[.int .i64 a1_0, .slice A1_1 l1_1.length c1_1, .slice A1_2 l1_2.length c1_2, .slice A1_3 l1_3.length c1_3, .slice A1_4 l1_4.length c1_4, .slice (some ad227) l1_5.length c1_5] 57 (0, 0))) := ⟨zf BK214.out⟩
           have n5_ : Aside0 (((((((((w73.setCell ⟨gb244, 0, none⟩ (.int .i64 t236)).setCell ⟨gb244, 1, none⟩ (.int .i64 t237)).setCell ⟨gb244, 2, none⟩ (.int .i64 t238)).setCell ⟨gb244, 3, none⟩ (.int .i64 t239)).setCell ⟨gb245, 0, none⟩ (.int .i64 t240)).setCell ⟨gb245, 1, none⟩ (.int .i64 t241)).setCell ⟨gb245, 2, none⟩ (.int .i64 t242)).setCell ⟨gb245, 3, none⟩ (.int .i64 t243)).heap[gb225]? = some (.cells #[.int .i64 t217, .int .i64 t218, .int .i64 t219, .int .i64 t220] 39 (0, 0))) := ⟨zf BK225.out⟩
           have n6_ : Aside0 (((((((((w73.setCell ⟨gb244, 0, none⟩ (.int .i64 t236)).setCell ⟨gb244, 1, none⟩ (.int .i64 t237)).setCell ⟨gb244, 2, none⟩ (.int .i64 t238)).setCell ⟨gb244, 3, none⟩ (.int .i64 t239)).setCell ⟨gb245, 0, none⟩ (.int .i64 t240)).setCell ⟨gb245, 1, none⟩ (.int .i64 t241)).setCell ⟨gb245, 2, none⟩ (.int .i64 t242)).setCell ⟨gb245, 3, none⟩ (.int .i64 t243)).heap[gb226]? = some (.cells #[.int .i64 t221, .int .i64 t222, .int .i64 t223, .int .i64 t224] 39 (0, 0))) := ⟨zf BK226.out⟩
           have n7_ : Aside0 (((((((((w73.setCell ⟨gb244, 0, none⟩ (.int .i64 t236)).setCell ⟨gb244, 1, none⟩ (.int .i64 t237)).setCell ⟨gb244, 2, none⟩ (.int .i64 t238)).setCell ⟨gb244, 3, none⟩ (.int .i64 t239)).setCell ⟨gb245, 0, none⟩ (.int .i64 t240)).setCell ⟨gb245, 1, none⟩ (.int .i64 t241)).setCell ⟨gb245, 2, none⟩ (.int .i64 t242)).setCell ⟨gb245, 3, none⟩ (.int .i64 t243)).heap[gb235]? = some (.cells #[.int .i64 0, .slice A1_1 l1_1.length c1_1, .slice A1_2 l1_2.length c1_2, .slice Ao59 y228.length co59, .slice Ao58 y232.length co58, .slice none 0 0] 57 (0, 0))) := ⟨zf BK235.out⟩
           have n8_ : Aside0 (((((((((w73.setCell ⟨gb244, 0, none⟩ (.int .i64 t236)).setCell ⟨gb244, 1, none⟩ (.int .i64 t237)).setCell ⟨gb244, 2, none⟩ (.int .i64 t238)).setCell ⟨gb244, 3, none⟩ (.int .i64 t239)).setCell ⟨gb245, 0, none⟩ (.int .i64 t240)).setCell ⟨gb245, 1, none⟩ (.int .i64 t241)).setCell ⟨gb245, 2, none⟩ (.int .i64 t242)).setCell ⟨gb245, 3, none⟩ (.int .i64 t243)).heap[gb244]? = some (.cells #[.int .i64 t236, .int .i64 t237, .int .i64 t238, .int .i64 t239] 39 (0, 0))) := ⟨by (with_reducible repeat (first | refine blk_drewN ?_ _ | refine blk_drew ?_ | refine blk_alloc ?_ _)); refine blk_far ?_ NB244_245.out _; (with_reducible repeat (first | refine blk_drewN ?_ _ | refine blk_drew ?_ | refine blk_alloc ?_ _)); refine blk_far ?_ NB244_245.out _; (with_reducible repeat (first | refine blk_drewN ?_ _ | refine blk_drew ?_ | refine blk_alloc ?_ _)); refine blk_far ?_ NB244_245.out _; (with_reducible repeat (first | refine blk_drewN ?_ _ | refine blk_drew ?_ | refine blk_alloc ?_ _)); refine blk_far ?_ NB244_245.out _; (with_reducible repeat (first | refine blk_drewN ?_ _ | refine blk_drew ?_ | refine blk_alloc ?_ _)); refine blk_put (cs := #[.int .i64 t236, .int .i64 t237, .int .i64 t238, .int .i64 0]) ?_ 3 _ rfl; (with_reducible repeat (first | refine blk_drewN ?_ _ | refine blk_drew ?_ | refine blk_alloc ?_ _)); refine blk_put (cs := #[.int .i64 t236, .int .i64 t237, .int .i64 0, .int .i64 0]) ?_ 2 _ rfl; (with_reducible repeat (first | refine blk_drewN ?_ _ | refine blk_drew ?_ | refine blk_alloc ?_ _)); refine blk_put (cs := #[.int .i64 t236, .int .i64 0, .int .i64 0, .int .i64 0]) ?_ 1 _ rfl; (with_reducible repeat (first | refine blk_drewN ?_ _ | refine blk_drew ?_ | refine blk_alloc ?_ _)); refine blk_put (cs := #[.int .i64 0, .int .i64 0, .int .i64 0, .int .i64 0]) ?_ 0 _ rfl; (with_reducible repeat (first | refine blk_drewN ?_ _ | refine blk_drew ?_ | refine blk_alloc ?_ _)); exact BK244.out⟩
           have n9_ : Aside0 (((((((((w73.setCell ⟨gb244, 0, none⟩ (.int .i64 t236)).setCell ⟨gb244, 1, none⟩ (.int .i64 t237)).setCell ⟨gb244, 2, none⟩ (.int .i64 t238)).setCell ⟨gb244, 3, none⟩ (.int .i64 t239)).setCell ⟨gb245, 0, none⟩ (.int .i64 t240)).setCell ⟨gb245, 1, none⟩ (.int .i64 t241)).setCell ⟨gb245, 2, none⟩ (.int .i64 t242)).setCell ⟨gb245, 3, none⟩ (.int .i64 t243)).heap[gb245]? = some (.cells #[.int .i64 t240, .int .i64 t241, .int .i64 t242, .int .i64 t243] 39 (0, 0))) := ⟨by (with_reducible repeat (first | refine blk_drewN ?_ _ | refine blk_drew ?_ | refine blk_alloc ?_ _)); refine blk_put (cs := #[.int .i64 t240, .int .i64 t241, .int .i64 t242, .int .i64 0]) ?_ 3 _ rfl; (with_reducible repeat (first | refine blk_drewN ?_ _ | refine blk_drew ?_ | refine blk_alloc ?_ _)); refine blk_put (cs := #[.int .i64 t240, .int .i64 t241, .int .i64 0, .int .i64 0]) ?_ 2 _ rfl; (with_reducible repeat (first | refine blk_drewN ?_ _ | refine blk_drew ?_ | refine blk_alloc ?_ _)); refine blk_put (cs := #[.int .i64 t240, .int .i64 0, .int .i64 0, .int .i64 0]) ?_ 1 _ rfl; (with_reducible repeat (first | refine blk_drewN ?_ _ | refine blk_drew ?_ | refine blk_alloc ?_ _)); refine blk_put (cs := #[.int .i64 0, .int .i64 0, .int .i64 0, .int .i64 0]) ?_ 0 _ rfl; (with_reducible repeat (first | refine blk_drewN ?_ _ | refine blk_drew ?_ | refine blk_alloc ?_ _)); refine blk_far ?_ NB245_244.out _; (with_reducible repeat (first | refine blk_drewN ?_ _ | refine blk_drew ?_ | refine blk_alloc ?_ _)); refine blk_far ?_ NB245_244.out _; (with_reducible repeat (first | refine blk_drewN ?_ _ | refine blk_drew ?_ | refine blk_alloc ?_ _)); refine blk_far ?_ NB245_244.out _; (with_reducible repeat (first | refine blk_drewN ?_ _ | refine blk_drew ?_ | refine blk_alloc ?_ _)); refine blk_far ?_ NB245_244.out _; (with_reducible repeat (first | refine blk_drewN ?_ _ | refine blk_drew ?_ | refine blk_alloc ?_ _)); exact BK245.out⟩
           have n10_ : Aside0 (Below w.heap.size w ((((((((w73.setCell ⟨gb244, 0, none⟩ (.int .i64 t236)).setCell ⟨gb244, 1, none⟩ (.int .i64 t237)).setCell ⟨gb244, 2, none⟩ (.int .i64 t238)).setCell ⟨gb244, 3, none⟩ (.int .i64 t239)).setCell ⟨gb245, 0, none⟩ (.int .i64 t240)).setCell ⟨gb245, 1, none⟩ (.int .i64 t241)).setCell ⟨gb245, 2, none⟩ (.int .i64 t242)).setCell ⟨gb245, 3, none⟩ (.int .i64 t243))) := ⟨blw HB.out⟩
           (try clear HO_10)
           (try clear HO230)
           (try clear HO234)
           (try clear BK213)
           (try clear BK214)
           (try clear BK225)
           (try clear BK226)
           (try clear BK235)
           (try clear BK244)
           (try clear BK245)
           (try clear HB)
           generalize ((((((((w73.setCell ⟨gb244, 0, none⟩ (.int .i64 t236)).setCell ⟨gb244, 1, none⟩ (.int .i64 t237)).setCell ⟨gb244, 2, none⟩ (.int .i64 t238)).setCell ⟨gb244, 3, none⟩ (.int .i64 t239)).setCell ⟨gb245, 0, none⟩ (.int .i64 t240)).setCell ⟨gb245, 1, none⟩ (.int .i64 t241)).setCell ⟨gb245, 2, none⟩ (.int .i64 t242)).setCell ⟨gb245, 3, none⟩ (.int .i64 t243)) = w87 at n0_ n1_ n2_ n3_ n4_ n5_ n6_ n7_ n8_ n9_ n10_ ⊢
           have HO_10 := n0_
           have HO230 := n1_
           have HO234 := n2_
           have BK213 := n3_
           have BK214 := n4_
           have BK225 := n5_
           have BK226 := n6_
           have BK235 := n7_
           have BK244 := n8_
           have BK245 := n9_
           have HB := n10_
           clear n0_ n1_ n2_ n3_ n4_ n5_ n6_ n7_ n8_ n9_ n10_
           replace HO_10 := Aside0.mk (Kd.R_drew HO_10.out)
           replace HO230 := Aside0.mk (Kd.R_drew HO230.out)
           replace HO234 := Aside0.mk (Kd.R_drew HO234.out)
           replace BK213 := Aside0.mk (blk_drew BK213.out)
           replace BK214 := Aside0.mk (blk_drew BK214.out)
           replace BK225 := Aside0.mk (blk_drew BK225.out)
           replace BK226 := Aside0.mk (blk_drew BK226.out)
           replace BK235 := Aside0.mk (blk_drew BK235.out)
           replace BK244 := Aside0.mk (blk_drew BK244.out)
           replace BK245 := Aside0.mk (blk_drew BK245.out)
           replace HB := Aside0.mk (below_drew1 HB.out)
           have p246 : 0 ≤ (x53_2 : Int) := of_decide_eq_true (by first | (with_reducible assumption) | assumption)
           have q246 : x53_2 < (l1_5.length : Int) := of_decide_eq_true (by first | (with_reducible assumption) | assumption)
           obtain ⟨ad246, e246, hx246_0⟩ := Kd.at_int HR1_5.out x53_2 p246 q246
           have hw246_0 := hx246_0
           obtain rfl : ad227 = ad246 := (by injection e246)
           replace hx246_0 := (HB.out.cell (World.block_lt_of_cell? w _ hx246_0)).trans hx246_0
           replace p246 := eq_true p246
           replace q246 := eq_true q246
           refine start_ (n := 19) (S := fun w' => w'.cell? ⟨gb214, 0, none⟩ = some (.int .i64 a1_0) ∧ w'.cell? ⟨gb214, 1, none⟩ = some (.slice A1_1 l1_1.length c1_1) ∧ w'.cell? ⟨gb214, 2, none⟩ = some (.slice A1_2 l1_2.length c1_2) ∧ w'.cell? ⟨gb214, 3, none⟩ = some (.slice A1_3 l1_3.length c1_3) ∧ w'.cell? ⟨gb214, 4, none⟩ = some (.slice A1_4 l1_4.length c1_4) ∧ w'.cell? ⟨gb214, 5, none⟩ = some (.slice (some ad227) l1_5.length c1_5) ∧ w'.cell? ⟨gb245, 0, none⟩ = some (.int .i64 t240) ∧ w'.cell? ⟨gb245, 1, none⟩ = some (.int .i64 t241) ∧ w'.cell? ⟨gb245, 2, none⟩ = some (.int .i64 t242) ∧ w'.cell? ⟨gb245, 3, none⟩ = some (.int .i64 t243) ∧ w'.cell? (ad227.add (x53_2).toNat) = some (.int .u8 (rd l1_5 x53_2))) (ds := []) #[N,N,N,N,N,N,N,N,N,N,N,N,N,N,N,N,N,N,N] (by kernel_rfl) rfl rfl ⟨bc BK214 0, bc BK214 1, bc BK214 2, bc BK214 3, bc BK214 4, bc BK214 5, bc BK245 0, bc BK245 1, bc BK245 2, bc BK245 3, ((HB.out.cell (World.block_lt_of_cell? w _ hw246_0)).trans hw246_0)⟩ (fun hHeld => ?_); refine with_tabW fastilaw29_BearingReports.tab13 fastilaw29_BearingReports.bits13 (fun HT_ HW_ => ?_)
           generalize w87.drew = w88 at HO_10 HO230 HO234 BK213 BK214 BK225 BK226 BK235 BK244 BK245 HB hx246_0 hHeld ⊢
           refine pureA (i := 0) (N := some 79) #[Y,N,N,N,N,N,N,N,N,N,N,N,N,N,N,N,N,N,N] (any_of HT_.out (by kernel_rfl)) ?_
           refine pureA (i := 1) (N := some 80) #[Y,Y,N,N,N,N,N,N,N,N,N,N,N,N,N,N,N,N,N] (any_of HT_.out (by kernel_rfl)) ?_
           refine pureA (i := 2) (N := some 81) #[Y,Y,Y,N,N,N,N,N,N,N,N,N,N,N,N,N,N,N,N] (any_of HT_.out (by kernel_rfl)) ?_
           refine pureA (i := 4) (N := some 83) #[Y,Y,Y,N,Y,N,N,N,N,N,N,N,N,N,N,N,N,N,N] (any_of HT_.out (by kernel_rfl)) ?_
           refine pureA (i := 9) (N := some 88) #[Y,Y,Y,N,Y,N,N,N,N,Y,N,N,N,N,N,N,N,N,N] (any_of HT_.out (by kernel_rfl)) ?_
           refine pureA (i := 10) (N := some 89) #[Y,Y,Y,N,Y,N,N,N,N,Y,Y,N,N,N,N,N,N,N,N] (any_of HT_.out (by kernel_rfl)) ?_
           refine pureA (i := 11) (N := some 90) #[Y,Y,Y,N,Y,N,N,N,N,Y,Y,Y,N,N,N,N,N,N,N] (any_of HT_.out (by kernel_rfl)) ?_
           refine pureA (i := 13) (N := some 92) #[Y,Y,Y,N,Y,N,N,N,N,Y,Y,Y,N,Y,N,N,N,N,N] (any_of HT_.out (by kernel_rfl)) ?_
           refine take_ (i := 3) (N := some 82) (v := ?_) (a' := ?_) #[Y,Y,Y,Y,Y,N,N,N,N,Y,Y,Y,N,Y,N,N,N,N,N] rfl rfl (take_ofW HT_.out HW_.out (by kernel_rfl)) (fun _ _ _ h => h) (Or.inl ⟨by rfl, ?_⟩) hHeld ?_ ?_
           rotate_left
           ·rintro w' ⟨s0, s1, s2, s3, s4, s5, s6, s7, s8, s9, s10⟩
            go_simp
            with_reducible rfl
           rotate_left
           ·simp only [Act.put, List.setIfInBounds_toArray, List.set_cons_zero, List.set_cons_succ, i64_w, i32_w]
            rfl
           refine pureA (i := 5) (N := some 84) #[Y,Y,Y,Y,Y,Y,N,N,N,Y,Y,Y,N,Y,N,N,N,N,N] (any_of HT_.out (by kernel_rfl)) ?_
           refine take_ (i := 6) (N := some 85) (v := ?_) (a' := ?_) #[Y,Y,Y,Y,Y,Y,Y,N,N,Y,Y,Y,N,Y,N,N,N,N,N] rfl rfl (take_ofW HT_.out HW_.out (by kernel_rfl)) (fun _ _ _ h => h) (Or.inl ⟨by rfl, ?_⟩) hHeld ?_ ?_
           rotate_left
           ·rintro w' ⟨s0, s1, s2, s3, s4, s5, s6, s7, s8, s9, s10⟩
            go_simp
            with_reducible rfl
           rotate_left
           ·simp only [Act.put, List.setIfInBounds_toArray, List.set_cons_zero, List.set_cons_succ, i64_w, i32_w]
            rfl
           refine pureA (i := 7) (N := some 86) #[Y,Y,Y,Y,Y,Y,Y,Y,N,Y,Y,Y,N,Y,N,N,N,N,N] (any_of HT_.out (by kernel_rfl)) ?_
           refine pureA (i := 8) (N := some 87) #[Y,Y,Y,Y,Y,Y,Y,Y,Y,Y,Y,Y,N,Y,N,N,N,N,N] (any_of HT_.out (by kernel_rfl)) ?_
           refine take_ (i := 12) (N := some 91) (v := ?_) (a' := ?_) #[Y,Y,Y,Y,Y,Y,Y,Y,Y,Y,Y,Y,Y,Y,N,N,N,N,N] rfl rfl (take_ofW HT_.out HW_.out (by kernel_rfl)) (fun _ _ _ h => h) (Or.inl ⟨by rfl, ?_⟩) hHeld ?_ ?_
           rotate_left
           ·rintro w' ⟨s0, s1, s2, s3, s4, s5, s6, s7, s8, s9, s10⟩
            go_simp
            with_reducible rfl
           rotate_left
           ·simp only [Act.put, List.setIfInBounds_toArray, List.set_cons_zero, List.set_cons_succ, i64_w, i32_w]
            rfl
           refine take_ (i := 14) (N := some 93) (v := ?_) (a' := ?_) #[Y,Y,Y,Y,Y,Y,Y,Y,Y,Y,Y,Y,Y,Y,Y,N,N,N,N] rfl rfl (take_ofW HT_.out HW_.out (by kernel_rfl)) (fun _ _ _ h => h) (Or.inl ⟨by rfl, ?_⟩) hHeld ?_ ?_
           rotate_left
           ·rintro w' ⟨s0, s1, s2, s3, s4, s5, s6, s7, s8, s9, s10⟩
            go_simp
            with_reducible rfl
           rotate_left
           ·simp only [Act.put, List.setIfInBounds_toArray, List.set_cons_zero, List.set_cons_succ, i64_w, i32_w]
            rfl
           refine pureA (i := 15) (N := some 94) #[Y,Y,Y,Y,Y,Y,Y,Y,Y,Y,Y,Y,Y,Y,Y,Y,N,N,N] (any_of HT_.out (by kernel_rfl)) ?_
           refine one_ (i := 16) (N := some 95) #[Y,Y,Y,Y,Y,Y,Y,Y,Y,Y,Y,Y,Y,Y,Y,Y,Y,N,N] rfl rfl (one_of HT_.out (by kernel_rfl)) (by decide) (fun K hK => ?_)
           refine value_ (w1 := ?_) (v := ?_) (by rfl) rfl ?_ ?_
           rotate_left 2
           ·go_simp
            constructor
            ·rfl
            ·rfl
           refine hK.out _ _ ⟨(blk_cell (blk_alloc BK214.out _) 0).trans rfl, (blk_cell (blk_alloc BK214.out _) 1).trans rfl, (blk_cell (blk_alloc BK214.out _) 2).trans rfl, (blk_cell (blk_alloc BK214.out _) 3).trans rfl, (blk_cell (blk_alloc BK214.out _) 4).trans rfl, (blk_cell (blk_alloc BK214.out _) 5).trans rfl, (blk_cell (blk_alloc BK245.out _) 0).trans rfl, (blk_cell (blk_alloc BK245.out _) 1).trans rfl, (blk_cell (blk_alloc BK245.out _) 2).trans rfl, (blk_cell (blk_alloc BK245.out _) 3).trans rfl, (World.cell?_alloc_lt _ _ _ (World.block_lt_of_cell? _ _ (((HB.out.cell (World.block_lt_of_cell? w _ hw246_0)).trans hw246_0)))).trans (((HB.out.cell (World.block_lt_of_cell? w _ hw246_0)).trans hw246_0))⟩ (fun hHeld => ?_)
           clear hK K
           refine norm_ (a' := ?_) ?_ ?_
           rotate_left
           ·show Act.put _ (some 95) _ = _
            simp only [Act.put, List.setIfInBounds_toArray, List.set_cons_zero, List.set_cons_succ, i64_w, i32_w]
            rfl
           refine one_ (i := 17) (N := some 96) #[Y,Y,Y,Y,Y,Y,Y,Y,Y,Y,Y,Y,Y,Y,Y,Y,Y,Y,N] rfl rfl (one_of HT_.out (by kernel_rfl)) (by decide) (fun K hK => ?_)
           refine Kd.R_append_step k41 (w0 := w) w.heap.size (by rfl) (.tmp 79) (.tmp 95) 29 41 (.agg #[(.int .i64 0), (.int .i64 0), (.int .i64 0), (.int .i64 0), (.int .i64 0), (.int .i64 0), (.int .i64 0), (.int .i64 0), (.int .i64 0)]) 72 rfl Try.underlying29 info41 rfl (by decide) (by omega) u10 x10_2 (⟨x53_2, Int.tmod (wrap64 (rd l1_5 x53_2)) 3, 2, 9, wrap64 (100 * x53_2), (⟨t240, t241⟩ : S27), (⟨t242, t243⟩ : S27)⟩ : S41) [.int .i64 x53_2, .int .i64 (Int.tmod (wrap64 (rd l1_5 x53_2)) 3), .int .i64 2, .int .i64 9, .int .i64 (wrap64 (100 * x53_2)), .int .i64 t240, .int .i64 t241, .int .i64 t242, .int .i64 t243] (fun _ => True) (fun _ => False) rfl rfl ?aP (fun _ hk => hk.elim) ?aF ?aO ?aB ?aS ?aL ?_
           (case aP => exact k41_mkM _ _ _ (⟨x53_2, Int.tmod (wrap64 (rd l1_5 x53_2)) 3, 2, 9, wrap64 (100 * x53_2), (⟨t240, t241⟩ : S27), (⟨t242, t243⟩ : S27)⟩ : S41))
           (case aB => exact (blw HB.out))
           (case aF => exact (fun _ _ => trivial))
           (case aO => exact (rmv HO_10.out))
           (case aS => exact (below_size (blw HB.out)))
           (case aL => have := LMc48.out; omega)
           intro v248 w89 ho hb hg hat
           rw [← Ny247.out] at ho
           replace BK213 := Aside0.mk (blk_grown (g := gb213) (o := .cells #[.string a0_0, .string a0_1, .int .i64 a0_2, .int .i64 a0_3, .int .i64 a0_4, .int .i64 a0_5, .int .i64 a0_6] 25 (0, 0)) (zk BK213.out) hg (Kd.R_ne HO_10.out BK213.out (by decide)))
           replace BK214 := Aside0.mk (blk_grown (g := gb214) (o := .cells #[.int .i64 a1_0, .slice A1_1 l1_1.length c1_1, .slice A1_2 l1_2.length c1_2, .slice A1_3 l1_3.length c1_3, .slice A1_4 l1_4.length c1_4, .slice (some ad227) l1_5.length c1_5] 57 (0, 0)) (zk BK214.out) hg (Kd.R_ne HO_10.out BK214.out (by decide)))
           replace BK225 := Aside0.mk (blk_grown (g := gb225) (o := .cells #[.int .i64 t217, .int .i64 t218, .int .i64 t219, .int .i64 t220] 39 (0, 0)) (zk BK225.out) hg (Kd.R_ne HO_10.out BK225.out (by decide)))
           replace BK226 := Aside0.mk (blk_grown (g := gb226) (o := .cells #[.int .i64 t221, .int .i64 t222, .int .i64 t223, .int .i64 t224] 39 (0, 0)) (zk BK226.out) hg (Kd.R_ne HO_10.out BK226.out (by decide)))
           replace HO230 := Aside0.mk (Kd.R_over' (rmv HO230.out) (Kd.R_typed (rmv HO_10.out)) (by decide) hg)
           replace HO234 := Aside0.mk (Kd.R_over' (rmv HO234.out) (Kd.R_typed (rmv HO_10.out)) (by decide) hg)
           replace BK235 := Aside0.mk (blk_grown (g := gb235) (o := .cells #[.int .i64 0, .slice A1_1 l1_1.length c1_1, .slice A1_2 l1_2.length c1_2, .slice Ao59 y228.length co59, .slice Ao58 y232.length co58, .slice none 0 0] 57 (0, 0)) (zk BK235.out) hg (Kd.R_ne HO_10.out BK235.out (by decide)))
           replace BK244 := Aside0.mk (blk_grown (g := gb244) (o := .cells #[.int .i64 t236, .int .i64 t237, .int .i64 t238, .int .i64 t239] 39 (0, 0)) (zk BK244.out) hg (Kd.R_ne HO_10.out BK244.out (by decide)))
           replace BK245 := Aside0.mk (blk_grown (g := gb245) (o := .cells #[.int .i64 t240, .int .i64 t241, .int .i64 t242, .int .i64 t243] 39 (0, 0)) (zk BK245.out) hg (Kd.R_ne HO_10.out BK245.out (by decide)))
           replace HB := Aside0.mk (hb)
           have HO249 := Aside0.mk (ho)
           clear HO_10 ho hb hg hat
           refine hK.out _ _ ⟨bc BK214 0, bc BK214 1, bc BK214 2, bc BK214 3, bc BK214 4, bc BK214 5, bc BK245 0, bc BK245 1, bc BK245 2, bc BK245 3, ((HB.out.cell (World.block_lt_of_cell? w _ hw246_0)).trans hw246_0)⟩ (fun hHeld => ?_)
           clear hK K
           refine norm_ (a' := ?_) ?_ ?_
           rotate_left
           ·show Act.put _ (some 96) _ = _
            simp only [Act.put, List.setIfInBounds_toArray, List.set_cons_zero, List.set_cons_succ, i64_w, i32_w]
            rfl
           refine pureA (i := 18) (N := some 10) #[Y,Y,Y,Y,Y,Y,Y,Y,Y,Y,Y,Y,Y,Y,Y,Y,Y,Y,Y] (any_of HT_.out (by kernel_rfl)) ?_
           refine done_ (done_of HT_.out (by kernel_rfl)) ?_
           try go_wp2
           go_roundg k2
           case measure => have := HJ5.out; have := HK2.out; omega
           case rel => exact ⟨(y247), (wrap64 (x53_2 + 1)), (by first | rfl | (simp; done) | (simp [*]; done)), H', ⟨by have := HJ5.out; have := HK2.out; omega⟩, ⟨rmv HO249.out⟩, ⟨zk BK213.out⟩, ⟨zk BK214.out⟩, ⟨zk BK225.out⟩, ⟨zk BK226.out⟩, ⟨blw HB.out⟩⟩
          ·rw [if_neg c48] at H
           exact absurd H (by simp)
         ·rw [if_neg c46] at H
          exact absurd H (by simp)
        ·rw [if_neg c45] at H
         exact absurd H (by simp)
       ·rw [if_neg c44] at H
        have c44b0 : decide (x53_2 < (l1_5.length : Int)) = false := decide_eq_false c44
        clear c44
        replace H := Option.bind_eq_some_iff.mp H
        obtain ⟨⟨t250, t251, t252, t253, t254, t255⟩, A900, H⟩ := H
        replace H : (if t255 = 0 then ((turf_Run.f a0_0 a0_1 a0_2 a0_3 a0_4 a0_5 a0_6 a1_0 a1_0 (([(⟨(⟨t217, t218⟩ : S27), (⟨t219, t220⟩ : S27)⟩ : S39)] : List (S39))) (([1] : List Int))).bind fun bt264 => ((turf_Run.f a0_0 a0_1 a0_2 a0_3 a0_4 a0_5 a0_6 a1_0 a1_0 (([(⟨(⟨t250, t251⟩ : S27), (⟨t252, t253⟩ : S27)⟩ : S39)] : List (S39))) (([1] : List Int))).bind fun bt274 => (if bt264.2 = 0 then (if bt274.2 = 0 then (if (bt264.1.length : Int) = 1 then (fastilaw29_BearingReports.j2 k2 bt264.1 bt274.1 ((bt274.1.length : Int) != 1) a0_0 a0_1 a0_2 a0_3 a0_4 a0_5 a0_6) else (fastilaw29_BearingReports.j2 k2 bt264.1 bt274.1 true a0_0 a0_1 a0_2 a0_3 a0_4 a0_5 a0_6)) else (fastilaw29_BearingReports.j2 k2 bt264.1 bt274.1 true a0_0 a0_1 a0_2 a0_3 a0_4 a0_5 a0_6)) else (fastilaw29_BearingReports.j2 k2 bt264.1 bt274.1 true a0_0 a0_1 a0_2 a0_3 a0_4 a0_5 a0_6)))) else (none)) = some r := H
        have A90 := Aside0.mk A900
        clear A900
        by_cases c91 : t255 = 0
        ·rw [if_pos c91] at H
         have c91b0 : (t255 == 0) = true := beq_iff_eq.mpr c91
         have c91b1 : (t255 != 0) = false := bne_eq_false_iff_eq.mpr c91
         clear c91
         obtain ⟨y258, hy258⟩ : ∃ y_ : List (S39), y_ = (([(⟨(⟨t217, t218⟩ : S27), (⟨t219, t220⟩ : S27)⟩ : S39)] : List (S39))) := ⟨_, rfl⟩
         replace H : ((turf_Run.f a0_0 a0_1 a0_2 a0_3 a0_4 a0_5 a0_6 a1_0 a1_0 y258 (([1] : List Int))).bind fun bt264 => ((turf_Run.f a0_0 a0_1 a0_2 a0_3 a0_4 a0_5 a0_6 a1_0 a1_0 (([(⟨(⟨t250, t251⟩ : S27), (⟨t252, t253⟩ : S27)⟩ : S39)] : List (S39))) (([1] : List Int))).bind fun bt274 => (if bt264.2 = 0 then (if bt274.2 = 0 then (if (bt264.1.length : Int) = 1 then (fastilaw29_BearingReports.j2 k2 bt264.1 bt274.1 ((bt274.1.length : Int) != 1) a0_0 a0_1 a0_2 a0_3 a0_4 a0_5 a0_6) else (fastilaw29_BearingReports.j2 k2 bt264.1 bt274.1 true a0_0 a0_1 a0_2 a0_3 a0_4 a0_5 a0_6)) else (fastilaw29_BearingReports.j2 k2 bt264.1 bt274.1 true a0_0 a0_1 a0_2 a0_3 a0_4 a0_5 a0_6)) else (fastilaw29_BearingReports.j2 k2 bt264.1 bt274.1 true a0_0 a0_1 a0_2 a0_3 a0_4 a0_5 a0_6)))) = some r := by first | (rw [hy258]; with_reducible exact H) | (have H2_ := (Option.bind_some _ _).symm.trans H; rw [hy258]; with_reducible exact H2_) | (have H2_ := (Option.bind_some _ _).symm.trans H; with_reducible exact H2_) | with_reducible exact H | (rw [hy258]; exact H) | exact H
         have Ny258 := Aside0.mk hy258
         clear hy258
         obtain ⟨y261, hy261⟩ : ∃ y_ : List Int, y_ = (([1] : List Int)) := ⟨_, rfl⟩
         replace H : ((turf_Run.f a0_0 a0_1 a0_2 a0_3 a0_4 a0_5 a0_6 a1_0 a1_0 y258 y261).bind fun bt264 => ((turf_Run.f a0_0 a0_1 a0_2 a0_3 a0_4 a0_5 a0_6 a1_0 a1_0 (([(⟨(⟨t250, t251⟩ : S27), (⟨t252, t253⟩ : S27)⟩ : S39)] : List (S39))) (([1] : List Int))).bind fun bt274 => (if bt264.2 = 0 then (if bt274.2 = 0 then (if (bt264.1.length : Int) = 1 then (fastilaw29_BearingReports.j2 k2 bt264.1 bt274.1 ((bt274.1.length : Int) != 1) a0_0 a0_1 a0_2 a0_3 a0_4 a0_5 a0_6) else (fastilaw29_BearingReports.j2 k2 bt264.1 bt274.1 true a0_0 a0_1 a0_2 a0_3 a0_4 a0_5 a0_6)) else (fastilaw29_BearingReports.j2 k2 bt264.1 bt274.1 true a0_0 a0_1 a0_2 a0_3 a0_4 a0_5 a0_6)) else (fastilaw29_BearingReports.j2 k2 bt264.1 bt274.1 true a0_0 a0_1 a0_2 a0_3 a0_4 a0_5 a0_6)))) = some r := by first | (rw [hy261]; with_reducible exact H) | (have H2_ := (Option.bind_some _ _).symm.trans H; rw [hy261]; with_reducible exact H2_) | (have H2_ := (Option.bind_some _ _).symm.trans H; with_reducible exact H2_) | with_reducible exact H | (rw [hy261]; exact H) | exact H
         have Ny261 := Aside0.mk hy261
         clear hy261
         replace H := Option.bind_eq_some_iff.mp H
         obtain ⟨⟨t264, t267⟩, A920, H⟩ := H
         replace H : ((turf_Run.f a0_0 a0_1 a0_2 a0_3 a0_4 a0_5 a0_6 a1_0 a1_0 (([(⟨(⟨t250, t251⟩ : S27), (⟨t252, t253⟩ : S27)⟩ : S39)] : List (S39))) (([1] : List Int))).bind fun bt274 => (if t267 = 0 then (if bt274.2 = 0 then (if (t264.length : Int) = 1 then (fastilaw29_BearingReports.j2 k2 t264 bt274.1 ((bt274.1.length : Int) != 1) a0_0 a0_1 a0_2 a0_3 a0_4 a0_5 a0_6) else (fastilaw29_BearingReports.j2 k2 t264 bt274.1 true a0_0 a0_1 a0_2 a0_3 a0_4 a0_5 a0_6)) else (fastilaw29_BearingReports.j2 k2 t264 bt274.1 true a0_0 a0_1 a0_2 a0_3 a0_4 a0_5 a0_6)) else (fastilaw29_BearingReports.j2 k2 t264 bt274.1 true a0_0 a0_1 a0_2 a0_3 a0_4 a0_5 a0_6))) = some r := H
         have A92 := Aside0.mk A920
         clear A920
         obtain ⟨y268, hy268⟩ : ∃ y_ : List (S39), y_ = (([(⟨(⟨t250, t251⟩ : S27), (⟨t252, t253⟩ : S27)⟩ : S39)] : List (S39))) := ⟨_, rfl⟩
         replace H : ((turf_Run.f a0_0 a0_1 a0_2 a0_3 a0_4 a0_5 a0_6 a1_0 a1_0 y268 (([1] : List Int))).bind fun bt274 => (if t267 = 0 then (if bt274.2 = 0 then (if (t264.length : Int) = 1 then (fastilaw29_BearingReports.j2 k2 t264 bt274.1 ((bt274.1.length : Int) != 1) a0_0 a0_1 a0_2 a0_3 a0_4 a0_5 a0_6) else (fastilaw29_BearingReports.j2 k2 t264 bt274.1 true a0_0 a0_1 a0_2 a0_3 a0_4 a0_5 a0_6)) else (fastilaw29_BearingReports.j2 k2 t264 bt274.1 true a0_0 a0_1 a0_2 a0_3 a0_4 a0_5 a0_6)) else (fastilaw29_BearingReports.j2 k2 t264 bt274.1 true a0_0 a0_1 a0_2 a0_3 a0_4 a0_5 a0_6))) = some r := by first | (rw [hy268]; with_reducible exact H) | (have H2_ := (Option.bind_some _ _).symm.trans H; rw [hy268]; with_reducible exact H2_) | (have H2_ := (Option.bind_some _ _).symm.trans H; with_reducible exact H2_) | with_reducible exact H | (rw [hy268]; exact H) | exact H
         have Ny268 := Aside0.mk hy268
         clear hy268
         obtain ⟨y271, hy271⟩ : ∃ y_ : List Int, y_ = (([1] : List Int)) := ⟨_, rfl⟩
         replace H : ((turf_Run.f a0_0 a0_1 a0_2 a0_3 a0_4 a0_5 a0_6 a1_0 a1_0 y268 y271).bind fun bt274 => (if t267 = 0 then (if bt274.2 = 0 then (if (t264.length : Int) = 1 then (fastilaw29_BearingReports.j2 k2 t264 bt274.1 ((bt274.1.length : Int) != 1) a0_0 a0_1 a0_2 a0_3 a0_4 a0_5 a0_6) else (fastilaw29_BearingReports.j2 k2 t264 bt274.1 true a0_0 a0_1 a0_2 a0_3 a0_4 a0_5 a0_6)) else (fastilaw29_BearingReports.j2 k2 t264 bt274.1 true a0_0 a0_1 a0_2 a0_3 a0_4 a0_5 a0_6)) else (fastilaw29_BearingReports.j2 k2 t264 bt274.1 true a0_0 a0_1 a0_2 a0_3 a0_4 a0_5 a0_6))) = some r := by first | (rw [hy271]; with_reducible exact H) | (have H2_ := (Option.bind_some _ _).symm.trans H; rw [hy271]; with_reducible exact H2_) | (have H2_ := (Option.bind_some _ _).symm.trans H; with_reducible exact H2_) | with_reducible exact H | (rw [hy271]; exact H) | exact H
         have Ny271 := Aside0.mk hy271
         clear hy271
         replace H := Option.bind_eq_some_iff.mp H
         obtain ⟨⟨t274, t277⟩, A930, H⟩ := H
         replace H : (if t267 = 0 then (if t277 = 0 then (if (t264.length : Int) = 1 then (fastilaw29_BearingReports.j2 k2 t264 t274 ((t274.length : Int) != 1) a0_0 a0_1 a0_2 a0_3 a0_4 a0_5 a0_6) else (fastilaw29_BearingReports.j2 k2 t264 t274 true a0_0 a0_1 a0_2 a0_3 a0_4 a0_5 a0_6)) else (fastilaw29_BearingReports.j2 k2 t264 t274 true a0_0 a0_1 a0_2 a0_3 a0_4 a0_5 a0_6)) else (fastilaw29_BearingReports.j2 k2 t264 t274 true a0_0 a0_1 a0_2 a0_3 a0_4 a0_5 a0_6)) = some r := H
         have A93 := Aside0.mk A930
         clear A930
         have HC94 := Aside0.mk H
         clear H
         obtain ⟨Ao95, co95, eo95⟩ := Kd.R_slice HO_10.out
         subst eo95
         go_upto_region 21 with (first | ((with_reducible refine gate_callee (f := 15) rfl ?_); refine goesL_ (some 102) rfl rfl Try.func15 (by kernel_rfl) rfl #[.slice Ao95 x10_2.length co95, .int .i64 2, .int .i64 9, .int .i64 (wrap64 (a2))] rfl (by (try simp only [List.map_toArray, List.map_cons, List.map_nil]); first | done | rfl | (simp only [List.length_drop, List.length_take]; rfl)) ?_; (with_reducible refine (weather_Of.calls _ _ x10_2 2 9 (wrap64 (a2)) t250 t251 t252 t253 t254 t255 _ ?side1 ?side2 A90.out).mono ?_); (case side1 => repeat (first | exact (Kd.R_reads' HO_10.out).2.2 | (with_reducible refine Kd.C_alloc ?_ _) | (with_reducible refine Kd.C_drewN ?_ _) | (with_reducible refine Kd.C_drew ?_))); (case side2 => exact (Kd.R_reads' HO_10.out).2.1); rintro e w96 ⟨rfl, hb⟩; refine ⟨_, rfl, ?_⟩; replace HO_10 := Aside0.mk (Kd.R_below (rmv HO_10.out) hb); replace BK213 := Aside0.mk (zb BK213.out hb); replace BK214 := Aside0.mk (zb BK214.out hb); replace BK225 := Aside0.mk (zb BK225.out hb); replace BK226 := Aside0.mk (zb BK226.out hb); replace HB := Aside0.mk (below_step (blw HB.out) hb); (try clear hb); (try clear hb2); (try clear hk); (try clear hi)) | ((with_reducible refine gate_dst (N := 15) rfl ?_); (try (refine gate_guard (by rfl) ?_; dsimp only)); refine box_event ?hg (N := 15) ?hd (cs := #[.int .i64 0, .int .i64 0, .int .i64 0, .int .i64 0]) (t := 39) ?hr ?_; (case hd => rfl); (case hg => rfl); (case hr => first | (go_simp; done) | (go_simp; rfl)); intro gb256 hg w97 hbox hb; replace HO_10 := Aside0.mk (Kd.R_below (rmv HO_10.out) hb); have BK256 := Aside0.mk (hbox); have GW256 := Aside0.mk ((by rw [hg]; exact (below_size (blw HB.out)) : w.heap.size ≤ gb256)); have GE256 := Aside0.mk ((by rw [hg]; exact (below_size (blw HB.out)) : w.heap.size ≤ gb256)); replace HB := Aside0.mk (below_step (blw HB.out) hb); have NB213_256 := Aside0.mk ((by rw [hg]; exact Nat.ne_of_lt (blk_lt (zk BK213.out)) : gb213 ≠ gb256)); have NB256_213 := Aside0.mk ((by rw [hg]; exact Nat.ne_of_gt (blk_lt (zk BK213.out)) : gb256 ≠ gb213)); replace BK213 := Aside0.mk (zb BK213.out hb); have NB214_256 := Aside0.mk ((by rw [hg]; exact Nat.ne_of_lt (blk_lt (zk BK214.out)) : gb214 ≠ gb256)); have NB256_214 := Aside0.mk ((by rw [hg]; exact Nat.ne_of_gt (blk_lt (zk BK214.out)) : gb256 ≠ gb214)); replace BK214 := Aside0.mk (zb BK214.out hb); have NB225_256 := Aside0.mk ((by rw [hg]; exact Nat.ne_of_lt (blk_lt (zk BK225.out)) : gb225 ≠ gb256)); have NB256_225 := Aside0.mk ((by rw [hg]; exact Nat.ne_of_gt (blk_lt (zk BK225.out)) : gb256 ≠ gb225)); replace BK225 := Aside0.mk (zb BK225.out hb); have NB226_256 := Aside0.mk ((by rw [hg]; exact Nat.ne_of_lt (blk_lt (zk BK226.out)) : gb226 ≠ gb256)); have NB256_226 := Aside0.mk ((by rw [hg]; exact Nat.ne_of_gt (blk_lt (zk BK226.out)) : gb256 ≠ gb226)); replace BK226 := Aside0.mk (zb BK226.out hb); clear hb hbox hg; have hnb98 := NB256_213.out; have hnc98 := NB213_256.out; have hnb99 := NB256_214.out; have hnc99 := NB214_256.out; have hnb100 := NB256_225.out; have hnc100 := NB225_256.out; have hnb101 := NB256_226.out; have hnc101 := NB226_256.out; have hcz102_0 : w97.cell? ⟨gb256, 0, none⟩ = some (.int .i64 0) := bc BK256 0; have hcz102_1 : w97.cell? ⟨gb256, 1, none⟩ = some (.int .i64 0) := bc BK256 1; have hcz102_2 : w97.cell? ⟨gb256, 2, none⟩ = some (.int .i64 0) := bc BK256 2; have hcz102_3 : w97.cell? ⟨gb256, 3, none⟩ = some (.int .i64 0) := bc BK256 3; have hfz102_0 := blk_frozen BK256.out 0; have hfz102_1 := blk_frozen BK256.out 1; have hfz102_2 := blk_frozen BK256.out 2; have hfz102_3 := blk_frozen BK256.out 3; have hnb103 := NB214_213.out; have hnc103 := NB213_214.out; have hnb104 := NB214_225.out; have hnc104 := NB225_214.out; have hnb105 := NB214_226.out; have hnc105 := NB226_214.out; have hcz106_0 : w97.cell? ⟨gb214, 0, none⟩ = some (.int .i64 a1_0) := bc BK214 0; have hcz106_1 : w97.cell? ⟨gb214, 1, none⟩ = some (.slice A1_1 l1_1.length c1_1) := bc BK214 1; have hcz106_2 : w97.cell? ⟨gb214, 2, none⟩ = some (.slice A1_2 l1_2.length c1_2) := bc BK214 2; have hcz106_3 : w97.cell? ⟨gb214, 3, none⟩ = some (.slice A1_3 l1_3.length c1_3) := bc BK214 3; have hcz106_4 : w97.cell? ⟨gb214, 4, none⟩ = some (.slice A1_4 l1_4.length c1_4) := bc BK214 4; have hcz106_5 : w97.cell? ⟨gb214, 5, none⟩ = some (.slice A1_5 l1_5.length c1_5) := bc BK214 5; have hfz106_0 := blk_frozen BK214.out 0; have hfz106_1 := blk_frozen BK214.out 1; have hfz106_2 := blk_frozen BK214.out 2; have hfz106_3 := blk_frozen BK214.out 3; have hfz106_4 := blk_frozen BK214.out 4; have hfz106_5 := blk_frozen BK214.out 5) | ((with_reducible refine gate_dst (N := 18) rfl ?_); (try (refine gate_guard (by rfl) ?_; dsimp only)); refine box_event ?hg (N := 18) ?hd (cs := #[.int .i64 0, .int .i64 0]) (t := 27) ?hr ?_; (case hd => rfl); (case hg => rfl); (case hr => first | (go_simp; done) | (go_simp; rfl)); intro gb257 hg w107 hbox hb; replace HO_10 := Aside0.mk (Kd.R_below (rfa (Kd.R_types HO_10.out BK256.out (by decide))) hb); have BK257 := Aside0.mk (hbox); have GW257 := Aside0.mk ((by rw [hg]; exact (below_size (blw HB.out)) : w.heap.size ≤ gb257)); have GE257 := Aside0.mk ((by rw [hg]; exact (below_size (blw HB.out)) : w.heap.size ≤ gb257)); replace HB := Aside0.mk (below_step (blw HB.out) hb); have NB213_257 := Aside0.mk ((by rw [hg]; exact Nat.ne_of_lt (blk_lt (g := gb213) (o := .cells #[.string a0_0, .string a0_1, .int .i64 a0_2, .int .i64 a0_3, .int .i64 a0_4, .int .i64 a0_5, .int .i64 a0_6] 25 (0, 0)) (zf BK213.out)) : gb213 ≠ gb257)); have NB257_213 := Aside0.mk ((by rw [hg]; exact Nat.ne_of_gt (blk_lt (g := gb213) (o := .cells #[.string a0_0, .string a0_1, .int .i64 a0_2, .int .i64 a0_3, .int .i64 a0_4, .int .i64 a0_5, .int .i64 a0_6] 25 (0, 0)) (zf BK213.out)) : gb257 ≠ gb213)); replace BK213 := Aside0.mk (zfb BK213.out hb); have NB214_257 := Aside0.mk ((by rw [hg]; exact Nat.ne_of_lt (blk_lt (g := gb214) (o := .cells #[.int .i64 a1_0, .slice A1_1 l1_1.length c1_1, .slice A1_2 l1_2.length c1_2, .slice A1_3 l1_3.length c1_3, .slice A1_4 l1_4.length c1_4, .slice A1_5 l1_5.length c1_5] 57 (0, 0)) (zf BK214.out)) : gb214 ≠ gb257)); have NB257_214 := Aside0.mk ((by rw [hg]; exact Nat.ne_of_gt (blk_lt (g := gb214) (o := .cells #[.int .i64 a1_0, .slice A1_1 l1_1.length c1_1, .slice A1_2 l1_2.length c1_2, .slice A1_3 l1_3.length c1_3, .slice A1_4 l1_4.length c1_4, .slice A1_5 l1_5.length c1_5] 57 (0, 0)) (zf BK214.out)) : gb257 ≠ gb214)); replace BK214 := Aside0.mk (zfb BK214.out hb); have NB225_257 := Aside0.mk ((by rw [hg]; exact Nat.ne_of_lt (blk_lt (g := gb225) (o := .cells #[.int .i64 t217, .int .i64 t218, .int .i64 t219, .int .i64 t220] 39 (0, 0)) (zf BK225.out)) : gb225 ≠ gb257)); have NB257_225 := Aside0.mk ((by rw [hg]; exact Nat.ne_of_gt (blk_lt (g := gb225) (o := .cells #[.int .i64 t217, .int .i64 t218, .int .i64 t219, .int .i64 t220] 39 (0, 0)) (zf BK225.out)) : gb257 ≠ gb225)); replace BK225 := Aside0.mk (zfb BK225.out hb); have NB226_257 := Aside0.mk ((by rw [hg]; exact Nat.ne_of_lt (blk_lt (g := gb226) (o := .cells #[.int .i64 t221, .int .i64 t222, .int .i64 t223, .int .i64 t224] 39 (0, 0)) (zf BK226.out)) : gb226 ≠ gb257)); have NB257_226 := Aside0.mk ((by rw [hg]; exact Nat.ne_of_gt (blk_lt (g := gb226) (o := .cells #[.int .i64 t221, .int .i64 t222, .int .i64 t223, .int .i64 t224] 39 (0, 0)) (zf BK226.out)) : gb257 ≠ gb226)); replace BK226 := Aside0.mk (zfb BK226.out hb); have NB256_257 := Aside0.mk ((by rw [hg]; exact Nat.ne_of_lt (blk_lt (g := gb256) (o := .cells #[.int .i64 t250, .int .i64 t251, .int .i64 t252, .int .i64 t253] 39 (0, 0)) (by (with_reducible repeat (first | refine blk_drewN ?_ _ | refine blk_drew ?_ | refine blk_alloc ?_ _)); refine blk_put (cs := #[.int .i64 t250, .int .i64 t251, .int .i64 t252, .int .i64 0]) ?_ 3 _ rfl; (with_reducible repeat (first | refine blk_drewN ?_ _ | refine blk_drew ?_ | refine blk_alloc ?_ _)); refine blk_put (cs := #[.int .i64 t250, .int .i64 t251, .int .i64 0, .int .i64 0]) ?_ 2 _ rfl; (with_reducible repeat (first | refine blk_drewN ?_ _ | refine blk_drew ?_ | refine blk_alloc ?_ _)); refine blk_put (cs := #[.int .i64 t250, .int .i64 0, .int .i64 0, .int .i64 0]) ?_ 1 _ rfl; (with_reducible repeat (first | refine blk_drewN ?_ _ | refine blk_drew ?_ | refine blk_alloc ?_ _)); refine blk_put (cs := #[.int .i64 0, .int .i64 0, .int .i64 0, .int .i64 0]) ?_ 0 _ rfl; (with_reducible repeat (first | refine blk_drewN ?_ _ | refine blk_drew ?_ | refine blk_alloc ?_ _)); exact BK256.out)) : gb256 ≠ gb257)); have NB257_256 := Aside0.mk ((by rw [hg]; exact Nat.ne_of_gt (blk_lt (g := gb256) (o := .cells #[.int .i64 t250, .int .i64 t251, .int .i64 t252, .int .i64 t253] 39 (0, 0)) (by (with_reducible repeat (first | refine blk_drewN ?_ _ | refine blk_drew ?_ | refine blk_alloc ?_ _)); refine blk_put (cs := #[.int .i64 t250, .int .i64 t251, .int .i64 t252, .int .i64 0]) ?_ 3 _ rfl; (with_reducible repeat (first | refine blk_drewN ?_ _ | refine blk_drew ?_ | refine blk_alloc ?_ _)); refine blk_put (cs := #[.int .i64 t250, .int .i64 t251, .int .i64 0, .int .i64 0]) ?_ 2 _ rfl; (with_reducible repeat (first | refine blk_drewN ?_ _ | refine blk_drew ?_ | refine blk_alloc ?_ _)); refine blk_put (cs := #[.int .i64 t250, .int .i64 0, .int .i64 0, .int .i64 0]) ?_ 1 _ rfl; (with_reducible repeat (first | refine blk_drewN ?_ _ | refine blk_drew ?_ | refine blk_alloc ?_ _)); refine blk_put (cs := #[.int .i64 0, .int .i64 0, .int .i64 0, .int .i64 0]) ?_ 0 _ rfl; (with_reducible repeat (first | refine blk_drewN ?_ _ | refine blk_drew ?_ | refine blk_alloc ?_ _)); exact BK256.out)) : gb257 ≠ gb256)); replace BK256 := Aside0.mk (blk_below (g := gb256) (o := .cells #[.int .i64 t250, .int .i64 t251, .int .i64 t252, .int .i64 t253] 39 (0, 0)) (by (with_reducible repeat (first | refine blk_drewN ?_ _ | refine blk_drew ?_ | refine blk_alloc ?_ _)); refine blk_put (cs := #[.int .i64 t250, .int .i64 t251, .int .i64 t252, .int .i64 0]) ?_ 3 _ rfl; (with_reducible repeat (first | refine blk_drewN ?_ _ | refine blk_drew ?_ | refine blk_alloc ?_ _)); refine blk_put (cs := #[.int .i64 t250, .int .i64 t251, .int .i64 0, .int .i64 0]) ?_ 2 _ rfl; (with_reducible repeat (first | refine blk_drewN ?_ _ | refine blk_drew ?_ | refine blk_alloc ?_ _)); refine blk_put (cs := #[.int .i64 t250, .int .i64 0, .int .i64 0, .int .i64 0]) ?_ 1 _ rfl; (with_reducible repeat (first | refine blk_drewN ?_ _ | refine blk_drew ?_ | refine blk_alloc ?_ _)); refine blk_put (cs := #[.int .i64 0, .int .i64 0, .int .i64 0, .int .i64 0]) ?_ 0 _ rfl; (with_reducible repeat (first | refine blk_drewN ?_ _ | refine blk_drew ?_ | refine blk_alloc ?_ _)); exact BK256.out) hb); clear hb hbox hg; have hnb108 := NB257_213.out; have hnc108 := NB213_257.out; have hnb109 := NB257_214.out; have hnc109 := NB214_257.out; have hnb110 := NB257_225.out; have hnc110 := NB225_257.out; have hnb111 := NB257_226.out; have hnc111 := NB226_257.out; have hnb112 := NB257_256.out; have hnc112 := NB256_257.out; have hcz113_0 : w107.cell? ⟨gb257, 0, none⟩ = some (.int .i64 0) := bc BK257 0; have hcz113_1 : w107.cell? ⟨gb257, 1, none⟩ = some (.int .i64 0) := bc BK257 1; have hfz113_0 := blk_frozen BK257.out 0; have hfz113_1 := blk_frozen BK257.out 1; have hnb114 := NB213_225.out; have hnc114 := NB225_213.out; have hnb115 := NB213_226.out; have hnc115 := NB226_213.out; have hcz116_0 : w107.cell? ⟨gb213, 0, none⟩ = some (.string a0_0) := bc BK213 0; have hcz116_1 : w107.cell? ⟨gb213, 1, none⟩ = some (.string a0_1) := bc BK213 1; have hcz116_2 : w107.cell? ⟨gb213, 2, none⟩ = some (.int .i64 a0_2) := bc BK213 2; have hcz116_3 : w107.cell? ⟨gb213, 3, none⟩ = some (.int .i64 a0_3) := bc BK213 3; have hcz116_4 : w107.cell? ⟨gb213, 4, none⟩ = some (.int .i64 a0_4) := bc BK213 4; have hcz116_5 : w107.cell? ⟨gb213, 5, none⟩ = some (.int .i64 a0_5) := bc BK213 5; have hcz116_6 : w107.cell? ⟨gb213, 6, none⟩ = some (.int .i64 a0_6) := bc BK213 6; have hfz116_0 := blk_frozen BK213.out 0; have hfz116_1 := blk_frozen BK213.out 1; have hfz116_2 := blk_frozen BK213.out 2; have hfz116_3 := blk_frozen BK213.out 3; have hfz116_4 := blk_frozen BK213.out 4; have hfz116_5 := blk_frozen BK213.out 5; have hfz116_6 := blk_frozen BK213.out 6; have hnb117 := NB225_226.out; have hnc117 := NB226_225.out; have hcz118_0 : w107.cell? ⟨gb225, 0, none⟩ = some (.int .i64 t217) := bc BK225 0; have hcz118_1 : w107.cell? ⟨gb225, 1, none⟩ = some (.int .i64 t218) := bc BK225 1; have hcz118_2 : w107.cell? ⟨gb225, 2, none⟩ = some (.int .i64 t219) := bc BK225 2; have hcz118_3 : w107.cell? ⟨gb225, 3, none⟩ = some (.int .i64 t220) := bc BK225 3; have hfz118_0 := blk_frozen BK225.out 0; have hfz118_1 := blk_frozen BK225.out 1; have hfz118_2 := blk_frozen BK225.out 2; have hfz118_3 := blk_frozen BK225.out 3) | ((with_reducible refine gate_dst (N := 117) rfl ?_); (try (refine gate_guard (by rfl) ?_; dsimp only)); refine Kd.R_lit k39 _ 39 ?hg (N := 117) ?hd (xs := ([(⟨(⟨t217, t218⟩ : S27), (⟨t219, t220⟩ : S27)⟩ : S39)] : List (S39))) (inner := [.int .i64 t217, .int .i64 t218, .int .i64 t219, .int .i64 t220]) (ok := fun _ => True) (okp := fun _ => True) ?hr ?hp (fun _ hk => hk) trivial (Below.refl _ _) (Nat.le_refl _) (by simp) ?_; (case hd => rfl); (case hg => rfl); (case hr => first | (go_simp; done) | (go_simp; rfl)); (case hp => exact (Reps.c4 (show Kd.M k39 _ _ _ (⟨(⟨t217, t218⟩ : S27), (⟨t219, t220⟩ : S27)⟩ : S39) [.int .i64 t217, .int .i64 t218, .int .i64 t219, .int .i64 t220] from (k39_mkM _ _ _ (⟨(⟨t217, t218⟩ : S27), (⟨t219, t220⟩ : S27)⟩ : S39) )) (Reps.none _ _))); intro v259 w119 ho120 hb hg_ hnew_; clear hg_ hnew_; (first | rw [← Ny258.out] at ho120 | (simp only [Int.reduceToNat] at ho120; rw [← Ny258.out] at ho120)); replace HO_10 := Aside0.mk (Kd.R_below (rfa (Kd.R_types HO_10.out BK257.out (by decide))) hb); have HO260 := Aside0.mk (Kd.R_lower (Kd.R_newB (Kd.R_newB (Kd.R_newB ho120 (g := gb225) (o := .cells #[.int .i64 t217, .int .i64 t218, .int .i64 t219, .int .i64 t220] 39 (0, 0)) (zf BK225.out)) (g := gb226) (o := .cells #[.int .i64 t221, .int .i64 t222, .int .i64 t223, .int .i64 t224] 39 (0, 0)) (zf BK226.out)) (g := gb256) (o := .cells #[.int .i64 t250, .int .i64 t251, .int .i64 t252, .int .i64 t253] 39 (0, 0)) (zf BK256.out)) (below_size (blw HB.out))); replace BK213 := Aside0.mk (zfb BK213.out hb); replace BK214 := Aside0.mk (zfb BK214.out hb); replace BK225 := Aside0.mk (zfb BK225.out hb); replace BK226 := Aside0.mk (zfb BK226.out hb); replace BK256 := Aside0.mk (zfb BK256.out hb); replace BK257 := Aside0.mk (blk_below (g := gb257) (o := .cells #[.int .i64 a1_0, .int .i64 a1_0] 27 (0, 0)) (by (with_reducible repeat (first | refine blk_drewN ?_ _ | refine blk_drew ?_ | refine blk_alloc ?_ _)); refine blk_put (cs := #[.int .i64 a1_0, .int .i64 0]) ?_ 1 _ rfl; (with_reducible repeat (first | refine blk_drewN ?_ _ | refine blk_drew ?_ | refine blk_alloc ?_ _)); refine blk_put (cs := #[.int .i64 0, .int .i64 0]) ?_ 0 _ rfl; (with_reducible repeat (first | refine blk_drewN ?_ _ | refine blk_drew ?_ | refine blk_alloc ?_ _)); exact BK257.out) hb); replace HB := Aside0.mk (below_step (blw HB.out) hb); clear hb ho120) | ((with_reducible refine gate_dst (N := 118) rfl ?_); (try (refine gate_guard (by rfl) ?_; dsimp only)); refine Kd.R_lit (Kd.int .i64) _ 3 ?hg (N := 118) ?hd (xs := ([1] : List Int)) (inner := [.int .i64 1]) (ok := fun _ => True) (okp := fun _ => True) ?hr ?hp (fun _ hk => hk) trivial (Below.refl _ _) (Nat.le_refl _) (by simp) ?_; (case hd => rfl); (case hg => rfl); (case hr => first | (go_simp; done) | (go_simp; rfl)); (case hp => exact (Reps.one (show Kd.M (Kd.int .i64) _ _ _ 1 [.int .i64 1] from rfl) (Reps.none _ _))); intro v262 w121 ho122 hb hg_ hnew_; clear hg_ hnew_; (first | rw [← Ny261.out] at ho122 | (simp only [Int.reduceToNat] at ho122; rw [← Ny261.out] at ho122)); replace HO_10 := Aside0.mk (Kd.R_below (rmv HO_10.out) hb); replace HO260 := Aside0.mk (Kd.R_below (rmv HO260.out) hb); have HO263 := Aside0.mk (Kd.R_lower ho122 (below_size (blw HB.out))); replace BK213 := Aside0.mk (zb BK213.out hb); replace BK214 := Aside0.mk (zb BK214.out hb); replace BK225 := Aside0.mk (zb BK225.out hb); replace BK226 := Aside0.mk (zb BK226.out hb); replace BK256 := Aside0.mk (zb BK256.out hb); replace BK257 := Aside0.mk (zb BK257.out hb); replace HB := Aside0.mk (below_step (blw HB.out) hb); clear hb ho122; obtain ⟨Ao123, co123, eo123⟩ := Kd.R_slice HO260.out; subst eo123; obtain ⟨Ao124, co124, eo124⟩ := Kd.R_slice HO263.out; subst eo124) | ((with_reducible refine gate_callee (f := 18) rfl ?_); refine goesL_ (some 119) rfl rfl Try.func18 (by kernel_rfl) rfl #[.agg #[.string a0_0, .string a0_1, .int .i64 a0_2, .int .i64 a0_3, .int .i64 a0_4, .int .i64 a0_5, .int .i64 a0_6], .agg #[.int .i64 a1_0, .int .i64 a1_0], .slice Ao123 y258.length co123, .slice Ao124 y261.length co124] rfl (by (try simp only [List.map_toArray, List.map_cons, List.map_nil]); first | done | rfl | (simp only [List.length_drop, List.length_take]; rfl)) ?_; (with_reducible refine (turf_Run.calls a0_0 a0_1 a0_2 a0_3 a0_4 a0_5 a0_6 a1_0 a1_0 _ _ y258 _ _ y261 t264 t267 _ ?side1 ?side2 ?side3 ?side4 A92.out).mono ?_); (case side1 => repeat (first | exact (Kd.R_reads' HO260.out).2.2 | (with_reducible refine Kd.C_alloc ?_ _) | (with_reducible refine Kd.C_drewN ?_ _) | (with_reducible refine Kd.C_drew ?_))); (case side2 => exact (Kd.R_reads' HO260.out).2.1); (case side3 => repeat (first | exact (Kd.R_reads' HO263.out).2.2 | (with_reducible refine Kd.C_alloc ?_ _) | (with_reducible refine Kd.C_drewN ?_ _) | (with_reducible refine Kd.C_drew ?_))); (case side4 => exact (Kd.R_reads' HO263.out).2.1); rintro e w125 ⟨v265, rfl, ho0, hb⟩; refine ⟨_, rfl, ?_⟩; replace HO_10 := Aside0.mk (Kd.R_below (rmv HO_10.out) hb); replace HO260 := Aside0.mk (Kd.R_below (rmv HO260.out) hb); replace HO263 := Aside0.mk (Kd.R_below (rmv HO263.out) hb); have HO266 := Aside0.mk (Kd.R_lower (Kd.R_newB ho0 (g := gb257) (o := .cells #[.int .i64 a1_0, .int .i64 a1_0] 27 (0, 0)) (zk BK257.out)) (below_size (blw HB.out))); replace BK213 := Aside0.mk (zb BK213.out hb); replace BK214 := Aside0.mk (zb BK214.out hb); replace BK225 := Aside0.mk (zb BK225.out hb); replace BK226 := Aside0.mk (zb BK226.out hb); replace BK256 := Aside0.mk (zb BK256.out hb); replace BK257 := Aside0.mk (zb BK257.out hb); replace HB := Aside0.mk (below_step (blw HB.out) hb); (try clear hb); (try clear hb2); (try clear hk); (try clear hi); (try clear ho0); have hcz126_0 : w125.cell? ⟨gb213, 0, none⟩ = some (.string a0_0) := bc BK213 0; have hcz126_1 : w125.cell? ⟨gb213, 1, none⟩ = some (.string a0_1) := bc BK213 1; have hcz126_2 : w125.cell? ⟨gb213, 2, none⟩ = some (.int .i64 a0_2) := bc BK213 2; have hcz126_3 : w125.cell? ⟨gb213, 3, none⟩ = some (.int .i64 a0_3) := bc BK213 3; have hcz126_4 : w125.cell? ⟨gb213, 4, none⟩ = some (.int .i64 a0_4) := bc BK213 4; have hcz126_5 : w125.cell? ⟨gb213, 5, none⟩ = some (.int .i64 a0_5) := bc BK213 5; have hcz126_6 : w125.cell? ⟨gb213, 6, none⟩ = some (.int .i64 a0_6) := bc BK213 6; have hfz126_0 := blk_frozen BK213.out 0; have hfz126_1 := blk_frozen BK213.out 1; have hfz126_2 := blk_frozen BK213.out 2; have hfz126_3 := blk_frozen BK213.out 3; have hfz126_4 := blk_frozen BK213.out 4; have hfz126_5 := blk_frozen BK213.out 5; have hfz126_6 := blk_frozen BK213.out 6; have hcz127_0 : w125.cell? ⟨gb257, 0, none⟩ = some (.int .i64 a1_0) := bc BK257 0; have hcz127_1 : w125.cell? ⟨gb257, 1, none⟩ = some (.int .i64 a1_0) := bc BK257 1; have hfz127_0 := blk_frozen BK257.out 0; have hfz127_1 := blk_frozen BK257.out 1; have hcz128_0 : w125.cell? ⟨gb256, 0, none⟩ = some (.int .i64 t250) := bc BK256 0; have hcz128_1 : w125.cell? ⟨gb256, 1, none⟩ = some (.int .i64 t251) := bc BK256 1; have hcz128_2 : w125.cell? ⟨gb256, 2, none⟩ = some (.int .i64 t252) := bc BK256 2; have hcz128_3 : w125.cell? ⟨gb256, 3, none⟩ = some (.int .i64 t253) := bc BK256 3; have hfz128_0 := blk_frozen BK256.out 0; have hfz128_1 := blk_frozen BK256.out 1; have hfz128_2 := blk_frozen BK256.out 2; have hfz128_3 := blk_frozen BK256.out 3) | ((with_reducible refine gate_dst (N := 126) rfl ?_); (try (refine gate_guard (by rfl) ?_; dsimp only)); refine Kd.R_lit k39 _ 39 ?hg (N := 126) ?hd (xs := ([(⟨(⟨t250, t251⟩ : S27), (⟨t252, t253⟩ : S27)⟩ : S39)] : List (S39))) (inner := [.int .i64 t250, .int .i64 t251, .int .i64 t252, .int .i64 t253]) (ok := fun _ => True) (okp := fun _ => True) ?hr ?hp (fun _ hk => hk) trivial (Below.refl _ _) (Nat.le_refl _) (by simp) ?_; (case hd => rfl); (case hg => rfl); (case hr => first | (go_simp; done) | (go_simp; rfl)); (case hp => exact (Reps.c4 (show Kd.M k39 _ _ _ (⟨(⟨t250, t251⟩ : S27), (⟨t252, t253⟩ : S27)⟩ : S39) [.int .i64 t250, .int .i64 t251, .int .i64 t252, .int .i64 t253] from (k39_mkM _ _ _ (⟨(⟨t250, t251⟩ : S27), (⟨t252, t253⟩ : S27)⟩ : S39) )) (Reps.none _ _))); intro v269 w129 ho130 hb hg_ hnew_; clear hg_ hnew_; (first | rw [← Ny268.out] at ho130 | (simp only [Int.reduceToNat] at ho130; rw [← Ny268.out] at ho130)); replace HO_10 := Aside0.mk (Kd.R_below (rmv HO_10.out) hb); replace HO263 := Aside0.mk (Kd.R_below (rmv HO263.out) hb); replace HO266 := Aside0.mk (Kd.R_below (rmv HO266.out) hb); have HO270 := Aside0.mk (Kd.R_lower (Kd.R_newB (Kd.R_newB (Kd.R_newB (Kd.R_new' ho130 (Kd.R_lt (rmv HO260.out))) (g := gb225) (o := .cells #[.int .i64 t217, .int .i64 t218, .int .i64 t219, .int .i64 t220] 39 (0, 0)) (zk BK225.out)) (g := gb226) (o := .cells #[.int .i64 t221, .int .i64 t222, .int .i64 t223, .int .i64 t224] 39 (0, 0)) (zk BK226.out)) (g := gb256) (o := .cells #[.int .i64 t250, .int .i64 t251, .int .i64 t252, .int .i64 t253] 39 (0, 0)) (zk BK256.out)) (below_size (blw HB.out))); replace HO260 := Aside0.mk (Kd.R_elder' (rmv HO260.out) (Kd.R_base ho130) hb); replace BK213 := Aside0.mk (zb BK213.out hb); replace BK214 := Aside0.mk (zb BK214.out hb); replace BK225 := Aside0.mk (zb BK225.out hb); replace BK226 := Aside0.mk (zb BK226.out hb); replace BK256 := Aside0.mk (zb BK256.out hb); replace BK257 := Aside0.mk (zb BK257.out hb); replace HB := Aside0.mk (below_step (blw HB.out) hb); clear hb ho130) | ((with_reducible refine gate_dst (N := 127) rfl ?_); (try (refine gate_guard (by rfl) ?_; dsimp only)); refine Kd.R_lit (Kd.int .i64) _ 3 ?hg (N := 127) ?hd (xs := ([1] : List Int)) (inner := [.int .i64 1]) (ok := fun _ => True) (okp := fun _ => True) ?hr ?hp (fun _ hk => hk) trivial (Below.refl _ _) (Nat.le_refl _) (by simp) ?_; (case hd => rfl); (case hg => rfl); (case hr => first | (go_simp; done) | (go_simp; rfl)); (case hp => exact (Reps.one (show Kd.M (Kd.int .i64) _ _ _ 1 [.int .i64 1] from rfl) (Reps.none _ _))); intro v272 w131 ho132 hb hg_ hnew_; clear hg_ hnew_; (first | rw [← Ny271.out] at ho132 | (simp only [Int.reduceToNat] at ho132; rw [← Ny271.out] at ho132)); replace HO_10 := Aside0.mk (Kd.R_below (rmv HO_10.out) hb); replace HO260 := Aside0.mk (Kd.R_below (rmv HO260.out) hb); replace HO266 := Aside0.mk (Kd.R_below (rmv HO266.out) hb); replace HO270 := Aside0.mk (Kd.R_below (rmv HO270.out) hb); have HO273 := Aside0.mk (Kd.R_lower (Kd.R_new' ho132 (Kd.R_lt (rmv HO263.out))) (below_size (blw HB.out))); replace HO263 := Aside0.mk (Kd.R_elder' (rmv HO263.out) (Kd.R_base ho132) hb); replace BK213 := Aside0.mk (zb BK213.out hb); replace BK214 := Aside0.mk (zb BK214.out hb); replace BK225 := Aside0.mk (zb BK225.out hb); replace BK226 := Aside0.mk (zb BK226.out hb); replace BK256 := Aside0.mk (zb BK256.out hb); replace BK257 := Aside0.mk (zb BK257.out hb); replace HB := Aside0.mk (below_step (blw HB.out) hb); clear hb ho132; obtain ⟨Ao133, co133, eo133⟩ := Kd.R_slice HO270.out; subst eo133; obtain ⟨Ao134, co134, eo134⟩ := Kd.R_slice HO273.out; subst eo134) | ((with_reducible refine gate_callee (f := 18) rfl ?_); refine goesL_ (some 128) rfl rfl Try.func18 (by kernel_rfl) rfl #[.agg #[.string a0_0, .string a0_1, .int .i64 a0_2, .int .i64 a0_3, .int .i64 a0_4, .int .i64 a0_5, .int .i64 a0_6], .agg #[.int .i64 a1_0, .int .i64 a1_0], .slice Ao133 y268.length co133, .slice Ao134 y271.length co134] rfl (by (try simp only [List.map_toArray, List.map_cons, List.map_nil]); first | done | rfl | (simp only [List.length_drop, List.length_take]; rfl)) ?_; (with_reducible refine (turf_Run.calls a0_0 a0_1 a0_2 a0_3 a0_4 a0_5 a0_6 a1_0 a1_0 _ _ y268 _ _ y271 t274 t277 _ ?side1 ?side2 ?side3 ?side4 A93.out).mono ?_); (case side1 => repeat (first | exact (Kd.R_reads' HO270.out).2.2 | (with_reducible refine Kd.C_alloc ?_ _) | (with_reducible refine Kd.C_drewN ?_ _) | (with_reducible refine Kd.C_drew ?_))); (case side2 => exact (Kd.R_reads' HO270.out).2.1); (case side3 => repeat (first | exact (Kd.R_reads' HO273.out).2.2 | (with_reducible refine Kd.C_alloc ?_ _) | (with_reducible refine Kd.C_drewN ?_ _) | (with_reducible refine Kd.C_drew ?_))); (case side4 => exact (Kd.R_reads' HO273.out).2.1); rintro e w135 ⟨v275, rfl, ho0, hb⟩; refine ⟨_, rfl, ?_⟩; replace HO_10 := Aside0.mk (Kd.R_below (rmv HO_10.out) hb); replace HO260 := Aside0.mk (Kd.R_below (rmv HO260.out) hb); replace HO263 := Aside0.mk (Kd.R_below (rmv HO263.out) hb); replace HO270 := Aside0.mk (Kd.R_below (rmv HO270.out) hb); replace HO273 := Aside0.mk (Kd.R_below (rmv HO273.out) hb); have HO276 := Aside0.mk (Kd.R_lower (Kd.R_newB (Kd.R_new' ho0 (Kd.R_lt (rmv HO266.out))) (g := gb257) (o := .cells #[.int .i64 a1_0, .int .i64 a1_0] 27 (0, 0)) (zk BK257.out)) (below_size (blw HB.out))); replace HO266 := Aside0.mk (Kd.R_elder' (rmv HO266.out) (Kd.R_base ho0) hb); replace BK213 := Aside0.mk (zb BK213.out hb); replace BK214 := Aside0.mk (zb BK214.out hb); replace BK225 := Aside0.mk (zb BK225.out hb); replace BK226 := Aside0.mk (zb BK226.out hb); replace BK256 := Aside0.mk (zb BK256.out hb); replace BK257 := Aside0.mk (zb BK257.out hb); replace HB := Aside0.mk (below_step (blw HB.out) hb); (try clear hb); (try clear hb2); (try clear hk); (try clear hi); (try clear ho0)))
         (try simp only [Act.put, List.setIfInBounds_toArray, List.set_cons_zero, List.set_cons_succ])
         go_cut [146] (fun v146 wc => ∃ (kq : Nat) (x146_93 : Bool), v146 = .bool x146_93 ∧ Aside0 (fastilaw29_BearingReports.j2 kq t264 t274 x146_93 a0_0 a0_1 a0_2 a0_3 a0_4 a0_5 a0_6 = some r) ∧ Aside0 (kq ≤ k2) ∧ Aside0 (Kd.R k27 27 wc w.heap.size (fun k_ => some k_ ≠ (v275 : Value).ownBlock ∧ k_ ≠ gb257) v265 t264) ∧ Aside0 (Kd.R k27 27 wc w.heap.size (fun k_ => some k_ ≠ (v265 : Value).ownBlock ∧ k_ ≠ gb257) v275 t274) ∧ Aside0 (wc.heap[gb213]? = some (.cells #[.string a0_0, .string a0_1, .int .i64 a0_2, .int .i64 a0_3, .int .i64 a0_4, .int .i64 a0_5, .int .i64 a0_6] 25 (0, 0))) ∧ Aside0 (wc.heap[gb214]? = some (.cells #[.int .i64 a1_0, (.slice A1_1 l1_1.length c1_1), (.slice A1_2 l1_2.length c1_2), (.slice A1_3 l1_3.length c1_3), (.slice A1_4 l1_4.length c1_4), (.slice A1_5 l1_5.length c1_5)] 57 (0, 0))) ∧ Aside0 (wc.heap[gb225]? = some (.cells #[.int .i64 t217, .int .i64 t218, .int .i64 t219, .int .i64 t220] 39 (0, 0))) ∧ Aside0 (wc.heap[gb226]? = some (.cells #[.int .i64 t221, .int .i64 t222, .int .i64 t223, .int .i64 t224] 39 (0, 0))) ∧ Aside0 (wc.heap[gb256]? = some (.cells #[.int .i64 t250, .int .i64 t251, .int .i64 t252, .int .i64 t253] 39 (0, 0))) ∧ Aside0 (wc.heap[gb257]? = some (.cells #[.int .i64 a1_0, .int .i64 a1_0] 27 (0, 0))) ∧ Aside0 (Below w.heap.size w wc))
         case first =>
          have H := HC94.out
          clear HC94
          by_cases c136 : t267 = 0
          ·rw [if_pos c136] at H
           have c136b0 : (t267 == 0) = true := beq_iff_eq.mpr c136
           have c136b1 : (t267 != 0) = false := bne_eq_false_iff_eq.mpr c136
           clear c136
           (first | rw [c136b0] | (simp only [i64_w, i32_w]; rw [c136b0]) | skip)
           by_cases c137 : t277 = 0
           ·rw [if_pos c137] at H
            have c137b0 : (t277 == 0) = true := beq_iff_eq.mpr c137
            have c137b1 : (t277 != 0) = false := bne_eq_false_iff_eq.mpr c137
            clear c137
            by_cases c138 : (t264.length : Int) = 1
            ·rw [if_pos c138] at H
             have c138b0 : ((t264.length : Int) == 1) = true := beq_iff_eq.mpr c138
             have c138b1 : ((t264.length : Int) != 1) = false := bne_eq_false_iff_eq.mpr c138
             clear c138
             have H' := Aside0.mk H
             clear H
             obtain ⟨Ao139, co139, eo139⟩ := Kd.R_slice HO266.out
             subst eo139
             obtain ⟨Ao140, co140, eo140⟩ := Kd.R_slice HO276.out
             subst eo140
             go_wp2
             go_meet
             case rel => exact ⟨_, (((t274.length : Int) != 1)), (by first | rfl | (simp; done) | (simp [*]; done)), H', ⟨by have := HJ5.out; have := HK2.out; first | omega | exact Nat.le_refl _⟩, ⟨by (with_reducible repeat (first | apply Kd.R_alloc | apply Kd.R_drewN | apply Kd.R_drew)); exact Kd.R_mono HO266.out (fun _ hk => ⟨hk.2, hk.1.2⟩)⟩, ⟨by (with_reducible repeat (first | apply Kd.R_alloc | apply Kd.R_drewN | apply Kd.R_drew)); exact Kd.R_mono HO276.out (fun _ hk => ⟨hk.1.2, hk.2⟩)⟩, ⟨zk BK213.out⟩, ⟨zk BK214.out⟩, ⟨zk BK225.out⟩, ⟨zk BK226.out⟩, ⟨zk BK256.out⟩, ⟨zk BK257.out⟩, ⟨blw HB.out⟩⟩
            ·rw [if_neg c138] at H
             have c138b0 : ((t264.length : Int) == 1) = false := beq_eq_false_iff_ne.mpr c138
             have c138b1 : ((t264.length : Int) != 1) = true := bne_iff_ne.mpr c138
             have H' := Aside0.mk H
             clear H
             obtain ⟨Ao141, co141, eo141⟩ := Kd.R_slice HO266.out
             subst eo141
             go_wp2
             go_meet
             case rel => exact ⟨_, (true), (by first | rfl | (simp; done) | (simp [*]; done)), H', ⟨by have := HJ5.out; have := HK2.out; first | omega | exact Nat.le_refl _⟩, ⟨by (with_reducible repeat (first | apply Kd.R_alloc | apply Kd.R_drewN | apply Kd.R_drew)); exact Kd.R_mono HO266.out (fun _ hk => ⟨hk.2, hk.1.2⟩)⟩, ⟨by (with_reducible repeat (first | apply Kd.R_alloc | apply Kd.R_drewN | apply Kd.R_drew)); exact Kd.R_mono HO276.out (fun _ hk => ⟨hk.1.2, hk.2⟩)⟩, ⟨zk BK213.out⟩, ⟨zk BK214.out⟩, ⟨zk BK225.out⟩, ⟨zk BK226.out⟩, ⟨zk BK256.out⟩, ⟨zk BK257.out⟩, ⟨blw HB.out⟩⟩
           ·rw [if_neg c137] at H
            have c137b0 : (t277 == 0) = false := beq_eq_false_iff_ne.mpr c137
            have c137b1 : (t277 != 0) = true := bne_iff_ne.mpr c137
            have H' := Aside0.mk H
            clear H
            go_wp2
            go_meet
            case rel => exact ⟨_, (true), (by first | rfl | (simp; done) | (simp [*]; done)), H', ⟨by have := HJ5.out; have := HK2.out; first | omega | exact Nat.le_refl _⟩, ⟨by (with_reducible repeat (first | apply Kd.R_alloc | apply Kd.R_drewN | apply Kd.R_drew)); exact Kd.R_mono HO266.out (fun _ hk => ⟨hk.2, hk.1.2⟩)⟩, ⟨by (with_reducible repeat (first | apply Kd.R_alloc | apply Kd.R_drewN | apply Kd.R_drew)); exact Kd.R_mono HO276.out (fun _ hk => ⟨hk.1.2, hk.2⟩)⟩, ⟨zk BK213.out⟩, ⟨zk BK214.out⟩, ⟨zk BK225.out⟩, ⟨zk BK226.out⟩, ⟨zk BK256.out⟩, ⟨zk BK257.out⟩, ⟨blw HB.out⟩⟩
          ·rw [if_neg c136] at H
           have c136b0 : (t267 == 0) = false := beq_eq_false_iff_ne.mpr c136
           have c136b1 : (t267 != 0) = true := bne_iff_ne.mpr c136
           (first | rw [c136b0] | (simp only [i64_w, i32_w]; rw [c136b0]) | skip)
           have H' := Aside0.mk H
           clear H
           go_wp2
           go_meet
           case rel => exact ⟨_, (true), (by first | rfl | (simp; done) | (simp [*]; done)), H', ⟨by have := HJ5.out; have := HK2.out; first | omega | exact Nat.le_refl _⟩, ⟨by (with_reducible repeat (first | apply Kd.R_alloc | apply Kd.R_drewN | apply Kd.R_drew)); exact Kd.R_mono HO266.out (fun _ hk => ⟨hk.2, hk.1.2⟩)⟩, ⟨by (with_reducible repeat (first | apply Kd.R_alloc | apply Kd.R_drewN | apply Kd.R_drew)); exact Kd.R_mono HO276.out (fun _ hk => ⟨hk.1.2, hk.2⟩)⟩, ⟨zk BK213.out⟩, ⟨zk BK214.out⟩, ⟨zk BK225.out⟩, ⟨zk BK226.out⟩, ⟨zk BK256.out⟩, ⟨zk BK257.out⟩, ⟨blw HB.out⟩⟩
         case rest =>
          clear HC94
          try clear c1
          try clear c2
          try clear p2
          try clear q2
          try clear hx2
          try clear c4
          try clear c6
          try clear p6
          try clear c7
          try clear c8
          try clear c9
          try clear c10
          try clear c11
          try clear c13
          try clear c15
          try clear c18
          try clear c24
          try clear p24
          try clear q24
          try clear hx24
          try clear c44
          try clear c44b0
          try clear c45
          try clear c46
          try clear c48
          try clear p64
          try clear c66
          try clear c67
          try clear c68
          try clear c69
          try clear c74
          try clear c75
          try clear c76
          try clear c77
          try clear c78
          try clear c79
          try clear c81
          try clear c82
          try clear c83
          try clear c84
          try clear c85
          try clear c91
          try clear c91b0
          try clear c91b1
          try clear c98
          try clear c99
          try clear c100
          try clear c101
          try clear c103
          try clear c104
          try clear c105
          try clear c108
          try clear c109
          try clear c110
          try clear c111
          try clear c112
          try clear c114
          try clear c115
          try clear c117
          try clear c136
          try clear c136b0
          try clear c136b1
          try clear c137
          try clear c137b0
          try clear c137b1
          try clear c138
          try clear c138b0
          try clear c138b1
          try clear hcz102_0
          try clear hcz102_1
          try clear hcz102_2
          try clear hcz102_3
          try clear hcz106_0
          try clear hcz106_1
          try clear hcz106_2
          try clear hcz106_3
          try clear hcz106_4
          try clear hcz106_5
          try clear hcz113_0
          try clear hcz113_1
          try clear hcz116_0
          try clear hcz116_1
          try clear hcz116_2
          try clear hcz116_3
          try clear hcz116_4
          try clear hcz116_5
          try clear hcz116_6
          try clear hcz118_0
          try clear hcz118_1
          try clear hcz118_2
          try clear hcz118_3
          try clear hcz126_0
          try clear hcz126_1
          try clear hcz126_2
          try clear hcz126_3
          try clear hcz126_4
          try clear hcz126_5
          try clear hcz126_6
          try clear hcz127_0
          try clear hcz127_1
          try clear hcz128_0
          try clear hcz128_1
          try clear hcz128_2
          try clear hcz128_3
          try clear hcz70_0
          try clear hcz70_1
          try clear hcz70_2
          try clear hcz70_3
          try clear hcz70_4
          try clear hcz70_5
          try clear hcz80_0
          try clear hcz80_1
          try clear hcz80_2
          try clear hcz80_3
          try clear hcz86_0
          try clear hcz86_1
          try clear hcz86_2
          try clear hcz86_3
          try clear hfz102_0
          try clear hfz102_1
          try clear hfz102_2
          try clear hfz102_3
          try clear hfz106_0
          try clear hfz106_1
          try clear hfz106_2
          try clear hfz106_3
          try clear hfz106_4
          try clear hfz106_5
          try clear hfz113_0
          try clear hfz113_1
          try clear hfz116_0
          try clear hfz116_1
          try clear hfz116_2
          try clear hfz116_3
          try clear hfz116_4
          try clear hfz116_5
          try clear hfz116_6
          try clear hfz118_0
          try clear hfz118_1
          try clear hfz118_2
          try clear hfz118_3
          try clear hfz126_0
          try clear hfz126_1
          try clear hfz126_2
          try clear hfz126_3
          try clear hfz126_4
          try clear hfz126_5
          try clear hfz126_6
          try clear hfz127_0
          try clear hfz127_1
          try clear hfz128_0
          try clear hfz128_1
          try clear hfz128_2
          try clear hfz128_3
          try clear hfz70_0
          try clear hfz70_1
          try clear hfz70_2
          try clear hfz70_3
          try clear hfz70_4
          try clear hfz70_5
          try clear hfz80_0
          try clear hfz80_1
          try clear hfz80_2
          try clear hfz80_3
          try clear hfz86_0
          try clear hfz86_1
          try clear hfz86_2
          try clear hfz86_3
          try clear hx246_0
          try clear p246
          try clear q246
          obtain ⟨kq, x146_93, rfl, HA, HJ93, HO_19, HO_21, BK213, BK214, BK225, BK226, BK256, BK257, HB⟩ := hcut
          cases kq with
          | zero => exact absurd HA.out (by simp [fastilaw29_BearingReports.j2])
          | succ kj93 =>
           have H := HA.out
           clear HA
           simp only [fastilaw29_BearingReports.j2] at H
           by_cases c142 : x146_93 = true
           ·subst c142
            have H1 : (none) = some r := by rw [if_pos rfl] at H; exact H
            clear H
            have H := H1
            clear H1
            exact absurd H (by simp)
           ·replace c142 := Bool.eq_false_iff.mpr c142
            subst c142
            have H1 : (if 0 < (t274.length : Int) then ((bearing_Permit.f kj93 a0_0 a0_1 a0_2 a0_3 a0_4 a0_5 a0_6 ((rd_T27 t274 0).f0) ((rd_T27 t274 0).f1) 0 false).bind fun bt279 => (if bt279.2 = 0 then (if bt279.1 = true then (if 0 < (t264.length : Int) then (fastilaw29_BearingReports.j3 kj93 (decide (((rd_T27 t264 0).f0) ≥ a0_3))) else (none)) else (fastilaw29_BearingReports.j3 kj93 true)) else (fastilaw29_BearingReports.j3 kj93 false))) else (none)) = some r := by rw [if_neg (show ¬ (false = true) by decide)] at H; exact H
            clear H
            have H := H1
            clear H1
            by_cases c143 : 0 < (t274.length : Int)
            ·rw [if_pos c143] at H
             have c143b0 : decide (0 < (t274.length : Int)) = true := decide_eq_true c143
             have c143b1 : decide (0 < t274.length) = true := decide_eq_true (by omega)
             clear c143
             replace H := Option.bind_eq_some_iff.mp H
             obtain ⟨⟨t279, t280⟩, A1440, H⟩ := H
             replace H : (if t280 = 0 then (if t279 = true then (if 0 < (t264.length : Int) then (fastilaw29_BearingReports.j3 kj93 (decide (((rd_T27 t264 0).f0) ≥ a0_3))) else (none)) else (fastilaw29_BearingReports.j3 kj93 true)) else (fastilaw29_BearingReports.j3 kj93 false)) = some r := H
             have A144 := Aside0.mk A1440
             clear A1440
             have HC145 := Aside0.mk H
             clear H
             try go_wp2
             replace HO_19 := Aside0.mk (Kd.R_drew HO_19.out)
             replace HO_21 := Aside0.mk (Kd.R_drew HO_21.out)
             replace BK213 := Aside0.mk (blk_drew BK213.out)
             replace BK214 := Aside0.mk (blk_drew BK214.out)
             replace BK225 := Aside0.mk (blk_drew BK225.out)
             replace BK226 := Aside0.mk (blk_drew BK226.out)
             replace BK256 := Aside0.mk (blk_drew BK256.out)
             replace BK257 := Aside0.mk (blk_drew BK257.out)
             replace HB := Aside0.mk (below_drew1 HB.out)
             obtain ⟨Ao147, co147, eo147⟩ := Kd.R_slice HO_21.out
             (first | subst eo147 | (injection eo147 with f1_ f2_ f3_; have f4_ := f1_.symm; have f5_ := f3_.symm; clear f1_ f2_ f3_; subst f4_; subst f5_))
             have p278 : 0 ≤ (0 : Int) := (by omega)
             have q278 : 0 < (t274.length : Int) := of_decide_eq_true (by first | (with_reducible assumption) | assumption)
             obtain ⟨ad278, e278, hx278_0, hx278_1⟩ := at_T27 (Kd.R_reads' HO_21.out).2.2 0 p278 q278
             cases e278
             have qi278 : (0 < t274.length) = True := eq_true (by omega)
             (try rw [show ((0 : Int)).toNat = 0 from rfl] at hx278_0)
             (try rw [show 0 * 2 = 0 from rfl] at hx278_0)
             (try rw [Addr.add_zero'] at hx278_0)
             (try rw [show ((0 : Int)).toNat = 0 from rfl] at hx278_1)
             (try rw [show 0 * 2 = 0 from rfl] at hx278_1)
             (try rw [Addr.add_zero'] at hx278_1)
             replace p278 := eq_true p278
             replace q278 := eq_true q278
             refine start_ (n := 10) (S := fun w' => w'.cell? ⟨gb213, 0, none⟩ = some (.string a0_0) ∧ w'.cell? ⟨gb213, 1, none⟩ = some (.string a0_1) ∧ w'.cell? ⟨gb213, 2, none⟩ = some (.int .i64 a0_2) ∧ w'.cell? ⟨gb213, 3, none⟩ = some (.int .i64 a0_3) ∧ w'.cell? ⟨gb213, 4, none⟩ = some (.int .i64 a0_4) ∧ w'.cell? ⟨gb213, 5, none⟩ = some (.int .i64 a0_5) ∧ w'.cell? ⟨gb213, 6, none⟩ = some (.int .i64 a0_6) ∧ w'.cell? ad278 = some (.int .i64 ((rd_T27 t274 0).f0)) ∧ w'.cell? ⟨ad278.block, ad278.off + 1, none⟩ = some (.int .i64 ((rd_T27 t274 0).f1))) (ds := []) #[N,N,N,N,N,N,N,N,N,N] (by kernel_rfl) rfl rfl ⟨bc BK213 0, bc BK213 1, bc BK213 2, bc BK213 3, bc BK213 4, bc BK213 5, bc BK213 6, hx278_0, hx278_1⟩ (fun hHeld => ?_); refine with_tabW fastilaw29_BearingReports.tab23 fastilaw29_BearingReports.bits23 (fun HT_ HW_ => ?_)
             generalize wc.drew = w146 at HO_19 HO_21 BK213 BK214 BK225 BK226 BK256 BK257 HB hx278_0 hx278_1 hHeld ⊢
             refine pureA (i := 1) (N := some 149) #[N,Y,N,N,N,N,N,N,N,N] (any_of HT_.out (by kernel_rfl)) ?_
             refine pureA (i := 2) (N := some 150) #[N,Y,Y,N,N,N,N,N,N,N] (any_of HT_.out (by kernel_rfl)) ?_
             refine take_ (i := 0) (N := some 148) (v := ?_) (a' := ?_) #[Y,Y,Y,N,N,N,N,N,N,N] rfl rfl (take_ofW HT_.out HW_.out (by kernel_rfl)) (fun _ _ _ h => h) (Or.inl ⟨by rfl, ?_⟩) hHeld ?_ ?_
             rotate_left
             ·rintro w' ⟨s0, s1, s2, s3, s4, s5, s6, s7, s8⟩
              go_simp
              with_reducible rfl
             rotate_left
             ·simp only [Act.put, List.setIfInBounds_toArray, List.set_cons_zero, List.set_cons_succ, i64_w, i32_w]
              rfl
             refine take_ (i := 3) (N := some 151) (v := ?_) (a' := ?_) #[Y,Y,Y,Y,N,N,N,N,N,N] rfl rfl (take_ofW HT_.out HW_.out (by kernel_rfl)) (fun _ _ _ h => h) (Or.inl ⟨by rfl, ?_⟩) hHeld ?_ ?_
             rotate_left
             ·rintro w' ⟨s0, s1, s2, s3, s4, s5, s6, s7, s8⟩
              go_simp
              with_reducible rfl
             rotate_left
             ·simp only [Act.put, List.setIfInBounds_toArray, List.set_cons_zero, List.set_cons_succ, i64_w, i32_w]
              rfl
             refine one_ (i := 4) (N := some 152) #[Y,Y,Y,Y,Y,N,N,N,N,N] rfl rfl (one_of HT_.out (by kernel_rfl)) (by decide) (fun K hK => ?_)
             refine goes_ Try.func19 (by kernel_rfl) rfl #[.agg #[.string a0_0, .string a0_1, .int .i64 a0_2, .int .i64 a0_3, .int .i64 a0_4, .int .i64 a0_5, .int .i64 a0_6], .agg #[.int .i64 ((rd_T27 t274 0).f0), .int .i64 ((rd_T27 t274 0).f1)], .int .i64 0, .bool false] (by rfl) rfl rfl (by (try simp only [List.map_toArray, List.map_cons, List.map_nil]); first | done | rfl | (simp only [List.length_drop, List.length_take]; rfl)) ?_
             with_reducible refine (bearing_Permit.calls kj93 a0_0 a0_1 a0_2 a0_3 a0_4 a0_5 a0_6 ((rd_T27 t274 0).f0) ((rd_T27 t274 0).f1) 0 false t279 t280 _ A144.out).mono ?_
             rintro e w148 ⟨rfl, hb⟩
             have HS7_ := (hb.cell (World.block_lt_of_cell? _ _ (hHeld.2.2.2.2.2.2.2.1))).trans (hHeld.2.2.2.2.2.2.2.1)
             have HS8_ := (hb.cell (World.block_lt_of_cell? _ _ (hHeld.2.2.2.2.2.2.2.2))).trans (hHeld.2.2.2.2.2.2.2.2)
             refine ⟨_, rfl, ?_⟩
             replace HO_19 := Aside0.mk (Kd.R_below (rmv HO_19.out) hb)
             replace HO_21 := Aside0.mk (Kd.R_below (rmv HO_21.out) hb)
             replace BK213 := Aside0.mk (zb BK213.out hb)
             replace BK214 := Aside0.mk (zb BK214.out hb)
             replace BK225 := Aside0.mk (zb BK225.out hb)
             replace BK226 := Aside0.mk (zb BK226.out hb)
             replace BK256 := Aside0.mk (zb BK256.out hb)
             replace BK257 := Aside0.mk (zb BK257.out hb)
             replace HB := Aside0.mk (below_step (blw HB.out) hb)
             (try clear hb)
             (try clear hb2)
             (try clear hk)
             (try clear hi)
             refine hK.out _ _ ⟨bc BK213 0, bc BK213 1, bc BK213 2, bc BK213 3, bc BK213 4, bc BK213 5, bc BK213 6, HS7_, HS8_⟩ (fun hHeld => ?_)
             clear hK K
             refine norm_ (a' := ?_) ?_ ?_
             rotate_left
             ·show Act.put _ (some 152) _ = _
              simp only [Act.put, List.setIfInBounds_toArray, List.set_cons_zero, List.set_cons_succ, i64_w, i32_w]
              rfl
             refine pureA (i := 5) (N := some 147) #[Y,Y,Y,Y,Y,Y,N,N,N,N] (any_of HT_.out (by kernel_rfl)) ?_
             refine pureA (i := 6) (N := some 153) #[Y,Y,Y,Y,Y,Y,Y,N,N,N] (any_of HT_.out (by kernel_rfl)) ?_
             refine pureA (i := 7) (N := some 154) #[Y,Y,Y,Y,Y,Y,Y,Y,N,N] (any_of HT_.out (by kernel_rfl)) ?_
             refine pureA (i := 8) (N := some 23) #[Y,Y,Y,Y,Y,Y,Y,Y,Y,N] (any_of HT_.out (by kernel_rfl)) ?_
             refine pureA (i := 9) (N := some 24) #[Y,Y,Y,Y,Y,Y,Y,Y,Y,Y] (any_of HT_.out (by kernel_rfl)) ?_
             refine done_ (done_of HT_.out (by kernel_rfl)) ?_
             go_upto_region 24 with (fail)
             go_cut [6] (fun v6 wc => ∃ (kq : Nat) (x6_144 : Bool), v6 = .bool x6_144 ∧ Aside0 (fastilaw29_BearingReports.j3 kq x6_144 = some r) ∧ Aside0 (kq ≤ kj93) ∧ Aside0 (wc.heap[gb213]? = some (.cells #[.string a0_0, .string a0_1, .int .i64 a0_2, .int .i64 a0_3, .int .i64 a0_4, .int .i64 a0_5, .int .i64 a0_6] 25 (0, 0))) ∧ Aside0 (wc.heap[gb214]? = some (.cells #[.int .i64 a1_0, (.slice A1_1 l1_1.length c1_1), (.slice A1_2 l1_2.length c1_2), (.slice A1_3 l1_3.length c1_3), (.slice A1_4 l1_4.length c1_4), (.slice A1_5 l1_5.length c1_5)] 57 (0, 0))) ∧ Aside0 (wc.heap[gb225]? = some (.cells #[.int .i64 t217, .int .i64 t218, .int .i64 t219, .int .i64 t220] 39 (0, 0))) ∧ Aside0 (wc.heap[gb226]? = some (.cells #[.int .i64 t221, .int .i64 t222, .int .i64 t223, .int .i64 t224] 39 (0, 0))) ∧ Aside0 (wc.heap[gb256]? = some (.cells #[.int .i64 t250, .int .i64 t251, .int .i64 t252, .int .i64 t253] 39 (0, 0))) ∧ Aside0 (wc.heap[gb257]? = some (.cells #[.int .i64 a1_0, .int .i64 a1_0] 27 (0, 0))) ∧ Aside0 (Below w.heap.size w wc))
             case first =>
              have H := HC145.out
              clear HC145
              by_cases c149 : t280 = 0
              ·rw [if_pos c149] at H
               have c149b0 : (t280 == 0) = true := beq_iff_eq.mpr c149
               have c149b1 : (t280 != 0) = false := bne_eq_false_iff_eq.mpr c149
               clear c149
               (first | rw [c149b0] | (simp only [i64_w, i32_w]; rw [c149b0]) | skip)
               by_cases c150 : t279 = true
               ·subst c150
                have H1 : (if 0 < (t264.length : Int) then (fastilaw29_BearingReports.j3 kj93 (decide (((rd_T27 t264 0).f0) ≥ a0_3))) else (none)) = some r := by rw [if_pos rfl] at H; exact H
                clear H
                have H := H1
                clear H1
                by_cases c151 : 0 < (t264.length : Int)
                ·rw [if_pos c151] at H
                 have c151b0 : decide (0 < (t264.length : Int)) = true := decide_eq_true c151
                 have c151b1 : decide (0 < t264.length) = true := decide_eq_true (by omega)
                 clear c151
                 have H' := Aside0.mk H
                 clear H
                 try go_wp2
                 replace HO_19 := Aside0.mk (Kd.R_drew HO_19.out)
                 replace HO_21 := Aside0.mk (Kd.R_drew HO_21.out)
                 replace BK213 := Aside0.mk (blk_drew BK213.out)
                 replace BK214 := Aside0.mk (blk_drew BK214.out)
                 replace BK225 := Aside0.mk (blk_drew BK225.out)
                 replace BK226 := Aside0.mk (blk_drew BK226.out)
                 replace BK256 := Aside0.mk (blk_drew BK256.out)
                 replace BK257 := Aside0.mk (blk_drew BK257.out)
                 replace HB := Aside0.mk (below_drew1 HB.out)
                 obtain ⟨Ao153, co153, eo153⟩ := Kd.R_slice HO_19.out
                 (first | subst eo153 | (injection eo153 with f1_ f2_ f3_; have f4_ := f1_.symm; have f5_ := f3_.symm; clear f1_ f2_ f3_; subst f4_; subst f5_))
                 have p281 : 0 ≤ (0 : Int) := (by omega)
                 have q281 : 0 < (t264.length : Int) := of_decide_eq_true (by first | (with_reducible assumption) | assumption)
                 obtain ⟨ad281, e281, hx281_0, hx281_1⟩ := at_T27 (Kd.R_reads' HO_19.out).2.2 0 p281 q281
                 cases e281
                 have qi281 : (0 < t264.length) = True := eq_true (by omega)
                 (try rw [show ((0 : Int)).toNat = 0 from rfl] at hx281_0)
                 (try rw [show 0 * 2 = 0 from rfl] at hx281_0)
                 (try rw [Addr.add_zero'] at hx281_0)
                 (try rw [show ((0 : Int)).toNat = 0 from rfl] at hx281_1)
                 (try rw [show 0 * 2 = 0 from rfl] at hx281_1)
                 (try rw [Addr.add_zero'] at hx281_1)
                 replace p281 := eq_true p281
                 replace q281 := eq_true q281
                 refine start_ (n := 16) (S := fun w' => w'.cell? ⟨gb213, 0, none⟩ = some (.string a0_0) ∧ w'.cell? ⟨gb213, 1, none⟩ = some (.string a0_1) ∧ w'.cell? ⟨gb213, 2, none⟩ = some (.int .i64 a0_2) ∧ w'.cell? ⟨gb213, 3, none⟩ = some (.int .i64 a0_3) ∧ w'.cell? ⟨gb213, 4, none⟩ = some (.int .i64 a0_4) ∧ w'.cell? ⟨gb213, 5, none⟩ = some (.int .i64 a0_5) ∧ w'.cell? ⟨gb213, 6, none⟩ = some (.int .i64 a0_6) ∧ w'.cell? ad281 = some (.int .i64 ((rd_T27 t264 0).f0)) ∧ w'.cell? ⟨ad281.block, ad281.off + 1, none⟩ = some (.int .i64 ((rd_T27 t264 0).f1))) (ds := []) #[N,N,N,N,N,N,N,N,N,N,N,N,N,N,N,N] (by kernel_rfl) rfl rfl ⟨bc BK213 0, bc BK213 1, bc BK213 2, bc BK213 3, bc BK213 4, bc BK213 5, bc BK213 6, hx281_0, hx281_1⟩ (fun hHeld => ?_); refine with_tabW fastilaw29_BearingReports.tab24 fastilaw29_BearingReports.bits24 (fun HT_ HW_ => ?_)
                 generalize w148.drew = w152 at HO_19 HO_21 BK213 BK214 BK225 BK226 BK256 BK257 HB hx281_0 hx281_1 hHeld ⊢
                 refine pureA (i := 0) (N := some 155) #[Y,N,N,N,N,N,N,N,N,N,N,N,N,N,N,N] (any_of HT_.out (by kernel_rfl)) ?_
                 refine pureA (i := 1) (N := some 156) #[Y,Y,N,N,N,N,N,N,N,N,N,N,N,N,N,N] (any_of HT_.out (by kernel_rfl)) ?_
                 refine pureA (i := 2) (N := some 157) #[Y,Y,Y,N,N,N,N,N,N,N,N,N,N,N,N,N] (any_of HT_.out (by kernel_rfl)) ?_
                 refine pureA (i := 3) (N := some 158) #[Y,Y,Y,Y,N,N,N,N,N,N,N,N,N,N,N,N] (any_of HT_.out (by kernel_rfl)) ?_
                 refine pureA (i := 4) (N := some 159) #[Y,Y,Y,Y,Y,N,N,N,N,N,N,N,N,N,N,N] (any_of HT_.out (by kernel_rfl)) ?_
                 refine pureA (i := 5) (N := some 160) #[Y,Y,Y,Y,Y,Y,N,N,N,N,N,N,N,N,N,N] (any_of HT_.out (by kernel_rfl)) ?_
                 refine pureA (i := 6) (N := some 161) #[Y,Y,Y,Y,Y,Y,Y,N,N,N,N,N,N,N,N,N] (any_of HT_.out (by kernel_rfl)) ?_
                 refine pureA (i := 7) (N := some 162) #[Y,Y,Y,Y,Y,Y,Y,Y,N,N,N,N,N,N,N,N] (any_of HT_.out (by kernel_rfl)) ?_
                 refine pureA (i := 8) (N := some 163) #[Y,Y,Y,Y,Y,Y,Y,Y,Y,N,N,N,N,N,N,N] (any_of HT_.out (by kernel_rfl)) ?_
                 refine pureA (i := 10) (N := some 165) #[Y,Y,Y,Y,Y,Y,Y,Y,Y,N,Y,N,N,N,N,N] (any_of HT_.out (by kernel_rfl)) ?_
                 refine take_ (i := 9) (N := some 164) (v := ?_) (a' := ?_) #[Y,Y,Y,Y,Y,Y,Y,Y,Y,Y,Y,N,N,N,N,N] rfl rfl (take_ofW HT_.out HW_.out (by kernel_rfl)) (fun _ _ _ h => h) (Or.inl ⟨by rfl, ?_⟩) hHeld ?_ ?_
                 rotate_left
                 ·rintro w' ⟨s0, s1, s2, s3, s4, s5, s6, s7, s8⟩
                  go_simp
                  with_reducible rfl
                 rotate_left
                 ·simp only [Act.put, List.setIfInBounds_toArray, List.set_cons_zero, List.set_cons_succ, i64_w, i32_w]
                  rfl
                 refine take_ (i := 11) (N := some 166) (v := ?_) (a' := ?_) #[Y,Y,Y,Y,Y,Y,Y,Y,Y,Y,Y,Y,N,N,N,N] rfl rfl (take_ofW HT_.out HW_.out (by kernel_rfl)) (fun _ _ _ h => h) (Or.inl ⟨by rfl, ?_⟩) hHeld ?_ ?_
                 rotate_left
                 ·rintro w' ⟨s0, s1, s2, s3, s4, s5, s6, s7, s8⟩
                  go_simp
                  with_reducible rfl
                 rotate_left
                 ·simp only [Act.put, List.setIfInBounds_toArray, List.set_cons_zero, List.set_cons_succ, i64_w, i32_w]
                  rfl
                 refine pureA (i := 12) (N := some 167) #[Y,Y,Y,Y,Y,Y,Y,Y,Y,Y,Y,Y,Y,N,N,N] (any_of HT_.out (by kernel_rfl)) ?_
                 refine pureA (i := 13) (N := some 168) #[Y,Y,Y,Y,Y,Y,Y,Y,Y,Y,Y,Y,Y,Y,N,N] (any_of HT_.out (by kernel_rfl)) ?_
                 refine pureA (i := 14) (N := some 169) #[Y,Y,Y,Y,Y,Y,Y,Y,Y,Y,Y,Y,Y,Y,Y,N] (any_of HT_.out (by kernel_rfl)) ?_
                 refine pureA (i := 15) (N := some 6) #[Y,Y,Y,Y,Y,Y,Y,Y,Y,Y,Y,Y,Y,Y,Y,Y] (any_of HT_.out (by kernel_rfl)) ?_
                 refine done_ (done_of HT_.out (by kernel_rfl)) ?_
                 try go_wp2
                 go_meet
                 case rel => exact ⟨_, (decide (((rd_T27 t264 0).f0) ≥ a0_3)), (by first | rfl | (simp; done) | (simp [*]; done)), H', ⟨by have := HJ5.out; have := HK2.out; have := HJ93.out; first | omega | exact Nat.le_refl _⟩, ⟨zk BK213.out⟩, ⟨zk BK214.out⟩, ⟨zk BK225.out⟩, ⟨zk BK226.out⟩, ⟨zk BK256.out⟩, ⟨zk BK257.out⟩, ⟨blw HB.out⟩⟩
                ·rw [if_neg c151] at H
                 exact absurd H (by simp)
               ·replace c150 := Bool.eq_false_iff.mpr c150
                subst c150
                have H1 : (fastilaw29_BearingReports.j3 kj93 true) = some r := by rw [if_neg (show ¬ (false = true) by decide)] at H; exact H
                clear H
                have H := H1
                clear H1
                have H' := Aside0.mk H
                clear H
                try go_wp2
                replace HO_19 := Aside0.mk (Kd.R_drew HO_19.out)
                replace HO_21 := Aside0.mk (Kd.R_drew HO_21.out)
                replace BK213 := Aside0.mk (blk_drew BK213.out)
                replace BK214 := Aside0.mk (blk_drew BK214.out)
                replace BK225 := Aside0.mk (blk_drew BK225.out)
                replace BK226 := Aside0.mk (blk_drew BK226.out)
                replace BK256 := Aside0.mk (blk_drew BK256.out)
                replace BK257 := Aside0.mk (blk_drew BK257.out)
                replace HB := Aside0.mk (below_drew1 HB.out)
                refine start_ (n := 16) (S := fun w' => True) (ds := []) #[N,N,N,N,N,N,N,N,N,N,N,N,N,N,N,N] (by kernel_rfl) rfl rfl trivial (fun hHeld => ?_); refine with_tabW fastilaw29_BearingReports.tab24 fastilaw29_BearingReports.bits24 (fun HT_ HW_ => ?_)
                generalize w148.drew = w154 at HO_19 HO_21 BK213 BK214 BK225 BK226 BK256 BK257 HB hHeld ⊢
                refine pureA (i := 0) (N := some 155) #[Y,N,N,N,N,N,N,N,N,N,N,N,N,N,N,N] (any_of HT_.out (by kernel_rfl)) ?_
                refine pureA (i := 1) (N := some 156) #[Y,Y,N,N,N,N,N,N,N,N,N,N,N,N,N,N] (any_of HT_.out (by kernel_rfl)) ?_
                refine pureA (i := 2) (N := some 157) #[Y,Y,Y,N,N,N,N,N,N,N,N,N,N,N,N,N] (any_of HT_.out (by kernel_rfl)) ?_
                refine pureA (i := 3) (N := some 158) #[Y,Y,Y,Y,N,N,N,N,N,N,N,N,N,N,N,N] (any_of HT_.out (by kernel_rfl)) ?_
                refine pureA (i := 4) (N := some 159) #[Y,Y,Y,Y,Y,N,N,N,N,N,N,N,N,N,N,N] (any_of HT_.out (by kernel_rfl)) ?_
                refine pureA (i := 5) (N := some 160) #[Y,Y,Y,Y,Y,Y,N,N,N,N,N,N,N,N,N,N] (any_of HT_.out (by kernel_rfl)) ?_
                refine pureU (i := 6) (N := some 161) #[Y,Y,Y,Y,Y,Y,Y,N,N,N,N,N,N,N,N,N] (any_of HT_.out (by kernel_rfl)) ?_
                refine pureU (i := 7) (N := some 162) #[Y,Y,Y,Y,Y,Y,Y,Y,N,N,N,N,N,N,N,N] (any_of HT_.out (by kernel_rfl)) ?_
                refine pureU (i := 8) (N := some 163) #[Y,Y,Y,Y,Y,Y,Y,Y,Y,N,N,N,N,N,N,N] (any_of HT_.out (by kernel_rfl)) ?_
                refine pureU (i := 9) (N := some 164) #[Y,Y,Y,Y,Y,Y,Y,Y,Y,Y,N,N,N,N,N,N] (any_of HT_.out (by kernel_rfl)) ?_
                refine pureU (i := 10) (N := some 165) #[Y,Y,Y,Y,Y,Y,Y,Y,Y,Y,Y,N,N,N,N,N] (any_of HT_.out (by kernel_rfl)) ?_
                refine pureU (i := 11) (N := some 166) #[Y,Y,Y,Y,Y,Y,Y,Y,Y,Y,Y,Y,N,N,N,N] (any_of HT_.out (by kernel_rfl)) ?_
                refine pureU (i := 12) (N := some 167) #[Y,Y,Y,Y,Y,Y,Y,Y,Y,Y,Y,Y,Y,N,N,N] (any_of HT_.out (by kernel_rfl)) ?_
                refine pureA (i := 13) (N := some 168) #[Y,Y,Y,Y,Y,Y,Y,Y,Y,Y,Y,Y,Y,Y,N,N] (any_of HT_.out (by kernel_rfl)) ?_
                refine pureA (i := 14) (N := some 169) #[Y,Y,Y,Y,Y,Y,Y,Y,Y,Y,Y,Y,Y,Y,Y,N] (any_of HT_.out (by kernel_rfl)) ?_
                refine pureA (i := 15) (N := some 6) #[Y,Y,Y,Y,Y,Y,Y,Y,Y,Y,Y,Y,Y,Y,Y,Y] (any_of HT_.out (by kernel_rfl)) ?_
                refine done_ (done_of HT_.out (by kernel_rfl)) ?_
                try go_wp2
                go_meet
                case rel => exact ⟨_, (true), (by first | rfl | (simp; done) | (simp [*]; done)), H', ⟨by have := HJ5.out; have := HK2.out; have := HJ93.out; first | omega | exact Nat.le_refl _⟩, ⟨zk BK213.out⟩, ⟨zk BK214.out⟩, ⟨zk BK225.out⟩, ⟨zk BK226.out⟩, ⟨zk BK256.out⟩, ⟨zk BK257.out⟩, ⟨blw HB.out⟩⟩
              ·rw [if_neg c149] at H
               have c149b0 : (t280 == 0) = false := beq_eq_false_iff_ne.mpr c149
               have c149b1 : (t280 != 0) = true := bne_iff_ne.mpr c149
               (first | rw [c149b0] | (simp only [i64_w, i32_w]; rw [c149b0]) | skip)
               have H' := Aside0.mk H
               clear H
               try go_wp2
               replace HO_19 := Aside0.mk (Kd.R_drew HO_19.out)
               replace HO_21 := Aside0.mk (Kd.R_drew HO_21.out)
               replace BK213 := Aside0.mk (blk_drew BK213.out)
               replace BK214 := Aside0.mk (blk_drew BK214.out)
               replace BK225 := Aside0.mk (blk_drew BK225.out)
               replace BK226 := Aside0.mk (blk_drew BK226.out)
               replace BK256 := Aside0.mk (blk_drew BK256.out)
               replace BK257 := Aside0.mk (blk_drew BK257.out)
               replace HB := Aside0.mk (below_drew1 HB.out)
               refine start_ (n := 16) (S := fun w' => True) (ds := []) #[N,N,N,N,N,N,N,N,N,N,N,N,N,N,N,N] (by kernel_rfl) rfl rfl trivial (fun hHeld => ?_); refine with_tabW fastilaw29_BearingReports.tab24 fastilaw29_BearingReports.bits24 (fun HT_ HW_ => ?_)
               generalize w148.drew = w155 at HO_19 HO_21 BK213 BK214 BK225 BK226 BK256 BK257 HB hHeld ⊢
               refine pureA (i := 0) (N := some 155) #[Y,N,N,N,N,N,N,N,N,N,N,N,N,N,N,N] (any_of HT_.out (by kernel_rfl)) ?_
               refine pureA (i := 1) (N := some 156) #[Y,Y,N,N,N,N,N,N,N,N,N,N,N,N,N,N] (any_of HT_.out (by kernel_rfl)) ?_
               refine pureA (i := 2) (N := some 157) #[Y,Y,Y,N,N,N,N,N,N,N,N,N,N,N,N,N] (any_of HT_.out (by kernel_rfl)) ?_
               refine pureU (i := 3) (N := some 158) #[Y,Y,Y,Y,N,N,N,N,N,N,N,N,N,N,N,N] (any_of HT_.out (by kernel_rfl)) ?_
               refine pureU (i := 4) (N := some 159) #[Y,Y,Y,Y,Y,N,N,N,N,N,N,N,N,N,N,N] (any_of HT_.out (by kernel_rfl)) ?_
               refine pureU (i := 5) (N := some 160) #[Y,Y,Y,Y,Y,Y,N,N,N,N,N,N,N,N,N,N] (any_of HT_.out (by kernel_rfl)) ?_
               refine pureU (i := 6) (N := some 161) #[Y,Y,Y,Y,Y,Y,Y,N,N,N,N,N,N,N,N,N] (any_of HT_.out (by kernel_rfl)) ?_
               refine pureU (i := 7) (N := some 162) #[Y,Y,Y,Y,Y,Y,Y,Y,N,N,N,N,N,N,N,N] (any_of HT_.out (by kernel_rfl)) ?_
               refine pureU (i := 8) (N := some 163) #[Y,Y,Y,Y,Y,Y,Y,Y,Y,N,N,N,N,N,N,N] (any_of HT_.out (by kernel_rfl)) ?_
               refine pureU (i := 9) (N := some 164) #[Y,Y,Y,Y,Y,Y,Y,Y,Y,Y,N,N,N,N,N,N] (any_of HT_.out (by kernel_rfl)) ?_
               refine pureU (i := 10) (N := some 165) #[Y,Y,Y,Y,Y,Y,Y,Y,Y,Y,Y,N,N,N,N,N] (any_of HT_.out (by kernel_rfl)) ?_
               refine pureU (i := 11) (N := some 166) #[Y,Y,Y,Y,Y,Y,Y,Y,Y,Y,Y,Y,N,N,N,N] (any_of HT_.out (by kernel_rfl)) ?_
               refine pureU (i := 12) (N := some 167) #[Y,Y,Y,Y,Y,Y,Y,Y,Y,Y,Y,Y,Y,N,N,N] (any_of HT_.out (by kernel_rfl)) ?_
               refine pureU (i := 13) (N := some 168) #[Y,Y,Y,Y,Y,Y,Y,Y,Y,Y,Y,Y,Y,Y,N,N] (any_of HT_.out (by kernel_rfl)) ?_
               refine pureA (i := 14) (N := some 169) #[Y,Y,Y,Y,Y,Y,Y,Y,Y,Y,Y,Y,Y,Y,Y,N] (any_of HT_.out (by kernel_rfl)) ?_
               refine pureA (i := 15) (N := some 6) #[Y,Y,Y,Y,Y,Y,Y,Y,Y,Y,Y,Y,Y,Y,Y,Y] (any_of HT_.out (by kernel_rfl)) ?_
               refine done_ (done_of HT_.out (by kernel_rfl)) ?_
               try go_wp2
               go_meet
               case rel => exact ⟨_, (false), (by first | rfl | (simp; done) | (simp [*]; done)), H', ⟨by have := HJ5.out; have := HK2.out; have := HJ93.out; first | omega | exact Nat.le_refl _⟩, ⟨zk BK213.out⟩, ⟨zk BK214.out⟩, ⟨zk BK225.out⟩, ⟨zk BK226.out⟩, ⟨zk BK256.out⟩, ⟨zk BK257.out⟩, ⟨blw HB.out⟩⟩
             case rest =>
              clear HC145
              try clear c1
              try clear p2
              try clear q2
              try clear hx2
              try clear qi2
              try clear c14
              try clear c15
              try clear c19
              try clear p27
              try clear q27
              try clear hx27
              try clear p28
              try clear q28
              try clear hx28
              try clear qi28
              try clear c149
              try clear c149b0
              try clear c149b1
              try clear c150
              try clear c151
              try clear c151b0
              try clear c151b1
              try clear hx278_0
              try clear hx278_1
              try clear hx281_0
              try clear hx281_1
              try clear p278
              try clear p281
              try clear q278
              try clear q281
              obtain ⟨kq, x6_144, rfl, HA, HJ144, BK213, BK214, BK225, BK226, BK256, BK257, HB⟩ := hcut
              cases kq with
              | zero => exact absurd HA.out (by simp [fastilaw29_BearingReports.j3])
              | succ kj144 =>
               have H := HA.out
               clear HA
               simp only [fastilaw29_BearingReports.j3] at H
               obtain rfl := Option.some.inj H
               go_wp2
               go_ret
               exact ⟨by first | rfl | (simp [errW_none, errW_some] <;> rfl) | (simp [*, errW_none, errW_some] <;> rfl), blw HB.out⟩
            ·rw [if_neg c143] at H
             exact absurd H (by simp)
        ·rw [if_neg c91] at H
         exact absurd H (by simp)
 ·replace c5 := Bool.eq_false_iff.mpr c5
  subst c5
  have H1 : (none) = some r := by rw [if_neg (show ¬ (false = true) by decide)] at H; exact H
  clear H
  have H := H1
  clear H1
  exact absurd H (by simp)

end Go.Proofs.Ythfhjcbgccnijaa.Q
