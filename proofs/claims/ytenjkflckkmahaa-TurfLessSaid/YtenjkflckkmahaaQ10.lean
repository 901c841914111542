/- Functions of the translation as plain Lean functions, and proofs that the calls do what these say; written by a program of this session round the kit's print. -/
import Derived.Test.YtenjkflckkmahaaQ0
import Derived.Test.YtenjkflckkmahaaQ2
import Derived.Test.YtenjkflckkmahaaQ3
import Derived.Test.YtenjkflckkmahaaQ9
import Derived.Test.YtenjkflckkmahaaTurf
namespace Go.Proofs.Ytenjkflckkmahaa.Q
open Go.RowKit Go.Proofs.YtenjkflckkmahaaW.PrintWords Go.Proofs.YtenjkflckkmahaaW.PrintLast Go.Proofs.YtenjkflckkmahaaW.PrintMore
attribute [local go_sem] max2_int min2_int max_two min_two max_three min_three max_four min_four   -- for this text's walks alone
set_option linter.unusedVariables false
set_option linter.unusedSimpArgs false

/-! ### fastilaw28_TurfLess: function 12 -/
mutual
def fastilaw28_TurfLess.j0 : Nat → Int → Bool → ByteArray → ByteArray → Int → Int → Int → Int → Int → Int → Int → Int → Int → Int → Int → Int → Int → Int → Int → Int → Int → Int → Int → Option (Bool)
 | 0, _, _, _, _, _, _, _, _, _, _, _, _, _, _, _, _, _, _, _, _, _, _, _ => none
 | k + 1, x3, x37, x270000, x270001, x270002, x270003, x270004, x270005, x270006, x271000, x271001, x272000, x272001, x272002, x272003, x273000, x273001, x273002, x273003, x273004, x273005, x278000, x278001 => if x37 = true then (some false) else ((fastilaw28_part.f x272000 x272001 x273002 x273003).bind fun bt280 => ((fastilaw28_part.f x272002 x272003 x273004 x273005).bind fun bt282 => ((fastilaw28_part.f x271000 x271001 x273000 x273001).bind fun bt285 => ((turf_Next.f x270000 x270001 x270002 x270003 x270004 x270005 x270006 bt285.1 bt285.2 bt280.1 bt280.2 bt282.1 bt282.2 x3).bind fun bt287 => (if bt287.2.2 = 0 then ((fastilaw28_inside.f bt287.1 bt287.2.1 x278000 x278001).bind fun t291 => (fastilaw28_TurfLess.j1 k x3 (!t291) x270000 x270001 x270002 x270003 x270004 x270005 x270006 x271000 x271001 x272000 x272001 x272002 x272003 x278000 x278001)) else (fastilaw28_TurfLess.j1 k x3 true x270000 x270001 x270002 x270003 x270004 x270005 x270006 x271000 x271001 x272000 x272001 x272002 x272003 x278000 x278001))))))
def fastilaw28_TurfLess.j1 : Nat → Int → Bool → ByteArray → ByteArray → Int → Int → Int → Int → Int → Int → Int → Int → Int → Int → Int → Int → Int → Option (Bool)
 | 0, _, _, _, _, _, _, _, _, _, _, _, _, _, _, _, _, _ => none
 | k + 1, x3, x73, x270000, x270001, x270002, x270003, x270004, x270005, x270006, x271000, x271001, x272000, x272001, x272002, x272003, x278000, x278001 => if x73 = true then (some false) else (if x3 = 0 then (if x278000 < x271000 then (fastilaw28_TurfLess.j2 k x3 true x270000 x270001 x270002 x270003 x270004 x270005 x270006 x271000 x271001 x272000 x272001 x272002 x272003 x278000 x278001) else (fastilaw28_TurfLess.j2 k x3 (decide (x278001 < x271001)) x270000 x270001 x270002 x270003 x270004 x270005 x270006 x271000 x271001 x272000 x272001 x272002 x272003 x278000 x278001)) else (fastilaw28_TurfLess.j2 k x3 false x270000 x270001 x270002 x270003 x270004 x270005 x270006 x271000 x271001 x272000 x272001 x272002 x272003 x278000 x278001))
def fastilaw28_TurfLess.j2 : Nat → Int → Bool → ByteArray → ByteArray → Int → Int → Int → Int → Int → Int → Int → Int → Int → Int → Int → Int → Int → Option (Bool)
 | 0, _, _, _, _, _, _, _, _, _, _, _, _, _, _, _, _, _ => none
 | k + 1, x3, x89, x270000, x270001, x270002, x270003, x270004, x270005, x270006, x271000, x271001, x272000, x272001, x272002, x272003, x278000, x278001 => if x89 = true then (some false) else ((turf_Next.f x270000 x270001 x270002 x270003 x270004 x270005 x270006 x271000 x271001 x272000 x272001 x272002 x272003 (wrap64 (x3 + 1))).bind fun bt292 => (if x3 = 4 then (if bt292.2.2 = 280 then (fastilaw28_TurfLess.j3 k true) else (if bt292.2.2 = 0 then (if bt292.1 ≤ x278000 then (fastilaw28_TurfLess.j3 k (decide (bt292.2.1 ≤ x278001))) else (fastilaw28_TurfLess.j3 k false)) else (fastilaw28_TurfLess.j3 k false))) else (if bt292.2.2 = 0 then (if bt292.1 ≤ x278000 then (fastilaw28_TurfLess.j3 k (decide (bt292.2.1 ≤ x278001))) else (fastilaw28_TurfLess.j3 k false)) else (fastilaw28_TurfLess.j3 k false))))
def fastilaw28_TurfLess.j3 : Nat → Bool → Option (Bool)
 | 0, _ => none
 | k + 1, x10 => some x10
end
def fastilaw28_TurfLess.f (k : Nat) (a0_0 : ByteArray) (a0_1 : ByteArray) (a0_2 : Int) (a0_3 : Int) (a0_4 : Int) (a0_5 : Int) (a0_6 : Int) (a1_0 : Int) (a1_1 : Int) (a2_0 : Int) (a2_1 : Int) (a2_2 : Int) (a2_3 : Int) (a3 : Int) (a4_0 : Int) (a4_1 : Int) (a4_2 : Int) (a4_3 : Int) (a4_4 : Int) (a4_5 : Int) : Option (Bool) := (fastilaw28_sane.f k).bind fun t273 => (if t273 = true then ((turf_Next.f a0_0 a0_1 a0_2 a0_3 a0_4 a0_5 a0_6 a1_0 a1_1 a2_0 a2_1 a2_2 a2_3 a3).bind fun bt274 => (if bt274.2.2 = 0 then ((fastiref28_Right.f a1_0 a1_1 1000).bind fun t278 => (if t278 = true then ((fastiref28_Fine.f a2_0 a2_1 a2_2 a2_3).bind fun t279 => (fastilaw28_TurfLess.j0 k a3 (!t279) a0_0 a0_1 a0_2 a0_3 a0_4 a0_5 a0_6 a1_0 a1_1 a2_0 a2_1 a2_2 a2_3 a4_0 a4_1 a4_2 a4_3 a4_4 a4_5 bt274.1 bt274.2.1)) else (fastilaw28_TurfLess.j0 k a3 true a0_0 a0_1 a0_2 a0_3 a0_4 a0_5 a0_6 a1_0 a1_1 a2_0 a2_1 a2_2 a2_3 a4_0 a4_1 a4_2 a4_3 a4_4 a4_5 bt274.1 bt274.2.1))) else (some true))) else (some false))
theorem fastilaw28_TurfLess.mono_l : ∀ k, (∀ y0 y1 y2 y3 y4 y5 y6 y7 y8 y9 y10 y11 y12 y13 y14 y15 y16 y17 y18 y19 y20 y21 y22, LeO (fastilaw28_TurfLess.j0 k y0 y1 y2 y3 y4 y5 y6 y7 y8 y9 y10 y11 y12 y13 y14 y15 y16 y17 y18 y19 y20 y21 y22) (fastilaw28_TurfLess.j0 (k + 1) y0 y1 y2 y3 y4 y5 y6 y7 y8 y9 y10 y11 y12 y13 y14 y15 y16 y17 y18 y19 y20 y21 y22)) ∧ (∀ y0 y1 y2 y3 y4 y5 y6 y7 y8 y9 y10 y11 y12 y13 y14 y15 y16, LeO (fastilaw28_TurfLess.j1 k y0 y1 y2 y3 y4 y5 y6 y7 y8 y9 y10 y11 y12 y13 y14 y15 y16) (fastilaw28_TurfLess.j1 (k + 1) y0 y1 y2 y3 y4 y5 y6 y7 y8 y9 y10 y11 y12 y13 y14 y15 y16)) ∧ (∀ y0 y1 y2 y3 y4 y5 y6 y7 y8 y9 y10 y11 y12 y13 y14 y15 y16, LeO (fastilaw28_TurfLess.j2 k y0 y1 y2 y3 y4 y5 y6 y7 y8 y9 y10 y11 y12 y13 y14 y15 y16) (fastilaw28_TurfLess.j2 (k + 1) y0 y1 y2 y3 y4 y5 y6 y7 y8 y9 y10 y11 y12 y13 y14 y15 y16)) ∧ (∀ y0, LeO (fastilaw28_TurfLess.j3 k y0) (fastilaw28_TurfLess.j3 (k + 1) y0))
 | 0 => ⟨fun _ _ _ _ _ _ _ _ _ _ _ _ _ _ _ _ _ _ _ _ _ _ _ r h => by simp [fastilaw28_TurfLess.j0] at h, fun _ _ _ _ _ _ _ _ _ _ _ _ _ _ _ _ _ r h => by simp [fastilaw28_TurfLess.j1] at h, fun _ _ _ _ _ _ _ _ _ _ _ _ _ _ _ _ _ r h => by simp [fastilaw28_TurfLess.j2] at h, fun _ r h => by simp [fastilaw28_TurfLess.j3] at h⟩
 | k + 1 => by
  obtain ⟨ih0, ih1, ih2, ih3⟩ := fastilaw28_TurfLess.mono_l k
  refine ⟨?_, ?_, ?_, ?_⟩
  ·intro y0 y1 y2 y3 y4 y5 y6 y7 y8 y9 y10 y11 y12 y13 y14 y15 y16 y17 y18 y19 y20 y21 y22
   unfold fastilaw28_TurfLess.j0
   repeat' first
   | (with_reducible exact ih0 _ _ _ _ _ _ _ _ _ _ _ _ _ _ _ _ _ _ _ _ _ _ _)
   | (with_reducible exact ih1 _ _ _ _ _ _ _ _ _ _ _ _ _ _ _ _ _)
   | (with_reducible exact ih2 _ _ _ _ _ _ _ _ _ _ _ _ _ _ _ _ _)
   | (with_reducible exact ih3 _)
   | (with_reducible exact fastilaw28_sane.mono _)
   | (with_reducible exact LeO.refl _)
   | (with_reducible exact LeO.none _)
   | (with_reducible refine LeO.ite ?_ ?_)
   | (with_reducible refine LeO.bind ?_ (fun _ => ?_))
   | exact ih0 _ _ _ _ _ _ _ _ _ _ _ _ _ _ _ _ _ _ _ _ _ _ _
   | exact ih1 _ _ _ _ _ _ _ _ _ _ _ _ _ _ _ _ _
   | exact ih2 _ _ _ _ _ _ _ _ _ _ _ _ _ _ _ _ _
   | exact ih3 _
   | exact fastilaw28_sane.mono _
   | exact LeO.none _
   | refine LeO.ite ?_ ?_
   | refine LeO.bind ?_ (fun _ => ?_)
  ·intro y0 y1 y2 y3 y4 y5 y6 y7 y8 y9 y10 y11 y12 y13 y14 y15 y16
   unfold fastilaw28_TurfLess.j1
   repeat' first
   | (with_reducible exact ih0 _ _ _ _ _ _ _ _ _ _ _ _ _ _ _ _ _ _ _ _ _ _ _)
   | (with_reducible exact ih1 _ _ _ _ _ _ _ _ _ _ _ _ _ _ _ _ _)
   | (with_reducible exact ih2 _ _ _ _ _ _ _ _ _ _ _ _ _ _ _ _ _)
   | (with_reducible exact ih3 _)
   | (with_reducible exact fastilaw28_sane.mono _)
   | (with_reducible exact LeO.refl _)
   | (with_reducible exact LeO.none _)
   | (with_reducible refine LeO.ite ?_ ?_)
   | (with_reducible refine LeO.bind ?_ (fun _ => ?_))
   | exact ih0 _ _ _ _ _ _ _ _ _ _ _ _ _ _ _ _ _ _ _ _ _ _ _
   | exact ih1 _ _ _ _ _ _ _ _ _ _ _ _ _ _ _ _ _
   | exact ih2 _ _ _ _ _ _ _ _ _ _ _ _ _ _ _ _ _
   | exact ih3 _
   | exact fastilaw28_sane.mono _
   | exact LeO.none _
   | refine LeO.ite ?_ ?_
   | refine LeO.bind ?_ (fun _ => ?_)
  ·intro y0 y1 y2 y3 y4 y5 y6 y7 y8 y9 y10 y11 y12 y13 y14 y15 y16
   unfold fastilaw28_TurfLess.j2
   repeat' first
   | (with_reducible exact ih0 _ _ _ _ _ _ _ _ _ _ _ _ _ _ _ _ _ _ _ _ _ _ _)
   | (with_reducible exact ih1 _ _ _ _ _ _ _ _ _ _ _ _ _ _ _ _ _)
   | (with_reducible exact ih2 _ _ _ _ _ _ _ _ _ _ _ _ _ _ _ _ _)
   | (with_reducible exact ih3 _)
   | (with_reducible exact fastilaw28_sane.mono _)
   | (with_reducible exact LeO.refl _)
   | (with_reducible exact LeO.none _)
   | (with_reducible refine LeO.ite ?_ ?_)
   | (with_reducible refine LeO.bind ?_ (fun _ => ?_))
   | exact ih0 _ _ _ _ _ _ _ _ _ _ _ _ _ _ _ _ _ _ _ _ _ _ _
   | exact ih1 _ _ _ _ _ _ _ _ _ _ _ _ _ _ _ _ _
   | exact ih2 _ _ _ _ _ _ _ _ _ _ _ _ _ _ _ _ _
   | exact ih3 _
   | exact fastilaw28_sane.mono _
   | exact LeO.none _
   | refine LeO.ite ?_ ?_
   | refine LeO.bind ?_ (fun _ => ?_)
  ·intro y0
   unfold fastilaw28_TurfLess.j3
   repeat' first
   | (with_reducible exact ih0 _ _ _ _ _ _ _ _ _ _ _ _ _ _ _ _ _ _ _ _ _ _ _)
   | (with_reducible exact ih1 _ _ _ _ _ _ _ _ _ _ _ _ _ _ _ _ _)
   | (with_reducible exact ih2 _ _ _ _ _ _ _ _ _ _ _ _ _ _ _ _ _)
   | (with_reducible exact ih3 _)
   | (with_reducible exact fastilaw28_sane.mono _)
   | (with_reducible exact LeO.refl _)
   | (with_reducible exact LeO.none _)
   | (with_reducible refine LeO.ite ?_ ?_)
   | (with_reducible refine LeO.bind ?_ (fun _ => ?_))
   | exact ih0 _ _ _ _ _ _ _ _ _ _ _ _ _ _ _ _ _ _ _ _ _ _ _
   | exact ih1 _ _ _ _ _ _ _ _ _ _ _ _ _ _ _ _ _
   | exact ih2 _ _ _ _ _ _ _ _ _ _ _ _ _ _ _ _ _
   | exact ih3 _
   | exact fastilaw28_sane.mono _
   | exact LeO.none _
   | refine LeO.ite ?_ ?_
   | refine LeO.bind ?_ (fun _ => ?_)
theorem fastilaw28_TurfLess.mono : ∀ a0 a1 a2 a3 a4 a5 a6 a7 a8 a9 a10 a11 a12 a13 a14 a15 a16 a17 a18 a19 k, LeO (fastilaw28_TurfLess.f k a0 a1 a2 a3 a4 a5 a6 a7 a8 a9 a10 a11 a12 a13 a14 a15 a16 a17 a18 a19) (fastilaw28_TurfLess.f (k + 1) a0 a1 a2 a3 a4 a5 a6 a7 a8 a9 a10 a11 a12 a13 a14 a15 a16 a17 a18 a19) := by
 intro a0 a1 a2 a3 a4 a5 a6 a7 a8 a9 a10 a11 a12 a13 a14 a15 a16 a17 a18 a19 k
 obtain ⟨ih0, ih1, ih2, ih3⟩ := fastilaw28_TurfLess.mono_l k
 unfold fastilaw28_TurfLess.f
 repeat' first
   | (with_reducible exact ih0 _ _ _ _ _ _ _ _ _ _ _ _ _ _ _ _ _ _ _ _ _ _ _)
   | (with_reducible exact ih1 _ _ _ _ _ _ _ _ _ _ _ _ _ _ _ _ _)
   | (with_reducible exact ih2 _ _ _ _ _ _ _ _ _ _ _ _ _ _ _ _ _)
   | (with_reducible exact ih3 _)
   | (with_reducible exact fastilaw28_sane.mono _)
   | (with_reducible exact LeO.refl _)
   | (with_reducible exact LeO.none _)
   | (with_reducible refine LeO.ite ?_ ?_)
   | (with_reducible refine LeO.bind ?_ (fun _ => ?_))
   | exact ih0 _ _ _ _ _ _ _ _ _ _ _ _ _ _ _ _ _ _ _ _ _ _ _
   | exact ih1 _ _ _ _ _ _ _ _ _ _ _ _ _ _ _ _ _
   | exact ih2 _ _ _ _ _ _ _ _ _ _ _ _ _ _ _ _ _
   | exact ih3 _
   | exact fastilaw28_sane.mono _
   | exact LeO.none _
   | refine LeO.ite ?_ ?_
   | refine LeO.bind ?_ (fun _ => ?_)
def fastilaw28_TurfLess.T8 : Bool × List (List Nat × List Nat) := (true, [([], []), ([0], [0]), ([], []), ([2], [2]), ([], []), ([4], [4]), ([1, 3, 5], [1, 3, 5]), ([], []), ([7], [7]), ([], []), ([9], [9]), ([], []), ([11], [11]), ([8, 10, 12, 6], [8, 10, 12]), ([6, 13], [6, 13]), ([], []), ([15, 14, 13, 0, 1, 2, 3, 4, 5, 6, 7, 8, 9, 10, 11, 12, 13, 14, 15], [14, 15])])
def fastilaw28_TurfLess.B8 : List Nat := [0, 1, 0, 4, 0, 16, 63, 0, 128, 0, 512, 0, 2048, 8191, 16383, 0, 65535]
theorem fastilaw28_TurfLess.tab8 : rtab .any (opsOf Try.f12 8) = fastilaw28_TurfLess.T8 := by kernel_rfl
theorem fastilaw28_TurfLess.bits8 : waitsOk fastilaw28_TurfLess.T8.2 fastilaw28_TurfLess.B8 = true := by kernel_rfl
def fastilaw28_TurfLess.T9 : Bool × List (List Nat × List Nat) := (true, [([], []), ([], []), ([], []), ([2], [2]), ([], []), ([4], [4]), ([1, 3, 5], [1, 3, 5]), ([], []), ([], []), ([0, 6, 7, 8, 6], [0, 6, 7, 8]), ([9], [9]), ([10], [10]), ([10], [10]), ([], []), ([13, 11, 9, 0, 1, 2, 3, 4, 5, 6, 7, 8, 9, 10, 11, 13], [11, 13]), ([12, 14, 0, 1, 2, 3, 4, 5, 6, 7, 8, 9, 10, 11, 12, 13, 14], [12])])
def fastilaw28_TurfLess.B9 : List Nat := [0, 0, 0, 4, 0, 16, 62, 0, 0, 511, 1023, 2047, 2047, 0, 12287, 32767]
theorem fastilaw28_TurfLess.tab9 : rtab .any (opsOf Try.f12 9) = fastilaw28_TurfLess.T9 := by kernel_rfl
theorem fastilaw28_TurfLess.bits9 : waitsOk fastilaw28_TurfLess.T9.2 fastilaw28_TurfLess.B9 = true := by kernel_rfl
set_option maxHeartbeats 8000000 in
set_option maxRecDepth 100000 in
theorem fastilaw28_TurfLess.calls (k : Nat) (a0_0 : ByteArray) (a0_1 : ByteArray) (a0_2 : Int) (a0_3 : Int) (a0_4 : Int) (a0_5 : Int) (a0_6 : Int) (a1_0 : Int) (a1_1 : Int) (a2_0 : Int) (a2_1 : Int) (a2_2 : Int) (a2_3 : Int) (a3 : Int) (a4_0 : Int) (a4_1 : Int) (a4_2 : Int) (a4_3 : Int) (a4_4 : Int) (a4_5 : Int) (r : Bool) (w : World) (h : fastilaw28_TurfLess.f k a0_0 a0_1 a0_2 a0_3 a0_4 a0_5 a0_6 a1_0 a1_1 a2_0 a2_1 a2_2 a2_3 a3 a4_0 a4_1 a4_2 a4_3 a4_4 a4_5 = some r) :
  Calls Try.prog 12 #[.agg #[.string a0_0, .string a0_1, .int .i64 a0_2, .int .i64 a0_3, .int .i64 a0_4, .int .i64 a0_5, .int .i64 a0_6], .agg #[.int .i64 a1_0, .int .i64 a1_1], .agg #[.int .i64 a2_0, .int .i64 a2_1, .int .i64 a2_2, .int .i64 a2_3], .int .i64 a3, .agg #[.int .u16 a4_0, .int .u16 a4_1, .int .u16 a4_2, .int .u16 a4_3, .int .u16 a4_4, .int .u16 a4_5]] w fun e w' => e = .returned (.bool r) ∧ Below w.heap.size w w' := by
 have hu25 := Try.underlying25
 have hu27 := Try.underlying27
 have hu44 := Try.underlying44
 have hu64 := Try.underlying64
 have HB := Aside0.mk (Below.refl w.heap.size w)
 have H : ((fastilaw28_sane.f k).bind fun t273 => (if t273 = true then ((turf_Next.f a0_0 a0_1 a0_2 a0_3 a0_4 a0_5 a0_6 a1_0 a1_1 a2_0 a2_1 a2_2 a2_3 a3).bind fun bt274 => (if bt274.2.2 = 0 then ((fastiref28_Right.f a1_0 a1_1 1000).bind fun t278 => (if t278 = true then ((fastiref28_Fine.f a2_0 a2_1 a2_2 a2_3).bind fun t279 => (fastilaw28_TurfLess.j0 k a3 (!t279) a0_0 a0_1 a0_2 a0_3 a0_4 a0_5 a0_6 a1_0 a1_1 a2_0 a2_1 a2_2 a2_3 a4_0 a4_1 a4_2 a4_3 a4_4 a4_5 bt274.1 bt274.2.1)) else (fastilaw28_TurfLess.j0 k a3 true a0_0 a0_1 a0_2 a0_3 a0_4 a0_5 a0_6 a1_0 a1_1 a2_0 a2_1 a2_2 a2_3 a4_0 a4_1 a4_2 a4_3 a4_4 a4_5 bt274.1 bt274.2.1))) else (some true))) else (some false))) = some r := h
 clear h
 replace H := Option.bind_eq_some_iff.mp H
 obtain ⟨t273, A60, H⟩ := H
 replace H : (if t273 = true then ((turf_Next.f a0_0 a0_1 a0_2 a0_3 a0_4 a0_5 a0_6 a1_0 a1_1 a2_0 a2_1 a2_2 a2_3 a3).bind fun bt274 => (if bt274.2.2 = 0 then ((fastiref28_Right.f a1_0 a1_1 1000).bind fun t278 => (if t278 = true then ((fastiref28_Fine.f a2_0 a2_1 a2_2 a2_3).bind fun t279 => (fastilaw28_TurfLess.j0 k a3 (!t279) a0_0 a0_1 a0_2 a0_3 a0_4 a0_5 a0_6 a1_0 a1_1 a2_0 a2_1 a2_2 a2_3 a4_0 a4_1 a4_2 a4_3 a4_4 a4_5 bt274.1 bt274.2.1)) else (fastilaw28_TurfLess.j0 k a3 true a0_0 a0_1 a0_2 a0_3 a0_4 a0_5 a0_6 a1_0 a1_1 a2_0 a2_1 a2_2 a2_3 a4_0 a4_1 a4_2 a4_3 a4_4 a4_5 bt274.1 bt274.2.1))) else (some true))) else (some false)) = some r := H
 have A6 := Aside0.mk A60
 clear A60
 by_cases c7 : t273 = true
 ·subst c7
  have H1 : ((turf_Next.f a0_0 a0_1 a0_2 a0_3 a0_4 a0_5 a0_6 a1_0 a1_1 a2_0 a2_1 a2_2 a2_3 a3).bind fun bt274 => (if bt274.2.2 = 0 then ((fastiref28_Right.f a1_0 a1_1 1000).bind fun t278 => (if t278 = true then ((fastiref28_Fine.f a2_0 a2_1 a2_2 a2_3).bind fun t279 => (fastilaw28_TurfLess.j0 k a3 (!t279) a0_0 a0_1 a0_2 a0_3 a0_4 a0_5 a0_6 a1_0 a1_1 a2_0 a2_1 a2_2 a2_3 a4_0 a4_1 a4_2 a4_3 a4_4 a4_5 bt274.1 bt274.2.1)) else (fastilaw28_TurfLess.j0 k a3 true a0_0 a0_1 a0_2 a0_3 a0_4 a0_5 a0_6 a1_0 a1_1 a2_0 a2_1 a2_2 a2_3 a4_0 a4_1 a4_2 a4_3 a4_4 a4_5 bt274.1 bt274.2.1))) else (some true))) = some r := by rw [if_pos rfl] at H; exact H
  clear H
  have H := H1
  clear H1
  replace H := Option.bind_eq_some_iff.mp H
  obtain ⟨⟨t274, t275, t276⟩, A80, H⟩ := H
  replace H : (if t276 = 0 then ((fastiref28_Right.f a1_0 a1_1 1000).bind fun t278 => (if t278 = true then ((fastiref28_Fine.f a2_0 a2_1 a2_2 a2_3).bind fun t279 => (fastilaw28_TurfLess.j0 k a3 (!t279) a0_0 a0_1 a0_2 a0_3 a0_4 a0_5 a0_6 a1_0 a1_1 a2_0 a2_1 a2_2 a2_3 a4_0 a4_1 a4_2 a4_3 a4_4 a4_5 t274 t275)) else (fastilaw28_TurfLess.j0 k a3 true a0_0 a0_1 a0_2 a0_3 a0_4 a0_5 a0_6 a1_0 a1_1 a2_0 a2_1 a2_2 a2_3 a4_0 a4_1 a4_2 a4_3 a4_4 a4_5 t274 t275))) else (some true)) = some r := H
  have A8 := Aside0.mk A80
  clear A80
  by_cases c9 : t276 = 0
  ·rw [if_pos c9] at H
   have c9b0 : (t276 == 0) = true := beq_iff_eq.mpr c9
   have c9b1 : (t276 != 0) = false := bne_eq_false_iff_eq.mpr c9
   clear c9
   have HC10 := Aside0.mk H
   clear H
   go_enter Try.func12, Try.ntmps12
   go_upto_region 6 with (first | ((with_reducible refine gate_dst (N := 5) rfl ?_); refine box_event ?hg (N := 5) ?hd (cs := #[.string a0_0, .string a0_1, .int .i64 a0_2, .int .i64 a0_3, .int .i64 a0_4, .int .i64 a0_5, .int .i64 a0_6]) (t := 25) ?hr ?_; (case hd => rfl); (case hg => rfl); (case hr => first | (go_simp; done) | (go_simp; rfl)); intro gb269 hg w11 hbox hb; have n0_ := Aside0.mk (below_step (by repeat (first | (with_reducible first | exact HB.out | apply below_alloc | apply pw_below_drewN | apply below_drew1) | exact HB.out)) hb); have n1_ := Aside0.mk (hbox); have n2_ := Aside0.mk ((by rw [hg]; exact (below_size (by repeat (first | (with_reducible first | exact HB.out | apply below_alloc | apply pw_below_drewN | apply below_drew1) | exact HB.out))) : w.heap.size ≤ gb269)); have n3_ := Aside0.mk ((by rw [hg]; exact (below_size (by repeat (first | (with_reducible first | exact HB.out | apply below_alloc | apply pw_below_drewN | apply below_drew1) | exact HB.out))) : w.heap.size ≤ gb269)); clear HB; have HB := n0_; have BK269 := n1_; have GW269 := n2_; have GE269 := n3_; clear n0_ n1_ n2_ n3_; clear hb hbox hg) | ((with_reducible refine gate_dst (N := 6) rfl ?_); refine box_event ?hg (N := 6) ?hd (cs := #[.int .i64 a1_0, .int .i64 a1_1]) (t := 27) ?hr ?_; (case hd => rfl); (case hg => rfl); (case hr => first | (go_simp; done) | (go_simp; rfl)); intro gb270 hg w12 hbox hb; have n0_ := Aside0.mk (zb BK269.out hb); have n1_ := Aside0.mk (below_step (by repeat (first | (with_reducible first | exact HB.out | apply below_alloc | apply pw_below_drewN | apply below_drew1 | refine below_set ?_ GE269.out) | exact HB.out)) hb); have n2_ := Aside0.mk (hbox); have n3_ := Aside0.mk ((by rw [hg]; exact (below_size (by repeat (first | (with_reducible first | exact HB.out | apply below_alloc | apply pw_below_drewN | apply below_drew1 | refine below_set ?_ GE269.out) | exact HB.out))) : w.heap.size ≤ gb270)); have n4_ := Aside0.mk ((by rw [hg]; exact (below_size (by repeat (first | (with_reducible first | exact HB.out | apply below_alloc | apply pw_below_drewN | apply below_drew1 | refine below_set ?_ GE269.out) | exact HB.out))) : w.heap.size ≤ gb270)); have n5_ := Aside0.mk ((by rw [hg]; exact Nat.ne_of_lt (blk_lt (zk BK269.out)) : gb269 ≠ gb270)); have n6_ := Aside0.mk ((by rw [hg]; exact Nat.ne_of_gt (blk_lt (zk BK269.out)) : gb270 ≠ gb269)); clear BK269; clear HB; have BK269 := n0_; have HB := n1_; have BK270 := n2_; have GW270 := n3_; have GE270 := n4_; have NB269_270 := n5_; have NB270_269 := n6_; clear n0_ n1_ n2_ n3_ n4_ n5_ n6_; clear hb hbox hg) | ((with_reducible refine gate_dst (N := 7) rfl ?_); refine box_event ?hg (N := 7) ?hd (cs := #[.int .i64 a2_0, .int .i64 a2_1, .int .i64 a2_2, .int .i64 a2_3]) (t := 44) ?hr ?_; (case hd => rfl); (case hg => rfl); (case hr => first | (go_simp; done) | (go_simp; rfl)); intro gb271 hg w13 hbox hb; have n0_ := Aside0.mk (zb BK269.out hb); have n1_ := Aside0.mk (zb BK270.out hb); have n2_ := Aside0.mk (below_step (by repeat (first | (with_reducible first | exact HB.out | apply below_alloc | apply pw_below_drewN | apply below_drew1 | refine below_set ?_ GE269.out | refine below_set ?_ GE270.out) | exact HB.out)) hb); have n3_ := Aside0.mk (hbox); have n4_ := Aside0.mk ((by rw [hg]; exact (below_size (by repeat (first | (with_reducible first | exact HB.out | apply below_alloc | apply pw_below_drewN | apply below_drew1 | refine below_set ?_ GE269.out | refine below_set ?_ GE270.out) | exact HB.out))) : w.heap.size ≤ gb271)); have n5_ := Aside0.mk ((by rw [hg]; exact (below_size (by repeat (first | (with_reducible first | exact HB.out | apply below_alloc | apply pw_below_drewN | apply below_drew1 | refine below_set ?_ GE269.out | refine below_set ?_ GE270.out) | exact HB.out))) : w.heap.size ≤ gb271)); have n6_ := Aside0.mk ((by rw [hg]; exact Nat.ne_of_lt (blk_lt (zk BK269.out)) : gb269 ≠ gb271)); have n7_ := Aside0.mk ((by rw [hg]; exact Nat.ne_of_gt (blk_lt (zk BK269.out)) : gb271 ≠ gb269)); have n8_ := Aside0.mk ((by rw [hg]; exact Nat.ne_of_lt (blk_lt (zk BK270.out)) : gb270 ≠ gb271)); have n9_ := Aside0.mk ((by rw [hg]; exact Nat.ne_of_gt (blk_lt (zk BK270.out)) : gb271 ≠ gb270)); clear BK269; clear BK270; clear HB; have BK269 := n0_; have BK270 := n1_; have HB := n2_; have BK271 := n3_; have GW271 := n4_; have GE271 := n5_; have NB269_271 := n6_; have NB271_269 := n7_; have NB270_271 := n8_; have NB271_270 := n9_; clear n0_ n1_ n2_ n3_ n4_ n5_ n6_ n7_ n8_ n9_; clear hb hbox hg) | ((with_reducible refine gate_dst (N := 9) rfl ?_); refine box_event ?hg (N := 9) ?hd (cs := #[.int .u16 a4_0, .int .u16 a4_1, .int .u16 a4_2, .int .u16 a4_3, .int .u16 a4_4, .int .u16 a4_5]) (t := 64) ?hr ?_; (case hd => rfl); (case hg => rfl); (case hr => first | (go_simp; done) | (go_simp; rfl)); intro gb272 hg w14 hbox hb; have n0_ := Aside0.mk (zb BK269.out hb); have n1_ := Aside0.mk (zb BK270.out hb); have n2_ := Aside0.mk (zb BK271.out hb); have n3_ := Aside0.mk (below_step (by repeat (first | (with_reducible first | exact HB.out | apply below_alloc | apply pw_below_drewN | apply below_drew1 | refine below_set ?_ GE269.out | refine below_set ?_ GE270.out | refine below_set ?_ GE271.out) | exact HB.out)) hb); have n4_ := Aside0.mk (hbox); have n5_ := Aside0.mk ((by rw [hg]; exact (below_size (by repeat (first | (with_reducible first | exact HB.out | apply below_alloc | apply pw_below_drewN | apply below_drew1 | refine below_set ?_ GE269.out | refine below_set ?_ GE270.out | refine below_set ?_ GE271.out) | exact HB.out))) : w.heap.size ≤ gb272)); have n6_ := Aside0.mk ((by rw [hg]; exact (below_size (by repeat (first | (with_reducible first | exact HB.out | apply below_alloc | apply pw_below_drewN | apply below_drew1 | refine below_set ?_ GE269.out | refine below_set ?_ GE270.out | refine below_set ?_ GE271.out) | exact HB.out))) : w.heap.size ≤ gb272)); have n7_ := Aside0.mk ((by rw [hg]; exact Nat.ne_of_lt (blk_lt (zk BK269.out)) : gb269 ≠ gb272)); have n8_ := Aside0.mk ((by rw [hg]; exact Nat.ne_of_gt (blk_lt (zk BK269.out)) : gb272 ≠ gb269)); have n9_ := Aside0.mk ((by rw [hg]; exact Nat.ne_of_lt (blk_lt (zk BK270.out)) : gb270 ≠ gb272)); have n10_ := Aside0.mk ((by rw [hg]; exact Nat.ne_of_gt (blk_lt (zk BK270.out)) : gb272 ≠ gb270)); have n11_ := Aside0.mk ((by rw [hg]; exact Nat.ne_of_lt (blk_lt (zk BK271.out)) : gb271 ≠ gb272)); have n12_ := Aside0.mk ((by rw [hg]; exact Nat.ne_of_gt (blk_lt (zk BK271.out)) : gb272 ≠ gb271)); clear BK269; clear BK270; clear BK271; clear HB; have BK269 := n0_; have BK270 := n1_; have BK271 := n2_; have HB := n3_; have BK272 := n4_; have GW272 := n5_; have GE272 := n6_; have NB269_272 := n7_; have NB272_269 := n8_; have NB270_272 := n9_; have NB272_270 := n10_; have NB271_272 := n11_; have NB272_271 := n12_; clear n0_ n1_ n2_ n3_ n4_ n5_ n6_ n7_ n8_ n9_ n10_ n11_ n12_; clear hb hbox hg) | ((with_reducible refine gate_callee (f := 22) rfl ?_); refine goesL_ (some 18) rfl rfl Try.func22 (by kernel_rfl) rfl #[] rfl (by (try simp only [List.map_toArray, List.map_cons, List.map_nil]); first | done | rfl | (simp only [List.length_drop, List.length_take]; rfl)) ?_; (with_reducible refine (fastilaw28_sane.calls k  true _ A6.out).mono ?_); rintro e w15 ⟨rfl, hb⟩; refine ⟨_, rfl, ?_⟩; have n0_ := Aside0.mk (zb BK269.out hb); have n1_ := Aside0.mk (zb BK270.out hb); have n2_ := Aside0.mk (zb BK271.out hb); have n3_ := Aside0.mk (zb BK272.out hb); have n4_ := Aside0.mk (below_step (by repeat (first | (with_reducible first | exact HB.out | apply below_alloc | apply pw_below_drewN | apply below_drew1 | refine below_set ?_ GE269.out | refine below_set ?_ GE270.out | refine below_set ?_ GE271.out | refine below_set ?_ GE272.out) | exact HB.out)) hb); clear BK269; clear BK270; clear BK271; clear BK272; clear HB; have BK269 := n0_; have BK270 := n1_; have BK271 := n2_; have BK272 := n3_; have HB := n4_; clear n0_ n1_ n2_ n3_ n4_; (try clear hb); (try clear hb2); (try clear hk); (try clear hi); have hnb16 := NB269_270.out; have hnc16 := NB270_269.out; have hnb17 := NB269_271.out; have hnc17 := NB271_269.out; have hnb18 := NB269_272.out; have hnc18 := NB272_269.out; have hcz19_0 : w15.cell? ⟨gb269, 0, none⟩ = some (.string a0_0) := (blk_cell BK269.out 0).trans rfl; have hcz19_1 : w15.cell? ⟨gb269, 1, none⟩ = some (.string a0_1) := (blk_cell BK269.out 1).trans rfl; have hcz19_2 : w15.cell? ⟨gb269, 2, none⟩ = some (.int .i64 a0_2) := (blk_cell BK269.out 2).trans rfl; have hcz19_3 : w15.cell? ⟨gb269, 3, none⟩ = some (.int .i64 a0_3) := (blk_cell BK269.out 3).trans rfl; have hcz19_4 : w15.cell? ⟨gb269, 4, none⟩ = some (.int .i64 a0_4) := (blk_cell BK269.out 4).trans rfl; have hcz19_5 : w15.cell? ⟨gb269, 5, none⟩ = some (.int .i64 a0_5) := (blk_cell BK269.out 5).trans rfl; have hcz19_6 : w15.cell? ⟨gb269, 6, none⟩ = some (.int .i64 a0_6) := (blk_cell BK269.out 6).trans rfl; have hfz19_0 := blk_frozen BK269.out 0; have hfz19_1 := blk_frozen BK269.out 1; have hfz19_2 := blk_frozen BK269.out 2; have hfz19_3 := blk_frozen BK269.out 3; have hfz19_4 := blk_frozen BK269.out 4; have hfz19_5 := blk_frozen BK269.out 5; have hfz19_6 := blk_frozen BK269.out 6; have hnb20 := NB270_271.out; have hnc20 := NB271_270.out; have hnb21 := NB270_272.out; have hnc21 := NB272_270.out; have hcz22_0 : w15.cell? ⟨gb270, 0, none⟩ = some (.int .i64 a1_0) := (blk_cell BK270.out 0).trans rfl; have hcz22_1 : w15.cell? ⟨gb270, 1, none⟩ = some (.int .i64 a1_1) := (blk_cell BK270.out 1).trans rfl; have hfz22_0 := blk_frozen BK270.out 0; have hfz22_1 := blk_frozen BK270.out 1; have hnb23 := NB271_272.out; have hnc23 := NB272_271.out; have hcz24_0 : w15.cell? ⟨gb271, 0, none⟩ = some (.int .i64 a2_0) := (blk_cell BK271.out 0).trans rfl; have hcz24_1 : w15.cell? ⟨gb271, 1, none⟩ = some (.int .i64 a2_1) := (blk_cell BK271.out 1).trans rfl; have hcz24_2 : w15.cell? ⟨gb271, 2, none⟩ = some (.int .i64 a2_2) := (blk_cell BK271.out 2).trans rfl; have hcz24_3 : w15.cell? ⟨gb271, 3, none⟩ = some (.int .i64 a2_3) := (blk_cell BK271.out 3).trans rfl; have hfz24_0 := blk_frozen BK271.out 0; have hfz24_1 := blk_frozen BK271.out 1; have hfz24_2 := blk_frozen BK271.out 2; have hfz24_3 := blk_frozen BK271.out 3) | ((with_reducible refine gate_callee (f := 23) rfl ?_); refine goesL_ (some 25) rfl rfl Try.func23 (by kernel_rfl) rfl #[.agg #[.string a0_0, .string a0_1, .int .i64 a0_2, .int .i64 a0_3, .int .i64 a0_4, .int .i64 a0_5, .int .i64 a0_6], .agg #[.int .i64 a1_0, .int .i64 a1_1], .agg #[.int .i64 a2_0, .int .i64 a2_1, .int .i64 a2_2, .int .i64 a2_3], .int .i64 a3] rfl (by (try simp only [List.map_toArray, List.map_cons, List.map_nil]); first | done | rfl | (simp only [List.length_drop, List.length_take]; rfl)) ?_; (with_reducible refine (turf_Next.calls a0_0 a0_1 a0_2 a0_3 a0_4 a0_5 a0_6 a1_0 a1_1 a2_0 a2_1 a2_2 a2_3 a3 t274 t275 t276 _ A8.out).mono ?_); rintro e w25 ⟨rfl, hb⟩; refine ⟨_, rfl, ?_⟩; have n0_ := Aside0.mk (zb BK269.out hb); have n1_ := Aside0.mk (zb BK270.out hb); have n2_ := Aside0.mk (zb BK271.out hb); have n3_ := Aside0.mk (zb BK272.out hb); have n4_ := Aside0.mk (below_step (by repeat (first | (with_reducible first | exact HB.out | apply below_alloc | apply pw_below_drewN | apply below_drew1 | refine below_set ?_ GE269.out | refine below_set ?_ GE270.out | refine below_set ?_ GE271.out | refine below_set ?_ GE272.out) | exact HB.out)) hb); clear BK269; clear BK270; clear BK271; clear BK272; clear HB; have BK269 := n0_; have BK270 := n1_; have BK271 := n2_; have BK272 := n3_; have HB := n4_; clear n0_ n1_ n2_ n3_ n4_; (try clear hb); (try clear hb2); (try clear hk); (try clear hi)) | ((with_reducible refine gate_dst (N := 11) rfl ?_); refine box_event ?hg (N := 11) ?hd (cs := #[.int .i64 0, .int .i64 0]) (t := 27) ?hr ?_; (case hd => rfl); (case hg => rfl); (case hr => first | (go_simp; done) | (go_simp; rfl)); intro gb277 hg w26 hbox hb; have n0_ := Aside0.mk (zb BK269.out hb); have n1_ := Aside0.mk (zb BK270.out hb); have n2_ := Aside0.mk (zb BK271.out hb); have n3_ := Aside0.mk (zb BK272.out hb); have n4_ := Aside0.mk (below_step (by repeat (first | (with_reducible first | exact HB.out | apply below_alloc | apply pw_below_drewN | apply below_drew1 | refine below_set ?_ GE269.out | refine below_set ?_ GE270.out | refine below_set ?_ GE271.out | refine below_set ?_ GE272.out) | exact HB.out)) hb); have n5_ := Aside0.mk (hbox); have n6_ := Aside0.mk ((by rw [hg]; exact (below_size (by repeat (first | (with_reducible first | exact HB.out | apply below_alloc | apply pw_below_drewN | apply below_drew1 | refine below_set ?_ GE269.out | refine below_set ?_ GE270.out | refine below_set ?_ GE271.out | refine below_set ?_ GE272.out) | exact HB.out))) : w.heap.size ≤ gb277)); have n7_ := Aside0.mk ((by rw [hg]; exact (below_size (by repeat (first | (with_reducible first | exact HB.out | apply below_alloc | apply pw_below_drewN | apply below_drew1 | refine below_set ?_ GE269.out | refine below_set ?_ GE270.out | refine below_set ?_ GE271.out | refine below_set ?_ GE272.out) | exact HB.out))) : w.heap.size ≤ gb277)); have n8_ := Aside0.mk ((by rw [hg]; exact Nat.ne_of_lt (blk_lt (zk BK269.out)) : gb269 ≠ gb277)); have n9_ := Aside0.mk ((by rw [hg]; exact Nat.ne_of_gt (blk_lt (zk BK269.out)) : gb277 ≠ gb269)); have n10_ := Aside0.mk ((by rw [hg]; exact Nat.ne_of_lt (blk_lt (zk BK270.out)) : gb270 ≠ gb277)); have n11_ := Aside0.mk ((by rw [hg]; exact Nat.ne_of_gt (blk_lt (zk BK270.out)) : gb277 ≠ gb270)); have n12_ := Aside0.mk ((by rw [hg]; exact Nat.ne_of_lt (blk_lt (zk BK271.out)) : gb271 ≠ gb277)); have n13_ := Aside0.mk ((by rw [hg]; exact Nat.ne_of_gt (blk_lt (zk BK271.out)) : gb277 ≠ gb271)); have n14_ := Aside0.mk ((by rw [hg]; exact Nat.ne_of_lt (blk_lt (zk BK272.out)) : gb272 ≠ gb277)); have n15_ := Aside0.mk ((by rw [hg]; exact Nat.ne_of_gt (blk_lt (zk BK272.out)) : gb277 ≠ gb272)); clear BK269; clear BK270; clear BK271; clear BK272; clear HB; have BK269 := n0_; have BK270 := n1_; have BK271 := n2_; have BK272 := n3_; have HB := n4_; have BK277 := n5_; have GW277 := n6_; have GE277 := n7_; have NB269_277 := n8_; have NB277_269 := n9_; have NB270_277 := n10_; have NB277_270 := n11_; have NB271_277 := n12_; have NB277_271 := n13_; have NB272_277 := n14_; have NB277_272 := n15_; clear n0_ n1_ n2_ n3_ n4_ n5_ n6_ n7_ n8_ n9_ n10_ n11_ n12_ n13_ n14_ n15_; clear hb hbox hg; have hnb27 := NB277_269.out; have hnc27 := NB269_277.out; have hnb28 := NB277_270.out; have hnc28 := NB270_277.out; have hnb29 := NB277_271.out; have hnc29 := NB271_277.out; have hnb30 := NB277_272.out; have hnc30 := NB272_277.out; have hcz31_0 : w26.cell? ⟨gb277, 0, none⟩ = some (.int .i64 0) := (blk_cell BK277.out 0).trans rfl; have hcz31_1 : w26.cell? ⟨gb277, 1, none⟩ = some (.int .i64 0) := (blk_cell BK277.out 1).trans rfl; have hfz31_0 := blk_frozen BK277.out 0; have hfz31_1 := blk_frozen BK277.out 1))
   (try simp only [Act.put, List.setIfInBounds_toArray, List.set_cons_zero, List.set_cons_succ])
   go_cut [37] (fun v37 wc => ∃ (kq : Nat) (x37_9 : Bool), v37 = .bool x37_9 ∧ Aside0 (fastilaw28_TurfLess.j0 kq a3 x37_9 a0_0 a0_1 a0_2 a0_3 a0_4 a0_5 a0_6 a1_0 a1_1 a2_0 a2_1 a2_2 a2_3 a4_0 a4_1 a4_2 a4_3 a4_4 a4_5 t274 t275 = some r) ∧ Aside0 (kq ≤ k) ∧ Aside0 (wc.heap[gb269]? = some (.cells #[.string a0_0, .string a0_1, .int .i64 a0_2, .int .i64 a0_3, .int .i64 a0_4, .int .i64 a0_5, .int .i64 a0_6] 25 (0, 0))) ∧ Aside0 (wc.heap[gb270]? = some (.cells #[.int .i64 a1_0, .int .i64 a1_1] 27 (0, 0))) ∧ Aside0 (wc.heap[gb271]? = some (.cells #[.int .i64 a2_0, .int .i64 a2_1, .int .i64 a2_2, .int .i64 a2_3] 44 (0, 0))) ∧ Aside0 (wc.heap[gb272]? = some (.cells #[.int .u16 a4_0, .int .u16 a4_1, .int .u16 a4_2, .int .u16 a4_3, .int .u16 a4_4, .int .u16 a4_5] 64 (0, 0))) ∧ Aside0 (wc.heap[gb277]? = some (.cells #[.int .i64 t274, .int .i64 t275] 27 (0, 0))) ∧ Aside0 (Below w.heap.size w wc))
   case first =>
    have H := HC10.out
    clear HC10
    replace H := Option.bind_eq_some_iff.mp H
    obtain ⟨t278, A320, H⟩ := H
    replace H : (if t278 = true then ((fastiref28_Fine.f a2_0 a2_1 a2_2 a2_3).bind fun t279 => (fastilaw28_TurfLess.j0 k a3 (!t279) a0_0 a0_1 a0_2 a0_3 a0_4 a0_5 a0_6 a1_0 a1_1 a2_0 a2_1 a2_2 a2_3 a4_0 a4_1 a4_2 a4_3 a4_4 a4_5 t274 t275)) else (fastilaw28_TurfLess.j0 k a3 true a0_0 a0_1 a0_2 a0_3 a0_4 a0_5 a0_6 a1_0 a1_1 a2_0 a2_1 a2_2 a2_3 a4_0 a4_1 a4_2 a4_3 a4_4 a4_5 t274 t275)) = some r := H
    have A32 := Aside0.mk A320
    clear A320
    by_cases c33 : t278 = true
    ·subst c33
     have H1 : ((fastiref28_Fine.f a2_0 a2_1 a2_2 a2_3).bind fun t279 => (fastilaw28_TurfLess.j0 k a3 (!t279) a0_0 a0_1 a0_2 a0_3 a0_4 a0_5 a0_6 a1_0 a1_1 a2_0 a2_1 a2_2 a2_3 a4_0 a4_1 a4_2 a4_3 a4_4 a4_5 t274 t275)) = some r := by rw [if_pos rfl] at H; exact H
     clear H
     have H := H1
     clear H1
     replace H := Option.bind_eq_some_iff.mp H
     obtain ⟨t279, A340, H⟩ := H
     replace H : (fastilaw28_TurfLess.j0 k a3 (!t279) a0_0 a0_1 a0_2 a0_3 a0_4 a0_5 a0_6 a1_0 a1_1 a2_0 a2_1 a2_2 a2_3 a4_0 a4_1 a4_2 a4_3 a4_4 a4_5 t274 t275) = some r := H
     have A34 := Aside0.mk A340
     clear A340
     have H' := Aside0.mk H
     clear H
     have hnb35 := NB270_269.out
     have hnc35 := NB269_270.out
     have hnb36 := NB270_271.out
     have hnc36 := NB271_270.out
     have hnb37 := NB270_272.out
     have hnc37 := NB272_270.out
     have hnb38 := NB270_277.out
     have hnc38 := NB277_270.out
     have hcz39_0 : w26.cell? ⟨gb270, 0, none⟩ = some (.int .i64 a1_0) := (blk_cell BK270.out 0).trans rfl
     have hcz39_1 : w26.cell? ⟨gb270, 1, none⟩ = some (.int .i64 a1_1) := (blk_cell BK270.out 1).trans rfl
     have hfz39_0 := blk_frozen BK270.out 0
     have hfz39_1 := blk_frozen BK270.out 1
     go_wp2_with (first | ((with_reducible refine gate_callee (f := 30) rfl ?_); refine goesL_ (some 31) rfl rfl Try.func30 (by kernel_rfl) rfl #[.agg #[.int .i64 a1_0, .int .i64 a1_1], .int .i64 1000] rfl (by (try simp only [List.map_toArray, List.map_cons, List.map_nil]); first | done | rfl | (simp only [List.length_drop, List.length_take]; rfl)) ?_; (with_reducible refine (fastiref28_Right.calls a1_0 a1_1 1000 true _ A32.out).mono ?_); rintro e w40 ⟨rfl, hb⟩; refine ⟨_, rfl, ?_⟩; have n0_ := Aside0.mk (blk_below (g := gb269) (o := .cells #[.string a0_0, .string a0_1, .int .i64 a0_2, .int .i64 a0_3, .int .i64 a0_4, .int .i64 a0_5, .int .i64 a0_6] 25 (0, 0)) (by (with_reducible repeat (first | refine blk_drewN ?_ _ | refine blk_drew ?_ | refine blk_alloc ?_ _)); refine blk_far ?_ NB269_277.out _; (with_reducible repeat (first | refine blk_drewN ?_ _ | refine blk_drew ?_ | refine blk_alloc ?_ _)); refine blk_far ?_ NB269_277.out _; (with_reducible repeat (first | refine blk_drewN ?_ _ | refine blk_drew ?_ | refine blk_alloc ?_ _)); exact BK269.out) hb); have n1_ := Aside0.mk (blk_below (g := gb270) (o := .cells #[.int .i64 a1_0, .int .i64 a1_1] 27 (0, 0)) (by (with_reducible repeat (first | refine blk_drewN ?_ _ | refine blk_drew ?_ | refine blk_alloc ?_ _)); refine blk_far ?_ NB270_277.out _; (with_reducible repeat (first | refine blk_drewN ?_ _ | refine blk_drew ?_ | refine blk_alloc ?_ _)); refine blk_far ?_ NB270_277.out _; (with_reducible repeat (first | refine blk_drewN ?_ _ | refine blk_drew ?_ | refine blk_alloc ?_ _)); exact BK270.out) hb); have n2_ := Aside0.mk (blk_below (g := gb271) (o := .cells #[.int .i64 a2_0, .int .i64 a2_1, .int .i64 a2_2, .int .i64 a2_3] 44 (0, 0)) (by (with_reducible repeat (first | refine blk_drewN ?_ _ | refine blk_drew ?_ | refine blk_alloc ?_ _)); refine blk_far ?_ NB271_277.out _; (with_reducible repeat (first | refine blk_drewN ?_ _ | refine blk_drew ?_ | refine blk_alloc ?_ _)); refine blk_far ?_ NB271_277.out _; (with_reducible repeat (first | refine blk_drewN ?_ _ | refine blk_drew ?_ | refine blk_alloc ?_ _)); exact BK271.out) hb); have n3_ := Aside0.mk (blk_below (g := gb272) (o := .cells #[.int .u16 a4_0, .int .u16 a4_1, .int .u16 a4_2, .int .u16 a4_3, .int .u16 a4_4, .int .u16 a4_5] 64 (0, 0)) (by (with_reducible repeat (first | refine blk_drewN ?_ _ | refine blk_drew ?_ | refine blk_alloc ?_ _)); refine blk_far ?_ NB272_277.out _; (with_reducible repeat (first | refine blk_drewN ?_ _ | refine blk_drew ?_ | refine blk_alloc ?_ _)); refine blk_far ?_ NB272_277.out _; (with_reducible repeat (first | refine blk_drewN ?_ _ | refine blk_drew ?_ | refine blk_alloc ?_ _)); exact BK272.out) hb); have n4_ := Aside0.mk (blk_below (g := gb277) (o := .cells #[.int .i64 t274, .int .i64 t275] 27 (0, 0)) (by (with_reducible repeat (first | refine blk_drewN ?_ _ | refine blk_drew ?_ | refine blk_alloc ?_ _)); refine blk_put (cs := #[.int .i64 t274, .int .i64 0]) ?_ 1 _ rfl; (with_reducible repeat (first | refine blk_drewN ?_ _ | refine blk_drew ?_ | refine blk_alloc ?_ _)); refine blk_put (cs := #[.int .i64 0, .int .i64 0]) ?_ 0 _ rfl; (with_reducible repeat (first | refine blk_drewN ?_ _ | refine blk_drew ?_ | refine blk_alloc ?_ _)); exact BK277.out) hb); have n5_ := Aside0.mk (below_step (by repeat (first | (with_reducible first | exact HB.out | apply below_alloc | apply pw_below_drewN | apply below_drew1 | refine below_set ?_ GE269.out | refine below_set ?_ GE270.out | refine below_set ?_ GE271.out | refine below_set ?_ GE272.out | refine below_set ?_ GE277.out) | exact HB.out)) hb); clear BK269; clear BK270; clear BK271; clear BK272; clear BK277; clear HB; have BK269 := n0_; have BK270 := n1_; have BK271 := n2_; have BK272 := n3_; have BK277 := n4_; have HB := n5_; clear n0_ n1_ n2_ n3_ n4_ n5_; (try clear hb); (try clear hb2); (try clear hk); (try clear hi); have hnb41 := NB271_269.out; have hnc41 := NB269_271.out; have hnb42 := NB271_272.out; have hnc42 := NB272_271.out; have hnb43 := NB271_277.out; have hnc43 := NB277_271.out; have hcz44_0 : w40.cell? ⟨gb271, 0, none⟩ = some (.int .i64 a2_0) := (blk_cell BK271.out 0).trans rfl; have hcz44_1 : w40.cell? ⟨gb271, 1, none⟩ = some (.int .i64 a2_1) := (blk_cell BK271.out 1).trans rfl; have hcz44_2 : w40.cell? ⟨gb271, 2, none⟩ = some (.int .i64 a2_2) := (blk_cell BK271.out 2).trans rfl; have hcz44_3 : w40.cell? ⟨gb271, 3, none⟩ = some (.int .i64 a2_3) := (blk_cell BK271.out 3).trans rfl; have hfz44_0 := blk_frozen BK271.out 0; have hfz44_1 := blk_frozen BK271.out 1; have hfz44_2 := blk_frozen BK271.out 2; have hfz44_3 := blk_frozen BK271.out 3) | (go_at_call 31; (with_reducible refine (fastiref28_Fine.calls a2_0 a2_1 a2_2 a2_3 t279 _ A34.out).mono ?_); rintro e w45 ⟨rfl, hb⟩; have n0_ := Aside0.mk (zb BK269.out hb); have n1_ := Aside0.mk (zb BK270.out hb); have n2_ := Aside0.mk (zb BK271.out hb); have n3_ := Aside0.mk (zb BK272.out hb); have n4_ := Aside0.mk (zb BK277.out hb); have n5_ := Aside0.mk (below_step (by repeat (first | (with_reducible first | exact HB.out | apply below_alloc | apply pw_below_drewN | apply below_drew1 | refine below_set ?_ GE269.out | refine below_set ?_ GE270.out | refine below_set ?_ GE271.out | refine below_set ?_ GE272.out | refine below_set ?_ GE277.out) | exact HB.out)) hb); clear BK269; clear BK270; clear BK271; clear BK272; clear BK277; clear HB; have BK269 := n0_; have BK270 := n1_; have BK271 := n2_; have BK272 := n3_; have BK277 := n4_; have HB := n5_; clear n0_ n1_ n2_ n3_ n4_ n5_; (try clear hb); (try clear hb2); (try clear hk); (try clear hi)))
     go_meet
     case rel => exact ⟨_, (!t279), (by first | rfl | (simp; done) | (simp [*]; done)), H', ⟨by first | omega | exact Nat.le_refl _⟩, ⟨zk BK269.out⟩, ⟨zk BK270.out⟩, ⟨zk BK271.out⟩, ⟨zk BK272.out⟩, ⟨zk BK277.out⟩, ⟨by repeat (first | (with_reducible first | exact HB.out | apply below_alloc | apply pw_below_drewN | apply below_drew1 | refine below_set ?_ GE269.out | refine below_set ?_ GE270.out | refine below_set ?_ GE271.out | refine below_set ?_ GE272.out | refine below_set ?_ GE277.out) | exact HB.out)⟩⟩
    ·replace c33 := Bool.eq_false_iff.mpr c33
     subst c33
     have H1 : (fastilaw28_TurfLess.j0 k a3 true a0_0 a0_1 a0_2 a0_3 a0_4 a0_5 a0_6 a1_0 a1_1 a2_0 a2_1 a2_2 a2_3 a4_0 a4_1 a4_2 a4_3 a4_4 a4_5 t274 t275) = some r := by rw [if_neg (show ¬ (false = true) by decide)] at H; exact H
     clear H
     have H := H1
     clear H1
     have H' := Aside0.mk H
     clear H
     have hnb46 := NB270_269.out
     have hnc46 := NB269_270.out
     have hnb47 := NB270_271.out
     have hnc47 := NB271_270.out
     have hnb48 := NB270_272.out
     have hnc48 := NB272_270.out
     have hnb49 := NB270_277.out
     have hnc49 := NB277_270.out
     have hcz50_0 : w26.cell? ⟨gb270, 0, none⟩ = some (.int .i64 a1_0) := (blk_cell BK270.out 0).trans rfl
     have hcz50_1 : w26.cell? ⟨gb270, 1, none⟩ = some (.int .i64 a1_1) := (blk_cell BK270.out 1).trans rfl
     have hfz50_0 := blk_frozen BK270.out 0
     have hfz50_1 := blk_frozen BK270.out 1
     go_wp2_with (first | ((with_reducible refine gate_callee (f := 30) rfl ?_); refine goesL_ (some 31) rfl rfl Try.func30 (by kernel_rfl) rfl #[.agg #[.int .i64 a1_0, .int .i64 a1_1], .int .i64 1000] rfl (by (try simp only [List.map_toArray, List.map_cons, List.map_nil]); first | done | rfl | (simp only [List.length_drop, List.length_take]; rfl)) ?_; (with_reducible refine (fastiref28_Right.calls a1_0 a1_1 1000 false _ A32.out).mono ?_); rintro e w51 ⟨rfl, hb⟩; refine ⟨_, rfl, ?_⟩; have n0_ := Aside0.mk (blk_below (g := gb269) (o := .cells #[.string a0_0, .string a0_1, .int .i64 a0_2, .int .i64 a0_3, .int .i64 a0_4, .int .i64 a0_5, .int .i64 a0_6] 25 (0, 0)) (by (with_reducible repeat (first | refine blk_drewN ?_ _ | refine blk_drew ?_ | refine blk_alloc ?_ _)); refine blk_far ?_ NB269_277.out _; (with_reducible repeat (first | refine blk_drewN ?_ _ | refine blk_drew ?_ | refine blk_alloc ?_ _)); refine blk_far ?_ NB269_277.out _; (with_reducible repeat (first | refine blk_drewN ?_ _ | refine blk_drew ?_ | refine blk_alloc ?_ _)); exact BK269.out) hb); have n1_ := Aside0.mk (blk_below (g := gb270) (o := .cells #[.int .i64 a1_0, .int .i64 a1_1] 27 (0, 0)) (by (with_reducible repeat (first | refine blk_drewN ?_ _ | refine blk_drew ?_ | refine blk_alloc ?_ _)); refine blk_far ?_ NB270_277.out _; (with_reducible repeat (first | refine blk_drewN ?_ _ | refine blk_drew ?_ | refine blk_alloc ?_ _)); refine blk_far ?_ NB270_277.out _; (with_reducible repeat (first | refine blk_drewN ?_ _ | refine blk_drew ?_ | refine blk_alloc ?_ _)); exact BK270.out) hb); have n2_ := Aside0.mk (blk_below (g := gb271) (o := .cells #[.int .i64 a2_0, .int .i64 a2_1, .int .i64 a2_2, .int .i64 a2_3] 44 (0, 0)) (by (with_reducible repeat (first | refine blk_drewN ?_ _ | refine blk_drew ?_ | refine blk_alloc ?_ _)); refine blk_far ?_ NB271_277.out _; (with_reducible repeat (first | refine blk_drewN ?_ _ | refine blk_drew ?_ | refine blk_alloc ?_ _)); refine blk_far ?_ NB271_277.out _; (with_reducible repeat (first | refine blk_drewN ?_ _ | refine blk_drew ?_ | refine blk_alloc ?_ _)); exact BK271.out) hb); have n3_ := Aside0.mk (blk_below (g := gb272) (o := .cells #[.int .u16 a4_0, .int .u16 a4_1, .int .u16 a4_2, .int .u16 a4_3, .int .u16 a4_4, .int .u16 a4_5] 64 (0, 0)) (by (with_reducible repeat (first | refine blk_drewN ?_ _ | refine blk_drew ?_ | refine blk_alloc ?_ _)); refine blk_far ?_ NB272_277.out _; (with_reducible repeat (first | refine blk_drewN ?_ _ | refine blk_drew ?_ | refine blk_alloc ?_ _)); refine blk_far ?_ NB272_277.out _; (with_reducible repeat (first | refine blk_drewN ?_ _ | refine blk_drew ?_ | refine blk_alloc ?_ _)); exact BK272.out) hb); have n4_ := Aside0.mk (blk_below (g := gb277) (o := .cells #[.int .i64 t274, .int .i64 t275] 27 (0, 0)) (by (with_reducible repeat (first | refine blk_drewN ?_ _ | refine blk_drew ?_ | refine blk_alloc ?_ _)); refine blk_put (cs := #[.int .i64 t274, .int .i64 0]) ?_ 1 _ rfl; (with_reducible repeat (first | refine blk_drewN ?_ _ | refine blk_drew ?_ | refine blk_alloc ?_ _)); refine blk_put (cs := #[.int .i64 0, .int .i64 0]) ?_ 0 _ rfl; (with_reducible repeat (first | refine blk_drewN ?_ _ | refine blk_drew ?_ | refine blk_alloc ?_ _)); exact BK277.out) hb); have n5_ := Aside0.mk (below_step (by repeat (first | (with_reducible first | exact HB.out | apply below_alloc | apply pw_below_drewN | apply below_drew1 | refine below_set ?_ GE269.out | refine below_set ?_ GE270.out | refine below_set ?_ GE271.out | refine below_set ?_ GE272.out | refine below_set ?_ GE277.out) | exact HB.out)) hb); clear BK269; clear BK270; clear BK271; clear BK272; clear BK277; clear HB; have BK269 := n0_; have BK270 := n1_; have BK271 := n2_; have BK272 := n3_; have BK277 := n4_; have HB := n5_; clear n0_ n1_ n2_ n3_ n4_ n5_; (try clear hb); (try clear hb2); (try clear hk); (try clear hi)))
     go_meet
     case rel => exact ⟨_, (true), (by first | rfl | (simp; done) | (simp [*]; done)), H', ⟨by first | omega | exact Nat.le_refl _⟩, ⟨zk BK269.out⟩, ⟨zk BK270.out⟩, ⟨zk BK271.out⟩, ⟨zk BK272.out⟩, ⟨zk BK277.out⟩, ⟨by repeat (first | (with_reducible first | exact HB.out | apply below_alloc | apply pw_below_drewN | apply below_drew1 | refine below_set ?_ GE269.out | refine below_set ?_ GE270.out | refine below_set ?_ GE271.out | refine below_set ?_ GE272.out | refine below_set ?_ GE277.out) | exact HB.out)⟩⟩
   case rest =>
    clear HC10
    try clear c1
    try clear c2
    try clear p2
    try clear c3
    try clear c4
    try clear c7
    try clear c9
    try clear c9b0
    try clear c9b1
    try clear c12
    try clear c16
    try clear c17
    try clear c18
    try clear c20
    try clear c21
    try clear c22
    try clear c23
    try clear c27
    try clear c28
    try clear c29
    try clear c30
    try clear c33
    try clear c35
    try clear c36
    try clear c37
    try clear c38
    try clear c41
    try clear c42
    try clear c43
    try clear c46
    try clear c47
    try clear c48
    try clear c49
    try clear hcz19_0
    try clear hcz19_1
    try clear hcz19_2
    try clear hcz19_3
    try clear hcz19_4
    try clear hcz19_5
    try clear hcz19_6
    try clear hcz22_0
    try clear hcz22_1
    try clear hcz24_0
    try clear hcz24_1
    try clear hcz24_2
    try clear hcz24_3
    try clear hcz31_0
    try clear hcz31_1
    try clear hcz39_0
    try clear hcz39_1
    try clear hcz44_0
    try clear hcz44_1
    try clear hcz44_2
    try clear hcz44_3
    try clear hcz50_0
    try clear hcz50_1
    try clear hfz19_0
    try clear hfz19_1
    try clear hfz19_2
    try clear hfz19_3
    try clear hfz19_4
    try clear hfz19_5
    try clear hfz19_6
    try clear hfz22_0
    try clear hfz22_1
    try clear hfz24_0
    try clear hfz24_1
    try clear hfz24_2
    try clear hfz24_3
    try clear hfz31_0
    try clear hfz31_1
    try clear hfz39_0
    try clear hfz39_1
    try clear hfz44_0
    try clear hfz44_1
    try clear hfz44_2
    try clear hfz44_3
    try clear hfz50_0
    try clear hfz50_1
    obtain ⟨kq, x37_9, rfl, HA, HJ9, BK269, BK270, BK271, BK272, BK277, HB⟩ := hcut
    cases kq with
    | zero => exact absurd HA.out (by simp [fastilaw28_TurfLess.j0])
    | succ kj9 =>
     have H := HA.out
     clear HA
     simp only [fastilaw28_TurfLess.j0] at H
     by_cases c52 : x37_9 = true
     ·subst c52
      have H1 : (some false) = some r := by rw [if_pos rfl] at H; exact H
      clear H
      have H := H1
      clear H1
      obtain rfl := Option.some.inj H
      go_wp2
      go_ret
      exact ⟨by first | rfl | (simp [errW_none, errW_some] <;> rfl) | (simp [*, errW_none, errW_some] <;> rfl), by repeat (first | (with_reducible first | exact HB.out | apply below_alloc | apply pw_below_drewN | apply below_drew1 | refine below_set ?_ GE269.out | refine below_set ?_ GE270.out | refine below_set ?_ GE271.out | refine below_set ?_ GE272.out | refine below_set ?_ GE277.out) | exact HB.out)⟩
     ·replace c52 := Bool.eq_false_iff.mpr c52
      subst c52
      have H1 : ((fastilaw28_part.f a2_0 a2_1 a4_2 a4_3).bind fun bt280 => ((fastilaw28_part.f a2_2 a2_3 a4_4 a4_5).bind fun bt282 => ((fastilaw28_part.f a1_0 a1_1 a4_0 a4_1).bind fun bt285 => ((turf_Next.f a0_0 a0_1 a0_2 a0_3 a0_4 a0_5 a0_6 bt285.1 bt285.2 bt280.1 bt280.2 bt282.1 bt282.2 a3).bind fun bt287 => (if bt287.2.2 = 0 then ((fastilaw28_inside.f bt287.1 bt287.2.1 t274 t275).bind fun t291 => (fastilaw28_TurfLess.j1 kj9 a3 (!t291) a0_0 a0_1 a0_2 a0_3 a0_4 a0_5 a0_6 a1_0 a1_1 a2_0 a2_1 a2_2 a2_3 t274 t275)) else (fastilaw28_TurfLess.j1 kj9 a3 true a0_0 a0_1 a0_2 a0_3 a0_4 a0_5 a0_6 a1_0 a1_1 a2_0 a2_1 a2_2 a2_3 t274 t275)))))) = some r := by rw [if_neg (show ¬ (false = true) by decide)] at H; exact H
      clear H
      have H := H1
      clear H1
      replace H := Option.bind_eq_some_iff.mp H
      obtain ⟨⟨t280, t281⟩, A530, H⟩ := H
      replace H : ((fastilaw28_part.f a2_2 a2_3 a4_4 a4_5).bind fun bt282 => ((fastilaw28_part.f a1_0 a1_1 a4_0 a4_1).bind fun bt285 => ((turf_Next.f a0_0 a0_1 a0_2 a0_3 a0_4 a0_5 a0_6 bt285.1 bt285.2 t280 t281 bt282.1 bt282.2 a3).bind fun bt287 => (if bt287.2.2 = 0 then ((fastilaw28_inside.f bt287.1 bt287.2.1 t274 t275).bind fun t291 => (fastilaw28_TurfLess.j1 kj9 a3 (!t291) a0_0 a0_1 a0_2 a0_3 a0_4 a0_5 a0_6 a1_0 a1_1 a2_0 a2_1 a2_2 a2_3 t274 t275)) else (fastilaw28_TurfLess.j1 kj9 a3 true a0_0 a0_1 a0_2 a0_3 a0_4 a0_5 a0_6 a1_0 a1_1 a2_0 a2_1 a2_2 a2_3 t274 t275))))) = some r := H
      have A53 := Aside0.mk A530
      clear A530
      replace H := Option.bind_eq_some_iff.mp H
      obtain ⟨⟨t282, t283⟩, A540, H⟩ := H
      replace H : ((fastilaw28_part.f a1_0 a1_1 a4_0 a4_1).bind fun bt285 => ((turf_Next.f a0_0 a0_1 a0_2 a0_3 a0_4 a0_5 a0_6 bt285.1 bt285.2 t280 t281 t282 t283 a3).bind fun bt287 => (if bt287.2.2 = 0 then ((fastilaw28_inside.f bt287.1 bt287.2.1 t274 t275).bind fun t291 => (fastilaw28_TurfLess.j1 kj9 a3 (!t291) a0_0 a0_1 a0_2 a0_3 a0_4 a0_5 a0_6 a1_0 a1_1 a2_0 a2_1 a2_2 a2_3 t274 t275)) else (fastilaw28_TurfLess.j1 kj9 a3 true a0_0 a0_1 a0_2 a0_3 a0_4 a0_5 a0_6 a1_0 a1_1 a2_0 a2_1 a2_2 a2_3 t274 t275)))) = some r := H
      have A54 := Aside0.mk A540
      clear A540
      replace H := Option.bind_eq_some_iff.mp H
      obtain ⟨⟨t285, t286⟩, A550, H⟩ := H
      replace H : ((turf_Next.f a0_0 a0_1 a0_2 a0_3 a0_4 a0_5 a0_6 t285 t286 t280 t281 t282 t283 a3).bind fun bt287 => (if bt287.2.2 = 0 then ((fastilaw28_inside.f bt287.1 bt287.2.1 t274 t275).bind fun t291 => (fastilaw28_TurfLess.j1 kj9 a3 (!t291) a0_0 a0_1 a0_2 a0_3 a0_4 a0_5 a0_6 a1_0 a1_1 a2_0 a2_1 a2_2 a2_3 t274 t275)) else (fastilaw28_TurfLess.j1 kj9 a3 true a0_0 a0_1 a0_2 a0_3 a0_4 a0_5 a0_6 a1_0 a1_1 a2_0 a2_1 a2_2 a2_3 t274 t275))) = some r := H
      have A55 := Aside0.mk A550
      clear A550
      replace H := Option.bind_eq_some_iff.mp H
      obtain ⟨⟨t287, t288, t289⟩, A560, H⟩ := H
      replace H : (if t289 = 0 then ((fastilaw28_inside.f t287 t288 t274 t275).bind fun t291 => (fastilaw28_TurfLess.j1 kj9 a3 (!t291) a0_0 a0_1 a0_2 a0_3 a0_4 a0_5 a0_6 a1_0 a1_1 a2_0 a2_1 a2_2 a2_3 t274 t275)) else (fastilaw28_TurfLess.j1 kj9 a3 true a0_0 a0_1 a0_2 a0_3 a0_4 a0_5 a0_6 a1_0 a1_1 a2_0 a2_1 a2_2 a2_3 t274 t275)) = some r := H
      have A56 := Aside0.mk A560
      clear A560
      have HC57 := Aside0.mk H
      clear H
      try go_wp2
      have n0_ := Aside0.mk (blk_drew BK269.out)
      have n1_ := Aside0.mk (blk_drew BK270.out)
      have n2_ := Aside0.mk (blk_drew BK271.out)
      have n3_ := Aside0.mk (blk_drew BK272.out)
      have n4_ := Aside0.mk (blk_drew BK277.out)
      have n5_ := Aside0.mk (below_drew1 HB.out)
      clear BK269
      clear BK270
      clear BK271
      clear BK272
      clear BK277
      clear HB
      have BK269 := n0_
      have BK270 := n1_
      have BK271 := n2_
      have BK272 := n3_
      have BK277 := n4_
      have HB := n5_
      clear n0_ n1_ n2_ n3_ n4_ n5_
      refine start_ (n := 17) (S := fun w' => w'.cell? ⟨gb271, 0, none⟩ = some (.int .i64 a2_0) ∧ w'.cell? ⟨gb271, 1, none⟩ = some (.int .i64 a2_1) ∧ w'.cell? ⟨gb271, 2, none⟩ = some (.int .i64 a2_2) ∧ w'.cell? ⟨gb271, 3, none⟩ = some (.int .i64 a2_3) ∧ w'.cell? ⟨gb272, 0, none⟩ = some (.int .u16 a4_0) ∧ w'.cell? ⟨gb272, 1, none⟩ = some (.int .u16 a4_1) ∧ w'.cell? ⟨gb272, 2, none⟩ = some (.int .u16 a4_2) ∧ w'.cell? ⟨gb272, 3, none⟩ = some (.int .u16 a4_3) ∧ w'.cell? ⟨gb272, 4, none⟩ = some (.int .u16 a4_4) ∧ w'.cell? ⟨gb272, 5, none⟩ = some (.int .u16 a4_5)) (ds := []) #[false, false, false, false, false, false, false, false, false, false, false, false, false, false, false, false, false] (by kernel_rfl) rfl rfl ⟨(blk_cell BK271.out 0).trans rfl, (blk_cell BK271.out 1).trans rfl, (blk_cell BK271.out 2).trans rfl, (blk_cell BK271.out 3).trans rfl, (blk_cell BK272.out 0).trans rfl, (blk_cell BK272.out 1).trans rfl, (blk_cell BK272.out 2).trans rfl, (blk_cell BK272.out 3).trans rfl, (blk_cell BK272.out 4).trans rfl, (blk_cell BK272.out 5).trans rfl⟩ (fun hHeld => ?_); refine with_tabW fastilaw28_TurfLess.tab8 fastilaw28_TurfLess.bits8 (fun HT_ HW_ => ?_)
      generalize wc.drew = w58 at BK269 BK270 BK271 BK272 BK277 HB hHeld ⊢
      refine pure_ (i := 0) (N := some 38) (v := ?_) (a' := ?_) #[true, false, false, false, false, false, false, false, false, false, false, false, false, false, false, false, false] rfl rfl (any_of HT_.out (by kernel_rfl)) (fun _ _ _ h => h) (Or.inl ⟨by rfl, ?_⟩) ?_ ?_
      rotate_left
      ·intro w'
       go_simp
       with_reducible rfl
      rotate_left
      ·simp only [Act.put, List.setIfInBounds_toArray, List.set_cons_zero, List.set_cons_succ, i64_w, i32_w]
       rfl
      refine pure_ (i := 2) (N := some 40) (v := ?_) (a' := ?_) #[true, false, true, false, false, false, false, false, false, false, false, false, false, false, false, false, false] rfl rfl (any_of HT_.out (by kernel_rfl)) (fun _ _ _ h => h) (Or.inl ⟨by rfl, ?_⟩) ?_ ?_
      rotate_left
      ·intro w'
       go_simp
       with_reducible rfl
      rotate_left
      ·simp only [Act.put, List.setIfInBounds_toArray, List.set_cons_zero, List.set_cons_succ, i64_w, i32_w]
       rfl
      refine pure_ (i := 4) (N := some 42) (v := ?_) (a' := ?_) #[true, false, true, false, true, false, false, false, false, false, false, false, false, false, false, false, false] rfl rfl (any_of HT_.out (by kernel_rfl)) (fun _ _ _ h => h) (Or.inl ⟨by rfl, ?_⟩) ?_ ?_
      rotate_left
      ·intro w'
       go_simp
       with_reducible rfl
      rotate_left
      ·simp only [Act.put, List.setIfInBounds_toArray, List.set_cons_zero, List.set_cons_succ, i64_w, i32_w]
       rfl
      refine pure_ (i := 7) (N := some 45) (v := ?_) (a' := ?_) #[true, false, true, false, true, false, false, true, false, false, false, false, false, false, false, false, false] rfl rfl (any_of HT_.out (by kernel_rfl)) (fun _ _ _ h => h) (Or.inl ⟨by rfl, ?_⟩) ?_ ?_
      rotate_left
      ·intro w'
       go_simp
       with_reducible rfl
      rotate_left
      ·simp only [Act.put, List.setIfInBounds_toArray, List.set_cons_zero, List.set_cons_succ, i64_w, i32_w]
       rfl
      refine pure_ (i := 9) (N := some 47) (v := ?_) (a' := ?_) #[true, false, true, false, true, false, false, true, false, true, false, false, false, false, false, false, false] rfl rfl (any_of HT_.out (by kernel_rfl)) (fun _ _ _ h => h) (Or.inl ⟨by rfl, ?_⟩) ?_ ?_
      rotate_left
      ·intro w'
       go_simp
       with_reducible rfl
      rotate_left
      ·simp only [Act.put, List.setIfInBounds_toArray, List.set_cons_zero, List.set_cons_succ, i64_w, i32_w]
       rfl
      refine pure_ (i := 11) (N := some 49) (v := ?_) (a' := ?_) #[true, false, true, false, true, false, false, true, false, true, false, true, false, false, false, false, false] rfl rfl (any_of HT_.out (by kernel_rfl)) (fun _ _ _ h => h) (Or.inl ⟨by rfl, ?_⟩) ?_ ?_
      rotate_left
      ·intro w'
       go_simp
       with_reducible rfl
      rotate_left
      ·simp only [Act.put, List.setIfInBounds_toArray, List.set_cons_zero, List.set_cons_succ, i64_w, i32_w]
       rfl
      refine take_ (i := 1) (N := some 39) (v := ?_) (a' := ?_) #[true, true, true, false, true, false, false, true, false, true, false, true, false, false, false, false, false] rfl rfl (take_ofW HT_.out HW_.out (by kernel_rfl)) (fun _ _ _ h => h) (Or.inl ⟨by rfl, ?_⟩) hHeld ?_ ?_
      rotate_left
      ·rintro w' ⟨s0, s1, s2, s3, s4, s5, s6, s7, s8, s9⟩
       go_simp
       with_reducible rfl
      rotate_left
      ·simp only [Act.put, List.setIfInBounds_toArray, List.set_cons_zero, List.set_cons_succ, i64_w, i32_w]
       rfl
      refine take_ (i := 3) (N := some 41) (v := ?_) (a' := ?_) #[true, true, true, true, true, false, false, true, false, true, false, true, false, false, false, false, false] rfl rfl (take_ofW HT_.out HW_.out (by kernel_rfl)) (fun _ _ _ h => h) (Or.inl ⟨by rfl, ?_⟩) hHeld ?_ ?_
      rotate_left
      ·rintro w' ⟨s0, s1, s2, s3, s4, s5, s6, s7, s8, s9⟩
       go_simp
       with_reducible rfl
      rotate_left
      ·simp only [Act.put, List.setIfInBounds_toArray, List.set_cons_zero, List.set_cons_succ, i64_w, i32_w]
       rfl
      refine take_ (i := 5) (N := some 43) (v := ?_) (a' := ?_) #[true, true, true, true, true, true, false, true, false, true, false, true, false, false, false, false, false] rfl rfl (take_ofW HT_.out HW_.out (by kernel_rfl)) (fun _ _ _ h => h) (Or.inl ⟨by rfl, ?_⟩) hHeld ?_ ?_
      rotate_left
      ·rintro w' ⟨s0, s1, s2, s3, s4, s5, s6, s7, s8, s9⟩
       go_simp
       with_reducible rfl
      rotate_left
      ·simp only [Act.put, List.setIfInBounds_toArray, List.set_cons_zero, List.set_cons_succ, i64_w, i32_w]
       rfl
      refine take_ (i := 8) (N := some 46) (v := ?_) (a' := ?_) #[true, true, true, true, true, true, false, true, true, true, false, true, false, false, false, false, false] rfl rfl (take_ofW HT_.out HW_.out (by kernel_rfl)) (fun _ _ _ h => h) (Or.inl ⟨by rfl, ?_⟩) hHeld ?_ ?_
      rotate_left
      ·rintro w' ⟨s0, s1, s2, s3, s4, s5, s6, s7, s8, s9⟩
       go_simp
       with_reducible rfl
      rotate_left
      ·simp only [Act.put, List.setIfInBounds_toArray, List.set_cons_zero, List.set_cons_succ, i64_w, i32_w]
       rfl
      refine take_ (i := 10) (N := some 48) (v := ?_) (a' := ?_) #[true, true, true, true, true, true, false, true, true, true, true, true, false, false, false, false, false] rfl rfl (take_ofW HT_.out HW_.out (by kernel_rfl)) (fun _ _ _ h => h) (Or.inl ⟨by rfl, ?_⟩) hHeld ?_ ?_
      rotate_left
      ·rintro w' ⟨s0, s1, s2, s3, s4, s5, s6, s7, s8, s9⟩
       go_simp
       with_reducible rfl
      rotate_left
      ·simp only [Act.put, List.setIfInBounds_toArray, List.set_cons_zero, List.set_cons_succ, i64_w, i32_w]
       rfl
      refine take_ (i := 12) (N := some 50) (v := ?_) (a' := ?_) #[true, true, true, true, true, true, false, true, true, true, true, true, true, false, false, false, false] rfl rfl (take_ofW HT_.out HW_.out (by kernel_rfl)) (fun _ _ _ h => h) (Or.inl ⟨by rfl, ?_⟩) hHeld ?_ ?_
      rotate_left
      ·rintro w' ⟨s0, s1, s2, s3, s4, s5, s6, s7, s8, s9⟩
       go_simp
       with_reducible rfl
      rotate_left
      ·simp only [Act.put, List.setIfInBounds_toArray, List.set_cons_zero, List.set_cons_succ, i64_w, i32_w]
       rfl
      refine join_ (σ := Nat) 1 #[true, true, true, true, true, true, true, true, true, true, true, true, true, true, true, true, false] (fun s_ => [(44, .agg #[.int .i64 t280, .int .i64 t281]), (51, .agg #[.int .i64 t282, .int .i64 t283]), (13, .pointer (some ⟨s_, 0, none⟩)), (52, .agg #[.int .i64 t280, .int .i64 t281, .int .i64 t282, .int .i64 t283])]) (fun s_ w' => (w'.cell? ⟨gb271, 0, none⟩ = some (.int .i64 a2_0) ∧ w'.cell? ⟨gb271, 1, none⟩ = some (.int .i64 a2_1) ∧ w'.cell? ⟨gb271, 2, none⟩ = some (.int .i64 a2_2) ∧ w'.cell? ⟨gb271, 3, none⟩ = some (.int .i64 a2_3) ∧ w'.cell? ⟨gb272, 0, none⟩ = some (.int .u16 a4_0) ∧ w'.cell? ⟨gb272, 1, none⟩ = some (.int .u16 a4_1) ∧ w'.cell? ⟨gb272, 2, none⟩ = some (.int .u16 a4_2) ∧ w'.cell? ⟨gb272, 3, none⟩ = some (.int .u16 a4_3) ∧ w'.cell? ⟨gb272, 4, none⟩ = some (.int .u16 a4_4) ∧ w'.cell? ⟨gb272, 5, none⟩ = some (.int .u16 a4_5)) ∧ (w'.heap[gb269]? = some (.cells #[.string a0_0, .string a0_1, .int .i64 a0_2, .int .i64 a0_3, .int .i64 a0_4, .int .i64 a0_5, .int .i64 a0_6] 25 (0, 0))) ∧ (w'.heap[gb270]? = some (.cells #[.int .i64 a1_0, .int .i64 a1_1] 27 (0, 0))) ∧ (w'.heap[gb271]? = some (.cells #[.int .i64 a2_0, .int .i64 a2_1, .int .i64 a2_2, .int .i64 a2_3] 44 (0, 0))) ∧ (w'.heap[gb272]? = some (.cells #[.int .u16 a4_0, .int .u16 a4_1, .int .u16 a4_2, .int .u16 a4_3, .int .u16 a4_4, .int .u16 a4_5] 64 (0, 0))) ∧ (w'.heap[gb277]? = some (.cells #[.int .i64 t274, .int .i64 t275] 27 (0, 0))) ∧ (w'.heap[s_]? = some (.cells #[.int .i64 0, .int .i64 0, .int .i64 0, .int .i64 0] 44 (0, 0))) ∧ (w.heap.size ≤ s_) ∧ (w.heap.size ≤ s_) ∧ (gb269 ≠ s_) ∧ (s_ ≠ gb269) ∧ (gb270 ≠ s_) ∧ (s_ ≠ gb270) ∧ (gb271 ≠ s_) ∧ (s_ ≠ gb271) ∧ (gb272 ≠ s_) ∧ (s_ ≠ gb272) ∧ (gb277 ≠ s_) ∧ (s_ ≠ gb277) ∧ (Below w.heap.size w w')) ?_ ?_
      rotate_left
      ·intro hCont
       refine two_ (i := 6) (j := 15) (Ni := some 44) (Nj := some 13) #[true, true, true, true, true, true, true, true, true, true, true, true, true, false, false, false, false] #[true, true, true, true, true, true, false, true, true, true, true, true, true, false, false, true, false] rfl rfl rfl rfl (two_of HT_.out (by kernel_rfl)) (by decide) (by decide) (fun K hK => ?_) (fun K hK => ?_)
       ·skip
        refine goes_ Try.func34 (by kernel_rfl) rfl #[.agg #[.int .i64 a2_0, .int .i64 a2_1], .int .u16 a4_2, .int .u16 a4_3] (by rfl) rfl rfl (by (try simp only [List.map_toArray, List.map_cons, List.map_nil]); first | done | rfl | (simp only [List.length_drop, List.length_take]; rfl)) ?_
        with_reducible refine (fastilaw28_part.calls a2_0 a2_1 a4_2 a4_3 t280 t281 _ A53.out).mono ?_
        rintro e w59 ⟨rfl, hb⟩
        refine ⟨_, rfl, ?_⟩
        have n0_ := Aside0.mk (zb BK269.out hb)
        have n1_ := Aside0.mk (zb BK270.out hb)
        have n2_ := Aside0.mk (zb BK271.out hb)
        have n3_ := Aside0.mk (zb BK272.out hb)
        have n4_ := Aside0.mk (zb BK277.out hb)
        have n5_ := Aside0.mk (below_step (by repeat (first | (with_reducible first | exact HB.out | apply below_alloc | apply pw_below_drewN | apply below_drew1 | refine below_set ?_ GE269.out | refine below_set ?_ GE270.out | refine below_set ?_ GE271.out | refine below_set ?_ GE272.out | refine below_set ?_ GE277.out) | exact HB.out)) hb)
        clear BK269
        clear BK270
        clear BK271
        clear BK272
        clear BK277
        clear HB
        have BK269 := n0_
        have BK270 := n1_
        have BK271 := n2_
        have BK272 := n3_
        have BK277 := n4_
        have HB := n5_
        clear n0_ n1_ n2_ n3_ n4_ n5_
        (try clear hb)
        (try clear hb2)
        (try clear hk)
        (try clear hi)
        refine hK.out _ _ ⟨(blk_cell BK271.out 0).trans rfl, (blk_cell BK271.out 1).trans rfl, (blk_cell BK271.out 2).trans rfl, (blk_cell BK271.out 3).trans rfl, (blk_cell BK272.out 0).trans rfl, (blk_cell BK272.out 1).trans rfl, (blk_cell BK272.out 2).trans rfl, (blk_cell BK272.out 3).trans rfl, (blk_cell BK272.out 4).trans rfl, (blk_cell BK272.out 5).trans rfl⟩ (fun hHeld => ?_)
        clear hK K
        refine norm_ (a' := ?_) ?_ ?_
        rotate_left
        ·show Act.put _ (some 44) _ = _
         simp only [Act.put, List.setIfInBounds_toArray, List.set_cons_zero, List.set_cons_succ, i64_w, i32_w]
         rfl
        refine two_ (i := 13) (j := 15) (Ni := some 51) (Nj := some 13) #[true, true, true, true, true, true, true, true, true, true, true, true, true, true, false, false, false] #[true, true, true, true, true, true, true, true, true, true, true, true, true, false, false, true, false] rfl rfl rfl rfl (two_of HT_.out (by kernel_rfl)) (by decide) (by decide) (fun K hK => ?_) (fun K hK => ?_)
        ·skip
         refine goes_ Try.func34 (by kernel_rfl) rfl #[.agg #[.int .i64 a2_2, .int .i64 a2_3], .int .u16 a4_4, .int .u16 a4_5] (by rfl) rfl rfl (by (try simp only [List.map_toArray, List.map_cons, List.map_nil]); first | done | rfl | (simp only [List.length_drop, List.length_take]; rfl)) ?_
         with_reducible refine (fastilaw28_part.calls a2_2 a2_3 a4_4 a4_5 t282 t283 _ A54.out).mono ?_
         rintro e w60 ⟨rfl, hb⟩
         refine ⟨_, rfl, ?_⟩
         have n0_ := Aside0.mk (zb BK269.out hb)
         have n1_ := Aside0.mk (zb BK270.out hb)
         have n2_ := Aside0.mk (zb BK271.out hb)
         have n3_ := Aside0.mk (zb BK272.out hb)
         have n4_ := Aside0.mk (zb BK277.out hb)
         have n5_ := Aside0.mk (below_step (by repeat (first | (with_reducible first | exact HB.out | apply below_alloc | apply pw_below_drewN | apply below_drew1 | refine below_set ?_ GE269.out | refine below_set ?_ GE270.out | refine below_set ?_ GE271.out | refine below_set ?_ GE272.out | refine below_set ?_ GE277.out) | exact HB.out)) hb)
         clear BK269
         clear BK270
         clear BK271
         clear BK272
         clear BK277
         clear HB
         have BK269 := n0_
         have BK270 := n1_
         have BK271 := n2_
         have BK272 := n3_
         have BK277 := n4_
         have HB := n5_
         clear n0_ n1_ n2_ n3_ n4_ n5_
         (try clear hb)
         (try clear hb2)
         (try clear hk)
         (try clear hi)
         refine hK.out _ _ ⟨(blk_cell BK271.out 0).trans rfl, (blk_cell BK271.out 1).trans rfl, (blk_cell BK271.out 2).trans rfl, (blk_cell BK271.out 3).trans rfl, (blk_cell BK272.out 0).trans rfl, (blk_cell BK272.out 1).trans rfl, (blk_cell BK272.out 2).trans rfl, (blk_cell BK272.out 3).trans rfl, (blk_cell BK272.out 4).trans rfl, (blk_cell BK272.out 5).trans rfl⟩ (fun hHeld => ?_)
         clear hK K
         refine norm_ (a' := ?_) ?_ ?_
         rotate_left
         ·show Act.put _ (some 51) _ = _
          simp only [Act.put, List.setIfInBounds_toArray, List.set_cons_zero, List.set_cons_succ, i64_w, i32_w]
          rfl
         refine pure_ (i := 14) (N := some 52) (v := ?_) (a' := ?_) #[true, true, true, true, true, true, true, true, true, true, true, true, true, true, true, false, false] rfl rfl (any_of HT_.out (by kernel_rfl)) (fun _ _ _ h => h) (Or.inl ⟨by rfl, ?_⟩) ?_ ?_
         rotate_left
         ·intro w'
          go_simp
          with_reducible rfl
         rotate_left
         ·simp only [Act.put, List.setIfInBounds_toArray, List.set_cons_zero, List.set_cons_succ, i64_w, i32_w]
          rfl
         refine one_ (i := 15) (N := some 13) #[true, true, true, true, true, true, true, true, true, true, true, true, true, true, true, true, false] rfl rfl (one_of HT_.out (by kernel_rfl)) (by decide) (fun K hK => ?_)
         refine box_step ?hg (N := 13) ?hd (cs := #[.int .i64 0, .int .i64 0, .int .i64 0, .int .i64 0]) (t := 44) ?hr ?_; (case hd => rfl); (case hg => rfl); (case hr => first | (go_simp; done) | (go_simp; rfl))
         intro gb284 hg w61 hbox hb
         have n0_ := Aside0.mk (zb BK269.out hb)
         have n1_ := Aside0.mk (zb BK270.out hb)
         have n2_ := Aside0.mk (zb BK271.out hb)
         have n3_ := Aside0.mk (zb BK272.out hb)
         have n4_ := Aside0.mk (zb BK277.out hb)
         have n5_ := Aside0.mk (below_step (by repeat (first | (with_reducible first | exact HB.out | apply below_alloc | apply pw_below_drewN | apply below_drew1 | refine below_set ?_ GE269.out | refine below_set ?_ GE270.out | refine below_set ?_ GE271.out | refine below_set ?_ GE272.out | refine below_set ?_ GE277.out) | exact HB.out)) hb)
         have n6_ := Aside0.mk (hbox)
         have n7_ := Aside0.mk ((by rw [hg]; exact (below_size (by repeat (first | (with_reducible first | exact HB.out | apply below_alloc | apply pw_below_drewN | apply below_drew1 | refine below_set ?_ GE269.out | refine below_set ?_ GE270.out | refine below_set ?_ GE271.out | refine below_set ?_ GE272.out | refine below_set ?_ GE277.out) | exact HB.out))) : w.heap.size ≤ gb284))
         have n8_ := Aside0.mk ((by rw [hg]; exact (below_size (by repeat (first | (with_reducible first | exact HB.out | apply below_alloc | apply pw_below_drewN | apply below_drew1 | refine below_set ?_ GE269.out | refine below_set ?_ GE270.out | refine below_set ?_ GE271.out | refine below_set ?_ GE272.out | refine below_set ?_ GE277.out) | exact HB.out))) : w.heap.size ≤ gb284))
         have n9_ := Aside0.mk ((by rw [hg]; exact Nat.ne_of_lt (blk_lt (zk BK269.out)) : gb269 ≠ gb284))
         have n10_ := Aside0.mk ((by rw [hg]; exact Nat.ne_of_gt (blk_lt (zk BK269.out)) : gb284 ≠ gb269))
         have n11_ := Aside0.mk ((by rw [hg]; exact Nat.ne_of_lt (blk_lt (zk BK270.out)) : gb270 ≠ gb284))
         have n12_ := Aside0.mk ((by rw [hg]; exact Nat.ne_of_gt (blk_lt (zk BK270.out)) : gb284 ≠ gb270))
         have n13_ := Aside0.mk ((by rw [hg]; exact Nat.ne_of_lt (blk_lt (zk BK271.out)) : gb271 ≠ gb284))
         have n14_ := Aside0.mk ((by rw [hg]; exact Nat.ne_of_gt (blk_lt (zk BK271.out)) : gb284 ≠ gb271))
         have n15_ := Aside0.mk ((by rw [hg]; exact Nat.ne_of_lt (blk_lt (zk BK272.out)) : gb272 ≠ gb284))
         have n16_ := Aside0.mk ((by rw [hg]; exact Nat.ne_of_gt (blk_lt (zk BK272.out)) : gb284 ≠ gb272))
         have n17_ := Aside0.mk ((by rw [hg]; exact Nat.ne_of_lt (blk_lt (zk BK277.out)) : gb277 ≠ gb284))
         have n18_ := Aside0.mk ((by rw [hg]; exact Nat.ne_of_gt (blk_lt (zk BK277.out)) : gb284 ≠ gb277))
         clear BK269
         clear BK270
         clear BK271
         clear BK272
         clear BK277
         clear HB
         have BK269 := n0_
         have BK270 := n1_
         have BK271 := n2_
         have BK272 := n3_
         have BK277 := n4_
         have HB := n5_
         have BK284 := n6_
         have GW284 := n7_
         have GE284 := n8_
         have NB269_284 := n9_
         have NB284_269 := n10_
         have NB270_284 := n11_
         have NB284_270 := n12_
         have NB271_284 := n13_
         have NB284_271 := n14_
         have NB272_284 := n15_
         have NB284_272 := n16_
         have NB277_284 := n17_
         have NB284_277 := n18_
         clear n0_ n1_ n2_ n3_ n4_ n5_ n6_ n7_ n8_ n9_ n10_ n11_ n12_ n13_ n14_ n15_ n16_ n17_ n18_
         clear hb hbox hg
         refine hK.out _ _ ⟨(blk_cell BK271.out 0).trans rfl, (blk_cell BK271.out 1).trans rfl, (blk_cell BK271.out 2).trans rfl, (blk_cell BK271.out 3).trans rfl, (blk_cell BK272.out 0).trans rfl, (blk_cell BK272.out 1).trans rfl, (blk_cell BK272.out 2).trans rfl, (blk_cell BK272.out 3).trans rfl, (blk_cell BK272.out 4).trans rfl, (blk_cell BK272.out 5).trans rfl⟩ (fun hHeld => ?_)
         clear hK K
         refine norm_ (a' := ?_) ?_ ?_
         rotate_left
         ·show Act.put _ (some 13) _ = _
          simp only [Act.put, List.setIfInBounds_toArray, List.set_cons_zero, List.set_cons_succ, i64_w, i32_w]
          rfl
         exact norm_ (by simp only [putAll, Act.put, List.setIfInBounds_toArray, List.set_cons_zero, List.set_cons_succ]) (hCont (gb284) _ ⟨hHeld, (zk BK269.out), (zk BK270.out), (zk BK271.out), (zk BK272.out), (zk BK277.out), (zk BK284.out), GW284.out, GE284.out, NB269_284.out, NB284_269.out, NB270_284.out, NB284_270.out, NB271_284.out, NB284_271.out, NB272_284.out, NB284_272.out, NB277_284.out, NB284_277.out, (by repeat (first | (with_reducible first | exact HB.out | apply below_alloc | apply pw_below_drewN | apply below_drew1 | refine below_set ?_ GE269.out | refine below_set ?_ GE270.out | refine below_set ?_ GE271.out | refine below_set ?_ GE272.out | refine below_set ?_ GE277.out | refine below_set ?_ GE284.out) | exact HB.out))⟩)
        ·skip
         refine box_step ?hg (N := 13) ?hd (cs := #[.int .i64 0, .int .i64 0, .int .i64 0, .int .i64 0]) (t := 44) ?hr ?_; (case hd => rfl); (case hg => rfl); (case hr => first | (go_simp; done) | (go_simp; rfl))
         intro gb284 hg w60 hbox hb
         have n0_ := Aside0.mk (zb BK269.out hb)
         have n1_ := Aside0.mk (zb BK270.out hb)
         have n2_ := Aside0.mk (zb BK271.out hb)
         have n3_ := Aside0.mk (zb BK272.out hb)
         have n4_ := Aside0.mk (zb BK277.out hb)
         have n5_ := Aside0.mk (below_step (by repeat (first | (with_reducible first | exact HB.out | apply below_alloc | apply pw_below_drewN | apply below_drew1 | refine below_set ?_ GE269.out | refine below_set ?_ GE270.out | refine below_set ?_ GE271.out | refine below_set ?_ GE272.out | refine below_set ?_ GE277.out) | exact HB.out)) hb)
         have n6_ := Aside0.mk (hbox)
         have n7_ := Aside0.mk ((by rw [hg]; exact (below_size (by repeat (first | (with_reducible first | exact HB.out | apply below_alloc | apply pw_below_drewN | apply below_drew1 | refine below_set ?_ GE269.out | refine below_set ?_ GE270.out | refine below_set ?_ GE271.out | refine below_set ?_ GE272.out | refine below_set ?_ GE277.out) | exact HB.out))) : w.heap.size ≤ gb284))
         have n8_ := Aside0.mk ((by rw [hg]; exact (below_size (by repeat (first | (with_reducible first | exact HB.out | apply below_alloc | apply pw_below_drewN | apply below_drew1 | refine below_set ?_ GE269.out | refine below_set ?_ GE270.out | refine below_set ?_ GE271.out | refine below_set ?_ GE272.out | refine below_set ?_ GE277.out) | exact HB.out))) : w.heap.size ≤ gb284))
         have n9_ := Aside0.mk ((by rw [hg]; exact Nat.ne_of_lt (blk_lt (zk BK269.out)) : gb269 ≠ gb284))
         have n10_ := Aside0.mk ((by rw [hg]; exact Nat.ne_of_gt (blk_lt (zk BK269.out)) : gb284 ≠ gb269))
         have n11_ := Aside0.mk ((by rw [hg]; exact Nat.ne_of_lt (blk_lt (zk BK270.out)) : gb270 ≠ gb284))
         have n12_ := Aside0.mk ((by rw [hg]; exact Nat.ne_of_gt (blk_lt (zk BK270.out)) : gb284 ≠ gb270))
         have n13_ := Aside0.mk ((by rw [hg]; exact Nat.ne_of_lt (blk_lt (zk BK271.out)) : gb271 ≠ gb284))
         have n14_ := Aside0.mk ((by rw [hg]; exact Nat.ne_of_gt (blk_lt (zk BK271.out)) : gb284 ≠ gb271))
         have n15_ := Aside0.mk ((by rw [hg]; exact Nat.ne_of_lt (blk_lt (zk BK272.out)) : gb272 ≠ gb284))
         have n16_ := Aside0.mk ((by rw [hg]; exact Nat.ne_of_gt (blk_lt (zk BK272.out)) : gb284 ≠ gb272))
         have n17_ := Aside0.mk ((by rw [hg]; exact Nat.ne_of_lt (blk_lt (zk BK277.out)) : gb277 ≠ gb284))
         have n18_ := Aside0.mk ((by rw [hg]; exact Nat.ne_of_gt (blk_lt (zk BK277.out)) : gb284 ≠ gb277))
         clear BK269
         clear BK270
         clear BK271
         clear BK272
         clear BK277
         clear HB
         have BK269 := n0_
         have BK270 := n1_
         have BK271 := n2_
         have BK272 := n3_
         have BK277 := n4_
         have HB := n5_
         have BK284 := n6_
         have GW284 := n7_
         have GE284 := n8_
         have NB269_284 := n9_
         have NB284_269 := n10_
         have NB270_284 := n11_
         have NB284_270 := n12_
         have NB271_284 := n13_
         have NB284_271 := n14_
         have NB272_284 := n15_
         have NB284_272 := n16_
         have NB277_284 := n17_
         have NB284_277 := n18_
         clear n0_ n1_ n2_ n3_ n4_ n5_ n6_ n7_ n8_ n9_ n10_ n11_ n12_ n13_ n14_ n15_ n16_ n17_ n18_
         clear hb hbox hg
         refine hK.out _ _ ⟨(blk_cell BK271.out 0).trans rfl, (blk_cell BK271.out 1).trans rfl, (blk_cell BK271.out 2).trans rfl, (blk_cell BK271.out 3).trans rfl, (blk_cell BK272.out 0).trans rfl, (blk_cell BK272.out 1).trans rfl, (blk_cell BK272.out 2).trans rfl, (blk_cell BK272.out 3).trans rfl, (blk_cell BK272.out 4).trans rfl, (blk_cell BK272.out 5).trans rfl⟩ (fun hHeld => ?_)
         clear hK K
         refine norm_ (a' := ?_) ?_ ?_
         rotate_left
         ·show Act.put _ (some 13) _ = _
          simp only [Act.put, List.setIfInBounds_toArray, List.set_cons_zero, List.set_cons_succ, i64_w, i32_w]
          rfl
         refine one_ (i := 13) (N := some 51) #[true, true, true, true, true, true, true, true, true, true, true, true, true, true, false, true, false] rfl rfl (one_of HT_.out (by kernel_rfl)) (by decide) (fun K hK => ?_)
         refine goes_ Try.func34 (by kernel_rfl) rfl #[.agg #[.int .i64 a2_2, .int .i64 a2_3], .int .u16 a4_4, .int .u16 a4_5] (by rfl) rfl rfl (by (try simp only [List.map_toArray, List.map_cons, List.map_nil]); first | done | rfl | (simp only [List.length_drop, List.length_take]; rfl)) ?_
         with_reducible refine (fastilaw28_part.calls a2_2 a2_3 a4_4 a4_5 t282 t283 _ A54.out).mono ?_
         rintro e w61 ⟨rfl, hb⟩
         refine ⟨_, rfl, ?_⟩
         have n0_ := Aside0.mk (zb BK269.out hb)
         have n1_ := Aside0.mk (zb BK270.out hb)
         have n2_ := Aside0.mk (zb BK271.out hb)
         have n3_ := Aside0.mk (zb BK272.out hb)
         have n4_ := Aside0.mk (zb BK277.out hb)
         have n5_ := Aside0.mk (zb BK284.out hb)
         have n6_ := Aside0.mk (below_step (by repeat (first | (with_reducible first | exact HB.out | apply below_alloc | apply pw_below_drewN | apply below_drew1 | refine below_set ?_ GE269.out | refine below_set ?_ GE270.out | refine below_set ?_ GE271.out | refine below_set ?_ GE272.out | refine below_set ?_ GE277.out | refine below_set ?_ GE284.out) | exact HB.out)) hb)
         clear BK269
         clear BK270
         clear BK271
         clear BK272
         clear BK277
         clear BK284
         clear HB
         have BK269 := n0_
         have BK270 := n1_
         have BK271 := n2_
         have BK272 := n3_
         have BK277 := n4_
         have BK284 := n5_
         have HB := n6_
         clear n0_ n1_ n2_ n3_ n4_ n5_ n6_
         (try clear hb)
         (try clear hb2)
         (try clear hk)
         (try clear hi)
         refine hK.out _ _ ⟨(blk_cell BK271.out 0).trans rfl, (blk_cell BK271.out 1).trans rfl, (blk_cell BK271.out 2).trans rfl, (blk_cell BK271.out 3).trans rfl, (blk_cell BK272.out 0).trans rfl, (blk_cell BK272.out 1).trans rfl, (blk_cell BK272.out 2).trans rfl, (blk_cell BK272.out 3).trans rfl, (blk_cell BK272.out 4).trans rfl, (blk_cell BK272.out 5).trans rfl⟩ (fun hHeld => ?_)
         clear hK K
         refine norm_ (a' := ?_) ?_ ?_
         rotate_left
         ·show Act.put _ (some 51) _ = _
          simp only [Act.put, List.setIfInBounds_toArray, List.set_cons_zero, List.set_cons_succ, i64_w, i32_w]
          rfl
         refine pure_ (i := 14) (N := some 52) (v := ?_) (a' := ?_) #[true, true, true, true, true, true, true, true, true, true, true, true, true, true, true, true, false] rfl rfl (any_of HT_.out (by kernel_rfl)) (fun _ _ _ h => h) (Or.inl ⟨by rfl, ?_⟩) ?_ ?_
         rotate_left
         ·intro w'
          go_simp
          with_reducible rfl
         rotate_left
         ·simp only [Act.put, List.setIfInBounds_toArray, List.set_cons_zero, List.set_cons_succ, i64_w, i32_w]
          rfl
         exact norm_ (by simp only [putAll, Act.put, List.setIfInBounds_toArray, List.set_cons_zero, List.set_cons_succ]) (hCont (gb284) _ ⟨hHeld, (zk BK269.out), (zk BK270.out), (zk BK271.out), (zk BK272.out), (zk BK277.out), (zk BK284.out), GW284.out, GE284.out, NB269_284.out, NB284_269.out, NB270_284.out, NB284_270.out, NB271_284.out, NB284_271.out, NB272_284.out, NB284_272.out, NB277_284.out, NB284_277.out, (by repeat (first | (with_reducible first | exact HB.out | apply below_alloc | apply pw_below_drewN | apply below_drew1 | refine below_set ?_ GE269.out | refine below_set ?_ GE270.out | refine below_set ?_ GE271.out | refine below_set ?_ GE272.out | refine below_set ?_ GE277.out | refine below_set ?_ GE284.out) | exact HB.out))⟩)
       ·skip
        refine box_step ?hg (N := 13) ?hd (cs := #[.int .i64 0, .int .i64 0, .int .i64 0, .int .i64 0]) (t := 44) ?hr ?_; (case hd => rfl); (case hg => rfl); (case hr => first | (go_simp; done) | (go_simp; rfl))
        intro gb284 hg w59 hbox hb
        have n0_ := Aside0.mk (zb BK269.out hb)
        have n1_ := Aside0.mk (zb BK270.out hb)
        have n2_ := Aside0.mk (zb BK271.out hb)
        have n3_ := Aside0.mk (zb BK272.out hb)
        have n4_ := Aside0.mk (zb BK277.out hb)
        have n5_ := Aside0.mk (below_step (by repeat (first | (with_reducible first | exact HB.out | apply below_alloc | apply pw_below_drewN | apply below_drew1 | refine below_set ?_ GE269.out | refine below_set ?_ GE270.out | refine below_set ?_ GE271.out | refine below_set ?_ GE272.out | refine below_set ?_ GE277.out) | exact HB.out)) hb)
        have n6_ := Aside0.mk (hbox)
        have n7_ := Aside0.mk ((by rw [hg]; exact (below_size (by repeat (first | (with_reducible first | exact HB.out | apply below_alloc | apply pw_below_drewN | apply below_drew1 | refine below_set ?_ GE269.out | refine below_set ?_ GE270.out | refine below_set ?_ GE271.out | refine below_set ?_ GE272.out | refine below_set ?_ GE277.out) | exact HB.out))) : w.heap.size ≤ gb284))
        have n8_ := Aside0.mk ((by rw [hg]; exact (below_size (by repeat (first | (with_reducible first | exact HB.out | apply below_alloc | apply pw_below_drewN | apply below_drew1 | refine below_set ?_ GE269.out | refine below_set ?_ GE270.out | refine below_set ?_ GE271.out | refine below_set ?_ GE272.out | refine below_set ?_ GE277.out) | exact HB.out))) : w.heap.size ≤ gb284))
        have n9_ := Aside0.mk ((by rw [hg]; exact Nat.ne_of_lt (blk_lt (zk BK269.out)) : gb269 ≠ gb284))
        have n10_ := Aside0.mk ((by rw [hg]; exact Nat.ne_of_gt (blk_lt (zk BK269.out)) : gb284 ≠ gb269))
        have n11_ := Aside0.mk ((by rw [hg]; exact Nat.ne_of_lt (blk_lt (zk BK270.out)) : gb270 ≠ gb284))
        have n12_ := Aside0.mk ((by rw [hg]; exact Nat.ne_of_gt (blk_lt (zk BK270.out)) : gb284 ≠ gb270))
        have n13_ := Aside0.mk ((by rw [hg]; exact Nat.ne_of_lt (blk_lt (zk BK271.out)) : gb271 ≠ gb284))
        have n14_ := Aside0.mk ((by rw [hg]; exact Nat.ne_of_gt (blk_lt (zk BK271.out)) : gb284 ≠ gb271))
        have n15_ := Aside0.mk ((by rw [hg]; exact Nat.ne_of_lt (blk_lt (zk BK272.out)) : gb272 ≠ gb284))
        have n16_ := Aside0.mk ((by rw [hg]; exact Nat.ne_of_gt (blk_lt (zk BK272.out)) : gb284 ≠ gb272))
        have n17_ := Aside0.mk ((by rw [hg]; exact Nat.ne_of_lt (blk_lt (zk BK277.out)) : gb277 ≠ gb284))
        have n18_ := Aside0.mk ((by rw [hg]; exact Nat.ne_of_gt (blk_lt (zk BK277.out)) : gb284 ≠ gb277))
        clear BK269
        clear BK270
        clear BK271
        clear BK272
        clear BK277
        clear HB
        have BK269 := n0_
        have BK270 := n1_
        have BK271 := n2_
        have BK272 := n3_
        have BK277 := n4_
        have HB := n5_
        have BK284 := n6_
        have GW284 := n7_
        have GE284 := n8_
        have NB269_284 := n9_
        have NB284_269 := n10_
        have NB270_284 := n11_
        have NB284_270 := n12_
        have NB271_284 := n13_
        have NB284_271 := n14_
        have NB272_284 := n15_
        have NB284_272 := n16_
        have NB277_284 := n17_
        have NB284_277 := n18_
        clear n0_ n1_ n2_ n3_ n4_ n5_ n6_ n7_ n8_ n9_ n10_ n11_ n12_ n13_ n14_ n15_ n16_ n17_ n18_
        clear hb hbox hg
        refine hK.out _ _ ⟨(blk_cell BK271.out 0).trans rfl, (blk_cell BK271.out 1).trans rfl, (blk_cell BK271.out 2).trans rfl, (blk_cell BK271.out 3).trans rfl, (blk_cell BK272.out 0).trans rfl, (blk_cell BK272.out 1).trans rfl, (blk_cell BK272.out 2).trans rfl, (blk_cell BK272.out 3).trans rfl, (blk_cell BK272.out 4).trans rfl, (blk_cell BK272.out 5).trans rfl⟩ (fun hHeld => ?_)
        clear hK K
        refine norm_ (a' := ?_) ?_ ?_
        rotate_left
        ·show Act.put _ (some 13) _ = _
         simp only [Act.put, List.setIfInBounds_toArray, List.set_cons_zero, List.set_cons_succ, i64_w, i32_w]
         rfl
        refine one_ (i := 6) (N := some 44) #[true, true, true, true, true, true, true, true, true, true, true, true, true, false, false, true, false] rfl rfl (one_of HT_.out (by kernel_rfl)) (by decide) (fun K hK => ?_)
        refine goes_ Try.func34 (by kernel_rfl) rfl #[.agg #[.int .i64 a2_0, .int .i64 a2_1], .int .u16 a4_2, .int .u16 a4_3] (by rfl) rfl rfl (by (try simp only [List.map_toArray, List.map_cons, List.map_nil]); first | done | rfl | (simp only [List.length_drop, List.length_take]; rfl)) ?_
        with_reducible refine (fastilaw28_part.calls a2_0 a2_1 a4_2 a4_3 t280 t281 _ A53.out).mono ?_
        rintro e w60 ⟨rfl, hb⟩
        refine ⟨_, rfl, ?_⟩
        have n0_ := Aside0.mk (zb BK269.out hb)
        have n1_ := Aside0.mk (zb BK270.out hb)
        have n2_ := Aside0.mk (zb BK271.out hb)
        have n3_ := Aside0.mk (zb BK272.out hb)
        have n4_ := Aside0.mk (zb BK277.out hb)
        have n5_ := Aside0.mk (zb BK284.out hb)
        have n6_ := Aside0.mk (below_step (by repeat (first | (with_reducible first | exact HB.out | apply below_alloc | apply pw_below_drewN | apply below_drew1 | refine below_set ?_ GE269.out | refine below_set ?_ GE270.out | refine below_set ?_ GE271.out | refine below_set ?_ GE272.out | refine below_set ?_ GE277.out | refine below_set ?_ GE284.out) | exact HB.out)) hb)
        clear BK269
        clear BK270
        clear BK271
        clear BK272
        clear BK277
        clear BK284
        clear HB
        have BK269 := n0_
        have BK270 := n1_
        have BK271 := n2_
        have BK272 := n3_
        have BK277 := n4_
        have BK284 := n5_
        have HB := n6_
        clear n0_ n1_ n2_ n3_ n4_ n5_ n6_
        (try clear hb)
        (try clear hb2)
        (try clear hk)
        (try clear hi)
        refine hK.out _ _ ⟨(blk_cell BK271.out 0).trans rfl, (blk_cell BK271.out 1).trans rfl, (blk_cell BK271.out 2).trans rfl, (blk_cell BK271.out 3).trans rfl, (blk_cell BK272.out 0).trans rfl, (blk_cell BK272.out 1).trans rfl, (blk_cell BK272.out 2).trans rfl, (blk_cell BK272.out 3).trans rfl, (blk_cell BK272.out 4).trans rfl, (blk_cell BK272.out 5).trans rfl⟩ (fun hHeld => ?_)
        clear hK K
        refine norm_ (a' := ?_) ?_ ?_
        rotate_left
        ·show Act.put _ (some 44) _ = _
         simp only [Act.put, List.setIfInBounds_toArray, List.set_cons_zero, List.set_cons_succ, i64_w, i32_w]
         rfl
        refine one_ (i := 13) (N := some 51) #[true, true, true, true, true, true, true, true, true, true, true, true, true, true, false, true, false] rfl rfl (one_of HT_.out (by kernel_rfl)) (by decide) (fun K hK => ?_)
        refine goes_ Try.func34 (by kernel_rfl) rfl #[.agg #[.int .i64 a2_2, .int .i64 a2_3], .int .u16 a4_4, .int .u16 a4_5] (by rfl) rfl rfl (by (try simp only [List.map_toArray, List.map_cons, List.map_nil]); first | done | rfl | (simp only [List.length_drop, List.length_take]; rfl)) ?_
        with_reducible refine (fastilaw28_part.calls a2_2 a2_3 a4_4 a4_5 t282 t283 _ A54.out).mono ?_
        rintro e w61 ⟨rfl, hb⟩
        refine ⟨_, rfl, ?_⟩
        have n0_ := Aside0.mk (zb BK269.out hb)
        have n1_ := Aside0.mk (zb BK270.out hb)
        have n2_ := Aside0.mk (zb BK271.out hb)
        have n3_ := Aside0.mk (zb BK272.out hb)
        have n4_ := Aside0.mk (zb BK277.out hb)
        have n5_ := Aside0.mk (zb BK284.out hb)
        have n6_ := Aside0.mk (below_step (by repeat (first | (with_reducible first | exact HB.out | apply below_alloc | apply pw_below_drewN | apply below_drew1 | refine below_set ?_ GE269.out | refine below_set ?_ GE270.out | refine below_set ?_ GE271.out | refine below_set ?_ GE272.out | refine below_set ?_ GE277.out | refine below_set ?_ GE284.out) | exact HB.out)) hb)
        clear BK269
        clear BK270
        clear BK271
        clear BK272
        clear BK277
        clear BK284
        clear HB
        have BK269 := n0_
        have BK270 := n1_
        have BK271 := n2_
        have BK272 := n3_
        have BK277 := n4_
        have BK284 := n5_
        have HB := n6_
        clear n0_ n1_ n2_ n3_ n4_ n5_ n6_
        (try clear hb)
        (try clear hb2)
        (try clear hk)
        (try clear hi)
        refine hK.out _ _ ⟨(blk_cell BK271.out 0).trans rfl, (blk_cell BK271.out 1).trans rfl, (blk_cell BK271.out 2).trans rfl, (blk_cell BK271.out 3).trans rfl, (blk_cell BK272.out 0).trans rfl, (blk_cell BK272.out 1).trans rfl, (blk_cell BK272.out 2).trans rfl, (blk_cell BK272.out 3).trans rfl, (blk_cell BK272.out 4).trans rfl, (blk_cell BK272.out 5).trans rfl⟩ (fun hHeld => ?_)
        clear hK K
        refine norm_ (a' := ?_) ?_ ?_
        rotate_left
        ·show Act.put _ (some 51) _ = _
         simp only [Act.put, List.setIfInBounds_toArray, List.set_cons_zero, List.set_cons_succ, i64_w, i32_w]
         rfl
        refine pure_ (i := 14) (N := some 52) (v := ?_) (a' := ?_) #[true, true, true, true, true, true, true, true, true, true, true, true, true, true, true, true, false] rfl rfl (any_of HT_.out (by kernel_rfl)) (fun _ _ _ h => h) (Or.inl ⟨by rfl, ?_⟩) ?_ ?_
        rotate_left
        ·intro w'
         go_simp
         with_reducible rfl
        rotate_left
        ·simp only [Act.put, List.setIfInBounds_toArray, List.set_cons_zero, List.set_cons_succ, i64_w, i32_w]
         rfl
        exact norm_ (by simp only [putAll, Act.put, List.setIfInBounds_toArray, List.set_cons_zero, List.set_cons_succ]) (hCont (gb284) _ ⟨hHeld, (zk BK269.out), (zk BK270.out), (zk BK271.out), (zk BK272.out), (zk BK277.out), (zk BK284.out), GW284.out, GE284.out, NB269_284.out, NB284_269.out, NB270_284.out, NB284_270.out, NB271_284.out, NB284_271.out, NB272_284.out, NB284_272.out, NB277_284.out, NB284_277.out, (by repeat (first | (with_reducible first | exact HB.out | apply below_alloc | apply pw_below_drewN | apply below_drew1 | refine below_set ?_ GE269.out | refine below_set ?_ GE270.out | refine below_set ?_ GE271.out | refine below_set ?_ GE272.out | refine below_set ?_ GE277.out | refine below_set ?_ GE284.out) | exact HB.out))⟩)
      rintro gb284 w62 ⟨hS_, h0_, h1_, h2_, h3_, h4_, h5_, h6_, h7_, h8_, h9_, h10_, h11_, h12_, h13_, h14_, h15_, h16_, h17_, h18_⟩
      have n0_ : Aside0 (w62.heap[gb269]? = some (.cells #[.string a0_0, .string a0_1, .int .i64 a0_2, .int .i64 a0_3, .int .i64 a0_4, .int .i64 a0_5, .int .i64 a0_6] 25 (0, 0))) := ⟨h0_⟩
      have n1_ : Aside0 (w62.heap[gb270]? = some (.cells #[.int .i64 a1_0, .int .i64 a1_1] 27 (0, 0))) := ⟨h1_⟩
      have n2_ : Aside0 (w62.heap[gb271]? = some (.cells #[.int .i64 a2_0, .int .i64 a2_1, .int .i64 a2_2, .int .i64 a2_3] 44 (0, 0))) := ⟨h2_⟩
      have n3_ : Aside0 (w62.heap[gb272]? = some (.cells #[.int .u16 a4_0, .int .u16 a4_1, .int .u16 a4_2, .int .u16 a4_3, .int .u16 a4_4, .int .u16 a4_5] 64 (0, 0))) := ⟨h3_⟩
      have n4_ : Aside0 (w62.heap[gb277]? = some (.cells #[.int .i64 t274, .int .i64 t275] 27 (0, 0))) := ⟨h4_⟩
      have n5_ : Aside0 (w62.heap[gb284]? = some (.cells #[.int .i64 0, .int .i64 0, .int .i64 0, .int .i64 0] 44 (0, 0))) := ⟨h5_⟩
      have n6_ : Aside0 (w.heap.size ≤ gb284) := ⟨h6_⟩
      have n7_ : Aside0 (w.heap.size ≤ gb284) := ⟨h7_⟩
      have n8_ : Aside0 (gb269 ≠ gb284) := ⟨h8_⟩
      have n9_ : Aside0 (gb284 ≠ gb269) := ⟨h9_⟩
      have n10_ : Aside0 (gb270 ≠ gb284) := ⟨h10_⟩
      have n11_ : Aside0 (gb284 ≠ gb270) := ⟨h11_⟩
      have n12_ : Aside0 (gb271 ≠ gb284) := ⟨h12_⟩
      have n13_ : Aside0 (gb284 ≠ gb271) := ⟨h13_⟩
      have n14_ : Aside0 (gb272 ≠ gb284) := ⟨h14_⟩
      have n15_ : Aside0 (gb284 ≠ gb272) := ⟨h15_⟩
      have n16_ : Aside0 (gb277 ≠ gb284) := ⟨h16_⟩
      have n17_ : Aside0 (gb284 ≠ gb277) := ⟨h17_⟩
      have n18_ : Aside0 (Below w.heap.size w w62) := ⟨h18_⟩
      clear BK269
      clear BK270
      clear BK271
      clear BK272
      clear BK277
      clear HB
      clear h0_ h1_ h2_ h3_ h4_ h5_ h6_ h7_ h8_ h9_ h10_ h11_ h12_ h13_ h14_ h15_ h16_ h17_ h18_
      have BK269 := n0_
      have BK270 := n1_
      have BK271 := n2_
      have BK272 := n3_
      have BK277 := n4_
      have BK284 := n5_
      have GW284 := n6_
      have GE284 := n7_
      have NB269_284 := n8_
      have NB284_269 := n9_
      have NB270_284 := n10_
      have NB284_270 := n11_
      have NB271_284 := n12_
      have NB284_271 := n13_
      have NB272_284 := n14_
      have NB284_272 := n15_
      have NB277_284 := n16_
      have NB284_277 := n17_
      have HB := n18_
      clear n0_ n1_ n2_ n3_ n4_ n5_ n6_ n7_ n8_ n9_ n10_ n11_ n12_ n13_ n14_ n15_ n16_ n17_ n18_
      have hHeld : w62.cell? ⟨gb271, 0, none⟩ = some (.int .i64 a2_0) ∧ w62.cell? ⟨gb271, 1, none⟩ = some (.int .i64 a2_1) ∧ w62.cell? ⟨gb271, 2, none⟩ = some (.int .i64 a2_2) ∧ w62.cell? ⟨gb271, 3, none⟩ = some (.int .i64 a2_3) ∧ w62.cell? ⟨gb272, 0, none⟩ = some (.int .u16 a4_0) ∧ w62.cell? ⟨gb272, 1, none⟩ = some (.int .u16 a4_1) ∧ w62.cell? ⟨gb272, 2, none⟩ = some (.int .u16 a4_2) ∧ w62.cell? ⟨gb272, 3, none⟩ = some (.int .u16 a4_3) ∧ w62.cell? ⟨gb272, 4, none⟩ = some (.int .u16 a4_4) ∧ w62.cell? ⟨gb272, 5, none⟩ = some (.int .u16 a4_5) := hS_
      refine norm_ (a' := ?_) ?_ ?_
      rotate_left
      ·simp only [putAll, Act.put, List.setIfInBounds_toArray, List.set_cons_zero, List.set_cons_succ]
       rfl
      refine one_ (i := 16) (N := none) #[true, true, true, true, true, true, true, true, true, true, true, true, true, true, true, true, true] rfl rfl (one_of HT_.out (by kernel_rfl)) (by decide) (fun K hK => ?_)
      have hs63 : w62.cell? ⟨gb284, 0, none⟩ = some (.int .i64 0) := (blk_cell BK284.out 0).trans rfl
      have hfs63 := blk_frozen BK284.out 0
      have hns63_0 := NB269_284.out
      have hns63_1 := NB270_284.out
      have hns63_2 := NB271_284.out
      have hns63_3 := NB272_284.out
      have hns63_4 := NB277_284.out
      have hms63_0 := NB284_269.out
      have hms63_1 := NB284_270.out
      have hms63_2 := NB284_271.out
      have hms63_3 := NB284_272.out
      have hms63_4 := NB284_277.out
      have hs64 : w62.cell? ⟨gb284, 1, none⟩ = some (.int .i64 0) := (blk_cell BK284.out 1).trans rfl
      have hfs64 := blk_frozen BK284.out 1
      have hns64_0 := NB269_284.out
      have hns64_1 := NB270_284.out
      have hns64_2 := NB271_284.out
      have hns64_3 := NB272_284.out
      have hns64_4 := NB277_284.out
      have hms64_0 := NB284_269.out
      have hms64_1 := NB284_270.out
      have hms64_2 := NB284_271.out
      have hms64_3 := NB284_272.out
      have hms64_4 := NB284_277.out
      have hs65 : w62.cell? ⟨gb284, 2, none⟩ = some (.int .i64 0) := (blk_cell BK284.out 2).trans rfl
      have hfs65 := blk_frozen BK284.out 2
      have hns65_0 := NB269_284.out
      have hns65_1 := NB270_284.out
      have hns65_2 := NB271_284.out
      have hns65_3 := NB272_284.out
      have hns65_4 := NB277_284.out
      have hms65_0 := NB284_269.out
      have hms65_1 := NB284_270.out
      have hms65_2 := NB284_271.out
      have hms65_3 := NB284_272.out
      have hms65_4 := NB284_277.out
      have hs66 : w62.cell? ⟨gb284, 3, none⟩ = some (.int .i64 0) := (blk_cell BK284.out 3).trans rfl
      have hfs66 := blk_frozen BK284.out 3
      have hns66_0 := NB269_284.out
      have hns66_1 := NB270_284.out
      have hns66_2 := NB271_284.out
      have hns66_3 := NB272_284.out
      have hns66_4 := NB277_284.out
      have hms66_0 := NB284_269.out
      have hms66_1 := NB284_270.out
      have hms66_2 := NB284_271.out
      have hms66_3 := NB284_272.out
      have hms66_4 := NB284_277.out
      refine skip_ (w1 := ?_) (by rfl) rfl ?_ ?_
      rotate_left
      ·go_simp
       rfl
      refine hK.out _ _ ⟨((cell_far (p := ⟨gb284, _, none⟩) NB271_284.out _).trans (((cell_far (p := ⟨gb284, _, none⟩) NB271_284.out _).trans (((cell_far (p := ⟨gb284, _, none⟩) NB271_284.out _).trans (((cell_far (p := ⟨gb284, _, none⟩) NB271_284.out _).trans (hHeld.1)))))))), ((cell_far (p := ⟨gb284, _, none⟩) NB271_284.out _).trans (((cell_far (p := ⟨gb284, _, none⟩) NB271_284.out _).trans (((cell_far (p := ⟨gb284, _, none⟩) NB271_284.out _).trans (((cell_far (p := ⟨gb284, _, none⟩) NB271_284.out _).trans (hHeld.2.1)))))))), ((cell_far (p := ⟨gb284, _, none⟩) NB271_284.out _).trans (((cell_far (p := ⟨gb284, _, none⟩) NB271_284.out _).trans (((cell_far (p := ⟨gb284, _, none⟩) NB271_284.out _).trans (((cell_far (p := ⟨gb284, _, none⟩) NB271_284.out _).trans (hHeld.2.2.1)))))))), ((cell_far (p := ⟨gb284, _, none⟩) NB271_284.out _).trans (((cell_far (p := ⟨gb284, _, none⟩) NB271_284.out _).trans (((cell_far (p := ⟨gb284, _, none⟩) NB271_284.out _).trans (((cell_far (p := ⟨gb284, _, none⟩) NB271_284.out _).trans (hHeld.2.2.2.1)))))))), ((cell_far (p := ⟨gb284, _, none⟩) NB272_284.out _).trans (((cell_far (p := ⟨gb284, _, none⟩) NB272_284.out _).trans (((cell_far (p := ⟨gb284, _, none⟩) NB272_284.out _).trans (((cell_far (p := ⟨gb284, _, none⟩) NB272_284.out _).trans (hHeld.2.2.2.2.1)))))))), ((cell_far (p := ⟨gb284, _, none⟩) NB272_284.out _).trans (((cell_far (p := ⟨gb284, _, none⟩) NB272_284.out _).trans (((cell_far (p := ⟨gb284, _, none⟩) NB272_284.out _).trans (((cell_far (p := ⟨gb284, _, none⟩) NB272_284.out _).trans (hHeld.2.2.2.2.2.1)))))))), ((cell_far (p := ⟨gb284, _, none⟩) NB272_284.out _).trans (((cell_far (p := ⟨gb284, _, none⟩) NB272_284.out _).trans (((cell_far (p := ⟨gb284, _, none⟩) NB272_284.out _).trans (((cell_far (p := ⟨gb284, _, none⟩) NB272_284.out _).trans (hHeld.2.2.2.2.2.2.1)))))))), ((cell_far (p := ⟨gb284, _, none⟩) NB272_284.out _).trans (((cell_far (p := ⟨gb284, _, none⟩) NB272_284.out _).trans (((cell_far (p := ⟨gb284, _, none⟩) NB272_284.out _).trans (((cell_far (p := ⟨gb284, _, none⟩) NB272_284.out _).trans (hHeld.2.2.2.2.2.2.2.1)))))))), ((cell_far (p := ⟨gb284, _, none⟩) NB272_284.out _).trans (((cell_far (p := ⟨gb284, _, none⟩) NB272_284.out _).trans (((cell_far (p := ⟨gb284, _, none⟩) NB272_284.out _).trans (((cell_far (p := ⟨gb284, _, none⟩) NB272_284.out _).trans (hHeld.2.2.2.2.2.2.2.2.1)))))))), ((cell_far (p := ⟨gb284, _, none⟩) NB272_284.out _).trans (((cell_far (p := ⟨gb284, _, none⟩) NB272_284.out _).trans (((cell_far (p := ⟨gb284, _, none⟩) NB272_284.out _).trans (((cell_far (p := ⟨gb284, _, none⟩) NB272_284.out _).trans (hHeld.2.2.2.2.2.2.2.2.2))))))))⟩ (fun hHeld => ?_)
      clear hK K
      refine done_ (done_of HT_.out (by kernel_rfl)) ?_
      try go_wp2
      have n0_ : Aside0 (((((w62.setCell ⟨gb284, 0, none⟩ (.int .i64 t280)).setCell ⟨gb284, 1, none⟩ (.int .i64 t281)).setCell ⟨gb284, 2, none⟩ (.int .i64 t282)).setCell ⟨gb284, 3, none⟩ (.int .i64 t283)).heap[gb269]? = some (.cells #[.string a0_0, .string a0_1, .int .i64 a0_2, .int .i64 a0_3, .int .i64 a0_4, .int .i64 a0_5, .int .i64 a0_6] 25 (0, 0))) := ⟨by (with_reducible repeat (first | refine blk_drewN ?_ _ | refine blk_drew ?_ | refine blk_alloc ?_ _)); refine blk_far ?_ NB269_284.out _; (with_reducible repeat (first | refine blk_drewN ?_ _ | refine blk_drew ?_ | refine blk_alloc ?_ _)); refine blk_far ?_ NB269_284.out _; (with_reducible repeat (first | refine blk_drewN ?_ _ | refine blk_drew ?_ | refine blk_alloc ?_ _)); refine blk_far ?_ NB269_284.out _; (with_reducible repeat (first | refine blk_drewN ?_ _ | refine blk_drew ?_ | refine blk_alloc ?_ _)); refine blk_far ?_ NB269_284.out _; (with_reducible repeat (first | refine blk_drewN ?_ _ | refine blk_drew ?_ | refine blk_alloc ?_ _)); exact BK269.out⟩
      have n1_ : Aside0 (((((w62.setCell ⟨gb284, 0, none⟩ (.int .i64 t280)).setCell ⟨gb284, 1, none⟩ (.int .i64 t281)).setCell ⟨gb284, 2, none⟩ (.int .i64 t282)).setCell ⟨gb284, 3, none⟩ (.int .i64 t283)).heap[gb270]? = some (.cells #[.int .i64 a1_0, .int .i64 a1_1] 27 (0, 0))) := ⟨by (with_reducible repeat (first | refine blk_drewN ?_ _ | refine blk_drew ?_ | refine blk_alloc ?_ _)); refine blk_far ?_ NB270_284.out _; (with_reducible repeat (first | refine blk_drewN ?_ _ | refine blk_drew ?_ | refine blk_alloc ?_ _)); refine blk_far ?_ NB270_284.out _; (with_reducible repeat (first | refine blk_drewN ?_ _ | refine blk_drew ?_ | refine blk_alloc ?_ _)); refine blk_far ?_ NB270_284.out _; (with_reducible repeat (first | refine blk_drewN ?_ _ | refine blk_drew ?_ | refine blk_alloc ?_ _)); refine blk_far ?_ NB270_284.out _; (with_reducible repeat (first | refine blk_drewN ?_ _ | refine blk_drew ?_ | refine blk_alloc ?_ _)); exact BK270.out⟩
      have n2_ : Aside0 (((((w62.setCell ⟨gb284, 0, none⟩ (.int .i64 t280)).setCell ⟨gb284, 1, none⟩ (.int .i64 t281)).setCell ⟨gb284, 2, none⟩ (.int .i64 t282)).setCell ⟨gb284, 3, none⟩ (.int .i64 t283)).heap[gb271]? = some (.cells #[.int .i64 a2_0, .int .i64 a2_1, .int .i64 a2_2, .int .i64 a2_3] 44 (0, 0))) := ⟨by (with_reducible repeat (first | refine blk_drewN ?_ _ | refine blk_drew ?_ | refine blk_alloc ?_ _)); refine blk_far ?_ NB271_284.out _; (with_reducible repeat (first | refine blk_drewN ?_ _ | refine blk_drew ?_ | refine blk_alloc ?_ _)); refine blk_far ?_ NB271_284.out _; (with_reducible repeat (first | refine blk_drewN ?_ _ | refine blk_drew ?_ | refine blk_alloc ?_ _)); refine blk_far ?_ NB271_284.out _; (with_reducible repeat (first | refine blk_drewN ?_ _ | refine blk_drew ?_ | refine blk_alloc ?_ _)); refine blk_far ?_ NB271_284.out _; (with_reducible repeat (first | refine blk_drewN ?_ _ | refine blk_drew ?_ | refine blk_alloc ?_ _)); exact BK271.out⟩
      have n3_ : Aside0 (((((w62.setCell ⟨gb284, 0, none⟩ (.int .i64 t280)).setCell ⟨gb284, 1, none⟩ (.int .i64 t281)).setCell ⟨gb284, 2, none⟩ (.int .i64 t282)).setCell ⟨gb284, 3, none⟩ (.int .i64 t283)).heap[gb272]? = some (.cells #[.int .u16 a4_0, .int .u16 a4_1, .int .u16 a4_2, .int .u16 a4_3, .int .u16 a4_4, .int .u16 a4_5] 64 (0, 0))) := ⟨by (with_reducible repeat (first | refine blk_drewN ?_ _ | refine blk_drew ?_ | refine blk_alloc ?_ _)); refine blk_far ?_ NB272_284.out _; (with_reducible repeat (first | refine blk_drewN ?_ _ | refine blk_drew ?_ | refine blk_alloc ?_ _)); refine blk_far ?_ NB272_284.out _; (with_reducible repeat (first | refine blk_drewN ?_ _ | refine blk_drew ?_ | refine blk_alloc ?_ _)); refine blk_far ?_ NB272_284.out _; (with_reducible repeat (first | refine blk_drewN ?_ _ | refine blk_drew ?_ | refine blk_alloc ?_ _)); refine blk_far ?_ NB272_284.out _; (with_reducible repeat (first | refine blk_drewN ?_ _ | refine blk_drew ?_ | refine blk_alloc ?_ _)); exact BK272.out⟩
      have n4_ : Aside0 (((((w62.setCell ⟨gb284, 0, none⟩ (.int .i64 t280)).setCell ⟨gb284, 1, none⟩ (.int .i64 t281)).setCell ⟨gb284, 2, none⟩ (.int .i64 t282)).setCell ⟨gb284, 3, none⟩ (.int .i64 t283)).heap[gb277]? = some (.cells #[.int .i64 t274, .int .i64 t275] 27 (0, 0))) := ⟨by (with_reducible repeat (first | refine blk_drewN ?_ _ | refine blk_drew ?_ | refine blk_alloc ?_ _)); refine blk_far ?_ NB277_284.out _; (with_reducible repeat (first | refine blk_drewN ?_ _ | refine blk_drew ?_ | refine blk_alloc ?_ _)); refine blk_far ?_ NB277_284.out _; (with_reducible repeat (first | refine blk_drewN ?_ _ | refine blk_drew ?_ | refine blk_alloc ?_ _)); refine blk_far ?_ NB277_284.out _; (with_reducible repeat (first | refine blk_drewN ?_ _ | refine blk_drew ?_ | refine blk_alloc ?_ _)); refine blk_far ?_ NB277_284.out _; (with_reducible repeat (first | refine blk_drewN ?_ _ | refine blk_drew ?_ | refine blk_alloc ?_ _)); exact BK277.out⟩
      have n5_ : Aside0 (((((w62.setCell ⟨gb284, 0, none⟩ (.int .i64 t280)).setCell ⟨gb284, 1, none⟩ (.int .i64 t281)).setCell ⟨gb284, 2, none⟩ (.int .i64 t282)).setCell ⟨gb284, 3, none⟩ (.int .i64 t283)).heap[gb284]? = some (.cells #[.int .i64 t280, .int .i64 t281, .int .i64 t282, .int .i64 t283] 44 (0, 0))) := ⟨by (with_reducible repeat (first | refine blk_drewN ?_ _ | refine blk_drew ?_ | refine blk_alloc ?_ _)); refine blk_put (cs := #[.int .i64 t280, .int .i64 t281, .int .i64 t282, .int .i64 0]) ?_ 3 _ rfl; (with_reducible repeat (first | refine blk_drewN ?_ _ | refine blk_drew ?_ | refine blk_alloc ?_ _)); refine blk_put (cs := #[.int .i64 t280, .int .i64 t281, .int .i64 0, .int .i64 0]) ?_ 2 _ rfl; (with_reducible repeat (first | refine blk_drewN ?_ _ | refine blk_drew ?_ | refine blk_alloc ?_ _)); refine blk_put (cs := #[.int .i64 t280, .int .i64 0, .int .i64 0, .int .i64 0]) ?_ 1 _ rfl; (with_reducible repeat (first | refine blk_drewN ?_ _ | refine blk_drew ?_ | refine blk_alloc ?_ _)); refine blk_put (cs := #[.int .i64 0, .int .i64 0, .int .i64 0, .int .i64 0]) ?_ 0 _ rfl; (with_reducible repeat (first | refine blk_drewN ?_ _ | refine blk_drew ?_ | refine blk_alloc ?_ _)); exact BK284.out⟩
      have n6_ : Aside0 (Below w.heap.size w ((((w62.setCell ⟨gb284, 0, none⟩ (.int .i64 t280)).setCell ⟨gb284, 1, none⟩ (.int .i64 t281)).setCell ⟨gb284, 2, none⟩ (.int .i64 t282)).setCell ⟨gb284, 3, none⟩ (.int .i64 t283))) := ⟨by repeat (first | (with_reducible first | exact HB.out | apply below_alloc | apply pw_below_drewN | apply below_drew1 | refine below_set ?_ GE269.out | refine below_set ?_ GE270.out | refine below_set ?_ GE271.out | refine below_set ?_ GE272.out | refine below_set ?_ GE277.out | refine below_set ?_ GE284.out) | exact HB.out)⟩
      (try clear BK269)
      (try clear BK270)
      (try clear BK271)
      (try clear BK272)
      (try clear BK277)
      (try clear BK284)
      (try clear HB)
      generalize ((((w62.setCell ⟨gb284, 0, none⟩ (.int .i64 t280)).setCell ⟨gb284, 1, none⟩ (.int .i64 t281)).setCell ⟨gb284, 2, none⟩ (.int .i64 t282)).setCell ⟨gb284, 3, none⟩ (.int .i64 t283)) = w67 at n0_ n1_ n2_ n3_ n4_ n5_ n6_ ⊢
      have BK269 := n0_
      have BK270 := n1_
      have BK271 := n2_
      have BK272 := n3_
      have BK277 := n4_
      have BK284 := n5_
      have HB := n6_
      clear n0_ n1_ n2_ n3_ n4_ n5_ n6_
      have n0_ := Aside0.mk (blk_drew BK269.out)
      have n1_ := Aside0.mk (blk_drew BK270.out)
      have n2_ := Aside0.mk (blk_drew BK271.out)
      have n3_ := Aside0.mk (blk_drew BK272.out)
      have n4_ := Aside0.mk (blk_drew BK277.out)
      have n5_ := Aside0.mk (blk_drew BK284.out)
      have n6_ := Aside0.mk (below_drew1 HB.out)
      clear BK269
      clear BK270
      clear BK271
      clear BK272
      clear BK277
      clear BK284
      clear HB
      have BK269 := n0_
      have BK270 := n1_
      have BK271 := n2_
      have BK272 := n3_
      have BK277 := n4_
      have BK284 := n5_
      have HB := n6_
      clear n0_ n1_ n2_ n3_ n4_ n5_ n6_
      refine start_ (n := 16) (S := fun w' => w'.cell? ⟨gb269, 0, none⟩ = some (.string a0_0) ∧ w'.cell? ⟨gb269, 1, none⟩ = some (.string a0_1) ∧ w'.cell? ⟨gb269, 2, none⟩ = some (.int .i64 a0_2) ∧ w'.cell? ⟨gb269, 3, none⟩ = some (.int .i64 a0_3) ∧ w'.cell? ⟨gb269, 4, none⟩ = some (.int .i64 a0_4) ∧ w'.cell? ⟨gb269, 5, none⟩ = some (.int .i64 a0_5) ∧ w'.cell? ⟨gb269, 6, none⟩ = some (.int .i64 a0_6) ∧ w'.cell? ⟨gb270, 0, none⟩ = some (.int .i64 a1_0) ∧ w'.cell? ⟨gb270, 1, none⟩ = some (.int .i64 a1_1) ∧ w'.cell? ⟨gb272, 0, none⟩ = some (.int .u16 a4_0) ∧ w'.cell? ⟨gb272, 1, none⟩ = some (.int .u16 a4_1) ∧ w'.cell? ⟨gb272, 2, none⟩ = some (.int .u16 a4_2) ∧ w'.cell? ⟨gb272, 3, none⟩ = some (.int .u16 a4_3) ∧ w'.cell? ⟨gb272, 4, none⟩ = some (.int .u16 a4_4) ∧ w'.cell? ⟨gb272, 5, none⟩ = some (.int .u16 a4_5) ∧ w'.cell? ⟨gb284, 0, none⟩ = some (.int .i64 t280) ∧ w'.cell? ⟨gb284, 1, none⟩ = some (.int .i64 t281) ∧ w'.cell? ⟨gb284, 2, none⟩ = some (.int .i64 t282) ∧ w'.cell? ⟨gb284, 3, none⟩ = some (.int .i64 t283)) (ds := []) #[false, false, false, false, false, false, false, false, false, false, false, false, false, false, false, false] (by kernel_rfl) rfl rfl ⟨(blk_cell BK269.out 0).trans rfl, (blk_cell BK269.out 1).trans rfl, (blk_cell BK269.out 2).trans rfl, (blk_cell BK269.out 3).trans rfl, (blk_cell BK269.out 4).trans rfl, (blk_cell BK269.out 5).trans rfl, (blk_cell BK269.out 6).trans rfl, (blk_cell BK270.out 0).trans rfl, (blk_cell BK270.out 1).trans rfl, (blk_cell BK272.out 0).trans rfl, (blk_cell BK272.out 1).trans rfl, (blk_cell BK272.out 2).trans rfl, (blk_cell BK272.out 3).trans rfl, (blk_cell BK272.out 4).trans rfl, (blk_cell BK272.out 5).trans rfl, (blk_cell BK284.out 0).trans rfl, (blk_cell BK284.out 1).trans rfl, (blk_cell BK284.out 2).trans rfl, (blk_cell BK284.out 3).trans rfl⟩ (fun hHeld => ?_); refine with_tabW fastilaw28_TurfLess.tab9 fastilaw28_TurfLess.bits9 (fun HT_ HW_ => ?_)
      generalize w67.drew = w68 at BK269 BK270 BK271 BK272 BK277 BK284 HB hHeld ⊢
      refine pure_ (i := 2) (N := some 56) (v := ?_) (a' := ?_) #[false, false, true, false, false, false, false, false, false, false, false, false, false, false, false, false] rfl rfl (any_of HT_.out (by kernel_rfl)) (fun _ _ _ h => h) (Or.inl ⟨by rfl, ?_⟩) ?_ ?_
      rotate_left
      ·intro w'
       go_simp
       with_reducible rfl
      rotate_left
      ·simp only [Act.put, List.setIfInBounds_toArray, List.set_cons_zero, List.set_cons_succ, i64_w, i32_w]
       rfl
      refine pure_ (i := 4) (N := some 58) (v := ?_) (a' := ?_) #[false, false, true, false, true, false, false, false, false, false, false, false, false, false, false, false] rfl rfl (any_of HT_.out (by kernel_rfl)) (fun _ _ _ h => h) (Or.inl ⟨by rfl, ?_⟩) ?_ ?_
      rotate_left
      ·intro w'
       go_simp
       with_reducible rfl
      rotate_left
      ·simp only [Act.put, List.setIfInBounds_toArray, List.set_cons_zero, List.set_cons_succ, i64_w, i32_w]
       rfl
      refine pure_ (i := 8) (N := some 62) (v := ?_) (a' := ?_) #[false, false, true, false, true, false, false, false, true, false, false, false, false, false, false, false] rfl rfl (any_of HT_.out (by kernel_rfl)) (fun _ _ _ h => h) (Or.inl ⟨by rfl, ?_⟩) ?_ ?_
      rotate_left
      ·intro w'
       go_simp
       with_reducible rfl
      rotate_left
      ·simp only [Act.put, List.setIfInBounds_toArray, List.set_cons_zero, List.set_cons_succ, i64_w, i32_w]
       rfl
      refine take_ (i := 0) (N := some 54) (v := ?_) (a' := ?_) #[true, false, true, false, true, false, false, false, true, false, false, false, false, false, false, false] rfl rfl (take_ofW HT_.out HW_.out (by kernel_rfl)) (fun _ _ _ h => h) (Or.inl ⟨by rfl, ?_⟩) hHeld ?_ ?_
      rotate_left
      ·rintro w' ⟨s0, s1, s2, s3, s4, s5, s6, s7, s8, s9, s10, s11, s12, s13, s14, s15, s16, s17, s18⟩
       go_simp
       with_reducible rfl
      rotate_left
      ·simp only [Act.put, List.setIfInBounds_toArray, List.set_cons_zero, List.set_cons_succ, i64_w, i32_w]
       rfl
      refine take_ (i := 1) (N := some 55) (v := ?_) (a' := ?_) #[true, true, true, false, true, false, false, false, true, false, false, false, false, false, false, false] rfl rfl (take_ofW HT_.out HW_.out (by kernel_rfl)) (fun _ _ _ h => h) (Or.inl ⟨by rfl, ?_⟩) hHeld ?_ ?_
      rotate_left
      ·rintro w' ⟨s0, s1, s2, s3, s4, s5, s6, s7, s8, s9, s10, s11, s12, s13, s14, s15, s16, s17, s18⟩
       go_simp
       with_reducible rfl
      rotate_left
      ·simp only [Act.put, List.setIfInBounds_toArray, List.set_cons_zero, List.set_cons_succ, i64_w, i32_w]
       rfl
      refine take_ (i := 3) (N := some 57) (v := ?_) (a' := ?_) #[true, true, true, true, true, false, false, false, true, false, false, false, false, false, false, false] rfl rfl (take_ofW HT_.out HW_.out (by kernel_rfl)) (fun _ _ _ h => h) (Or.inl ⟨by rfl, ?_⟩) hHeld ?_ ?_
      rotate_left
      ·rintro w' ⟨s0, s1, s2, s3, s4, s5, s6, s7, s8, s9, s10, s11, s12, s13, s14, s15, s16, s17, s18⟩
       go_simp
       with_reducible rfl
      rotate_left
      ·simp only [Act.put, List.setIfInBounds_toArray, List.set_cons_zero, List.set_cons_succ, i64_w, i32_w]
       rfl
      refine take_ (i := 5) (N := some 59) (v := ?_) (a' := ?_) #[true, true, true, true, true, true, false, false, true, false, false, false, false, false, false, false] rfl rfl (take_ofW HT_.out HW_.out (by kernel_rfl)) (fun _ _ _ h => h) (Or.inl ⟨by rfl, ?_⟩) hHeld ?_ ?_
      rotate_left
      ·rintro w' ⟨s0, s1, s2, s3, s4, s5, s6, s7, s8, s9, s10, s11, s12, s13, s14, s15, s16, s17, s18⟩
       go_simp
       with_reducible rfl
      rotate_left
      ·simp only [Act.put, List.setIfInBounds_toArray, List.set_cons_zero, List.set_cons_succ, i64_w, i32_w]
       rfl
      refine take_ (i := 7) (N := some 61) (v := ?_) (a' := ?_) #[true, true, true, true, true, true, false, true, true, false, false, false, false, false, false, false] rfl rfl (take_ofW HT_.out HW_.out (by kernel_rfl)) (fun _ _ _ h => h) (Or.inl ⟨by rfl, ?_⟩) hHeld ?_ ?_
      rotate_left
      ·rintro w' ⟨s0, s1, s2, s3, s4, s5, s6, s7, s8, s9, s10, s11, s12, s13, s14, s15, s16, s17, s18⟩
       go_simp
       with_reducible rfl
      rotate_left
      ·simp only [Act.put, List.setIfInBounds_toArray, List.set_cons_zero, List.set_cons_succ, i64_w, i32_w]
       rfl
      refine join_ (σ := Nat) 2 #[true, true, true, true, true, true, true, true, true, true, true, true, true, true, false, false] (fun s_ => [(60, .agg #[.int .i64 t285, .int .i64 t286]), (63, .tuple #[.agg #[.int .i64 t287, .int .i64 t288], .int .i64 t289]), (14, .pointer (some ⟨s_, 0, none⟩)), (53, .tuple #[.agg #[.int .i64 t287, .int .i64 t288], .int .i64 t289]), (64, .agg #[.int .i64 t287, .int .i64 t288]), (65, .int .i64 t289)]) (fun s_ w' => (w'.cell? ⟨gb269, 0, none⟩ = some (.string a0_0) ∧ w'.cell? ⟨gb269, 1, none⟩ = some (.string a0_1) ∧ w'.cell? ⟨gb269, 2, none⟩ = some (.int .i64 a0_2) ∧ w'.cell? ⟨gb269, 3, none⟩ = some (.int .i64 a0_3) ∧ w'.cell? ⟨gb269, 4, none⟩ = some (.int .i64 a0_4) ∧ w'.cell? ⟨gb269, 5, none⟩ = some (.int .i64 a0_5) ∧ w'.cell? ⟨gb269, 6, none⟩ = some (.int .i64 a0_6) ∧ w'.cell? ⟨gb270, 0, none⟩ = some (.int .i64 a1_0) ∧ w'.cell? ⟨gb270, 1, none⟩ = some (.int .i64 a1_1) ∧ w'.cell? ⟨gb272, 0, none⟩ = some (.int .u16 a4_0) ∧ w'.cell? ⟨gb272, 1, none⟩ = some (.int .u16 a4_1) ∧ w'.cell? ⟨gb272, 2, none⟩ = some (.int .u16 a4_2) ∧ w'.cell? ⟨gb272, 3, none⟩ = some (.int .u16 a4_3) ∧ w'.cell? ⟨gb272, 4, none⟩ = some (.int .u16 a4_4) ∧ w'.cell? ⟨gb272, 5, none⟩ = some (.int .u16 a4_5) ∧ w'.cell? ⟨gb284, 0, none⟩ = some (.int .i64 t280) ∧ w'.cell? ⟨gb284, 1, none⟩ = some (.int .i64 t281) ∧ w'.cell? ⟨gb284, 2, none⟩ = some (.int .i64 t282) ∧ w'.cell? ⟨gb284, 3, none⟩ = some (.int .i64 t283)) ∧ (w'.heap[gb269]? = some (.cells #[.string a0_0, .string a0_1, .int .i64 a0_2, .int .i64 a0_3, .int .i64 a0_4, .int .i64 a0_5, .int .i64 a0_6] 25 (0, 0))) ∧ (w'.heap[gb270]? = some (.cells #[.int .i64 a1_0, .int .i64 a1_1] 27 (0, 0))) ∧ (w'.heap[gb271]? = some (.cells #[.int .i64 a2_0, .int .i64 a2_1, .int .i64 a2_2, .int .i64 a2_3] 44 (0, 0))) ∧ (w'.heap[gb272]? = some (.cells #[.int .u16 a4_0, .int .u16 a4_1, .int .u16 a4_2, .int .u16 a4_3, .int .u16 a4_4, .int .u16 a4_5] 64 (0, 0))) ∧ (w'.heap[gb277]? = some (.cells #[.int .i64 t274, .int .i64 t275] 27 (0, 0))) ∧ (w'.heap[gb284]? = some (.cells #[.int .i64 t280, .int .i64 t281, .int .i64 t282, .int .i64 t283] 44 (0, 0))) ∧ (w'.heap[s_]? = some (.cells #[.int .i64 0, .int .i64 0] 27 (0, 0))) ∧ (w.heap.size ≤ s_) ∧ (w.heap.size ≤ s_) ∧ (gb269 ≠ s_) ∧ (s_ ≠ gb269) ∧ (gb270 ≠ s_) ∧ (s_ ≠ gb270) ∧ (gb271 ≠ s_) ∧ (s_ ≠ gb271) ∧ (gb272 ≠ s_) ∧ (s_ ≠ gb272) ∧ (gb277 ≠ s_) ∧ (s_ ≠ gb277) ∧ (gb284 ≠ s_) ∧ (s_ ≠ gb284) ∧ (Below w.heap.size w w')) ?_ ?_
      rotate_left
      ·intro hCont
       refine two_ (i := 6) (j := 13) (Ni := some 60) (Nj := some 14) #[true, true, true, true, true, true, true, true, true, false, false, false, false, false, false, false] #[true, true, true, true, true, true, false, true, true, false, false, false, false, true, false, false] rfl rfl rfl rfl (two_of HT_.out (by kernel_rfl)) (by decide) (by decide) (fun K hK => ?_) (fun K hK => ?_)
       ·skip
        refine goes_ Try.func34 (by kernel_rfl) rfl #[.agg #[.int .i64 a1_0, .int .i64 a1_1], .int .u16 a4_0, .int .u16 a4_1] (by rfl) rfl rfl (by (try simp only [List.map_toArray, List.map_cons, List.map_nil]); first | done | rfl | (simp only [List.length_drop, List.length_take]; rfl)) ?_
        with_reducible refine (fastilaw28_part.calls a1_0 a1_1 a4_0 a4_1 t285 t286 _ A55.out).mono ?_
        rintro e w69 ⟨rfl, hb⟩
        refine ⟨_, rfl, ?_⟩
        have n0_ := Aside0.mk (zb BK269.out hb)
        have n1_ := Aside0.mk (zb BK270.out hb)
        have n2_ := Aside0.mk (zb BK271.out hb)
        have n3_ := Aside0.mk (zb BK272.out hb)
        have n4_ := Aside0.mk (zb BK277.out hb)
        have n5_ := Aside0.mk (zb BK284.out hb)
        have n6_ := Aside0.mk (below_step (by repeat (first | (with_reducible first | exact HB.out | apply below_alloc | apply pw_below_drewN | apply below_drew1 | refine below_set ?_ GE269.out | refine below_set ?_ GE270.out | refine below_set ?_ GE271.out | refine below_set ?_ GE272.out | refine below_set ?_ GE277.out | refine below_set ?_ GE284.out) | exact HB.out)) hb)
        clear BK269
        clear BK270
        clear BK271
        clear BK272
        clear BK277
        clear BK284
        clear HB
        have BK269 := n0_
        have BK270 := n1_
        have BK271 := n2_
        have BK272 := n3_
        have BK277 := n4_
        have BK284 := n5_
        have HB := n6_
        clear n0_ n1_ n2_ n3_ n4_ n5_ n6_
        (try clear hb)
        (try clear hb2)
        (try clear hk)
        (try clear hi)
        refine hK.out _ _ ⟨(blk_cell BK269.out 0).trans rfl, (blk_cell BK269.out 1).trans rfl, (blk_cell BK269.out 2).trans rfl, (blk_cell BK269.out 3).trans rfl, (blk_cell BK269.out 4).trans rfl, (blk_cell BK269.out 5).trans rfl, (blk_cell BK269.out 6).trans rfl, (blk_cell BK270.out 0).trans rfl, (blk_cell BK270.out 1).trans rfl, (blk_cell BK272.out 0).trans rfl, (blk_cell BK272.out 1).trans rfl, (blk_cell BK272.out 2).trans rfl, (blk_cell BK272.out 3).trans rfl, (blk_cell BK272.out 4).trans rfl, (blk_cell BK272.out 5).trans rfl, (blk_cell BK284.out 0).trans rfl, (blk_cell BK284.out 1).trans rfl, (blk_cell BK284.out 2).trans rfl, (blk_cell BK284.out 3).trans rfl⟩ (fun hHeld => ?_)
        clear hK K
        refine norm_ (a' := ?_) ?_ ?_
        rotate_left
        ·show Act.put _ (some 60) _ = _
         simp only [Act.put, List.setIfInBounds_toArray, List.set_cons_zero, List.set_cons_succ, i64_w, i32_w]
         rfl
        refine two_ (i := 9) (j := 13) (Ni := some 63) (Nj := some 14) #[true, true, true, true, true, true, true, true, true, true, false, false, false, false, false, false] #[true, true, true, true, true, true, true, true, true, false, false, false, false, true, false, false] rfl rfl rfl rfl (two_of HT_.out (by kernel_rfl)) (by decide) (by decide) (fun K hK => ?_) (fun K hK => ?_)
        ·skip
         refine goes_ Try.func23 (by kernel_rfl) rfl #[.agg #[.string a0_0, .string a0_1, .int .i64 a0_2, .int .i64 a0_3, .int .i64 a0_4, .int .i64 a0_5, .int .i64 a0_6], .agg #[.int .i64 t285, .int .i64 t286], .agg #[.int .i64 t280, .int .i64 t281, .int .i64 t282, .int .i64 t283], .int .i64 a3] (by rfl) rfl rfl (by (try simp only [List.map_toArray, List.map_cons, List.map_nil]); first | done | rfl | (simp only [List.length_drop, List.length_take]; rfl)) ?_
         with_reducible refine (turf_Next.calls a0_0 a0_1 a0_2 a0_3 a0_4 a0_5 a0_6 t285 t286 t280 t281 t282 t283 a3 t287 t288 t289 _ A56.out).mono ?_
         rintro e w70 ⟨rfl, hb⟩
         refine ⟨_, rfl, ?_⟩
         have n0_ := Aside0.mk (zb BK269.out hb)
         have n1_ := Aside0.mk (zb BK270.out hb)
         have n2_ := Aside0.mk (zb BK271.out hb)
         have n3_ := Aside0.mk (zb BK272.out hb)
         have n4_ := Aside0.mk (zb BK277.out hb)
         have n5_ := Aside0.mk (zb BK284.out hb)
         have n6_ := Aside0.mk (below_step (by repeat (first | (with_reducible first | exact HB.out | apply below_alloc | apply pw_below_drewN | apply below_drew1 | refine below_set ?_ GE269.out | refine below_set ?_ GE270.out | refine below_set ?_ GE271.out | refine below_set ?_ GE272.out | refine below_set ?_ GE277.out | refine below_set ?_ GE284.out) | exact HB.out)) hb)
         clear BK269
         clear BK270
         clear BK271
         clear BK272
         clear BK277
         clear BK284
         clear HB
         have BK269 := n0_
         have BK270 := n1_
         have BK271 := n2_
         have BK272 := n3_
         have BK277 := n4_
         have BK284 := n5_
         have HB := n6_
         clear n0_ n1_ n2_ n3_ n4_ n5_ n6_
         (try clear hb)
         (try clear hb2)
         (try clear hk)
         (try clear hi)
         refine hK.out _ _ ⟨(blk_cell BK269.out 0).trans rfl, (blk_cell BK269.out 1).trans rfl, (blk_cell BK269.out 2).trans rfl, (blk_cell BK269.out 3).trans rfl, (blk_cell BK269.out 4).trans rfl, (blk_cell BK269.out 5).trans rfl, (blk_cell BK269.out 6).trans rfl, (blk_cell BK270.out 0).trans rfl, (blk_cell BK270.out 1).trans rfl, (blk_cell BK272.out 0).trans rfl, (blk_cell BK272.out 1).trans rfl, (blk_cell BK272.out 2).trans rfl, (blk_cell BK272.out 3).trans rfl, (blk_cell BK272.out 4).trans rfl, (blk_cell BK272.out 5).trans rfl, (blk_cell BK284.out 0).trans rfl, (blk_cell BK284.out 1).trans rfl, (blk_cell BK284.out 2).trans rfl, (blk_cell BK284.out 3).trans rfl⟩ (fun hHeld => ?_)
         clear hK K
         refine norm_ (a' := ?_) ?_ ?_
         rotate_left
         ·show Act.put _ (some 63) _ = _
          simp only [Act.put, List.setIfInBounds_toArray, List.set_cons_zero, List.set_cons_succ, i64_w, i32_w]
          rfl
         refine pure_ (i := 10) (N := some 53) (v := ?_) (a' := ?_) #[true, true, true, true, true, true, true, true, true, true, true, false, false, false, false, false] rfl rfl (any_of HT_.out (by kernel_rfl)) (fun _ _ _ h => h) (Or.inl ⟨by rfl, ?_⟩) ?_ ?_
         rotate_left
         ·intro w'
          go_simp
          with_reducible rfl
         rotate_left
         ·simp only [Act.put, List.setIfInBounds_toArray, List.set_cons_zero, List.set_cons_succ, i64_w, i32_w]
          rfl
         refine pure_ (i := 11) (N := some 64) (v := ?_) (a' := ?_) #[true, true, true, true, true, true, true, true, true, true, true, true, false, false, false, false] rfl rfl (any_of HT_.out (by kernel_rfl)) (fun _ _ _ h => h) (Or.inl ⟨by rfl, ?_⟩) ?_ ?_
         rotate_left
         ·intro w'
          go_simp
          with_reducible rfl
         rotate_left
         ·simp only [Act.put, List.setIfInBounds_toArray, List.set_cons_zero, List.set_cons_succ, i64_w, i32_w]
          rfl
         refine pure_ (i := 12) (N := some 65) (v := ?_) (a' := ?_) #[true, true, true, true, true, true, true, true, true, true, true, true, true, false, false, false] rfl rfl (any_of HT_.out (by kernel_rfl)) (fun _ _ _ h => h) (Or.inl ⟨by rfl, ?_⟩) ?_ ?_
         rotate_left
         ·intro w'
          go_simp
          with_reducible rfl
         rotate_left
         ·simp only [Act.put, List.setIfInBounds_toArray, List.set_cons_zero, List.set_cons_succ, i64_w, i32_w]
          rfl
         refine one_ (i := 13) (N := some 14) #[true, true, true, true, true, true, true, true, true, true, true, true, true, true, false, false] rfl rfl (one_of HT_.out (by kernel_rfl)) (by decide) (fun K hK => ?_)
         refine box_step ?hg (N := 14) ?hd (cs := #[.int .i64 0, .int .i64 0]) (t := 27) ?hr ?_; (case hd => rfl); (case hg => rfl); (case hr => first | (go_simp; done) | (go_simp; rfl))
         intro gb290 hg w71 hbox hb
         have n0_ := Aside0.mk (zb BK269.out hb)
         have n1_ := Aside0.mk (zb BK270.out hb)
         have n2_ := Aside0.mk (zb BK271.out hb)
         have n3_ := Aside0.mk (zb BK272.out hb)
         have n4_ := Aside0.mk (zb BK277.out hb)
         have n5_ := Aside0.mk (zb BK284.out hb)
         have n6_ := Aside0.mk (below_step (by repeat (first | (with_reducible first | exact HB.out | apply below_alloc | apply pw_below_drewN | apply below_drew1 | refine below_set ?_ GE269.out | refine below_set ?_ GE270.out | refine below_set ?_ GE271.out | refine below_set ?_ GE272.out | refine below_set ?_ GE277.out | refine below_set ?_ GE284.out) | exact HB.out)) hb)
         have n7_ := Aside0.mk (hbox)
         have n8_ := Aside0.mk ((by rw [hg]; exact (below_size (by repeat (first | (with_reducible first | exact HB.out | apply below_alloc | apply pw_below_drewN | apply below_drew1 | refine below_set ?_ GE269.out | refine below_set ?_ GE270.out | refine below_set ?_ GE271.out | refine below_set ?_ GE272.out | refine below_set ?_ GE277.out | refine below_set ?_ GE284.out) | exact HB.out))) : w.heap.size ≤ gb290))
         have n9_ := Aside0.mk ((by rw [hg]; exact (below_size (by repeat (first | (with_reducible first | exact HB.out | apply below_alloc | apply pw_below_drewN | apply below_drew1 | refine below_set ?_ GE269.out | refine below_set ?_ GE270.out | refine below_set ?_ GE271.out | refine below_set ?_ GE272.out | refine below_set ?_ GE277.out | refine below_set ?_ GE284.out) | exact HB.out))) : w.heap.size ≤ gb290))
         have n10_ := Aside0.mk ((by rw [hg]; exact Nat.ne_of_lt (blk_lt (zk BK269.out)) : gb269 ≠ gb290))
         have n11_ := Aside0.mk ((by rw [hg]; exact Nat.ne_of_gt (blk_lt (zk BK269.out)) : gb290 ≠ gb269))
         have n12_ := Aside0.mk ((by rw [hg]; exact Nat.ne_of_lt (blk_lt (zk BK270.out)) : gb270 ≠ gb290))
         have n13_ := Aside0.mk ((by rw [hg]; exact Nat.ne_of_gt (blk_lt (zk BK270.out)) : gb290 ≠ gb270))
         have n14_ := Aside0.mk ((by rw [hg]; exact Nat.ne_of_lt (blk_lt (zk BK271.out)) : gb271 ≠ gb290))
         have n15_ := Aside0.mk ((by rw [hg]; exact Nat.ne_of_gt (blk_lt (zk BK271.out)) : gb290 ≠ gb271))
         have n16_ := Aside0.mk ((by rw [hg]; exact Nat.ne_of_lt (blk_lt (zk BK272.out)) : gb272 ≠ gb290))
         have n17_ := Aside0.mk ((by rw [hg]; exact Nat.ne_of_gt (blk_lt (zk BK272.out)) : gb290 ≠ gb272))
         have n18_ := Aside0.mk ((by rw [hg]; exact Nat.ne_of_lt (blk_lt (zk BK277.out)) : gb277 ≠ gb290))
         have n19_ := Aside0.mk ((by rw [hg]; exact Nat.ne_of_gt (blk_lt (zk BK277.out)) : gb290 ≠ gb277))
         have n20_ := Aside0.mk ((by rw [hg]; exact Nat.ne_of_lt (blk_lt (zk BK284.out)) : gb284 ≠ gb290))
         have n21_ := Aside0.mk ((by rw [hg]; exact Nat.ne_of_gt (blk_lt (zk BK284.out)) : gb290 ≠ gb284))
         clear BK269
         clear BK270
         clear BK271
         clear BK272
         clear BK277
         clear BK284
         clear HB
         have BK269 := n0_
         have BK270 := n1_
         have BK271 := n2_
         have BK272 := n3_
         have BK277 := n4_
         have BK284 := n5_
         have HB := n6_
         have BK290 := n7_
         have GW290 := n8_
         have GE290 := n9_
         have NB269_290 := n10_
         have NB290_269 := n11_
         have NB270_290 := n12_
         have NB290_270 := n13_
         have NB271_290 := n14_
         have NB290_271 := n15_
         have NB272_290 := n16_
         have NB290_272 := n17_
         have NB277_290 := n18_
         have NB290_277 := n19_
         have NB284_290 := n20_
         have NB290_284 := n21_
         clear n0_ n1_ n2_ n3_ n4_ n5_ n6_ n7_ n8_ n9_ n10_ n11_ n12_ n13_ n14_ n15_ n16_ n17_ n18_ n19_ n20_ n21_
         clear hb hbox hg
         refine hK.out _ _ ⟨(blk_cell BK269.out 0).trans rfl, (blk_cell BK269.out 1).trans rfl, (blk_cell BK269.out 2).trans rfl, (blk_cell BK269.out 3).trans rfl, (blk_cell BK269.out 4).trans rfl, (blk_cell BK269.out 5).trans rfl, (blk_cell BK269.out 6).trans rfl, (blk_cell BK270.out 0).trans rfl, (blk_cell BK270.out 1).trans rfl, (blk_cell BK272.out 0).trans rfl, (blk_cell BK272.out 1).trans rfl, (blk_cell BK272.out 2).trans rfl, (blk_cell BK272.out 3).trans rfl, (blk_cell BK272.out 4).trans rfl, (blk_cell BK272.out 5).trans rfl, (blk_cell BK284.out 0).trans rfl, (blk_cell BK284.out 1).trans rfl, (blk_cell BK284.out 2).trans rfl, (blk_cell BK284.out 3).trans rfl⟩ (fun hHeld => ?_)
         clear hK K
         refine norm_ (a' := ?_) ?_ ?_
         rotate_left
         ·show Act.put _ (some 14) _ = _
          simp only [Act.put, List.setIfInBounds_toArray, List.set_cons_zero, List.set_cons_succ, i64_w, i32_w]
          rfl
         exact norm_ (by simp only [putAll, Act.put, List.setIfInBounds_toArray, List.set_cons_zero, List.set_cons_succ]) (hCont (gb290) _ ⟨hHeld, (zk BK269.out), (zk BK270.out), (zk BK271.out), (zk BK272.out), (zk BK277.out), (zk BK284.out), (zk BK290.out), GW290.out, GE290.out, NB269_290.out, NB290_269.out, NB270_290.out, NB290_270.out, NB271_290.out, NB290_271.out, NB272_290.out, NB290_272.out, NB277_290.out, NB290_277.out, NB284_290.out, NB290_284.out, (by repeat (first | (with_reducible first | exact HB.out | apply below_alloc | apply pw_below_drewN | apply below_drew1 | refine below_set ?_ GE269.out | refine below_set ?_ GE270.out | refine below_set ?_ GE271.out | refine below_set ?_ GE272.out | refine below_set ?_ GE277.out | refine below_set ?_ GE284.out | refine below_set ?_ GE290.out) | exact HB.out))⟩)
        ·skip
         refine box_step ?hg (N := 14) ?hd (cs := #[.int .i64 0, .int .i64 0]) (t := 27) ?hr ?_; (case hd => rfl); (case hg => rfl); (case hr => first | (go_simp; done) | (go_simp; rfl))
         intro gb290 hg w70 hbox hb
         have n0_ := Aside0.mk (zb BK269.out hb)
         have n1_ := Aside0.mk (zb BK270.out hb)
         have n2_ := Aside0.mk (zb BK271.out hb)
         have n3_ := Aside0.mk (zb BK272.out hb)
         have n4_ := Aside0.mk (zb BK277.out hb)
         have n5_ := Aside0.mk (zb BK284.out hb)
         have n6_ := Aside0.mk (below_step (by repeat (first | (with_reducible first | exact HB.out | apply below_alloc | apply pw_below_drewN | apply below_drew1 | refine below_set ?_ GE269.out | refine below_set ?_ GE270.out | refine below_set ?_ GE271.out | refine below_set ?_ GE272.out | refine below_set ?_ GE277.out | refine below_set ?_ GE284.out) | exact HB.out)) hb)
         have n7_ := Aside0.mk (hbox)
         have n8_ := Aside0.mk ((by rw [hg]; exact (below_size (by repeat (first | (with_reducible first | exact HB.out | apply below_alloc | apply pw_below_drewN | apply below_drew1 | refine below_set ?_ GE269.out | refine below_set ?_ GE270.out | refine below_set ?_ GE271.out | refine below_set ?_ GE272.out | refine below_set ?_ GE277.out | refine below_set ?_ GE284.out) | exact HB.out))) : w.heap.size ≤ gb290))
         have n9_ := Aside0.mk ((by rw [hg]; exact (below_size (by repeat (first | (with_reducible first | exact HB.out | apply below_alloc | apply pw_below_drewN | apply below_drew1 | refine below_set ?_ GE269.out | refine below_set ?_ GE270.out | refine below_set ?_ GE271.out | refine below_set ?_ GE272.out | refine below_set ?_ GE277.out | refine below_set ?_ GE284.out) | exact HB.out))) : w.heap.size ≤ gb290))
         have n10_ := Aside0.mk ((by rw [hg]; exact Nat.ne_of_lt (blk_lt (zk BK269.out)) : gb269 ≠ gb290))
         have n11_ := Aside0.mk ((by rw [hg]; exact Nat.ne_of_gt (blk_lt (zk BK269.out)) : gb290 ≠ gb269))
         have n12_ := Aside0.mk ((by rw [hg]; exact Nat.ne_of_lt (blk_lt (zk BK270.out)) : gb270 ≠ gb290))
         have n13_ := Aside0.mk ((by rw [hg]; exact Nat.ne_of_gt (blk_lt (zk BK270.out)) : gb290 ≠ gb270))
         have n14_ := Aside0.mk ((by rw [hg]; exact Nat.ne_of_lt (blk_lt (zk BK271.out)) : gb271 ≠ gb290))
         have n15_ := Aside0.mk ((by rw [hg]; exact Nat.ne_of_gt (blk_lt (zk BK271.out)) : gb290 ≠ gb271))
         have n16_ := Aside0.mk ((by rw [hg]; exact Nat.ne_of_lt (blk_lt (zk BK272.out)) : gb272 ≠ gb290))
         have n17_ := Aside0.mk ((by rw [hg]; exact Nat.ne_of_gt (blk_lt (zk BK272.out)) : gb290 ≠ gb272))
         have n18_ := Aside0.mk ((by rw [hg]; exact Nat.ne_of_lt (blk_lt (zk BK277.out)) : gb277 ≠ gb290))
         have n19_ := Aside0.mk ((by rw [hg]; exact Nat.ne_of_gt (blk_lt (zk BK277.out)) : gb290 ≠ gb277))
         have n20_ := Aside0.mk ((by rw [hg]; exact Nat.ne_of_lt (blk_lt (zk BK284.out)) : gb284 ≠ gb290))
         have n21_ := Aside0.mk ((by rw [hg]; exact Nat.ne_of_gt (blk_lt (zk BK284.out)) : gb290 ≠ gb284))
         clear BK269
         clear BK270
         clear BK271
         clear BK272
         clear BK277
         clear BK284
         clear HB
         have BK269 := n0_
         have BK270 := n1_
         have BK271 := n2_
         have BK272 := n3_
         have BK277 := n4_
         have BK284 := n5_
         have HB := n6_
         have BK290 := n7_
         have GW290 := n8_
         have GE290 := n9_
         have NB269_290 := n10_
         have NB290_269 := n11_
         have NB270_290 := n12_
         have NB290_270 := n13_
         have NB271_290 := n14_
         have NB290_271 := n15_
         have NB272_290 := n16_
         have NB290_272 := n17_
         have NB277_290 := n18_
         have NB290_277 := n19_
         have NB284_290 := n20_
         have NB290_284 := n21_
         clear n0_ n1_ n2_ n3_ n4_ n5_ n6_ n7_ n8_ n9_ n10_ n11_ n12_ n13_ n14_ n15_ n16_ n17_ n18_ n19_ n20_ n21_
         clear hb hbox hg
         refine hK.out _ _ ⟨(blk_cell BK269.out 0).trans rfl, (blk_cell BK269.out 1).trans rfl, (blk_cell BK269.out 2).trans rfl, (blk_cell BK269.out 3).trans rfl, (blk_cell BK269.out 4).trans rfl, (blk_cell BK269.out 5).trans rfl, (blk_cell BK269.out 6).trans rfl, (blk_cell BK270.out 0).trans rfl, (blk_cell BK270.out 1).trans rfl, (blk_cell BK272.out 0).trans rfl, (blk_cell BK272.out 1).trans rfl, (blk_cell BK272.out 2).trans rfl, (blk_cell BK272.out 3).trans rfl, (blk_cell BK272.out 4).trans rfl, (blk_cell BK272.out 5).trans rfl, (blk_cell BK284.out 0).trans rfl, (blk_cell BK284.out 1).trans rfl, (blk_cell BK284.out 2).trans rfl, (blk_cell BK284.out 3).trans rfl⟩ (fun hHeld => ?_)
         clear hK K
         refine norm_ (a' := ?_) ?_ ?_
         rotate_left
         ·show Act.put _ (some 14) _ = _
          simp only [Act.put, List.setIfInBounds_toArray, List.set_cons_zero, List.set_cons_succ, i64_w, i32_w]
          rfl
         refine one_ (i := 9) (N := some 63) #[true, true, true, true, true, true, true, true, true, true, false, false, false, true, false, false] rfl rfl (one_of HT_.out (by kernel_rfl)) (by decide) (fun K hK => ?_)
         refine goes_ Try.func23 (by kernel_rfl) rfl #[.agg #[.string a0_0, .string a0_1, .int .i64 a0_2, .int .i64 a0_3, .int .i64 a0_4, .int .i64 a0_5, .int .i64 a0_6], .agg #[.int .i64 t285, .int .i64 t286], .agg #[.int .i64 t280, .int .i64 t281, .int .i64 t282, .int .i64 t283], .int .i64 a3] (by rfl) rfl rfl (by (try simp only [List.map_toArray, List.map_cons, List.map_nil]); first | done | rfl | (simp only [List.length_drop, List.length_take]; rfl)) ?_
         with_reducible refine (turf_Next.calls a0_0 a0_1 a0_2 a0_3 a0_4 a0_5 a0_6 t285 t286 t280 t281 t282 t283 a3 t287 t288 t289 _ A56.out).mono ?_
         rintro e w71 ⟨rfl, hb⟩
         refine ⟨_, rfl, ?_⟩
         have n0_ := Aside0.mk (zb BK269.out hb)
         have n1_ := Aside0.mk (zb BK270.out hb)
         have n2_ := Aside0.mk (zb BK271.out hb)
         have n3_ := Aside0.mk (zb BK272.out hb)
         have n4_ := Aside0.mk (zb BK277.out hb)
         have n5_ := Aside0.mk (zb BK284.out hb)
         have n6_ := Aside0.mk (zb BK290.out hb)
         have n7_ := Aside0.mk (below_step (by repeat (first | (with_reducible first | exact HB.out | apply below_alloc | apply pw_below_drewN | apply below_drew1 | refine below_set ?_ GE269.out | refine below_set ?_ GE270.out | refine below_set ?_ GE271.out | refine below_set ?_ GE272.out | refine below_set ?_ GE277.out | refine below_set ?_ GE284.out | refine below_set ?_ GE290.out) | exact HB.out)) hb)
         clear BK269
         clear BK270
         clear BK271
         clear BK272
         clear BK277
         clear BK284
         clear BK290
         clear HB
         have BK269 := n0_
         have BK270 := n1_
         have BK271 := n2_
         have BK272 := n3_
         have BK277 := n4_
         have BK284 := n5_
         have BK290 := n6_
         have HB := n7_
         clear n0_ n1_ n2_ n3_ n4_ n5_ n6_ n7_
         (try clear hb)
         (try clear hb2)
         (try clear hk)
         (try clear hi)
         refine hK.out _ _ ⟨(blk_cell BK269.out 0).trans rfl, (blk_cell BK269.out 1).trans rfl, (blk_cell BK269.out 2).trans rfl, (blk_cell BK269.out 3).trans rfl, (blk_cell BK269.out 4).trans rfl, (blk_cell BK269.out 5).trans rfl, (blk_cell BK269.out 6).trans rfl, (blk_cell BK270.out 0).trans rfl, (blk_cell BK270.out 1).trans rfl, (blk_cell BK272.out 0).trans rfl, (blk_cell BK272.out 1).trans rfl, (blk_cell BK272.out 2).trans rfl, (blk_cell BK272.out 3).trans rfl, (blk_cell BK272.out 4).trans rfl, (blk_cell BK272.out 5).trans rfl, (blk_cell BK284.out 0).trans rfl, (blk_cell BK284.out 1).trans rfl, (blk_cell BK284.out 2).trans rfl, (blk_cell BK284.out 3).trans rfl⟩ (fun hHeld => ?_)
         clear hK K
         refine norm_ (a' := ?_) ?_ ?_
         rotate_left
         ·show Act.put _ (some 63) _ = _
          simp only [Act.put, List.setIfInBounds_toArray, List.set_cons_zero, List.set_cons_succ, i64_w, i32_w]
          rfl
         refine pure_ (i := 10) (N := some 53) (v := ?_) (a' := ?_) #[true, true, true, true, true, true, true, true, true, true, true, false, false, true, false, false] rfl rfl (any_of HT_.out (by kernel_rfl)) (fun _ _ _ h => h) (Or.inl ⟨by rfl, ?_⟩) ?_ ?_
         rotate_left
         ·intro w'
          go_simp
          with_reducible rfl
         rotate_left
         ·simp only [Act.put, List.setIfInBounds_toArray, List.set_cons_zero, List.set_cons_succ, i64_w, i32_w]
          rfl
         refine pure_ (i := 11) (N := some 64) (v := ?_) (a' := ?_) #[true, true, true, true, true, true, true, true, true, true, true, true, false, true, false, false] rfl rfl (any_of HT_.out (by kernel_rfl)) (fun _ _ _ h => h) (Or.inl ⟨by rfl, ?_⟩) ?_ ?_
         rotate_left
         ·intro w'
          go_simp
          with_reducible rfl
         rotate_left
         ·simp only [Act.put, List.setIfInBounds_toArray, List.set_cons_zero, List.set_cons_succ, i64_w, i32_w]
          rfl
         refine pure_ (i := 12) (N := some 65) (v := ?_) (a' := ?_) #[true, true, true, true, true, true, true, true, true, true, true, true, true, true, false, false] rfl rfl (any_of HT_.out (by kernel_rfl)) (fun _ _ _ h => h) (Or.inl ⟨by rfl, ?_⟩) ?_ ?_
         rotate_left
         ·intro w'
          go_simp
          with_reducible rfl
         rotate_left
         ·simp only [Act.put, List.setIfInBounds_toArray, List.set_cons_zero, List.set_cons_succ, i64_w, i32_w]
          rfl
         exact norm_ (by simp only [putAll, Act.put, List.setIfInBounds_toArray, List.set_cons_zero, List.set_cons_succ]) (hCont (gb290) _ ⟨hHeld, (zk BK269.out), (zk BK270.out), (zk BK271.out), (zk BK272.out), (zk BK277.out), (zk BK284.out), (zk BK290.out), GW290.out, GE290.out, NB269_290.out, NB290_269.out, NB270_290.out, NB290_270.out, NB271_290.out, NB290_271.out, NB272_290.out, NB290_272.out, NB277_290.out, NB290_277.out, NB284_290.out, NB290_284.out, (by repeat (first | (with_reducible first | exact HB.out | apply below_alloc | apply pw_below_drewN | apply below_drew1 | refine below_set ?_ GE269.out | refine below_set ?_ GE270.out | refine below_set ?_ GE271.out | refine below_set ?_ GE272.out | refine below_set ?_ GE277.out | refine below_set ?_ GE284.out | refine below_set ?_ GE290.out) | exact HB.out))⟩)
       ·skip
        refine box_step ?hg (N := 14) ?hd (cs := #[.int .i64 0, .int .i64 0]) (t := 27) ?hr ?_; (case hd => rfl); (case hg => rfl); (case hr => first | (go_simp; done) | (go_simp; rfl))
        intro gb290 hg w69 hbox hb
        have n0_ := Aside0.mk (zb BK269.out hb)
        have n1_ := Aside0.mk (zb BK270.out hb)
        have n2_ := Aside0.mk (zb BK271.out hb)
        have n3_ := Aside0.mk (zb BK272.out hb)
        have n4_ := Aside0.mk (zb BK277.out hb)
        have n5_ := Aside0.mk (zb BK284.out hb)
        have n6_ := Aside0.mk (below_step (by repeat (first | (with_reducible first | exact HB.out | apply below_alloc | apply pw_below_drewN | apply below_drew1 | refine below_set ?_ GE269.out | refine below_set ?_ GE270.out | refine below_set ?_ GE271.out | refine below_set ?_ GE272.out | refine below_set ?_ GE277.out | refine below_set ?_ GE284.out) | exact HB.out)) hb)
        have n7_ := Aside0.mk (hbox)
        have n8_ := Aside0.mk ((by rw [hg]; exact (below_size (by repeat (first | (with_reducible first | exact HB.out | apply below_alloc | apply pw_below_drewN | apply below_drew1 | refine below_set ?_ GE269.out | refine below_set ?_ GE270.out | refine below_set ?_ GE271.out | refine below_set ?_ GE272.out | refine below_set ?_ GE277.out | refine below_set ?_ GE284.out) | exact HB.out))) : w.heap.size ≤ gb290))
        have n9_ := Aside0.mk ((by rw [hg]; exact (below_size (by repeat (first | (with_reducible first | exact HB.out | apply below_alloc | apply pw_below_drewN | apply below_drew1 | refine below_set ?_ GE269.out | refine below_set ?_ GE270.out | refine below_set ?_ GE271.out | refine below_set ?_ GE272.out | refine below_set ?_ GE277.out | refine below_set ?_ GE284.out) | exact HB.out))) : w.heap.size ≤ gb290))
        have n10_ := Aside0.mk ((by rw [hg]; exact Nat.ne_of_lt (blk_lt (zk BK269.out)) : gb269 ≠ gb290))
        have n11_ := Aside0.mk ((by rw [hg]; exact Nat.ne_of_gt (blk_lt (zk BK269.out)) : gb290 ≠ gb269))
        have n12_ := Aside0.mk ((by rw [hg]; exact Nat.ne_of_lt (blk_lt (zk BK270.out)) : gb270 ≠ gb290))
        have n13_ := Aside0.mk ((by rw [hg]; exact Nat.ne_of_gt (blk_lt (zk BK270.out)) : gb290 ≠ gb270))
        have n14_ := Aside0.mk ((by rw [hg]; exact Nat.ne_of_lt (blk_lt (zk BK271.out)) : gb271 ≠ gb290))
        have n15_ := Aside0.mk ((by rw [hg]; exact Nat.ne_of_gt (blk_lt (zk BK271.out)) : gb290 ≠ gb271))
        have n16_ := Aside0.mk ((by rw [hg]; exact Nat.ne_of_lt (blk_lt (zk BK272.out)) : gb272 ≠ gb290))
        have n17_ := Aside0.mk ((by rw [hg]; exact Nat.ne_of_gt (blk_lt (zk BK272.out)) : gb290 ≠ gb272))
        have n18_ := Aside0.mk ((by rw [hg]; exact Nat.ne_of_lt (blk_lt (zk BK277.out)) : gb277 ≠ gb290))
        have n19_ := Aside0.mk ((by rw [hg]; exact Nat.ne_of_gt (blk_lt (zk BK277.out)) : gb290 ≠ gb277))
        have n20_ := Aside0.mk ((by rw [hg]; exact Nat.ne_of_lt (blk_lt (zk BK284.out)) : gb284 ≠ gb290))
        have n21_ := Aside0.mk ((by rw [hg]; exact Nat.ne_of_gt (blk_lt (zk BK284.out)) : gb290 ≠ gb284))
        clear BK269
        clear BK270
        clear BK271
        clear BK272
        clear BK277
        clear BK284
        clear HB
        have BK269 := n0_
        have BK270 := n1_
        have BK271 := n2_
        have BK272 := n3_
        have BK277 := n4_
        have BK284 := n5_
        have HB := n6_
        have BK290 := n7_
        have GW290 := n8_
        have GE290 := n9_
        have NB269_290 := n10_
        have NB290_269 := n11_
        have NB270_290 := n12_
        have NB290_270 := n13_
        have NB271_290 := n14_
        have NB290_271 := n15_
        have NB272_290 := n16_
        have NB290_272 := n17_
        have NB277_290 := n18_
        have NB290_277 := n19_
        have NB284_290 := n20_
        have NB290_284 := n21_
        clear n0_ n1_ n2_ n3_ n4_ n5_ n6_ n7_ n8_ n9_ n10_ n11_ n12_ n13_ n14_ n15_ n16_ n17_ n18_ n19_ n20_ n21_
        clear hb hbox hg
        refine hK.out _ _ ⟨(blk_cell BK269.out 0).trans rfl, (blk_cell BK269.out 1).trans rfl, (blk_cell BK269.out 2).trans rfl, (blk_cell BK269.out 3).trans rfl, (blk_cell BK269.out 4).trans rfl, (blk_cell BK269.out 5).trans rfl, (blk_cell BK269.out 6).trans rfl, (blk_cell BK270.out 0).trans rfl, (blk_cell BK270.out 1).trans rfl, (blk_cell BK272.out 0).trans rfl, (blk_cell BK272.out 1).trans rfl, (blk_cell BK272.out 2).trans rfl, (blk_cell BK272.out 3).trans rfl, (blk_cell BK272.out 4).trans rfl, (blk_cell BK272.out 5).trans rfl, (blk_cell BK284.out 0).trans rfl, (blk_cell BK284.out 1).trans rfl, (blk_cell BK284.out 2).trans rfl, (blk_cell BK284.out 3).trans rfl⟩ (fun hHeld => ?_)
        clear hK K
        refine norm_ (a' := ?_) ?_ ?_
        rotate_left
        ·show Act.put _ (some 14) _ = _
         simp only [Act.put, List.setIfInBounds_toArray, List.set_cons_zero, List.set_cons_succ, i64_w, i32_w]
         rfl
        refine one_ (i := 6) (N := some 60) #[true, true, true, true, true, true, true, true, true, false, false, false, false, true, false, false] rfl rfl (one_of HT_.out (by kernel_rfl)) (by decide) (fun K hK => ?_)
        refine goes_ Try.func34 (by kernel_rfl) rfl #[.agg #[.int .i64 a1_0, .int .i64 a1_1], .int .u16 a4_0, .int .u16 a4_1] (by rfl) rfl rfl (by (try simp only [List.map_toArray, List.map_cons, List.map_nil]); first | done | rfl | (simp only [List.length_drop, List.length_take]; rfl)) ?_
        with_reducible refine (fastilaw28_part.calls a1_0 a1_1 a4_0 a4_1 t285 t286 _ A55.out).mono ?_
        rintro e w70 ⟨rfl, hb⟩
        refine ⟨_, rfl, ?_⟩
        have n0_ := Aside0.mk (zb BK269.out hb)
        have n1_ := Aside0.mk (zb BK270.out hb)
        have n2_ := Aside0.mk (zb BK271.out hb)
        have n3_ := Aside0.mk (zb BK272.out hb)
        have n4_ := Aside0.mk (zb BK277.out hb)
        have n5_ := Aside0.mk (zb BK284.out hb)
        have n6_ := Aside0.mk (zb BK290.out hb)
        have n7_ := Aside0.mk (below_step (by repeat (first | (with_reducible first | exact HB.out | apply below_alloc | apply pw_below_drewN | apply below_drew1 | refine below_set ?_ GE269.out | refine below_set ?_ GE270.out | refine below_set ?_ GE271.out | refine below_set ?_ GE272.out | refine below_set ?_ GE277.out | refine below_set ?_ GE284.out | refine below_set ?_ GE290.out) | exact HB.out)) hb)
        clear BK269
        clear BK270
        clear BK271
        clear BK272
        clear BK277
        clear BK284
        clear BK290
        clear HB
        have BK269 := n0_
        have BK270 := n1_
        have BK271 := n2_
        have BK272 := n3_
        have BK277 := n4_
        have BK284 := n5_
        have BK290 := n6_
        have HB := n7_
        clear n0_ n1_ n2_ n3_ n4_ n5_ n6_ n7_
        (try clear hb)
        (try clear hb2)
        (try clear hk)
        (try clear hi)
        refine hK.out _ _ ⟨(blk_cell BK269.out 0).trans rfl, (blk_cell BK269.out 1).trans rfl, (blk_cell BK269.out 2).trans rfl, (blk_cell BK269.out 3).trans rfl, (blk_cell BK269.out 4).trans rfl, (blk_cell BK269.out 5).trans rfl, (blk_cell BK269.out 6).trans rfl, (blk_cell BK270.out 0).trans rfl, (blk_cell BK270.out 1).trans rfl, (blk_cell BK272.out 0).trans rfl, (blk_cell BK272.out 1).trans rfl, (blk_cell BK272.out 2).trans rfl, (blk_cell BK272.out 3).trans rfl, (blk_cell BK272.out 4).trans rfl, (blk_cell BK272.out 5).trans rfl, (blk_cell BK284.out 0).trans rfl, (blk_cell BK284.out 1).trans rfl, (blk_cell BK284.out 2).trans rfl, (blk_cell BK284.out 3).trans rfl⟩ (fun hHeld => ?_)
        clear hK K
        refine norm_ (a' := ?_) ?_ ?_
        rotate_left
        ·show Act.put _ (some 60) _ = _
         simp only [Act.put, List.setIfInBounds_toArray, List.set_cons_zero, List.set_cons_succ, i64_w, i32_w]
         rfl
        refine one_ (i := 9) (N := some 63) #[true, true, true, true, true, true, true, true, true, true, false, false, false, true, false, false] rfl rfl (one_of HT_.out (by kernel_rfl)) (by decide) (fun K hK => ?_)
        refine goes_ Try.func23 (by kernel_rfl) rfl #[.agg #[.string a0_0, .string a0_1, .int .i64 a0_2, .int .i64 a0_3, .int .i64 a0_4, .int .i64 a0_5, .int .i64 a0_6], .agg #[.int .i64 t285, .int .i64 t286], .agg #[.int .i64 t280, .int .i64 t281, .int .i64 t282, .int .i64 t283], .int .i64 a3] (by rfl) rfl rfl (by (try simp only [List.map_toArray, List.map_cons, List.map_nil]); first | done | rfl | (simp only [List.length_drop, List.length_take]; rfl)) ?_
        with_reducible refine (turf_Next.calls a0_0 a0_1 a0_2 a0_3 a0_4 a0_5 a0_6 t285 t286 t280 t281 t282 t283 a3 t287 t288 t289 _ A56.out).mono ?_
        rintro e w71 ⟨rfl, hb⟩
        refine ⟨_, rfl, ?_⟩
        have n0_ := Aside0.mk (zb BK269.out hb)
        have n1_ := Aside0.mk (zb BK270.out hb)
        have n2_ := Aside0.mk (zb BK271.out hb)
        have n3_ := Aside0.mk (zb BK272.out hb)
        have n4_ := Aside0.mk (zb BK277.out hb)
        have n5_ := Aside0.mk (zb BK284.out hb)
        have n6_ := Aside0.mk (zb BK290.out hb)
        have n7_ := Aside0.mk (below_step (by repeat (first | (with_reducible first | exact HB.out | apply below_alloc | apply pw_below_drewN | apply below_drew1 | refine below_set ?_ GE269.out | refine below_set ?_ GE270.out | refine below_set ?_ GE271.out | refine below_set ?_ GE272.out | refine below_set ?_ GE277.out | refine below_set ?_ GE284.out | refine below_set ?_ GE290.out) | exact HB.out)) hb)
        clear BK269
        clear BK270
        clear BK271
        clear BK272
        clear BK277
        clear BK284
        clear BK290
        clear HB
        have BK269 := n0_
        have BK270 := n1_
        have BK271 := n2_
        have BK272 := n3_
        have BK277 := n4_
        have BK284 := n5_
        have BK290 := n6_
        have HB := n7_
        clear n0_ n1_ n2_ n3_ n4_ n5_ n6_ n7_
        (try clear hb)
        (try clear hb2)
        (try clear hk)
        (try clear hi)
        refine hK.out _ _ ⟨(blk_cell BK269.out 0).trans rfl, (blk_cell BK269.out 1).trans rfl, (blk_cell BK269.out 2).trans rfl, (blk_cell BK269.out 3).trans rfl, (blk_cell BK269.out 4).trans rfl, (blk_cell BK269.out 5).trans rfl, (blk_cell BK269.out 6).trans rfl, (blk_cell BK270.out 0).trans rfl, (blk_cell BK270.out 1).trans rfl, (blk_cell BK272.out 0).trans rfl, (blk_cell BK272.out 1).trans rfl, (blk_cell BK272.out 2).trans rfl, (blk_cell BK272.out 3).trans rfl, (blk_cell BK272.out 4).trans rfl, (blk_cell BK272.out 5).trans rfl, (blk_cell BK284.out 0).trans rfl, (blk_cell BK284.out 1).trans rfl, (blk_cell BK284.out 2).trans rfl, (blk_cell BK284.out 3).trans rfl⟩ (fun hHeld => ?_)
        clear hK K
        refine norm_ (a' := ?_) ?_ ?_
        rotate_left
        ·show Act.put _ (some 63) _ = _
         simp only [Act.put, List.setIfInBounds_toArray, List.set_cons_zero, List.set_cons_succ, i64_w, i32_w]
         rfl
        refine pure_ (i := 10) (N := some 53) (v := ?_) (a' := ?_) #[true, true, true, true, true, true, true, true, true, true, true, false, false, true, false, false] rfl rfl (any_of HT_.out (by kernel_rfl)) (fun _ _ _ h => h) (Or.inl ⟨by rfl, ?_⟩) ?_ ?_
        rotate_left
        ·intro w'
         go_simp
         with_reducible rfl
        rotate_left
        ·simp only [Act.put, List.setIfInBounds_toArray, List.set_cons_zero, List.set_cons_succ, i64_w, i32_w]
         rfl
        refine pure_ (i := 11) (N := some 64) (v := ?_) (a' := ?_) #[true, true, true, true, true, true, true, true, true, true, true, true, false, true, false, false] rfl rfl (any_of HT_.out (by kernel_rfl)) (fun _ _ _ h => h) (Or.inl ⟨by rfl, ?_⟩) ?_ ?_
        rotate_left
        ·intro w'
         go_simp
         with_reducible rfl
        rotate_left
        ·simp only [Act.put, List.setIfInBounds_toArray, List.set_cons_zero, List.set_cons_succ, i64_w, i32_w]
         rfl
        refine pure_ (i := 12) (N := some 65) (v := ?_) (a' := ?_) #[true, true, true, true, true, true, true, true, true, true, true, true, true, true, false, false] rfl rfl (any_of HT_.out (by kernel_rfl)) (fun _ _ _ h => h) (Or.inl ⟨by rfl, ?_⟩) ?_ ?_
        rotate_left
        ·intro w'
         go_simp
         with_reducible rfl
        rotate_left
        ·simp only [Act.put, List.setIfInBounds_toArray, List.set_cons_zero, List.set_cons_succ, i64_w, i32_w]
         rfl
        exact norm_ (by simp only [putAll, Act.put, List.setIfInBounds_toArray, List.set_cons_zero, List.set_cons_succ]) (hCont (gb290) _ ⟨hHeld, (zk BK269.out), (zk BK270.out), (zk BK271.out), (zk BK272.out), (zk BK277.out), (zk BK284.out), (zk BK290.out), GW290.out, GE290.out, NB269_290.out, NB290_269.out, NB270_290.out, NB290_270.out, NB271_290.out, NB290_271.out, NB272_290.out, NB290_272.out, NB277_290.out, NB290_277.out, NB284_290.out, NB290_284.out, (by repeat (first | (with_reducible first | exact HB.out | apply below_alloc | apply pw_below_drewN | apply below_drew1 | refine below_set ?_ GE269.out | refine below_set ?_ GE270.out | refine below_set ?_ GE271.out | refine below_set ?_ GE272.out | refine below_set ?_ GE277.out | refine below_set ?_ GE284.out | refine below_set ?_ GE290.out) | exact HB.out))⟩)
      rintro gb290 w72 ⟨hS_, h0_, h1_, h2_, h3_, h4_, h5_, h6_, h7_, h8_, h9_, h10_, h11_, h12_, h13_, h14_, h15_, h16_, h17_, h18_, h19_, h20_, h21_⟩
      have n0_ : Aside0 (w72.heap[gb269]? = some (.cells #[.string a0_0, .string a0_1, .int .i64 a0_2, .int .i64 a0_3, .int .i64 a0_4, .int .i64 a0_5, .int .i64 a0_6] 25 (0, 0))) := ⟨h0_⟩
      have n1_ : Aside0 (w72.heap[gb270]? = some (.cells #[.int .i64 a1_0, .int .i64 a1_1] 27 (0, 0))) := ⟨h1_⟩
      have n2_ : Aside0 (w72.heap[gb271]? = some (.cells #[.int .i64 a2_0, .int .i64 a2_1, .int .i64 a2_2, .int .i64 a2_3] 44 (0, 0))) := ⟨h2_⟩
      have n3_ : Aside0 (w72.heap[gb272]? = some (.cells #[.int .u16 a4_0, .int .u16 a4_1, .int .u16 a4_2, .int .u16 a4_3, .int .u16 a4_4, .int .u16 a4_5] 64 (0, 0))) := ⟨h3_⟩
      have n4_ : Aside0 (w72.heap[gb277]? = some (.cells #[.int .i64 t274, .int .i64 t275] 27 (0, 0))) := ⟨h4_⟩
      have n5_ : Aside0 (w72.heap[gb284]? = some (.cells #[.int .i64 t280, .int .i64 t281, .int .i64 t282, .int .i64 t283] 44 (0, 0))) := ⟨h5_⟩
      have n6_ : Aside0 (w72.heap[gb290]? = some (.cells #[.int .i64 0, .int .i64 0] 27 (0, 0))) := ⟨h6_⟩
      have n7_ : Aside0 (w.heap.size ≤ gb290) := ⟨h7_⟩
      have n8_ : Aside0 (w.heap.size ≤ gb290) := ⟨h8_⟩
      have n9_ : Aside0 (gb269 ≠ gb290) := ⟨h9_⟩
      have n10_ : Aside0 (gb290 ≠ gb269) := ⟨h10_⟩
      have n11_ : Aside0 (gb270 ≠ gb290) := ⟨h11_⟩
      have n12_ : Aside0 (gb290 ≠ gb270) := ⟨h12_⟩
      have n13_ : Aside0 (gb271 ≠ gb290) := ⟨h13_⟩
      have n14_ : Aside0 (gb290 ≠ gb271) := ⟨h14_⟩
      have n15_ : Aside0 (gb272 ≠ gb290) := ⟨h15_⟩
      have n16_ : Aside0 (gb290 ≠ gb272) := ⟨h16_⟩
      have n17_ : Aside0 (gb277 ≠ gb290) := ⟨h17_⟩
      have n18_ : Aside0 (gb290 ≠ gb277) := ⟨h18_⟩
      have n19_ : Aside0 (gb284 ≠ gb290) := ⟨h19_⟩
      have n20_ : Aside0 (gb290 ≠ gb284) := ⟨h20_⟩
      have n21_ : Aside0 (Below w.heap.size w w72) := ⟨h21_⟩
      clear BK269
      clear BK270
      clear BK271
      clear BK272
      clear BK277
      clear BK284
      clear HB
      clear h0_ h1_ h2_ h3_ h4_ h5_ h6_ h7_ h8_ h9_ h10_ h11_ h12_ h13_ h14_ h15_ h16_ h17_ h18_ h19_ h20_ h21_
      have BK269 := n0_
      have BK270 := n1_
      have BK271 := n2_
      have BK272 := n3_
      have BK277 := n4_
      have BK284 := n5_
      have BK290 := n6_
      have GW290 := n7_
      have GE290 := n8_
      have NB269_290 := n9_
      have NB290_269 := n10_
      have NB270_290 := n11_
      have NB290_270 := n12_
      have NB271_290 := n13_
      have NB290_271 := n14_
      have NB272_290 := n15_
      have NB290_272 := n16_
      have NB277_290 := n17_
      have NB290_277 := n18_
      have NB284_290 := n19_
      have NB290_284 := n20_
      have HB := n21_
      clear n0_ n1_ n2_ n3_ n4_ n5_ n6_ n7_ n8_ n9_ n10_ n11_ n12_ n13_ n14_ n15_ n16_ n17_ n18_ n19_ n20_ n21_
      have hHeld : w72.cell? ⟨gb269, 0, none⟩ = some (.string a0_0) ∧ w72.cell? ⟨gb269, 1, none⟩ = some (.string a0_1) ∧ w72.cell? ⟨gb269, 2, none⟩ = some (.int .i64 a0_2) ∧ w72.cell? ⟨gb269, 3, none⟩ = some (.int .i64 a0_3) ∧ w72.cell? ⟨gb269, 4, none⟩ = some (.int .i64 a0_4) ∧ w72.cell? ⟨gb269, 5, none⟩ = some (.int .i64 a0_5) ∧ w72.cell? ⟨gb269, 6, none⟩ = some (.int .i64 a0_6) ∧ w72.cell? ⟨gb270, 0, none⟩ = some (.int .i64 a1_0) ∧ w72.cell? ⟨gb270, 1, none⟩ = some (.int .i64 a1_1) ∧ w72.cell? ⟨gb272, 0, none⟩ = some (.int .u16 a4_0) ∧ w72.cell? ⟨gb272, 1, none⟩ = some (.int .u16 a4_1) ∧ w72.cell? ⟨gb272, 2, none⟩ = some (.int .u16 a4_2) ∧ w72.cell? ⟨gb272, 3, none⟩ = some (.int .u16 a4_3) ∧ w72.cell? ⟨gb272, 4, none⟩ = some (.int .u16 a4_4) ∧ w72.cell? ⟨gb272, 5, none⟩ = some (.int .u16 a4_5) ∧ w72.cell? ⟨gb284, 0, none⟩ = some (.int .i64 t280) ∧ w72.cell? ⟨gb284, 1, none⟩ = some (.int .i64 t281) ∧ w72.cell? ⟨gb284, 2, none⟩ = some (.int .i64 t282) ∧ w72.cell? ⟨gb284, 3, none⟩ = some (.int .i64 t283) := hS_
      refine norm_ (a' := ?_) ?_ ?_
      rotate_left
      ·simp only [putAll, Act.put, List.setIfInBounds_toArray, List.set_cons_zero, List.set_cons_succ]
       rfl
      refine one_ (i := 14) (N := none) #[true, true, true, true, true, true, true, true, true, true, true, true, true, true, true, false] rfl rfl (one_of HT_.out (by kernel_rfl)) (by decide) (fun K hK => ?_)
      have hs73 : w72.cell? ⟨gb290, 0, none⟩ = some (.int .i64 0) := (blk_cell BK290.out 0).trans rfl
      have hfs73 := blk_frozen BK290.out 0
      have hns73_0 := NB269_290.out
      have hns73_1 := NB270_290.out
      have hns73_2 := NB271_290.out
      have hns73_3 := NB272_290.out
      have hns73_4 := NB277_290.out
      have hns73_5 := NB284_290.out
      have hms73_0 := NB290_269.out
      have hms73_1 := NB290_270.out
      have hms73_2 := NB290_271.out
      have hms73_3 := NB290_272.out
      have hms73_4 := NB290_277.out
      have hms73_5 := NB290_284.out
      have hs74 : w72.cell? ⟨gb290, 1, none⟩ = some (.int .i64 0) := (blk_cell BK290.out 1).trans rfl
      have hfs74 := blk_frozen BK290.out 1
      have hns74_0 := NB269_290.out
      have hns74_1 := NB270_290.out
      have hns74_2 := NB271_290.out
      have hns74_3 := NB272_290.out
      have hns74_4 := NB277_290.out
      have hns74_5 := NB284_290.out
      have hms74_0 := NB290_269.out
      have hms74_1 := NB290_270.out
      have hms74_2 := NB290_271.out
      have hms74_3 := NB290_272.out
      have hms74_4 := NB290_277.out
      have hms74_5 := NB290_284.out
      refine skip_ (w1 := ?_) (by rfl) rfl ?_ ?_
      rotate_left
      ·go_simp
       rfl
      refine hK.out _ _ ⟨((cell_far (p := ⟨gb290, _, none⟩) NB269_290.out _).trans (((cell_far (p := ⟨gb290, _, none⟩) NB269_290.out _).trans (hHeld.1)))), ((cell_far (p := ⟨gb290, _, none⟩) NB269_290.out _).trans (((cell_far (p := ⟨gb290, _, none⟩) NB269_290.out _).trans (hHeld.2.1)))), ((cell_far (p := ⟨gb290, _, none⟩) NB269_290.out _).trans (((cell_far (p := ⟨gb290, _, none⟩) NB269_290.out _).trans (hHeld.2.2.1)))), ((cell_far (p := ⟨gb290, _, none⟩) NB269_290.out _).trans (((cell_far (p := ⟨gb290, _, none⟩) NB269_290.out _).trans (hHeld.2.2.2.1)))), ((cell_far (p := ⟨gb290, _, none⟩) NB269_290.out _).trans (((cell_far (p := ⟨gb290, _, none⟩) NB269_290.out _).trans (hHeld.2.2.2.2.1)))), ((cell_far (p := ⟨gb290, _, none⟩) NB269_290.out _).trans (((cell_far (p := ⟨gb290, _, none⟩) NB269_290.out _).trans (hHeld.2.2.2.2.2.1)))), ((cell_far (p := ⟨gb290, _, none⟩) NB269_290.out _).trans (((cell_far (p := ⟨gb290, _, none⟩) NB269_290.out _).trans (hHeld.2.2.2.2.2.2.1)))), ((cell_far (p := ⟨gb290, _, none⟩) NB270_290.out _).trans (((cell_far (p := ⟨gb290, _, none⟩) NB270_290.out _).trans (hHeld.2.2.2.2.2.2.2.1)))), ((cell_far (p := ⟨gb290, _, none⟩) NB270_290.out _).trans (((cell_far (p := ⟨gb290, _, none⟩) NB270_290.out _).trans (hHeld.2.2.2.2.2.2.2.2.1)))), ((cell_far (p := ⟨gb290, _, none⟩) NB272_290.out _).trans (((cell_far (p := ⟨gb290, _, none⟩) NB272_290.out _).trans (hHeld.2.2.2.2.2.2.2.2.2.1)))), ((cell_far (p := ⟨gb290, _, none⟩) NB272_290.out _).trans (((cell_far (p := ⟨gb290, _, none⟩) NB272_290.out _).trans (hHeld.2.2.2.2.2.2.2.2.2.2.1)))), ((cell_far (p := ⟨gb290, _, none⟩) NB272_290.out _).trans (((cell_far (p := ⟨gb290, _, none⟩) NB272_290.out _).trans (hHeld.2.2.2.2.2.2.2.2.2.2.2.1)))), ((cell_far (p := ⟨gb290, _, none⟩) NB272_290.out _).trans (((cell_far (p := ⟨gb290, _, none⟩) NB272_290.out _).trans (hHeld.2.2.2.2.2.2.2.2.2.2.2.2.1)))), ((cell_far (p := ⟨gb290, _, none⟩) NB272_290.out _).trans (((cell_far (p := ⟨gb290, _, none⟩) NB272_290.out _).trans (hHeld.2.2.2.2.2.2.2.2.2.2.2.2.2.1)))), ((cell_far (p := ⟨gb290, _, none⟩) NB272_290.out _).trans (((cell_far (p := ⟨gb290, _, none⟩) NB272_290.out _).trans (hHeld.2.2.2.2.2.2.2.2.2.2.2.2.2.2.1)))), ((cell_far (p := ⟨gb290, _, none⟩) NB284_290.out _).trans (((cell_far (p := ⟨gb290, _, none⟩) NB284_290.out _).trans (hHeld.2.2.2.2.2.2.2.2.2.2.2.2.2.2.2.1)))), ((cell_far (p := ⟨gb290, _, none⟩) NB284_290.out _).trans (((cell_far (p := ⟨gb290, _, none⟩) NB284_290.out _).trans (hHeld.2.2.2.2.2.2.2.2.2.2.2.2.2.2.2.2.1)))), ((cell_far (p := ⟨gb290, _, none⟩) NB284_290.out _).trans (((cell_far (p := ⟨gb290, _, none⟩) NB284_290.out _).trans (hHeld.2.2.2.2.2.2.2.2.2.2.2.2.2.2.2.2.2.1)))), ((cell_far (p := ⟨gb290, _, none⟩) NB284_290.out _).trans (((cell_far (p := ⟨gb290, _, none⟩) NB284_290.out _).trans (hHeld.2.2.2.2.2.2.2.2.2.2.2.2.2.2.2.2.2.2))))⟩ (fun hHeld => ?_)
      clear hK K
      refine pure_ (i := 15) (N := some 15) (v := ?_) (a' := ?_) #[true, true, true, true, true, true, true, true, true, true, true, true, true, true, true, true] rfl rfl (any_of HT_.out (by kernel_rfl)) (fun _ _ _ h => h) (Or.inl ⟨by rfl, ?_⟩) ?_ ?_
      rotate_left
      ·intro w'
       go_simp
       with_reducible rfl
      rotate_left
      ·simp only [Act.put, List.setIfInBounds_toArray, List.set_cons_zero, List.set_cons_succ, i64_w, i32_w]
       rfl
      refine done_ (done_of HT_.out (by kernel_rfl)) ?_
      go_upto_region 10 with (fail)
      go_cut [73] (fun v73 wc => ∃ (kq : Nat) (x73_56 : Bool), v73 = .bool x73_56 ∧ Aside0 (fastilaw28_TurfLess.j1 kq a3 x73_56 a0_0 a0_1 a0_2 a0_3 a0_4 a0_5 a0_6 a1_0 a1_1 a2_0 a2_1 a2_2 a2_3 t274 t275 = some r) ∧ Aside0 (kq ≤ kj9) ∧ Aside0 (wc.heap[gb269]? = some (.cells #[.string a0_0, .string a0_1, .int .i64 a0_2, .int .i64 a0_3, .int .i64 a0_4, .int .i64 a0_5, .int .i64 a0_6] 25 (0, 0))) ∧ Aside0 (wc.heap[gb270]? = some (.cells #[.int .i64 a1_0, .int .i64 a1_1] 27 (0, 0))) ∧ Aside0 (wc.heap[gb271]? = some (.cells #[.int .i64 a2_0, .int .i64 a2_1, .int .i64 a2_2, .int .i64 a2_3] 44 (0, 0))) ∧ Aside0 (wc.heap[gb272]? = some (.cells #[.int .u16 a4_0, .int .u16 a4_1, .int .u16 a4_2, .int .u16 a4_3, .int .u16 a4_4, .int .u16 a4_5] 64 (0, 0))) ∧ Aside0 (wc.heap[gb277]? = some (.cells #[.int .i64 t274, .int .i64 t275] 27 (0, 0))) ∧ Aside0 (wc.heap[gb284]? = some (.cells #[.int .i64 t280, .int .i64 t281, .int .i64 t282, .int .i64 t283] 44 (0, 0))) ∧ Aside0 (wc.heap[gb290]? = some (.cells #[.int .i64 t287, .int .i64 t288] 27 (0, 0))) ∧ Aside0 (Below w.heap.size w wc))
      case first =>
       have H := HC57.out
       clear HC57
       by_cases c75 : t289 = 0
       ·rw [if_pos c75] at H
        have c75b0 : (t289 == 0) = true := beq_iff_eq.mpr c75
        have c75b1 : (t289 != 0) = false := bne_eq_false_iff_eq.mpr c75
        clear c75
        (first | rw [c75b0] | (simp only [i64_w, i32_w]; rw [c75b0]) | skip)
        replace H := Option.bind_eq_some_iff.mp H
        obtain ⟨t291, A760, H⟩ := H
        replace H : (fastilaw28_TurfLess.j1 kj9 a3 (!t291) a0_0 a0_1 a0_2 a0_3 a0_4 a0_5 a0_6 a1_0 a1_1 a2_0 a2_1 a2_2 a2_3 t274 t275) = some r := H
        have A76 := Aside0.mk A760
        clear A760
        have H' := Aside0.mk H
        clear H
        have hnb77 := NB290_269.out
        have hnc77 := NB269_290.out
        have hnb78 := NB290_270.out
        have hnc78 := NB270_290.out
        have hnb79 := NB290_271.out
        have hnc79 := NB271_290.out
        have hnb80 := NB290_272.out
        have hnc80 := NB272_290.out
        have hnb81 := NB290_277.out
        have hnc81 := NB277_290.out
        have hnb82 := NB290_284.out
        have hnc82 := NB284_290.out
        have hcz83_0 : w72.cell? ⟨gb290, 0, none⟩ = some (.int .i64 0) := (blk_cell BK290.out 0).trans rfl
        have hcz83_1 : w72.cell? ⟨gb290, 1, none⟩ = some (.int .i64 0) := (blk_cell BK290.out 1).trans rfl
        have hfz83_0 := blk_frozen BK290.out 0
        have hfz83_1 := blk_frozen BK290.out 1
        have hnb84 := NB277_269.out
        have hnc84 := NB269_277.out
        have hnb85 := NB277_270.out
        have hnc85 := NB270_277.out
        have hnb86 := NB277_271.out
        have hnc86 := NB271_277.out
        have hnb87 := NB277_272.out
        have hnc87 := NB272_277.out
        have hnb88 := NB277_284.out
        have hnc88 := NB284_277.out
        have hcz89_0 : w72.cell? ⟨gb277, 0, none⟩ = some (.int .i64 t274) := (blk_cell BK277.out 0).trans rfl
        have hcz89_1 : w72.cell? ⟨gb277, 1, none⟩ = some (.int .i64 t275) := (blk_cell BK277.out 1).trans rfl
        have hfz89_0 := blk_frozen BK277.out 0
        have hfz89_1 := blk_frozen BK277.out 1
        go_wp2_with (first | (go_at_call 35; (with_reducible refine (fastilaw28_inside.calls t287 t288 t274 t275 t291 _ A76.out).mono ?_); rintro e w90 ⟨rfl, hb⟩; have n0_ := Aside0.mk (blk_below (g := gb269) (o := .cells #[.string a0_0, .string a0_1, .int .i64 a0_2, .int .i64 a0_3, .int .i64 a0_4, .int .i64 a0_5, .int .i64 a0_6] 25 (0, 0)) (by (with_reducible repeat (first | refine blk_drewN ?_ _ | refine blk_drew ?_ | refine blk_alloc ?_ _)); refine blk_far ?_ NB269_290.out _; (with_reducible repeat (first | refine blk_drewN ?_ _ | refine blk_drew ?_ | refine blk_alloc ?_ _)); refine blk_far ?_ NB269_290.out _; (with_reducible repeat (first | refine blk_drewN ?_ _ | refine blk_drew ?_ | refine blk_alloc ?_ _)); exact BK269.out) hb); have n1_ := Aside0.mk (blk_below (g := gb270) (o := .cells #[.int .i64 a1_0, .int .i64 a1_1] 27 (0, 0)) (by (with_reducible repeat (first | refine blk_drewN ?_ _ | refine blk_drew ?_ | refine blk_alloc ?_ _)); refine blk_far ?_ NB270_290.out _; (with_reducible repeat (first | refine blk_drewN ?_ _ | refine blk_drew ?_ | refine blk_alloc ?_ _)); refine blk_far ?_ NB270_290.out _; (with_reducible repeat (first | refine blk_drewN ?_ _ | refine blk_drew ?_ | refine blk_alloc ?_ _)); exact BK270.out) hb); have n2_ := Aside0.mk (blk_below (g := gb271) (o := .cells #[.int .i64 a2_0, .int .i64 a2_1, .int .i64 a2_2, .int .i64 a2_3] 44 (0, 0)) (by (with_reducible repeat (first | refine blk_drewN ?_ _ | refine blk_drew ?_ | refine blk_alloc ?_ _)); refine blk_far ?_ NB271_290.out _; (with_reducible repeat (first | refine blk_drewN ?_ _ | refine blk_drew ?_ | refine blk_alloc ?_ _)); refine blk_far ?_ NB271_290.out _; (with_reducible repeat (first | refine blk_drewN ?_ _ | refine blk_drew ?_ | refine blk_alloc ?_ _)); exact BK271.out) hb); have n3_ := Aside0.mk (blk_below (g := gb272) (o := .cells #[.int .u16 a4_0, .int .u16 a4_1, .int .u16 a4_2, .int .u16 a4_3, .int .u16 a4_4, .int .u16 a4_5] 64 (0, 0)) (by (with_reducible repeat (first | refine blk_drewN ?_ _ | refine blk_drew ?_ | refine blk_alloc ?_ _)); refine blk_far ?_ NB272_290.out _; (with_reducible repeat (first | refine blk_drewN ?_ _ | refine blk_drew ?_ | refine blk_alloc ?_ _)); refine blk_far ?_ NB272_290.out _; (with_reducible repeat (first | refine blk_drewN ?_ _ | refine blk_drew ?_ | refine blk_alloc ?_ _)); exact BK272.out) hb); have n4_ := Aside0.mk (blk_below (g := gb277) (o := .cells #[.int .i64 t274, .int .i64 t275] 27 (0, 0)) (by (with_reducible repeat (first | refine blk_drewN ?_ _ | refine blk_drew ?_ | refine blk_alloc ?_ _)); refine blk_far ?_ NB277_290.out _; (with_reducible repeat (first | refine blk_drewN ?_ _ | refine blk_drew ?_ | refine blk_alloc ?_ _)); refine blk_far ?_ NB277_290.out _; (with_reducible repeat (first | refine blk_drewN ?_ _ | refine blk_drew ?_ | refine blk_alloc ?_ _)); exact BK277.out) hb); have n5_ := Aside0.mk (blk_below (g := gb284) (o := .cells #[.int .i64 t280, .int .i64 t281, .int .i64 t282, .int .i64 t283] 44 (0, 0)) (by (with_reducible repeat (first | refine blk_drewN ?_ _ | refine blk_drew ?_ | refine blk_alloc ?_ _)); refine blk_far ?_ NB284_290.out _; (with_reducible repeat (first | refine blk_drewN ?_ _ | refine blk_drew ?_ | refine blk_alloc ?_ _)); refine blk_far ?_ NB284_290.out _; (with_reducible repeat (first | refine blk_drewN ?_ _ | refine blk_drew ?_ | refine blk_alloc ?_ _)); exact BK284.out) hb); have n6_ := Aside0.mk (blk_below (g := gb290) (o := .cells #[.int .i64 t287, .int .i64 t288] 27 (0, 0)) (by (with_reducible repeat (first | refine blk_drewN ?_ _ | refine blk_drew ?_ | refine blk_alloc ?_ _)); refine blk_put (cs := #[.int .i64 t287, .int .i64 0]) ?_ 1 _ rfl; (with_reducible repeat (first | refine blk_drewN ?_ _ | refine blk_drew ?_ | refine blk_alloc ?_ _)); refine blk_put (cs := #[.int .i64 0, .int .i64 0]) ?_ 0 _ rfl; (with_reducible repeat (first | refine blk_drewN ?_ _ | refine blk_drew ?_ | refine blk_alloc ?_ _)); exact BK290.out) hb); have n7_ := Aside0.mk (below_step (by repeat (first | (with_reducible first | exact HB.out | apply below_alloc | apply pw_below_drewN | apply below_drew1 | refine below_set ?_ GE269.out | refine below_set ?_ GE270.out | refine below_set ?_ GE271.out | refine below_set ?_ GE272.out | refine below_set ?_ GE277.out | refine below_set ?_ GE284.out | refine below_set ?_ GE290.out) | exact HB.out)) hb); clear BK269; clear BK270; clear BK271; clear BK272; clear BK277; clear BK284; clear BK290; clear HB; have BK269 := n0_; have BK270 := n1_; have BK271 := n2_; have BK272 := n3_; have BK277 := n4_; have BK284 := n5_; have BK290 := n6_; have HB := n7_; clear n0_ n1_ n2_ n3_ n4_ n5_ n6_ n7_; (try clear hb); (try clear hb2); (try clear hk); (try clear hi)))
        go_meet
        case rel => exact ⟨_, (!t291), (by first | rfl | (simp; done) | (simp [*]; done)), H', ⟨by have := HJ9.out; first | omega | exact Nat.le_refl _⟩, ⟨zk BK269.out⟩, ⟨zk BK270.out⟩, ⟨zk BK271.out⟩, ⟨zk BK272.out⟩, ⟨zk BK277.out⟩, ⟨zk BK284.out⟩, ⟨zk BK290.out⟩, ⟨by repeat (first | (with_reducible first | exact HB.out | apply below_alloc | apply pw_below_drewN | apply below_drew1 | refine below_set ?_ GE269.out | refine below_set ?_ GE270.out | refine below_set ?_ GE271.out | refine below_set ?_ GE272.out | refine below_set ?_ GE277.out | refine below_set ?_ GE284.out | refine below_set ?_ GE290.out) | exact HB.out)⟩⟩
       ·rw [if_neg c75] at H
        have c75b0 : (t289 == 0) = false := beq_eq_false_iff_ne.mpr c75
        have c75b1 : (t289 != 0) = true := bne_iff_ne.mpr c75
        (first | rw [c75b0] | (simp only [i64_w, i32_w]; rw [c75b0]) | skip)
        have H' := Aside0.mk H
        clear H
        go_wp2
        go_meet
        case rel => exact ⟨_, (true), (by first | rfl | (simp; done) | (simp [*]; done)), H', ⟨by have := HJ9.out; first | omega | exact Nat.le_refl _⟩, ⟨by (with_reducible repeat (first | refine blk_drewN ?_ _ | refine blk_drew ?_ | refine blk_alloc ?_ _)); refine blk_far ?_ NB269_290.out _; (with_reducible repeat (first | refine blk_drewN ?_ _ | refine blk_drew ?_ | refine blk_alloc ?_ _)); refine blk_far ?_ NB269_290.out _; (with_reducible repeat (first | refine blk_drewN ?_ _ | refine blk_drew ?_ | refine blk_alloc ?_ _)); exact BK269.out⟩, ⟨by (with_reducible repeat (first | refine blk_drewN ?_ _ | refine blk_drew ?_ | refine blk_alloc ?_ _)); refine blk_far ?_ NB270_290.out _; (with_reducible repeat (first | refine blk_drewN ?_ _ | refine blk_drew ?_ | refine blk_alloc ?_ _)); refine blk_far ?_ NB270_290.out _; (with_reducible repeat (first | refine blk_drewN ?_ _ | refine blk_drew ?_ | refine blk_alloc ?_ _)); exact BK270.out⟩, ⟨by (with_reducible repeat (first | refine blk_drewN ?_ _ | refine blk_drew ?_ | refine blk_alloc ?_ _)); refine blk_far ?_ NB271_290.out _; (with_reducible repeat (first | refine blk_drewN ?_ _ | refine blk_drew ?_ | refine blk_alloc ?_ _)); refine blk_far ?_ NB271_290.out _; (with_reducible repeat (first | refine blk_drewN ?_ _ | refine blk_drew ?_ | refine blk_alloc ?_ _)); exact BK271.out⟩, ⟨by (with_reducible repeat (first | refine blk_drewN ?_ _ | refine blk_drew ?_ | refine blk_alloc ?_ _)); refine blk_far ?_ NB272_290.out _; (with_reducible repeat (first | refine blk_drewN ?_ _ | refine blk_drew ?_ | refine blk_alloc ?_ _)); refine blk_far ?_ NB272_290.out _; (with_reducible repeat (first | refine blk_drewN ?_ _ | refine blk_drew ?_ | refine blk_alloc ?_ _)); exact BK272.out⟩, ⟨by (with_reducible repeat (first | refine blk_drewN ?_ _ | refine blk_drew ?_ | refine blk_alloc ?_ _)); refine blk_far ?_ NB277_290.out _; (with_reducible repeat (first | refine blk_drewN ?_ _ | refine blk_drew ?_ | refine blk_alloc ?_ _)); refine blk_far ?_ NB277_290.out _; (with_reducible repeat (first | refine blk_drewN ?_ _ | refine blk_drew ?_ | refine blk_alloc ?_ _)); exact BK277.out⟩, ⟨by (with_reducible repeat (first | refine blk_drewN ?_ _ | refine blk_drew ?_ | refine blk_alloc ?_ _)); refine blk_far ?_ NB284_290.out _; (with_reducible repeat (first | refine blk_drewN ?_ _ | refine blk_drew ?_ | refine blk_alloc ?_ _)); refine blk_far ?_ NB284_290.out _; (with_reducible repeat (first | refine blk_drewN ?_ _ | refine blk_drew ?_ | refine blk_alloc ?_ _)); exact BK284.out⟩, ⟨by (with_reducible repeat (first | refine blk_drewN ?_ _ | refine blk_drew ?_ | refine blk_alloc ?_ _)); refine blk_put (cs := #[.int .i64 t287, .int .i64 0]) ?_ 1 _ rfl; (with_reducible repeat (first | refine blk_drewN ?_ _ | refine blk_drew ?_ | refine blk_alloc ?_ _)); refine blk_put (cs := #[.int .i64 0, .int .i64 0]) ?_ 0 _ rfl; (with_reducible repeat (first | refine blk_drewN ?_ _ | refine blk_drew ?_ | refine blk_alloc ?_ _)); exact BK290.out⟩, ⟨by repeat (first | (with_reducible first | exact HB.out | apply below_alloc | apply pw_below_drewN | apply below_drew1 | refine below_set ?_ GE269.out | refine below_set ?_ GE270.out | refine below_set ?_ GE271.out | refine below_set ?_ GE272.out | refine below_set ?_ GE277.out | refine below_set ?_ GE284.out | refine below_set ?_ GE290.out) | exact HB.out)⟩⟩
      case rest =>
       clear HC57
       try clear c2
       try clear p2
       try clear c3
       try clear c7
       try clear c8
       try clear c23
       try clear c34
       try clear c75
       try clear c75b0
       try clear c75b1
       try clear c77
       try clear c78
       try clear c79
       try clear c80
       try clear c81
       try clear c82
       try clear c84
       try clear c85
       try clear c86
       try clear c87
       try clear c88
       try clear hcz83_0
       try clear hcz83_1
       try clear hcz89_0
       try clear hcz89_1
       try clear hfz83_0
       try clear hfz83_1
       try clear hfz89_0
       try clear hfz89_1
       obtain ⟨kq, x73_56, rfl, HA, HJ56, BK269, BK270, BK271, BK272, BK277, BK284, BK290, HB⟩ := hcut
       cases kq with
       | zero => exact absurd HA.out (by simp [fastilaw28_TurfLess.j1])
       | succ kj56 =>
        have H := HA.out
        clear HA
        simp only [fastilaw28_TurfLess.j1] at H
        by_cases c91 : x73_56 = true
        ·subst c91
         have H1 : (some false) = some r := by rw [if_pos rfl] at H; exact H
         clear H
         have H := H1
         clear H1
         obtain rfl := Option.some.inj H
         go_wp2
         go_ret
         exact ⟨by first | rfl | (simp [errW_none, errW_some] <;> rfl) | (simp [*, errW_none, errW_some] <;> rfl), by repeat (first | (with_reducible first | exact HB.out | apply below_alloc | apply pw_below_drewN | apply below_drew1 | refine below_set ?_ GE269.out | refine below_set ?_ GE270.out | refine below_set ?_ GE271.out | refine below_set ?_ GE272.out | refine below_set ?_ GE277.out | refine below_set ?_ GE284.out | refine below_set ?_ GE290.out) | exact HB.out)⟩
        ·replace c91 := Bool.eq_false_iff.mpr c91
         subst c91
         have H1 : (if a3 = 0 then (if t274 < a1_0 then (fastilaw28_TurfLess.j2 kj56 a3 true a0_0 a0_1 a0_2 a0_3 a0_4 a0_5 a0_6 a1_0 a1_1 a2_0 a2_1 a2_2 a2_3 t274 t275) else (fastilaw28_TurfLess.j2 kj56 a3 (decide (t275 < a1_1)) a0_0 a0_1 a0_2 a0_3 a0_4 a0_5 a0_6 a1_0 a1_1 a2_0 a2_1 a2_2 a2_3 t274 t275)) else (fastilaw28_TurfLess.j2 kj56 a3 false a0_0 a0_1 a0_2 a0_3 a0_4 a0_5 a0_6 a1_0 a1_1 a2_0 a2_1 a2_2 a2_3 t274 t275)) = some r := by rw [if_neg (show ¬ (false = true) by decide)] at H; exact H
         clear H
         have H := H1
         clear H1
         have HC92 := Aside0.mk H
         clear H
         go_upto_region 12 with (fail)
         go_cut [89] (fun v89 wc => ∃ (kq : Nat) (x89_91 : Bool), v89 = .bool x89_91 ∧ Aside0 (fastilaw28_TurfLess.j2 kq a3 x89_91 a0_0 a0_1 a0_2 a0_3 a0_4 a0_5 a0_6 a1_0 a1_1 a2_0 a2_1 a2_2 a2_3 t274 t275 = some r) ∧ Aside0 (kq ≤ kj56) ∧ Aside0 (wc.heap[gb269]? = some (.cells #[.string a0_0, .string a0_1, .int .i64 a0_2, .int .i64 a0_3, .int .i64 a0_4, .int .i64 a0_5, .int .i64 a0_6] 25 (0, 0))) ∧ Aside0 (wc.heap[gb270]? = some (.cells #[.int .i64 a1_0, .int .i64 a1_1] 27 (0, 0))) ∧ Aside0 (wc.heap[gb271]? = some (.cells #[.int .i64 a2_0, .int .i64 a2_1, .int .i64 a2_2, .int .i64 a2_3] 44 (0, 0))) ∧ Aside0 (wc.heap[gb272]? = some (.cells #[.int .u16 a4_0, .int .u16 a4_1, .int .u16 a4_2, .int .u16 a4_3, .int .u16 a4_4, .int .u16 a4_5] 64 (0, 0))) ∧ Aside0 (wc.heap[gb277]? = some (.cells #[.int .i64 t274, .int .i64 t275] 27 (0, 0))) ∧ Aside0 (wc.heap[gb284]? = some (.cells #[.int .i64 t280, .int .i64 t281, .int .i64 t282, .int .i64 t283] 44 (0, 0))) ∧ Aside0 (wc.heap[gb290]? = some (.cells #[.int .i64 t287, .int .i64 t288] 27 (0, 0))) ∧ Aside0 (Below w.heap.size w wc))
         case first =>
          have H := HC92.out
          clear HC92
          by_cases c93 : a3 = 0
          ·rw [if_pos c93] at H
           have c93b0 : (a3 == 0) = true := beq_iff_eq.mpr c93
           have c93b1 : (a3 != 0) = false := bne_eq_false_iff_eq.mpr c93
           clear c93
           (first | rw [c93b0] | (simp only [i64_w, i32_w]; rw [c93b0]) | skip)
           by_cases c94 : t274 < a1_0
           ·rw [if_pos c94] at H
            have c94b0 : decide (t274 < a1_0) = true := decide_eq_true c94
            clear c94
            have H' := Aside0.mk H
            clear H
            have hnb95 := NB277_269.out
            have hnc95 := NB269_277.out
            have hnb96 := NB277_270.out
            have hnc96 := NB270_277.out
            have hnb97 := NB277_271.out
            have hnc97 := NB271_277.out
            have hnb98 := NB277_272.out
            have hnc98 := NB272_277.out
            have hnb99 := NB277_284.out
            have hnc99 := NB284_277.out
            have hnb100 := NB277_290.out
            have hnc100 := NB290_277.out
            have hcz101_0 : wc.cell? ⟨gb277, 0, none⟩ = some (.int .i64 t274) := (blk_cell BK277.out 0).trans rfl
            have hcz101_1 : wc.cell? ⟨gb277, 1, none⟩ = some (.int .i64 t275) := (blk_cell BK277.out 1).trans rfl
            have hfz101_0 := blk_frozen BK277.out 0
            have hfz101_1 := blk_frozen BK277.out 1
            have hnb102 := NB270_269.out
            have hnc102 := NB269_270.out
            have hnb103 := NB270_271.out
            have hnc103 := NB271_270.out
            have hnb104 := NB270_272.out
            have hnc104 := NB272_270.out
            have hnb105 := NB270_284.out
            have hnc105 := NB284_270.out
            have hnb106 := NB270_290.out
            have hnc106 := NB290_270.out
            have hcz107_0 : wc.cell? ⟨gb270, 0, none⟩ = some (.int .i64 a1_0) := (blk_cell BK270.out 0).trans rfl
            have hcz107_1 : wc.cell? ⟨gb270, 1, none⟩ = some (.int .i64 a1_1) := (blk_cell BK270.out 1).trans rfl
            have hfz107_0 := blk_frozen BK270.out 0
            have hfz107_1 := blk_frozen BK270.out 1
            go_wp2
            go_meet
            case rel => exact ⟨_, (true), (by first | rfl | (simp; done) | (simp [*]; done)), H', ⟨by have := HJ9.out; have := HJ56.out; first | omega | exact Nat.le_refl _⟩, ⟨zk BK269.out⟩, ⟨zk BK270.out⟩, ⟨zk BK271.out⟩, ⟨zk BK272.out⟩, ⟨zk BK277.out⟩, ⟨zk BK284.out⟩, ⟨zk BK290.out⟩, ⟨by repeat (first | (with_reducible first | exact HB.out | apply below_alloc | apply pw_below_drewN | apply below_drew1 | refine below_set ?_ GE269.out | refine below_set ?_ GE270.out | refine below_set ?_ GE271.out | refine below_set ?_ GE272.out | refine below_set ?_ GE277.out | refine below_set ?_ GE284.out | refine below_set ?_ GE290.out) | exact HB.out)⟩⟩
           ·rw [if_neg c94] at H
            have c94b0 : decide (t274 < a1_0) = false := decide_eq_false c94
            clear c94
            have H' := Aside0.mk H
            clear H
            have hnb108 := NB277_269.out
            have hnc108 := NB269_277.out
            have hnb109 := NB277_270.out
            have hnc109 := NB270_277.out
            have hnb110 := NB277_271.out
            have hnc110 := NB271_277.out
            have hnb111 := NB277_272.out
            have hnc111 := NB272_277.out
            have hnb112 := NB277_284.out
            have hnc112 := NB284_277.out
            have hnb113 := NB277_290.out
            have hnc113 := NB290_277.out
            have hcz114_0 : wc.cell? ⟨gb277, 0, none⟩ = some (.int .i64 t274) := (blk_cell BK277.out 0).trans rfl
            have hcz114_1 : wc.cell? ⟨gb277, 1, none⟩ = some (.int .i64 t275) := (blk_cell BK277.out 1).trans rfl
            have hfz114_0 := blk_frozen BK277.out 0
            have hfz114_1 := blk_frozen BK277.out 1
            have hnb115 := NB270_269.out
            have hnc115 := NB269_270.out
            have hnb116 := NB270_271.out
            have hnc116 := NB271_270.out
            have hnb117 := NB270_272.out
            have hnc117 := NB272_270.out
            have hnb118 := NB270_284.out
            have hnc118 := NB284_270.out
            have hnb119 := NB270_290.out
            have hnc119 := NB290_270.out
            have hcz120_0 : wc.cell? ⟨gb270, 0, none⟩ = some (.int .i64 a1_0) := (blk_cell BK270.out 0).trans rfl
            have hcz120_1 : wc.cell? ⟨gb270, 1, none⟩ = some (.int .i64 a1_1) := (blk_cell BK270.out 1).trans rfl
            have hfz120_0 := blk_frozen BK270.out 0
            have hfz120_1 := blk_frozen BK270.out 1
            go_wp2
            go_meet
            case rel => exact ⟨_, (decide (t275 < a1_1)), (by first | rfl | (simp; done) | (simp [*]; done)), H', ⟨by have := HJ9.out; have := HJ56.out; first | omega | exact Nat.le_refl _⟩, ⟨zk BK269.out⟩, ⟨zk BK270.out⟩, ⟨zk BK271.out⟩, ⟨zk BK272.out⟩, ⟨zk BK277.out⟩, ⟨zk BK284.out⟩, ⟨zk BK290.out⟩, ⟨by repeat (first | (with_reducible first | exact HB.out | apply below_alloc | apply pw_below_drewN | apply below_drew1 | refine below_set ?_ GE269.out | refine below_set ?_ GE270.out | refine below_set ?_ GE271.out | refine below_set ?_ GE272.out | refine below_set ?_ GE277.out | refine below_set ?_ GE284.out | refine below_set ?_ GE290.out) | exact HB.out)⟩⟩
          ·rw [if_neg c93] at H
           have c93b0 : (a3 == 0) = false := beq_eq_false_iff_ne.mpr c93
           have c93b1 : (a3 != 0) = true := bne_iff_ne.mpr c93
           (first | rw [c93b0] | (simp only [i64_w, i32_w]; rw [c93b0]) | skip)
           have H' := Aside0.mk H
           clear H
           go_wp2
           go_meet
           case rel => exact ⟨_, (false), (by first | rfl | (simp; done) | (simp [*]; done)), H', ⟨by have := HJ9.out; have := HJ56.out; first | omega | exact Nat.le_refl _⟩, ⟨zk BK269.out⟩, ⟨zk BK270.out⟩, ⟨zk BK271.out⟩, ⟨zk BK272.out⟩, ⟨zk BK277.out⟩, ⟨zk BK284.out⟩, ⟨zk BK290.out⟩, ⟨by repeat (first | (with_reducible first | exact HB.out | apply below_alloc | apply pw_below_drewN | apply below_drew1 | refine below_set ?_ GE269.out | refine below_set ?_ GE270.out | refine below_set ?_ GE271.out | refine below_set ?_ GE272.out | refine below_set ?_ GE277.out | refine below_set ?_ GE284.out | refine below_set ?_ GE290.out) | exact HB.out)⟩⟩
         case rest =>
          clear HC92
          try clear c1
          try clear c2
          try clear p2
          try clear c3
          try clear c7
          try clear c8
          try clear c9
          try clear c10
          try clear c11
          try clear c23
          try clear c34
          try clear c75
          try clear c75b0
          try clear c75b1
          try clear c77
          try clear c78
          try clear c79
          try clear c80
          try clear c81
          try clear c82
          try clear c84
          try clear c85
          try clear c86
          try clear c87
          try clear c88
          try clear c91
          try clear c93
          try clear c93b0
          try clear c93b1
          try clear c94
          try clear c94b0
          try clear c95
          try clear c96
          try clear c97
          try clear c98
          try clear c99
          try clear c100
          try clear c102
          try clear c103
          try clear c104
          try clear c105
          try clear c106
          try clear c108
          try clear c109
          try clear c110
          try clear c111
          try clear c112
          try clear c113
          try clear c115
          try clear c116
          try clear c117
          try clear c118
          try clear c119
          try clear hcz101_0
          try clear hcz101_1
          try clear hcz107_0
          try clear hcz107_1
          try clear hcz114_0
          try clear hcz114_1
          try clear hcz120_0
          try clear hcz120_1
          try clear hcz83_0
          try clear hcz83_1
          try clear hcz89_0
          try clear hcz89_1
          try clear hfz101_0
          try clear hfz101_1
          try clear hfz107_0
          try clear hfz107_1
          try clear hfz114_0
          try clear hfz114_1
          try clear hfz120_0
          try clear hfz120_1
          try clear hfz83_0
          try clear hfz83_1
          try clear hfz89_0
          try clear hfz89_1
          try clear p2
          obtain ⟨kq, x89_91, rfl, HA, HJ91, BK269, BK270, BK271, BK272, BK277, BK284, BK290, HB⟩ := hcut
          cases kq with
          | zero => exact absurd HA.out (by simp [fastilaw28_TurfLess.j2])
          | succ kj91 =>
           have H := HA.out
           clear HA
           simp only [fastilaw28_TurfLess.j2] at H
           by_cases c121 : x89_91 = true
           ·subst c121
            have H1 : (some false) = some r := by rw [if_pos rfl] at H; exact H
            clear H
            have H := H1
            clear H1
            obtain rfl := Option.some.inj H
            go_wp2
            go_ret
            exact ⟨by first | rfl | (simp [errW_none, errW_some] <;> rfl) | (simp [*, errW_none, errW_some] <;> rfl), by repeat (first | (with_reducible first | exact HB.out | apply below_alloc | apply pw_below_drewN | apply below_drew1 | refine below_set ?_ GE269.out | refine below_set ?_ GE270.out | refine below_set ?_ GE271.out | refine below_set ?_ GE272.out | refine below_set ?_ GE277.out | refine below_set ?_ GE284.out | refine below_set ?_ GE290.out) | exact HB.out)⟩
           ·replace c121 := Bool.eq_false_iff.mpr c121
            subst c121
            have H1 : ((turf_Next.f a0_0 a0_1 a0_2 a0_3 a0_4 a0_5 a0_6 a1_0 a1_1 a2_0 a2_1 a2_2 a2_3 (wrap64 (a3 + 1))).bind fun bt292 => (if a3 = 4 then (if bt292.2.2 = 280 then (fastilaw28_TurfLess.j3 kj91 true) else (if bt292.2.2 = 0 then (if bt292.1 ≤ t274 then (fastilaw28_TurfLess.j3 kj91 (decide (bt292.2.1 ≤ t275))) else (fastilaw28_TurfLess.j3 kj91 false)) else (fastilaw28_TurfLess.j3 kj91 false))) else (if bt292.2.2 = 0 then (if bt292.1 ≤ t274 then (fastilaw28_TurfLess.j3 kj91 (decide (bt292.2.1 ≤ t275))) else (fastilaw28_TurfLess.j3 kj91 false)) else (fastilaw28_TurfLess.j3 kj91 false)))) = some r := by rw [if_neg (show ¬ (false = true) by decide)] at H; exact H
            clear H
            have H := H1
            clear H1
            replace H := Option.bind_eq_some_iff.mp H
            obtain ⟨⟨t292, t293, t294⟩, A1220, H⟩ := H
            replace H : (if a3 = 4 then (if t294 = 280 then (fastilaw28_TurfLess.j3 kj91 true) else (if t294 = 0 then (if t292 ≤ t274 then (fastilaw28_TurfLess.j3 kj91 (decide (t293 ≤ t275))) else (fastilaw28_TurfLess.j3 kj91 false)) else (fastilaw28_TurfLess.j3 kj91 false))) else (if t294 = 0 then (if t292 ≤ t274 then (fastilaw28_TurfLess.j3 kj91 (decide (t293 ≤ t275))) else (fastilaw28_TurfLess.j3 kj91 false)) else (fastilaw28_TurfLess.j3 kj91 false))) = some r := H
            have A122 := Aside0.mk A1220
            clear A1220
            have HC123 := Aside0.mk H
            clear H
            have hnb124 := NB269_270.out
            have hnc124 := NB270_269.out
            have hnb125 := NB269_271.out
            have hnc125 := NB271_269.out
            have hnb126 := NB269_272.out
            have hnc126 := NB272_269.out
            have hnb127 := NB269_277.out
            have hnc127 := NB277_269.out
            have hnb128 := NB269_284.out
            have hnc128 := NB284_269.out
            have hnb129 := NB269_290.out
            have hnc129 := NB290_269.out
            have hcz130_0 : wc.cell? ⟨gb269, 0, none⟩ = some (.string a0_0) := (blk_cell BK269.out 0).trans rfl
            have hcz130_1 : wc.cell? ⟨gb269, 1, none⟩ = some (.string a0_1) := (blk_cell BK269.out 1).trans rfl
            have hcz130_2 : wc.cell? ⟨gb269, 2, none⟩ = some (.int .i64 a0_2) := (blk_cell BK269.out 2).trans rfl
            have hcz130_3 : wc.cell? ⟨gb269, 3, none⟩ = some (.int .i64 a0_3) := (blk_cell BK269.out 3).trans rfl
            have hcz130_4 : wc.cell? ⟨gb269, 4, none⟩ = some (.int .i64 a0_4) := (blk_cell BK269.out 4).trans rfl
            have hcz130_5 : wc.cell? ⟨gb269, 5, none⟩ = some (.int .i64 a0_5) := (blk_cell BK269.out 5).trans rfl
            have hcz130_6 : wc.cell? ⟨gb269, 6, none⟩ = some (.int .i64 a0_6) := (blk_cell BK269.out 6).trans rfl
            have hfz130_0 := blk_frozen BK269.out 0
            have hfz130_1 := blk_frozen BK269.out 1
            have hfz130_2 := blk_frozen BK269.out 2
            have hfz130_3 := blk_frozen BK269.out 3
            have hfz130_4 := blk_frozen BK269.out 4
            have hfz130_5 := blk_frozen BK269.out 5
            have hfz130_6 := blk_frozen BK269.out 6
            have hnb131 := NB270_271.out
            have hnc131 := NB271_270.out
            have hnb132 := NB270_272.out
            have hnc132 := NB272_270.out
            have hnb133 := NB270_277.out
            have hnc133 := NB277_270.out
            have hnb134 := NB270_284.out
            have hnc134 := NB284_270.out
            have hnb135 := NB270_290.out
            have hnc135 := NB290_270.out
            have hcz136_0 : wc.cell? ⟨gb270, 0, none⟩ = some (.int .i64 a1_0) := (blk_cell BK270.out 0).trans rfl
            have hcz136_1 : wc.cell? ⟨gb270, 1, none⟩ = some (.int .i64 a1_1) := (blk_cell BK270.out 1).trans rfl
            have hfz136_0 := blk_frozen BK270.out 0
            have hfz136_1 := blk_frozen BK270.out 1
            have hnb137 := NB271_272.out
            have hnc137 := NB272_271.out
            have hnb138 := NB271_277.out
            have hnc138 := NB277_271.out
            have hnb139 := NB271_284.out
            have hnc139 := NB284_271.out
            have hnb140 := NB271_290.out
            have hnc140 := NB290_271.out
            have hcz141_0 : wc.cell? ⟨gb271, 0, none⟩ = some (.int .i64 a2_0) := (blk_cell BK271.out 0).trans rfl
            have hcz141_1 : wc.cell? ⟨gb271, 1, none⟩ = some (.int .i64 a2_1) := (blk_cell BK271.out 1).trans rfl
            have hcz141_2 : wc.cell? ⟨gb271, 2, none⟩ = some (.int .i64 a2_2) := (blk_cell BK271.out 2).trans rfl
            have hcz141_3 : wc.cell? ⟨gb271, 3, none⟩ = some (.int .i64 a2_3) := (blk_cell BK271.out 3).trans rfl
            have hfz141_0 := blk_frozen BK271.out 0
            have hfz141_1 := blk_frozen BK271.out 1
            have hfz141_2 := blk_frozen BK271.out 2
            have hfz141_3 := blk_frozen BK271.out 3
            go_upto_region 15 with (first | ((with_reducible refine gate_callee (f := 23) rfl ?_); refine goesL_ (some 96) rfl rfl Try.func23 (by kernel_rfl) rfl #[.agg #[.string a0_0, .string a0_1, .int .i64 a0_2, .int .i64 a0_3, .int .i64 a0_4, .int .i64 a0_5, .int .i64 a0_6], .agg #[.int .i64 a1_0, .int .i64 a1_1], .agg #[.int .i64 a2_0, .int .i64 a2_1, .int .i64 a2_2, .int .i64 a2_3], .int .i64 (wrap64 (a3 + 1))] rfl (by (try simp only [List.map_toArray, List.map_cons, List.map_nil]); first | done | rfl | (simp only [List.length_drop, List.length_take]; rfl)) ?_; (with_reducible refine (turf_Next.calls a0_0 a0_1 a0_2 a0_3 a0_4 a0_5 a0_6 a1_0 a1_1 a2_0 a2_1 a2_2 a2_3 (wrap64 (a3 + 1)) t292 t293 t294 _ A122.out).mono ?_); rintro e w142 ⟨rfl, hb⟩; refine ⟨_, rfl, ?_⟩; have n0_ := Aside0.mk (zb BK269.out hb); have n1_ := Aside0.mk (zb BK270.out hb); have n2_ := Aside0.mk (zb BK271.out hb); have n3_ := Aside0.mk (zb BK272.out hb); have n4_ := Aside0.mk (zb BK277.out hb); have n5_ := Aside0.mk (zb BK284.out hb); have n6_ := Aside0.mk (zb BK290.out hb); have n7_ := Aside0.mk (below_step (by repeat (first | (with_reducible first | exact HB.out | apply below_alloc | apply pw_below_drewN | apply below_drew1 | refine below_set ?_ GE269.out | refine below_set ?_ GE270.out | refine below_set ?_ GE271.out | refine below_set ?_ GE272.out | refine below_set ?_ GE277.out | refine below_set ?_ GE284.out | refine below_set ?_ GE290.out) | exact HB.out)) hb); clear BK269; clear BK270; clear BK271; clear BK272; clear BK277; clear BK284; clear BK290; clear HB; have BK269 := n0_; have BK270 := n1_; have BK271 := n2_; have BK272 := n3_; have BK277 := n4_; have BK284 := n5_; have BK290 := n6_; have HB := n7_; clear n0_ n1_ n2_ n3_ n4_ n5_ n6_ n7_; (try clear hb); (try clear hb2); (try clear hk); (try clear hi)) | ((with_reducible refine gate_dst (N := 16) rfl ?_); refine box_event ?hg (N := 16) ?hd (cs := #[.int .i64 0, .int .i64 0]) (t := 27) ?hr ?_; (case hd => rfl); (case hg => rfl); (case hr => first | (go_simp; done) | (go_simp; rfl)); intro gb295 hg w143 hbox hb; have n0_ := Aside0.mk (zb BK269.out hb); have n1_ := Aside0.mk (zb BK270.out hb); have n2_ := Aside0.mk (zb BK271.out hb); have n3_ := Aside0.mk (zb BK272.out hb); have n4_ := Aside0.mk (zb BK277.out hb); have n5_ := Aside0.mk (zb BK284.out hb); have n6_ := Aside0.mk (zb BK290.out hb); have n7_ := Aside0.mk (below_step (by repeat (first | (with_reducible first | exact HB.out | apply below_alloc | apply pw_below_drewN | apply below_drew1 | refine below_set ?_ GE269.out | refine below_set ?_ GE270.out | refine below_set ?_ GE271.out | refine below_set ?_ GE272.out | refine below_set ?_ GE277.out | refine below_set ?_ GE284.out | refine below_set ?_ GE290.out) | exact HB.out)) hb); have n8_ := Aside0.mk (hbox); have n9_ := Aside0.mk ((by rw [hg]; exact (below_size (by repeat (first | (with_reducible first | exact HB.out | apply below_alloc | apply pw_below_drewN | apply below_drew1 | refine below_set ?_ GE269.out | refine below_set ?_ GE270.out | refine below_set ?_ GE271.out | refine below_set ?_ GE272.out | refine below_set ?_ GE277.out | refine below_set ?_ GE284.out | refine below_set ?_ GE290.out) | exact HB.out))) : w.heap.size ≤ gb295)); have n10_ := Aside0.mk ((by rw [hg]; exact (below_size (by repeat (first | (with_reducible first | exact HB.out | apply below_alloc | apply pw_below_drewN | apply below_drew1 | refine below_set ?_ GE269.out | refine below_set ?_ GE270.out | refine below_set ?_ GE271.out | refine below_set ?_ GE272.out | refine below_set ?_ GE277.out | refine below_set ?_ GE284.out | refine below_set ?_ GE290.out) | exact HB.out))) : w.heap.size ≤ gb295)); have n11_ := Aside0.mk ((by rw [hg]; exact Nat.ne_of_lt (blk_lt (zk BK269.out)) : gb269 ≠ gb295)); have n12_ := Aside0.mk ((by rw [hg]; exact Nat.ne_of_gt (blk_lt (zk BK269.out)) : gb295 ≠ gb269)); have n13_ := Aside0.mk ((by rw [hg]; exact Nat.ne_of_lt (blk_lt (zk BK270.out)) : gb270 ≠ gb295)); have n14_ := Aside0.mk ((by rw [hg]; exact Nat.ne_of_gt (blk_lt (zk BK270.out)) : gb295 ≠ gb270)); have n15_ := Aside0.mk ((by rw [hg]; exact Nat.ne_of_lt (blk_lt (zk BK271.out)) : gb271 ≠ gb295)); have n16_ := Aside0.mk ((by rw [hg]; exact Nat.ne_of_gt (blk_lt (zk BK271.out)) : gb295 ≠ gb271)); have n17_ := Aside0.mk ((by rw [hg]; exact Nat.ne_of_lt (blk_lt (zk BK272.out)) : gb272 ≠ gb295)); have n18_ := Aside0.mk ((by rw [hg]; exact Nat.ne_of_gt (blk_lt (zk BK272.out)) : gb295 ≠ gb272)); have n19_ := Aside0.mk ((by rw [hg]; exact Nat.ne_of_lt (blk_lt (zk BK277.out)) : gb277 ≠ gb295)); have n20_ := Aside0.mk ((by rw [hg]; exact Nat.ne_of_gt (blk_lt (zk BK277.out)) : gb295 ≠ gb277)); have n21_ := Aside0.mk ((by rw [hg]; exact Nat.ne_of_lt (blk_lt (zk BK284.out)) : gb284 ≠ gb295)); have n22_ := Aside0.mk ((by rw [hg]; exact Nat.ne_of_gt (blk_lt (zk BK284.out)) : gb295 ≠ gb284)); have n23_ := Aside0.mk ((by rw [hg]; exact Nat.ne_of_lt (blk_lt (zk BK290.out)) : gb290 ≠ gb295)); have n24_ := Aside0.mk ((by rw [hg]; exact Nat.ne_of_gt (blk_lt (zk BK290.out)) : gb295 ≠ gb290)); clear BK269; clear BK270; clear BK271; clear BK272; clear BK277; clear BK284; clear BK290; clear HB; have BK269 := n0_; have BK270 := n1_; have BK271 := n2_; have BK272 := n3_; have BK277 := n4_; have BK284 := n5_; have BK290 := n6_; have HB := n7_; have BK295 := n8_; have GW295 := n9_; have GE295 := n10_; have NB269_295 := n11_; have NB295_269 := n12_; have NB270_295 := n13_; have NB295_270 := n14_; have NB271_295 := n15_; have NB295_271 := n16_; have NB272_295 := n17_; have NB295_272 := n18_; have NB277_295 := n19_; have NB295_277 := n20_; have NB284_295 := n21_; have NB295_284 := n22_; have NB290_295 := n23_; have NB295_290 := n24_; clear n0_ n1_ n2_ n3_ n4_ n5_ n6_ n7_ n8_ n9_ n10_ n11_ n12_ n13_ n14_ n15_ n16_ n17_ n18_ n19_ n20_ n21_ n22_ n23_ n24_; clear hb hbox hg; have hnb144 := NB295_269.out; have hnc144 := NB269_295.out; have hnb145 := NB295_270.out; have hnc145 := NB270_295.out; have hnb146 := NB295_271.out; have hnc146 := NB271_295.out; have hnb147 := NB295_272.out; have hnc147 := NB272_295.out; have hnb148 := NB295_277.out; have hnc148 := NB277_295.out; have hnb149 := NB295_284.out; have hnc149 := NB284_295.out; have hnb150 := NB295_290.out; have hnc150 := NB290_295.out; have hcz151_0 : w143.cell? ⟨gb295, 0, none⟩ = some (.int .i64 0) := (blk_cell BK295.out 0).trans rfl; have hcz151_1 : w143.cell? ⟨gb295, 1, none⟩ = some (.int .i64 0) := (blk_cell BK295.out 1).trans rfl; have hfz151_0 := blk_frozen BK295.out 0; have hfz151_1 := blk_frozen BK295.out 1))
            (try simp only [Act.put, List.setIfInBounds_toArray, List.set_cons_zero, List.set_cons_succ])
            go_cut [10] (fun v10 wc => ∃ (kq : Nat) (x10_122 : Bool), v10 = .bool x10_122 ∧ Aside0 (fastilaw28_TurfLess.j3 kq x10_122 = some r) ∧ Aside0 (kq ≤ kj91) ∧ Aside0 (wc.heap[gb269]? = some (.cells #[.string a0_0, .string a0_1, .int .i64 a0_2, .int .i64 a0_3, .int .i64 a0_4, .int .i64 a0_5, .int .i64 a0_6] 25 (0, 0))) ∧ Aside0 (wc.heap[gb270]? = some (.cells #[.int .i64 a1_0, .int .i64 a1_1] 27 (0, 0))) ∧ Aside0 (wc.heap[gb271]? = some (.cells #[.int .i64 a2_0, .int .i64 a2_1, .int .i64 a2_2, .int .i64 a2_3] 44 (0, 0))) ∧ Aside0 (wc.heap[gb272]? = some (.cells #[.int .u16 a4_0, .int .u16 a4_1, .int .u16 a4_2, .int .u16 a4_3, .int .u16 a4_4, .int .u16 a4_5] 64 (0, 0))) ∧ Aside0 (wc.heap[gb277]? = some (.cells #[.int .i64 t274, .int .i64 t275] 27 (0, 0))) ∧ Aside0 (wc.heap[gb284]? = some (.cells #[.int .i64 t280, .int .i64 t281, .int .i64 t282, .int .i64 t283] 44 (0, 0))) ∧ Aside0 (wc.heap[gb290]? = some (.cells #[.int .i64 t287, .int .i64 t288] 27 (0, 0))) ∧ Aside0 (wc.heap[gb295]? = some (.cells #[.int .i64 t292, .int .i64 t293] 27 (0, 0))) ∧ Aside0 (Below w.heap.size w wc))
            case first =>
             have H := HC123.out
             clear HC123
             by_cases c152 : a3 = 4
             ·rw [if_pos c152] at H
              have c152b0 : (a3 == 4) = true := beq_iff_eq.mpr c152
              have c152b1 : (a3 != 4) = false := bne_eq_false_iff_eq.mpr c152
              clear c152
              (first | rw [c152b0] | (simp only [i64_w, i32_w]; rw [c152b0]) | skip)
              by_cases c153 : t294 = 280
              ·rw [if_pos c153] at H
               have c153b0 : (t294 == 280) = true := beq_iff_eq.mpr c153
               have c153b1 : (t294 != 280) = false := bne_eq_false_iff_eq.mpr c153
               clear c153
               have H' := Aside0.mk H
               clear H
               go_wp2
               go_meet
               case rel => exact ⟨_, (true), (by first | rfl | (simp; done) | (simp [*]; done)), H', ⟨by have := HJ9.out; have := HJ56.out; have := HJ91.out; first | omega | exact Nat.le_refl _⟩, ⟨by (with_reducible repeat (first | refine blk_drewN ?_ _ | refine blk_drew ?_ | refine blk_alloc ?_ _)); refine blk_far ?_ NB269_295.out _; (with_reducible repeat (first | refine blk_drewN ?_ _ | refine blk_drew ?_ | refine blk_alloc ?_ _)); refine blk_far ?_ NB269_295.out _; (with_reducible repeat (first | refine blk_drewN ?_ _ | refine blk_drew ?_ | refine blk_alloc ?_ _)); exact BK269.out⟩, ⟨by (with_reducible repeat (first | refine blk_drewN ?_ _ | refine blk_drew ?_ | refine blk_alloc ?_ _)); refine blk_far ?_ NB270_295.out _; (with_reducible repeat (first | refine blk_drewN ?_ _ | refine blk_drew ?_ | refine blk_alloc ?_ _)); refine blk_far ?_ NB270_295.out _; (with_reducible repeat (first | refine blk_drewN ?_ _ | refine blk_drew ?_ | refine blk_alloc ?_ _)); exact BK270.out⟩, ⟨by (with_reducible repeat (first | refine blk_drewN ?_ _ | refine blk_drew ?_ | refine blk_alloc ?_ _)); refine blk_far ?_ NB271_295.out _; (with_reducible repeat (first | refine blk_drewN ?_ _ | refine blk_drew ?_ | refine blk_alloc ?_ _)); refine blk_far ?_ NB271_295.out _; (with_reducible repeat (first | refine blk_drewN ?_ _ | refine blk_drew ?_ | refine blk_alloc ?_ _)); exact BK271.out⟩, ⟨by (with_reducible repeat (first | refine blk_drewN ?_ _ | refine blk_drew ?_ | refine blk_alloc ?_ _)); refine blk_far ?_ NB272_295.out _; (with_reducible repeat (first | refine blk_drewN ?_ _ | refine blk_drew ?_ | refine blk_alloc ?_ _)); refine blk_far ?_ NB272_295.out _; (with_reducible repeat (first | refine blk_drewN ?_ _ | refine blk_drew ?_ | refine blk_alloc ?_ _)); exact BK272.out⟩, ⟨by (with_reducible repeat (first | refine blk_drewN ?_ _ | refine blk_drew ?_ | refine blk_alloc ?_ _)); refine blk_far ?_ NB277_295.out _; (with_reducible repeat (first | refine blk_drewN ?_ _ | refine blk_drew ?_ | refine blk_alloc ?_ _)); refine blk_far ?_ NB277_295.out _; (with_reducible repeat (first | refine blk_drewN ?_ _ | refine blk_drew ?_ | refine blk_alloc ?_ _)); exact BK277.out⟩, ⟨by (with_reducible repeat (first | refine blk_drewN ?_ _ | refine blk_drew ?_ | refine blk_alloc ?_ _)); refine blk_far ?_ NB284_295.out _; (with_reducible repeat (first | refine blk_drewN ?_ _ | refine blk_drew ?_ | refine blk_alloc ?_ _)); refine blk_far ?_ NB284_295.out _; (with_reducible repeat (first | refine blk_drewN ?_ _ | refine blk_drew ?_ | refine blk_alloc ?_ _)); exact BK284.out⟩, ⟨by (with_reducible repeat (first | refine blk_drewN ?_ _ | refine blk_drew ?_ | refine blk_alloc ?_ _)); refine blk_far ?_ NB290_295.out _; (with_reducible repeat (first | refine blk_drewN ?_ _ | refine blk_drew ?_ | refine blk_alloc ?_ _)); refine blk_far ?_ NB290_295.out _; (with_reducible repeat (first | refine blk_drewN ?_ _ | refine blk_drew ?_ | refine blk_alloc ?_ _)); exact BK290.out⟩, ⟨by (with_reducible repeat (first | refine blk_drewN ?_ _ | refine blk_drew ?_ | refine blk_alloc ?_ _)); refine blk_put (cs := #[.int .i64 t292, .int .i64 0]) ?_ 1 _ rfl; (with_reducible repeat (first | refine blk_drewN ?_ _ | refine blk_drew ?_ | refine blk_alloc ?_ _)); refine blk_put (cs := #[.int .i64 0, .int .i64 0]) ?_ 0 _ rfl; (with_reducible repeat (first | refine blk_drewN ?_ _ | refine blk_drew ?_ | refine blk_alloc ?_ _)); exact BK295.out⟩, ⟨by repeat (first | (with_reducible first | exact HB.out | apply below_alloc | apply pw_below_drewN | apply below_drew1 | refine below_set ?_ GE269.out | refine below_set ?_ GE270.out | refine below_set ?_ GE271.out | refine below_set ?_ GE272.out | refine below_set ?_ GE277.out | refine below_set ?_ GE284.out | refine below_set ?_ GE290.out | refine below_set ?_ GE295.out) | exact HB.out)⟩⟩
              ·rw [if_neg c153] at H
               have c153b0 : (t294 == 280) = false := beq_eq_false_iff_ne.mpr c153
               have c153b1 : (t294 != 280) = true := bne_iff_ne.mpr c153
               by_cases c154 : t294 = 0
               ·rw [if_pos c154] at H
                have c154b0 : (t294 == 0) = true := beq_iff_eq.mpr c154
                have c154b1 : (t294 != 0) = false := bne_eq_false_iff_eq.mpr c154
                clear c154
                by_cases c155 : t292 ≤ t274
                ·rw [if_pos c155] at H
                 have c155b0 : decide (t292 ≤ t274) = true := decide_eq_true c155
                 clear c155
                 have H' := Aside0.mk H
                 clear H
                 have hnb156 := NB295_269.out
                 have hnc156 := NB269_295.out
                 have hnb157 := NB295_270.out
                 have hnc157 := NB270_295.out
                 have hnb158 := NB295_271.out
                 have hnc158 := NB271_295.out
                 have hnb159 := NB295_272.out
                 have hnc159 := NB272_295.out
                 have hnb160 := NB295_277.out
                 have hnc160 := NB277_295.out
                 have hnb161 := NB295_284.out
                 have hnc161 := NB284_295.out
                 have hnb162 := NB295_290.out
                 have hnc162 := NB290_295.out
                 have hcz163_0 : w143.cell? ⟨gb295, 0, none⟩ = some (.int .i64 0) := (blk_cell BK295.out 0).trans rfl
                 have hcz163_1 : w143.cell? ⟨gb295, 1, none⟩ = some (.int .i64 0) := (blk_cell BK295.out 1).trans rfl
                 have hfz163_0 := blk_frozen BK295.out 0
                 have hfz163_1 := blk_frozen BK295.out 1
                 have hnb164 := NB277_269.out
                 have hnc164 := NB269_277.out
                 have hnb165 := NB277_270.out
                 have hnc165 := NB270_277.out
                 have hnb166 := NB277_271.out
                 have hnc166 := NB271_277.out
                 have hnb167 := NB277_272.out
                 have hnc167 := NB272_277.out
                 have hnb168 := NB277_284.out
                 have hnc168 := NB284_277.out
                 have hnb169 := NB277_290.out
                 have hnc169 := NB290_277.out
                 have hcz170_0 : w143.cell? ⟨gb277, 0, none⟩ = some (.int .i64 t274) := (blk_cell BK277.out 0).trans rfl
                 have hcz170_1 : w143.cell? ⟨gb277, 1, none⟩ = some (.int .i64 t275) := (blk_cell BK277.out 1).trans rfl
                 have hfz170_0 := blk_frozen BK277.out 0
                 have hfz170_1 := blk_frozen BK277.out 1
                 go_wp2
                 go_meet
                 case rel => exact ⟨_, (decide (t293 ≤ t275)), (by first | rfl | (simp; done) | (simp [*]; done)), H', ⟨by have := HJ9.out; have := HJ56.out; have := HJ91.out; first | omega | exact Nat.le_refl _⟩, ⟨by (with_reducible repeat (first | refine blk_drewN ?_ _ | refine blk_drew ?_ | refine blk_alloc ?_ _)); refine blk_far ?_ NB269_295.out _; (with_reducible repeat (first | refine blk_drewN ?_ _ | refine blk_drew ?_ | refine blk_alloc ?_ _)); refine blk_far ?_ NB269_295.out _; (with_reducible repeat (first | refine blk_drewN ?_ _ | refine blk_drew ?_ | refine blk_alloc ?_ _)); exact BK269.out⟩, ⟨by (with_reducible repeat (first | refine blk_drewN ?_ _ | refine blk_drew ?_ | refine blk_alloc ?_ _)); refine blk_far ?_ NB270_295.out _; (with_reducible repeat (first | refine blk_drewN ?_ _ | refine blk_drew ?_ | refine blk_alloc ?_ _)); refine blk_far ?_ NB270_295.out _; (with_reducible repeat (first | refine blk_drewN ?_ _ | refine blk_drew ?_ | refine blk_alloc ?_ _)); exact BK270.out⟩, ⟨by (with_reducible repeat (first | refine blk_drewN ?_ _ | refine blk_drew ?_ | refine blk_alloc ?_ _)); refine blk_far ?_ NB271_295.out _; (with_reducible repeat (first | refine blk_drewN ?_ _ | refine blk_drew ?_ | refine blk_alloc ?_ _)); refine blk_far ?_ NB271_295.out _; (with_reducible repeat (first | refine blk_drewN ?_ _ | refine blk_drew ?_ | refine blk_alloc ?_ _)); exact BK271.out⟩, ⟨by (with_reducible repeat (first | refine blk_drewN ?_ _ | refine blk_drew ?_ | refine blk_alloc ?_ _)); refine blk_far ?_ NB272_295.out _; (with_reducible repeat (first | refine blk_drewN ?_ _ | refine blk_drew ?_ | refine blk_alloc ?_ _)); refine blk_far ?_ NB272_295.out _; (with_reducible repeat (first | refine blk_drewN ?_ _ | refine blk_drew ?_ | refine blk_alloc ?_ _)); exact BK272.out⟩, ⟨by (with_reducible repeat (first | refine blk_drewN ?_ _ | refine blk_drew ?_ | refine blk_alloc ?_ _)); refine blk_far ?_ NB277_295.out _; (with_reducible repeat (first | refine blk_drewN ?_ _ | refine blk_drew ?_ | refine blk_alloc ?_ _)); refine blk_far ?_ NB277_295.out _; (with_reducible repeat (first | refine blk_drewN ?_ _ | refine blk_drew ?_ | refine blk_alloc ?_ _)); exact BK277.out⟩, ⟨by (with_reducible repeat (first | refine blk_drewN ?_ _ | refine blk_drew ?_ | refine blk_alloc ?_ _)); refine blk_far ?_ NB284_295.out _; (with_reducible repeat (first | refine blk_drewN ?_ _ | refine blk_drew ?_ | refine blk_alloc ?_ _)); refine blk_far ?_ NB284_295.out _; (with_reducible repeat (first | refine blk_drewN ?_ _ | refine blk_drew ?_ | refine blk_alloc ?_ _)); exact BK284.out⟩, ⟨by (with_reducible repeat (first | refine blk_drewN ?_ _ | refine blk_drew ?_ | refine blk_alloc ?_ _)); refine blk_far ?_ NB290_295.out _; (with_reducible repeat (first | refine blk_drewN ?_ _ | refine blk_drew ?_ | refine blk_alloc ?_ _)); refine blk_far ?_ NB290_295.out _; (with_reducible repeat (first | refine blk_drewN ?_ _ | refine blk_drew ?_ | refine blk_alloc ?_ _)); exact BK290.out⟩, ⟨by (with_reducible repeat (first | refine blk_drewN ?_ _ | refine blk_drew ?_ | refine blk_alloc ?_ _)); refine blk_put (cs := #[.int .i64 t292, .int .i64 0]) ?_ 1 _ rfl; (with_reducible repeat (first | refine blk_drewN ?_ _ | refine blk_drew ?_ | refine blk_alloc ?_ _)); refine blk_put (cs := #[.int .i64 0, .int .i64 0]) ?_ 0 _ rfl; (with_reducible repeat (first | refine blk_drewN ?_ _ | refine blk_drew ?_ | refine blk_alloc ?_ _)); exact BK295.out⟩, ⟨by repeat (first | (with_reducible first | exact HB.out | apply below_alloc | apply pw_below_drewN | apply below_drew1 | refine below_set ?_ GE269.out | refine below_set ?_ GE270.out | refine below_set ?_ GE271.out | refine below_set ?_ GE272.out | refine below_set ?_ GE277.out | refine below_set ?_ GE284.out | refine below_set ?_ GE290.out | refine below_set ?_ GE295.out) | exact HB.out)⟩⟩
                ·rw [if_neg c155] at H
                 have c155b0 : decide (t292 ≤ t274) = false := decide_eq_false c155
                 clear c155
                 have H' := Aside0.mk H
                 clear H
                 have hnb171 := NB295_269.out
                 have hnc171 := NB269_295.out
                 have hnb172 := NB295_270.out
                 have hnc172 := NB270_295.out
                 have hnb173 := NB295_271.out
                 have hnc173 := NB271_295.out
                 have hnb174 := NB295_272.out
                 have hnc174 := NB272_295.out
                 have hnb175 := NB295_277.out
                 have hnc175 := NB277_295.out
                 have hnb176 := NB295_284.out
                 have hnc176 := NB284_295.out
                 have hnb177 := NB295_290.out
                 have hnc177 := NB290_295.out
                 have hcz178_0 : w143.cell? ⟨gb295, 0, none⟩ = some (.int .i64 0) := (blk_cell BK295.out 0).trans rfl
                 have hcz178_1 : w143.cell? ⟨gb295, 1, none⟩ = some (.int .i64 0) := (blk_cell BK295.out 1).trans rfl
                 have hfz178_0 := blk_frozen BK295.out 0
                 have hfz178_1 := blk_frozen BK295.out 1
                 have hnb179 := NB277_269.out
                 have hnc179 := NB269_277.out
                 have hnb180 := NB277_270.out
                 have hnc180 := NB270_277.out
                 have hnb181 := NB277_271.out
                 have hnc181 := NB271_277.out
                 have hnb182 := NB277_272.out
                 have hnc182 := NB272_277.out
                 have hnb183 := NB277_284.out
                 have hnc183 := NB284_277.out
                 have hnb184 := NB277_290.out
                 have hnc184 := NB290_277.out
                 have hcz185_0 : w143.cell? ⟨gb277, 0, none⟩ = some (.int .i64 t274) := (blk_cell BK277.out 0).trans rfl
                 have hcz185_1 : w143.cell? ⟨gb277, 1, none⟩ = some (.int .i64 t275) := (blk_cell BK277.out 1).trans rfl
                 have hfz185_0 := blk_frozen BK277.out 0
                 have hfz185_1 := blk_frozen BK277.out 1
                 go_wp2
                 go_meet
                 case rel => exact ⟨_, (false), (by first | rfl | (simp; done) | (simp [*]; done)), H', ⟨by have := HJ9.out; have := HJ56.out; have := HJ91.out; first | omega | exact Nat.le_refl _⟩, ⟨by (with_reducible repeat (first | refine blk_drewN ?_ _ | refine blk_drew ?_ | refine blk_alloc ?_ _)); refine blk_far ?_ NB269_295.out _; (with_reducible repeat (first | refine blk_drewN ?_ _ | refine blk_drew ?_ | refine blk_alloc ?_ _)); refine blk_far ?_ NB269_295.out _; (with_reducible repeat (first | refine blk_drewN ?_ _ | refine blk_drew ?_ | refine blk_alloc ?_ _)); exact BK269.out⟩, ⟨by (with_reducible repeat (first | refine blk_drewN ?_ _ | refine blk_drew ?_ | refine blk_alloc ?_ _)); refine blk_far ?_ NB270_295.out _; (with_reducible repeat (first | refine blk_drewN ?_ _ | refine blk_drew ?_ | refine blk_alloc ?_ _)); refine blk_far ?_ NB270_295.out _; (with_reducible repeat (first | refine blk_drewN ?_ _ | refine blk_drew ?_ | refine blk_alloc ?_ _)); exact BK270.out⟩, ⟨by (with_reducible repeat (first | refine blk_drewN ?_ _ | refine blk_drew ?_ | refine blk_alloc ?_ _)); refine blk_far ?_ NB271_295.out _; (with_reducible repeat (first | refine blk_drewN ?_ _ | refine blk_drew ?_ | refine blk_alloc ?_ _)); refine blk_far ?_ NB271_295.out _; (with_reducible repeat (first | refine blk_drewN ?_ _ | refine blk_drew ?_ | refine blk_alloc ?_ _)); exact BK271.out⟩, ⟨by (with_reducible repeat (first | refine blk_drewN ?_ _ | refine blk_drew ?_ | refine blk_alloc ?_ _)); refine blk_far ?_ NB272_295.out _; (with_reducible repeat (first | refine blk_drewN ?_ _ | refine blk_drew ?_ | refine blk_alloc ?_ _)); refine blk_far ?_ NB272_295.out _; (with_reducible repeat (first | refine blk_drewN ?_ _ | refine blk_drew ?_ | refine blk_alloc ?_ _)); exact BK272.out⟩, ⟨by (with_reducible repeat (first | refine blk_drewN ?_ _ | refine blk_drew ?_ | refine blk_alloc ?_ _)); refine blk_far ?_ NB277_295.out _; (with_reducible repeat (first | refine blk_drewN ?_ _ | refine blk_drew ?_ | refine blk_alloc ?_ _)); refine blk_far ?_ NB277_295.out _; (with_reducible repeat (first | refine blk_drewN ?_ _ | refine blk_drew ?_ | refine blk_alloc ?_ _)); exact BK277.out⟩, ⟨by (with_reducible repeat (first | refine blk_drewN ?_ _ | refine blk_drew ?_ | refine blk_alloc ?_ _)); refine blk_far ?_ NB284_295.out _; (with_reducible repeat (first | refine blk_drewN ?_ _ | refine blk_drew ?_ | refine blk_alloc ?_ _)); refine blk_far ?_ NB284_295.out _; (with_reducible repeat (first | refine blk_drewN ?_ _ | refine blk_drew ?_ | refine blk_alloc ?_ _)); exact BK284.out⟩, ⟨by (with_reducible repeat (first | refine blk_drewN ?_ _ | refine blk_drew ?_ | refine blk_alloc ?_ _)); refine blk_far ?_ NB290_295.out _; (with_reducible repeat (first | refine blk_drewN ?_ _ | refine blk_drew ?_ | refine blk_alloc ?_ _)); refine blk_far ?_ NB290_295.out _; (with_reducible repeat (first | refine blk_drewN ?_ _ | refine blk_drew ?_ | refine blk_alloc ?_ _)); exact BK290.out⟩, ⟨by (with_reducible repeat (first | refine blk_drewN ?_ _ | refine blk_drew ?_ | refine blk_alloc ?_ _)); refine blk_put (cs := #[.int .i64 t292, .int .i64 0]) ?_ 1 _ rfl; (with_reducible repeat (first | refine blk_drewN ?_ _ | refine blk_drew ?_ | refine blk_alloc ?_ _)); refine blk_put (cs := #[.int .i64 0, .int .i64 0]) ?_ 0 _ rfl; (with_reducible repeat (first | refine blk_drewN ?_ _ | refine blk_drew ?_ | refine blk_alloc ?_ _)); exact BK295.out⟩, ⟨by repeat (first | (with_reducible first | exact HB.out | apply below_alloc | apply pw_below_drewN | apply below_drew1 | refine below_set ?_ GE269.out | refine below_set ?_ GE270.out | refine below_set ?_ GE271.out | refine below_set ?_ GE272.out | refine below_set ?_ GE277.out | refine below_set ?_ GE284.out | refine below_set ?_ GE290.out | refine below_set ?_ GE295.out) | exact HB.out)⟩⟩
               ·rw [if_neg c154] at H
                have c154b0 : (t294 == 0) = false := beq_eq_false_iff_ne.mpr c154
                have c154b1 : (t294 != 0) = true := bne_iff_ne.mpr c154
                have H' := Aside0.mk H
                clear H
                go_wp2
                go_meet
                case rel => exact ⟨_, (false), (by first | rfl | (simp; done) | (simp [*]; done)), H', ⟨by have := HJ9.out; have := HJ56.out; have := HJ91.out; first | omega | exact Nat.le_refl _⟩, ⟨by (with_reducible repeat (first | refine blk_drewN ?_ _ | refine blk_drew ?_ | refine blk_alloc ?_ _)); refine blk_far ?_ NB269_295.out _; (with_reducible repeat (first | refine blk_drewN ?_ _ | refine blk_drew ?_ | refine blk_alloc ?_ _)); refine blk_far ?_ NB269_295.out _; (with_reducible repeat (first | refine blk_drewN ?_ _ | refine blk_drew ?_ | refine blk_alloc ?_ _)); exact BK269.out⟩, ⟨by (with_reducible repeat (first | refine blk_drewN ?_ _ | refine blk_drew ?_ | refine blk_alloc ?_ _)); refine blk_far ?_ NB270_295.out _; (with_reducible repeat (first | refine blk_drewN ?_ _ | refine blk_drew ?_ | refine blk_alloc ?_ _)); refine blk_far ?_ NB270_295.out _; (with_reducible repeat (first | refine blk_drewN ?_ _ | refine blk_drew ?_ | refine blk_alloc ?_ _)); exact BK270.out⟩, ⟨by (with_reducible repeat (first | refine blk_drewN ?_ _ | refine blk_drew ?_ | refine blk_alloc ?_ _)); refine blk_far ?_ NB271_295.out _; (with_reducible repeat (first | refine blk_drewN ?_ _ | refine blk_drew ?_ | refine blk_alloc ?_ _)); refine blk_far ?_ NB271_295.out _; (with_reducible repeat (first | refine blk_drewN ?_ _ | refine blk_drew ?_ | refine blk_alloc ?_ _)); exact BK271.out⟩, ⟨by (with_reducible repeat (first | refine blk_drewN ?_ _ | refine blk_drew ?_ | refine blk_alloc ?_ _)); refine blk_far ?_ NB272_295.out _; (with_reducible repeat (first | refine blk_drewN ?_ _ | refine blk_drew ?_ | refine blk_alloc ?_ _)); refine blk_far ?_ NB272_295.out _; (with_reducible repeat (first | refine blk_drewN ?_ _ | refine blk_drew ?_ | refine blk_alloc ?_ _)); exact BK272.out⟩, ⟨by (with_reducible repeat (first | refine blk_drewN ?_ _ | refine blk_drew ?_ | refine blk_alloc ?_ _)); refine blk_far ?_ NB277_295.out _; (with_reducible repeat (first | refine blk_drewN ?_ _ | refine blk_drew ?_ | refine blk_alloc ?_ _)); refine blk_far ?_ NB277_295.out _; (with_reducible repeat (first | refine blk_drewN ?_ _ | refine blk_drew ?_ | refine blk_alloc ?_ _)); exact BK277.out⟩, ⟨by (with_reducible repeat (first | refine blk_drewN ?_ _ | refine blk_drew ?_ | refine blk_alloc ?_ _)); refine blk_far ?_ NB284_295.out _; (with_reducible repeat (first | refine blk_drewN ?_ _ | refine blk_drew ?_ | refine blk_alloc ?_ _)); refine blk_far ?_ NB284_295.out _; (with_reducible repeat (first | refine blk_drewN ?_ _ | refine blk_drew ?_ | refine blk_alloc ?_ _)); exact BK284.out⟩, ⟨by (with_reducible repeat (first | refine blk_drewN ?_ _ | refine blk_drew ?_ | refine blk_alloc ?_ _)); refine blk_far ?_ NB290_295.out _; (with_reducible repeat (first | refine blk_drewN ?_ _ | refine blk_drew ?_ | refine blk_alloc ?_ _)); refine blk_far ?_ NB290_295.out _; (with_reducible repeat (first | refine blk_drewN ?_ _ | refine blk_drew ?_ | refine blk_alloc ?_ _)); exact BK290.out⟩, ⟨by (with_reducible repeat (first | refine blk_drewN ?_ _ | refine blk_drew ?_ | refine blk_alloc ?_ _)); refine blk_put (cs := #[.int .i64 t292, .int .i64 0]) ?_ 1 _ rfl; (with_reducible repeat (first | refine blk_drewN ?_ _ | refine blk_drew ?_ | refine blk_alloc ?_ _)); refine blk_put (cs := #[.int .i64 0, .int .i64 0]) ?_ 0 _ rfl; (with_reducible repeat (first | refine blk_drewN ?_ _ | refine blk_drew ?_ | refine blk_alloc ?_ _)); exact BK295.out⟩, ⟨by repeat (first | (with_reducible first | exact HB.out | apply below_alloc | apply pw_below_drewN | apply below_drew1 | refine below_set ?_ GE269.out | refine below_set ?_ GE270.out | refine below_set ?_ GE271.out | refine below_set ?_ GE272.out | refine below_set ?_ GE277.out | refine below_set ?_ GE284.out | refine below_set ?_ GE290.out | refine below_set ?_ GE295.out) | exact HB.out)⟩⟩
             ·rw [if_neg c152] at H
              have c152b0 : (a3 == 4) = false := beq_eq_false_iff_ne.mpr c152
              have c152b1 : (a3 != 4) = true := bne_iff_ne.mpr c152
              (first | rw [c152b0] | (simp only [i64_w, i32_w]; rw [c152b0]) | skip)
              by_cases c186 : t294 = 0
              ·rw [if_pos c186] at H
               have c186b0 : (t294 == 0) = true := beq_iff_eq.mpr c186
               have c186b1 : (t294 != 0) = false := bne_eq_false_iff_eq.mpr c186
               clear c186
               by_cases c187 : t292 ≤ t274
               ·rw [if_pos c187] at H
                have c187b0 : decide (t292 ≤ t274) = true := decide_eq_true c187
                clear c187
                have H' := Aside0.mk H
                clear H
                have hnb188 := NB295_269.out
                have hnc188 := NB269_295.out
                have hnb189 := NB295_270.out
                have hnc189 := NB270_295.out
                have hnb190 := NB295_271.out
                have hnc190 := NB271_295.out
                have hnb191 := NB295_272.out
                have hnc191 := NB272_295.out
                have hnb192 := NB295_277.out
                have hnc192 := NB277_295.out
                have hnb193 := NB295_284.out
                have hnc193 := NB284_295.out
                have hnb194 := NB295_290.out
                have hnc194 := NB290_295.out
                have hcz195_0 : w143.cell? ⟨gb295, 0, none⟩ = some (.int .i64 0) := (blk_cell BK295.out 0).trans rfl
                have hcz195_1 : w143.cell? ⟨gb295, 1, none⟩ = some (.int .i64 0) := (blk_cell BK295.out 1).trans rfl
                have hfz195_0 := blk_frozen BK295.out 0
                have hfz195_1 := blk_frozen BK295.out 1
                have hnb196 := NB277_269.out
                have hnc196 := NB269_277.out
                have hnb197 := NB277_270.out
                have hnc197 := NB270_277.out
                have hnb198 := NB277_271.out
                have hnc198 := NB271_277.out
                have hnb199 := NB277_272.out
                have hnc199 := NB272_277.out
                have hnb200 := NB277_284.out
                have hnc200 := NB284_277.out
                have hnb201 := NB277_290.out
                have hnc201 := NB290_277.out
                have hcz202_0 : w143.cell? ⟨gb277, 0, none⟩ = some (.int .i64 t274) := (blk_cell BK277.out 0).trans rfl
                have hcz202_1 : w143.cell? ⟨gb277, 1, none⟩ = some (.int .i64 t275) := (blk_cell BK277.out 1).trans rfl
                have hfz202_0 := blk_frozen BK277.out 0
                have hfz202_1 := blk_frozen BK277.out 1
                go_wp2
                go_meet
                case rel => exact ⟨_, (decide (t293 ≤ t275)), (by first | rfl | (simp; done) | (simp [*]; done)), H', ⟨by have := HJ9.out; have := HJ56.out; have := HJ91.out; first | omega | exact Nat.le_refl _⟩, ⟨by (with_reducible repeat (first | refine blk_drewN ?_ _ | refine blk_drew ?_ | refine blk_alloc ?_ _)); refine blk_far ?_ NB269_295.out _; (with_reducible repeat (first | refine blk_drewN ?_ _ | refine blk_drew ?_ | refine blk_alloc ?_ _)); refine blk_far ?_ NB269_295.out _; (with_reducible repeat (first | refine blk_drewN ?_ _ | refine blk_drew ?_ | refine blk_alloc ?_ _)); exact BK269.out⟩, ⟨by (with_reducible repeat (first | refine blk_drewN ?_ _ | refine blk_drew ?_ | refine blk_alloc ?_ _)); refine blk_far ?_ NB270_295.out _; (with_reducible repeat (first | refine blk_drewN ?_ _ | refine blk_drew ?_ | refine blk_alloc ?_ _)); refine blk_far ?_ NB270_295.out _; (with_reducible repeat (first | refine blk_drewN ?_ _ | refine blk_drew ?_ | refine blk_alloc ?_ _)); exact BK270.out⟩, ⟨by (with_reducible repeat (first | refine blk_drewN ?_ _ | refine blk_drew ?_ | refine blk_alloc ?_ _)); refine blk_far ?_ NB271_295.out _; (with_reducible repeat (first | refine blk_drewN ?_ _ | refine blk_drew ?_ | refine blk_alloc ?_ _)); refine blk_far ?_ NB271_295.out _; (with_reducible repeat (first | refine blk_drewN ?_ _ | refine blk_drew ?_ | refine blk_alloc ?_ _)); exact BK271.out⟩, ⟨by (with_reducible repeat (first | refine blk_drewN ?_ _ | refine blk_drew ?_ | refine blk_alloc ?_ _)); refine blk_far ?_ NB272_295.out _; (with_reducible repeat (first | refine blk_drewN ?_ _ | refine blk_drew ?_ | refine blk_alloc ?_ _)); refine blk_far ?_ NB272_295.out _; (with_reducible repeat (first | refine blk_drewN ?_ _ | refine blk_drew ?_ | refine blk_alloc ?_ _)); exact BK272.out⟩, ⟨by (with_reducible repeat (first | refine blk_drewN ?_ _ | refine blk_drew ?_ | refine blk_alloc ?_ _)); refine blk_far ?_ NB277_295.out _; (with_reducible repeat (first | refine blk_drewN ?_ _ | refine blk_drew ?_ | refine blk_alloc ?_ _)); refine blk_far ?_ NB277_295.out _; (with_reducible repeat (first | refine blk_drewN ?_ _ | refine blk_drew ?_ | refine blk_alloc ?_ _)); exact BK277.out⟩, ⟨by (with_reducible repeat (first | refine blk_drewN ?_ _ | refine blk_drew ?_ | refine blk_alloc ?_ _)); refine blk_far ?_ NB284_295.out _; (with_reducible repeat (first | refine blk_drewN ?_ _ | refine blk_drew ?_ | refine blk_alloc ?_ _)); refine blk_far ?_ NB284_295.out _; (with_reducible repeat (first | refine blk_drewN ?_ _ | refine blk_drew ?_ | refine blk_alloc ?_ _)); exact BK284.out⟩, ⟨by (with_reducible repeat (first | refine blk_drewN ?_ _ | refine blk_drew ?_ | refine blk_alloc ?_ _)); refine blk_far ?_ NB290_295.out _; (with_reducible repeat (first | refine blk_drewN ?_ _ | refine blk_drew ?_ | refine blk_alloc ?_ _)); refine blk_far ?_ NB290_295.out _; (with_reducible repeat (first | refine blk_drewN ?_ _ | refine blk_drew ?_ | refine blk_alloc ?_ _)); exact BK290.out⟩, ⟨by (with_reducible repeat (first | refine blk_drewN ?_ _ | refine blk_drew ?_ | refine blk_alloc ?_ _)); refine blk_put (cs := #[.int .i64 t292, .int .i64 0]) ?_ 1 _ rfl; (with_reducible repeat (first | refine blk_drewN ?_ _ | refine blk_drew ?_ | refine blk_alloc ?_ _)); refine blk_put (cs := #[.int .i64 0, .int .i64 0]) ?_ 0 _ rfl; (with_reducible repeat (first | refine blk_drewN ?_ _ | refine blk_drew ?_ | refine blk_alloc ?_ _)); exact BK295.out⟩, ⟨by repeat (first | (with_reducible first | exact HB.out | apply below_alloc | apply pw_below_drewN | apply below_drew1 | refine below_set ?_ GE269.out | refine below_set ?_ GE270.out | refine below_set ?_ GE271.out | refine below_set ?_ GE272.out | refine below_set ?_ GE277.out | refine below_set ?_ GE284.out | refine below_set ?_ GE290.out | refine below_set ?_ GE295.out) | exact HB.out)⟩⟩
               ·rw [if_neg c187] at H
                have c187b0 : decide (t292 ≤ t274) = false := decide_eq_false c187
                clear c187
                have H' := Aside0.mk H
                clear H
                have hnb203 := NB295_269.out
                have hnc203 := NB269_295.out
                have hnb204 := NB295_270.out
                have hnc204 := NB270_295.out
                have hnb205 := NB295_271.out
                have hnc205 := NB271_295.out
                have hnb206 := NB295_272.out
                have hnc206 := NB272_295.out
                have hnb207 := NB295_277.out
                have hnc207 := NB277_295.out
                have hnb208 := NB295_284.out
                have hnc208 := NB284_295.out
                have hnb209 := NB295_290.out
                have hnc209 := NB290_295.out
                have hcz210_0 : w143.cell? ⟨gb295, 0, none⟩ = some (.int .i64 0) := (blk_cell BK295.out 0).trans rfl
                have hcz210_1 : w143.cell? ⟨gb295, 1, none⟩ = some (.int .i64 0) := (blk_cell BK295.out 1).trans rfl
                have hfz210_0 := blk_frozen BK295.out 0
                have hfz210_1 := blk_frozen BK295.out 1
                have hnb211 := NB277_269.out
                have hnc211 := NB269_277.out
                have hnb212 := NB277_270.out
                have hnc212 := NB270_277.out
                have hnb213 := NB277_271.out
                have hnc213 := NB271_277.out
                have hnb214 := NB277_272.out
                have hnc214 := NB272_277.out
                have hnb215 := NB277_284.out
                have hnc215 := NB284_277.out
                have hnb216 := NB277_290.out
                have hnc216 := NB290_277.out
                have hcz217_0 : w143.cell? ⟨gb277, 0, none⟩ = some (.int .i64 t274) := (blk_cell BK277.out 0).trans rfl
                have hcz217_1 : w143.cell? ⟨gb277, 1, none⟩ = some (.int .i64 t275) := (blk_cell BK277.out 1).trans rfl
                have hfz217_0 := blk_frozen BK277.out 0
                have hfz217_1 := blk_frozen BK277.out 1
                go_wp2
                go_meet
                case rel => exact ⟨_, (false), (by first | rfl | (simp; done) | (simp [*]; done)), H', ⟨by have := HJ9.out; have := HJ56.out; have := HJ91.out; first | omega | exact Nat.le_refl _⟩, ⟨by (with_reducible repeat (first | refine blk_drewN ?_ _ | refine blk_drew ?_ | refine blk_alloc ?_ _)); refine blk_far ?_ NB269_295.out _; (with_reducible repeat (first | refine blk_drewN ?_ _ | refine blk_drew ?_ | refine blk_alloc ?_ _)); refine blk_far ?_ NB269_295.out _; (with_reducible repeat (first | refine blk_drewN ?_ _ | refine blk_drew ?_ | refine blk_alloc ?_ _)); exact BK269.out⟩, ⟨by (with_reducible repeat (first | refine blk_drewN ?_ _ | refine blk_drew ?_ | refine blk_alloc ?_ _)); refine blk_far ?_ NB270_295.out _; (with_reducible repeat (first | refine blk_drewN ?_ _ | refine blk_drew ?_ | refine blk_alloc ?_ _)); refine blk_far ?_ NB270_295.out _; (with_reducible repeat (first | refine blk_drewN ?_ _ | refine blk_drew ?_ | refine blk_alloc ?_ _)); exact BK270.out⟩, ⟨by (with_reducible repeat (first | refine blk_drewN ?_ _ | refine blk_drew ?_ | refine blk_alloc ?_ _)); refine blk_far ?_ NB271_295.out _; (with_reducible repeat (first | refine blk_drewN ?_ _ | refine blk_drew ?_ | refine blk_alloc ?_ _)); refine blk_far ?_ NB271_295.out _; (with_reducible repeat (first | refine blk_drewN ?_ _ | refine blk_drew ?_ | refine blk_alloc ?_ _)); exact BK271.out⟩, ⟨by (with_reducible repeat (first | refine blk_drewN ?_ _ | refine blk_drew ?_ | refine blk_alloc ?_ _)); refine blk_far ?_ NB272_295.out _; (with_reducible repeat (first | refine blk_drewN ?_ _ | refine blk_drew ?_ | refine blk_alloc ?_ _)); refine blk_far ?_ NB272_295.out _; (with_reducible repeat (first | refine blk_drewN ?_ _ | refine blk_drew ?_ | refine blk_alloc ?_ _)); exact BK272.out⟩, ⟨by (with_reducible repeat (first | refine blk_drewN ?_ _ | refine blk_drew ?_ | refine blk_alloc ?_ _)); refine blk_far ?_ NB277_295.out _; (with_reducible repeat (first | refine blk_drewN ?_ _ | refine blk_drew ?_ | refine blk_alloc ?_ _)); refine blk_far ?_ NB277_295.out _; (with_reducible repeat (first | refine blk_drewN ?_ _ | refine blk_drew ?_ | refine blk_alloc ?_ _)); exact BK277.out⟩, ⟨by (with_reducible repeat (first | refine blk_drewN ?_ _ | refine blk_drew ?_ | refine blk_alloc ?_ _)); refine blk_far ?_ NB284_295.out _; (with_reducible repeat (first | refine blk_drewN ?_ _ | refine blk_drew ?_ | refine blk_alloc ?_ _)); refine blk_far ?_ NB284_295.out _; (with_reducible repeat (first | refine blk_drewN ?_ _ | refine blk_drew ?_ | refine blk_alloc ?_ _)); exact BK284.out⟩, ⟨by (with_reducible repeat (first | refine blk_drewN ?_ _ | refine blk_drew ?_ | refine blk_alloc ?_ _)); refine blk_far ?_ NB290_295.out _; (with_reducible repeat (first | refine blk_drewN ?_ _ | refine blk_drew ?_ | refine blk_alloc ?_ _)); refine blk_far ?_ NB290_295.out _; (with_reducible repeat (first | refine blk_drewN ?_ _ | refine blk_drew ?_ | refine blk_alloc ?_ _)); exact BK290.out⟩, ⟨by (with_reducible repeat (first | refine blk_drewN ?_ _ | refine blk_drew ?_ | refine blk_alloc ?_ _)); refine blk_put (cs := #[.int .i64 t292, .int .i64 0]) ?_ 1 _ rfl; (with_reducible repeat (first | refine blk_drewN ?_ _ | refine blk_drew ?_ | refine blk_alloc ?_ _)); refine blk_put (cs := #[.int .i64 0, .int .i64 0]) ?_ 0 _ rfl; (with_reducible repeat (first | refine blk_drewN ?_ _ | refine blk_drew ?_ | refine blk_alloc ?_ _)); exact BK295.out⟩, ⟨by repeat (first | (with_reducible first | exact HB.out | apply below_alloc | apply pw_below_drewN | apply below_drew1 | refine below_set ?_ GE269.out | refine below_set ?_ GE270.out | refine below_set ?_ GE271.out | refine below_set ?_ GE272.out | refine below_set ?_ GE277.out | refine below_set ?_ GE284.out | refine below_set ?_ GE290.out | refine below_set ?_ GE295.out) | exact HB.out)⟩⟩
              ·rw [if_neg c186] at H
               have c186b0 : (t294 == 0) = false := beq_eq_false_iff_ne.mpr c186
               have c186b1 : (t294 != 0) = true := bne_iff_ne.mpr c186
               have H' := Aside0.mk H
               clear H
               go_wp2
               go_meet
               case rel => exact ⟨_, (false), (by first | rfl | (simp; done) | (simp [*]; done)), H', ⟨by have := HJ9.out; have := HJ56.out; have := HJ91.out; first | omega | exact Nat.le_refl _⟩, ⟨by (with_reducible repeat (first | refine blk_drewN ?_ _ | refine blk_drew ?_ | refine blk_alloc ?_ _)); refine blk_far ?_ NB269_295.out _; (with_reducible repeat (first | refine blk_drewN ?_ _ | refine blk_drew ?_ | refine blk_alloc ?_ _)); refine blk_far ?_ NB269_295.out _; (with_reducible repeat (first | refine blk_drewN ?_ _ | refine blk_drew ?_ | refine blk_alloc ?_ _)); exact BK269.out⟩, ⟨by (with_reducible repeat (first | refine blk_drewN ?_ _ | refine blk_drew ?_ | refine blk_alloc ?_ _)); refine blk_far ?_ NB270_295.out _; (with_reducible repeat (first | refine blk_drewN ?_ _ | refine blk_drew ?_ | refine blk_alloc ?_ _)); refine blk_far ?_ NB270_295.out _; (with_reducible repeat (first | refine blk_drewN ?_ _ | refine blk_drew ?_ | refine blk_alloc ?_ _)); exact BK270.out⟩, ⟨by (with_reducible repeat (first | refine blk_drewN ?_ _ | refine blk_drew ?_ | refine blk_alloc ?_ _)); refine blk_far ?_ NB271_295.out _; (with_reducible repeat (first | refine blk_drewN ?_ _ | refine blk_drew ?_ | refine blk_alloc ?_ _)); refine blk_far ?_ NB271_295.out _; (with_reducible repeat (first | refine blk_drewN ?_ _ | refine blk_drew ?_ | refine blk_alloc ?_ _)); exact BK271.out⟩, ⟨by (with_reducible repeat (first | refine blk_drewN ?_ _ | refine blk_drew ?_ | refine blk_alloc ?_ _)); refine blk_far ?_ NB272_295.out _; (with_reducible repeat (first | refine blk_drewN ?_ _ | refine blk_drew ?_ | refine blk_alloc ?_ _)); refine blk_far ?_ NB272_295.out _; (with_reducible repeat (first | refine blk_drewN ?_ _ | refine blk_drew ?_ | refine blk_alloc ?_ _)); exact BK272.out⟩, ⟨by (with_reducible repeat (first | refine blk_drewN ?_ _ | refine blk_drew ?_ | refine blk_alloc ?_ _)); refine blk_far ?_ NB277_295.out _; (with_reducible repeat (first | refine blk_drewN ?_ _ | refine blk_drew ?_ | refine blk_alloc ?_ _)); refine blk_far ?_ NB277_295.out _; (with_reducible repeat (first | refine blk_drewN ?_ _ | refine blk_drew ?_ | refine blk_alloc ?_ _)); exact BK277.out⟩, ⟨by (with_reducible repeat (first | refine blk_drewN ?_ _ | refine blk_drew ?_ | refine blk_alloc ?_ _)); refine blk_far ?_ NB284_295.out _; (with_reducible repeat (first | refine blk_drewN ?_ _ | refine blk_drew ?_ | refine blk_alloc ?_ _)); refine blk_far ?_ NB284_295.out _; (with_reducible repeat (first | refine blk_drewN ?_ _ | refine blk_drew ?_ | refine blk_alloc ?_ _)); exact BK284.out⟩, ⟨by (with_reducible repeat (first | refine blk_drewN ?_ _ | refine blk_drew ?_ | refine blk_alloc ?_ _)); refine blk_far ?_ NB290_295.out _; (with_reducible repeat (first | refine blk_drewN ?_ _ | refine blk_drew ?_ | refine blk_alloc ?_ _)); refine blk_far ?_ NB290_295.out _; (with_reducible repeat (first | refine blk_drewN ?_ _ | refine blk_drew ?_ | refine blk_alloc ?_ _)); exact BK290.out⟩, ⟨by (with_reducible repeat (first | refine blk_drewN ?_ _ | refine blk_drew ?_ | refine blk_alloc ?_ _)); refine blk_put (cs := #[.int .i64 t292, .int .i64 0]) ?_ 1 _ rfl; (with_reducible repeat (first | refine blk_drewN ?_ _ | refine blk_drew ?_ | refine blk_alloc ?_ _)); refine blk_put (cs := #[.int .i64 0, .int .i64 0]) ?_ 0 _ rfl; (with_reducible repeat (first | refine blk_drewN ?_ _ | refine blk_drew ?_ | refine blk_alloc ?_ _)); exact BK295.out⟩, ⟨by repeat (first | (with_reducible first | exact HB.out | apply below_alloc | apply pw_below_drewN | apply below_drew1 | refine below_set ?_ GE269.out | refine below_set ?_ GE270.out | refine below_set ?_ GE271.out | refine below_set ?_ GE272.out | refine below_set ?_ GE277.out | refine below_set ?_ GE284.out | refine below_set ?_ GE290.out | refine below_set ?_ GE295.out) | exact HB.out)⟩⟩
            case rest =>
             clear HC123
             try clear c1
             try clear c2
             try clear p2
             try clear c3
             try clear p6
             try clear c7
             try clear c8
             try clear c9
             try clear c10
             try clear c11
             try clear c12
             try clear c13
             try clear c14
             try clear c15
             try clear c16
             try clear c17
             try clear c18
             try clear c19
             try clear c20
             try clear c21
             try clear c23
             try clear c34
             try clear p64
             try clear c75
             try clear c75b0
             try clear c75b1
             try clear c77
             try clear c78
             try clear c79
             try clear c80
             try clear c81
             try clear c82
             try clear c84
             try clear c85
             try clear c86
             try clear c87
             try clear c88
             try clear c91
             try clear c93
             try clear c93b0
             try clear c93b1
             try clear c94
             try clear c94b0
             try clear c95
             try clear c96
             try clear c97
             try clear c98
             try clear c99
             try clear c100
             try clear c102
             try clear c103
             try clear c104
             try clear c105
             try clear c106
             try clear c108
             try clear c109
             try clear c110
             try clear c111
             try clear c112
             try clear c113
             try clear c115
             try clear c116
             try clear c117
             try clear c118
             try clear c119
             try clear c121
             try clear c124
             try clear c125
             try clear c126
             try clear c127
             try clear c128
             try clear c129
             try clear c131
             try clear c132
             try clear c133
             try clear c134
             try clear c135
             try clear c137
             try clear c138
             try clear c139
             try clear c140
             try clear c144
             try clear c145
             try clear c146
             try clear c147
             try clear c148
             try clear c149
             try clear c150
             try clear c152
             try clear c152b0
             try clear c152b1
             try clear c153
             try clear c153b0
             try clear c153b1
             try clear c154
             try clear c154b0
             try clear c154b1
             try clear c155
             try clear c155b0
             try clear c156
             try clear c157
             try clear c158
             try clear c159
             try clear c160
             try clear c161
             try clear c162
             try clear c164
             try clear c165
             try clear c166
             try clear c167
             try clear c168
             try clear c169
             try clear c171
             try clear c172
             try clear c173
             try clear c174
             try clear c175
             try clear c176
             try clear c177
             try clear c179
             try clear c180
             try clear c181
             try clear c182
             try clear c183
             try clear c184
             try clear c186
             try clear c186b0
             try clear c186b1
             try clear c187
             try clear c187b0
             try clear c188
             try clear c189
             try clear c190
             try clear c191
             try clear c192
             try clear c193
             try clear c194
             try clear c196
             try clear c197
             try clear c198
             try clear c199
             try clear c200
             try clear c201
             try clear c203
             try clear c204
             try clear c205
             try clear c206
             try clear c207
             try clear c208
             try clear c209
             try clear c211
             try clear c212
             try clear c213
             try clear c214
             try clear c215
             try clear c216
             try clear hcz101_0
             try clear hcz101_1
             try clear hcz107_0
             try clear hcz107_1
             try clear hcz114_0
             try clear hcz114_1
             try clear hcz120_0
             try clear hcz120_1
             try clear hcz130_0
             try clear hcz130_1
             try clear hcz130_2
             try clear hcz130_3
             try clear hcz130_4
             try clear hcz130_5
             try clear hcz130_6
             try clear hcz136_0
             try clear hcz136_1
             try clear hcz141_0
             try clear hcz141_1
             try clear hcz141_2
             try clear hcz141_3
             try clear hcz151_0
             try clear hcz151_1
             try clear hcz163_0
             try clear hcz163_1
             try clear hcz170_0
             try clear hcz170_1
             try clear hcz178_0
             try clear hcz178_1
             try clear hcz185_0
             try clear hcz185_1
             try clear hcz195_0
             try clear hcz195_1
             try clear hcz202_0
             try clear hcz202_1
             try clear hcz210_0
             try clear hcz210_1
             try clear hcz217_0
             try clear hcz217_1
             try clear hcz83_0
             try clear hcz83_1
             try clear hcz89_0
             try clear hcz89_1
             try clear hfz101_0
             try clear hfz101_1
             try clear hfz107_0
             try clear hfz107_1
             try clear hfz114_0
             try clear hfz114_1
             try clear hfz120_0
             try clear hfz120_1
             try clear hfz130_0
             try clear hfz130_1
             try clear hfz130_2
             try clear hfz130_3
             try clear hfz130_4
             try clear hfz130_5
             try clear hfz130_6
             try clear hfz136_0
             try clear hfz136_1
             try clear hfz141_0
             try clear hfz141_1
             try clear hfz141_2
             try clear hfz141_3
             try clear hfz151_0
             try clear hfz151_1
             try clear hfz163_0
             try clear hfz163_1
             try clear hfz170_0
             try clear hfz170_1
             try clear hfz178_0
             try clear hfz178_1
             try clear hfz185_0
             try clear hfz185_1
             try clear hfz195_0
             try clear hfz195_1
             try clear hfz202_0
             try clear hfz202_1
             try clear hfz210_0
             try clear hfz210_1
             try clear hfz217_0
             try clear hfz217_1
             try clear hfz83_0
             try clear hfz83_1
             try clear hfz89_0
             try clear hfz89_1
             try clear p2
             obtain ⟨kq, x10_122, rfl, HA, HJ122, BK269, BK270, BK271, BK272, BK277, BK284, BK290, BK295, HB⟩ := hcut
             cases kq with
             | zero => exact absurd HA.out (by simp [fastilaw28_TurfLess.j3])
             | succ kj122 =>
              have H := HA.out
              clear HA
              simp only [fastilaw28_TurfLess.j3] at H
              obtain rfl := Option.some.inj H
              go_wp2
              go_ret
              exact ⟨by first | rfl | (simp [errW_none, errW_some] <;> rfl) | (simp [*, errW_none, errW_some] <;> rfl), by repeat (first | (with_reducible first | exact HB.out | apply below_alloc | apply pw_below_drewN | apply below_drew1 | refine below_set ?_ GE269.out | refine below_set ?_ GE270.out | refine below_set ?_ GE271.out | refine below_set ?_ GE272.out | refine below_set ?_ GE277.out | refine below_set ?_ GE284.out | refine below_set ?_ GE290.out | refine below_set ?_ GE295.out) | exact HB.out)⟩
  ·rw [if_neg c9] at H
   have c9b0 : (t276 == 0) = false := beq_eq_false_iff_ne.mpr c9
   have c9b1 : (t276 != 0) = true := bne_iff_ne.mpr c9
   obtain rfl := Option.some.inj H
   go_enter Try.func12, Try.ntmps12
   go_wp2_with (first | ((with_reducible refine gate_dst (N := 5) rfl ?_); refine box_event ?hg (N := 5) ?hd (cs := #[.string a0_0, .string a0_1, .int .i64 a0_2, .int .i64 a0_3, .int .i64 a0_4, .int .i64 a0_5, .int .i64 a0_6]) (t := 25) ?hr ?_; (case hd => rfl); (case hg => rfl); (case hr => first | (go_simp; done) | (go_simp; rfl)); intro gb269 hg w218 hbox hb; have n0_ := Aside0.mk (below_step (by repeat (first | (with_reducible first | exact HB.out | apply below_alloc | apply pw_below_drewN | apply below_drew1) | exact HB.out)) hb); have n1_ := Aside0.mk (hbox); have n2_ := Aside0.mk ((by rw [hg]; exact (below_size (by repeat (first | (with_reducible first | exact HB.out | apply below_alloc | apply pw_below_drewN | apply below_drew1) | exact HB.out))) : w.heap.size ≤ gb269)); have n3_ := Aside0.mk ((by rw [hg]; exact (below_size (by repeat (first | (with_reducible first | exact HB.out | apply below_alloc | apply pw_below_drewN | apply below_drew1) | exact HB.out))) : w.heap.size ≤ gb269)); clear HB; have HB := n0_; have BK269 := n1_; have GW269 := n2_; have GE269 := n3_; clear n0_ n1_ n2_ n3_; clear hb hbox hg) | ((with_reducible refine gate_dst (N := 6) rfl ?_); refine box_event ?hg (N := 6) ?hd (cs := #[.int .i64 a1_0, .int .i64 a1_1]) (t := 27) ?hr ?_; (case hd => rfl); (case hg => rfl); (case hr => first | (go_simp; done) | (go_simp; rfl)); intro gb270 hg w219 hbox hb; have n0_ := Aside0.mk (zb BK269.out hb); have n1_ := Aside0.mk (below_step (by repeat (first | (with_reducible first | exact HB.out | apply below_alloc | apply pw_below_drewN | apply below_drew1 | refine below_set ?_ GE269.out) | exact HB.out)) hb); have n2_ := Aside0.mk (hbox); have n3_ := Aside0.mk ((by rw [hg]; exact (below_size (by repeat (first | (with_reducible first | exact HB.out | apply below_alloc | apply pw_below_drewN | apply below_drew1 | refine below_set ?_ GE269.out) | exact HB.out))) : w.heap.size ≤ gb270)); have n4_ := Aside0.mk ((by rw [hg]; exact (below_size (by repeat (first | (with_reducible first | exact HB.out | apply below_alloc | apply pw_below_drewN | apply below_drew1 | refine below_set ?_ GE269.out) | exact HB.out))) : w.heap.size ≤ gb270)); have n5_ := Aside0.mk ((by rw [hg]; exact Nat.ne_of_lt (blk_lt (zk BK269.out)) : gb269 ≠ gb270)); have n6_ := Aside0.mk ((by rw [hg]; exact Nat.ne_of_gt (blk_lt (zk BK269.out)) : gb270 ≠ gb269)); clear BK269; clear HB; have BK269 := n0_; have HB := n1_; have BK270 := n2_; have GW270 := n3_; have GE270 := n4_; have NB269_270 := n5_; have NB270_269 := n6_; clear n0_ n1_ n2_ n3_ n4_ n5_ n6_; clear hb hbox hg) | ((with_reducible refine gate_dst (N := 7) rfl ?_); refine box_event ?hg (N := 7) ?hd (cs := #[.int .i64 a2_0, .int .i64 a2_1, .int .i64 a2_2, .int .i64 a2_3]) (t := 44) ?hr ?_; (case hd => rfl); (case hg => rfl); (case hr => first | (go_simp; done) | (go_simp; rfl)); intro gb271 hg w220 hbox hb; have n0_ := Aside0.mk (zb BK269.out hb); have n1_ := Aside0.mk (zb BK270.out hb); have n2_ := Aside0.mk (below_step (by repeat (first | (with_reducible first | exact HB.out | apply below_alloc | apply pw_below_drewN | apply below_drew1 | refine below_set ?_ GE269.out | refine below_set ?_ GE270.out) | exact HB.out)) hb); have n3_ := Aside0.mk (hbox); have n4_ := Aside0.mk ((by rw [hg]; exact (below_size (by repeat (first | (with_reducible first | exact HB.out | apply below_alloc | apply pw_below_drewN | apply below_drew1 | refine below_set ?_ GE269.out | refine below_set ?_ GE270.out) | exact HB.out))) : w.heap.size ≤ gb271)); have n5_ := Aside0.mk ((by rw [hg]; exact (below_size (by repeat (first | (with_reducible first | exact HB.out | apply below_alloc | apply pw_below_drewN | apply below_drew1 | refine below_set ?_ GE269.out | refine below_set ?_ GE270.out) | exact HB.out))) : w.heap.size ≤ gb271)); have n6_ := Aside0.mk ((by rw [hg]; exact Nat.ne_of_lt (blk_lt (zk BK269.out)) : gb269 ≠ gb271)); have n7_ := Aside0.mk ((by rw [hg]; exact Nat.ne_of_gt (blk_lt (zk BK269.out)) : gb271 ≠ gb269)); have n8_ := Aside0.mk ((by rw [hg]; exact Nat.ne_of_lt (blk_lt (zk BK270.out)) : gb270 ≠ gb271)); have n9_ := Aside0.mk ((by rw [hg]; exact Nat.ne_of_gt (blk_lt (zk BK270.out)) : gb271 ≠ gb270)); clear BK269; clear BK270; clear HB; have BK269 := n0_; have BK270 := n1_; have HB := n2_; have BK271 := n3_; have GW271 := n4_; have GE271 := n5_; have NB269_271 := n6_; have NB271_269 := n7_; have NB270_271 := n8_; have NB271_270 := n9_; clear n0_ n1_ n2_ n3_ n4_ n5_ n6_ n7_ n8_ n9_; clear hb hbox hg) | ((with_reducible refine gate_dst (N := 9) rfl ?_); refine box_event ?hg (N := 9) ?hd (cs := #[.int .u16 a4_0, .int .u16 a4_1, .int .u16 a4_2, .int .u16 a4_3, .int .u16 a4_4, .int .u16 a4_5]) (t := 64) ?hr ?_; (case hd => rfl); (case hg => rfl); (case hr => first | (go_simp; done) | (go_simp; rfl)); intro gb272 hg w221 hbox hb; have n0_ := Aside0.mk (zb BK269.out hb); have n1_ := Aside0.mk (zb BK270.out hb); have n2_ := Aside0.mk (zb BK271.out hb); have n3_ := Aside0.mk (below_step (by repeat (first | (with_reducible first | exact HB.out | apply below_alloc | apply pw_below_drewN | apply below_drew1 | refine below_set ?_ GE269.out | refine below_set ?_ GE270.out | refine below_set ?_ GE271.out) | exact HB.out)) hb); have n4_ := Aside0.mk (hbox); have n5_ := Aside0.mk ((by rw [hg]; exact (below_size (by repeat (first | (with_reducible first | exact HB.out | apply below_alloc | apply pw_below_drewN | apply below_drew1 | refine below_set ?_ GE269.out | refine below_set ?_ GE270.out | refine below_set ?_ GE271.out) | exact HB.out))) : w.heap.size ≤ gb272)); have n6_ := Aside0.mk ((by rw [hg]; exact (below_size (by repeat (first | (with_reducible first | exact HB.out | apply below_alloc | apply pw_below_drewN | apply below_drew1 | refine below_set ?_ GE269.out | refine below_set ?_ GE270.out | refine below_set ?_ GE271.out) | exact HB.out))) : w.heap.size ≤ gb272)); have n7_ := Aside0.mk ((by rw [hg]; exact Nat.ne_of_lt (blk_lt (zk BK269.out)) : gb269 ≠ gb272)); have n8_ := Aside0.mk ((by rw [hg]; exact Nat.ne_of_gt (blk_lt (zk BK269.out)) : gb272 ≠ gb269)); have n9_ := Aside0.mk ((by rw [hg]; exact Nat.ne_of_lt (blk_lt (zk BK270.out)) : gb270 ≠ gb272)); have n10_ := Aside0.mk ((by rw [hg]; exact Nat.ne_of_gt (blk_lt (zk BK270.out)) : gb272 ≠ gb270)); have n11_ := Aside0.mk ((by rw [hg]; exact Nat.ne_of_lt (blk_lt (zk BK271.out)) : gb271 ≠ gb272)); have n12_ := Aside0.mk ((by rw [hg]; exact Nat.ne_of_gt (blk_lt (zk BK271.out)) : gb272 ≠ gb271)); clear BK269; clear BK270; clear BK271; clear HB; have BK269 := n0_; have BK270 := n1_; have BK271 := n2_; have HB := n3_; have BK272 := n4_; have GW272 := n5_; have GE272 := n6_; have NB269_272 := n7_; have NB272_269 := n8_; have NB270_272 := n9_; have NB272_270 := n10_; have NB271_272 := n11_; have NB272_271 := n12_; clear n0_ n1_ n2_ n3_ n4_ n5_ n6_ n7_ n8_ n9_ n10_ n11_ n12_; clear hb hbox hg) | ((with_reducible refine gate_callee (f := 22) rfl ?_); refine goesL_ (some 18) rfl rfl Try.func22 (by kernel_rfl) rfl #[] rfl (by (try simp only [List.map_toArray, List.map_cons, List.map_nil]); first | done | rfl | (simp only [List.length_drop, List.length_take]; rfl)) ?_; (with_reducible refine (fastilaw28_sane.calls k  true _ A6.out).mono ?_); rintro e w222 ⟨rfl, hb⟩; refine ⟨_, rfl, ?_⟩; have n0_ := Aside0.mk (zb BK269.out hb); have n1_ := Aside0.mk (zb BK270.out hb); have n2_ := Aside0.mk (zb BK271.out hb); have n3_ := Aside0.mk (zb BK272.out hb); have n4_ := Aside0.mk (below_step (by repeat (first | (with_reducible first | exact HB.out | apply below_alloc | apply pw_below_drewN | apply below_drew1 | refine below_set ?_ GE269.out | refine below_set ?_ GE270.out | refine below_set ?_ GE271.out | refine below_set ?_ GE272.out) | exact HB.out)) hb); clear BK269; clear BK270; clear BK271; clear BK272; clear HB; have BK269 := n0_; have BK270 := n1_; have BK271 := n2_; have BK272 := n3_; have HB := n4_; clear n0_ n1_ n2_ n3_ n4_; (try clear hb); (try clear hb2); (try clear hk); (try clear hi); have hnb223 := NB269_270.out; have hnc223 := NB270_269.out; have hnb224 := NB269_271.out; have hnc224 := NB271_269.out; have hnb225 := NB269_272.out; have hnc225 := NB272_269.out; have hcz226_0 : w222.cell? ⟨gb269, 0, none⟩ = some (.string a0_0) := (blk_cell BK269.out 0).trans rfl; have hcz226_1 : w222.cell? ⟨gb269, 1, none⟩ = some (.string a0_1) := (blk_cell BK269.out 1).trans rfl; have hcz226_2 : w222.cell? ⟨gb269, 2, none⟩ = some (.int .i64 a0_2) := (blk_cell BK269.out 2).trans rfl; have hcz226_3 : w222.cell? ⟨gb269, 3, none⟩ = some (.int .i64 a0_3) := (blk_cell BK269.out 3).trans rfl; have hcz226_4 : w222.cell? ⟨gb269, 4, none⟩ = some (.int .i64 a0_4) := (blk_cell BK269.out 4).trans rfl; have hcz226_5 : w222.cell? ⟨gb269, 5, none⟩ = some (.int .i64 a0_5) := (blk_cell BK269.out 5).trans rfl; have hcz226_6 : w222.cell? ⟨gb269, 6, none⟩ = some (.int .i64 a0_6) := (blk_cell BK269.out 6).trans rfl; have hfz226_0 := blk_frozen BK269.out 0; have hfz226_1 := blk_frozen BK269.out 1; have hfz226_2 := blk_frozen BK269.out 2; have hfz226_3 := blk_frozen BK269.out 3; have hfz226_4 := blk_frozen BK269.out 4; have hfz226_5 := blk_frozen BK269.out 5; have hfz226_6 := blk_frozen BK269.out 6; have hnb227 := NB270_271.out; have hnc227 := NB271_270.out; have hnb228 := NB270_272.out; have hnc228 := NB272_270.out; have hcz229_0 : w222.cell? ⟨gb270, 0, none⟩ = some (.int .i64 a1_0) := (blk_cell BK270.out 0).trans rfl; have hcz229_1 : w222.cell? ⟨gb270, 1, none⟩ = some (.int .i64 a1_1) := (blk_cell BK270.out 1).trans rfl; have hfz229_0 := blk_frozen BK270.out 0; have hfz229_1 := blk_frozen BK270.out 1; have hnb230 := NB271_272.out; have hnc230 := NB272_271.out; have hcz231_0 : w222.cell? ⟨gb271, 0, none⟩ = some (.int .i64 a2_0) := (blk_cell BK271.out 0).trans rfl; have hcz231_1 : w222.cell? ⟨gb271, 1, none⟩ = some (.int .i64 a2_1) := (blk_cell BK271.out 1).trans rfl; have hcz231_2 : w222.cell? ⟨gb271, 2, none⟩ = some (.int .i64 a2_2) := (blk_cell BK271.out 2).trans rfl; have hcz231_3 : w222.cell? ⟨gb271, 3, none⟩ = some (.int .i64 a2_3) := (blk_cell BK271.out 3).trans rfl; have hfz231_0 := blk_frozen BK271.out 0; have hfz231_1 := blk_frozen BK271.out 1; have hfz231_2 := blk_frozen BK271.out 2; have hfz231_3 := blk_frozen BK271.out 3) | ((with_reducible refine gate_callee (f := 23) rfl ?_); refine goesL_ (some 25) rfl rfl Try.func23 (by kernel_rfl) rfl #[.agg #[.string a0_0, .string a0_1, .int .i64 a0_2, .int .i64 a0_3, .int .i64 a0_4, .int .i64 a0_5, .int .i64 a0_6], .agg #[.int .i64 a1_0, .int .i64 a1_1], .agg #[.int .i64 a2_0, .int .i64 a2_1, .int .i64 a2_2, .int .i64 a2_3], .int .i64 a3] rfl (by (try simp only [List.map_toArray, List.map_cons, List.map_nil]); first | done | rfl | (simp only [List.length_drop, List.length_take]; rfl)) ?_; (with_reducible refine (turf_Next.calls a0_0 a0_1 a0_2 a0_3 a0_4 a0_5 a0_6 a1_0 a1_1 a2_0 a2_1 a2_2 a2_3 a3 t274 t275 t276 _ A8.out).mono ?_); rintro e w232 ⟨rfl, hb⟩; refine ⟨_, rfl, ?_⟩; have n0_ := Aside0.mk (zb BK269.out hb); have n1_ := Aside0.mk (zb BK270.out hb); have n2_ := Aside0.mk (zb BK271.out hb); have n3_ := Aside0.mk (zb BK272.out hb); have n4_ := Aside0.mk (below_step (by repeat (first | (with_reducible first | exact HB.out | apply below_alloc | apply pw_below_drewN | apply below_drew1 | refine below_set ?_ GE269.out | refine below_set ?_ GE270.out | refine below_set ?_ GE271.out | refine below_set ?_ GE272.out) | exact HB.out)) hb); clear BK269; clear BK270; clear BK271; clear BK272; clear HB; have BK269 := n0_; have BK270 := n1_; have BK271 := n2_; have BK272 := n3_; have HB := n4_; clear n0_ n1_ n2_ n3_ n4_; (try clear hb); (try clear hb2); (try clear hk); (try clear hi)) | ((with_reducible refine gate_dst (N := 11) rfl ?_); refine box_event ?hg (N := 11) ?hd (cs := #[.int .i64 0, .int .i64 0]) (t := 27) ?hr ?_; (case hd => rfl); (case hg => rfl); (case hr => first | (go_simp; done) | (go_simp; rfl)); intro gb277 hg w233 hbox hb; have n0_ := Aside0.mk (zb BK269.out hb); have n1_ := Aside0.mk (zb BK270.out hb); have n2_ := Aside0.mk (zb BK271.out hb); have n3_ := Aside0.mk (zb BK272.out hb); have n4_ := Aside0.mk (below_step (by repeat (first | (with_reducible first | exact HB.out | apply below_alloc | apply pw_below_drewN | apply below_drew1 | refine below_set ?_ GE269.out | refine below_set ?_ GE270.out | refine below_set ?_ GE271.out | refine below_set ?_ GE272.out) | exact HB.out)) hb); have n5_ := Aside0.mk (hbox); have n6_ := Aside0.mk ((by rw [hg]; exact (below_size (by repeat (first | (with_reducible first | exact HB.out | apply below_alloc | apply pw_below_drewN | apply below_drew1 | refine below_set ?_ GE269.out | refine below_set ?_ GE270.out | refine below_set ?_ GE271.out | refine below_set ?_ GE272.out) | exact HB.out))) : w.heap.size ≤ gb277)); have n7_ := Aside0.mk ((by rw [hg]; exact (below_size (by repeat (first | (with_reducible first | exact HB.out | apply below_alloc | apply pw_below_drewN | apply below_drew1 | refine below_set ?_ GE269.out | refine below_set ?_ GE270.out | refine below_set ?_ GE271.out | refine below_set ?_ GE272.out) | exact HB.out))) : w.heap.size ≤ gb277)); have n8_ := Aside0.mk ((by rw [hg]; exact Nat.ne_of_lt (blk_lt (zk BK269.out)) : gb269 ≠ gb277)); have n9_ := Aside0.mk ((by rw [hg]; exact Nat.ne_of_gt (blk_lt (zk BK269.out)) : gb277 ≠ gb269)); have n10_ := Aside0.mk ((by rw [hg]; exact Nat.ne_of_lt (blk_lt (zk BK270.out)) : gb270 ≠ gb277)); have n11_ := Aside0.mk ((by rw [hg]; exact Nat.ne_of_gt (blk_lt (zk BK270.out)) : gb277 ≠ gb270)); have n12_ := Aside0.mk ((by rw [hg]; exact Nat.ne_of_lt (blk_lt (zk BK271.out)) : gb271 ≠ gb277)); have n13_ := Aside0.mk ((by rw [hg]; exact Nat.ne_of_gt (blk_lt (zk BK271.out)) : gb277 ≠ gb271)); have n14_ := Aside0.mk ((by rw [hg]; exact Nat.ne_of_lt (blk_lt (zk BK272.out)) : gb272 ≠ gb277)); have n15_ := Aside0.mk ((by rw [hg]; exact Nat.ne_of_gt (blk_lt (zk BK272.out)) : gb277 ≠ gb272)); clear BK269; clear BK270; clear BK271; clear BK272; clear HB; have BK269 := n0_; have BK270 := n1_; have BK271 := n2_; have BK272 := n3_; have HB := n4_; have BK277 := n5_; have GW277 := n6_; have GE277 := n7_; have NB269_277 := n8_; have NB277_269 := n9_; have NB270_277 := n10_; have NB277_270 := n11_; have NB271_277 := n12_; have NB277_271 := n13_; have NB272_277 := n14_; have NB277_272 := n15_; clear n0_ n1_ n2_ n3_ n4_ n5_ n6_ n7_ n8_ n9_ n10_ n11_ n12_ n13_ n14_ n15_; clear hb hbox hg; have hnb234 := NB277_269.out; have hnc234 := NB269_277.out; have hnb235 := NB277_270.out; have hnc235 := NB270_277.out; have hnb236 := NB277_271.out; have hnc236 := NB271_277.out; have hnb237 := NB277_272.out; have hnc237 := NB272_277.out; have hcz238_0 : w233.cell? ⟨gb277, 0, none⟩ = some (.int .i64 0) := (blk_cell BK277.out 0).trans rfl; have hcz238_1 : w233.cell? ⟨gb277, 1, none⟩ = some (.int .i64 0) := (blk_cell BK277.out 1).trans rfl; have hfz238_0 := blk_frozen BK277.out 0; have hfz238_1 := blk_frozen BK277.out 1))
   go_ret
   exact ⟨by first | rfl | (simp [errW_none, errW_some] <;> rfl) | (simp [*, errW_none, errW_some] <;> rfl), by repeat (first | (with_reducible first | exact HB.out | apply below_alloc | apply pw_below_drewN | apply below_drew1 | refine below_set ?_ GE269.out | refine below_set ?_ GE270.out | refine below_set ?_ GE271.out | refine below_set ?_ GE272.out | refine below_set ?_ GE277.out) | exact HB.out)⟩
 ·replace c7 := Bool.eq_false_iff.mpr c7
  subst c7
  have H1 : (some false) = some r := by rw [if_neg (show ¬ (false = true) by decide)] at H; exact H
  clear H
  have H := H1
  clear H1
  obtain rfl := Option.some.inj H
  go_enter Try.func12, Try.ntmps12
  go_wp2_with (first | ((with_reducible refine gate_dst (N := 5) rfl ?_); refine box_event ?hg (N := 5) ?hd (cs := #[.string a0_0, .string a0_1, .int .i64 a0_2, .int .i64 a0_3, .int .i64 a0_4, .int .i64 a0_5, .int .i64 a0_6]) (t := 25) ?hr ?_; (case hd => rfl); (case hg => rfl); (case hr => first | (go_simp; done) | (go_simp; rfl)); intro gb269 hg w239 hbox hb; have n0_ := Aside0.mk (below_step (by repeat (first | (with_reducible first | exact HB.out | apply below_alloc | apply pw_below_drewN | apply below_drew1) | exact HB.out)) hb); have n1_ := Aside0.mk (hbox); have n2_ := Aside0.mk ((by rw [hg]; exact (below_size (by repeat (first | (with_reducible first | exact HB.out | apply below_alloc | apply pw_below_drewN | apply below_drew1) | exact HB.out))) : w.heap.size ≤ gb269)); have n3_ := Aside0.mk ((by rw [hg]; exact (below_size (by repeat (first | (with_reducible first | exact HB.out | apply below_alloc | apply pw_below_drewN | apply below_drew1) | exact HB.out))) : w.heap.size ≤ gb269)); clear HB; have HB := n0_; have BK269 := n1_; have GW269 := n2_; have GE269 := n3_; clear n0_ n1_ n2_ n3_; clear hb hbox hg) | ((with_reducible refine gate_dst (N := 6) rfl ?_); refine box_event ?hg (N := 6) ?hd (cs := #[.int .i64 a1_0, .int .i64 a1_1]) (t := 27) ?hr ?_; (case hd => rfl); (case hg => rfl); (case hr => first | (go_simp; done) | (go_simp; rfl)); intro gb270 hg w240 hbox hb; have n0_ := Aside0.mk (zb BK269.out hb); have n1_ := Aside0.mk (below_step (by repeat (first | (with_reducible first | exact HB.out | apply below_alloc | apply pw_below_drewN | apply below_drew1 | refine below_set ?_ GE269.out) | exact HB.out)) hb); have n2_ := Aside0.mk (hbox); have n3_ := Aside0.mk ((by rw [hg]; exact (below_size (by repeat (first | (with_reducible first | exact HB.out | apply below_alloc | apply pw_below_drewN | apply below_drew1 | refine below_set ?_ GE269.out) | exact HB.out))) : w.heap.size ≤ gb270)); have n4_ := Aside0.mk ((by rw [hg]; exact (below_size (by repeat (first | (with_reducible first | exact HB.out | apply below_alloc | apply pw_below_drewN | apply below_drew1 | refine below_set ?_ GE269.out) | exact HB.out))) : w.heap.size ≤ gb270)); have n5_ := Aside0.mk ((by rw [hg]; exact Nat.ne_of_lt (blk_lt (zk BK269.out)) : gb269 ≠ gb270)); have n6_ := Aside0.mk ((by rw [hg]; exact Nat.ne_of_gt (blk_lt (zk BK269.out)) : gb270 ≠ gb269)); clear BK269; clear HB; have BK269 := n0_; have HB := n1_; have BK270 := n2_; have GW270 := n3_; have GE270 := n4_; have NB269_270 := n5_; have NB270_269 := n6_; clear n0_ n1_ n2_ n3_ n4_ n5_ n6_; clear hb hbox hg) | ((with_reducible refine gate_dst (N := 7) rfl ?_); refine box_event ?hg (N := 7) ?hd (cs := #[.int .i64 a2_0, .int .i64 a2_1, .int .i64 a2_2, .int .i64 a2_3]) (t := 44) ?hr ?_; (case hd => rfl); (case hg => rfl); (case hr => first | (go_simp; done) | (go_simp; rfl)); intro gb271 hg w241 hbox hb; have n0_ := Aside0.mk (zb BK269.out hb); have n1_ := Aside0.mk (zb BK270.out hb); have n2_ := Aside0.mk (below_step (by repeat (first | (with_reducible first | exact HB.out | apply below_alloc | apply pw_below_drewN | apply below_drew1 | refine below_set ?_ GE269.out | refine below_set ?_ GE270.out) | exact HB.out)) hb); have n3_ := Aside0.mk (hbox); have n4_ := Aside0.mk ((by rw [hg]; exact (below_size (by repeat (first | (with_reducible first | exact HB.out | apply below_alloc | apply pw_below_drewN | apply below_drew1 | refine below_set ?_ GE269.out | refine below_set ?_ GE270.out) | exact HB.out))) : w.heap.size ≤ gb271)); have n5_ := Aside0.mk ((by rw [hg]; exact (below_size (by repeat (first | (with_reducible first | exact HB.out | apply below_alloc | apply pw_below_drewN | apply below_drew1 | refine below_set ?_ GE269.out | refine below_set ?_ GE270.out) | exact HB.out))) : w.heap.size ≤ gb271)); have n6_ := Aside0.mk ((by rw [hg]; exact Nat.ne_of_lt (blk_lt (zk BK269.out)) : gb269 ≠ gb271)); have n7_ := Aside0.mk ((by rw [hg]; exact Nat.ne_of_gt (blk_lt (zk BK269.out)) : gb271 ≠ gb269)); have n8_ := Aside0.mk ((by rw [hg]; exact Nat.ne_of_lt (blk_lt (zk BK270.out)) : gb270 ≠ gb271)); have n9_ := Aside0.mk ((by rw [hg]; exact Nat.ne_of_gt (blk_lt (zk BK270.out)) : gb271 ≠ gb270)); clear BK269; clear BK270; clear HB; have BK269 := n0_; have BK270 := n1_; have HB := n2_; have BK271 := n3_; have GW271 := n4_; have GE271 := n5_; have NB269_271 := n6_; have NB271_269 := n7_; have NB270_271 := n8_; have NB271_270 := n9_; clear n0_ n1_ n2_ n3_ n4_ n5_ n6_ n7_ n8_ n9_; clear hb hbox hg) | ((with_reducible refine gate_dst (N := 9) rfl ?_); refine box_event ?hg (N := 9) ?hd (cs := #[.int .u16 a4_0, .int .u16 a4_1, .int .u16 a4_2, .int .u16 a4_3, .int .u16 a4_4, .int .u16 a4_5]) (t := 64) ?hr ?_; (case hd => rfl); (case hg => rfl); (case hr => first | (go_simp; done) | (go_simp; rfl)); intro gb272 hg w242 hbox hb; have n0_ := Aside0.mk (zb BK269.out hb); have n1_ := Aside0.mk (zb BK270.out hb); have n2_ := Aside0.mk (zb BK271.out hb); have n3_ := Aside0.mk (below_step (by repeat (first | (with_reducible first | exact HB.out | apply below_alloc | apply pw_below_drewN | apply below_drew1 | refine below_set ?_ GE269.out | refine below_set ?_ GE270.out | refine below_set ?_ GE271.out) | exact HB.out)) hb); have n4_ := Aside0.mk (hbox); have n5_ := Aside0.mk ((by rw [hg]; exact (below_size (by repeat (first | (with_reducible first | exact HB.out | apply below_alloc | apply pw_below_drewN | apply below_drew1 | refine below_set ?_ GE269.out | refine below_set ?_ GE270.out | refine below_set ?_ GE271.out) | exact HB.out))) : w.heap.size ≤ gb272)); have n6_ := Aside0.mk ((by rw [hg]; exact (below_size (by repeat (first | (with_reducible first | exact HB.out | apply below_alloc | apply pw_below_drewN | apply below_drew1 | refine below_set ?_ GE269.out | refine below_set ?_ GE270.out | refine below_set ?_ GE271.out) | exact HB.out))) : w.heap.size ≤ gb272)); have n7_ := Aside0.mk ((by rw [hg]; exact Nat.ne_of_lt (blk_lt (zk BK269.out)) : gb269 ≠ gb272)); have n8_ := Aside0.mk ((by rw [hg]; exact Nat.ne_of_gt (blk_lt (zk BK269.out)) : gb272 ≠ gb269)); have n9_ := Aside0.mk ((by rw [hg]; exact Nat.ne_of_lt (blk_lt (zk BK270.out)) : gb270 ≠ gb272)); have n10_ := Aside0.mk ((by rw [hg]; exact Nat.ne_of_gt (blk_lt (zk BK270.out)) : gb272 ≠ gb270)); have n11_ := Aside0.mk ((by rw [hg]; exact Nat.ne_of_lt (blk_lt (zk BK271.out)) : gb271 ≠ gb272)); have n12_ := Aside0.mk ((by rw [hg]; exact Nat.ne_of_gt (blk_lt (zk BK271.out)) : gb272 ≠ gb271)); clear BK269; clear BK270; clear BK271; clear HB; have BK269 := n0_; have BK270 := n1_; have BK271 := n2_; have HB := n3_; have BK272 := n4_; have GW272 := n5_; have GE272 := n6_; have NB269_272 := n7_; have NB272_269 := n8_; have NB270_272 := n9_; have NB272_270 := n10_; have NB271_272 := n11_; have NB272_271 := n12_; clear n0_ n1_ n2_ n3_ n4_ n5_ n6_ n7_ n8_ n9_ n10_ n11_ n12_; clear hb hbox hg) | ((with_reducible refine gate_callee (f := 22) rfl ?_); refine goesL_ (some 18) rfl rfl Try.func22 (by kernel_rfl) rfl #[] rfl (by (try simp only [List.map_toArray, List.map_cons, List.map_nil]); first | done | rfl | (simp only [List.length_drop, List.length_take]; rfl)) ?_; (with_reducible refine (fastilaw28_sane.calls k  false _ A6.out).mono ?_); rintro e w243 ⟨rfl, hb⟩; refine ⟨_, rfl, ?_⟩; have n0_ := Aside0.mk (zb BK269.out hb); have n1_ := Aside0.mk (zb BK270.out hb); have n2_ := Aside0.mk (zb BK271.out hb); have n3_ := Aside0.mk (zb BK272.out hb); have n4_ := Aside0.mk (below_step (by repeat (first | (with_reducible first | exact HB.out | apply below_alloc | apply pw_below_drewN | apply below_drew1 | refine below_set ?_ GE269.out | refine below_set ?_ GE270.out | refine below_set ?_ GE271.out | refine below_set ?_ GE272.out) | exact HB.out)) hb); clear BK269; clear BK270; clear BK271; clear BK272; clear HB; have BK269 := n0_; have BK270 := n1_; have BK271 := n2_; have BK272 := n3_; have HB := n4_; clear n0_ n1_ n2_ n3_ n4_; (try clear hb); (try clear hb2); (try clear hk); (try clear hi)))
  go_ret
  exact ⟨by first | rfl | (simp [errW_none, errW_some] <;> rfl) | (simp [*, errW_none, errW_some] <;> rfl), by repeat (first | (with_reducible first | exact HB.out | apply below_alloc | apply pw_below_drewN | apply below_drew1 | refine below_set ?_ GE269.out | refine below_set ?_ GE270.out | refine below_set ?_ GE271.out | refine below_set ?_ GE272.out) | exact HB.out)⟩

end Go.Proofs.Ytenjkflckkmahaa.Q
