/- Functions of the translation as plain Lean functions, and proofs that the calls do what these say; written by a program of this session round the kit's print. -/
import Derived.Test.YtmeoapalnkibfaaQ0
import Derived.Test.YtmeoapalnkibfaaAidB
import Derived.Test.YtmeoapalnkibfaaQ1
import Derived.Test.YtmeoapalnkibfaaQ2
import Derived.Test.YtmeoapalnkibfaaDCk
import Derived.Test.YtmeoapalnkibfaaDSa
import Derived.Test.YtmeoapalnkibfaaDSy
import Derived.Test.YtmeoapalnkibfaaDWr
namespace Go.Proofs.Ytmeoapalnkibfaa.Q
open Go.RowKit Go.Proofs.YtmeoapalnkibfaaW.PrintWords Go.Proofs.YtmeoapalnkibfaaW.PrintLast Go.Proofs.YtmeoapalnkibfaaW.PrintMore
attribute [local go_sem] max2_int min2_int max_two min_two max_three min_three max_four min_four   -- for this text's walks alone
set_option linter.unusedVariables false
set_option linter.unusedSimpArgs false

/-! ### fastilaw04_DiskTogether: function 8 -/
mutual
def fastilaw04_DiskTogether.j0 : Nat → List (S46) → Bool → List (List Int) → List (S54) → Int → Bool → Option (Bool)
 | 0, _, _, _, _, _, _ => none
 | k + 1, x1, x46, x113000, x113001, x113002, x113003 => if x46 = true then (some true) else (fastilaw04_DiskTogether.l0 k x1 0 0 x113000 x113001 x113002 x113003 x113000 x113001 x113002 x113003 x113000 x113001 x113002 x113003)
def fastilaw04_DiskTogether.l0 : Nat → List (S46) → Int → Int → List (List Int) → List (S54) → Int → Bool → List (List Int) → List (S54) → Int → Bool → List (List Int) → List (S54) → Int → Bool → Option (Bool)
 | 0, _, _, _, _, _, _, _, _, _, _, _, _, _, _, _ => none
 | k + 1, x1, x7, x8, x113000, x113001, x113002, x113003, x117000, x117001, x117002, x117003, x118000, x118001, x118002, x118003 => if x8 < (x1.length : Int) then (fastilaw04_DiskTogether.j2 k x1 x7 x8 (x7 == 0) x113000 x113001 x113002 x113003 x117000 x117001 x117002 x117003 x118000 x118001 x118002 x118003) else (fastilaw04_DiskTogether.j2 k x1 x7 x8 false x113000 x113001 x113002 x113003 x117000 x117001 x117002 x117003 x118000 x118001 x118002 x118003)
def fastilaw04_DiskTogether.j2 : Nat → List (S46) → Int → Int → Bool → List (List Int) → List (S54) → Int → Bool → List (List Int) → List (S54) → Int → Bool → List (List Int) → List (S54) → Int → Bool → Option (Bool)
 | 0, _, _, _, _, _, _, _, _, _, _, _, _, _, _, _, _ => none
 | k + 1, x1, x7, x8, x56, x113000, x113001, x113002, x113003, x117000, x117001, x117002, x117003, x118000, x118001, x118002, x118003 => if x56 = true then (if 0 ≤ x8 then (if x8 < (x1.length : Int) then (if (x113000.length : Int) = 0 then (none) else ((disk_Write.f x117000 x117001 x117002 x117003 (Int.tmod (wrap64 ((rd_T46 x1 x8).f1)) (x113000.length : Int)) (([(rd_T46 x1 x8).f2] : List Int))).bind fun bt123 => (if bt123.2.2.2.2 = 0 then ((disk_Sync.f bt123.1 bt123.2.1 bt123.2.2.1 bt123.2.2.2.1).bind fun bt133 => (fastilaw04_DiskTogether.l0 k x1 bt133.2.2.2.2 (wrap64 (x8 + 1)) x113000 x113001 x113002 x113003 bt133.1 bt133.2.1 bt133.2.2.1 bt133.2.2.2.1 x118000 x118001 x118002 x118003)) else (none)))) else (none)) else (none)) else (fastilaw04_DiskTogether.l1 k x1 x7 0 x113000 x113001 x113002 x113003 x117000 x117001 x117002 x117003 x118000 x118001 x118002 x118003)
def fastilaw04_DiskTogether.l1 : Nat → List (S46) → Int → Int → List (List Int) → List (S54) → Int → Bool → List (List Int) → List (S54) → Int → Bool → List (List Int) → List (S54) → Int → Bool → Option (Bool)
 | 0, _, _, _, _, _, _, _, _, _, _, _, _, _, _, _ => none
 | k + 1, x1, x7, x12, x113000, x113001, x113002, x113003, x117000, x117001, x117002, x117003, x118000, x118001, x118002, x118003 => if x12 < (x1.length : Int) then (if 0 ≤ x12 then (if (x113000.length : Int) = 0 then (none) else ((disk_Write.f x118000 x118001 x118002 x118003 (Int.tmod (wrap64 ((rd_T46 x1 x12).f1)) (x113000.length : Int)) (([(rd_T46 x1 x12).f2] : List Int))).bind fun bt147 => (if bt147.2.2.2.2 = 0 then (fastilaw04_DiskTogether.l1 k x1 x7 (wrap64 (x12 + 1)) x113000 x113001 x113002 x113003 x117000 x117001 x117002 x117003 bt147.1 bt147.2.1 bt147.2.2.1 bt147.2.2.2.1) else (none)))) else (none)) else ((disk_Sync.f x118000 x118001 x118002 x118003).bind fun bt157 => (if x7 = bt157.2.2.2.2 then ((fastiref04_Same.f k x117000 x117001 x117002 x117003 bt157.1 bt157.2.1 bt157.2.2.1 bt157.2.2.2.1).bind fun t166 => (some t166)) else (none)))
end
def fastilaw04_DiskTogether.f (k : Nat) (l0_0 : List (List Int)) (l0_1 : List (S54)) (a0_2 : Int) (a0_3 : Bool) (l1 : List (S46)) : Option (Bool) := (fastilaw04_sane.f).bind fun t113 => (if t113 = true then ((fastiref04_Few.f k l0_0 l0_1 a0_2 a0_3).bind fun t114 => (if t114 = true then (if (l1.length : Int) > 20 then (fastilaw04_DiskTogether.j0 k l1 true l0_0 l0_1 a0_2 a0_3) else (if (l0_1.length : Int) > 0 then (fastilaw04_DiskTogether.j0 k l1 true l0_0 l0_1 a0_2 a0_3) else (if (l0_0.length : Int) = 0 then (fastilaw04_DiskTogether.j0 k l1 true l0_0 l0_1 a0_2 a0_3) else ((disk_Check.f l0_0 l0_1 a0_2 a0_3).bind fun t115 => (if t115 = 0 then (fastilaw04_DiskTogether.j0 k l1 a0_3 l0_0 l0_1 a0_2 a0_3) else (fastilaw04_DiskTogether.j0 k l1 true l0_0 l0_1 a0_2 a0_3)))))) else (fastilaw04_DiskTogether.j0 k l1 true l0_0 l0_1 a0_2 a0_3))) else (none))
set_option maxRecDepth 100000 in
theorem fastilaw04_DiskTogether.mono_l : ∀ k, (∀ y0 y1 y2 y3 y4 y5, LeO (fastilaw04_DiskTogether.j0 k y0 y1 y2 y3 y4 y5) (fastilaw04_DiskTogether.j0 (k + 1) y0 y1 y2 y3 y4 y5)) ∧ (∀ y0 y1 y2 y3 y4 y5 y6 y7 y8 y9 y10 y11 y12 y13 y14, LeO (fastilaw04_DiskTogether.l0 k y0 y1 y2 y3 y4 y5 y6 y7 y8 y9 y10 y11 y12 y13 y14) (fastilaw04_DiskTogether.l0 (k + 1) y0 y1 y2 y3 y4 y5 y6 y7 y8 y9 y10 y11 y12 y13 y14)) ∧ (∀ y0 y1 y2 y3 y4 y5 y6 y7 y8 y9 y10 y11 y12 y13 y14 y15, LeO (fastilaw04_DiskTogether.j2 k y0 y1 y2 y3 y4 y5 y6 y7 y8 y9 y10 y11 y12 y13 y14 y15) (fastilaw04_DiskTogether.j2 (k + 1) y0 y1 y2 y3 y4 y5 y6 y7 y8 y9 y10 y11 y12 y13 y14 y15)) ∧ (∀ y0 y1 y2 y3 y4 y5 y6 y7 y8 y9 y10 y11 y12 y13 y14, LeO (fastilaw04_DiskTogether.l1 k y0 y1 y2 y3 y4 y5 y6 y7 y8 y9 y10 y11 y12 y13 y14) (fastilaw04_DiskTogether.l1 (k + 1) y0 y1 y2 y3 y4 y5 y6 y7 y8 y9 y10 y11 y12 y13 y14))
 | 0 => ⟨fun _ _ _ _ _ _ r h => by simp [fastilaw04_DiskTogether.j0] at h, fun _ _ _ _ _ _ _ _ _ _ _ _ _ _ _ r h => by simp [fastilaw04_DiskTogether.l0] at h, fun _ _ _ _ _ _ _ _ _ _ _ _ _ _ _ _ r h => by simp [fastilaw04_DiskTogether.j2] at h, fun _ _ _ _ _ _ _ _ _ _ _ _ _ _ _ r h => by simp [fastilaw04_DiskTogether.l1] at h⟩
 | k + 1 => by
  obtain ⟨ih0, ih1, ih2, ih3⟩ := fastilaw04_DiskTogether.mono_l k
  refine ⟨?_, ?_, ?_, ?_⟩
  ·intro y0 y1 y2 y3 y4 y5
   unfold fastilaw04_DiskTogether.j0
   repeat' first
   | (with_reducible exact ih0 _ _ _ _ _ _)
   | (with_reducible exact ih1 _ _ _ _ _ _ _ _ _ _ _ _ _ _ _)
   | (with_reducible exact ih2 _ _ _ _ _ _ _ _ _ _ _ _ _ _ _ _)
   | (with_reducible exact ih3 _ _ _ _ _ _ _ _ _ _ _ _ _ _ _)
   | (with_reducible exact fastiref04_Few.mono _ _ _ _ _)
   | (with_reducible exact fastiref04_Same.mono _ _ _ _ _ _ _ _ _)
   | (with_reducible exact LeO.refl _)
   | (with_reducible exact LeO.none _)
   | (with_reducible refine LeO.ite ?_ ?_)
   | (with_reducible refine LeO.bind ?_ (fun _ => ?_))
   | exact ih0 _ _ _ _ _ _
   | exact ih1 _ _ _ _ _ _ _ _ _ _ _ _ _ _ _
   | exact ih2 _ _ _ _ _ _ _ _ _ _ _ _ _ _ _ _
   | exact ih3 _ _ _ _ _ _ _ _ _ _ _ _ _ _ _
   | exact fastiref04_Few.mono _ _ _ _ _
   | exact fastiref04_Same.mono _ _ _ _ _ _ _ _ _
   | exact LeO.none _
   | refine LeO.ite ?_ ?_
   | refine LeO.bind ?_ (fun _ => ?_)
  ·intro y0 y1 y2 y3 y4 y5 y6 y7 y8 y9 y10 y11 y12 y13 y14
   unfold fastilaw04_DiskTogether.l0
   repeat' first
   | (with_reducible exact ih0 _ _ _ _ _ _)
   | (with_reducible exact ih1 _ _ _ _ _ _ _ _ _ _ _ _ _ _ _)
   | (with_reducible exact ih2 _ _ _ _ _ _ _ _ _ _ _ _ _ _ _ _)
   | (with_reducible exact ih3 _ _ _ _ _ _ _ _ _ _ _ _ _ _ _)
   | (with_reducible exact fastiref04_Few.mono _ _ _ _ _)
   | (with_reducible exact fastiref04_Same.mono _ _ _ _ _ _ _ _ _)
   | (with_reducible exact LeO.refl _)
   | (with_reducible exact LeO.none _)
   | (with_reducible refine LeO.ite ?_ ?_)
   | (with_reducible refine LeO.bind ?_ (fun _ => ?_))
   | exact ih0 _ _ _ _ _ _
   | exact ih1 _ _ _ _ _ _ _ _ _ _ _ _ _ _ _
   | exact ih2 _ _ _ _ _ _ _ _ _ _ _ _ _ _ _ _
   | exact ih3 _ _ _ _ _ _ _ _ _ _ _ _ _ _ _
   | exact fastiref04_Few.mono _ _ _ _ _
   | exact fastiref04_Same.mono _ _ _ _ _ _ _ _ _
   | exact LeO.none _
   | refine LeO.ite ?_ ?_
   | refine LeO.bind ?_ (fun _ => ?_)
  ·intro y0 y1 y2 y3 y4 y5 y6 y7 y8 y9 y10 y11 y12 y13 y14 y15
   unfold fastilaw04_DiskTogether.j2
   repeat' first
   | (with_reducible exact ih0 _ _ _ _ _ _)
   | (with_reducible exact ih1 _ _ _ _ _ _ _ _ _ _ _ _ _ _ _)
   | (with_reducible exact ih2 _ _ _ _ _ _ _ _ _ _ _ _ _ _ _ _)
   | (with_reducible exact ih3 _ _ _ _ _ _ _ _ _ _ _ _ _ _ _)
   | (with_reducible exact fastiref04_Few.mono _ _ _ _ _)
   | (with_reducible exact fastiref04_Same.mono _ _ _ _ _ _ _ _ _)
   | (with_reducible exact LeO.refl _)
   | (with_reducible exact LeO.none _)
   | (with_reducible refine LeO.ite ?_ ?_)
   | (with_reducible refine LeO.bind ?_ (fun _ => ?_))
   | exact ih0 _ _ _ _ _ _
   | exact ih1 _ _ _ _ _ _ _ _ _ _ _ _ _ _ _
   | exact ih2 _ _ _ _ _ _ _ _ _ _ _ _ _ _ _ _
   | exact ih3 _ _ _ _ _ _ _ _ _ _ _ _ _ _ _
   | exact fastiref04_Few.mono _ _ _ _ _
   | exact fastiref04_Same.mono _ _ _ _ _ _ _ _ _
   | exact LeO.none _
   | refine LeO.ite ?_ ?_
   | refine LeO.bind ?_ (fun _ => ?_)
  ·intro y0 y1 y2 y3 y4 y5 y6 y7 y8 y9 y10 y11 y12 y13 y14
   unfold fastilaw04_DiskTogether.l1
   repeat' first
   | (with_reducible exact ih0 _ _ _ _ _ _)
   | (with_reducible exact ih1 _ _ _ _ _ _ _ _ _ _ _ _ _ _ _)
   | (with_reducible exact ih2 _ _ _ _ _ _ _ _ _ _ _ _ _ _ _ _)
   | (with_reducible exact ih3 _ _ _ _ _ _ _ _ _ _ _ _ _ _ _)
   | (with_reducible exact fastiref04_Few.mono _ _ _ _ _)
   | (with_reducible exact fastiref04_Same.mono _ _ _ _ _ _ _ _ _)
   | (with_reducible exact LeO.refl _)
   | (with_reducible exact LeO.none _)
   | (with_reducible refine LeO.ite ?_ ?_)
   | (with_reducible refine LeO.bind ?_ (fun _ => ?_))
   | exact ih0 _ _ _ _ _ _
   | exact ih1 _ _ _ _ _ _ _ _ _ _ _ _ _ _ _
   | exact ih2 _ _ _ _ _ _ _ _ _ _ _ _ _ _ _ _
   | exact ih3 _ _ _ _ _ _ _ _ _ _ _ _ _ _ _
   | exact fastiref04_Few.mono _ _ _ _ _
   | exact fastiref04_Same.mono _ _ _ _ _ _ _ _ _
   | exact LeO.none _
   | refine LeO.ite ?_ ?_
   | refine LeO.bind ?_ (fun _ => ?_)
theorem fastilaw04_DiskTogether.mono : ∀ a0 a1 a2 a3 a4 k, LeO (fastilaw04_DiskTogether.f k a0 a1 a2 a3 a4) (fastilaw04_DiskTogether.f (k + 1) a0 a1 a2 a3 a4) := by
 intro a0 a1 a2 a3 a4 k
 obtain ⟨ih0, ih1, ih2, ih3⟩ := fastilaw04_DiskTogether.mono_l k
 unfold fastilaw04_DiskTogether.f
 repeat' first
   | (with_reducible exact ih0 _ _ _ _ _ _)
   | (with_reducible exact ih1 _ _ _ _ _ _ _ _ _ _ _ _ _ _ _)
   | (with_reducible exact ih2 _ _ _ _ _ _ _ _ _ _ _ _ _ _ _ _)
   | (with_reducible exact ih3 _ _ _ _ _ _ _ _ _ _ _ _ _ _ _)
   | (with_reducible exact fastiref04_Few.mono _ _ _ _ _)
   | (with_reducible exact fastiref04_Same.mono _ _ _ _ _ _ _ _ _)
   | (with_reducible exact LeO.refl _)
   | (with_reducible exact LeO.none _)
   | (with_reducible refine LeO.ite ?_ ?_)
   | (with_reducible refine LeO.bind ?_ (fun _ => ?_))
   | exact ih0 _ _ _ _ _ _
   | exact ih1 _ _ _ _ _ _ _ _ _ _ _ _ _ _ _
   | exact ih2 _ _ _ _ _ _ _ _ _ _ _ _ _ _ _ _
   | exact ih3 _ _ _ _ _ _ _ _ _ _ _ _ _ _ _
   | exact fastiref04_Few.mono _ _ _ _ _
   | exact fastiref04_Same.mono _ _ _ _ _ _ _ _ _
   | exact LeO.none _
   | refine LeO.ite ?_ ?_
   | refine LeO.bind ?_ (fun _ => ?_)
def fastilaw04_DiskTogether.T10 : Bool × List (List Nat × List Nat) := (true, [([], []), ([], []), ([0, 1], [0, 1]), ([2], [2]), ([3], [3]), ([4], [4]), ([], []), ([6], [6]), ([7], [7]), ([5, 8], [5, 8]), ([9, 0, 1, 2, 3, 4, 5, 6, 7, 8, 9], [9])])
def fastilaw04_DiskTogether.B10 : List Nat := [0, 0, 3, 7, 15, 31, 0, 64, 192, 511, 1023]
theorem fastilaw04_DiskTogether.tab10 : rtab .any (opsOf Try.f8 10) = fastilaw04_DiskTogether.T10 := by kernel_rfl
theorem fastilaw04_DiskTogether.bits10 : waitsOk fastilaw04_DiskTogether.T10.2 fastilaw04_DiskTogether.B10 = true := by kernel_rfl
def fastilaw04_DiskTogether.T11 : Bool × List (List Nat × List Nat) := (true, [([], []), ([], []), ([], []), ([], []), ([2, 3], [2, 3]), ([4], [4]), ([5], [5]), ([6], [6]), ([0, 1, 7], [0, 1, 7]), ([8], [8]), ([9], [9]), ([9], [9]), ([], []), ([12, 10, 8, 0, 1, 2, 3, 4, 5, 6, 7, 8, 9, 10, 12], [10, 12]), ([11, 13, 0, 1, 2, 3, 4, 5, 6, 7, 8, 9, 10, 11, 12, 13], [11])])
def fastilaw04_DiskTogether.B11 : List Nat := [0, 0, 0, 0, 12, 28, 60, 124, 255, 511, 1023, 1023, 0, 6143, 16383]
theorem fastilaw04_DiskTogether.tab11 : rtab .any (opsOf Try.f8 11) = fastilaw04_DiskTogether.T11 := by kernel_rfl
theorem fastilaw04_DiskTogether.bits11 : waitsOk fastilaw04_DiskTogether.T11.2 fastilaw04_DiskTogether.B11 = true := by kernel_rfl
def fastilaw04_DiskTogether.T18 : Bool × List (List Nat × List Nat) := (true, [([], []), ([], []), ([], []), ([1, 2], [1, 2]), ([3], [3]), ([4], [4]), ([5], [5]), ([], []), ([7], [7]), ([8], [8]), ([6, 9], [6, 9]), ([], []), ([], []), ([11, 12], [11, 12]), ([13], [13]), ([14], [14]), ([15], [15]), ([0, 10, 16], [0, 10, 16]), ([17], [17]), ([18], [18]), ([18], [18]), ([], []), ([21, 19, 17, 0, 1, 2, 3, 4, 5, 6, 7, 8, 9, 10, 11, 12, 13, 14, 15, 16, 17, 18, 19, 21], [19, 21]), ([20, 22, 0, 1, 2, 3, 4, 5, 6, 7, 8, 9, 10, 11, 12, 13, 14, 15, 16, 17, 18, 19, 20, 21, 22], [20])])
def fastilaw04_DiskTogether.B18 : List Nat := [0, 0, 0, 6, 14, 30, 62, 0, 128, 384, 1022, 0, 0, 6144, 14336, 30720, 63488, 131071, 262143, 524287, 524287, 0, 3145727, 8388607]
theorem fastilaw04_DiskTogether.tab18 : rtab .any (opsOf Try.f8 18) = fastilaw04_DiskTogether.T18 := by kernel_rfl
theorem fastilaw04_DiskTogether.bits18 : waitsOk fastilaw04_DiskTogether.T18.2 fastilaw04_DiskTogether.B18 = true := by kernel_rfl
set_option maxHeartbeats 8000000 in
set_option maxRecDepth 100000 in
theorem fastilaw04_DiskTogether.calls (k : Nat) (P0_0_ : Nat → Prop) (A0_0 : Option Addr) (c0_0 : Nat) (l0_0 : List (List Int)) (P0_1_ : Nat → Prop) (A0_1 : Option Addr) (c0_1 : Nat) (l0_1 : List (S54)) (a0_2 : Int) (a0_3 : Bool) (A1 : Option Addr) (c1 : Nat) (l1 : List (S46)) (r : Bool) (w : World) (hs0_0 : Kd.V (Kd.slice 5 (Kd.int .u8)) 35 w w.heap.size (fun k_ => P0_0_ k_) (.slice A0_0 l0_0.length c0_0) l0_0) (hs0_1 : Kd.V k54 54 w w.heap.size (fun k_ => P0_1_ k_) (.slice A0_1 l0_1.length c0_1) l0_1) (hr1 : Kd.C k46 w A1 l1.length l1) (hc1 : l1.length ≤ c1) (h : fastilaw04_DiskTogether.f k l0_0 l0_1 a0_2 a0_3 l1 = some r) :
  Calls Try.prog 8 #[.agg #[.slice A0_0 l0_0.length c0_0, .slice A0_1 l0_1.length c0_1, .int .i64 a0_2, .bool a0_3], .slice A1 l1.length c1] w fun e w' => e = .returned (.bool r) ∧ Below w.heap.size w w' := by
 have hu25 := Try.underlying25
 have HO0_0 := Aside0.mk (show Kd.V (Kd.slice 5 (Kd.int .u8)) 35 w w.heap.size (fun k_ => ((P0_0_ k_ ∨ P0_1_ k_) ∨ w.heap.size ≤ k_)) (.slice A0_0 l0_0.length c0_0) l0_0 from Kd.V_mono hs0_0 (fun k_ hk => .inl (.inl hk)))
 have HO0_1 := Aside0.mk (show Kd.V k54 54 w w.heap.size (fun k_ => ((P0_0_ k_ ∨ P0_1_ k_) ∨ w.heap.size ≤ k_)) (.slice A0_1 l0_1.length c0_1) l0_1 from Kd.V_mono hs0_1 (fun k_ hk => .inl (.inr hk)))
 have HR1 := Aside0.mk hr1
 have HC1 := Aside0.mk hc1
 clear hr1 hc1
 have HB := Aside0.mk (Below.refl w.heap.size w)
 have H : ((fastilaw04_sane.f).bind fun t113 => (if t113 = true then ((fastiref04_Few.f k l0_0 l0_1 a0_2 a0_3).bind fun t114 => (if t114 = true then (if (l1.length : Int) > 20 then (fastilaw04_DiskTogether.j0 k l1 true l0_0 l0_1 a0_2 a0_3) else (if (l0_1.length : Int) > 0 then (fastilaw04_DiskTogether.j0 k l1 true l0_0 l0_1 a0_2 a0_3) else (if (l0_0.length : Int) = 0 then (fastilaw04_DiskTogether.j0 k l1 true l0_0 l0_1 a0_2 a0_3) else ((disk_Check.f l0_0 l0_1 a0_2 a0_3).bind fun t115 => (if t115 = 0 then (fastilaw04_DiskTogether.j0 k l1 a0_3 l0_0 l0_1 a0_2 a0_3) else (fastilaw04_DiskTogether.j0 k l1 true l0_0 l0_1 a0_2 a0_3)))))) else (fastilaw04_DiskTogether.j0 k l1 true l0_0 l0_1 a0_2 a0_3))) else (none))) = some r := h
 clear h
 replace H := Option.bind_eq_some_iff.mp H
 obtain ⟨t113, A30, H⟩ := H
 replace H : (if t113 = true then ((fastiref04_Few.f k l0_0 l0_1 a0_2 a0_3).bind fun t114 => (if t114 = true then (if (l1.length : Int) > 20 then (fastilaw04_DiskTogether.j0 k l1 true l0_0 l0_1 a0_2 a0_3) else (if (l0_1.length : Int) > 0 then (fastilaw04_DiskTogether.j0 k l1 true l0_0 l0_1 a0_2 a0_3) else (if (l0_0.length : Int) = 0 then (fastilaw04_DiskTogether.j0 k l1 true l0_0 l0_1 a0_2 a0_3) else ((disk_Check.f l0_0 l0_1 a0_2 a0_3).bind fun t115 => (if t115 = 0 then (fastilaw04_DiskTogether.j0 k l1 a0_3 l0_0 l0_1 a0_2 a0_3) else (fastilaw04_DiskTogether.j0 k l1 true l0_0 l0_1 a0_2 a0_3)))))) else (fastilaw04_DiskTogether.j0 k l1 true l0_0 l0_1 a0_2 a0_3))) else (none)) = some r := H
 have A3 := Aside0.mk A30
 clear A30
 by_cases c4 : t113 = true
 ·subst c4
  have H1 : ((fastiref04_Few.f k l0_0 l0_1 a0_2 a0_3).bind fun t114 => (if t114 = true then (if (l1.length : Int) > 20 then (fastilaw04_DiskTogether.j0 k l1 true l0_0 l0_1 a0_2 a0_3) else (if (l0_1.length : Int) > 0 then (fastilaw04_DiskTogether.j0 k l1 true l0_0 l0_1 a0_2 a0_3) else (if (l0_0.length : Int) = 0 then (fastilaw04_DiskTogether.j0 k l1 true l0_0 l0_1 a0_2 a0_3) else ((disk_Check.f l0_0 l0_1 a0_2 a0_3).bind fun t115 => (if t115 = 0 then (fastilaw04_DiskTogether.j0 k l1 a0_3 l0_0 l0_1 a0_2 a0_3) else (fastilaw04_DiskTogether.j0 k l1 true l0_0 l0_1 a0_2 a0_3)))))) else (fastilaw04_DiskTogether.j0 k l1 true l0_0 l0_1 a0_2 a0_3))) = some r := by rw [if_pos rfl] at H; exact H
  clear H
  have H := H1
  clear H1
  have HC5 := Aside0.mk H
  clear H
  go_enter Try.func8, Try.ntmps8
  go_upto_region 3 with (first | ((with_reducible refine gate_dst (N := 2) rfl ?_); (try (refine gate_guard (by rfl) ?_; dsimp only)); refine box_event ?hg (N := 2) ?hd (cs := #[.slice A0_0 l0_0.length c0_0, .slice A0_1 l0_1.length c0_1, .int .i64 a0_2, .bool a0_3]) (t := 25) ?hr ?_; (case hd => rfl); (case hg => rfl); (case hr => first | (go_simp; done) | (go_simp; rfl)); intro gb112 hg w6 hbox hb; replace HO0_0 := Aside0.mk (Kd.V_below (Kd.V_elderB (vmv HO0_0.out) gb112 (Nat.le_of_eq hg.symm)) hb); replace HO0_1 := Aside0.mk (Kd.V_below (Kd.V_elderB (vmv HO0_1.out) gb112 (Nat.le_of_eq hg.symm)) hb); have BK112 := Aside0.mk (hbox); have GW112 := Aside0.mk ((by rw [hg]; exact (below_size (blw HB.out)) : w.heap.size ≤ gb112)); have GE112 := Aside0.mk ((by rw [hg]; exact (below_size (blw HB.out)) : w.heap.size ≤ gb112)); replace HB := Aside0.mk (below_step (blw HB.out) hb); clear hb hbox hg) | ((with_reducible refine gate_callee (f := 10) rfl ?_); refine goesL_ (some 16) rfl rfl Try.func10 (by kernel_rfl) rfl #[] rfl (by (try simp only [List.map_toArray, List.map_cons, List.map_nil]); first | done | rfl | (simp only [List.length_drop, List.length_take]; rfl)) ?_; (with_reducible refine (fastilaw04_sane.calls  true _ A3.out).mono ?_); rintro e w7 ⟨rfl, hb⟩; refine ⟨_, rfl, ?_⟩; replace HO0_0 := Aside0.mk (Kd.V_below (vmv HO0_0.out) hb); replace HO0_1 := Aside0.mk (Kd.V_below (vmv HO0_1.out) hb); replace BK112 := Aside0.mk (zb BK112.out hb); replace HB := Aside0.mk (below_step (blw HB.out) hb); (try clear hb); (try clear hb2); (try clear hk); (try clear hi)))
  (try simp only [Act.put, List.setIfInBounds_toArray, List.set_cons_zero, List.set_cons_succ])
  go_cut [46] (fun v46 wc => ∃ (kq : Nat) (x46_4 : Bool), v46 = .bool x46_4 ∧ Aside0 (fastilaw04_DiskTogether.j0 kq l1 x46_4 l0_0 l0_1 a0_2 a0_3 = some r) ∧ Aside0 (kq ≤ k) ∧ Aside0 (Kd.V (Kd.slice 5 (Kd.int .u8)) 35 wc w.heap.size (fun k_ => ((P0_0_ k_ ∨ P0_1_ k_) ∨ w.heap.size ≤ k_) ∧ k_ ≠ gb112) (.slice A0_0 l0_0.length c0_0) l0_0) ∧ Aside0 (Kd.V k54 54 wc w.heap.size (fun k_ => ((P0_0_ k_ ∨ P0_1_ k_) ∨ w.heap.size ≤ k_) ∧ k_ ≠ gb112) (.slice A0_1 l0_1.length c0_1) l0_1) ∧ Aside0 (wc.heap[gb112]? = some (.cells #[(.slice A0_0 l0_0.length c0_0), (.slice A0_1 l0_1.length c0_1), .int .i64 a0_2, .bool a0_3] 25 (0, 0))) ∧ Aside0 (Below w.heap.size w wc))
  case first =>
   have H := HC5.out
   clear HC5
   replace H := Option.bind_eq_some_iff.mp H
   obtain ⟨t114, A80, H⟩ := H
   replace H : (if t114 = true then (if (l1.length : Int) > 20 then (fastilaw04_DiskTogether.j0 k l1 true l0_0 l0_1 a0_2 a0_3) else (if (l0_1.length : Int) > 0 then (fastilaw04_DiskTogether.j0 k l1 true l0_0 l0_1 a0_2 a0_3) else (if (l0_0.length : Int) = 0 then (fastilaw04_DiskTogether.j0 k l1 true l0_0 l0_1 a0_2 a0_3) else ((disk_Check.f l0_0 l0_1 a0_2 a0_3).bind fun t115 => (if t115 = 0 then (fastilaw04_DiskTogether.j0 k l1 a0_3 l0_0 l0_1 a0_2 a0_3) else (fastilaw04_DiskTogether.j0 k l1 true l0_0 l0_1 a0_2 a0_3)))))) else (fastilaw04_DiskTogether.j0 k l1 true l0_0 l0_1 a0_2 a0_3)) = some r := H
   have A8 := Aside0.mk A80
   clear A80
   by_cases c9 : t114 = true
   ·subst c9
    have H1 : (if (l1.length : Int) > 20 then (fastilaw04_DiskTogether.j0 k l1 true l0_0 l0_1 a0_2 a0_3) else (if (l0_1.length : Int) > 0 then (fastilaw04_DiskTogether.j0 k l1 true l0_0 l0_1 a0_2 a0_3) else (if (l0_0.length : Int) = 0 then (fastilaw04_DiskTogether.j0 k l1 true l0_0 l0_1 a0_2 a0_3) else ((disk_Check.f l0_0 l0_1 a0_2 a0_3).bind fun t115 => (if t115 = 0 then (fastilaw04_DiskTogether.j0 k l1 a0_3 l0_0 l0_1 a0_2 a0_3) else (fastilaw04_DiskTogether.j0 k l1 true l0_0 l0_1 a0_2 a0_3)))))) = some r := by rw [if_pos rfl] at H; exact H
    clear H
    have H := H1
    clear H1
    by_cases c10 : (l1.length : Int) > 20
    ·rw [if_pos c10] at H
     have c10b0 : decide (20 < (l1.length : Int)) = true := decide_eq_true c10
     have c10b1 : decide (20 < l1.length) = true := decide_eq_true (by omega)
     clear c10
     (first | rw [c10b0] | (simp only [i64_w, i32_w]; rw [c10b0]) | skip)
     have H' := Aside0.mk H
     clear H
     have hcz11_0 : w7.cell? ⟨gb112, 0, none⟩ = some (.slice A0_0 l0_0.length c0_0) := bc BK112 0
     have hcz11_1 : w7.cell? ⟨gb112, 1, none⟩ = some (.slice A0_1 l0_1.length c0_1) := bc BK112 1
     have hcz11_2 : w7.cell? ⟨gb112, 2, none⟩ = some (.int .i64 a0_2) := bc BK112 2
     have hcz11_3 : w7.cell? ⟨gb112, 3, none⟩ = some (.bool a0_3) := bc BK112 3
     have hfz11_0 := blk_frozen BK112.out 0
     have hfz11_1 := blk_frozen BK112.out 1
     have hfz11_2 := blk_frozen BK112.out 2
     have hfz11_3 := blk_frozen BK112.out 3
     go_wp2_with (first | ((with_reducible refine gate_callee (f := 11) rfl ?_); refine goesL_ (some 19) rfl rfl Try.func11 (by kernel_rfl) rfl #[.agg #[.slice A0_0 l0_0.length c0_0, .slice A0_1 l0_1.length c0_1, .int .i64 a0_2, .bool a0_3]] rfl (by (try simp only [List.map_toArray, List.map_cons, List.map_nil]); first | done | rfl | (simp only [List.length_drop, List.length_take]; rfl)) ?_; (with_reducible refine (fastiref04_Few.calls k _ _ l0_0 _ _ l0_1 a0_2 a0_3 true _ ?side1 ?side2 ?side3 ?side4 A8.out).mono ?_); (case side1 => repeat (first | exact (Kd.V_reads' HO0_0.out).2.2 | (with_reducible refine Kd.C_alloc ?_ _) | (with_reducible refine Kd.C_drewN ?_ _) | (with_reducible refine Kd.C_drew ?_))); (case side2 => exact (Kd.V_reads' HO0_0.out).2.1); (case side3 => repeat (first | exact (Kd.V_reads' HO0_1.out).2.2 | (with_reducible refine Kd.C_alloc ?_ _) | (with_reducible refine Kd.C_drewN ?_ _) | (with_reducible refine Kd.C_drew ?_))); (case side4 => exact (Kd.V_reads' HO0_1.out).2.1); rintro e w12 ⟨rfl, hb⟩; refine ⟨_, rfl, ?_⟩; replace HO0_0 := Aside0.mk (Kd.V_below (vmv HO0_0.out) hb); replace HO0_1 := Aside0.mk (Kd.V_below (vmv HO0_1.out) hb); replace BK112 := Aside0.mk (zb BK112.out hb); replace HB := Aside0.mk (below_step (blw HB.out) hb); (try clear hb); (try clear hb2); (try clear hk); (try clear hi)))
     go_meet
     case rel => exact ⟨_, (true), (by first | rfl | (simp; done) | (simp [*]; done)), H', ⟨by first | omega | exact Nat.le_refl _⟩, ⟨vmv HO0_0.out⟩, ⟨vmv HO0_1.out⟩, ⟨zk BK112.out⟩, ⟨blw HB.out⟩⟩
    ·rw [if_neg c10] at H
     have c10b0 : decide (20 < (l1.length : Int)) = false := decide_eq_false c10
     have c10b1 : decide (20 < l1.length) = false := decide_eq_false (by omega)
     clear c10
     (first | rw [c10b0] | (simp only [i64_w, i32_w]; rw [c10b0]) | skip)
     by_cases c13 : (l0_1.length : Int) > 0
     ·rw [if_pos c13] at H
      have c13b0 : decide (0 < (l0_1.length : Int)) = true := decide_eq_true c13
      have c13b1 : decide (0 < l0_1.length) = true := decide_eq_true (by omega)
      clear c13
      have H' := Aside0.mk H
      clear H
      have hcz14_0 : w7.cell? ⟨gb112, 0, none⟩ = some (.slice A0_0 l0_0.length c0_0) := bc BK112 0
      have hcz14_1 : w7.cell? ⟨gb112, 1, none⟩ = some (.slice A0_1 l0_1.length c0_1) := bc BK112 1
      have hcz14_2 : w7.cell? ⟨gb112, 2, none⟩ = some (.int .i64 a0_2) := bc BK112 2
      have hcz14_3 : w7.cell? ⟨gb112, 3, none⟩ = some (.bool a0_3) := bc BK112 3
      have hfz14_0 := blk_frozen BK112.out 0
      have hfz14_1 := blk_frozen BK112.out 1
      have hfz14_2 := blk_frozen BK112.out 2
      have hfz14_3 := blk_frozen BK112.out 3
      go_wp2_with (first | ((with_reducible refine gate_callee (f := 11) rfl ?_); refine goesL_ (some 19) rfl rfl Try.func11 (by kernel_rfl) rfl #[.agg #[.slice A0_0 l0_0.length c0_0, .slice A0_1 l0_1.length c0_1, .int .i64 a0_2, .bool a0_3]] rfl (by (try simp only [List.map_toArray, List.map_cons, List.map_nil]); first | done | rfl | (simp only [List.length_drop, List.length_take]; rfl)) ?_; (with_reducible refine (fastiref04_Few.calls k _ _ l0_0 _ _ l0_1 a0_2 a0_3 true _ ?side1 ?side2 ?side3 ?side4 A8.out).mono ?_); (case side1 => repeat (first | exact (Kd.V_reads' HO0_0.out).2.2 | (with_reducible refine Kd.C_alloc ?_ _) | (with_reducible refine Kd.C_drewN ?_ _) | (with_reducible refine Kd.C_drew ?_))); (case side2 => exact (Kd.V_reads' HO0_0.out).2.1); (case side3 => repeat (first | exact (Kd.V_reads' HO0_1.out).2.2 | (with_reducible refine Kd.C_alloc ?_ _) | (with_reducible refine Kd.C_drewN ?_ _) | (with_reducible refine Kd.C_drew ?_))); (case side4 => exact (Kd.V_reads' HO0_1.out).2.1); rintro e w15 ⟨rfl, hb⟩; refine ⟨_, rfl, ?_⟩; replace HO0_0 := Aside0.mk (Kd.V_below (vmv HO0_0.out) hb); replace HO0_1 := Aside0.mk (Kd.V_below (vmv HO0_1.out) hb); replace BK112 := Aside0.mk (zb BK112.out hb); replace HB := Aside0.mk (below_step (blw HB.out) hb); (try clear hb); (try clear hb2); (try clear hk); (try clear hi); have hcz16_0 : w15.cell? ⟨gb112, 0, none⟩ = some (.slice A0_0 l0_0.length c0_0) := bc BK112 0; have hcz16_1 : w15.cell? ⟨gb112, 1, none⟩ = some (.slice A0_1 l0_1.length c0_1) := bc BK112 1; have hcz16_2 : w15.cell? ⟨gb112, 2, none⟩ = some (.int .i64 a0_2) := bc BK112 2; have hcz16_3 : w15.cell? ⟨gb112, 3, none⟩ = some (.bool a0_3) := bc BK112 3; have hfz16_0 := blk_frozen BK112.out 0; have hfz16_1 := blk_frozen BK112.out 1; have hfz16_2 := blk_frozen BK112.out 2; have hfz16_3 := blk_frozen BK112.out 3))
      go_meet
      case rel => exact ⟨_, (true), (by first | rfl | (simp; done) | (simp [*]; done)), H', ⟨by first | omega | exact Nat.le_refl _⟩, ⟨vmv HO0_0.out⟩, ⟨vmv HO0_1.out⟩, ⟨zk BK112.out⟩, ⟨blw HB.out⟩⟩
     ·rw [if_neg c13] at H
      have c13b0 : decide (0 < (l0_1.length : Int)) = false := decide_eq_false c13
      have c13b1 : decide (0 < l0_1.length) = false := decide_eq_false (by omega)
      have c13n : ¬ 0 < l0_1.length := by omega
      clear c13
      by_cases c17 : (l0_0.length : Int) = 0
      ·rw [if_pos c17] at H
       have c17b0 : ((l0_0.length : Int) == 0) = true := beq_iff_eq.mpr c17
       have c17b1 : ((l0_0.length : Int) != 0) = false := bne_eq_false_iff_eq.mpr c17
       clear c17
       have H' := Aside0.mk H
       clear H
       have hcz18_0 : w7.cell? ⟨gb112, 0, none⟩ = some (.slice A0_0 l0_0.length c0_0) := bc BK112 0
       have hcz18_1 : w7.cell? ⟨gb112, 1, none⟩ = some (.slice A0_1 l0_1.length c0_1) := bc BK112 1
       have hcz18_2 : w7.cell? ⟨gb112, 2, none⟩ = some (.int .i64 a0_2) := bc BK112 2
       have hcz18_3 : w7.cell? ⟨gb112, 3, none⟩ = some (.bool a0_3) := bc BK112 3
       have hfz18_0 := blk_frozen BK112.out 0
       have hfz18_1 := blk_frozen BK112.out 1
       have hfz18_2 := blk_frozen BK112.out 2
       have hfz18_3 := blk_frozen BK112.out 3
       go_wp2_with (first | ((with_reducible refine gate_callee (f := 11) rfl ?_); refine goesL_ (some 19) rfl rfl Try.func11 (by kernel_rfl) rfl #[.agg #[.slice A0_0 l0_0.length c0_0, .slice A0_1 l0_1.length c0_1, .int .i64 a0_2, .bool a0_3]] rfl (by (try simp only [List.map_toArray, List.map_cons, List.map_nil]); first | done | rfl | (simp only [List.length_drop, List.length_take]; rfl)) ?_; (with_reducible refine (fastiref04_Few.calls k _ _ l0_0 _ _ l0_1 a0_2 a0_3 true _ ?side1 ?side2 ?side3 ?side4 A8.out).mono ?_); (case side1 => repeat (first | exact (Kd.V_reads' HO0_0.out).2.2 | (with_reducible refine Kd.C_alloc ?_ _) | (with_reducible refine Kd.C_drewN ?_ _) | (with_reducible refine Kd.C_drew ?_))); (case side2 => exact (Kd.V_reads' HO0_0.out).2.1); (case side3 => repeat (first | exact (Kd.V_reads' HO0_1.out).2.2 | (with_reducible refine Kd.C_alloc ?_ _) | (with_reducible refine Kd.C_drewN ?_ _) | (with_reducible refine Kd.C_drew ?_))); (case side4 => exact (Kd.V_reads' HO0_1.out).2.1); rintro e w19 ⟨rfl, hb⟩; refine ⟨_, rfl, ?_⟩; replace HO0_0 := Aside0.mk (Kd.V_below (vmv HO0_0.out) hb); replace HO0_1 := Aside0.mk (Kd.V_below (vmv HO0_1.out) hb); replace BK112 := Aside0.mk (zb BK112.out hb); replace HB := Aside0.mk (below_step (blw HB.out) hb); (try clear hb); (try clear hb2); (try clear hk); (try clear hi); have hcz20_0 : w19.cell? ⟨gb112, 0, none⟩ = some (.slice A0_0 l0_0.length c0_0) := bc BK112 0; have hcz20_1 : w19.cell? ⟨gb112, 1, none⟩ = some (.slice A0_1 l0_1.length c0_1) := bc BK112 1; have hcz20_2 : w19.cell? ⟨gb112, 2, none⟩ = some (.int .i64 a0_2) := bc BK112 2; have hcz20_3 : w19.cell? ⟨gb112, 3, none⟩ = some (.bool a0_3) := bc BK112 3; have hfz20_0 := blk_frozen BK112.out 0; have hfz20_1 := blk_frozen BK112.out 1; have hfz20_2 := blk_frozen BK112.out 2; have hfz20_3 := blk_frozen BK112.out 3))
       go_meet
       case rel => exact ⟨_, (true), (by first | rfl | (simp; done) | (simp [*]; done)), H', ⟨by first | omega | exact Nat.le_refl _⟩, ⟨vmv HO0_0.out⟩, ⟨vmv HO0_1.out⟩, ⟨zk BK112.out⟩, ⟨blw HB.out⟩⟩
      ·rw [if_neg c17] at H
       have c17b0 : ((l0_0.length : Int) == 0) = false := beq_eq_false_iff_ne.mpr c17
       have c17b1 : ((l0_0.length : Int) != 0) = true := bne_iff_ne.mpr c17
       have c17b2 : ¬ (l0_0 = []) := fun h_ => c17 (by rw [h_]; rfl)
       replace H := Option.bind_eq_some_iff.mp H
       obtain ⟨t115, A210, H⟩ := H
       replace H : (if t115 = 0 then (fastilaw04_DiskTogether.j0 k l1 a0_3 l0_0 l0_1 a0_2 a0_3) else (fastilaw04_DiskTogether.j0 k l1 true l0_0 l0_1 a0_2 a0_3)) = some r := H
       have A21 := Aside0.mk A210
       clear A210
       by_cases c22 : t115 = 0
       ·rw [if_pos c22] at H
        have c22b0 : (t115 == 0) = true := beq_iff_eq.mpr c22
        have c22b1 : (t115 != 0) = false := bne_eq_false_iff_eq.mpr c22
        clear c22
        have H' := Aside0.mk H
        clear H
        have hcz23_0 : w7.cell? ⟨gb112, 0, none⟩ = some (.slice A0_0 l0_0.length c0_0) := bc BK112 0
        have hcz23_1 : w7.cell? ⟨gb112, 1, none⟩ = some (.slice A0_1 l0_1.length c0_1) := bc BK112 1
        have hcz23_2 : w7.cell? ⟨gb112, 2, none⟩ = some (.int .i64 a0_2) := bc BK112 2
        have hcz23_3 : w7.cell? ⟨gb112, 3, none⟩ = some (.bool a0_3) := bc BK112 3
        have hfz23_0 := blk_frozen BK112.out 0
        have hfz23_1 := blk_frozen BK112.out 1
        have hfz23_2 := blk_frozen BK112.out 2
        have hfz23_3 := blk_frozen BK112.out 3
        go_wp2_with (first | ((with_reducible refine gate_callee (f := 11) rfl ?_); refine goesL_ (some 19) rfl rfl Try.func11 (by kernel_rfl) rfl #[.agg #[.slice A0_0 l0_0.length c0_0, .slice A0_1 l0_1.length c0_1, .int .i64 a0_2, .bool a0_3]] rfl (by (try simp only [List.map_toArray, List.map_cons, List.map_nil]); first | done | rfl | (simp only [List.length_drop, List.length_take]; rfl)) ?_; (with_reducible refine (fastiref04_Few.calls k _ _ l0_0 _ _ l0_1 a0_2 a0_3 true _ ?side1 ?side2 ?side3 ?side4 A8.out).mono ?_); (case side1 => repeat (first | exact (Kd.V_reads' HO0_0.out).2.2 | (with_reducible refine Kd.C_alloc ?_ _) | (with_reducible refine Kd.C_drewN ?_ _) | (with_reducible refine Kd.C_drew ?_))); (case side2 => exact (Kd.V_reads' HO0_0.out).2.1); (case side3 => repeat (first | exact (Kd.V_reads' HO0_1.out).2.2 | (with_reducible refine Kd.C_alloc ?_ _) | (with_reducible refine Kd.C_drewN ?_ _) | (with_reducible refine Kd.C_drew ?_))); (case side4 => exact (Kd.V_reads' HO0_1.out).2.1); rintro e w24 ⟨rfl, hb⟩; refine ⟨_, rfl, ?_⟩; replace HO0_0 := Aside0.mk (Kd.V_below (vmv HO0_0.out) hb); replace HO0_1 := Aside0.mk (Kd.V_below (vmv HO0_1.out) hb); replace BK112 := Aside0.mk (zb BK112.out hb); replace HB := Aside0.mk (below_step (blw HB.out) hb); (try clear hb); (try clear hb2); (try clear hk); (try clear hi); have hcz25_0 : w24.cell? ⟨gb112, 0, none⟩ = some (.slice A0_0 l0_0.length c0_0) := bc BK112 0; have hcz25_1 : w24.cell? ⟨gb112, 1, none⟩ = some (.slice A0_1 l0_1.length c0_1) := bc BK112 1; have hcz25_2 : w24.cell? ⟨gb112, 2, none⟩ = some (.int .i64 a0_2) := bc BK112 2; have hcz25_3 : w24.cell? ⟨gb112, 3, none⟩ = some (.bool a0_3) := bc BK112 3; have hfz25_0 := blk_frozen BK112.out 0; have hfz25_1 := blk_frozen BK112.out 1; have hfz25_2 := blk_frozen BK112.out 2; have hfz25_3 := blk_frozen BK112.out 3) | (go_at_call 15; (with_reducible refine (disk_Check.calls _ _ l0_0 _ _ l0_1 a0_2 a0_3 t115 _ ?side1 ?side2 ?side3 ?side4 A21.out).mono ?_); (case side1 => repeat (first | exact (Kd.V_reads' HO0_0.out).2.2 | (with_reducible refine Kd.C_alloc ?_ _) | (with_reducible refine Kd.C_drewN ?_ _) | (with_reducible refine Kd.C_drew ?_))); (case side2 => exact (Kd.V_reads' HO0_0.out).2.1); (case side3 => repeat (first | exact (Kd.V_reads' HO0_1.out).2.2 | (with_reducible refine Kd.C_alloc ?_ _) | (with_reducible refine Kd.C_drewN ?_ _) | (with_reducible refine Kd.C_drew ?_))); (case side4 => exact (Kd.V_reads' HO0_1.out).2.1); rintro e w26 ⟨rfl, hb⟩; replace HO0_0 := Aside0.mk (Kd.V_below (vmv HO0_0.out) hb); replace HO0_1 := Aside0.mk (Kd.V_below (vmv HO0_1.out) hb); replace BK112 := Aside0.mk (zb BK112.out hb); replace HB := Aside0.mk (below_step (blw HB.out) hb); (try clear hb); (try clear hb2); (try clear hk); (try clear hi); have hcz27_0 : w26.cell? ⟨gb112, 0, none⟩ = some (.slice A0_0 l0_0.length c0_0) := bc BK112 0; have hcz27_1 : w26.cell? ⟨gb112, 1, none⟩ = some (.slice A0_1 l0_1.length c0_1) := bc BK112 1; have hcz27_2 : w26.cell? ⟨gb112, 2, none⟩ = some (.int .i64 a0_2) := bc BK112 2; have hcz27_3 : w26.cell? ⟨gb112, 3, none⟩ = some (.bool a0_3) := bc BK112 3; have hfz27_0 := blk_frozen BK112.out 0; have hfz27_1 := blk_frozen BK112.out 1; have hfz27_2 := blk_frozen BK112.out 2; have hfz27_3 := blk_frozen BK112.out 3))
        go_meet
        case rel => exact ⟨_, (a0_3), (by first | rfl | (simp; done) | (simp [*]; done)), H', ⟨by first | omega | exact Nat.le_refl _⟩, ⟨vmv HO0_0.out⟩, ⟨vmv HO0_1.out⟩, ⟨zk BK112.out⟩, ⟨blw HB.out⟩⟩
       ·rw [if_neg c22] at H
        have c22b0 : (t115 == 0) = false := beq_eq_false_iff_ne.mpr c22
        have c22b1 : (t115 != 0) = true := bne_iff_ne.mpr c22
        have H' := Aside0.mk H
        clear H
        have hcz28_0 : w7.cell? ⟨gb112, 0, none⟩ = some (.slice A0_0 l0_0.length c0_0) := bc BK112 0
        have hcz28_1 : w7.cell? ⟨gb112, 1, none⟩ = some (.slice A0_1 l0_1.length c0_1) := bc BK112 1
        have hcz28_2 : w7.cell? ⟨gb112, 2, none⟩ = some (.int .i64 a0_2) := bc BK112 2
        have hcz28_3 : w7.cell? ⟨gb112, 3, none⟩ = some (.bool a0_3) := bc BK112 3
        have hfz28_0 := blk_frozen BK112.out 0
        have hfz28_1 := blk_frozen BK112.out 1
        have hfz28_2 := blk_frozen BK112.out 2
        have hfz28_3 := blk_frozen BK112.out 3
        go_wp2_with (first | ((with_reducible refine gate_callee (f := 11) rfl ?_); refine goesL_ (some 19) rfl rfl Try.func11 (by kernel_rfl) rfl #[.agg #[.slice A0_0 l0_0.length c0_0, .slice A0_1 l0_1.length c0_1, .int .i64 a0_2, .bool a0_3]] rfl (by (try simp only [List.map_toArray, List.map_cons, List.map_nil]); first | done | rfl | (simp only [List.length_drop, List.length_take]; rfl)) ?_; (with_reducible refine (fastiref04_Few.calls k _ _ l0_0 _ _ l0_1 a0_2 a0_3 true _ ?side1 ?side2 ?side3 ?side4 A8.out).mono ?_); (case side1 => repeat (first | exact (Kd.V_reads' HO0_0.out).2.2 | (with_reducible refine Kd.C_alloc ?_ _) | (with_reducible refine Kd.C_drewN ?_ _) | (with_reducible refine Kd.C_drew ?_))); (case side2 => exact (Kd.V_reads' HO0_0.out).2.1); (case side3 => repeat (first | exact (Kd.V_reads' HO0_1.out).2.2 | (with_reducible refine Kd.C_alloc ?_ _) | (with_reducible refine Kd.C_drewN ?_ _) | (with_reducible refine Kd.C_drew ?_))); (case side4 => exact (Kd.V_reads' HO0_1.out).2.1); rintro e w29 ⟨rfl, hb⟩; refine ⟨_, rfl, ?_⟩; replace HO0_0 := Aside0.mk (Kd.V_below (vmv HO0_0.out) hb); replace HO0_1 := Aside0.mk (Kd.V_below (vmv HO0_1.out) hb); replace BK112 := Aside0.mk (zb BK112.out hb); replace HB := Aside0.mk (below_step (blw HB.out) hb); (try clear hb); (try clear hb2); (try clear hk); (try clear hi); have hcz30_0 : w29.cell? ⟨gb112, 0, none⟩ = some (.slice A0_0 l0_0.length c0_0) := bc BK112 0; have hcz30_1 : w29.cell? ⟨gb112, 1, none⟩ = some (.slice A0_1 l0_1.length c0_1) := bc BK112 1; have hcz30_2 : w29.cell? ⟨gb112, 2, none⟩ = some (.int .i64 a0_2) := bc BK112 2; have hcz30_3 : w29.cell? ⟨gb112, 3, none⟩ = some (.bool a0_3) := bc BK112 3; have hfz30_0 := blk_frozen BK112.out 0; have hfz30_1 := blk_frozen BK112.out 1; have hfz30_2 := blk_frozen BK112.out 2; have hfz30_3 := blk_frozen BK112.out 3) | (go_at_call 15; (with_reducible refine (disk_Check.calls _ _ l0_0 _ _ l0_1 a0_2 a0_3 t115 _ ?side1 ?side2 ?side3 ?side4 A21.out).mono ?_); (case side1 => repeat (first | exact (Kd.V_reads' HO0_0.out).2.2 | (with_reducible refine Kd.C_alloc ?_ _) | (with_reducible refine Kd.C_drewN ?_ _) | (with_reducible refine Kd.C_drew ?_))); (case side2 => exact (Kd.V_reads' HO0_0.out).2.1); (case side3 => repeat (first | exact (Kd.V_reads' HO0_1.out).2.2 | (with_reducible refine Kd.C_alloc ?_ _) | (with_reducible refine Kd.C_drewN ?_ _) | (with_reducible refine Kd.C_drew ?_))); (case side4 => exact (Kd.V_reads' HO0_1.out).2.1); rintro e w31 ⟨rfl, hb⟩; replace HO0_0 := Aside0.mk (Kd.V_below (vmv HO0_0.out) hb); replace HO0_1 := Aside0.mk (Kd.V_below (vmv HO0_1.out) hb); replace BK112 := Aside0.mk (zb BK112.out hb); replace HB := Aside0.mk (below_step (blw HB.out) hb); (try clear hb); (try clear hb2); (try clear hk); (try clear hi)))
        go_meet
        case rel => exact ⟨_, (true), (by first | rfl | (simp; done) | (simp [*]; done)), H', ⟨by first | omega | exact Nat.le_refl _⟩, ⟨vmv HO0_0.out⟩, ⟨vmv HO0_1.out⟩, ⟨zk BK112.out⟩, ⟨blw HB.out⟩⟩
   ·replace c9 := Bool.eq_false_iff.mpr c9
    subst c9
    have H1 : (fastilaw04_DiskTogether.j0 k l1 true l0_0 l0_1 a0_2 a0_3) = some r := by rw [if_neg (show ¬ (false = true) by decide)] at H; exact H
    clear H
    have H := H1
    clear H1
    have H' := Aside0.mk H
    clear H
    have hcz32_0 : w7.cell? ⟨gb112, 0, none⟩ = some (.slice A0_0 l0_0.length c0_0) := bc BK112 0
    have hcz32_1 : w7.cell? ⟨gb112, 1, none⟩ = some (.slice A0_1 l0_1.length c0_1) := bc BK112 1
    have hcz32_2 : w7.cell? ⟨gb112, 2, none⟩ = some (.int .i64 a0_2) := bc BK112 2
    have hcz32_3 : w7.cell? ⟨gb112, 3, none⟩ = some (.bool a0_3) := bc BK112 3
    have hfz32_0 := blk_frozen BK112.out 0
    have hfz32_1 := blk_frozen BK112.out 1
    have hfz32_2 := blk_frozen BK112.out 2
    have hfz32_3 := blk_frozen BK112.out 3
    go_wp2_with (first | ((with_reducible refine gate_callee (f := 11) rfl ?_); refine goesL_ (some 19) rfl rfl Try.func11 (by kernel_rfl) rfl #[.agg #[.slice A0_0 l0_0.length c0_0, .slice A0_1 l0_1.length c0_1, .int .i64 a0_2, .bool a0_3]] rfl (by (try simp only [List.map_toArray, List.map_cons, List.map_nil]); first | done | rfl | (simp only [List.length_drop, List.length_take]; rfl)) ?_; (with_reducible refine (fastiref04_Few.calls k _ _ l0_0 _ _ l0_1 a0_2 a0_3 false _ ?side1 ?side2 ?side3 ?side4 A8.out).mono ?_); (case side1 => repeat (first | exact (Kd.V_reads' HO0_0.out).2.2 | (with_reducible refine Kd.C_alloc ?_ _) | (with_reducible refine Kd.C_drewN ?_ _) | (with_reducible refine Kd.C_drew ?_))); (case side2 => exact (Kd.V_reads' HO0_0.out).2.1); (case side3 => repeat (first | exact (Kd.V_reads' HO0_1.out).2.2 | (with_reducible refine Kd.C_alloc ?_ _) | (with_reducible refine Kd.C_drewN ?_ _) | (with_reducible refine Kd.C_drew ?_))); (case side4 => exact (Kd.V_reads' HO0_1.out).2.1); rintro e w33 ⟨rfl, hb⟩; refine ⟨_, rfl, ?_⟩; replace HO0_0 := Aside0.mk (Kd.V_below (vmv HO0_0.out) hb); replace HO0_1 := Aside0.mk (Kd.V_below (vmv HO0_1.out) hb); replace BK112 := Aside0.mk (zb BK112.out hb); replace HB := Aside0.mk (below_step (blw HB.out) hb); (try clear hb); (try clear hb2); (try clear hk); (try clear hi)))
    go_meet
    case rel => exact ⟨_, (true), (by first | rfl | (simp; done) | (simp [*]; done)), H', ⟨by first | omega | exact Nat.le_refl _⟩, ⟨vmv HO0_0.out⟩, ⟨vmv HO0_1.out⟩, ⟨zk BK112.out⟩, ⟨blw HB.out⟩⟩
  case rest =>
   clear HC5
   try clear c1
   try clear c2
   try clear p2
   try clear c4
   try clear c8
   try clear c9
   try clear c10
   try clear c10b0
   try clear c10b1
   try clear c11
   try clear c13
   try clear c13b0
   try clear c13b1
   try clear c17
   try clear c17b0
   try clear c17b1
   try clear c17b2
   try clear c22
   try clear c22b0
   try clear c22b1
   try clear hcz11_0
   try clear hcz11_1
   try clear hcz11_2
   try clear hcz11_3
   try clear hcz14_0
   try clear hcz14_1
   try clear hcz14_2
   try clear hcz14_3
   try clear hcz16_0
   try clear hcz16_1
   try clear hcz16_2
   try clear hcz16_3
   try clear hcz18_0
   try clear hcz18_1
   try clear hcz18_2
   try clear hcz18_3
   try clear hcz20_0
   try clear hcz20_1
   try clear hcz20_2
   try clear hcz20_3
   try clear hcz23_0
   try clear hcz23_1
   try clear hcz23_2
   try clear hcz23_3
   try clear hcz25_0
   try clear hcz25_1
   try clear hcz25_2
   try clear hcz25_3
   try clear hcz27_0
   try clear hcz27_1
   try clear hcz27_2
   try clear hcz27_3
   try clear hcz28_0
   try clear hcz28_1
   try clear hcz28_2
   try clear hcz28_3
   try clear hcz30_0
   try clear hcz30_1
   try clear hcz30_2
   try clear hcz30_3
   try clear hcz32_0
   try clear hcz32_1
   try clear hcz32_2
   try clear hcz32_3
   try clear hfz11_0
   try clear hfz11_1
   try clear hfz11_2
   try clear hfz11_3
   try clear hfz14_0
   try clear hfz14_1
   try clear hfz14_2
   try clear hfz14_3
   try clear hfz16_0
   try clear hfz16_1
   try clear hfz16_2
   try clear hfz16_3
   try clear hfz18_0
   try clear hfz18_1
   try clear hfz18_2
   try clear hfz18_3
   try clear hfz20_0
   try clear hfz20_1
   try clear hfz20_2
   try clear hfz20_3
   try clear hfz23_0
   try clear hfz23_1
   try clear hfz23_2
   try clear hfz23_3
   try clear hfz25_0
   try clear hfz25_1
   try clear hfz25_2
   try clear hfz25_3
   try clear hfz27_0
   try clear hfz27_1
   try clear hfz27_2
   try clear hfz27_3
   try clear hfz28_0
   try clear hfz28_1
   try clear hfz28_2
   try clear hfz28_3
   try clear hfz30_0
   try clear hfz30_1
   try clear hfz30_2
   try clear hfz30_3
   try clear hfz32_0
   try clear hfz32_1
   try clear hfz32_2
   try clear hfz32_3
   obtain ⟨kq, x46_4, rfl, HA, HJ4, HO_113000, HO_113001, BK112, HB⟩ := hcut
   cases kq with
   | zero => exact absurd HA.out (by simp [fastilaw04_DiskTogether.j0])
   | succ kj4 =>
    have H := HA.out
    clear HA
    simp only [fastilaw04_DiskTogether.j0] at H
    by_cases c34 : x46_4 = true
    ·subst c34
     have H1 : (some true) = some r := by rw [if_pos rfl] at H; exact H
     clear H
     have H := H1
     clear H1
     obtain rfl := Option.some.inj H
     go_wp2
     go_ret
     exact ⟨by first | rfl | (simp [errW_none, errW_some] <;> rfl) | (simp [*, errW_none, errW_some] <;> rfl), blw HB.out⟩
    ·replace c34 := Bool.eq_false_iff.mpr c34
     subst c34
     have H1 : (fastilaw04_DiskTogether.l0 kj4 l1 0 0 l0_0 l0_1 a0_2 a0_3 l0_0 l0_1 a0_2 a0_3 l0_0 l0_1 a0_2 a0_3) = some r := by rw [if_neg (show ¬ (false = true) by decide)] at H; exact H
     clear H
     have H := H1
     clear H1
     have H' := Aside0.mk H
     clear H
     try go_wp2
     replace HO_113000 := Aside0.mk (Kd.V_drew HO_113000.out)
     replace HO_113001 := Aside0.mk (Kd.V_drew HO_113001.out)
     replace BK112 := Aside0.mk (blk_drew BK112.out)
     replace HB := Aside0.mk (below_drew1 HB.out)
     refine start_ (n := 6) (S := fun w' => w'.cell? ⟨gb112, 0, none⟩ = some (.slice A0_0 l0_0.length c0_0) ∧ w'.cell? ⟨gb112, 1, none⟩ = some (.slice A0_1 l0_1.length c0_1) ∧ w'.cell? ⟨gb112, 2, none⟩ = some (.int .i64 a0_2) ∧ w'.cell? ⟨gb112, 3, none⟩ = some (.bool a0_3)) (ds := []) #[false, false, false, false, false, false] (by kernel_rfl) rfl rfl ⟨bc BK112 0, bc BK112 1, bc BK112 2, bc BK112 3⟩ (fun hHeld => ?_)
     generalize wc.drew = w35 at HO_113000 HO_113001 BK112 HB hHeld ⊢
     refine take_ (i := 0) (N := some 47) (v := ?_) (a' := ?_) #[true, false, false, false, false, false] rfl rfl (by kernel_rfl) (fun _ _ _ h => h) (Or.inl ⟨by rfl, ?_⟩) hHeld ?_ ?_
     rotate_left
     ·rintro w' ⟨s0, s1, s2, s3⟩
      go_simp
      with_reducible rfl
     rotate_left
     ·simp only [Act.put, List.setIfInBounds_toArray, List.set_cons_zero, List.set_cons_succ, i64_w, i32_w]
      rfl
     refine take_ (i := 1) (N := some 48) (v := ?_) (a' := ?_) #[true, true, false, false, false, false] rfl rfl (by kernel_rfl) (fun _ _ _ h => h) (Or.inl ⟨by rfl, ?_⟩) hHeld ?_ ?_
     rotate_left
     ·rintro w' ⟨s0, s1, s2, s3⟩
      go_simp
      with_reducible rfl
     rotate_left
     ·simp only [Act.put, List.setIfInBounds_toArray, List.set_cons_zero, List.set_cons_succ, i64_w, i32_w]
      rfl
     refine join_ (σ := Nat × Nat) 2 #[true, true, true, true, false, false] (fun s_ => [(5, .pointer (some ⟨s_.1, 0, none⟩)), (6, .pointer (some ⟨s_.2, 0, none⟩))]) (fun s_ w' => (w'.cell? ⟨gb112, 0, none⟩ = some (.slice A0_0 l0_0.length c0_0) ∧ w'.cell? ⟨gb112, 1, none⟩ = some (.slice A0_1 l0_1.length c0_1) ∧ w'.cell? ⟨gb112, 2, none⟩ = some (.int .i64 a0_2) ∧ w'.cell? ⟨gb112, 3, none⟩ = some (.bool a0_3)) ∧ (Kd.V (Kd.slice 5 (Kd.int .u8)) 35 w' w.heap.size (fun k_ => ((P0_0_ k_ ∨ P0_1_ k_) ∨ w.heap.size ≤ k_) ∧ k_ ≠ gb112 ∧ k_ ≠ s_.1 ∧ k_ ≠ s_.2) (.slice A0_0 l0_0.length c0_0) l0_0) ∧ (Kd.V k54 54 w' w.heap.size (fun k_ => ((P0_0_ k_ ∨ P0_1_ k_) ∨ w.heap.size ≤ k_) ∧ k_ ≠ gb112 ∧ k_ ≠ s_.1 ∧ k_ ≠ s_.2) (.slice A0_1 l0_1.length c0_1) l0_1) ∧ (w'.heap[gb112]? = some (.cells #[.slice A0_0 l0_0.length c0_0, .slice A0_1 l0_1.length c0_1, .int .i64 a0_2, .bool a0_3] 25 (0, 0))) ∧ (w'.heap[s_.1]? = some (.cells #[.slice none 0 0, .slice none 0 0, .int .i64 0, .bool false] 25 (0, 0))) ∧ (w'.heap[s_.2]? = some (.cells #[.slice none 0 0, .slice none 0 0, .int .i64 0, .bool false] 25 (0, 0))) ∧ (w.heap.size ≤ s_.1) ∧ (w.heap.size ≤ s_.1) ∧ (gb112 ≠ s_.1) ∧ (s_.1 ≠ gb112) ∧ (s_.2 ≠ s_.1) ∧ (s_.1 ≠ s_.2) ∧ (w.heap.size ≤ s_.2) ∧ (w.heap.size ≤ s_.2) ∧ (gb112 ≠ s_.2) ∧ (s_.2 ≠ gb112) ∧ (Below w.heap.size w w')) ?_ ?_
     rotate_left
     ·intro hCont
      refine two_ (i := 2) (j := 3) (Ni := some 5) (Nj := some 6) #[true, true, true, false, false, false] #[true, true, false, true, false, false] rfl rfl rfl rfl (by kernel_rfl) (by decide) (by decide) (fun K hK => ?_) (fun K hK => ?_)
      ·skip
       refine box_step ?hg (N := 5) ?hd (cs := #[.slice none 0 0, .slice none 0 0, .int .i64 0, .bool false]) (t := 25) ?hr ?_; (case hd => rfl); (case hg => rfl); (case hr => first | (go_simp; done) | (go_simp; rfl))
       intro gb116 hg w36 hbox hb
       replace HO_113000 := Aside0.mk (Kd.V_below (Kd.V_elderB (vmv HO_113000.out) gb116 (Nat.le_of_eq hg.symm)) hb)
       replace HO_113001 := Aside0.mk (Kd.V_below (Kd.V_elderB (vmv HO_113001.out) gb116 (Nat.le_of_eq hg.symm)) hb)
       have BK116 := Aside0.mk (hbox)
       have GW116 := Aside0.mk ((by rw [hg]; exact (below_size (blw HB.out)) : w.heap.size ≤ gb116))
       have GE116 := Aside0.mk ((by rw [hg]; exact (below_size (blw HB.out)) : w.heap.size ≤ gb116))
       replace HB := Aside0.mk (below_step (blw HB.out) hb)
       have NB112_116 := Aside0.mk ((by rw [hg]; exact Nat.ne_of_lt (blk_lt (zk BK112.out)) : gb112 ≠ gb116))
       have NB116_112 := Aside0.mk ((by rw [hg]; exact Nat.ne_of_gt (blk_lt (zk BK112.out)) : gb116 ≠ gb112))
       replace BK112 := Aside0.mk (zb BK112.out hb)
       clear hb hbox hg
       refine hK.out _ _ ⟨bc BK112 0, bc BK112 1, bc BK112 2, bc BK112 3⟩ (fun hHeld => ?_)
       clear hK K
       refine norm_ (a' := ?_) ?_ ?_
       rotate_left
       ·show Act.put _ (some 5) _ = _
        simp only [Act.put, List.setIfInBounds_toArray, List.set_cons_zero, List.set_cons_succ, i64_w, i32_w]
        rfl
       refine one_ (i := 3) (N := some 6) #[true, true, true, true, false, false] rfl rfl (by kernel_rfl) (by decide) (fun K hK => ?_)
       refine box_step ?hg (N := 6) ?hd (cs := #[.slice none 0 0, .slice none 0 0, .int .i64 0, .bool false]) (t := 25) ?hr ?_; (case hd => rfl); (case hg => rfl); (case hr => first | (go_simp; done) | (go_simp; rfl))
       intro gb117 hg w37 hbox hb
       replace HO_113000 := Aside0.mk (Kd.V_below (Kd.V_elderB (vmv HO_113000.out) gb117 (Nat.le_of_eq hg.symm)) hb)
       replace HO_113001 := Aside0.mk (Kd.V_below (Kd.V_elderB (vmv HO_113001.out) gb117 (Nat.le_of_eq hg.symm)) hb)
       have BK117 := Aside0.mk (hbox)
       have GW117 := Aside0.mk ((by rw [hg]; exact (below_size (blw HB.out)) : w.heap.size ≤ gb117))
       have GE117 := Aside0.mk ((by rw [hg]; exact (below_size (blw HB.out)) : w.heap.size ≤ gb117))
       replace HB := Aside0.mk (below_step (blw HB.out) hb)
       have NB112_117 := Aside0.mk ((by rw [hg]; exact Nat.ne_of_lt (blk_lt (zk BK112.out)) : gb112 ≠ gb117))
       have NB117_112 := Aside0.mk ((by rw [hg]; exact Nat.ne_of_gt (blk_lt (zk BK112.out)) : gb117 ≠ gb112))
       replace BK112 := Aside0.mk (zb BK112.out hb)
       have NB116_117 := Aside0.mk ((by rw [hg]; exact Nat.ne_of_lt (blk_lt (zk BK116.out)) : gb116 ≠ gb117))
       have NB117_116 := Aside0.mk ((by rw [hg]; exact Nat.ne_of_gt (blk_lt (zk BK116.out)) : gb117 ≠ gb116))
       replace BK116 := Aside0.mk (zb BK116.out hb)
       clear hb hbox hg
       refine hK.out _ _ ⟨bc BK112 0, bc BK112 1, bc BK112 2, bc BK112 3⟩ (fun hHeld => ?_)
       clear hK K
       refine norm_ (a' := ?_) ?_ ?_
       rotate_left
       ·show Act.put _ (some 6) _ = _
        simp only [Act.put, List.setIfInBounds_toArray, List.set_cons_zero, List.set_cons_succ, i64_w, i32_w]
        rfl
       exact normA (hCont (gb116, gb117) _ ⟨hHeld, (vmo HO_113000.out (fun _ hk => ⟨hk.1.1.1, ⟨hk.1.1.2, ⟨hk.1.2, hk.2⟩⟩⟩)), (vmo HO_113001.out (fun _ hk => ⟨hk.1.1.1, ⟨hk.1.1.2, ⟨hk.1.2, hk.2⟩⟩⟩)), (zk BK112.out), (zk BK116.out), (zk BK117.out), GW116.out, GE116.out, NB112_116.out, NB116_112.out, NB117_116.out, NB116_117.out, GW117.out, GE117.out, NB112_117.out, NB117_112.out, (blw HB.out)⟩)
      ·skip
       refine box_step ?hg (N := 6) ?hd (cs := #[.slice none 0 0, .slice none 0 0, .int .i64 0, .bool false]) (t := 25) ?hr ?_; (case hd => rfl); (case hg => rfl); (case hr => first | (go_simp; done) | (go_simp; rfl))
       intro gb117 hg w36 hbox hb
       replace HO_113000 := Aside0.mk (Kd.V_below (Kd.V_elderB (vmv HO_113000.out) gb117 (Nat.le_of_eq hg.symm)) hb)
       replace HO_113001 := Aside0.mk (Kd.V_below (Kd.V_elderB (vmv HO_113001.out) gb117 (Nat.le_of_eq hg.symm)) hb)
       have BK117 := Aside0.mk (hbox)
       have GW117 := Aside0.mk ((by rw [hg]; exact (below_size (blw HB.out)) : w.heap.size ≤ gb117))
       have GE117 := Aside0.mk ((by rw [hg]; exact (below_size (blw HB.out)) : w.heap.size ≤ gb117))
       replace HB := Aside0.mk (below_step (blw HB.out) hb)
       have NB112_117 := Aside0.mk ((by rw [hg]; exact Nat.ne_of_lt (blk_lt (zk BK112.out)) : gb112 ≠ gb117))
       have NB117_112 := Aside0.mk ((by rw [hg]; exact Nat.ne_of_gt (blk_lt (zk BK112.out)) : gb117 ≠ gb112))
       replace BK112 := Aside0.mk (zb BK112.out hb)
       clear hb hbox hg
       refine hK.out _ _ ⟨bc BK112 0, bc BK112 1, bc BK112 2, bc BK112 3⟩ (fun hHeld => ?_)
       clear hK K
       refine norm_ (a' := ?_) ?_ ?_
       rotate_left
       ·show Act.put _ (some 6) _ = _
        simp only [Act.put, List.setIfInBounds_toArray, List.set_cons_zero, List.set_cons_succ, i64_w, i32_w]
        rfl
       refine one_ (i := 2) (N := some 5) #[true, true, true, true, false, false] rfl rfl (by kernel_rfl) (by decide) (fun K hK => ?_)
       refine box_step ?hg (N := 5) ?hd (cs := #[.slice none 0 0, .slice none 0 0, .int .i64 0, .bool false]) (t := 25) ?hr ?_; (case hd => rfl); (case hg => rfl); (case hr => first | (go_simp; done) | (go_simp; rfl))
       intro gb116 hg w37 hbox hb
       replace HO_113000 := Aside0.mk (Kd.V_below (Kd.V_elderB (vmv HO_113000.out) gb116 (Nat.le_of_eq hg.symm)) hb)
       replace HO_113001 := Aside0.mk (Kd.V_below (Kd.V_elderB (vmv HO_113001.out) gb116 (Nat.le_of_eq hg.symm)) hb)
       have BK116 := Aside0.mk (hbox)
       have GW116 := Aside0.mk ((by rw [hg]; exact (below_size (blw HB.out)) : w.heap.size ≤ gb116))
       have GE116 := Aside0.mk ((by rw [hg]; exact (below_size (blw HB.out)) : w.heap.size ≤ gb116))
       replace HB := Aside0.mk (below_step (blw HB.out) hb)
       have NB112_116 := Aside0.mk ((by rw [hg]; exact Nat.ne_of_lt (blk_lt (zk BK112.out)) : gb112 ≠ gb116))
       have NB116_112 := Aside0.mk ((by rw [hg]; exact Nat.ne_of_gt (blk_lt (zk BK112.out)) : gb116 ≠ gb112))
       replace BK112 := Aside0.mk (zb BK112.out hb)
       have NB117_116 := Aside0.mk ((by rw [hg]; exact Nat.ne_of_lt (blk_lt (zk BK117.out)) : gb117 ≠ gb116))
       have NB116_117 := Aside0.mk ((by rw [hg]; exact Nat.ne_of_gt (blk_lt (zk BK117.out)) : gb116 ≠ gb117))
       replace BK117 := Aside0.mk (zb BK117.out hb)
       clear hb hbox hg
       refine hK.out _ _ ⟨bc BK112 0, bc BK112 1, bc BK112 2, bc BK112 3⟩ (fun hHeld => ?_)
       clear hK K
       refine norm_ (a' := ?_) ?_ ?_
       rotate_left
       ·show Act.put _ (some 5) _ = _
        simp only [Act.put, List.setIfInBounds_toArray, List.set_cons_zero, List.set_cons_succ, i64_w, i32_w]
        rfl
       exact normA (hCont (gb116, gb117) _ ⟨hHeld, (vmo HO_113000.out (fun _ hk => ⟨hk.1.1.1, ⟨hk.1.1.2, ⟨hk.2, hk.1.2⟩⟩⟩)), (vmo HO_113001.out (fun _ hk => ⟨hk.1.1.1, ⟨hk.1.1.2, ⟨hk.2, hk.1.2⟩⟩⟩)), (zk BK112.out), (zk BK116.out), (zk BK117.out), GW116.out, GE116.out, NB112_116.out, NB116_112.out, NB117_116.out, NB116_117.out, GW117.out, GE117.out, NB112_117.out, NB117_112.out, (blw HB.out)⟩)
     rintro ⟨gb116, gb117⟩ w38 ⟨hS_, h0_, h1_, h2_, h3_, h4_, h5_, h6_, h7_, h8_, h9_, h10_, h11_, h12_, h13_, h14_, h15_⟩
     have n0_ : Aside0 (Kd.V (Kd.slice 5 (Kd.int .u8)) 35 w38 w.heap.size (fun k_ => ((P0_0_ k_ ∨ P0_1_ k_) ∨ w.heap.size ≤ k_) ∧ k_ ≠ gb112 ∧ k_ ≠ gb116 ∧ k_ ≠ gb117) (.slice A0_0 l0_0.length c0_0) l0_0) := ⟨h0_⟩
     have n1_ : Aside0 (Kd.V k54 54 w38 w.heap.size (fun k_ => ((P0_0_ k_ ∨ P0_1_ k_) ∨ w.heap.size ≤ k_) ∧ k_ ≠ gb112 ∧ k_ ≠ gb116 ∧ k_ ≠ gb117) (.slice A0_1 l0_1.length c0_1) l0_1) := ⟨h1_⟩
     have n2_ : Aside0 (w38.heap[gb112]? = some (.cells #[.slice A0_0 l0_0.length c0_0, .slice A0_1 l0_1.length c0_1, .int .i64 a0_2, .bool a0_3] 25 (0, 0))) := ⟨h2_⟩
     have n3_ : Aside0 (w38.heap[gb116]? = some (.cells #[.slice none 0 0, .slice none 0 0, .int .i64 0, .bool false] 25 (0, 0))) := ⟨h3_⟩
     have n4_ : Aside0 (w38.heap[gb117]? = some (.cells #[.slice none 0 0, .slice none 0 0, .int .i64 0, .bool false] 25 (0, 0))) := ⟨h4_⟩
     have n5_ : Aside0 (w.heap.size ≤ gb116) := ⟨h5_⟩
     have n6_ : Aside0 (w.heap.size ≤ gb116) := ⟨h6_⟩
     have n7_ : Aside0 (gb112 ≠ gb116) := ⟨h7_⟩
     have n8_ : Aside0 (gb116 ≠ gb112) := ⟨h8_⟩
     have n9_ : Aside0 (gb117 ≠ gb116) := ⟨h9_⟩
     have n10_ : Aside0 (gb116 ≠ gb117) := ⟨h10_⟩
     have n11_ : Aside0 (w.heap.size ≤ gb117) := ⟨h11_⟩
     have n12_ : Aside0 (w.heap.size ≤ gb117) := ⟨h12_⟩
     have n13_ : Aside0 (gb112 ≠ gb117) := ⟨h13_⟩
     have n14_ : Aside0 (gb117 ≠ gb112) := ⟨h14_⟩
     have n15_ : Aside0 (Below w.heap.size w w38) := ⟨h15_⟩
     clear HO_113000 HO_113001 BK112 HB h0_ h1_ h2_ h3_ h4_ h5_ h6_ h7_ h8_ h9_ h10_ h11_ h12_ h13_ h14_ h15_
     have HO_113000 := n0_
     have HO_113001 := n1_
     have BK112 := n2_
     have BK116 := n3_
     have BK117 := n4_
     have GW116 := n5_
     have GE116 := n6_
     have NB112_116 := n7_
     have NB116_112 := n8_
     have NB117_116 := n9_
     have NB116_117 := n10_
     have GW117 := n11_
     have GE117 := n12_
     have NB112_117 := n13_
     have NB117_112 := n14_
     have HB := n15_
     clear n0_ n1_ n2_ n3_ n4_ n5_ n6_ n7_ n8_ n9_ n10_ n11_ n12_ n13_ n14_ n15_
     have hHeld : w38.cell? ⟨gb112, 0, none⟩ = some (.slice A0_0 l0_0.length c0_0) ∧ w38.cell? ⟨gb112, 1, none⟩ = some (.slice A0_1 l0_1.length c0_1) ∧ w38.cell? ⟨gb112, 2, none⟩ = some (.int .i64 a0_2) ∧ w38.cell? ⟨gb112, 3, none⟩ = some (.bool a0_3) := hS_
     refine norm_ (a' := ?_) ?_ ?_
     rotate_left
     ·simp only [putAll, Act.put, List.setIfInBounds_toArray, List.set_cons_zero, List.set_cons_succ]
      rfl
     refine one_ (i := 4) (N := none) #[true, true, true, true, true, false] rfl rfl (by kernel_rfl) (by decide) (fun K hK => ?_)
     have hs39 : w38.cell? ⟨gb116, 0, none⟩ = some (.slice none 0 0) := bc BK116 0
     have hfs39 := blk_frozen BK116.out 0
     have hns39_0 := NB112_116.out
     have hns39_2 := NB117_116.out
     have hms39_0 := NB116_112.out
     have hms39_2 := NB116_117.out
     have hs40 : w38.cell? ⟨gb116, 1, none⟩ = some (.slice none 0 0) := bc BK116 1
     have hfs40 := blk_frozen BK116.out 1
     have hns40_0 := NB112_116.out
     have hns40_2 := NB117_116.out
     have hms40_0 := NB116_112.out
     have hms40_2 := NB116_117.out
     have hs41 : w38.cell? ⟨gb116, 2, none⟩ = some (.int .i64 0) := bc BK116 2
     have hfs41 := blk_frozen BK116.out 2
     have hns41_0 := NB112_116.out
     have hns41_2 := NB117_116.out
     have hms41_0 := NB116_112.out
     have hms41_2 := NB116_117.out
     have hs42 : w38.cell? ⟨gb116, 3, none⟩ = some (.bool false) := bc BK116 3
     have hfs42 := blk_frozen BK116.out 3
     have hns42_0 := NB112_116.out
     have hns42_2 := NB117_116.out
     have hms42_0 := NB116_112.out
     have hms42_2 := NB116_117.out
     refine skip_ (w1 := ?_) (by rfl) rfl ?_ ?_
     rotate_left
     ·go_simp
      rfl
     refine hK.out _ _ ⟨(cf hHeld.1), (cf hHeld.2.1), (cf hHeld.2.2.1), (cf hHeld.2.2.2)⟩ (fun hHeld => ?_)
     clear hK K
     refine one_ (i := 5) (N := none) #[true, true, true, true, true, true] rfl rfl (by kernel_rfl) (by decide) (fun K hK => ?_)
     have hs43 : w38.cell? ⟨gb117, 0, none⟩ = some (.slice none 0 0) := bc BK117 0
     have hfs43 := blk_frozen BK117.out 0
     have hns43_0 := NB112_117.out
     have hns43_1 := NB116_117.out
     have hms43_0 := NB117_112.out
     have hms43_1 := NB117_116.out
     have hs44 : w38.cell? ⟨gb117, 1, none⟩ = some (.slice none 0 0) := bc BK117 1
     have hfs44 := blk_frozen BK117.out 1
     have hns44_0 := NB112_117.out
     have hns44_1 := NB116_117.out
     have hms44_0 := NB117_112.out
     have hms44_1 := NB117_116.out
     have hs45 : w38.cell? ⟨gb117, 2, none⟩ = some (.int .i64 0) := bc BK117 2
     have hfs45 := blk_frozen BK117.out 2
     have hns45_0 := NB112_117.out
     have hns45_1 := NB116_117.out
     have hms45_0 := NB117_112.out
     have hms45_1 := NB117_116.out
     have hs46 : w38.cell? ⟨gb117, 3, none⟩ = some (.bool false) := bc BK117 3
     have hfs46 := blk_frozen BK117.out 3
     have hns46_0 := NB112_117.out
     have hns46_1 := NB116_117.out
     have hms46_0 := NB117_112.out
     have hms46_1 := NB117_116.out
     refine skip_ (w1 := ?_) (by rfl) rfl ?_ ?_
     rotate_left
     ·go_simp
      rfl
     refine hK.out _ _ ⟨(cf hHeld.1), (cf hHeld.2.1), (cf hHeld.2.2.1), (cf hHeld.2.2.2)⟩ (fun hHeld => ?_)
     clear hK K
     refine done_ (by kernel_rfl) ?_
     try go_wp2
     go_loopg [7, 8] kj4 (fun kq v7 v8 w' => ∃ (x7_2 : Int) (x8_2 : Int) (x117000_2 : List (List Int)) (x117001_2 : List (S54)) (x117002_2 : Int) (x117003_2 : Bool) (u117000 : Value) (u117001 : Value), v7 = .int .i64 x7_2 ∧ v8 = .int .i64 x8_2 ∧ Aside0 (fastilaw04_DiskTogether.l0 kq l1 x7_2 x8_2 l0_0 l0_1 a0_2 a0_3 x117000_2 x117001_2 x117002_2 x117003_2 l0_0 l0_1 a0_2 a0_3 = some r) ∧ Aside0 (kq ≤ kj4) ∧ Aside0 (Kd.V (Kd.slice 5 (Kd.int .u8)) 35 w' w.heap.size (fun k_ => ((P0_0_ k_ ∨ P0_1_ k_) ∨ w.heap.size ≤ k_) ∧ k_ ≠ gb112 ∧ k_ ≠ gb116 ∧ k_ ≠ gb117) (.slice A0_0 l0_0.length c0_0) l0_0) ∧ Aside0 (Kd.V k54 54 w' w.heap.size (fun k_ => ((P0_0_ k_ ∨ P0_1_ k_) ∨ w.heap.size ≤ k_) ∧ k_ ≠ gb112 ∧ k_ ≠ gb116 ∧ k_ ≠ gb117) (.slice A0_1 l0_1.length c0_1) l0_1) ∧ Aside0 (Kd.V (Kd.slice 5 (Kd.int .u8)) 35 w' w.heap.size (fun k_ => ((P0_0_ k_ ∨ P0_1_ k_) ∨ w.heap.size ≤ k_) ∧ k_ ≠ gb112 ∧ k_ ≠ gb116 ∧ k_ ≠ gb117) u117000 x117000_2) ∧ Aside0 (Kd.V k54 54 w' w.heap.size (fun k_ => ((P0_0_ k_ ∨ P0_1_ k_) ∨ w.heap.size ≤ k_) ∧ k_ ≠ gb112 ∧ k_ ≠ gb116 ∧ k_ ≠ gb117) u117001 x117001_2) ∧ Aside0 (Kd.V (Kd.slice 5 (Kd.int .u8)) 35 w' w.heap.size (fun k_ => ((P0_0_ k_ ∨ P0_1_ k_) ∨ w.heap.size ≤ k_) ∧ k_ ≠ gb112 ∧ k_ ≠ gb116 ∧ k_ ≠ gb117) (.slice A0_0 l0_0.length c0_0) l0_0) ∧ Aside0 (Kd.V k54 54 w' w.heap.size (fun k_ => ((P0_0_ k_ ∨ P0_1_ k_) ∨ w.heap.size ≤ k_) ∧ k_ ≠ gb112 ∧ k_ ≠ gb116 ∧ k_ ≠ gb117) (.slice A0_1 l0_1.length c0_1) l0_1) ∧ Aside0 (w'.heap[gb112]? = some (.cells #[(.slice A0_0 l0_0.length c0_0), (.slice A0_1 l0_1.length c0_1), .int .i64 a0_2, .bool a0_3] 25 (0, 0))) ∧ Aside0 (w'.heap[gb116]? = some (.cells #[u117000, u117001, .int .i64 x117002_2, .bool x117003_2] 25 (0, 0))) ∧ Aside0 (w'.heap[gb117]? = some (.cells #[(.slice A0_0 l0_0.length c0_0), (.slice A0_1 l0_1.length c0_1), .int .i64 a0_2, .bool a0_3] 25 (0, 0))) ∧ Aside0 (Below w.heap.size w w'))
     case atStart => exact ⟨(0), (0), (l0_0), (l0_1), (a0_2), (a0_3), (.slice A0_0 l0_0.length c0_0), (.slice A0_1 l0_1.length c0_1), (by first | rfl | (simp; done) | (simp [*]; done)), (by first | rfl | (simp; done) | (simp [*]; done)), H', ⟨Nat.le_refl _⟩, ⟨by (with_reducible repeat (first | apply Kd.V_alloc | apply Kd.V_drewN | apply Kd.V_drew)); exact Kd.V_mono (Kd.V_far (p := ⟨gb117, 3, none⟩) (Kd.V_far (p := ⟨gb117, 2, none⟩) (Kd.V_far (p := ⟨gb117, 1, none⟩) (Kd.V_far (p := ⟨gb117, 0, none⟩) (Kd.V_far (p := ⟨gb116, 3, none⟩) (Kd.V_far (p := ⟨gb116, 2, none⟩) (Kd.V_far (p := ⟨gb116, 1, none⟩) (Kd.V_far (p := ⟨gb116, 0, none⟩) (Kd.V_mono (Kd.V_mono HO_113000.out (fun k_ hk => (⟨hk, hk.2.2.1⟩ : _ ∧ k_ ≠ gb116))) (fun k_ hk => (⟨hk, hk.1.2.2.2⟩ : _ ∧ k_ ≠ gb117))) (fun _ hk => hk.1.2) (.slice A0_0 l0_0.length c0_0)) (fun _ hk => hk.1.2) (.slice A0_1 l0_1.length c0_1)) (fun _ hk => hk.1.2) (.int .i64 a0_2)) (fun _ hk => hk.1.2) (.bool a0_3)) (fun _ hk => hk.2) (.slice A0_0 l0_0.length c0_0)) (fun _ hk => hk.2) (.slice A0_1 l0_1.length c0_1)) (fun _ hk => hk.2) (.int .i64 a0_2)) (fun _ hk => hk.2) (.bool a0_3)) (fun _ hk => ⟨hk.1.1.1, ⟨hk.1.1.2.1, ⟨hk.1.1.2.2.1, hk.1.1.2.2.2⟩⟩⟩)⟩, ⟨by (with_reducible repeat (first | apply Kd.V_alloc | apply Kd.V_drewN | apply Kd.V_drew)); exact Kd.V_mono (Kd.V_far (p := ⟨gb117, 3, none⟩) (Kd.V_far (p := ⟨gb117, 2, none⟩) (Kd.V_far (p := ⟨gb117, 1, none⟩) (Kd.V_far (p := ⟨gb117, 0, none⟩) (Kd.V_far (p := ⟨gb116, 3, none⟩) (Kd.V_far (p := ⟨gb116, 2, none⟩) (Kd.V_far (p := ⟨gb116, 1, none⟩) (Kd.V_far (p := ⟨gb116, 0, none⟩) (Kd.V_mono (Kd.V_mono HO_113001.out (fun k_ hk => (⟨hk, hk.2.2.1⟩ : _ ∧ k_ ≠ gb116))) (fun k_ hk => (⟨hk, hk.1.2.2.2⟩ : _ ∧ k_ ≠ gb117))) (fun _ hk => hk.1.2) (.slice A0_0 l0_0.length c0_0)) (fun _ hk => hk.1.2) (.slice A0_1 l0_1.length c0_1)) (fun _ hk => hk.1.2) (.int .i64 a0_2)) (fun _ hk => hk.1.2) (.bool a0_3)) (fun _ hk => hk.2) (.slice A0_0 l0_0.length c0_0)) (fun _ hk => hk.2) (.slice A0_1 l0_1.length c0_1)) (fun _ hk => hk.2) (.int .i64 a0_2)) (fun _ hk => hk.2) (.bool a0_3)) (fun _ hk => ⟨hk.1.1.1, ⟨hk.1.1.2.1, ⟨hk.1.1.2.2.1, hk.1.1.2.2.2⟩⟩⟩)⟩, ⟨by (with_reducible repeat (first | apply Kd.V_alloc | apply Kd.V_drewN | apply Kd.V_drew)); exact Kd.V_mono (Kd.V_far (p := ⟨gb117, 3, none⟩) (Kd.V_far (p := ⟨gb117, 2, none⟩) (Kd.V_far (p := ⟨gb117, 1, none⟩) (Kd.V_far (p := ⟨gb117, 0, none⟩) (Kd.V_far (p := ⟨gb116, 3, none⟩) (Kd.V_far (p := ⟨gb116, 2, none⟩) (Kd.V_far (p := ⟨gb116, 1, none⟩) (Kd.V_far (p := ⟨gb116, 0, none⟩) (Kd.V_mono (Kd.V_mono HO_113000.out (fun k_ hk => (⟨hk, hk.2.2.1⟩ : _ ∧ k_ ≠ gb116))) (fun k_ hk => (⟨hk, hk.1.2.2.2⟩ : _ ∧ k_ ≠ gb117))) (fun _ hk => hk.1.2) (.slice A0_0 l0_0.length c0_0)) (fun _ hk => hk.1.2) (.slice A0_1 l0_1.length c0_1)) (fun _ hk => hk.1.2) (.int .i64 a0_2)) (fun _ hk => hk.1.2) (.bool a0_3)) (fun _ hk => hk.2) (.slice A0_0 l0_0.length c0_0)) (fun _ hk => hk.2) (.slice A0_1 l0_1.length c0_1)) (fun _ hk => hk.2) (.int .i64 a0_2)) (fun _ hk => hk.2) (.bool a0_3)) (fun _ hk => ⟨hk.1.1.1, ⟨hk.1.1.2.1, ⟨hk.1.1.2.2.1, hk.1.1.2.2.2⟩⟩⟩)⟩, ⟨by (with_reducible repeat (first | apply Kd.V_alloc | apply Kd.V_drewN | apply Kd.V_drew)); exact Kd.V_mono (Kd.V_far (p := ⟨gb117, 3, none⟩) (Kd.V_far (p := ⟨gb117, 2, none⟩) (Kd.V_far (p := ⟨gb117, 1, none⟩) (Kd.V_far (p := ⟨gb117, 0, none⟩) (Kd.V_far (p := ⟨gb116, 3, none⟩) (Kd.V_far (p := ⟨gb116, 2, none⟩) (Kd.V_far (p := ⟨gb116, 1, none⟩) (Kd.V_far (p := ⟨gb116, 0, none⟩) (Kd.V_mono (Kd.V_mono HO_113001.out (fun k_ hk => (⟨hk, hk.2.2.1⟩ : _ ∧ k_ ≠ gb116))) (fun k_ hk => (⟨hk, hk.1.2.2.2⟩ : _ ∧ k_ ≠ gb117))) (fun _ hk => hk.1.2) (.slice A0_0 l0_0.length c0_0)) (fun _ hk => hk.1.2) (.slice A0_1 l0_1.length c0_1)) (fun _ hk => hk.1.2) (.int .i64 a0_2)) (fun _ hk => hk.1.2) (.bool a0_3)) (fun _ hk => hk.2) (.slice A0_0 l0_0.length c0_0)) (fun _ hk => hk.2) (.slice A0_1 l0_1.length c0_1)) (fun _ hk => hk.2) (.int .i64 a0_2)) (fun _ hk => hk.2) (.bool a0_3)) (fun _ hk => ⟨hk.1.1.1, ⟨hk.1.1.2.1, ⟨hk.1.1.2.2.1, hk.1.1.2.2.2⟩⟩⟩)⟩, ⟨by (with_reducible repeat (first | apply Kd.V_alloc | apply Kd.V_drewN | apply Kd.V_drew)); exact Kd.V_mono (Kd.V_far (p := ⟨gb117, 3, none⟩) (Kd.V_far (p := ⟨gb117, 2, none⟩) (Kd.V_far (p := ⟨gb117, 1, none⟩) (Kd.V_far (p := ⟨gb117, 0, none⟩) (Kd.V_far (p := ⟨gb116, 3, none⟩) (Kd.V_far (p := ⟨gb116, 2, none⟩) (Kd.V_far (p := ⟨gb116, 1, none⟩) (Kd.V_far (p := ⟨gb116, 0, none⟩) (Kd.V_mono (Kd.V_mono HO_113000.out (fun k_ hk => (⟨hk, hk.2.2.1⟩ : _ ∧ k_ ≠ gb116))) (fun k_ hk => (⟨hk, hk.1.2.2.2⟩ : _ ∧ k_ ≠ gb117))) (fun _ hk => hk.1.2) (.slice A0_0 l0_0.length c0_0)) (fun _ hk => hk.1.2) (.slice A0_1 l0_1.length c0_1)) (fun _ hk => hk.1.2) (.int .i64 a0_2)) (fun _ hk => hk.1.2) (.bool a0_3)) (fun _ hk => hk.2) (.slice A0_0 l0_0.length c0_0)) (fun _ hk => hk.2) (.slice A0_1 l0_1.length c0_1)) (fun _ hk => hk.2) (.int .i64 a0_2)) (fun _ hk => hk.2) (.bool a0_3)) (fun _ hk => ⟨hk.1.1.1, ⟨hk.1.1.2.1, ⟨hk.1.1.2.2.1, hk.1.1.2.2.2⟩⟩⟩)⟩, ⟨by (with_reducible repeat (first | apply Kd.V_alloc | apply Kd.V_drewN | apply Kd.V_drew)); exact Kd.V_mono (Kd.V_far (p := ⟨gb117, 3, none⟩) (Kd.V_far (p := ⟨gb117, 2, none⟩) (Kd.V_far (p := ⟨gb117, 1, none⟩) (Kd.V_far (p := ⟨gb117, 0, none⟩) (Kd.V_far (p := ⟨gb116, 3, none⟩) (Kd.V_far (p := ⟨gb116, 2, none⟩) (Kd.V_far (p := ⟨gb116, 1, none⟩) (Kd.V_far (p := ⟨gb116, 0, none⟩) (Kd.V_mono (Kd.V_mono HO_113001.out (fun k_ hk => (⟨hk, hk.2.2.1⟩ : _ ∧ k_ ≠ gb116))) (fun k_ hk => (⟨hk, hk.1.2.2.2⟩ : _ ∧ k_ ≠ gb117))) (fun _ hk => hk.1.2) (.slice A0_0 l0_0.length c0_0)) (fun _ hk => hk.1.2) (.slice A0_1 l0_1.length c0_1)) (fun _ hk => hk.1.2) (.int .i64 a0_2)) (fun _ hk => hk.1.2) (.bool a0_3)) (fun _ hk => hk.2) (.slice A0_0 l0_0.length c0_0)) (fun _ hk => hk.2) (.slice A0_1 l0_1.length c0_1)) (fun _ hk => hk.2) (.int .i64 a0_2)) (fun _ hk => hk.2) (.bool a0_3)) (fun _ hk => ⟨hk.1.1.1, ⟨hk.1.1.2.1, ⟨hk.1.1.2.2.1, hk.1.1.2.2.2⟩⟩⟩)⟩, ⟨zf BK112.out⟩, ⟨by (with_reducible repeat (first | refine blk_drewN ?_ _ | refine blk_drew ?_ | refine blk_alloc ?_ _)); refine blk_far ?_ NB116_117.out _; (with_reducible repeat (first | refine blk_drewN ?_ _ | refine blk_drew ?_ | refine blk_alloc ?_ _)); refine blk_far ?_ NB116_117.out _; (with_reducible repeat (first | refine blk_drewN ?_ _ | refine blk_drew ?_ | refine blk_alloc ?_ _)); refine blk_far ?_ NB116_117.out _; (with_reducible repeat (first | refine blk_drewN ?_ _ | refine blk_drew ?_ | refine blk_alloc ?_ _)); refine blk_far ?_ NB116_117.out _; (with_reducible repeat (first | refine blk_drewN ?_ _ | refine blk_drew ?_ | refine blk_alloc ?_ _)); refine blk_put (cs := #[.slice A0_0 l0_0.length c0_0, .slice A0_1 l0_1.length c0_1, .int .i64 a0_2, .bool false]) ?_ 3 _ rfl; (with_reducible repeat (first | refine blk_drewN ?_ _ | refine blk_drew ?_ | refine blk_alloc ?_ _)); refine blk_put (cs := #[.slice A0_0 l0_0.length c0_0, .slice A0_1 l0_1.length c0_1, .int .i64 0, .bool false]) ?_ 2 _ rfl; (with_reducible repeat (first | refine blk_drewN ?_ _ | refine blk_drew ?_ | refine blk_alloc ?_ _)); refine blk_put (cs := #[.slice A0_0 l0_0.length c0_0, .slice none 0 0, .int .i64 0, .bool false]) ?_ 1 _ rfl; (with_reducible repeat (first | refine blk_drewN ?_ _ | refine blk_drew ?_ | refine blk_alloc ?_ _)); refine blk_put (cs := #[.slice none 0 0, .slice none 0 0, .int .i64 0, .bool false]) ?_ 0 _ rfl; (with_reducible repeat (first | refine blk_drewN ?_ _ | refine blk_drew ?_ | refine blk_alloc ?_ _)); exact BK116.out⟩, ⟨by (with_reducible repeat (first | refine blk_drewN ?_ _ | refine blk_drew ?_ | refine blk_alloc ?_ _)); refine blk_put (cs := #[.slice A0_0 l0_0.length c0_0, .slice A0_1 l0_1.length c0_1, .int .i64 a0_2, .bool false]) ?_ 3 _ rfl; (with_reducible repeat (first | refine blk_drewN ?_ _ | refine blk_drew ?_ | refine blk_alloc ?_ _)); refine blk_put (cs := #[.slice A0_0 l0_0.length c0_0, .slice A0_1 l0_1.length c0_1, .int .i64 0, .bool false]) ?_ 2 _ rfl; (with_reducible repeat (first | refine blk_drewN ?_ _ | refine blk_drew ?_ | refine blk_alloc ?_ _)); refine blk_put (cs := #[.slice A0_0 l0_0.length c0_0, .slice none 0 0, .int .i64 0, .bool false]) ?_ 1 _ rfl; (with_reducible repeat (first | refine blk_drewN ?_ _ | refine blk_drew ?_ | refine blk_alloc ?_ _)); refine blk_put (cs := #[.slice none 0 0, .slice none 0 0, .int .i64 0, .bool false]) ?_ 0 _ rfl; (with_reducible repeat (first | refine blk_drewN ?_ _ | refine blk_drew ?_ | refine blk_alloc ?_ _)); refine blk_far ?_ NB117_116.out _; (with_reducible repeat (first | refine blk_drewN ?_ _ | refine blk_drew ?_ | refine blk_alloc ?_ _)); refine blk_far ?_ NB117_116.out _; (with_reducible repeat (first | refine blk_drewN ?_ _ | refine blk_drew ?_ | refine blk_alloc ?_ _)); refine blk_far ?_ NB117_116.out _; (with_reducible repeat (first | refine blk_drewN ?_ _ | refine blk_drew ?_ | refine blk_alloc ?_ _)); refine blk_far ?_ NB117_116.out _; (with_reducible repeat (first | refine blk_drewN ?_ _ | refine blk_drew ?_ | refine blk_alloc ?_ _)); exact BK117.out⟩, ⟨blw HB.out⟩⟩
     case round =>
      clear H'
      try clear c1
      try clear c2
      try clear p2
      try clear c3
      try clear c4
      try clear c8
      try clear c9
      try clear c10
      try clear c10b0
      try clear c10b1
      try clear c11
      try clear c13
      try clear c13b0
      try clear c13b1
      try clear c17
      try clear c17b0
      try clear c17b1
      try clear c17b2
      try clear c22
      try clear c22b0
      try clear c22b1
      try clear c34
      try clear hcz11_0
      try clear hcz11_1
      try clear hcz11_2
      try clear hcz11_3
      try clear hcz14_0
      try clear hcz14_1
      try clear hcz14_2
      try clear hcz14_3
      try clear hcz16_0
      try clear hcz16_1
      try clear hcz16_2
      try clear hcz16_3
      try clear hcz18_0
      try clear hcz18_1
      try clear hcz18_2
      try clear hcz18_3
      try clear hcz20_0
      try clear hcz20_1
      try clear hcz20_2
      try clear hcz20_3
      try clear hcz23_0
      try clear hcz23_1
      try clear hcz23_2
      try clear hcz23_3
      try clear hcz25_0
      try clear hcz25_1
      try clear hcz25_2
      try clear hcz25_3
      try clear hcz27_0
      try clear hcz27_1
      try clear hcz27_2
      try clear hcz27_3
      try clear hcz28_0
      try clear hcz28_1
      try clear hcz28_2
      try clear hcz28_3
      try clear hcz30_0
      try clear hcz30_1
      try clear hcz30_2
      try clear hcz30_3
      try clear hcz32_0
      try clear hcz32_1
      try clear hcz32_2
      try clear hcz32_3
      try clear hfz11_0
      try clear hfz11_1
      try clear hfz11_2
      try clear hfz11_3
      try clear hfz14_0
      try clear hfz14_1
      try clear hfz14_2
      try clear hfz14_3
      try clear hfz16_0
      try clear hfz16_1
      try clear hfz16_2
      try clear hfz16_3
      try clear hfz18_0
      try clear hfz18_1
      try clear hfz18_2
      try clear hfz18_3
      try clear hfz20_0
      try clear hfz20_1
      try clear hfz20_2
      try clear hfz20_3
      try clear hfz23_0
      try clear hfz23_1
      try clear hfz23_2
      try clear hfz23_3
      try clear hfz25_0
      try clear hfz25_1
      try clear hfz25_2
      try clear hfz25_3
      try clear hfz27_0
      try clear hfz27_1
      try clear hfz27_2
      try clear hfz27_3
      try clear hfz28_0
      try clear hfz28_1
      try clear hfz28_2
      try clear hfz28_3
      try clear hfz30_0
      try clear hfz30_1
      try clear hfz30_2
      try clear hfz30_3
      try clear hfz32_0
      try clear hfz32_1
      try clear hfz32_2
      try clear hfz32_3
      try clear p2
      obtain ⟨x7_2, x8_2, x117000_2, x117001_2, x117002_2, x117003_2, u117000, u117001, rfl, rfl, HA, HK2, HO_113000, HO_113001, HO_117000, HO_117001, HO_118000, HO_118001, BK112, BK116, BK117, HB⟩ := hrel
      cases gk with
      | zero => exact absurd HA.out (by simp [fastilaw04_DiskTogether.l0])
      | succ k2 =>
       have H := HA.out
       clear HA
       simp only [fastilaw04_DiskTogether.l0] at H
       have HC47 := Aside0.mk H
       clear H
       go_upto_region 8 with (fail)
       go_cut [56] (fun v56 wc => ∃ (kq : Nat) (x56_46 : Bool), v56 = .bool x56_46 ∧ Aside0 (fastilaw04_DiskTogether.j2 kq l1 x7_2 x8_2 x56_46 l0_0 l0_1 a0_2 a0_3 x117000_2 x117001_2 x117002_2 x117003_2 l0_0 l0_1 a0_2 a0_3 = some r) ∧ Aside0 (kq ≤ k2) ∧ Aside0 (Kd.V (Kd.slice 5 (Kd.int .u8)) 35 wc w.heap.size (fun k_ => ((P0_0_ k_ ∨ P0_1_ k_) ∨ w.heap.size ≤ k_) ∧ k_ ≠ gb112 ∧ k_ ≠ gb116 ∧ k_ ≠ gb117) (.slice A0_0 l0_0.length c0_0) l0_0) ∧ Aside0 (Kd.V k54 54 wc w.heap.size (fun k_ => ((P0_0_ k_ ∨ P0_1_ k_) ∨ w.heap.size ≤ k_) ∧ k_ ≠ gb112 ∧ k_ ≠ gb116 ∧ k_ ≠ gb117) (.slice A0_1 l0_1.length c0_1) l0_1) ∧ Aside0 (Kd.V (Kd.slice 5 (Kd.int .u8)) 35 wc w.heap.size (fun k_ => ((P0_0_ k_ ∨ P0_1_ k_) ∨ w.heap.size ≤ k_) ∧ k_ ≠ gb112 ∧ k_ ≠ gb116 ∧ k_ ≠ gb117) u117000 x117000_2) ∧ Aside0 (Kd.V k54 54 wc w.heap.size (fun k_ => ((P0_0_ k_ ∨ P0_1_ k_) ∨ w.heap.size ≤ k_) ∧ k_ ≠ gb112 ∧ k_ ≠ gb116 ∧ k_ ≠ gb117) u117001 x117001_2) ∧ Aside0 (Kd.V (Kd.slice 5 (Kd.int .u8)) 35 wc w.heap.size (fun k_ => ((P0_0_ k_ ∨ P0_1_ k_) ∨ w.heap.size ≤ k_) ∧ k_ ≠ gb112 ∧ k_ ≠ gb116 ∧ k_ ≠ gb117) (.slice A0_0 l0_0.length c0_0) l0_0) ∧ Aside0 (Kd.V k54 54 wc w.heap.size (fun k_ => ((P0_0_ k_ ∨ P0_1_ k_) ∨ w.heap.size ≤ k_) ∧ k_ ≠ gb112 ∧ k_ ≠ gb116 ∧ k_ ≠ gb117) (.slice A0_1 l0_1.length c0_1) l0_1) ∧ Aside0 (wc.heap[gb112]? = some (.cells #[(.slice A0_0 l0_0.length c0_0), (.slice A0_1 l0_1.length c0_1), .int .i64 a0_2, .bool a0_3] 25 (0, 0))) ∧ Aside0 (wc.heap[gb116]? = some (.cells #[u117000, u117001, .int .i64 x117002_2, .bool x117003_2] 25 (0, 0))) ∧ Aside0 (wc.heap[gb117]? = some (.cells #[(.slice A0_0 l0_0.length c0_0), (.slice A0_1 l0_1.length c0_1), .int .i64 a0_2, .bool a0_3] 25 (0, 0))) ∧ Aside0 (Below w.heap.size w wc))
       case first =>
        have H := HC47.out
        clear HC47
        by_cases c48 : x8_2 < (l1.length : Int)
        ·rw [if_pos c48] at H
         have c48b0 : decide (x8_2 < (l1.length : Int)) = true := decide_eq_true c48
         clear c48
         (first | rw [c48b0] | (simp only [i64_w, i32_w]; rw [c48b0]) | skip)
         have H' := Aside0.mk H
         clear H
         go_wp2
         go_meet
         case rel => exact ⟨_, ((x7_2 == 0)), (by first | rfl | (simp; done) | (simp [*]; done)), H', ⟨by have := HJ4.out; have := HK2.out; first | omega | exact Nat.le_refl _⟩, ⟨vmv HO_113000.out⟩, ⟨vmv HO_113001.out⟩, ⟨vmv HO_117000.out⟩, ⟨vmv HO_117001.out⟩, ⟨vmv HO_118000.out⟩, ⟨vmv HO_118001.out⟩, ⟨zk BK112.out⟩, ⟨zk BK116.out⟩, ⟨zk BK117.out⟩, ⟨blw HB.out⟩⟩
        ·rw [if_neg c48] at H
         have c48b0 : decide (x8_2 < (l1.length : Int)) = false := decide_eq_false c48
         clear c48
         (first | rw [c48b0] | (simp only [i64_w, i32_w]; rw [c48b0]) | skip)
         have H' := Aside0.mk H
         clear H
         go_wp2
         go_meet
         case rel => exact ⟨_, (false), (by first | rfl | (simp; done) | (simp [*]; done)), H', ⟨by have := HJ4.out; have := HK2.out; first | omega | exact Nat.le_refl _⟩, ⟨vmv HO_113000.out⟩, ⟨vmv HO_113001.out⟩, ⟨vmv HO_117000.out⟩, ⟨vmv HO_117001.out⟩, ⟨vmv HO_118000.out⟩, ⟨vmv HO_118001.out⟩, ⟨zk BK112.out⟩, ⟨zk BK116.out⟩, ⟨zk BK117.out⟩, ⟨blw HB.out⟩⟩
       case rest =>
        clear HC47
        try clear c1
        try clear c2
        try clear p2
        try clear c3
        try clear c4
        try clear c8
        try clear c9
        try clear c10
        try clear c10b0
        try clear c10b1
        try clear c11
        try clear c13
        try clear c13b0
        try clear c13b1
        try clear c17
        try clear c17b0
        try clear c17b1
        try clear c17b2
        try clear c22
        try clear c22b0
        try clear c22b1
        try clear c34
        try clear c48
        try clear c48b0
        try clear hcz11_0
        try clear hcz11_1
        try clear hcz11_2
        try clear hcz11_3
        try clear hcz14_0
        try clear hcz14_1
        try clear hcz14_2
        try clear hcz14_3
        try clear hcz16_0
        try clear hcz16_1
        try clear hcz16_2
        try clear hcz16_3
        try clear hcz18_0
        try clear hcz18_1
        try clear hcz18_2
        try clear hcz18_3
        try clear hcz20_0
        try clear hcz20_1
        try clear hcz20_2
        try clear hcz20_3
        try clear hcz23_0
        try clear hcz23_1
        try clear hcz23_2
        try clear hcz23_3
        try clear hcz25_0
        try clear hcz25_1
        try clear hcz25_2
        try clear hcz25_3
        try clear hcz27_0
        try clear hcz27_1
        try clear hcz27_2
        try clear hcz27_3
        try clear hcz28_0
        try clear hcz28_1
        try clear hcz28_2
        try clear hcz28_3
        try clear hcz30_0
        try clear hcz30_1
        try clear hcz30_2
        try clear hcz30_3
        try clear hcz32_0
        try clear hcz32_1
        try clear hcz32_2
        try clear hcz32_3
        try clear hfz11_0
        try clear hfz11_1
        try clear hfz11_2
        try clear hfz11_3
        try clear hfz14_0
        try clear hfz14_1
        try clear hfz14_2
        try clear hfz14_3
        try clear hfz16_0
        try clear hfz16_1
        try clear hfz16_2
        try clear hfz16_3
        try clear hfz18_0
        try clear hfz18_1
        try clear hfz18_2
        try clear hfz18_3
        try clear hfz20_0
        try clear hfz20_1
        try clear hfz20_2
        try clear hfz20_3
        try clear hfz23_0
        try clear hfz23_1
        try clear hfz23_2
        try clear hfz23_3
        try clear hfz25_0
        try clear hfz25_1
        try clear hfz25_2
        try clear hfz25_3
        try clear hfz27_0
        try clear hfz27_1
        try clear hfz27_2
        try clear hfz27_3
        try clear hfz28_0
        try clear hfz28_1
        try clear hfz28_2
        try clear hfz28_3
        try clear hfz30_0
        try clear hfz30_1
        try clear hfz30_2
        try clear hfz30_3
        try clear hfz32_0
        try clear hfz32_1
        try clear hfz32_2
        try clear hfz32_3
        try clear p2
        obtain ⟨kq, x56_46, rfl, HA, HJ46, HO_113000, HO_113001, HO_117000, HO_117001, HO_118000, HO_118001, BK112, BK116, BK117, HB⟩ := hcut
        cases kq with
        | zero => exact absurd HA.out (by simp [fastilaw04_DiskTogether.j2])
        | succ kj46 =>
         have H := HA.out
         clear HA
         simp only [fastilaw04_DiskTogether.j2] at H
         by_cases c49 : x56_46 = true
         ·subst c49
          have H1 : (if 0 ≤ x8_2 then (if x8_2 < (l1.length : Int) then (if (l0_0.length : Int) = 0 then (none) else ((disk_Write.f x117000_2 x117001_2 x117002_2 x117003_2 (Int.tmod (wrap64 ((rd_T46 l1 x8_2).f1)) (l0_0.length : Int)) (([(rd_T46 l1 x8_2).f2] : List Int))).bind fun bt123 => (if bt123.2.2.2.2 = 0 then ((disk_Sync.f bt123.1 bt123.2.1 bt123.2.2.1 bt123.2.2.2.1).bind fun bt133 => (fastilaw04_DiskTogether.l0 kj46 l1 bt133.2.2.2.2 (wrap64 (x8_2 + 1)) l0_0 l0_1 a0_2 a0_3 bt133.1 bt133.2.1 bt133.2.2.1 bt133.2.2.2.1 l0_0 l0_1 a0_2 a0_3)) else (none)))) else (none)) else (none)) = some r := by rw [if_pos rfl] at H; exact H
          clear H
          have H := H1
          clear H1
          by_cases c50 : 0 ≤ x8_2
          ·rw [if_pos c50] at H
           have c50b0 : decide (0 ≤ x8_2) = true := decide_eq_true c50
           clear c50
           by_cases c51 : x8_2 < (l1.length : Int)
           ·rw [if_pos c51] at H
            have c51b0 : decide (x8_2 < (l1.length : Int)) = true := decide_eq_true c51
            clear c51
            by_cases c52 : (l0_0.length : Int) = 0
            ·rw [if_pos c52] at H
             exact absurd H (by simp)
            ·rw [if_neg c52] at H
             have c52b0 : ((l0_0.length : Int) == 0) = false := beq_eq_false_iff_ne.mpr c52
             have c52b1 : ((l0_0.length : Int) != 0) = true := bne_iff_ne.mpr c52
             have c52b2 : ¬ (l0_0 = []) := fun h_ => c52 (by rw [h_]; rfl)
             obtain ⟨y120, hy120⟩ : ∃ y_ : List Int, y_ = (([(rd_T46 l1 x8_2).f2] : List Int)) := ⟨_, rfl⟩
             replace H : ((disk_Write.f x117000_2 x117001_2 x117002_2 x117003_2 (Int.tmod (wrap64 ((rd_T46 l1 x8_2).f1)) (l0_0.length : Int)) y120).bind fun bt123 => (if bt123.2.2.2.2 = 0 then ((disk_Sync.f bt123.1 bt123.2.1 bt123.2.2.1 bt123.2.2.2.1).bind fun bt133 => (fastilaw04_DiskTogether.l0 kj46 l1 bt133.2.2.2.2 (wrap64 (x8_2 + 1)) l0_0 l0_1 a0_2 a0_3 bt133.1 bt133.2.1 bt133.2.2.1 bt133.2.2.2.1 l0_0 l0_1 a0_2 a0_3)) else (none))) = some r := by first | (rw [hy120]; with_reducible exact H) | (have H2_ := (Option.bind_some _ _).symm.trans H; rw [hy120]; with_reducible exact H2_) | (have H2_ := (Option.bind_some _ _).symm.trans H; with_reducible exact H2_) | with_reducible exact H | (rw [hy120]; exact H) | exact H
             have Ny120 := Aside0.mk hy120
             clear hy120
             replace H := Option.bind_eq_some_iff.mp H
             obtain ⟨⟨t123, t126, t129, t130, t131⟩, A530, H⟩ := H
             replace H : (if t131 = 0 then ((disk_Sync.f t123 t126 t129 t130).bind fun bt133 => (fastilaw04_DiskTogether.l0 kj46 l1 bt133.2.2.2.2 (wrap64 (x8_2 + 1)) l0_0 l0_1 a0_2 a0_3 bt133.1 bt133.2.1 bt133.2.2.1 bt133.2.2.2.1 l0_0 l0_1 a0_2 a0_3)) else (none)) = some r := H
             have A53 := Aside0.mk A530
             clear A530
             by_cases c54 : t131 = 0
             ·rw [if_pos c54] at H
              have c54b0 : (t131 == 0) = true := beq_iff_eq.mpr c54
              have c54b1 : (t131 != 0) = false := bne_eq_false_iff_eq.mpr c54
              clear c54
              replace H := Option.bind_eq_some_iff.mp H
              obtain ⟨⟨t133, t136, t139, t140, t141⟩, A550, H⟩ := H
              replace H : (fastilaw04_DiskTogether.l0 kj46 l1 t141 (wrap64 (x8_2 + 1)) l0_0 l0_1 a0_2 a0_3 t133 t136 t139 t140 l0_0 l0_1 a0_2 a0_3) = some r := H
              have A55 := Aside0.mk A550
              clear A550
              have H' := Aside0.mk H
              clear H
              try go_wp2
              replace HO_113000 := Aside0.mk (Kd.V_drew HO_113000.out)
              replace HO_113001 := Aside0.mk (Kd.V_drew HO_113001.out)
              replace HO_117000 := Aside0.mk (Kd.V_drew HO_117000.out)
              replace HO_117001 := Aside0.mk (Kd.V_drew HO_117001.out)
              replace HO_118000 := Aside0.mk (Kd.V_drew HO_118000.out)
              replace HO_118001 := Aside0.mk (Kd.V_drew HO_118001.out)
              replace BK112 := Aside0.mk (blk_drew BK112.out)
              replace BK116 := Aside0.mk (blk_drew BK116.out)
              replace BK117 := Aside0.mk (blk_drew BK117.out)
              replace HB := Aside0.mk (below_drew1 HB.out)
              have p118 : 0 ≤ (x8_2 : Int) := of_decide_eq_true (by first | (with_reducible assumption) | assumption)
              have q118 : x8_2 < (l1.length : Int) := of_decide_eq_true (by first | (with_reducible assumption) | assumption)
              obtain ⟨ad118, e118, hx118_0, hx118_1, hx118_2⟩ := at_T46 HR1.out x8_2 p118 q118
              have hw118_2 := hx118_2
              have hw118_1 := hx118_1
              have hw118_0 := hx118_0
              cases e118
              replace hx118_0 := (HB.out.cell (World.block_lt_of_cell? w _ hx118_0)).trans hx118_0
              replace hx118_1 := (HB.out.cell (World.block_lt_of_cell? w _ hx118_1)).trans hx118_1
              replace hx118_2 := (HB.out.cell (World.block_lt_of_cell? w _ hx118_2)).trans hx118_2
              replace p118 := eq_true p118
              replace q118 := eq_true q118
              refine start_ (n := 11) (S := fun w' => w'.cell? ⟨gb112, 0, none⟩ = some (.slice A0_0 l0_0.length c0_0) ∧ w'.cell? ⟨gb112, 1, none⟩ = some (.slice A0_1 l0_1.length c0_1) ∧ w'.cell? ⟨gb112, 2, none⟩ = some (.int .i64 a0_2) ∧ w'.cell? ⟨gb112, 3, none⟩ = some (.bool a0_3) ∧ w'.cell? (ad118.add ((x8_2).toNat * 3)) = some (.bool ((rd_T46 l1 x8_2).f0)) ∧ w'.cell? ⟨(ad118.add ((x8_2).toNat * 3)).block, (ad118.add ((x8_2).toNat * 3)).off + 1, none⟩ = some (.int .u8 ((rd_T46 l1 x8_2).f1)) ∧ w'.cell? ⟨(ad118.add ((x8_2).toNat * 3)).block, (ad118.add ((x8_2).toNat * 3)).off + 2, none⟩ = some (.int .u8 ((rd_T46 l1 x8_2).f2))) (ds := []) #[N,N,N,N,N,N,N,N,N,N,N] (by kernel_rfl) rfl rfl ⟨bc BK112 0, bc BK112 1, bc BK112 2, bc BK112 3, ((HB.out.cell (World.block_lt_of_cell? w _ hw118_0)).trans hw118_0), ((HB.out.cell (World.block_lt_of_cell? w _ hw118_1)).trans hw118_1), ((HB.out.cell (World.block_lt_of_cell? w _ hw118_2)).trans hw118_2)⟩ (fun hHeld => ?_); refine with_tabW fastilaw04_DiskTogether.tab10 fastilaw04_DiskTogether.bits10 (fun HT_ HW_ => ?_)
              generalize wc.drew = w56 at HO_113000 HO_113001 HO_117000 HO_117001 HO_118000 HO_118001 BK112 BK116 BK117 HB hx118_0 hx118_1 hx118_2 hHeld ⊢
              refine pureA (i := 0) (N := some 59) #[Y,N,N,N,N,N,N,N,N,N,N] (any_of HT_.out (by kernel_rfl)) ?_
              refine pureA (i := 1) (N := some 60) #[Y,Y,N,N,N,N,N,N,N,N,N] (any_of HT_.out (by kernel_rfl)) ?_
              refine pureA (i := 2) (N := some 61) #[Y,Y,Y,N,N,N,N,N,N,N,N] (any_of HT_.out (by kernel_rfl)) ?_
              refine pureA (i := 3) (N := some 62) #[Y,Y,Y,Y,N,N,N,N,N,N,N] (any_of HT_.out (by kernel_rfl)) ?_
              refine pureA (i := 6) (N := some 65) #[Y,Y,Y,Y,N,N,Y,N,N,N,N] (any_of HT_.out (by kernel_rfl)) ?_
              refine take_ (i := 4) (N := some 63) (v := ?_) (a' := ?_) #[Y,Y,Y,Y,Y,N,Y,N,N,N,N] rfl rfl (take_ofW HT_.out HW_.out (by kernel_rfl)) (fun _ _ _ h => h) (Or.inl ⟨by rfl, ?_⟩) hHeld ?_ ?_
              rotate_left
              ·rintro w' ⟨s0, s1, s2, s3, s4, s5, s6⟩
               go_simp
               with_reducible rfl
              rotate_left
              ·simp only [Act.put, List.setIfInBounds_toArray, List.set_cons_zero, List.set_cons_succ, i64_w, i32_w]
               rfl
              refine pureA (i := 5) (N := some 64) #[Y,Y,Y,Y,Y,Y,Y,N,N,N,N] (any_of HT_.out (by kernel_rfl)) ?_
              refine take_ (i := 7) (N := some 66) (v := ?_) (a' := ?_) #[Y,Y,Y,Y,Y,Y,Y,Y,N,N,N] rfl rfl (take_ofW HT_.out HW_.out (by kernel_rfl)) (fun _ _ _ h => h) (Or.inl ⟨by rfl, ?_⟩) hHeld ?_ ?_
              rotate_left
              ·rintro w' ⟨s0, s1, s2, s3, s4, s5, s6⟩
               go_simp
               with_reducible rfl
              rotate_left
              ·simp only [Act.put, List.setIfInBounds_toArray, List.set_cons_zero, List.set_cons_succ, i64_w, i32_w]
               rfl
              refine pureA (i := 8) (N := some 67) #[Y,Y,Y,Y,Y,Y,Y,Y,Y,N,N] (any_of HT_.out (by kernel_rfl)) ?_
              refine pureA (i := 9) (N := some 68) #[Y,Y,Y,Y,Y,Y,Y,Y,Y,Y,N] (any_of HT_.out (by kernel_rfl)) ?_
              refine pureA (i := 10) (N := some 9) #[Y,Y,Y,Y,Y,Y,Y,Y,Y,Y,Y] (any_of HT_.out (by kernel_rfl)) ?_
              refine done_ (done_of HT_.out (by kernel_rfl)) ?_
              obtain ⟨Ao57, co57, eo57⟩ := Kd.V_slice HO_117000.out
              subst eo57
              obtain ⟨Ao58, co58, eo58⟩ := Kd.V_slice HO_117001.out
              subst eo58
              try go_wp2
              replace HO_113000 := Aside0.mk (Kd.V_drew HO_113000.out)
              replace HO_113001 := Aside0.mk (Kd.V_drew HO_113001.out)
              replace HO_117000 := Aside0.mk (Kd.V_drew HO_117000.out)
              replace HO_117001 := Aside0.mk (Kd.V_drew HO_117001.out)
              replace HO_118000 := Aside0.mk (Kd.V_drew HO_118000.out)
              replace HO_118001 := Aside0.mk (Kd.V_drew HO_118001.out)
              replace BK112 := Aside0.mk (blk_drew BK112.out)
              replace BK116 := Aside0.mk (blk_drew BK116.out)
              replace BK117 := Aside0.mk (blk_drew BK117.out)
              replace HB := Aside0.mk (below_drew1 HB.out)
              have p119 : 0 ≤ (x8_2 : Int) := of_decide_eq_true (by first | (with_reducible assumption) | assumption)
              have q119 : x8_2 < (l1.length : Int) := of_decide_eq_true (by first | (with_reducible assumption) | assumption)
              obtain ⟨ad119, e119, hx119_0, hx119_1, hx119_2⟩ := at_T46 HR1.out x8_2 p119 q119
              have hw119_2 := hx119_2
              have hw119_1 := hx119_1
              have hw119_0 := hx119_0
              obtain rfl : ad118 = ad119 := (by injection e119)
              replace hx119_0 := (HB.out.cell (World.block_lt_of_cell? w _ hx119_0)).trans hx119_0
              replace hx119_1 := (HB.out.cell (World.block_lt_of_cell? w _ hx119_1)).trans hx119_1
              replace hx119_2 := (HB.out.cell (World.block_lt_of_cell? w _ hx119_2)).trans hx119_2
              replace p119 := eq_true p119
              replace q119 := eq_true q119
              refine start_ (n := 15) (S := fun w' => w'.cell? ⟨gb116, 0, none⟩ = some (.slice Ao57 x117000_2.length co57) ∧ w'.cell? ⟨gb116, 1, none⟩ = some (.slice Ao58 x117001_2.length co58) ∧ w'.cell? ⟨gb116, 2, none⟩ = some (.int .i64 x117002_2) ∧ w'.cell? ⟨gb116, 3, none⟩ = some (.bool x117003_2) ∧ w'.cell? (ad118.add ((x8_2).toNat * 3)) = some (.bool ((rd_T46 l1 x8_2).f0)) ∧ w'.cell? ⟨(ad118.add ((x8_2).toNat * 3)).block, (ad118.add ((x8_2).toNat * 3)).off + 1, none⟩ = some (.int .u8 ((rd_T46 l1 x8_2).f1)) ∧ w'.cell? ⟨(ad118.add ((x8_2).toNat * 3)).block, (ad118.add ((x8_2).toNat * 3)).off + 2, none⟩ = some (.int .u8 ((rd_T46 l1 x8_2).f2))) (ds := []) #[N,N,N,N,N,N,N,N,N,N,N,N,N,N,N] (by kernel_rfl) rfl rfl ⟨bc BK116 0, bc BK116 1, bc BK116 2, bc BK116 3, ((HB.out.cell (World.block_lt_of_cell? w _ hw119_0)).trans hw119_0), ((HB.out.cell (World.block_lt_of_cell? w _ hw119_1)).trans hw119_1), ((HB.out.cell (World.block_lt_of_cell? w _ hw119_2)).trans hw119_2)⟩ (fun hHeld => ?_); refine with_tabW fastilaw04_DiskTogether.tab11 fastilaw04_DiskTogether.bits11 (fun HT_ HW_ => ?_)
              generalize w56.drew = w59 at HO_113000 HO_113001 HO_117000 HO_117001 HO_118000 HO_118001 BK112 BK116 BK117 HB hx119_0 hx119_1 hx119_2 hHeld ⊢
              refine pureA (i := 1) (N := some 71) #[N,Y,N,N,N,N,N,N,N,N,N,N,N,N,N] (any_of HT_.out (by kernel_rfl)) ?_
              refine pureA (i := 2) (N := some 72) #[N,Y,Y,N,N,N,N,N,N,N,N,N,N,N,N] (any_of HT_.out (by kernel_rfl)) ?_
              refine pureA (i := 3) (N := some 73) #[N,Y,Y,Y,N,N,N,N,N,N,N,N,N,N,N] (any_of HT_.out (by kernel_rfl)) ?_
              refine pureA (i := 4) (N := some 74) #[N,Y,Y,Y,Y,N,N,N,N,N,N,N,N,N,N] (any_of HT_.out (by kernel_rfl)) ?_
              refine pureA (i := 5) (N := some 75) #[N,Y,Y,Y,Y,Y,N,N,N,N,N,N,N,N,N] (any_of HT_.out (by kernel_rfl)) ?_
              refine take_ (i := 0) (N := some 70) (v := ?_) (a' := ?_) #[Y,Y,Y,Y,Y,Y,N,N,N,N,N,N,N,N,N] rfl rfl (take_ofW HT_.out HW_.out (by kernel_rfl)) (fun _ _ _ h => h) (Or.inl ⟨by rfl, ?_⟩) hHeld ?_ ?_
              rotate_left
              ·rintro w' ⟨s0, s1, s2, s3, s4, s5, s6⟩
               go_simp
               with_reducible rfl
              rotate_left
              ·simp only [Act.put, List.setIfInBounds_toArray, List.set_cons_zero, List.set_cons_succ, i64_w, i32_w]
               rfl
              refine take_ (i := 6) (N := some 76) (v := ?_) (a' := ?_) #[Y,Y,Y,Y,Y,Y,Y,N,N,N,N,N,N,N,N] rfl rfl (take_ofW HT_.out HW_.out (by kernel_rfl)) (fun _ _ _ h => h) (Or.inl ⟨by rfl, ?_⟩) hHeld ?_ ?_
              rotate_left
              ·rintro w' ⟨s0, s1, s2, s3, s4, s5, s6⟩
               go_simp
               with_reducible rfl
              rotate_left
              ·simp only [Act.put, List.setIfInBounds_toArray, List.set_cons_zero, List.set_cons_succ, i64_w, i32_w]
               rfl
              refine join_ (σ := Value × Value × Value × Nat) 2 #[Y,Y,Y,Y,Y,Y,Y,Y,Y,Y,Y,Y,Y,N,N] (fun s_ => [(77, s_.1), (78, .tuple #[.agg #[s_.2.1, s_.2.2.1, .int .i64 t129, .bool t130], .int .i64 t131]), (10, .pointer (some ⟨s_.2.2.2, 0, none⟩)), (69, .tuple #[.agg #[s_.2.1, s_.2.2.1, .int .i64 t129, .bool t130], .int .i64 t131]), (79, .agg #[s_.2.1, s_.2.2.1, .int .i64 t129, .bool t130]), (80, .int .i64 t131)]) (fun s_ w' => (w'.cell? ⟨gb116, 0, none⟩ = some (.slice Ao57 x117000_2.length co57) ∧ w'.cell? ⟨gb116, 1, none⟩ = some (.slice Ao58 x117001_2.length co58) ∧ w'.cell? ⟨gb116, 2, none⟩ = some (.int .i64 x117002_2) ∧ w'.cell? ⟨gb116, 3, none⟩ = some (.bool x117003_2) ∧ w'.cell? (ad118.add ((x8_2).toNat * 3)) = some (.bool ((rd_T46 l1 x8_2).f0)) ∧ w'.cell? ⟨(ad118.add ((x8_2).toNat * 3)).block, (ad118.add ((x8_2).toNat * 3)).off + 1, none⟩ = some (.int .u8 ((rd_T46 l1 x8_2).f1)) ∧ w'.cell? ⟨(ad118.add ((x8_2).toNat * 3)).block, (ad118.add ((x8_2).toNat * 3)).off + 2, none⟩ = some (.int .u8 ((rd_T46 l1 x8_2).f2))) ∧ (Kd.R (Kd.int .u8) 5 w' w.heap.size (fun k_ => (w.heap.size ≤ k_)) s_.1 y120) ∧ (Kd.V (Kd.slice 5 (Kd.int .u8)) 35 w' w.heap.size (fun k_ => ((P0_0_ k_ ∨ P0_1_ k_) ∨ w.heap.size ≤ k_) ∧ some k_ ≠ (s_.1 : Value).ownBlock ∧ k_ ≠ gb112 ∧ k_ ≠ gb116 ∧ k_ ≠ gb117 ∧ k_ ≠ s_.2.2.2) s_.2.1 t123) ∧ (Kd.V k54 54 w' w.heap.size (fun k_ => ((P0_0_ k_ ∨ P0_1_ k_) ∨ w.heap.size ≤ k_) ∧ some k_ ≠ (s_.1 : Value).ownBlock ∧ k_ ≠ gb112 ∧ k_ ≠ gb116 ∧ k_ ≠ gb117 ∧ k_ ≠ s_.2.2.2) s_.2.2.1 t126) ∧ (Kd.V (Kd.slice 5 (Kd.int .u8)) 35 w' w.heap.size (fun k_ => ((P0_0_ k_ ∨ P0_1_ k_) ∨ w.heap.size ≤ k_) ∧ some k_ ≠ (s_.1 : Value).ownBlock ∧ k_ ≠ gb112 ∧ k_ ≠ gb116 ∧ k_ ≠ gb117 ∧ k_ ≠ s_.2.2.2) (.slice A0_0 l0_0.length c0_0) l0_0) ∧ (Kd.V k54 54 w' w.heap.size (fun k_ => ((P0_0_ k_ ∨ P0_1_ k_) ∨ w.heap.size ≤ k_) ∧ some k_ ≠ (s_.1 : Value).ownBlock ∧ k_ ≠ gb112 ∧ k_ ≠ gb116 ∧ k_ ≠ gb117 ∧ k_ ≠ s_.2.2.2) (.slice A0_1 l0_1.length c0_1) l0_1) ∧ (Kd.V (Kd.slice 5 (Kd.int .u8)) 35 w' w.heap.size (fun k_ => ((P0_0_ k_ ∨ P0_1_ k_) ∨ w.heap.size ≤ k_) ∧ some k_ ≠ (s_.1 : Value).ownBlock ∧ k_ ≠ gb112 ∧ k_ ≠ gb116 ∧ k_ ≠ gb117 ∧ k_ ≠ s_.2.2.2) (.slice Ao57 x117000_2.length co57) x117000_2) ∧ (Kd.V k54 54 w' w.heap.size (fun k_ => ((P0_0_ k_ ∨ P0_1_ k_) ∨ w.heap.size ≤ k_) ∧ some k_ ≠ (s_.1 : Value).ownBlock ∧ k_ ≠ gb112 ∧ k_ ≠ gb116 ∧ k_ ≠ gb117 ∧ k_ ≠ s_.2.2.2) (.slice Ao58 x117001_2.length co58) x117001_2) ∧ (Kd.V (Kd.slice 5 (Kd.int .u8)) 35 w' w.heap.size (fun k_ => ((P0_0_ k_ ∨ P0_1_ k_) ∨ w.heap.size ≤ k_) ∧ some k_ ≠ (s_.1 : Value).ownBlock ∧ k_ ≠ gb112 ∧ k_ ≠ gb116 ∧ k_ ≠ gb117 ∧ k_ ≠ s_.2.2.2) (.slice A0_0 l0_0.length c0_0) l0_0) ∧ (Kd.V k54 54 w' w.heap.size (fun k_ => ((P0_0_ k_ ∨ P0_1_ k_) ∨ w.heap.size ≤ k_) ∧ some k_ ≠ (s_.1 : Value).ownBlock ∧ k_ ≠ gb112 ∧ k_ ≠ gb116 ∧ k_ ≠ gb117 ∧ k_ ≠ s_.2.2.2) (.slice A0_1 l0_1.length c0_1) l0_1) ∧ (w'.heap[gb112]? = some (.cells #[.slice A0_0 l0_0.length c0_0, .slice A0_1 l0_1.length c0_1, .int .i64 a0_2, .bool a0_3] 25 (0, 0))) ∧ (w'.heap[gb116]? = some (.cells #[.slice Ao57 x117000_2.length co57, .slice Ao58 x117001_2.length co58, .int .i64 x117002_2, .bool x117003_2] 25 (0, 0))) ∧ (w'.heap[gb117]? = some (.cells #[.slice A0_0 l0_0.length c0_0, .slice A0_1 l0_1.length c0_1, .int .i64 a0_2, .bool a0_3] 25 (0, 0))) ∧ (w'.heap[s_.2.2.2]? = some (.cells #[.slice none 0 0, .slice none 0 0, .int .i64 0, .bool false] 25 (0, 0))) ∧ (w.heap.size ≤ s_.2.2.2) ∧ (w.heap.size ≤ s_.2.2.2) ∧ (gb112 ≠ s_.2.2.2) ∧ (s_.2.2.2 ≠ gb112) ∧ (gb116 ≠ s_.2.2.2) ∧ (s_.2.2.2 ≠ gb116) ∧ (gb117 ≠ s_.2.2.2) ∧ (s_.2.2.2 ≠ gb117) ∧ (Below w.heap.size w w')) ?_ ?_
              rotate_left
              ·intro hCont
               refine two_ (i := 7) (j := 12) (Ni := some 77) (Nj := some 10) #[Y,Y,Y,Y,Y,Y,Y,Y,N,N,N,N,N,N,N] #[Y,Y,Y,Y,Y,Y,Y,N,N,N,N,N,Y,N,N] rfl rfl rfl rfl (two_of HT_.out (by kernel_rfl)) (by decide) (by decide) (fun K hK => ?_) (fun K hK => ?_)
               ·skip
                refine Kd.R_lit_step (Kd.int .u8) _ 5 ?hg (N := 77) ?hd (xs := ([(rd_T46 l1 x8_2).f2] : List Int)) (inner := [.int .u8 ((rd_T46 l1 x8_2).f2)]) (ok := fun _ => True) (okp := fun _ => True) ?hr ?hp (fun _ hk => hk) trivial (Below.refl _ _) (Nat.le_refl _) (by simp) ?_; (case hd => rfl); (case hg => rfl); (case hr => first | (go_simp; done) | (go_simp; rfl)); (case hp => exact (Reps.one (show Kd.M (Kd.int .u8) _ _ _ ((rd_T46 l1 x8_2).f2) [.int .u8 ((rd_T46 l1 x8_2).f2)] from rfl) (Reps.none _ _)))
                intro v121 w60 ho61 hb hg_ hnew_
                clear hg_ hnew_
                (first | rw [← Ny120.out] at ho61 | (simp only [Int.reduceToNat] at ho61; rw [← Ny120.out] at ho61))
                replace HO_113000 := Aside0.mk (Kd.V_elder' (vmv HO_113000.out) (Kd.R_base ho61) hb)
                replace HO_113001 := Aside0.mk (Kd.V_elder' (vmv HO_113001.out) (Kd.R_base ho61) hb)
                replace HO_117000 := Aside0.mk (Kd.V_elder' (vmv HO_117000.out) (Kd.R_base ho61) hb)
                replace HO_117001 := Aside0.mk (Kd.V_elder' (vmv HO_117001.out) (Kd.R_base ho61) hb)
                replace HO_118000 := Aside0.mk (Kd.V_elder' (vmv HO_118000.out) (Kd.R_base ho61) hb)
                replace HO_118001 := Aside0.mk (Kd.V_elder' (vmv HO_118001.out) (Kd.R_base ho61) hb)
                have HO122 := Aside0.mk (Kd.R_lower (Kd.R_newM (M := fun k_ => (w.heap.size ≤ k_)) ho61 (below_size (blw HB.out)) (fun k_ h_ => h_)) (below_size (blw HB.out)))
                replace BK112 := Aside0.mk (zb BK112.out hb)
                replace BK116 := Aside0.mk (zb BK116.out hb)
                replace BK117 := Aside0.mk (zb BK117.out hb)
                replace HB := Aside0.mk (below_step (blw HB.out) hb)
                clear hb ho61
                obtain ⟨Ao62, co62, eo62⟩ := Kd.R_slice HO122.out
                (first | subst eo62 | (injection eo62 with f1_ f2_ f3_; have f4_ := f1_.symm; have f5_ := f3_.symm; clear f1_ f2_ f3_; subst f4_; subst f5_))
                refine hK.out _ _ ⟨bc BK116 0, bc BK116 1, bc BK116 2, bc BK116 3, ((HB.out.cell (World.block_lt_of_cell? w _ hw119_0)).trans hw119_0), ((HB.out.cell (World.block_lt_of_cell? w _ hw119_1)).trans hw119_1), ((HB.out.cell (World.block_lt_of_cell? w _ hw119_2)).trans hw119_2)⟩ (fun hHeld => ?_)
                clear hK K
                refine norm_ (a' := ?_) ?_ ?_
                rotate_left
                ·show Act.put _ (some 77) _ = _
                 simp only [Act.put, List.setIfInBounds_toArray, List.set_cons_zero, List.set_cons_succ, i64_w, i32_w]
                 rfl
                refine two_ (i := 8) (j := 12) (Ni := some 78) (Nj := some 10) #[Y,Y,Y,Y,Y,Y,Y,Y,Y,N,N,N,N,N,N] #[Y,Y,Y,Y,Y,Y,Y,Y,N,N,N,N,Y,N,N] rfl rfl rfl rfl (two_of HT_.out (by kernel_rfl)) (by decide) (by decide) (fun K hK => ?_) (fun K hK => ?_)
                ·skip
                 refine goes_ Try.func19 (by kernel_rfl) rfl #[.agg #[.slice Ao57 x117000_2.length co57, .slice Ao58 x117001_2.length co58, .int .i64 x117002_2, .bool x117003_2], .int .i64 (Int.tmod (wrap64 ((rd_T46 l1 x8_2).f1)) (l0_0.length : Int)), .slice Ao62 y120.length co62] (by rfl) rfl rfl (by (try simp only [List.map_toArray, List.map_cons, List.map_nil]); first | done | rfl | (simp only [List.length_drop, List.length_take]; rfl)) ?_
                 with_reducible refine (disk_Write.calls (fun k_ => ((((P0_0_ k_ ∨ P0_1_ k_) ∨ w.heap.size ≤ k_) ∧ (k_ ≠ gb112 ∧ (k_ ≠ gb116 ∧ k_ ≠ gb117))) ∧ some k_ ≠ (.slice Ao62 y120.length co62 : Value).ownBlock)) _ _ x117000_2 (fun k_ => ((((P0_0_ k_ ∨ P0_1_ k_) ∨ w.heap.size ≤ k_) ∧ (k_ ≠ gb112 ∧ (k_ ≠ gb116 ∧ k_ ≠ gb117))) ∧ some k_ ≠ (.slice Ao62 y120.length co62 : Value).ownBlock)) _ _ x117001_2 x117002_2 x117003_2 (Int.tmod (wrap64 ((rd_T46 l1 x8_2).f1)) (l0_0.length : Int)) _ _ y120 t123 t126 t129 t130 t131 _ ?side1 ?side2 ?side3 ?side4 A53.out).mono ?_
                 (case side1 => exact HO_117000.out)
                 (case side2 => exact HO_117001.out)
                 (case side3 => repeat (first | exact (Kd.R_reads' HO122.out).2.2 | (with_reducible refine Kd.C_alloc ?_ _) | (with_reducible refine Kd.C_drewN ?_ _) | (with_reducible refine Kd.C_drew ?_)))
                 (case side4 => exact (Kd.R_reads' HO122.out).2.1)
                 rintro e w63 ⟨v124, v127, rfl, ho0, ho1, hb⟩
                 refine ⟨_, rfl, ?_⟩
                 replace HO_113000 := Aside0.mk (Kd.V_below (vmv HO_113000.out) hb)
                 replace HO_113001 := Aside0.mk (Kd.V_below (vmv HO_113001.out) hb)
                 replace HO_117000 := Aside0.mk (Kd.V_below (vmv HO_117000.out) hb)
                 replace HO_117001 := Aside0.mk (Kd.V_below (vmv HO_117001.out) hb)
                 replace HO_118000 := Aside0.mk (Kd.V_below (vmv HO_118000.out) hb)
                 replace HO_118001 := Aside0.mk (Kd.V_below (vmv HO_118001.out) hb)
                 obtain ⟨HO125, HO128⟩ := vlm2 (ok' := fun k_ => ((P0_0_ k_ ∨ P0_1_ k_) ∨ w.heap.size ≤ k_) ∧ some k_ ≠ (.slice Ao62 y120.length co62 : Value).ownBlock ∧ k_ ≠ gb112 ∧ k_ ≠ gb116 ∧ k_ ≠ gb117) ho0 ho1 (fun k_ hk_ => ⟨Or.elim hk_ (fun hs_ => Or.elim hs_ (fun hs_ => hs_.1.1) (fun hs_ => hs_.1.1)) (fun hn_ => (.inr (Nat.le_trans (below_size (blw HB.out)) hn_))), Or.elim hk_ (fun hs_ => Or.elim hs_ (fun hs_ => hs_.2) (fun hs_ => hs_.2)) (fun hn_ => (Kd.fresh' (Kd.R_lt (rmv HO122.out)) k_ hn_)), Or.elim hk_ (fun hs_ => Or.elim hs_ (fun hs_ => hs_.1.2.1) (fun hs_ => hs_.1.2.1)) (fun hn_ => (Kd.freshB (zk BK112.out) k_ hn_)), Or.elim hk_ (fun hs_ => Or.elim hs_ (fun hs_ => hs_.1.2.2.1) (fun hs_ => hs_.1.2.2.1)) (fun hn_ => (Kd.freshB (zk BK116.out) k_ hn_)), Or.elim hk_ (fun hs_ => Or.elim hs_ (fun hs_ => hs_.1.2.2.2) (fun hs_ => hs_.1.2.2.2)) (fun hn_ => (Kd.freshB (zk BK117.out) k_ hn_))⟩) (fun _ h_ => h_) (below_size (blw HB.out))
                 replace HO122 := Aside0.mk (Kd.R_below (rmv HO122.out) hb)
                 replace BK112 := Aside0.mk (zb BK112.out hb)
                 replace BK116 := Aside0.mk (zb BK116.out hb)
                 replace BK117 := Aside0.mk (zb BK117.out hb)
                 replace HB := Aside0.mk (below_step (blw HB.out) hb)
                 (try clear hb)
                 (try clear hb2)
                 (try clear hk)
                 (try clear hi)
                 (try clear ho0)
                 (try clear ho1)
                 refine hK.out _ _ ⟨bc BK116 0, bc BK116 1, bc BK116 2, bc BK116 3, ((HB.out.cell (World.block_lt_of_cell? w _ hw119_0)).trans hw119_0), ((HB.out.cell (World.block_lt_of_cell? w _ hw119_1)).trans hw119_1), ((HB.out.cell (World.block_lt_of_cell? w _ hw119_2)).trans hw119_2)⟩ (fun hHeld => ?_)
                 clear hK K
                 refine norm_ (a' := ?_) ?_ ?_
                 rotate_left
                 ·show Act.put _ (some 78) _ = _
                  simp only [Act.put, List.setIfInBounds_toArray, List.set_cons_zero, List.set_cons_succ, i64_w, i32_w]
                  rfl
                 refine pureA (i := 9) (N := some 69) #[Y,Y,Y,Y,Y,Y,Y,Y,Y,Y,N,N,N,N,N] (any_of HT_.out (by kernel_rfl)) ?_
                 refine pureA (i := 10) (N := some 79) #[Y,Y,Y,Y,Y,Y,Y,Y,Y,Y,Y,N,N,N,N] (any_of HT_.out (by kernel_rfl)) ?_
                 refine pureA (i := 11) (N := some 80) #[Y,Y,Y,Y,Y,Y,Y,Y,Y,Y,Y,Y,N,N,N] (any_of HT_.out (by kernel_rfl)) ?_
                 refine one_ (i := 12) (N := some 10) #[Y,Y,Y,Y,Y,Y,Y,Y,Y,Y,Y,Y,Y,N,N] rfl rfl (one_of HT_.out (by kernel_rfl)) (by decide) (fun K hK => ?_)
                 refine box_step ?hg (N := 10) ?hd (cs := #[.slice none 0 0, .slice none 0 0, .int .i64 0, .bool false]) (t := 25) ?hr ?_; (case hd => rfl); (case hg => rfl); (case hr => first | (go_simp; done) | (go_simp; rfl))
                 intro gb132 hg w64 hbox hb
                 replace HO_113000 := Aside0.mk (Kd.V_below (Kd.V_elderB (vmv HO_113000.out) gb132 (Nat.le_of_eq hg.symm)) hb)
                 replace HO_113001 := Aside0.mk (Kd.V_below (Kd.V_elderB (vmv HO_113001.out) gb132 (Nat.le_of_eq hg.symm)) hb)
                 replace HO_117000 := Aside0.mk (Kd.V_below (Kd.V_elderB (vmv HO_117000.out) gb132 (Nat.le_of_eq hg.symm)) hb)
                 replace HO_117001 := Aside0.mk (Kd.V_below (Kd.V_elderB (vmv HO_117001.out) gb132 (Nat.le_of_eq hg.symm)) hb)
                 replace HO_118000 := Aside0.mk (Kd.V_below (Kd.V_elderB (vmv HO_118000.out) gb132 (Nat.le_of_eq hg.symm)) hb)
                 replace HO_118001 := Aside0.mk (Kd.V_below (Kd.V_elderB (vmv HO_118001.out) gb132 (Nat.le_of_eq hg.symm)) hb)
                 replace HO122 := Aside0.mk (Kd.R_below (rmv HO122.out) hb)
                 replace HO125 := Aside0.mk (Kd.V_below (Kd.V_elderB (vmv HO125.out) gb132 (Nat.le_of_eq hg.symm)) hb)
                 replace HO128 := Aside0.mk (Kd.V_below (Kd.V_elderB (vmv HO128.out) gb132 (Nat.le_of_eq hg.symm)) hb)
                 have BK132 := Aside0.mk (hbox)
                 have GW132 := Aside0.mk ((by rw [hg]; exact (below_size (blw HB.out)) : w.heap.size ≤ gb132))
                 have GE132 := Aside0.mk ((by rw [hg]; exact (below_size (blw HB.out)) : w.heap.size ≤ gb132))
                 replace HB := Aside0.mk (below_step (blw HB.out) hb)
                 have NB112_132 := Aside0.mk ((by rw [hg]; exact Nat.ne_of_lt (blk_lt (zk BK112.out)) : gb112 ≠ gb132))
                 have NB132_112 := Aside0.mk ((by rw [hg]; exact Nat.ne_of_gt (blk_lt (zk BK112.out)) : gb132 ≠ gb112))
                 replace BK112 := Aside0.mk (zb BK112.out hb)
                 have NB116_132 := Aside0.mk ((by rw [hg]; exact Nat.ne_of_lt (blk_lt (zk BK116.out)) : gb116 ≠ gb132))
                 have NB132_116 := Aside0.mk ((by rw [hg]; exact Nat.ne_of_gt (blk_lt (zk BK116.out)) : gb132 ≠ gb116))
                 replace BK116 := Aside0.mk (zb BK116.out hb)
                 have NB117_132 := Aside0.mk ((by rw [hg]; exact Nat.ne_of_lt (blk_lt (zk BK117.out)) : gb117 ≠ gb132))
                 have NB132_117 := Aside0.mk ((by rw [hg]; exact Nat.ne_of_gt (blk_lt (zk BK117.out)) : gb132 ≠ gb117))
                 replace BK117 := Aside0.mk (zb BK117.out hb)
                 clear hb hbox hg
                 refine hK.out _ _ ⟨bc BK116 0, bc BK116 1, bc BK116 2, bc BK116 3, ((HB.out.cell (World.block_lt_of_cell? w _ hw119_0)).trans hw119_0), ((HB.out.cell (World.block_lt_of_cell? w _ hw119_1)).trans hw119_1), ((HB.out.cell (World.block_lt_of_cell? w _ hw119_2)).trans hw119_2)⟩ (fun hHeld => ?_)
                 clear hK K
                 refine norm_ (a' := ?_) ?_ ?_
                 rotate_left
                 ·show Act.put _ (some 10) _ = _
                  simp only [Act.put, List.setIfInBounds_toArray, List.set_cons_zero, List.set_cons_succ, i64_w, i32_w]
                  rfl
                 exact normA (hCont (.slice Ao62 y120.length co62, v124, v127, gb132) _ ⟨hHeld, (by (with_reducible repeat (first | apply Kd.R_alloc | apply Kd.R_drewN | apply Kd.R_drew)); exact Kd.R_mono HO122.out (fun _ hk => hk.1)), (vmo HO125.out (fun _ hk => ⟨hk.1.1, ⟨hk.1.2.1, ⟨hk.1.2.2.1, ⟨hk.1.2.2.2.1, ⟨hk.1.2.2.2.2, hk.2⟩⟩⟩⟩⟩)), (vmo HO128.out (fun _ hk => ⟨hk.1.1, ⟨hk.1.2.1, ⟨hk.1.2.2.1, ⟨hk.1.2.2.2.1, ⟨hk.1.2.2.2.2, hk.2⟩⟩⟩⟩⟩)), (vmo HO_113000.out (fun _ hk => ⟨hk.1.1.1, ⟨hk.1.2, ⟨hk.1.1.2.1, ⟨hk.1.1.2.2.1, ⟨hk.1.1.2.2.2, hk.2⟩⟩⟩⟩⟩)), (vmo HO_113001.out (fun _ hk => ⟨hk.1.1.1, ⟨hk.1.2, ⟨hk.1.1.2.1, ⟨hk.1.1.2.2.1, ⟨hk.1.1.2.2.2, hk.2⟩⟩⟩⟩⟩)), (vmo HO_117000.out (fun _ hk => ⟨hk.1.1.1, ⟨hk.1.2, ⟨hk.1.1.2.1, ⟨hk.1.1.2.2.1, ⟨hk.1.1.2.2.2, hk.2⟩⟩⟩⟩⟩)), (vmo HO_117001.out (fun _ hk => ⟨hk.1.1.1, ⟨hk.1.2, ⟨hk.1.1.2.1, ⟨hk.1.1.2.2.1, ⟨hk.1.1.2.2.2, hk.2⟩⟩⟩⟩⟩)), (vmo HO_118000.out (fun _ hk => ⟨hk.1.1.1, ⟨hk.1.2, ⟨hk.1.1.2.1, ⟨hk.1.1.2.2.1, ⟨hk.1.1.2.2.2, hk.2⟩⟩⟩⟩⟩)), (vmo HO_118001.out (fun _ hk => ⟨hk.1.1.1, ⟨hk.1.2, ⟨hk.1.1.2.1, ⟨hk.1.1.2.2.1, ⟨hk.1.1.2.2.2, hk.2⟩⟩⟩⟩⟩)), (zk BK112.out), (zk BK116.out), (zk BK117.out), (zk BK132.out), GW132.out, GE132.out, NB112_132.out, NB132_112.out, NB116_132.out, NB132_116.out, NB117_132.out, NB132_117.out, (blw HB.out)⟩)
                ·skip
                 refine box_step ?hg (N := 10) ?hd (cs := #[.slice none 0 0, .slice none 0 0, .int .i64 0, .bool false]) (t := 25) ?hr ?_; (case hd => rfl); (case hg => rfl); (case hr => first | (go_simp; done) | (go_simp; rfl))
                 intro gb132 hg w62 hbox hb
                 replace HO_113000 := Aside0.mk (Kd.V_below (Kd.V_elderB (vmv HO_113000.out) gb132 (Nat.le_of_eq hg.symm)) hb)
                 replace HO_113001 := Aside0.mk (Kd.V_below (Kd.V_elderB (vmv HO_113001.out) gb132 (Nat.le_of_eq hg.symm)) hb)
                 replace HO_117000 := Aside0.mk (Kd.V_below (Kd.V_elderB (vmv HO_117000.out) gb132 (Nat.le_of_eq hg.symm)) hb)
                 replace HO_117001 := Aside0.mk (Kd.V_below (Kd.V_elderB (vmv HO_117001.out) gb132 (Nat.le_of_eq hg.symm)) hb)
                 replace HO_118000 := Aside0.mk (Kd.V_below (Kd.V_elderB (vmv HO_118000.out) gb132 (Nat.le_of_eq hg.symm)) hb)
                 replace HO_118001 := Aside0.mk (Kd.V_below (Kd.V_elderB (vmv HO_118001.out) gb132 (Nat.le_of_eq hg.symm)) hb)
                 replace HO122 := Aside0.mk (Kd.R_below (rmv HO122.out) hb)
                 have BK132 := Aside0.mk (hbox)
                 have GW132 := Aside0.mk ((by rw [hg]; exact (below_size (blw HB.out)) : w.heap.size ≤ gb132))
                 have GE132 := Aside0.mk ((by rw [hg]; exact (below_size (blw HB.out)) : w.heap.size ≤ gb132))
                 replace HB := Aside0.mk (below_step (blw HB.out) hb)
                 have NB112_132 := Aside0.mk ((by rw [hg]; exact Nat.ne_of_lt (blk_lt (zk BK112.out)) : gb112 ≠ gb132))
                 have NB132_112 := Aside0.mk ((by rw [hg]; exact Nat.ne_of_gt (blk_lt (zk BK112.out)) : gb132 ≠ gb112))
                 replace BK112 := Aside0.mk (zb BK112.out hb)
                 have NB116_132 := Aside0.mk ((by rw [hg]; exact Nat.ne_of_lt (blk_lt (zk BK116.out)) : gb116 ≠ gb132))
                 have NB132_116 := Aside0.mk ((by rw [hg]; exact Nat.ne_of_gt (blk_lt (zk BK116.out)) : gb132 ≠ gb116))
                 replace BK116 := Aside0.mk (zb BK116.out hb)
                 have NB117_132 := Aside0.mk ((by rw [hg]; exact Nat.ne_of_lt (blk_lt (zk BK117.out)) : gb117 ≠ gb132))
                 have NB132_117 := Aside0.mk ((by rw [hg]; exact Nat.ne_of_gt (blk_lt (zk BK117.out)) : gb132 ≠ gb117))
                 replace BK117 := Aside0.mk (zb BK117.out hb)
                 clear hb hbox hg
                 obtain ⟨Ao63, co63, eo63⟩ := Kd.R_slice HO122.out
                 (first | subst eo63 | (injection eo63 with f1_ f2_ f3_; have f4_ := f1_.symm; have f5_ := f3_.symm; clear f1_ f2_ f3_; subst f4_; subst f5_))
                 refine hK.out _ _ ⟨bc BK116 0, bc BK116 1, bc BK116 2, bc BK116 3, ((HB.out.cell (World.block_lt_of_cell? w _ hw119_0)).trans hw119_0), ((HB.out.cell (World.block_lt_of_cell? w _ hw119_1)).trans hw119_1), ((HB.out.cell (World.block_lt_of_cell? w _ hw119_2)).trans hw119_2)⟩ (fun hHeld => ?_)
                 clear hK K
                 refine norm_ (a' := ?_) ?_ ?_
                 rotate_left
                 ·show Act.put _ (some 10) _ = _
                  simp only [Act.put, List.setIfInBounds_toArray, List.set_cons_zero, List.set_cons_succ, i64_w, i32_w]
                  rfl
                 refine one_ (i := 8) (N := some 78) #[Y,Y,Y,Y,Y,Y,Y,Y,Y,N,N,N,Y,N,N] rfl rfl (one_of HT_.out (by kernel_rfl)) (by decide) (fun K hK => ?_)
                 refine goes_ Try.func19 (by kernel_rfl) rfl #[.agg #[.slice Ao57 x117000_2.length co57, .slice Ao58 x117001_2.length co58, .int .i64 x117002_2, .bool x117003_2], .int .i64 (Int.tmod (wrap64 ((rd_T46 l1 x8_2).f1)) (l0_0.length : Int)), .slice Ao63 y120.length co63] (by rfl) rfl rfl (by (try simp only [List.map_toArray, List.map_cons, List.map_nil]); first | done | rfl | (simp only [List.length_drop, List.length_take]; rfl)) ?_
                 with_reducible refine (disk_Write.calls (fun k_ => (((((P0_0_ k_ ∨ P0_1_ k_) ∨ w.heap.size ≤ k_) ∧ (k_ ≠ gb112 ∧ (k_ ≠ gb116 ∧ k_ ≠ gb117))) ∧ some k_ ≠ (.slice Ao63 y120.length co63 : Value).ownBlock) ∧ k_ ≠ gb132)) _ _ x117000_2 (fun k_ => (((((P0_0_ k_ ∨ P0_1_ k_) ∨ w.heap.size ≤ k_) ∧ (k_ ≠ gb112 ∧ (k_ ≠ gb116 ∧ k_ ≠ gb117))) ∧ some k_ ≠ (.slice Ao63 y120.length co63 : Value).ownBlock) ∧ k_ ≠ gb132)) _ _ x117001_2 x117002_2 x117003_2 (Int.tmod (wrap64 ((rd_T46 l1 x8_2).f1)) (l0_0.length : Int)) _ _ y120 t123 t126 t129 t130 t131 _ ?side1 ?side2 ?side3 ?side4 A53.out).mono ?_
                 (case side1 => exact HO_117000.out)
                 (case side2 => exact HO_117001.out)
                 (case side3 => repeat (first | exact (Kd.R_reads' HO122.out).2.2 | (with_reducible refine Kd.C_alloc ?_ _) | (with_reducible refine Kd.C_drewN ?_ _) | (with_reducible refine Kd.C_drew ?_)))
                 (case side4 => exact (Kd.R_reads' HO122.out).2.1)
                 rintro e w64 ⟨v124, v127, rfl, ho0, ho1, hb⟩
                 refine ⟨_, rfl, ?_⟩
                 replace HO_113000 := Aside0.mk (Kd.V_below (vmv HO_113000.out) hb)
                 replace HO_113001 := Aside0.mk (Kd.V_below (vmv HO_113001.out) hb)
                 replace HO_117000 := Aside0.mk (Kd.V_below (vmv HO_117000.out) hb)
                 replace HO_117001 := Aside0.mk (Kd.V_below (vmv HO_117001.out) hb)
                 replace HO_118000 := Aside0.mk (Kd.V_below (vmv HO_118000.out) hb)
                 replace HO_118001 := Aside0.mk (Kd.V_below (vmv HO_118001.out) hb)
                 obtain ⟨HO125, HO128⟩ := vlm2 (ok' := fun k_ => ((P0_0_ k_ ∨ P0_1_ k_) ∨ w.heap.size ≤ k_) ∧ some k_ ≠ (.slice Ao63 y120.length co63 : Value).ownBlock ∧ k_ ≠ gb112 ∧ k_ ≠ gb116 ∧ k_ ≠ gb117 ∧ k_ ≠ gb132) ho0 ho1 (fun k_ hk_ => ⟨Or.elim hk_ (fun hs_ => Or.elim hs_ (fun hs_ => hs_.1.1.1) (fun hs_ => hs_.1.1.1)) (fun hn_ => (.inr (Nat.le_trans (below_size (blw HB.out)) hn_))), Or.elim hk_ (fun hs_ => Or.elim hs_ (fun hs_ => hs_.1.2) (fun hs_ => hs_.1.2)) (fun hn_ => (Kd.fresh' (Kd.R_lt (rmv HO122.out)) k_ hn_)), Or.elim hk_ (fun hs_ => Or.elim hs_ (fun hs_ => hs_.1.1.2.1) (fun hs_ => hs_.1.1.2.1)) (fun hn_ => (Kd.freshB (zk BK112.out) k_ hn_)), Or.elim hk_ (fun hs_ => Or.elim hs_ (fun hs_ => hs_.1.1.2.2.1) (fun hs_ => hs_.1.1.2.2.1)) (fun hn_ => (Kd.freshB (zk BK116.out) k_ hn_)), Or.elim hk_ (fun hs_ => Or.elim hs_ (fun hs_ => hs_.1.1.2.2.2) (fun hs_ => hs_.1.1.2.2.2)) (fun hn_ => (Kd.freshB (zk BK117.out) k_ hn_)), Or.elim hk_ (fun hs_ => Or.elim hs_ (fun hs_ => hs_.2) (fun hs_ => hs_.2)) (fun hn_ => (Kd.freshB (zk BK132.out) k_ hn_))⟩) (fun _ h_ => h_) (below_size (blw HB.out))
                 replace HO122 := Aside0.mk (Kd.R_below (rmv HO122.out) hb)
                 replace BK112 := Aside0.mk (zb BK112.out hb)
                 replace BK116 := Aside0.mk (zb BK116.out hb)
                 replace BK117 := Aside0.mk (zb BK117.out hb)
                 replace BK132 := Aside0.mk (zb BK132.out hb)
                 replace HB := Aside0.mk (below_step (blw HB.out) hb)
                 (try clear hb)
                 (try clear hb2)
                 (try clear hk)
                 (try clear hi)
                 (try clear ho0)
                 (try clear ho1)
                 refine hK.out _ _ ⟨bc BK116 0, bc BK116 1, bc BK116 2, bc BK116 3, ((HB.out.cell (World.block_lt_of_cell? w _ hw119_0)).trans hw119_0), ((HB.out.cell (World.block_lt_of_cell? w _ hw119_1)).trans hw119_1), ((HB.out.cell (World.block_lt_of_cell? w _ hw119_2)).trans hw119_2)⟩ (fun hHeld => ?_)
                 clear hK K
                 refine norm_ (a' := ?_) ?_ ?_
                 rotate_left
                 ·show Act.put _ (some 78) _ = _
                  simp only [Act.put, List.setIfInBounds_toArray, List.set_cons_zero, List.set_cons_succ, i64_w, i32_w]
                  rfl
                 refine pureA (i := 9) (N := some 69) #[Y,Y,Y,Y,Y,Y,Y,Y,Y,Y,N,N,Y,N,N] (any_of HT_.out (by kernel_rfl)) ?_
                 refine pureA (i := 10) (N := some 79) #[Y,Y,Y,Y,Y,Y,Y,Y,Y,Y,Y,N,Y,N,N] (any_of HT_.out (by kernel_rfl)) ?_
                 refine pureA (i := 11) (N := some 80) #[Y,Y,Y,Y,Y,Y,Y,Y,Y,Y,Y,Y,Y,N,N] (any_of HT_.out (by kernel_rfl)) ?_
                 exact normA (hCont (.slice Ao63 y120.length co63, v124, v127, gb132) _ ⟨hHeld, (by (with_reducible repeat (first | apply Kd.R_alloc | apply Kd.R_drewN | apply Kd.R_drew)); exact Kd.R_mono HO122.out (fun _ hk => hk.1)), (vmv HO125.out), (vmv HO128.out), (vmo HO_113000.out (fun _ hk => ⟨hk.1.1.1, ⟨hk.1.2, ⟨hk.1.1.2.1, ⟨hk.1.1.2.2.1, ⟨hk.1.1.2.2.2, hk.2⟩⟩⟩⟩⟩)), (vmo HO_113001.out (fun _ hk => ⟨hk.1.1.1, ⟨hk.1.2, ⟨hk.1.1.2.1, ⟨hk.1.1.2.2.1, ⟨hk.1.1.2.2.2, hk.2⟩⟩⟩⟩⟩)), (vmo HO_117000.out (fun _ hk => ⟨hk.1.1.1, ⟨hk.1.2, ⟨hk.1.1.2.1, ⟨hk.1.1.2.2.1, ⟨hk.1.1.2.2.2, hk.2⟩⟩⟩⟩⟩)), (vmo HO_117001.out (fun _ hk => ⟨hk.1.1.1, ⟨hk.1.2, ⟨hk.1.1.2.1, ⟨hk.1.1.2.2.1, ⟨hk.1.1.2.2.2, hk.2⟩⟩⟩⟩⟩)), (vmo HO_118000.out (fun _ hk => ⟨hk.1.1.1, ⟨hk.1.2, ⟨hk.1.1.2.1, ⟨hk.1.1.2.2.1, ⟨hk.1.1.2.2.2, hk.2⟩⟩⟩⟩⟩)), (vmo HO_118001.out (fun _ hk => ⟨hk.1.1.1, ⟨hk.1.2, ⟨hk.1.1.2.1, ⟨hk.1.1.2.2.1, ⟨hk.1.1.2.2.2, hk.2⟩⟩⟩⟩⟩)), (zk BK112.out), (zk BK116.out), (zk BK117.out), (zk BK132.out), GW132.out, GE132.out, NB112_132.out, NB132_112.out, NB116_132.out, NB132_116.out, NB117_132.out, NB132_117.out, (blw HB.out)⟩)
               ·skip
                refine box_step ?hg (N := 10) ?hd (cs := #[.slice none 0 0, .slice none 0 0, .int .i64 0, .bool false]) (t := 25) ?hr ?_; (case hd => rfl); (case hg => rfl); (case hr => first | (go_simp; done) | (go_simp; rfl))
                intro gb132 hg w60 hbox hb
                replace HO_113000 := Aside0.mk (Kd.V_below (Kd.V_elderB (vmv HO_113000.out) gb132 (Nat.le_of_eq hg.symm)) hb)
                replace HO_113001 := Aside0.mk (Kd.V_below (Kd.V_elderB (vmv HO_113001.out) gb132 (Nat.le_of_eq hg.symm)) hb)
                replace HO_117000 := Aside0.mk (Kd.V_below (Kd.V_elderB (vmv HO_117000.out) gb132 (Nat.le_of_eq hg.symm)) hb)
                replace HO_117001 := Aside0.mk (Kd.V_below (Kd.V_elderB (vmv HO_117001.out) gb132 (Nat.le_of_eq hg.symm)) hb)
                replace HO_118000 := Aside0.mk (Kd.V_below (Kd.V_elderB (vmv HO_118000.out) gb132 (Nat.le_of_eq hg.symm)) hb)
                replace HO_118001 := Aside0.mk (Kd.V_below (Kd.V_elderB (vmv HO_118001.out) gb132 (Nat.le_of_eq hg.symm)) hb)
                have BK132 := Aside0.mk (hbox)
                have GW132 := Aside0.mk ((by rw [hg]; exact (below_size (blw HB.out)) : w.heap.size ≤ gb132))
                have GE132 := Aside0.mk ((by rw [hg]; exact (below_size (blw HB.out)) : w.heap.size ≤ gb132))
                replace HB := Aside0.mk (below_step (blw HB.out) hb)
                have NB112_132 := Aside0.mk ((by rw [hg]; exact Nat.ne_of_lt (blk_lt (zk BK112.out)) : gb112 ≠ gb132))
                have NB132_112 := Aside0.mk ((by rw [hg]; exact Nat.ne_of_gt (blk_lt (zk BK112.out)) : gb132 ≠ gb112))
                replace BK112 := Aside0.mk (zb BK112.out hb)
                have NB116_132 := Aside0.mk ((by rw [hg]; exact Nat.ne_of_lt (blk_lt (zk BK116.out)) : gb116 ≠ gb132))
                have NB132_116 := Aside0.mk ((by rw [hg]; exact Nat.ne_of_gt (blk_lt (zk BK116.out)) : gb132 ≠ gb116))
                replace BK116 := Aside0.mk (zb BK116.out hb)
                have NB117_132 := Aside0.mk ((by rw [hg]; exact Nat.ne_of_lt (blk_lt (zk BK117.out)) : gb117 ≠ gb132))
                have NB132_117 := Aside0.mk ((by rw [hg]; exact Nat.ne_of_gt (blk_lt (zk BK117.out)) : gb132 ≠ gb117))
                replace BK117 := Aside0.mk (zb BK117.out hb)
                clear hb hbox hg
                refine hK.out _ _ ⟨bc BK116 0, bc BK116 1, bc BK116 2, bc BK116 3, ((HB.out.cell (World.block_lt_of_cell? w _ hw119_0)).trans hw119_0), ((HB.out.cell (World.block_lt_of_cell? w _ hw119_1)).trans hw119_1), ((HB.out.cell (World.block_lt_of_cell? w _ hw119_2)).trans hw119_2)⟩ (fun hHeld => ?_)
                clear hK K
                refine norm_ (a' := ?_) ?_ ?_
                rotate_left
                ·show Act.put _ (some 10) _ = _
                 simp only [Act.put, List.setIfInBounds_toArray, List.set_cons_zero, List.set_cons_succ, i64_w, i32_w]
                 rfl
                refine one_ (i := 7) (N := some 77) #[Y,Y,Y,Y,Y,Y,Y,Y,N,N,N,N,Y,N,N] rfl rfl (one_of HT_.out (by kernel_rfl)) (by decide) (fun K hK => ?_)
                refine Kd.R_lit_step (Kd.int .u8) _ 5 ?hg (N := 77) ?hd (xs := ([(rd_T46 l1 x8_2).f2] : List Int)) (inner := [.int .u8 ((rd_T46 l1 x8_2).f2)]) (ok := fun _ => True) (okp := fun _ => True) ?hr ?hp (fun _ hk => hk) trivial (Below.refl _ _) (Nat.le_refl _) (by simp) ?_; (case hd => rfl); (case hg => rfl); (case hr => first | (go_simp; done) | (go_simp; rfl)); (case hp => exact (Reps.one (show Kd.M (Kd.int .u8) _ _ _ ((rd_T46 l1 x8_2).f2) [.int .u8 ((rd_T46 l1 x8_2).f2)] from rfl) (Reps.none _ _)))
                intro v121 w61 ho62 hb hg_ hnew_
                clear hg_ hnew_
                (first | rw [← Ny120.out] at ho62 | (simp only [Int.reduceToNat] at ho62; rw [← Ny120.out] at ho62))
                replace HO_113000 := Aside0.mk (Kd.V_elder' (vmv HO_113000.out) (Kd.R_base ho62) hb)
                replace HO_113001 := Aside0.mk (Kd.V_elder' (vmv HO_113001.out) (Kd.R_base ho62) hb)
                replace HO_117000 := Aside0.mk (Kd.V_elder' (vmv HO_117000.out) (Kd.R_base ho62) hb)
                replace HO_117001 := Aside0.mk (Kd.V_elder' (vmv HO_117001.out) (Kd.R_base ho62) hb)
                replace HO_118000 := Aside0.mk (Kd.V_elder' (vmv HO_118000.out) (Kd.R_base ho62) hb)
                replace HO_118001 := Aside0.mk (Kd.V_elder' (vmv HO_118001.out) (Kd.R_base ho62) hb)
                have HO122 := Aside0.mk (Kd.R_lower (Kd.R_newM (M := fun k_ => (w.heap.size ≤ k_)) ho62 (below_size (blw HB.out)) (fun k_ h_ => h_)) (below_size (blw HB.out)))
                replace BK112 := Aside0.mk (zb BK112.out hb)
                replace BK116 := Aside0.mk (zb BK116.out hb)
                replace BK117 := Aside0.mk (zb BK117.out hb)
                replace BK132 := Aside0.mk (zb BK132.out hb)
                replace HB := Aside0.mk (below_step (blw HB.out) hb)
                clear hb ho62
                obtain ⟨Ao63, co63, eo63⟩ := Kd.R_slice HO122.out
                (first | subst eo63 | (injection eo63 with f1_ f2_ f3_; have f4_ := f1_.symm; have f5_ := f3_.symm; clear f1_ f2_ f3_; subst f4_; subst f5_))
                refine hK.out _ _ ⟨bc BK116 0, bc BK116 1, bc BK116 2, bc BK116 3, ((HB.out.cell (World.block_lt_of_cell? w _ hw119_0)).trans hw119_0), ((HB.out.cell (World.block_lt_of_cell? w _ hw119_1)).trans hw119_1), ((HB.out.cell (World.block_lt_of_cell? w _ hw119_2)).trans hw119_2)⟩ (fun hHeld => ?_)
                clear hK K
                refine norm_ (a' := ?_) ?_ ?_
                rotate_left
                ·show Act.put _ (some 77) _ = _
                 simp only [Act.put, List.setIfInBounds_toArray, List.set_cons_zero, List.set_cons_succ, i64_w, i32_w]
                 rfl
                refine one_ (i := 8) (N := some 78) #[Y,Y,Y,Y,Y,Y,Y,Y,Y,N,N,N,Y,N,N] rfl rfl (one_of HT_.out (by kernel_rfl)) (by decide) (fun K hK => ?_)
                refine goes_ Try.func19 (by kernel_rfl) rfl #[.agg #[.slice Ao57 x117000_2.length co57, .slice Ao58 x117001_2.length co58, .int .i64 x117002_2, .bool x117003_2], .int .i64 (Int.tmod (wrap64 ((rd_T46 l1 x8_2).f1)) (l0_0.length : Int)), .slice Ao63 y120.length co63] (by rfl) rfl rfl (by (try simp only [List.map_toArray, List.map_cons, List.map_nil]); first | done | rfl | (simp only [List.length_drop, List.length_take]; rfl)) ?_
                with_reducible refine (disk_Write.calls (fun k_ => (((((P0_0_ k_ ∨ P0_1_ k_) ∨ w.heap.size ≤ k_) ∧ (k_ ≠ gb112 ∧ (k_ ≠ gb116 ∧ k_ ≠ gb117))) ∧ k_ ≠ gb132) ∧ some k_ ≠ (.slice Ao63 y120.length co63 : Value).ownBlock)) _ _ x117000_2 (fun k_ => (((((P0_0_ k_ ∨ P0_1_ k_) ∨ w.heap.size ≤ k_) ∧ (k_ ≠ gb112 ∧ (k_ ≠ gb116 ∧ k_ ≠ gb117))) ∧ k_ ≠ gb132) ∧ some k_ ≠ (.slice Ao63 y120.length co63 : Value).ownBlock)) _ _ x117001_2 x117002_2 x117003_2 (Int.tmod (wrap64 ((rd_T46 l1 x8_2).f1)) (l0_0.length : Int)) _ _ y120 t123 t126 t129 t130 t131 _ ?side1 ?side2 ?side3 ?side4 A53.out).mono ?_
                (case side1 => exact HO_117000.out)
                (case side2 => exact HO_117001.out)
                (case side3 => repeat (first | exact (Kd.R_reads' HO122.out).2.2 | (with_reducible refine Kd.C_alloc ?_ _) | (with_reducible refine Kd.C_drewN ?_ _) | (with_reducible refine Kd.C_drew ?_)))
                (case side4 => exact (Kd.R_reads' HO122.out).2.1)
                rintro e w64 ⟨v124, v127, rfl, ho0, ho1, hb⟩
                refine ⟨_, rfl, ?_⟩
                replace HO_113000 := Aside0.mk (Kd.V_below (vmv HO_113000.out) hb)
                replace HO_113001 := Aside0.mk (Kd.V_below (vmv HO_113001.out) hb)
                replace HO_117000 := Aside0.mk (Kd.V_below (vmv HO_117000.out) hb)
                replace HO_117001 := Aside0.mk (Kd.V_below (vmv HO_117001.out) hb)
                replace HO_118000 := Aside0.mk (Kd.V_below (vmv HO_118000.out) hb)
                replace HO_118001 := Aside0.mk (Kd.V_below (vmv HO_118001.out) hb)
                obtain ⟨HO125, HO128⟩ := vlm2 (ok' := fun k_ => ((P0_0_ k_ ∨ P0_1_ k_) ∨ w.heap.size ≤ k_) ∧ some k_ ≠ (.slice Ao63 y120.length co63 : Value).ownBlock ∧ k_ ≠ gb112 ∧ k_ ≠ gb116 ∧ k_ ≠ gb117 ∧ k_ ≠ gb132) ho0 ho1 (fun k_ hk_ => ⟨Or.elim hk_ (fun hs_ => Or.elim hs_ (fun hs_ => hs_.1.1.1) (fun hs_ => hs_.1.1.1)) (fun hn_ => (.inr (Nat.le_trans (below_size (blw HB.out)) hn_))), Or.elim hk_ (fun hs_ => Or.elim hs_ (fun hs_ => hs_.2) (fun hs_ => hs_.2)) (fun hn_ => (Kd.fresh' (Kd.R_lt (rmv HO122.out)) k_ hn_)), Or.elim hk_ (fun hs_ => Or.elim hs_ (fun hs_ => hs_.1.1.2.1) (fun hs_ => hs_.1.1.2.1)) (fun hn_ => (Kd.freshB (zk BK112.out) k_ hn_)), Or.elim hk_ (fun hs_ => Or.elim hs_ (fun hs_ => hs_.1.1.2.2.1) (fun hs_ => hs_.1.1.2.2.1)) (fun hn_ => (Kd.freshB (zk BK116.out) k_ hn_)), Or.elim hk_ (fun hs_ => Or.elim hs_ (fun hs_ => hs_.1.1.2.2.2) (fun hs_ => hs_.1.1.2.2.2)) (fun hn_ => (Kd.freshB (zk BK117.out) k_ hn_)), Or.elim hk_ (fun hs_ => Or.elim hs_ (fun hs_ => hs_.1.2) (fun hs_ => hs_.1.2)) (fun hn_ => (Kd.freshB (zk BK132.out) k_ hn_))⟩) (fun _ h_ => h_) (below_size (blw HB.out))
                replace HO122 := Aside0.mk (Kd.R_below (rmv HO122.out) hb)
                replace BK112 := Aside0.mk (zb BK112.out hb)
                replace BK116 := Aside0.mk (zb BK116.out hb)
                replace BK117 := Aside0.mk (zb BK117.out hb)
                replace BK132 := Aside0.mk (zb BK132.out hb)
                replace HB := Aside0.mk (below_step (blw HB.out) hb)
                (try clear hb)
                (try clear hb2)
                (try clear hk)
                (try clear hi)
                (try clear ho0)
                (try clear ho1)
                refine hK.out _ _ ⟨bc BK116 0, bc BK116 1, bc BK116 2, bc BK116 3, ((HB.out.cell (World.block_lt_of_cell? w _ hw119_0)).trans hw119_0), ((HB.out.cell (World.block_lt_of_cell? w _ hw119_1)).trans hw119_1), ((HB.out.cell (World.block_lt_of_cell? w _ hw119_2)).trans hw119_2)⟩ (fun hHeld => ?_)
                clear hK K
                refine norm_ (a' := ?_) ?_ ?_
                rotate_left
                ·show Act.put _ (some 78) _ = _
                 simp only [Act.put, List.setIfInBounds_toArray, List.set_cons_zero, List.set_cons_succ, i64_w, i32_w]
                 rfl
                refine pureA (i := 9) (N := some 69) #[Y,Y,Y,Y,Y,Y,Y,Y,Y,Y,N,N,Y,N,N] (any_of HT_.out (by kernel_rfl)) ?_
                refine pureA (i := 10) (N := some 79) #[Y,Y,Y,Y,Y,Y,Y,Y,Y,Y,Y,N,Y,N,N] (any_of HT_.out (by kernel_rfl)) ?_
                refine pureA (i := 11) (N := some 80) #[Y,Y,Y,Y,Y,Y,Y,Y,Y,Y,Y,Y,Y,N,N] (any_of HT_.out (by kernel_rfl)) ?_
                exact normA (hCont (.slice Ao63 y120.length co63, v124, v127, gb132) _ ⟨hHeld, (by (with_reducible repeat (first | apply Kd.R_alloc | apply Kd.R_drewN | apply Kd.R_drew)); exact Kd.R_mono HO122.out (fun _ hk => hk.1)), (vmv HO125.out), (vmv HO128.out), (vmo HO_113000.out (fun _ hk => ⟨hk.1.1.1, ⟨hk.2, ⟨hk.1.1.2.1, ⟨hk.1.1.2.2.1, ⟨hk.1.1.2.2.2, hk.1.2⟩⟩⟩⟩⟩)), (vmo HO_113001.out (fun _ hk => ⟨hk.1.1.1, ⟨hk.2, ⟨hk.1.1.2.1, ⟨hk.1.1.2.2.1, ⟨hk.1.1.2.2.2, hk.1.2⟩⟩⟩⟩⟩)), (vmo HO_117000.out (fun _ hk => ⟨hk.1.1.1, ⟨hk.2, ⟨hk.1.1.2.1, ⟨hk.1.1.2.2.1, ⟨hk.1.1.2.2.2, hk.1.2⟩⟩⟩⟩⟩)), (vmo HO_117001.out (fun _ hk => ⟨hk.1.1.1, ⟨hk.2, ⟨hk.1.1.2.1, ⟨hk.1.1.2.2.1, ⟨hk.1.1.2.2.2, hk.1.2⟩⟩⟩⟩⟩)), (vmo HO_118000.out (fun _ hk => ⟨hk.1.1.1, ⟨hk.2, ⟨hk.1.1.2.1, ⟨hk.1.1.2.2.1, ⟨hk.1.1.2.2.2, hk.1.2⟩⟩⟩⟩⟩)), (vmo HO_118001.out (fun _ hk => ⟨hk.1.1.1, ⟨hk.2, ⟨hk.1.1.2.1, ⟨hk.1.1.2.2.1, ⟨hk.1.1.2.2.2, hk.1.2⟩⟩⟩⟩⟩)), (zk BK112.out), (zk BK116.out), (zk BK117.out), (zk BK132.out), GW132.out, GE132.out, NB112_132.out, NB132_112.out, NB116_132.out, NB132_116.out, NB117_132.out, NB132_117.out, (blw HB.out)⟩)
              rintro ⟨v121, v124, v127, gb132⟩ w65 ⟨hS_, h0_, h1_, h2_, h3_, h4_, h5_, h6_, h7_, h8_, h9_, h10_, h11_, h12_, h13_, h14_, h15_, h16_, h17_, h18_, h19_, h20_, h21_⟩
              have n0_ : Aside0 (Kd.R (Kd.int .u8) 5 w65 w.heap.size (fun k_ => (w.heap.size ≤ k_)) v121 y120) := ⟨h0_⟩
              have n1_ : Aside0 (Kd.V (Kd.slice 5 (Kd.int .u8)) 35 w65 w.heap.size (fun k_ => ((P0_0_ k_ ∨ P0_1_ k_) ∨ w.heap.size ≤ k_) ∧ some k_ ≠ (v121 : Value).ownBlock ∧ k_ ≠ gb112 ∧ k_ ≠ gb116 ∧ k_ ≠ gb117 ∧ k_ ≠ gb132) v124 t123) := ⟨h1_⟩
              have n2_ : Aside0 (Kd.V k54 54 w65 w.heap.size (fun k_ => ((P0_0_ k_ ∨ P0_1_ k_) ∨ w.heap.size ≤ k_) ∧ some k_ ≠ (v121 : Value).ownBlock ∧ k_ ≠ gb112 ∧ k_ ≠ gb116 ∧ k_ ≠ gb117 ∧ k_ ≠ gb132) v127 t126) := ⟨h2_⟩
              have n3_ : Aside0 (Kd.V (Kd.slice 5 (Kd.int .u8)) 35 w65 w.heap.size (fun k_ => ((P0_0_ k_ ∨ P0_1_ k_) ∨ w.heap.size ≤ k_) ∧ some k_ ≠ (v121 : Value).ownBlock ∧ k_ ≠ gb112 ∧ k_ ≠ gb116 ∧ k_ ≠ gb117 ∧ k_ ≠ gb132) (.slice A0_0 l0_0.length c0_0) l0_0) := ⟨h3_⟩
              have n4_ : Aside0 (Kd.V k54 54 w65 w.heap.size (fun k_ => ((P0_0_ k_ ∨ P0_1_ k_) ∨ w.heap.size ≤ k_) ∧ some k_ ≠ (v121 : Value).ownBlock ∧ k_ ≠ gb112 ∧ k_ ≠ gb116 ∧ k_ ≠ gb117 ∧ k_ ≠ gb132) (.slice A0_1 l0_1.length c0_1) l0_1) := ⟨h4_⟩
              have n5_ : Aside0 (Kd.V (Kd.slice 5 (Kd.int .u8)) 35 w65 w.heap.size (fun k_ => ((P0_0_ k_ ∨ P0_1_ k_) ∨ w.heap.size ≤ k_) ∧ some k_ ≠ (v121 : Value).ownBlock ∧ k_ ≠ gb112 ∧ k_ ≠ gb116 ∧ k_ ≠ gb117 ∧ k_ ≠ gb132) (.slice Ao57 x117000_2.length co57) x117000_2) := ⟨h5_⟩
              have n6_ : Aside0 (Kd.V k54 54 w65 w.heap.size (fun k_ => ((P0_0_ k_ ∨ P0_1_ k_) ∨ w.heap.size ≤ k_) ∧ some k_ ≠ (v121 : Value).ownBlock ∧ k_ ≠ gb112 ∧ k_ ≠ gb116 ∧ k_ ≠ gb117 ∧ k_ ≠ gb132) (.slice Ao58 x117001_2.length co58) x117001_2) := ⟨h6_⟩
              have n7_ : Aside0 (Kd.V (Kd.slice 5 (Kd.int .u8)) 35 w65 w.heap.size (fun k_ => ((P0_0_ k_ ∨ P0_1_ k_) ∨ w.heap.size ≤ k_) ∧ some k_ ≠ (v121 : Value).ownBlock ∧ k_ ≠ gb112 ∧ k_ ≠ gb116 ∧ k_ ≠ gb117 ∧ k_ ≠ gb132) (.slice A0_0 l0_0.length c0_0) l0_0) := ⟨h7_⟩
              have n8_ : Aside0 (Kd.V k54 54 w65 w.heap.size (fun k_ => ((P0_0_ k_ ∨ P0_1_ k_) ∨ w.heap.size ≤ k_) ∧ some k_ ≠ (v121 : Value).ownBlock ∧ k_ ≠ gb112 ∧ k_ ≠ gb116 ∧ k_ ≠ gb117 ∧ k_ ≠ gb132) (.slice A0_1 l0_1.length c0_1) l0_1) := ⟨h8_⟩
              have n9_ : Aside0 (w65.heap[gb112]? = some (.cells #[.slice A0_0 l0_0.length c0_0, .slice A0_1 l0_1.length c0_1, .int .i64 a0_2, .bool a0_3] 25 (0, 0))) := ⟨h9_⟩
              have n10_ : Aside0 (w65.heap[gb116]? = some (.cells #[.slice Ao57 x117000_2.length co57, .slice Ao58 x117001_2.length co58, .int .i64 x117002_2, .bool x117003_2] 25 (0, 0))) := ⟨h10_⟩
              have n11_ : Aside0 (w65.heap[gb117]? = some (.cells #[.slice A0_0 l0_0.length c0_0, .slice A0_1 l0_1.length c0_1, .int .i64 a0_2, .bool a0_3] 25 (0, 0))) := ⟨h11_⟩
              have n12_ : Aside0 (w65.heap[gb132]? = some (.cells #[.slice none 0 0, .slice none 0 0, .int .i64 0, .bool false] 25 (0, 0))) := ⟨h12_⟩
              have n13_ : Aside0 (w.heap.size ≤ gb132) := ⟨h13_⟩
              have n14_ : Aside0 (w.heap.size ≤ gb132) := ⟨h14_⟩
              have n15_ : Aside0 (gb112 ≠ gb132) := ⟨h15_⟩
              have n16_ : Aside0 (gb132 ≠ gb112) := ⟨h16_⟩
              have n17_ : Aside0 (gb116 ≠ gb132) := ⟨h17_⟩
              have n18_ : Aside0 (gb132 ≠ gb116) := ⟨h18_⟩
              have n19_ : Aside0 (gb117 ≠ gb132) := ⟨h19_⟩
              have n20_ : Aside0 (gb132 ≠ gb117) := ⟨h20_⟩
              have n21_ : Aside0 (Below w.heap.size w w65) := ⟨h21_⟩
              clear HO_113000 HO_113001 HO_117000 HO_117001 HO_118000 HO_118001 BK112 BK116 BK117 HB h0_ h1_ h2_ h3_ h4_ h5_ h6_ h7_ h8_ h9_ h10_ h11_ h12_ h13_ h14_ h15_ h16_ h17_ h18_ h19_ h20_ h21_
              have HO122 := n0_
              have HO125 := n1_
              have HO128 := n2_
              have HO_113000 := n3_
              have HO_113001 := n4_
              have HO_117000 := n5_
              have HO_117001 := n6_
              have HO_118000 := n7_
              have HO_118001 := n8_
              have BK112 := n9_
              have BK116 := n10_
              have BK117 := n11_
              have BK132 := n12_
              have GW132 := n13_
              have GE132 := n14_
              have NB112_132 := n15_
              have NB132_112 := n16_
              have NB116_132 := n17_
              have NB132_116 := n18_
              have NB117_132 := n19_
              have NB132_117 := n20_
              have HB := n21_
              clear n0_ n1_ n2_ n3_ n4_ n5_ n6_ n7_ n8_ n9_ n10_ n11_ n12_ n13_ n14_ n15_ n16_ n17_ n18_ n19_ n20_ n21_
              have hHeld : w65.cell? ⟨gb116, 0, none⟩ = some (.slice Ao57 x117000_2.length co57) ∧ w65.cell? ⟨gb116, 1, none⟩ = some (.slice Ao58 x117001_2.length co58) ∧ w65.cell? ⟨gb116, 2, none⟩ = some (.int .i64 x117002_2) ∧ w65.cell? ⟨gb116, 3, none⟩ = some (.bool x117003_2) ∧ w65.cell? (ad118.add ((x8_2).toNat * 3)) = some (.bool ((rd_T46 l1 x8_2).f0)) ∧ w65.cell? ⟨(ad118.add ((x8_2).toNat * 3)).block, (ad118.add ((x8_2).toNat * 3)).off + 1, none⟩ = some (.int .u8 ((rd_T46 l1 x8_2).f1)) ∧ w65.cell? ⟨(ad118.add ((x8_2).toNat * 3)).block, (ad118.add ((x8_2).toNat * 3)).off + 2, none⟩ = some (.int .u8 ((rd_T46 l1 x8_2).f2)) := hS_
              obtain ⟨Ao66, co66, eo66⟩ := Kd.V_slice HO125.out
              (first | subst eo66 | (injection eo66 with f1_ f2_ f3_; have f4_ := f1_.symm; have f5_ := f3_.symm; clear f1_ f2_ f3_; subst f4_; subst f5_))
              obtain ⟨Ao68, co68, eo68⟩ := Kd.V_slice HO128.out
              (first | subst eo68 | (injection eo68 with f1_ f2_ f3_; have f4_ := f1_.symm; have f5_ := f3_.symm; clear f1_ f2_ f3_; subst f4_; subst f5_))
              refine norm_ (a' := ?_) ?_ ?_
              rotate_left
              ·simp only [putAll, Act.put, List.setIfInBounds_toArray, List.set_cons_zero, List.set_cons_succ]
               rfl
              refine one_ (i := 13) (N := none) #[Y,Y,Y,Y,Y,Y,Y,Y,Y,Y,Y,Y,Y,Y,N] rfl rfl (one_of HT_.out (by kernel_rfl)) (by decide) (fun K hK => ?_)
              have hs67 : w65.cell? ⟨gb132, 0, none⟩ = some (.slice none 0 0) := bc BK132 0
              have hfs67 := blk_frozen BK132.out 0
              have hns67_0 := NB112_132.out
              have hns67_1 := NB116_132.out
              have hns67_2 := NB117_132.out
              have hms67_0 := NB132_112.out
              have hms67_1 := NB132_116.out
              have hms67_2 := NB132_117.out
              have hs69 : w65.cell? ⟨gb132, 1, none⟩ = some (.slice none 0 0) := bc BK132 1
              have hfs69 := blk_frozen BK132.out 1
              have hns69_0 := NB112_132.out
              have hns69_1 := NB116_132.out
              have hns69_2 := NB117_132.out
              have hms69_0 := NB132_112.out
              have hms69_1 := NB132_116.out
              have hms69_2 := NB132_117.out
              have hs70 : w65.cell? ⟨gb132, 2, none⟩ = some (.int .i64 0) := bc BK132 2
              have hfs70 := blk_frozen BK132.out 2
              have hns70_0 := NB112_132.out
              have hns70_1 := NB116_132.out
              have hns70_2 := NB117_132.out
              have hms70_0 := NB132_112.out
              have hms70_1 := NB132_116.out
              have hms70_2 := NB132_117.out
              have hs71 : w65.cell? ⟨gb132, 3, none⟩ = some (.bool false) := bc BK132 3
              have hfs71 := blk_frozen BK132.out 3
              have hns71_0 := NB112_132.out
              have hns71_1 := NB116_132.out
              have hns71_2 := NB117_132.out
              have hms71_0 := NB132_112.out
              have hms71_1 := NB132_116.out
              have hms71_2 := NB132_117.out
              refine skip_ (w1 := ?_) (by rfl) rfl ?_ ?_
              rotate_left
              ·go_simp
               rfl
              refine hK.out _ _ ⟨(cf hHeld.1), (cf hHeld.2.1), (cf hHeld.2.2.1), (cf hHeld.2.2.2.1), (cfw hw119_0 GW132 (hHeld.2.2.2.2.1)), (cfw hw119_1 GW132 (hHeld.2.2.2.2.2.1)), (cfw hw119_2 GW132 (hHeld.2.2.2.2.2.2))⟩ (fun hHeld => ?_)
              clear hK K
              refine pureA (i := 14) (N := some 11) #[Y,Y,Y,Y,Y,Y,Y,Y,Y,Y,Y,Y,Y,Y,Y] (any_of HT_.out (by kernel_rfl)) ?_
              refine done_ (done_of HT_.out (by kernel_rfl)) ?_
              have n0_ : Aside0 (Kd.V (Kd.slice 5 (Kd.int .u8)) 35 ((((w65.setCell ⟨gb132, 0, none⟩ (.slice Ao66 t123.length co66)).setCell ⟨gb132, 1, none⟩ (.slice Ao68 t126.length co68)).setCell ⟨gb132, 2, none⟩ (.int .i64 t129)).setCell ⟨gb132, 3, none⟩ (.bool t130)) w.heap.size (fun k_ => ((P0_0_ k_ ∨ P0_1_ k_) ∨ w.heap.size ≤ k_) ∧ some k_ ≠ (v121 : Value).ownBlock ∧ k_ ≠ gb112 ∧ k_ ≠ gb116 ∧ k_ ≠ gb117 ∧ k_ ≠ gb132) (.slice A0_0 l0_0.length c0_0) l0_0) := ⟨by (with_reducible repeat (first | apply Kd.V_alloc | apply Kd.V_drewN | apply Kd.V_drew)); exact Kd.V_mono (Kd.V_far (p := ⟨gb132, 3, none⟩) (Kd.V_far (p := ⟨gb132, 2, none⟩) (Kd.V_far (p := ⟨gb132, 1, none⟩) (Kd.V_far (p := ⟨gb132, 0, none⟩) (Kd.V_mono HO_113000.out (fun k_ hk => (⟨hk, hk.2.2.2.2.2⟩ : _ ∧ k_ ≠ gb132))) (fun _ hk => hk.2) (.slice Ao66 t123.length co66)) (fun _ hk => hk.2) (.slice Ao68 t126.length co68)) (fun _ hk => hk.2) (.int .i64 t129)) (fun _ hk => hk.2) (.bool t130)) (fun _ hk => ⟨hk.1.1, ⟨hk.1.2.1, ⟨hk.1.2.2.1, ⟨hk.1.2.2.2.1, ⟨hk.1.2.2.2.2.1, hk.1.2.2.2.2.2⟩⟩⟩⟩⟩)⟩
              have n1_ : Aside0 (Kd.V k54 54 ((((w65.setCell ⟨gb132, 0, none⟩ (.slice Ao66 t123.length co66)).setCell ⟨gb132, 1, none⟩ (.slice Ao68 t126.length co68)).setCell ⟨gb132, 2, none⟩ (.int .i64 t129)).setCell ⟨gb132, 3, none⟩ (.bool t130)) w.heap.size (fun k_ => ((P0_0_ k_ ∨ P0_1_ k_) ∨ w.heap.size ≤ k_) ∧ some k_ ≠ (v121 : Value).ownBlock ∧ k_ ≠ gb112 ∧ k_ ≠ gb116 ∧ k_ ≠ gb117 ∧ k_ ≠ gb132) (.slice A0_1 l0_1.length c0_1) l0_1) := ⟨by (with_reducible repeat (first | apply Kd.V_alloc | apply Kd.V_drewN | apply Kd.V_drew)); exact Kd.V_mono (Kd.V_far (p := ⟨gb132, 3, none⟩) (Kd.V_far (p := ⟨gb132, 2, none⟩) (Kd.V_far (p := ⟨gb132, 1, none⟩) (Kd.V_far (p := ⟨gb132, 0, none⟩) (Kd.V_mono HO_113001.out (fun k_ hk => (⟨hk, hk.2.2.2.2.2⟩ : _ ∧ k_ ≠ gb132))) (fun _ hk => hk.2) (.slice Ao66 t123.length co66)) (fun _ hk => hk.2) (.slice Ao68 t126.length co68)) (fun _ hk => hk.2) (.int .i64 t129)) (fun _ hk => hk.2) (.bool t130)) (fun _ hk => ⟨hk.1.1, ⟨hk.1.2.1, ⟨hk.1.2.2.1, ⟨hk.1.2.2.2.1, ⟨hk.1.2.2.2.2.1, hk.1.2.2.2.2.2⟩⟩⟩⟩⟩)⟩
              have n2_ : Aside0 (Kd.V (Kd.slice 5 (Kd.int .u8)) 35 ((((w65.setCell ⟨gb132, 0, none⟩ (.slice Ao66 t123.length co66)).setCell ⟨gb132, 1, none⟩ (.slice Ao68 t126.length co68)).setCell ⟨gb132, 2, none⟩ (.int .i64 t129)).setCell ⟨gb132, 3, none⟩ (.bool t130)) w.heap.size (fun k_ => ((P0_0_ k_ ∨ P0_1_ k_) ∨ w.heap.size ≤ k_) ∧ some k_ ≠ (v121 : Value).ownBlock ∧ k_ ≠ gb112 ∧ k_ ≠ gb116 ∧ k_ ≠ gb117 ∧ k_ ≠ gb132) (.slice Ao57 x117000_2.length co57) x117000_2) := ⟨by (with_reducible repeat (first | apply Kd.V_alloc | apply Kd.V_drewN | apply Kd.V_drew)); exact Kd.V_mono (Kd.V_far (p := ⟨gb132, 3, none⟩) (Kd.V_far (p := ⟨gb132, 2, none⟩) (Kd.V_far (p := ⟨gb132, 1, none⟩) (Kd.V_far (p := ⟨gb132, 0, none⟩) (Kd.V_mono HO_117000.out (fun k_ hk => (⟨hk, hk.2.2.2.2.2⟩ : _ ∧ k_ ≠ gb132))) (fun _ hk => hk.2) (.slice Ao66 t123.length co66)) (fun _ hk => hk.2) (.slice Ao68 t126.length co68)) (fun _ hk => hk.2) (.int .i64 t129)) (fun _ hk => hk.2) (.bool t130)) (fun _ hk => ⟨hk.1.1, ⟨hk.1.2.1, ⟨hk.1.2.2.1, ⟨hk.1.2.2.2.1, ⟨hk.1.2.2.2.2.1, hk.1.2.2.2.2.2⟩⟩⟩⟩⟩)⟩
              have n3_ : Aside0 (Kd.V k54 54 ((((w65.setCell ⟨gb132, 0, none⟩ (.slice Ao66 t123.length co66)).setCell ⟨gb132, 1, none⟩ (.slice Ao68 t126.length co68)).setCell ⟨gb132, 2, none⟩ (.int .i64 t129)).setCell ⟨gb132, 3, none⟩ (.bool t130)) w.heap.size (fun k_ => ((P0_0_ k_ ∨ P0_1_ k_) ∨ w.heap.size ≤ k_) ∧ some k_ ≠ (v121 : Value).ownBlock ∧ k_ ≠ gb112 ∧ k_ ≠ gb116 ∧ k_ ≠ gb117 ∧ k_ ≠ gb132) (.slice Ao58 x117001_2.length co58) x117001_2) := ⟨by (with_reducible repeat (first | apply Kd.V_alloc | apply Kd.V_drewN | apply Kd.V_drew)); exact Kd.V_mono (Kd.V_far (p := ⟨gb132, 3, none⟩) (Kd.V_far (p := ⟨gb132, 2, none⟩) (Kd.V_far (p := ⟨gb132, 1, none⟩) (Kd.V_far (p := ⟨gb132, 0, none⟩) (Kd.V_mono HO_117001.out (fun k_ hk => (⟨hk, hk.2.2.2.2.2⟩ : _ ∧ k_ ≠ gb132))) (fun _ hk => hk.2) (.slice Ao66 t123.length co66)) (fun _ hk => hk.2) (.slice Ao68 t126.length co68)) (fun _ hk => hk.2) (.int .i64 t129)) (fun _ hk => hk.2) (.bool t130)) (fun _ hk => ⟨hk.1.1, ⟨hk.1.2.1, ⟨hk.1.2.2.1, ⟨hk.1.2.2.2.1, ⟨hk.1.2.2.2.2.1, hk.1.2.2.2.2.2⟩⟩⟩⟩⟩)⟩
              have n4_ : Aside0 (Kd.V (Kd.slice 5 (Kd.int .u8)) 35 ((((w65.setCell ⟨gb132, 0, none⟩ (.slice Ao66 t123.length co66)).setCell ⟨gb132, 1, none⟩ (.slice Ao68 t126.length co68)).setCell ⟨gb132, 2, none⟩ (.int .i64 t129)).setCell ⟨gb132, 3, none⟩ (.bool t130)) w.heap.size (fun k_ => ((P0_0_ k_ ∨ P0_1_ k_) ∨ w.heap.size ≤ k_) ∧ some k_ ≠ (v121 : Value).ownBlock ∧ k_ ≠ gb112 ∧ k_ ≠ gb116 ∧ k_ ≠ gb117 ∧ k_ ≠ gb132) (.slice A0_0 l0_0.length c0_0) l0_0) := ⟨by (with_reducible repeat (first | apply Kd.V_alloc | apply Kd.V_drewN | apply Kd.V_drew)); exact Kd.V_mono (Kd.V_far (p := ⟨gb132, 3, none⟩) (Kd.V_far (p := ⟨gb132, 2, none⟩) (Kd.V_far (p := ⟨gb132, 1, none⟩) (Kd.V_far (p := ⟨gb132, 0, none⟩) (Kd.V_mono HO_118000.out (fun k_ hk => (⟨hk, hk.2.2.2.2.2⟩ : _ ∧ k_ ≠ gb132))) (fun _ hk => hk.2) (.slice Ao66 t123.length co66)) (fun _ hk => hk.2) (.slice Ao68 t126.length co68)) (fun _ hk => hk.2) (.int .i64 t129)) (fun _ hk => hk.2) (.bool t130)) (fun _ hk => ⟨hk.1.1, ⟨hk.1.2.1, ⟨hk.1.2.2.1, ⟨hk.1.2.2.2.1, ⟨hk.1.2.2.2.2.1, hk.1.2.2.2.2.2⟩⟩⟩⟩⟩)⟩
              have n5_ : Aside0 (Kd.V k54 54 ((((w65.setCell ⟨gb132, 0, none⟩ (.slice Ao66 t123.length co66)).setCell ⟨gb132, 1, none⟩ (.slice Ao68 t126.length co68)).setCell ⟨gb132, 2, none⟩ (.int .i64 t129)).setCell ⟨gb132, 3, none⟩ (.bool t130)) w.heap.size (fun k_ => ((P0_0_ k_ ∨ P0_1_ k_) ∨ w.heap.size ≤ k_) ∧ some k_ ≠ (v121 : Value).ownBlock ∧ k_ ≠ gb112 ∧ k_ ≠ gb116 ∧ k_ ≠ gb117 ∧ k_ ≠ gb132) (.slice A0_1 l0_1.length c0_1) l0_1) := ⟨by (with_reducible repeat (first | apply Kd.V_alloc | apply Kd.V_drewN | apply Kd.V_drew)); exact Kd.V_mono (Kd.V_far (p := ⟨gb132, 3, none⟩) (Kd.V_far (p := ⟨gb132, 2, none⟩) (Kd.V_far (p := ⟨gb132, 1, none⟩) (Kd.V_far (p := ⟨gb132, 0, none⟩) (Kd.V_mono HO_118001.out (fun k_ hk => (⟨hk, hk.2.2.2.2.2⟩ : _ ∧ k_ ≠ gb132))) (fun _ hk => hk.2) (.slice Ao66 t123.length co66)) (fun _ hk => hk.2) (.slice Ao68 t126.length co68)) (fun _ hk => hk.2) (.int .i64 t129)) (fun _ hk => hk.2) (.bool t130)) (fun _ hk => ⟨hk.1.1, ⟨hk.1.2.1, ⟨hk.1.2.2.1, ⟨hk.1.2.2.2.1, ⟨hk.1.2.2.2.2.1, hk.1.2.2.2.2.2⟩⟩⟩⟩⟩)⟩
              have n6_ : Aside0 (Kd.R (Kd.int .u8) 5 ((((w65.setCell ⟨gb132, 0, none⟩ (.slice Ao66 t123.length co66)).setCell ⟨gb132, 1, none⟩ (.slice Ao68 t126.length co68)).setCell ⟨gb132, 2, none⟩ (.int .i64 t129)).setCell ⟨gb132, 3, none⟩ (.bool t130)) w.heap.size (fun k_ => (w.heap.size ≤ k_)) v121 y120) := ⟨by (with_reducible repeat (first | apply Kd.R_alloc | apply Kd.R_drewN | apply Kd.R_drew)); exact Kd.R_mono (Kd.R_far (p := ⟨gb132, 3, none⟩) (Kd.R_far (p := ⟨gb132, 2, none⟩) (Kd.R_far (p := ⟨gb132, 1, none⟩) (Kd.R_far (p := ⟨gb132, 0, none⟩) (Kd.R_types HO122.out BK132.out (by decide)) (fun _ hk => hk.2) (.slice Ao66 t123.length co66)) (fun _ hk => hk.2) (.slice Ao68 t126.length co68)) (fun _ hk => hk.2) (.int .i64 t129)) (fun _ hk => hk.2) (.bool t130)) (fun _ hk => hk.1)⟩
              have n7_ : Aside0 (Kd.V (Kd.slice 5 (Kd.int .u8)) 35 ((((w65.setCell ⟨gb132, 0, none⟩ (.slice Ao66 t123.length co66)).setCell ⟨gb132, 1, none⟩ (.slice Ao68 t126.length co68)).setCell ⟨gb132, 2, none⟩ (.int .i64 t129)).setCell ⟨gb132, 3, none⟩ (.bool t130)) w.heap.size (fun k_ => ((P0_0_ k_ ∨ P0_1_ k_) ∨ w.heap.size ≤ k_) ∧ some k_ ≠ (v121 : Value).ownBlock ∧ k_ ≠ gb112 ∧ k_ ≠ gb116 ∧ k_ ≠ gb117 ∧ k_ ≠ gb132) (.slice Ao66 t123.length co66) t123) := ⟨by (with_reducible repeat (first | apply Kd.V_alloc | apply Kd.V_drewN | apply Kd.V_drew)); exact Kd.V_mono (Kd.V_far (p := ⟨gb132, 3, none⟩) (Kd.V_far (p := ⟨gb132, 2, none⟩) (Kd.V_far (p := ⟨gb132, 1, none⟩) (Kd.V_far (p := ⟨gb132, 0, none⟩) (Kd.V_mono HO125.out (fun k_ hk => (⟨hk, hk.2.2.2.2.2⟩ : _ ∧ k_ ≠ gb132))) (fun _ hk => hk.2) (.slice Ao66 t123.length co66)) (fun _ hk => hk.2) (.slice Ao68 t126.length co68)) (fun _ hk => hk.2) (.int .i64 t129)) (fun _ hk => hk.2) (.bool t130)) (fun _ hk => ⟨hk.1.1, ⟨hk.1.2.1, ⟨hk.1.2.2.1, ⟨hk.1.2.2.2.1, ⟨hk.1.2.2.2.2.1, hk.1.2.2.2.2.2⟩⟩⟩⟩⟩)⟩
              have n8_ : Aside0 (Kd.V k54 54 ((((w65.setCell ⟨gb132, 0, none⟩ (.slice Ao66 t123.length co66)).setCell ⟨gb132, 1, none⟩ (.slice Ao68 t126.length co68)).setCell ⟨gb132, 2, none⟩ (.int .i64 t129)).setCell ⟨gb132, 3, none⟩ (.bool t130)) w.heap.size (fun k_ => ((P0_0_ k_ ∨ P0_1_ k_) ∨ w.heap.size ≤ k_) ∧ some k_ ≠ (v121 : Value).ownBlock ∧ k_ ≠ gb112 ∧ k_ ≠ gb116 ∧ k_ ≠ gb117 ∧ k_ ≠ gb132) (.slice Ao68 t126.length co68) t126) := ⟨by (with_reducible repeat (first | apply Kd.V_alloc | apply Kd.V_drewN | apply Kd.V_drew)); exact Kd.V_mono (Kd.V_far (p := ⟨gb132, 3, none⟩) (Kd.V_far (p := ⟨gb132, 2, none⟩) (Kd.V_far (p := ⟨gb132, 1, none⟩) (Kd.V_far (p := ⟨gb132, 0, none⟩) (Kd.V_mono HO128.out (fun k_ hk => (⟨hk, hk.2.2.2.2.2⟩ : _ ∧ k_ ≠ gb132))) (fun _ hk => hk.2) (.slice Ao66 t123.length co66)) (fun _ hk => hk.2) (.slice Ao68 t126.length co68)) (fun _ hk => hk.2) (.int .i64 t129)) (fun _ hk => hk.2) (.bool t130)) (fun _ hk => ⟨hk.1.1, ⟨hk.1.2.1, ⟨hk.1.2.2.1, ⟨hk.1.2.2.2.1, ⟨hk.1.2.2.2.2.1, hk.1.2.2.2.2.2⟩⟩⟩⟩⟩)⟩
              have n9_ : Aside0 (((((w65.setCell ⟨gb132, 0, none⟩ (.slice Ao66 t123.length co66)).setCell ⟨gb132, 1, none⟩ (.slice Ao68 t126.length co68)).setCell ⟨gb132, 2, none⟩ (.int .i64 t129)).setCell ⟨gb132, 3, none⟩ (.bool t130)).heap[gb112]? = some (.cells #[.slice A0_0 l0_0.length c0_0, .slice A0_1 l0_1.length c0_1, .int .i64 a0_2, .bool a0_3] 25 (0, 0))) := ⟨zf BK112.out⟩
              have n10_ : Aside0 (((((w65.setCell ⟨gb132, 0, none⟩ (.slice Ao66 t123.length co66)).setCell ⟨gb132, 1, none⟩ (.slice Ao68 t126.length co68)).setCell ⟨gb132, 2, none⟩ (.int .i64 t129)).setCell ⟨gb132, 3, none⟩ (.bool t130)).heap[gb116]? = some (.cells #[.slice Ao57 x117000_2.length co57, .slice Ao58 x117001_2.length co58, .int .i64 x117002_2, .bool x117003_2] 25 (0, 0))) := ⟨zf BK116.out⟩
              have n11_ : Aside0 (((((w65.setCell ⟨gb132, 0, none⟩ (.slice Ao66 t123.length co66)).setCell ⟨gb132, 1, none⟩ (.slice Ao68 t126.length co68)).setCell ⟨gb132, 2, none⟩ (.int .i64 t129)).setCell ⟨gb132, 3, none⟩ (.bool t130)).heap[gb117]? = some (.cells #[.slice A0_0 l0_0.length c0_0, .slice A0_1 l0_1.length c0_1, .int .i64 a0_2, .bool a0_3] 25 (0, 0))) := ⟨zf BK117.out⟩
              have n12_ : Aside0 (((((w65.setCell ⟨gb132, 0, none⟩ (.slice Ao66 t123.length co66)).setCell ⟨gb132, 1, none⟩ (.slice Ao68 t126.length co68)).setCell ⟨gb132, 2, none⟩ (.int .i64 t129)).setCell ⟨gb132, 3, none⟩ (.bool t130)).heap[gb132]? = some (.cells #[.slice Ao66 t123.length co66, .slice Ao68 t126.length co68, .int .i64 t129, .bool t130] 25 (0, 0))) := ⟨by (with_reducible repeat (first | refine blk_drewN ?_ _ | refine blk_drew ?_ | refine blk_alloc ?_ _)); refine blk_put (cs := #[.slice Ao66 t123.length co66, .slice Ao68 t126.length co68, .int .i64 t129, .bool false]) ?_ 3 _ rfl; (with_reducible repeat (first | refine blk_drewN ?_ _ | refine blk_drew ?_ | refine blk_alloc ?_ _)); refine blk_put (cs := #[.slice Ao66 t123.length co66, .slice Ao68 t126.length co68, .int .i64 0, .bool false]) ?_ 2 _ rfl; (with_reducible repeat (first | refine blk_drewN ?_ _ | refine blk_drew ?_ | refine blk_alloc ?_ _)); refine blk_put (cs := #[.slice Ao66 t123.length co66, .slice none 0 0, .int .i64 0, .bool false]) ?_ 1 _ rfl; (with_reducible repeat (first | refine blk_drewN ?_ _ | refine blk_drew ?_ | refine blk_alloc ?_ _)); refine blk_put (cs := #[.slice none 0 0, .slice none 0 0, .int .i64 0, .bool false]) ?_ 0 _ rfl; (with_reducible repeat (first | refine blk_drewN ?_ _ | refine blk_drew ?_ | refine blk_alloc ?_ _)); exact BK132.out⟩
              have n13_ : Aside0 (Below w.heap.size w ((((w65.setCell ⟨gb132, 0, none⟩ (.slice Ao66 t123.length co66)).setCell ⟨gb132, 1, none⟩ (.slice Ao68 t126.length co68)).setCell ⟨gb132, 2, none⟩ (.int .i64 t129)).setCell ⟨gb132, 3, none⟩ (.bool t130))) := ⟨blw HB.out⟩
              (try clear HO_113000)
              (try clear HO_113001)
              (try clear HO_117000)
              (try clear HO_117001)
              (try clear HO_118000)
              (try clear HO_118001)
              (try clear HO122)
              (try clear HO125)
              (try clear HO128)
              (try clear BK112)
              (try clear BK116)
              (try clear BK117)
              (try clear BK132)
              (try clear HB)
              generalize ((((w65.setCell ⟨gb132, 0, none⟩ (.slice Ao66 t123.length co66)).setCell ⟨gb132, 1, none⟩ (.slice Ao68 t126.length co68)).setCell ⟨gb132, 2, none⟩ (.int .i64 t129)).setCell ⟨gb132, 3, none⟩ (.bool t130)) = w72 at n0_ n1_ n2_ n3_ n4_ n5_ n6_ n7_ n8_ n9_ n10_ n11_ n12_ n13_ ⊢
              have HO_113000 := n0_
              have HO_113001 := n1_
              have HO_117000 := n2_
              have HO_117001 := n3_
              have HO_118000 := n4_
              have HO_118001 := n5_
              have HO122 := n6_
              have HO125 := n7_
              have HO128 := n8_
              have BK112 := n9_
              have BK116 := n10_
              have BK117 := n11_
              have BK132 := n12_
              have HB := n13_
              clear n0_ n1_ n2_ n3_ n4_ n5_ n6_ n7_ n8_ n9_ n10_ n11_ n12_ n13_
              have hnb73 := NB132_112.out
              have hnc73 := NB112_132.out
              have hnb74 := NB132_116.out
              have hnc74 := NB116_132.out
              have hnb75 := NB132_117.out
              have hnc75 := NB117_132.out
              have hcz76_0 : w72.cell? ⟨gb132, 0, none⟩ = some (.slice Ao66 t123.length co66) := bc BK132 0
              have hcz76_1 : w72.cell? ⟨gb132, 1, none⟩ = some (.slice Ao68 t126.length co68) := bc BK132 1
              have hcz76_2 : w72.cell? ⟨gb132, 2, none⟩ = some (.int .i64 t129) := bc BK132 2
              have hcz76_3 : w72.cell? ⟨gb132, 3, none⟩ = some (.bool t130) := bc BK132 3
              have hfz76_0 := blk_frozen BK132.out 0
              have hfz76_1 := blk_frozen BK132.out 1
              have hfz76_2 := blk_frozen BK132.out 2
              have hfz76_3 := blk_frozen BK132.out 3
              try go_wp2_with (first | ((with_reducible refine gate_callee (f := 23) rfl ?_); refine goesL_ (some 85) rfl rfl Try.func23 (by kernel_rfl) rfl #[.agg #[.slice Ao66 t123.length co66, .slice Ao68 t126.length co68, .int .i64 t129, .bool t130]] rfl (by (try simp only [List.map_toArray, List.map_cons, List.map_nil]); first | done | rfl | (simp only [List.length_drop, List.length_take]; rfl)) ?_; (with_reducible refine (disk_Sync.calls (fun k_ => (((P0_0_ k_ ∨ P0_1_ k_) ∨ w.heap.size ≤ k_) ∧ (some k_ ≠ (v121 : Value).ownBlock ∧ (k_ ≠ gb112 ∧ (k_ ≠ gb116 ∧ (k_ ≠ gb117 ∧ k_ ≠ gb132)))))) _ _ t123 (fun k_ => (((P0_0_ k_ ∨ P0_1_ k_) ∨ w.heap.size ≤ k_) ∧ (some k_ ≠ (v121 : Value).ownBlock ∧ (k_ ≠ gb112 ∧ (k_ ≠ gb116 ∧ (k_ ≠ gb117 ∧ k_ ≠ gb132)))))) _ _ t126 t129 t130 t133 t136 t139 t140 t141 _ ?side1 ?side2 A55.out).mono ?_); (case side1 => exact HO125.out); (case side2 => exact HO128.out); rintro e w77 ⟨v134, v137, rfl, ho0, ho1, hb⟩; refine ⟨_, rfl, ?_⟩; replace HO_113000 := Aside0.mk (Kd.V_below (vmv HO_113000.out) hb); replace HO_113001 := Aside0.mk (Kd.V_below (vmv HO_113001.out) hb); replace HO_117000 := Aside0.mk (Kd.V_below (vmv HO_117000.out) hb); replace HO_117001 := Aside0.mk (Kd.V_below (vmv HO_117001.out) hb); replace HO_118000 := Aside0.mk (Kd.V_below (vmv HO_118000.out) hb); replace HO_118001 := Aside0.mk (Kd.V_below (vmv HO_118001.out) hb); replace HO125 := Aside0.mk (Kd.V_below (vmv HO125.out) hb); replace HO128 := Aside0.mk (Kd.V_below (vmv HO128.out) hb); have HO135 := Aside0.mk (Kd.V_lower (Kd.V_mono (ok' := fun k_ => ((P0_0_ k_ ∨ P0_1_ k_) ∨ w.heap.size ≤ k_) ∧ some k_ ≠ (v121 : Value).ownBlock ∧ k_ ≠ gb112 ∧ k_ ≠ gb116 ∧ k_ ≠ gb117 ∧ k_ ≠ gb132) ho0 (fun k_ hk_ => ⟨Or.elim hk_ (fun hs_ => Or.elim hs_ (fun hs_ => hs_.1) (fun hs_ => hs_.1)) (fun hn_ => (.inr (Nat.le_trans (below_size (blw HB.out)) hn_))), Or.elim hk_ (fun hs_ => Or.elim hs_ (fun hs_ => hs_.2.1) (fun hs_ => hs_.2.1)) (fun hn_ => (Kd.fresh' (Kd.R_lt (rmv HO122.out)) k_ hn_)), Or.elim hk_ (fun hs_ => Or.elim hs_ (fun hs_ => hs_.2.2.1) (fun hs_ => hs_.2.2.1)) (fun hn_ => (Kd.freshB (zk BK112.out) k_ hn_)), Or.elim hk_ (fun hs_ => Or.elim hs_ (fun hs_ => hs_.2.2.2.1) (fun hs_ => hs_.2.2.2.1)) (fun hn_ => (Kd.freshB (zk BK116.out) k_ hn_)), Or.elim hk_ (fun hs_ => Or.elim hs_ (fun hs_ => hs_.2.2.2.2.1) (fun hs_ => hs_.2.2.2.2.1)) (fun hn_ => (Kd.freshB (zk BK117.out) k_ hn_)), Or.elim hk_ (fun hs_ => Or.elim hs_ (fun hs_ => hs_.2.2.2.2.2) (fun hs_ => hs_.2.2.2.2.2)) (fun hn_ => (Kd.freshB (zk BK132.out) k_ hn_))⟩)) (below_size (blw HB.out))); have HO138 := Aside0.mk (Kd.V_lower (Kd.V_mono (ok' := fun k_ => ((P0_0_ k_ ∨ P0_1_ k_) ∨ w.heap.size ≤ k_) ∧ some k_ ≠ (v121 : Value).ownBlock ∧ k_ ≠ gb112 ∧ k_ ≠ gb116 ∧ k_ ≠ gb117 ∧ k_ ≠ gb132) ho1 (fun k_ hk_ => ⟨Or.elim hk_ (fun hs_ => Or.elim hs_ (fun hs_ => hs_.1) (fun hs_ => hs_.1)) (fun hn_ => (.inr (Nat.le_trans (below_size (blw HB.out)) hn_))), Or.elim hk_ (fun hs_ => Or.elim hs_ (fun hs_ => hs_.2.1) (fun hs_ => hs_.2.1)) (fun hn_ => (Kd.fresh' (Kd.R_lt (rmv HO122.out)) k_ hn_)), Or.elim hk_ (fun hs_ => Or.elim hs_ (fun hs_ => hs_.2.2.1) (fun hs_ => hs_.2.2.1)) (fun hn_ => (Kd.freshB (zk BK112.out) k_ hn_)), Or.elim hk_ (fun hs_ => Or.elim hs_ (fun hs_ => hs_.2.2.2.1) (fun hs_ => hs_.2.2.2.1)) (fun hn_ => (Kd.freshB (zk BK116.out) k_ hn_)), Or.elim hk_ (fun hs_ => Or.elim hs_ (fun hs_ => hs_.2.2.2.2.1) (fun hs_ => hs_.2.2.2.2.1)) (fun hn_ => (Kd.freshB (zk BK117.out) k_ hn_)), Or.elim hk_ (fun hs_ => Or.elim hs_ (fun hs_ => hs_.2.2.2.2.2) (fun hs_ => hs_.2.2.2.2.2)) (fun hn_ => (Kd.freshB (zk BK132.out) k_ hn_))⟩)) (below_size (blw HB.out))); replace HO122 := Aside0.mk (Kd.R_below (rmv HO122.out) hb); replace BK112 := Aside0.mk (zb BK112.out hb); replace BK116 := Aside0.mk (zb BK116.out hb); replace BK117 := Aside0.mk (zb BK117.out hb); replace BK132 := Aside0.mk (zb BK132.out hb); replace HB := Aside0.mk (below_step (blw HB.out) hb); (try clear hb); (try clear hb2); (try clear hk); (try clear hi); (try clear ho0); (try clear ho1); obtain ⟨Ao78, co78, eo78⟩ := Kd.V_slice HO135.out; subst eo78; have hnb79 := NB116_112.out; have hnc79 := NB112_116.out; have hnb80 := NB116_117.out; have hnc80 := NB117_116.out; have hcz81_0 : w77.cell? ⟨gb116, 0, none⟩ = some (.slice Ao57 x117000_2.length co57) := bc BK116 0; have hcz81_1 : w77.cell? ⟨gb116, 1, none⟩ = some (.slice Ao58 x117001_2.length co58) := bc BK116 1; have hcz81_2 : w77.cell? ⟨gb116, 2, none⟩ = some (.int .i64 x117002_2) := bc BK116 2; have hcz81_3 : w77.cell? ⟨gb116, 3, none⟩ = some (.bool x117003_2) := bc BK116 3; have hfz81_0 := blk_frozen BK116.out 0; have hfz81_1 := blk_frozen BK116.out 1; have hfz81_2 := blk_frozen BK116.out 2; have hfz81_3 := blk_frozen BK116.out 3; obtain ⟨Ao82, co82, eo82⟩ := Kd.V_slice HO138.out; subst eo82))
              go_roundg kj46
              case measure => have := HJ4.out; have := HK2.out; have := HJ46.out; omega
              case rel => exact ⟨(t141), (wrap64 (x8_2 + 1)), (t133), (t136), (t139), (t140), (.slice Ao78 t133.length co78), (.slice Ao82 t136.length co82), (by first | rfl | (simp; done) | (simp [*]; done)), (by first | rfl | (simp; done) | (simp [*]; done)), H', ⟨by have := HJ4.out; have := HK2.out; have := HJ46.out; omega⟩, ⟨by (with_reducible repeat (first | apply Kd.V_alloc | apply Kd.V_drewN | apply Kd.V_drew)); exact Kd.V_mono (Kd.V_far (p := ⟨gb116, 3, none⟩) (Kd.V_far (p := ⟨gb116, 2, none⟩) (Kd.V_far (p := ⟨gb116, 1, none⟩) (Kd.V_far (p := ⟨gb116, 0, none⟩) (Kd.V_mono HO_113000.out (fun k_ hk => (⟨hk, hk.2.2.2.1⟩ : _ ∧ k_ ≠ gb116))) (fun _ hk => hk.2) (.slice Ao78 t133.length co78)) (fun _ hk => hk.2) (.slice Ao82 t136.length co82)) (fun _ hk => hk.2) (.int .i64 t139)) (fun _ hk => hk.2) (.bool t140)) (fun _ hk => ⟨hk.1.1, ⟨hk.1.2.2.1, ⟨hk.1.2.2.2.1, hk.1.2.2.2.2.1⟩⟩⟩)⟩, ⟨by (with_reducible repeat (first | apply Kd.V_alloc | apply Kd.V_drewN | apply Kd.V_drew)); exact Kd.V_mono (Kd.V_far (p := ⟨gb116, 3, none⟩) (Kd.V_far (p := ⟨gb116, 2, none⟩) (Kd.V_far (p := ⟨gb116, 1, none⟩) (Kd.V_far (p := ⟨gb116, 0, none⟩) (Kd.V_mono HO_113001.out (fun k_ hk => (⟨hk, hk.2.2.2.1⟩ : _ ∧ k_ ≠ gb116))) (fun _ hk => hk.2) (.slice Ao78 t133.length co78)) (fun _ hk => hk.2) (.slice Ao82 t136.length co82)) (fun _ hk => hk.2) (.int .i64 t139)) (fun _ hk => hk.2) (.bool t140)) (fun _ hk => ⟨hk.1.1, ⟨hk.1.2.2.1, ⟨hk.1.2.2.2.1, hk.1.2.2.2.2.1⟩⟩⟩)⟩, ⟨by (with_reducible repeat (first | apply Kd.V_alloc | apply Kd.V_drewN | apply Kd.V_drew)); exact Kd.V_mono (Kd.V_far (p := ⟨gb116, 3, none⟩) (Kd.V_far (p := ⟨gb116, 2, none⟩) (Kd.V_far (p := ⟨gb116, 1, none⟩) (Kd.V_far (p := ⟨gb116, 0, none⟩) (Kd.V_mono HO135.out (fun k_ hk => (⟨hk, hk.2.2.2.1⟩ : _ ∧ k_ ≠ gb116))) (fun _ hk => hk.2) (.slice Ao78 t133.length co78)) (fun _ hk => hk.2) (.slice Ao82 t136.length co82)) (fun _ hk => hk.2) (.int .i64 t139)) (fun _ hk => hk.2) (.bool t140)) (fun _ hk => ⟨hk.1.1, ⟨hk.1.2.2.1, ⟨hk.1.2.2.2.1, hk.1.2.2.2.2.1⟩⟩⟩)⟩, ⟨by (with_reducible repeat (first | apply Kd.V_alloc | apply Kd.V_drewN | apply Kd.V_drew)); exact Kd.V_mono (Kd.V_far (p := ⟨gb116, 3, none⟩) (Kd.V_far (p := ⟨gb116, 2, none⟩) (Kd.V_far (p := ⟨gb116, 1, none⟩) (Kd.V_far (p := ⟨gb116, 0, none⟩) (Kd.V_mono HO138.out (fun k_ hk => (⟨hk, hk.2.2.2.1⟩ : _ ∧ k_ ≠ gb116))) (fun _ hk => hk.2) (.slice Ao78 t133.length co78)) (fun _ hk => hk.2) (.slice Ao82 t136.length co82)) (fun _ hk => hk.2) (.int .i64 t139)) (fun _ hk => hk.2) (.bool t140)) (fun _ hk => ⟨hk.1.1, ⟨hk.1.2.2.1, ⟨hk.1.2.2.2.1, hk.1.2.2.2.2.1⟩⟩⟩)⟩, ⟨by (with_reducible repeat (first | apply Kd.V_alloc | apply Kd.V_drewN | apply Kd.V_drew)); exact Kd.V_mono (Kd.V_far (p := ⟨gb116, 3, none⟩) (Kd.V_far (p := ⟨gb116, 2, none⟩) (Kd.V_far (p := ⟨gb116, 1, none⟩) (Kd.V_far (p := ⟨gb116, 0, none⟩) (Kd.V_mono HO_118000.out (fun k_ hk => (⟨hk, hk.2.2.2.1⟩ : _ ∧ k_ ≠ gb116))) (fun _ hk => hk.2) (.slice Ao78 t133.length co78)) (fun _ hk => hk.2) (.slice Ao82 t136.length co82)) (fun _ hk => hk.2) (.int .i64 t139)) (fun _ hk => hk.2) (.bool t140)) (fun _ hk => ⟨hk.1.1, ⟨hk.1.2.2.1, ⟨hk.1.2.2.2.1, hk.1.2.2.2.2.1⟩⟩⟩)⟩, ⟨by (with_reducible repeat (first | apply Kd.V_alloc | apply Kd.V_drewN | apply Kd.V_drew)); exact Kd.V_mono (Kd.V_far (p := ⟨gb116, 3, none⟩) (Kd.V_far (p := ⟨gb116, 2, none⟩) (Kd.V_far (p := ⟨gb116, 1, none⟩) (Kd.V_far (p := ⟨gb116, 0, none⟩) (Kd.V_mono HO_118001.out (fun k_ hk => (⟨hk, hk.2.2.2.1⟩ : _ ∧ k_ ≠ gb116))) (fun _ hk => hk.2) (.slice Ao78 t133.length co78)) (fun _ hk => hk.2) (.slice Ao82 t136.length co82)) (fun _ hk => hk.2) (.int .i64 t139)) (fun _ hk => hk.2) (.bool t140)) (fun _ hk => ⟨hk.1.1, ⟨hk.1.2.2.1, ⟨hk.1.2.2.2.1, hk.1.2.2.2.2.1⟩⟩⟩)⟩, ⟨zf BK112.out⟩, ⟨by (with_reducible repeat (first | refine blk_drewN ?_ _ | refine blk_drew ?_ | refine blk_alloc ?_ _)); refine blk_put (cs := #[.slice Ao78 t133.length co78, .slice Ao82 t136.length co82, .int .i64 t139, .bool x117003_2]) ?_ 3 _ rfl; (with_reducible repeat (first | refine blk_drewN ?_ _ | refine blk_drew ?_ | refine blk_alloc ?_ _)); refine blk_put (cs := #[.slice Ao78 t133.length co78, .slice Ao82 t136.length co82, .int .i64 x117002_2, .bool x117003_2]) ?_ 2 _ rfl; (with_reducible repeat (first | refine blk_drewN ?_ _ | refine blk_drew ?_ | refine blk_alloc ?_ _)); refine blk_put (cs := #[.slice Ao78 t133.length co78, .slice Ao58 x117001_2.length co58, .int .i64 x117002_2, .bool x117003_2]) ?_ 1 _ rfl; (with_reducible repeat (first | refine blk_drewN ?_ _ | refine blk_drew ?_ | refine blk_alloc ?_ _)); refine blk_put (cs := #[.slice Ao57 x117000_2.length co57, .slice Ao58 x117001_2.length co58, .int .i64 x117002_2, .bool x117003_2]) ?_ 0 _ rfl; (with_reducible repeat (first | refine blk_drewN ?_ _ | refine blk_drew ?_ | refine blk_alloc ?_ _)); exact BK116.out⟩, ⟨zf BK117.out⟩, ⟨blw HB.out⟩⟩
             ·rw [if_neg c54] at H
              exact absurd H (by simp)
           ·rw [if_neg c51] at H
            exact absurd H (by simp)
          ·rw [if_neg c50] at H
           exact absurd H (by simp)
         ·replace c49 := Bool.eq_false_iff.mpr c49
          subst c49
          have H1 : (fastilaw04_DiskTogether.l1 kj46 l1 x7_2 0 l0_0 l0_1 a0_2 a0_3 x117000_2 x117001_2 x117002_2 x117003_2 l0_0 l0_1 a0_2 a0_3) = some r := by rw [if_neg (show ¬ (false = true) by decide)] at H; exact H
          clear H
          have H := H1
          clear H1
          have H' := Aside0.mk H
          clear H
          go_wp2
          go_loopg [12] kj46 (fun kq v12 w' => ∃ (x12_4 : Int) (x118000_4 : List (List Int)) (x118001_4 : List (S54)) (x118002_4 : Int) (x118003_4 : Bool) (u118000 : Value) (u118001 : Value), v12 = .int .i64 x12_4 ∧ Aside0 (fastilaw04_DiskTogether.l1 kq l1 x7_2 x12_4 l0_0 l0_1 a0_2 a0_3 x117000_2 x117001_2 x117002_2 x117003_2 x118000_4 x118001_4 x118002_4 x118003_4 = some r) ∧ Aside0 (kq ≤ kj46) ∧ Aside0 (Kd.V (Kd.slice 5 (Kd.int .u8)) 35 w' w.heap.size (fun k_ => ((P0_0_ k_ ∨ P0_1_ k_) ∨ w.heap.size ≤ k_) ∧ k_ ≠ gb112 ∧ k_ ≠ gb116 ∧ k_ ≠ gb117) (.slice A0_0 l0_0.length c0_0) l0_0) ∧ Aside0 (Kd.V k54 54 w' w.heap.size (fun k_ => ((P0_0_ k_ ∨ P0_1_ k_) ∨ w.heap.size ≤ k_) ∧ k_ ≠ gb112 ∧ k_ ≠ gb116 ∧ k_ ≠ gb117) (.slice A0_1 l0_1.length c0_1) l0_1) ∧ Aside0 (Kd.V (Kd.slice 5 (Kd.int .u8)) 35 w' w.heap.size (fun k_ => ((P0_0_ k_ ∨ P0_1_ k_) ∨ w.heap.size ≤ k_) ∧ k_ ≠ gb112 ∧ k_ ≠ gb116 ∧ k_ ≠ gb117) u117000 x117000_2) ∧ Aside0 (Kd.V k54 54 w' w.heap.size (fun k_ => ((P0_0_ k_ ∨ P0_1_ k_) ∨ w.heap.size ≤ k_) ∧ k_ ≠ gb112 ∧ k_ ≠ gb116 ∧ k_ ≠ gb117) u117001 x117001_2) ∧ Aside0 (Kd.V (Kd.slice 5 (Kd.int .u8)) 35 w' w.heap.size (fun k_ => ((P0_0_ k_ ∨ P0_1_ k_) ∨ w.heap.size ≤ k_) ∧ k_ ≠ gb112 ∧ k_ ≠ gb116 ∧ k_ ≠ gb117) u118000 x118000_4) ∧ Aside0 (Kd.V k54 54 w' w.heap.size (fun k_ => ((P0_0_ k_ ∨ P0_1_ k_) ∨ w.heap.size ≤ k_) ∧ k_ ≠ gb112 ∧ k_ ≠ gb116 ∧ k_ ≠ gb117) u118001 x118001_4) ∧ Aside0 (w'.heap[gb112]? = some (.cells #[(.slice A0_0 l0_0.length c0_0), (.slice A0_1 l0_1.length c0_1), .int .i64 a0_2, .bool a0_3] 25 (0, 0))) ∧ Aside0 (w'.heap[gb116]? = some (.cells #[u117000, u117001, .int .i64 x117002_2, .bool x117003_2] 25 (0, 0))) ∧ Aside0 (w'.heap[gb117]? = some (.cells #[u118000, u118001, .int .i64 x118002_4, .bool x118003_4] 25 (0, 0))) ∧ Aside0 (Below w.heap.size w w'))
          case atStart => exact ⟨(0), (l0_0), (l0_1), (a0_2), (a0_3), (.slice A0_0 l0_0.length c0_0), (.slice A0_1 l0_1.length c0_1), (by first | rfl | (simp; done) | (simp [*]; done)), H', ⟨Nat.le_refl _⟩, ⟨vmv HO_113000.out⟩, ⟨vmv HO_113001.out⟩, ⟨vmv HO_117000.out⟩, ⟨vmv HO_117001.out⟩, ⟨vmv HO_118000.out⟩, ⟨vmv HO_118001.out⟩, ⟨zk BK112.out⟩, ⟨zk BK116.out⟩, ⟨zk BK117.out⟩, ⟨blw HB.out⟩⟩
          case round =>
           clear H'
           try clear c1
           try clear c2
           try clear p2
           try clear c4
           try clear c5
           try clear p6
           try clear c7
           try clear c8
           try clear c19
           try clear c23
           try clear c49
           try clear c50
           try clear c51
           try clear c54
           try clear p64
           try clear c73
           try clear c74
           try clear c75
           try clear c79
           try clear c80
           try clear hcz76_0
           try clear hcz76_1
           try clear hcz76_2
           try clear hcz76_3
           try clear hcz81_0
           try clear hcz81_1
           try clear hcz81_2
           try clear hcz81_3
           try clear hfz76_0
           try clear hfz76_1
           try clear hfz76_2
           try clear hfz76_3
           try clear hfz81_0
           try clear hfz81_1
           try clear hfz81_2
           try clear hfz81_3
           obtain ⟨x12_4, x118000_4, x118001_4, x118002_4, x118003_4, u118000, u118001, rfl, HA, HK4, HO_113000, HO_113001, HO_117000, HO_117001, HO_118000, HO_118001, BK112, BK116, BK117, HB⟩ := hrel
           cases gk with
           | zero => exact absurd HA.out (by simp [fastilaw04_DiskTogether.l1])
           | succ k4 =>
            have H := HA.out
            clear HA
            simp only [fastilaw04_DiskTogether.l1] at H
            by_cases c83 : x12_4 < (l1.length : Int)
            ·rw [if_pos c83] at H
             have c83b0 : decide (x12_4 < (l1.length : Int)) = true := decide_eq_true c83
             clear c83
             by_cases c84 : 0 ≤ x12_4
             ·rw [if_pos c84] at H
              have c84b0 : decide (0 ≤ x12_4) = true := decide_eq_true c84
              clear c84
              by_cases c85 : (l0_0.length : Int) = 0
              ·rw [if_pos c85] at H
               exact absurd H (by simp)
              ·rw [if_neg c85] at H
               have c85b0 : ((l0_0.length : Int) == 0) = false := beq_eq_false_iff_ne.mpr c85
               have c85b1 : ((l0_0.length : Int) != 0) = true := bne_iff_ne.mpr c85
               have c85b2 : ¬ (l0_0 = []) := fun h_ => c85 (by rw [h_]; rfl)
               obtain ⟨y144, hy144⟩ : ∃ y_ : List Int, y_ = (([(rd_T46 l1 x12_4).f2] : List Int)) := ⟨_, rfl⟩
               replace H : ((disk_Write.f x118000_4 x118001_4 x118002_4 x118003_4 (Int.tmod (wrap64 ((rd_T46 l1 x12_4).f1)) (l0_0.length : Int)) y144).bind fun bt147 => (if bt147.2.2.2.2 = 0 then (fastilaw04_DiskTogether.l1 k4 l1 x7_2 (wrap64 (x12_4 + 1)) l0_0 l0_1 a0_2 a0_3 x117000_2 x117001_2 x117002_2 x117003_2 bt147.1 bt147.2.1 bt147.2.2.1 bt147.2.2.2.1) else (none))) = some r := by first | (rw [hy144]; with_reducible exact H) | (have H2_ := (Option.bind_some _ _).symm.trans H; rw [hy144]; with_reducible exact H2_) | (have H2_ := (Option.bind_some _ _).symm.trans H; with_reducible exact H2_) | with_reducible exact H | (rw [hy144]; exact H) | exact H
               have Ny144 := Aside0.mk hy144
               clear hy144
               replace H := Option.bind_eq_some_iff.mp H
               obtain ⟨⟨t147, t150, t153, t154, t155⟩, A860, H⟩ := H
               replace H : (if t155 = 0 then (fastilaw04_DiskTogether.l1 k4 l1 x7_2 (wrap64 (x12_4 + 1)) l0_0 l0_1 a0_2 a0_3 x117000_2 x117001_2 x117002_2 x117003_2 t147 t150 t153 t154) else (none)) = some r := H
               have A86 := Aside0.mk A860
               clear A860
               by_cases c87 : t155 = 0
               ·rw [if_pos c87] at H
                have c87b0 : (t155 == 0) = true := beq_iff_eq.mpr c87
                have c87b1 : (t155 != 0) = false := bne_eq_false_iff_eq.mpr c87
                clear c87
                have H' := Aside0.mk H
                clear H
                obtain ⟨Ao88, co88, eo88⟩ := Kd.V_slice HO_118000.out
                subst eo88
                obtain ⟨Ao89, co89, eo89⟩ := Kd.V_slice HO_118001.out
                subst eo89
                try go_wp2
                replace HO_113000 := Aside0.mk (Kd.V_drew HO_113000.out)
                replace HO_113001 := Aside0.mk (Kd.V_drew HO_113001.out)
                replace HO_117000 := Aside0.mk (Kd.V_drew HO_117000.out)
                replace HO_117001 := Aside0.mk (Kd.V_drew HO_117001.out)
                replace HO_118000 := Aside0.mk (Kd.V_drew HO_118000.out)
                replace HO_118001 := Aside0.mk (Kd.V_drew HO_118001.out)
                replace BK112 := Aside0.mk (blk_drew BK112.out)
                replace BK116 := Aside0.mk (blk_drew BK116.out)
                replace BK117 := Aside0.mk (blk_drew BK117.out)
                replace HB := Aside0.mk (below_drew1 HB.out)
                have p142 : 0 ≤ (x12_4 : Int) := of_decide_eq_true (by first | (with_reducible assumption) | assumption)
                have q142 : x12_4 < (l1.length : Int) := of_decide_eq_true (by first | (with_reducible assumption) | assumption)
                obtain ⟨ad142, e142, hx142_0, hx142_1, hx142_2⟩ := at_T46 HR1.out x12_4 p142 q142
                have hw142_2 := hx142_2
                have hw142_1 := hx142_1
                have hw142_0 := hx142_0
                cases e142
                replace hx142_0 := (HB.out.cell (World.block_lt_of_cell? w _ hx142_0)).trans hx142_0
                replace hx142_1 := (HB.out.cell (World.block_lt_of_cell? w _ hx142_1)).trans hx142_1
                replace hx142_2 := (HB.out.cell (World.block_lt_of_cell? w _ hx142_2)).trans hx142_2
                replace p142 := eq_true p142
                replace q142 := eq_true q142
                have p143 : 0 ≤ (x12_4 : Int) := of_decide_eq_true (by first | (with_reducible assumption) | assumption)
                have q143 : x12_4 < (l1.length : Int) := of_decide_eq_true (by first | (with_reducible assumption) | assumption)
                obtain ⟨ad143, e143, hx143_0, hx143_1, hx143_2⟩ := at_T46 HR1.out x12_4 p143 q143
                have hw143_2 := hx143_2
                have hw143_1 := hx143_1
                have hw143_0 := hx143_0
                obtain rfl : ad142 = ad143 := (by injection e143)
                replace hx143_0 := (HB.out.cell (World.block_lt_of_cell? w _ hx143_0)).trans hx143_0
                replace hx143_1 := (HB.out.cell (World.block_lt_of_cell? w _ hx143_1)).trans hx143_1
                replace hx143_2 := (HB.out.cell (World.block_lt_of_cell? w _ hx143_2)).trans hx143_2
                replace p143 := eq_true p143
                replace q143 := eq_true q143
                refine start_ (n := 24) (S := fun w' => w'.cell? ⟨gb117, 0, none⟩ = some (.slice Ao88 x118000_4.length co88) ∧ w'.cell? ⟨gb117, 1, none⟩ = some (.slice Ao89 x118001_4.length co89) ∧ w'.cell? ⟨gb117, 2, none⟩ = some (.int .i64 x118002_4) ∧ w'.cell? ⟨gb117, 3, none⟩ = some (.bool x118003_4) ∧ w'.cell? ⟨gb112, 0, none⟩ = some (.slice A0_0 l0_0.length c0_0) ∧ w'.cell? ⟨gb112, 1, none⟩ = some (.slice A0_1 l0_1.length c0_1) ∧ w'.cell? ⟨gb112, 2, none⟩ = some (.int .i64 a0_2) ∧ w'.cell? ⟨gb112, 3, none⟩ = some (.bool a0_3) ∧ w'.cell? (ad142.add ((x12_4).toNat * 3)) = some (.bool ((rd_T46 l1 x12_4).f0)) ∧ w'.cell? ⟨(ad142.add ((x12_4).toNat * 3)).block, (ad142.add ((x12_4).toNat * 3)).off + 1, none⟩ = some (.int .u8 ((rd_T46 l1 x12_4).f1)) ∧ w'.cell? ⟨(ad142.add ((x12_4).toNat * 3)).block, (ad142.add ((x12_4).toNat * 3)).off + 2, none⟩ = some (.int .u8 ((rd_T46 l1 x12_4).f2)) ∧ w'.cell? (ad142.add ((x12_4).toNat * 3)) = some (.bool ((rd_T46 l1 x12_4).f0)) ∧ w'.cell? ⟨(ad142.add ((x12_4).toNat * 3)).block, (ad142.add ((x12_4).toNat * 3)).off + 1, none⟩ = some (.int .u8 ((rd_T46 l1 x12_4).f1)) ∧ w'.cell? ⟨(ad142.add ((x12_4).toNat * 3)).block, (ad142.add ((x12_4).toNat * 3)).off + 2, none⟩ = some (.int .u8 ((rd_T46 l1 x12_4).f2))) (ds := []) #[N,N,N,N,N,N,N,N,N,N,N,N,N,N,N,N,N,N,N,N,N,N,N,N] (by kernel_rfl) rfl rfl ⟨bc BK117 0, bc BK117 1, bc BK117 2, bc BK117 3, bc BK112 0, bc BK112 1, bc BK112 2, bc BK112 3, ((HB.out.cell (World.block_lt_of_cell? w _ hw142_0)).trans hw142_0), ((HB.out.cell (World.block_lt_of_cell? w _ hw142_1)).trans hw142_1), ((HB.out.cell (World.block_lt_of_cell? w _ hw142_2)).trans hw142_2), ((HB.out.cell (World.block_lt_of_cell? w _ hw143_0)).trans hw143_0), ((HB.out.cell (World.block_lt_of_cell? w _ hw143_1)).trans hw143_1), ((HB.out.cell (World.block_lt_of_cell? w _ hw143_2)).trans hw143_2)⟩ (fun hHeld => ?_); refine with_tabW fastilaw04_DiskTogether.tab18 fastilaw04_DiskTogether.bits18 (fun HT_ HW_ => ?_)
                generalize wr.drew = w90 at HO_113000 HO_113001 HO_117000 HO_117001 HO_118000 HO_118001 BK112 BK116 BK117 HB hx142_0 hx142_1 hx142_2 hx143_0 hx143_1 hx143_2 hHeld ⊢
                refine pureA (i := 1) (N := some 96) #[N,Y,N,N,N,N,N,N,N,N,N,N,N,N,N,N,N,N,N,N,N,N,N,N] (any_of HT_.out (by kernel_rfl)) ?_
                refine pureA (i := 2) (N := some 97) #[N,Y,Y,N,N,N,N,N,N,N,N,N,N,N,N,N,N,N,N,N,N,N,N,N] (any_of HT_.out (by kernel_rfl)) ?_
                refine pureA (i := 3) (N := some 98) #[N,Y,Y,Y,N,N,N,N,N,N,N,N,N,N,N,N,N,N,N,N,N,N,N,N] (any_of HT_.out (by kernel_rfl)) ?_
                refine pureA (i := 4) (N := some 99) #[N,Y,Y,Y,Y,N,N,N,N,N,N,N,N,N,N,N,N,N,N,N,N,N,N,N] (any_of HT_.out (by kernel_rfl)) ?_
                refine pureA (i := 7) (N := some 102) #[N,Y,Y,Y,Y,N,N,Y,N,N,N,N,N,N,N,N,N,N,N,N,N,N,N,N] (any_of HT_.out (by kernel_rfl)) ?_
                refine pureA (i := 11) (N := some 106) #[N,Y,Y,Y,Y,N,N,Y,N,N,N,Y,N,N,N,N,N,N,N,N,N,N,N,N] (any_of HT_.out (by kernel_rfl)) ?_
                refine pureA (i := 12) (N := some 107) #[N,Y,Y,Y,Y,N,N,Y,N,N,N,Y,Y,N,N,N,N,N,N,N,N,N,N,N] (any_of HT_.out (by kernel_rfl)) ?_
                refine pureA (i := 13) (N := some 108) #[N,Y,Y,Y,Y,N,N,Y,N,N,N,Y,Y,Y,N,N,N,N,N,N,N,N,N,N] (any_of HT_.out (by kernel_rfl)) ?_
                refine pureA (i := 14) (N := some 109) #[N,Y,Y,Y,Y,N,N,Y,N,N,N,Y,Y,Y,Y,N,N,N,N,N,N,N,N,N] (any_of HT_.out (by kernel_rfl)) ?_
                refine take_ (i := 0) (N := some 95) (v := ?_) (a' := ?_) #[Y,Y,Y,Y,Y,N,N,Y,N,N,N,Y,Y,Y,Y,N,N,N,N,N,N,N,N,N] rfl rfl (take_ofW HT_.out HW_.out (by kernel_rfl)) (fun _ _ _ h => h) (Or.inl ⟨by rfl, ?_⟩) hHeld ?_ ?_
                rotate_left
                ·rintro w' ⟨s0, s1, s2, s3, s4, s5, s6, s7, s8, s9, s10, s11, s12, s13⟩
                 go_simp
                 with_reducible rfl
                rotate_left
                ·simp only [Act.put, List.setIfInBounds_toArray, List.set_cons_zero, List.set_cons_succ, i64_w, i32_w]
                 rfl
                refine take_ (i := 5) (N := some 100) (v := ?_) (a' := ?_) #[Y,Y,Y,Y,Y,Y,N,Y,N,N,N,Y,Y,Y,Y,N,N,N,N,N,N,N,N,N] rfl rfl (take_ofW HT_.out HW_.out (by kernel_rfl)) (fun _ _ _ h => h) (Or.inl ⟨by rfl, ?_⟩) hHeld ?_ ?_
                rotate_left
                ·rintro w' ⟨s0, s1, s2, s3, s4, s5, s6, s7, s8, s9, s10, s11, s12, s13⟩
                 go_simp
                 with_reducible rfl
                rotate_left
                ·simp only [Act.put, List.setIfInBounds_toArray, List.set_cons_zero, List.set_cons_succ, i64_w, i32_w]
                 rfl
                refine pureA (i := 6) (N := some 101) #[Y,Y,Y,Y,Y,Y,Y,Y,N,N,N,Y,Y,Y,Y,N,N,N,N,N,N,N,N,N] (any_of HT_.out (by kernel_rfl)) ?_
                refine take_ (i := 8) (N := some 103) (v := ?_) (a' := ?_) #[Y,Y,Y,Y,Y,Y,Y,Y,Y,N,N,Y,Y,Y,Y,N,N,N,N,N,N,N,N,N] rfl rfl (take_ofW HT_.out HW_.out (by kernel_rfl)) (fun _ _ _ h => h) (Or.inl ⟨by rfl, ?_⟩) hHeld ?_ ?_
                rotate_left
                ·rintro w' ⟨s0, s1, s2, s3, s4, s5, s6, s7, s8, s9, s10, s11, s12, s13⟩
                 go_simp
                 with_reducible rfl
                rotate_left
                ·simp only [Act.put, List.setIfInBounds_toArray, List.set_cons_zero, List.set_cons_succ, i64_w, i32_w]
                 rfl
                refine pureA (i := 9) (N := some 104) #[Y,Y,Y,Y,Y,Y,Y,Y,Y,Y,N,Y,Y,Y,Y,N,N,N,N,N,N,N,N,N] (any_of HT_.out (by kernel_rfl)) ?_
                refine pureA (i := 10) (N := some 105) #[Y,Y,Y,Y,Y,Y,Y,Y,Y,Y,Y,Y,Y,Y,Y,N,N,N,N,N,N,N,N,N] (any_of HT_.out (by kernel_rfl)) ?_
                refine take_ (i := 15) (N := some 110) (v := ?_) (a' := ?_) #[Y,Y,Y,Y,Y,Y,Y,Y,Y,Y,Y,Y,Y,Y,Y,Y,N,N,N,N,N,N,N,N] rfl rfl (take_ofW HT_.out HW_.out (by kernel_rfl)) (fun _ _ _ h => h) (Or.inl ⟨by rfl, ?_⟩) hHeld ?_ ?_
                rotate_left
                ·rintro w' ⟨s0, s1, s2, s3, s4, s5, s6, s7, s8, s9, s10, s11, s12, s13⟩
                 go_simp
                 with_reducible rfl
                rotate_left
                ·simp only [Act.put, List.setIfInBounds_toArray, List.set_cons_zero, List.set_cons_succ, i64_w, i32_w]
                 rfl
                refine join_ (σ := Value × Value × Value × Nat) 2 #[Y,Y,Y,Y,Y,Y,Y,Y,Y,Y,Y,Y,Y,Y,Y,Y,Y,Y,Y,Y,Y,Y,N,N] (fun s_ => [(111, s_.1), (112, .tuple #[.agg #[s_.2.1, s_.2.2.1, .int .i64 t153, .bool t154], .int .i64 t155]), (13, .pointer (some ⟨s_.2.2.2, 0, none⟩)), (94, .tuple #[.agg #[s_.2.1, s_.2.2.1, .int .i64 t153, .bool t154], .int .i64 t155]), (113, .agg #[s_.2.1, s_.2.2.1, .int .i64 t153, .bool t154]), (114, .int .i64 t155)]) (fun s_ w' => (w'.cell? ⟨gb117, 0, none⟩ = some (.slice Ao88 x118000_4.length co88) ∧ w'.cell? ⟨gb117, 1, none⟩ = some (.slice Ao89 x118001_4.length co89) ∧ w'.cell? ⟨gb117, 2, none⟩ = some (.int .i64 x118002_4) ∧ w'.cell? ⟨gb117, 3, none⟩ = some (.bool x118003_4) ∧ w'.cell? ⟨gb112, 0, none⟩ = some (.slice A0_0 l0_0.length c0_0) ∧ w'.cell? ⟨gb112, 1, none⟩ = some (.slice A0_1 l0_1.length c0_1) ∧ w'.cell? ⟨gb112, 2, none⟩ = some (.int .i64 a0_2) ∧ w'.cell? ⟨gb112, 3, none⟩ = some (.bool a0_3) ∧ w'.cell? (ad142.add ((x12_4).toNat * 3)) = some (.bool ((rd_T46 l1 x12_4).f0)) ∧ w'.cell? ⟨(ad142.add ((x12_4).toNat * 3)).block, (ad142.add ((x12_4).toNat * 3)).off + 1, none⟩ = some (.int .u8 ((rd_T46 l1 x12_4).f1)) ∧ w'.cell? ⟨(ad142.add ((x12_4).toNat * 3)).block, (ad142.add ((x12_4).toNat * 3)).off + 2, none⟩ = some (.int .u8 ((rd_T46 l1 x12_4).f2)) ∧ w'.cell? (ad142.add ((x12_4).toNat * 3)) = some (.bool ((rd_T46 l1 x12_4).f0)) ∧ w'.cell? ⟨(ad142.add ((x12_4).toNat * 3)).block, (ad142.add ((x12_4).toNat * 3)).off + 1, none⟩ = some (.int .u8 ((rd_T46 l1 x12_4).f1)) ∧ w'.cell? ⟨(ad142.add ((x12_4).toNat * 3)).block, (ad142.add ((x12_4).toNat * 3)).off + 2, none⟩ = some (.int .u8 ((rd_T46 l1 x12_4).f2))) ∧ (Kd.R (Kd.int .u8) 5 w' w.heap.size (fun k_ => (w.heap.size ≤ k_)) s_.1 y144) ∧ (Kd.V (Kd.slice 5 (Kd.int .u8)) 35 w' w.heap.size (fun k_ => ((P0_0_ k_ ∨ P0_1_ k_) ∨ w.heap.size ≤ k_) ∧ some k_ ≠ (s_.1 : Value).ownBlock ∧ k_ ≠ gb112 ∧ k_ ≠ gb116 ∧ k_ ≠ gb117 ∧ k_ ≠ s_.2.2.2) s_.2.1 t147) ∧ (Kd.V k54 54 w' w.heap.size (fun k_ => ((P0_0_ k_ ∨ P0_1_ k_) ∨ w.heap.size ≤ k_) ∧ some k_ ≠ (s_.1 : Value).ownBlock ∧ k_ ≠ gb112 ∧ k_ ≠ gb116 ∧ k_ ≠ gb117 ∧ k_ ≠ s_.2.2.2) s_.2.2.1 t150) ∧ (Kd.V (Kd.slice 5 (Kd.int .u8)) 35 w' w.heap.size (fun k_ => ((P0_0_ k_ ∨ P0_1_ k_) ∨ w.heap.size ≤ k_) ∧ some k_ ≠ (s_.1 : Value).ownBlock ∧ k_ ≠ gb112 ∧ k_ ≠ gb116 ∧ k_ ≠ gb117 ∧ k_ ≠ s_.2.2.2) (.slice A0_0 l0_0.length c0_0) l0_0) ∧ (Kd.V k54 54 w' w.heap.size (fun k_ => ((P0_0_ k_ ∨ P0_1_ k_) ∨ w.heap.size ≤ k_) ∧ some k_ ≠ (s_.1 : Value).ownBlock ∧ k_ ≠ gb112 ∧ k_ ≠ gb116 ∧ k_ ≠ gb117 ∧ k_ ≠ s_.2.2.2) (.slice A0_1 l0_1.length c0_1) l0_1) ∧ (Kd.V (Kd.slice 5 (Kd.int .u8)) 35 w' w.heap.size (fun k_ => ((P0_0_ k_ ∨ P0_1_ k_) ∨ w.heap.size ≤ k_) ∧ some k_ ≠ (s_.1 : Value).ownBlock ∧ k_ ≠ gb112 ∧ k_ ≠ gb116 ∧ k_ ≠ gb117 ∧ k_ ≠ s_.2.2.2) u117000 x117000_2) ∧ (Kd.V k54 54 w' w.heap.size (fun k_ => ((P0_0_ k_ ∨ P0_1_ k_) ∨ w.heap.size ≤ k_) ∧ some k_ ≠ (s_.1 : Value).ownBlock ∧ k_ ≠ gb112 ∧ k_ ≠ gb116 ∧ k_ ≠ gb117 ∧ k_ ≠ s_.2.2.2) u117001 x117001_2) ∧ (Kd.V (Kd.slice 5 (Kd.int .u8)) 35 w' w.heap.size (fun k_ => ((P0_0_ k_ ∨ P0_1_ k_) ∨ w.heap.size ≤ k_) ∧ some k_ ≠ (s_.1 : Value).ownBlock ∧ k_ ≠ gb112 ∧ k_ ≠ gb116 ∧ k_ ≠ gb117 ∧ k_ ≠ s_.2.2.2) (.slice Ao88 x118000_4.length co88) x118000_4) ∧ (Kd.V k54 54 w' w.heap.size (fun k_ => ((P0_0_ k_ ∨ P0_1_ k_) ∨ w.heap.size ≤ k_) ∧ some k_ ≠ (s_.1 : Value).ownBlock ∧ k_ ≠ gb112 ∧ k_ ≠ gb116 ∧ k_ ≠ gb117 ∧ k_ ≠ s_.2.2.2) (.slice Ao89 x118001_4.length co89) x118001_4) ∧ (w'.heap[gb112]? = some (.cells #[.slice A0_0 l0_0.length c0_0, .slice A0_1 l0_1.length c0_1, .int .i64 a0_2, .bool a0_3] 25 (0, 0))) ∧ (w'.heap[gb116]? = some (.cells #[u117000, u117001, .int .i64 x117002_2, .bool x117003_2] 25 (0, 0))) ∧ (w'.heap[gb117]? = some (.cells #[.slice Ao88 x118000_4.length co88, .slice Ao89 x118001_4.length co89, .int .i64 x118002_4, .bool x118003_4] 25 (0, 0))) ∧ (w'.heap[s_.2.2.2]? = some (.cells #[.slice none 0 0, .slice none 0 0, .int .i64 0, .bool false] 25 (0, 0))) ∧ (w.heap.size ≤ s_.2.2.2) ∧ (w.heap.size ≤ s_.2.2.2) ∧ (gb112 ≠ s_.2.2.2) ∧ (s_.2.2.2 ≠ gb112) ∧ (gb116 ≠ s_.2.2.2) ∧ (s_.2.2.2 ≠ gb116) ∧ (gb117 ≠ s_.2.2.2) ∧ (s_.2.2.2 ≠ gb117) ∧ (Below w.heap.size w w')) ?_ ?_
                rotate_left
                ·intro hCont
                 refine two_ (i := 16) (j := 21) (Ni := some 111) (Nj := some 13) #[Y,Y,Y,Y,Y,Y,Y,Y,Y,Y,Y,Y,Y,Y,Y,Y,Y,N,N,N,N,N,N,N] #[Y,Y,Y,Y,Y,Y,Y,Y,Y,Y,Y,Y,Y,Y,Y,Y,N,N,N,N,N,Y,N,N] rfl rfl rfl rfl (two_of HT_.out (by kernel_rfl)) (by decide) (by decide) (fun K hK => ?_) (fun K hK => ?_)
                 ·skip
                  refine Kd.R_lit_step (Kd.int .u8) _ 5 ?hg (N := 111) ?hd (xs := ([(rd_T46 l1 x12_4).f2] : List Int)) (inner := [.int .u8 ((rd_T46 l1 x12_4).f2)]) (ok := fun _ => True) (okp := fun _ => True) ?hr ?hp (fun _ hk => hk) trivial (Below.refl _ _) (Nat.le_refl _) (by simp) ?_; (case hd => rfl); (case hg => rfl); (case hr => first | (go_simp; done) | (go_simp; rfl)); (case hp => exact (Reps.one (show Kd.M (Kd.int .u8) _ _ _ ((rd_T46 l1 x12_4).f2) [.int .u8 ((rd_T46 l1 x12_4).f2)] from rfl) (Reps.none _ _)))
                  intro v145 w91 ho92 hb hg_ hnew_
                  clear hg_ hnew_
                  (first | rw [← Ny144.out] at ho92 | (simp only [Int.reduceToNat] at ho92; rw [← Ny144.out] at ho92))
                  replace HO_113000 := Aside0.mk (Kd.V_elder' (vmv HO_113000.out) (Kd.R_base ho92) hb)
                  replace HO_113001 := Aside0.mk (Kd.V_elder' (vmv HO_113001.out) (Kd.R_base ho92) hb)
                  replace HO_117000 := Aside0.mk (Kd.V_elder' (vmv HO_117000.out) (Kd.R_base ho92) hb)
                  replace HO_117001 := Aside0.mk (Kd.V_elder' (vmv HO_117001.out) (Kd.R_base ho92) hb)
                  replace HO_118000 := Aside0.mk (Kd.V_elder' (vmv HO_118000.out) (Kd.R_base ho92) hb)
                  replace HO_118001 := Aside0.mk (Kd.V_elder' (vmv HO_118001.out) (Kd.R_base ho92) hb)
                  have HO146 := Aside0.mk (Kd.R_lower (Kd.R_newM (M := fun k_ => (w.heap.size ≤ k_)) ho92 (below_size (blw HB.out)) (fun k_ h_ => h_)) (below_size (blw HB.out)))
                  replace BK112 := Aside0.mk (zb BK112.out hb)
                  replace BK116 := Aside0.mk (zb BK116.out hb)
                  replace BK117 := Aside0.mk (zb BK117.out hb)
                  replace HB := Aside0.mk (below_step (blw HB.out) hb)
                  clear hb ho92
                  obtain ⟨Ao93, co93, eo93⟩ := Kd.R_slice HO146.out
                  (first | subst eo93 | (injection eo93 with f1_ f2_ f3_; have f4_ := f1_.symm; have f5_ := f3_.symm; clear f1_ f2_ f3_; subst f4_; subst f5_))
                  refine hK.out _ _ ⟨bc BK117 0, bc BK117 1, bc BK117 2, bc BK117 3, bc BK112 0, bc BK112 1, bc BK112 2, bc BK112 3, ((HB.out.cell (World.block_lt_of_cell? w _ hw142_0)).trans hw142_0), ((HB.out.cell (World.block_lt_of_cell? w _ hw142_1)).trans hw142_1), ((HB.out.cell (World.block_lt_of_cell? w _ hw142_2)).trans hw142_2), ((HB.out.cell (World.block_lt_of_cell? w _ hw143_0)).trans hw143_0), ((HB.out.cell (World.block_lt_of_cell? w _ hw143_1)).trans hw143_1), ((HB.out.cell (World.block_lt_of_cell? w _ hw143_2)).trans hw143_2)⟩ (fun hHeld => ?_)
                  clear hK K
                  refine norm_ (a' := ?_) ?_ ?_
                  rotate_left
                  ·show Act.put _ (some 111) _ = _
                   simp only [Act.put, List.setIfInBounds_toArray, List.set_cons_zero, List.set_cons_succ, i64_w, i32_w]
                   rfl
                  refine two_ (i := 17) (j := 21) (Ni := some 112) (Nj := some 13) #[Y,Y,Y,Y,Y,Y,Y,Y,Y,Y,Y,Y,Y,Y,Y,Y,Y,Y,N,N,N,N,N,N] #[Y,Y,Y,Y,Y,Y,Y,Y,Y,Y,Y,Y,Y,Y,Y,Y,Y,N,N,N,N,Y,N,N] rfl rfl rfl rfl (two_of HT_.out (by kernel_rfl)) (by decide) (by decide) (fun K hK => ?_) (fun K hK => ?_)
                  ·skip
                   refine goes_ Try.func19 (by kernel_rfl) rfl #[.agg #[.slice Ao88 x118000_4.length co88, .slice Ao89 x118001_4.length co89, .int .i64 x118002_4, .bool x118003_4], .int .i64 (Int.tmod (wrap64 ((rd_T46 l1 x12_4).f1)) (l0_0.length : Int)), .slice Ao93 y144.length co93] (by rfl) rfl rfl (by (try simp only [List.map_toArray, List.map_cons, List.map_nil]); first | done | rfl | (simp only [List.length_drop, List.length_take]; rfl)) ?_
                   with_reducible refine (disk_Write.calls (fun k_ => ((((P0_0_ k_ ∨ P0_1_ k_) ∨ w.heap.size ≤ k_) ∧ (k_ ≠ gb112 ∧ (k_ ≠ gb116 ∧ k_ ≠ gb117))) ∧ some k_ ≠ (.slice Ao93 y144.length co93 : Value).ownBlock)) _ _ x118000_4 (fun k_ => ((((P0_0_ k_ ∨ P0_1_ k_) ∨ w.heap.size ≤ k_) ∧ (k_ ≠ gb112 ∧ (k_ ≠ gb116 ∧ k_ ≠ gb117))) ∧ some k_ ≠ (.slice Ao93 y144.length co93 : Value).ownBlock)) _ _ x118001_4 x118002_4 x118003_4 (Int.tmod (wrap64 ((rd_T46 l1 x12_4).f1)) (l0_0.length : Int)) _ _ y144 t147 t150 t153 t154 t155 _ ?side1 ?side2 ?side3 ?side4 A86.out).mono ?_
                   (case side1 => exact HO_118000.out)
                   (case side2 => exact HO_118001.out)
                   (case side3 => repeat (first | exact (Kd.R_reads' HO146.out).2.2 | (with_reducible refine Kd.C_alloc ?_ _) | (with_reducible refine Kd.C_drewN ?_ _) | (with_reducible refine Kd.C_drew ?_)))
                   (case side4 => exact (Kd.R_reads' HO146.out).2.1)
                   rintro e w94 ⟨v148, v151, rfl, ho0, ho1, hb⟩
                   refine ⟨_, rfl, ?_⟩
                   replace HO_113000 := Aside0.mk (Kd.V_below (vmv HO_113000.out) hb)
                   replace HO_113001 := Aside0.mk (Kd.V_below (vmv HO_113001.out) hb)
                   replace HO_117000 := Aside0.mk (Kd.V_below (vmv HO_117000.out) hb)
                   replace HO_117001 := Aside0.mk (Kd.V_below (vmv HO_117001.out) hb)
                   replace HO_118000 := Aside0.mk (Kd.V_below (vmv HO_118000.out) hb)
                   replace HO_118001 := Aside0.mk (Kd.V_below (vmv HO_118001.out) hb)
                   obtain ⟨HO149, HO152⟩ := vlm2 (ok' := fun k_ => ((P0_0_ k_ ∨ P0_1_ k_) ∨ w.heap.size ≤ k_) ∧ some k_ ≠ (.slice Ao93 y144.length co93 : Value).ownBlock ∧ k_ ≠ gb112 ∧ k_ ≠ gb116 ∧ k_ ≠ gb117) ho0 ho1 (fun k_ hk_ => ⟨Or.elim hk_ (fun hs_ => Or.elim hs_ (fun hs_ => hs_.1.1) (fun hs_ => hs_.1.1)) (fun hn_ => (.inr (Nat.le_trans (below_size (blw HB.out)) hn_))), Or.elim hk_ (fun hs_ => Or.elim hs_ (fun hs_ => hs_.2) (fun hs_ => hs_.2)) (fun hn_ => (Kd.fresh' (Kd.R_lt (rmv HO146.out)) k_ hn_)), Or.elim hk_ (fun hs_ => Or.elim hs_ (fun hs_ => hs_.1.2.1) (fun hs_ => hs_.1.2.1)) (fun hn_ => (Kd.freshB (zk BK112.out) k_ hn_)), Or.elim hk_ (fun hs_ => Or.elim hs_ (fun hs_ => hs_.1.2.2.1) (fun hs_ => hs_.1.2.2.1)) (fun hn_ => (Kd.freshB (zk BK116.out) k_ hn_)), Or.elim hk_ (fun hs_ => Or.elim hs_ (fun hs_ => hs_.1.2.2.2) (fun hs_ => hs_.1.2.2.2)) (fun hn_ => (Kd.freshB (zk BK117.out) k_ hn_))⟩) (fun _ h_ => h_) (below_size (blw HB.out))
                   replace HO146 := Aside0.mk (Kd.R_below (rmv HO146.out) hb)
                   replace BK112 := Aside0.mk (zb BK112.out hb)
                   replace BK116 := Aside0.mk (zb BK116.out hb)
                   replace BK117 := Aside0.mk (zb BK117.out hb)
                   replace HB := Aside0.mk (below_step (blw HB.out) hb)
                   (try clear hb)
                   (try clear hb2)
                   (try clear hk)
                   (try clear hi)
                   (try clear ho0)
                   (try clear ho1)
                   refine hK.out _ _ ⟨bc BK117 0, bc BK117 1, bc BK117 2, bc BK117 3, bc BK112 0, bc BK112 1, bc BK112 2, bc BK112 3, ((HB.out.cell (World.block_lt_of_cell? w _ hw142_0)).trans hw142_0), ((HB.out.cell (World.block_lt_of_cell? w _ hw142_1)).trans hw142_1), ((HB.out.cell (World.block_lt_of_cell? w _ hw142_2)).trans hw142_2), ((HB.out.cell (World.block_lt_of_cell? w _ hw143_0)).trans hw143_0), ((HB.out.cell (World.block_lt_of_cell? w _ hw143_1)).trans hw143_1), ((HB.out.cell (World.block_lt_of_cell? w _ hw143_2)).trans hw143_2)⟩ (fun hHeld => ?_)
                   clear hK K
                   refine norm_ (a' := ?_) ?_ ?_
                   rotate_left
                   ·show Act.put _ (some 112) _ = _
                    simp only [Act.put, List.setIfInBounds_toArray, List.set_cons_zero, List.set_cons_succ, i64_w, i32_w]
                    rfl
                   refine pureA (i := 18) (N := some 94) #[Y,Y,Y,Y,Y,Y,Y,Y,Y,Y,Y,Y,Y,Y,Y,Y,Y,Y,Y,N,N,N,N,N] (any_of HT_.out (by kernel_rfl)) ?_
                   refine pureA (i := 19) (N := some 113) #[Y,Y,Y,Y,Y,Y,Y,Y,Y,Y,Y,Y,Y,Y,Y,Y,Y,Y,Y,Y,N,N,N,N] (any_of HT_.out (by kernel_rfl)) ?_
                   refine pureA (i := 20) (N := some 114) #[Y,Y,Y,Y,Y,Y,Y,Y,Y,Y,Y,Y,Y,Y,Y,Y,Y,Y,Y,Y,Y,N,N,N] (any_of HT_.out (by kernel_rfl)) ?_
                   refine one_ (i := 21) (N := some 13) #[Y,Y,Y,Y,Y,Y,Y,Y,Y,Y,Y,Y,Y,Y,Y,Y,Y,Y,Y,Y,Y,Y,N,N] rfl rfl (one_of HT_.out (by kernel_rfl)) (by decide) (fun K hK => ?_)
                   refine box_step ?hg (N := 13) ?hd (cs := #[.slice none 0 0, .slice none 0 0, .int .i64 0, .bool false]) (t := 25) ?hr ?_; (case hd => rfl); (case hg => rfl); (case hr => first | (go_simp; done) | (go_simp; rfl))
                   intro gb156 hg w95 hbox hb
                   replace HO_113000 := Aside0.mk (Kd.V_below (Kd.V_elderB (vmv HO_113000.out) gb156 (Nat.le_of_eq hg.symm)) hb)
                   replace HO_113001 := Aside0.mk (Kd.V_below (Kd.V_elderB (vmv HO_113001.out) gb156 (Nat.le_of_eq hg.symm)) hb)
                   replace HO_117000 := Aside0.mk (Kd.V_below (Kd.V_elderB (vmv HO_117000.out) gb156 (Nat.le_of_eq hg.symm)) hb)
                   replace HO_117001 := Aside0.mk (Kd.V_below (Kd.V_elderB (vmv HO_117001.out) gb156 (Nat.le_of_eq hg.symm)) hb)
                   replace HO_118000 := Aside0.mk (Kd.V_below (Kd.V_elderB (vmv HO_118000.out) gb156 (Nat.le_of_eq hg.symm)) hb)
                   replace HO_118001 := Aside0.mk (Kd.V_below (Kd.V_elderB (vmv HO_118001.out) gb156 (Nat.le_of_eq hg.symm)) hb)
                   replace HO146 := Aside0.mk (Kd.R_below (rmv HO146.out) hb)
                   replace HO149 := Aside0.mk (Kd.V_below (Kd.V_elderB (vmv HO149.out) gb156 (Nat.le_of_eq hg.symm)) hb)
                   replace HO152 := Aside0.mk (Kd.V_below (Kd.V_elderB (vmv HO152.out) gb156 (Nat.le_of_eq hg.symm)) hb)
                   have BK156 := Aside0.mk (hbox)
                   have GW156 := Aside0.mk ((by rw [hg]; exact (below_size (blw HB.out)) : w.heap.size ≤ gb156))
                   have GE156 := Aside0.mk ((by rw [hg]; exact (below_size (blw HB.out)) : w.heap.size ≤ gb156))
                   replace HB := Aside0.mk (below_step (blw HB.out) hb)
                   have NB112_156 := Aside0.mk ((by rw [hg]; exact Nat.ne_of_lt (blk_lt (zk BK112.out)) : gb112 ≠ gb156))
                   have NB156_112 := Aside0.mk ((by rw [hg]; exact Nat.ne_of_gt (blk_lt (zk BK112.out)) : gb156 ≠ gb112))
                   replace BK112 := Aside0.mk (zb BK112.out hb)
                   have NB116_156 := Aside0.mk ((by rw [hg]; exact Nat.ne_of_lt (blk_lt (zk BK116.out)) : gb116 ≠ gb156))
                   have NB156_116 := Aside0.mk ((by rw [hg]; exact Nat.ne_of_gt (blk_lt (zk BK116.out)) : gb156 ≠ gb116))
                   replace BK116 := Aside0.mk (zb BK116.out hb)
                   have NB117_156 := Aside0.mk ((by rw [hg]; exact Nat.ne_of_lt (blk_lt (zk BK117.out)) : gb117 ≠ gb156))
                   have NB156_117 := Aside0.mk ((by rw [hg]; exact Nat.ne_of_gt (blk_lt (zk BK117.out)) : gb156 ≠ gb117))
                   replace BK117 := Aside0.mk (zb BK117.out hb)
                   clear hb hbox hg
                   refine hK.out _ _ ⟨bc BK117 0, bc BK117 1, bc BK117 2, bc BK117 3, bc BK112 0, bc BK112 1, bc BK112 2, bc BK112 3, ((HB.out.cell (World.block_lt_of_cell? w _ hw142_0)).trans hw142_0), ((HB.out.cell (World.block_lt_of_cell? w _ hw142_1)).trans hw142_1), ((HB.out.cell (World.block_lt_of_cell? w _ hw142_2)).trans hw142_2), ((HB.out.cell (World.block_lt_of_cell? w _ hw143_0)).trans hw143_0), ((HB.out.cell (World.block_lt_of_cell? w _ hw143_1)).trans hw143_1), ((HB.out.cell (World.block_lt_of_cell? w _ hw143_2)).trans hw143_2)⟩ (fun hHeld => ?_)
                   clear hK K
                   refine norm_ (a' := ?_) ?_ ?_
                   rotate_left
                   ·show Act.put _ (some 13) _ = _
                    simp only [Act.put, List.setIfInBounds_toArray, List.set_cons_zero, List.set_cons_succ, i64_w, i32_w]
                    rfl
                   exact normA (hCont (.slice Ao93 y144.length co93, v148, v151, gb156) _ ⟨hHeld, (by (with_reducible repeat (first | apply Kd.R_alloc | apply Kd.R_drewN | apply Kd.R_drew)); exact Kd.R_mono HO146.out (fun _ hk => hk.1)), (vmo HO149.out (fun _ hk => ⟨hk.1.1, ⟨hk.1.2.1, ⟨hk.1.2.2.1, ⟨hk.1.2.2.2.1, ⟨hk.1.2.2.2.2, hk.2⟩⟩⟩⟩⟩)), (vmo HO152.out (fun _ hk => ⟨hk.1.1, ⟨hk.1.2.1, ⟨hk.1.2.2.1, ⟨hk.1.2.2.2.1, ⟨hk.1.2.2.2.2, hk.2⟩⟩⟩⟩⟩)), (vmo HO_113000.out (fun _ hk => ⟨hk.1.1.1, ⟨hk.1.2, ⟨hk.1.1.2.1, ⟨hk.1.1.2.2.1, ⟨hk.1.1.2.2.2, hk.2⟩⟩⟩⟩⟩)), (vmo HO_113001.out (fun _ hk => ⟨hk.1.1.1, ⟨hk.1.2, ⟨hk.1.1.2.1, ⟨hk.1.1.2.2.1, ⟨hk.1.1.2.2.2, hk.2⟩⟩⟩⟩⟩)), (vmo HO_117000.out (fun _ hk => ⟨hk.1.1.1, ⟨hk.1.2, ⟨hk.1.1.2.1, ⟨hk.1.1.2.2.1, ⟨hk.1.1.2.2.2, hk.2⟩⟩⟩⟩⟩)), (vmo HO_117001.out (fun _ hk => ⟨hk.1.1.1, ⟨hk.1.2, ⟨hk.1.1.2.1, ⟨hk.1.1.2.2.1, ⟨hk.1.1.2.2.2, hk.2⟩⟩⟩⟩⟩)), (vmo HO_118000.out (fun _ hk => ⟨hk.1.1.1, ⟨hk.1.2, ⟨hk.1.1.2.1, ⟨hk.1.1.2.2.1, ⟨hk.1.1.2.2.2, hk.2⟩⟩⟩⟩⟩)), (vmo HO_118001.out (fun _ hk => ⟨hk.1.1.1, ⟨hk.1.2, ⟨hk.1.1.2.1, ⟨hk.1.1.2.2.1, ⟨hk.1.1.2.2.2, hk.2⟩⟩⟩⟩⟩)), (zk BK112.out), (zk BK116.out), (zk BK117.out), (zk BK156.out), GW156.out, GE156.out, NB112_156.out, NB156_112.out, NB116_156.out, NB156_116.out, NB117_156.out, NB156_117.out, (blw HB.out)⟩)
                  ·skip
                   refine box_step ?hg (N := 13) ?hd (cs := #[.slice none 0 0, .slice none 0 0, .int .i64 0, .bool false]) (t := 25) ?hr ?_; (case hd => rfl); (case hg => rfl); (case hr => first | (go_simp; done) | (go_simp; rfl))
                   intro gb156 hg w93 hbox hb
                   replace HO_113000 := Aside0.mk (Kd.V_below (Kd.V_elderB (vmv HO_113000.out) gb156 (Nat.le_of_eq hg.symm)) hb)
                   replace HO_113001 := Aside0.mk (Kd.V_below (Kd.V_elderB (vmv HO_113001.out) gb156 (Nat.le_of_eq hg.symm)) hb)
                   replace HO_117000 := Aside0.mk (Kd.V_below (Kd.V_elderB (vmv HO_117000.out) gb156 (Nat.le_of_eq hg.symm)) hb)
                   replace HO_117001 := Aside0.mk (Kd.V_below (Kd.V_elderB (vmv HO_117001.out) gb156 (Nat.le_of_eq hg.symm)) hb)
                   replace HO_118000 := Aside0.mk (Kd.V_below (Kd.V_elderB (vmv HO_118000.out) gb156 (Nat.le_of_eq hg.symm)) hb)
                   replace HO_118001 := Aside0.mk (Kd.V_below (Kd.V_elderB (vmv HO_118001.out) gb156 (Nat.le_of_eq hg.symm)) hb)
                   replace HO146 := Aside0.mk (Kd.R_below (rmv HO146.out) hb)
                   have BK156 := Aside0.mk (hbox)
                   have GW156 := Aside0.mk ((by rw [hg]; exact (below_size (blw HB.out)) : w.heap.size ≤ gb156))
                   have GE156 := Aside0.mk ((by rw [hg]; exact (below_size (blw HB.out)) : w.heap.size ≤ gb156))
                   replace HB := Aside0.mk (below_step (blw HB.out) hb)
                   have NB112_156 := Aside0.mk ((by rw [hg]; exact Nat.ne_of_lt (blk_lt (zk BK112.out)) : gb112 ≠ gb156))
                   have NB156_112 := Aside0.mk ((by rw [hg]; exact Nat.ne_of_gt (blk_lt (zk BK112.out)) : gb156 ≠ gb112))
                   replace BK112 := Aside0.mk (zb BK112.out hb)
                   have NB116_156 := Aside0.mk ((by rw [hg]; exact Nat.ne_of_lt (blk_lt (zk BK116.out)) : gb116 ≠ gb156))
                   have NB156_116 := Aside0.mk ((by rw [hg]; exact Nat.ne_of_gt (blk_lt (zk BK116.out)) : gb156 ≠ gb116))
                   replace BK116 := Aside0.mk (zb BK116.out hb)
                   have NB117_156 := Aside0.mk ((by rw [hg]; exact Nat.ne_of_lt (blk_lt (zk BK117.out)) : gb117 ≠ gb156))
                   have NB156_117 := Aside0.mk ((by rw [hg]; exact Nat.ne_of_gt (blk_lt (zk BK117.out)) : gb156 ≠ gb117))
                   replace BK117 := Aside0.mk (zb BK117.out hb)
                   clear hb hbox hg
                   obtain ⟨Ao94, co94, eo94⟩ := Kd.R_slice HO146.out
                   (first | subst eo94 | (injection eo94 with f1_ f2_ f3_; have f4_ := f1_.symm; have f5_ := f3_.symm; clear f1_ f2_ f3_; subst f4_; subst f5_))
                   refine hK.out _ _ ⟨bc BK117 0, bc BK117 1, bc BK117 2, bc BK117 3, bc BK112 0, bc BK112 1, bc BK112 2, bc BK112 3, ((HB.out.cell (World.block_lt_of_cell? w _ hw142_0)).trans hw142_0), ((HB.out.cell (World.block_lt_of_cell? w _ hw142_1)).trans hw142_1), ((HB.out.cell (World.block_lt_of_cell? w _ hw142_2)).trans hw142_2), ((HB.out.cell (World.block_lt_of_cell? w _ hw143_0)).trans hw143_0), ((HB.out.cell (World.block_lt_of_cell? w _ hw143_1)).trans hw143_1), ((HB.out.cell (World.block_lt_of_cell? w _ hw143_2)).trans hw143_2)⟩ (fun hHeld => ?_)
                   clear hK K
                   refine norm_ (a' := ?_) ?_ ?_
                   rotate_left
                   ·show Act.put _ (some 13) _ = _
                    simp only [Act.put, List.setIfInBounds_toArray, List.set_cons_zero, List.set_cons_succ, i64_w, i32_w]
                    rfl
                   refine one_ (i := 17) (N := some 112) #[Y,Y,Y,Y,Y,Y,Y,Y,Y,Y,Y,Y,Y,Y,Y,Y,Y,Y,N,N,N,Y,N,N] rfl rfl (one_of HT_.out (by kernel_rfl)) (by decide) (fun K hK => ?_)
                   refine goes_ Try.func19 (by kernel_rfl) rfl #[.agg #[.slice Ao88 x118000_4.length co88, .slice Ao89 x118001_4.length co89, .int .i64 x118002_4, .bool x118003_4], .int .i64 (Int.tmod (wrap64 ((rd_T46 l1 x12_4).f1)) (l0_0.length : Int)), .slice Ao94 y144.length co94] (by rfl) rfl rfl (by (try simp only [List.map_toArray, List.map_cons, List.map_nil]); first | done | rfl | (simp only [List.length_drop, List.length_take]; rfl)) ?_
                   with_reducible refine (disk_Write.calls (fun k_ => (((((P0_0_ k_ ∨ P0_1_ k_) ∨ w.heap.size ≤ k_) ∧ (k_ ≠ gb112 ∧ (k_ ≠ gb116 ∧ k_ ≠ gb117))) ∧ some k_ ≠ (.slice Ao94 y144.length co94 : Value).ownBlock) ∧ k_ ≠ gb156)) _ _ x118000_4 (fun k_ => (((((P0_0_ k_ ∨ P0_1_ k_) ∨ w.heap.size ≤ k_) ∧ (k_ ≠ gb112 ∧ (k_ ≠ gb116 ∧ k_ ≠ gb117))) ∧ some k_ ≠ (.slice Ao94 y144.length co94 : Value).ownBlock) ∧ k_ ≠ gb156)) _ _ x118001_4 x118002_4 x118003_4 (Int.tmod (wrap64 ((rd_T46 l1 x12_4).f1)) (l0_0.length : Int)) _ _ y144 t147 t150 t153 t154 t155 _ ?side1 ?side2 ?side3 ?side4 A86.out).mono ?_
                   (case side1 => exact HO_118000.out)
                   (case side2 => exact HO_118001.out)
                   (case side3 => repeat (first | exact (Kd.R_reads' HO146.out).2.2 | (with_reducible refine Kd.C_alloc ?_ _) | (with_reducible refine Kd.C_drewN ?_ _) | (with_reducible refine Kd.C_drew ?_)))
                   (case side4 => exact (Kd.R_reads' HO146.out).2.1)
                   rintro e w95 ⟨v148, v151, rfl, ho0, ho1, hb⟩
                   refine ⟨_, rfl, ?_⟩
                   replace HO_113000 := Aside0.mk (Kd.V_below (vmv HO_113000.out) hb)
                   replace HO_113001 := Aside0.mk (Kd.V_below (vmv HO_113001.out) hb)
                   replace HO_117000 := Aside0.mk (Kd.V_below (vmv HO_117000.out) hb)
                   replace HO_117001 := Aside0.mk (Kd.V_below (vmv HO_117001.out) hb)
                   replace HO_118000 := Aside0.mk (Kd.V_below (vmv HO_118000.out) hb)
                   replace HO_118001 := Aside0.mk (Kd.V_below (vmv HO_118001.out) hb)
                   obtain ⟨HO149, HO152⟩ := vlm2 (ok' := fun k_ => ((P0_0_ k_ ∨ P0_1_ k_) ∨ w.heap.size ≤ k_) ∧ some k_ ≠ (.slice Ao94 y144.length co94 : Value).ownBlock ∧ k_ ≠ gb112 ∧ k_ ≠ gb116 ∧ k_ ≠ gb117 ∧ k_ ≠ gb156) ho0 ho1 (fun k_ hk_ => ⟨Or.elim hk_ (fun hs_ => Or.elim hs_ (fun hs_ => hs_.1.1.1) (fun hs_ => hs_.1.1.1)) (fun hn_ => (.inr (Nat.le_trans (below_size (blw HB.out)) hn_))), Or.elim hk_ (fun hs_ => Or.elim hs_ (fun hs_ => hs_.1.2) (fun hs_ => hs_.1.2)) (fun hn_ => (Kd.fresh' (Kd.R_lt (rmv HO146.out)) k_ hn_)), Or.elim hk_ (fun hs_ => Or.elim hs_ (fun hs_ => hs_.1.1.2.1) (fun hs_ => hs_.1.1.2.1)) (fun hn_ => (Kd.freshB (zk BK112.out) k_ hn_)), Or.elim hk_ (fun hs_ => Or.elim hs_ (fun hs_ => hs_.1.1.2.2.1) (fun hs_ => hs_.1.1.2.2.1)) (fun hn_ => (Kd.freshB (zk BK116.out) k_ hn_)), Or.elim hk_ (fun hs_ => Or.elim hs_ (fun hs_ => hs_.1.1.2.2.2) (fun hs_ => hs_.1.1.2.2.2)) (fun hn_ => (Kd.freshB (zk BK117.out) k_ hn_)), Or.elim hk_ (fun hs_ => Or.elim hs_ (fun hs_ => hs_.2) (fun hs_ => hs_.2)) (fun hn_ => (Kd.freshB (zk BK156.out) k_ hn_))⟩) (fun _ h_ => h_) (below_size (blw HB.out))
                   replace HO146 := Aside0.mk (Kd.R_below (rmv HO146.out) hb)
                   replace BK112 := Aside0.mk (zb BK112.out hb)
                   replace BK116 := Aside0.mk (zb BK116.out hb)
                   replace BK117 := Aside0.mk (zb BK117.out hb)
                   replace BK156 := Aside0.mk (zb BK156.out hb)
                   replace HB := Aside0.mk (below_step (blw HB.out) hb)
                   (try clear hb)
                   (try clear hb2)
                   (try clear hk)
                   (try clear hi)
                   (try clear ho0)
                   (try clear ho1)
                   refine hK.out _ _ ⟨bc BK117 0, bc BK117 1, bc BK117 2, bc BK117 3, bc BK112 0, bc BK112 1, bc BK112 2, bc BK112 3, ((HB.out.cell (World.block_lt_of_cell? w _ hw142_0)).trans hw142_0), ((HB.out.cell (World.block_lt_of_cell? w _ hw142_1)).trans hw142_1), ((HB.out.cell (World.block_lt_of_cell? w _ hw142_2)).trans hw142_2), ((HB.out.cell (World.block_lt_of_cell? w _ hw143_0)).trans hw143_0), ((HB.out.cell (World.block_lt_of_cell? w _ hw143_1)).trans hw143_1), ((HB.out.cell (World.block_lt_of_cell? w _ hw143_2)).trans hw143_2)⟩ (fun hHeld => ?_)
                   clear hK K
                   refine norm_ (a' := ?_) ?_ ?_
                   rotate_left
                   ·show Act.put _ (some 112) _ = _
                    simp only [Act.put, List.setIfInBounds_toArray, List.set_cons_zero, List.set_cons_succ, i64_w, i32_w]
                    rfl
                   refine pureA (i := 18) (N := some 94) #[Y,Y,Y,Y,Y,Y,Y,Y,Y,Y,Y,Y,Y,Y,Y,Y,Y,Y,Y,N,N,Y,N,N] (any_of HT_.out (by kernel_rfl)) ?_
                   refine pureA (i := 19) (N := some 113) #[Y,Y,Y,Y,Y,Y,Y,Y,Y,Y,Y,Y,Y,Y,Y,Y,Y,Y,Y,Y,N,Y,N,N] (any_of HT_.out (by kernel_rfl)) ?_
                   refine pureA (i := 20) (N := some 114) #[Y,Y,Y,Y,Y,Y,Y,Y,Y,Y,Y,Y,Y,Y,Y,Y,Y,Y,Y,Y,Y,Y,N,N] (any_of HT_.out (by kernel_rfl)) ?_
                   exact normA (hCont (.slice Ao94 y144.length co94, v148, v151, gb156) _ ⟨hHeld, (by (with_reducible repeat (first | apply Kd.R_alloc | apply Kd.R_drewN | apply Kd.R_drew)); exact Kd.R_mono HO146.out (fun _ hk => hk.1)), (vmv HO149.out), (vmv HO152.out), (vmo HO_113000.out (fun _ hk => ⟨hk.1.1.1, ⟨hk.1.2, ⟨hk.1.1.2.1, ⟨hk.1.1.2.2.1, ⟨hk.1.1.2.2.2, hk.2⟩⟩⟩⟩⟩)), (vmo HO_113001.out (fun _ hk => ⟨hk.1.1.1, ⟨hk.1.2, ⟨hk.1.1.2.1, ⟨hk.1.1.2.2.1, ⟨hk.1.1.2.2.2, hk.2⟩⟩⟩⟩⟩)), (vmo HO_117000.out (fun _ hk => ⟨hk.1.1.1, ⟨hk.1.2, ⟨hk.1.1.2.1, ⟨hk.1.1.2.2.1, ⟨hk.1.1.2.2.2, hk.2⟩⟩⟩⟩⟩)), (vmo HO_117001.out (fun _ hk => ⟨hk.1.1.1, ⟨hk.1.2, ⟨hk.1.1.2.1, ⟨hk.1.1.2.2.1, ⟨hk.1.1.2.2.2, hk.2⟩⟩⟩⟩⟩)), (vmo HO_118000.out (fun _ hk => ⟨hk.1.1.1, ⟨hk.1.2, ⟨hk.1.1.2.1, ⟨hk.1.1.2.2.1, ⟨hk.1.1.2.2.2, hk.2⟩⟩⟩⟩⟩)), (vmo HO_118001.out (fun _ hk => ⟨hk.1.1.1, ⟨hk.1.2, ⟨hk.1.1.2.1, ⟨hk.1.1.2.2.1, ⟨hk.1.1.2.2.2, hk.2⟩⟩⟩⟩⟩)), (zk BK112.out), (zk BK116.out), (zk BK117.out), (zk BK156.out), GW156.out, GE156.out, NB112_156.out, NB156_112.out, NB116_156.out, NB156_116.out, NB117_156.out, NB156_117.out, (blw HB.out)⟩)
                 ·skip
                  refine box_step ?hg (N := 13) ?hd (cs := #[.slice none 0 0, .slice none 0 0, .int .i64 0, .bool false]) (t := 25) ?hr ?_; (case hd => rfl); (case hg => rfl); (case hr => first | (go_simp; done) | (go_simp; rfl))
                  intro gb156 hg w91 hbox hb
                  replace HO_113000 := Aside0.mk (Kd.V_below (Kd.V_elderB (vmv HO_113000.out) gb156 (Nat.le_of_eq hg.symm)) hb)
                  replace HO_113001 := Aside0.mk (Kd.V_below (Kd.V_elderB (vmv HO_113001.out) gb156 (Nat.le_of_eq hg.symm)) hb)
                  replace HO_117000 := Aside0.mk (Kd.V_below (Kd.V_elderB (vmv HO_117000.out) gb156 (Nat.le_of_eq hg.symm)) hb)
                  replace HO_117001 := Aside0.mk (Kd.V_below (Kd.V_elderB (vmv HO_117001.out) gb156 (Nat.le_of_eq hg.symm)) hb)
                  replace HO_118000 := Aside0.mk (Kd.V_below (Kd.V_elderB (vmv HO_118000.out) gb156 (Nat.le_of_eq hg.symm)) hb)
                  replace HO_118001 := Aside0.mk (Kd.V_below (Kd.V_elderB (vmv HO_118001.out) gb156 (Nat.le_of_eq hg.symm)) hb)
                  have BK156 := Aside0.mk (hbox)
                  have GW156 := Aside0.mk ((by rw [hg]; exact (below_size (blw HB.out)) : w.heap.size ≤ gb156))
                  have GE156 := Aside0.mk ((by rw [hg]; exact (below_size (blw HB.out)) : w.heap.size ≤ gb156))
                  replace HB := Aside0.mk (below_step (blw HB.out) hb)
                  have NB112_156 := Aside0.mk ((by rw [hg]; exact Nat.ne_of_lt (blk_lt (zk BK112.out)) : gb112 ≠ gb156))
                  have NB156_112 := Aside0.mk ((by rw [hg]; exact Nat.ne_of_gt (blk_lt (zk BK112.out)) : gb156 ≠ gb112))
                  replace BK112 := Aside0.mk (zb BK112.out hb)
                  have NB116_156 := Aside0.mk ((by rw [hg]; exact Nat.ne_of_lt (blk_lt (zk BK116.out)) : gb116 ≠ gb156))
                  have NB156_116 := Aside0.mk ((by rw [hg]; exact Nat.ne_of_gt (blk_lt (zk BK116.out)) : gb156 ≠ gb116))
                  replace BK116 := Aside0.mk (zb BK116.out hb)
                  have NB117_156 := Aside0.mk ((by rw [hg]; exact Nat.ne_of_lt (blk_lt (zk BK117.out)) : gb117 ≠ gb156))
                  have NB156_117 := Aside0.mk ((by rw [hg]; exact Nat.ne_of_gt (blk_lt (zk BK117.out)) : gb156 ≠ gb117))
                  replace BK117 := Aside0.mk (zb BK117.out hb)
                  clear hb hbox hg
                  refine hK.out _ _ ⟨bc BK117 0, bc BK117 1, bc BK117 2, bc BK117 3, bc BK112 0, bc BK112 1, bc BK112 2, bc BK112 3, ((HB.out.cell (World.block_lt_of_cell? w _ hw142_0)).trans hw142_0), ((HB.out.cell (World.block_lt_of_cell? w _ hw142_1)).trans hw142_1), ((HB.out.cell (World.block_lt_of_cell? w _ hw142_2)).trans hw142_2), ((HB.out.cell (World.block_lt_of_cell? w _ hw143_0)).trans hw143_0), ((HB.out.cell (World.block_lt_of_cell? w _ hw143_1)).trans hw143_1), ((HB.out.cell (World.block_lt_of_cell? w _ hw143_2)).trans hw143_2)⟩ (fun hHeld => ?_)
                  clear hK K
                  refine norm_ (a' := ?_) ?_ ?_
                  rotate_left
                  ·show Act.put _ (some 13) _ = _
                   simp only [Act.put, List.setIfInBounds_toArray, List.set_cons_zero, List.set_cons_succ, i64_w, i32_w]
                   rfl
                  refine one_ (i := 16) (N := some 111) #[Y,Y,Y,Y,Y,Y,Y,Y,Y,Y,Y,Y,Y,Y,Y,Y,Y,N,N,N,N,Y,N,N] rfl rfl (one_of HT_.out (by kernel_rfl)) (by decide) (fun K hK => ?_)
                  refine Kd.R_lit_step (Kd.int .u8) _ 5 ?hg (N := 111) ?hd (xs := ([(rd_T46 l1 x12_4).f2] : List Int)) (inner := [.int .u8 ((rd_T46 l1 x12_4).f2)]) (ok := fun _ => True) (okp := fun _ => True) ?hr ?hp (fun _ hk => hk) trivial (Below.refl _ _) (Nat.le_refl _) (by simp) ?_; (case hd => rfl); (case hg => rfl); (case hr => first | (go_simp; done) | (go_simp; rfl)); (case hp => exact (Reps.one (show Kd.M (Kd.int .u8) _ _ _ ((rd_T46 l1 x12_4).f2) [.int .u8 ((rd_T46 l1 x12_4).f2)] from rfl) (Reps.none _ _)))
                  intro v145 w92 ho93 hb hg_ hnew_
                  clear hg_ hnew_
                  (first | rw [← Ny144.out] at ho93 | (simp only [Int.reduceToNat] at ho93; rw [← Ny144.out] at ho93))
                  replace HO_113000 := Aside0.mk (Kd.V_elder' (vmv HO_113000.out) (Kd.R_base ho93) hb)
                  replace HO_113001 := Aside0.mk (Kd.V_elder' (vmv HO_113001.out) (Kd.R_base ho93) hb)
                  replace HO_117000 := Aside0.mk (Kd.V_elder' (vmv HO_117000.out) (Kd.R_base ho93) hb)
                  replace HO_117001 := Aside0.mk (Kd.V_elder' (vmv HO_117001.out) (Kd.R_base ho93) hb)
                  replace HO_118000 := Aside0.mk (Kd.V_elder' (vmv HO_118000.out) (Kd.R_base ho93) hb)
                  replace HO_118001 := Aside0.mk (Kd.V_elder' (vmv HO_118001.out) (Kd.R_base ho93) hb)
                  have HO146 := Aside0.mk (Kd.R_lower (Kd.R_newM (M := fun k_ => (w.heap.size ≤ k_)) ho93 (below_size (blw HB.out)) (fun k_ h_ => h_)) (below_size (blw HB.out)))
                  replace BK112 := Aside0.mk (zb BK112.out hb)
                  replace BK116 := Aside0.mk (zb BK116.out hb)
                  replace BK117 := Aside0.mk (zb BK117.out hb)
                  replace BK156 := Aside0.mk (zb BK156.out hb)
                  replace HB := Aside0.mk (below_step (blw HB.out) hb)
                  clear hb ho93
                  obtain ⟨Ao94, co94, eo94⟩ := Kd.R_slice HO146.out
                  (first | subst eo94 | (injection eo94 with f1_ f2_ f3_; have f4_ := f1_.symm; have f5_ := f3_.symm; clear f1_ f2_ f3_; subst f4_; subst f5_))
                  refine hK.out _ _ ⟨bc BK117 0, bc BK117 1, bc BK117 2, bc BK117 3, bc BK112 0, bc BK112 1, bc BK112 2, bc BK112 3, ((HB.out.cell (World.block_lt_of_cell? w _ hw142_0)).trans hw142_0), ((HB.out.cell (World.block_lt_of_cell? w _ hw142_1)).trans hw142_1), ((HB.out.cell (World.block_lt_of_cell? w _ hw142_2)).trans hw142_2), ((HB.out.cell (World.block_lt_of_cell? w _ hw143_0)).trans hw143_0), ((HB.out.cell (World.block_lt_of_cell? w _ hw143_1)).trans hw143_1), ((HB.out.cell (World.block_lt_of_cell? w _ hw143_2)).trans hw143_2)⟩ (fun hHeld => ?_)
                  clear hK K
                  refine norm_ (a' := ?_) ?_ ?_
                  rotate_left
                  ·show Act.put _ (some 111) _ = _
                   simp only [Act.put, List.setIfInBounds_toArray, List.set_cons_zero, List.set_cons_succ, i64_w, i32_w]
                   rfl
                  refine one_ (i := 17) (N := some 112) #[Y,Y,Y,Y,Y,Y,Y,Y,Y,Y,Y,Y,Y,Y,Y,Y,Y,Y,N,N,N,Y,N,N] rfl rfl (one_of HT_.out (by kernel_rfl)) (by decide) (fun K hK => ?_)
                  refine goes_ Try.func19 (by kernel_rfl) rfl #[.agg #[.slice Ao88 x118000_4.length co88, .slice Ao89 x118001_4.length co89, .int .i64 x118002_4, .bool x118003_4], .int .i64 (Int.tmod (wrap64 ((rd_T46 l1 x12_4).f1)) (l0_0.length : Int)), .slice Ao94 y144.length co94] (by rfl) rfl rfl (by (try simp only [List.map_toArray, List.map_cons, List.map_nil]); first | done | rfl | (simp only [List.length_drop, List.length_take]; rfl)) ?_
                  with_reducible refine (disk_Write.calls (fun k_ => (((((P0_0_ k_ ∨ P0_1_ k_) ∨ w.heap.size ≤ k_) ∧ (k_ ≠ gb112 ∧ (k_ ≠ gb116 ∧ k_ ≠ gb117))) ∧ k_ ≠ gb156) ∧ some k_ ≠ (.slice Ao94 y144.length co94 : Value).ownBlock)) _ _ x118000_4 (fun k_ => (((((P0_0_ k_ ∨ P0_1_ k_) ∨ w.heap.size ≤ k_) ∧ (k_ ≠ gb112 ∧ (k_ ≠ gb116 ∧ k_ ≠ gb117))) ∧ k_ ≠ gb156) ∧ some k_ ≠ (.slice Ao94 y144.length co94 : Value).ownBlock)) _ _ x118001_4 x118002_4 x118003_4 (Int.tmod (wrap64 ((rd_T46 l1 x12_4).f1)) (l0_0.length : Int)) _ _ y144 t147 t150 t153 t154 t155 _ ?side1 ?side2 ?side3 ?side4 A86.out).mono ?_
                  (case side1 => exact HO_118000.out)
                  (case side2 => exact HO_118001.out)
                  (case side3 => repeat (first | exact (Kd.R_reads' HO146.out).2.2 | (with_reducible refine Kd.C_alloc ?_ _) | (with_reducible refine Kd.C_drewN ?_ _) | (with_reducible refine Kd.C_drew ?_)))
                  (case side4 => exact (Kd.R_reads' HO146.out).2.1)
                  rintro e w95 ⟨v148, v151, rfl, ho0, ho1, hb⟩
                  refine ⟨_, rfl, ?_⟩
                  replace HO_113000 := Aside0.mk (Kd.V_below (vmv HO_113000.out) hb)
                  replace HO_113001 := Aside0.mk (Kd.V_below (vmv HO_113001.out) hb)
                  replace HO_117000 := Aside0.mk (Kd.V_below (vmv HO_117000.out) hb)
                  replace HO_117001 := Aside0.mk (Kd.V_below (vmv HO_117001.out) hb)
                  replace HO_118000 := Aside0.mk (Kd.V_below (vmv HO_118000.out) hb)
                  replace HO_118001 := Aside0.mk (Kd.V_below (vmv HO_118001.out) hb)
                  obtain ⟨HO149, HO152⟩ := vlm2 (ok' := fun k_ => ((P0_0_ k_ ∨ P0_1_ k_) ∨ w.heap.size ≤ k_) ∧ some k_ ≠ (.slice Ao94 y144.length co94 : Value).ownBlock ∧ k_ ≠ gb112 ∧ k_ ≠ gb116 ∧ k_ ≠ gb117 ∧ k_ ≠ gb156) ho0 ho1 (fun k_ hk_ => ⟨Or.elim hk_ (fun hs_ => Or.elim hs_ (fun hs_ => hs_.1.1.1) (fun hs_ => hs_.1.1.1)) (fun hn_ => (.inr (Nat.le_trans (below_size (blw HB.out)) hn_))), Or.elim hk_ (fun hs_ => Or.elim hs_ (fun hs_ => hs_.2) (fun hs_ => hs_.2)) (fun hn_ => (Kd.fresh' (Kd.R_lt (rmv HO146.out)) k_ hn_)), Or.elim hk_ (fun hs_ => Or.elim hs_ (fun hs_ => hs_.1.1.2.1) (fun hs_ => hs_.1.1.2.1)) (fun hn_ => (Kd.freshB (zk BK112.out) k_ hn_)), Or.elim hk_ (fun hs_ => Or.elim hs_ (fun hs_ => hs_.1.1.2.2.1) (fun hs_ => hs_.1.1.2.2.1)) (fun hn_ => (Kd.freshB (zk BK116.out) k_ hn_)), Or.elim hk_ (fun hs_ => Or.elim hs_ (fun hs_ => hs_.1.1.2.2.2) (fun hs_ => hs_.1.1.2.2.2)) (fun hn_ => (Kd.freshB (zk BK117.out) k_ hn_)), Or.elim hk_ (fun hs_ => Or.elim hs_ (fun hs_ => hs_.1.2) (fun hs_ => hs_.1.2)) (fun hn_ => (Kd.freshB (zk BK156.out) k_ hn_))⟩) (fun _ h_ => h_) (below_size (blw HB.out))
                  replace HO146 := Aside0.mk (Kd.R_below (rmv HO146.out) hb)
                  replace BK112 := Aside0.mk (zb BK112.out hb)
                  replace BK116 := Aside0.mk (zb BK116.out hb)
                  replace BK117 := Aside0.mk (zb BK117.out hb)
                  replace BK156 := Aside0.mk (zb BK156.out hb)
                  replace HB := Aside0.mk (below_step (blw HB.out) hb)
                  (try clear hb)
                  (try clear hb2)
                  (try clear hk)
                  (try clear hi)
                  (try clear ho0)
                  (try clear ho1)
                  refine hK.out _ _ ⟨bc BK117 0, bc BK117 1, bc BK117 2, bc BK117 3, bc BK112 0, bc BK112 1, bc BK112 2, bc BK112 3, ((HB.out.cell (World.block_lt_of_cell? w _ hw142_0)).trans hw142_0), ((HB.out.cell (World.block_lt_of_cell? w _ hw142_1)).trans hw142_1), ((HB.out.cell (World.block_lt_of_cell? w _ hw142_2)).trans hw142_2), ((HB.out.cell (World.block_lt_of_cell? w _ hw143_0)).trans hw143_0), ((HB.out.cell (World.block_lt_of_cell? w _ hw143_1)).trans hw143_1), ((HB.out.cell (World.block_lt_of_cell? w _ hw143_2)).trans hw143_2)⟩ (fun hHeld => ?_)
                  clear hK K
                  refine norm_ (a' := ?_) ?_ ?_
                  rotate_left
                  ·show Act.put _ (some 112) _ = _
                   simp only [Act.put, List.setIfInBounds_toArray, List.set_cons_zero, List.set_cons_succ, i64_w, i32_w]
                   rfl
                  refine pureA (i := 18) (N := some 94) #[Y,Y,Y,Y,Y,Y,Y,Y,Y,Y,Y,Y,Y,Y,Y,Y,Y,Y,Y,N,N,Y,N,N] (any_of HT_.out (by kernel_rfl)) ?_
                  refine pureA (i := 19) (N := some 113) #[Y,Y,Y,Y,Y,Y,Y,Y,Y,Y,Y,Y,Y,Y,Y,Y,Y,Y,Y,Y,N,Y,N,N] (any_of HT_.out (by kernel_rfl)) ?_
                  refine pureA (i := 20) (N := some 114) #[Y,Y,Y,Y,Y,Y,Y,Y,Y,Y,Y,Y,Y,Y,Y,Y,Y,Y,Y,Y,Y,Y,N,N] (any_of HT_.out (by kernel_rfl)) ?_
                  exact normA (hCont (.slice Ao94 y144.length co94, v148, v151, gb156) _ ⟨hHeld, (by (with_reducible repeat (first | apply Kd.R_alloc | apply Kd.R_drewN | apply Kd.R_drew)); exact Kd.R_mono HO146.out (fun _ hk => hk.1)), (vmv HO149.out), (vmv HO152.out), (vmo HO_113000.out (fun _ hk => ⟨hk.1.1.1, ⟨hk.2, ⟨hk.1.1.2.1, ⟨hk.1.1.2.2.1, ⟨hk.1.1.2.2.2, hk.1.2⟩⟩⟩⟩⟩)), (vmo HO_113001.out (fun _ hk => ⟨hk.1.1.1, ⟨hk.2, ⟨hk.1.1.2.1, ⟨hk.1.1.2.2.1, ⟨hk.1.1.2.2.2, hk.1.2⟩⟩⟩⟩⟩)), (vmo HO_117000.out (fun _ hk => ⟨hk.1.1.1, ⟨hk.2, ⟨hk.1.1.2.1, ⟨hk.1.1.2.2.1, ⟨hk.1.1.2.2.2, hk.1.2⟩⟩⟩⟩⟩)), (vmo HO_117001.out (fun _ hk => ⟨hk.1.1.1, ⟨hk.2, ⟨hk.1.1.2.1, ⟨hk.1.1.2.2.1, ⟨hk.1.1.2.2.2, hk.1.2⟩⟩⟩⟩⟩)), (vmo HO_118000.out (fun _ hk => ⟨hk.1.1.1, ⟨hk.2, ⟨hk.1.1.2.1, ⟨hk.1.1.2.2.1, ⟨hk.1.1.2.2.2, hk.1.2⟩⟩⟩⟩⟩)), (vmo HO_118001.out (fun _ hk => ⟨hk.1.1.1, ⟨hk.2, ⟨hk.1.1.2.1, ⟨hk.1.1.2.2.1, ⟨hk.1.1.2.2.2, hk.1.2⟩⟩⟩⟩⟩)), (zk BK112.out), (zk BK116.out), (zk BK117.out), (zk BK156.out), GW156.out, GE156.out, NB112_156.out, NB156_112.out, NB116_156.out, NB156_116.out, NB117_156.out, NB156_117.out, (blw HB.out)⟩)
                rintro ⟨v145, v148, v151, gb156⟩ w96 ⟨hS_, h0_, h1_, h2_, h3_, h4_, h5_, h6_, h7_, h8_, h9_, h10_, h11_, h12_, h13_, h14_, h15_, h16_, h17_, h18_, h19_, h20_, h21_⟩
                have n0_ : Aside0 (Kd.R (Kd.int .u8) 5 w96 w.heap.size (fun k_ => (w.heap.size ≤ k_)) v145 y144) := ⟨h0_⟩
                have n1_ : Aside0 (Kd.V (Kd.slice 5 (Kd.int .u8)) 35 w96 w.heap.size (fun k_ => ((P0_0_ k_ ∨ P0_1_ k_) ∨ w.heap.size ≤ k_) ∧ some k_ ≠ (v145 : Value).ownBlock ∧ k_ ≠ gb112 ∧ k_ ≠ gb116 ∧ k_ ≠ gb117 ∧ k_ ≠ gb156) v148 t147) := ⟨h1_⟩
                have n2_ : Aside0 (Kd.V k54 54 w96 w.heap.size (fun k_ => ((P0_0_ k_ ∨ P0_1_ k_) ∨ w.heap.size ≤ k_) ∧ some k_ ≠ (v145 : Value).ownBlock ∧ k_ ≠ gb112 ∧ k_ ≠ gb116 ∧ k_ ≠ gb117 ∧ k_ ≠ gb156) v151 t150) := ⟨h2_⟩
                have n3_ : Aside0 (Kd.V (Kd.slice 5 (Kd.int .u8)) 35 w96 w.heap.size (fun k_ => ((P0_0_ k_ ∨ P0_1_ k_) ∨ w.heap.size ≤ k_) ∧ some k_ ≠ (v145 : Value).ownBlock ∧ k_ ≠ gb112 ∧ k_ ≠ gb116 ∧ k_ ≠ gb117 ∧ k_ ≠ gb156) (.slice A0_0 l0_0.length c0_0) l0_0) := ⟨h3_⟩
                have n4_ : Aside0 (Kd.V k54 54 w96 w.heap.size (fun k_ => ((P0_0_ k_ ∨ P0_1_ k_) ∨ w.heap.size ≤ k_) ∧ some k_ ≠ (v145 : Value).ownBlock ∧ k_ ≠ gb112 ∧ k_ ≠ gb116 ∧ k_ ≠ gb117 ∧ k_ ≠ gb156) (.slice A0_1 l0_1.length c0_1) l0_1) := ⟨h4_⟩
                have n5_ : Aside0 (Kd.V (Kd.slice 5 (Kd.int .u8)) 35 w96 w.heap.size (fun k_ => ((P0_0_ k_ ∨ P0_1_ k_) ∨ w.heap.size ≤ k_) ∧ some k_ ≠ (v145 : Value).ownBlock ∧ k_ ≠ gb112 ∧ k_ ≠ gb116 ∧ k_ ≠ gb117 ∧ k_ ≠ gb156) u117000 x117000_2) := ⟨h5_⟩
                have n6_ : Aside0 (Kd.V k54 54 w96 w.heap.size (fun k_ => ((P0_0_ k_ ∨ P0_1_ k_) ∨ w.heap.size ≤ k_) ∧ some k_ ≠ (v145 : Value).ownBlock ∧ k_ ≠ gb112 ∧ k_ ≠ gb116 ∧ k_ ≠ gb117 ∧ k_ ≠ gb156) u117001 x117001_2) := ⟨h6_⟩
                have n7_ : Aside0 (Kd.V (Kd.slice 5 (Kd.int .u8)) 35 w96 w.heap.size (fun k_ => ((P0_0_ k_ ∨ P0_1_ k_) ∨ w.heap.size ≤ k_) ∧ some k_ ≠ (v145 : Value).ownBlock ∧ k_ ≠ gb112 ∧ k_ ≠ gb116 ∧ k_ ≠ gb117 ∧ k_ ≠ gb156) (.slice Ao88 x118000_4.length co88) x118000_4) := ⟨h7_⟩
                have n8_ : Aside0 (Kd.V k54 54 w96 w.heap.size (fun k_ => ((P0_0_ k_ ∨ P0_1_ k_) ∨ w.heap.size ≤ k_) ∧ some k_ ≠ (v145 : Value).ownBlock ∧ k_ ≠ gb112 ∧ k_ ≠ gb116 ∧ k_ ≠ gb117 ∧ k_ ≠ gb156) (.slice Ao89 x118001_4.length co89) x118001_4) := ⟨h8_⟩
                have n9_ : Aside0 (w96.heap[gb112]? = some (.cells #[.slice A0_0 l0_0.length c0_0, .slice A0_1 l0_1.length c0_1, .int .i64 a0_2, .bool a0_3] 25 (0, 0))) := ⟨h9_⟩
                have n10_ : Aside0 (w96.heap[gb116]? = some (.cells #[u117000, u117001, .int .i64 x117002_2, .bool x117003_2] 25 (0, 0))) := ⟨h10_⟩
                have n11_ : Aside0 (w96.heap[gb117]? = some (.cells #[.slice Ao88 x118000_4.length co88, .slice Ao89 x118001_4.length co89, .int .i64 x118002_4, .bool x118003_4] 25 (0, 0))) := ⟨h11_⟩
                have n12_ : Aside0 (w96.heap[gb156]? = some (.cells #[.slice none 0 0, .slice none 0 0, .int .i64 0, .bool false] 25 (0, 0))) := ⟨h12_⟩
                have n13_ : Aside0 (w.heap.size ≤ gb156) := ⟨h13_⟩
                have n14_ : Aside0 (w.heap.size ≤ gb156) := ⟨h14_⟩
                have n15_ : Aside0 (gb112 ≠ gb156) := ⟨h15_⟩
                have n16_ : Aside0 (gb156 ≠ gb112) := ⟨h16_⟩
                have n17_ : Aside0 (gb116 ≠ gb156) := ⟨h17_⟩
                have n18_ : Aside0 (gb156 ≠ gb116) := ⟨h18_⟩
                have n19_ : Aside0 (gb117 ≠ gb156) := ⟨h19_⟩
                have n20_ : Aside0 (gb156 ≠ gb117) := ⟨h20_⟩
                have n21_ : Aside0 (Below w.heap.size w w96) := ⟨h21_⟩
                clear HO_113000 HO_113001 HO_117000 HO_117001 HO_118000 HO_118001 BK112 BK116 BK117 HB h0_ h1_ h2_ h3_ h4_ h5_ h6_ h7_ h8_ h9_ h10_ h11_ h12_ h13_ h14_ h15_ h16_ h17_ h18_ h19_ h20_ h21_
                have HO146 := n0_
                have HO149 := n1_
                have HO152 := n2_
                have HO_113000 := n3_
                have HO_113001 := n4_
                have HO_117000 := n5_
                have HO_117001 := n6_
                have HO_118000 := n7_
                have HO_118001 := n8_
                have BK112 := n9_
                have BK116 := n10_
                have BK117 := n11_
                have BK156 := n12_
                have GW156 := n13_
                have GE156 := n14_
                have NB112_156 := n15_
                have NB156_112 := n16_
                have NB116_156 := n17_
                have NB156_116 := n18_
                have NB117_156 := n19_
                have NB156_117 := n20_
                have HB := n21_
                clear n0_ n1_ n2_ n3_ n4_ n5_ n6_ n7_ n8_ n9_ n10_ n11_ n12_ n13_ n14_ n15_ n16_ n17_ n18_ n19_ n20_ n21_
                have hHeld : w96.cell? ⟨gb117, 0, none⟩ = some (.slice Ao88 x118000_4.length co88) ∧ w96.cell? ⟨gb117, 1, none⟩ = some (.slice Ao89 x118001_4.length co89) ∧ w96.cell? ⟨gb117, 2, none⟩ = some (.int .i64 x118002_4) ∧ w96.cell? ⟨gb117, 3, none⟩ = some (.bool x118003_4) ∧ w96.cell? ⟨gb112, 0, none⟩ = some (.slice A0_0 l0_0.length c0_0) ∧ w96.cell? ⟨gb112, 1, none⟩ = some (.slice A0_1 l0_1.length c0_1) ∧ w96.cell? ⟨gb112, 2, none⟩ = some (.int .i64 a0_2) ∧ w96.cell? ⟨gb112, 3, none⟩ = some (.bool a0_3) ∧ w96.cell? (ad142.add ((x12_4).toNat * 3)) = some (.bool ((rd_T46 l1 x12_4).f0)) ∧ w96.cell? ⟨(ad142.add ((x12_4).toNat * 3)).block, (ad142.add ((x12_4).toNat * 3)).off + 1, none⟩ = some (.int .u8 ((rd_T46 l1 x12_4).f1)) ∧ w96.cell? ⟨(ad142.add ((x12_4).toNat * 3)).block, (ad142.add ((x12_4).toNat * 3)).off + 2, none⟩ = some (.int .u8 ((rd_T46 l1 x12_4).f2)) ∧ w96.cell? (ad142.add ((x12_4).toNat * 3)) = some (.bool ((rd_T46 l1 x12_4).f0)) ∧ w96.cell? ⟨(ad142.add ((x12_4).toNat * 3)).block, (ad142.add ((x12_4).toNat * 3)).off + 1, none⟩ = some (.int .u8 ((rd_T46 l1 x12_4).f1)) ∧ w96.cell? ⟨(ad142.add ((x12_4).toNat * 3)).block, (ad142.add ((x12_4).toNat * 3)).off + 2, none⟩ = some (.int .u8 ((rd_T46 l1 x12_4).f2)) := hS_
                obtain ⟨Ao97, co97, eo97⟩ := Kd.V_slice HO149.out
                (first | subst eo97 | (injection eo97 with f1_ f2_ f3_; have f4_ := f1_.symm; have f5_ := f3_.symm; clear f1_ f2_ f3_; subst f4_; subst f5_))
                obtain ⟨Ao99, co99, eo99⟩ := Kd.V_slice HO152.out
                (first | subst eo99 | (injection eo99 with f1_ f2_ f3_; have f4_ := f1_.symm; have f5_ := f3_.symm; clear f1_ f2_ f3_; subst f4_; subst f5_))
                refine norm_ (a' := ?_) ?_ ?_
                rotate_left
                ·simp only [putAll, Act.put, List.setIfInBounds_toArray, List.set_cons_zero, List.set_cons_succ]
                 rfl
                refine one_ (i := 22) (N := none) #[Y,Y,Y,Y,Y,Y,Y,Y,Y,Y,Y,Y,Y,Y,Y,Y,Y,Y,Y,Y,Y,Y,Y,N] rfl rfl (one_of HT_.out (by kernel_rfl)) (by decide) (fun K hK => ?_)
                have hs98 : w96.cell? ⟨gb156, 0, none⟩ = some (.slice none 0 0) := bc BK156 0
                have hfs98 := blk_frozen BK156.out 0
                have hns98_0 := NB112_156.out
                have hns98_1 := NB116_156.out
                have hns98_2 := NB117_156.out
                have hms98_0 := NB156_112.out
                have hms98_1 := NB156_116.out
                have hms98_2 := NB156_117.out
                have hs100 : w96.cell? ⟨gb156, 1, none⟩ = some (.slice none 0 0) := bc BK156 1
                have hfs100 := blk_frozen BK156.out 1
                have hns100_0 := NB112_156.out
                have hns100_1 := NB116_156.out
                have hns100_2 := NB117_156.out
                have hms100_0 := NB156_112.out
                have hms100_1 := NB156_116.out
                have hms100_2 := NB156_117.out
                have hs101 : w96.cell? ⟨gb156, 2, none⟩ = some (.int .i64 0) := bc BK156 2
                have hfs101 := blk_frozen BK156.out 2
                have hns101_0 := NB112_156.out
                have hns101_1 := NB116_156.out
                have hns101_2 := NB117_156.out
                have hms101_0 := NB156_112.out
                have hms101_1 := NB156_116.out
                have hms101_2 := NB156_117.out
                have hs102 : w96.cell? ⟨gb156, 3, none⟩ = some (.bool false) := bc BK156 3
                have hfs102 := blk_frozen BK156.out 3
                have hns102_0 := NB112_156.out
                have hns102_1 := NB116_156.out
                have hns102_2 := NB117_156.out
                have hms102_0 := NB156_112.out
                have hms102_1 := NB156_116.out
                have hms102_2 := NB156_117.out
                refine skip_ (w1 := ?_) (by rfl) rfl ?_ ?_
                rotate_left
                ·go_simp
                 rfl
                refine hK.out _ _ ⟨(cf hHeld.1), (cf hHeld.2.1), (cf hHeld.2.2.1), (cf hHeld.2.2.2.1), (cf hHeld.2.2.2.2.1), (cf hHeld.2.2.2.2.2.1), (cf hHeld.2.2.2.2.2.2.1), (cf hHeld.2.2.2.2.2.2.2.1), (cfw hw142_0 GW156 (hHeld.2.2.2.2.2.2.2.2.1)), (cfw hw142_1 GW156 (hHeld.2.2.2.2.2.2.2.2.2.1)), (cfw hw142_2 GW156 (hHeld.2.2.2.2.2.2.2.2.2.2.1)), (cfw hw143_0 GW156 (hHeld.2.2.2.2.2.2.2.2.2.2.2.1)), (cfw hw143_1 GW156 (hHeld.2.2.2.2.2.2.2.2.2.2.2.2.1)), (cfw hw143_2 GW156 (hHeld.2.2.2.2.2.2.2.2.2.2.2.2.2))⟩ (fun hHeld => ?_)
                clear hK K
                refine pureA (i := 23) (N := some 14) #[Y,Y,Y,Y,Y,Y,Y,Y,Y,Y,Y,Y,Y,Y,Y,Y,Y,Y,Y,Y,Y,Y,Y,Y] (any_of HT_.out (by kernel_rfl)) ?_
                refine done_ (done_of HT_.out (by kernel_rfl)) ?_
                have hnb103 := NB156_112.out
                have hnc103 := NB112_156.out
                have hnb104 := NB156_116.out
                have hnc104 := NB116_156.out
                have hnb105 := NB156_117.out
                have hnc105 := NB117_156.out
                have hcz106_0 : w96.cell? ⟨gb156, 0, none⟩ = some (.slice none 0 0) := bc BK156 0
                have hcz106_1 : w96.cell? ⟨gb156, 1, none⟩ = some (.slice none 0 0) := bc BK156 1
                have hcz106_2 : w96.cell? ⟨gb156, 2, none⟩ = some (.int .i64 0) := bc BK156 2
                have hcz106_3 : w96.cell? ⟨gb156, 3, none⟩ = some (.bool false) := bc BK156 3
                have hfz106_0 := blk_frozen BK156.out 0
                have hfz106_1 := blk_frozen BK156.out 1
                have hfz106_2 := blk_frozen BK156.out 2
                have hfz106_3 := blk_frozen BK156.out 3
                have hnb107 := NB117_112.out
                have hnc107 := NB112_117.out
                have hnb108 := NB117_116.out
                have hnc108 := NB116_117.out
                have hcz109_0 : w96.cell? ⟨gb117, 0, none⟩ = some (.slice Ao88 x118000_4.length co88) := bc BK117 0
                have hcz109_1 : w96.cell? ⟨gb117, 1, none⟩ = some (.slice Ao89 x118001_4.length co89) := bc BK117 1
                have hcz109_2 : w96.cell? ⟨gb117, 2, none⟩ = some (.int .i64 x118002_4) := bc BK117 2
                have hcz109_3 : w96.cell? ⟨gb117, 3, none⟩ = some (.bool x118003_4) := bc BK117 3
                have hfz109_0 := blk_frozen BK117.out 0
                have hfz109_1 := blk_frozen BK117.out 1
                have hfz109_2 := blk_frozen BK117.out 2
                have hfz109_3 := blk_frozen BK117.out 3
                try go_wp2
                go_roundg k4
                case measure => have := HJ4.out; have := HK2.out; have := HJ46.out; have := HK4.out; omega
                case rel => exact ⟨(wrap64 (x12_4 + 1)), (t147), (t150), (t153), (t154), (.slice Ao97 t147.length co97), (.slice Ao99 t150.length co99), (by first | rfl | (simp; done) | (simp [*]; done)), H', ⟨by have := HJ4.out; have := HK2.out; have := HJ46.out; have := HK4.out; omega⟩, ⟨by (with_reducible repeat (first | apply Kd.V_alloc | apply Kd.V_drewN | apply Kd.V_drew)); exact Kd.V_mono (Kd.V_far (p := ⟨gb117, 3, none⟩) (Kd.V_far (p := ⟨gb117, 2, none⟩) (Kd.V_far (p := ⟨gb117, 1, none⟩) (Kd.V_far (p := ⟨gb117, 0, none⟩) (Kd.V_far (p := ⟨gb156, 3, none⟩) (Kd.V_far (p := ⟨gb156, 2, none⟩) (Kd.V_far (p := ⟨gb156, 1, none⟩) (Kd.V_far (p := ⟨gb156, 0, none⟩) (Kd.V_mono (Kd.V_mono HO_113000.out (fun k_ hk => (⟨hk, hk.2.2.2.2.2⟩ : _ ∧ k_ ≠ gb156))) (fun k_ hk => (⟨hk, hk.1.2.2.2.2.1⟩ : _ ∧ k_ ≠ gb117))) (fun _ hk => hk.1.2) (.slice Ao97 t147.length co97)) (fun _ hk => hk.1.2) (.slice Ao99 t150.length co99)) (fun _ hk => hk.1.2) (.int .i64 t153)) (fun _ hk => hk.1.2) (.bool t154)) (fun _ hk => hk.2) (.slice Ao97 t147.length co97)) (fun _ hk => hk.2) (.slice Ao99 t150.length co99)) (fun _ hk => hk.2) (.int .i64 t153)) (fun _ hk => hk.2) (.bool t154)) (fun _ hk => ⟨hk.1.1.1, ⟨hk.1.1.2.2.1, ⟨hk.1.1.2.2.2.1, hk.1.1.2.2.2.2.1⟩⟩⟩)⟩, ⟨by (with_reducible repeat (first | apply Kd.V_alloc | apply Kd.V_drewN | apply Kd.V_drew)); exact Kd.V_mono (Kd.V_far (p := ⟨gb117, 3, none⟩) (Kd.V_far (p := ⟨gb117, 2, none⟩) (Kd.V_far (p := ⟨gb117, 1, none⟩) (Kd.V_far (p := ⟨gb117, 0, none⟩) (Kd.V_far (p := ⟨gb156, 3, none⟩) (Kd.V_far (p := ⟨gb156, 2, none⟩) (Kd.V_far (p := ⟨gb156, 1, none⟩) (Kd.V_far (p := ⟨gb156, 0, none⟩) (Kd.V_mono (Kd.V_mono HO_113001.out (fun k_ hk => (⟨hk, hk.2.2.2.2.2⟩ : _ ∧ k_ ≠ gb156))) (fun k_ hk => (⟨hk, hk.1.2.2.2.2.1⟩ : _ ∧ k_ ≠ gb117))) (fun _ hk => hk.1.2) (.slice Ao97 t147.length co97)) (fun _ hk => hk.1.2) (.slice Ao99 t150.length co99)) (fun _ hk => hk.1.2) (.int .i64 t153)) (fun _ hk => hk.1.2) (.bool t154)) (fun _ hk => hk.2) (.slice Ao97 t147.length co97)) (fun _ hk => hk.2) (.slice Ao99 t150.length co99)) (fun _ hk => hk.2) (.int .i64 t153)) (fun _ hk => hk.2) (.bool t154)) (fun _ hk => ⟨hk.1.1.1, ⟨hk.1.1.2.2.1, ⟨hk.1.1.2.2.2.1, hk.1.1.2.2.2.2.1⟩⟩⟩)⟩, ⟨by (with_reducible repeat (first | apply Kd.V_alloc | apply Kd.V_drewN | apply Kd.V_drew)); exact Kd.V_mono (Kd.V_far (p := ⟨gb117, 3, none⟩) (Kd.V_far (p := ⟨gb117, 2, none⟩) (Kd.V_far (p := ⟨gb117, 1, none⟩) (Kd.V_far (p := ⟨gb117, 0, none⟩) (Kd.V_far (p := ⟨gb156, 3, none⟩) (Kd.V_far (p := ⟨gb156, 2, none⟩) (Kd.V_far (p := ⟨gb156, 1, none⟩) (Kd.V_far (p := ⟨gb156, 0, none⟩) (Kd.V_mono (Kd.V_mono HO_117000.out (fun k_ hk => (⟨hk, hk.2.2.2.2.2⟩ : _ ∧ k_ ≠ gb156))) (fun k_ hk => (⟨hk, hk.1.2.2.2.2.1⟩ : _ ∧ k_ ≠ gb117))) (fun _ hk => hk.1.2) (.slice Ao97 t147.length co97)) (fun _ hk => hk.1.2) (.slice Ao99 t150.length co99)) (fun _ hk => hk.1.2) (.int .i64 t153)) (fun _ hk => hk.1.2) (.bool t154)) (fun _ hk => hk.2) (.slice Ao97 t147.length co97)) (fun _ hk => hk.2) (.slice Ao99 t150.length co99)) (fun _ hk => hk.2) (.int .i64 t153)) (fun _ hk => hk.2) (.bool t154)) (fun _ hk => ⟨hk.1.1.1, ⟨hk.1.1.2.2.1, ⟨hk.1.1.2.2.2.1, hk.1.1.2.2.2.2.1⟩⟩⟩)⟩, ⟨by (with_reducible repeat (first | apply Kd.V_alloc | apply Kd.V_drewN | apply Kd.V_drew)); exact Kd.V_mono (Kd.V_far (p := ⟨gb117, 3, none⟩) (Kd.V_far (p := ⟨gb117, 2, none⟩) (Kd.V_far (p := ⟨gb117, 1, none⟩) (Kd.V_far (p := ⟨gb117, 0, none⟩) (Kd.V_far (p := ⟨gb156, 3, none⟩) (Kd.V_far (p := ⟨gb156, 2, none⟩) (Kd.V_far (p := ⟨gb156, 1, none⟩) (Kd.V_far (p := ⟨gb156, 0, none⟩) (Kd.V_mono (Kd.V_mono HO_117001.out (fun k_ hk => (⟨hk, hk.2.2.2.2.2⟩ : _ ∧ k_ ≠ gb156))) (fun k_ hk => (⟨hk, hk.1.2.2.2.2.1⟩ : _ ∧ k_ ≠ gb117))) (fun _ hk => hk.1.2) (.slice Ao97 t147.length co97)) (fun _ hk => hk.1.2) (.slice Ao99 t150.length co99)) (fun _ hk => hk.1.2) (.int .i64 t153)) (fun _ hk => hk.1.2) (.bool t154)) (fun _ hk => hk.2) (.slice Ao97 t147.length co97)) (fun _ hk => hk.2) (.slice Ao99 t150.length co99)) (fun _ hk => hk.2) (.int .i64 t153)) (fun _ hk => hk.2) (.bool t154)) (fun _ hk => ⟨hk.1.1.1, ⟨hk.1.1.2.2.1, ⟨hk.1.1.2.2.2.1, hk.1.1.2.2.2.2.1⟩⟩⟩)⟩, ⟨by (with_reducible repeat (first | apply Kd.V_alloc | apply Kd.V_drewN | apply Kd.V_drew)); exact Kd.V_mono (Kd.V_far (p := ⟨gb117, 3, none⟩) (Kd.V_far (p := ⟨gb117, 2, none⟩) (Kd.V_far (p := ⟨gb117, 1, none⟩) (Kd.V_far (p := ⟨gb117, 0, none⟩) (Kd.V_far (p := ⟨gb156, 3, none⟩) (Kd.V_far (p := ⟨gb156, 2, none⟩) (Kd.V_far (p := ⟨gb156, 1, none⟩) (Kd.V_far (p := ⟨gb156, 0, none⟩) (Kd.V_mono (Kd.V_mono HO149.out (fun k_ hk => (⟨hk, hk.2.2.2.2.2⟩ : _ ∧ k_ ≠ gb156))) (fun k_ hk => (⟨hk, hk.1.2.2.2.2.1⟩ : _ ∧ k_ ≠ gb117))) (fun _ hk => hk.1.2) (.slice Ao97 t147.length co97)) (fun _ hk => hk.1.2) (.slice Ao99 t150.length co99)) (fun _ hk => hk.1.2) (.int .i64 t153)) (fun _ hk => hk.1.2) (.bool t154)) (fun _ hk => hk.2) (.slice Ao97 t147.length co97)) (fun _ hk => hk.2) (.slice Ao99 t150.length co99)) (fun _ hk => hk.2) (.int .i64 t153)) (fun _ hk => hk.2) (.bool t154)) (fun _ hk => ⟨hk.1.1.1, ⟨hk.1.1.2.2.1, ⟨hk.1.1.2.2.2.1, hk.1.1.2.2.2.2.1⟩⟩⟩)⟩, ⟨by (with_reducible repeat (first | apply Kd.V_alloc | apply Kd.V_drewN | apply Kd.V_drew)); exact Kd.V_mono (Kd.V_far (p := ⟨gb117, 3, none⟩) (Kd.V_far (p := ⟨gb117, 2, none⟩) (Kd.V_far (p := ⟨gb117, 1, none⟩) (Kd.V_far (p := ⟨gb117, 0, none⟩) (Kd.V_far (p := ⟨gb156, 3, none⟩) (Kd.V_far (p := ⟨gb156, 2, none⟩) (Kd.V_far (p := ⟨gb156, 1, none⟩) (Kd.V_far (p := ⟨gb156, 0, none⟩) (Kd.V_mono (Kd.V_mono HO152.out (fun k_ hk => (⟨hk, hk.2.2.2.2.2⟩ : _ ∧ k_ ≠ gb156))) (fun k_ hk => (⟨hk, hk.1.2.2.2.2.1⟩ : _ ∧ k_ ≠ gb117))) (fun _ hk => hk.1.2) (.slice Ao97 t147.length co97)) (fun _ hk => hk.1.2) (.slice Ao99 t150.length co99)) (fun _ hk => hk.1.2) (.int .i64 t153)) (fun _ hk => hk.1.2) (.bool t154)) (fun _ hk => hk.2) (.slice Ao97 t147.length co97)) (fun _ hk => hk.2) (.slice Ao99 t150.length co99)) (fun _ hk => hk.2) (.int .i64 t153)) (fun _ hk => hk.2) (.bool t154)) (fun _ hk => ⟨hk.1.1.1, ⟨hk.1.1.2.2.1, ⟨hk.1.1.2.2.2.1, hk.1.1.2.2.2.2.1⟩⟩⟩)⟩, ⟨zf BK112.out⟩, ⟨zf BK116.out⟩, ⟨by (with_reducible repeat (first | refine blk_drewN ?_ _ | refine blk_drew ?_ | refine blk_alloc ?_ _)); refine blk_put (cs := #[.slice Ao97 t147.length co97, .slice Ao99 t150.length co99, .int .i64 t153, .bool x118003_4]) ?_ 3 _ rfl; (with_reducible repeat (first | refine blk_drewN ?_ _ | refine blk_drew ?_ | refine blk_alloc ?_ _)); refine blk_put (cs := #[.slice Ao97 t147.length co97, .slice Ao99 t150.length co99, .int .i64 x118002_4, .bool x118003_4]) ?_ 2 _ rfl; (with_reducible repeat (first | refine blk_drewN ?_ _ | refine blk_drew ?_ | refine blk_alloc ?_ _)); refine blk_put (cs := #[.slice Ao97 t147.length co97, .slice Ao89 x118001_4.length co89, .int .i64 x118002_4, .bool x118003_4]) ?_ 1 _ rfl; (with_reducible repeat (first | refine blk_drewN ?_ _ | refine blk_drew ?_ | refine blk_alloc ?_ _)); refine blk_put (cs := #[.slice Ao88 x118000_4.length co88, .slice Ao89 x118001_4.length co89, .int .i64 x118002_4, .bool x118003_4]) ?_ 0 _ rfl; (with_reducible repeat (first | refine blk_drewN ?_ _ | refine blk_drew ?_ | refine blk_alloc ?_ _)); refine blk_far ?_ NB117_156.out _; (with_reducible repeat (first | refine blk_drewN ?_ _ | refine blk_drew ?_ | refine blk_alloc ?_ _)); refine blk_far ?_ NB117_156.out _; (with_reducible repeat (first | refine blk_drewN ?_ _ | refine blk_drew ?_ | refine blk_alloc ?_ _)); refine blk_far ?_ NB117_156.out _; (with_reducible repeat (first | refine blk_drewN ?_ _ | refine blk_drew ?_ | refine blk_alloc ?_ _)); refine blk_far ?_ NB117_156.out _; (with_reducible repeat (first | refine blk_drewN ?_ _ | refine blk_drew ?_ | refine blk_alloc ?_ _)); exact BK117.out⟩, ⟨blw HB.out⟩⟩
               ·rw [if_neg c87] at H
                exact absurd H (by simp)
             ·rw [if_neg c84] at H
              exact absurd H (by simp)
            ·rw [if_neg c83] at H
             have c83b0 : decide (x12_4 < (l1.length : Int)) = false := decide_eq_false c83
             clear c83
             replace H := Option.bind_eq_some_iff.mp H
             obtain ⟨⟨t157, t160, t163, t164, t165⟩, A1100, H⟩ := H
             replace H : (if x7_2 = t165 then ((fastiref04_Same.f k4 x117000_2 x117001_2 x117002_2 x117003_2 t157 t160 t163 t164).bind fun t166 => (some t166)) else (none)) = some r := H
             have A110 := Aside0.mk A1100
             clear A1100
             by_cases c111 : x7_2 = t165
             ·rw [if_pos c111] at H
              have c111b0 : (x7_2 == t165) = true := beq_iff_eq.mpr c111
              have c111b1 : (x7_2 != t165) = false := bne_eq_false_iff_eq.mpr c111
              clear c111
              replace H := Option.bind_eq_some_iff.mp H
              obtain ⟨t166, A1120, H⟩ := H
              replace H : (some t166) = some r := H
              have A112 := Aside0.mk A1120
              clear A1120
              obtain rfl := Option.some.inj H
              have hnb113 := NB117_112.out
              have hnc113 := NB112_117.out
              have hnb114 := NB117_116.out
              have hnc114 := NB116_117.out
              have hcz115_0 : wr.cell? ⟨gb117, 0, none⟩ = some (u118000) := bc BK117 0
              have hcz115_1 : wr.cell? ⟨gb117, 1, none⟩ = some (u118001) := bc BK117 1
              have hcz115_2 : wr.cell? ⟨gb117, 2, none⟩ = some (.int .i64 x118002_4) := bc BK117 2
              have hcz115_3 : wr.cell? ⟨gb117, 3, none⟩ = some (.bool x118003_4) := bc BK117 3
              have hfz115_0 := blk_frozen BK117.out 0
              have hfz115_1 := blk_frozen BK117.out 1
              have hfz115_2 := blk_frozen BK117.out 2
              have hfz115_3 := blk_frozen BK117.out 3
              obtain ⟨Ao116, co116, eo116⟩ := Kd.V_slice HO_118000.out
              subst eo116
              obtain ⟨Ao117, co117, eo117⟩ := Kd.V_slice HO_118001.out
              subst eo117
              go_wp2_with (first | ((with_reducible refine gate_callee (f := 23) rfl ?_); refine goesL_ (some 120) rfl rfl Try.func23 (by kernel_rfl) rfl #[.agg #[.slice Ao116 x118000_4.length co116, .slice Ao117 x118001_4.length co117, .int .i64 x118002_4, .bool x118003_4]] rfl (by (try simp only [List.map_toArray, List.map_cons, List.map_nil]); first | done | rfl | (simp only [List.length_drop, List.length_take]; rfl)) ?_; (with_reducible refine (disk_Sync.calls (fun k_ => (((P0_0_ k_ ∨ P0_1_ k_) ∨ w.heap.size ≤ k_) ∧ (k_ ≠ gb112 ∧ (k_ ≠ gb116 ∧ k_ ≠ gb117)))) _ _ x118000_4 (fun k_ => (((P0_0_ k_ ∨ P0_1_ k_) ∨ w.heap.size ≤ k_) ∧ (k_ ≠ gb112 ∧ (k_ ≠ gb116 ∧ k_ ≠ gb117)))) _ _ x118001_4 x118002_4 x118003_4 t157 t160 t163 t164 t165 _ ?side1 ?side2 A110.out).mono ?_); (case side1 => exact HO_118000.out); (case side2 => exact HO_118001.out); rintro e w118 ⟨v158, v161, rfl, ho0, ho1, hb⟩; refine ⟨_, rfl, ?_⟩; replace HO_113000 := Aside0.mk (Kd.V_below (vmv HO_113000.out) hb); replace HO_113001 := Aside0.mk (Kd.V_below (vmv HO_113001.out) hb); replace HO_117000 := Aside0.mk (Kd.V_below (vmv HO_117000.out) hb); replace HO_117001 := Aside0.mk (Kd.V_below (vmv HO_117001.out) hb); replace HO_118000 := Aside0.mk (Kd.V_below (vmv HO_118000.out) hb); replace HO_118001 := Aside0.mk (Kd.V_below (vmv HO_118001.out) hb); have HO159 := Aside0.mk (Kd.V_lower (Kd.V_mono (ok' := fun k_ => ((P0_0_ k_ ∨ P0_1_ k_) ∨ w.heap.size ≤ k_) ∧ k_ ≠ gb112 ∧ k_ ≠ gb116 ∧ k_ ≠ gb117) ho0 (fun k_ hk_ => ⟨Or.elim hk_ (fun hs_ => Or.elim hs_ (fun hs_ => hs_.1) (fun hs_ => hs_.1)) (fun hn_ => (.inr (Nat.le_trans (below_size (blw HB.out)) hn_))), Or.elim hk_ (fun hs_ => Or.elim hs_ (fun hs_ => hs_.2.1) (fun hs_ => hs_.2.1)) (fun hn_ => (Kd.freshB (zk BK112.out) k_ hn_)), Or.elim hk_ (fun hs_ => Or.elim hs_ (fun hs_ => hs_.2.2.1) (fun hs_ => hs_.2.2.1)) (fun hn_ => (Kd.freshB (zk BK116.out) k_ hn_)), Or.elim hk_ (fun hs_ => Or.elim hs_ (fun hs_ => hs_.2.2.2) (fun hs_ => hs_.2.2.2)) (fun hn_ => (Kd.freshB (zk BK117.out) k_ hn_))⟩)) (below_size (blw HB.out))); have HO162 := Aside0.mk (Kd.V_lower (Kd.V_mono (ok' := fun k_ => ((P0_0_ k_ ∨ P0_1_ k_) ∨ w.heap.size ≤ k_) ∧ k_ ≠ gb112 ∧ k_ ≠ gb116 ∧ k_ ≠ gb117) ho1 (fun k_ hk_ => ⟨Or.elim hk_ (fun hs_ => Or.elim hs_ (fun hs_ => hs_.1) (fun hs_ => hs_.1)) (fun hn_ => (.inr (Nat.le_trans (below_size (blw HB.out)) hn_))), Or.elim hk_ (fun hs_ => Or.elim hs_ (fun hs_ => hs_.2.1) (fun hs_ => hs_.2.1)) (fun hn_ => (Kd.freshB (zk BK112.out) k_ hn_)), Or.elim hk_ (fun hs_ => Or.elim hs_ (fun hs_ => hs_.2.2.1) (fun hs_ => hs_.2.2.1)) (fun hn_ => (Kd.freshB (zk BK116.out) k_ hn_)), Or.elim hk_ (fun hs_ => Or.elim hs_ (fun hs_ => hs_.2.2.2) (fun hs_ => hs_.2.2.2)) (fun hn_ => (Kd.freshB (zk BK117.out) k_ hn_))⟩)) (below_size (blw HB.out))); replace BK112 := Aside0.mk (zb BK112.out hb); replace BK116 := Aside0.mk (zb BK116.out hb); replace BK117 := Aside0.mk (zb BK117.out hb); replace HB := Aside0.mk (below_step (blw HB.out) hb); (try clear hb); (try clear hb2); (try clear hk); (try clear hi); (try clear ho0); (try clear ho1); obtain ⟨Ao119, co119, eo119⟩ := Kd.V_slice HO159.out; subst eo119; have hcz120_0 : w118.cell? ⟨gb117, 0, none⟩ = some (.slice Ao116 x118000_4.length co116) := bc BK117 0; have hcz120_1 : w118.cell? ⟨gb117, 1, none⟩ = some (.slice Ao117 x118001_4.length co117) := bc BK117 1; have hcz120_2 : w118.cell? ⟨gb117, 2, none⟩ = some (.int .i64 x118002_4) := bc BK117 2; have hcz120_3 : w118.cell? ⟨gb117, 3, none⟩ = some (.bool x118003_4) := bc BK117 3; have hfz120_0 := blk_frozen BK117.out 0; have hfz120_1 := blk_frozen BK117.out 1; have hfz120_2 := blk_frozen BK117.out 2; have hfz120_3 := blk_frozen BK117.out 3; obtain ⟨Ao121, co121, eo121⟩ := Kd.V_slice HO162.out; subst eo121; have hnb122 := NB116_112.out; have hnc122 := NB112_116.out; have hcz123_0 : w118.cell? ⟨gb116, 0, none⟩ = some (u117000) := bc BK116 0; have hcz123_1 : w118.cell? ⟨gb116, 1, none⟩ = some (u117001) := bc BK116 1; have hcz123_2 : w118.cell? ⟨gb116, 2, none⟩ = some (.int .i64 x117002_2) := bc BK116 2; have hcz123_3 : w118.cell? ⟨gb116, 3, none⟩ = some (.bool x117003_2) := bc BK116 3; have hfz123_0 := blk_frozen BK116.out 0; have hfz123_1 := blk_frozen BK116.out 1; have hfz123_2 := blk_frozen BK116.out 2; have hfz123_3 := blk_frozen BK116.out 3; obtain ⟨Ao124, co124, eo124⟩ := Kd.V_slice HO_117000.out; subst eo124; obtain ⟨Ao125, co125, eo125⟩ := Kd.V_slice HO_117001.out; subst eo125) | (go_at_call 14; (with_reducible refine (fastiref04_Same.calls k4 _ _ x117000_2 _ _ x117001_2 x117002_2 x117003_2 _ _ t157 _ _ t160 t163 t164 t166 _ ?side1 ?side2 ?side3 ?side4 ?side5 ?side6 ?side7 ?side8 A112.out).mono ?_); (case side1 => refine (Kd.V_reads' (e := 35) (base := w.heap.size) (ok := fun k_ => (((P0_0_ k_ ∨ P0_1_ k_) ∨ w.heap.size ≤ k_) ∧ (k_ ≠ gb112 ∧ (k_ ≠ gb116 ∧ k_ ≠ gb117)))) (n := x117000_2.length) (c := co124) ?_).2.2; exact (by (with_reducible repeat (first | apply Kd.V_alloc | apply Kd.V_drewN | apply Kd.V_drew)); exact (Kd.V_mono (Kd.V_far (p := ⟨gb117, 3, none⟩) (Kd.V_far (p := ⟨gb117, 2, none⟩) (Kd.V_far (p := ⟨gb117, 1, none⟩) (Kd.V_far (p := ⟨gb117, 0, none⟩) (Kd.V_mono HO_117000.out (fun k_ hk => (⟨hk, hk.2.2.2⟩ : _ ∧ k_ ≠ gb117))) (fun _ hk => hk.2) (.slice Ao119 t157.length co119)) (fun _ hk => hk.2) (.slice Ao121 t160.length co121)) (fun _ hk => hk.2) (.int .i64 t163)) (fun _ hk => hk.2) (.bool t164)) (fun _ h_ => h_.1)))); (case side2 => exact (Kd.V_reads' HO_117000.out).2.1); (case side3 => refine (Kd.V_reads' (e := 54) (base := w.heap.size) (ok := fun k_ => (((P0_0_ k_ ∨ P0_1_ k_) ∨ w.heap.size ≤ k_) ∧ (k_ ≠ gb112 ∧ (k_ ≠ gb116 ∧ k_ ≠ gb117)))) (n := x117001_2.length) (c := co125) ?_).2.2; exact (by (with_reducible repeat (first | apply Kd.V_alloc | apply Kd.V_drewN | apply Kd.V_drew)); exact (Kd.V_mono (Kd.V_far (p := ⟨gb117, 3, none⟩) (Kd.V_far (p := ⟨gb117, 2, none⟩) (Kd.V_far (p := ⟨gb117, 1, none⟩) (Kd.V_far (p := ⟨gb117, 0, none⟩) (Kd.V_mono HO_117001.out (fun k_ hk => (⟨hk, hk.2.2.2⟩ : _ ∧ k_ ≠ gb117))) (fun _ hk => hk.2) (.slice Ao119 t157.length co119)) (fun _ hk => hk.2) (.slice Ao121 t160.length co121)) (fun _ hk => hk.2) (.int .i64 t163)) (fun _ hk => hk.2) (.bool t164)) (fun _ h_ => h_.1)))); (case side4 => exact (Kd.V_reads' HO_117001.out).2.1); (case side5 => refine (Kd.V_reads' (e := 35) (base := w.heap.size) (ok := fun k_ => (((P0_0_ k_ ∨ P0_1_ k_) ∨ w.heap.size ≤ k_) ∧ (k_ ≠ gb112 ∧ (k_ ≠ gb116 ∧ k_ ≠ gb117)))) (n := t157.length) (c := co119) ?_).2.2; exact (by (with_reducible repeat (first | apply Kd.V_alloc | apply Kd.V_drewN | apply Kd.V_drew)); exact (Kd.V_mono (Kd.V_far (p := ⟨gb117, 3, none⟩) (Kd.V_far (p := ⟨gb117, 2, none⟩) (Kd.V_far (p := ⟨gb117, 1, none⟩) (Kd.V_far (p := ⟨gb117, 0, none⟩) (Kd.V_mono HO159.out (fun k_ hk => (⟨hk, hk.2.2.2⟩ : _ ∧ k_ ≠ gb117))) (fun _ hk => hk.2) (.slice Ao119 t157.length co119)) (fun _ hk => hk.2) (.slice Ao121 t160.length co121)) (fun _ hk => hk.2) (.int .i64 t163)) (fun _ hk => hk.2) (.bool t164)) (fun _ h_ => h_.1)))); (case side6 => exact (Kd.V_reads' HO159.out).2.1); (case side7 => refine (Kd.V_reads' (e := 54) (base := w.heap.size) (ok := fun k_ => (((P0_0_ k_ ∨ P0_1_ k_) ∨ w.heap.size ≤ k_) ∧ (k_ ≠ gb112 ∧ (k_ ≠ gb116 ∧ k_ ≠ gb117)))) (n := t160.length) (c := co121) ?_).2.2; exact (by (with_reducible repeat (first | apply Kd.V_alloc | apply Kd.V_drewN | apply Kd.V_drew)); exact (Kd.V_mono (Kd.V_far (p := ⟨gb117, 3, none⟩) (Kd.V_far (p := ⟨gb117, 2, none⟩) (Kd.V_far (p := ⟨gb117, 1, none⟩) (Kd.V_far (p := ⟨gb117, 0, none⟩) (Kd.V_mono HO162.out (fun k_ hk => (⟨hk, hk.2.2.2⟩ : _ ∧ k_ ≠ gb117))) (fun _ hk => hk.2) (.slice Ao119 t157.length co119)) (fun _ hk => hk.2) (.slice Ao121 t160.length co121)) (fun _ hk => hk.2) (.int .i64 t163)) (fun _ hk => hk.2) (.bool t164)) (fun _ h_ => h_.1)))); (case side8 => exact (Kd.V_reads' HO162.out).2.1); rintro e w126 ⟨rfl, hb⟩; replace HO_113000 := Aside0.mk (Kd.V_below (by (with_reducible repeat (first | apply Kd.V_alloc | apply Kd.V_drewN | apply Kd.V_drew)); exact (Kd.V_mono (Kd.V_far (p := ⟨gb117, 3, none⟩) (Kd.V_far (p := ⟨gb117, 2, none⟩) (Kd.V_far (p := ⟨gb117, 1, none⟩) (Kd.V_far (p := ⟨gb117, 0, none⟩) (Kd.V_mono HO_113000.out (fun k_ hk => (⟨hk, hk.2.2.2⟩ : _ ∧ k_ ≠ gb117))) (fun _ hk => hk.2) (.slice Ao119 t157.length co119)) (fun _ hk => hk.2) (.slice Ao121 t160.length co121)) (fun _ hk => hk.2) (.int .i64 t163)) (fun _ hk => hk.2) (.bool t164)) (fun _ h_ => h_.1))) hb); replace HO_113001 := Aside0.mk (Kd.V_below (by (with_reducible repeat (first | apply Kd.V_alloc | apply Kd.V_drewN | apply Kd.V_drew)); exact (Kd.V_mono (Kd.V_far (p := ⟨gb117, 3, none⟩) (Kd.V_far (p := ⟨gb117, 2, none⟩) (Kd.V_far (p := ⟨gb117, 1, none⟩) (Kd.V_far (p := ⟨gb117, 0, none⟩) (Kd.V_mono HO_113001.out (fun k_ hk => (⟨hk, hk.2.2.2⟩ : _ ∧ k_ ≠ gb117))) (fun _ hk => hk.2) (.slice Ao119 t157.length co119)) (fun _ hk => hk.2) (.slice Ao121 t160.length co121)) (fun _ hk => hk.2) (.int .i64 t163)) (fun _ hk => hk.2) (.bool t164)) (fun _ h_ => h_.1))) hb); replace HO_117000 := Aside0.mk (Kd.V_below (by (with_reducible repeat (first | apply Kd.V_alloc | apply Kd.V_drewN | apply Kd.V_drew)); exact (Kd.V_mono (Kd.V_far (p := ⟨gb117, 3, none⟩) (Kd.V_far (p := ⟨gb117, 2, none⟩) (Kd.V_far (p := ⟨gb117, 1, none⟩) (Kd.V_far (p := ⟨gb117, 0, none⟩) (Kd.V_mono HO_117000.out (fun k_ hk => (⟨hk, hk.2.2.2⟩ : _ ∧ k_ ≠ gb117))) (fun _ hk => hk.2) (.slice Ao119 t157.length co119)) (fun _ hk => hk.2) (.slice Ao121 t160.length co121)) (fun _ hk => hk.2) (.int .i64 t163)) (fun _ hk => hk.2) (.bool t164)) (fun _ h_ => h_.1))) hb); replace HO_117001 := Aside0.mk (Kd.V_below (by (with_reducible repeat (first | apply Kd.V_alloc | apply Kd.V_drewN | apply Kd.V_drew)); exact (Kd.V_mono (Kd.V_far (p := ⟨gb117, 3, none⟩) (Kd.V_far (p := ⟨gb117, 2, none⟩) (Kd.V_far (p := ⟨gb117, 1, none⟩) (Kd.V_far (p := ⟨gb117, 0, none⟩) (Kd.V_mono HO_117001.out (fun k_ hk => (⟨hk, hk.2.2.2⟩ : _ ∧ k_ ≠ gb117))) (fun _ hk => hk.2) (.slice Ao119 t157.length co119)) (fun _ hk => hk.2) (.slice Ao121 t160.length co121)) (fun _ hk => hk.2) (.int .i64 t163)) (fun _ hk => hk.2) (.bool t164)) (fun _ h_ => h_.1))) hb); replace HO_118000 := Aside0.mk (Kd.V_below (by (with_reducible repeat (first | apply Kd.V_alloc | apply Kd.V_drewN | apply Kd.V_drew)); exact (Kd.V_mono (Kd.V_far (p := ⟨gb117, 3, none⟩) (Kd.V_far (p := ⟨gb117, 2, none⟩) (Kd.V_far (p := ⟨gb117, 1, none⟩) (Kd.V_far (p := ⟨gb117, 0, none⟩) (Kd.V_mono HO_118000.out (fun k_ hk => (⟨hk, hk.2.2.2⟩ : _ ∧ k_ ≠ gb117))) (fun _ hk => hk.2) (.slice Ao119 t157.length co119)) (fun _ hk => hk.2) (.slice Ao121 t160.length co121)) (fun _ hk => hk.2) (.int .i64 t163)) (fun _ hk => hk.2) (.bool t164)) (fun _ h_ => h_.1))) hb); replace HO_118001 := Aside0.mk (Kd.V_below (by (with_reducible repeat (first | apply Kd.V_alloc | apply Kd.V_drewN | apply Kd.V_drew)); exact (Kd.V_mono (Kd.V_far (p := ⟨gb117, 3, none⟩) (Kd.V_far (p := ⟨gb117, 2, none⟩) (Kd.V_far (p := ⟨gb117, 1, none⟩) (Kd.V_far (p := ⟨gb117, 0, none⟩) (Kd.V_mono HO_118001.out (fun k_ hk => (⟨hk, hk.2.2.2⟩ : _ ∧ k_ ≠ gb117))) (fun _ hk => hk.2) (.slice Ao119 t157.length co119)) (fun _ hk => hk.2) (.slice Ao121 t160.length co121)) (fun _ hk => hk.2) (.int .i64 t163)) (fun _ hk => hk.2) (.bool t164)) (fun _ h_ => h_.1))) hb); replace HO159 := Aside0.mk (Kd.V_below (by (with_reducible repeat (first | apply Kd.V_alloc | apply Kd.V_drewN | apply Kd.V_drew)); exact (Kd.V_mono (Kd.V_far (p := ⟨gb117, 3, none⟩) (Kd.V_far (p := ⟨gb117, 2, none⟩) (Kd.V_far (p := ⟨gb117, 1, none⟩) (Kd.V_far (p := ⟨gb117, 0, none⟩) (Kd.V_mono HO159.out (fun k_ hk => (⟨hk, hk.2.2.2⟩ : _ ∧ k_ ≠ gb117))) (fun _ hk => hk.2) (.slice Ao119 t157.length co119)) (fun _ hk => hk.2) (.slice Ao121 t160.length co121)) (fun _ hk => hk.2) (.int .i64 t163)) (fun _ hk => hk.2) (.bool t164)) (fun _ h_ => h_.1))) hb); replace HO162 := Aside0.mk (Kd.V_below (by (with_reducible repeat (first | apply Kd.V_alloc | apply Kd.V_drewN | apply Kd.V_drew)); exact (Kd.V_mono (Kd.V_far (p := ⟨gb117, 3, none⟩) (Kd.V_far (p := ⟨gb117, 2, none⟩) (Kd.V_far (p := ⟨gb117, 1, none⟩) (Kd.V_far (p := ⟨gb117, 0, none⟩) (Kd.V_mono HO162.out (fun k_ hk => (⟨hk, hk.2.2.2⟩ : _ ∧ k_ ≠ gb117))) (fun _ hk => hk.2) (.slice Ao119 t157.length co119)) (fun _ hk => hk.2) (.slice Ao121 t160.length co121)) (fun _ hk => hk.2) (.int .i64 t163)) (fun _ hk => hk.2) (.bool t164)) (fun _ h_ => h_.1))) hb); replace BK112 := Aside0.mk (zfb BK112.out hb); replace BK116 := Aside0.mk (zfb BK116.out hb); replace BK117 := Aside0.mk (blk_below (g := gb117) (o := .cells #[.slice Ao119 t157.length co119, .slice Ao121 t160.length co121, .int .i64 t163, .bool t164] 25 (0, 0)) (by (with_reducible repeat (first | refine blk_drewN ?_ _ | refine blk_drew ?_ | refine blk_alloc ?_ _)); refine blk_put (cs := #[.slice Ao119 t157.length co119, .slice Ao121 t160.length co121, .int .i64 t163, .bool x118003_4]) ?_ 3 _ rfl; (with_reducible repeat (first | refine blk_drewN ?_ _ | refine blk_drew ?_ | refine blk_alloc ?_ _)); refine blk_put (cs := #[.slice Ao119 t157.length co119, .slice Ao121 t160.length co121, .int .i64 x118002_4, .bool x118003_4]) ?_ 2 _ rfl; (with_reducible repeat (first | refine blk_drewN ?_ _ | refine blk_drew ?_ | refine blk_alloc ?_ _)); refine blk_put (cs := #[.slice Ao119 t157.length co119, .slice Ao117 x118001_4.length co117, .int .i64 x118002_4, .bool x118003_4]) ?_ 1 _ rfl; (with_reducible repeat (first | refine blk_drewN ?_ _ | refine blk_drew ?_ | refine blk_alloc ?_ _)); refine blk_put (cs := #[.slice Ao116 x118000_4.length co116, .slice Ao117 x118001_4.length co117, .int .i64 x118002_4, .bool x118003_4]) ?_ 0 _ rfl; (with_reducible repeat (first | refine blk_drewN ?_ _ | refine blk_drew ?_ | refine blk_alloc ?_ _)); exact BK117.out) hb); replace HB := Aside0.mk (below_step (blw HB.out) hb); (try clear hb); (try clear hb2); (try clear hk); (try clear hi)))
              go_ret
              exact ⟨by first | rfl | (simp [errW_none, errW_some] <;> rfl) | (simp [*, errW_none, errW_some] <;> rfl), blw HB.out⟩
             ·rw [if_neg c111] at H
              exact absurd H (by simp)
 ·replace c4 := Bool.eq_false_iff.mpr c4
  subst c4
  have H1 : (none) = some r := by rw [if_neg (show ¬ (false = true) by decide)] at H; exact H
  clear H
  have H := H1
  clear H1
  exact absurd H (by simp)

end Go.Proofs.Ytmeoapalnkibfaa.Q
