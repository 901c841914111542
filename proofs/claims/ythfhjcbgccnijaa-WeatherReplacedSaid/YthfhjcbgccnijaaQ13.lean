/- Functions of the translation as plain Lean functions, and proofs that the calls do what these say; written by a program of this session round the kit's print. -/
import Derived.Test.YthfhjcbgccnijaaQ0
import Derived.Test.YthfhjcbgccnijaaQ1
import Derived.Test.YthfhjcbgccnijaaOf
import Derived.Test.YthfhjcbgccnijaaSane
namespace Go.Proofs.Ythfhjcbgccnijaa.Q
open Go.RowKit Go.Proofs.YthfhjcbgccnijaaW.PrintWords Go.Proofs.YthfhjcbgccnijaaW.PrintLast Go.Proofs.YthfhjcbgccnijaaW.PrintMore
attribute [local go_sem] max2_int min2_int max_two min_two max_three min_three max_four min_four   -- for this text's walks alone
set_option linter.unusedVariables false
set_option linter.unusedSimpArgs false

attribute [local go_sem high] eqA39
/-! ### fastilaw27_WeatherReplaced: function 10 -/
mutual
def fastilaw27_WeatherReplaced.j0 : Nat → List (S41) → Int → Int → Bool → Option (Bool)
 | 0, _, _, _, _ => none
 | k + 1, x0, x1, x2, x31 => if x31 = true then (some true) else (if 0 ≤ x1 then (if x1 < (x0.length : Int) then (fastilaw27_WeatherReplaced.l0 k x0 x1 x2 false 0 ((rd_T41 x0 x1).f0) ((rd_T41 x0 x1).f1) ((rd_T41 x0 x1).f2) ((rd_T41 x0 x1).f3) ((rd_T41 x0 x1).f4) ((rd_T41 x0 x1).f5.f0) ((rd_T41 x0 x1).f5.f1) ((rd_T41 x0 x1).f6.f0) ((rd_T41 x0 x1).f6.f1)) else (none)) else (none))
def fastilaw27_WeatherReplaced.l0 : Nat → List (S41) → Int → Int → Bool → Int → Int → Int → Int → Int → Int → Int → Int → Int → Int → Option (Bool)
 | 0, _, _, _, _, _, _, _, _, _, _, _, _, _, _ => none
 | k + 1, x0, x1, x2, x8, x9, x295000, x295001, x295002, x295003, x295004, x295005, x295006, x295007, x295008 => if x9 < (x0.length : Int) then (if 0 ≤ x9 then (if ((rd_T41 x0 x9).f1) = x295001 then (if ((rd_T41 x0 x9).f2) = x295002 then (if ((rd_T41 x0 x9).f3) = x295003 then (if ((rd_T41 x0 x9).f4) ≤ x2 then (if ((rd_T41 x0 x9).f4) > x295004 then (fastilaw27_WeatherReplaced.j2 k x0 x1 x2 x8 x9 true x295000 x295001 x295002 x295003 x295004 x295005 x295006 x295007 x295008) else (if ((rd_T41 x0 x9).f4) = x295004 then (fastilaw27_WeatherReplaced.j2 k x0 x1 x2 x8 x9 (decide (x9 > x1)) x295000 x295001 x295002 x295003 x295004 x295005 x295006 x295007 x295008) else (fastilaw27_WeatherReplaced.j2 k x0 x1 x2 x8 x9 false x295000 x295001 x295002 x295003 x295004 x295005 x295006 x295007 x295008))) else (fastilaw27_WeatherReplaced.j2 k x0 x1 x2 x8 x9 false x295000 x295001 x295002 x295003 x295004 x295005 x295006 x295007 x295008)) else (fastilaw27_WeatherReplaced.j2 k x0 x1 x2 x8 x9 false x295000 x295001 x295002 x295003 x295004 x295005 x295006 x295007 x295008)) else (fastilaw27_WeatherReplaced.j2 k x0 x1 x2 x8 x9 false x295000 x295001 x295002 x295003 x295004 x295005 x295006 x295007 x295008)) else (fastilaw27_WeatherReplaced.j2 k x0 x1 x2 x8 x9 false x295000 x295001 x295002 x295003 x295004 x295005 x295006 x295007 x295008)) else (none)) else ((weather_Of.f x0 x295002 x295003 x2).bind fun bt297 => (if bt297.2.2.2.2.2 = 0 then (if x8 = true then ((some (([] : List (S41)) : List (S41))).bind fun y304 => (if 0 ≤ x1 then (if x1 ≤ (x0.length : Int) then ((some (x0.take (x1 : Int).toNat : List (S41))).bind fun y307 => (if y304.length + y307.length < 1954687338268 then ((some (y304 ++ y307 : List (S41))).bind fun y311 => (if 0 ≤ (wrap64 (x1 + 1)) then (if (wrap64 (x1 + 1)) ≤ (x0.length : Int) then ((some (x0.drop ((wrap64 (x1 + 1)) : Int).toNat : List (S41))).bind fun y314 => (if y311.length + y314.length < 1954687338268 then ((weather_Of.f (y311 ++ y314) x295002 x295003 x2).bind fun bt321 => (if bt321.2.2.2.2.2 = 0 then (if ((bt297.1 == bt321.1 && (bt297.2.1 == bt321.2.1)) && ((bt297.2.2.1 == bt321.2.2.1 && (bt297.2.2.2.1 == bt321.2.2.2.1)))) = true then (fastilaw27_WeatherReplaced.j4 k (bt297.2.2.2.2.1 == bt321.2.2.2.2.1)) else (fastilaw27_WeatherReplaced.j4 k false)) else (fastilaw27_WeatherReplaced.j4 k false))) else (none))) else (none)) else (none))) else (none))) else (none)) else (none))) else (some true)) else (some true)))
def fastilaw27_WeatherReplaced.j3 : Nat → List (S41) → Int → Int → Bool → Int → Int → Int → Int → Int → Int → Int → Int → Int → Int → Option (Bool)
 | 0, _, _, _, _, _, _, _, _, _, _, _, _, _, _ => none
 | k + 1, x0, x1, x2, x8, x9, x295000, x295001, x295002, x295003, x295004, x295005, x295006, x295007, x295008 => fastilaw27_WeatherReplaced.l0 k x0 x1 x2 x8 (wrap64 (x9 + 1)) x295000 x295001 x295002 x295003 x295004 x295005 x295006 x295007 x295008
def fastilaw27_WeatherReplaced.j2 : Nat → List (S41) → Int → Int → Bool → Int → Bool → Int → Int → Int → Int → Int → Int → Int → Int → Int → Option (Bool)
 | 0, _, _, _, _, _, _, _, _, _, _, _, _, _, _, _ => none
 | k + 1, x0, x1, x2, x8, x9, x89, x295000, x295001, x295002, x295003, x295004, x295005, x295006, x295007, x295008 => if x89 = true then (fastilaw27_WeatherReplaced.j3 k x0 x1 x2 true x9 x295000 x295001 x295002 x295003 x295004 x295005 x295006 x295007 x295008) else (fastilaw27_WeatherReplaced.j3 k x0 x1 x2 x8 x9 x295000 x295001 x295002 x295003 x295004 x295005 x295006 x295007 x295008)
def fastilaw27_WeatherReplaced.j4 : Nat → Bool → Option (Bool)
 | 0, _ => none
 | k + 1, x6 => some x6
end
def fastilaw27_WeatherReplaced.f (k : Nat) (l0 : List (S41)) (a1 : Int) (a2 : Int) : Option (Bool) := (fastilaw27_sane.f).bind fun t292 => (if t292 = true then (if (l0.length : Int) > 5000 then (fastilaw27_WeatherReplaced.j0 k l0 a1 a2 true) else (if a1 < 0 then (fastilaw27_WeatherReplaced.j0 k l0 a1 a2 true) else (fastilaw27_WeatherReplaced.j0 k l0 a1 a2 (decide (a1 ≥ (l0.length : Int)))))) else (some false))
theorem fastilaw27_WeatherReplaced.mono_l : ∀ k, (∀ y0 y1 y2 y3, LeO (fastilaw27_WeatherReplaced.j0 k y0 y1 y2 y3) (fastilaw27_WeatherReplaced.j0 (k + 1) y0 y1 y2 y3)) ∧ (∀ y0 y1 y2 y3 y4 y5 y6 y7 y8 y9 y10 y11 y12 y13, LeO (fastilaw27_WeatherReplaced.l0 k y0 y1 y2 y3 y4 y5 y6 y7 y8 y9 y10 y11 y12 y13) (fastilaw27_WeatherReplaced.l0 (k + 1) y0 y1 y2 y3 y4 y5 y6 y7 y8 y9 y10 y11 y12 y13)) ∧ (∀ y0 y1 y2 y3 y4 y5 y6 y7 y8 y9 y10 y11 y12 y13, LeO (fastilaw27_WeatherReplaced.j3 k y0 y1 y2 y3 y4 y5 y6 y7 y8 y9 y10 y11 y12 y13) (fastilaw27_WeatherReplaced.j3 (k + 1) y0 y1 y2 y3 y4 y5 y6 y7 y8 y9 y10 y11 y12 y13)) ∧ (∀ y0 y1 y2 y3 y4 y5 y6 y7 y8 y9 y10 y11 y12 y13 y14, LeO (fastilaw27_WeatherReplaced.j2 k y0 y1 y2 y3 y4 y5 y6 y7 y8 y9 y10 y11 y12 y13 y14) (fastilaw27_WeatherReplaced.j2 (k + 1) y0 y1 y2 y3 y4 y5 y6 y7 y8 y9 y10 y11 y12 y13 y14)) ∧ (∀ y0, LeO (fastilaw27_WeatherReplaced.j4 k y0) (fastilaw27_WeatherReplaced.j4 (k + 1) y0))
 | 0 => ⟨fun _ _ _ _ r h => by simp [fastilaw27_WeatherReplaced.j0] at h, fun _ _ _ _ _ _ _ _ _ _ _ _ _ _ r h => by simp [fastilaw27_WeatherReplaced.l0] at h, fun _ _ _ _ _ _ _ _ _ _ _ _ _ _ r h => by simp [fastilaw27_WeatherReplaced.j3] at h, fun _ _ _ _ _ _ _ _ _ _ _ _ _ _ _ r h => by simp [fastilaw27_WeatherReplaced.j2] at h, fun _ r h => by simp [fastilaw27_WeatherReplaced.j4] at h⟩
 | k + 1 => by
  obtain ⟨ih0, ih1, ih2, ih3, ih4⟩ := fastilaw27_WeatherReplaced.mono_l k
  refine ⟨?_, ?_, ?_, ?_, ?_⟩
  ·intro y0 y1 y2 y3
   unfold fastilaw27_WeatherReplaced.j0
   repeat' first
   | (with_reducible exact ih0 _ _ _ _)
   | (with_reducible exact ih1 _ _ _ _ _ _ _ _ _ _ _ _ _ _)
   | (with_reducible exact ih2 _ _ _ _ _ _ _ _ _ _ _ _ _ _)
   | (with_reducible exact ih3 _ _ _ _ _ _ _ _ _ _ _ _ _ _ _)
   | (with_reducible exact ih4 _)
   | (with_reducible exact LeO.refl _)
   | (with_reducible exact LeO.none _)
   | (with_reducible refine LeO.ite ?_ ?_)
   | (with_reducible refine LeO.bind ?_ (fun _ => ?_))
   | exact ih0 _ _ _ _
   | exact ih1 _ _ _ _ _ _ _ _ _ _ _ _ _ _
   | exact ih2 _ _ _ _ _ _ _ _ _ _ _ _ _ _
   | exact ih3 _ _ _ _ _ _ _ _ _ _ _ _ _ _ _
   | exact ih4 _
   | exact LeO.none _
   | refine LeO.ite ?_ ?_
   | refine LeO.bind ?_ (fun _ => ?_)
  ·intro y0 y1 y2 y3 y4 y5 y6 y7 y8 y9 y10 y11 y12 y13
   unfold fastilaw27_WeatherReplaced.l0
   repeat' first
   | (with_reducible exact ih0 _ _ _ _)
   | (with_reducible exact ih1 _ _ _ _ _ _ _ _ _ _ _ _ _ _)
   | (with_reducible exact ih2 _ _ _ _ _ _ _ _ _ _ _ _ _ _)
   | (with_reducible exact ih3 _ _ _ _ _ _ _ _ _ _ _ _ _ _ _)
   | (with_reducible exact ih4 _)
   | (with_reducible exact LeO.refl _)
   | (with_reducible exact LeO.none _)
   | (with_reducible refine LeO.ite ?_ ?_)
   | (with_reducible refine LeO.bind ?_ (fun _ => ?_))
   | exact ih0 _ _ _ _
   | exact ih1 _ _ _ _ _ _ _ _ _ _ _ _ _ _
   | exact ih2 _ _ _ _ _ _ _ _ _ _ _ _ _ _
   | exact ih3 _ _ _ _ _ _ _ _ _ _ _ _ _ _ _
   | exact ih4 _
   | exact LeO.none _
   | refine LeO.ite ?_ ?_
   | refine LeO.bind ?_ (fun _ => ?_)
  ·intro y0 y1 y2 y3 y4 y5 y6 y7 y8 y9 y10 y11 y12 y13
   unfold fastilaw27_WeatherReplaced.j3
   repeat' first
   | (with_reducible exact ih0 _ _ _ _)
   | (with_reducible exact ih1 _ _ _ _ _ _ _ _ _ _ _ _ _ _)
   | (with_reducible exact ih2 _ _ _ _ _ _ _ _ _ _ _ _ _ _)
   | (with_reducible exact ih3 _ _ _ _ _ _ _ _ _ _ _ _ _ _ _)
   | (with_reducible exact ih4 _)
   | (with_reducible exact LeO.refl _)
   | (with_reducible exact LeO.none _)
   | (with_reducible refine LeO.ite ?_ ?_)
   | (with_reducible refine LeO.bind ?_ (fun _ => ?_))
   | exact ih0 _ _ _ _
   | exact ih1 _ _ _ _ _ _ _ _ _ _ _ _ _ _
   | exact ih2 _ _ _ _ _ _ _ _ _ _ _ _ _ _
   | exact ih3 _ _ _ _ _ _ _ _ _ _ _ _ _ _ _
   | exact ih4 _
   | exact LeO.none _
   | refine LeO.ite ?_ ?_
   | refine LeO.bind ?_ (fun _ => ?_)
  ·intro y0 y1 y2 y3 y4 y5 y6 y7 y8 y9 y10 y11 y12 y13 y14
   unfold fastilaw27_WeatherReplaced.j2
   repeat' first
   | (with_reducible exact ih0 _ _ _ _)
   | (with_reducible exact ih1 _ _ _ _ _ _ _ _ _ _ _ _ _ _)
   | (with_reducible exact ih2 _ _ _ _ _ _ _ _ _ _ _ _ _ _)
   | (with_reducible exact ih3 _ _ _ _ _ _ _ _ _ _ _ _ _ _ _)
   | (with_reducible exact ih4 _)
   | (with_reducible exact LeO.refl _)
   | (with_reducible exact LeO.none _)
   | (with_reducible refine LeO.ite ?_ ?_)
   | (with_reducible refine LeO.bind ?_ (fun _ => ?_))
   | exact ih0 _ _ _ _
   | exact ih1 _ _ _ _ _ _ _ _ _ _ _ _ _ _
   | exact ih2 _ _ _ _ _ _ _ _ _ _ _ _ _ _
   | exact ih3 _ _ _ _ _ _ _ _ _ _ _ _ _ _ _
   | exact ih4 _
   | exact LeO.none _
   | refine LeO.ite ?_ ?_
   | refine LeO.bind ?_ (fun _ => ?_)
  ·intro y0
   unfold fastilaw27_WeatherReplaced.j4
   repeat' first
   | (with_reducible exact ih0 _ _ _ _)
   | (with_reducible exact ih1 _ _ _ _ _ _ _ _ _ _ _ _ _ _)
   | (with_reducible exact ih2 _ _ _ _ _ _ _ _ _ _ _ _ _ _)
   | (with_reducible exact ih3 _ _ _ _ _ _ _ _ _ _ _ _ _ _ _)
   | (with_reducible exact ih4 _)
   | (with_reducible exact LeO.refl _)
   | (with_reducible exact LeO.none _)
   | (with_reducible refine LeO.ite ?_ ?_)
   | (with_reducible refine LeO.bind ?_ (fun _ => ?_))
   | exact ih0 _ _ _ _
   | exact ih1 _ _ _ _ _ _ _ _ _ _ _ _ _ _
   | exact ih2 _ _ _ _ _ _ _ _ _ _ _ _ _ _
   | exact ih3 _ _ _ _ _ _ _ _ _ _ _ _ _ _ _
   | exact ih4 _
   | exact LeO.none _
   | refine LeO.ite ?_ ?_
   | refine LeO.bind ?_ (fun _ => ?_)
theorem fastilaw27_WeatherReplaced.mono : ∀ a0 a1 a2 k, LeO (fastilaw27_WeatherReplaced.f k a0 a1 a2) (fastilaw27_WeatherReplaced.f (k + 1) a0 a1 a2) := by
 intro a0 a1 a2 k
 obtain ⟨ih0, ih1, ih2, ih3, ih4⟩ := fastilaw27_WeatherReplaced.mono_l k
 unfold fastilaw27_WeatherReplaced.f
 repeat' first
   | (with_reducible exact ih0 _ _ _ _)
   | (with_reducible exact ih1 _ _ _ _ _ _ _ _ _ _ _ _ _ _)
   | (with_reducible exact ih2 _ _ _ _ _ _ _ _ _ _ _ _ _ _)
   | (with_reducible exact ih3 _ _ _ _ _ _ _ _ _ _ _ _ _ _ _)
   | (with_reducible exact ih4 _)
   | (with_reducible exact LeO.refl _)
   | (with_reducible exact LeO.none _)
   | (with_reducible refine LeO.ite ?_ ?_)
   | (with_reducible refine LeO.bind ?_ (fun _ => ?_))
   | exact ih0 _ _ _ _
   | exact ih1 _ _ _ _ _ _ _ _ _ _ _ _ _ _
   | exact ih2 _ _ _ _ _ _ _ _ _ _ _ _ _ _
   | exact ih3 _ _ _ _ _ _ _ _ _ _ _ _ _ _ _
   | exact ih4 _
   | exact LeO.none _
   | refine LeO.ite ?_ ?_
   | refine LeO.bind ?_ (fun _ => ?_)
def fastilaw27_WeatherReplaced.T16 : Bool × List (List Nat × List Nat) := (true, [([], []), ([], []), ([], []), ([1, 2], [1, 2]), ([0, 3], [0, 3]), ([], []), ([], []), ([6], [6]), ([5, 7], [5, 7]), ([4, 8, 4], [4, 8]), ([], []), ([10], [10]), ([], []), ([12], [12]), ([], []), ([9, 11, 13, 14, 9], [9, 11, 13, 14]), ([15], [15]), ([16], [16]), ([16], [16]), ([16], [16]), ([], []), ([20, 17, 15, 0, 1, 2, 3, 4, 5, 6, 7, 8, 9, 10, 11, 12, 13, 14, 15, 16, 17, 20], [17, 20]), ([18, 21, 0, 1, 2, 3, 4, 5, 6, 7, 8, 9, 10, 11, 12, 13, 14, 15, 16, 17, 18, 20, 21], [18]), ([19, 22, 0, 1, 2, 3, 4, 5, 6, 7, 8, 9, 10, 11, 12, 13, 14, 15, 16, 17, 18, 19, 20, 21, 22], [19])])
def fastilaw27_WeatherReplaced.B16 : List Nat := [0, 0, 0, 6, 15, 0, 0, 64, 224, 511, 0, 1024, 0, 4096, 0, 32767, 65535, 131071, 131071, 131071, 0, 1310719, 3670015, 8388607]
theorem fastilaw27_WeatherReplaced.tab16 : rtab .any (opsOf Try.f10 16) = fastilaw27_WeatherReplaced.T16 := by kernel_rfl
theorem fastilaw27_WeatherReplaced.bits16 : waitsOk fastilaw27_WeatherReplaced.T16.2 fastilaw27_WeatherReplaced.B16 = true := by kernel_rfl
set_option maxHeartbeats 8000000 in
set_option maxRecDepth 100000 in
theorem fastilaw27_WeatherReplaced.calls (k : Nat) (A0 : Option Addr) (c0 : Nat) (l0 : List (S41)) (a1 : Int) (a2 : Int) (r : Bool) (w : World) (hr0 : Kd.C k41 w A0 l0.length l0) (hc0 : l0.length ≤ c0) (h : fastilaw27_WeatherReplaced.f k l0 a1 a2 = some r) :
  Calls Try.prog 10 #[.slice A0 l0.length c0, .int .i64 a1, .int .i64 a2] w fun e w' => e = .returned (.bool r) ∧ Below w.heap.size w w' := by
 have hu41 := Try.underlying41
 have hu39 := Try.underlying39
 have HR0 := Aside0.mk hr0
 have HC0 := Aside0.mk hc0
 clear hr0 hc0
 have HB := Aside0.mk (Below.refl w.heap.size w)
 have H : ((fastilaw27_sane.f).bind fun t292 => (if t292 = true then (if (l0.length : Int) > 5000 then (fastilaw27_WeatherReplaced.j0 k l0 a1 a2 true) else (if a1 < 0 then (fastilaw27_WeatherReplaced.j0 k l0 a1 a2 true) else (fastilaw27_WeatherReplaced.j0 k l0 a1 a2 (decide (a1 ≥ (l0.length : Int)))))) else (some false))) = some r := h
 clear h
 replace H := Option.bind_eq_some_iff.mp H
 obtain ⟨t292, A40, H⟩ := H
 replace H : (if t292 = true then (if (l0.length : Int) > 5000 then (fastilaw27_WeatherReplaced.j0 k l0 a1 a2 true) else (if a1 < 0 then (fastilaw27_WeatherReplaced.j0 k l0 a1 a2 true) else (fastilaw27_WeatherReplaced.j0 k l0 a1 a2 (decide (a1 ≥ (l0.length : Int)))))) else (some false)) = some r := H
 have A4 := Aside0.mk A40
 clear A40
 by_cases c5 : t292 = true
 ·subst c5
  have H1 : (if (l0.length : Int) > 5000 then (fastilaw27_WeatherReplaced.j0 k l0 a1 a2 true) else (if a1 < 0 then (fastilaw27_WeatherReplaced.j0 k l0 a1 a2 true) else (fastilaw27_WeatherReplaced.j0 k l0 a1 a2 (decide (a1 ≥ (l0.length : Int)))))) = some r := by rw [if_pos rfl] at H; exact H
  clear H
  have H := H1
  clear H1
  have HC6 := Aside0.mk H
  clear H
  go_enter Try.func10, Try.ntmps10
  go_upto_region 3 with (first | ((with_reducible refine gate_callee (f := 25) rfl ?_); refine goesL_ (some 17) rfl rfl Try.func25 (by kernel_rfl) rfl #[] rfl (by (try simp only [List.map_toArray, List.map_cons, List.map_nil]); first | done | rfl | (simp only [List.length_drop, List.length_take]; rfl)) ?_; (with_reducible refine (fastilaw27_sane.calls  true _ A4.out).mono ?_); rintro e w7 ⟨rfl, hb⟩; refine ⟨_, rfl, ?_⟩; have n0_ := Aside0.mk (below_step (by repeat (first | (with_reducible first | exact HB.out | apply below_alloc | apply pw_below_drewN | apply below_drew1) | exact HB.out)) hb); clear HB; have HB := n0_; clear n0_; (try clear hb); (try clear hb2); (try clear hk); (try clear hi)))
  (try simp only [Act.put, List.setIfInBounds_toArray, List.set_cons_zero, List.set_cons_succ])
  go_cut [31] (fun v31 wc => ∃ (kq : Nat) (x31_5 : Bool), v31 = .bool x31_5 ∧ Aside0 (fastilaw27_WeatherReplaced.j0 kq l0 a1 a2 x31_5 = some r) ∧ Aside0 (kq ≤ k) ∧ Aside0 (Below w.heap.size w wc))
  case first =>
   have H := HC6.out
   clear HC6
   by_cases c8 : (l0.length : Int) > 5000
   ·rw [if_pos c8] at H
    have c8b0 : decide (5000 < (l0.length : Int)) = true := decide_eq_true c8
    have c8b1 : decide (5000 < l0.length) = true := decide_eq_true (by omega)
    clear c8
    (first | rw [c8b0] | (simp only [i64_w, i32_w]; rw [c8b0]) | skip)
    have H' := Aside0.mk H
    clear H
    go_wp2
    go_meet
    case rel => exact ⟨_, (true), (by first | rfl | (simp; done) | (simp [*]; done)), H', ⟨by first | omega | exact Nat.le_refl _⟩, ⟨by repeat (first | (with_reducible first | exact HB.out | apply below_alloc | apply pw_below_drewN | apply below_drew1) | exact HB.out)⟩⟩
   ·rw [if_neg c8] at H
    have c8b0 : decide (5000 < (l0.length : Int)) = false := decide_eq_false c8
    have c8b1 : decide (5000 < l0.length) = false := decide_eq_false (by omega)
    clear c8
    (first | rw [c8b0] | (simp only [i64_w, i32_w]; rw [c8b0]) | skip)
    by_cases c9 : a1 < 0
    ·rw [if_pos c9] at H
     have c9b0 : decide (a1 < 0) = true := decide_eq_true c9
     clear c9
     have H' := Aside0.mk H
     clear H
     go_wp2
     go_meet
     case rel => exact ⟨_, (true), (by first | rfl | (simp; done) | (simp [*]; done)), H', ⟨by first | omega | exact Nat.le_refl _⟩, ⟨by repeat (first | (with_reducible first | exact HB.out | apply below_alloc | apply pw_below_drewN | apply below_drew1) | exact HB.out)⟩⟩
    ·rw [if_neg c9] at H
     have c9b0 : decide (a1 < 0) = false := decide_eq_false c9
     clear c9
     have H' := Aside0.mk H
     clear H
     go_wp2
     go_meet
     case rel => exact ⟨_, (decide (a1 ≥ (l0.length : Int))), (by first | rfl | (simp; done) | (simp [*]; done)), H', ⟨by first | omega | exact Nat.le_refl _⟩, ⟨by repeat (first | (with_reducible first | exact HB.out | apply below_alloc | apply pw_below_drewN | apply below_drew1) | exact HB.out)⟩⟩
  case rest =>
   clear HC6
   try clear c1
   try clear c2
   try clear p2
   try clear c5
   try clear c8
   try clear c8b0
   try clear c8b1
   try clear c9
   try clear c9b0
   obtain ⟨kq, x31_5, rfl, HA, HJ5, HB⟩ := hcut
   cases kq with
   | zero => exact absurd HA.out (by simp [fastilaw27_WeatherReplaced.j0])
   | succ kj5 =>
    have H := HA.out
    clear HA
    simp only [fastilaw27_WeatherReplaced.j0] at H
    by_cases c10 : x31_5 = true
    ·subst c10
     have H1 : (some true) = some r := by rw [if_pos rfl] at H; exact H
     clear H
     have H := H1
     clear H1
     obtain rfl := Option.some.inj H
     go_wp2
     go_ret
     exact ⟨by first | rfl | (simp [errW_none, errW_some] <;> rfl) | (simp [*, errW_none, errW_some] <;> rfl), by repeat (first | (with_reducible first | exact HB.out | apply below_alloc | apply pw_below_drewN | apply below_drew1) | exact HB.out)⟩
    ·replace c10 := Bool.eq_false_iff.mpr c10
     subst c10
     have H1 : (if 0 ≤ a1 then (if a1 < (l0.length : Int) then (fastilaw27_WeatherReplaced.l0 kj5 l0 a1 a2 false 0 ((rd_T41 l0 a1).f0) ((rd_T41 l0 a1).f1) ((rd_T41 l0 a1).f2) ((rd_T41 l0 a1).f3) ((rd_T41 l0 a1).f4) ((rd_T41 l0 a1).f5.f0) ((rd_T41 l0 a1).f5.f1) ((rd_T41 l0 a1).f6.f0) ((rd_T41 l0 a1).f6.f1)) else (none)) else (none)) = some r := by rw [if_neg (show ¬ (false = true) by decide)] at H; exact H
     clear H
     have H := H1
     clear H1
     by_cases c11 : 0 ≤ a1
     ·rw [if_pos c11] at H
      have c11b0 : decide (0 ≤ a1) = true := decide_eq_true c11
      clear c11
      by_cases c12 : a1 < (l0.length : Int)
      ·rw [if_pos c12] at H
       have c12b0 : decide (a1 < (l0.length : Int)) = true := decide_eq_true c12
       clear c12
       have H' := Aside0.mk H
       clear H
       have p293 : 0 ≤ (a1 : Int) := of_decide_eq_true (by first | (with_reducible assumption) | assumption)
       have q293 : a1 < (l0.length : Int) := of_decide_eq_true (by first | (with_reducible assumption) | assumption)
       obtain ⟨ad293, e293, hx293_0, hx293_1, hx293_2, hx293_3, hx293_4, hx293_5, hx293_6, hx293_7, hx293_8⟩ := at_T41 HR0.out a1 p293 q293
       cases e293
       replace hx293_0 := (HB.out.cell (World.block_lt_of_cell? w _ hx293_0)).trans hx293_0
       replace hx293_1 := (HB.out.cell (World.block_lt_of_cell? w _ hx293_1)).trans hx293_1
       replace hx293_2 := (HB.out.cell (World.block_lt_of_cell? w _ hx293_2)).trans hx293_2
       replace hx293_3 := (HB.out.cell (World.block_lt_of_cell? w _ hx293_3)).trans hx293_3
       replace hx293_4 := (HB.out.cell (World.block_lt_of_cell? w _ hx293_4)).trans hx293_4
       replace hx293_5 := (HB.out.cell (World.block_lt_of_cell? w _ hx293_5)).trans hx293_5
       replace hx293_6 := (HB.out.cell (World.block_lt_of_cell? w _ hx293_6)).trans hx293_6
       replace hx293_7 := (HB.out.cell (World.block_lt_of_cell? w _ hx293_7)).trans hx293_7
       replace hx293_8 := (HB.out.cell (World.block_lt_of_cell? w _ hx293_8)).trans hx293_8
       replace p293 := eq_true p293
       replace q293 := eq_true q293
       go_wp2_with (first | ((with_reducible refine gate_dst (N := 7) rfl ?_); (try (refine gate_guard (by rfl) ?_; dsimp only)); refine box_event ?hg (N := 7) ?hd (cs := #[.int .i64 0, .int .i64 0, .int .i64 0, .int .i64 0, .int .i64 0, .int .i64 0, .int .i64 0, .int .i64 0, .int .i64 0]) (t := 41) ?hr ?_; (case hd => rfl); (case hg => rfl); (case hr => first | (go_simp; done) | (go_simp; rfl)); intro gb294 hg w13 hbox hb; have n0_ := Aside0.mk (below_step (by repeat (first | (with_reducible first | exact HB.out | apply below_alloc | apply pw_below_drewN | apply below_drew1) | exact HB.out)) hb); have n1_ := Aside0.mk (hbox); have n2_ := Aside0.mk ((by rw [hg]; exact (below_size (by repeat (first | (with_reducible first | exact HB.out | apply below_alloc | apply pw_below_drewN | apply below_drew1) | exact HB.out))) : w.heap.size ≤ gb294)); have n3_ := Aside0.mk ((by rw [hg]; exact (below_size (by repeat (first | (with_reducible first | exact HB.out | apply below_alloc | apply pw_below_drewN | apply below_drew1) | exact HB.out))) : w.heap.size ≤ gb294)); clear HB; have HB := n0_; have BK294 := n1_; have GW294 := n2_; have GE294 := n3_; clear n0_ n1_ n2_ n3_; clear hb hbox hg; have hcz14_0 : w13.cell? ⟨gb294, 0, none⟩ = some (.int .i64 0) := (blk_cell BK294.out 0).trans rfl; have hcz14_1 : w13.cell? ⟨gb294, 1, none⟩ = some (.int .i64 0) := (blk_cell BK294.out 1).trans rfl; have hcz14_2 : w13.cell? ⟨gb294, 2, none⟩ = some (.int .i64 0) := (blk_cell BK294.out 2).trans rfl; have hcz14_3 : w13.cell? ⟨gb294, 3, none⟩ = some (.int .i64 0) := (blk_cell BK294.out 3).trans rfl; have hcz14_4 : w13.cell? ⟨gb294, 4, none⟩ = some (.int .i64 0) := (blk_cell BK294.out 4).trans rfl; have hcz14_5 : w13.cell? ⟨gb294, 5, none⟩ = some (.int .i64 0) := (blk_cell BK294.out 5).trans rfl; have hcz14_6 : w13.cell? ⟨gb294, 6, none⟩ = some (.int .i64 0) := (blk_cell BK294.out 6).trans rfl; have hcz14_7 : w13.cell? ⟨gb294, 7, none⟩ = some (.int .i64 0) := (blk_cell BK294.out 7).trans rfl; have hcz14_8 : w13.cell? ⟨gb294, 8, none⟩ = some (.int .i64 0) := (blk_cell BK294.out 8).trans rfl; have hfz14_0 := blk_frozen BK294.out 0; have hfz14_1 := blk_frozen BK294.out 1; have hfz14_2 := blk_frozen BK294.out 2; have hfz14_3 := blk_frozen BK294.out 3; have hfz14_4 := blk_frozen BK294.out 4; have hfz14_5 := blk_frozen BK294.out 5; have hfz14_6 := blk_frozen BK294.out 6; have hfz14_7 := blk_frozen BK294.out 7; have hfz14_8 := blk_frozen BK294.out 8))
       go_loopg [8, 9] kj5 (fun kq v8 v9 w' => ∃ (x8_2 : Bool) (x9_2 : Int), v8 = .bool x8_2 ∧ v9 = .int .i64 x9_2 ∧ Aside0 (fastilaw27_WeatherReplaced.l0 kq l0 a1 a2 x8_2 x9_2 ((rd_T41 l0 a1).f0) ((rd_T41 l0 a1).f1) ((rd_T41 l0 a1).f2) ((rd_T41 l0 a1).f3) ((rd_T41 l0 a1).f4) ((rd_T41 l0 a1).f5.f0) ((rd_T41 l0 a1).f5.f1) ((rd_T41 l0 a1).f6.f0) ((rd_T41 l0 a1).f6.f1) = some r) ∧ Aside0 (kq ≤ kj5) ∧ Aside0 (w'.heap[gb294]? = some (.cells #[.int .i64 ((rd_T41 l0 a1).f0), .int .i64 ((rd_T41 l0 a1).f1), .int .i64 ((rd_T41 l0 a1).f2), .int .i64 ((rd_T41 l0 a1).f3), .int .i64 ((rd_T41 l0 a1).f4), .int .i64 ((rd_T41 l0 a1).f5.f0), .int .i64 ((rd_T41 l0 a1).f5.f1), .int .i64 ((rd_T41 l0 a1).f6.f0), .int .i64 ((rd_T41 l0 a1).f6.f1)] 41 (0, 0))) ∧ Aside0 (Below w.heap.size w w'))
       case atStart => exact ⟨(false), (0), (by first | rfl | (simp; done) | (simp [*]; done)), (by first | rfl | (simp; done) | (simp [*]; done)), H', ⟨Nat.le_refl _⟩, ⟨by (with_reducible repeat (first | refine blk_drewN ?_ _ | refine blk_drew ?_ | refine blk_alloc ?_ _)); refine blk_put (cs := #[.int .i64 ((rd_T41 l0 a1).f0), .int .i64 ((rd_T41 l0 a1).f1), .int .i64 ((rd_T41 l0 a1).f2), .int .i64 ((rd_T41 l0 a1).f3), .int .i64 ((rd_T41 l0 a1).f4), .int .i64 ((rd_T41 l0 a1).f5.f0), .int .i64 ((rd_T41 l0 a1).f5.f1), .int .i64 ((rd_T41 l0 a1).f6.f0), .int .i64 0]) ?_ 8 _ rfl; (with_reducible repeat (first | refine blk_drewN ?_ _ | refine blk_drew ?_ | refine blk_alloc ?_ _)); refine blk_put (cs := #[.int .i64 ((rd_T41 l0 a1).f0), .int .i64 ((rd_T41 l0 a1).f1), .int .i64 ((rd_T41 l0 a1).f2), .int .i64 ((rd_T41 l0 a1).f3), .int .i64 ((rd_T41 l0 a1).f4), .int .i64 ((rd_T41 l0 a1).f5.f0), .int .i64 ((rd_T41 l0 a1).f5.f1), .int .i64 0, .int .i64 0]) ?_ 7 _ rfl; (with_reducible repeat (first | refine blk_drewN ?_ _ | refine blk_drew ?_ | refine blk_alloc ?_ _)); refine blk_put (cs := #[.int .i64 ((rd_T41 l0 a1).f0), .int .i64 ((rd_T41 l0 a1).f1), .int .i64 ((rd_T41 l0 a1).f2), .int .i64 ((rd_T41 l0 a1).f3), .int .i64 ((rd_T41 l0 a1).f4), .int .i64 ((rd_T41 l0 a1).f5.f0), .int .i64 0, .int .i64 0, .int .i64 0]) ?_ 6 _ rfl; (with_reducible repeat (first | refine blk_drewN ?_ _ | refine blk_drew ?_ | refine blk_alloc ?_ _)); refine blk_put (cs := #[.int .i64 ((rd_T41 l0 a1).f0), .int .i64 ((rd_T41 l0 a1).f1), .int .i64 ((rd_T41 l0 a1).f2), .int .i64 ((rd_T41 l0 a1).f3), .int .i64 ((rd_T41 l0 a1).f4), .int .i64 0, .int .i64 0, .int .i64 0, .int .i64 0]) ?_ 5 _ rfl; (with_reducible repeat (first | refine blk_drewN ?_ _ | refine blk_drew ?_ | refine blk_alloc ?_ _)); refine blk_put (cs := #[.int .i64 ((rd_T41 l0 a1).f0), .int .i64 ((rd_T41 l0 a1).f1), .int .i64 ((rd_T41 l0 a1).f2), .int .i64 ((rd_T41 l0 a1).f3), .int .i64 0, .int .i64 0, .int .i64 0, .int .i64 0, .int .i64 0]) ?_ 4 _ rfl; (with_reducible repeat (first | refine blk_drewN ?_ _ | refine blk_drew ?_ | refine blk_alloc ?_ _)); refine blk_put (cs := #[.int .i64 ((rd_T41 l0 a1).f0), .int .i64 ((rd_T41 l0 a1).f1), .int .i64 ((rd_T41 l0 a1).f2), .int .i64 0, .int .i64 0, .int .i64 0, .int .i64 0, .int .i64 0, .int .i64 0]) ?_ 3 _ rfl; (with_reducible repeat (first | refine blk_drewN ?_ _ | refine blk_drew ?_ | refine blk_alloc ?_ _)); refine blk_put (cs := #[.int .i64 ((rd_T41 l0 a1).f0), .int .i64 ((rd_T41 l0 a1).f1), .int .i64 0, .int .i64 0, .int .i64 0, .int .i64 0, .int .i64 0, .int .i64 0, .int .i64 0]) ?_ 2 _ rfl; (with_reducible repeat (first | refine blk_drewN ?_ _ | refine blk_drew ?_ | refine blk_alloc ?_ _)); refine blk_put (cs := #[.int .i64 ((rd_T41 l0 a1).f0), .int .i64 0, .int .i64 0, .int .i64 0, .int .i64 0, .int .i64 0, .int .i64 0, .int .i64 0, .int .i64 0]) ?_ 1 _ rfl; (with_reducible repeat (first | refine blk_drewN ?_ _ | refine blk_drew ?_ | refine blk_alloc ?_ _)); refine blk_put (cs := #[.int .i64 0, .int .i64 0, .int .i64 0, .int .i64 0, .int .i64 0, .int .i64 0, .int .i64 0, .int .i64 0, .int .i64 0]) ?_ 0 _ rfl; (with_reducible repeat (first | refine blk_drewN ?_ _ | refine blk_drew ?_ | refine blk_alloc ?_ _)); exact BK294.out⟩, ⟨by repeat (first | (with_reducible first | exact HB.out | apply below_alloc | apply pw_below_drewN | apply below_drew1 | refine below_set ?_ GE294.out) | exact HB.out)⟩⟩
       case round =>
        clear H'
        try clear c1
        try clear c2
        try clear p2
        try clear q2
        try clear hx2
        try clear c5
        try clear c8
        try clear c8b0
        try clear c8b1
        try clear c9
        try clear c9b0
        try clear c10
        try clear c11
        try clear c11b0
        try clear c12
        try clear c12b0
        try clear hcz14_0
        try clear hcz14_1
        try clear hcz14_2
        try clear hcz14_3
        try clear hcz14_4
        try clear hcz14_5
        try clear hcz14_6
        try clear hcz14_7
        try clear hcz14_8
        try clear hfz14_0
        try clear hfz14_1
        try clear hfz14_2
        try clear hfz14_3
        try clear hfz14_4
        try clear hfz14_5
        try clear hfz14_6
        try clear hfz14_7
        try clear hfz14_8
        try clear hx293_0
        try clear hx293_1
        try clear hx293_2
        try clear hx293_3
        try clear hx293_4
        try clear hx293_5
        try clear hx293_6
        try clear hx293_7
        try clear hx293_8
        try clear p2
        try clear p293
        try clear q293
        obtain ⟨x8_2, x9_2, rfl, rfl, HA, HK2, BK294, HB⟩ := hrel
        cases gk with
        | zero => exact absurd HA.out (by simp [fastilaw27_WeatherReplaced.l0])
        | succ k2 =>
         have H := HA.out
         clear HA
         simp only [fastilaw27_WeatherReplaced.l0] at H
         by_cases c15 : x9_2 < (l0.length : Int)
         ·rw [if_pos c15] at H
          have c15b0 : decide (x9_2 < (l0.length : Int)) = true := decide_eq_true c15
          clear c15
          have HC16 := Aside0.mk H
          clear H
          go_upto_block 1 with (fail)
          go_cut [8] (fun v8 wc => ∃ (kq : Nat) (x8_15 : Bool), v8 = .bool x8_15 ∧ Aside0 (fastilaw27_WeatherReplaced.j3 kq l0 a1 a2 x8_15 x9_2 ((rd_T41 l0 a1).f0) ((rd_T41 l0 a1).f1) ((rd_T41 l0 a1).f2) ((rd_T41 l0 a1).f3) ((rd_T41 l0 a1).f4) ((rd_T41 l0 a1).f5.f0) ((rd_T41 l0 a1).f5.f1) ((rd_T41 l0 a1).f6.f0) ((rd_T41 l0 a1).f6.f1) = some r) ∧ Aside0 (kq ≤ k2) ∧ Aside0 (wc.heap[gb294]? = some (.cells #[.int .i64 ((rd_T41 l0 a1).f0), .int .i64 ((rd_T41 l0 a1).f1), .int .i64 ((rd_T41 l0 a1).f2), .int .i64 ((rd_T41 l0 a1).f3), .int .i64 ((rd_T41 l0 a1).f4), .int .i64 ((rd_T41 l0 a1).f5.f0), .int .i64 ((rd_T41 l0 a1).f5.f1), .int .i64 ((rd_T41 l0 a1).f6.f0), .int .i64 ((rd_T41 l0 a1).f6.f1)] 41 (0, 0))) ∧ Aside0 (Below w.heap.size w wc))
          case first =>
           have H := HC16.out
           clear HC16
           by_cases c17 : 0 ≤ x9_2
           ·rw [if_pos c17] at H
            have c17b0 : decide (0 ≤ x9_2) = true := decide_eq_true c17
            clear c17
            (first | rw [c17b0] | (simp only [i64_w, i32_w]; rw [c17b0]) | skip)
            have HC18 := Aside0.mk H
            clear H
            have p295 : 0 ≤ (x9_2 : Int) := of_decide_eq_true (by first | (with_reducible assumption) | assumption)
            have q295 : x9_2 < (l0.length : Int) := of_decide_eq_true (by first | (with_reducible assumption) | assumption)
            obtain ⟨ad295, e295, hx295_0, hx295_1, hx295_2, hx295_3, hx295_4, hx295_5, hx295_6, hx295_7, hx295_8⟩ := at_T41 HR0.out x9_2 p295 q295
            obtain rfl : ad293 = ad295 := (by injection e295)
            replace hx295_0 := (HB.out.cell (World.block_lt_of_cell? w _ hx295_0)).trans hx295_0
            replace hx295_1 := (HB.out.cell (World.block_lt_of_cell? w _ hx295_1)).trans hx295_1
            replace hx295_2 := (HB.out.cell (World.block_lt_of_cell? w _ hx295_2)).trans hx295_2
            replace hx295_3 := (HB.out.cell (World.block_lt_of_cell? w _ hx295_3)).trans hx295_3
            replace hx295_4 := (HB.out.cell (World.block_lt_of_cell? w _ hx295_4)).trans hx295_4
            replace hx295_5 := (HB.out.cell (World.block_lt_of_cell? w _ hx295_5)).trans hx295_5
            replace hx295_6 := (HB.out.cell (World.block_lt_of_cell? w _ hx295_6)).trans hx295_6
            replace hx295_7 := (HB.out.cell (World.block_lt_of_cell? w _ hx295_7)).trans hx295_7
            replace hx295_8 := (HB.out.cell (World.block_lt_of_cell? w _ hx295_8)).trans hx295_8
            replace p295 := eq_true p295
            replace q295 := eq_true q295
            go_upto_region 11 with (first | ((with_reducible refine gate_dst (N := 10) rfl ?_); (try (refine gate_guard (by rfl) ?_; dsimp only)); refine box_event ?hg (N := 10) ?hd (cs := #[.int .i64 0, .int .i64 0, .int .i64 0, .int .i64 0, .int .i64 0, .int .i64 0, .int .i64 0, .int .i64 0, .int .i64 0]) (t := 41) ?hr ?_; (case hd => rfl); (case hg => rfl); (case hr => first | (go_simp; done) | (go_simp; rfl)); intro gb296 hg w19 hbox hb; have n0_ := Aside0.mk (zb BK294.out hb); have n1_ := Aside0.mk (below_step (by repeat (first | (with_reducible first | exact HB.out | apply below_alloc | apply pw_below_drewN | apply below_drew1 | refine below_set ?_ GE294.out) | exact HB.out)) hb); have n2_ := Aside0.mk (hbox); have n3_ := Aside0.mk ((by rw [hg]; exact (below_size (by repeat (first | (with_reducible first | exact HB.out | apply below_alloc | apply pw_below_drewN | apply below_drew1 | refine below_set ?_ GE294.out) | exact HB.out))) : w.heap.size ≤ gb296)); have n4_ := Aside0.mk ((by rw [hg]; exact (below_size (by repeat (first | (with_reducible first | exact HB.out | apply below_alloc | apply pw_below_drewN | apply below_drew1 | refine below_set ?_ GE294.out) | exact HB.out))) : w.heap.size ≤ gb296)); have n5_ := Aside0.mk ((by rw [hg]; exact Nat.ne_of_lt (blk_lt (zk BK294.out)) : gb294 ≠ gb296)); have n6_ := Aside0.mk ((by rw [hg]; exact Nat.ne_of_gt (blk_lt (zk BK294.out)) : gb296 ≠ gb294)); clear BK294; clear HB; have BK294 := n0_; have HB := n1_; have BK296 := n2_; have GW296 := n3_; have GE296 := n4_; have NB294_296 := n5_; have NB296_294 := n6_; clear n0_ n1_ n2_ n3_ n4_ n5_ n6_; clear hb hbox hg; have hnb20 := NB296_294.out; have hnc20 := NB294_296.out; have hcz21_0 : w19.cell? ⟨gb296, 0, none⟩ = some (.int .i64 0) := (blk_cell BK296.out 0).trans rfl; have hcz21_1 : w19.cell? ⟨gb296, 1, none⟩ = some (.int .i64 0) := (blk_cell BK296.out 1).trans rfl; have hcz21_2 : w19.cell? ⟨gb296, 2, none⟩ = some (.int .i64 0) := (blk_cell BK296.out 2).trans rfl; have hcz21_3 : w19.cell? ⟨gb296, 3, none⟩ = some (.int .i64 0) := (blk_cell BK296.out 3).trans rfl; have hcz21_4 : w19.cell? ⟨gb296, 4, none⟩ = some (.int .i64 0) := (blk_cell BK296.out 4).trans rfl; have hcz21_5 : w19.cell? ⟨gb296, 5, none⟩ = some (.int .i64 0) := (blk_cell BK296.out 5).trans rfl; have hcz21_6 : w19.cell? ⟨gb296, 6, none⟩ = some (.int .i64 0) := (blk_cell BK296.out 6).trans rfl; have hcz21_7 : w19.cell? ⟨gb296, 7, none⟩ = some (.int .i64 0) := (blk_cell BK296.out 7).trans rfl; have hcz21_8 : w19.cell? ⟨gb296, 8, none⟩ = some (.int .i64 0) := (blk_cell BK296.out 8).trans rfl; have hfz21_0 := blk_frozen BK296.out 0; have hfz21_1 := blk_frozen BK296.out 1; have hfz21_2 := blk_frozen BK296.out 2; have hfz21_3 := blk_frozen BK296.out 3; have hfz21_4 := blk_frozen BK296.out 4; have hfz21_5 := blk_frozen BK296.out 5; have hfz21_6 := blk_frozen BK296.out 6; have hfz21_7 := blk_frozen BK296.out 7; have hfz21_8 := blk_frozen BK296.out 8))
            (try simp only [Act.put, List.setIfInBounds_toArray, List.set_cons_zero, List.set_cons_succ])
            go_cut [89] (fun v89 wc => ∃ (kq : Nat) (x89_17 : Bool), v89 = .bool x89_17 ∧ Aside0 (fastilaw27_WeatherReplaced.j2 kq l0 a1 a2 x8_2 x9_2 x89_17 ((rd_T41 l0 a1).f0) ((rd_T41 l0 a1).f1) ((rd_T41 l0 a1).f2) ((rd_T41 l0 a1).f3) ((rd_T41 l0 a1).f4) ((rd_T41 l0 a1).f5.f0) ((rd_T41 l0 a1).f5.f1) ((rd_T41 l0 a1).f6.f0) ((rd_T41 l0 a1).f6.f1) = some r) ∧ Aside0 (kq ≤ k2) ∧ Aside0 (wc.heap[gb294]? = some (.cells #[.int .i64 ((rd_T41 l0 a1).f0), .int .i64 ((rd_T41 l0 a1).f1), .int .i64 ((rd_T41 l0 a1).f2), .int .i64 ((rd_T41 l0 a1).f3), .int .i64 ((rd_T41 l0 a1).f4), .int .i64 ((rd_T41 l0 a1).f5.f0), .int .i64 ((rd_T41 l0 a1).f5.f1), .int .i64 ((rd_T41 l0 a1).f6.f0), .int .i64 ((rd_T41 l0 a1).f6.f1)] 41 (0, 0))) ∧ Aside0 (wc.heap[gb296]? = some (.cells #[.int .i64 ((rd_T41 l0 x9_2).f0), .int .i64 ((rd_T41 l0 x9_2).f1), .int .i64 ((rd_T41 l0 x9_2).f2), .int .i64 ((rd_T41 l0 x9_2).f3), .int .i64 ((rd_T41 l0 x9_2).f4), .int .i64 ((rd_T41 l0 x9_2).f5.f0), .int .i64 ((rd_T41 l0 x9_2).f5.f1), .int .i64 ((rd_T41 l0 x9_2).f6.f0), .int .i64 ((rd_T41 l0 x9_2).f6.f1)] 41 (0, 0))) ∧ Aside0 (Below w.heap.size w wc))
            case first =>
             have H := HC18.out
             clear HC18
             by_cases c22 : ((rd_T41 l0 x9_2).f1) = ((rd_T41 l0 a1).f1)
             ·rw [if_pos c22] at H
              have c22b0 : (((rd_T41 l0 x9_2).f1) == ((rd_T41 l0 a1).f1)) = true := beq_iff_eq.mpr c22
              have c22b1 : (((rd_T41 l0 x9_2).f1) != ((rd_T41 l0 a1).f1)) = false := bne_eq_false_iff_eq.mpr c22
              clear c22
              (first | rw [c22b0] | (simp only [i64_w, i32_w]; rw [c22b0]) | skip)
              by_cases c23 : ((rd_T41 l0 x9_2).f2) = ((rd_T41 l0 a1).f2)
              ·rw [if_pos c23] at H
               have c23b0 : (((rd_T41 l0 x9_2).f2) == ((rd_T41 l0 a1).f2)) = true := beq_iff_eq.mpr c23
               have c23b1 : (((rd_T41 l0 x9_2).f2) != ((rd_T41 l0 a1).f2)) = false := bne_eq_false_iff_eq.mpr c23
               clear c23
               by_cases c24 : ((rd_T41 l0 x9_2).f3) = ((rd_T41 l0 a1).f3)
               ·rw [if_pos c24] at H
                have c24b0 : (((rd_T41 l0 x9_2).f3) == ((rd_T41 l0 a1).f3)) = true := beq_iff_eq.mpr c24
                have c24b1 : (((rd_T41 l0 x9_2).f3) != ((rd_T41 l0 a1).f3)) = false := bne_eq_false_iff_eq.mpr c24
                clear c24
                by_cases c25 : ((rd_T41 l0 x9_2).f4) ≤ a2
                ·rw [if_pos c25] at H
                 have c25b0 : decide (((rd_T41 l0 x9_2).f4) ≤ a2) = true := decide_eq_true c25
                 clear c25
                 by_cases c26 : ((rd_T41 l0 x9_2).f4) > ((rd_T41 l0 a1).f4)
                 ·rw [if_pos c26] at H
                  have c26b0 : decide (((rd_T41 l0 a1).f4) < ((rd_T41 l0 x9_2).f4)) = true := decide_eq_true c26
                  clear c26
                  have H' := Aside0.mk H
                  clear H
                  have hnb27 := NB296_294.out
                  have hnc27 := NB294_296.out
                  have hcz28_0 : w19.cell? ⟨gb296, 0, none⟩ = some (.int .i64 0) := (blk_cell BK296.out 0).trans rfl
                  have hcz28_1 : w19.cell? ⟨gb296, 1, none⟩ = some (.int .i64 0) := (blk_cell BK296.out 1).trans rfl
                  have hcz28_2 : w19.cell? ⟨gb296, 2, none⟩ = some (.int .i64 0) := (blk_cell BK296.out 2).trans rfl
                  have hcz28_3 : w19.cell? ⟨gb296, 3, none⟩ = some (.int .i64 0) := (blk_cell BK296.out 3).trans rfl
                  have hcz28_4 : w19.cell? ⟨gb296, 4, none⟩ = some (.int .i64 0) := (blk_cell BK296.out 4).trans rfl
                  have hcz28_5 : w19.cell? ⟨gb296, 5, none⟩ = some (.int .i64 0) := (blk_cell BK296.out 5).trans rfl
                  have hcz28_6 : w19.cell? ⟨gb296, 6, none⟩ = some (.int .i64 0) := (blk_cell BK296.out 6).trans rfl
                  have hcz28_7 : w19.cell? ⟨gb296, 7, none⟩ = some (.int .i64 0) := (blk_cell BK296.out 7).trans rfl
                  have hcz28_8 : w19.cell? ⟨gb296, 8, none⟩ = some (.int .i64 0) := (blk_cell BK296.out 8).trans rfl
                  have hfz28_0 := blk_frozen BK296.out 0
                  have hfz28_1 := blk_frozen BK296.out 1
                  have hfz28_2 := blk_frozen BK296.out 2
                  have hfz28_3 := blk_frozen BK296.out 3
                  have hfz28_4 := blk_frozen BK296.out 4
                  have hfz28_5 := blk_frozen BK296.out 5
                  have hfz28_6 := blk_frozen BK296.out 6
                  have hfz28_7 := blk_frozen BK296.out 7
                  have hfz28_8 := blk_frozen BK296.out 8
                  have hcz29_0 : w19.cell? ⟨gb294, 0, none⟩ = some (.int .i64 ((rd_T41 l0 a1).f0)) := (blk_cell BK294.out 0).trans rfl
                  have hcz29_1 : w19.cell? ⟨gb294, 1, none⟩ = some (.int .i64 ((rd_T41 l0 a1).f1)) := (blk_cell BK294.out 1).trans rfl
                  have hcz29_2 : w19.cell? ⟨gb294, 2, none⟩ = some (.int .i64 ((rd_T41 l0 a1).f2)) := (blk_cell BK294.out 2).trans rfl
                  have hcz29_3 : w19.cell? ⟨gb294, 3, none⟩ = some (.int .i64 ((rd_T41 l0 a1).f3)) := (blk_cell BK294.out 3).trans rfl
                  have hcz29_4 : w19.cell? ⟨gb294, 4, none⟩ = some (.int .i64 ((rd_T41 l0 a1).f4)) := (blk_cell BK294.out 4).trans rfl
                  have hcz29_5 : w19.cell? ⟨gb294, 5, none⟩ = some (.int .i64 ((rd_T41 l0 a1).f5.f0)) := (blk_cell BK294.out 5).trans rfl
                  have hcz29_6 : w19.cell? ⟨gb294, 6, none⟩ = some (.int .i64 ((rd_T41 l0 a1).f5.f1)) := (blk_cell BK294.out 6).trans rfl
                  have hcz29_7 : w19.cell? ⟨gb294, 7, none⟩ = some (.int .i64 ((rd_T41 l0 a1).f6.f0)) := (blk_cell BK294.out 7).trans rfl
                  have hcz29_8 : w19.cell? ⟨gb294, 8, none⟩ = some (.int .i64 ((rd_T41 l0 a1).f6.f1)) := (blk_cell BK294.out 8).trans rfl
                  have hfz29_0 := blk_frozen BK294.out 0
                  have hfz29_1 := blk_frozen BK294.out 1
                  have hfz29_2 := blk_frozen BK294.out 2
                  have hfz29_3 := blk_frozen BK294.out 3
                  have hfz29_4 := blk_frozen BK294.out 4
                  have hfz29_5 := blk_frozen BK294.out 5
                  have hfz29_6 := blk_frozen BK294.out 6
                  have hfz29_7 := blk_frozen BK294.out 7
                  have hfz29_8 := blk_frozen BK294.out 8
                  go_wp2
                  go_meet
                  case rel => exact ⟨_, (true), (by first | rfl | (simp; done) | (simp [*]; done)), H', ⟨by have := HJ5.out; have := HK2.out; first | omega | exact Nat.le_refl _⟩, ⟨by (with_reducible repeat (first | refine blk_drewN ?_ _ | refine blk_drew ?_ | refine blk_alloc ?_ _)); refine blk_far ?_ NB294_296.out _; (with_reducible repeat (first | refine blk_drewN ?_ _ | refine blk_drew ?_ | refine blk_alloc ?_ _)); refine blk_far ?_ NB294_296.out _; (with_reducible repeat (first | refine blk_drewN ?_ _ | refine blk_drew ?_ | refine blk_alloc ?_ _)); refine blk_far ?_ NB294_296.out _; (with_reducible repeat (first | refine blk_drewN ?_ _ | refine blk_drew ?_ | refine blk_alloc ?_ _)); refine blk_far ?_ NB294_296.out _; (with_reducible repeat (first | refine blk_drewN ?_ _ | refine blk_drew ?_ | refine blk_alloc ?_ _)); refine blk_far ?_ NB294_296.out _; (with_reducible repeat (first | refine blk_drewN ?_ _ | refine blk_drew ?_ | refine blk_alloc ?_ _)); refine blk_far ?_ NB294_296.out _; (with_reducible repeat (first | refine blk_drewN ?_ _ | refine blk_drew ?_ | refine blk_alloc ?_ _)); refine blk_far ?_ NB294_296.out _; (with_reducible repeat (first | refine blk_drewN ?_ _ | refine blk_drew ?_ | refine blk_alloc ?_ _)); refine blk_far ?_ NB294_296.out _; (with_reducible repeat (first | refine blk_drewN ?_ _ | refine blk_drew ?_ | refine blk_alloc ?_ _)); refine blk_far ?_ NB294_296.out _; (with_reducible repeat (first | refine blk_drewN ?_ _ | refine blk_drew ?_ | refine blk_alloc ?_ _)); exact BK294.out⟩, ⟨by (with_reducible repeat (first | refine blk_drewN ?_ _ | refine blk_drew ?_ | refine blk_alloc ?_ _)); refine blk_put (cs := #[.int .i64 ((rd_T41 l0 x9_2).f0), .int .i64 ((rd_T41 l0 x9_2).f1), .int .i64 ((rd_T41 l0 x9_2).f2), .int .i64 ((rd_T41 l0 x9_2).f3), .int .i64 ((rd_T41 l0 x9_2).f4), .int .i64 ((rd_T41 l0 x9_2).f5.f0), .int .i64 ((rd_T41 l0 x9_2).f5.f1), .int .i64 ((rd_T41 l0 x9_2).f6.f0), .int .i64 0]) ?_ 8 _ rfl; (with_reducible repeat (first | refine blk_drewN ?_ _ | refine blk_drew ?_ | refine blk_alloc ?_ _)); refine blk_put (cs := #[.int .i64 ((rd_T41 l0 x9_2).f0), .int .i64 ((rd_T41 l0 x9_2).f1), .int .i64 ((rd_T41 l0 x9_2).f2), .int .i64 ((rd_T41 l0 x9_2).f3), .int .i64 ((rd_T41 l0 x9_2).f4), .int .i64 ((rd_T41 l0 x9_2).f5.f0), .int .i64 ((rd_T41 l0 x9_2).f5.f1), .int .i64 0, .int .i64 0]) ?_ 7 _ rfl; (with_reducible repeat (first | refine blk_drewN ?_ _ | refine blk_drew ?_ | refine blk_alloc ?_ _)); refine blk_put (cs := #[.int .i64 ((rd_T41 l0 x9_2).f0), .int .i64 ((rd_T41 l0 x9_2).f1), .int .i64 ((rd_T41 l0 x9_2).f2), .int .i64 ((rd_T41 l0 x9_2).f3), .int .i64 ((rd_T41 l0 x9_2).f4), .int .i64 ((rd_T41 l0 x9_2).f5.f0), .int .i64 0, .int .i64 0, .int .i64 0]) ?_ 6 _ rfl; (with_reducible repeat (first | refine blk_drewN ?_ _ | refine blk_drew ?_ | refine blk_alloc ?_ _)); refine blk_put (cs := #[.int .i64 ((rd_T41 l0 x9_2).f0), .int .i64 ((rd_T41 l0 x9_2).f1), .int .i64 ((rd_T41 l0 x9_2).f2), .int .i64 ((rd_T41 l0 x9_2).f3), .int .i64 ((rd_T41 l0 x9_2).f4), .int .i64 0, .int .i64 0, .int .i64 0, .int .i64 0]) ?_ 5 _ rfl; (with_reducible repeat (first | refine blk_drewN ?_ _ | refine blk_drew ?_ | refine blk_alloc ?_ _)); refine blk_put (cs := #[.int .i64 ((rd_T41 l0 x9_2).f0), .int .i64 ((rd_T41 l0 x9_2).f1), .int .i64 ((rd_T41 l0 x9_2).f2), .int .i64 ((rd_T41 l0 x9_2).f3), .int .i64 0, .int .i64 0, .int .i64 0, .int .i64 0, .int .i64 0]) ?_ 4 _ rfl; (with_reducible repeat (first | refine blk_drewN ?_ _ | refine blk_drew ?_ | refine blk_alloc ?_ _)); refine blk_put (cs := #[.int .i64 ((rd_T41 l0 x9_2).f0), .int .i64 ((rd_T41 l0 x9_2).f1), .int .i64 ((rd_T41 l0 x9_2).f2), .int .i64 0, .int .i64 0, .int .i64 0, .int .i64 0, .int .i64 0, .int .i64 0]) ?_ 3 _ rfl; (with_reducible repeat (first | refine blk_drewN ?_ _ | refine blk_drew ?_ | refine blk_alloc ?_ _)); refine blk_put (cs := #[.int .i64 ((rd_T41 l0 x9_2).f0), .int .i64 ((rd_T41 l0 x9_2).f1), .int .i64 0, .int .i64 0, .int .i64 0, .int .i64 0, .int .i64 0, .int .i64 0, .int .i64 0]) ?_ 2 _ rfl; (with_reducible repeat (first | refine blk_drewN ?_ _ | refine blk_drew ?_ | refine blk_alloc ?_ _)); refine blk_put (cs := #[.int .i64 ((rd_T41 l0 x9_2).f0), .int .i64 0, .int .i64 0, .int .i64 0, .int .i64 0, .int .i64 0, .int .i64 0, .int .i64 0, .int .i64 0]) ?_ 1 _ rfl; (with_reducible repeat (first | refine blk_drewN ?_ _ | refine blk_drew ?_ | refine blk_alloc ?_ _)); refine blk_put (cs := #[.int .i64 0, .int .i64 0, .int .i64 0, .int .i64 0, .int .i64 0, .int .i64 0, .int .i64 0, .int .i64 0, .int .i64 0]) ?_ 0 _ rfl; (with_reducible repeat (first | refine blk_drewN ?_ _ | refine blk_drew ?_ | refine blk_alloc ?_ _)); exact BK296.out⟩, ⟨by repeat (first | (with_reducible first | exact HB.out | apply below_alloc | apply pw_below_drewN | apply below_drew1 | refine below_set ?_ GE294.out | refine below_set ?_ GE296.out) | exact HB.out)⟩⟩
                 ·rw [if_neg c26] at H
                  have c26b0 : decide (((rd_T41 l0 a1).f4) < ((rd_T41 l0 x9_2).f4)) = false := decide_eq_false c26
                  clear c26
                  by_cases c30 : ((rd_T41 l0 x9_2).f4) = ((rd_T41 l0 a1).f4)
                  ·rw [if_pos c30] at H
                   have c30b0 : (((rd_T41 l0 x9_2).f4) == ((rd_T41 l0 a1).f4)) = true := beq_iff_eq.mpr c30
                   have c30b1 : (((rd_T41 l0 x9_2).f4) != ((rd_T41 l0 a1).f4)) = false := bne_eq_false_iff_eq.mpr c30
                   clear c30
                   have H' := Aside0.mk H
                   clear H
                   have hnb31 := NB296_294.out
                   have hnc31 := NB294_296.out
                   have hcz32_0 : w19.cell? ⟨gb296, 0, none⟩ = some (.int .i64 0) := (blk_cell BK296.out 0).trans rfl
                   have hcz32_1 : w19.cell? ⟨gb296, 1, none⟩ = some (.int .i64 0) := (blk_cell BK296.out 1).trans rfl
                   have hcz32_2 : w19.cell? ⟨gb296, 2, none⟩ = some (.int .i64 0) := (blk_cell BK296.out 2).trans rfl
                   have hcz32_3 : w19.cell? ⟨gb296, 3, none⟩ = some (.int .i64 0) := (blk_cell BK296.out 3).trans rfl
                   have hcz32_4 : w19.cell? ⟨gb296, 4, none⟩ = some (.int .i64 0) := (blk_cell BK296.out 4).trans rfl
                   have hcz32_5 : w19.cell? ⟨gb296, 5, none⟩ = some (.int .i64 0) := (blk_cell BK296.out 5).trans rfl
                   have hcz32_6 : w19.cell? ⟨gb296, 6, none⟩ = some (.int .i64 0) := (blk_cell BK296.out 6).trans rfl
                   have hcz32_7 : w19.cell? ⟨gb296, 7, none⟩ = some (.int .i64 0) := (blk_cell BK296.out 7).trans rfl
                   have hcz32_8 : w19.cell? ⟨gb296, 8, none⟩ = some (.int .i64 0) := (blk_cell BK296.out 8).trans rfl
                   have hfz32_0 := blk_frozen BK296.out 0
                   have hfz32_1 := blk_frozen BK296.out 1
                   have hfz32_2 := blk_frozen BK296.out 2
                   have hfz32_3 := blk_frozen BK296.out 3
                   have hfz32_4 := blk_frozen BK296.out 4
                   have hfz32_5 := blk_frozen BK296.out 5
                   have hfz32_6 := blk_frozen BK296.out 6
                   have hfz32_7 := blk_frozen BK296.out 7
                   have hfz32_8 := blk_frozen BK296.out 8
                   have hcz33_0 : w19.cell? ⟨gb294, 0, none⟩ = some (.int .i64 ((rd_T41 l0 a1).f0)) := (blk_cell BK294.out 0).trans rfl
                   have hcz33_1 : w19.cell? ⟨gb294, 1, none⟩ = some (.int .i64 ((rd_T41 l0 a1).f1)) := (blk_cell BK294.out 1).trans rfl
                   have hcz33_2 : w19.cell? ⟨gb294, 2, none⟩ = some (.int .i64 ((rd_T41 l0 a1).f2)) := (blk_cell BK294.out 2).trans rfl
                   have hcz33_3 : w19.cell? ⟨gb294, 3, none⟩ = some (.int .i64 ((rd_T41 l0 a1).f3)) := (blk_cell BK294.out 3).trans rfl
                   have hcz33_4 : w19.cell? ⟨gb294, 4, none⟩ = some (.int .i64 ((rd_T41 l0 a1).f4)) := (blk_cell BK294.out 4).trans rfl
                   have hcz33_5 : w19.cell? ⟨gb294, 5, none⟩ = some (.int .i64 ((rd_T41 l0 a1).f5.f0)) := (blk_cell BK294.out 5).trans rfl
                   have hcz33_6 : w19.cell? ⟨gb294, 6, none⟩ = some (.int .i64 ((rd_T41 l0 a1).f5.f1)) := (blk_cell BK294.out 6).trans rfl
                   have hcz33_7 : w19.cell? ⟨gb294, 7, none⟩ = some (.int .i64 ((rd_T41 l0 a1).f6.f0)) := (blk_cell BK294.out 7).trans rfl
                   have hcz33_8 : w19.cell? ⟨gb294, 8, none⟩ = some (.int .i64 ((rd_T41 l0 a1).f6.f1)) := (blk_cell BK294.out 8).trans rfl
                   have hfz33_0 := blk_frozen BK294.out 0
                   have hfz33_1 := blk_frozen BK294.out 1
                   have hfz33_2 := blk_frozen BK294.out 2
                   have hfz33_3 := blk_frozen BK294.out 3
                   have hfz33_4 := blk_frozen BK294.out 4
                   have hfz33_5 := blk_frozen BK294.out 5
                   have hfz33_6 := blk_frozen BK294.out 6
                   have hfz33_7 := blk_frozen BK294.out 7
                   have hfz33_8 := blk_frozen BK294.out 8
                   go_wp2
                   go_meet
                   case rel => exact ⟨_, (decide (x9_2 > a1)), (by first | rfl | (simp; done) | (simp [*]; done)), H', ⟨by have := HJ5.out; have := HK2.out; first | omega | exact Nat.le_refl _⟩, ⟨by (with_reducible repeat (first | refine blk_drewN ?_ _ | refine blk_drew ?_ | refine blk_alloc ?_ _)); refine blk_far ?_ NB294_296.out _; (with_reducible repeat (first | refine blk_drewN ?_ _ | refine blk_drew ?_ | refine blk_alloc ?_ _)); refine blk_far ?_ NB294_296.out _; (with_reducible repeat (first | refine blk_drewN ?_ _ | refine blk_drew ?_ | refine blk_alloc ?_ _)); refine blk_far ?_ NB294_296.out _; (with_reducible repeat (first | refine blk_drewN ?_ _ | refine blk_drew ?_ | refine blk_alloc ?_ _)); refine blk_far ?_ NB294_296.out _; (with_reducible repeat (first | refine blk_drewN ?_ _ | refine blk_drew ?_ | refine blk_alloc ?_ _)); refine blk_far ?_ NB294_296.out _; (with_reducible repeat (first | refine blk_drewN ?_ _ | refine blk_drew ?_ | refine blk_alloc ?_ _)); refine blk_far ?_ NB294_296.out _; (with_reducible repeat (first | refine blk_drewN ?_ _ | refine blk_drew ?_ | refine blk_alloc ?_ _)); refine blk_far ?_ NB294_296.out _; (with_reducible repeat (first | refine blk_drewN ?_ _ | refine blk_drew ?_ | refine blk_alloc ?_ _)); refine blk_far ?_ NB294_296.out _; (with_reducible repeat (first | refine blk_drewN ?_ _ | refine blk_drew ?_ | refine blk_alloc ?_ _)); refine blk_far ?_ NB294_296.out _; (with_reducible repeat (first | refine blk_drewN ?_ _ | refine blk_drew ?_ | refine blk_alloc ?_ _)); exact BK294.out⟩, ⟨by (with_reducible repeat (first | refine blk_drewN ?_ _ | refine blk_drew ?_ | refine blk_alloc ?_ _)); refine blk_put (cs := #[.int .i64 ((rd_T41 l0 x9_2).f0), .int .i64 ((rd_T41 l0 x9_2).f1), .int .i64 ((rd_T41 l0 x9_2).f2), .int .i64 ((rd_T41 l0 x9_2).f3), .int .i64 ((rd_T41 l0 x9_2).f4), .int .i64 ((rd_T41 l0 x9_2).f5.f0), .int .i64 ((rd_T41 l0 x9_2).f5.f1), .int .i64 ((rd_T41 l0 x9_2).f6.f0), .int .i64 0]) ?_ 8 _ rfl; (with_reducible repeat (first | refine blk_drewN ?_ _ | refine blk_drew ?_ | refine blk_alloc ?_ _)); refine blk_put (cs := #[.int .i64 ((rd_T41 l0 x9_2).f0), .int .i64 ((rd_T41 l0 x9_2).f1), .int .i64 ((rd_T41 l0 x9_2).f2), .int .i64 ((rd_T41 l0 x9_2).f3), .int .i64 ((rd_T41 l0 x9_2).f4), .int .i64 ((rd_T41 l0 x9_2).f5.f0), .int .i64 ((rd_T41 l0 x9_2).f5.f1), .int .i64 0, .int .i64 0]) ?_ 7 _ rfl; (with_reducible repeat (first | refine blk_drewN ?_ _ | refine blk_drew ?_ | refine blk_alloc ?_ _)); refine blk_put (cs := #[.int .i64 ((rd_T41 l0 x9_2).f0), .int .i64 ((rd_T41 l0 x9_2).f1), .int .i64 ((rd_T41 l0 x9_2).f2), .int .i64 ((rd_T41 l0 x9_2).f3), .int .i64 ((rd_T41 l0 x9_2).f4), .int .i64 ((rd_T41 l0 x9_2).f5.f0), .int .i64 0, .int .i64 0, .int .i64 0]) ?_ 6 _ rfl; (with_reducible repeat (first | refine blk_drewN ?_ _ | refine blk_drew ?_ | refine blk_alloc ?_ _)); refine blk_put (cs := #[.int .i64 ((rd_T41 l0 x9_2).f0), .int .i64 ((rd_T41 l0 x9_2).f1), .int .i64 ((rd_T41 l0 x9_2).f2), .int .i64 ((rd_T41 l0 x9_2).f3), .int .i64 ((rd_T41 l0 x9_2).f4), .int .i64 0, .int .i64 0, .int .i64 0, .int .i64 0]) ?_ 5 _ rfl; (with_reducible repeat (first | refine blk_drewN ?_ _ | refine blk_drew ?_ | refine blk_alloc ?_ _)); refine blk_put (cs := #[.int .i64 ((rd_T41 l0 x9_2).f0), .int .i64 ((rd_T41 l0 x9_2).f1), .int .i64 ((rd_T41 l0 x9_2).f2), .int .i64 ((rd_T41 l0 x9_2).f3), .int .i64 0, .int .i64 0, .int .i64 0, .int .i64 0, .int .i64 0]) ?_ 4 _ rfl; (with_reducible repeat (first | refine blk_drewN ?_ _ | refine blk_drew ?_ | refine blk_alloc ?_ _)); refine blk_put (cs := #[.int .i64 ((rd_T41 l0 x9_2).f0), .int .i64 ((rd_T41 l0 x9_2).f1), .int .i64 ((rd_T41 l0 x9_2).f2), .int .i64 0, .int .i64 0, .int .i64 0, .int .i64 0, .int .i64 0, .int .i64 0]) ?_ 3 _ rfl; (with_reducible repeat (first | refine blk_drewN ?_ _ | refine blk_drew ?_ | refine blk_alloc ?_ _)); refine blk_put (cs := #[.int .i64 ((rd_T41 l0 x9_2).f0), .int .i64 ((rd_T41 l0 x9_2).f1), .int .i64 0, .int .i64 0, .int .i64 0, .int .i64 0, .int .i64 0, .int .i64 0, .int .i64 0]) ?_ 2 _ rfl; (with_reducible repeat (first | refine blk_drewN ?_ _ | refine blk_drew ?_ | refine blk_alloc ?_ _)); refine blk_put (cs := #[.int .i64 ((rd_T41 l0 x9_2).f0), .int .i64 0, .int .i64 0, .int .i64 0, .int .i64 0, .int .i64 0, .int .i64 0, .int .i64 0, .int .i64 0]) ?_ 1 _ rfl; (with_reducible repeat (first | refine blk_drewN ?_ _ | refine blk_drew ?_ | refine blk_alloc ?_ _)); refine blk_put (cs := #[.int .i64 0, .int .i64 0, .int .i64 0, .int .i64 0, .int .i64 0, .int .i64 0, .int .i64 0, .int .i64 0, .int .i64 0]) ?_ 0 _ rfl; (with_reducible repeat (first | refine blk_drewN ?_ _ | refine blk_drew ?_ | refine blk_alloc ?_ _)); exact BK296.out⟩, ⟨by repeat (first | (with_reducible first | exact HB.out | apply below_alloc | apply pw_below_drewN | apply below_drew1 | refine below_set ?_ GE294.out | refine below_set ?_ GE296.out) | exact HB.out)⟩⟩
                  ·rw [if_neg c30] at H
                   have c30b0 : (((rd_T41 l0 x9_2).f4) == ((rd_T41 l0 a1).f4)) = false := beq_eq_false_iff_ne.mpr c30
                   have c30b1 : (((rd_T41 l0 x9_2).f4) != ((rd_T41 l0 a1).f4)) = true := bne_iff_ne.mpr c30
                   have H' := Aside0.mk H
                   clear H
                   have hnb34 := NB296_294.out
                   have hnc34 := NB294_296.out
                   have hcz35_0 : w19.cell? ⟨gb296, 0, none⟩ = some (.int .i64 0) := (blk_cell BK296.out 0).trans rfl
                   have hcz35_1 : w19.cell? ⟨gb296, 1, none⟩ = some (.int .i64 0) := (blk_cell BK296.out 1).trans rfl
                   have hcz35_2 : w19.cell? ⟨gb296, 2, none⟩ = some (.int .i64 0) := (blk_cell BK296.out 2).trans rfl
                   have hcz35_3 : w19.cell? ⟨gb296, 3, none⟩ = some (.int .i64 0) := (blk_cell BK296.out 3).trans rfl
                   have hcz35_4 : w19.cell? ⟨gb296, 4, none⟩ = some (.int .i64 0) := (blk_cell BK296.out 4).trans rfl
                   have hcz35_5 : w19.cell? ⟨gb296, 5, none⟩ = some (.int .i64 0) := (blk_cell BK296.out 5).trans rfl
                   have hcz35_6 : w19.cell? ⟨gb296, 6, none⟩ = some (.int .i64 0) := (blk_cell BK296.out 6).trans rfl
                   have hcz35_7 : w19.cell? ⟨gb296, 7, none⟩ = some (.int .i64 0) := (blk_cell BK296.out 7).trans rfl
                   have hcz35_8 : w19.cell? ⟨gb296, 8, none⟩ = some (.int .i64 0) := (blk_cell BK296.out 8).trans rfl
                   have hfz35_0 := blk_frozen BK296.out 0
                   have hfz35_1 := blk_frozen BK296.out 1
                   have hfz35_2 := blk_frozen BK296.out 2
                   have hfz35_3 := blk_frozen BK296.out 3
                   have hfz35_4 := blk_frozen BK296.out 4
                   have hfz35_5 := blk_frozen BK296.out 5
                   have hfz35_6 := blk_frozen BK296.out 6
                   have hfz35_7 := blk_frozen BK296.out 7
                   have hfz35_8 := blk_frozen BK296.out 8
                   have hcz36_0 : w19.cell? ⟨gb294, 0, none⟩ = some (.int .i64 ((rd_T41 l0 a1).f0)) := (blk_cell BK294.out 0).trans rfl
                   have hcz36_1 : w19.cell? ⟨gb294, 1, none⟩ = some (.int .i64 ((rd_T41 l0 a1).f1)) := (blk_cell BK294.out 1).trans rfl
                   have hcz36_2 : w19.cell? ⟨gb294, 2, none⟩ = some (.int .i64 ((rd_T41 l0 a1).f2)) := (blk_cell BK294.out 2).trans rfl
                   have hcz36_3 : w19.cell? ⟨gb294, 3, none⟩ = some (.int .i64 ((rd_T41 l0 a1).f3)) := (blk_cell BK294.out 3).trans rfl
                   have hcz36_4 : w19.cell? ⟨gb294, 4, none⟩ = some (.int .i64 ((rd_T41 l0 a1).f4)) := (blk_cell BK294.out 4).trans rfl
                   have hcz36_5 : w19.cell? ⟨gb294, 5, none⟩ = some (.int .i64 ((rd_T41 l0 a1).f5.f0)) := (blk_cell BK294.out 5).trans rfl
                   have hcz36_6 : w19.cell? ⟨gb294, 6, none⟩ = some (.int .i64 ((rd_T41 l0 a1).f5.f1)) := (blk_cell BK294.out 6).trans rfl
                   have hcz36_7 : w19.cell? ⟨gb294, 7, none⟩ = some (.int .i64 ((rd_T41 l0 a1).f6.f0)) := (blk_cell BK294.out 7).trans rfl
                   have hcz36_8 : w19.cell? ⟨gb294, 8, none⟩ = some (.int .i64 ((rd_T41 l0 a1).f6.f1)) := (blk_cell BK294.out 8).trans rfl
                   have hfz36_0 := blk_frozen BK294.out 0
                   have hfz36_1 := blk_frozen BK294.out 1
                   have hfz36_2 := blk_frozen BK294.out 2
                   have hfz36_3 := blk_frozen BK294.out 3
                   have hfz36_4 := blk_frozen BK294.out 4
                   have hfz36_5 := blk_frozen BK294.out 5
                   have hfz36_6 := blk_frozen BK294.out 6
                   have hfz36_7 := blk_frozen BK294.out 7
                   have hfz36_8 := blk_frozen BK294.out 8
                   go_wp2
                   go_meet
                   case rel => exact ⟨_, (false), (by first | rfl | (simp; done) | (simp [*]; done)), H', ⟨by have := HJ5.out; have := HK2.out; first | omega | exact Nat.le_refl _⟩, ⟨by (with_reducible repeat (first | refine blk_drewN ?_ _ | refine blk_drew ?_ | refine blk_alloc ?_ _)); refine blk_far ?_ NB294_296.out _; (with_reducible repeat (first | refine blk_drewN ?_ _ | refine blk_drew ?_ | refine blk_alloc ?_ _)); refine blk_far ?_ NB294_296.out _; (with_reducible repeat (first | refine blk_drewN ?_ _ | refine blk_drew ?_ | refine blk_alloc ?_ _)); refine blk_far ?_ NB294_296.out _; (with_reducible repeat (first | refine blk_drewN ?_ _ | refine blk_drew ?_ | refine blk_alloc ?_ _)); refine blk_far ?_ NB294_296.out _; (with_reducible repeat (first | refine blk_drewN ?_ _ | refine blk_drew ?_ | refine blk_alloc ?_ _)); refine blk_far ?_ NB294_296.out _; (with_reducible repeat (first | refine blk_drewN ?_ _ | refine blk_drew ?_ | refine blk_alloc ?_ _)); refine blk_far ?_ NB294_296.out _; (with_reducible repeat (first | refine blk_drewN ?_ _ | refine blk_drew ?_ | refine blk_alloc ?_ _)); refine blk_far ?_ NB294_296.out _; (with_reducible repeat (first | refine blk_drewN ?_ _ | refine blk_drew ?_ | refine blk_alloc ?_ _)); refine blk_far ?_ NB294_296.out _; (with_reducible repeat (first | refine blk_drewN ?_ _ | refine blk_drew ?_ | refine blk_alloc ?_ _)); refine blk_far ?_ NB294_296.out _; (with_reducible repeat (first | refine blk_drewN ?_ _ | refine blk_drew ?_ | refine blk_alloc ?_ _)); exact BK294.out⟩, ⟨by (with_reducible repeat (first | refine blk_drewN ?_ _ | refine blk_drew ?_ | refine blk_alloc ?_ _)); refine blk_put (cs := #[.int .i64 ((rd_T41 l0 x9_2).f0), .int .i64 ((rd_T41 l0 x9_2).f1), .int .i64 ((rd_T41 l0 x9_2).f2), .int .i64 ((rd_T41 l0 x9_2).f3), .int .i64 ((rd_T41 l0 x9_2).f4), .int .i64 ((rd_T41 l0 x9_2).f5.f0), .int .i64 ((rd_T41 l0 x9_2).f5.f1), .int .i64 ((rd_T41 l0 x9_2).f6.f0), .int .i64 0]) ?_ 8 _ rfl; (with_reducible repeat (first | refine blk_drewN ?_ _ | refine blk_drew ?_ | refine blk_alloc ?_ _)); refine blk_put (cs := #[.int .i64 ((rd_T41 l0 x9_2).f0), .int .i64 ((rd_T41 l0 x9_2).f1), .int .i64 ((rd_T41 l0 x9_2).f2), .int .i64 ((rd_T41 l0 x9_2).f3), .int .i64 ((rd_T41 l0 x9_2).f4), .int .i64 ((rd_T41 l0 x9_2).f5.f0), .int .i64 ((rd_T41 l0 x9_2).f5.f1), .int .i64 0, .int .i64 0]) ?_ 7 _ rfl; (with_reducible repeat (first | refine blk_drewN ?_ _ | refine blk_drew ?_ | refine blk_alloc ?_ _)); refine blk_put (cs := #[.int .i64 ((rd_T41 l0 x9_2).f0), .int .i64 ((rd_T41 l0 x9_2).f1), .int .i64 ((rd_T41 l0 x9_2).f2), .int .i64 ((rd_T41 l0 x9_2).f3), .int .i64 ((rd_T41 l0 x9_2).f4), .int .i64 ((rd_T41 l0 x9_2).f5.f0), .int .i64 0, .int .i64 0, .int .i64 0]) ?_ 6 _ rfl; (with_reducible repeat (first | refine blk_drewN ?_ _ | refine blk_drew ?_ | refine blk_alloc ?_ _)); refine blk_put (cs := #[.int .i64 ((rd_T41 l0 x9_2).f0), .int .i64 ((rd_T41 l0 x9_2).f1), .int .i64 ((rd_T41 l0 x9_2).f2), .int .i64 ((rd_T41 l0 x9_2).f3), .int .i64 ((rd_T41 l0 x9_2).f4), .int .i64 0, .int .i64 0, .int .i64 0, .int .i64 0]) ?_ 5 _ rfl; (with_reducible repeat (first | refine blk_drewN ?_ _ | refine blk_drew ?_ | refine blk_alloc ?_ _)); refine blk_put (cs := #[.int .i64 ((rd_T41 l0 x9_2).f0), .int .i64 ((rd_T41 l0 x9_2).f1), .int .i64 ((rd_T41 l0 x9_2).f2), .int .i64 ((rd_T41 l0 x9_2).f3), .int .i64 0, .int .i64 0, .int .i64 0, .int .i64 0, .int .i64 0]) ?_ 4 _ rfl; (with_reducible repeat (first | refine blk_drewN ?_ _ | refine blk_drew ?_ | refine blk_alloc ?_ _)); refine blk_put (cs := #[.int .i64 ((rd_T41 l0 x9_2).f0), .int .i64 ((rd_T41 l0 x9_2).f1), .int .i64 ((rd_T41 l0 x9_2).f2), .int .i64 0, .int .i64 0, .int .i64 0, .int .i64 0, .int .i64 0, .int .i64 0]) ?_ 3 _ rfl; (with_reducible repeat (first | refine blk_drewN ?_ _ | refine blk_drew ?_ | refine blk_alloc ?_ _)); refine blk_put (cs := #[.int .i64 ((rd_T41 l0 x9_2).f0), .int .i64 ((rd_T41 l0 x9_2).f1), .int .i64 0, .int .i64 0, .int .i64 0, .int .i64 0, .int .i64 0, .int .i64 0, .int .i64 0]) ?_ 2 _ rfl; (with_reducible repeat (first | refine blk_drewN ?_ _ | refine blk_drew ?_ | refine blk_alloc ?_ _)); refine blk_put (cs := #[.int .i64 ((rd_T41 l0 x9_2).f0), .int .i64 0, .int .i64 0, .int .i64 0, .int .i64 0, .int .i64 0, .int .i64 0, .int .i64 0, .int .i64 0]) ?_ 1 _ rfl; (with_reducible repeat (first | refine blk_drewN ?_ _ | refine blk_drew ?_ | refine blk_alloc ?_ _)); refine blk_put (cs := #[.int .i64 0, .int .i64 0, .int .i64 0, .int .i64 0, .int .i64 0, .int .i64 0, .int .i64 0, .int .i64 0, .int .i64 0]) ?_ 0 _ rfl; (with_reducible repeat (first | refine blk_drewN ?_ _ | refine blk_drew ?_ | refine blk_alloc ?_ _)); exact BK296.out⟩, ⟨by repeat (first | (with_reducible first | exact HB.out | apply below_alloc | apply pw_below_drewN | apply below_drew1 | refine below_set ?_ GE294.out | refine below_set ?_ GE296.out) | exact HB.out)⟩⟩
                ·rw [if_neg c25] at H
                 have c25b0 : decide (((rd_T41 l0 x9_2).f4) ≤ a2) = false := decide_eq_false c25
                 clear c25
                 have H' := Aside0.mk H
                 clear H
                 have hnb37 := NB296_294.out
                 have hnc37 := NB294_296.out
                 have hcz38_0 : w19.cell? ⟨gb296, 0, none⟩ = some (.int .i64 0) := (blk_cell BK296.out 0).trans rfl
                 have hcz38_1 : w19.cell? ⟨gb296, 1, none⟩ = some (.int .i64 0) := (blk_cell BK296.out 1).trans rfl
                 have hcz38_2 : w19.cell? ⟨gb296, 2, none⟩ = some (.int .i64 0) := (blk_cell BK296.out 2).trans rfl
                 have hcz38_3 : w19.cell? ⟨gb296, 3, none⟩ = some (.int .i64 0) := (blk_cell BK296.out 3).trans rfl
                 have hcz38_4 : w19.cell? ⟨gb296, 4, none⟩ = some (.int .i64 0) := (blk_cell BK296.out 4).trans rfl
                 have hcz38_5 : w19.cell? ⟨gb296, 5, none⟩ = some (.int .i64 0) := (blk_cell BK296.out 5).trans rfl
                 have hcz38_6 : w19.cell? ⟨gb296, 6, none⟩ = some (.int .i64 0) := (blk_cell BK296.out 6).trans rfl
                 have hcz38_7 : w19.cell? ⟨gb296, 7, none⟩ = some (.int .i64 0) := (blk_cell BK296.out 7).trans rfl
                 have hcz38_8 : w19.cell? ⟨gb296, 8, none⟩ = some (.int .i64 0) := (blk_cell BK296.out 8).trans rfl
                 have hfz38_0 := blk_frozen BK296.out 0
                 have hfz38_1 := blk_frozen BK296.out 1
                 have hfz38_2 := blk_frozen BK296.out 2
                 have hfz38_3 := blk_frozen BK296.out 3
                 have hfz38_4 := blk_frozen BK296.out 4
                 have hfz38_5 := blk_frozen BK296.out 5
                 have hfz38_6 := blk_frozen BK296.out 6
                 have hfz38_7 := blk_frozen BK296.out 7
                 have hfz38_8 := blk_frozen BK296.out 8
                 have hcz39_0 : w19.cell? ⟨gb294, 0, none⟩ = some (.int .i64 ((rd_T41 l0 a1).f0)) := (blk_cell BK294.out 0).trans rfl
                 have hcz39_1 : w19.cell? ⟨gb294, 1, none⟩ = some (.int .i64 ((rd_T41 l0 a1).f1)) := (blk_cell BK294.out 1).trans rfl
                 have hcz39_2 : w19.cell? ⟨gb294, 2, none⟩ = some (.int .i64 ((rd_T41 l0 a1).f2)) := (blk_cell BK294.out 2).trans rfl
                 have hcz39_3 : w19.cell? ⟨gb294, 3, none⟩ = some (.int .i64 ((rd_T41 l0 a1).f3)) := (blk_cell BK294.out 3).trans rfl
                 have hcz39_4 : w19.cell? ⟨gb294, 4, none⟩ = some (.int .i64 ((rd_T41 l0 a1).f4)) := (blk_cell BK294.out 4).trans rfl
                 have hcz39_5 : w19.cell? ⟨gb294, 5, none⟩ = some (.int .i64 ((rd_T41 l0 a1).f5.f0)) := (blk_cell BK294.out 5).trans rfl
                 have hcz39_6 : w19.cell? ⟨gb294, 6, none⟩ = some (.int .i64 ((rd_T41 l0 a1).f5.f1)) := (blk_cell BK294.out 6).trans rfl
                 have hcz39_7 : w19.cell? ⟨gb294, 7, none⟩ = some (.int .i64 ((rd_T41 l0 a1).f6.f0)) := (blk_cell BK294.out 7).trans rfl
                 have hcz39_8 : w19.cell? ⟨gb294, 8, none⟩ = some (.int .i64 ((rd_T41 l0 a1).f6.f1)) := (blk_cell BK294.out 8).trans rfl
                 have hfz39_0 := blk_frozen BK294.out 0
                 have hfz39_1 := blk_frozen BK294.out 1
                 have hfz39_2 := blk_frozen BK294.out 2
                 have hfz39_3 := blk_frozen BK294.out 3
                 have hfz39_4 := blk_frozen BK294.out 4
                 have hfz39_5 := blk_frozen BK294.out 5
                 have hfz39_6 := blk_frozen BK294.out 6
                 have hfz39_7 := blk_frozen BK294.out 7
                 have hfz39_8 := blk_frozen BK294.out 8
                 go_wp2
                 go_meet
                 case rel => exact ⟨_, (false), (by first | rfl | (simp; done) | (simp [*]; done)), H', ⟨by have := HJ5.out; have := HK2.out; first | omega | exact Nat.le_refl _⟩, ⟨by (with_reducible repeat (first | refine blk_drewN ?_ _ | refine blk_drew ?_ | refine blk_alloc ?_ _)); refine blk_far ?_ NB294_296.out _; (with_reducible repeat (first | refine blk_drewN ?_ _ | refine blk_drew ?_ | refine blk_alloc ?_ _)); refine blk_far ?_ NB294_296.out _; (with_reducible repeat (first | refine blk_drewN ?_ _ | refine blk_drew ?_ | refine blk_alloc ?_ _)); refine blk_far ?_ NB294_296.out _; (with_reducible repeat (first | refine blk_drewN ?_ _ | refine blk_drew ?_ | refine blk_alloc ?_ _)); refine blk_far ?_ NB294_296.out _; (with_reducible repeat (first | refine blk_drewN ?_ _ | refine blk_drew ?_ | refine blk_alloc ?_ _)); refine blk_far ?_ NB294_296.out _; (with_reducible repeat (first | refine blk_drewN ?_ _ | refine blk_drew ?_ | refine blk_alloc ?_ _)); refine blk_far ?_ NB294_296.out _; (with_reducible repeat (first | refine blk_drewN ?_ _ | refine blk_drew ?_ | refine blk_alloc ?_ _)); refine blk_far ?_ NB294_296.out _; (with_reducible repeat (first | refine blk_drewN ?_ _ | refine blk_drew ?_ | refine blk_alloc ?_ _)); refine blk_far ?_ NB294_296.out _; (with_reducible repeat (first | refine blk_drewN ?_ _ | refine blk_drew ?_ | refine blk_alloc ?_ _)); refine blk_far ?_ NB294_296.out _; (with_reducible repeat (first | refine blk_drewN ?_ _ | refine blk_drew ?_ | refine blk_alloc ?_ _)); exact BK294.out⟩, ⟨by (with_reducible repeat (first | refine blk_drewN ?_ _ | refine blk_drew ?_ | refine blk_alloc ?_ _)); refine blk_put (cs := #[.int .i64 ((rd_T41 l0 x9_2).f0), .int .i64 ((rd_T41 l0 x9_2).f1), .int .i64 ((rd_T41 l0 x9_2).f2), .int .i64 ((rd_T41 l0 x9_2).f3), .int .i64 ((rd_T41 l0 x9_2).f4), .int .i64 ((rd_T41 l0 x9_2).f5.f0), .int .i64 ((rd_T41 l0 x9_2).f5.f1), .int .i64 ((rd_T41 l0 x9_2).f6.f0), .int .i64 0]) ?_ 8 _ rfl; (with_reducible repeat (first | refine blk_drewN ?_ _ | refine blk_drew ?_ | refine blk_alloc ?_ _)); refine blk_put (cs := #[.int .i64 ((rd_T41 l0 x9_2).f0), .int .i64 ((rd_T41 l0 x9_2).f1), .int .i64 ((rd_T41 l0 x9_2).f2), .int .i64 ((rd_T41 l0 x9_2).f3), .int .i64 ((rd_T41 l0 x9_2).f4), .int .i64 ((rd_T41 l0 x9_2).f5.f0), .int .i64 ((rd_T41 l0 x9_2).f5.f1), .int .i64 0, .int .i64 0]) ?_ 7 _ rfl; (with_reducible repeat (first | refine blk_drewN ?_ _ | refine blk_drew ?_ | refine blk_alloc ?_ _)); refine blk_put (cs := #[.int .i64 ((rd_T41 l0 x9_2).f0), .int .i64 ((rd_T41 l0 x9_2).f1), .int .i64 ((rd_T41 l0 x9_2).f2), .int .i64 ((rd_T41 l0 x9_2).f3), .int .i64 ((rd_T41 l0 x9_2).f4), .int .i64 ((rd_T41 l0 x9_2).f5.f0), .int .i64 0, .int .i64 0, .int .i64 0]) ?_ 6 _ rfl; (with_reducible repeat (first | refine blk_drewN ?_ _ | refine blk_drew ?_ | refine blk_alloc ?_ _)); refine blk_put (cs := #[.int .i64 ((rd_T41 l0 x9_2).f0), .int .i64 ((rd_T41 l0 x9_2).f1), .int .i64 ((rd_T41 l0 x9_2).f2), .int .i64 ((rd_T41 l0 x9_2).f3), .int .i64 ((rd_T41 l0 x9_2).f4), .int .i64 0, .int .i64 0, .int .i64 0, .int .i64 0]) ?_ 5 _ rfl; (with_reducible repeat (first | refine blk_drewN ?_ _ | refine blk_drew ?_ | refine blk_alloc ?_ _)); refine blk_put (cs := #[.int .i64 ((rd_T41 l0 x9_2).f0), .int .i64 ((rd_T41 l0 x9_2).f1), .int .i64 ((rd_T41 l0 x9_2).f2), .int .i64 ((rd_T41 l0 x9_2).f3), .int .i64 0, .int .i64 0, .int .i64 0, .int .i64 0, .int .i64 0]) ?_ 4 _ rfl; (with_reducible repeat (first | refine blk_drewN ?_ _ | refine blk_drew ?_ | refine blk_alloc ?_ _)); refine blk_put (cs := #[.int .i64 ((rd_T41 l0 x9_2).f0), .int .i64 ((rd_T41 l0 x9_2).f1), .int .i64 ((rd_T41 l0 x9_2).f2), .int .i64 0, .int .i64 0, .int .i64 0, .int .i64 0, .int .i64 0, .int .i64 0]) ?_ 3 _ rfl; (with_reducible repeat (first | refine blk_drewN ?_ _ | refine blk_drew ?_ | refine blk_alloc ?_ _)); refine blk_put (cs := #[.int .i64 ((rd_T41 l0 x9_2).f0), .int .i64 ((rd_T41 l0 x9_2).f1), .int .i64 0, .int .i64 0, .int .i64 0, .int .i64 0, .int .i64 0, .int .i64 0, .int .i64 0]) ?_ 2 _ rfl; (with_reducible repeat (first | refine blk_drewN ?_ _ | refine blk_drew ?_ | refine blk_alloc ?_ _)); refine blk_put (cs := #[.int .i64 ((rd_T41 l0 x9_2).f0), .int .i64 0, .int .i64 0, .int .i64 0, .int .i64 0, .int .i64 0, .int .i64 0, .int .i64 0, .int .i64 0]) ?_ 1 _ rfl; (with_reducible repeat (first | refine blk_drewN ?_ _ | refine blk_drew ?_ | refine blk_alloc ?_ _)); refine blk_put (cs := #[.int .i64 0, .int .i64 0, .int .i64 0, .int .i64 0, .int .i64 0, .int .i64 0, .int .i64 0, .int .i64 0, .int .i64 0]) ?_ 0 _ rfl; (with_reducible repeat (first | refine blk_drewN ?_ _ | refine blk_drew ?_ | refine blk_alloc ?_ _)); exact BK296.out⟩, ⟨by repeat (first | (with_reducible first | exact HB.out | apply below_alloc | apply pw_below_drewN | apply below_drew1 | refine below_set ?_ GE294.out | refine below_set ?_ GE296.out) | exact HB.out)⟩⟩
               ·rw [if_neg c24] at H
                have c24b0 : (((rd_T41 l0 x9_2).f3) == ((rd_T41 l0 a1).f3)) = false := beq_eq_false_iff_ne.mpr c24
                have c24b1 : (((rd_T41 l0 x9_2).f3) != ((rd_T41 l0 a1).f3)) = true := bne_iff_ne.mpr c24
                have H' := Aside0.mk H
                clear H
                have hnb40 := NB296_294.out
                have hnc40 := NB294_296.out
                have hcz41_0 : w19.cell? ⟨gb296, 0, none⟩ = some (.int .i64 0) := (blk_cell BK296.out 0).trans rfl
                have hcz41_1 : w19.cell? ⟨gb296, 1, none⟩ = some (.int .i64 0) := (blk_cell BK296.out 1).trans rfl
                have hcz41_2 : w19.cell? ⟨gb296, 2, none⟩ = some (.int .i64 0) := (blk_cell BK296.out 2).trans rfl
                have hcz41_3 : w19.cell? ⟨gb296, 3, none⟩ = some (.int .i64 0) := (blk_cell BK296.out 3).trans rfl
                have hcz41_4 : w19.cell? ⟨gb296, 4, none⟩ = some (.int .i64 0) := (blk_cell BK296.out 4).trans rfl
                have hcz41_5 : w19.cell? ⟨gb296, 5, none⟩ = some (.int .i64 0) := (blk_cell BK296.out 5).trans rfl
                have hcz41_6 : w19.cell? ⟨gb296, 6, none⟩ = some (.int .i64 0) := (blk_cell BK296.out 6).trans rfl
                have hcz41_7 : w19.cell? ⟨gb296, 7, none⟩ = some (.int .i64 0) := (blk_cell BK296.out 7).trans rfl
                have hcz41_8 : w19.cell? ⟨gb296, 8, none⟩ = some (.int .i64 0) := (blk_cell BK296.out 8).trans rfl
                have hfz41_0 := blk_frozen BK296.out 0
                have hfz41_1 := blk_frozen BK296.out 1
                have hfz41_2 := blk_frozen BK296.out 2
                have hfz41_3 := blk_frozen BK296.out 3
                have hfz41_4 := blk_frozen BK296.out 4
                have hfz41_5 := blk_frozen BK296.out 5
                have hfz41_6 := blk_frozen BK296.out 6
                have hfz41_7 := blk_frozen BK296.out 7
                have hfz41_8 := blk_frozen BK296.out 8
                have hcz42_0 : w19.cell? ⟨gb294, 0, none⟩ = some (.int .i64 ((rd_T41 l0 a1).f0)) := (blk_cell BK294.out 0).trans rfl
                have hcz42_1 : w19.cell? ⟨gb294, 1, none⟩ = some (.int .i64 ((rd_T41 l0 a1).f1)) := (blk_cell BK294.out 1).trans rfl
                have hcz42_2 : w19.cell? ⟨gb294, 2, none⟩ = some (.int .i64 ((rd_T41 l0 a1).f2)) := (blk_cell BK294.out 2).trans rfl
                have hcz42_3 : w19.cell? ⟨gb294, 3, none⟩ = some (.int .i64 ((rd_T41 l0 a1).f3)) := (blk_cell BK294.out 3).trans rfl
                have hcz42_4 : w19.cell? ⟨gb294, 4, none⟩ = some (.int .i64 ((rd_T41 l0 a1).f4)) := (blk_cell BK294.out 4).trans rfl
                have hcz42_5 : w19.cell? ⟨gb294, 5, none⟩ = some (.int .i64 ((rd_T41 l0 a1).f5.f0)) := (blk_cell BK294.out 5).trans rfl
                have hcz42_6 : w19.cell? ⟨gb294, 6, none⟩ = some (.int .i64 ((rd_T41 l0 a1).f5.f1)) := (blk_cell BK294.out 6).trans rfl
                have hcz42_7 : w19.cell? ⟨gb294, 7, none⟩ = some (.int .i64 ((rd_T41 l0 a1).f6.f0)) := (blk_cell BK294.out 7).trans rfl
                have hcz42_8 : w19.cell? ⟨gb294, 8, none⟩ = some (.int .i64 ((rd_T41 l0 a1).f6.f1)) := (blk_cell BK294.out 8).trans rfl
                have hfz42_0 := blk_frozen BK294.out 0
                have hfz42_1 := blk_frozen BK294.out 1
                have hfz42_2 := blk_frozen BK294.out 2
                have hfz42_3 := blk_frozen BK294.out 3
                have hfz42_4 := blk_frozen BK294.out 4
                have hfz42_5 := blk_frozen BK294.out 5
                have hfz42_6 := blk_frozen BK294.out 6
                have hfz42_7 := blk_frozen BK294.out 7
                have hfz42_8 := blk_frozen BK294.out 8
                go_wp2
                go_meet
                case rel => exact ⟨_, (false), (by first | rfl | (simp; done) | (simp [*]; done)), H', ⟨by have := HJ5.out; have := HK2.out; first | omega | exact Nat.le_refl _⟩, ⟨by (with_reducible repeat (first | refine blk_drewN ?_ _ | refine blk_drew ?_ | refine blk_alloc ?_ _)); refine blk_far ?_ NB294_296.out _; (with_reducible repeat (first | refine blk_drewN ?_ _ | refine blk_drew ?_ | refine blk_alloc ?_ _)); refine blk_far ?_ NB294_296.out _; (with_reducible repeat (first | refine blk_drewN ?_ _ | refine blk_drew ?_ | refine blk_alloc ?_ _)); refine blk_far ?_ NB294_296.out _; (with_reducible repeat (first | refine blk_drewN ?_ _ | refine blk_drew ?_ | refine blk_alloc ?_ _)); refine blk_far ?_ NB294_296.out _; (with_reducible repeat (first | refine blk_drewN ?_ _ | refine blk_drew ?_ | refine blk_alloc ?_ _)); refine blk_far ?_ NB294_296.out _; (with_reducible repeat (first | refine blk_drewN ?_ _ | refine blk_drew ?_ | refine blk_alloc ?_ _)); refine blk_far ?_ NB294_296.out _; (with_reducible repeat (first | refine blk_drewN ?_ _ | refine blk_drew ?_ | refine blk_alloc ?_ _)); refine blk_far ?_ NB294_296.out _; (with_reducible repeat (first | refine blk_drewN ?_ _ | refine blk_drew ?_ | refine blk_alloc ?_ _)); refine blk_far ?_ NB294_296.out _; (with_reducible repeat (first | refine blk_drewN ?_ _ | refine blk_drew ?_ | refine blk_alloc ?_ _)); refine blk_far ?_ NB294_296.out _; (with_reducible repeat (first | refine blk_drewN ?_ _ | refine blk_drew ?_ | refine blk_alloc ?_ _)); exact BK294.out⟩, ⟨by (with_reducible repeat (first | refine blk_drewN ?_ _ | refine blk_drew ?_ | refine blk_alloc ?_ _)); refine blk_put (cs := #[.int .i64 ((rd_T41 l0 x9_2).f0), .int .i64 ((rd_T41 l0 x9_2).f1), .int .i64 ((rd_T41 l0 x9_2).f2), .int .i64 ((rd_T41 l0 x9_2).f3), .int .i64 ((rd_T41 l0 x9_2).f4), .int .i64 ((rd_T41 l0 x9_2).f5.f0), .int .i64 ((rd_T41 l0 x9_2).f5.f1), .int .i64 ((rd_T41 l0 x9_2).f6.f0), .int .i64 0]) ?_ 8 _ rfl; (with_reducible repeat (first | refine blk_drewN ?_ _ | refine blk_drew ?_ | refine blk_alloc ?_ _)); refine blk_put (cs := #[.int .i64 ((rd_T41 l0 x9_2).f0), .int .i64 ((rd_T41 l0 x9_2).f1), .int .i64 ((rd_T41 l0 x9_2).f2), .int .i64 ((rd_T41 l0 x9_2).f3), .int .i64 ((rd_T41 l0 x9_2).f4), .int .i64 ((rd_T41 l0 x9_2).f5.f0), .int .i64 ((rd_T41 l0 x9_2).f5.f1), .int .i64 0, .int .i64 0]) ?_ 7 _ rfl; (with_reducible repeat (first | refine blk_drewN ?_ _ | refine blk_drew ?_ | refine blk_alloc ?_ _)); refine blk_put (cs := #[.int .i64 ((rd_T41 l0 x9_2).f0), .int .i64 ((rd_T41 l0 x9_2).f1), .int .i64 ((rd_T41 l0 x9_2).f2), .int .i64 ((rd_T41 l0 x9_2).f3), .int .i64 ((rd_T41 l0 x9_2).f4), .int .i64 ((rd_T41 l0 x9_2).f5.f0), .int .i64 0, .int .i64 0, .int .i64 0]) ?_ 6 _ rfl; (with_reducible repeat (first | refine blk_drewN ?_ _ | refine blk_drew ?_ | refine blk_alloc ?_ _)); refine blk_put (cs := #[.int .i64 ((rd_T41 l0 x9_2).f0), .int .i64 ((rd_T41 l0 x9_2).f1), .int .i64 ((rd_T41 l0 x9_2).f2), .int .i64 ((rd_T41 l0 x9_2).f3), .int .i64 ((rd_T41 l0 x9_2).f4), .int .i64 0, .int .i64 0, .int .i64 0, .int .i64 0]) ?_ 5 _ rfl; (with_reducible repeat (first | refine blk_drewN ?_ _ | refine blk_drew ?_ | refine blk_alloc ?_ _)); refine blk_put (cs := #[.int .i64 ((rd_T41 l0 x9_2).f0), .int .i64 ((rd_T41 l0 x9_2).f1), .int .i64 ((rd_T41 l0 x9_2).f2), .int .i64 ((rd_T41 l0 x9_2).f3), .int .i64 0, .int .i64 0, .int .i64 0, .int .i64 0, .int .i64 0]) ?_ 4 _ rfl; (with_reducible repeat (first | refine blk_drewN ?_ _ | refine blk_drew ?_ | refine blk_alloc ?_ _)); refine blk_put (cs := #[.int .i64 ((rd_T41 l0 x9_2).f0), .int .i64 ((rd_T41 l0 x9_2).f1), .int .i64 ((rd_T41 l0 x9_2).f2), .int .i64 0, .int .i64 0, .int .i64 0, .int .i64 0, .int .i64 0, .int .i64 0]) ?_ 3 _ rfl; (with_reducible repeat (first | refine blk_drewN ?_ _ | refine blk_drew ?_ | refine blk_alloc ?_ _)); refine blk_put (cs := #[.int .i64 ((rd_T41 l0 x9_2).f0), .int .i64 ((rd_T41 l0 x9_2).f1), .int .i64 0, .int .i64 0, .int .i64 0, .int .i64 0, .int .i64 0, .int .i64 0, .int .i64 0]) ?_ 2 _ rfl; (with_reducible repeat (first | refine blk_drewN ?_ _ | refine blk_drew ?_ | refine blk_alloc ?_ _)); refine blk_put (cs := #[.int .i64 ((rd_T41 l0 x9_2).f0), .int .i64 0, .int .i64 0, .int .i64 0, .int .i64 0, .int .i64 0, .int .i64 0, .int .i64 0, .int .i64 0]) ?_ 1 _ rfl; (with_reducible repeat (first | refine blk_drewN ?_ _ | refine blk_drew ?_ | refine blk_alloc ?_ _)); refine blk_put (cs := #[.int .i64 0, .int .i64 0, .int .i64 0, .int .i64 0, .int .i64 0, .int .i64 0, .int .i64 0, .int .i64 0, .int .i64 0]) ?_ 0 _ rfl; (with_reducible repeat (first | refine blk_drewN ?_ _ | refine blk_drew ?_ | refine blk_alloc ?_ _)); exact BK296.out⟩, ⟨by repeat (first | (with_reducible first | exact HB.out | apply below_alloc | apply pw_below_drewN | apply below_drew1 | refine below_set ?_ GE294.out | refine below_set ?_ GE296.out) | exact HB.out)⟩⟩
              ·rw [if_neg c23] at H
               have c23b0 : (((rd_T41 l0 x9_2).f2) == ((rd_T41 l0 a1).f2)) = false := beq_eq_false_iff_ne.mpr c23
               have c23b1 : (((rd_T41 l0 x9_2).f2) != ((rd_T41 l0 a1).f2)) = true := bne_iff_ne.mpr c23
               have H' := Aside0.mk H
               clear H
               have hnb43 := NB296_294.out
               have hnc43 := NB294_296.out
               have hcz44_0 : w19.cell? ⟨gb296, 0, none⟩ = some (.int .i64 0) := (blk_cell BK296.out 0).trans rfl
               have hcz44_1 : w19.cell? ⟨gb296, 1, none⟩ = some (.int .i64 0) := (blk_cell BK296.out 1).trans rfl
               have hcz44_2 : w19.cell? ⟨gb296, 2, none⟩ = some (.int .i64 0) := (blk_cell BK296.out 2).trans rfl
               have hcz44_3 : w19.cell? ⟨gb296, 3, none⟩ = some (.int .i64 0) := (blk_cell BK296.out 3).trans rfl
               have hcz44_4 : w19.cell? ⟨gb296, 4, none⟩ = some (.int .i64 0) := (blk_cell BK296.out 4).trans rfl
               have hcz44_5 : w19.cell? ⟨gb296, 5, none⟩ = some (.int .i64 0) := (blk_cell BK296.out 5).trans rfl
               have hcz44_6 : w19.cell? ⟨gb296, 6, none⟩ = some (.int .i64 0) := (blk_cell BK296.out 6).trans rfl
               have hcz44_7 : w19.cell? ⟨gb296, 7, none⟩ = some (.int .i64 0) := (blk_cell BK296.out 7).trans rfl
               have hcz44_8 : w19.cell? ⟨gb296, 8, none⟩ = some (.int .i64 0) := (blk_cell BK296.out 8).trans rfl
               have hfz44_0 := blk_frozen BK296.out 0
               have hfz44_1 := blk_frozen BK296.out 1
               have hfz44_2 := blk_frozen BK296.out 2
               have hfz44_3 := blk_frozen BK296.out 3
               have hfz44_4 := blk_frozen BK296.out 4
               have hfz44_5 := blk_frozen BK296.out 5
               have hfz44_6 := blk_frozen BK296.out 6
               have hfz44_7 := blk_frozen BK296.out 7
               have hfz44_8 := blk_frozen BK296.out 8
               have hcz45_0 : w19.cell? ⟨gb294, 0, none⟩ = some (.int .i64 ((rd_T41 l0 a1).f0)) := (blk_cell BK294.out 0).trans rfl
               have hcz45_1 : w19.cell? ⟨gb294, 1, none⟩ = some (.int .i64 ((rd_T41 l0 a1).f1)) := (blk_cell BK294.out 1).trans rfl
               have hcz45_2 : w19.cell? ⟨gb294, 2, none⟩ = some (.int .i64 ((rd_T41 l0 a1).f2)) := (blk_cell BK294.out 2).trans rfl
               have hcz45_3 : w19.cell? ⟨gb294, 3, none⟩ = some (.int .i64 ((rd_T41 l0 a1).f3)) := (blk_cell BK294.out 3).trans rfl
               have hcz45_4 : w19.cell? ⟨gb294, 4, none⟩ = some (.int .i64 ((rd_T41 l0 a1).f4)) := (blk_cell BK294.out 4).trans rfl
               have hcz45_5 : w19.cell? ⟨gb294, 5, none⟩ = some (.int .i64 ((rd_T41 l0 a1).f5.f0)) := (blk_cell BK294.out 5).trans rfl
               have hcz45_6 : w19.cell? ⟨gb294, 6, none⟩ = some (.int .i64 ((rd_T41 l0 a1).f5.f1)) := (blk_cell BK294.out 6).trans rfl
               have hcz45_7 : w19.cell? ⟨gb294, 7, none⟩ = some (.int .i64 ((rd_T41 l0 a1).f6.f0)) := (blk_cell BK294.out 7).trans rfl
               have hcz45_8 : w19.cell? ⟨gb294, 8, none⟩ = some (.int .i64 ((rd_T41 l0 a1).f6.f1)) := (blk_cell BK294.out 8).trans rfl
               have hfz45_0 := blk_frozen BK294.out 0
               have hfz45_1 := blk_frozen BK294.out 1
               have hfz45_2 := blk_frozen BK294.out 2
               have hfz45_3 := blk_frozen BK294.out 3
               have hfz45_4 := blk_frozen BK294.out 4
               have hfz45_5 := blk_frozen BK294.out 5
               have hfz45_6 := blk_frozen BK294.out 6
               have hfz45_7 := blk_frozen BK294.out 7
               have hfz45_8 := blk_frozen BK294.out 8
               go_wp2
               go_meet
               case rel => exact ⟨_, (false), (by first | rfl | (simp; done) | (simp [*]; done)), H', ⟨by have := HJ5.out; have := HK2.out; first | omega | exact Nat.le_refl _⟩, ⟨by (with_reducible repeat (first | refine blk_drewN ?_ _ | refine blk_drew ?_ | refine blk_alloc ?_ _)); refine blk_far ?_ NB294_296.out _; (with_reducible repeat (first | refine blk_drewN ?_ _ | refine blk_drew ?_ | refine blk_alloc ?_ _)); refine blk_far ?_ NB294_296.out _; (with_reducible repeat (first | refine blk_drewN ?_ _ | refine blk_drew ?_ | refine blk_alloc ?_ _)); refine blk_far ?_ NB294_296.out _; (with_reducible repeat (first | refine blk_drewN ?_ _ | refine blk_drew ?_ | refine blk_alloc ?_ _)); refine blk_far ?_ NB294_296.out _; (with_reducible repeat (first | refine blk_drewN ?_ _ | refine blk_drew ?_ | refine blk_alloc ?_ _)); refine blk_far ?_ NB294_296.out _; (with_reducible repeat (first | refine blk_drewN ?_ _ | refine blk_drew ?_ | refine blk_alloc ?_ _)); refine blk_far ?_ NB294_296.out _; (with_reducible repeat (first | refine blk_drewN ?_ _ | refine blk_drew ?_ | refine blk_alloc ?_ _)); refine blk_far ?_ NB294_296.out _; (with_reducible repeat (first | refine blk_drewN ?_ _ | refine blk_drew ?_ | refine blk_alloc ?_ _)); refine blk_far ?_ NB294_296.out _; (with_reducible repeat (first | refine blk_drewN ?_ _ | refine blk_drew ?_ | refine blk_alloc ?_ _)); refine blk_far ?_ NB294_296.out _; (with_reducible repeat (first | refine blk_drewN ?_ _ | refine blk_drew ?_ | refine blk_alloc ?_ _)); exact BK294.out⟩, ⟨by (with_reducible repeat (first | refine blk_drewN ?_ _ | refine blk_drew ?_ | refine blk_alloc ?_ _)); refine blk_put (cs := #[.int .i64 ((rd_T41 l0 x9_2).f0), .int .i64 ((rd_T41 l0 x9_2).f1), .int .i64 ((rd_T41 l0 x9_2).f2), .int .i64 ((rd_T41 l0 x9_2).f3), .int .i64 ((rd_T41 l0 x9_2).f4), .int .i64 ((rd_T41 l0 x9_2).f5.f0), .int .i64 ((rd_T41 l0 x9_2).f5.f1), .int .i64 ((rd_T41 l0 x9_2).f6.f0), .int .i64 0]) ?_ 8 _ rfl; (with_reducible repeat (first | refine blk_drewN ?_ _ | refine blk_drew ?_ | refine blk_alloc ?_ _)); refine blk_put (cs := #[.int .i64 ((rd_T41 l0 x9_2).f0), .int .i64 ((rd_T41 l0 x9_2).f1), .int .i64 ((rd_T41 l0 x9_2).f2), .int .i64 ((rd_T41 l0 x9_2).f3), .int .i64 ((rd_T41 l0 x9_2).f4), .int .i64 ((rd_T41 l0 x9_2).f5.f0), .int .i64 ((rd_T41 l0 x9_2).f5.f1), .int .i64 0, .int .i64 0]) ?_ 7 _ rfl; (with_reducible repeat (first | refine blk_drewN ?_ _ | refine blk_drew ?_ | refine blk_alloc ?_ _)); refine blk_put (cs := #[.int .i64 ((rd_T41 l0 x9_2).f0), .int .i64 ((rd_T41 l0 x9_2).f1), .int .i64 ((rd_T41 l0 x9_2).f2), .int .i64 ((rd_T41 l0 x9_2).f3), .int .i64 ((rd_T41 l0 x9_2).f4), .int .i64 ((rd_T41 l0 x9_2).f5.f0), .int .i64 0, .int .i64 0, .int .i64 0]) ?_ 6 _ rfl; (with_reducible repeat (first | refine blk_drewN ?_ _ | refine blk_drew ?_ | refine blk_alloc ?_ _)); refine blk_put (cs := #[.int .i64 ((rd_T41 l0 x9_2).f0), .int .i64 ((rd_T41 l0 x9_2).f1), .int .i64 ((rd_T41 l0 x9_2).f2), .int .i64 ((rd_T41 l0 x9_2).f3), .int .i64 ((rd_T41 l0 x9_2).f4), .int .i64 0, .int .i64 0, .int .i64 0, .int .i64 0]) ?_ 5 _ rfl; (with_reducible repeat (first | refine blk_drewN ?_ _ | refine blk_drew ?_ | refine blk_alloc ?_ _)); refine blk_put (cs := #[.int .i64 ((rd_T41 l0 x9_2).f0), .int .i64 ((rd_T41 l0 x9_2).f1), .int .i64 ((rd_T41 l0 x9_2).f2), .int .i64 ((rd_T41 l0 x9_2).f3), .int .i64 0, .int .i64 0, .int .i64 0, .int .i64 0, .int .i64 0]) ?_ 4 _ rfl; (with_reducible repeat (first | refine blk_drewN ?_ _ | refine blk_drew ?_ | refine blk_alloc ?_ _)); refine blk_put (cs := #[.int .i64 ((rd_T41 l0 x9_2).f0), .int .i64 ((rd_T41 l0 x9_2).f1), .int .i64 ((rd_T41 l0 x9_2).f2), .int .i64 0, .int .i64 0, .int .i64 0, .int .i64 0, .int .i64 0, .int .i64 0]) ?_ 3 _ rfl; (with_reducible repeat (first | refine blk_drewN ?_ _ | refine blk_drew ?_ | refine blk_alloc ?_ _)); refine blk_put (cs := #[.int .i64 ((rd_T41 l0 x9_2).f0), .int .i64 ((rd_T41 l0 x9_2).f1), .int .i64 0, .int .i64 0, .int .i64 0, .int .i64 0, .int .i64 0, .int .i64 0, .int .i64 0]) ?_ 2 _ rfl; (with_reducible repeat (first | refine blk_drewN ?_ _ | refine blk_drew ?_ | refine blk_alloc ?_ _)); refine blk_put (cs := #[.int .i64 ((rd_T41 l0 x9_2).f0), .int .i64 0, .int .i64 0, .int .i64 0, .int .i64 0, .int .i64 0, .int .i64 0, .int .i64 0, .int .i64 0]) ?_ 1 _ rfl; (with_reducible repeat (first | refine blk_drewN ?_ _ | refine blk_drew ?_ | refine blk_alloc ?_ _)); refine blk_put (cs := #[.int .i64 0, .int .i64 0, .int .i64 0, .int .i64 0, .int .i64 0, .int .i64 0, .int .i64 0, .int .i64 0, .int .i64 0]) ?_ 0 _ rfl; (with_reducible repeat (first | refine blk_drewN ?_ _ | refine blk_drew ?_ | refine blk_alloc ?_ _)); exact BK296.out⟩, ⟨by repeat (first | (with_reducible first | exact HB.out | apply below_alloc | apply pw_below_drewN | apply below_drew1 | refine below_set ?_ GE294.out | refine below_set ?_ GE296.out) | exact HB.out)⟩⟩
             ·rw [if_neg c22] at H
              have c22b0 : (((rd_T41 l0 x9_2).f1) == ((rd_T41 l0 a1).f1)) = false := beq_eq_false_iff_ne.mpr c22
              have c22b1 : (((rd_T41 l0 x9_2).f1) != ((rd_T41 l0 a1).f1)) = true := bne_iff_ne.mpr c22
              (first | rw [c22b0] | (simp only [i64_w, i32_w]; rw [c22b0]) | skip)
              have H' := Aside0.mk H
              clear H
              have hnb46 := NB296_294.out
              have hnc46 := NB294_296.out
              have hcz47_0 : w19.cell? ⟨gb296, 0, none⟩ = some (.int .i64 0) := (blk_cell BK296.out 0).trans rfl
              have hcz47_1 : w19.cell? ⟨gb296, 1, none⟩ = some (.int .i64 0) := (blk_cell BK296.out 1).trans rfl
              have hcz47_2 : w19.cell? ⟨gb296, 2, none⟩ = some (.int .i64 0) := (blk_cell BK296.out 2).trans rfl
              have hcz47_3 : w19.cell? ⟨gb296, 3, none⟩ = some (.int .i64 0) := (blk_cell BK296.out 3).trans rfl
              have hcz47_4 : w19.cell? ⟨gb296, 4, none⟩ = some (.int .i64 0) := (blk_cell BK296.out 4).trans rfl
              have hcz47_5 : w19.cell? ⟨gb296, 5, none⟩ = some (.int .i64 0) := (blk_cell BK296.out 5).trans rfl
              have hcz47_6 : w19.cell? ⟨gb296, 6, none⟩ = some (.int .i64 0) := (blk_cell BK296.out 6).trans rfl
              have hcz47_7 : w19.cell? ⟨gb296, 7, none⟩ = some (.int .i64 0) := (blk_cell BK296.out 7).trans rfl
              have hcz47_8 : w19.cell? ⟨gb296, 8, none⟩ = some (.int .i64 0) := (blk_cell BK296.out 8).trans rfl
              have hfz47_0 := blk_frozen BK296.out 0
              have hfz47_1 := blk_frozen BK296.out 1
              have hfz47_2 := blk_frozen BK296.out 2
              have hfz47_3 := blk_frozen BK296.out 3
              have hfz47_4 := blk_frozen BK296.out 4
              have hfz47_5 := blk_frozen BK296.out 5
              have hfz47_6 := blk_frozen BK296.out 6
              have hfz47_7 := blk_frozen BK296.out 7
              have hfz47_8 := blk_frozen BK296.out 8
              have hcz48_0 : w19.cell? ⟨gb294, 0, none⟩ = some (.int .i64 ((rd_T41 l0 a1).f0)) := (blk_cell BK294.out 0).trans rfl
              have hcz48_1 : w19.cell? ⟨gb294, 1, none⟩ = some (.int .i64 ((rd_T41 l0 a1).f1)) := (blk_cell BK294.out 1).trans rfl
              have hcz48_2 : w19.cell? ⟨gb294, 2, none⟩ = some (.int .i64 ((rd_T41 l0 a1).f2)) := (blk_cell BK294.out 2).trans rfl
              have hcz48_3 : w19.cell? ⟨gb294, 3, none⟩ = some (.int .i64 ((rd_T41 l0 a1).f3)) := (blk_cell BK294.out 3).trans rfl
              have hcz48_4 : w19.cell? ⟨gb294, 4, none⟩ = some (.int .i64 ((rd_T41 l0 a1).f4)) := (blk_cell BK294.out 4).trans rfl
              have hcz48_5 : w19.cell? ⟨gb294, 5, none⟩ = some (.int .i64 ((rd_T41 l0 a1).f5.f0)) := (blk_cell BK294.out 5).trans rfl
              have hcz48_6 : w19.cell? ⟨gb294, 6, none⟩ = some (.int .i64 ((rd_T41 l0 a1).f5.f1)) := (blk_cell BK294.out 6).trans rfl
              have hcz48_7 : w19.cell? ⟨gb294, 7, none⟩ = some (.int .i64 ((rd_T41 l0 a1).f6.f0)) := (blk_cell BK294.out 7).trans rfl
              have hcz48_8 : w19.cell? ⟨gb294, 8, none⟩ = some (.int .i64 ((rd_T41 l0 a1).f6.f1)) := (blk_cell BK294.out 8).trans rfl
              have hfz48_0 := blk_frozen BK294.out 0
              have hfz48_1 := blk_frozen BK294.out 1
              have hfz48_2 := blk_frozen BK294.out 2
              have hfz48_3 := blk_frozen BK294.out 3
              have hfz48_4 := blk_frozen BK294.out 4
              have hfz48_5 := blk_frozen BK294.out 5
              have hfz48_6 := blk_frozen BK294.out 6
              have hfz48_7 := blk_frozen BK294.out 7
              have hfz48_8 := blk_frozen BK294.out 8
              go_wp2
              go_meet
              case rel => exact ⟨_, (false), (by first | rfl | (simp; done) | (simp [*]; done)), H', ⟨by have := HJ5.out; have := HK2.out; first | omega | exact Nat.le_refl _⟩, ⟨by (with_reducible repeat (first | refine blk_drewN ?_ _ | refine blk_drew ?_ | refine blk_alloc ?_ _)); refine blk_far ?_ NB294_296.out _; (with_reducible repeat (first | refine blk_drewN ?_ _ | refine blk_drew ?_ | refine blk_alloc ?_ _)); refine blk_far ?_ NB294_296.out _; (with_reducible repeat (first | refine blk_drewN ?_ _ | refine blk_drew ?_ | refine blk_alloc ?_ _)); refine blk_far ?_ NB294_296.out _; (with_reducible repeat (first | refine blk_drewN ?_ _ | refine blk_drew ?_ | refine blk_alloc ?_ _)); refine blk_far ?_ NB294_296.out _; (with_reducible repeat (first | refine blk_drewN ?_ _ | refine blk_drew ?_ | refine blk_alloc ?_ _)); refine blk_far ?_ NB294_296.out _; (with_reducible repeat (first | refine blk_drewN ?_ _ | refine blk_drew ?_ | refine blk_alloc ?_ _)); refine blk_far ?_ NB294_296.out _; (with_reducible repeat (first | refine blk_drewN ?_ _ | refine blk_drew ?_ | refine blk_alloc ?_ _)); refine blk_far ?_ NB294_296.out _; (with_reducible repeat (first | refine blk_drewN ?_ _ | refine blk_drew ?_ | refine blk_alloc ?_ _)); refine blk_far ?_ NB294_296.out _; (with_reducible repeat (first | refine blk_drewN ?_ _ | refine blk_drew ?_ | refine blk_alloc ?_ _)); refine blk_far ?_ NB294_296.out _; (with_reducible repeat (first | refine blk_drewN ?_ _ | refine blk_drew ?_ | refine blk_alloc ?_ _)); exact BK294.out⟩, ⟨by (with_reducible repeat (first | refine blk_drewN ?_ _ | refine blk_drew ?_ | refine blk_alloc ?_ _)); refine blk_put (cs := #[.int .i64 ((rd_T41 l0 x9_2).f0), .int .i64 ((rd_T41 l0 x9_2).f1), .int .i64 ((rd_T41 l0 x9_2).f2), .int .i64 ((rd_T41 l0 x9_2).f3), .int .i64 ((rd_T41 l0 x9_2).f4), .int .i64 ((rd_T41 l0 x9_2).f5.f0), .int .i64 ((rd_T41 l0 x9_2).f5.f1), .int .i64 ((rd_T41 l0 x9_2).f6.f0), .int .i64 0]) ?_ 8 _ rfl; (with_reducible repeat (first | refine blk_drewN ?_ _ | refine blk_drew ?_ | refine blk_alloc ?_ _)); refine blk_put (cs := #[.int .i64 ((rd_T41 l0 x9_2).f0), .int .i64 ((rd_T41 l0 x9_2).f1), .int .i64 ((rd_T41 l0 x9_2).f2), .int .i64 ((rd_T41 l0 x9_2).f3), .int .i64 ((rd_T41 l0 x9_2).f4), .int .i64 ((rd_T41 l0 x9_2).f5.f0), .int .i64 ((rd_T41 l0 x9_2).f5.f1), .int .i64 0, .int .i64 0]) ?_ 7 _ rfl; (with_reducible repeat (first | refine blk_drewN ?_ _ | refine blk_drew ?_ | refine blk_alloc ?_ _)); refine blk_put (cs := #[.int .i64 ((rd_T41 l0 x9_2).f0), .int .i64 ((rd_T41 l0 x9_2).f1), .int .i64 ((rd_T41 l0 x9_2).f2), .int .i64 ((rd_T41 l0 x9_2).f3), .int .i64 ((rd_T41 l0 x9_2).f4), .int .i64 ((rd_T41 l0 x9_2).f5.f0), .int .i64 0, .int .i64 0, .int .i64 0]) ?_ 6 _ rfl; (with_reducible repeat (first | refine blk_drewN ?_ _ | refine blk_drew ?_ | refine blk_alloc ?_ _)); refine blk_put (cs := #[.int .i64 ((rd_T41 l0 x9_2).f0), .int .i64 ((rd_T41 l0 x9_2).f1), .int .i64 ((rd_T41 l0 x9_2).f2), .int .i64 ((rd_T41 l0 x9_2).f3), .int .i64 ((rd_T41 l0 x9_2).f4), .int .i64 0, .int .i64 0, .int .i64 0, .int .i64 0]) ?_ 5 _ rfl; (with_reducible repeat (first | refine blk_drewN ?_ _ | refine blk_drew ?_ | refine blk_alloc ?_ _)); refine blk_put (cs := #[.int .i64 ((rd_T41 l0 x9_2).f0), .int .i64 ((rd_T41 l0 x9_2).f1), .int .i64 ((rd_T41 l0 x9_2).f2), .int .i64 ((rd_T41 l0 x9_2).f3), .int .i64 0, .int .i64 0, .int .i64 0, .int .i64 0, .int .i64 0]) ?_ 4 _ rfl; (with_reducible repeat (first | refine blk_drewN ?_ _ | refine blk_drew ?_ | refine blk_alloc ?_ _)); refine blk_put (cs := #[.int .i64 ((rd_T41 l0 x9_2).f0), .int .i64 ((rd_T41 l0 x9_2).f1), .int .i64 ((rd_T41 l0 x9_2).f2), .int .i64 0, .int .i64 0, .int .i64 0, .int .i64 0, .int .i64 0, .int .i64 0]) ?_ 3 _ rfl; (with_reducible repeat (first | refine blk_drewN ?_ _ | refine blk_drew ?_ | refine blk_alloc ?_ _)); refine blk_put (cs := #[.int .i64 ((rd_T41 l0 x9_2).f0), .int .i64 ((rd_T41 l0 x9_2).f1), .int .i64 0, .int .i64 0, .int .i64 0, .int .i64 0, .int .i64 0, .int .i64 0, .int .i64 0]) ?_ 2 _ rfl; (with_reducible repeat (first | refine blk_drewN ?_ _ | refine blk_drew ?_ | refine blk_alloc ?_ _)); refine blk_put (cs := #[.int .i64 ((rd_T41 l0 x9_2).f0), .int .i64 0, .int .i64 0, .int .i64 0, .int .i64 0, .int .i64 0, .int .i64 0, .int .i64 0, .int .i64 0]) ?_ 1 _ rfl; (with_reducible repeat (first | refine blk_drewN ?_ _ | refine blk_drew ?_ | refine blk_alloc ?_ _)); refine blk_put (cs := #[.int .i64 0, .int .i64 0, .int .i64 0, .int .i64 0, .int .i64 0, .int .i64 0, .int .i64 0, .int .i64 0, .int .i64 0]) ?_ 0 _ rfl; (with_reducible repeat (first | refine blk_drewN ?_ _ | refine blk_drew ?_ | refine blk_alloc ?_ _)); exact BK296.out⟩, ⟨by repeat (first | (with_reducible first | exact HB.out | apply below_alloc | apply pw_below_drewN | apply below_drew1 | refine below_set ?_ GE294.out | refine below_set ?_ GE296.out) | exact HB.out)⟩⟩
            case rest =>
             clear HC18
             try clear c1
             try clear c2
             try clear p2
             try clear q2
             try clear hx2
             try clear c3
             try clear c4
             try clear c5
             try clear c8
             try clear c8b0
             try clear c8b1
             try clear c9
             try clear c9b0
             try clear c10
             try clear c11
             try clear c11b0
             try clear c12
             try clear c12b0
             try clear c15
             try clear c15b0
             try clear c17
             try clear c17b0
             try clear c20
             try clear c22
             try clear c22b0
             try clear c22b1
             try clear c23
             try clear c23b0
             try clear c23b1
             try clear c24
             try clear c24b0
             try clear c24b1
             try clear c25
             try clear c25b0
             try clear c26
             try clear c26b0
             try clear c27
             try clear p29
             try clear q29
             try clear hx29
             try clear c30
             try clear c30b0
             try clear c30b1
             try clear c31
             try clear c34
             try clear c37
             try clear c40
             try clear c43
             try clear c46
             try clear hcz14_0
             try clear hcz14_1
             try clear hcz14_2
             try clear hcz14_3
             try clear hcz14_4
             try clear hcz14_5
             try clear hcz14_6
             try clear hcz14_7
             try clear hcz14_8
             try clear hcz21_0
             try clear hcz21_1
             try clear hcz21_2
             try clear hcz21_3
             try clear hcz21_4
             try clear hcz21_5
             try clear hcz21_6
             try clear hcz21_7
             try clear hcz21_8
             try clear hcz28_0
             try clear hcz28_1
             try clear hcz28_2
             try clear hcz28_3
             try clear hcz28_4
             try clear hcz28_5
             try clear hcz28_6
             try clear hcz28_7
             try clear hcz28_8
             try clear hcz29_0
             try clear hcz29_1
             try clear hcz29_2
             try clear hcz29_3
             try clear hcz29_4
             try clear hcz29_5
             try clear hcz29_6
             try clear hcz29_7
             try clear hcz29_8
             try clear hcz32_0
             try clear hcz32_1
             try clear hcz32_2
             try clear hcz32_3
             try clear hcz32_4
             try clear hcz32_5
             try clear hcz32_6
             try clear hcz32_7
             try clear hcz32_8
             try clear hcz33_0
             try clear hcz33_1
             try clear hcz33_2
             try clear hcz33_3
             try clear hcz33_4
             try clear hcz33_5
             try clear hcz33_6
             try clear hcz33_7
             try clear hcz33_8
             try clear hcz35_0
             try clear hcz35_1
             try clear hcz35_2
             try clear hcz35_3
             try clear hcz35_4
             try clear hcz35_5
             try clear hcz35_6
             try clear hcz35_7
             try clear hcz35_8
             try clear hcz36_0
             try clear hcz36_1
             try clear hcz36_2
             try clear hcz36_3
             try clear hcz36_4
             try clear hcz36_5
             try clear hcz36_6
             try clear hcz36_7
             try clear hcz36_8
             try clear hcz38_0
             try clear hcz38_1
             try clear hcz38_2
             try clear hcz38_3
             try clear hcz38_4
             try clear hcz38_5
             try clear hcz38_6
             try clear hcz38_7
             try clear hcz38_8
             try clear hcz39_0
             try clear hcz39_1
             try clear hcz39_2
             try clear hcz39_3
             try clear hcz39_4
             try clear hcz39_5
             try clear hcz39_6
             try clear hcz39_7
             try clear hcz39_8
             try clear hcz41_0
             try clear hcz41_1
             try clear hcz41_2
             try clear hcz41_3
             try clear hcz41_4
             try clear hcz41_5
             try clear hcz41_6
             try clear hcz41_7
             try clear hcz41_8
             try clear hcz42_0
             try clear hcz42_1
             try clear hcz42_2
             try clear hcz42_3
             try clear hcz42_4
             try clear hcz42_5
             try clear hcz42_6
             try clear hcz42_7
             try clear hcz42_8
             try clear hcz44_0
             try clear hcz44_1
             try clear hcz44_2
             try clear hcz44_3
             try clear hcz44_4
             try clear hcz44_5
             try clear hcz44_6
             try clear hcz44_7
             try clear hcz44_8
             try clear hcz45_0
             try clear hcz45_1
             try clear hcz45_2
             try clear hcz45_3
             try clear hcz45_4
             try clear hcz45_5
             try clear hcz45_6
             try clear hcz45_7
             try clear hcz45_8
             try clear hcz47_0
             try clear hcz47_1
             try clear hcz47_2
             try clear hcz47_3
             try clear hcz47_4
             try clear hcz47_5
             try clear hcz47_6
             try clear hcz47_7
             try clear hcz47_8
             try clear hcz48_0
             try clear hcz48_1
             try clear hcz48_2
             try clear hcz48_3
             try clear hcz48_4
             try clear hcz48_5
             try clear hcz48_6
             try clear hcz48_7
             try clear hcz48_8
             try clear hfz14_0
             try clear hfz14_1
             try clear hfz14_2
             try clear hfz14_3
             try clear hfz14_4
             try clear hfz14_5
             try clear hfz14_6
             try clear hfz14_7
             try clear hfz14_8
             try clear hfz21_0
             try clear hfz21_1
             try clear hfz21_2
             try clear hfz21_3
             try clear hfz21_4
             try clear hfz21_5
             try clear hfz21_6
             try clear hfz21_7
             try clear hfz21_8
             try clear hfz28_0
             try clear hfz28_1
             try clear hfz28_2
             try clear hfz28_3
             try clear hfz28_4
             try clear hfz28_5
             try clear hfz28_6
             try clear hfz28_7
             try clear hfz28_8
             try clear hfz29_0
             try clear hfz29_1
             try clear hfz29_2
             try clear hfz29_3
             try clear hfz29_4
             try clear hfz29_5
             try clear hfz29_6
             try clear hfz29_7
             try clear hfz29_8
             try clear hfz32_0
             try clear hfz32_1
             try clear hfz32_2
             try clear hfz32_3
             try clear hfz32_4
             try clear hfz32_5
             try clear hfz32_6
             try clear hfz32_7
             try clear hfz32_8
             try clear hfz33_0
             try clear hfz33_1
             try clear hfz33_2
             try clear hfz33_3
             try clear hfz33_4
             try clear hfz33_5
             try clear hfz33_6
             try clear hfz33_7
             try clear hfz33_8
             try clear hfz35_0
             try clear hfz35_1
             try clear hfz35_2
             try clear hfz35_3
             try clear hfz35_4
             try clear hfz35_5
             try clear hfz35_6
             try clear hfz35_7
             try clear hfz35_8
             try clear hfz36_0
             try clear hfz36_1
             try clear hfz36_2
             try clear hfz36_3
             try clear hfz36_4
             try clear hfz36_5
             try clear hfz36_6
             try clear hfz36_7
             try clear hfz36_8
             try clear hfz38_0
             try clear hfz38_1
             try clear hfz38_2
             try clear hfz38_3
             try clear hfz38_4
             try clear hfz38_5
             try clear hfz38_6
             try clear hfz38_7
             try clear hfz38_8
             try clear hfz39_0
             try clear hfz39_1
             try clear hfz39_2
             try clear hfz39_3
             try clear hfz39_4
             try clear hfz39_5
             try clear hfz39_6
             try clear hfz39_7
             try clear hfz39_8
             try clear hfz41_0
             try clear hfz41_1
             try clear hfz41_2
             try clear hfz41_3
             try clear hfz41_4
             try clear hfz41_5
             try clear hfz41_6
             try clear hfz41_7
             try clear hfz41_8
             try clear hfz42_0
             try clear hfz42_1
             try clear hfz42_2
             try clear hfz42_3
             try clear hfz42_4
             try clear hfz42_5
             try clear hfz42_6
             try clear hfz42_7
             try clear hfz42_8
             try clear hfz44_0
             try clear hfz44_1
             try clear hfz44_2
             try clear hfz44_3
             try clear hfz44_4
             try clear hfz44_5
             try clear hfz44_6
             try clear hfz44_7
             try clear hfz44_8
             try clear hfz45_0
             try clear hfz45_1
             try clear hfz45_2
             try clear hfz45_3
             try clear hfz45_4
             try clear hfz45_5
             try clear hfz45_6
             try clear hfz45_7
             try clear hfz45_8
             try clear hfz47_0
             try clear hfz47_1
             try clear hfz47_2
             try clear hfz47_3
             try clear hfz47_4
             try clear hfz47_5
             try clear hfz47_6
             try clear hfz47_7
             try clear hfz47_8
             try clear hfz48_0
             try clear hfz48_1
             try clear hfz48_2
             try clear hfz48_3
             try clear hfz48_4
             try clear hfz48_5
             try clear hfz48_6
             try clear hfz48_7
             try clear hfz48_8
             try clear hx293_0
             try clear hx293_1
             try clear hx293_2
             try clear hx293_3
             try clear hx293_4
             try clear hx293_5
             try clear hx293_6
             try clear hx293_7
             try clear hx293_8
             try clear hx295_0
             try clear hx295_1
             try clear hx295_2
             try clear hx295_3
             try clear hx295_4
             try clear hx295_5
             try clear hx295_6
             try clear hx295_7
             try clear hx295_8
             try clear p2
             try clear p293
             try clear p295
             try clear q2
             try clear q293
             try clear q295
             obtain ⟨kq, x89_17, rfl, HA, HJ17, BK294, BK296, HB⟩ := hcut
             cases kq with
             | zero => exact absurd HA.out (by simp [fastilaw27_WeatherReplaced.j2])
             | succ kj17 =>
              have H := HA.out
              clear HA
              simp only [fastilaw27_WeatherReplaced.j2] at H
              by_cases c49 : x89_17 = true
              ·subst c49
               have H1 : (fastilaw27_WeatherReplaced.j3 kj17 l0 a1 a2 true x9_2 ((rd_T41 l0 a1).f0) ((rd_T41 l0 a1).f1) ((rd_T41 l0 a1).f2) ((rd_T41 l0 a1).f3) ((rd_T41 l0 a1).f4) ((rd_T41 l0 a1).f5.f0) ((rd_T41 l0 a1).f5.f1) ((rd_T41 l0 a1).f6.f0) ((rd_T41 l0 a1).f6.f1)) = some r := by rw [if_pos rfl] at H; exact H
               clear H
               have H := H1
               clear H1
               have H' := Aside0.mk H
               clear H
               go_wp2
               go_meet
               case rel => exact ⟨_, (true), (by first | rfl | (simp; done) | (simp [*]; done)), H', ⟨by have := HJ5.out; have := HK2.out; have := HJ17.out; first | omega | exact Nat.le_refl _⟩, ⟨zk BK294.out⟩, ⟨by repeat (first | (with_reducible first | exact HB.out | apply below_alloc | apply pw_below_drewN | apply below_drew1 | refine below_set ?_ GE294.out | refine below_set ?_ GE296.out) | exact HB.out)⟩⟩
              ·replace c49 := Bool.eq_false_iff.mpr c49
               subst c49
               have H1 : (fastilaw27_WeatherReplaced.j3 kj17 l0 a1 a2 x8_2 x9_2 ((rd_T41 l0 a1).f0) ((rd_T41 l0 a1).f1) ((rd_T41 l0 a1).f2) ((rd_T41 l0 a1).f3) ((rd_T41 l0 a1).f4) ((rd_T41 l0 a1).f5.f0) ((rd_T41 l0 a1).f5.f1) ((rd_T41 l0 a1).f6.f0) ((rd_T41 l0 a1).f6.f1)) = some r := by rw [if_neg (show ¬ (false = true) by decide)] at H; exact H
               clear H
               have H := H1
               clear H1
               have H' := Aside0.mk H
               clear H
               go_wp2
               go_meet
               case rel => exact ⟨_, (x8_2), (by first | rfl | (simp; done) | (simp [*]; done)), H', ⟨by have := HJ5.out; have := HK2.out; have := HJ17.out; first | omega | exact Nat.le_refl _⟩, ⟨zk BK294.out⟩, ⟨by repeat (first | (with_reducible first | exact HB.out | apply below_alloc | apply pw_below_drewN | apply below_drew1 | refine below_set ?_ GE294.out | refine below_set ?_ GE296.out) | exact HB.out)⟩⟩
           ·rw [if_neg c17] at H
            exact absurd H (by simp)
          case rest =>
           clear HC16
           try clear c1
           try clear c2
           try clear p2
           try clear q2
           try clear hx2
           try clear c3
           try clear c4
           try clear c5
           try clear c8
           try clear c8b0
           try clear c8b1
           try clear c9
           try clear c9b0
           try clear c10
           try clear c11
           try clear c11b0
           try clear c12
           try clear c12b0
           try clear c15
           try clear c15b0
           try clear c17
           try clear c17b0
           try clear c20
           try clear c22
           try clear c22b0
           try clear c22b1
           try clear c23
           try clear c23b0
           try clear c23b1
           try clear c24
           try clear c24b0
           try clear c24b1
           try clear c25
           try clear c25b0
           try clear c26
           try clear c26b0
           try clear c27
           try clear p29
           try clear q29
           try clear hx29
           try clear c30
           try clear c30b0
           try clear c30b1
           try clear c31
           try clear c34
           try clear c37
           try clear c40
           try clear c43
           try clear c46
           try clear c49
           try clear hcz14_0
           try clear hcz14_1
           try clear hcz14_2
           try clear hcz14_3
           try clear hcz14_4
           try clear hcz14_5
           try clear hcz14_6
           try clear hcz14_7
           try clear hcz14_8
           try clear hcz21_0
           try clear hcz21_1
           try clear hcz21_2
           try clear hcz21_3
           try clear hcz21_4
           try clear hcz21_5
           try clear hcz21_6
           try clear hcz21_7
           try clear hcz21_8
           try clear hcz28_0
           try clear hcz28_1
           try clear hcz28_2
           try clear hcz28_3
           try clear hcz28_4
           try clear hcz28_5
           try clear hcz28_6
           try clear hcz28_7
           try clear hcz28_8
           try clear hcz29_0
           try clear hcz29_1
           try clear hcz29_2
           try clear hcz29_3
           try clear hcz29_4
           try clear hcz29_5
           try clear hcz29_6
           try clear hcz29_7
           try clear hcz29_8
           try clear hcz32_0
           try clear hcz32_1
           try clear hcz32_2
           try clear hcz32_3
           try clear hcz32_4
           try clear hcz32_5
           try clear hcz32_6
           try clear hcz32_7
           try clear hcz32_8
           try clear hcz33_0
           try clear hcz33_1
           try clear hcz33_2
           try clear hcz33_3
           try clear hcz33_4
           try clear hcz33_5
           try clear hcz33_6
           try clear hcz33_7
           try clear hcz33_8
           try clear hcz35_0
           try clear hcz35_1
           try clear hcz35_2
           try clear hcz35_3
           try clear hcz35_4
           try clear hcz35_5
           try clear hcz35_6
           try clear hcz35_7
           try clear hcz35_8
           try clear hcz36_0
           try clear hcz36_1
           try clear hcz36_2
           try clear hcz36_3
           try clear hcz36_4
           try clear hcz36_5
           try clear hcz36_6
           try clear hcz36_7
           try clear hcz36_8
           try clear hcz38_0
           try clear hcz38_1
           try clear hcz38_2
           try clear hcz38_3
           try clear hcz38_4
           try clear hcz38_5
           try clear hcz38_6
           try clear hcz38_7
           try clear hcz38_8
           try clear hcz39_0
           try clear hcz39_1
           try clear hcz39_2
           try clear hcz39_3
           try clear hcz39_4
           try clear hcz39_5
           try clear hcz39_6
           try clear hcz39_7
           try clear hcz39_8
           try clear hcz41_0
           try clear hcz41_1
           try clear hcz41_2
           try clear hcz41_3
           try clear hcz41_4
           try clear hcz41_5
           try clear hcz41_6
           try clear hcz41_7
           try clear hcz41_8
           try clear hcz42_0
           try clear hcz42_1
           try clear hcz42_2
           try clear hcz42_3
           try clear hcz42_4
           try clear hcz42_5
           try clear hcz42_6
           try clear hcz42_7
           try clear hcz42_8
           try clear hcz44_0
           try clear hcz44_1
           try clear hcz44_2
           try clear hcz44_3
           try clear hcz44_4
           try clear hcz44_5
           try clear hcz44_6
           try clear hcz44_7
           try clear hcz44_8
           try clear hcz45_0
           try clear hcz45_1
           try clear hcz45_2
           try clear hcz45_3
           try clear hcz45_4
           try clear hcz45_5
           try clear hcz45_6
           try clear hcz45_7
           try clear hcz45_8
           try clear hcz47_0
           try clear hcz47_1
           try clear hcz47_2
           try clear hcz47_3
           try clear hcz47_4
           try clear hcz47_5
           try clear hcz47_6
           try clear hcz47_7
           try clear hcz47_8
           try clear hcz48_0
           try clear hcz48_1
           try clear hcz48_2
           try clear hcz48_3
           try clear hcz48_4
           try clear hcz48_5
           try clear hcz48_6
           try clear hcz48_7
           try clear hcz48_8
           try clear hfz14_0
           try clear hfz14_1
           try clear hfz14_2
           try clear hfz14_3
           try clear hfz14_4
           try clear hfz14_5
           try clear hfz14_6
           try clear hfz14_7
           try clear hfz14_8
           try clear hfz21_0
           try clear hfz21_1
           try clear hfz21_2
           try clear hfz21_3
           try clear hfz21_4
           try clear hfz21_5
           try clear hfz21_6
           try clear hfz21_7
           try clear hfz21_8
           try clear hfz28_0
           try clear hfz28_1
           try clear hfz28_2
           try clear hfz28_3
           try clear hfz28_4
           try clear hfz28_5
           try clear hfz28_6
           try clear hfz28_7
           try clear hfz28_8
           try clear hfz29_0
           try clear hfz29_1
           try clear hfz29_2
           try clear hfz29_3
           try clear hfz29_4
           try clear hfz29_5
           try clear hfz29_6
           try clear hfz29_7
           try clear hfz29_8
           try clear hfz32_0
           try clear hfz32_1
           try clear hfz32_2
           try clear hfz32_3
           try clear hfz32_4
           try clear hfz32_5
           try clear hfz32_6
           try clear hfz32_7
           try clear hfz32_8
           try clear hfz33_0
           try clear hfz33_1
           try clear hfz33_2
           try clear hfz33_3
           try clear hfz33_4
           try clear hfz33_5
           try clear hfz33_6
           try clear hfz33_7
           try clear hfz33_8
           try clear hfz35_0
           try clear hfz35_1
           try clear hfz35_2
           try clear hfz35_3
           try clear hfz35_4
           try clear hfz35_5
           try clear hfz35_6
           try clear hfz35_7
           try clear hfz35_8
           try clear hfz36_0
           try clear hfz36_1
           try clear hfz36_2
           try clear hfz36_3
           try clear hfz36_4
           try clear hfz36_5
           try clear hfz36_6
           try clear hfz36_7
           try clear hfz36_8
           try clear hfz38_0
           try clear hfz38_1
           try clear hfz38_2
           try clear hfz38_3
           try clear hfz38_4
           try clear hfz38_5
           try clear hfz38_6
           try clear hfz38_7
           try clear hfz38_8
           try clear hfz39_0
           try clear hfz39_1
           try clear hfz39_2
           try clear hfz39_3
           try clear hfz39_4
           try clear hfz39_5
           try clear hfz39_6
           try clear hfz39_7
           try clear hfz39_8
           try clear hfz41_0
           try clear hfz41_1
           try clear hfz41_2
           try clear hfz41_3
           try clear hfz41_4
           try clear hfz41_5
           try clear hfz41_6
           try clear hfz41_7
           try clear hfz41_8
           try clear hfz42_0
           try clear hfz42_1
           try clear hfz42_2
           try clear hfz42_3
           try clear hfz42_4
           try clear hfz42_5
           try clear hfz42_6
           try clear hfz42_7
           try clear hfz42_8
           try clear hfz44_0
           try clear hfz44_1
           try clear hfz44_2
           try clear hfz44_3
           try clear hfz44_4
           try clear hfz44_5
           try clear hfz44_6
           try clear hfz44_7
           try clear hfz44_8
           try clear hfz45_0
           try clear hfz45_1
           try clear hfz45_2
           try clear hfz45_3
           try clear hfz45_4
           try clear hfz45_5
           try clear hfz45_6
           try clear hfz45_7
           try clear hfz45_8
           try clear hfz47_0
           try clear hfz47_1
           try clear hfz47_2
           try clear hfz47_3
           try clear hfz47_4
           try clear hfz47_5
           try clear hfz47_6
           try clear hfz47_7
           try clear hfz47_8
           try clear hfz48_0
           try clear hfz48_1
           try clear hfz48_2
           try clear hfz48_3
           try clear hfz48_4
           try clear hfz48_5
           try clear hfz48_6
           try clear hfz48_7
           try clear hfz48_8
           try clear hx293_0
           try clear hx293_1
           try clear hx293_2
           try clear hx293_3
           try clear hx293_4
           try clear hx293_5
           try clear hx293_6
           try clear hx293_7
           try clear hx293_8
           try clear hx295_0
           try clear hx295_1
           try clear hx295_2
           try clear hx295_3
           try clear hx295_4
           try clear hx295_5
           try clear hx295_6
           try clear hx295_7
           try clear hx295_8
           try clear p2
           try clear p29
           try clear p293
           try clear p295
           try clear q2
           try clear q29
           try clear q293
           try clear q295
           obtain ⟨kq, x8_15, rfl, HA, HJ15, BK294, HB⟩ := hcut
           cases kq with
           | zero => exact absurd HA.out (by simp [fastilaw27_WeatherReplaced.j3])
           | succ kj15 =>
            have H := HA.out
            clear HA
            simp only [fastilaw27_WeatherReplaced.j3] at H
            have H' := Aside0.mk H
            clear H
            go_wp2
            go_roundg kj15
            case measure => have := HJ5.out; have := HK2.out; have := HJ15.out; omega
            case rel => exact ⟨(x8_15), (wrap64 (x9_2 + 1)), (by first | rfl | (simp; done) | (simp [*]; done)), (by first | rfl | (simp; done) | (simp [*]; done)), H', ⟨by have := HJ5.out; have := HK2.out; have := HJ15.out; omega⟩, ⟨zk BK294.out⟩, ⟨by repeat (first | (with_reducible first | exact HB.out | apply below_alloc | apply pw_below_drewN | apply below_drew1 | refine below_set ?_ GE294.out) | exact HB.out)⟩⟩
         ·rw [if_neg c15] at H
          have c15b0 : decide (x9_2 < (l0.length : Int)) = false := decide_eq_false c15
          clear c15
          replace H := Option.bind_eq_some_iff.mp H
          obtain ⟨⟨t297, t298, t299, t300, t301, t302⟩, A500, H⟩ := H
          replace H : (if t302 = 0 then (if x8_2 = true then ((some (([] : List (S41)) : List (S41))).bind fun y304 => (if 0 ≤ a1 then (if a1 ≤ (l0.length : Int) then ((some (l0.take (a1 : Int).toNat : List (S41))).bind fun y307 => (if y304.length + y307.length < 1954687338268 then ((some (y304 ++ y307 : List (S41))).bind fun y311 => (if 0 ≤ (wrap64 (a1 + 1)) then (if (wrap64 (a1 + 1)) ≤ (l0.length : Int) then ((some (l0.drop ((wrap64 (a1 + 1)) : Int).toNat : List (S41))).bind fun y314 => (if y311.length + y314.length < 1954687338268 then ((weather_Of.f (y311 ++ y314) ((rd_T41 l0 a1).f2) ((rd_T41 l0 a1).f3) a2).bind fun bt321 => (if bt321.2.2.2.2.2 = 0 then (if ((t297 == bt321.1 && (t298 == bt321.2.1)) && ((t299 == bt321.2.2.1 && (t300 == bt321.2.2.2.1)))) = true then (fastilaw27_WeatherReplaced.j4 k2 (t301 == bt321.2.2.2.2.1)) else (fastilaw27_WeatherReplaced.j4 k2 false)) else (fastilaw27_WeatherReplaced.j4 k2 false))) else (none))) else (none)) else (none))) else (none))) else (none)) else (none))) else (some true)) else (some true)) = some r := H
          have A50 := Aside0.mk A500
          clear A500
          by_cases c51 : t302 = 0
          ·rw [if_pos c51] at H
           have c51b0 : (t302 == 0) = true := beq_iff_eq.mpr c51
           have c51b1 : (t302 != 0) = false := bne_eq_false_iff_eq.mpr c51
           clear c51
           by_cases c52 : x8_2 = true
           ·subst c52
            have H1 : ((some (([] : List (S41)) : List (S41))).bind fun y304 => (if 0 ≤ a1 then (if a1 ≤ (l0.length : Int) then ((some (l0.take (a1 : Int).toNat : List (S41))).bind fun y307 => (if y304.length + y307.length < 1954687338268 then ((some (y304 ++ y307 : List (S41))).bind fun y311 => (if 0 ≤ (wrap64 (a1 + 1)) then (if (wrap64 (a1 + 1)) ≤ (l0.length : Int) then ((some (l0.drop ((wrap64 (a1 + 1)) : Int).toNat : List (S41))).bind fun y314 => (if y311.length + y314.length < 1954687338268 then ((weather_Of.f (y311 ++ y314) ((rd_T41 l0 a1).f2) ((rd_T41 l0 a1).f3) a2).bind fun bt321 => (if bt321.2.2.2.2.2 = 0 then (if ((t297 == bt321.1 && (t298 == bt321.2.1)) && ((t299 == bt321.2.2.1 && (t300 == bt321.2.2.2.1)))) = true then (fastilaw27_WeatherReplaced.j4 k2 (t301 == bt321.2.2.2.2.1)) else (fastilaw27_WeatherReplaced.j4 k2 false)) else (fastilaw27_WeatherReplaced.j4 k2 false))) else (none))) else (none)) else (none))) else (none))) else (none)) else (none))) = some r := by rw [if_pos rfl] at H; exact H
            clear H
            have H := H1
            clear H1
            obtain ⟨y304, hy304⟩ : ∃ y_ : List (S41), y_ = (([] : List (S41))) := ⟨_, rfl⟩
            replace H : (if 0 ≤ a1 then (if a1 ≤ (l0.length : Int) then ((some (l0.take (a1 : Int).toNat : List (S41))).bind fun y307 => (if y304.length + y307.length < 1954687338268 then ((some (y304 ++ y307 : List (S41))).bind fun y311 => (if 0 ≤ (wrap64 (a1 + 1)) then (if (wrap64 (a1 + 1)) ≤ (l0.length : Int) then ((some (l0.drop ((wrap64 (a1 + 1)) : Int).toNat : List (S41))).bind fun y314 => (if y311.length + y314.length < 1954687338268 then ((weather_Of.f (y311 ++ y314) ((rd_T41 l0 a1).f2) ((rd_T41 l0 a1).f3) a2).bind fun bt321 => (if bt321.2.2.2.2.2 = 0 then (if ((t297 == bt321.1 && (t298 == bt321.2.1)) && ((t299 == bt321.2.2.1 && (t300 == bt321.2.2.2.1)))) = true then (fastilaw27_WeatherReplaced.j4 k2 (t301 == bt321.2.2.2.2.1)) else (fastilaw27_WeatherReplaced.j4 k2 false)) else (fastilaw27_WeatherReplaced.j4 k2 false))) else (none))) else (none)) else (none))) else (none))) else (none)) else (none)) = some r := by first | (rw [hy304]; with_reducible exact H) | (have H2_ := (Option.bind_some _ _).symm.trans H; rw [hy304]; with_reducible exact H2_) | (have H2_ := (Option.bind_some _ _).symm.trans H; with_reducible exact H2_) | with_reducible exact H | (rw [hy304]; exact H) | exact H
            have Ny304 := Aside0.mk hy304
            clear hy304
            by_cases c53 : 0 ≤ a1
            ·rw [if_pos c53] at H
             have c53b0 := eq_true c53
             have c53b1 : decide (0 ≤ a1) = true := decide_eq_true c53
             clear c53
             by_cases c54 : a1 ≤ (l0.length : Int)
             ·rw [if_pos c54] at H
              have c54b0 := eq_true c54
              have c54b1 : decide (a1 ≤ (l0.length : Int)) = true := decide_eq_true c54
              clear c54
              obtain ⟨y307, hy307⟩ : ∃ y_ : List (S41), y_ = (l0.take (a1 : Int).toNat) := ⟨_, rfl⟩
              replace H : (if y304.length + y307.length < 1954687338268 then ((some (y304 ++ y307 : List (S41))).bind fun y311 => (if 0 ≤ (wrap64 (a1 + 1)) then (if (wrap64 (a1 + 1)) ≤ (l0.length : Int) then ((some (l0.drop ((wrap64 (a1 + 1)) : Int).toNat : List (S41))).bind fun y314 => (if y311.length + y314.length < 1954687338268 then ((weather_Of.f (y311 ++ y314) ((rd_T41 l0 a1).f2) ((rd_T41 l0 a1).f3) a2).bind fun bt321 => (if bt321.2.2.2.2.2 = 0 then (if ((t297 == bt321.1 && (t298 == bt321.2.1)) && ((t299 == bt321.2.2.1 && (t300 == bt321.2.2.2.1)))) = true then (fastilaw27_WeatherReplaced.j4 k2 (t301 == bt321.2.2.2.2.1)) else (fastilaw27_WeatherReplaced.j4 k2 false)) else (fastilaw27_WeatherReplaced.j4 k2 false))) else (none))) else (none)) else (none))) else (none)) = some r := by first | (rw [hy307]; with_reducible exact H) | (have H2_ := (Option.bind_some _ _).symm.trans H; rw [hy307]; with_reducible exact H2_) | (have H2_ := (Option.bind_some _ _).symm.trans H; with_reducible exact H2_) | with_reducible exact H | (rw [hy307]; exact H) | exact H
              have Ny307 := Aside0.mk hy307
              clear hy307
              by_cases c55 : y304.length + y307.length < 1954687338268
              ·rw [if_pos c55] at H
               have LMc55 := Aside0.mk c55
               clear c55
               obtain ⟨y311, hy311⟩ : ∃ y_ : List (S41), y_ = (y304 ++ y307) := ⟨_, rfl⟩
               replace H : (if 0 ≤ (wrap64 (a1 + 1)) then (if (wrap64 (a1 + 1)) ≤ (l0.length : Int) then ((some (l0.drop ((wrap64 (a1 + 1)) : Int).toNat : List (S41))).bind fun y314 => (if y311.length + y314.length < 1954687338268 then ((weather_Of.f (y311 ++ y314) ((rd_T41 l0 a1).f2) ((rd_T41 l0 a1).f3) a2).bind fun bt321 => (if bt321.2.2.2.2.2 = 0 then (if ((t297 == bt321.1 && (t298 == bt321.2.1)) && ((t299 == bt321.2.2.1 && (t300 == bt321.2.2.2.1)))) = true then (fastilaw27_WeatherReplaced.j4 k2 (t301 == bt321.2.2.2.2.1)) else (fastilaw27_WeatherReplaced.j4 k2 false)) else (fastilaw27_WeatherReplaced.j4 k2 false))) else (none))) else (none)) else (none)) = some r := by first | (rw [hy311]; with_reducible exact H) | (have H2_ := (Option.bind_some _ _).symm.trans H; rw [hy311]; with_reducible exact H2_) | (have H2_ := (Option.bind_some _ _).symm.trans H; with_reducible exact H2_) | with_reducible exact H | (rw [hy311]; exact H) | exact H
               have Ny311 := Aside0.mk hy311
               clear hy311
               obtain ⟨ji56, hji56⟩ : ∃ j_ : Int, (wrap64 (a1 + 1)) = j_ := ⟨_, rfl⟩
               replace H : (if 0 ≤ (ji56) then (if (ji56) ≤ (l0.length : Int) then ((some (l0.drop ((ji56) : Int).toNat : List (S41))).bind fun y314 => (if y311.length + y314.length < 1954687338268 then ((weather_Of.f (y311 ++ y314) ((rd_T41 l0 a1).f2) ((rd_T41 l0 a1).f3) a2).bind fun bt321 => (if bt321.2.2.2.2.2 = 0 then (if ((t297 == bt321.1 && (t298 == bt321.2.1)) && ((t299 == bt321.2.2.1 && (t300 == bt321.2.2.2.1)))) = true then (fastilaw27_WeatherReplaced.j4 k2 (t301 == bt321.2.2.2.2.1)) else (fastilaw27_WeatherReplaced.j4 k2 false)) else (fastilaw27_WeatherReplaced.j4 k2 false))) else (none))) else (none)) else (none)) = some r := by first | (rw [hji56] at H; exact H) | (simp only [hji56] at H ⊢; exact H)
               (try rw [hji56] at A50)
               have hji56w : (IntKind.i64.wrap (a1 + 1)) = ji56 := (i64_w _).trans hji56
               by_cases c57 : 0 ≤ (ji56)
               ·rw [if_pos c57] at H
                have c57b0 := eq_true c57
                have c57b1 : decide (0 ≤ (ji56)) = true := decide_eq_true c57
                clear c57
                by_cases c58 : (ji56) ≤ (l0.length : Int)
                ·rw [if_pos c58] at H
                 have c58b0 := eq_true c58
                 have c58b1 : decide ((ji56) ≤ (l0.length : Int)) = true := decide_eq_true c58
                 clear c58
                 obtain ⟨y314, hy314⟩ : ∃ y_ : List (S41), y_ = (l0.drop ((ji56) : Int).toNat) := ⟨_, rfl⟩
                 replace H : (if y311.length + y314.length < 1954687338268 then ((weather_Of.f (y311 ++ y314) ((rd_T41 l0 a1).f2) ((rd_T41 l0 a1).f3) a2).bind fun bt321 => (if bt321.2.2.2.2.2 = 0 then (if ((t297 == bt321.1 && (t298 == bt321.2.1)) && ((t299 == bt321.2.2.1 && (t300 == bt321.2.2.2.1)))) = true then (fastilaw27_WeatherReplaced.j4 k2 (t301 == bt321.2.2.2.2.1)) else (fastilaw27_WeatherReplaced.j4 k2 false)) else (fastilaw27_WeatherReplaced.j4 k2 false))) else (none)) = some r := by first | (rw [hy314]; with_reducible exact H) | (have H2_ := (Option.bind_some _ _).symm.trans H; rw [hy314]; with_reducible exact H2_) | (have H2_ := (Option.bind_some _ _).symm.trans H; with_reducible exact H2_) | with_reducible exact H | (rw [hy314]; exact H) | exact H
                 have Ny314 := Aside0.mk hy314
                 clear hy314
                 by_cases c59 : y311.length + y314.length < 1954687338268
                 ·rw [if_pos c59] at H
                  have LMc59 := Aside0.mk c59
                  clear c59
                  obtain ⟨y318, hy318⟩ : ∃ y_ : List (S41), y_ = (y311 ++ y314) := ⟨_, rfl⟩
                  replace H : ((weather_Of.f y318 ((rd_T41 l0 a1).f2) ((rd_T41 l0 a1).f3) a2).bind fun bt321 => (if bt321.2.2.2.2.2 = 0 then (if ((t297 == bt321.1 && (t298 == bt321.2.1)) && ((t299 == bt321.2.2.1 && (t300 == bt321.2.2.2.1)))) = true then (fastilaw27_WeatherReplaced.j4 k2 (t301 == bt321.2.2.2.2.1)) else (fastilaw27_WeatherReplaced.j4 k2 false)) else (fastilaw27_WeatherReplaced.j4 k2 false))) = some r := by first | (rw [hy318]; with_reducible exact H) | (have H2_ := (Option.bind_some _ _).symm.trans H; rw [hy318]; with_reducible exact H2_) | (have H2_ := (Option.bind_some _ _).symm.trans H; with_reducible exact H2_) | with_reducible exact H | (rw [hy318]; exact H) | exact H
                  have Ny318 := Aside0.mk hy318
                  clear hy318
                  replace H := Option.bind_eq_some_iff.mp H
                  obtain ⟨⟨t321, t322, t323, t324, t325, t326⟩, A600, H⟩ := H
                  replace H : (if t326 = 0 then (if ((t297 == t321 && (t298 == t322)) && ((t299 == t323 && (t300 == t324)))) = true then (fastilaw27_WeatherReplaced.j4 k2 (t301 == t325)) else (fastilaw27_WeatherReplaced.j4 k2 false)) else (fastilaw27_WeatherReplaced.j4 k2 false)) = some r := H
                  have A60 := Aside0.mk A600
                  clear A600
                  have HC61 := Aside0.mk H
                  clear H
                  have hcz62_0 : wr.cell? ⟨gb294, 0, none⟩ = some (.int .i64 ((rd_T41 l0 a1).f0)) := (blk_cell BK294.out 0).trans rfl
                  have hcz62_1 : wr.cell? ⟨gb294, 1, none⟩ = some (.int .i64 ((rd_T41 l0 a1).f1)) := (blk_cell BK294.out 1).trans rfl
                  have hcz62_2 : wr.cell? ⟨gb294, 2, none⟩ = some (.int .i64 ((rd_T41 l0 a1).f2)) := (blk_cell BK294.out 2).trans rfl
                  have hcz62_3 : wr.cell? ⟨gb294, 3, none⟩ = some (.int .i64 ((rd_T41 l0 a1).f3)) := (blk_cell BK294.out 3).trans rfl
                  have hcz62_4 : wr.cell? ⟨gb294, 4, none⟩ = some (.int .i64 ((rd_T41 l0 a1).f4)) := (blk_cell BK294.out 4).trans rfl
                  have hcz62_5 : wr.cell? ⟨gb294, 5, none⟩ = some (.int .i64 ((rd_T41 l0 a1).f5.f0)) := (blk_cell BK294.out 5).trans rfl
                  have hcz62_6 : wr.cell? ⟨gb294, 6, none⟩ = some (.int .i64 ((rd_T41 l0 a1).f5.f1)) := (blk_cell BK294.out 6).trans rfl
                  have hcz62_7 : wr.cell? ⟨gb294, 7, none⟩ = some (.int .i64 ((rd_T41 l0 a1).f6.f0)) := (blk_cell BK294.out 7).trans rfl
                  have hcz62_8 : wr.cell? ⟨gb294, 8, none⟩ = some (.int .i64 ((rd_T41 l0 a1).f6.f1)) := (blk_cell BK294.out 8).trans rfl
                  have hfz62_0 := blk_frozen BK294.out 0
                  have hfz62_1 := blk_frozen BK294.out 1
                  have hfz62_2 := blk_frozen BK294.out 2
                  have hfz62_3 := blk_frozen BK294.out 3
                  have hfz62_4 := blk_frozen BK294.out 4
                  have hfz62_5 := blk_frozen BK294.out 5
                  have hfz62_6 := blk_frozen BK294.out 6
                  have hfz62_7 := blk_frozen BK294.out 7
                  have hfz62_8 := blk_frozen BK294.out 8
                  try go_wp2_with (first | ((with_reducible refine gate_callee (f := 15) rfl ?_); refine goesL_ (some 97) rfl rfl Try.func15 (by kernel_rfl) rfl #[.slice (some ad293) l0.length c0, .int .i64 ((rd_T41 l0 a1).f2), .int .i64 ((rd_T41 l0 a1).f3), .int .i64 a2] rfl (by (try simp only [List.map_toArray, List.map_cons, List.map_nil]); first | done | rfl | (simp only [List.length_drop, List.length_take]; rfl)) ?_; (with_reducible refine (weather_Of.calls _ _ l0 ((rd_T41 l0 a1).f2) ((rd_T41 l0 a1).f3) a2 t297 t298 t299 t300 t301 t302 _ ?side1 ?side2 A50.out).mono ?_); (case side1 => repeat (first | exact (Kd.C_below HR0.out HB.out) | (with_reducible refine Kd.C_alloc ?_ _) | (with_reducible refine Kd.C_drewN ?_ _) | (with_reducible refine Kd.C_drew ?_))); (case side2 => exact HC0.out); rintro e w63 ⟨rfl, hb⟩; refine ⟨_, rfl, ?_⟩; have n0_ := Aside0.mk (zb BK294.out hb); have n1_ := Aside0.mk (below_step (by repeat (first | (with_reducible first | exact HB.out | apply below_alloc | apply pw_below_drewN | apply below_drew1 | refine below_set ?_ GE294.out) | exact HB.out)) hb); clear BK294; clear HB; have BK294 := n0_; have HB := n1_; clear n0_ n1_; (try clear hb); (try clear hb2); (try clear hk); (try clear hi)) | ((with_reducible refine gate_dst (N := 11) rfl ?_); (try (refine gate_guard (by rfl) ?_; dsimp only)); refine box_event ?hg (N := 11) ?hd (cs := #[.int .i64 0, .int .i64 0, .int .i64 0, .int .i64 0]) (t := 39) ?hr ?_; (case hd => rfl); (case hg => rfl); (case hr => first | (go_simp; done) | (go_simp; rfl)); intro gb303 hg w64 hbox hb; have n0_ := Aside0.mk (zb BK294.out hb); have n1_ := Aside0.mk (below_step (by repeat (first | (with_reducible first | exact HB.out | apply below_alloc | apply pw_below_drewN | apply below_drew1 | refine below_set ?_ GE294.out) | exact HB.out)) hb); have n2_ := Aside0.mk (hbox); have n3_ := Aside0.mk ((by rw [hg]; exact (below_size (by repeat (first | (with_reducible first | exact HB.out | apply below_alloc | apply pw_below_drewN | apply below_drew1 | refine below_set ?_ GE294.out) | exact HB.out))) : w.heap.size ≤ gb303)); have n4_ := Aside0.mk ((by rw [hg]; exact (below_size (by repeat (first | (with_reducible first | exact HB.out | apply below_alloc | apply pw_below_drewN | apply below_drew1 | refine below_set ?_ GE294.out) | exact HB.out))) : w.heap.size ≤ gb303)); have n5_ := Aside0.mk ((by rw [hg]; exact Nat.ne_of_lt (blk_lt (zk BK294.out)) : gb294 ≠ gb303)); have n6_ := Aside0.mk ((by rw [hg]; exact Nat.ne_of_gt (blk_lt (zk BK294.out)) : gb303 ≠ gb294)); clear BK294; clear HB; have BK294 := n0_; have HB := n1_; have BK303 := n2_; have GW303 := n3_; have GE303 := n4_; have NB294_303 := n5_; have NB303_294 := n6_; clear n0_ n1_ n2_ n3_ n4_ n5_ n6_; clear hb hbox hg; have hnb65 := NB303_294.out; have hnc65 := NB294_303.out; have hcz66_0 : w64.cell? ⟨gb303, 0, none⟩ = some (.int .i64 0) := (blk_cell BK303.out 0).trans rfl; have hcz66_1 : w64.cell? ⟨gb303, 1, none⟩ = some (.int .i64 0) := (blk_cell BK303.out 1).trans rfl; have hcz66_2 : w64.cell? ⟨gb303, 2, none⟩ = some (.int .i64 0) := (blk_cell BK303.out 2).trans rfl; have hcz66_3 : w64.cell? ⟨gb303, 3, none⟩ = some (.int .i64 0) := (blk_cell BK303.out 3).trans rfl; have hfz66_0 := blk_frozen BK303.out 0; have hfz66_1 := blk_frozen BK303.out 1; have hfz66_2 := blk_frozen BK303.out 2; have hfz66_3 := blk_frozen BK303.out 3))
                  have n0_ : Aside0 (((((w64.setCell ⟨gb303, 0, none⟩ (.int .i64 t297)).setCell ⟨gb303, 1, none⟩ (.int .i64 t298)).setCell ⟨gb303, 2, none⟩ (.int .i64 t299)).setCell ⟨gb303, 3, none⟩ (.int .i64 t300)).heap[gb294]? = some (.cells #[.int .i64 ((rd_T41 l0 a1).f0), .int .i64 ((rd_T41 l0 a1).f1), .int .i64 ((rd_T41 l0 a1).f2), .int .i64 ((rd_T41 l0 a1).f3), .int .i64 ((rd_T41 l0 a1).f4), .int .i64 ((rd_T41 l0 a1).f5.f0), .int .i64 ((rd_T41 l0 a1).f5.f1), .int .i64 ((rd_T41 l0 a1).f6.f0), .int .i64 ((rd_T41 l0 a1).f6.f1)] 41 (0, 0))) := ⟨by (with_reducible repeat (first | refine blk_drewN ?_ _ | refine blk_drew ?_ | refine blk_alloc ?_ _)); refine blk_far ?_ NB294_303.out _; (with_reducible repeat (first | refine blk_drewN ?_ _ | refine blk_drew ?_ | refine blk_alloc ?_ _)); refine blk_far ?_ NB294_303.out _; (with_reducible repeat (first | refine blk_drewN ?_ _ | refine blk_drew ?_ | refine blk_alloc ?_ _)); refine blk_far ?_ NB294_303.out _; (with_reducible repeat (first | refine blk_drewN ?_ _ | refine blk_drew ?_ | refine blk_alloc ?_ _)); refine blk_far ?_ NB294_303.out _; (with_reducible repeat (first | refine blk_drewN ?_ _ | refine blk_drew ?_ | refine blk_alloc ?_ _)); exact BK294.out⟩
                  have n1_ : Aside0 (((((w64.setCell ⟨gb303, 0, none⟩ (.int .i64 t297)).setCell ⟨gb303, 1, none⟩ (.int .i64 t298)).setCell ⟨gb303, 2, none⟩ (.int .i64 t299)).setCell ⟨gb303, 3, none⟩ (.int .i64 t300)).heap[gb303]? = some (.cells #[.int .i64 t297, .int .i64 t298, .int .i64 t299, .int .i64 t300] 39 (0, 0))) := ⟨by (with_reducible repeat (first | refine blk_drewN ?_ _ | refine blk_drew ?_ | refine blk_alloc ?_ _)); refine blk_put (cs := #[.int .i64 t297, .int .i64 t298, .int .i64 t299, .int .i64 0]) ?_ 3 _ rfl; (with_reducible repeat (first | refine blk_drewN ?_ _ | refine blk_drew ?_ | refine blk_alloc ?_ _)); refine blk_put (cs := #[.int .i64 t297, .int .i64 t298, .int .i64 0, .int .i64 0]) ?_ 2 _ rfl; (with_reducible repeat (first | refine blk_drewN ?_ _ | refine blk_drew ?_ | refine blk_alloc ?_ _)); refine blk_put (cs := #[.int .i64 t297, .int .i64 0, .int .i64 0, .int .i64 0]) ?_ 1 _ rfl; (with_reducible repeat (first | refine blk_drewN ?_ _ | refine blk_drew ?_ | refine blk_alloc ?_ _)); refine blk_put (cs := #[.int .i64 0, .int .i64 0, .int .i64 0, .int .i64 0]) ?_ 0 _ rfl; (with_reducible repeat (first | refine blk_drewN ?_ _ | refine blk_drew ?_ | refine blk_alloc ?_ _)); exact BK303.out⟩
                  have n2_ : Aside0 (Below w.heap.size w ((((w64.setCell ⟨gb303, 0, none⟩ (.int .i64 t297)).setCell ⟨gb303, 1, none⟩ (.int .i64 t298)).setCell ⟨gb303, 2, none⟩ (.int .i64 t299)).setCell ⟨gb303, 3, none⟩ (.int .i64 t300))) := ⟨by repeat (first | (with_reducible first | exact HB.out | apply below_alloc | apply pw_below_drewN | apply below_drew1 | refine below_set ?_ GE294.out | refine below_set ?_ GE303.out) | exact HB.out)⟩
                  (try clear BK294)
                  (try clear BK303)
                  (try clear HB)
                  generalize ((((w64.setCell ⟨gb303, 0, none⟩ (.int .i64 t297)).setCell ⟨gb303, 1, none⟩ (.int .i64 t298)).setCell ⟨gb303, 2, none⟩ (.int .i64 t299)).setCell ⟨gb303, 3, none⟩ (.int .i64 t300)) = w67 at n0_ n1_ n2_ ⊢
                  have BK294 := n0_
                  have BK303 := n1_
                  have HB := n2_
                  clear n0_ n1_ n2_
                  have n0_ := Aside0.mk (blk_drew BK294.out)
                  have n1_ := Aside0.mk (blk_drew BK303.out)
                  have n2_ := Aside0.mk (below_drew1 HB.out)
                  clear BK294
                  clear BK303
                  clear HB
                  have BK294 := n0_
                  have BK303 := n1_
                  have HB := n2_
                  clear n0_ n1_ n2_
                  have q69 : (a1 : Int) ≤ ((l0.length : Int) : Int) := of_decide_eq_true (by first | (with_reducible assumption) | assumption)
                  obtain ⟨i069, hi069, _, hsz69, _⟩ := info_parts info41
                  have hroom69 : l0.length ≤ c0 := HC0.out
                  have hC69 : Kd.C k41 _ (some ad293) l0.length l0 := HR0.out
                  have hcut69 := cut_to (P := Try.prog) 29 41 .i64 Try.underlying29 hi069 (some ad293) l0.length c0 a1 (of_decide_eq_true (by first | (with_reducible assumption) | assumption)) q69 hroom69
                  have hr69 := Kd.C_take (m := (a1 : Int).toNat) hC69 (by omega)
                  have hy69 : y307.length = (a1 : Int).toNat := (by rw [Ny307.out, List.length_take]; omega)
                  rw [← Ny307.out] at hr69
                  rw [← hy69] at hcut69
                  have HR310 := Aside0.mk hr69
                  have HC310 := Aside0.mk (show y307.length ≤ c0 from by omega)
                  clear hr69 hC69 hroom69 hi069 hsz69
                  have KY69 := Aside0.mk hy69
                  clear hy69
                  replace q69 := eq_true q69
                  have q70 : ((ji56) : Int) ≤ ((l0.length : Int) : Int) := of_decide_eq_true (by first | (with_reducible assumption) | assumption)
                  obtain ⟨i070, hi070, _, hsz70, _⟩ := info_parts info41
                  have hroom70 : l0.length ≤ c0 := HC0.out
                  have hC70 : Kd.C k41 _ (some ad293) l0.length l0 := HR0.out
                  have q070 : (0 : Int) ≤ ((ji56) : Int) := of_decide_eq_true (by first | (with_reducible assumption) | assumption)
                  have hcut70 := cut_from (P := Try.prog) 29 41 .i64 Try.underlying29 hi070 9 hsz70 (some ad293) l0.length c0 (ji56) q070 q70
                  have hr70 := Kd.C_drop (m := ((ji56) : Int).toNat) (c := c0) hC70 (by omega) hroom70
                  obtain ⟨A70, hA70⟩ : ∃ A1, A1 = (if c0 = ((ji56) : Int).toNat then (some ad293) else ((some ad293) : Option Addr).map (·.add (((ji56) : Int).toNat * 9))) := ⟨_, rfl⟩
                  obtain ⟨c70, hc70⟩ : ∃ c1, c1 = c0 - ((ji56) : Int).toNat := ⟨_, rfl⟩
                  have hy70 : y314.length = l0.length - ((ji56) : Int).toNat := (by rw [Ny314.out, List.length_drop] <;> omega)
                  rw [show (l0).drop ((ji56) : Int).toNat = y314 from Ny314.out.symm] at hr70
                  replace hr70 : Kd.C k41 _ A70 y314.length y314 := (by rw [hA70]; exact hr70)
                  rw [← hy70, ← hA70, ← hc70] at hcut70
                  have HR317 := Aside0.mk hr70
                  have HC317 := Aside0.mk (show y314.length ≤ c70 from by rw [hy70, hc70]; exact Nat.sub_le_sub_right hroom70 _)
                  clear hr70 hC70 hroom70 hi070 hsz70 hc70
                  have KY70 := Aside0.mk hy70
                  have KA70 := Aside0.mk hA70
                  clear hy70 hA70
                  replace q70 := eq_true q70
                  refine start_ (n := 24) (S := fun w' => w'.cell? ⟨gb294, 0, none⟩ = some (.int .i64 ((rd_T41 l0 a1).f0)) ∧ w'.cell? ⟨gb294, 1, none⟩ = some (.int .i64 ((rd_T41 l0 a1).f1)) ∧ w'.cell? ⟨gb294, 2, none⟩ = some (.int .i64 ((rd_T41 l0 a1).f2)) ∧ w'.cell? ⟨gb294, 3, none⟩ = some (.int .i64 ((rd_T41 l0 a1).f3)) ∧ w'.cell? ⟨gb294, 4, none⟩ = some (.int .i64 ((rd_T41 l0 a1).f4)) ∧ w'.cell? ⟨gb294, 5, none⟩ = some (.int .i64 ((rd_T41 l0 a1).f5.f0)) ∧ w'.cell? ⟨gb294, 6, none⟩ = some (.int .i64 ((rd_T41 l0 a1).f5.f1)) ∧ w'.cell? ⟨gb294, 7, none⟩ = some (.int .i64 ((rd_T41 l0 a1).f6.f0)) ∧ w'.cell? ⟨gb294, 8, none⟩ = some (.int .i64 ((rd_T41 l0 a1).f6.f1))) (ds := []) #[false, false, false, false, false, false, false, false, false, false, false, false, false, false, false, false, false, false, false, false, false, false, false, false] (by kernel_rfl) rfl rfl ⟨(blk_cell BK294.out 0).trans rfl, (blk_cell BK294.out 1).trans rfl, (blk_cell BK294.out 2).trans rfl, (blk_cell BK294.out 3).trans rfl, (blk_cell BK294.out 4).trans rfl, (blk_cell BK294.out 5).trans rfl, (blk_cell BK294.out 6).trans rfl, (blk_cell BK294.out 7).trans rfl, (blk_cell BK294.out 8).trans rfl⟩ (fun hHeld => ?_); refine with_tabW fastilaw27_WeatherReplaced.tab16 fastilaw27_WeatherReplaced.bits16 (fun HT_ HW_ => ?_)
                  generalize w67.drew = w68 at BK294 BK303 HB HR310 HR317 hHeld ⊢
                  refine pure_ (i := 1) (N := some 109) (v := ?_) (a' := ?_) #[false, true, false, false, false, false, false, false, false, false, false, false, false, false, false, false, false, false, false, false, false, false, false, false] rfl rfl (any_of HT_.out (by kernel_rfl)) (fun _ _ _ h => h) (Or.inl ⟨by rfl, ?_⟩) ?_ ?_
                  rotate_left
                  ·intro w'
                   go_simp
                   with_reducible rfl
                  rotate_left
                  ·simp only [Act.put, List.setIfInBounds_toArray, List.set_cons_zero, List.set_cons_succ, i64_w, i32_w]
                   rfl
                  refine pure_ (i := 2) (N := some 110) (v := ?_) (a' := ?_) #[false, true, true, false, false, false, false, false, false, false, false, false, false, false, false, false, false, false, false, false, false, false, false, false] rfl rfl (any_of HT_.out (by kernel_rfl)) (fun _ _ _ h => h) (Or.inl ⟨by rfl, ?_⟩) ?_ ?_
                  rotate_left
                  ·intro w'
                   go_simp
                   with_reducible rfl
                  rotate_left
                  ·simp only [Act.put, List.setIfInBounds_toArray, List.set_cons_zero, List.set_cons_succ, i64_w, i32_w]
                   rfl
                  refine pure_ (i := 3) (N := some 111) (v := ?_) (a' := ?_) #[false, true, true, true, false, false, false, false, false, false, false, false, false, false, false, false, false, false, false, false, false, false, false, false] rfl rfl (any_of HT_.out (by kernel_rfl)) (fun _ _ _ h => h) (Or.inl ⟨by rfl, ?_⟩) ?_ ?_
                  rotate_left
                  ·intro w'
                   go_simp
                   with_reducible rfl
                  rotate_left
                  ·simp only [Act.put, List.setIfInBounds_toArray, List.set_cons_zero, List.set_cons_succ, i64_w, i32_w]
                   rfl
                  refine pure_ (i := 5) (N := some 113) (v := ?_) (a' := ?_) #[false, true, true, true, false, true, false, false, false, false, false, false, false, false, false, false, false, false, false, false, false, false, false, false] rfl rfl (any_of HT_.out (by kernel_rfl)) (fun _ _ _ h => h) (Or.inl ⟨by rfl, ?_⟩) ?_ ?_
                  rotate_left
                  ·intro w'
                   go_simp
                   with_reducible rfl
                  rotate_left
                  ·simp only [Act.put, List.setIfInBounds_toArray, List.set_cons_zero, List.set_cons_succ, i64_w, i32_w]
                   rfl
                  refine pure_ (i := 6) (N := some 114) (v := ?_) (a' := ?_) #[false, true, true, true, false, true, true, false, false, false, false, false, false, false, false, false, false, false, false, false, false, false, false, false] rfl rfl (any_of HT_.out (by kernel_rfl)) (fun _ _ _ h => h) (Or.inl ⟨by rfl, ?_⟩) ?_ ?_
                  rotate_left
                  ·intro w'
                   go_simp
                   with_reducible rfl
                  rotate_left
                  ·simp only [Act.put, List.setIfInBounds_toArray, List.set_cons_zero, List.set_cons_succ, i64_w, i32_w]
                   rfl
                  refine pure_ (i := 7) (N := some 115) (v := ?_) (a' := ?_) #[false, true, true, true, false, true, true, true, false, false, false, false, false, false, false, false, false, false, false, false, false, false, false, false] rfl rfl (any_of HT_.out (by kernel_rfl)) (fun _ _ _ h => h) (Or.inl ⟨by rfl, ?_⟩) ?_ ?_
                  rotate_left
                  ·intro w'
                   go_simp
                   with_reducible rfl
                  rotate_left
                  ·simp only [Act.put, List.setIfInBounds_toArray, List.set_cons_zero, List.set_cons_succ, i64_w, i32_w]
                   rfl
                  refine pure_ (i := 8) (N := some 116) (v := ?_) (a' := ?_) #[false, true, true, true, false, true, true, true, true, false, false, false, false, false, false, false, false, false, false, false, false, false, false, false] rfl rfl (any_of HT_.out (by kernel_rfl)) (fun _ _ _ h => h) (Or.inl ⟨by rfl, ?_⟩) ?_ ?_
                  rotate_left
                  ·intro w'
                   go_simp
                   with_reducible rfl
                  rotate_left
                  ·simp only [Act.put, List.setIfInBounds_toArray, List.set_cons_zero, List.set_cons_succ, i64_w, i32_w]
                   rfl
                  refine pure_ (i := 10) (N := some 118) (v := ?_) (a' := ?_) #[false, true, true, true, false, true, true, true, true, false, true, false, false, false, false, false, false, false, false, false, false, false, false, false] rfl rfl (any_of HT_.out (by kernel_rfl)) (fun _ _ _ h => h) (Or.inl ⟨by rfl, ?_⟩) ?_ ?_
                  rotate_left
                  ·intro w'
                   go_simp
                   with_reducible rfl
                  rotate_left
                  ·simp only [Act.put, List.setIfInBounds_toArray, List.set_cons_zero, List.set_cons_succ, i64_w, i32_w]
                   rfl
                  refine pure_ (i := 12) (N := some 120) (v := ?_) (a' := ?_) #[false, true, true, true, false, true, true, true, true, false, true, false, true, false, false, false, false, false, false, false, false, false, false, false] rfl rfl (any_of HT_.out (by kernel_rfl)) (fun _ _ _ h => h) (Or.inl ⟨by rfl, ?_⟩) ?_ ?_
                  rotate_left
                  ·intro w'
                   go_simp
                   with_reducible rfl
                  rotate_left
                  ·simp only [Act.put, List.setIfInBounds_toArray, List.set_cons_zero, List.set_cons_succ, i64_w, i32_w]
                   rfl
                  refine pure_ (i := 14) (N := some 122) (v := ?_) (a' := ?_) #[false, true, true, true, false, true, true, true, true, false, true, false, true, false, true, false, false, false, false, false, false, false, false, false] rfl rfl (any_of HT_.out (by kernel_rfl)) (fun _ _ _ h => h) (Or.inl ⟨by rfl, ?_⟩) ?_ ?_
                  rotate_left
                  ·intro w'
                   go_simp
                   with_reducible rfl
                  rotate_left
                  ·simp only [Act.put, List.setIfInBounds_toArray, List.set_cons_zero, List.set_cons_succ, i64_w, i32_w]
                   rfl
                  refine take_ (i := 11) (N := some 119) (v := ?_) (a' := ?_) #[false, true, true, true, false, true, true, true, true, false, true, true, true, false, true, false, false, false, false, false, false, false, false, false] rfl rfl (take_ofW HT_.out HW_.out (by kernel_rfl)) (fun _ _ _ h => h) (Or.inl ⟨by rfl, ?_⟩) hHeld ?_ ?_
                  rotate_left
                  ·rintro w' ⟨s0, s1, s2, s3, s4, s5, s6, s7, s8⟩
                   go_simp
                   with_reducible rfl
                  rotate_left
                  ·simp only [Act.put, List.setIfInBounds_toArray, List.set_cons_zero, List.set_cons_succ, i64_w, i32_w]
                   rfl
                  refine take_ (i := 13) (N := some 121) (v := ?_) (a' := ?_) #[false, true, true, true, false, true, true, true, true, false, true, true, true, true, true, false, false, false, false, false, false, false, false, false] rfl rfl (take_ofW HT_.out HW_.out (by kernel_rfl)) (fun _ _ _ h => h) (Or.inl ⟨by rfl, ?_⟩) hHeld ?_ ?_
                  rotate_left
                  ·rintro w' ⟨s0, s1, s2, s3, s4, s5, s6, s7, s8⟩
                   go_simp
                   with_reducible rfl
                  rotate_left
                  ·simp only [Act.put, List.setIfInBounds_toArray, List.set_cons_zero, List.set_cons_succ, i64_w, i32_w]
                   rfl
                  refine join_ (σ := Value × Value × Value × Nat) 3 #[true, true, true, true, true, true, true, true, true, true, true, true, true, true, true, true, true, true, true, true, true, false, false, false] (fun s_ => [(108, s_.1), (112, s_.2.1), (117, s_.2.2.1), (123, .tuple #[.agg #[.int .i64 t321, .int .i64 t322, .int .i64 t323, .int .i64 t324], .int .i64 t325, .int .i64 t326]), (14, .pointer (some ⟨s_.2.2.2, 0, none⟩)), (107, .tuple #[.agg #[.int .i64 t321, .int .i64 t322, .int .i64 t323, .int .i64 t324], .int .i64 t325, .int .i64 t326]), (124, .agg #[.int .i64 t321, .int .i64 t322, .int .i64 t323, .int .i64 t324]), (125, .int .i64 t325), (126, .int .i64 t326)]) (fun s_ w' => (w'.cell? ⟨gb294, 0, none⟩ = some (.int .i64 ((rd_T41 l0 a1).f0)) ∧ w'.cell? ⟨gb294, 1, none⟩ = some (.int .i64 ((rd_T41 l0 a1).f1)) ∧ w'.cell? ⟨gb294, 2, none⟩ = some (.int .i64 ((rd_T41 l0 a1).f2)) ∧ w'.cell? ⟨gb294, 3, none⟩ = some (.int .i64 ((rd_T41 l0 a1).f3)) ∧ w'.cell? ⟨gb294, 4, none⟩ = some (.int .i64 ((rd_T41 l0 a1).f4)) ∧ w'.cell? ⟨gb294, 5, none⟩ = some (.int .i64 ((rd_T41 l0 a1).f5.f0)) ∧ w'.cell? ⟨gb294, 6, none⟩ = some (.int .i64 ((rd_T41 l0 a1).f5.f1)) ∧ w'.cell? ⟨gb294, 7, none⟩ = some (.int .i64 ((rd_T41 l0 a1).f6.f0)) ∧ w'.cell? ⟨gb294, 8, none⟩ = some (.int .i64 ((rd_T41 l0 a1).f6.f1))) ∧ (Kd.R k41 41 w' w.heap.size (fun k_ => k_ ≠ gb294) s_.2.2.1 y318) ∧ (w'.heap[gb294]? = some (.cells #[.int .i64 ((rd_T41 l0 a1).f0), .int .i64 ((rd_T41 l0 a1).f1), .int .i64 ((rd_T41 l0 a1).f2), .int .i64 ((rd_T41 l0 a1).f3), .int .i64 ((rd_T41 l0 a1).f4), .int .i64 ((rd_T41 l0 a1).f5.f0), .int .i64 ((rd_T41 l0 a1).f5.f1), .int .i64 ((rd_T41 l0 a1).f6.f0), .int .i64 ((rd_T41 l0 a1).f6.f1)] 41 (0, 0))) ∧ (w'.heap[gb303]? = some (.cells #[.int .i64 t297, .int .i64 t298, .int .i64 t299, .int .i64 t300] 39 (0, 0))) ∧ (w'.heap[s_.2.2.2]? = some (.cells #[.int .i64 0, .int .i64 0, .int .i64 0, .int .i64 0] 39 (0, 0))) ∧ (w.heap.size ≤ s_.2.2.2) ∧ (w.heap.size ≤ s_.2.2.2) ∧ (gb294 ≠ s_.2.2.2) ∧ (s_.2.2.2 ≠ gb294) ∧ (gb303 ≠ s_.2.2.2) ∧ (s_.2.2.2 ≠ gb303) ∧ (Below w.heap.size w w')) ?_ ?_
                  rotate_left
                  ·intro hJ0_4_9_15_20
                   refine join_ (σ := Value × Value × Value) 4 #[true, true, true, true, true, true, true, true, true, true, true, true, true, true, true, true, true, true, true, true, false, false, false, false] (fun s_ => [(108, s_.1), (112, s_.2.1), (117, s_.2.2), (123, .tuple #[.agg #[.int .i64 t321, .int .i64 t322, .int .i64 t323, .int .i64 t324], .int .i64 t325, .int .i64 t326]), (107, .tuple #[.agg #[.int .i64 t321, .int .i64 t322, .int .i64 t323, .int .i64 t324], .int .i64 t325, .int .i64 t326]), (124, .agg #[.int .i64 t321, .int .i64 t322, .int .i64 t323, .int .i64 t324]), (125, .int .i64 t325), (126, .int .i64 t326)]) (fun s_ w' => (w'.cell? ⟨gb294, 0, none⟩ = some (.int .i64 ((rd_T41 l0 a1).f0)) ∧ w'.cell? ⟨gb294, 1, none⟩ = some (.int .i64 ((rd_T41 l0 a1).f1)) ∧ w'.cell? ⟨gb294, 2, none⟩ = some (.int .i64 ((rd_T41 l0 a1).f2)) ∧ w'.cell? ⟨gb294, 3, none⟩ = some (.int .i64 ((rd_T41 l0 a1).f3)) ∧ w'.cell? ⟨gb294, 4, none⟩ = some (.int .i64 ((rd_T41 l0 a1).f4)) ∧ w'.cell? ⟨gb294, 5, none⟩ = some (.int .i64 ((rd_T41 l0 a1).f5.f0)) ∧ w'.cell? ⟨gb294, 6, none⟩ = some (.int .i64 ((rd_T41 l0 a1).f5.f1)) ∧ w'.cell? ⟨gb294, 7, none⟩ = some (.int .i64 ((rd_T41 l0 a1).f6.f0)) ∧ w'.cell? ⟨gb294, 8, none⟩ = some (.int .i64 ((rd_T41 l0 a1).f6.f1))) ∧ (Kd.R k41 41 w' w.heap.size (fun k_ => k_ ≠ gb294) s_.2.2 y318) ∧ (w'.heap[gb294]? = some (.cells #[.int .i64 ((rd_T41 l0 a1).f0), .int .i64 ((rd_T41 l0 a1).f1), .int .i64 ((rd_T41 l0 a1).f2), .int .i64 ((rd_T41 l0 a1).f3), .int .i64 ((rd_T41 l0 a1).f4), .int .i64 ((rd_T41 l0 a1).f5.f0), .int .i64 ((rd_T41 l0 a1).f5.f1), .int .i64 ((rd_T41 l0 a1).f6.f0), .int .i64 ((rd_T41 l0 a1).f6.f1)] 41 (0, 0))) ∧ (w'.heap[gb303]? = some (.cells #[.int .i64 t297, .int .i64 t298, .int .i64 t299, .int .i64 t300] 39 (0, 0))) ∧ (Below w.heap.size w w')) ?_ ?_
                   rotate_left
                   ·intro hJ0_4_9_15
                    refine join_ (σ := Value × Value × Value × Nat) 8 #[true, true, true, true, true, true, true, true, true, true, true, true, true, true, true, false, false, false, false, false, true, false, false, false] (fun s_ => [(108, s_.1), (112, s_.2.1), (117, s_.2.2.1), (14, .pointer (some ⟨s_.2.2.2, 0, none⟩))]) (fun s_ w' => (w'.cell? ⟨gb294, 0, none⟩ = some (.int .i64 ((rd_T41 l0 a1).f0)) ∧ w'.cell? ⟨gb294, 1, none⟩ = some (.int .i64 ((rd_T41 l0 a1).f1)) ∧ w'.cell? ⟨gb294, 2, none⟩ = some (.int .i64 ((rd_T41 l0 a1).f2)) ∧ w'.cell? ⟨gb294, 3, none⟩ = some (.int .i64 ((rd_T41 l0 a1).f3)) ∧ w'.cell? ⟨gb294, 4, none⟩ = some (.int .i64 ((rd_T41 l0 a1).f4)) ∧ w'.cell? ⟨gb294, 5, none⟩ = some (.int .i64 ((rd_T41 l0 a1).f5.f0)) ∧ w'.cell? ⟨gb294, 6, none⟩ = some (.int .i64 ((rd_T41 l0 a1).f5.f1)) ∧ w'.cell? ⟨gb294, 7, none⟩ = some (.int .i64 ((rd_T41 l0 a1).f6.f0)) ∧ w'.cell? ⟨gb294, 8, none⟩ = some (.int .i64 ((rd_T41 l0 a1).f6.f1))) ∧ (Kd.R k41 41 w' w.heap.size (fun k_ => k_ ≠ gb294) s_.2.2.1 y318) ∧ (w'.heap[gb294]? = some (.cells #[.int .i64 ((rd_T41 l0 a1).f0), .int .i64 ((rd_T41 l0 a1).f1), .int .i64 ((rd_T41 l0 a1).f2), .int .i64 ((rd_T41 l0 a1).f3), .int .i64 ((rd_T41 l0 a1).f4), .int .i64 ((rd_T41 l0 a1).f5.f0), .int .i64 ((rd_T41 l0 a1).f5.f1), .int .i64 ((rd_T41 l0 a1).f6.f0), .int .i64 ((rd_T41 l0 a1).f6.f1)] 41 (0, 0))) ∧ (w'.heap[gb303]? = some (.cells #[.int .i64 t297, .int .i64 t298, .int .i64 t299, .int .i64 t300] 39 (0, 0))) ∧ (w'.heap[s_.2.2.2]? = some (.cells #[.int .i64 0, .int .i64 0, .int .i64 0, .int .i64 0] 39 (0, 0))) ∧ (w.heap.size ≤ s_.2.2.2) ∧ (w.heap.size ≤ s_.2.2.2) ∧ (gb294 ≠ s_.2.2.2) ∧ (s_.2.2.2 ≠ gb294) ∧ (gb303 ≠ s_.2.2.2) ∧ (s_.2.2.2 ≠ gb303) ∧ (Below w.heap.size w w')) ?_ ?_
                    rotate_left
                    ·intro hJ0_4_9_20
                     refine join_ (σ := Value × Value × Value) 9 #[true, true, true, true, true, true, true, true, true, true, true, true, true, true, true, false, false, false, false, false, false, false, false, false] (fun s_ => [(108, s_.1), (112, s_.2.1), (117, s_.2.2)]) (fun s_ w' => (w'.cell? ⟨gb294, 0, none⟩ = some (.int .i64 ((rd_T41 l0 a1).f0)) ∧ w'.cell? ⟨gb294, 1, none⟩ = some (.int .i64 ((rd_T41 l0 a1).f1)) ∧ w'.cell? ⟨gb294, 2, none⟩ = some (.int .i64 ((rd_T41 l0 a1).f2)) ∧ w'.cell? ⟨gb294, 3, none⟩ = some (.int .i64 ((rd_T41 l0 a1).f3)) ∧ w'.cell? ⟨gb294, 4, none⟩ = some (.int .i64 ((rd_T41 l0 a1).f4)) ∧ w'.cell? ⟨gb294, 5, none⟩ = some (.int .i64 ((rd_T41 l0 a1).f5.f0)) ∧ w'.cell? ⟨gb294, 6, none⟩ = some (.int .i64 ((rd_T41 l0 a1).f5.f1)) ∧ w'.cell? ⟨gb294, 7, none⟩ = some (.int .i64 ((rd_T41 l0 a1).f6.f0)) ∧ w'.cell? ⟨gb294, 8, none⟩ = some (.int .i64 ((rd_T41 l0 a1).f6.f1))) ∧ (Kd.R k41 41 w' w.heap.size (fun k_ => k_ ≠ gb294) s_.2.2 y318) ∧ (w'.heap[gb294]? = some (.cells #[.int .i64 ((rd_T41 l0 a1).f0), .int .i64 ((rd_T41 l0 a1).f1), .int .i64 ((rd_T41 l0 a1).f2), .int .i64 ((rd_T41 l0 a1).f3), .int .i64 ((rd_T41 l0 a1).f4), .int .i64 ((rd_T41 l0 a1).f5.f0), .int .i64 ((rd_T41 l0 a1).f5.f1), .int .i64 ((rd_T41 l0 a1).f6.f0), .int .i64 ((rd_T41 l0 a1).f6.f1)] 41 (0, 0))) ∧ (w'.heap[gb303]? = some (.cells #[.int .i64 t297, .int .i64 t298, .int .i64 t299, .int .i64 t300] 39 (0, 0))) ∧ (Below w.heap.size w w')) ?_ ?_
                     rotate_left
                     ·intro hJ0_4_9
                      refine join_ (σ := Value × Value × Nat) 9 #[true, true, true, true, true, true, true, true, true, false, true, true, true, true, true, false, false, false, false, false, true, false, false, false] (fun s_ => [(108, s_.1), (112, s_.2.1), (14, .pointer (some ⟨s_.2.2, 0, none⟩))]) (fun s_ w' => (w'.cell? ⟨gb294, 0, none⟩ = some (.int .i64 ((rd_T41 l0 a1).f0)) ∧ w'.cell? ⟨gb294, 1, none⟩ = some (.int .i64 ((rd_T41 l0 a1).f1)) ∧ w'.cell? ⟨gb294, 2, none⟩ = some (.int .i64 ((rd_T41 l0 a1).f2)) ∧ w'.cell? ⟨gb294, 3, none⟩ = some (.int .i64 ((rd_T41 l0 a1).f3)) ∧ w'.cell? ⟨gb294, 4, none⟩ = some (.int .i64 ((rd_T41 l0 a1).f4)) ∧ w'.cell? ⟨gb294, 5, none⟩ = some (.int .i64 ((rd_T41 l0 a1).f5.f0)) ∧ w'.cell? ⟨gb294, 6, none⟩ = some (.int .i64 ((rd_T41 l0 a1).f5.f1)) ∧ w'.cell? ⟨gb294, 7, none⟩ = some (.int .i64 ((rd_T41 l0 a1).f6.f0)) ∧ w'.cell? ⟨gb294, 8, none⟩ = some (.int .i64 ((rd_T41 l0 a1).f6.f1))) ∧ (Kd.R k41 41 w' w.heap.size (fun k_ => k_ ≠ gb294) s_.2.1 y311) ∧ (w'.heap[gb294]? = some (.cells #[.int .i64 ((rd_T41 l0 a1).f0), .int .i64 ((rd_T41 l0 a1).f1), .int .i64 ((rd_T41 l0 a1).f2), .int .i64 ((rd_T41 l0 a1).f3), .int .i64 ((rd_T41 l0 a1).f4), .int .i64 ((rd_T41 l0 a1).f5.f0), .int .i64 ((rd_T41 l0 a1).f5.f1), .int .i64 ((rd_T41 l0 a1).f6.f0), .int .i64 ((rd_T41 l0 a1).f6.f1)] 41 (0, 0))) ∧ (w'.heap[gb303]? = some (.cells #[.int .i64 t297, .int .i64 t298, .int .i64 t299, .int .i64 t300] 39 (0, 0))) ∧ (w'.heap[s_.2.2]? = some (.cells #[.int .i64 0, .int .i64 0, .int .i64 0, .int .i64 0] 39 (0, 0))) ∧ (w.heap.size ≤ s_.2.2) ∧ (w.heap.size ≤ s_.2.2) ∧ (gb294 ≠ s_.2.2) ∧ (s_.2.2 ≠ gb294) ∧ (gb303 ≠ s_.2.2) ∧ (s_.2.2 ≠ gb303) ∧ (Below w.heap.size w w')) ?_ ?_
                      rotate_left
                      ·intro hJ0_4_20
                       refine join_ (σ := Value × Value) 10 #[true, true, true, true, true, true, true, true, true, false, true, true, true, true, true, false, false, false, false, false, false, false, false, false] (fun s_ => [(108, s_.1), (112, s_.2)]) (fun s_ w' => (w'.cell? ⟨gb294, 0, none⟩ = some (.int .i64 ((rd_T41 l0 a1).f0)) ∧ w'.cell? ⟨gb294, 1, none⟩ = some (.int .i64 ((rd_T41 l0 a1).f1)) ∧ w'.cell? ⟨gb294, 2, none⟩ = some (.int .i64 ((rd_T41 l0 a1).f2)) ∧ w'.cell? ⟨gb294, 3, none⟩ = some (.int .i64 ((rd_T41 l0 a1).f3)) ∧ w'.cell? ⟨gb294, 4, none⟩ = some (.int .i64 ((rd_T41 l0 a1).f4)) ∧ w'.cell? ⟨gb294, 5, none⟩ = some (.int .i64 ((rd_T41 l0 a1).f5.f0)) ∧ w'.cell? ⟨gb294, 6, none⟩ = some (.int .i64 ((rd_T41 l0 a1).f5.f1)) ∧ w'.cell? ⟨gb294, 7, none⟩ = some (.int .i64 ((rd_T41 l0 a1).f6.f0)) ∧ w'.cell? ⟨gb294, 8, none⟩ = some (.int .i64 ((rd_T41 l0 a1).f6.f1))) ∧ (Kd.R k41 41 w' w.heap.size (fun k_ => k_ ≠ gb294) s_.2 y311) ∧ (w'.heap[gb294]? = some (.cells #[.int .i64 ((rd_T41 l0 a1).f0), .int .i64 ((rd_T41 l0 a1).f1), .int .i64 ((rd_T41 l0 a1).f2), .int .i64 ((rd_T41 l0 a1).f3), .int .i64 ((rd_T41 l0 a1).f4), .int .i64 ((rd_T41 l0 a1).f5.f0), .int .i64 ((rd_T41 l0 a1).f5.f1), .int .i64 ((rd_T41 l0 a1).f6.f0), .int .i64 ((rd_T41 l0 a1).f6.f1)] 41 (0, 0))) ∧ (w'.heap[gb303]? = some (.cells #[.int .i64 t297, .int .i64 t298, .int .i64 t299, .int .i64 t300] 39 (0, 0))) ∧ (Below w.heap.size w w')) ?_ ?_
                       rotate_left
                       ·intro hJ0_4
                        refine join_ (σ := Value × Nat) 10 #[true, true, true, true, false, true, true, true, true, false, true, true, true, true, true, false, false, false, false, false, true, false, false, false] (fun s_ => [(108, s_.1), (14, .pointer (some ⟨s_.2, 0, none⟩))]) (fun s_ w' => (w'.cell? ⟨gb294, 0, none⟩ = some (.int .i64 ((rd_T41 l0 a1).f0)) ∧ w'.cell? ⟨gb294, 1, none⟩ = some (.int .i64 ((rd_T41 l0 a1).f1)) ∧ w'.cell? ⟨gb294, 2, none⟩ = some (.int .i64 ((rd_T41 l0 a1).f2)) ∧ w'.cell? ⟨gb294, 3, none⟩ = some (.int .i64 ((rd_T41 l0 a1).f3)) ∧ w'.cell? ⟨gb294, 4, none⟩ = some (.int .i64 ((rd_T41 l0 a1).f4)) ∧ w'.cell? ⟨gb294, 5, none⟩ = some (.int .i64 ((rd_T41 l0 a1).f5.f0)) ∧ w'.cell? ⟨gb294, 6, none⟩ = some (.int .i64 ((rd_T41 l0 a1).f5.f1)) ∧ w'.cell? ⟨gb294, 7, none⟩ = some (.int .i64 ((rd_T41 l0 a1).f6.f0)) ∧ w'.cell? ⟨gb294, 8, none⟩ = some (.int .i64 ((rd_T41 l0 a1).f6.f1))) ∧ (Kd.R k41 41 w' w.heap.size (fun k_ => k_ ≠ gb294) s_.1 y304) ∧ (w'.heap[gb294]? = some (.cells #[.int .i64 ((rd_T41 l0 a1).f0), .int .i64 ((rd_T41 l0 a1).f1), .int .i64 ((rd_T41 l0 a1).f2), .int .i64 ((rd_T41 l0 a1).f3), .int .i64 ((rd_T41 l0 a1).f4), .int .i64 ((rd_T41 l0 a1).f5.f0), .int .i64 ((rd_T41 l0 a1).f5.f1), .int .i64 ((rd_T41 l0 a1).f6.f0), .int .i64 ((rd_T41 l0 a1).f6.f1)] 41 (0, 0))) ∧ (w'.heap[gb303]? = some (.cells #[.int .i64 t297, .int .i64 t298, .int .i64 t299, .int .i64 t300] 39 (0, 0))) ∧ (w'.heap[s_.2]? = some (.cells #[.int .i64 0, .int .i64 0, .int .i64 0, .int .i64 0] 39 (0, 0))) ∧ (w.heap.size ≤ s_.2) ∧ (w.heap.size ≤ s_.2) ∧ (gb294 ≠ s_.2) ∧ (s_.2 ≠ gb294) ∧ (gb303 ≠ s_.2) ∧ (s_.2 ≠ gb303) ∧ (Below w.heap.size w w')) ?_ ?_
                        rotate_left
                        ·intro hJ0_20
                         refine join_ (σ := Value) 11 #[true, true, true, true, false, true, true, true, true, false, true, true, true, true, true, false, false, false, false, false, false, false, false, false] (fun s_ => [(108, s_)]) (fun s_ w' => (w'.cell? ⟨gb294, 0, none⟩ = some (.int .i64 ((rd_T41 l0 a1).f0)) ∧ w'.cell? ⟨gb294, 1, none⟩ = some (.int .i64 ((rd_T41 l0 a1).f1)) ∧ w'.cell? ⟨gb294, 2, none⟩ = some (.int .i64 ((rd_T41 l0 a1).f2)) ∧ w'.cell? ⟨gb294, 3, none⟩ = some (.int .i64 ((rd_T41 l0 a1).f3)) ∧ w'.cell? ⟨gb294, 4, none⟩ = some (.int .i64 ((rd_T41 l0 a1).f4)) ∧ w'.cell? ⟨gb294, 5, none⟩ = some (.int .i64 ((rd_T41 l0 a1).f5.f0)) ∧ w'.cell? ⟨gb294, 6, none⟩ = some (.int .i64 ((rd_T41 l0 a1).f5.f1)) ∧ w'.cell? ⟨gb294, 7, none⟩ = some (.int .i64 ((rd_T41 l0 a1).f6.f0)) ∧ w'.cell? ⟨gb294, 8, none⟩ = some (.int .i64 ((rd_T41 l0 a1).f6.f1))) ∧ (Kd.R k41 41 w' w.heap.size (fun k_ => k_ ≠ gb294) s_ y304) ∧ (w'.heap[gb294]? = some (.cells #[.int .i64 ((rd_T41 l0 a1).f0), .int .i64 ((rd_T41 l0 a1).f1), .int .i64 ((rd_T41 l0 a1).f2), .int .i64 ((rd_T41 l0 a1).f3), .int .i64 ((rd_T41 l0 a1).f4), .int .i64 ((rd_T41 l0 a1).f5.f0), .int .i64 ((rd_T41 l0 a1).f5.f1), .int .i64 ((rd_T41 l0 a1).f6.f0), .int .i64 ((rd_T41 l0 a1).f6.f1)] 41 (0, 0))) ∧ (w'.heap[gb303]? = some (.cells #[.int .i64 t297, .int .i64 t298, .int .i64 t299, .int .i64 t300] 39 (0, 0))) ∧ (Below w.heap.size w w')) ?_ ?_
                         rotate_left
                         ·intro hJ0
                          refine join_ (σ := Nat) 11 #[false, true, true, true, false, true, true, true, true, false, true, true, true, true, true, false, false, false, false, false, true, false, false, false] (fun s_ => [(14, .pointer (some ⟨s_, 0, none⟩))]) (fun s_ w' => (w'.cell? ⟨gb294, 0, none⟩ = some (.int .i64 ((rd_T41 l0 a1).f0)) ∧ w'.cell? ⟨gb294, 1, none⟩ = some (.int .i64 ((rd_T41 l0 a1).f1)) ∧ w'.cell? ⟨gb294, 2, none⟩ = some (.int .i64 ((rd_T41 l0 a1).f2)) ∧ w'.cell? ⟨gb294, 3, none⟩ = some (.int .i64 ((rd_T41 l0 a1).f3)) ∧ w'.cell? ⟨gb294, 4, none⟩ = some (.int .i64 ((rd_T41 l0 a1).f4)) ∧ w'.cell? ⟨gb294, 5, none⟩ = some (.int .i64 ((rd_T41 l0 a1).f5.f0)) ∧ w'.cell? ⟨gb294, 6, none⟩ = some (.int .i64 ((rd_T41 l0 a1).f5.f1)) ∧ w'.cell? ⟨gb294, 7, none⟩ = some (.int .i64 ((rd_T41 l0 a1).f6.f0)) ∧ w'.cell? ⟨gb294, 8, none⟩ = some (.int .i64 ((rd_T41 l0 a1).f6.f1))) ∧ (w'.heap[gb294]? = some (.cells #[.int .i64 ((rd_T41 l0 a1).f0), .int .i64 ((rd_T41 l0 a1).f1), .int .i64 ((rd_T41 l0 a1).f2), .int .i64 ((rd_T41 l0 a1).f3), .int .i64 ((rd_T41 l0 a1).f4), .int .i64 ((rd_T41 l0 a1).f5.f0), .int .i64 ((rd_T41 l0 a1).f5.f1), .int .i64 ((rd_T41 l0 a1).f6.f0), .int .i64 ((rd_T41 l0 a1).f6.f1)] 41 (0, 0))) ∧ (w'.heap[gb303]? = some (.cells #[.int .i64 t297, .int .i64 t298, .int .i64 t299, .int .i64 t300] 39 (0, 0))) ∧ (w'.heap[s_]? = some (.cells #[.int .i64 0, .int .i64 0, .int .i64 0, .int .i64 0] 39 (0, 0))) ∧ (w.heap.size ≤ s_) ∧ (w.heap.size ≤ s_) ∧ (gb294 ≠ s_) ∧ (s_ ≠ gb294) ∧ (gb303 ≠ s_) ∧ (s_ ≠ gb303) ∧ (Below w.heap.size w w')) ?_ ?_
                          rotate_left
                          ·intro hJ20
                           refine two_ (i := 0) (j := 20) (Ni := some 108) (Nj := some 14) #[true, true, true, true, false, true, true, true, true, false, true, true, true, true, true, false, false, false, false, false, false, false, false, false] #[false, true, true, true, false, true, true, true, true, false, true, true, true, true, true, false, false, false, false, false, true, false, false, false] rfl rfl rfl rfl (two_of HT_.out (by kernel_rfl)) (by decide) (by decide) (fun K hK => ?_) (fun K hK => ?_)
                           ·skip
                            refine Kd.R_lit_step k41 _ 41 ?hg (N := 108) ?hd (xs := ([] : List (S41))) (inner := []) (ok := fun _ => True) (okp := fun _ => True) ?hr ?hp (fun _ hk => hk) trivial (Below.refl _ _) (Nat.le_refl _) (by simp) ?_; (case hd => rfl); (case hg => rfl); (case hr => first | (go_simp; done) | (go_simp; rfl)); (case hp => exact (Reps.none _ _))
                            intro v305 w71 ho72 hb hg_ hnew_
                            clear hg_ hnew_
                            (first | rw [← Ny304.out] at ho72 | (simp only [Int.reduceToNat] at ho72; rw [← Ny304.out] at ho72))
                            have n0_ := Aside0.mk (Kd.R_lower (Kd.R_newB ho72 (g := gb294) (o := .cells #[.int .i64 ((rd_T41 l0 a1).f0), .int .i64 ((rd_T41 l0 a1).f1), .int .i64 ((rd_T41 l0 a1).f2), .int .i64 ((rd_T41 l0 a1).f3), .int .i64 ((rd_T41 l0 a1).f4), .int .i64 ((rd_T41 l0 a1).f5.f0), .int .i64 ((rd_T41 l0 a1).f5.f1), .int .i64 ((rd_T41 l0 a1).f6.f0), .int .i64 ((rd_T41 l0 a1).f6.f1)] 41 (0, 0)) (zk BK294.out)) (below_size (by repeat (first | (with_reducible first | exact HB.out | apply below_alloc | apply pw_below_drewN | apply below_drew1 | refine below_set ?_ GE294.out | refine below_set ?_ GE303.out) | exact HB.out))))
                            have n1_ := Aside0.mk (zb BK294.out hb)
                            have n2_ := Aside0.mk (zb BK303.out hb)
                            have n3_ := Aside0.mk (below_step (by repeat (first | (with_reducible first | exact HB.out | apply below_alloc | apply pw_below_drewN | apply below_drew1 | refine below_set ?_ GE294.out | refine below_set ?_ GE303.out) | exact HB.out)) hb)
                            clear BK294
                            clear BK303
                            clear HB
                            have HO306 := n0_
                            have BK294 := n1_
                            have BK303 := n2_
                            have HB := n3_
                            clear n0_ n1_ n2_ n3_
                            clear hb ho72
                            refine hK.out _ _ ⟨(blk_cell BK294.out 0).trans rfl, (blk_cell BK294.out 1).trans rfl, (blk_cell BK294.out 2).trans rfl, (blk_cell BK294.out 3).trans rfl, (blk_cell BK294.out 4).trans rfl, (blk_cell BK294.out 5).trans rfl, (blk_cell BK294.out 6).trans rfl, (blk_cell BK294.out 7).trans rfl, (blk_cell BK294.out 8).trans rfl⟩ (fun hHeld => ?_)
                            clear hK K
                            refine norm_ (a' := ?_) ?_ ?_
                            rotate_left
                            ·show Act.put _ (some 108) _ = _
                             simp only [Act.put, List.setIfInBounds_toArray, List.set_cons_zero, List.set_cons_succ, i64_w, i32_w]
                             rfl
                            exact norm_ (by first | (simp only [putAll, Act.put, List.setIfInBounds_toArray, List.set_cons_zero, List.set_cons_succ]; done) | (simp only [putAll, Act.put, List.setIfInBounds_toArray, List.set_cons_zero, List.set_cons_succ]; rfl)) (hJ0 (v305) _ ⟨hHeld, (by (with_reducible repeat (first | apply Kd.R_alloc | apply Kd.R_drewN | apply Kd.R_drew)); exact Kd.R_mono HO306.out (fun _ hk => hk.2)), (zk BK294.out), (zk BK303.out), (by repeat (first | (with_reducible first | exact HB.out | apply below_alloc | apply pw_below_drewN | apply below_drew1 | refine below_set ?_ GE294.out | refine below_set ?_ GE303.out) | exact HB.out))⟩)
                           ·skip
                            refine box_step ?hg (N := 14) ?hd (cs := #[.int .i64 0, .int .i64 0, .int .i64 0, .int .i64 0]) (t := 39) ?hr ?_; (case hd => rfl); (case hg => rfl); (case hr => first | (go_simp; done) | (go_simp; rfl))
                            intro gb327 hg w71 hbox hb
                            have n0_ := Aside0.mk (zb BK294.out hb)
                            have n1_ := Aside0.mk (zb BK303.out hb)
                            have n2_ := Aside0.mk (below_step (by repeat (first | (with_reducible first | exact HB.out | apply below_alloc | apply pw_below_drewN | apply below_drew1 | refine below_set ?_ GE294.out | refine below_set ?_ GE303.out) | exact HB.out)) hb)
                            have n3_ := Aside0.mk (hbox)
                            have n4_ := Aside0.mk ((by rw [hg]; exact (below_size (by repeat (first | (with_reducible first | exact HB.out | apply below_alloc | apply pw_below_drewN | apply below_drew1 | refine below_set ?_ GE294.out | refine below_set ?_ GE303.out) | exact HB.out))) : w.heap.size ≤ gb327))
                            have n5_ := Aside0.mk ((by rw [hg]; exact (below_size (by repeat (first | (with_reducible first | exact HB.out | apply below_alloc | apply pw_below_drewN | apply below_drew1 | refine below_set ?_ GE294.out | refine below_set ?_ GE303.out) | exact HB.out))) : w.heap.size ≤ gb327))
                            have n6_ := Aside0.mk ((by rw [hg]; exact Nat.ne_of_lt (blk_lt (zk BK294.out)) : gb294 ≠ gb327))
                            have n7_ := Aside0.mk ((by rw [hg]; exact Nat.ne_of_gt (blk_lt (zk BK294.out)) : gb327 ≠ gb294))
                            have n8_ := Aside0.mk ((by rw [hg]; exact Nat.ne_of_lt (blk_lt (zk BK303.out)) : gb303 ≠ gb327))
                            have n9_ := Aside0.mk ((by rw [hg]; exact Nat.ne_of_gt (blk_lt (zk BK303.out)) : gb327 ≠ gb303))
                            clear BK294
                            clear BK303
                            clear HB
                            have BK294 := n0_
                            have BK303 := n1_
                            have HB := n2_
                            have BK327 := n3_
                            have GW327 := n4_
                            have GE327 := n5_
                            have NB294_327 := n6_
                            have NB327_294 := n7_
                            have NB303_327 := n8_
                            have NB327_303 := n9_
                            clear n0_ n1_ n2_ n3_ n4_ n5_ n6_ n7_ n8_ n9_
                            clear hb hbox hg
                            refine hK.out _ _ ⟨(blk_cell BK294.out 0).trans rfl, (blk_cell BK294.out 1).trans rfl, (blk_cell BK294.out 2).trans rfl, (blk_cell BK294.out 3).trans rfl, (blk_cell BK294.out 4).trans rfl, (blk_cell BK294.out 5).trans rfl, (blk_cell BK294.out 6).trans rfl, (blk_cell BK294.out 7).trans rfl, (blk_cell BK294.out 8).trans rfl⟩ (fun hHeld => ?_)
                            clear hK K
                            refine norm_ (a' := ?_) ?_ ?_
                            rotate_left
                            ·show Act.put _ (some 14) _ = _
                             simp only [Act.put, List.setIfInBounds_toArray, List.set_cons_zero, List.set_cons_succ, i64_w, i32_w]
                             rfl
                            exact norm_ (by first | (simp only [putAll, Act.put, List.setIfInBounds_toArray, List.set_cons_zero, List.set_cons_succ]; done) | (simp only [putAll, Act.put, List.setIfInBounds_toArray, List.set_cons_zero, List.set_cons_succ]; rfl)) (hJ20 (gb327) _ ⟨hHeld, (zk BK294.out), (zk BK303.out), (zk BK327.out), GW327.out, GE327.out, NB294_327.out, NB327_294.out, NB303_327.out, NB327_303.out, (by repeat (first | (with_reducible first | exact HB.out | apply below_alloc | apply pw_below_drewN | apply below_drew1 | refine below_set ?_ GE294.out | refine below_set ?_ GE303.out | refine below_set ?_ GE327.out) | exact HB.out))⟩)
                          ·skip
                           rintro gb327 w72 ⟨hS_, h0_, h1_, h2_, h3_, h4_, h5_, h6_, h7_, h8_, h9_⟩
                           have n0_ : Aside0 (w72.heap[gb294]? = some (.cells #[.int .i64 ((rd_T41 l0 a1).f0), .int .i64 ((rd_T41 l0 a1).f1), .int .i64 ((rd_T41 l0 a1).f2), .int .i64 ((rd_T41 l0 a1).f3), .int .i64 ((rd_T41 l0 a1).f4), .int .i64 ((rd_T41 l0 a1).f5.f0), .int .i64 ((rd_T41 l0 a1).f5.f1), .int .i64 ((rd_T41 l0 a1).f6.f0), .int .i64 ((rd_T41 l0 a1).f6.f1)] 41 (0, 0))) := ⟨h0_⟩
                           have n1_ : Aside0 (w72.heap[gb303]? = some (.cells #[.int .i64 t297, .int .i64 t298, .int .i64 t299, .int .i64 t300] 39 (0, 0))) := ⟨h1_⟩
                           have n2_ : Aside0 (w72.heap[gb327]? = some (.cells #[.int .i64 0, .int .i64 0, .int .i64 0, .int .i64 0] 39 (0, 0))) := ⟨h2_⟩
                           have n3_ : Aside0 (w.heap.size ≤ gb327) := ⟨h3_⟩
                           have n4_ : Aside0 (w.heap.size ≤ gb327) := ⟨h4_⟩
                           have n5_ : Aside0 (gb294 ≠ gb327) := ⟨h5_⟩
                           have n6_ : Aside0 (gb327 ≠ gb294) := ⟨h6_⟩
                           have n7_ : Aside0 (gb303 ≠ gb327) := ⟨h7_⟩
                           have n8_ : Aside0 (gb327 ≠ gb303) := ⟨h8_⟩
                           have n9_ : Aside0 (Below w.heap.size w w72) := ⟨h9_⟩
                           clear BK294
                           clear BK303
                           clear HB
                           clear h0_ h1_ h2_ h3_ h4_ h5_ h6_ h7_ h8_ h9_
                           have BK294 := n0_
                           have BK303 := n1_
                           have BK327 := n2_
                           have GW327 := n3_
                           have GE327 := n4_
                           have NB294_327 := n5_
                           have NB327_294 := n6_
                           have NB303_327 := n7_
                           have NB327_303 := n8_
                           have HB := n9_
                           clear n0_ n1_ n2_ n3_ n4_ n5_ n6_ n7_ n8_ n9_
                           have hHeld : w72.cell? ⟨gb294, 0, none⟩ = some (.int .i64 ((rd_T41 l0 a1).f0)) ∧ w72.cell? ⟨gb294, 1, none⟩ = some (.int .i64 ((rd_T41 l0 a1).f1)) ∧ w72.cell? ⟨gb294, 2, none⟩ = some (.int .i64 ((rd_T41 l0 a1).f2)) ∧ w72.cell? ⟨gb294, 3, none⟩ = some (.int .i64 ((rd_T41 l0 a1).f3)) ∧ w72.cell? ⟨gb294, 4, none⟩ = some (.int .i64 ((rd_T41 l0 a1).f4)) ∧ w72.cell? ⟨gb294, 5, none⟩ = some (.int .i64 ((rd_T41 l0 a1).f5.f0)) ∧ w72.cell? ⟨gb294, 6, none⟩ = some (.int .i64 ((rd_T41 l0 a1).f5.f1)) ∧ w72.cell? ⟨gb294, 7, none⟩ = some (.int .i64 ((rd_T41 l0 a1).f6.f0)) ∧ w72.cell? ⟨gb294, 8, none⟩ = some (.int .i64 ((rd_T41 l0 a1).f6.f1)) := hS_
                           refine norm_ (a' := ?_) ?_ ?_
                           rotate_left
                           ·simp only [putAll, Act.put, List.setIfInBounds_toArray, List.set_cons_zero, List.set_cons_succ]
                            rfl
                           refine one_ (i := 0) (N := some 108) #[true, true, true, true, false, true, true, true, true, false, true, true, true, true, true, false, false, false, false, false, true, false, false, false] rfl rfl (one_of HT_.out (by kernel_rfl)) (by decide) (fun K hK => ?_)
                           refine Kd.R_lit_step k41 _ 41 ?hg (N := 108) ?hd (xs := ([] : List (S41))) (inner := []) (ok := fun _ => True) (okp := fun _ => True) ?hr ?hp (fun _ hk => hk) trivial (Below.refl _ _) (Nat.le_refl _) (by simp) ?_; (case hd => rfl); (case hg => rfl); (case hr => first | (go_simp; done) | (go_simp; rfl)); (case hp => exact (Reps.none _ _))
                           intro v305 w73 ho74 hb hg_ hnew_
                           clear hg_ hnew_
                           (first | rw [← Ny304.out] at ho74 | (simp only [Int.reduceToNat] at ho74; rw [← Ny304.out] at ho74))
                           have n0_ := Aside0.mk (Kd.R_lower (Kd.R_newB ho74 (g := gb294) (o := .cells #[.int .i64 ((rd_T41 l0 a1).f0), .int .i64 ((rd_T41 l0 a1).f1), .int .i64 ((rd_T41 l0 a1).f2), .int .i64 ((rd_T41 l0 a1).f3), .int .i64 ((rd_T41 l0 a1).f4), .int .i64 ((rd_T41 l0 a1).f5.f0), .int .i64 ((rd_T41 l0 a1).f5.f1), .int .i64 ((rd_T41 l0 a1).f6.f0), .int .i64 ((rd_T41 l0 a1).f6.f1)] 41 (0, 0)) (zk BK294.out)) (below_size (by repeat (first | (with_reducible first | exact HB.out | apply below_alloc | apply pw_below_drewN | apply below_drew1 | refine below_set ?_ GE294.out | refine below_set ?_ GE303.out | refine below_set ?_ GE327.out) | exact HB.out))))
                           have n1_ := Aside0.mk (zb BK294.out hb)
                           have n2_ := Aside0.mk (zb BK303.out hb)
                           have n3_ := Aside0.mk (zb BK327.out hb)
                           have n4_ := Aside0.mk (below_step (by repeat (first | (with_reducible first | exact HB.out | apply below_alloc | apply pw_below_drewN | apply below_drew1 | refine below_set ?_ GE294.out | refine below_set ?_ GE303.out | refine below_set ?_ GE327.out) | exact HB.out)) hb)
                           clear BK294
                           clear BK303
                           clear BK327
                           clear HB
                           have HO306 := n0_
                           have BK294 := n1_
                           have BK303 := n2_
                           have BK327 := n3_
                           have HB := n4_
                           clear n0_ n1_ n2_ n3_ n4_
                           clear hb ho74
                           refine hK.out _ _ ⟨(blk_cell BK294.out 0).trans rfl, (blk_cell BK294.out 1).trans rfl, (blk_cell BK294.out 2).trans rfl, (blk_cell BK294.out 3).trans rfl, (blk_cell BK294.out 4).trans rfl, (blk_cell BK294.out 5).trans rfl, (blk_cell BK294.out 6).trans rfl, (blk_cell BK294.out 7).trans rfl, (blk_cell BK294.out 8).trans rfl⟩ (fun hHeld => ?_)
                           clear hK K
                           refine norm_ (a' := ?_) ?_ ?_
                           rotate_left
                           ·show Act.put _ (some 108) _ = _
                            simp only [Act.put, List.setIfInBounds_toArray, List.set_cons_zero, List.set_cons_succ, i64_w, i32_w]
                            rfl
                           exact norm_ (by first | (simp only [putAll, Act.put, List.setIfInBounds_toArray, List.set_cons_zero, List.set_cons_succ]; done) | (simp only [putAll, Act.put, List.setIfInBounds_toArray, List.set_cons_zero, List.set_cons_succ]; rfl)) (hJ0_20 (v305, gb327) _ ⟨hHeld, (by (with_reducible repeat (first | apply Kd.R_alloc | apply Kd.R_drewN | apply Kd.R_drew)); exact Kd.R_mono HO306.out (fun _ hk => hk.2)), (zk BK294.out), (zk BK303.out), (zk BK327.out), GW327.out, GE327.out, NB294_327.out, NB327_294.out, NB303_327.out, NB327_303.out, (by repeat (first | (with_reducible first | exact HB.out | apply below_alloc | apply pw_below_drewN | apply below_drew1 | refine below_set ?_ GE294.out | refine below_set ?_ GE303.out | refine below_set ?_ GE327.out) | exact HB.out))⟩)
                         ·skip
                          rintro v305 w73 ⟨hS_, h0_, h1_, h2_, h3_⟩
                          have n0_ : Aside0 (Kd.R k41 41 w73 w.heap.size (fun k_ => k_ ≠ gb294) v305 y304) := ⟨h0_⟩
                          have n1_ : Aside0 (w73.heap[gb294]? = some (.cells #[.int .i64 ((rd_T41 l0 a1).f0), .int .i64 ((rd_T41 l0 a1).f1), .int .i64 ((rd_T41 l0 a1).f2), .int .i64 ((rd_T41 l0 a1).f3), .int .i64 ((rd_T41 l0 a1).f4), .int .i64 ((rd_T41 l0 a1).f5.f0), .int .i64 ((rd_T41 l0 a1).f5.f1), .int .i64 ((rd_T41 l0 a1).f6.f0), .int .i64 ((rd_T41 l0 a1).f6.f1)] 41 (0, 0))) := ⟨h1_⟩
                          have n2_ : Aside0 (w73.heap[gb303]? = some (.cells #[.int .i64 t297, .int .i64 t298, .int .i64 t299, .int .i64 t300] 39 (0, 0))) := ⟨h2_⟩
                          have n3_ : Aside0 (Below w.heap.size w w73) := ⟨h3_⟩
                          clear BK294
                          clear BK303
                          clear HB
                          clear h0_ h1_ h2_ h3_
                          have HO306 := n0_
                          have BK294 := n1_
                          have BK303 := n2_
                          have HB := n3_
                          clear n0_ n1_ n2_ n3_
                          have hHeld : w73.cell? ⟨gb294, 0, none⟩ = some (.int .i64 ((rd_T41 l0 a1).f0)) ∧ w73.cell? ⟨gb294, 1, none⟩ = some (.int .i64 ((rd_T41 l0 a1).f1)) ∧ w73.cell? ⟨gb294, 2, none⟩ = some (.int .i64 ((rd_T41 l0 a1).f2)) ∧ w73.cell? ⟨gb294, 3, none⟩ = some (.int .i64 ((rd_T41 l0 a1).f3)) ∧ w73.cell? ⟨gb294, 4, none⟩ = some (.int .i64 ((rd_T41 l0 a1).f4)) ∧ w73.cell? ⟨gb294, 5, none⟩ = some (.int .i64 ((rd_T41 l0 a1).f5.f0)) ∧ w73.cell? ⟨gb294, 6, none⟩ = some (.int .i64 ((rd_T41 l0 a1).f5.f1)) ∧ w73.cell? ⟨gb294, 7, none⟩ = some (.int .i64 ((rd_T41 l0 a1).f6.f0)) ∧ w73.cell? ⟨gb294, 8, none⟩ = some (.int .i64 ((rd_T41 l0 a1).f6.f1)) := hS_
                          refine norm_ (a' := ?_) ?_ ?_
                          rotate_left
                          ·simp only [putAll, Act.put, List.setIfInBounds_toArray, List.set_cons_zero, List.set_cons_succ]
                           rfl
                          refine two_ (i := 4) (j := 20) (Ni := some 112) (Nj := some 14) #[true, true, true, true, true, true, true, true, true, false, true, true, true, true, true, false, false, false, false, false, false, false, false, false] #[true, true, true, true, false, true, true, true, true, false, true, true, true, true, true, false, false, false, false, false, true, false, false, false] rfl rfl rfl rfl (two_of HT_.out (by kernel_rfl)) (by decide) (by decide) (fun K hK => ?_) (fun K hK => ?_)
                          ·skip
                           refine Kd.R_append_rows_step k41 (w0 := w) w.heap.size (by rfl) (.tmp 108) (.tmp 111) 29 41 (.agg #[(.int .i64 0), (.int .i64 0), (.int .i64 0), (.int .i64 0), (.int .i64 0), (.int .i64 0), (.int .i64 0), (.int .i64 0), (.int .i64 0)]) 72 rfl Try.underlying29 info41 rfl (by decide) (by omega) v305 y304 y307 _ _ _ (fun k_ => k_ ≠ gb294) (fun _ => False) rfl rfl ?aO ?aR (fun _ _ h => h) (fun _ h => h.elim) ?aF ?aB ?aS ?aL ?_
                           (case aR => repeat (first | exact (Kd.C_below HR310.out HB.out) | (with_reducible refine Kd.C_alloc ?_ _) | (with_reducible refine Kd.C_drewN ?_ _) | (with_reducible refine Kd.C_drew ?_)))
                           (case aB => exact (by repeat (first | (with_reducible first | exact HB.out | apply below_alloc | apply pw_below_drewN | apply below_drew1 | refine below_set ?_ GE294.out | refine below_set ?_ GE303.out) | exact HB.out)))
                           (case aF => exact (fun k_ hk => Kd.freshB (g := gb294) (o := .cells #[.int .i64 ((rd_T41 l0 a1).f0), .int .i64 ((rd_T41 l0 a1).f1), .int .i64 ((rd_T41 l0 a1).f2), .int .i64 ((rd_T41 l0 a1).f3), .int .i64 ((rd_T41 l0 a1).f4), .int .i64 ((rd_T41 l0 a1).f5.f0), .int .i64 ((rd_T41 l0 a1).f5.f1), .int .i64 ((rd_T41 l0 a1).f6.f0), .int .i64 ((rd_T41 l0 a1).f6.f1)] 41 (0, 0)) (zk BK294.out) k_ hk))
                           (case aO => exact (by (with_reducible repeat (first | apply Kd.R_alloc | apply Kd.R_drewN | apply Kd.R_drew)); exact HO306.out))
                           (case aS => exact (below_size (by repeat (first | (with_reducible first | exact HB.out | apply below_alloc | apply pw_below_drewN | apply below_drew1 | refine below_set ?_ GE294.out | refine below_set ?_ GE303.out) | exact HB.out))))
                           (case aL => have := LMc55.out; omega)
                           intro v312 w74 ho hb hg hat
                           rw [← Ny311.out] at ho
                           have n0_ := Aside0.mk (blk_grown (g := gb294) (o := .cells #[.int .i64 ((rd_T41 l0 a1).f0), .int .i64 ((rd_T41 l0 a1).f1), .int .i64 ((rd_T41 l0 a1).f2), .int .i64 ((rd_T41 l0 a1).f3), .int .i64 ((rd_T41 l0 a1).f4), .int .i64 ((rd_T41 l0 a1).f5.f0), .int .i64 ((rd_T41 l0 a1).f5.f1), .int .i64 ((rd_T41 l0 a1).f6.f0), .int .i64 ((rd_T41 l0 a1).f6.f1)] 41 (0, 0)) (zk BK294.out) hg (Kd.R_away HO306.out (fun _ hk => hk)))
                           have n1_ := Aside0.mk (blk_grown (g := gb303) (o := .cells #[.int .i64 t297, .int .i64 t298, .int .i64 t299, .int .i64 t300] 39 (0, 0)) (zk BK303.out) hg (Kd.R_ne HO306.out BK303.out (by decide)))
                           have n2_ := Aside0.mk (hb)
                           have n3_ := Aside0.mk (ho)
                           clear BK294
                           clear BK303
                           clear HB
                           clear HO306
                           have BK294 := n0_
                           have BK303 := n1_
                           have HB := n2_
                           have HO313 := n3_
                           clear n0_ n1_ n2_ n3_
                           clear ho hb hg hat
                           refine hK.out _ _ ⟨(blk_cell BK294.out 0).trans rfl, (blk_cell BK294.out 1).trans rfl, (blk_cell BK294.out 2).trans rfl, (blk_cell BK294.out 3).trans rfl, (blk_cell BK294.out 4).trans rfl, (blk_cell BK294.out 5).trans rfl, (blk_cell BK294.out 6).trans rfl, (blk_cell BK294.out 7).trans rfl, (blk_cell BK294.out 8).trans rfl⟩ (fun hHeld => ?_)
                           clear hK K
                           refine norm_ (a' := ?_) ?_ ?_
                           rotate_left
                           ·show Act.put _ (some 112) _ = _
                            simp only [Act.put, List.setIfInBounds_toArray, List.set_cons_zero, List.set_cons_succ, i64_w, i32_w]
                            rfl
                           exact norm_ (by first | (simp only [putAll, Act.put, List.setIfInBounds_toArray, List.set_cons_zero, List.set_cons_succ]; done) | (simp only [putAll, Act.put, List.setIfInBounds_toArray, List.set_cons_zero, List.set_cons_succ]; rfl)) (hJ0_4 (v305, v312) _ ⟨hHeld, (by (with_reducible repeat (first | apply Kd.R_alloc | apply Kd.R_drewN | apply Kd.R_drew)); exact HO313.out), (zk BK294.out), (zk BK303.out), (by repeat (first | (with_reducible first | exact HB.out | apply below_alloc | apply pw_below_drewN | apply below_drew1 | refine below_set ?_ GE294.out | refine below_set ?_ GE303.out) | exact HB.out))⟩)
                          ·skip
                           refine box_step ?hg (N := 14) ?hd (cs := #[.int .i64 0, .int .i64 0, .int .i64 0, .int .i64 0]) (t := 39) ?hr ?_; (case hd => rfl); (case hg => rfl); (case hr => first | (go_simp; done) | (go_simp; rfl))
                           intro gb327 hg w74 hbox hb
                           have n0_ := Aside0.mk (Kd.R_below (by (with_reducible repeat (first | apply Kd.R_alloc | apply Kd.R_drewN | apply Kd.R_drew)); exact HO306.out) hb)
                           have n1_ := Aside0.mk (zb BK294.out hb)
                           have n2_ := Aside0.mk (zb BK303.out hb)
                           have n3_ := Aside0.mk (below_step (by repeat (first | (with_reducible first | exact HB.out | apply below_alloc | apply pw_below_drewN | apply below_drew1 | refine below_set ?_ GE294.out | refine below_set ?_ GE303.out) | exact HB.out)) hb)
                           have n4_ := Aside0.mk (hbox)
                           have n5_ := Aside0.mk ((by rw [hg]; exact (below_size (by repeat (first | (with_reducible first | exact HB.out | apply below_alloc | apply pw_below_drewN | apply below_drew1 | refine below_set ?_ GE294.out | refine below_set ?_ GE303.out) | exact HB.out))) : w.heap.size ≤ gb327))
                           have n6_ := Aside0.mk ((by rw [hg]; exact (below_size (by repeat (first | (with_reducible first | exact HB.out | apply below_alloc | apply pw_below_drewN | apply below_drew1 | refine below_set ?_ GE294.out | refine below_set ?_ GE303.out) | exact HB.out))) : w.heap.size ≤ gb327))
                           have n7_ := Aside0.mk ((by rw [hg]; exact Nat.ne_of_lt (blk_lt (zk BK294.out)) : gb294 ≠ gb327))
                           have n8_ := Aside0.mk ((by rw [hg]; exact Nat.ne_of_gt (blk_lt (zk BK294.out)) : gb327 ≠ gb294))
                           have n9_ := Aside0.mk ((by rw [hg]; exact Nat.ne_of_lt (blk_lt (zk BK303.out)) : gb303 ≠ gb327))
                           have n10_ := Aside0.mk ((by rw [hg]; exact Nat.ne_of_gt (blk_lt (zk BK303.out)) : gb327 ≠ gb303))
                           clear HO306
                           clear BK294
                           clear BK303
                           clear HB
                           have HO306 := n0_
                           have BK294 := n1_
                           have BK303 := n2_
                           have HB := n3_
                           have BK327 := n4_
                           have GW327 := n5_
                           have GE327 := n6_
                           have NB294_327 := n7_
                           have NB327_294 := n8_
                           have NB303_327 := n9_
                           have NB327_303 := n10_
                           clear n0_ n1_ n2_ n3_ n4_ n5_ n6_ n7_ n8_ n9_ n10_
                           clear hb hbox hg
                           refine hK.out _ _ ⟨(blk_cell BK294.out 0).trans rfl, (blk_cell BK294.out 1).trans rfl, (blk_cell BK294.out 2).trans rfl, (blk_cell BK294.out 3).trans rfl, (blk_cell BK294.out 4).trans rfl, (blk_cell BK294.out 5).trans rfl, (blk_cell BK294.out 6).trans rfl, (blk_cell BK294.out 7).trans rfl, (blk_cell BK294.out 8).trans rfl⟩ (fun hHeld => ?_)
                           clear hK K
                           refine norm_ (a' := ?_) ?_ ?_
                           rotate_left
                           ·show Act.put _ (some 14) _ = _
                            simp only [Act.put, List.setIfInBounds_toArray, List.set_cons_zero, List.set_cons_succ, i64_w, i32_w]
                            rfl
                           exact norm_ (by first | (simp only [putAll, Act.put, List.setIfInBounds_toArray, List.set_cons_zero, List.set_cons_succ]; done) | (simp only [putAll, Act.put, List.setIfInBounds_toArray, List.set_cons_zero, List.set_cons_succ]; rfl)) (hJ0_20 (v305, gb327) _ ⟨hHeld, (by (with_reducible repeat (first | apply Kd.R_alloc | apply Kd.R_drewN | apply Kd.R_drew)); exact HO306.out), (zk BK294.out), (zk BK303.out), (zk BK327.out), GW327.out, GE327.out, NB294_327.out, NB327_294.out, NB303_327.out, NB327_303.out, (by repeat (first | (with_reducible first | exact HB.out | apply below_alloc | apply pw_below_drewN | apply below_drew1 | refine below_set ?_ GE294.out | refine below_set ?_ GE303.out | refine below_set ?_ GE327.out) | exact HB.out))⟩)
                        ·skip
                         rintro ⟨v305, gb327⟩ w74 ⟨hS_, h0_, h1_, h2_, h3_, h4_, h5_, h6_, h7_, h8_, h9_, h10_⟩
                         have n0_ : Aside0 (Kd.R k41 41 w74 w.heap.size (fun k_ => k_ ≠ gb294) v305 y304) := ⟨h0_⟩
                         have n1_ : Aside0 (w74.heap[gb294]? = some (.cells #[.int .i64 ((rd_T41 l0 a1).f0), .int .i64 ((rd_T41 l0 a1).f1), .int .i64 ((rd_T41 l0 a1).f2), .int .i64 ((rd_T41 l0 a1).f3), .int .i64 ((rd_T41 l0 a1).f4), .int .i64 ((rd_T41 l0 a1).f5.f0), .int .i64 ((rd_T41 l0 a1).f5.f1), .int .i64 ((rd_T41 l0 a1).f6.f0), .int .i64 ((rd_T41 l0 a1).f6.f1)] 41 (0, 0))) := ⟨h1_⟩
                         have n2_ : Aside0 (w74.heap[gb303]? = some (.cells #[.int .i64 t297, .int .i64 t298, .int .i64 t299, .int .i64 t300] 39 (0, 0))) := ⟨h2_⟩
                         have n3_ : Aside0 (w74.heap[gb327]? = some (.cells #[.int .i64 0, .int .i64 0, .int .i64 0, .int .i64 0] 39 (0, 0))) := ⟨h3_⟩
                         have n4_ : Aside0 (w.heap.size ≤ gb327) := ⟨h4_⟩
                         have n5_ : Aside0 (w.heap.size ≤ gb327) := ⟨h5_⟩
                         have n6_ : Aside0 (gb294 ≠ gb327) := ⟨h6_⟩
                         have n7_ : Aside0 (gb327 ≠ gb294) := ⟨h7_⟩
                         have n8_ : Aside0 (gb303 ≠ gb327) := ⟨h8_⟩
                         have n9_ : Aside0 (gb327 ≠ gb303) := ⟨h9_⟩
                         have n10_ : Aside0 (Below w.heap.size w w74) := ⟨h10_⟩
                         clear BK294
                         clear BK303
                         clear HB
                         clear h0_ h1_ h2_ h3_ h4_ h5_ h6_ h7_ h8_ h9_ h10_
                         have HO306 := n0_
                         have BK294 := n1_
                         have BK303 := n2_
                         have BK327 := n3_
                         have GW327 := n4_
                         have GE327 := n5_
                         have NB294_327 := n6_
                         have NB327_294 := n7_
                         have NB303_327 := n8_
                         have NB327_303 := n9_
                         have HB := n10_
                         clear n0_ n1_ n2_ n3_ n4_ n5_ n6_ n7_ n8_ n9_ n10_
                         have hHeld : w74.cell? ⟨gb294, 0, none⟩ = some (.int .i64 ((rd_T41 l0 a1).f0)) ∧ w74.cell? ⟨gb294, 1, none⟩ = some (.int .i64 ((rd_T41 l0 a1).f1)) ∧ w74.cell? ⟨gb294, 2, none⟩ = some (.int .i64 ((rd_T41 l0 a1).f2)) ∧ w74.cell? ⟨gb294, 3, none⟩ = some (.int .i64 ((rd_T41 l0 a1).f3)) ∧ w74.cell? ⟨gb294, 4, none⟩ = some (.int .i64 ((rd_T41 l0 a1).f4)) ∧ w74.cell? ⟨gb294, 5, none⟩ = some (.int .i64 ((rd_T41 l0 a1).f5.f0)) ∧ w74.cell? ⟨gb294, 6, none⟩ = some (.int .i64 ((rd_T41 l0 a1).f5.f1)) ∧ w74.cell? ⟨gb294, 7, none⟩ = some (.int .i64 ((rd_T41 l0 a1).f6.f0)) ∧ w74.cell? ⟨gb294, 8, none⟩ = some (.int .i64 ((rd_T41 l0 a1).f6.f1)) := hS_
                         refine norm_ (a' := ?_) ?_ ?_
                         rotate_left
                         ·simp only [putAll, Act.put, List.setIfInBounds_toArray, List.set_cons_zero, List.set_cons_succ]
                          rfl
                         refine one_ (i := 4) (N := some 112) #[true, true, true, true, true, true, true, true, true, false, true, true, true, true, true, false, false, false, false, false, true, false, false, false] rfl rfl (one_of HT_.out (by kernel_rfl)) (by decide) (fun K hK => ?_)
                         refine Kd.R_append_rows_step k41 (w0 := w) w.heap.size (by rfl) (.tmp 108) (.tmp 111) 29 41 (.agg #[(.int .i64 0), (.int .i64 0), (.int .i64 0), (.int .i64 0), (.int .i64 0), (.int .i64 0), (.int .i64 0), (.int .i64 0), (.int .i64 0)]) 72 rfl Try.underlying29 info41 rfl (by decide) (by omega) v305 y304 y307 _ _ _ (fun k_ => k_ ≠ gb294) (fun _ => False) rfl rfl ?aO ?aR (fun _ _ h => h) (fun _ h => h.elim) ?aF ?aB ?aS ?aL ?_
                         (case aR => repeat (first | exact (Kd.C_below HR310.out HB.out) | (with_reducible refine Kd.C_alloc ?_ _) | (with_reducible refine Kd.C_drewN ?_ _) | (with_reducible refine Kd.C_drew ?_)))
                         (case aB => exact (by repeat (first | (with_reducible first | exact HB.out | apply below_alloc | apply pw_below_drewN | apply below_drew1 | refine below_set ?_ GE294.out | refine below_set ?_ GE303.out | refine below_set ?_ GE327.out) | exact HB.out)))
                         (case aF => exact (fun k_ hk => Kd.freshB (g := gb294) (o := .cells #[.int .i64 ((rd_T41 l0 a1).f0), .int .i64 ((rd_T41 l0 a1).f1), .int .i64 ((rd_T41 l0 a1).f2), .int .i64 ((rd_T41 l0 a1).f3), .int .i64 ((rd_T41 l0 a1).f4), .int .i64 ((rd_T41 l0 a1).f5.f0), .int .i64 ((rd_T41 l0 a1).f5.f1), .int .i64 ((rd_T41 l0 a1).f6.f0), .int .i64 ((rd_T41 l0 a1).f6.f1)] 41 (0, 0)) (zk BK294.out) k_ hk))
                         (case aO => exact (by (with_reducible repeat (first | apply Kd.R_alloc | apply Kd.R_drewN | apply Kd.R_drew)); exact HO306.out))
                         (case aS => exact (below_size (by repeat (first | (with_reducible first | exact HB.out | apply below_alloc | apply pw_below_drewN | apply below_drew1 | refine below_set ?_ GE294.out | refine below_set ?_ GE303.out | refine below_set ?_ GE327.out) | exact HB.out))))
                         (case aL => have := LMc55.out; omega)
                         intro v312 w75 ho hb hg hat
                         rw [← Ny311.out] at ho
                         have n0_ := Aside0.mk (blk_grown (g := gb294) (o := .cells #[.int .i64 ((rd_T41 l0 a1).f0), .int .i64 ((rd_T41 l0 a1).f1), .int .i64 ((rd_T41 l0 a1).f2), .int .i64 ((rd_T41 l0 a1).f3), .int .i64 ((rd_T41 l0 a1).f4), .int .i64 ((rd_T41 l0 a1).f5.f0), .int .i64 ((rd_T41 l0 a1).f5.f1), .int .i64 ((rd_T41 l0 a1).f6.f0), .int .i64 ((rd_T41 l0 a1).f6.f1)] 41 (0, 0)) (zk BK294.out) hg (Kd.R_away HO306.out (fun _ hk => hk)))
                         have n1_ := Aside0.mk (blk_grown (g := gb303) (o := .cells #[.int .i64 t297, .int .i64 t298, .int .i64 t299, .int .i64 t300] 39 (0, 0)) (zk BK303.out) hg (Kd.R_ne HO306.out BK303.out (by decide)))
                         have n2_ := Aside0.mk (blk_grown (g := gb327) (o := .cells #[.int .i64 0, .int .i64 0, .int .i64 0, .int .i64 0] 39 (0, 0)) (zk BK327.out) hg (Kd.R_ne HO306.out BK327.out (by decide)))
                         have n3_ := Aside0.mk (hb)
                         have n4_ := Aside0.mk (ho)
                         clear BK294
                         clear BK303
                         clear BK327
                         clear HB
                         clear HO306
                         have BK294 := n0_
                         have BK303 := n1_
                         have BK327 := n2_
                         have HB := n3_
                         have HO313 := n4_
                         clear n0_ n1_ n2_ n3_ n4_
                         clear ho hb hg hat
                         refine hK.out _ _ ⟨(blk_cell BK294.out 0).trans rfl, (blk_cell BK294.out 1).trans rfl, (blk_cell BK294.out 2).trans rfl, (blk_cell BK294.out 3).trans rfl, (blk_cell BK294.out 4).trans rfl, (blk_cell BK294.out 5).trans rfl, (blk_cell BK294.out 6).trans rfl, (blk_cell BK294.out 7).trans rfl, (blk_cell BK294.out 8).trans rfl⟩ (fun hHeld => ?_)
                         clear hK K
                         refine norm_ (a' := ?_) ?_ ?_
                         rotate_left
                         ·show Act.put _ (some 112) _ = _
                          simp only [Act.put, List.setIfInBounds_toArray, List.set_cons_zero, List.set_cons_succ, i64_w, i32_w]
                          rfl
                         exact norm_ (by first | (simp only [putAll, Act.put, List.setIfInBounds_toArray, List.set_cons_zero, List.set_cons_succ]; done) | (simp only [putAll, Act.put, List.setIfInBounds_toArray, List.set_cons_zero, List.set_cons_succ]; rfl)) (hJ0_4_20 (v305, v312, gb327) _ ⟨hHeld, (by (with_reducible repeat (first | apply Kd.R_alloc | apply Kd.R_drewN | apply Kd.R_drew)); exact HO313.out), (zk BK294.out), (zk BK303.out), (zk BK327.out), GW327.out, GE327.out, NB294_327.out, NB327_294.out, NB303_327.out, NB327_303.out, (by repeat (first | (with_reducible first | exact HB.out | apply below_alloc | apply pw_below_drewN | apply below_drew1 | refine below_set ?_ GE294.out | refine below_set ?_ GE303.out | refine below_set ?_ GE327.out) | exact HB.out))⟩)
                       ·skip
                        rintro ⟨v305, v312⟩ w74 ⟨hS_, h0_, h1_, h2_, h3_⟩
                        have n0_ : Aside0 (Kd.R k41 41 w74 w.heap.size (fun k_ => k_ ≠ gb294) v312 y311) := ⟨h0_⟩
                        have n1_ : Aside0 (w74.heap[gb294]? = some (.cells #[.int .i64 ((rd_T41 l0 a1).f0), .int .i64 ((rd_T41 l0 a1).f1), .int .i64 ((rd_T41 l0 a1).f2), .int .i64 ((rd_T41 l0 a1).f3), .int .i64 ((rd_T41 l0 a1).f4), .int .i64 ((rd_T41 l0 a1).f5.f0), .int .i64 ((rd_T41 l0 a1).f5.f1), .int .i64 ((rd_T41 l0 a1).f6.f0), .int .i64 ((rd_T41 l0 a1).f6.f1)] 41 (0, 0))) := ⟨h1_⟩
                        have n2_ : Aside0 (w74.heap[gb303]? = some (.cells #[.int .i64 t297, .int .i64 t298, .int .i64 t299, .int .i64 t300] 39 (0, 0))) := ⟨h2_⟩
                        have n3_ : Aside0 (Below w.heap.size w w74) := ⟨h3_⟩
                        clear BK294
                        clear BK303
                        clear HB
                        clear h0_ h1_ h2_ h3_
                        have HO313 := n0_
                        have BK294 := n1_
                        have BK303 := n2_
                        have HB := n3_
                        clear n0_ n1_ n2_ n3_
                        have hHeld : w74.cell? ⟨gb294, 0, none⟩ = some (.int .i64 ((rd_T41 l0 a1).f0)) ∧ w74.cell? ⟨gb294, 1, none⟩ = some (.int .i64 ((rd_T41 l0 a1).f1)) ∧ w74.cell? ⟨gb294, 2, none⟩ = some (.int .i64 ((rd_T41 l0 a1).f2)) ∧ w74.cell? ⟨gb294, 3, none⟩ = some (.int .i64 ((rd_T41 l0 a1).f3)) ∧ w74.cell? ⟨gb294, 4, none⟩ = some (.int .i64 ((rd_T41 l0 a1).f4)) ∧ w74.cell? ⟨gb294, 5, none⟩ = some (.int .i64 ((rd_T41 l0 a1).f5.f0)) ∧ w74.cell? ⟨gb294, 6, none⟩ = some (.int .i64 ((rd_T41 l0 a1).f5.f1)) ∧ w74.cell? ⟨gb294, 7, none⟩ = some (.int .i64 ((rd_T41 l0 a1).f6.f0)) ∧ w74.cell? ⟨gb294, 8, none⟩ = some (.int .i64 ((rd_T41 l0 a1).f6.f1)) := hS_
                        refine norm_ (a' := ?_) ?_ ?_
                        rotate_left
                        ·simp only [putAll, Act.put, List.setIfInBounds_toArray, List.set_cons_zero, List.set_cons_succ]
                         rfl
                        refine two_ (i := 9) (j := 20) (Ni := some 117) (Nj := some 14) #[true, true, true, true, true, true, true, true, true, true, true, true, true, true, true, false, false, false, false, false, false, false, false, false] #[true, true, true, true, true, true, true, true, true, false, true, true, true, true, true, false, false, false, false, false, true, false, false, false] rfl rfl rfl rfl (two_of HT_.out (by kernel_rfl)) (by decide) (by decide) (fun K hK => ?_) (fun K hK => ?_)
                        ·skip
                         refine Kd.R_append_rows_step k41 (w0 := w) w.heap.size (by rfl) (.tmp 112) (.tmp 116) 29 41 (.agg #[(.int .i64 0), (.int .i64 0), (.int .i64 0), (.int .i64 0), (.int .i64 0), (.int .i64 0), (.int .i64 0), (.int .i64 0), (.int .i64 0)]) 72 rfl Try.underlying29 info41 rfl (by decide) (by omega) v312 y311 y314 _ _ _ (fun k_ => k_ ≠ gb294) (fun _ => False) rfl rfl ?aO ?aR (fun _ _ h => h) (fun _ h => h.elim) ?aF ?aB ?aS ?aL ?_
                         (case aR => repeat (first | exact (Kd.C_below HR317.out HB.out) | (with_reducible refine Kd.C_alloc ?_ _) | (with_reducible refine Kd.C_drewN ?_ _) | (with_reducible refine Kd.C_drew ?_)))
                         (case aB => exact (by repeat (first | (with_reducible first | exact HB.out | apply below_alloc | apply pw_below_drewN | apply below_drew1 | refine below_set ?_ GE294.out | refine below_set ?_ GE303.out) | exact HB.out)))
                         (case aF => exact (fun k_ hk => Kd.freshB (g := gb294) (o := .cells #[.int .i64 ((rd_T41 l0 a1).f0), .int .i64 ((rd_T41 l0 a1).f1), .int .i64 ((rd_T41 l0 a1).f2), .int .i64 ((rd_T41 l0 a1).f3), .int .i64 ((rd_T41 l0 a1).f4), .int .i64 ((rd_T41 l0 a1).f5.f0), .int .i64 ((rd_T41 l0 a1).f5.f1), .int .i64 ((rd_T41 l0 a1).f6.f0), .int .i64 ((rd_T41 l0 a1).f6.f1)] 41 (0, 0)) (zk BK294.out) k_ hk))
                         (case aO => exact (by (with_reducible repeat (first | apply Kd.R_alloc | apply Kd.R_drewN | apply Kd.R_drew)); exact HO313.out))
                         (case aS => exact (below_size (by repeat (first | (with_reducible first | exact HB.out | apply below_alloc | apply pw_below_drewN | apply below_drew1 | refine below_set ?_ GE294.out | refine below_set ?_ GE303.out) | exact HB.out))))
                         (case aL => have := LMc59.out; omega)
                         intro v319 w75 ho hb hg hat
                         rw [← Ny318.out] at ho
                         have n0_ := Aside0.mk (blk_grown (g := gb294) (o := .cells #[.int .i64 ((rd_T41 l0 a1).f0), .int .i64 ((rd_T41 l0 a1).f1), .int .i64 ((rd_T41 l0 a1).f2), .int .i64 ((rd_T41 l0 a1).f3), .int .i64 ((rd_T41 l0 a1).f4), .int .i64 ((rd_T41 l0 a1).f5.f0), .int .i64 ((rd_T41 l0 a1).f5.f1), .int .i64 ((rd_T41 l0 a1).f6.f0), .int .i64 ((rd_T41 l0 a1).f6.f1)] 41 (0, 0)) (zk BK294.out) hg (Kd.R_away HO313.out (fun _ hk => hk)))
                         have n1_ := Aside0.mk (blk_grown (g := gb303) (o := .cells #[.int .i64 t297, .int .i64 t298, .int .i64 t299, .int .i64 t300] 39 (0, 0)) (zk BK303.out) hg (Kd.R_ne HO313.out BK303.out (by decide)))
                         have n2_ := Aside0.mk (hb)
                         have n3_ := Aside0.mk (ho)
                         clear BK294
                         clear BK303
                         clear HB
                         clear HO313
                         have BK294 := n0_
                         have BK303 := n1_
                         have HB := n2_
                         have HO320 := n3_
                         clear n0_ n1_ n2_ n3_
                         clear ho hb hg hat
                         refine hK.out _ _ ⟨(blk_cell BK294.out 0).trans rfl, (blk_cell BK294.out 1).trans rfl, (blk_cell BK294.out 2).trans rfl, (blk_cell BK294.out 3).trans rfl, (blk_cell BK294.out 4).trans rfl, (blk_cell BK294.out 5).trans rfl, (blk_cell BK294.out 6).trans rfl, (blk_cell BK294.out 7).trans rfl, (blk_cell BK294.out 8).trans rfl⟩ (fun hHeld => ?_)
                         clear hK K
                         refine norm_ (a' := ?_) ?_ ?_
                         rotate_left
                         ·show Act.put _ (some 117) _ = _
                          simp only [Act.put, List.setIfInBounds_toArray, List.set_cons_zero, List.set_cons_succ, i64_w, i32_w]
                          rfl
                         exact norm_ (by first | (simp only [putAll, Act.put, List.setIfInBounds_toArray, List.set_cons_zero, List.set_cons_succ]; done) | (simp only [putAll, Act.put, List.setIfInBounds_toArray, List.set_cons_zero, List.set_cons_succ]; rfl)) (hJ0_4_9 (v305, v312, v319) _ ⟨hHeld, (by (with_reducible repeat (first | apply Kd.R_alloc | apply Kd.R_drewN | apply Kd.R_drew)); exact HO320.out), (zk BK294.out), (zk BK303.out), (by repeat (first | (with_reducible first | exact HB.out | apply below_alloc | apply pw_below_drewN | apply below_drew1 | refine below_set ?_ GE294.out | refine below_set ?_ GE303.out) | exact HB.out))⟩)
                        ·skip
                         refine box_step ?hg (N := 14) ?hd (cs := #[.int .i64 0, .int .i64 0, .int .i64 0, .int .i64 0]) (t := 39) ?hr ?_; (case hd => rfl); (case hg => rfl); (case hr => first | (go_simp; done) | (go_simp; rfl))
                         intro gb327 hg w75 hbox hb
                         have n0_ := Aside0.mk (Kd.R_below (by (with_reducible repeat (first | apply Kd.R_alloc | apply Kd.R_drewN | apply Kd.R_drew)); exact HO313.out) hb)
                         have n1_ := Aside0.mk (zb BK294.out hb)
                         have n2_ := Aside0.mk (zb BK303.out hb)
                         have n3_ := Aside0.mk (below_step (by repeat (first | (with_reducible first | exact HB.out | apply below_alloc | apply pw_below_drewN | apply below_drew1 | refine below_set ?_ GE294.out | refine below_set ?_ GE303.out) | exact HB.out)) hb)
                         have n4_ := Aside0.mk (hbox)
                         have n5_ := Aside0.mk ((by rw [hg]; exact (below_size (by repeat (first | (with_reducible first | exact HB.out | apply below_alloc | apply pw_below_drewN | apply below_drew1 | refine below_set ?_ GE294.out | refine below_set ?_ GE303.out) | exact HB.out))) : w.heap.size ≤ gb327))
                         have n6_ := Aside0.mk ((by rw [hg]; exact (below_size (by repeat (first | (with_reducible first | exact HB.out | apply below_alloc | apply pw_below_drewN | apply below_drew1 | refine below_set ?_ GE294.out | refine below_set ?_ GE303.out) | exact HB.out))) : w.heap.size ≤ gb327))
                         have n7_ := Aside0.mk ((by rw [hg]; exact Nat.ne_of_lt (blk_lt (zk BK294.out)) : gb294 ≠ gb327))
                         have n8_ := Aside0.mk ((by rw [hg]; exact Nat.ne_of_gt (blk_lt (zk BK294.out)) : gb327 ≠ gb294))
                         have n9_ := Aside0.mk ((by rw [hg]; exact Nat.ne_of_lt (blk_lt (zk BK303.out)) : gb303 ≠ gb327))
                         have n10_ := Aside0.mk ((by rw [hg]; exact Nat.ne_of_gt (blk_lt (zk BK303.out)) : gb327 ≠ gb303))
                         clear HO313
                         clear BK294
                         clear BK303
                         clear HB
                         have HO313 := n0_
                         have BK294 := n1_
                         have BK303 := n2_
                         have HB := n3_
                         have BK327 := n4_
                         have GW327 := n5_
                         have GE327 := n6_
                         have NB294_327 := n7_
                         have NB327_294 := n8_
                         have NB303_327 := n9_
                         have NB327_303 := n10_
                         clear n0_ n1_ n2_ n3_ n4_ n5_ n6_ n7_ n8_ n9_ n10_
                         clear hb hbox hg
                         refine hK.out _ _ ⟨(blk_cell BK294.out 0).trans rfl, (blk_cell BK294.out 1).trans rfl, (blk_cell BK294.out 2).trans rfl, (blk_cell BK294.out 3).trans rfl, (blk_cell BK294.out 4).trans rfl, (blk_cell BK294.out 5).trans rfl, (blk_cell BK294.out 6).trans rfl, (blk_cell BK294.out 7).trans rfl, (blk_cell BK294.out 8).trans rfl⟩ (fun hHeld => ?_)
                         clear hK K
                         refine norm_ (a' := ?_) ?_ ?_
                         rotate_left
                         ·show Act.put _ (some 14) _ = _
                          simp only [Act.put, List.setIfInBounds_toArray, List.set_cons_zero, List.set_cons_succ, i64_w, i32_w]
                          rfl
                         exact norm_ (by first | (simp only [putAll, Act.put, List.setIfInBounds_toArray, List.set_cons_zero, List.set_cons_succ]; done) | (simp only [putAll, Act.put, List.setIfInBounds_toArray, List.set_cons_zero, List.set_cons_succ]; rfl)) (hJ0_4_20 (v305, v312, gb327) _ ⟨hHeld, (by (with_reducible repeat (first | apply Kd.R_alloc | apply Kd.R_drewN | apply Kd.R_drew)); exact HO313.out), (zk BK294.out), (zk BK303.out), (zk BK327.out), GW327.out, GE327.out, NB294_327.out, NB327_294.out, NB303_327.out, NB327_303.out, (by repeat (first | (with_reducible first | exact HB.out | apply below_alloc | apply pw_below_drewN | apply below_drew1 | refine below_set ?_ GE294.out | refine below_set ?_ GE303.out | refine below_set ?_ GE327.out) | exact HB.out))⟩)
                      ·skip
                       rintro ⟨v305, v312, gb327⟩ w75 ⟨hS_, h0_, h1_, h2_, h3_, h4_, h5_, h6_, h7_, h8_, h9_, h10_⟩
                       have n0_ : Aside0 (Kd.R k41 41 w75 w.heap.size (fun k_ => k_ ≠ gb294) v312 y311) := ⟨h0_⟩
                       have n1_ : Aside0 (w75.heap[gb294]? = some (.cells #[.int .i64 ((rd_T41 l0 a1).f0), .int .i64 ((rd_T41 l0 a1).f1), .int .i64 ((rd_T41 l0 a1).f2), .int .i64 ((rd_T41 l0 a1).f3), .int .i64 ((rd_T41 l0 a1).f4), .int .i64 ((rd_T41 l0 a1).f5.f0), .int .i64 ((rd_T41 l0 a1).f5.f1), .int .i64 ((rd_T41 l0 a1).f6.f0), .int .i64 ((rd_T41 l0 a1).f6.f1)] 41 (0, 0))) := ⟨h1_⟩
                       have n2_ : Aside0 (w75.heap[gb303]? = some (.cells #[.int .i64 t297, .int .i64 t298, .int .i64 t299, .int .i64 t300] 39 (0, 0))) := ⟨h2_⟩
                       have n3_ : Aside0 (w75.heap[gb327]? = some (.cells #[.int .i64 0, .int .i64 0, .int .i64 0, .int .i64 0] 39 (0, 0))) := ⟨h3_⟩
                       have n4_ : Aside0 (w.heap.size ≤ gb327) := ⟨h4_⟩
                       have n5_ : Aside0 (w.heap.size ≤ gb327) := ⟨h5_⟩
                       have n6_ : Aside0 (gb294 ≠ gb327) := ⟨h6_⟩
                       have n7_ : Aside0 (gb327 ≠ gb294) := ⟨h7_⟩
                       have n8_ : Aside0 (gb303 ≠ gb327) := ⟨h8_⟩
                       have n9_ : Aside0 (gb327 ≠ gb303) := ⟨h9_⟩
                       have n10_ : Aside0 (Below w.heap.size w w75) := ⟨h10_⟩
                       clear BK294
                       clear BK303
                       clear HB
                       clear h0_ h1_ h2_ h3_ h4_ h5_ h6_ h7_ h8_ h9_ h10_
                       have HO313 := n0_
                       have BK294 := n1_
                       have BK303 := n2_
                       have BK327 := n3_
                       have GW327 := n4_
                       have GE327 := n5_
                       have NB294_327 := n6_
                       have NB327_294 := n7_
                       have NB303_327 := n8_
                       have NB327_303 := n9_
                       have HB := n10_
                       clear n0_ n1_ n2_ n3_ n4_ n5_ n6_ n7_ n8_ n9_ n10_
                       have hHeld : w75.cell? ⟨gb294, 0, none⟩ = some (.int .i64 ((rd_T41 l0 a1).f0)) ∧ w75.cell? ⟨gb294, 1, none⟩ = some (.int .i64 ((rd_T41 l0 a1).f1)) ∧ w75.cell? ⟨gb294, 2, none⟩ = some (.int .i64 ((rd_T41 l0 a1).f2)) ∧ w75.cell? ⟨gb294, 3, none⟩ = some (.int .i64 ((rd_T41 l0 a1).f3)) ∧ w75.cell? ⟨gb294, 4, none⟩ = some (.int .i64 ((rd_T41 l0 a1).f4)) ∧ w75.cell? ⟨gb294, 5, none⟩ = some (.int .i64 ((rd_T41 l0 a1).f5.f0)) ∧ w75.cell? ⟨gb294, 6, none⟩ = some (.int .i64 ((rd_T41 l0 a1).f5.f1)) ∧ w75.cell? ⟨gb294, 7, none⟩ = some (.int .i64 ((rd_T41 l0 a1).f6.f0)) ∧ w75.cell? ⟨gb294, 8, none⟩ = some (.int .i64 ((rd_T41 l0 a1).f6.f1)) := hS_
                       refine norm_ (a' := ?_) ?_ ?_
                       rotate_left
                       ·simp only [putAll, Act.put, List.setIfInBounds_toArray, List.set_cons_zero, List.set_cons_succ]
                        rfl
                       refine one_ (i := 9) (N := some 117) #[true, true, true, true, true, true, true, true, true, true, true, true, true, true, true, false, false, false, false, false, true, false, false, false] rfl rfl (one_of HT_.out (by kernel_rfl)) (by decide) (fun K hK => ?_)
                       refine Kd.R_append_rows_step k41 (w0 := w) w.heap.size (by rfl) (.tmp 112) (.tmp 116) 29 41 (.agg #[(.int .i64 0), (.int .i64 0), (.int .i64 0), (.int .i64 0), (.int .i64 0), (.int .i64 0), (.int .i64 0), (.int .i64 0), (.int .i64 0)]) 72 rfl Try.underlying29 info41 rfl (by decide) (by omega) v312 y311 y314 _ _ _ (fun k_ => k_ ≠ gb294) (fun _ => False) rfl rfl ?aO ?aR (fun _ _ h => h) (fun _ h => h.elim) ?aF ?aB ?aS ?aL ?_
                       (case aR => repeat (first | exact (Kd.C_below HR317.out HB.out) | (with_reducible refine Kd.C_alloc ?_ _) | (with_reducible refine Kd.C_drewN ?_ _) | (with_reducible refine Kd.C_drew ?_)))
                       (case aB => exact (by repeat (first | (with_reducible first | exact HB.out | apply below_alloc | apply pw_below_drewN | apply below_drew1 | refine below_set ?_ GE294.out | refine below_set ?_ GE303.out | refine below_set ?_ GE327.out) | exact HB.out)))
                       (case aF => exact (fun k_ hk => Kd.freshB (g := gb294) (o := .cells #[.int .i64 ((rd_T41 l0 a1).f0), .int .i64 ((rd_T41 l0 a1).f1), .int .i64 ((rd_T41 l0 a1).f2), .int .i64 ((rd_T41 l0 a1).f3), .int .i64 ((rd_T41 l0 a1).f4), .int .i64 ((rd_T41 l0 a1).f5.f0), .int .i64 ((rd_T41 l0 a1).f5.f1), .int .i64 ((rd_T41 l0 a1).f6.f0), .int .i64 ((rd_T41 l0 a1).f6.f1)] 41 (0, 0)) (zk BK294.out) k_ hk))
                       (case aO => exact (by (with_reducible repeat (first | apply Kd.R_alloc | apply Kd.R_drewN | apply Kd.R_drew)); exact HO313.out))
                       (case aS => exact (below_size (by repeat (first | (with_reducible first | exact HB.out | apply below_alloc | apply pw_below_drewN | apply below_drew1 | refine below_set ?_ GE294.out | refine below_set ?_ GE303.out | refine below_set ?_ GE327.out) | exact HB.out))))
                       (case aL => have := LMc59.out; omega)
                       intro v319 w76 ho hb hg hat
                       rw [← Ny318.out] at ho
                       have n0_ := Aside0.mk (blk_grown (g := gb294) (o := .cells #[.int .i64 ((rd_T41 l0 a1).f0), .int .i64 ((rd_T41 l0 a1).f1), .int .i64 ((rd_T41 l0 a1).f2), .int .i64 ((rd_T41 l0 a1).f3), .int .i64 ((rd_T41 l0 a1).f4), .int .i64 ((rd_T41 l0 a1).f5.f0), .int .i64 ((rd_T41 l0 a1).f5.f1), .int .i64 ((rd_T41 l0 a1).f6.f0), .int .i64 ((rd_T41 l0 a1).f6.f1)] 41 (0, 0)) (zk BK294.out) hg (Kd.R_away HO313.out (fun _ hk => hk)))
                       have n1_ := Aside0.mk (blk_grown (g := gb303) (o := .cells #[.int .i64 t297, .int .i64 t298, .int .i64 t299, .int .i64 t300] 39 (0, 0)) (zk BK303.out) hg (Kd.R_ne HO313.out BK303.out (by decide)))
                       have n2_ := Aside0.mk (blk_grown (g := gb327) (o := .cells #[.int .i64 0, .int .i64 0, .int .i64 0, .int .i64 0] 39 (0, 0)) (zk BK327.out) hg (Kd.R_ne HO313.out BK327.out (by decide)))
                       have n3_ := Aside0.mk (hb)
                       have n4_ := Aside0.mk (ho)
                       clear BK294
                       clear BK303
                       clear BK327
                       clear HB
                       clear HO313
                       have BK294 := n0_
                       have BK303 := n1_
                       have BK327 := n2_
                       have HB := n3_
                       have HO320 := n4_
                       clear n0_ n1_ n2_ n3_ n4_
                       clear ho hb hg hat
                       refine hK.out _ _ ⟨(blk_cell BK294.out 0).trans rfl, (blk_cell BK294.out 1).trans rfl, (blk_cell BK294.out 2).trans rfl, (blk_cell BK294.out 3).trans rfl, (blk_cell BK294.out 4).trans rfl, (blk_cell BK294.out 5).trans rfl, (blk_cell BK294.out 6).trans rfl, (blk_cell BK294.out 7).trans rfl, (blk_cell BK294.out 8).trans rfl⟩ (fun hHeld => ?_)
                       clear hK K
                       refine norm_ (a' := ?_) ?_ ?_
                       rotate_left
                       ·show Act.put _ (some 117) _ = _
                        simp only [Act.put, List.setIfInBounds_toArray, List.set_cons_zero, List.set_cons_succ, i64_w, i32_w]
                        rfl
                       exact norm_ (by first | (simp only [putAll, Act.put, List.setIfInBounds_toArray, List.set_cons_zero, List.set_cons_succ]; done) | (simp only [putAll, Act.put, List.setIfInBounds_toArray, List.set_cons_zero, List.set_cons_succ]; rfl)) (hJ0_4_9_20 (v305, v312, v319, gb327) _ ⟨hHeld, (by (with_reducible repeat (first | apply Kd.R_alloc | apply Kd.R_drewN | apply Kd.R_drew)); exact HO320.out), (zk BK294.out), (zk BK303.out), (zk BK327.out), GW327.out, GE327.out, NB294_327.out, NB327_294.out, NB303_327.out, NB327_303.out, (by repeat (first | (with_reducible first | exact HB.out | apply below_alloc | apply pw_below_drewN | apply below_drew1 | refine below_set ?_ GE294.out | refine below_set ?_ GE303.out | refine below_set ?_ GE327.out) | exact HB.out))⟩)
                     ·skip
                      rintro ⟨v305, v312, v319⟩ w75 ⟨hS_, h0_, h1_, h2_, h3_⟩
                      have n0_ : Aside0 (Kd.R k41 41 w75 w.heap.size (fun k_ => k_ ≠ gb294) v319 y318) := ⟨h0_⟩
                      have n1_ : Aside0 (w75.heap[gb294]? = some (.cells #[.int .i64 ((rd_T41 l0 a1).f0), .int .i64 ((rd_T41 l0 a1).f1), .int .i64 ((rd_T41 l0 a1).f2), .int .i64 ((rd_T41 l0 a1).f3), .int .i64 ((rd_T41 l0 a1).f4), .int .i64 ((rd_T41 l0 a1).f5.f0), .int .i64 ((rd_T41 l0 a1).f5.f1), .int .i64 ((rd_T41 l0 a1).f6.f0), .int .i64 ((rd_T41 l0 a1).f6.f1)] 41 (0, 0))) := ⟨h1_⟩
                      have n2_ : Aside0 (w75.heap[gb303]? = some (.cells #[.int .i64 t297, .int .i64 t298, .int .i64 t299, .int .i64 t300] 39 (0, 0))) := ⟨h2_⟩
                      have n3_ : Aside0 (Below w.heap.size w w75) := ⟨h3_⟩
                      clear BK294
                      clear BK303
                      clear HB
                      clear h0_ h1_ h2_ h3_
                      have HO320 := n0_
                      have BK294 := n1_
                      have BK303 := n2_
                      have HB := n3_
                      clear n0_ n1_ n2_ n3_
                      have hHeld : w75.cell? ⟨gb294, 0, none⟩ = some (.int .i64 ((rd_T41 l0 a1).f0)) ∧ w75.cell? ⟨gb294, 1, none⟩ = some (.int .i64 ((rd_T41 l0 a1).f1)) ∧ w75.cell? ⟨gb294, 2, none⟩ = some (.int .i64 ((rd_T41 l0 a1).f2)) ∧ w75.cell? ⟨gb294, 3, none⟩ = some (.int .i64 ((rd_T41 l0 a1).f3)) ∧ w75.cell? ⟨gb294, 4, none⟩ = some (.int .i64 ((rd_T41 l0 a1).f4)) ∧ w75.cell? ⟨gb294, 5, none⟩ = some (.int .i64 ((rd_T41 l0 a1).f5.f0)) ∧ w75.cell? ⟨gb294, 6, none⟩ = some (.int .i64 ((rd_T41 l0 a1).f5.f1)) ∧ w75.cell? ⟨gb294, 7, none⟩ = some (.int .i64 ((rd_T41 l0 a1).f6.f0)) ∧ w75.cell? ⟨gb294, 8, none⟩ = some (.int .i64 ((rd_T41 l0 a1).f6.f1)) := hS_
                      obtain ⟨Ao76, co76, eo76⟩ := Kd.R_slice HO320.out
                      (first | subst eo76 | (injection eo76 with f1_ f2_ f3_; have f4_ := f1_.symm; have f5_ := f3_.symm; clear f1_ f2_ f3_; subst f4_; subst f5_))
                      refine norm_ (a' := ?_) ?_ ?_
                      rotate_left
                      ·simp only [putAll, Act.put, List.setIfInBounds_toArray, List.set_cons_zero, List.set_cons_succ]
                       rfl
                      refine two_ (i := 15) (j := 20) (Ni := some 123) (Nj := some 14) #[true, true, true, true, true, true, true, true, true, true, true, true, true, true, true, true, false, false, false, false, false, false, false, false] #[true, true, true, true, true, true, true, true, true, true, true, true, true, true, true, false, false, false, false, false, true, false, false, false] rfl rfl rfl rfl (two_of HT_.out (by kernel_rfl)) (by decide) (by decide) (fun K hK => ?_) (fun K hK => ?_)
                      ·skip
                       refine goes_ Try.func15 (by kernel_rfl) rfl #[.slice Ao76 y318.length co76, .int .i64 ((rd_T41 l0 a1).f2), .int .i64 ((rd_T41 l0 a1).f3), .int .i64 a2] (by rfl) rfl rfl (by (try simp only [List.map_toArray, List.map_cons, List.map_nil]); first | done | rfl | (simp only [List.length_drop, List.length_take]; rfl)) ?_
                       with_reducible refine (weather_Of.calls _ _ y318 ((rd_T41 l0 a1).f2) ((rd_T41 l0 a1).f3) a2 t321 t322 t323 t324 t325 t326 _ ?side1 ?side2 A60.out).mono ?_
                       (case side1 => repeat (first | exact (Kd.R_reads' HO320.out).2.2 | (with_reducible refine Kd.C_alloc ?_ _) | (with_reducible refine Kd.C_drewN ?_ _) | (with_reducible refine Kd.C_drew ?_)))
                       (case side2 => exact (Kd.R_reads' HO320.out).2.1)
                       rintro e w77 ⟨rfl, hb⟩
                       refine ⟨_, rfl, ?_⟩
                       have n0_ := Aside0.mk (Kd.R_below (by (with_reducible repeat (first | apply Kd.R_alloc | apply Kd.R_drewN | apply Kd.R_drew)); exact HO320.out) hb)
                       have n1_ := Aside0.mk (zb BK294.out hb)
                       have n2_ := Aside0.mk (zb BK303.out hb)
                       have n3_ := Aside0.mk (below_step (by repeat (first | (with_reducible first | exact HB.out | apply below_alloc | apply pw_below_drewN | apply below_drew1 | refine below_set ?_ GE294.out | refine below_set ?_ GE303.out) | exact HB.out)) hb)
                       clear HO320
                       clear BK294
                       clear BK303
                       clear HB
                       have HO320 := n0_
                       have BK294 := n1_
                       have BK303 := n2_
                       have HB := n3_
                       clear n0_ n1_ n2_ n3_
                       (try clear hb)
                       (try clear hb2)
                       (try clear hk)
                       (try clear hi)
                       refine hK.out _ _ ⟨(blk_cell BK294.out 0).trans rfl, (blk_cell BK294.out 1).trans rfl, (blk_cell BK294.out 2).trans rfl, (blk_cell BK294.out 3).trans rfl, (blk_cell BK294.out 4).trans rfl, (blk_cell BK294.out 5).trans rfl, (blk_cell BK294.out 6).trans rfl, (blk_cell BK294.out 7).trans rfl, (blk_cell BK294.out 8).trans rfl⟩ (fun hHeld => ?_)
                       clear hK K
                       refine norm_ (a' := ?_) ?_ ?_
                       rotate_left
                       ·show Act.put _ (some 123) _ = _
                        simp only [Act.put, List.setIfInBounds_toArray, List.set_cons_zero, List.set_cons_succ, i64_w, i32_w]
                        rfl
                       refine pure_ (i := 16) (N := some 107) (v := ?_) (a' := ?_) #[true, true, true, true, true, true, true, true, true, true, true, true, true, true, true, true, true, false, false, false, false, false, false, false] rfl rfl (any_of HT_.out (by kernel_rfl)) (fun _ _ _ h => h) (Or.inl ⟨by rfl, ?_⟩) ?_ ?_
                       rotate_left
                       ·intro w'
                        go_simp
                        with_reducible rfl
                       rotate_left
                       ·simp only [Act.put, List.setIfInBounds_toArray, List.set_cons_zero, List.set_cons_succ, i64_w, i32_w]
                        rfl
                       refine pure_ (i := 17) (N := some 124) (v := ?_) (a' := ?_) #[true, true, true, true, true, true, true, true, true, true, true, true, true, true, true, true, true, true, false, false, false, false, false, false] rfl rfl (any_of HT_.out (by kernel_rfl)) (fun _ _ _ h => h) (Or.inl ⟨by rfl, ?_⟩) ?_ ?_
                       rotate_left
                       ·intro w'
                        go_simp
                        with_reducible rfl
                       rotate_left
                       ·simp only [Act.put, List.setIfInBounds_toArray, List.set_cons_zero, List.set_cons_succ, i64_w, i32_w]
                        rfl
                       refine pure_ (i := 18) (N := some 125) (v := ?_) (a' := ?_) #[true, true, true, true, true, true, true, true, true, true, true, true, true, true, true, true, true, true, true, false, false, false, false, false] rfl rfl (any_of HT_.out (by kernel_rfl)) (fun _ _ _ h => h) (Or.inl ⟨by rfl, ?_⟩) ?_ ?_
                       rotate_left
                       ·intro w'
                        go_simp
                        with_reducible rfl
                       rotate_left
                       ·simp only [Act.put, List.setIfInBounds_toArray, List.set_cons_zero, List.set_cons_succ, i64_w, i32_w]
                        rfl
                       refine pure_ (i := 19) (N := some 126) (v := ?_) (a' := ?_) #[true, true, true, true, true, true, true, true, true, true, true, true, true, true, true, true, true, true, true, true, false, false, false, false] rfl rfl (any_of HT_.out (by kernel_rfl)) (fun _ _ _ h => h) (Or.inl ⟨by rfl, ?_⟩) ?_ ?_
                       rotate_left
                       ·intro w'
                        go_simp
                        with_reducible rfl
                       rotate_left
                       ·simp only [Act.put, List.setIfInBounds_toArray, List.set_cons_zero, List.set_cons_succ, i64_w, i32_w]
                        rfl
                       exact norm_ (by first | (simp only [putAll, Act.put, List.setIfInBounds_toArray, List.set_cons_zero, List.set_cons_succ]; done) | (simp only [putAll, Act.put, List.setIfInBounds_toArray, List.set_cons_zero, List.set_cons_succ]; rfl)) (hJ0_4_9_15 (v305, v312, .slice Ao76 y318.length co76) _ ⟨hHeld, (by (with_reducible repeat (first | apply Kd.R_alloc | apply Kd.R_drewN | apply Kd.R_drew)); exact HO320.out), (zk BK294.out), (zk BK303.out), (by repeat (first | (with_reducible first | exact HB.out | apply below_alloc | apply pw_below_drewN | apply below_drew1 | refine below_set ?_ GE294.out | refine below_set ?_ GE303.out) | exact HB.out))⟩)
                      ·skip
                       refine box_step ?hg (N := 14) ?hd (cs := #[.int .i64 0, .int .i64 0, .int .i64 0, .int .i64 0]) (t := 39) ?hr ?_; (case hd => rfl); (case hg => rfl); (case hr => first | (go_simp; done) | (go_simp; rfl))
                       intro gb327 hg w76 hbox hb
                       have n0_ := Aside0.mk (Kd.R_below (by (with_reducible repeat (first | apply Kd.R_alloc | apply Kd.R_drewN | apply Kd.R_drew)); exact HO320.out) hb)
                       have n1_ := Aside0.mk (zb BK294.out hb)
                       have n2_ := Aside0.mk (zb BK303.out hb)
                       have n3_ := Aside0.mk (below_step (by repeat (first | (with_reducible first | exact HB.out | apply below_alloc | apply pw_below_drewN | apply below_drew1 | refine below_set ?_ GE294.out | refine below_set ?_ GE303.out) | exact HB.out)) hb)
                       have n4_ := Aside0.mk (hbox)
                       have n5_ := Aside0.mk ((by rw [hg]; exact (below_size (by repeat (first | (with_reducible first | exact HB.out | apply below_alloc | apply pw_below_drewN | apply below_drew1 | refine below_set ?_ GE294.out | refine below_set ?_ GE303.out) | exact HB.out))) : w.heap.size ≤ gb327))
                       have n6_ := Aside0.mk ((by rw [hg]; exact (below_size (by repeat (first | (with_reducible first | exact HB.out | apply below_alloc | apply pw_below_drewN | apply below_drew1 | refine below_set ?_ GE294.out | refine below_set ?_ GE303.out) | exact HB.out))) : w.heap.size ≤ gb327))
                       have n7_ := Aside0.mk ((by rw [hg]; exact Nat.ne_of_lt (blk_lt (zk BK294.out)) : gb294 ≠ gb327))
                       have n8_ := Aside0.mk ((by rw [hg]; exact Nat.ne_of_gt (blk_lt (zk BK294.out)) : gb327 ≠ gb294))
                       have n9_ := Aside0.mk ((by rw [hg]; exact Nat.ne_of_lt (blk_lt (zk BK303.out)) : gb303 ≠ gb327))
                       have n10_ := Aside0.mk ((by rw [hg]; exact Nat.ne_of_gt (blk_lt (zk BK303.out)) : gb327 ≠ gb303))
                       clear HO320
                       clear BK294
                       clear BK303
                       clear HB
                       have HO320 := n0_
                       have BK294 := n1_
                       have BK303 := n2_
                       have HB := n3_
                       have BK327 := n4_
                       have GW327 := n5_
                       have GE327 := n6_
                       have NB294_327 := n7_
                       have NB327_294 := n8_
                       have NB303_327 := n9_
                       have NB327_303 := n10_
                       clear n0_ n1_ n2_ n3_ n4_ n5_ n6_ n7_ n8_ n9_ n10_
                       clear hb hbox hg
                       refine hK.out _ _ ⟨(blk_cell BK294.out 0).trans rfl, (blk_cell BK294.out 1).trans rfl, (blk_cell BK294.out 2).trans rfl, (blk_cell BK294.out 3).trans rfl, (blk_cell BK294.out 4).trans rfl, (blk_cell BK294.out 5).trans rfl, (blk_cell BK294.out 6).trans rfl, (blk_cell BK294.out 7).trans rfl, (blk_cell BK294.out 8).trans rfl⟩ (fun hHeld => ?_)
                       clear hK K
                       refine norm_ (a' := ?_) ?_ ?_
                       rotate_left
                       ·show Act.put _ (some 14) _ = _
                        simp only [Act.put, List.setIfInBounds_toArray, List.set_cons_zero, List.set_cons_succ, i64_w, i32_w]
                        rfl
                       exact norm_ (by first | (simp only [putAll, Act.put, List.setIfInBounds_toArray, List.set_cons_zero, List.set_cons_succ]; done) | (simp only [putAll, Act.put, List.setIfInBounds_toArray, List.set_cons_zero, List.set_cons_succ]; rfl)) (hJ0_4_9_20 (v305, v312, .slice Ao76 y318.length co76, gb327) _ ⟨hHeld, (by (with_reducible repeat (first | apply Kd.R_alloc | apply Kd.R_drewN | apply Kd.R_drew)); exact HO320.out), (zk BK294.out), (zk BK303.out), (zk BK327.out), GW327.out, GE327.out, NB294_327.out, NB327_294.out, NB303_327.out, NB327_303.out, (by repeat (first | (with_reducible first | exact HB.out | apply below_alloc | apply pw_below_drewN | apply below_drew1 | refine below_set ?_ GE294.out | refine below_set ?_ GE303.out | refine below_set ?_ GE327.out) | exact HB.out))⟩)
                    ·skip
                     rintro ⟨v305, v312, v319, gb327⟩ w76 ⟨hS_, h0_, h1_, h2_, h3_, h4_, h5_, h6_, h7_, h8_, h9_, h10_⟩
                     have n0_ : Aside0 (Kd.R k41 41 w76 w.heap.size (fun k_ => k_ ≠ gb294) v319 y318) := ⟨h0_⟩
                     have n1_ : Aside0 (w76.heap[gb294]? = some (.cells #[.int .i64 ((rd_T41 l0 a1).f0), .int .i64 ((rd_T41 l0 a1).f1), .int .i64 ((rd_T41 l0 a1).f2), .int .i64 ((rd_T41 l0 a1).f3), .int .i64 ((rd_T41 l0 a1).f4), .int .i64 ((rd_T41 l0 a1).f5.f0), .int .i64 ((rd_T41 l0 a1).f5.f1), .int .i64 ((rd_T41 l0 a1).f6.f0), .int .i64 ((rd_T41 l0 a1).f6.f1)] 41 (0, 0))) := ⟨h1_⟩
                     have n2_ : Aside0 (w76.heap[gb303]? = some (.cells #[.int .i64 t297, .int .i64 t298, .int .i64 t299, .int .i64 t300] 39 (0, 0))) := ⟨h2_⟩
                     have n3_ : Aside0 (w76.heap[gb327]? = some (.cells #[.int .i64 0, .int .i64 0, .int .i64 0, .int .i64 0] 39 (0, 0))) := ⟨h3_⟩
                     have n4_ : Aside0 (w.heap.size ≤ gb327) := ⟨h4_⟩
                     have n5_ : Aside0 (w.heap.size ≤ gb327) := ⟨h5_⟩
                     have n6_ : Aside0 (gb294 ≠ gb327) := ⟨h6_⟩
                     have n7_ : Aside0 (gb327 ≠ gb294) := ⟨h7_⟩
                     have n8_ : Aside0 (gb303 ≠ gb327) := ⟨h8_⟩
                     have n9_ : Aside0 (gb327 ≠ gb303) := ⟨h9_⟩
                     have n10_ : Aside0 (Below w.heap.size w w76) := ⟨h10_⟩
                     clear BK294
                     clear BK303
                     clear HB
                     clear h0_ h1_ h2_ h3_ h4_ h5_ h6_ h7_ h8_ h9_ h10_
                     have HO320 := n0_
                     have BK294 := n1_
                     have BK303 := n2_
                     have BK327 := n3_
                     have GW327 := n4_
                     have GE327 := n5_
                     have NB294_327 := n6_
                     have NB327_294 := n7_
                     have NB303_327 := n8_
                     have NB327_303 := n9_
                     have HB := n10_
                     clear n0_ n1_ n2_ n3_ n4_ n5_ n6_ n7_ n8_ n9_ n10_
                     have hHeld : w76.cell? ⟨gb294, 0, none⟩ = some (.int .i64 ((rd_T41 l0 a1).f0)) ∧ w76.cell? ⟨gb294, 1, none⟩ = some (.int .i64 ((rd_T41 l0 a1).f1)) ∧ w76.cell? ⟨gb294, 2, none⟩ = some (.int .i64 ((rd_T41 l0 a1).f2)) ∧ w76.cell? ⟨gb294, 3, none⟩ = some (.int .i64 ((rd_T41 l0 a1).f3)) ∧ w76.cell? ⟨gb294, 4, none⟩ = some (.int .i64 ((rd_T41 l0 a1).f4)) ∧ w76.cell? ⟨gb294, 5, none⟩ = some (.int .i64 ((rd_T41 l0 a1).f5.f0)) ∧ w76.cell? ⟨gb294, 6, none⟩ = some (.int .i64 ((rd_T41 l0 a1).f5.f1)) ∧ w76.cell? ⟨gb294, 7, none⟩ = some (.int .i64 ((rd_T41 l0 a1).f6.f0)) ∧ w76.cell? ⟨gb294, 8, none⟩ = some (.int .i64 ((rd_T41 l0 a1).f6.f1)) := hS_
                     obtain ⟨Ao77, co77, eo77⟩ := Kd.R_slice HO320.out
                     (first | subst eo77 | (injection eo77 with f1_ f2_ f3_; have f4_ := f1_.symm; have f5_ := f3_.symm; clear f1_ f2_ f3_; subst f4_; subst f5_))
                     refine norm_ (a' := ?_) ?_ ?_
                     rotate_left
                     ·simp only [putAll, Act.put, List.setIfInBounds_toArray, List.set_cons_zero, List.set_cons_succ]
                      rfl
                     refine one_ (i := 15) (N := some 123) #[true, true, true, true, true, true, true, true, true, true, true, true, true, true, true, true, false, false, false, false, true, false, false, false] rfl rfl (one_of HT_.out (by kernel_rfl)) (by decide) (fun K hK => ?_)
                     refine goes_ Try.func15 (by kernel_rfl) rfl #[.slice Ao77 y318.length co77, .int .i64 ((rd_T41 l0 a1).f2), .int .i64 ((rd_T41 l0 a1).f3), .int .i64 a2] (by rfl) rfl rfl (by (try simp only [List.map_toArray, List.map_cons, List.map_nil]); first | done | rfl | (simp only [List.length_drop, List.length_take]; rfl)) ?_
                     with_reducible refine (weather_Of.calls _ _ y318 ((rd_T41 l0 a1).f2) ((rd_T41 l0 a1).f3) a2 t321 t322 t323 t324 t325 t326 _ ?side1 ?side2 A60.out).mono ?_
                     (case side1 => repeat (first | exact (Kd.R_reads' HO320.out).2.2 | (with_reducible refine Kd.C_alloc ?_ _) | (with_reducible refine Kd.C_drewN ?_ _) | (with_reducible refine Kd.C_drew ?_)))
                     (case side2 => exact (Kd.R_reads' HO320.out).2.1)
                     rintro e w78 ⟨rfl, hb⟩
                     refine ⟨_, rfl, ?_⟩
                     have n0_ := Aside0.mk (Kd.R_below (by (with_reducible repeat (first | apply Kd.R_alloc | apply Kd.R_drewN | apply Kd.R_drew)); exact HO320.out) hb)
                     have n1_ := Aside0.mk (zb BK294.out hb)
                     have n2_ := Aside0.mk (zb BK303.out hb)
                     have n3_ := Aside0.mk (zb BK327.out hb)
                     have n4_ := Aside0.mk (below_step (by repeat (first | (with_reducible first | exact HB.out | apply below_alloc | apply pw_below_drewN | apply below_drew1 | refine below_set ?_ GE294.out | refine below_set ?_ GE303.out | refine below_set ?_ GE327.out) | exact HB.out)) hb)
                     clear HO320
                     clear BK294
                     clear BK303
                     clear BK327
                     clear HB
                     have HO320 := n0_
                     have BK294 := n1_
                     have BK303 := n2_
                     have BK327 := n3_
                     have HB := n4_
                     clear n0_ n1_ n2_ n3_ n4_
                     (try clear hb)
                     (try clear hb2)
                     (try clear hk)
                     (try clear hi)
                     refine hK.out _ _ ⟨(blk_cell BK294.out 0).trans rfl, (blk_cell BK294.out 1).trans rfl, (blk_cell BK294.out 2).trans rfl, (blk_cell BK294.out 3).trans rfl, (blk_cell BK294.out 4).trans rfl, (blk_cell BK294.out 5).trans rfl, (blk_cell BK294.out 6).trans rfl, (blk_cell BK294.out 7).trans rfl, (blk_cell BK294.out 8).trans rfl⟩ (fun hHeld => ?_)
                     clear hK K
                     refine norm_ (a' := ?_) ?_ ?_
                     rotate_left
                     ·show Act.put _ (some 123) _ = _
                      simp only [Act.put, List.setIfInBounds_toArray, List.set_cons_zero, List.set_cons_succ, i64_w, i32_w]
                      rfl
                     refine pure_ (i := 16) (N := some 107) (v := ?_) (a' := ?_) #[true, true, true, true, true, true, true, true, true, true, true, true, true, true, true, true, true, false, false, false, true, false, false, false] rfl rfl (any_of HT_.out (by kernel_rfl)) (fun _ _ _ h => h) (Or.inl ⟨by rfl, ?_⟩) ?_ ?_
                     rotate_left
                     ·intro w'
                      go_simp
                      with_reducible rfl
                     rotate_left
                     ·simp only [Act.put, List.setIfInBounds_toArray, List.set_cons_zero, List.set_cons_succ, i64_w, i32_w]
                      rfl
                     refine pure_ (i := 17) (N := some 124) (v := ?_) (a' := ?_) #[true, true, true, true, true, true, true, true, true, true, true, true, true, true, true, true, true, true, false, false, true, false, false, false] rfl rfl (any_of HT_.out (by kernel_rfl)) (fun _ _ _ h => h) (Or.inl ⟨by rfl, ?_⟩) ?_ ?_
                     rotate_left
                     ·intro w'
                      go_simp
                      with_reducible rfl
                     rotate_left
                     ·simp only [Act.put, List.setIfInBounds_toArray, List.set_cons_zero, List.set_cons_succ, i64_w, i32_w]
                      rfl
                     refine pure_ (i := 18) (N := some 125) (v := ?_) (a' := ?_) #[true, true, true, true, true, true, true, true, true, true, true, true, true, true, true, true, true, true, true, false, true, false, false, false] rfl rfl (any_of HT_.out (by kernel_rfl)) (fun _ _ _ h => h) (Or.inl ⟨by rfl, ?_⟩) ?_ ?_
                     rotate_left
                     ·intro w'
                      go_simp
                      with_reducible rfl
                     rotate_left
                     ·simp only [Act.put, List.setIfInBounds_toArray, List.set_cons_zero, List.set_cons_succ, i64_w, i32_w]
                      rfl
                     refine pure_ (i := 19) (N := some 126) (v := ?_) (a' := ?_) #[true, true, true, true, true, true, true, true, true, true, true, true, true, true, true, true, true, true, true, true, true, false, false, false] rfl rfl (any_of HT_.out (by kernel_rfl)) (fun _ _ _ h => h) (Or.inl ⟨by rfl, ?_⟩) ?_ ?_
                     rotate_left
                     ·intro w'
                      go_simp
                      with_reducible rfl
                     rotate_left
                     ·simp only [Act.put, List.setIfInBounds_toArray, List.set_cons_zero, List.set_cons_succ, i64_w, i32_w]
                      rfl
                     exact norm_ (by first | (simp only [putAll, Act.put, List.setIfInBounds_toArray, List.set_cons_zero, List.set_cons_succ]; done) | (simp only [putAll, Act.put, List.setIfInBounds_toArray, List.set_cons_zero, List.set_cons_succ]; rfl)) (hJ0_4_9_15_20 (v305, v312, .slice Ao77 y318.length co77, gb327) _ ⟨hHeld, (by (with_reducible repeat (first | apply Kd.R_alloc | apply Kd.R_drewN | apply Kd.R_drew)); exact HO320.out), (zk BK294.out), (zk BK303.out), (zk BK327.out), GW327.out, GE327.out, NB294_327.out, NB327_294.out, NB303_327.out, NB327_303.out, (by repeat (first | (with_reducible first | exact HB.out | apply below_alloc | apply pw_below_drewN | apply below_drew1 | refine below_set ?_ GE294.out | refine below_set ?_ GE303.out | refine below_set ?_ GE327.out) | exact HB.out))⟩)
                   ·skip
                    rintro ⟨v305, v312, v319⟩ w77 ⟨hS_, h0_, h1_, h2_, h3_⟩
                    have n0_ : Aside0 (Kd.R k41 41 w77 w.heap.size (fun k_ => k_ ≠ gb294) v319 y318) := ⟨h0_⟩
                    have n1_ : Aside0 (w77.heap[gb294]? = some (.cells #[.int .i64 ((rd_T41 l0 a1).f0), .int .i64 ((rd_T41 l0 a1).f1), .int .i64 ((rd_T41 l0 a1).f2), .int .i64 ((rd_T41 l0 a1).f3), .int .i64 ((rd_T41 l0 a1).f4), .int .i64 ((rd_T41 l0 a1).f5.f0), .int .i64 ((rd_T41 l0 a1).f5.f1), .int .i64 ((rd_T41 l0 a1).f6.f0), .int .i64 ((rd_T41 l0 a1).f6.f1)] 41 (0, 0))) := ⟨h1_⟩
                    have n2_ : Aside0 (w77.heap[gb303]? = some (.cells #[.int .i64 t297, .int .i64 t298, .int .i64 t299, .int .i64 t300] 39 (0, 0))) := ⟨h2_⟩
                    have n3_ : Aside0 (Below w.heap.size w w77) := ⟨h3_⟩
                    clear BK294
                    clear BK303
                    clear HB
                    clear h0_ h1_ h2_ h3_
                    have HO320 := n0_
                    have BK294 := n1_
                    have BK303 := n2_
                    have HB := n3_
                    clear n0_ n1_ n2_ n3_
                    have hHeld : w77.cell? ⟨gb294, 0, none⟩ = some (.int .i64 ((rd_T41 l0 a1).f0)) ∧ w77.cell? ⟨gb294, 1, none⟩ = some (.int .i64 ((rd_T41 l0 a1).f1)) ∧ w77.cell? ⟨gb294, 2, none⟩ = some (.int .i64 ((rd_T41 l0 a1).f2)) ∧ w77.cell? ⟨gb294, 3, none⟩ = some (.int .i64 ((rd_T41 l0 a1).f3)) ∧ w77.cell? ⟨gb294, 4, none⟩ = some (.int .i64 ((rd_T41 l0 a1).f4)) ∧ w77.cell? ⟨gb294, 5, none⟩ = some (.int .i64 ((rd_T41 l0 a1).f5.f0)) ∧ w77.cell? ⟨gb294, 6, none⟩ = some (.int .i64 ((rd_T41 l0 a1).f5.f1)) ∧ w77.cell? ⟨gb294, 7, none⟩ = some (.int .i64 ((rd_T41 l0 a1).f6.f0)) ∧ w77.cell? ⟨gb294, 8, none⟩ = some (.int .i64 ((rd_T41 l0 a1).f6.f1)) := hS_
                    refine norm_ (a' := ?_) ?_ ?_
                    rotate_left
                    ·simp only [putAll, Act.put, List.setIfInBounds_toArray, List.set_cons_zero, List.set_cons_succ]
                     rfl
                    refine one_ (i := 20) (N := some 14) #[true, true, true, true, true, true, true, true, true, true, true, true, true, true, true, true, true, true, true, true, true, false, false, false] rfl rfl (one_of HT_.out (by kernel_rfl)) (by decide) (fun K hK => ?_)
                    refine box_step ?hg (N := 14) ?hd (cs := #[.int .i64 0, .int .i64 0, .int .i64 0, .int .i64 0]) (t := 39) ?hr ?_; (case hd => rfl); (case hg => rfl); (case hr => first | (go_simp; done) | (go_simp; rfl))
                    intro gb327 hg w78 hbox hb
                    have n0_ := Aside0.mk (Kd.R_below (by (with_reducible repeat (first | apply Kd.R_alloc | apply Kd.R_drewN | apply Kd.R_drew)); exact HO320.out) hb)
                    have n1_ := Aside0.mk (zb BK294.out hb)
                    have n2_ := Aside0.mk (zb BK303.out hb)
                    have n3_ := Aside0.mk (below_step (by repeat (first | (with_reducible first | exact HB.out | apply below_alloc | apply pw_below_drewN | apply below_drew1 | refine below_set ?_ GE294.out | refine below_set ?_ GE303.out) | exact HB.out)) hb)
                    have n4_ := Aside0.mk (hbox)
                    have n5_ := Aside0.mk ((by rw [hg]; exact (below_size (by repeat (first | (with_reducible first | exact HB.out | apply below_alloc | apply pw_below_drewN | apply below_drew1 | refine below_set ?_ GE294.out | refine below_set ?_ GE303.out) | exact HB.out))) : w.heap.size ≤ gb327))
                    have n6_ := Aside0.mk ((by rw [hg]; exact (below_size (by repeat (first | (with_reducible first | exact HB.out | apply below_alloc | apply pw_below_drewN | apply below_drew1 | refine below_set ?_ GE294.out | refine below_set ?_ GE303.out) | exact HB.out))) : w.heap.size ≤ gb327))
                    have n7_ := Aside0.mk ((by rw [hg]; exact Nat.ne_of_lt (blk_lt (zk BK294.out)) : gb294 ≠ gb327))
                    have n8_ := Aside0.mk ((by rw [hg]; exact Nat.ne_of_gt (blk_lt (zk BK294.out)) : gb327 ≠ gb294))
                    have n9_ := Aside0.mk ((by rw [hg]; exact Nat.ne_of_lt (blk_lt (zk BK303.out)) : gb303 ≠ gb327))
                    have n10_ := Aside0.mk ((by rw [hg]; exact Nat.ne_of_gt (blk_lt (zk BK303.out)) : gb327 ≠ gb303))
                    clear HO320
                    clear BK294
                    clear BK303
                    clear HB
                    have HO320 := n0_
                    have BK294 := n1_
                    have BK303 := n2_
                    have HB := n3_
                    have BK327 := n4_
                    have GW327 := n5_
                    have GE327 := n6_
                    have NB294_327 := n7_
                    have NB327_294 := n8_
                    have NB303_327 := n9_
                    have NB327_303 := n10_
                    clear n0_ n1_ n2_ n3_ n4_ n5_ n6_ n7_ n8_ n9_ n10_
                    clear hb hbox hg
                    refine hK.out _ _ ⟨(blk_cell BK294.out 0).trans rfl, (blk_cell BK294.out 1).trans rfl, (blk_cell BK294.out 2).trans rfl, (blk_cell BK294.out 3).trans rfl, (blk_cell BK294.out 4).trans rfl, (blk_cell BK294.out 5).trans rfl, (blk_cell BK294.out 6).trans rfl, (blk_cell BK294.out 7).trans rfl, (blk_cell BK294.out 8).trans rfl⟩ (fun hHeld => ?_)
                    clear hK K
                    refine norm_ (a' := ?_) ?_ ?_
                    rotate_left
                    ·show Act.put _ (some 14) _ = _
                     simp only [Act.put, List.setIfInBounds_toArray, List.set_cons_zero, List.set_cons_succ, i64_w, i32_w]
                     rfl
                    exact norm_ (by first | (simp only [putAll, Act.put, List.setIfInBounds_toArray, List.set_cons_zero, List.set_cons_succ]; done) | (simp only [putAll, Act.put, List.setIfInBounds_toArray, List.set_cons_zero, List.set_cons_succ]; rfl)) (hJ0_4_9_15_20 (v305, v312, v319, gb327) _ ⟨hHeld, (by (with_reducible repeat (first | apply Kd.R_alloc | apply Kd.R_drewN | apply Kd.R_drew)); exact HO320.out), (zk BK294.out), (zk BK303.out), (zk BK327.out), GW327.out, GE327.out, NB294_327.out, NB327_294.out, NB303_327.out, NB327_303.out, (by repeat (first | (with_reducible first | exact HB.out | apply below_alloc | apply pw_below_drewN | apply below_drew1 | refine below_set ?_ GE294.out | refine below_set ?_ GE303.out | refine below_set ?_ GE327.out) | exact HB.out))⟩)
                  rintro ⟨v305, v312, v319, gb327⟩ w78 ⟨hS_, h0_, h1_, h2_, h3_, h4_, h5_, h6_, h7_, h8_, h9_, h10_⟩
                  have n0_ : Aside0 (Kd.R k41 41 w78 w.heap.size (fun k_ => k_ ≠ gb294) v319 y318) := ⟨h0_⟩
                  have n1_ : Aside0 (w78.heap[gb294]? = some (.cells #[.int .i64 ((rd_T41 l0 a1).f0), .int .i64 ((rd_T41 l0 a1).f1), .int .i64 ((rd_T41 l0 a1).f2), .int .i64 ((rd_T41 l0 a1).f3), .int .i64 ((rd_T41 l0 a1).f4), .int .i64 ((rd_T41 l0 a1).f5.f0), .int .i64 ((rd_T41 l0 a1).f5.f1), .int .i64 ((rd_T41 l0 a1).f6.f0), .int .i64 ((rd_T41 l0 a1).f6.f1)] 41 (0, 0))) := ⟨h1_⟩
                  have n2_ : Aside0 (w78.heap[gb303]? = some (.cells #[.int .i64 t297, .int .i64 t298, .int .i64 t299, .int .i64 t300] 39 (0, 0))) := ⟨h2_⟩
                  have n3_ : Aside0 (w78.heap[gb327]? = some (.cells #[.int .i64 0, .int .i64 0, .int .i64 0, .int .i64 0] 39 (0, 0))) := ⟨h3_⟩
                  have n4_ : Aside0 (w.heap.size ≤ gb327) := ⟨h4_⟩
                  have n5_ : Aside0 (w.heap.size ≤ gb327) := ⟨h5_⟩
                  have n6_ : Aside0 (gb294 ≠ gb327) := ⟨h6_⟩
                  have n7_ : Aside0 (gb327 ≠ gb294) := ⟨h7_⟩
                  have n8_ : Aside0 (gb303 ≠ gb327) := ⟨h8_⟩
                  have n9_ : Aside0 (gb327 ≠ gb303) := ⟨h9_⟩
                  have n10_ : Aside0 (Below w.heap.size w w78) := ⟨h10_⟩
                  clear BK294
                  clear BK303
                  clear HB
                  clear h0_ h1_ h2_ h3_ h4_ h5_ h6_ h7_ h8_ h9_ h10_
                  have HO320 := n0_
                  have BK294 := n1_
                  have BK303 := n2_
                  have BK327 := n3_
                  have GW327 := n4_
                  have GE327 := n5_
                  have NB294_327 := n6_
                  have NB327_294 := n7_
                  have NB303_327 := n8_
                  have NB327_303 := n9_
                  have HB := n10_
                  clear n0_ n1_ n2_ n3_ n4_ n5_ n6_ n7_ n8_ n9_ n10_
                  have hHeld : w78.cell? ⟨gb294, 0, none⟩ = some (.int .i64 ((rd_T41 l0 a1).f0)) ∧ w78.cell? ⟨gb294, 1, none⟩ = some (.int .i64 ((rd_T41 l0 a1).f1)) ∧ w78.cell? ⟨gb294, 2, none⟩ = some (.int .i64 ((rd_T41 l0 a1).f2)) ∧ w78.cell? ⟨gb294, 3, none⟩ = some (.int .i64 ((rd_T41 l0 a1).f3)) ∧ w78.cell? ⟨gb294, 4, none⟩ = some (.int .i64 ((rd_T41 l0 a1).f4)) ∧ w78.cell? ⟨gb294, 5, none⟩ = some (.int .i64 ((rd_T41 l0 a1).f5.f0)) ∧ w78.cell? ⟨gb294, 6, none⟩ = some (.int .i64 ((rd_T41 l0 a1).f5.f1)) ∧ w78.cell? ⟨gb294, 7, none⟩ = some (.int .i64 ((rd_T41 l0 a1).f6.f0)) ∧ w78.cell? ⟨gb294, 8, none⟩ = some (.int .i64 ((rd_T41 l0 a1).f6.f1)) := hS_
                  refine norm_ (a' := ?_) ?_ ?_
                  rotate_left
                  ·simp only [putAll, Act.put, List.setIfInBounds_toArray, List.set_cons_zero, List.set_cons_succ]
                   rfl
                  refine one_ (i := 21) (N := none) #[true, true, true, true, true, true, true, true, true, true, true, true, true, true, true, true, true, true, true, true, true, true, false, false] rfl rfl (one_of HT_.out (by kernel_rfl)) (by decide) (fun K hK => ?_)
                  have hs79 : w78.cell? ⟨gb327, 0, none⟩ = some (.int .i64 0) := (blk_cell BK327.out 0).trans rfl
                  have hfs79 := blk_frozen BK327.out 0
                  have hns79_0 := NB294_327.out
                  have hns79_1 := NB303_327.out
                  have hms79_0 := NB327_294.out
                  have hms79_1 := NB327_303.out
                  have hs80 : w78.cell? ⟨gb327, 1, none⟩ = some (.int .i64 0) := (blk_cell BK327.out 1).trans rfl
                  have hfs80 := blk_frozen BK327.out 1
                  have hns80_0 := NB294_327.out
                  have hns80_1 := NB303_327.out
                  have hms80_0 := NB327_294.out
                  have hms80_1 := NB327_303.out
                  have hs81 : w78.cell? ⟨gb327, 2, none⟩ = some (.int .i64 0) := (blk_cell BK327.out 2).trans rfl
                  have hfs81 := blk_frozen BK327.out 2
                  have hns81_0 := NB294_327.out
                  have hns81_1 := NB303_327.out
                  have hms81_0 := NB327_294.out
                  have hms81_1 := NB327_303.out
                  have hs82 : w78.cell? ⟨gb327, 3, none⟩ = some (.int .i64 0) := (blk_cell BK327.out 3).trans rfl
                  have hfs82 := blk_frozen BK327.out 3
                  have hns82_0 := NB294_327.out
                  have hns82_1 := NB303_327.out
                  have hms82_0 := NB327_294.out
                  have hms82_1 := NB327_303.out
                  refine skip_ (w1 := ?_) (by rfl) rfl ?_ ?_
                  rotate_left
                  ·go_simp
                   rfl
                  refine hK.out _ _ ⟨((cell_far (p := ⟨gb327, _, none⟩) NB294_327.out _).trans (((cell_far (p := ⟨gb327, _, none⟩) NB294_327.out _).trans (((cell_far (p := ⟨gb327, _, none⟩) NB294_327.out _).trans (((cell_far (p := ⟨gb327, _, none⟩) NB294_327.out _).trans (hHeld.1)))))))), ((cell_far (p := ⟨gb327, _, none⟩) NB294_327.out _).trans (((cell_far (p := ⟨gb327, _, none⟩) NB294_327.out _).trans (((cell_far (p := ⟨gb327, _, none⟩) NB294_327.out _).trans (((cell_far (p := ⟨gb327, _, none⟩) NB294_327.out _).trans (hHeld.2.1)))))))), ((cell_far (p := ⟨gb327, _, none⟩) NB294_327.out _).trans (((cell_far (p := ⟨gb327, _, none⟩) NB294_327.out _).trans (((cell_far (p := ⟨gb327, _, none⟩) NB294_327.out _).trans (((cell_far (p := ⟨gb327, _, none⟩) NB294_327.out _).trans (hHeld.2.2.1)))))))), ((cell_far (p := ⟨gb327, _, none⟩) NB294_327.out _).trans (((cell_far (p := ⟨gb327, _, none⟩) NB294_327.out _).trans (((cell_far (p := ⟨gb327, _, none⟩) NB294_327.out _).trans (((cell_far (p := ⟨gb327, _, none⟩) NB294_327.out _).trans (hHeld.2.2.2.1)))))))), ((cell_far (p := ⟨gb327, _, none⟩) NB294_327.out _).trans (((cell_far (p := ⟨gb327, _, none⟩) NB294_327.out _).trans (((cell_far (p := ⟨gb327, _, none⟩) NB294_327.out _).trans (((cell_far (p := ⟨gb327, _, none⟩) NB294_327.out _).trans (hHeld.2.2.2.2.1)))))))), ((cell_far (p := ⟨gb327, _, none⟩) NB294_327.out _).trans (((cell_far (p := ⟨gb327, _, none⟩) NB294_327.out _).trans (((cell_far (p := ⟨gb327, _, none⟩) NB294_327.out _).trans (((cell_far (p := ⟨gb327, _, none⟩) NB294_327.out _).trans (hHeld.2.2.2.2.2.1)))))))), ((cell_far (p := ⟨gb327, _, none⟩) NB294_327.out _).trans (((cell_far (p := ⟨gb327, _, none⟩) NB294_327.out _).trans (((cell_far (p := ⟨gb327, _, none⟩) NB294_327.out _).trans (((cell_far (p := ⟨gb327, _, none⟩) NB294_327.out _).trans (hHeld.2.2.2.2.2.2.1)))))))), ((cell_far (p := ⟨gb327, _, none⟩) NB294_327.out _).trans (((cell_far (p := ⟨gb327, _, none⟩) NB294_327.out _).trans (((cell_far (p := ⟨gb327, _, none⟩) NB294_327.out _).trans (((cell_far (p := ⟨gb327, _, none⟩) NB294_327.out _).trans (hHeld.2.2.2.2.2.2.2.1)))))))), ((cell_far (p := ⟨gb327, _, none⟩) NB294_327.out _).trans (((cell_far (p := ⟨gb327, _, none⟩) NB294_327.out _).trans (((cell_far (p := ⟨gb327, _, none⟩) NB294_327.out _).trans (((cell_far (p := ⟨gb327, _, none⟩) NB294_327.out _).trans (hHeld.2.2.2.2.2.2.2.2))))))))⟩ (fun hHeld => ?_)
                  clear hK K
                  refine pure_ (i := 22) (N := some 15) (v := ?_) (a' := ?_) #[true, true, true, true, true, true, true, true, true, true, true, true, true, true, true, true, true, true, true, true, true, true, true, false] rfl rfl (any_of HT_.out (by kernel_rfl)) (fun _ _ _ h => h) (Or.inl ⟨by rfl, ?_⟩) ?_ ?_
                  rotate_left
                  ·intro w'
                   go_simp
                   with_reducible rfl
                  rotate_left
                  ·simp only [Act.put, List.setIfInBounds_toArray, List.set_cons_zero, List.set_cons_succ, i64_w, i32_w]
                   rfl
                  refine pure_ (i := 23) (N := some 16) (v := ?_) (a' := ?_) #[true, true, true, true, true, true, true, true, true, true, true, true, true, true, true, true, true, true, true, true, true, true, true, true] rfl rfl (any_of HT_.out (by kernel_rfl)) (fun _ _ _ h => h) (Or.inl ⟨by rfl, ?_⟩) ?_ ?_
                  rotate_left
                  ·intro w'
                   go_simp
                   with_reducible rfl
                  rotate_left
                  ·simp only [Act.put, List.setIfInBounds_toArray, List.set_cons_zero, List.set_cons_succ, i64_w, i32_w]
                   rfl
                  refine done_ (done_of HT_.out (by kernel_rfl)) ?_
                  go_upto_region 17 with (fail)
                  go_cut [6] (fun v6 wc => ∃ (kq : Nat) (x6_60 : Bool), v6 = .bool x6_60 ∧ Aside0 (fastilaw27_WeatherReplaced.j4 kq x6_60 = some r) ∧ Aside0 (kq ≤ k2) ∧ Aside0 (wc.heap[gb294]? = some (.cells #[.int .i64 ((rd_T41 l0 a1).f0), .int .i64 ((rd_T41 l0 a1).f1), .int .i64 ((rd_T41 l0 a1).f2), .int .i64 ((rd_T41 l0 a1).f3), .int .i64 ((rd_T41 l0 a1).f4), .int .i64 ((rd_T41 l0 a1).f5.f0), .int .i64 ((rd_T41 l0 a1).f5.f1), .int .i64 ((rd_T41 l0 a1).f6.f0), .int .i64 ((rd_T41 l0 a1).f6.f1)] 41 (0, 0))) ∧ Aside0 (wc.heap[gb303]? = some (.cells #[.int .i64 t297, .int .i64 t298, .int .i64 t299, .int .i64 t300] 39 (0, 0))) ∧ Aside0 (wc.heap[gb327]? = some (.cells #[.int .i64 t321, .int .i64 t322, .int .i64 t323, .int .i64 t324] 39 (0, 0))) ∧ Aside0 (Below w.heap.size w wc))
                  case first =>
                   have H := HC61.out
                   clear HC61
                   by_cases c83 : t326 = 0
                   ·rw [if_pos c83] at H
                    have c83b0 : (t326 == 0) = true := beq_iff_eq.mpr c83
                    have c83b1 : (t326 != 0) = false := bne_eq_false_iff_eq.mpr c83
                    clear c83
                    (first | rw [c83b0] | (simp only [i64_w, i32_w]; rw [c83b0]) | skip)
                    by_cases c84 : ((t297 == t321 && (t298 == t322)) && ((t299 == t323 && (t300 == t324)))) = true
                    ·rw [if_pos c84] at H
                     have c84b0 : ((t297 == t321 && (t298 == t322)) && ((t299 == t323 && (t300 == t324)))) = true := c84
                     clear c84
                     have H' := Aside0.mk H
                     clear H
                     have hnb85 := NB303_294.out
                     have hnc85 := NB294_303.out
                     have hnb86 := NB303_327.out
                     have hnc86 := NB327_303.out
                     have hcz87_0 : w78.cell? ⟨gb303, 0, none⟩ = some (.int .i64 t297) := (blk_cell BK303.out 0).trans rfl
                     have hcz87_1 : w78.cell? ⟨gb303, 1, none⟩ = some (.int .i64 t298) := (blk_cell BK303.out 1).trans rfl
                     have hcz87_2 : w78.cell? ⟨gb303, 2, none⟩ = some (.int .i64 t299) := (blk_cell BK303.out 2).trans rfl
                     have hcz87_3 : w78.cell? ⟨gb303, 3, none⟩ = some (.int .i64 t300) := (blk_cell BK303.out 3).trans rfl
                     have hfz87_0 := blk_frozen BK303.out 0
                     have hfz87_1 := blk_frozen BK303.out 1
                     have hfz87_2 := blk_frozen BK303.out 2
                     have hfz87_3 := blk_frozen BK303.out 3
                     have hnb88 := NB327_294.out
                     have hnc88 := NB294_327.out
                     have hcz89_0 : w78.cell? ⟨gb327, 0, none⟩ = some (.int .i64 0) := (blk_cell BK327.out 0).trans rfl
                     have hcz89_1 : w78.cell? ⟨gb327, 1, none⟩ = some (.int .i64 0) := (blk_cell BK327.out 1).trans rfl
                     have hcz89_2 : w78.cell? ⟨gb327, 2, none⟩ = some (.int .i64 0) := (blk_cell BK327.out 2).trans rfl
                     have hcz89_3 : w78.cell? ⟨gb327, 3, none⟩ = some (.int .i64 0) := (blk_cell BK327.out 3).trans rfl
                     have hfz89_0 := blk_frozen BK327.out 0
                     have hfz89_1 := blk_frozen BK327.out 1
                     have hfz89_2 := blk_frozen BK327.out 2
                     have hfz89_3 := blk_frozen BK327.out 3
                     go_wp2
                     go_meet
                     case rel => exact ⟨_, ((t301 == t325)), (by first | rfl | (simp; done) | (simp [*]; done)), H', ⟨by have := HJ5.out; have := HK2.out; first | omega | exact Nat.le_refl _⟩, ⟨by (with_reducible repeat (first | refine blk_drewN ?_ _ | refine blk_drew ?_ | refine blk_alloc ?_ _)); refine blk_far ?_ NB294_327.out _; (with_reducible repeat (first | refine blk_drewN ?_ _ | refine blk_drew ?_ | refine blk_alloc ?_ _)); refine blk_far ?_ NB294_327.out _; (with_reducible repeat (first | refine blk_drewN ?_ _ | refine blk_drew ?_ | refine blk_alloc ?_ _)); refine blk_far ?_ NB294_327.out _; (with_reducible repeat (first | refine blk_drewN ?_ _ | refine blk_drew ?_ | refine blk_alloc ?_ _)); refine blk_far ?_ NB294_327.out _; (with_reducible repeat (first | refine blk_drewN ?_ _ | refine blk_drew ?_ | refine blk_alloc ?_ _)); exact BK294.out⟩, ⟨by (with_reducible repeat (first | refine blk_drewN ?_ _ | refine blk_drew ?_ | refine blk_alloc ?_ _)); refine blk_far ?_ NB303_327.out _; (with_reducible repeat (first | refine blk_drewN ?_ _ | refine blk_drew ?_ | refine blk_alloc ?_ _)); refine blk_far ?_ NB303_327.out _; (with_reducible repeat (first | refine blk_drewN ?_ _ | refine blk_drew ?_ | refine blk_alloc ?_ _)); refine blk_far ?_ NB303_327.out _; (with_reducible repeat (first | refine blk_drewN ?_ _ | refine blk_drew ?_ | refine blk_alloc ?_ _)); refine blk_far ?_ NB303_327.out _; (with_reducible repeat (first | refine blk_drewN ?_ _ | refine blk_drew ?_ | refine blk_alloc ?_ _)); exact BK303.out⟩, ⟨by (with_reducible repeat (first | refine blk_drewN ?_ _ | refine blk_drew ?_ | refine blk_alloc ?_ _)); refine blk_put (cs := #[.int .i64 t321, .int .i64 t322, .int .i64 t323, .int .i64 0]) ?_ 3 _ rfl; (with_reducible repeat (first | refine blk_drewN ?_ _ | refine blk_drew ?_ | refine blk_alloc ?_ _)); refine blk_put (cs := #[.int .i64 t321, .int .i64 t322, .int .i64 0, .int .i64 0]) ?_ 2 _ rfl; (with_reducible repeat (first | refine blk_drewN ?_ _ | refine blk_drew ?_ | refine blk_alloc ?_ _)); refine blk_put (cs := #[.int .i64 t321, .int .i64 0, .int .i64 0, .int .i64 0]) ?_ 1 _ rfl; (with_reducible repeat (first | refine blk_drewN ?_ _ | refine blk_drew ?_ | refine blk_alloc ?_ _)); refine blk_put (cs := #[.int .i64 0, .int .i64 0, .int .i64 0, .int .i64 0]) ?_ 0 _ rfl; (with_reducible repeat (first | refine blk_drewN ?_ _ | refine blk_drew ?_ | refine blk_alloc ?_ _)); exact BK327.out⟩, ⟨by repeat (first | (with_reducible first | exact HB.out | apply below_alloc | apply pw_below_drewN | apply below_drew1 | refine below_set ?_ GE294.out | refine below_set ?_ GE303.out | refine below_set ?_ GE327.out) | exact HB.out)⟩⟩
                    ·rw [if_neg c84] at H
                     have c84b0 : ((t297 == t321 && (t298 == t322)) && ((t299 == t323 && (t300 == t324)))) = false := by simpa using c84
                     clear c84
                     have H' := Aside0.mk H
                     clear H
                     have hnb90 := NB303_294.out
                     have hnc90 := NB294_303.out
                     have hnb91 := NB303_327.out
                     have hnc91 := NB327_303.out
                     have hcz92_0 : w78.cell? ⟨gb303, 0, none⟩ = some (.int .i64 t297) := (blk_cell BK303.out 0).trans rfl
                     have hcz92_1 : w78.cell? ⟨gb303, 1, none⟩ = some (.int .i64 t298) := (blk_cell BK303.out 1).trans rfl
                     have hcz92_2 : w78.cell? ⟨gb303, 2, none⟩ = some (.int .i64 t299) := (blk_cell BK303.out 2).trans rfl
                     have hcz92_3 : w78.cell? ⟨gb303, 3, none⟩ = some (.int .i64 t300) := (blk_cell BK303.out 3).trans rfl
                     have hfz92_0 := blk_frozen BK303.out 0
                     have hfz92_1 := blk_frozen BK303.out 1
                     have hfz92_2 := blk_frozen BK303.out 2
                     have hfz92_3 := blk_frozen BK303.out 3
                     have hnb93 := NB327_294.out
                     have hnc93 := NB294_327.out
                     have hcz94_0 : w78.cell? ⟨gb327, 0, none⟩ = some (.int .i64 0) := (blk_cell BK327.out 0).trans rfl
                     have hcz94_1 : w78.cell? ⟨gb327, 1, none⟩ = some (.int .i64 0) := (blk_cell BK327.out 1).trans rfl
                     have hcz94_2 : w78.cell? ⟨gb327, 2, none⟩ = some (.int .i64 0) := (blk_cell BK327.out 2).trans rfl
                     have hcz94_3 : w78.cell? ⟨gb327, 3, none⟩ = some (.int .i64 0) := (blk_cell BK327.out 3).trans rfl
                     have hfz94_0 := blk_frozen BK327.out 0
                     have hfz94_1 := blk_frozen BK327.out 1
                     have hfz94_2 := blk_frozen BK327.out 2
                     have hfz94_3 := blk_frozen BK327.out 3
                     go_wp2
                     go_meet
                     case rel => exact ⟨_, (false), (by first | rfl | (simp; done) | (simp [*]; done)), H', ⟨by have := HJ5.out; have := HK2.out; first | omega | exact Nat.le_refl _⟩, ⟨by (with_reducible repeat (first | refine blk_drewN ?_ _ | refine blk_drew ?_ | refine blk_alloc ?_ _)); refine blk_far ?_ NB294_327.out _; (with_reducible repeat (first | refine blk_drewN ?_ _ | refine blk_drew ?_ | refine blk_alloc ?_ _)); refine blk_far ?_ NB294_327.out _; (with_reducible repeat (first | refine blk_drewN ?_ _ | refine blk_drew ?_ | refine blk_alloc ?_ _)); refine blk_far ?_ NB294_327.out _; (with_reducible repeat (first | refine blk_drewN ?_ _ | refine blk_drew ?_ | refine blk_alloc ?_ _)); refine blk_far ?_ NB294_327.out _; (with_reducible repeat (first | refine blk_drewN ?_ _ | refine blk_drew ?_ | refine blk_alloc ?_ _)); exact BK294.out⟩, ⟨by (with_reducible repeat (first | refine blk_drewN ?_ _ | refine blk_drew ?_ | refine blk_alloc ?_ _)); refine blk_far ?_ NB303_327.out _; (with_reducible repeat (first | refine blk_drewN ?_ _ | refine blk_drew ?_ | refine blk_alloc ?_ _)); refine blk_far ?_ NB303_327.out _; (with_reducible repeat (first | refine blk_drewN ?_ _ | refine blk_drew ?_ | refine blk_alloc ?_ _)); refine blk_far ?_ NB303_327.out _; (with_reducible repeat (first | refine blk_drewN ?_ _ | refine blk_drew ?_ | refine blk_alloc ?_ _)); refine blk_far ?_ NB303_327.out _; (with_reducible repeat (first | refine blk_drewN ?_ _ | refine blk_drew ?_ | refine blk_alloc ?_ _)); exact BK303.out⟩, ⟨by (with_reducible repeat (first | refine blk_drewN ?_ _ | refine blk_drew ?_ | refine blk_alloc ?_ _)); refine blk_put (cs := #[.int .i64 t321, .int .i64 t322, .int .i64 t323, .int .i64 0]) ?_ 3 _ rfl; (with_reducible repeat (first | refine blk_drewN ?_ _ | refine blk_drew ?_ | refine blk_alloc ?_ _)); refine blk_put (cs := #[.int .i64 t321, .int .i64 t322, .int .i64 0, .int .i64 0]) ?_ 2 _ rfl; (with_reducible repeat (first | refine blk_drewN ?_ _ | refine blk_drew ?_ | refine blk_alloc ?_ _)); refine blk_put (cs := #[.int .i64 t321, .int .i64 0, .int .i64 0, .int .i64 0]) ?_ 1 _ rfl; (with_reducible repeat (first | refine blk_drewN ?_ _ | refine blk_drew ?_ | refine blk_alloc ?_ _)); refine blk_put (cs := #[.int .i64 0, .int .i64 0, .int .i64 0, .int .i64 0]) ?_ 0 _ rfl; (with_reducible repeat (first | refine blk_drewN ?_ _ | refine blk_drew ?_ | refine blk_alloc ?_ _)); exact BK327.out⟩, ⟨by repeat (first | (with_reducible first | exact HB.out | apply below_alloc | apply pw_below_drewN | apply below_drew1 | refine below_set ?_ GE294.out | refine below_set ?_ GE303.out | refine below_set ?_ GE327.out) | exact HB.out)⟩⟩
                   ·rw [if_neg c83] at H
                    have c83b0 : (t326 == 0) = false := beq_eq_false_iff_ne.mpr c83
                    have c83b1 : (t326 != 0) = true := bne_iff_ne.mpr c83
                    (first | rw [c83b0] | (simp only [i64_w, i32_w]; rw [c83b0]) | skip)
                    have H' := Aside0.mk H
                    clear H
                    go_wp2
                    go_meet
                    case rel => exact ⟨_, (false), (by first | rfl | (simp; done) | (simp [*]; done)), H', ⟨by have := HJ5.out; have := HK2.out; first | omega | exact Nat.le_refl _⟩, ⟨by (with_reducible repeat (first | refine blk_drewN ?_ _ | refine blk_drew ?_ | refine blk_alloc ?_ _)); refine blk_far ?_ NB294_327.out _; (with_reducible repeat (first | refine blk_drewN ?_ _ | refine blk_drew ?_ | refine blk_alloc ?_ _)); refine blk_far ?_ NB294_327.out _; (with_reducible repeat (first | refine blk_drewN ?_ _ | refine blk_drew ?_ | refine blk_alloc ?_ _)); refine blk_far ?_ NB294_327.out _; (with_reducible repeat (first | refine blk_drewN ?_ _ | refine blk_drew ?_ | refine blk_alloc ?_ _)); refine blk_far ?_ NB294_327.out _; (with_reducible repeat (first | refine blk_drewN ?_ _ | refine blk_drew ?_ | refine blk_alloc ?_ _)); exact BK294.out⟩, ⟨by (with_reducible repeat (first | refine blk_drewN ?_ _ | refine blk_drew ?_ | refine blk_alloc ?_ _)); refine blk_far ?_ NB303_327.out _; (with_reducible repeat (first | refine blk_drewN ?_ _ | refine blk_drew ?_ | refine blk_alloc ?_ _)); refine blk_far ?_ NB303_327.out _; (with_reducible repeat (first | refine blk_drewN ?_ _ | refine blk_drew ?_ | refine blk_alloc ?_ _)); refine blk_far ?_ NB303_327.out _; (with_reducible repeat (first | refine blk_drewN ?_ _ | refine blk_drew ?_ | refine blk_alloc ?_ _)); refine blk_far ?_ NB303_327.out _; (with_reducible repeat (first | refine blk_drewN ?_ _ | refine blk_drew ?_ | refine blk_alloc ?_ _)); exact BK303.out⟩, ⟨by (with_reducible repeat (first | refine blk_drewN ?_ _ | refine blk_drew ?_ | refine blk_alloc ?_ _)); refine blk_put (cs := #[.int .i64 t321, .int .i64 t322, .int .i64 t323, .int .i64 0]) ?_ 3 _ rfl; (with_reducible repeat (first | refine blk_drewN ?_ _ | refine blk_drew ?_ | refine blk_alloc ?_ _)); refine blk_put (cs := #[.int .i64 t321, .int .i64 t322, .int .i64 0, .int .i64 0]) ?_ 2 _ rfl; (with_reducible repeat (first | refine blk_drewN ?_ _ | refine blk_drew ?_ | refine blk_alloc ?_ _)); refine blk_put (cs := #[.int .i64 t321, .int .i64 0, .int .i64 0, .int .i64 0]) ?_ 1 _ rfl; (with_reducible repeat (first | refine blk_drewN ?_ _ | refine blk_drew ?_ | refine blk_alloc ?_ _)); refine blk_put (cs := #[.int .i64 0, .int .i64 0, .int .i64 0, .int .i64 0]) ?_ 0 _ rfl; (with_reducible repeat (first | refine blk_drewN ?_ _ | refine blk_drew ?_ | refine blk_alloc ?_ _)); exact BK327.out⟩, ⟨by repeat (first | (with_reducible first | exact HB.out | apply below_alloc | apply pw_below_drewN | apply below_drew1 | refine below_set ?_ GE294.out | refine below_set ?_ GE303.out | refine below_set ?_ GE327.out) | exact HB.out)⟩⟩
                  case rest =>
                   clear HC61
                   try clear c1
                   try clear p2
                   try clear c5
                   try clear c8
                   try clear c9
                   try clear c15
                   try clear c59
                   try clear c83
                   try clear c83b0
                   try clear c83b1
                   try clear c84
                   try clear c84b0
                   try clear c85
                   try clear c86
                   try clear c88
                   try clear c90
                   try clear c91
                   try clear c93
                   try clear hcz87_0
                   try clear hcz87_1
                   try clear hcz87_2
                   try clear hcz87_3
                   try clear hcz89_0
                   try clear hcz89_1
                   try clear hcz89_2
                   try clear hcz89_3
                   try clear hcz92_0
                   try clear hcz92_1
                   try clear hcz92_2
                   try clear hcz92_3
                   try clear hcz94_0
                   try clear hcz94_1
                   try clear hcz94_2
                   try clear hcz94_3
                   try clear hfz87_0
                   try clear hfz87_1
                   try clear hfz87_2
                   try clear hfz87_3
                   try clear hfz89_0
                   try clear hfz89_1
                   try clear hfz89_2
                   try clear hfz89_3
                   try clear hfz92_0
                   try clear hfz92_1
                   try clear hfz92_2
                   try clear hfz92_3
                   try clear hfz94_0
                   try clear hfz94_1
                   try clear hfz94_2
                   try clear hfz94_3
                   obtain ⟨kq, x6_60, rfl, HA, HJ60, BK294, BK303, BK327, HB⟩ := hcut
                   cases kq with
                   | zero => exact absurd HA.out (by simp [fastilaw27_WeatherReplaced.j4])
                   | succ kj60 =>
                    have H := HA.out
                    clear HA
                    simp only [fastilaw27_WeatherReplaced.j4] at H
                    obtain rfl := Option.some.inj H
                    go_wp2
                    go_ret
                    exact ⟨by first | rfl | (simp [errW_none, errW_some] <;> rfl) | (simp only [← hji56]; first | rfl | (simp [errW_none, errW_some] <;> rfl)) | (simp [*, errW_none, errW_some] <;> rfl), by repeat (first | (with_reducible first | exact HB.out | apply below_alloc | apply pw_below_drewN | apply below_drew1 | refine below_set ?_ GE294.out | refine below_set ?_ GE303.out | refine below_set ?_ GE327.out) | exact HB.out)⟩
                 ·rw [if_neg c59] at H
                  exact absurd H (by simp)
                ·rw [if_neg c58] at H
                 exact absurd H (by simp)
               ·rw [if_neg c57] at H
                exact absurd H (by simp)
              ·rw [if_neg c55] at H
               exact absurd H (by simp)
             ·rw [if_neg c54] at H
              exact absurd H (by simp)
            ·rw [if_neg c53] at H
             exact absurd H (by simp)
           ·replace c52 := Bool.eq_false_iff.mpr c52
            subst c52
            have H1 : (some true) = some r := by rw [if_neg (show ¬ (false = true) by decide)] at H; exact H
            clear H
            have H := H1
            clear H1
            obtain rfl := Option.some.inj H
            have hcz95_0 : wr.cell? ⟨gb294, 0, none⟩ = some (.int .i64 ((rd_T41 l0 a1).f0)) := (blk_cell BK294.out 0).trans rfl
            have hcz95_1 : wr.cell? ⟨gb294, 1, none⟩ = some (.int .i64 ((rd_T41 l0 a1).f1)) := (blk_cell BK294.out 1).trans rfl
            have hcz95_2 : wr.cell? ⟨gb294, 2, none⟩ = some (.int .i64 ((rd_T41 l0 a1).f2)) := (blk_cell BK294.out 2).trans rfl
            have hcz95_3 : wr.cell? ⟨gb294, 3, none⟩ = some (.int .i64 ((rd_T41 l0 a1).f3)) := (blk_cell BK294.out 3).trans rfl
            have hcz95_4 : wr.cell? ⟨gb294, 4, none⟩ = some (.int .i64 ((rd_T41 l0 a1).f4)) := (blk_cell BK294.out 4).trans rfl
            have hcz95_5 : wr.cell? ⟨gb294, 5, none⟩ = some (.int .i64 ((rd_T41 l0 a1).f5.f0)) := (blk_cell BK294.out 5).trans rfl
            have hcz95_6 : wr.cell? ⟨gb294, 6, none⟩ = some (.int .i64 ((rd_T41 l0 a1).f5.f1)) := (blk_cell BK294.out 6).trans rfl
            have hcz95_7 : wr.cell? ⟨gb294, 7, none⟩ = some (.int .i64 ((rd_T41 l0 a1).f6.f0)) := (blk_cell BK294.out 7).trans rfl
            have hcz95_8 : wr.cell? ⟨gb294, 8, none⟩ = some (.int .i64 ((rd_T41 l0 a1).f6.f1)) := (blk_cell BK294.out 8).trans rfl
            have hfz95_0 := blk_frozen BK294.out 0
            have hfz95_1 := blk_frozen BK294.out 1
            have hfz95_2 := blk_frozen BK294.out 2
            have hfz95_3 := blk_frozen BK294.out 3
            have hfz95_4 := blk_frozen BK294.out 4
            have hfz95_5 := blk_frozen BK294.out 5
            have hfz95_6 := blk_frozen BK294.out 6
            have hfz95_7 := blk_frozen BK294.out 7
            have hfz95_8 := blk_frozen BK294.out 8
            go_wp2_with (first | ((with_reducible refine gate_callee (f := 15) rfl ?_); refine goesL_ (some 97) rfl rfl Try.func15 (by kernel_rfl) rfl #[.slice (some ad293) l0.length c0, .int .i64 ((rd_T41 l0 a1).f2), .int .i64 ((rd_T41 l0 a1).f3), .int .i64 a2] rfl (by (try simp only [List.map_toArray, List.map_cons, List.map_nil]); first | done | rfl | (simp only [List.length_drop, List.length_take]; rfl)) ?_; (with_reducible refine (weather_Of.calls _ _ l0 ((rd_T41 l0 a1).f2) ((rd_T41 l0 a1).f3) a2 t297 t298 t299 t300 t301 t302 _ ?side1 ?side2 A50.out).mono ?_); (case side1 => repeat (first | exact (Kd.C_below HR0.out HB.out) | (with_reducible refine Kd.C_alloc ?_ _) | (with_reducible refine Kd.C_drewN ?_ _) | (with_reducible refine Kd.C_drew ?_))); (case side2 => exact HC0.out); rintro e w96 ⟨rfl, hb⟩; refine ⟨_, rfl, ?_⟩; have n0_ := Aside0.mk (zb BK294.out hb); have n1_ := Aside0.mk (below_step (by repeat (first | (with_reducible first | exact HB.out | apply below_alloc | apply pw_below_drewN | apply below_drew1 | refine below_set ?_ GE294.out) | exact HB.out)) hb); clear BK294; clear HB; have BK294 := n0_; have HB := n1_; clear n0_ n1_; (try clear hb); (try clear hb2); (try clear hk); (try clear hi)) | ((with_reducible refine gate_dst (N := 11) rfl ?_); (try (refine gate_guard (by rfl) ?_; dsimp only)); refine box_event ?hg (N := 11) ?hd (cs := #[.int .i64 0, .int .i64 0, .int .i64 0, .int .i64 0]) (t := 39) ?hr ?_; (case hd => rfl); (case hg => rfl); (case hr => first | (go_simp; done) | (go_simp; rfl)); intro gb303 hg w97 hbox hb; have n0_ := Aside0.mk (zb BK294.out hb); have n1_ := Aside0.mk (below_step (by repeat (first | (with_reducible first | exact HB.out | apply below_alloc | apply pw_below_drewN | apply below_drew1 | refine below_set ?_ GE294.out) | exact HB.out)) hb); have n2_ := Aside0.mk (hbox); have n3_ := Aside0.mk ((by rw [hg]; exact (below_size (by repeat (first | (with_reducible first | exact HB.out | apply below_alloc | apply pw_below_drewN | apply below_drew1 | refine below_set ?_ GE294.out) | exact HB.out))) : w.heap.size ≤ gb303)); have n4_ := Aside0.mk ((by rw [hg]; exact (below_size (by repeat (first | (with_reducible first | exact HB.out | apply below_alloc | apply pw_below_drewN | apply below_drew1 | refine below_set ?_ GE294.out) | exact HB.out))) : w.heap.size ≤ gb303)); have n5_ := Aside0.mk ((by rw [hg]; exact Nat.ne_of_lt (blk_lt (zk BK294.out)) : gb294 ≠ gb303)); have n6_ := Aside0.mk ((by rw [hg]; exact Nat.ne_of_gt (blk_lt (zk BK294.out)) : gb303 ≠ gb294)); clear BK294; clear HB; have BK294 := n0_; have HB := n1_; have BK303 := n2_; have GW303 := n3_; have GE303 := n4_; have NB294_303 := n5_; have NB303_294 := n6_; clear n0_ n1_ n2_ n3_ n4_ n5_ n6_; clear hb hbox hg; have hnb98 := NB303_294.out; have hnc98 := NB294_303.out; have hcz99_0 : w97.cell? ⟨gb303, 0, none⟩ = some (.int .i64 0) := (blk_cell BK303.out 0).trans rfl; have hcz99_1 : w97.cell? ⟨gb303, 1, none⟩ = some (.int .i64 0) := (blk_cell BK303.out 1).trans rfl; have hcz99_2 : w97.cell? ⟨gb303, 2, none⟩ = some (.int .i64 0) := (blk_cell BK303.out 2).trans rfl; have hcz99_3 : w97.cell? ⟨gb303, 3, none⟩ = some (.int .i64 0) := (blk_cell BK303.out 3).trans rfl; have hfz99_0 := blk_frozen BK303.out 0; have hfz99_1 := blk_frozen BK303.out 1; have hfz99_2 := blk_frozen BK303.out 2; have hfz99_3 := blk_frozen BK303.out 3))
            go_ret
            exact ⟨by first | rfl | (simp [errW_none, errW_some] <;> rfl) | (simp [*, errW_none, errW_some] <;> rfl), by repeat (first | (with_reducible first | exact HB.out | apply below_alloc | apply pw_below_drewN | apply below_drew1 | refine below_set ?_ GE294.out | refine below_set ?_ GE303.out) | exact HB.out)⟩
          ·rw [if_neg c51] at H
           have c51b0 : (t302 == 0) = false := beq_eq_false_iff_ne.mpr c51
           have c51b1 : (t302 != 0) = true := bne_iff_ne.mpr c51
           obtain rfl := Option.some.inj H
           have hcz100_0 : wr.cell? ⟨gb294, 0, none⟩ = some (.int .i64 ((rd_T41 l0 a1).f0)) := (blk_cell BK294.out 0).trans rfl
           have hcz100_1 : wr.cell? ⟨gb294, 1, none⟩ = some (.int .i64 ((rd_T41 l0 a1).f1)) := (blk_cell BK294.out 1).trans rfl
           have hcz100_2 : wr.cell? ⟨gb294, 2, none⟩ = some (.int .i64 ((rd_T41 l0 a1).f2)) := (blk_cell BK294.out 2).trans rfl
           have hcz100_3 : wr.cell? ⟨gb294, 3, none⟩ = some (.int .i64 ((rd_T41 l0 a1).f3)) := (blk_cell BK294.out 3).trans rfl
           have hcz100_4 : wr.cell? ⟨gb294, 4, none⟩ = some (.int .i64 ((rd_T41 l0 a1).f4)) := (blk_cell BK294.out 4).trans rfl
           have hcz100_5 : wr.cell? ⟨gb294, 5, none⟩ = some (.int .i64 ((rd_T41 l0 a1).f5.f0)) := (blk_cell BK294.out 5).trans rfl
           have hcz100_6 : wr.cell? ⟨gb294, 6, none⟩ = some (.int .i64 ((rd_T41 l0 a1).f5.f1)) := (blk_cell BK294.out 6).trans rfl
           have hcz100_7 : wr.cell? ⟨gb294, 7, none⟩ = some (.int .i64 ((rd_T41 l0 a1).f6.f0)) := (blk_cell BK294.out 7).trans rfl
           have hcz100_8 : wr.cell? ⟨gb294, 8, none⟩ = some (.int .i64 ((rd_T41 l0 a1).f6.f1)) := (blk_cell BK294.out 8).trans rfl
           have hfz100_0 := blk_frozen BK294.out 0
           have hfz100_1 := blk_frozen BK294.out 1
           have hfz100_2 := blk_frozen BK294.out 2
           have hfz100_3 := blk_frozen BK294.out 3
           have hfz100_4 := blk_frozen BK294.out 4
           have hfz100_5 := blk_frozen BK294.out 5
           have hfz100_6 := blk_frozen BK294.out 6
           have hfz100_7 := blk_frozen BK294.out 7
           have hfz100_8 := blk_frozen BK294.out 8
           go_wp2_with (first | ((with_reducible refine gate_callee (f := 15) rfl ?_); refine goesL_ (some 97) rfl rfl Try.func15 (by kernel_rfl) rfl #[.slice (some ad293) l0.length c0, .int .i64 ((rd_T41 l0 a1).f2), .int .i64 ((rd_T41 l0 a1).f3), .int .i64 a2] rfl (by (try simp only [List.map_toArray, List.map_cons, List.map_nil]); first | done | rfl | (simp only [List.length_drop, List.length_take]; rfl)) ?_; (with_reducible refine (weather_Of.calls _ _ l0 ((rd_T41 l0 a1).f2) ((rd_T41 l0 a1).f3) a2 t297 t298 t299 t300 t301 t302 _ ?side1 ?side2 A50.out).mono ?_); (case side1 => repeat (first | exact (Kd.C_below HR0.out HB.out) | (with_reducible refine Kd.C_alloc ?_ _) | (with_reducible refine Kd.C_drewN ?_ _) | (with_reducible refine Kd.C_drew ?_))); (case side2 => exact HC0.out); rintro e w101 ⟨rfl, hb⟩; refine ⟨_, rfl, ?_⟩; have n0_ := Aside0.mk (zb BK294.out hb); have n1_ := Aside0.mk (below_step (by repeat (first | (with_reducible first | exact HB.out | apply below_alloc | apply pw_below_drewN | apply below_drew1 | refine below_set ?_ GE294.out) | exact HB.out)) hb); clear BK294; clear HB; have BK294 := n0_; have HB := n1_; clear n0_ n1_; (try clear hb); (try clear hb2); (try clear hk); (try clear hi)) | ((with_reducible refine gate_dst (N := 11) rfl ?_); (try (refine gate_guard (by rfl) ?_; dsimp only)); refine box_event ?hg (N := 11) ?hd (cs := #[.int .i64 0, .int .i64 0, .int .i64 0, .int .i64 0]) (t := 39) ?hr ?_; (case hd => rfl); (case hg => rfl); (case hr => first | (go_simp; done) | (go_simp; rfl)); intro gb303 hg w102 hbox hb; have n0_ := Aside0.mk (zb BK294.out hb); have n1_ := Aside0.mk (below_step (by repeat (first | (with_reducible first | exact HB.out | apply below_alloc | apply pw_below_drewN | apply below_drew1 | refine below_set ?_ GE294.out) | exact HB.out)) hb); have n2_ := Aside0.mk (hbox); have n3_ := Aside0.mk ((by rw [hg]; exact (below_size (by repeat (first | (with_reducible first | exact HB.out | apply below_alloc | apply pw_below_drewN | apply below_drew1 | refine below_set ?_ GE294.out) | exact HB.out))) : w.heap.size ≤ gb303)); have n4_ := Aside0.mk ((by rw [hg]; exact (below_size (by repeat (first | (with_reducible first | exact HB.out | apply below_alloc | apply pw_below_drewN | apply below_drew1 | refine below_set ?_ GE294.out) | exact HB.out))) : w.heap.size ≤ gb303)); have n5_ := Aside0.mk ((by rw [hg]; exact Nat.ne_of_lt (blk_lt (zk BK294.out)) : gb294 ≠ gb303)); have n6_ := Aside0.mk ((by rw [hg]; exact Nat.ne_of_gt (blk_lt (zk BK294.out)) : gb303 ≠ gb294)); clear BK294; clear HB; have BK294 := n0_; have HB := n1_; have BK303 := n2_; have GW303 := n3_; have GE303 := n4_; have NB294_303 := n5_; have NB303_294 := n6_; clear n0_ n1_ n2_ n3_ n4_ n5_ n6_; clear hb hbox hg; have hnb103 := NB303_294.out; have hnc103 := NB294_303.out; have hcz104_0 : w102.cell? ⟨gb303, 0, none⟩ = some (.int .i64 0) := (blk_cell BK303.out 0).trans rfl; have hcz104_1 : w102.cell? ⟨gb303, 1, none⟩ = some (.int .i64 0) := (blk_cell BK303.out 1).trans rfl; have hcz104_2 : w102.cell? ⟨gb303, 2, none⟩ = some (.int .i64 0) := (blk_cell BK303.out 2).trans rfl; have hcz104_3 : w102.cell? ⟨gb303, 3, none⟩ = some (.int .i64 0) := (blk_cell BK303.out 3).trans rfl; have hfz104_0 := blk_frozen BK303.out 0; have hfz104_1 := blk_frozen BK303.out 1; have hfz104_2 := blk_frozen BK303.out 2; have hfz104_3 := blk_frozen BK303.out 3))
           go_ret
           exact ⟨by first | rfl | (simp [errW_none, errW_some] <;> rfl) | (simp [*, errW_none, errW_some] <;> rfl), by repeat (first | (with_reducible first | exact HB.out | apply below_alloc | apply pw_below_drewN | apply below_drew1 | refine below_set ?_ GE294.out | refine below_set ?_ GE303.out) | exact HB.out)⟩
      ·rw [if_neg c12] at H
       exact absurd H (by simp)
     ·rw [if_neg c11] at H
      exact absurd H (by simp)
 ·replace c5 := Bool.eq_false_iff.mpr c5
  subst c5
  have H1 : (some false) = some r := by rw [if_neg (show ¬ (false = true) by decide)] at H; exact H
  clear H
  have H := H1
  clear H1
  obtain rfl := Option.some.inj H
  go_enter Try.func10, Try.ntmps10
  go_wp2_with (first | ((with_reducible refine gate_callee (f := 25) rfl ?_); refine goesL_ (some 17) rfl rfl Try.func25 (by kernel_rfl) rfl #[] rfl (by (try simp only [List.map_toArray, List.map_cons, List.map_nil]); first | done | rfl | (simp only [List.length_drop, List.length_take]; rfl)) ?_; (with_reducible refine (fastilaw27_sane.calls  false _ A4.out).mono ?_); rintro e w105 ⟨rfl, hb⟩; refine ⟨_, rfl, ?_⟩; have n0_ := Aside0.mk (below_step (by repeat (first | (with_reducible first | exact HB.out | apply below_alloc | apply pw_below_drewN | apply below_drew1) | exact HB.out)) hb); clear HB; have HB := n0_; clear n0_; (try clear hb); (try clear hb2); (try clear hk); (try clear hi)))
  go_ret
  exact ⟨by first | rfl | (simp [errW_none, errW_some] <;> rfl) | (simp [*, errW_none, errW_some] <;> rfl), by repeat (first | (with_reducible first | exact HB.out | apply below_alloc | apply pw_below_drewN | apply below_drew1) | exact HB.out)⟩

end Go.Proofs.Ythfhjcbgccnijaa.Q
