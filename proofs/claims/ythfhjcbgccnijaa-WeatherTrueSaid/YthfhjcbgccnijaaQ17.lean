/- Functions of the translation as plain Lean functions, and proofs that the calls do what these say; written by a program of this session round the kit's print. -/
import Derived.Test.YthfhjcbgccnijaaQ0
import Derived.Test.YthfhjcbgccnijaaQ15H
import Derived.Test.YthfhjcbgccnijaaQ16
import Derived.Test.YthfhjcbgccnijaaAdd
import Derived.Test.YthfhjcbgccnijaaOf
import Derived.Test.YthfhjcbgccnijaaSane
namespace Go.Proofs.Ythfhjcbgccnijaa.Q
open Go.RowKit Go.Proofs.YthfhjcbgccnijaaW.PrintWords Go.Proofs.YthfhjcbgccnijaaW.PrintLast Go.Proofs.YthfhjcbgccnijaaW.PrintMore
attribute [local go_sem] max2_int min2_int max_two min_two max_three min_three max_four min_four   -- for this text's walks alone
set_option linter.unusedVariables false
set_option linter.unusedSimpArgs false

/-! ### fastilaw27_WeatherTrue: function 7 -/
mutual
def fastilaw27_WeatherTrue.j0 : Nat → List (S41) → Int → Int → Int → List (S41) → Bool → Int → Int → Int → Int → Int → Int → Int → Int → Int → Option (Bool)
 | 0, _, _, _, _, _, _, _, _, _, _, _, _, _, _, _ => none
 | k + 1, x0, x2, x3, x4, x11, x47, x216000, x216001, x216002, x216003, x216004, x216005, x216006, x216007, x216008 => if x47 = true then (some true) else (fastilaw27_WeatherTrue.l0 k x0 x2 x3 x4 x11 true 0 x216000 x216001 x216002 x216003 x216004 x216005 x216006 x216007 x216008)
def fastilaw27_WeatherTrue.l0 : Nat → List (S41) → Int → Int → Int → List (S41) → Bool → Int → Int → Int → Int → Int → Int → Int → Int → Int → Int → Option (Bool)
 | 0, _, _, _, _, _, _, _, _, _, _, _, _, _, _, _, _ => none
 | k + 1, x0, x2, x3, x4, x11, x13, x14, x216000, x216001, x216002, x216003, x216004, x216005, x216006, x216007, x216008 => if x14 < (x0.length : Int) then (if 0 ≤ x14 then (if ((rd_T41 x0 x14).f2) = x216002 then (fastilaw27_WeatherTrue.j2 k x0 x2 x3 x4 x11 x13 x14 (((rd_T41 x0 x14).f3) != x216003) x216000 x216001 x216002 x216003 x216004 x216005 x216006 x216007 x216008) else (fastilaw27_WeatherTrue.j2 k x0 x2 x3 x4 x11 x13 x14 true x216000 x216001 x216002 x216003 x216004 x216005 x216006 x216007 x216008)) else (none)) else ((weather_Of.f x0 x216002 x216003 x2).bind fun bt230 => ((weather_Of.f x11 x216002 x216003 x2).bind fun bt237 => (if bt230.2.2.2.2.2 = 0 then (fastilaw27_WeatherTrue.j3 k x3 x4 x13 bt230.2.2.2.2.1 bt230.2.2.2.2.2 bt237.2.2.2.2.1 bt237.2.2.2.2.2 (bt237.2.2.2.2.2 != 0) bt230.1 bt230.2.1 bt230.2.2.1 bt230.2.2.2.1 bt237.1 bt237.2.1 bt237.2.2.1 bt237.2.2.2.1) else (fastilaw27_WeatherTrue.j3 k x3 x4 x13 bt230.2.2.2.2.1 bt230.2.2.2.2.2 bt237.2.2.2.2.1 bt237.2.2.2.2.2 true bt230.1 bt230.2.1 bt230.2.2.1 bt230.2.2.2.1 bt237.1 bt237.2.1 bt237.2.2.1 bt237.2.2.2.1))))
def fastilaw27_WeatherTrue.j2 : Nat → List (S41) → Int → Int → Int → List (S41) → Bool → Int → Bool → Int → Int → Int → Int → Int → Int → Int → Int → Int → Option (Bool)
 | 0, _, _, _, _, _, _, _, _, _, _, _, _, _, _, _, _, _ => none
 | k + 1, x0, x2, x3, x4, x11, x13, x14, x71, x216000, x216001, x216002, x216003, x216004, x216005, x216006, x216007, x216008 => if x71 = true then (fastilaw27_WeatherTrue.l0 k x0 x2 x3 x4 x11 x13 (wrap64 (x14 + 1)) x216000 x216001 x216002 x216003 x216004 x216005 x216006 x216007 x216008) else (if 0 ≤ x14 then (if x14 < (x0.length : Int) then ((fastilaw27_holds.f ((rd_T41 x0 x14).f5.f0) ((rd_T41 x0 x14).f5.f1) x3).bind fun t226 => (if t226 = true then ((fastilaw27_holds.f ((rd_T41 x0 x14).f6.f0) ((rd_T41 x0 x14).f6.f1) x4).bind fun t228 => (if t228 = true then (if x13 = true then (fastilaw27_WeatherTrue.l0 k x0 x2 x3 x4 x11 (((rd_T41 x0 x14).f1) != x216001) (wrap64 (x14 + 1)) x216000 x216001 x216002 x216003 x216004 x216005 x216006 x216007 x216008) else (fastilaw27_WeatherTrue.l0 k x0 x2 x3 x4 x11 false (wrap64 (x14 + 1)) x216000 x216001 x216002 x216003 x216004 x216005 x216006 x216007 x216008)) else (some true))) else (some true))) else (none)) else (none))
def fastilaw27_WeatherTrue.j3 : Nat → Int → Int → Bool → Int → Int → Int → Int → Bool → Int → Int → Int → Int → Int → Int → Int → Int → Option (Bool)
 | 0, _, _, _, _, _, _, _, _, _, _, _, _, _, _, _, _ => none
 | k + 1, x3, x4, x13, x16, x17, x19, x20, x128, x237000, x237001, x237002, x237003, x244000, x244001, x244002, x244003 => if x128 = true then (if x17 = 1 then (if x20 = x17 then (if x16 = 0 then (some (x19 == 0)) else (some false)) else (some false)) else (some false)) else ((fastilaw27_holds.f x237000 x237001 x3).bind fun t244 => (if t244 = true then ((fastilaw27_holds.f x237002 x237003 x4).bind fun t245 => (if t245 = true then ((fastilaw27_holds.f x244000 x244001 x3).bind fun t246 => (if t246 = true then ((fastilaw27_holds.f x244002 x244003 x4).bind fun t247 => (fastilaw27_WeatherTrue.j4 k x13 (!t247) x237000 x237001 x237002 x237003 x244000 x244001 x244002 x244003)) else (fastilaw27_WeatherTrue.j4 k x13 true x237000 x237001 x237002 x237003 x244000 x244001 x244002 x244003))) else (fastilaw27_WeatherTrue.j4 k x13 true x237000 x237001 x237002 x237003 x244000 x244001 x244002 x244003))) else (fastilaw27_WeatherTrue.j4 k x13 true x237000 x237001 x237002 x237003 x244000 x244001 x244002 x244003)))
def fastilaw27_WeatherTrue.j4 : Nat → Bool → Bool → Int → Int → Int → Int → Int → Int → Int → Int → Option (Bool)
 | 0, _, _, _, _, _, _, _, _, _, _ => none
 | k + 1, x13, x169, x237000, x237001, x237002, x237003, x244000, x244001, x244002, x244003 => if x169 = true then (some false) else (if x13 = true then ((fastilaw27_inside.f x244000 x244001 x237000 x237001).bind fun t248 => (if t248 = true then ((fastilaw27_inside.f x244002 x244003 x237002 x237003).bind fun t249 => (some t249)) else (some false))) else (some true))
end
def fastilaw27_WeatherTrue.f (k : Nat) (l0 : List (S41)) (a1_0 : Int) (a1_1 : Int) (a1_2 : Int) (a1_3 : Int) (a1_4 : Int) (a1_5 : Int) (a1_6 : Int) (a1_7 : Int) (a1_8 : Int) (a2 : Int) (a3 : Int) (a4 : Int) : Option (Bool) := (fastilaw27_sane.f).bind fun t216 => (if t216 = true then (if (l0.length : Int) > 5000 then (some true) else ((weather_Add.f l0 a1_0 a1_1 a1_2 a1_3 a1_4 a1_5 a1_6 a1_7 a1_8).bind fun bt217 => (if bt217.2 = 0 then ((fastilaw27_holds.f a1_5 a1_6 a3).bind fun t221 => (if t221 = true then ((fastilaw27_holds.f a1_7 a1_8 a4).bind fun t222 => (fastilaw27_WeatherTrue.j0 k l0 a2 a3 a4 bt217.1 (!t222) a1_0 a1_1 a1_2 a1_3 a1_4 a1_5 a1_6 a1_7 a1_8)) else (fastilaw27_WeatherTrue.j0 k l0 a2 a3 a4 bt217.1 true a1_0 a1_1 a1_2 a1_3 a1_4 a1_5 a1_6 a1_7 a1_8))) else (fastilaw27_WeatherTrue.j0 k l0 a2 a3 a4 bt217.1 true a1_0 a1_1 a1_2 a1_3 a1_4 a1_5 a1_6 a1_7 a1_8)))) else (some false))
theorem fastilaw27_WeatherTrue.mono_l : ∀ k, (∀ y0 y1 y2 y3 y4 y5 y6 y7 y8 y9 y10 y11 y12 y13 y14, LeO (fastilaw27_WeatherTrue.j0 k y0 y1 y2 y3 y4 y5 y6 y7 y8 y9 y10 y11 y12 y13 y14) (fastilaw27_WeatherTrue.j0 (k + 1) y0 y1 y2 y3 y4 y5 y6 y7 y8 y9 y10 y11 y12 y13 y14)) ∧ (∀ y0 y1 y2 y3 y4 y5 y6 y7 y8 y9 y10 y11 y12 y13 y14 y15, LeO (fastilaw27_WeatherTrue.l0 k y0 y1 y2 y3 y4 y5 y6 y7 y8 y9 y10 y11 y12 y13 y14 y15) (fastilaw27_WeatherTrue.l0 (k + 1) y0 y1 y2 y3 y4 y5 y6 y7 y8 y9 y10 y11 y12 y13 y14 y15)) ∧ (∀ y0 y1 y2 y3 y4 y5 y6 y7 y8 y9 y10 y11 y12 y13 y14 y15 y16, LeO (fastilaw27_WeatherTrue.j2 k y0 y1 y2 y3 y4 y5 y6 y7 y8 y9 y10 y11 y12 y13 y14 y15 y16) (fastilaw27_WeatherTrue.j2 (k + 1) y0 y1 y2 y3 y4 y5 y6 y7 y8 y9 y10 y11 y12 y13 y14 y15 y16)) ∧ (∀ y0 y1 y2 y3 y4 y5 y6 y7 y8 y9 y10 y11 y12 y13 y14 y15, LeO (fastilaw27_WeatherTrue.j3 k y0 y1 y2 y3 y4 y5 y6 y7 y8 y9 y10 y11 y12 y13 y14 y15) (fastilaw27_WeatherTrue.j3 (k + 1) y0 y1 y2 y3 y4 y5 y6 y7 y8 y9 y10 y11 y12 y13 y14 y15)) ∧ (∀ y0 y1 y2 y3 y4 y5 y6 y7 y8 y9, LeO (fastilaw27_WeatherTrue.j4 k y0 y1 y2 y3 y4 y5 y6 y7 y8 y9) (fastilaw27_WeatherTrue.j4 (k + 1) y0 y1 y2 y3 y4 y5 y6 y7 y8 y9))
 | 0 => ⟨fun _ _ _ _ _ _ _ _ _ _ _ _ _ _ _ r h => by simp [fastilaw27_WeatherTrue.j0] at h, fun _ _ _ _ _ _ _ _ _ _ _ _ _ _ _ _ r h => by simp [fastilaw27_WeatherTrue.l0] at h, fun _ _ _ _ _ _ _ _ _ _ _ _ _ _ _ _ _ r h => by simp [fastilaw27_WeatherTrue.j2] at h, fun _ _ _ _ _ _ _ _ _ _ _ _ _ _ _ _ r h => by simp [fastilaw27_WeatherTrue.j3] at h, fun _ _ _ _ _ _ _ _ _ _ r h => by simp [fastilaw27_WeatherTrue.j4] at h⟩
 | k + 1 => by
  obtain ⟨ih0, ih1, ih2, ih3, ih4⟩ := fastilaw27_WeatherTrue.mono_l k
  refine ⟨?_, ?_, ?_, ?_, ?_⟩
  ·intro y0 y1 y2 y3 y4 y5 y6 y7 y8 y9 y10 y11 y12 y13 y14
   unfold fastilaw27_WeatherTrue.j0
   repeat' first
   | (with_reducible exact ih0 _ _ _ _ _ _ _ _ _ _ _ _ _ _ _)
   | (with_reducible exact ih1 _ _ _ _ _ _ _ _ _ _ _ _ _ _ _ _)
   | (with_reducible exact ih2 _ _ _ _ _ _ _ _ _ _ _ _ _ _ _ _ _)
   | (with_reducible exact ih3 _ _ _ _ _ _ _ _ _ _ _ _ _ _ _ _)
   | (with_reducible exact ih4 _ _ _ _ _ _ _ _ _ _)
   | (with_reducible exact LeO.refl _)
   | (with_reducible exact LeO.none _)
   | (with_reducible refine LeO.ite ?_ ?_)
   | (with_reducible refine LeO.bind ?_ (fun _ => ?_))
   | exact ih0 _ _ _ _ _ _ _ _ _ _ _ _ _ _ _
   | exact ih1 _ _ _ _ _ _ _ _ _ _ _ _ _ _ _ _
   | exact ih2 _ _ _ _ _ _ _ _ _ _ _ _ _ _ _ _ _
   | exact ih3 _ _ _ _ _ _ _ _ _ _ _ _ _ _ _ _
   | exact ih4 _ _ _ _ _ _ _ _ _ _
   | exact LeO.none _
   | refine LeO.ite ?_ ?_
   | refine LeO.bind ?_ (fun _ => ?_)
  ·intro y0 y1 y2 y3 y4 y5 y6 y7 y8 y9 y10 y11 y12 y13 y14 y15
   unfold fastilaw27_WeatherTrue.l0
   repeat' first
   | (with_reducible exact ih0 _ _ _ _ _ _ _ _ _ _ _ _ _ _ _)
   | (with_reducible exact ih1 _ _ _ _ _ _ _ _ _ _ _ _ _ _ _ _)
   | (with_reducible exact ih2 _ _ _ _ _ _ _ _ _ _ _ _ _ _ _ _ _)
   | (with_reducible exact ih3 _ _ _ _ _ _ _ _ _ _ _ _ _ _ _ _)
   | (with_reducible exact ih4 _ _ _ _ _ _ _ _ _ _)
   | (with_reducible exact LeO.refl _)
   | (with_reducible exact LeO.none _)
   | (with_reducible refine LeO.ite ?_ ?_)
   | (with_reducible refine LeO.bind ?_ (fun _ => ?_))
   | exact ih0 _ _ _ _ _ _ _ _ _ _ _ _ _ _ _
   | exact ih1 _ _ _ _ _ _ _ _ _ _ _ _ _ _ _ _
   | exact ih2 _ _ _ _ _ _ _ _ _ _ _ _ _ _ _ _ _
   | exact ih3 _ _ _ _ _ _ _ _ _ _ _ _ _ _ _ _
   | exact ih4 _ _ _ _ _ _ _ _ _ _
   | exact LeO.none _
   | refine LeO.ite ?_ ?_
   | refine LeO.bind ?_ (fun _ => ?_)
  ·intro y0 y1 y2 y3 y4 y5 y6 y7 y8 y9 y10 y11 y12 y13 y14 y15 y16
   unfold fastilaw27_WeatherTrue.j2
   repeat' first
   | (with_reducible exact ih0 _ _ _ _ _ _ _ _ _ _ _ _ _ _ _)
   | (with_reducible exact ih1 _ _ _ _ _ _ _ _ _ _ _ _ _ _ _ _)
   | (with_reducible exact ih2 _ _ _ _ _ _ _ _ _ _ _ _ _ _ _ _ _)
   | (with_reducible exact ih3 _ _ _ _ _ _ _ _ _ _ _ _ _ _ _ _)
   | (with_reducible exact ih4 _ _ _ _ _ _ _ _ _ _)
   | (with_reducible exact LeO.refl _)
   | (with_reducible exact LeO.none _)
   | (with_reducible refine LeO.ite ?_ ?_)
   | (with_reducible refine LeO.bind ?_ (fun _ => ?_))
   | exact ih0 _ _ _ _ _ _ _ _ _ _ _ _ _ _ _
   | exact ih1 _ _ _ _ _ _ _ _ _ _ _ _ _ _ _ _
   | exact ih2 _ _ _ _ _ _ _ _ _ _ _ _ _ _ _ _ _
   | exact ih3 _ _ _ _ _ _ _ _ _ _ _ _ _ _ _ _
   | exact ih4 _ _ _ _ _ _ _ _ _ _
   | exact LeO.none _
   | refine LeO.ite ?_ ?_
   | refine LeO.bind ?_ (fun _ => ?_)
  ·intro y0 y1 y2 y3 y4 y5 y6 y7 y8 y9 y10 y11 y12 y13 y14 y15
   unfold fastilaw27_WeatherTrue.j3
   repeat' first
   | (with_reducible exact ih0 _ _ _ _ _ _ _ _ _ _ _ _ _ _ _)
   | (with_reducible exact ih1 _ _ _ _ _ _ _ _ _ _ _ _ _ _ _ _)
   | (with_reducible exact ih2 _ _ _ _ _ _ _ _ _ _ _ _ _ _ _ _ _)
   | (with_reducible exact ih3 _ _ _ _ _ _ _ _ _ _ _ _ _ _ _ _)
   | (with_reducible exact ih4 _ _ _ _ _ _ _ _ _ _)
   | (with_reducible exact LeO.refl _)
   | (with_reducible exact LeO.none _)
   | (with_reducible refine LeO.ite ?_ ?_)
   | (with_reducible refine LeO.bind ?_ (fun _ => ?_))
   | exact ih0 _ _ _ _ _ _ _ _ _ _ _ _ _ _ _
   | exact ih1 _ _ _ _ _ _ _ _ _ _ _ _ _ _ _ _
   | exact ih2 _ _ _ _ _ _ _ _ _ _ _ _ _ _ _ _ _
   | exact ih3 _ _ _ _ _ _ _ _ _ _ _ _ _ _ _ _
   | exact ih4 _ _ _ _ _ _ _ _ _ _
   | exact LeO.none _
   | refine LeO.ite ?_ ?_
   | refine LeO.bind ?_ (fun _ => ?_)
  ·intro y0 y1 y2 y3 y4 y5 y6 y7 y8 y9
   unfold fastilaw27_WeatherTrue.j4
   repeat' first
   | (with_reducible exact ih0 _ _ _ _ _ _ _ _ _ _ _ _ _ _ _)
   | (with_reducible exact ih1 _ _ _ _ _ _ _ _ _ _ _ _ _ _ _ _)
   | (with_reducible exact ih2 _ _ _ _ _ _ _ _ _ _ _ _ _ _ _ _ _)
   | (with_reducible exact ih3 _ _ _ _ _ _ _ _ _ _ _ _ _ _ _ _)
   | (with_reducible exact ih4 _ _ _ _ _ _ _ _ _ _)
   | (with_reducible exact LeO.refl _)
   | (with_reducible exact LeO.none _)
   | (with_reducible refine LeO.ite ?_ ?_)
   | (with_reducible refine LeO.bind ?_ (fun _ => ?_))
   | exact ih0 _ _ _ _ _ _ _ _ _ _ _ _ _ _ _
   | exact ih1 _ _ _ _ _ _ _ _ _ _ _ _ _ _ _ _
   | exact ih2 _ _ _ _ _ _ _ _ _ _ _ _ _ _ _ _ _
   | exact ih3 _ _ _ _ _ _ _ _ _ _ _ _ _ _ _ _
   | exact ih4 _ _ _ _ _ _ _ _ _ _
   | exact LeO.none _
   | refine LeO.ite ?_ ?_
   | refine LeO.bind ?_ (fun _ => ?_)
theorem fastilaw27_WeatherTrue.mono : ∀ a0 a1 a2 a3 a4 a5 a6 a7 a8 a9 a10 a11 a12 k, LeO (fastilaw27_WeatherTrue.f k a0 a1 a2 a3 a4 a5 a6 a7 a8 a9 a10 a11 a12) (fastilaw27_WeatherTrue.f (k + 1) a0 a1 a2 a3 a4 a5 a6 a7 a8 a9 a10 a11 a12) := by
 intro a0 a1 a2 a3 a4 a5 a6 a7 a8 a9 a10 a11 a12 k
 obtain ⟨ih0, ih1, ih2, ih3, ih4⟩ := fastilaw27_WeatherTrue.mono_l k
 unfold fastilaw27_WeatherTrue.f
 repeat' first
   | (with_reducible exact ih0 _ _ _ _ _ _ _ _ _ _ _ _ _ _ _)
   | (with_reducible exact ih1 _ _ _ _ _ _ _ _ _ _ _ _ _ _ _ _)
   | (with_reducible exact ih2 _ _ _ _ _ _ _ _ _ _ _ _ _ _ _ _ _)
   | (with_reducible exact ih3 _ _ _ _ _ _ _ _ _ _ _ _ _ _ _ _)
   | (with_reducible exact ih4 _ _ _ _ _ _ _ _ _ _)
   | (with_reducible exact LeO.refl _)
   | (with_reducible exact LeO.none _)
   | (with_reducible refine LeO.ite ?_ ?_)
   | (with_reducible refine LeO.bind ?_ (fun _ => ?_))
   | exact ih0 _ _ _ _ _ _ _ _ _ _ _ _ _ _ _
   | exact ih1 _ _ _ _ _ _ _ _ _ _ _ _ _ _ _ _
   | exact ih2 _ _ _ _ _ _ _ _ _ _ _ _ _ _ _ _ _
   | exact ih3 _ _ _ _ _ _ _ _ _ _ _ _ _ _ _ _
   | exact ih4 _ _ _ _ _ _ _ _ _ _
   | exact LeO.none _
   | refine LeO.ite ?_ ?_
   | refine LeO.bind ?_ (fun _ => ?_)
set_option maxHeartbeats 8000000 in
set_option maxRecDepth 100000 in
theorem fastilaw27_WeatherTrue.calls (k : Nat) (A0 : Option Addr) (c0 : Nat) (l0 : List (S41)) (a1_0 : Int) (a1_1 : Int) (a1_2 : Int) (a1_3 : Int) (a1_4 : Int) (a1_5 : Int) (a1_6 : Int) (a1_7 : Int) (a1_8 : Int) (a2 : Int) (a3 : Int) (a4 : Int) (r : Bool) (w : World) (hr0 : Kd.C k41 w A0 l0.length l0) (hc0 : l0.length ≤ c0) (h : fastilaw27_WeatherTrue.f k l0 a1_0 a1_1 a1_2 a1_3 a1_4 a1_5 a1_6 a1_7 a1_8 a2 a3 a4 = some r) :
  Calls Try.prog 7 #[.slice A0 l0.length c0, .agg #[.int .i64 a1_0, .int .i64 a1_1, .int .i64 a1_2, .int .i64 a1_3, .int .i64 a1_4, .int .i64 a1_5, .int .i64 a1_6, .int .i64 a1_7, .int .i64 a1_8], .int .i64 a2, .int .i64 a3, .int .i64 a4] w fun e w' => e = .returned (.bool r) ∧ Below w.heap.size w w' := by
 have hu41 := Try.underlying41
 have hu27 := Try.underlying27
 have hu39 := Try.underlying39
 have HR0 := Aside0.mk hr0
 have HC0 := Aside0.mk hc0
 clear hr0 hc0
 have HB := Aside0.mk (Below.refl w.heap.size w)
 have H : ((fastilaw27_sane.f).bind fun t216 => (if t216 = true then (if (l0.length : Int) > 5000 then (some true) else ((weather_Add.f l0 a1_0 a1_1 a1_2 a1_3 a1_4 a1_5 a1_6 a1_7 a1_8).bind fun bt217 => (if bt217.2 = 0 then ((fastilaw27_holds.f a1_5 a1_6 a3).bind fun t221 => (if t221 = true then ((fastilaw27_holds.f a1_7 a1_8 a4).bind fun t222 => (fastilaw27_WeatherTrue.j0 k l0 a2 a3 a4 bt217.1 (!t222) a1_0 a1_1 a1_2 a1_3 a1_4 a1_5 a1_6 a1_7 a1_8)) else (fastilaw27_WeatherTrue.j0 k l0 a2 a3 a4 bt217.1 true a1_0 a1_1 a1_2 a1_3 a1_4 a1_5 a1_6 a1_7 a1_8))) else (fastilaw27_WeatherTrue.j0 k l0 a2 a3 a4 bt217.1 true a1_0 a1_1 a1_2 a1_3 a1_4 a1_5 a1_6 a1_7 a1_8)))) else (some false))) = some r := h
 clear h
 replace H := Option.bind_eq_some_iff.mp H
 obtain ⟨t216, A60, H⟩ := H
 replace H : (if t216 = true then (if (l0.length : Int) > 5000 then (some true) else ((weather_Add.f l0 a1_0 a1_1 a1_2 a1_3 a1_4 a1_5 a1_6 a1_7 a1_8).bind fun bt217 => (if bt217.2 = 0 then ((fastilaw27_holds.f a1_5 a1_6 a3).bind fun t221 => (if t221 = true then ((fastilaw27_holds.f a1_7 a1_8 a4).bind fun t222 => (fastilaw27_WeatherTrue.j0 k l0 a2 a3 a4 bt217.1 (!t222) a1_0 a1_1 a1_2 a1_3 a1_4 a1_5 a1_6 a1_7 a1_8)) else (fastilaw27_WeatherTrue.j0 k l0 a2 a3 a4 bt217.1 true a1_0 a1_1 a1_2 a1_3 a1_4 a1_5 a1_6 a1_7 a1_8))) else (fastilaw27_WeatherTrue.j0 k l0 a2 a3 a4 bt217.1 true a1_0 a1_1 a1_2 a1_3 a1_4 a1_5 a1_6 a1_7 a1_8)))) else (some false)) = some r := H
 have A6 := Aside0.mk A60
 clear A60
 by_cases c7 : t216 = true
 ·subst c7
  have H1 : (if (l0.length : Int) > 5000 then (some true) else ((weather_Add.f l0 a1_0 a1_1 a1_2 a1_3 a1_4 a1_5 a1_6 a1_7 a1_8).bind fun bt217 => (if bt217.2 = 0 then ((fastilaw27_holds.f a1_5 a1_6 a3).bind fun t221 => (if t221 = true then ((fastilaw27_holds.f a1_7 a1_8 a4).bind fun t222 => (fastilaw27_WeatherTrue.j0 k l0 a2 a3 a4 bt217.1 (!t222) a1_0 a1_1 a1_2 a1_3 a1_4 a1_5 a1_6 a1_7 a1_8)) else (fastilaw27_WeatherTrue.j0 k l0 a2 a3 a4 bt217.1 true a1_0 a1_1 a1_2 a1_3 a1_4 a1_5 a1_6 a1_7 a1_8))) else (fastilaw27_WeatherTrue.j0 k l0 a2 a3 a4 bt217.1 true a1_0 a1_1 a1_2 a1_3 a1_4 a1_5 a1_6 a1_7 a1_8)))) = some r := by rw [if_pos rfl] at H; exact H
  clear H
  have H := H1
  clear H1
  by_cases c8 : (l0.length : Int) > 5000
  ·rw [if_pos c8] at H
   have c8b0 : decide (5000 < (l0.length : Int)) = true := decide_eq_true c8
   have c8b1 : decide (5000 < l0.length) = true := decide_eq_true (by omega)
   clear c8
   obtain rfl := Option.some.inj H
   go_enter Try.func7, Try.ntmps7
   go_wp2_with (first | ((with_reducible refine gate_dst (N := 6) rfl ?_); refine box_event ?hg (N := 6) ?hd (cs := #[.int .i64 a1_0, .int .i64 a1_1, .int .i64 a1_2, .int .i64 a1_3, .int .i64 a1_4, .int .i64 a1_5, .int .i64 a1_6, .int .i64 a1_7, .int .i64 a1_8]) (t := 41) ?hr ?_; (case hd => rfl); (case hg => rfl); (case hr => first | (go_simp; done) | (go_simp; rfl)); intro gb215 hg w9 hbox hb; have n0_ := Aside0.mk (below_step (by repeat (first | (with_reducible first | exact HB.out | apply below_alloc | apply pw_below_drewN | apply below_drew1) | exact HB.out)) hb); have n1_ := Aside0.mk (hbox); have n2_ := Aside0.mk ((by rw [hg]; exact (below_size (by repeat (first | (with_reducible first | exact HB.out | apply below_alloc | apply pw_below_drewN | apply below_drew1) | exact HB.out))) : w.heap.size ≤ gb215)); have n3_ := Aside0.mk ((by rw [hg]; exact (below_size (by repeat (first | (with_reducible first | exact HB.out | apply below_alloc | apply pw_below_drewN | apply below_drew1) | exact HB.out))) : w.heap.size ≤ gb215)); clear HB; have HB := n0_; have BK215 := n1_; have GW215 := n2_; have GE215 := n3_; clear n0_ n1_ n2_ n3_; clear hb hbox hg) | (go_at_call 25; (with_reducible refine (fastilaw27_sane.calls  true _ A6.out).mono ?_); rintro e w10 ⟨rfl, hb⟩; have n0_ := Aside0.mk (zb BK215.out hb); have n1_ := Aside0.mk (below_step (by repeat (first | (with_reducible first | exact HB.out | apply below_alloc | apply pw_below_drewN | apply below_drew1 | refine below_set ?_ GE215.out) | exact HB.out)) hb); clear BK215; clear HB; have BK215 := n0_; have HB := n1_; clear n0_ n1_; (try clear hb); (try clear hb2); (try clear hk); (try clear hi)))
   repeat (go_quiet (first | ((with_reducible refine gate_dst (N := 6) rfl ?_); refine box_event ?hg (N := 6) ?hd (cs := #[.int .i64 a1_0, .int .i64 a1_1, .int .i64 a1_2, .int .i64 a1_3, .int .i64 a1_4, .int .i64 a1_5, .int .i64 a1_6, .int .i64 a1_7, .int .i64 a1_8]) (t := 41) ?hr ?_; (case hd => rfl); (case hg => rfl); (case hr => first | (go_simp; done) | (go_simp; rfl)); intro gb215 hg w9 hbox hb; have n0_ := Aside0.mk (below_step (by repeat (first | (with_reducible first | exact HB.out | apply below_alloc | apply pw_below_drewN | apply below_drew1) | exact HB.out)) hb); have n1_ := Aside0.mk (hbox); have n2_ := Aside0.mk ((by rw [hg]; exact (below_size (by repeat (first | (with_reducible first | exact HB.out | apply below_alloc | apply pw_below_drewN | apply below_drew1) | exact HB.out))) : w.heap.size ≤ gb215)); have n3_ := Aside0.mk ((by rw [hg]; exact (below_size (by repeat (first | (with_reducible first | exact HB.out | apply below_alloc | apply pw_below_drewN | apply below_drew1) | exact HB.out))) : w.heap.size ≤ gb215)); clear HB; have HB := n0_; have BK215 := n1_; have GW215 := n2_; have GE215 := n3_; clear n0_ n1_ n2_ n3_; clear hb hbox hg) | (go_at_call 25; (with_reducible refine (fastilaw27_sane.calls  true _ A6.out).mono ?_); rintro e w10 ⟨rfl, hb⟩; have n0_ := Aside0.mk (zb BK215.out hb); have n1_ := Aside0.mk (below_step (by repeat (first | (with_reducible first | exact HB.out | apply below_alloc | apply pw_below_drewN | apply below_drew1 | refine below_set ?_ GE215.out) | exact HB.out)) hb); clear BK215; clear HB; have BK215 := n0_; have HB := n1_; clear n0_ n1_; (try clear hb); (try clear hb2); (try clear hk); (try clear hi))); try go_wp2_with (first | ((with_reducible refine gate_dst (N := 6) rfl ?_); refine box_event ?hg (N := 6) ?hd (cs := #[.int .i64 a1_0, .int .i64 a1_1, .int .i64 a1_2, .int .i64 a1_3, .int .i64 a1_4, .int .i64 a1_5, .int .i64 a1_6, .int .i64 a1_7, .int .i64 a1_8]) (t := 41) ?hr ?_; (case hd => rfl); (case hg => rfl); (case hr => first | (go_simp; done) | (go_simp; rfl)); intro gb215 hg w9 hbox hb; have n0_ := Aside0.mk (below_step (by repeat (first | (with_reducible first | exact HB.out | apply below_alloc | apply pw_below_drewN | apply below_drew1) | exact HB.out)) hb); have n1_ := Aside0.mk (hbox); have n2_ := Aside0.mk ((by rw [hg]; exact (below_size (by repeat (first | (with_reducible first | exact HB.out | apply below_alloc | apply pw_below_drewN | apply below_drew1) | exact HB.out))) : w.heap.size ≤ gb215)); have n3_ := Aside0.mk ((by rw [hg]; exact (below_size (by repeat (first | (with_reducible first | exact HB.out | apply below_alloc | apply pw_below_drewN | apply below_drew1) | exact HB.out))) : w.heap.size ≤ gb215)); clear HB; have HB := n0_; have BK215 := n1_; have GW215 := n2_; have GE215 := n3_; clear n0_ n1_ n2_ n3_; clear hb hbox hg) | (go_at_call 25; (with_reducible refine (fastilaw27_sane.calls  true _ A6.out).mono ?_); rintro e w10 ⟨rfl, hb⟩; have n0_ := Aside0.mk (zb BK215.out hb); have n1_ := Aside0.mk (below_step (by repeat (first | (with_reducible first | exact HB.out | apply below_alloc | apply pw_below_drewN | apply below_drew1 | refine below_set ?_ GE215.out) | exact HB.out)) hb); clear BK215; clear HB; have BK215 := n0_; have HB := n1_; clear n0_ n1_; (try clear hb); (try clear hb2); (try clear hk); (try clear hi))))
   go_ret
   exact ⟨by first | rfl | (simp [errW_none, errW_some] <;> rfl) | (simp [*, errW_none, errW_some] <;> rfl), by repeat (first | (with_reducible first | exact HB.out | apply below_alloc | apply pw_below_drewN | apply below_drew1 | refine below_set ?_ GE215.out) | exact HB.out)⟩
  ·rw [if_neg c8] at H
   have c8b0 : decide (5000 < (l0.length : Int)) = false := decide_eq_false c8
   have c8b1 : decide (5000 < l0.length) = false := decide_eq_false (by omega)
   clear c8
   replace H := Option.bind_eq_some_iff.mp H
   obtain ⟨⟨t217, t220⟩, A110, H⟩ := H
   replace H : (if t220 = 0 then ((fastilaw27_holds.f a1_5 a1_6 a3).bind fun t221 => (if t221 = true then ((fastilaw27_holds.f a1_7 a1_8 a4).bind fun t222 => (fastilaw27_WeatherTrue.j0 k l0 a2 a3 a4 t217 (!t222) a1_0 a1_1 a1_2 a1_3 a1_4 a1_5 a1_6 a1_7 a1_8)) else (fastilaw27_WeatherTrue.j0 k l0 a2 a3 a4 t217 true a1_0 a1_1 a1_2 a1_3 a1_4 a1_5 a1_6 a1_7 a1_8))) else (fastilaw27_WeatherTrue.j0 k l0 a2 a3 a4 t217 true a1_0 a1_1 a1_2 a1_3 a1_4 a1_5 a1_6 a1_7 a1_8)) = some r := H
   have A11 := Aside0.mk A110
   clear A110
   have HC12 := Aside0.mk H
   clear H
   go_enter Try.func7, Try.ntmps7
   go_upto_region 6 with (first | ((with_reducible refine gate_dst (N := 6) rfl ?_); refine box_event ?hg (N := 6) ?hd (cs := #[.int .i64 a1_0, .int .i64 a1_1, .int .i64 a1_2, .int .i64 a1_3, .int .i64 a1_4, .int .i64 a1_5, .int .i64 a1_6, .int .i64 a1_7, .int .i64 a1_8]) (t := 41) ?hr ?_; (case hd => rfl); (case hg => rfl); (case hr => first | (go_simp; done) | (go_simp; rfl)); intro gb215 hg w13 hbox hb; have n0_ := Aside0.mk (below_step (by repeat (first | (with_reducible first | exact HB.out | apply below_alloc | apply pw_below_drewN | apply below_drew1) | exact HB.out)) hb); have n1_ := Aside0.mk (hbox); have n2_ := Aside0.mk ((by rw [hg]; exact (below_size (by repeat (first | (with_reducible first | exact HB.out | apply below_alloc | apply pw_below_drewN | apply below_drew1) | exact HB.out))) : w.heap.size ≤ gb215)); have n3_ := Aside0.mk ((by rw [hg]; exact (below_size (by repeat (first | (with_reducible first | exact HB.out | apply below_alloc | apply pw_below_drewN | apply below_drew1) | exact HB.out))) : w.heap.size ≤ gb215)); clear HB; have HB := n0_; have BK215 := n1_; have GW215 := n2_; have GE215 := n3_; clear n0_ n1_ n2_ n3_; clear hb hbox hg) | (go_at_call 25; (with_reducible refine (fastilaw27_sane.calls  true _ A6.out).mono ?_); rintro e w14 ⟨rfl, hb⟩; have n0_ := Aside0.mk (zb BK215.out hb); have n1_ := Aside0.mk (below_step (by repeat (first | (with_reducible first | exact HB.out | apply below_alloc | apply pw_below_drewN | apply below_drew1 | refine below_set ?_ GE215.out) | exact HB.out)) hb); clear BK215; clear HB; have BK215 := n0_; have HB := n1_; clear n0_ n1_; (try clear hb); (try clear hb2); (try clear hk); (try clear hi); have hcz15_0 : w14.cell? ⟨gb215, 0, none⟩ = some (.int .i64 a1_0) := (blk_cell BK215.out 0).trans rfl; have hcz15_1 : w14.cell? ⟨gb215, 1, none⟩ = some (.int .i64 a1_1) := (blk_cell BK215.out 1).trans rfl; have hcz15_2 : w14.cell? ⟨gb215, 2, none⟩ = some (.int .i64 a1_2) := (blk_cell BK215.out 2).trans rfl; have hcz15_3 : w14.cell? ⟨gb215, 3, none⟩ = some (.int .i64 a1_3) := (blk_cell BK215.out 3).trans rfl; have hcz15_4 : w14.cell? ⟨gb215, 4, none⟩ = some (.int .i64 a1_4) := (blk_cell BK215.out 4).trans rfl; have hcz15_5 : w14.cell? ⟨gb215, 5, none⟩ = some (.int .i64 a1_5) := (blk_cell BK215.out 5).trans rfl; have hcz15_6 : w14.cell? ⟨gb215, 6, none⟩ = some (.int .i64 a1_6) := (blk_cell BK215.out 6).trans rfl; have hcz15_7 : w14.cell? ⟨gb215, 7, none⟩ = some (.int .i64 a1_7) := (blk_cell BK215.out 7).trans rfl; have hcz15_8 : w14.cell? ⟨gb215, 8, none⟩ = some (.int .i64 a1_8) := (blk_cell BK215.out 8).trans rfl; have hfz15_0 := blk_frozen BK215.out 0; have hfz15_1 := blk_frozen BK215.out 1; have hfz15_2 := blk_frozen BK215.out 2; have hfz15_3 := blk_frozen BK215.out 3; have hfz15_4 := blk_frozen BK215.out 4; have hfz15_5 := blk_frozen BK215.out 5; have hfz15_6 := blk_frozen BK215.out 6; have hfz15_7 := blk_frozen BK215.out 7; have hfz15_8 := blk_frozen BK215.out 8) | (go_at_call 26; (with_reducible refine (weather_Add.calls _ _ l0 a1_0 a1_1 a1_2 a1_3 a1_4 a1_5 a1_6 a1_7 a1_8 t217 t220 _ ?side1 ?side2 A11.out).mono ?_); (case side1 => repeat (first | exact (Kd.C_below HR0.out HB.out) | (with_reducible refine Kd.C_alloc ?_ _) | (with_reducible refine Kd.C_drewN ?_ _) | (with_reducible refine Kd.C_drew ?_))); (case side2 => exact HC0.out); rintro e w16 ⟨v218, rfl, ho0, hb⟩; have n0_ := Aside0.mk (Kd.R_lower (Kd.R_newB ho0 (g := gb215) (o := .cells #[.int .i64 a1_0, .int .i64 a1_1, .int .i64 a1_2, .int .i64 a1_3, .int .i64 a1_4, .int .i64 a1_5, .int .i64 a1_6, .int .i64 a1_7, .int .i64 a1_8] 41 (0, 0)) (zk BK215.out)) (below_size (by repeat (first | (with_reducible first | exact HB.out | apply below_alloc | apply pw_below_drewN | apply below_drew1 | refine below_set ?_ GE215.out) | exact HB.out)))); have n1_ := Aside0.mk (zb BK215.out hb); have n2_ := Aside0.mk (below_step (by repeat (first | (with_reducible first | exact HB.out | apply below_alloc | apply pw_below_drewN | apply below_drew1 | refine below_set ?_ GE215.out) | exact HB.out)) hb); clear BK215; clear HB; have HO219 := n0_; have BK215 := n1_; have HB := n2_; clear n0_ n1_ n2_; (try clear hb); (try clear hb2); (try clear hk); (try clear hi); (try clear ho0)))
   repeat (go_quiet (first | ((with_reducible refine gate_dst (N := 6) rfl ?_); refine box_event ?hg (N := 6) ?hd (cs := #[.int .i64 a1_0, .int .i64 a1_1, .int .i64 a1_2, .int .i64 a1_3, .int .i64 a1_4, .int .i64 a1_5, .int .i64 a1_6, .int .i64 a1_7, .int .i64 a1_8]) (t := 41) ?hr ?_; (case hd => rfl); (case hg => rfl); (case hr => first | (go_simp; done) | (go_simp; rfl)); intro gb215 hg w13 hbox hb; have n0_ := Aside0.mk (below_step (by repeat (first | (with_reducible first | exact HB.out | apply below_alloc | apply pw_below_drewN | apply below_drew1) | exact HB.out)) hb); have n1_ := Aside0.mk (hbox); have n2_ := Aside0.mk ((by rw [hg]; exact (below_size (by repeat (first | (with_reducible first | exact HB.out | apply below_alloc | apply pw_below_drewN | apply below_drew1) | exact HB.out))) : w.heap.size ≤ gb215)); have n3_ := Aside0.mk ((by rw [hg]; exact (below_size (by repeat (first | (with_reducible first | exact HB.out | apply below_alloc | apply pw_below_drewN | apply below_drew1) | exact HB.out))) : w.heap.size ≤ gb215)); clear HB; have HB := n0_; have BK215 := n1_; have GW215 := n2_; have GE215 := n3_; clear n0_ n1_ n2_ n3_; clear hb hbox hg) | (go_at_call 25; (with_reducible refine (fastilaw27_sane.calls  true _ A6.out).mono ?_); rintro e w14 ⟨rfl, hb⟩; have n0_ := Aside0.mk (zb BK215.out hb); have n1_ := Aside0.mk (below_step (by repeat (first | (with_reducible first | exact HB.out | apply below_alloc | apply pw_below_drewN | apply below_drew1 | refine below_set ?_ GE215.out) | exact HB.out)) hb); clear BK215; clear HB; have BK215 := n0_; have HB := n1_; clear n0_ n1_; (try clear hb); (try clear hb2); (try clear hk); (try clear hi); have hcz15_0 : w14.cell? ⟨gb215, 0, none⟩ = some (.int .i64 a1_0) := (blk_cell BK215.out 0).trans rfl; have hcz15_1 : w14.cell? ⟨gb215, 1, none⟩ = some (.int .i64 a1_1) := (blk_cell BK215.out 1).trans rfl; have hcz15_2 : w14.cell? ⟨gb215, 2, none⟩ = some (.int .i64 a1_2) := (blk_cell BK215.out 2).trans rfl; have hcz15_3 : w14.cell? ⟨gb215, 3, none⟩ = some (.int .i64 a1_3) := (blk_cell BK215.out 3).trans rfl; have hcz15_4 : w14.cell? ⟨gb215, 4, none⟩ = some (.int .i64 a1_4) := (blk_cell BK215.out 4).trans rfl; have hcz15_5 : w14.cell? ⟨gb215, 5, none⟩ = some (.int .i64 a1_5) := (blk_cell BK215.out 5).trans rfl; have hcz15_6 : w14.cell? ⟨gb215, 6, none⟩ = some (.int .i64 a1_6) := (blk_cell BK215.out 6).trans rfl; have hcz15_7 : w14.cell? ⟨gb215, 7, none⟩ = some (.int .i64 a1_7) := (blk_cell BK215.out 7).trans rfl; have hcz15_8 : w14.cell? ⟨gb215, 8, none⟩ = some (.int .i64 a1_8) := (blk_cell BK215.out 8).trans rfl; have hfz15_0 := blk_frozen BK215.out 0; have hfz15_1 := blk_frozen BK215.out 1; have hfz15_2 := blk_frozen BK215.out 2; have hfz15_3 := blk_frozen BK215.out 3; have hfz15_4 := blk_frozen BK215.out 4; have hfz15_5 := blk_frozen BK215.out 5; have hfz15_6 := blk_frozen BK215.out 6; have hfz15_7 := blk_frozen BK215.out 7; have hfz15_8 := blk_frozen BK215.out 8) | (go_at_call 26; (with_reducible refine (weather_Add.calls _ _ l0 a1_0 a1_1 a1_2 a1_3 a1_4 a1_5 a1_6 a1_7 a1_8 t217 t220 _ ?side1 ?side2 A11.out).mono ?_); (case side1 => repeat (first | exact (Kd.C_below HR0.out HB.out) | (with_reducible refine Kd.C_alloc ?_ _) | (with_reducible refine Kd.C_drewN ?_ _) | (with_reducible refine Kd.C_drew ?_))); (case side2 => exact HC0.out); rintro e w16 ⟨v218, rfl, ho0, hb⟩; have n0_ := Aside0.mk (Kd.R_lower (Kd.R_newB ho0 (g := gb215) (o := .cells #[.int .i64 a1_0, .int .i64 a1_1, .int .i64 a1_2, .int .i64 a1_3, .int .i64 a1_4, .int .i64 a1_5, .int .i64 a1_6, .int .i64 a1_7, .int .i64 a1_8] 41 (0, 0)) (zk BK215.out)) (below_size (by repeat (first | (with_reducible first | exact HB.out | apply below_alloc | apply pw_below_drewN | apply below_drew1 | refine below_set ?_ GE215.out) | exact HB.out)))); have n1_ := Aside0.mk (zb BK215.out hb); have n2_ := Aside0.mk (below_step (by repeat (first | (with_reducible first | exact HB.out | apply below_alloc | apply pw_below_drewN | apply below_drew1 | refine below_set ?_ GE215.out) | exact HB.out)) hb); clear BK215; clear HB; have HO219 := n0_; have BK215 := n1_; have HB := n2_; clear n0_ n1_ n2_; (try clear hb); (try clear hb2); (try clear hk); (try clear hi); (try clear ho0))); go_upto_region 6 with (first | ((with_reducible refine gate_dst (N := 6) rfl ?_); refine box_event ?hg (N := 6) ?hd (cs := #[.int .i64 a1_0, .int .i64 a1_1, .int .i64 a1_2, .int .i64 a1_3, .int .i64 a1_4, .int .i64 a1_5, .int .i64 a1_6, .int .i64 a1_7, .int .i64 a1_8]) (t := 41) ?hr ?_; (case hd => rfl); (case hg => rfl); (case hr => first | (go_simp; done) | (go_simp; rfl)); intro gb215 hg w13 hbox hb; have n0_ := Aside0.mk (below_step (by repeat (first | (with_reducible first | exact HB.out | apply below_alloc | apply pw_below_drewN | apply below_drew1) | exact HB.out)) hb); have n1_ := Aside0.mk (hbox); have n2_ := Aside0.mk ((by rw [hg]; exact (below_size (by repeat (first | (with_reducible first | exact HB.out | apply below_alloc | apply pw_below_drewN | apply below_drew1) | exact HB.out))) : w.heap.size ≤ gb215)); have n3_ := Aside0.mk ((by rw [hg]; exact (below_size (by repeat (first | (with_reducible first | exact HB.out | apply below_alloc | apply pw_below_drewN | apply below_drew1) | exact HB.out))) : w.heap.size ≤ gb215)); clear HB; have HB := n0_; have BK215 := n1_; have GW215 := n2_; have GE215 := n3_; clear n0_ n1_ n2_ n3_; clear hb hbox hg) | (go_at_call 25; (with_reducible refine (fastilaw27_sane.calls  true _ A6.out).mono ?_); rintro e w14 ⟨rfl, hb⟩; have n0_ := Aside0.mk (zb BK215.out hb); have n1_ := Aside0.mk (below_step (by repeat (first | (with_reducible first | exact HB.out | apply below_alloc | apply pw_below_drewN | apply below_drew1 | refine below_set ?_ GE215.out) | exact HB.out)) hb); clear BK215; clear HB; have BK215 := n0_; have HB := n1_; clear n0_ n1_; (try clear hb); (try clear hb2); (try clear hk); (try clear hi); have hcz15_0 : w14.cell? ⟨gb215, 0, none⟩ = some (.int .i64 a1_0) := (blk_cell BK215.out 0).trans rfl; have hcz15_1 : w14.cell? ⟨gb215, 1, none⟩ = some (.int .i64 a1_1) := (blk_cell BK215.out 1).trans rfl; have hcz15_2 : w14.cell? ⟨gb215, 2, none⟩ = some (.int .i64 a1_2) := (blk_cell BK215.out 2).trans rfl; have hcz15_3 : w14.cell? ⟨gb215, 3, none⟩ = some (.int .i64 a1_3) := (blk_cell BK215.out 3).trans rfl; have hcz15_4 : w14.cell? ⟨gb215, 4, none⟩ = some (.int .i64 a1_4) := (blk_cell BK215.out 4).trans rfl; have hcz15_5 : w14.cell? ⟨gb215, 5, none⟩ = some (.int .i64 a1_5) := (blk_cell BK215.out 5).trans rfl; have hcz15_6 : w14.cell? ⟨gb215, 6, none⟩ = some (.int .i64 a1_6) := (blk_cell BK215.out 6).trans rfl; have hcz15_7 : w14.cell? ⟨gb215, 7, none⟩ = some (.int .i64 a1_7) := (blk_cell BK215.out 7).trans rfl; have hcz15_8 : w14.cell? ⟨gb215, 8, none⟩ = some (.int .i64 a1_8) := (blk_cell BK215.out 8).trans rfl; have hfz15_0 := blk_frozen BK215.out 0; have hfz15_1 := blk_frozen BK215.out 1; have hfz15_2 := blk_frozen BK215.out 2; have hfz15_3 := blk_frozen BK215.out 3; have hfz15_4 := blk_frozen BK215.out 4; have hfz15_5 := blk_frozen BK215.out 5; have hfz15_6 := blk_frozen BK215.out 6; have hfz15_7 := blk_frozen BK215.out 7; have hfz15_8 := blk_frozen BK215.out 8) | (go_at_call 26; (with_reducible refine (weather_Add.calls _ _ l0 a1_0 a1_1 a1_2 a1_3 a1_4 a1_5 a1_6 a1_7 a1_8 t217 t220 _ ?side1 ?side2 A11.out).mono ?_); (case side1 => repeat (first | exact (Kd.C_below HR0.out HB.out) | (with_reducible refine Kd.C_alloc ?_ _) | (with_reducible refine Kd.C_drewN ?_ _) | (with_reducible refine Kd.C_drew ?_))); (case side2 => exact HC0.out); rintro e w16 ⟨v218, rfl, ho0, hb⟩; have n0_ := Aside0.mk (Kd.R_lower (Kd.R_newB ho0 (g := gb215) (o := .cells #[.int .i64 a1_0, .int .i64 a1_1, .int .i64 a1_2, .int .i64 a1_3, .int .i64 a1_4, .int .i64 a1_5, .int .i64 a1_6, .int .i64 a1_7, .int .i64 a1_8] 41 (0, 0)) (zk BK215.out)) (below_size (by repeat (first | (with_reducible first | exact HB.out | apply below_alloc | apply pw_below_drewN | apply below_drew1 | refine below_set ?_ GE215.out) | exact HB.out)))); have n1_ := Aside0.mk (zb BK215.out hb); have n2_ := Aside0.mk (below_step (by repeat (first | (with_reducible first | exact HB.out | apply below_alloc | apply pw_below_drewN | apply below_drew1 | refine below_set ?_ GE215.out) | exact HB.out)) hb); clear BK215; clear HB; have HO219 := n0_; have BK215 := n1_; have HB := n2_; clear n0_ n1_ n2_; (try clear hb); (try clear hb2); (try clear hk); (try clear hi); (try clear ho0))))
   (try simp only [Act.put, List.setIfInBounds_toArray, List.set_cons_zero, List.set_cons_succ])
   go_cut [47] (fun v47 wc => ∃ (kq : Nat) (x47_11 : Bool), v47 = .bool x47_11 ∧ Aside0 (fastilaw27_WeatherTrue.j0 kq l0 a2 a3 a4 t217 x47_11 a1_0 a1_1 a1_2 a1_3 a1_4 a1_5 a1_6 a1_7 a1_8 = some r) ∧ Aside0 (kq ≤ k) ∧ Aside0 (Kd.R k41 41 wc w.heap.size (fun k_ => k_ ≠ gb215) v218 t217) ∧ Aside0 (wc.heap[gb215]? = some (.cells #[.int .i64 a1_0, .int .i64 a1_1, .int .i64 a1_2, .int .i64 a1_3, .int .i64 a1_4, .int .i64 a1_5, .int .i64 a1_6, .int .i64 a1_7, .int .i64 a1_8] 41 (0, 0))) ∧ Aside0 (Below w.heap.size w wc))
   case first =>
    have H := HC12.out
    clear HC12
    by_cases c17 : t220 = 0
    ·rw [if_pos c17] at H
     have c17b0 : (t220 == 0) = true := beq_iff_eq.mpr c17
     have c17b1 : (t220 != 0) = false := bne_eq_false_iff_eq.mpr c17
     clear c17
     (first | rw [c17b0] | (simp only [i64_w, i32_w]; rw [c17b0]) | skip)
     replace H := Option.bind_eq_some_iff.mp H
     obtain ⟨t221, A180, H⟩ := H
     replace H : (if t221 = true then ((fastilaw27_holds.f a1_7 a1_8 a4).bind fun t222 => (fastilaw27_WeatherTrue.j0 k l0 a2 a3 a4 t217 (!t222) a1_0 a1_1 a1_2 a1_3 a1_4 a1_5 a1_6 a1_7 a1_8)) else (fastilaw27_WeatherTrue.j0 k l0 a2 a3 a4 t217 true a1_0 a1_1 a1_2 a1_3 a1_4 a1_5 a1_6 a1_7 a1_8)) = some r := H
     have A18 := Aside0.mk A180
     clear A180
     by_cases c19 : t221 = true
     ·subst c19
      have H1 : ((fastilaw27_holds.f a1_7 a1_8 a4).bind fun t222 => (fastilaw27_WeatherTrue.j0 k l0 a2 a3 a4 t217 (!t222) a1_0 a1_1 a1_2 a1_3 a1_4 a1_5 a1_6 a1_7 a1_8)) = some r := by rw [if_pos rfl] at H; exact H
      clear H
      have H := H1
      clear H1
      replace H := Option.bind_eq_some_iff.mp H
      obtain ⟨t222, A200, H⟩ := H
      replace H : (fastilaw27_WeatherTrue.j0 k l0 a2 a3 a4 t217 (!t222) a1_0 a1_1 a1_2 a1_3 a1_4 a1_5 a1_6 a1_7 a1_8) = some r := H
      have A20 := Aside0.mk A200
      clear A200
      have H' := Aside0.mk H
      clear H
      have hcz21_0 : w16.cell? ⟨gb215, 0, none⟩ = some (.int .i64 a1_0) := (blk_cell BK215.out 0).trans rfl
      have hcz21_1 : w16.cell? ⟨gb215, 1, none⟩ = some (.int .i64 a1_1) := (blk_cell BK215.out 1).trans rfl
      have hcz21_2 : w16.cell? ⟨gb215, 2, none⟩ = some (.int .i64 a1_2) := (blk_cell BK215.out 2).trans rfl
      have hcz21_3 : w16.cell? ⟨gb215, 3, none⟩ = some (.int .i64 a1_3) := (blk_cell BK215.out 3).trans rfl
      have hcz21_4 : w16.cell? ⟨gb215, 4, none⟩ = some (.int .i64 a1_4) := (blk_cell BK215.out 4).trans rfl
      have hcz21_5 : w16.cell? ⟨gb215, 5, none⟩ = some (.int .i64 a1_5) := (blk_cell BK215.out 5).trans rfl
      have hcz21_6 : w16.cell? ⟨gb215, 6, none⟩ = some (.int .i64 a1_6) := (blk_cell BK215.out 6).trans rfl
      have hcz21_7 : w16.cell? ⟨gb215, 7, none⟩ = some (.int .i64 a1_7) := (blk_cell BK215.out 7).trans rfl
      have hcz21_8 : w16.cell? ⟨gb215, 8, none⟩ = some (.int .i64 a1_8) := (blk_cell BK215.out 8).trans rfl
      have hfz21_0 := blk_frozen BK215.out 0
      have hfz21_1 := blk_frozen BK215.out 1
      have hfz21_2 := blk_frozen BK215.out 2
      have hfz21_3 := blk_frozen BK215.out 3
      have hfz21_4 := blk_frozen BK215.out 4
      have hfz21_5 := blk_frozen BK215.out 5
      have hfz21_6 := blk_frozen BK215.out 6
      have hfz21_7 := blk_frozen BK215.out 7
      have hfz21_8 := blk_frozen BK215.out 8
      go_wp2_with (first | (go_at_call 31; (with_reducible refine (fastilaw27_holds.calls a1_5 a1_6 a3 true _ A18.out).mono ?_); rintro e w22 ⟨rfl, hb⟩; have n0_ := Aside0.mk (Kd.R_below (by (with_reducible repeat (first | apply Kd.R_alloc | apply Kd.R_drewN | apply Kd.R_drew)); exact HO219.out) hb); have n1_ := Aside0.mk (zb BK215.out hb); have n2_ := Aside0.mk (below_step (by repeat (first | (with_reducible first | exact HB.out | apply below_alloc | apply pw_below_drewN | apply below_drew1 | refine below_set ?_ GE215.out) | exact HB.out)) hb); clear HO219; clear BK215; clear HB; have HO219 := n0_; have BK215 := n1_; have HB := n2_; clear n0_ n1_ n2_; (try clear hb); (try clear hb2); (try clear hk); (try clear hi); have hcz23_0 : w22.cell? ⟨gb215, 0, none⟩ = some (.int .i64 a1_0) := (blk_cell BK215.out 0).trans rfl; have hcz23_1 : w22.cell? ⟨gb215, 1, none⟩ = some (.int .i64 a1_1) := (blk_cell BK215.out 1).trans rfl; have hcz23_2 : w22.cell? ⟨gb215, 2, none⟩ = some (.int .i64 a1_2) := (blk_cell BK215.out 2).trans rfl; have hcz23_3 : w22.cell? ⟨gb215, 3, none⟩ = some (.int .i64 a1_3) := (blk_cell BK215.out 3).trans rfl; have hcz23_4 : w22.cell? ⟨gb215, 4, none⟩ = some (.int .i64 a1_4) := (blk_cell BK215.out 4).trans rfl; have hcz23_5 : w22.cell? ⟨gb215, 5, none⟩ = some (.int .i64 a1_5) := (blk_cell BK215.out 5).trans rfl; have hcz23_6 : w22.cell? ⟨gb215, 6, none⟩ = some (.int .i64 a1_6) := (blk_cell BK215.out 6).trans rfl; have hcz23_7 : w22.cell? ⟨gb215, 7, none⟩ = some (.int .i64 a1_7) := (blk_cell BK215.out 7).trans rfl; have hcz23_8 : w22.cell? ⟨gb215, 8, none⟩ = some (.int .i64 a1_8) := (blk_cell BK215.out 8).trans rfl; have hfz23_0 := blk_frozen BK215.out 0; have hfz23_1 := blk_frozen BK215.out 1; have hfz23_2 := blk_frozen BK215.out 2; have hfz23_3 := blk_frozen BK215.out 3; have hfz23_4 := blk_frozen BK215.out 4; have hfz23_5 := blk_frozen BK215.out 5; have hfz23_6 := blk_frozen BK215.out 6; have hfz23_7 := blk_frozen BK215.out 7; have hfz23_8 := blk_frozen BK215.out 8) | (go_at_call 31; (with_reducible refine (fastilaw27_holds.calls a1_7 a1_8 a4 t222 _ A20.out).mono ?_); rintro e w24 ⟨rfl, hb⟩; have n0_ := Aside0.mk (Kd.R_below (by (with_reducible repeat (first | apply Kd.R_alloc | apply Kd.R_drewN | apply Kd.R_drew)); exact HO219.out) hb); have n1_ := Aside0.mk (zb BK215.out hb); have n2_ := Aside0.mk (below_step (by repeat (first | (with_reducible first | exact HB.out | apply below_alloc | apply pw_below_drewN | apply below_drew1 | refine below_set ?_ GE215.out) | exact HB.out)) hb); clear HO219; clear BK215; clear HB; have HO219 := n0_; have BK215 := n1_; have HB := n2_; clear n0_ n1_ n2_; (try clear hb); (try clear hb2); (try clear hk); (try clear hi)))
      repeat (go_quiet (first | (go_at_call 31; (with_reducible refine (fastilaw27_holds.calls a1_5 a1_6 a3 true _ A18.out).mono ?_); rintro e w22 ⟨rfl, hb⟩; have n0_ := Aside0.mk (Kd.R_below (by (with_reducible repeat (first | apply Kd.R_alloc | apply Kd.R_drewN | apply Kd.R_drew)); exact HO219.out) hb); have n1_ := Aside0.mk (zb BK215.out hb); have n2_ := Aside0.mk (below_step (by repeat (first | (with_reducible first | exact HB.out | apply below_alloc | apply pw_below_drewN | apply below_drew1 | refine below_set ?_ GE215.out) | exact HB.out)) hb); clear HO219; clear BK215; clear HB; have HO219 := n0_; have BK215 := n1_; have HB := n2_; clear n0_ n1_ n2_; (try clear hb); (try clear hb2); (try clear hk); (try clear hi); have hcz23_0 : w22.cell? ⟨gb215, 0, none⟩ = some (.int .i64 a1_0) := (blk_cell BK215.out 0).trans rfl; have hcz23_1 : w22.cell? ⟨gb215, 1, none⟩ = some (.int .i64 a1_1) := (blk_cell BK215.out 1).trans rfl; have hcz23_2 : w22.cell? ⟨gb215, 2, none⟩ = some (.int .i64 a1_2) := (blk_cell BK215.out 2).trans rfl; have hcz23_3 : w22.cell? ⟨gb215, 3, none⟩ = some (.int .i64 a1_3) := (blk_cell BK215.out 3).trans rfl; have hcz23_4 : w22.cell? ⟨gb215, 4, none⟩ = some (.int .i64 a1_4) := (blk_cell BK215.out 4).trans rfl; have hcz23_5 : w22.cell? ⟨gb215, 5, none⟩ = some (.int .i64 a1_5) := (blk_cell BK215.out 5).trans rfl; have hcz23_6 : w22.cell? ⟨gb215, 6, none⟩ = some (.int .i64 a1_6) := (blk_cell BK215.out 6).trans rfl; have hcz23_7 : w22.cell? ⟨gb215, 7, none⟩ = some (.int .i64 a1_7) := (blk_cell BK215.out 7).trans rfl; have hcz23_8 : w22.cell? ⟨gb215, 8, none⟩ = some (.int .i64 a1_8) := (blk_cell BK215.out 8).trans rfl; have hfz23_0 := blk_frozen BK215.out 0; have hfz23_1 := blk_frozen BK215.out 1; have hfz23_2 := blk_frozen BK215.out 2; have hfz23_3 := blk_frozen BK215.out 3; have hfz23_4 := blk_frozen BK215.out 4; have hfz23_5 := blk_frozen BK215.out 5; have hfz23_6 := blk_frozen BK215.out 6; have hfz23_7 := blk_frozen BK215.out 7; have hfz23_8 := blk_frozen BK215.out 8) | (go_at_call 31; (with_reducible refine (fastilaw27_holds.calls a1_7 a1_8 a4 t222 _ A20.out).mono ?_); rintro e w24 ⟨rfl, hb⟩; have n0_ := Aside0.mk (Kd.R_below (by (with_reducible repeat (first | apply Kd.R_alloc | apply Kd.R_drewN | apply Kd.R_drew)); exact HO219.out) hb); have n1_ := Aside0.mk (zb BK215.out hb); have n2_ := Aside0.mk (below_step (by repeat (first | (with_reducible first | exact HB.out | apply below_alloc | apply pw_below_drewN | apply below_drew1 | refine below_set ?_ GE215.out) | exact HB.out)) hb); clear HO219; clear BK215; clear HB; have HO219 := n0_; have BK215 := n1_; have HB := n2_; clear n0_ n1_ n2_; (try clear hb); (try clear hb2); (try clear hk); (try clear hi))); try go_wp2_with (first | (go_at_call 31; (with_reducible refine (fastilaw27_holds.calls a1_5 a1_6 a3 true _ A18.out).mono ?_); rintro e w22 ⟨rfl, hb⟩; have n0_ := Aside0.mk (Kd.R_below (by (with_reducible repeat (first | apply Kd.R_alloc | apply Kd.R_drewN | apply Kd.R_drew)); exact HO219.out) hb); have n1_ := Aside0.mk (zb BK215.out hb); have n2_ := Aside0.mk (below_step (by repeat (first | (with_reducible first | exact HB.out | apply below_alloc | apply pw_below_drewN | apply below_drew1 | refine below_set ?_ GE215.out) | exact HB.out)) hb); clear HO219; clear BK215; clear HB; have HO219 := n0_; have BK215 := n1_; have HB := n2_; clear n0_ n1_ n2_; (try clear hb); (try clear hb2); (try clear hk); (try clear hi); have hcz23_0 : w22.cell? ⟨gb215, 0, none⟩ = some (.int .i64 a1_0) := (blk_cell BK215.out 0).trans rfl; have hcz23_1 : w22.cell? ⟨gb215, 1, none⟩ = some (.int .i64 a1_1) := (blk_cell BK215.out 1).trans rfl; have hcz23_2 : w22.cell? ⟨gb215, 2, none⟩ = some (.int .i64 a1_2) := (blk_cell BK215.out 2).trans rfl; have hcz23_3 : w22.cell? ⟨gb215, 3, none⟩ = some (.int .i64 a1_3) := (blk_cell BK215.out 3).trans rfl; have hcz23_4 : w22.cell? ⟨gb215, 4, none⟩ = some (.int .i64 a1_4) := (blk_cell BK215.out 4).trans rfl; have hcz23_5 : w22.cell? ⟨gb215, 5, none⟩ = some (.int .i64 a1_5) := (blk_cell BK215.out 5).trans rfl; have hcz23_6 : w22.cell? ⟨gb215, 6, none⟩ = some (.int .i64 a1_6) := (blk_cell BK215.out 6).trans rfl; have hcz23_7 : w22.cell? ⟨gb215, 7, none⟩ = some (.int .i64 a1_7) := (blk_cell BK215.out 7).trans rfl; have hcz23_8 : w22.cell? ⟨gb215, 8, none⟩ = some (.int .i64 a1_8) := (blk_cell BK215.out 8).trans rfl; have hfz23_0 := blk_frozen BK215.out 0; have hfz23_1 := blk_frozen BK215.out 1; have hfz23_2 := blk_frozen BK215.out 2; have hfz23_3 := blk_frozen BK215.out 3; have hfz23_4 := blk_frozen BK215.out 4; have hfz23_5 := blk_frozen BK215.out 5; have hfz23_6 := blk_frozen BK215.out 6; have hfz23_7 := blk_frozen BK215.out 7; have hfz23_8 := blk_frozen BK215.out 8) | (go_at_call 31; (with_reducible refine (fastilaw27_holds.calls a1_7 a1_8 a4 t222 _ A20.out).mono ?_); rintro e w24 ⟨rfl, hb⟩; have n0_ := Aside0.mk (Kd.R_below (by (with_reducible repeat (first | apply Kd.R_alloc | apply Kd.R_drewN | apply Kd.R_drew)); exact HO219.out) hb); have n1_ := Aside0.mk (zb BK215.out hb); have n2_ := Aside0.mk (below_step (by repeat (first | (with_reducible first | exact HB.out | apply below_alloc | apply pw_below_drewN | apply below_drew1 | refine below_set ?_ GE215.out) | exact HB.out)) hb); clear HO219; clear BK215; clear HB; have HO219 := n0_; have BK215 := n1_; have HB := n2_; clear n0_ n1_ n2_; (try clear hb); (try clear hb2); (try clear hk); (try clear hi))))
      go_meet
      case rel => exact ⟨_, (!t222), (by first | rfl | (simp; done) | (simp [*]; done)), H', ⟨by first | omega | exact Nat.le_refl _⟩, ⟨by (with_reducible repeat (first | apply Kd.R_alloc | apply Kd.R_drewN | apply Kd.R_drew)); exact Kd.R_mono HO219.out (fun _ hk => hk.2)⟩, ⟨zk BK215.out⟩, ⟨by repeat (first | (with_reducible first | exact HB.out | apply below_alloc | apply pw_below_drewN | apply below_drew1 | refine below_set ?_ GE215.out) | exact HB.out)⟩⟩
     ·replace c19 := Bool.eq_false_iff.mpr c19
      subst c19
      have H1 : (fastilaw27_WeatherTrue.j0 k l0 a2 a3 a4 t217 true a1_0 a1_1 a1_2 a1_3 a1_4 a1_5 a1_6 a1_7 a1_8) = some r := by rw [if_neg (show ¬ (false = true) by decide)] at H; exact H
      clear H
      have H := H1
      clear H1
      have H' := Aside0.mk H
      clear H
      have hcz25_0 : w16.cell? ⟨gb215, 0, none⟩ = some (.int .i64 a1_0) := (blk_cell BK215.out 0).trans rfl
      have hcz25_1 : w16.cell? ⟨gb215, 1, none⟩ = some (.int .i64 a1_1) := (blk_cell BK215.out 1).trans rfl
      have hcz25_2 : w16.cell? ⟨gb215, 2, none⟩ = some (.int .i64 a1_2) := (blk_cell BK215.out 2).trans rfl
      have hcz25_3 : w16.cell? ⟨gb215, 3, none⟩ = some (.int .i64 a1_3) := (blk_cell BK215.out 3).trans rfl
      have hcz25_4 : w16.cell? ⟨gb215, 4, none⟩ = some (.int .i64 a1_4) := (blk_cell BK215.out 4).trans rfl
      have hcz25_5 : w16.cell? ⟨gb215, 5, none⟩ = some (.int .i64 a1_5) := (blk_cell BK215.out 5).trans rfl
      have hcz25_6 : w16.cell? ⟨gb215, 6, none⟩ = some (.int .i64 a1_6) := (blk_cell BK215.out 6).trans rfl
      have hcz25_7 : w16.cell? ⟨gb215, 7, none⟩ = some (.int .i64 a1_7) := (blk_cell BK215.out 7).trans rfl
      have hcz25_8 : w16.cell? ⟨gb215, 8, none⟩ = some (.int .i64 a1_8) := (blk_cell BK215.out 8).trans rfl
      have hfz25_0 := blk_frozen BK215.out 0
      have hfz25_1 := blk_frozen BK215.out 1
      have hfz25_2 := blk_frozen BK215.out 2
      have hfz25_3 := blk_frozen BK215.out 3
      have hfz25_4 := blk_frozen BK215.out 4
      have hfz25_5 := blk_frozen BK215.out 5
      have hfz25_6 := blk_frozen BK215.out 6
      have hfz25_7 := blk_frozen BK215.out 7
      have hfz25_8 := blk_frozen BK215.out 8
      go_wp2_with (first | (go_at_call 31; (with_reducible refine (fastilaw27_holds.calls a1_5 a1_6 a3 false _ A18.out).mono ?_); rintro e w26 ⟨rfl, hb⟩; have n0_ := Aside0.mk (Kd.R_below (by (with_reducible repeat (first | apply Kd.R_alloc | apply Kd.R_drewN | apply Kd.R_drew)); exact HO219.out) hb); have n1_ := Aside0.mk (zb BK215.out hb); have n2_ := Aside0.mk (below_step (by repeat (first | (with_reducible first | exact HB.out | apply below_alloc | apply pw_below_drewN | apply below_drew1 | refine below_set ?_ GE215.out) | exact HB.out)) hb); clear HO219; clear BK215; clear HB; have HO219 := n0_; have BK215 := n1_; have HB := n2_; clear n0_ n1_ n2_; (try clear hb); (try clear hb2); (try clear hk); (try clear hi)))
      repeat (go_quiet (first | (go_at_call 31; (with_reducible refine (fastilaw27_holds.calls a1_5 a1_6 a3 false _ A18.out).mono ?_); rintro e w26 ⟨rfl, hb⟩; have n0_ := Aside0.mk (Kd.R_below (by (with_reducible repeat (first | apply Kd.R_alloc | apply Kd.R_drewN | apply Kd.R_drew)); exact HO219.out) hb); have n1_ := Aside0.mk (zb BK215.out hb); have n2_ := Aside0.mk (below_step (by repeat (first | (with_reducible first | exact HB.out | apply below_alloc | apply pw_below_drewN | apply below_drew1 | refine below_set ?_ GE215.out) | exact HB.out)) hb); clear HO219; clear BK215; clear HB; have HO219 := n0_; have BK215 := n1_; have HB := n2_; clear n0_ n1_ n2_; (try clear hb); (try clear hb2); (try clear hk); (try clear hi))); try go_wp2_with (first | (go_at_call 31; (with_reducible refine (fastilaw27_holds.calls a1_5 a1_6 a3 false _ A18.out).mono ?_); rintro e w26 ⟨rfl, hb⟩; have n0_ := Aside0.mk (Kd.R_below (by (with_reducible repeat (first | apply Kd.R_alloc | apply Kd.R_drewN | apply Kd.R_drew)); exact HO219.out) hb); have n1_ := Aside0.mk (zb BK215.out hb); have n2_ := Aside0.mk (below_step (by repeat (first | (with_reducible first | exact HB.out | apply below_alloc | apply pw_below_drewN | apply below_drew1 | refine below_set ?_ GE215.out) | exact HB.out)) hb); clear HO219; clear BK215; clear HB; have HO219 := n0_; have BK215 := n1_; have HB := n2_; clear n0_ n1_ n2_; (try clear hb); (try clear hb2); (try clear hk); (try clear hi))))
      go_meet
      case rel => exact ⟨_, (true), (by first | rfl | (simp; done) | (simp [*]; done)), H', ⟨by first | omega | exact Nat.le_refl _⟩, ⟨by (with_reducible repeat (first | apply Kd.R_alloc | apply Kd.R_drewN | apply Kd.R_drew)); exact Kd.R_mono HO219.out (fun _ hk => hk.2)⟩, ⟨zk BK215.out⟩, ⟨by repeat (first | (with_reducible first | exact HB.out | apply below_alloc | apply pw_below_drewN | apply below_drew1 | refine below_set ?_ GE215.out) | exact HB.out)⟩⟩
    ·rw [if_neg c17] at H
     have c17b0 : (t220 == 0) = false := beq_eq_false_iff_ne.mpr c17
     have c17b1 : (t220 != 0) = true := bne_iff_ne.mpr c17
     (first | rw [c17b0] | (simp only [i64_w, i32_w]; rw [c17b0]) | skip)
     have H' := Aside0.mk H
     clear H
     go_wp2
     repeat (go_quiet (fail); try go_wp2)
     go_meet
     case rel => exact ⟨_, (true), (by first | rfl | (simp; done) | (simp [*]; done)), H', ⟨by first | omega | exact Nat.le_refl _⟩, ⟨by (with_reducible repeat (first | apply Kd.R_alloc | apply Kd.R_drewN | apply Kd.R_drew)); exact Kd.R_mono HO219.out (fun _ hk => hk.2)⟩, ⟨zk BK215.out⟩, ⟨by repeat (first | (with_reducible first | exact HB.out | apply below_alloc | apply pw_below_drewN | apply below_drew1 | refine below_set ?_ GE215.out) | exact HB.out)⟩⟩
   case rest =>
    clear HC12
    try clear c1
    try clear p2
    try clear c7
    try clear c8
    try clear c8b0
    try clear c8b1
    try clear c17
    try clear c17b0
    try clear c17b1
    try clear c19
    try clear hcz15_0
    try clear hcz15_1
    try clear hcz15_2
    try clear hcz15_3
    try clear hcz15_4
    try clear hcz15_5
    try clear hcz15_6
    try clear hcz15_7
    try clear hcz15_8
    try clear hcz21_0
    try clear hcz21_1
    try clear hcz21_2
    try clear hcz21_3
    try clear hcz21_4
    try clear hcz21_5
    try clear hcz21_6
    try clear hcz21_7
    try clear hcz21_8
    try clear hcz23_0
    try clear hcz23_1
    try clear hcz23_2
    try clear hcz23_3
    try clear hcz23_4
    try clear hcz23_5
    try clear hcz23_6
    try clear hcz23_7
    try clear hcz23_8
    try clear hcz25_0
    try clear hcz25_1
    try clear hcz25_2
    try clear hcz25_3
    try clear hcz25_4
    try clear hcz25_5
    try clear hcz25_6
    try clear hcz25_7
    try clear hcz25_8
    try clear hfz15_0
    try clear hfz15_1
    try clear hfz15_2
    try clear hfz15_3
    try clear hfz15_4
    try clear hfz15_5
    try clear hfz15_6
    try clear hfz15_7
    try clear hfz15_8
    try clear hfz21_0
    try clear hfz21_1
    try clear hfz21_2
    try clear hfz21_3
    try clear hfz21_4
    try clear hfz21_5
    try clear hfz21_6
    try clear hfz21_7
    try clear hfz21_8
    try clear hfz23_0
    try clear hfz23_1
    try clear hfz23_2
    try clear hfz23_3
    try clear hfz23_4
    try clear hfz23_5
    try clear hfz23_6
    try clear hfz23_7
    try clear hfz23_8
    try clear hfz25_0
    try clear hfz25_1
    try clear hfz25_2
    try clear hfz25_3
    try clear hfz25_4
    try clear hfz25_5
    try clear hfz25_6
    try clear hfz25_7
    try clear hfz25_8
    obtain ⟨kq, x47_11, rfl, HA, HJ11, HO_11, BK215, HB⟩ := hcut
    cases kq with
    | zero => exact absurd HA.out (by simp [fastilaw27_WeatherTrue.j0])
    | succ kj11 =>
     have H := HA.out
     clear HA
     simp only [fastilaw27_WeatherTrue.j0] at H
     by_cases c27 : x47_11 = true
     ·subst c27
      have H1 : (some true) = some r := by rw [if_pos rfl] at H; exact H
      clear H
      have H := H1
      clear H1
      obtain rfl := Option.some.inj H
      go_wp2
      repeat (go_quiet (fail); try go_wp2)
      go_ret
      exact ⟨by first | rfl | (simp [errW_none, errW_some] <;> rfl) | (simp [*, errW_none, errW_some] <;> rfl), by repeat (first | (with_reducible first | exact HB.out | apply below_alloc | apply pw_below_drewN | apply below_drew1 | refine below_set ?_ GE215.out) | exact HB.out)⟩
     ·replace c27 := Bool.eq_false_iff.mpr c27
      subst c27
      have H1 : (fastilaw27_WeatherTrue.l0 kj11 l0 a2 a3 a4 t217 true 0 a1_0 a1_1 a1_2 a1_3 a1_4 a1_5 a1_6 a1_7 a1_8) = some r := by rw [if_neg (show ¬ (false = true) by decide)] at H; exact H
      clear H
      have H := H1
      clear H1
      have H' := Aside0.mk H
      clear H
      go_wp2
      repeat (go_quiet (fail); try go_wp2)
      go_loopg [13, 14] kj11 (fun kq v13 v14 w' => ∃ (x13_2 : Bool) (x14_2 : Int), v13 = .bool x13_2 ∧ v14 = .int .i64 x14_2 ∧ Aside0 (fastilaw27_WeatherTrue.l0 kq l0 a2 a3 a4 t217 x13_2 x14_2 a1_0 a1_1 a1_2 a1_3 a1_4 a1_5 a1_6 a1_7 a1_8 = some r) ∧ Aside0 (kq ≤ kj11) ∧ Aside0 (Kd.R k41 41 w' w.heap.size (fun k_ => k_ ≠ gb215) v218 t217) ∧ Aside0 (w'.heap[gb215]? = some (.cells #[.int .i64 a1_0, .int .i64 a1_1, .int .i64 a1_2, .int .i64 a1_3, .int .i64 a1_4, .int .i64 a1_5, .int .i64 a1_6, .int .i64 a1_7, .int .i64 a1_8] 41 (0, 0))) ∧ Aside0 (Below w.heap.size w w'))
      case atStart => exact ⟨(true), (0), (by first | rfl | (simp; done) | (simp [*]; done)), (by first | rfl | (simp; done) | (simp [*]; done)), H', ⟨Nat.le_refl _⟩, ⟨by (with_reducible repeat (first | apply Kd.R_alloc | apply Kd.R_drewN | apply Kd.R_drew)); exact HO_11.out⟩, ⟨zk BK215.out⟩, ⟨by repeat (first | (with_reducible first | exact HB.out | apply below_alloc | apply pw_below_drewN | apply below_drew1 | refine below_set ?_ GE215.out) | exact HB.out)⟩⟩
      case round =>
       clear H'
       try clear c1
       try clear c2
       try clear p2
       try clear c7
       try clear c8
       try clear c8b0
       try clear c8b1
       try clear c17
       try clear c17b0
       try clear c17b1
       try clear c19
       try clear c27
       try clear hcz15_0
       try clear hcz15_1
       try clear hcz15_2
       try clear hcz15_3
       try clear hcz15_4
       try clear hcz15_5
       try clear hcz15_6
       try clear hcz15_7
       try clear hcz15_8
       try clear hcz21_0
       try clear hcz21_1
       try clear hcz21_2
       try clear hcz21_3
       try clear hcz21_4
       try clear hcz21_5
       try clear hcz21_6
       try clear hcz21_7
       try clear hcz21_8
       try clear hcz23_0
       try clear hcz23_1
       try clear hcz23_2
       try clear hcz23_3
       try clear hcz23_4
       try clear hcz23_5
       try clear hcz23_6
       try clear hcz23_7
       try clear hcz23_8
       try clear hcz25_0
       try clear hcz25_1
       try clear hcz25_2
       try clear hcz25_3
       try clear hcz25_4
       try clear hcz25_5
       try clear hcz25_6
       try clear hcz25_7
       try clear hcz25_8
       try clear hfz15_0
       try clear hfz15_1
       try clear hfz15_2
       try clear hfz15_3
       try clear hfz15_4
       try clear hfz15_5
       try clear hfz15_6
       try clear hfz15_7
       try clear hfz15_8
       try clear hfz21_0
       try clear hfz21_1
       try clear hfz21_2
       try clear hfz21_3
       try clear hfz21_4
       try clear hfz21_5
       try clear hfz21_6
       try clear hfz21_7
       try clear hfz21_8
       try clear hfz23_0
       try clear hfz23_1
       try clear hfz23_2
       try clear hfz23_3
       try clear hfz23_4
       try clear hfz23_5
       try clear hfz23_6
       try clear hfz23_7
       try clear hfz23_8
       try clear hfz25_0
       try clear hfz25_1
       try clear hfz25_2
       try clear hfz25_3
       try clear hfz25_4
       try clear hfz25_5
       try clear hfz25_6
       try clear hfz25_7
       try clear hfz25_8
       try clear p2
       obtain ⟨x13_2, x14_2, rfl, rfl, HA, HK2, HO_11, BK215, HB⟩ := hrel
       cases gk with
       | zero => exact absurd HA.out (by simp [fastilaw27_WeatherTrue.l0])
       | succ k2 =>
        have H := HA.out
        clear HA
        simp only [fastilaw27_WeatherTrue.l0] at H
        by_cases c28 : x14_2 < (l0.length : Int)
        ·rw [if_pos c28] at H
         have c28b0 : decide (x14_2 < (l0.length : Int)) = true := decide_eq_true c28
         clear c28
         have HC29 := Aside0.mk H
         clear H
         go_upto_region 12 with (fail)
         repeat (go_quiet (fail); go_upto_region 12 with (fail))
         go_cut [71] (fun v71 wc => ∃ (kq : Nat) (x71_28 : Bool), v71 = .bool x71_28 ∧ Aside0 (fastilaw27_WeatherTrue.j2 kq l0 a2 a3 a4 t217 x13_2 x14_2 x71_28 a1_0 a1_1 a1_2 a1_3 a1_4 a1_5 a1_6 a1_7 a1_8 = some r) ∧ Aside0 (kq ≤ k2) ∧ Aside0 (Kd.R k41 41 wc w.heap.size (fun k_ => k_ ≠ gb215) v218 t217) ∧ Aside0 (wc.heap[gb215]? = some (.cells #[.int .i64 a1_0, .int .i64 a1_1, .int .i64 a1_2, .int .i64 a1_3, .int .i64 a1_4, .int .i64 a1_5, .int .i64 a1_6, .int .i64 a1_7, .int .i64 a1_8] 41 (0, 0))) ∧ Aside0 (Below w.heap.size w wc))
         case first =>
          have H := HC29.out
          clear HC29
          by_cases c30 : 0 ≤ x14_2
          ·rw [if_pos c30] at H
           have c30b0 : decide (0 ≤ x14_2) = true := decide_eq_true c30
           clear c30
           (first | rw [c30b0] | (simp only [i64_w, i32_w]; rw [c30b0]) | skip)
           by_cases c31 : ((rd_T41 l0 x14_2).f2) = a1_2
           ·rw [if_pos c31] at H
            have c31b0 : (((rd_T41 l0 x14_2).f2) == a1_2) = true := beq_iff_eq.mpr c31
            have c31b1 : (((rd_T41 l0 x14_2).f2) != a1_2) = false := bne_eq_false_iff_eq.mpr c31
            clear c31
            have H' := Aside0.mk H
            clear H
            have p223 : 0 ≤ (x14_2 : Int) := of_decide_eq_true (by first | (with_reducible assumption) | assumption)
            have q223 : x14_2 < (l0.length : Int) := of_decide_eq_true (by first | (with_reducible assumption) | assumption)
            obtain ⟨ad223, e223, hx223_0, hx223_1, hx223_2, hx223_3, hx223_4, hx223_5, hx223_6, hx223_7, hx223_8⟩ := at_T41 HR0.out x14_2 p223 q223
            cases e223
            replace hx223_0 := (HB.out.cell (World.block_lt_of_cell? w _ hx223_0)).trans hx223_0
            replace hx223_1 := (HB.out.cell (World.block_lt_of_cell? w _ hx223_1)).trans hx223_1
            replace hx223_2 := (HB.out.cell (World.block_lt_of_cell? w _ hx223_2)).trans hx223_2
            replace hx223_3 := (HB.out.cell (World.block_lt_of_cell? w _ hx223_3)).trans hx223_3
            replace hx223_4 := (HB.out.cell (World.block_lt_of_cell? w _ hx223_4)).trans hx223_4
            replace hx223_5 := (HB.out.cell (World.block_lt_of_cell? w _ hx223_5)).trans hx223_5
            replace hx223_6 := (HB.out.cell (World.block_lt_of_cell? w _ hx223_6)).trans hx223_6
            replace hx223_7 := (HB.out.cell (World.block_lt_of_cell? w _ hx223_7)).trans hx223_7
            replace hx223_8 := (HB.out.cell (World.block_lt_of_cell? w _ hx223_8)).trans hx223_8
            replace p223 := eq_true p223
            replace q223 := eq_true q223
            have hcz32_0 : wr.cell? ⟨gb215, 0, none⟩ = some (.int .i64 a1_0) := (blk_cell BK215.out 0).trans rfl
            have hcz32_1 : wr.cell? ⟨gb215, 1, none⟩ = some (.int .i64 a1_1) := (blk_cell BK215.out 1).trans rfl
            have hcz32_2 : wr.cell? ⟨gb215, 2, none⟩ = some (.int .i64 a1_2) := (blk_cell BK215.out 2).trans rfl
            have hcz32_3 : wr.cell? ⟨gb215, 3, none⟩ = some (.int .i64 a1_3) := (blk_cell BK215.out 3).trans rfl
            have hcz32_4 : wr.cell? ⟨gb215, 4, none⟩ = some (.int .i64 a1_4) := (blk_cell BK215.out 4).trans rfl
            have hcz32_5 : wr.cell? ⟨gb215, 5, none⟩ = some (.int .i64 a1_5) := (blk_cell BK215.out 5).trans rfl
            have hcz32_6 : wr.cell? ⟨gb215, 6, none⟩ = some (.int .i64 a1_6) := (blk_cell BK215.out 6).trans rfl
            have hcz32_7 : wr.cell? ⟨gb215, 7, none⟩ = some (.int .i64 a1_7) := (blk_cell BK215.out 7).trans rfl
            have hcz32_8 : wr.cell? ⟨gb215, 8, none⟩ = some (.int .i64 a1_8) := (blk_cell BK215.out 8).trans rfl
            have hfz32_0 := blk_frozen BK215.out 0
            have hfz32_1 := blk_frozen BK215.out 1
            have hfz32_2 := blk_frozen BK215.out 2
            have hfz32_3 := blk_frozen BK215.out 3
            have hfz32_4 := blk_frozen BK215.out 4
            have hfz32_5 := blk_frozen BK215.out 5
            have hfz32_6 := blk_frozen BK215.out 6
            have hfz32_7 := blk_frozen BK215.out 7
            have hfz32_8 := blk_frozen BK215.out 8
            have p224 : 0 ≤ (x14_2 : Int) := of_decide_eq_true (by first | (with_reducible assumption) | assumption)
            have q224 : x14_2 < (l0.length : Int) := of_decide_eq_true (by first | (with_reducible assumption) | assumption)
            obtain ⟨ad224, e224, hx224_0, hx224_1, hx224_2, hx224_3, hx224_4, hx224_5, hx224_6, hx224_7, hx224_8⟩ := at_T41 HR0.out x14_2 p224 q224
            obtain rfl : ad223 = ad224 := (by injection e224)
            replace hx224_0 := (HB.out.cell (World.block_lt_of_cell? w _ hx224_0)).trans hx224_0
            replace hx224_1 := (HB.out.cell (World.block_lt_of_cell? w _ hx224_1)).trans hx224_1
            replace hx224_2 := (HB.out.cell (World.block_lt_of_cell? w _ hx224_2)).trans hx224_2
            replace hx224_3 := (HB.out.cell (World.block_lt_of_cell? w _ hx224_3)).trans hx224_3
            replace hx224_4 := (HB.out.cell (World.block_lt_of_cell? w _ hx224_4)).trans hx224_4
            replace hx224_5 := (HB.out.cell (World.block_lt_of_cell? w _ hx224_5)).trans hx224_5
            replace hx224_6 := (HB.out.cell (World.block_lt_of_cell? w _ hx224_6)).trans hx224_6
            replace hx224_7 := (HB.out.cell (World.block_lt_of_cell? w _ hx224_7)).trans hx224_7
            replace hx224_8 := (HB.out.cell (World.block_lt_of_cell? w _ hx224_8)).trans hx224_8
            replace p224 := eq_true p224
            replace q224 := eq_true q224
            go_wp2
            repeat (go_quiet (fail); try go_wp2)
            go_meet
            case rel => exact ⟨_, ((((rd_T41 l0 x14_2).f3) != a1_3)), (by first | rfl | (simp; done) | (simp [*]; done)), H', ⟨by have := HJ11.out; have := HK2.out; first | omega | exact Nat.le_refl _⟩, ⟨by (with_reducible repeat (first | apply Kd.R_alloc | apply Kd.R_drewN | apply Kd.R_drew)); exact HO_11.out⟩, ⟨zk BK215.out⟩, ⟨by repeat (first | (with_reducible first | exact HB.out | apply below_alloc | apply pw_below_drewN | apply below_drew1 | refine below_set ?_ GE215.out) | exact HB.out)⟩⟩
           ·rw [if_neg c31] at H
            have c31b0 : (((rd_T41 l0 x14_2).f2) == a1_2) = false := beq_eq_false_iff_ne.mpr c31
            have c31b1 : (((rd_T41 l0 x14_2).f2) != a1_2) = true := bne_iff_ne.mpr c31
            have H' := Aside0.mk H
            clear H
            have p223 : 0 ≤ (x14_2 : Int) := of_decide_eq_true (by first | (with_reducible assumption) | assumption)
            have q223 : x14_2 < (l0.length : Int) := of_decide_eq_true (by first | (with_reducible assumption) | assumption)
            obtain ⟨ad223, e223, hx223_0, hx223_1, hx223_2, hx223_3, hx223_4, hx223_5, hx223_6, hx223_7, hx223_8⟩ := at_T41 HR0.out x14_2 p223 q223
            cases e223
            replace hx223_0 := (HB.out.cell (World.block_lt_of_cell? w _ hx223_0)).trans hx223_0
            replace hx223_1 := (HB.out.cell (World.block_lt_of_cell? w _ hx223_1)).trans hx223_1
            replace hx223_2 := (HB.out.cell (World.block_lt_of_cell? w _ hx223_2)).trans hx223_2
            replace hx223_3 := (HB.out.cell (World.block_lt_of_cell? w _ hx223_3)).trans hx223_3
            replace hx223_4 := (HB.out.cell (World.block_lt_of_cell? w _ hx223_4)).trans hx223_4
            replace hx223_5 := (HB.out.cell (World.block_lt_of_cell? w _ hx223_5)).trans hx223_5
            replace hx223_6 := (HB.out.cell (World.block_lt_of_cell? w _ hx223_6)).trans hx223_6
            replace hx223_7 := (HB.out.cell (World.block_lt_of_cell? w _ hx223_7)).trans hx223_7
            replace hx223_8 := (HB.out.cell (World.block_lt_of_cell? w _ hx223_8)).trans hx223_8
            replace p223 := eq_true p223
            replace q223 := eq_true q223
            have hcz33_0 : wr.cell? ⟨gb215, 0, none⟩ = some (.int .i64 a1_0) := (blk_cell BK215.out 0).trans rfl
            have hcz33_1 : wr.cell? ⟨gb215, 1, none⟩ = some (.int .i64 a1_1) := (blk_cell BK215.out 1).trans rfl
            have hcz33_2 : wr.cell? ⟨gb215, 2, none⟩ = some (.int .i64 a1_2) := (blk_cell BK215.out 2).trans rfl
            have hcz33_3 : wr.cell? ⟨gb215, 3, none⟩ = some (.int .i64 a1_3) := (blk_cell BK215.out 3).trans rfl
            have hcz33_4 : wr.cell? ⟨gb215, 4, none⟩ = some (.int .i64 a1_4) := (blk_cell BK215.out 4).trans rfl
            have hcz33_5 : wr.cell? ⟨gb215, 5, none⟩ = some (.int .i64 a1_5) := (blk_cell BK215.out 5).trans rfl
            have hcz33_6 : wr.cell? ⟨gb215, 6, none⟩ = some (.int .i64 a1_6) := (blk_cell BK215.out 6).trans rfl
            have hcz33_7 : wr.cell? ⟨gb215, 7, none⟩ = some (.int .i64 a1_7) := (blk_cell BK215.out 7).trans rfl
            have hcz33_8 : wr.cell? ⟨gb215, 8, none⟩ = some (.int .i64 a1_8) := (blk_cell BK215.out 8).trans rfl
            have hfz33_0 := blk_frozen BK215.out 0
            have hfz33_1 := blk_frozen BK215.out 1
            have hfz33_2 := blk_frozen BK215.out 2
            have hfz33_3 := blk_frozen BK215.out 3
            have hfz33_4 := blk_frozen BK215.out 4
            have hfz33_5 := blk_frozen BK215.out 5
            have hfz33_6 := blk_frozen BK215.out 6
            have hfz33_7 := blk_frozen BK215.out 7
            have hfz33_8 := blk_frozen BK215.out 8
            go_wp2
            repeat (go_quiet (fail); try go_wp2)
            go_meet
            case rel => exact ⟨_, (true), (by first | rfl | (simp; done) | (simp [*]; done)), H', ⟨by have := HJ11.out; have := HK2.out; first | omega | exact Nat.le_refl _⟩, ⟨by (with_reducible repeat (first | apply Kd.R_alloc | apply Kd.R_drewN | apply Kd.R_drew)); exact HO_11.out⟩, ⟨zk BK215.out⟩, ⟨by repeat (first | (with_reducible first | exact HB.out | apply below_alloc | apply pw_below_drewN | apply below_drew1 | refine below_set ?_ GE215.out) | exact HB.out)⟩⟩
          ·rw [if_neg c30] at H
           exact absurd H (by simp)
         case rest =>
          clear HC29
          try clear c1
          try clear c2
          try clear p2
          try clear q2
          try clear hx2
          try clear c3
          try clear c7
          try clear c8
          try clear c8b0
          try clear c8b1
          try clear c17
          try clear c17b0
          try clear c17b1
          try clear c19
          try clear p22
          try clear q22
          try clear hx22
          try clear c27
          try clear c28
          try clear c28b0
          try clear c30
          try clear c30b0
          try clear c31
          try clear c31b0
          try clear c31b1
          try clear hcz15_0
          try clear hcz15_1
          try clear hcz15_2
          try clear hcz15_3
          try clear hcz15_4
          try clear hcz15_5
          try clear hcz15_6
          try clear hcz15_7
          try clear hcz15_8
          try clear hcz21_0
          try clear hcz21_1
          try clear hcz21_2
          try clear hcz21_3
          try clear hcz21_4
          try clear hcz21_5
          try clear hcz21_6
          try clear hcz21_7
          try clear hcz21_8
          try clear hcz23_0
          try clear hcz23_1
          try clear hcz23_2
          try clear hcz23_3
          try clear hcz23_4
          try clear hcz23_5
          try clear hcz23_6
          try clear hcz23_7
          try clear hcz23_8
          try clear hcz25_0
          try clear hcz25_1
          try clear hcz25_2
          try clear hcz25_3
          try clear hcz25_4
          try clear hcz25_5
          try clear hcz25_6
          try clear hcz25_7
          try clear hcz25_8
          try clear hcz32_0
          try clear hcz32_1
          try clear hcz32_2
          try clear hcz32_3
          try clear hcz32_4
          try clear hcz32_5
          try clear hcz32_6
          try clear hcz32_7
          try clear hcz32_8
          try clear hcz33_0
          try clear hcz33_1
          try clear hcz33_2
          try clear hcz33_3
          try clear hcz33_4
          try clear hcz33_5
          try clear hcz33_6
          try clear hcz33_7
          try clear hcz33_8
          try clear hfz15_0
          try clear hfz15_1
          try clear hfz15_2
          try clear hfz15_3
          try clear hfz15_4
          try clear hfz15_5
          try clear hfz15_6
          try clear hfz15_7
          try clear hfz15_8
          try clear hfz21_0
          try clear hfz21_1
          try clear hfz21_2
          try clear hfz21_3
          try clear hfz21_4
          try clear hfz21_5
          try clear hfz21_6
          try clear hfz21_7
          try clear hfz21_8
          try clear hfz23_0
          try clear hfz23_1
          try clear hfz23_2
          try clear hfz23_3
          try clear hfz23_4
          try clear hfz23_5
          try clear hfz23_6
          try clear hfz23_7
          try clear hfz23_8
          try clear hfz25_0
          try clear hfz25_1
          try clear hfz25_2
          try clear hfz25_3
          try clear hfz25_4
          try clear hfz25_5
          try clear hfz25_6
          try clear hfz25_7
          try clear hfz25_8
          try clear hfz32_0
          try clear hfz32_1
          try clear hfz32_2
          try clear hfz32_3
          try clear hfz32_4
          try clear hfz32_5
          try clear hfz32_6
          try clear hfz32_7
          try clear hfz32_8
          try clear hfz33_0
          try clear hfz33_1
          try clear hfz33_2
          try clear hfz33_3
          try clear hfz33_4
          try clear hfz33_5
          try clear hfz33_6
          try clear hfz33_7
          try clear hfz33_8
          try clear hx223_0
          try clear hx223_1
          try clear hx223_2
          try clear hx223_3
          try clear hx223_4
          try clear hx223_5
          try clear hx223_6
          try clear hx223_7
          try clear hx223_8
          try clear hx224_0
          try clear hx224_1
          try clear hx224_2
          try clear hx224_3
          try clear hx224_4
          try clear hx224_5
          try clear hx224_6
          try clear hx224_7
          try clear hx224_8
          try clear p2
          try clear p223
          try clear p224
          try clear q223
          try clear q224
          obtain ⟨kq, x71_28, rfl, HA, HJ28, HO_11, BK215, HB⟩ := hcut
          cases kq with
          | zero => exact absurd HA.out (by simp [fastilaw27_WeatherTrue.j2])
          | succ kj28 =>
           have H := HA.out
           clear HA
           simp only [fastilaw27_WeatherTrue.j2] at H
           by_cases c34 : x71_28 = true
           ·subst c34
            have H1 : (fastilaw27_WeatherTrue.l0 kj28 l0 a2 a3 a4 t217 x13_2 (wrap64 (x14_2 + 1)) a1_0 a1_1 a1_2 a1_3 a1_4 a1_5 a1_6 a1_7 a1_8) = some r := by rw [if_pos rfl] at H; exact H
            clear H
            have H := H1
            clear H1
            have H' := Aside0.mk H
            clear H
            go_wp2
            repeat (go_quiet (fail); try go_wp2)
            go_roundg kj28
            case measure => have := HJ11.out; have := HK2.out; have := HJ28.out; omega
            case rel => exact ⟨(x13_2), (wrap64 (x14_2 + 1)), (by first | rfl | (simp; done) | (simp [*]; done)), (by first | rfl | (simp; done) | (simp [*]; done)), H', ⟨by have := HJ11.out; have := HK2.out; have := HJ28.out; omega⟩, ⟨by (with_reducible repeat (first | apply Kd.R_alloc | apply Kd.R_drewN | apply Kd.R_drew)); exact HO_11.out⟩, ⟨zk BK215.out⟩, ⟨by repeat (first | (with_reducible first | exact HB.out | apply below_alloc | apply pw_below_drewN | apply below_drew1 | refine below_set ?_ GE215.out) | exact HB.out)⟩⟩
           ·replace c34 := Bool.eq_false_iff.mpr c34
            subst c34
            have H1 : (if 0 ≤ x14_2 then (if x14_2 < (l0.length : Int) then ((fastilaw27_holds.f ((rd_T41 l0 x14_2).f5.f0) ((rd_T41 l0 x14_2).f5.f1) a3).bind fun t226 => (if t226 = true then ((fastilaw27_holds.f ((rd_T41 l0 x14_2).f6.f0) ((rd_T41 l0 x14_2).f6.f1) a4).bind fun t228 => (if t228 = true then (if x13_2 = true then (fastilaw27_WeatherTrue.l0 kj28 l0 a2 a3 a4 t217 (((rd_T41 l0 x14_2).f1) != a1_1) (wrap64 (x14_2 + 1)) a1_0 a1_1 a1_2 a1_3 a1_4 a1_5 a1_6 a1_7 a1_8) else (fastilaw27_WeatherTrue.l0 kj28 l0 a2 a3 a4 t217 false (wrap64 (x14_2 + 1)) a1_0 a1_1 a1_2 a1_3 a1_4 a1_5 a1_6 a1_7 a1_8)) else (some true))) else (some true))) else (none)) else (none)) = some r := by rw [if_neg (show ¬ (false = true) by decide)] at H; exact H
            clear H
            have H := H1
            clear H1
            by_cases c35 : 0 ≤ x14_2
            ·rw [if_pos c35] at H
             have c35b0 : decide (0 ≤ x14_2) = true := decide_eq_true c35
             clear c35
             by_cases c36 : x14_2 < (l0.length : Int)
             ·rw [if_pos c36] at H
              have c36b0 : decide (x14_2 < (l0.length : Int)) = true := decide_eq_true c36
              clear c36
              replace H := Option.bind_eq_some_iff.mp H
              obtain ⟨t226, A370, H⟩ := H
              replace H : (if t226 = true then ((fastilaw27_holds.f ((rd_T41 l0 x14_2).f6.f0) ((rd_T41 l0 x14_2).f6.f1) a4).bind fun t228 => (if t228 = true then (if x13_2 = true then (fastilaw27_WeatherTrue.l0 kj28 l0 a2 a3 a4 t217 (((rd_T41 l0 x14_2).f1) != a1_1) (wrap64 (x14_2 + 1)) a1_0 a1_1 a1_2 a1_3 a1_4 a1_5 a1_6 a1_7 a1_8) else (fastilaw27_WeatherTrue.l0 kj28 l0 a2 a3 a4 t217 false (wrap64 (x14_2 + 1)) a1_0 a1_1 a1_2 a1_3 a1_4 a1_5 a1_6 a1_7 a1_8)) else (some true))) else (some true)) = some r := H
              have A37 := Aside0.mk A370
              clear A370
              by_cases c38 : t226 = true
              ·subst c38
               have H1 : ((fastilaw27_holds.f ((rd_T41 l0 x14_2).f6.f0) ((rd_T41 l0 x14_2).f6.f1) a4).bind fun t228 => (if t228 = true then (if x13_2 = true then (fastilaw27_WeatherTrue.l0 kj28 l0 a2 a3 a4 t217 (((rd_T41 l0 x14_2).f1) != a1_1) (wrap64 (x14_2 + 1)) a1_0 a1_1 a1_2 a1_3 a1_4 a1_5 a1_6 a1_7 a1_8) else (fastilaw27_WeatherTrue.l0 kj28 l0 a2 a3 a4 t217 false (wrap64 (x14_2 + 1)) a1_0 a1_1 a1_2 a1_3 a1_4 a1_5 a1_6 a1_7 a1_8)) else (some true))) = some r := by rw [if_pos rfl] at H; exact H
               clear H
               have H := H1
               clear H1
               replace H := Option.bind_eq_some_iff.mp H
               obtain ⟨t228, A390, H⟩ := H
               replace H : (if t228 = true then (if x13_2 = true then (fastilaw27_WeatherTrue.l0 kj28 l0 a2 a3 a4 t217 (((rd_T41 l0 x14_2).f1) != a1_1) (wrap64 (x14_2 + 1)) a1_0 a1_1 a1_2 a1_3 a1_4 a1_5 a1_6 a1_7 a1_8) else (fastilaw27_WeatherTrue.l0 kj28 l0 a2 a3 a4 t217 false (wrap64 (x14_2 + 1)) a1_0 a1_1 a1_2 a1_3 a1_4 a1_5 a1_6 a1_7 a1_8)) else (some true)) = some r := H
               have A39 := Aside0.mk A390
               clear A390
               by_cases c40 : t228 = true
               ·subst c40
                have H1 : (if x13_2 = true then (fastilaw27_WeatherTrue.l0 kj28 l0 a2 a3 a4 t217 (((rd_T41 l0 x14_2).f1) != a1_1) (wrap64 (x14_2 + 1)) a1_0 a1_1 a1_2 a1_3 a1_4 a1_5 a1_6 a1_7 a1_8) else (fastilaw27_WeatherTrue.l0 kj28 l0 a2 a3 a4 t217 false (wrap64 (x14_2 + 1)) a1_0 a1_1 a1_2 a1_3 a1_4 a1_5 a1_6 a1_7 a1_8)) = some r := by rw [if_pos rfl] at H; exact H
                clear H
                have H := H1
                clear H1
                by_cases c41 : x13_2 = true
                ·subst c41
                 have H1 : (fastilaw27_WeatherTrue.l0 kj28 l0 a2 a3 a4 t217 (((rd_T41 l0 x14_2).f1) != a1_1) (wrap64 (x14_2 + 1)) a1_0 a1_1 a1_2 a1_3 a1_4 a1_5 a1_6 a1_7 a1_8) = some r := by rw [if_pos rfl] at H; exact H
                 clear H
                 have H := H1
                 clear H1
                 have H' := Aside0.mk H
                 clear H
                 have p225 : 0 ≤ (x14_2 : Int) := of_decide_eq_true (by first | (with_reducible assumption) | assumption)
                 have q225 : x14_2 < (l0.length : Int) := of_decide_eq_true (by first | (with_reducible assumption) | assumption)
                 obtain ⟨ad225, e225, hx225_0, hx225_1, hx225_2, hx225_3, hx225_4, hx225_5, hx225_6, hx225_7, hx225_8⟩ := at_T41 HR0.out x14_2 p225 q225
                 cases e225
                 replace hx225_0 := (HB.out.cell (World.block_lt_of_cell? w _ hx225_0)).trans hx225_0
                 replace hx225_1 := (HB.out.cell (World.block_lt_of_cell? w _ hx225_1)).trans hx225_1
                 replace hx225_2 := (HB.out.cell (World.block_lt_of_cell? w _ hx225_2)).trans hx225_2
                 replace hx225_3 := (HB.out.cell (World.block_lt_of_cell? w _ hx225_3)).trans hx225_3
                 replace hx225_4 := (HB.out.cell (World.block_lt_of_cell? w _ hx225_4)).trans hx225_4
                 replace hx225_5 := (HB.out.cell (World.block_lt_of_cell? w _ hx225_5)).trans hx225_5
                 replace hx225_6 := (HB.out.cell (World.block_lt_of_cell? w _ hx225_6)).trans hx225_6
                 replace hx225_7 := (HB.out.cell (World.block_lt_of_cell? w _ hx225_7)).trans hx225_7
                 replace hx225_8 := (HB.out.cell (World.block_lt_of_cell? w _ hx225_8)).trans hx225_8
                 replace p225 := eq_true p225
                 replace q225 := eq_true q225
                 go_wp2_with (first | (go_at_call 31; (with_reducible refine (fastilaw27_holds.calls ((rd_T41 l0 x14_2).f5.f0) ((rd_T41 l0 x14_2).f5.f1) a3 true _ A37.out).mono ?_); rintro e w42 ⟨rfl, hb⟩; have n0_ := Aside0.mk (Kd.R_below (by (with_reducible repeat (first | apply Kd.R_alloc | apply Kd.R_drewN | apply Kd.R_drew)); exact HO_11.out) hb); have n1_ := Aside0.mk (zb BK215.out hb); have n2_ := Aside0.mk (below_step (by repeat (first | (with_reducible first | exact HB.out | apply below_alloc | apply pw_below_drewN | apply below_drew1 | refine below_set ?_ GE215.out) | exact HB.out)) hb); clear HO_11; clear BK215; clear HB; have HO_11 := n0_; have BK215 := n1_; have HB := n2_; clear n0_ n1_ n2_; (try clear hb); (try clear hb2); (try clear hk); (try clear hi); have p227 : 0 ≤ (x14_2 : Int) := of_decide_eq_true (by first | (with_reducible assumption) | assumption); have q227 : x14_2 < (l0.length : Int) := of_decide_eq_true (by first | (with_reducible assumption) | assumption); obtain ⟨ad227, e227, hx227_0, hx227_1, hx227_2, hx227_3, hx227_4, hx227_5, hx227_6, hx227_7, hx227_8⟩ := at_T41 HR0.out x14_2 p227 q227; obtain rfl : ad225 = ad227 := (by injection e227); replace hx227_0 := (HB.out.cell (World.block_lt_of_cell? w _ hx227_0)).trans hx227_0; replace hx227_1 := (HB.out.cell (World.block_lt_of_cell? w _ hx227_1)).trans hx227_1; replace hx227_2 := (HB.out.cell (World.block_lt_of_cell? w _ hx227_2)).trans hx227_2; replace hx227_3 := (HB.out.cell (World.block_lt_of_cell? w _ hx227_3)).trans hx227_3; replace hx227_4 := (HB.out.cell (World.block_lt_of_cell? w _ hx227_4)).trans hx227_4; replace hx227_5 := (HB.out.cell (World.block_lt_of_cell? w _ hx227_5)).trans hx227_5; replace hx227_6 := (HB.out.cell (World.block_lt_of_cell? w _ hx227_6)).trans hx227_6; replace hx227_7 := (HB.out.cell (World.block_lt_of_cell? w _ hx227_7)).trans hx227_7; replace hx227_8 := (HB.out.cell (World.block_lt_of_cell? w _ hx227_8)).trans hx227_8; replace p227 := eq_true p227; replace q227 := eq_true q227) | (go_at_call 31; (with_reducible refine (fastilaw27_holds.calls ((rd_T41 l0 x14_2).f6.f0) ((rd_T41 l0 x14_2).f6.f1) a4 true _ A39.out).mono ?_); rintro e w43 ⟨rfl, hb⟩; have n0_ := Aside0.mk (Kd.R_below (by (with_reducible repeat (first | apply Kd.R_alloc | apply Kd.R_drewN | apply Kd.R_drew)); exact HO_11.out) hb); have n1_ := Aside0.mk (zb BK215.out hb); have n2_ := Aside0.mk (below_step (by repeat (first | (with_reducible first | exact HB.out | apply below_alloc | apply pw_below_drewN | apply below_drew1 | refine below_set ?_ GE215.out) | exact HB.out)) hb); clear HO_11; clear BK215; clear HB; have HO_11 := n0_; have BK215 := n1_; have HB := n2_; clear n0_ n1_ n2_; (try clear hb); (try clear hb2); (try clear hk); (try clear hi); have p229 : 0 ≤ (x14_2 : Int) := of_decide_eq_true (by first | (with_reducible assumption) | assumption); have q229 : x14_2 < (l0.length : Int) := of_decide_eq_true (by first | (with_reducible assumption) | assumption); obtain ⟨ad229, e229, hx229_0, hx229_1, hx229_2, hx229_3, hx229_4, hx229_5, hx229_6, hx229_7, hx229_8⟩ := at_T41 HR0.out x14_2 p229 q229; obtain rfl : ad225 = ad229 := (by injection e229); replace hx229_0 := (HB.out.cell (World.block_lt_of_cell? w _ hx229_0)).trans hx229_0; replace hx229_1 := (HB.out.cell (World.block_lt_of_cell? w _ hx229_1)).trans hx229_1; replace hx229_2 := (HB.out.cell (World.block_lt_of_cell? w _ hx229_2)).trans hx229_2; replace hx229_3 := (HB.out.cell (World.block_lt_of_cell? w _ hx229_3)).trans hx229_3; replace hx229_4 := (HB.out.cell (World.block_lt_of_cell? w _ hx229_4)).trans hx229_4; replace hx229_5 := (HB.out.cell (World.block_lt_of_cell? w _ hx229_5)).trans hx229_5; replace hx229_6 := (HB.out.cell (World.block_lt_of_cell? w _ hx229_6)).trans hx229_6; replace hx229_7 := (HB.out.cell (World.block_lt_of_cell? w _ hx229_7)).trans hx229_7; replace hx229_8 := (HB.out.cell (World.block_lt_of_cell? w _ hx229_8)).trans hx229_8; replace p229 := eq_true p229; replace q229 := eq_true q229; have hcz44_0 : w43.cell? ⟨gb215, 0, none⟩ = some (.int .i64 a1_0) := (blk_cell BK215.out 0).trans rfl; have hcz44_1 : w43.cell? ⟨gb215, 1, none⟩ = some (.int .i64 a1_1) := (blk_cell BK215.out 1).trans rfl; have hcz44_2 : w43.cell? ⟨gb215, 2, none⟩ = some (.int .i64 a1_2) := (blk_cell BK215.out 2).trans rfl; have hcz44_3 : w43.cell? ⟨gb215, 3, none⟩ = some (.int .i64 a1_3) := (blk_cell BK215.out 3).trans rfl; have hcz44_4 : w43.cell? ⟨gb215, 4, none⟩ = some (.int .i64 a1_4) := (blk_cell BK215.out 4).trans rfl; have hcz44_5 : w43.cell? ⟨gb215, 5, none⟩ = some (.int .i64 a1_5) := (blk_cell BK215.out 5).trans rfl; have hcz44_6 : w43.cell? ⟨gb215, 6, none⟩ = some (.int .i64 a1_6) := (blk_cell BK215.out 6).trans rfl; have hcz44_7 : w43.cell? ⟨gb215, 7, none⟩ = some (.int .i64 a1_7) := (blk_cell BK215.out 7).trans rfl; have hcz44_8 : w43.cell? ⟨gb215, 8, none⟩ = some (.int .i64 a1_8) := (blk_cell BK215.out 8).trans rfl; have hfz44_0 := blk_frozen BK215.out 0; have hfz44_1 := blk_frozen BK215.out 1; have hfz44_2 := blk_frozen BK215.out 2; have hfz44_3 := blk_frozen BK215.out 3; have hfz44_4 := blk_frozen BK215.out 4; have hfz44_5 := blk_frozen BK215.out 5; have hfz44_6 := blk_frozen BK215.out 6; have hfz44_7 := blk_frozen BK215.out 7; have hfz44_8 := blk_frozen BK215.out 8))
                 repeat (go_quiet (first | (go_at_call 31; (with_reducible refine (fastilaw27_holds.calls ((rd_T41 l0 x14_2).f5.f0) ((rd_T41 l0 x14_2).f5.f1) a3 true _ A37.out).mono ?_); rintro e w42 ⟨rfl, hb⟩; have n0_ := Aside0.mk (Kd.R_below (by (with_reducible repeat (first | apply Kd.R_alloc | apply Kd.R_drewN | apply Kd.R_drew)); exact HO_11.out) hb); have n1_ := Aside0.mk (zb BK215.out hb); have n2_ := Aside0.mk (below_step (by repeat (first | (with_reducible first | exact HB.out | apply below_alloc | apply pw_below_drewN | apply below_drew1 | refine below_set ?_ GE215.out) | exact HB.out)) hb); clear HO_11; clear BK215; clear HB; have HO_11 := n0_; have BK215 := n1_; have HB := n2_; clear n0_ n1_ n2_; (try clear hb); (try clear hb2); (try clear hk); (try clear hi); have p227 : 0 ≤ (x14_2 : Int) := of_decide_eq_true (by first | (with_reducible assumption) | assumption); have q227 : x14_2 < (l0.length : Int) := of_decide_eq_true (by first | (with_reducible assumption) | assumption); obtain ⟨ad227, e227, hx227_0, hx227_1, hx227_2, hx227_3, hx227_4, hx227_5, hx227_6, hx227_7, hx227_8⟩ := at_T41 HR0.out x14_2 p227 q227; obtain rfl : ad225 = ad227 := (by injection e227); replace hx227_0 := (HB.out.cell (World.block_lt_of_cell? w _ hx227_0)).trans hx227_0; replace hx227_1 := (HB.out.cell (World.block_lt_of_cell? w _ hx227_1)).trans hx227_1; replace hx227_2 := (HB.out.cell (World.block_lt_of_cell? w _ hx227_2)).trans hx227_2; replace hx227_3 := (HB.out.cell (World.block_lt_of_cell? w _ hx227_3)).trans hx227_3; replace hx227_4 := (HB.out.cell (World.block_lt_of_cell? w _ hx227_4)).trans hx227_4; replace hx227_5 := (HB.out.cell (World.block_lt_of_cell? w _ hx227_5)).trans hx227_5; replace hx227_6 := (HB.out.cell (World.block_lt_of_cell? w _ hx227_6)).trans hx227_6; replace hx227_7 := (HB.out.cell (World.block_lt_of_cell? w _ hx227_7)).trans hx227_7; replace hx227_8 := (HB.out.cell (World.block_lt_of_cell? w _ hx227_8)).trans hx227_8; replace p227 := eq_true p227; replace q227 := eq_true q227) | (go_at_call 31; (with_reducible refine (fastilaw27_holds.calls ((rd_T41 l0 x14_2).f6.f0) ((rd_T41 l0 x14_2).f6.f1) a4 true _ A39.out).mono ?_); rintro e w43 ⟨rfl, hb⟩; have n0_ := Aside0.mk (Kd.R_below (by (with_reducible repeat (first | apply Kd.R_alloc | apply Kd.R_drewN | apply Kd.R_drew)); exact HO_11.out) hb); have n1_ := Aside0.mk (zb BK215.out hb); have n2_ := Aside0.mk (below_step (by repeat (first | (with_reducible first | exact HB.out | apply below_alloc | apply pw_below_drewN | apply below_drew1 | refine below_set ?_ GE215.out) | exact HB.out)) hb); clear HO_11; clear BK215; clear HB; have HO_11 := n0_; have BK215 := n1_; have HB := n2_; clear n0_ n1_ n2_; (try clear hb); (try clear hb2); (try clear hk); (try clear hi); have p229 : 0 ≤ (x14_2 : Int) := of_decide_eq_true (by first | (with_reducible assumption) | assumption); have q229 : x14_2 < (l0.length : Int) := of_decide_eq_true (by first | (with_reducible assumption) | assumption); obtain ⟨ad229, e229, hx229_0, hx229_1, hx229_2, hx229_3, hx229_4, hx229_5, hx229_6, hx229_7, hx229_8⟩ := at_T41 HR0.out x14_2 p229 q229; obtain rfl : ad225 = ad229 := (by injection e229); replace hx229_0 := (HB.out.cell (World.block_lt_of_cell? w _ hx229_0)).trans hx229_0; replace hx229_1 := (HB.out.cell (World.block_lt_of_cell? w _ hx229_1)).trans hx229_1; replace hx229_2 := (HB.out.cell (World.block_lt_of_cell? w _ hx229_2)).trans hx229_2; replace hx229_3 := (HB.out.cell (World.block_lt_of_cell? w _ hx229_3)).trans hx229_3; replace hx229_4 := (HB.out.cell (World.block_lt_of_cell? w _ hx229_4)).trans hx229_4; replace hx229_5 := (HB.out.cell (World.block_lt_of_cell? w _ hx229_5)).trans hx229_5; replace hx229_6 := (HB.out.cell (World.block_lt_of_cell? w _ hx229_6)).trans hx229_6; replace hx229_7 := (HB.out.cell (World.block_lt_of_cell? w _ hx229_7)).trans hx229_7; replace hx229_8 := (HB.out.cell (World.block_lt_of_cell? w _ hx229_8)).trans hx229_8; replace p229 := eq_true p229; replace q229 := eq_true q229; have hcz44_0 : w43.cell? ⟨gb215, 0, none⟩ = some (.int .i64 a1_0) := (blk_cell BK215.out 0).trans rfl; have hcz44_1 : w43.cell? ⟨gb215, 1, none⟩ = some (.int .i64 a1_1) := (blk_cell BK215.out 1).trans rfl; have hcz44_2 : w43.cell? ⟨gb215, 2, none⟩ = some (.int .i64 a1_2) := (blk_cell BK215.out 2).trans rfl; have hcz44_3 : w43.cell? ⟨gb215, 3, none⟩ = some (.int .i64 a1_3) := (blk_cell BK215.out 3).trans rfl; have hcz44_4 : w43.cell? ⟨gb215, 4, none⟩ = some (.int .i64 a1_4) := (blk_cell BK215.out 4).trans rfl; have hcz44_5 : w43.cell? ⟨gb215, 5, none⟩ = some (.int .i64 a1_5) := (blk_cell BK215.out 5).trans rfl; have hcz44_6 : w43.cell? ⟨gb215, 6, none⟩ = some (.int .i64 a1_6) := (blk_cell BK215.out 6).trans rfl; have hcz44_7 : w43.cell? ⟨gb215, 7, none⟩ = some (.int .i64 a1_7) := (blk_cell BK215.out 7).trans rfl; have hcz44_8 : w43.cell? ⟨gb215, 8, none⟩ = some (.int .i64 a1_8) := (blk_cell BK215.out 8).trans rfl; have hfz44_0 := blk_frozen BK215.out 0; have hfz44_1 := blk_frozen BK215.out 1; have hfz44_2 := blk_frozen BK215.out 2; have hfz44_3 := blk_frozen BK215.out 3; have hfz44_4 := blk_frozen BK215.out 4; have hfz44_5 := blk_frozen BK215.out 5; have hfz44_6 := blk_frozen BK215.out 6; have hfz44_7 := blk_frozen BK215.out 7; have hfz44_8 := blk_frozen BK215.out 8)); try go_wp2_with (first | (go_at_call 31; (with_reducible refine (fastilaw27_holds.calls ((rd_T41 l0 x14_2).f5.f0) ((rd_T41 l0 x14_2).f5.f1) a3 true _ A37.out).mono ?_); rintro e w42 ⟨rfl, hb⟩; have n0_ := Aside0.mk (Kd.R_below (by (with_reducible repeat (first | apply Kd.R_alloc | apply Kd.R_drewN | apply Kd.R_drew)); exact HO_11.out) hb); have n1_ := Aside0.mk (zb BK215.out hb); have n2_ := Aside0.mk (below_step (by repeat (first | (with_reducible first | exact HB.out | apply below_alloc | apply pw_below_drewN | apply below_drew1 | refine below_set ?_ GE215.out) | exact HB.out)) hb); clear HO_11; clear BK215; clear HB; have HO_11 := n0_; have BK215 := n1_; have HB := n2_; clear n0_ n1_ n2_; (try clear hb); (try clear hb2); (try clear hk); (try clear hi); have p227 : 0 ≤ (x14_2 : Int) := of_decide_eq_true (by first | (with_reducible assumption) | assumption); have q227 : x14_2 < (l0.length : Int) := of_decide_eq_true (by first | (with_reducible assumption) | assumption); obtain ⟨ad227, e227, hx227_0, hx227_1, hx227_2, hx227_3, hx227_4, hx227_5, hx227_6, hx227_7, hx227_8⟩ := at_T41 HR0.out x14_2 p227 q227; obtain rfl : ad225 = ad227 := (by injection e227); replace hx227_0 := (HB.out.cell (World.block_lt_of_cell? w _ hx227_0)).trans hx227_0; replace hx227_1 := (HB.out.cell (World.block_lt_of_cell? w _ hx227_1)).trans hx227_1; replace hx227_2 := (HB.out.cell (World.block_lt_of_cell? w _ hx227_2)).trans hx227_2; replace hx227_3 := (HB.out.cell (World.block_lt_of_cell? w _ hx227_3)).trans hx227_3; replace hx227_4 := (HB.out.cell (World.block_lt_of_cell? w _ hx227_4)).trans hx227_4; replace hx227_5 := (HB.out.cell (World.block_lt_of_cell? w _ hx227_5)).trans hx227_5; replace hx227_6 := (HB.out.cell (World.block_lt_of_cell? w _ hx227_6)).trans hx227_6; replace hx227_7 := (HB.out.cell (World.block_lt_of_cell? w _ hx227_7)).trans hx227_7; replace hx227_8 := (HB.out.cell (World.block_lt_of_cell? w _ hx227_8)).trans hx227_8; replace p227 := eq_true p227; replace q227 := eq_true q227) | (go_at_call 31; (with_reducible refine (fastilaw27_holds.calls ((rd_T41 l0 x14_2).f6.f0) ((rd_T41 l0 x14_2).f6.f1) a4 true _ A39.out).mono ?_); rintro e w43 ⟨rfl, hb⟩; have n0_ := Aside0.mk (Kd.R_below (by (with_reducible repeat (first | apply Kd.R_alloc | apply Kd.R_drewN | apply Kd.R_drew)); exact HO_11.out) hb); have n1_ := Aside0.mk (zb BK215.out hb); have n2_ := Aside0.mk (below_step (by repeat (first | (with_reducible first | exact HB.out | apply below_alloc | apply pw_below_drewN | apply below_drew1 | refine below_set ?_ GE215.out) | exact HB.out)) hb); clear HO_11; clear BK215; clear HB; have HO_11 := n0_; have BK215 := n1_; have HB := n2_; clear n0_ n1_ n2_; (try clear hb); (try clear hb2); (try clear hk); (try clear hi); have p229 : 0 ≤ (x14_2 : Int) := of_decide_eq_true (by first | (with_reducible assumption) | assumption); have q229 : x14_2 < (l0.length : Int) := of_decide_eq_true (by first | (with_reducible assumption) | assumption); obtain ⟨ad229, e229, hx229_0, hx229_1, hx229_2, hx229_3, hx229_4, hx229_5, hx229_6, hx229_7, hx229_8⟩ := at_T41 HR0.out x14_2 p229 q229; obtain rfl : ad225 = ad229 := (by injection e229); replace hx229_0 := (HB.out.cell (World.block_lt_of_cell? w _ hx229_0)).trans hx229_0; replace hx229_1 := (HB.out.cell (World.block_lt_of_cell? w _ hx229_1)).trans hx229_1; replace hx229_2 := (HB.out.cell (World.block_lt_of_cell? w _ hx229_2)).trans hx229_2; replace hx229_3 := (HB.out.cell (World.block_lt_of_cell? w _ hx229_3)).trans hx229_3; replace hx229_4 := (HB.out.cell (World.block_lt_of_cell? w _ hx229_4)).trans hx229_4; replace hx229_5 := (HB.out.cell (World.block_lt_of_cell? w _ hx229_5)).trans hx229_5; replace hx229_6 := (HB.out.cell (World.block_lt_of_cell? w _ hx229_6)).trans hx229_6; replace hx229_7 := (HB.out.cell (World.block_lt_of_cell? w _ hx229_7)).trans hx229_7; replace hx229_8 := (HB.out.cell (World.block_lt_of_cell? w _ hx229_8)).trans hx229_8; replace p229 := eq_true p229; replace q229 := eq_true q229; have hcz44_0 : w43.cell? ⟨gb215, 0, none⟩ = some (.int .i64 a1_0) := (blk_cell BK215.out 0).trans rfl; have hcz44_1 : w43.cell? ⟨gb215, 1, none⟩ = some (.int .i64 a1_1) := (blk_cell BK215.out 1).trans rfl; have hcz44_2 : w43.cell? ⟨gb215, 2, none⟩ = some (.int .i64 a1_2) := (blk_cell BK215.out 2).trans rfl; have hcz44_3 : w43.cell? ⟨gb215, 3, none⟩ = some (.int .i64 a1_3) := (blk_cell BK215.out 3).trans rfl; have hcz44_4 : w43.cell? ⟨gb215, 4, none⟩ = some (.int .i64 a1_4) := (blk_cell BK215.out 4).trans rfl; have hcz44_5 : w43.cell? ⟨gb215, 5, none⟩ = some (.int .i64 a1_5) := (blk_cell BK215.out 5).trans rfl; have hcz44_6 : w43.cell? ⟨gb215, 6, none⟩ = some (.int .i64 a1_6) := (blk_cell BK215.out 6).trans rfl; have hcz44_7 : w43.cell? ⟨gb215, 7, none⟩ = some (.int .i64 a1_7) := (blk_cell BK215.out 7).trans rfl; have hcz44_8 : w43.cell? ⟨gb215, 8, none⟩ = some (.int .i64 a1_8) := (blk_cell BK215.out 8).trans rfl; have hfz44_0 := blk_frozen BK215.out 0; have hfz44_1 := blk_frozen BK215.out 1; have hfz44_2 := blk_frozen BK215.out 2; have hfz44_3 := blk_frozen BK215.out 3; have hfz44_4 := blk_frozen BK215.out 4; have hfz44_5 := blk_frozen BK215.out 5; have hfz44_6 := blk_frozen BK215.out 6; have hfz44_7 := blk_frozen BK215.out 7; have hfz44_8 := blk_frozen BK215.out 8)))
                 go_roundg kj28
                 case measure => have := HJ11.out; have := HK2.out; have := HJ28.out; omega
                 case rel => exact ⟨((((rd_T41 l0 x14_2).f1) != a1_1)), (wrap64 (x14_2 + 1)), (by first | rfl | (simp; done) | (simp [*]; done)), (by first | rfl | (simp; done) | (simp [*]; done)), H', ⟨by have := HJ11.out; have := HK2.out; have := HJ28.out; omega⟩, ⟨by (with_reducible repeat (first | apply Kd.R_alloc | apply Kd.R_drewN | apply Kd.R_drew)); exact HO_11.out⟩, ⟨zk BK215.out⟩, ⟨by repeat (first | (with_reducible first | exact HB.out | apply below_alloc | apply pw_below_drewN | apply below_drew1 | refine below_set ?_ GE215.out) | exact HB.out)⟩⟩
                ·replace c41 := Bool.eq_false_iff.mpr c41
                 subst c41
                 have H1 : (fastilaw27_WeatherTrue.l0 kj28 l0 a2 a3 a4 t217 false (wrap64 (x14_2 + 1)) a1_0 a1_1 a1_2 a1_3 a1_4 a1_5 a1_6 a1_7 a1_8) = some r := by rw [if_neg (show ¬ (false = true) by decide)] at H; exact H
                 clear H
                 have H := H1
                 clear H1
                 have H' := Aside0.mk H
                 clear H
                 have p225 : 0 ≤ (x14_2 : Int) := of_decide_eq_true (by first | (with_reducible assumption) | assumption)
                 have q225 : x14_2 < (l0.length : Int) := of_decide_eq_true (by first | (with_reducible assumption) | assumption)
                 obtain ⟨ad225, e225, hx225_0, hx225_1, hx225_2, hx225_3, hx225_4, hx225_5, hx225_6, hx225_7, hx225_8⟩ := at_T41 HR0.out x14_2 p225 q225
                 cases e225
                 replace hx225_0 := (HB.out.cell (World.block_lt_of_cell? w _ hx225_0)).trans hx225_0
                 replace hx225_1 := (HB.out.cell (World.block_lt_of_cell? w _ hx225_1)).trans hx225_1
                 replace hx225_2 := (HB.out.cell (World.block_lt_of_cell? w _ hx225_2)).trans hx225_2
                 replace hx225_3 := (HB.out.cell (World.block_lt_of_cell? w _ hx225_3)).trans hx225_3
                 replace hx225_4 := (HB.out.cell (World.block_lt_of_cell? w _ hx225_4)).trans hx225_4
                 replace hx225_5 := (HB.out.cell (World.block_lt_of_cell? w _ hx225_5)).trans hx225_5
                 replace hx225_6 := (HB.out.cell (World.block_lt_of_cell? w _ hx225_6)).trans hx225_6
                 replace hx225_7 := (HB.out.cell (World.block_lt_of_cell? w _ hx225_7)).trans hx225_7
                 replace hx225_8 := (HB.out.cell (World.block_lt_of_cell? w _ hx225_8)).trans hx225_8
                 replace p225 := eq_true p225
                 replace q225 := eq_true q225
                 go_wp2_with (first | (go_at_call 31; (with_reducible refine (fastilaw27_holds.calls ((rd_T41 l0 x14_2).f5.f0) ((rd_T41 l0 x14_2).f5.f1) a3 true _ A37.out).mono ?_); rintro e w45 ⟨rfl, hb⟩; have n0_ := Aside0.mk (Kd.R_below (by (with_reducible repeat (first | apply Kd.R_alloc | apply Kd.R_drewN | apply Kd.R_drew)); exact HO_11.out) hb); have n1_ := Aside0.mk (zb BK215.out hb); have n2_ := Aside0.mk (below_step (by repeat (first | (with_reducible first | exact HB.out | apply below_alloc | apply pw_below_drewN | apply below_drew1 | refine below_set ?_ GE215.out) | exact HB.out)) hb); clear HO_11; clear BK215; clear HB; have HO_11 := n0_; have BK215 := n1_; have HB := n2_; clear n0_ n1_ n2_; (try clear hb); (try clear hb2); (try clear hk); (try clear hi); have p227 : 0 ≤ (x14_2 : Int) := of_decide_eq_true (by first | (with_reducible assumption) | assumption); have q227 : x14_2 < (l0.length : Int) := of_decide_eq_true (by first | (with_reducible assumption) | assumption); obtain ⟨ad227, e227, hx227_0, hx227_1, hx227_2, hx227_3, hx227_4, hx227_5, hx227_6, hx227_7, hx227_8⟩ := at_T41 HR0.out x14_2 p227 q227; obtain rfl : ad225 = ad227 := (by injection e227); replace hx227_0 := (HB.out.cell (World.block_lt_of_cell? w _ hx227_0)).trans hx227_0; replace hx227_1 := (HB.out.cell (World.block_lt_of_cell? w _ hx227_1)).trans hx227_1; replace hx227_2 := (HB.out.cell (World.block_lt_of_cell? w _ hx227_2)).trans hx227_2; replace hx227_3 := (HB.out.cell (World.block_lt_of_cell? w _ hx227_3)).trans hx227_3; replace hx227_4 := (HB.out.cell (World.block_lt_of_cell? w _ hx227_4)).trans hx227_4; replace hx227_5 := (HB.out.cell (World.block_lt_of_cell? w _ hx227_5)).trans hx227_5; replace hx227_6 := (HB.out.cell (World.block_lt_of_cell? w _ hx227_6)).trans hx227_6; replace hx227_7 := (HB.out.cell (World.block_lt_of_cell? w _ hx227_7)).trans hx227_7; replace hx227_8 := (HB.out.cell (World.block_lt_of_cell? w _ hx227_8)).trans hx227_8; replace p227 := eq_true p227; replace q227 := eq_true q227) | (go_at_call 31; (with_reducible refine (fastilaw27_holds.calls ((rd_T41 l0 x14_2).f6.f0) ((rd_T41 l0 x14_2).f6.f1) a4 true _ A39.out).mono ?_); rintro e w46 ⟨rfl, hb⟩; have n0_ := Aside0.mk (Kd.R_below (by (with_reducible repeat (first | apply Kd.R_alloc | apply Kd.R_drewN | apply Kd.R_drew)); exact HO_11.out) hb); have n1_ := Aside0.mk (zb BK215.out hb); have n2_ := Aside0.mk (below_step (by repeat (first | (with_reducible first | exact HB.out | apply below_alloc | apply pw_below_drewN | apply below_drew1 | refine below_set ?_ GE215.out) | exact HB.out)) hb); clear HO_11; clear BK215; clear HB; have HO_11 := n0_; have BK215 := n1_; have HB := n2_; clear n0_ n1_ n2_; (try clear hb); (try clear hb2); (try clear hk); (try clear hi)))
                 repeat (go_quiet (first | (go_at_call 31; (with_reducible refine (fastilaw27_holds.calls ((rd_T41 l0 x14_2).f5.f0) ((rd_T41 l0 x14_2).f5.f1) a3 true _ A37.out).mono ?_); rintro e w45 ⟨rfl, hb⟩; have n0_ := Aside0.mk (Kd.R_below (by (with_reducible repeat (first | apply Kd.R_alloc | apply Kd.R_drewN | apply Kd.R_drew)); exact HO_11.out) hb); have n1_ := Aside0.mk (zb BK215.out hb); have n2_ := Aside0.mk (below_step (by repeat (first | (with_reducible first | exact HB.out | apply below_alloc | apply pw_below_drewN | apply below_drew1 | refine below_set ?_ GE215.out) | exact HB.out)) hb); clear HO_11; clear BK215; clear HB; have HO_11 := n0_; have BK215 := n1_; have HB := n2_; clear n0_ n1_ n2_; (try clear hb); (try clear hb2); (try clear hk); (try clear hi); have p227 : 0 ≤ (x14_2 : Int) := of_decide_eq_true (by first | (with_reducible assumption) | assumption); have q227 : x14_2 < (l0.length : Int) := of_decide_eq_true (by first | (with_reducible assumption) | assumption); obtain ⟨ad227, e227, hx227_0, hx227_1, hx227_2, hx227_3, hx227_4, hx227_5, hx227_6, hx227_7, hx227_8⟩ := at_T41 HR0.out x14_2 p227 q227; obtain rfl : ad225 = ad227 := (by injection e227); replace hx227_0 := (HB.out.cell (World.block_lt_of_cell? w _ hx227_0)).trans hx227_0; replace hx227_1 := (HB.out.cell (World.block_lt_of_cell? w _ hx227_1)).trans hx227_1; replace hx227_2 := (HB.out.cell (World.block_lt_of_cell? w _ hx227_2)).trans hx227_2; replace hx227_3 := (HB.out.cell (World.block_lt_of_cell? w _ hx227_3)).trans hx227_3; replace hx227_4 := (HB.out.cell (World.block_lt_of_cell? w _ hx227_4)).trans hx227_4; replace hx227_5 := (HB.out.cell (World.block_lt_of_cell? w _ hx227_5)).trans hx227_5; replace hx227_6 := (HB.out.cell (World.block_lt_of_cell? w _ hx227_6)).trans hx227_6; replace hx227_7 := (HB.out.cell (World.block_lt_of_cell? w _ hx227_7)).trans hx227_7; replace hx227_8 := (HB.out.cell (World.block_lt_of_cell? w _ hx227_8)).trans hx227_8; replace p227 := eq_true p227; replace q227 := eq_true q227) | (go_at_call 31; (with_reducible refine (fastilaw27_holds.calls ((rd_T41 l0 x14_2).f6.f0) ((rd_T41 l0 x14_2).f6.f1) a4 true _ A39.out).mono ?_); rintro e w46 ⟨rfl, hb⟩; have n0_ := Aside0.mk (Kd.R_below (by (with_reducible repeat (first | apply Kd.R_alloc | apply Kd.R_drewN | apply Kd.R_drew)); exact HO_11.out) hb); have n1_ := Aside0.mk (zb BK215.out hb); have n2_ := Aside0.mk (below_step (by repeat (first | (with_reducible first | exact HB.out | apply below_alloc | apply pw_below_drewN | apply below_drew1 | refine below_set ?_ GE215.out) | exact HB.out)) hb); clear HO_11; clear BK215; clear HB; have HO_11 := n0_; have BK215 := n1_; have HB := n2_; clear n0_ n1_ n2_; (try clear hb); (try clear hb2); (try clear hk); (try clear hi))); try go_wp2_with (first | (go_at_call 31; (with_reducible refine (fastilaw27_holds.calls ((rd_T41 l0 x14_2).f5.f0) ((rd_T41 l0 x14_2).f5.f1) a3 true _ A37.out).mono ?_); rintro e w45 ⟨rfl, hb⟩; have n0_ := Aside0.mk (Kd.R_below (by (with_reducible repeat (first | apply Kd.R_alloc | apply Kd.R_drewN | apply Kd.R_drew)); exact HO_11.out) hb); have n1_ := Aside0.mk (zb BK215.out hb); have n2_ := Aside0.mk (below_step (by repeat (first | (with_reducible first | exact HB.out | apply below_alloc | apply pw_below_drewN | apply below_drew1 | refine below_set ?_ GE215.out) | exact HB.out)) hb); clear HO_11; clear BK215; clear HB; have HO_11 := n0_; have BK215 := n1_; have HB := n2_; clear n0_ n1_ n2_; (try clear hb); (try clear hb2); (try clear hk); (try clear hi); have p227 : 0 ≤ (x14_2 : Int) := of_decide_eq_true (by first | (with_reducible assumption) | assumption); have q227 : x14_2 < (l0.length : Int) := of_decide_eq_true (by first | (with_reducible assumption) | assumption); obtain ⟨ad227, e227, hx227_0, hx227_1, hx227_2, hx227_3, hx227_4, hx227_5, hx227_6, hx227_7, hx227_8⟩ := at_T41 HR0.out x14_2 p227 q227; obtain rfl : ad225 = ad227 := (by injection e227); replace hx227_0 := (HB.out.cell (World.block_lt_of_cell? w _ hx227_0)).trans hx227_0; replace hx227_1 := (HB.out.cell (World.block_lt_of_cell? w _ hx227_1)).trans hx227_1; replace hx227_2 := (HB.out.cell (World.block_lt_of_cell? w _ hx227_2)).trans hx227_2; replace hx227_3 := (HB.out.cell (World.block_lt_of_cell? w _ hx227_3)).trans hx227_3; replace hx227_4 := (HB.out.cell (World.block_lt_of_cell? w _ hx227_4)).trans hx227_4; replace hx227_5 := (HB.out.cell (World.block_lt_of_cell? w _ hx227_5)).trans hx227_5; replace hx227_6 := (HB.out.cell (World.block_lt_of_cell? w _ hx227_6)).trans hx227_6; replace hx227_7 := (HB.out.cell (World.block_lt_of_cell? w _ hx227_7)).trans hx227_7; replace hx227_8 := (HB.out.cell (World.block_lt_of_cell? w _ hx227_8)).trans hx227_8; replace p227 := eq_true p227; replace q227 := eq_true q227) | (go_at_call 31; (with_reducible refine (fastilaw27_holds.calls ((rd_T41 l0 x14_2).f6.f0) ((rd_T41 l0 x14_2).f6.f1) a4 true _ A39.out).mono ?_); rintro e w46 ⟨rfl, hb⟩; have n0_ := Aside0.mk (Kd.R_below (by (with_reducible repeat (first | apply Kd.R_alloc | apply Kd.R_drewN | apply Kd.R_drew)); exact HO_11.out) hb); have n1_ := Aside0.mk (zb BK215.out hb); have n2_ := Aside0.mk (below_step (by repeat (first | (with_reducible first | exact HB.out | apply below_alloc | apply pw_below_drewN | apply below_drew1 | refine below_set ?_ GE215.out) | exact HB.out)) hb); clear HO_11; clear BK215; clear HB; have HO_11 := n0_; have BK215 := n1_; have HB := n2_; clear n0_ n1_ n2_; (try clear hb); (try clear hb2); (try clear hk); (try clear hi))))
                 go_roundg kj28
                 case measure => have := HJ11.out; have := HK2.out; have := HJ28.out; omega
                 case rel => exact ⟨(false), (wrap64 (x14_2 + 1)), (by first | rfl | (simp; done) | (simp [*]; done)), (by first | rfl | (simp; done) | (simp [*]; done)), H', ⟨by have := HJ11.out; have := HK2.out; have := HJ28.out; omega⟩, ⟨by (with_reducible repeat (first | apply Kd.R_alloc | apply Kd.R_drewN | apply Kd.R_drew)); exact HO_11.out⟩, ⟨zk BK215.out⟩, ⟨by repeat (first | (with_reducible first | exact HB.out | apply below_alloc | apply pw_below_drewN | apply below_drew1 | refine below_set ?_ GE215.out) | exact HB.out)⟩⟩
               ·replace c40 := Bool.eq_false_iff.mpr c40
                subst c40
                have H1 : (some true) = some r := by rw [if_neg (show ¬ (false = true) by decide)] at H; exact H
                clear H
                have H := H1
                clear H1
                obtain rfl := Option.some.inj H
                have p225 : 0 ≤ (x14_2 : Int) := of_decide_eq_true (by first | (with_reducible assumption) | assumption)
                have q225 : x14_2 < (l0.length : Int) := of_decide_eq_true (by first | (with_reducible assumption) | assumption)
                obtain ⟨ad225, e225, hx225_0, hx225_1, hx225_2, hx225_3, hx225_4, hx225_5, hx225_6, hx225_7, hx225_8⟩ := at_T41 HR0.out x14_2 p225 q225
                cases e225
                replace hx225_0 := (HB.out.cell (World.block_lt_of_cell? w _ hx225_0)).trans hx225_0
                replace hx225_1 := (HB.out.cell (World.block_lt_of_cell? w _ hx225_1)).trans hx225_1
                replace hx225_2 := (HB.out.cell (World.block_lt_of_cell? w _ hx225_2)).trans hx225_2
                replace hx225_3 := (HB.out.cell (World.block_lt_of_cell? w _ hx225_3)).trans hx225_3
                replace hx225_4 := (HB.out.cell (World.block_lt_of_cell? w _ hx225_4)).trans hx225_4
                replace hx225_5 := (HB.out.cell (World.block_lt_of_cell? w _ hx225_5)).trans hx225_5
                replace hx225_6 := (HB.out.cell (World.block_lt_of_cell? w _ hx225_6)).trans hx225_6
                replace hx225_7 := (HB.out.cell (World.block_lt_of_cell? w _ hx225_7)).trans hx225_7
                replace hx225_8 := (HB.out.cell (World.block_lt_of_cell? w _ hx225_8)).trans hx225_8
                replace p225 := eq_true p225
                replace q225 := eq_true q225
                go_wp2_with (first | (go_at_call 31; (with_reducible refine (fastilaw27_holds.calls ((rd_T41 l0 x14_2).f5.f0) ((rd_T41 l0 x14_2).f5.f1) a3 true _ A37.out).mono ?_); rintro e w47 ⟨rfl, hb⟩; have n0_ := Aside0.mk (Kd.R_below (by (with_reducible repeat (first | apply Kd.R_alloc | apply Kd.R_drewN | apply Kd.R_drew)); exact HO_11.out) hb); have n1_ := Aside0.mk (zb BK215.out hb); have n2_ := Aside0.mk (below_step (by repeat (first | (with_reducible first | exact HB.out | apply below_alloc | apply pw_below_drewN | apply below_drew1 | refine below_set ?_ GE215.out) | exact HB.out)) hb); clear HO_11; clear BK215; clear HB; have HO_11 := n0_; have BK215 := n1_; have HB := n2_; clear n0_ n1_ n2_; (try clear hb); (try clear hb2); (try clear hk); (try clear hi); have p227 : 0 ≤ (x14_2 : Int) := of_decide_eq_true (by first | (with_reducible assumption) | assumption); have q227 : x14_2 < (l0.length : Int) := of_decide_eq_true (by first | (with_reducible assumption) | assumption); obtain ⟨ad227, e227, hx227_0, hx227_1, hx227_2, hx227_3, hx227_4, hx227_5, hx227_6, hx227_7, hx227_8⟩ := at_T41 HR0.out x14_2 p227 q227; obtain rfl : ad225 = ad227 := (by injection e227); replace hx227_0 := (HB.out.cell (World.block_lt_of_cell? w _ hx227_0)).trans hx227_0; replace hx227_1 := (HB.out.cell (World.block_lt_of_cell? w _ hx227_1)).trans hx227_1; replace hx227_2 := (HB.out.cell (World.block_lt_of_cell? w _ hx227_2)).trans hx227_2; replace hx227_3 := (HB.out.cell (World.block_lt_of_cell? w _ hx227_3)).trans hx227_3; replace hx227_4 := (HB.out.cell (World.block_lt_of_cell? w _ hx227_4)).trans hx227_4; replace hx227_5 := (HB.out.cell (World.block_lt_of_cell? w _ hx227_5)).trans hx227_5; replace hx227_6 := (HB.out.cell (World.block_lt_of_cell? w _ hx227_6)).trans hx227_6; replace hx227_7 := (HB.out.cell (World.block_lt_of_cell? w _ hx227_7)).trans hx227_7; replace hx227_8 := (HB.out.cell (World.block_lt_of_cell? w _ hx227_8)).trans hx227_8; replace p227 := eq_true p227; replace q227 := eq_true q227) | (go_at_call 31; (with_reducible refine (fastilaw27_holds.calls ((rd_T41 l0 x14_2).f6.f0) ((rd_T41 l0 x14_2).f6.f1) a4 false _ A39.out).mono ?_); rintro e w48 ⟨rfl, hb⟩; have n0_ := Aside0.mk (Kd.R_below (by (with_reducible repeat (first | apply Kd.R_alloc | apply Kd.R_drewN | apply Kd.R_drew)); exact HO_11.out) hb); have n1_ := Aside0.mk (zb BK215.out hb); have n2_ := Aside0.mk (below_step (by repeat (first | (with_reducible first | exact HB.out | apply below_alloc | apply pw_below_drewN | apply below_drew1 | refine below_set ?_ GE215.out) | exact HB.out)) hb); clear HO_11; clear BK215; clear HB; have HO_11 := n0_; have BK215 := n1_; have HB := n2_; clear n0_ n1_ n2_; (try clear hb); (try clear hb2); (try clear hk); (try clear hi)))
                repeat (go_quiet (first | (go_at_call 31; (with_reducible refine (fastilaw27_holds.calls ((rd_T41 l0 x14_2).f5.f0) ((rd_T41 l0 x14_2).f5.f1) a3 true _ A37.out).mono ?_); rintro e w47 ⟨rfl, hb⟩; have n0_ := Aside0.mk (Kd.R_below (by (with_reducible repeat (first | apply Kd.R_alloc | apply Kd.R_drewN | apply Kd.R_drew)); exact HO_11.out) hb); have n1_ := Aside0.mk (zb BK215.out hb); have n2_ := Aside0.mk (below_step (by repeat (first | (with_reducible first | exact HB.out | apply below_alloc | apply pw_below_drewN | apply below_drew1 | refine below_set ?_ GE215.out) | exact HB.out)) hb); clear HO_11; clear BK215; clear HB; have HO_11 := n0_; have BK215 := n1_; have HB := n2_; clear n0_ n1_ n2_; (try clear hb); (try clear hb2); (try clear hk); (try clear hi); have p227 : 0 ≤ (x14_2 : Int) := of_decide_eq_true (by first | (with_reducible assumption) | assumption); have q227 : x14_2 < (l0.length : Int) := of_decide_eq_true (by first | (with_reducible assumption) | assumption); obtain ⟨ad227, e227, hx227_0, hx227_1, hx227_2, hx227_3, hx227_4, hx227_5, hx227_6, hx227_7, hx227_8⟩ := at_T41 HR0.out x14_2 p227 q227; obtain rfl : ad225 = ad227 := (by injection e227); replace hx227_0 := (HB.out.cell (World.block_lt_of_cell? w _ hx227_0)).trans hx227_0; replace hx227_1 := (HB.out.cell (World.block_lt_of_cell? w _ hx227_1)).trans hx227_1; replace hx227_2 := (HB.out.cell (World.block_lt_of_cell? w _ hx227_2)).trans hx227_2; replace hx227_3 := (HB.out.cell (World.block_lt_of_cell? w _ hx227_3)).trans hx227_3; replace hx227_4 := (HB.out.cell (World.block_lt_of_cell? w _ hx227_4)).trans hx227_4; replace hx227_5 := (HB.out.cell (World.block_lt_of_cell? w _ hx227_5)).trans hx227_5; replace hx227_6 := (HB.out.cell (World.block_lt_of_cell? w _ hx227_6)).trans hx227_6; replace hx227_7 := (HB.out.cell (World.block_lt_of_cell? w _ hx227_7)).trans hx227_7; replace hx227_8 := (HB.out.cell (World.block_lt_of_cell? w _ hx227_8)).trans hx227_8; replace p227 := eq_true p227; replace q227 := eq_true q227) | (go_at_call 31; (with_reducible refine (fastilaw27_holds.calls ((rd_T41 l0 x14_2).f6.f0) ((rd_T41 l0 x14_2).f6.f1) a4 false _ A39.out).mono ?_); rintro e w48 ⟨rfl, hb⟩; have n0_ := Aside0.mk (Kd.R_below (by (with_reducible repeat (first | apply Kd.R_alloc | apply Kd.R_drewN | apply Kd.R_drew)); exact HO_11.out) hb); have n1_ := Aside0.mk (zb BK215.out hb); have n2_ := Aside0.mk (below_step (by repeat (first | (with_reducible first | exact HB.out | apply below_alloc | apply pw_below_drewN | apply below_drew1 | refine below_set ?_ GE215.out) | exact HB.out)) hb); clear HO_11; clear BK215; clear HB; have HO_11 := n0_; have BK215 := n1_; have HB := n2_; clear n0_ n1_ n2_; (try clear hb); (try clear hb2); (try clear hk); (try clear hi))); try go_wp2_with (first | (go_at_call 31; (with_reducible refine (fastilaw27_holds.calls ((rd_T41 l0 x14_2).f5.f0) ((rd_T41 l0 x14_2).f5.f1) a3 true _ A37.out).mono ?_); rintro e w47 ⟨rfl, hb⟩; have n0_ := Aside0.mk (Kd.R_below (by (with_reducible repeat (first | apply Kd.R_alloc | apply Kd.R_drewN | apply Kd.R_drew)); exact HO_11.out) hb); have n1_ := Aside0.mk (zb BK215.out hb); have n2_ := Aside0.mk (below_step (by repeat (first | (with_reducible first | exact HB.out | apply below_alloc | apply pw_below_drewN | apply below_drew1 | refine below_set ?_ GE215.out) | exact HB.out)) hb); clear HO_11; clear BK215; clear HB; have HO_11 := n0_; have BK215 := n1_; have HB := n2_; clear n0_ n1_ n2_; (try clear hb); (try clear hb2); (try clear hk); (try clear hi); have p227 : 0 ≤ (x14_2 : Int) := of_decide_eq_true (by first | (with_reducible assumption) | assumption); have q227 : x14_2 < (l0.length : Int) := of_decide_eq_true (by first | (with_reducible assumption) | assumption); obtain ⟨ad227, e227, hx227_0, hx227_1, hx227_2, hx227_3, hx227_4, hx227_5, hx227_6, hx227_7, hx227_8⟩ := at_T41 HR0.out x14_2 p227 q227; obtain rfl : ad225 = ad227 := (by injection e227); replace hx227_0 := (HB.out.cell (World.block_lt_of_cell? w _ hx227_0)).trans hx227_0; replace hx227_1 := (HB.out.cell (World.block_lt_of_cell? w _ hx227_1)).trans hx227_1; replace hx227_2 := (HB.out.cell (World.block_lt_of_cell? w _ hx227_2)).trans hx227_2; replace hx227_3 := (HB.out.cell (World.block_lt_of_cell? w _ hx227_3)).trans hx227_3; replace hx227_4 := (HB.out.cell (World.block_lt_of_cell? w _ hx227_4)).trans hx227_4; replace hx227_5 := (HB.out.cell (World.block_lt_of_cell? w _ hx227_5)).trans hx227_5; replace hx227_6 := (HB.out.cell (World.block_lt_of_cell? w _ hx227_6)).trans hx227_6; replace hx227_7 := (HB.out.cell (World.block_lt_of_cell? w _ hx227_7)).trans hx227_7; replace hx227_8 := (HB.out.cell (World.block_lt_of_cell? w _ hx227_8)).trans hx227_8; replace p227 := eq_true p227; replace q227 := eq_true q227) | (go_at_call 31; (with_reducible refine (fastilaw27_holds.calls ((rd_T41 l0 x14_2).f6.f0) ((rd_T41 l0 x14_2).f6.f1) a4 false _ A39.out).mono ?_); rintro e w48 ⟨rfl, hb⟩; have n0_ := Aside0.mk (Kd.R_below (by (with_reducible repeat (first | apply Kd.R_alloc | apply Kd.R_drewN | apply Kd.R_drew)); exact HO_11.out) hb); have n1_ := Aside0.mk (zb BK215.out hb); have n2_ := Aside0.mk (below_step (by repeat (first | (with_reducible first | exact HB.out | apply below_alloc | apply pw_below_drewN | apply below_drew1 | refine below_set ?_ GE215.out) | exact HB.out)) hb); clear HO_11; clear BK215; clear HB; have HO_11 := n0_; have BK215 := n1_; have HB := n2_; clear n0_ n1_ n2_; (try clear hb); (try clear hb2); (try clear hk); (try clear hi))))
                go_ret
                exact ⟨by first | rfl | (simp [errW_none, errW_some] <;> rfl) | (simp [*, errW_none, errW_some] <;> rfl), by repeat (first | (with_reducible first | exact HB.out | apply below_alloc | apply pw_below_drewN | apply below_drew1 | refine below_set ?_ GE215.out) | exact HB.out)⟩
              ·replace c38 := Bool.eq_false_iff.mpr c38
               subst c38
               have H1 : (some true) = some r := by rw [if_neg (show ¬ (false = true) by decide)] at H; exact H
               clear H
               have H := H1
               clear H1
               obtain rfl := Option.some.inj H
               have p225 : 0 ≤ (x14_2 : Int) := of_decide_eq_true (by first | (with_reducible assumption) | assumption)
               have q225 : x14_2 < (l0.length : Int) := of_decide_eq_true (by first | (with_reducible assumption) | assumption)
               obtain ⟨ad225, e225, hx225_0, hx225_1, hx225_2, hx225_3, hx225_4, hx225_5, hx225_6, hx225_7, hx225_8⟩ := at_T41 HR0.out x14_2 p225 q225
               cases e225
               replace hx225_0 := (HB.out.cell (World.block_lt_of_cell? w _ hx225_0)).trans hx225_0
               replace hx225_1 := (HB.out.cell (World.block_lt_of_cell? w _ hx225_1)).trans hx225_1
               replace hx225_2 := (HB.out.cell (World.block_lt_of_cell? w _ hx225_2)).trans hx225_2
               replace hx225_3 := (HB.out.cell (World.block_lt_of_cell? w _ hx225_3)).trans hx225_3
               replace hx225_4 := (HB.out.cell (World.block_lt_of_cell? w _ hx225_4)).trans hx225_4
               replace hx225_5 := (HB.out.cell (World.block_lt_of_cell? w _ hx225_5)).trans hx225_5
               replace hx225_6 := (HB.out.cell (World.block_lt_of_cell? w _ hx225_6)).trans hx225_6
               replace hx225_7 := (HB.out.cell (World.block_lt_of_cell? w _ hx225_7)).trans hx225_7
               replace hx225_8 := (HB.out.cell (World.block_lt_of_cell? w _ hx225_8)).trans hx225_8
               replace p225 := eq_true p225
               replace q225 := eq_true q225
               go_wp2_with (first | (go_at_call 31; (with_reducible refine (fastilaw27_holds.calls ((rd_T41 l0 x14_2).f5.f0) ((rd_T41 l0 x14_2).f5.f1) a3 false _ A37.out).mono ?_); rintro e w49 ⟨rfl, hb⟩; have n0_ := Aside0.mk (Kd.R_below (by (with_reducible repeat (first | apply Kd.R_alloc | apply Kd.R_drewN | apply Kd.R_drew)); exact HO_11.out) hb); have n1_ := Aside0.mk (zb BK215.out hb); have n2_ := Aside0.mk (below_step (by repeat (first | (with_reducible first | exact HB.out | apply below_alloc | apply pw_below_drewN | apply below_drew1 | refine below_set ?_ GE215.out) | exact HB.out)) hb); clear HO_11; clear BK215; clear HB; have HO_11 := n0_; have BK215 := n1_; have HB := n2_; clear n0_ n1_ n2_; (try clear hb); (try clear hb2); (try clear hk); (try clear hi)))
               repeat (go_quiet (first | (go_at_call 31; (with_reducible refine (fastilaw27_holds.calls ((rd_T41 l0 x14_2).f5.f0) ((rd_T41 l0 x14_2).f5.f1) a3 false _ A37.out).mono ?_); rintro e w49 ⟨rfl, hb⟩; have n0_ := Aside0.mk (Kd.R_below (by (with_reducible repeat (first | apply Kd.R_alloc | apply Kd.R_drewN | apply Kd.R_drew)); exact HO_11.out) hb); have n1_ := Aside0.mk (zb BK215.out hb); have n2_ := Aside0.mk (below_step (by repeat (first | (with_reducible first | exact HB.out | apply below_alloc | apply pw_below_drewN | apply below_drew1 | refine below_set ?_ GE215.out) | exact HB.out)) hb); clear HO_11; clear BK215; clear HB; have HO_11 := n0_; have BK215 := n1_; have HB := n2_; clear n0_ n1_ n2_; (try clear hb); (try clear hb2); (try clear hk); (try clear hi))); try go_wp2_with (first | (go_at_call 31; (with_reducible refine (fastilaw27_holds.calls ((rd_T41 l0 x14_2).f5.f0) ((rd_T41 l0 x14_2).f5.f1) a3 false _ A37.out).mono ?_); rintro e w49 ⟨rfl, hb⟩; have n0_ := Aside0.mk (Kd.R_below (by (with_reducible repeat (first | apply Kd.R_alloc | apply Kd.R_drewN | apply Kd.R_drew)); exact HO_11.out) hb); have n1_ := Aside0.mk (zb BK215.out hb); have n2_ := Aside0.mk (below_step (by repeat (first | (with_reducible first | exact HB.out | apply below_alloc | apply pw_below_drewN | apply below_drew1 | refine below_set ?_ GE215.out) | exact HB.out)) hb); clear HO_11; clear BK215; clear HB; have HO_11 := n0_; have BK215 := n1_; have HB := n2_; clear n0_ n1_ n2_; (try clear hb); (try clear hb2); (try clear hk); (try clear hi))))
               go_ret
               exact ⟨by first | rfl | (simp [errW_none, errW_some] <;> rfl) | (simp [*, errW_none, errW_some] <;> rfl), by repeat (first | (with_reducible first | exact HB.out | apply below_alloc | apply pw_below_drewN | apply below_drew1 | refine below_set ?_ GE215.out) | exact HB.out)⟩
             ·rw [if_neg c36] at H
              exact absurd H (by simp)
            ·rw [if_neg c35] at H
             exact absurd H (by simp)
        ·rw [if_neg c28] at H
         have c28b0 : decide (x14_2 < (l0.length : Int)) = false := decide_eq_false c28
         clear c28
         replace H := Option.bind_eq_some_iff.mp H
         obtain ⟨⟨t230, t231, t232, t233, t234, t235⟩, A500, H⟩ := H
         replace H : ((weather_Of.f t217 a1_2 a1_3 a2).bind fun bt237 => (if t235 = 0 then (fastilaw27_WeatherTrue.j3 k2 a3 a4 x13_2 t234 t235 bt237.2.2.2.2.1 bt237.2.2.2.2.2 (bt237.2.2.2.2.2 != 0) t230 t231 t232 t233 bt237.1 bt237.2.1 bt237.2.2.1 bt237.2.2.2.1) else (fastilaw27_WeatherTrue.j3 k2 a3 a4 x13_2 t234 t235 bt237.2.2.2.2.1 bt237.2.2.2.2.2 true t230 t231 t232 t233 bt237.1 bt237.2.1 bt237.2.2.1 bt237.2.2.2.1))) = some r := H
         have A50 := Aside0.mk A500
         clear A500
         replace H := Option.bind_eq_some_iff.mp H
         obtain ⟨⟨t237, t238, t239, t240, t241, t242⟩, A510, H⟩ := H
         replace H : (if t235 = 0 then (fastilaw27_WeatherTrue.j3 k2 a3 a4 x13_2 t234 t235 t241 t242 (t242 != 0) t230 t231 t232 t233 t237 t238 t239 t240) else (fastilaw27_WeatherTrue.j3 k2 a3 a4 x13_2 t234 t235 t241 t242 true t230 t231 t232 t233 t237 t238 t239 t240)) = some r := H
         have A51 := Aside0.mk A510
         clear A510
         have HC52 := Aside0.mk H
         clear H
         have hcz53_0 : wr.cell? ⟨gb215, 0, none⟩ = some (.int .i64 a1_0) := (blk_cell BK215.out 0).trans rfl
         have hcz53_1 : wr.cell? ⟨gb215, 1, none⟩ = some (.int .i64 a1_1) := (blk_cell BK215.out 1).trans rfl
         have hcz53_2 : wr.cell? ⟨gb215, 2, none⟩ = some (.int .i64 a1_2) := (blk_cell BK215.out 2).trans rfl
         have hcz53_3 : wr.cell? ⟨gb215, 3, none⟩ = some (.int .i64 a1_3) := (blk_cell BK215.out 3).trans rfl
         have hcz53_4 : wr.cell? ⟨gb215, 4, none⟩ = some (.int .i64 a1_4) := (blk_cell BK215.out 4).trans rfl
         have hcz53_5 : wr.cell? ⟨gb215, 5, none⟩ = some (.int .i64 a1_5) := (blk_cell BK215.out 5).trans rfl
         have hcz53_6 : wr.cell? ⟨gb215, 6, none⟩ = some (.int .i64 a1_6) := (blk_cell BK215.out 6).trans rfl
         have hcz53_7 : wr.cell? ⟨gb215, 7, none⟩ = some (.int .i64 a1_7) := (blk_cell BK215.out 7).trans rfl
         have hcz53_8 : wr.cell? ⟨gb215, 8, none⟩ = some (.int .i64 a1_8) := (blk_cell BK215.out 8).trans rfl
         have hfz53_0 := blk_frozen BK215.out 0
         have hfz53_1 := blk_frozen BK215.out 1
         have hfz53_2 := blk_frozen BK215.out 2
         have hfz53_3 := blk_frozen BK215.out 3
         have hfz53_4 := blk_frozen BK215.out 4
         have hfz53_5 := blk_frozen BK215.out 5
         have hfz53_6 := blk_frozen BK215.out 6
         have hfz53_7 := blk_frozen BK215.out 7
         have hfz53_8 := blk_frozen BK215.out 8
         go_upto_region 18 with (first | (go_at_call 15; (with_reducible refine (weather_Of.calls _ _ l0 a1_2 a1_3 a2 t230 t231 t232 t233 t234 t235 _ ?side1 ?side2 A50.out).mono ?_); (case side1 => repeat (first | exact (Kd.C_below HR0.out HB.out) | (with_reducible refine Kd.C_alloc ?_ _) | (with_reducible refine Kd.C_drewN ?_ _) | (with_reducible refine Kd.C_drew ?_))); (case side2 => exact HC0.out); rintro e w54 ⟨rfl, hb⟩; have n0_ := Aside0.mk (Kd.R_below (by (with_reducible repeat (first | apply Kd.R_alloc | apply Kd.R_drewN | apply Kd.R_drew)); exact HO_11.out) hb); have n1_ := Aside0.mk (zb BK215.out hb); have n2_ := Aside0.mk (below_step (by repeat (first | (with_reducible first | exact HB.out | apply below_alloc | apply pw_below_drewN | apply below_drew1 | refine below_set ?_ GE215.out) | exact HB.out)) hb); clear HO_11; clear BK215; clear HB; have HO_11 := n0_; have BK215 := n1_; have HB := n2_; clear n0_ n1_ n2_; (try clear hb); (try clear hb2); (try clear hk); (try clear hi)) | ((with_reducible refine gate_dst (N := 15) rfl ?_); refine box_event ?hg (N := 15) ?hd (cs := #[.int .i64 0, .int .i64 0, .int .i64 0, .int .i64 0]) (t := 39) ?hr ?_; (case hd => rfl); (case hg => rfl); (case hr => first | (go_simp; done) | (go_simp; rfl)); intro gb236 hg w55 hbox hb; have n0_ := Aside0.mk (Kd.R_below (by (with_reducible repeat (first | apply Kd.R_alloc | apply Kd.R_drewN | apply Kd.R_drew)); exact HO_11.out) hb); have n1_ := Aside0.mk (zb BK215.out hb); have n2_ := Aside0.mk (below_step (by repeat (first | (with_reducible first | exact HB.out | apply below_alloc | apply pw_below_drewN | apply below_drew1 | refine below_set ?_ GE215.out) | exact HB.out)) hb); have n3_ := Aside0.mk (hbox); have n4_ := Aside0.mk ((by rw [hg]; exact (below_size (by repeat (first | (with_reducible first | exact HB.out | apply below_alloc | apply pw_below_drewN | apply below_drew1 | refine below_set ?_ GE215.out) | exact HB.out))) : w.heap.size ≤ gb236)); have n5_ := Aside0.mk ((by rw [hg]; exact (below_size (by repeat (first | (with_reducible first | exact HB.out | apply below_alloc | apply pw_below_drewN | apply below_drew1 | refine below_set ?_ GE215.out) | exact HB.out))) : w.heap.size ≤ gb236)); have n6_ := Aside0.mk ((by rw [hg]; exact Nat.ne_of_lt (blk_lt (zk BK215.out)) : gb215 ≠ gb236)); have n7_ := Aside0.mk ((by rw [hg]; exact Nat.ne_of_gt (blk_lt (zk BK215.out)) : gb236 ≠ gb215)); clear HO_11; clear BK215; clear HB; have HO_11 := n0_; have BK215 := n1_; have HB := n2_; have BK236 := n3_; have GW236 := n4_; have GE236 := n5_; have NB215_236 := n6_; have NB236_215 := n7_; clear n0_ n1_ n2_ n3_ n4_ n5_ n6_ n7_; clear hb hbox hg; have hnb56 := NB236_215.out; have hnc56 := NB215_236.out; have hcz57_0 : w55.cell? ⟨gb236, 0, none⟩ = some (.int .i64 0) := (blk_cell BK236.out 0).trans rfl; have hcz57_1 : w55.cell? ⟨gb236, 1, none⟩ = some (.int .i64 0) := (blk_cell BK236.out 1).trans rfl; have hcz57_2 : w55.cell? ⟨gb236, 2, none⟩ = some (.int .i64 0) := (blk_cell BK236.out 2).trans rfl; have hcz57_3 : w55.cell? ⟨gb236, 3, none⟩ = some (.int .i64 0) := (blk_cell BK236.out 3).trans rfl; have hfz57_0 := blk_frozen BK236.out 0; have hfz57_1 := blk_frozen BK236.out 1; have hfz57_2 := blk_frozen BK236.out 2; have hfz57_3 := blk_frozen BK236.out 3; have hcz58_0 : w55.cell? ⟨gb215, 0, none⟩ = some (.int .i64 a1_0) := (blk_cell BK215.out 0).trans rfl; have hcz58_1 : w55.cell? ⟨gb215, 1, none⟩ = some (.int .i64 a1_1) := (blk_cell BK215.out 1).trans rfl; have hcz58_2 : w55.cell? ⟨gb215, 2, none⟩ = some (.int .i64 a1_2) := (blk_cell BK215.out 2).trans rfl; have hcz58_3 : w55.cell? ⟨gb215, 3, none⟩ = some (.int .i64 a1_3) := (blk_cell BK215.out 3).trans rfl; have hcz58_4 : w55.cell? ⟨gb215, 4, none⟩ = some (.int .i64 a1_4) := (blk_cell BK215.out 4).trans rfl; have hcz58_5 : w55.cell? ⟨gb215, 5, none⟩ = some (.int .i64 a1_5) := (blk_cell BK215.out 5).trans rfl; have hcz58_6 : w55.cell? ⟨gb215, 6, none⟩ = some (.int .i64 a1_6) := (blk_cell BK215.out 6).trans rfl; have hcz58_7 : w55.cell? ⟨gb215, 7, none⟩ = some (.int .i64 a1_7) := (blk_cell BK215.out 7).trans rfl; have hcz58_8 : w55.cell? ⟨gb215, 8, none⟩ = some (.int .i64 a1_8) := (blk_cell BK215.out 8).trans rfl; have hfz58_0 := blk_frozen BK215.out 0; have hfz58_1 := blk_frozen BK215.out 1; have hfz58_2 := blk_frozen BK215.out 2; have hfz58_3 := blk_frozen BK215.out 3; have hfz58_4 := blk_frozen BK215.out 4; have hfz58_5 := blk_frozen BK215.out 5; have hfz58_6 := blk_frozen BK215.out 6; have hfz58_7 := blk_frozen BK215.out 7; have hfz58_8 := blk_frozen BK215.out 8; obtain ⟨Ao59, co59, eo59⟩ := Kd.R_slice HO_11.out; subst eo59) | (go_at_call 15; (with_reducible refine (weather_Of.calls _ _ t217 a1_2 a1_3 a2 t237 t238 t239 t240 t241 t242 _ ?side1 ?side2 A51.out).mono ?_); (case side1 => refine (Kd.R_reads' (e := 41) (base := w.heap.size) (ok := fun k_ => k_ ≠ gb215) (n := t217.length) (c := co59) ?_).2.2; exact (by (with_reducible repeat (first | apply Kd.R_alloc | apply Kd.R_drewN | apply Kd.R_drew)); exact (Kd.R_mono (Kd.R_far (p := ⟨gb236, 3, none⟩) (Kd.R_far (p := ⟨gb236, 2, none⟩) (Kd.R_far (p := ⟨gb236, 1, none⟩) (Kd.R_far (p := ⟨gb236, 0, none⟩) (Kd.R_types HO_11.out BK236.out (by decide)) (fun _ hk => hk.2) (.int .i64 t230)) (fun _ hk => hk.2) (.int .i64 t231)) (fun _ hk => hk.2) (.int .i64 t232)) (fun _ hk => hk.2) (.int .i64 t233)) (fun _ h_ => h_.1)))); (case side2 => exact (Kd.R_reads' HO_11.out).2.1); rintro e w60 ⟨rfl, hb⟩; have n0_ := Aside0.mk (Kd.R_below (by (with_reducible repeat (first | apply Kd.R_alloc | apply Kd.R_drewN | apply Kd.R_drew)); exact (Kd.R_mono (Kd.R_far (p := ⟨gb236, 3, none⟩) (Kd.R_far (p := ⟨gb236, 2, none⟩) (Kd.R_far (p := ⟨gb236, 1, none⟩) (Kd.R_far (p := ⟨gb236, 0, none⟩) (Kd.R_types HO_11.out BK236.out (by decide)) (fun _ hk => hk.2) (.int .i64 t230)) (fun _ hk => hk.2) (.int .i64 t231)) (fun _ hk => hk.2) (.int .i64 t232)) (fun _ hk => hk.2) (.int .i64 t233)) (fun _ h_ => h_.1))) hb); have n1_ := Aside0.mk (blk_below (g := gb215) (o := .cells #[.int .i64 a1_0, .int .i64 a1_1, .int .i64 a1_2, .int .i64 a1_3, .int .i64 a1_4, .int .i64 a1_5, .int .i64 a1_6, .int .i64 a1_7, .int .i64 a1_8] 41 (0, 0)) (by (with_reducible repeat (first | refine blk_drewN ?_ _ | refine blk_drew ?_ | refine blk_alloc ?_ _)); refine blk_far ?_ NB215_236.out _; (with_reducible repeat (first | refine blk_drewN ?_ _ | refine blk_drew ?_ | refine blk_alloc ?_ _)); refine blk_far ?_ NB215_236.out _; (with_reducible repeat (first | refine blk_drewN ?_ _ | refine blk_drew ?_ | refine blk_alloc ?_ _)); refine blk_far ?_ NB215_236.out _; (with_reducible repeat (first | refine blk_drewN ?_ _ | refine blk_drew ?_ | refine blk_alloc ?_ _)); refine blk_far ?_ NB215_236.out _; (with_reducible repeat (first | refine blk_drewN ?_ _ | refine blk_drew ?_ | refine blk_alloc ?_ _)); exact BK215.out) hb); have n2_ := Aside0.mk (blk_below (g := gb236) (o := .cells #[.int .i64 t230, .int .i64 t231, .int .i64 t232, .int .i64 t233] 39 (0, 0)) (by (with_reducible repeat (first | refine blk_drewN ?_ _ | refine blk_drew ?_ | refine blk_alloc ?_ _)); refine blk_put (cs := #[.int .i64 t230, .int .i64 t231, .int .i64 t232, .int .i64 0]) ?_ 3 _ rfl; (with_reducible repeat (first | refine blk_drewN ?_ _ | refine blk_drew ?_ | refine blk_alloc ?_ _)); refine blk_put (cs := #[.int .i64 t230, .int .i64 t231, .int .i64 0, .int .i64 0]) ?_ 2 _ rfl; (with_reducible repeat (first | refine blk_drewN ?_ _ | refine blk_drew ?_ | refine blk_alloc ?_ _)); refine blk_put (cs := #[.int .i64 t230, .int .i64 0, .int .i64 0, .int .i64 0]) ?_ 1 _ rfl; (with_reducible repeat (first | refine blk_drewN ?_ _ | refine blk_drew ?_ | refine blk_alloc ?_ _)); refine blk_put (cs := #[.int .i64 0, .int .i64 0, .int .i64 0, .int .i64 0]) ?_ 0 _ rfl; (with_reducible repeat (first | refine blk_drewN ?_ _ | refine blk_drew ?_ | refine blk_alloc ?_ _)); exact BK236.out) hb); have n3_ := Aside0.mk (below_step (by repeat (first | (with_reducible first | exact HB.out | apply below_alloc | apply pw_below_drewN | apply below_drew1 | refine below_set ?_ GE215.out | refine below_set ?_ GE236.out) | exact HB.out)) hb); clear HO_11; clear BK215; clear BK236; clear HB; have HO_11 := n0_; have BK215 := n1_; have BK236 := n2_; have HB := n3_; clear n0_ n1_ n2_ n3_; (try clear hb); (try clear hb2); (try clear hk); (try clear hi)) | ((with_reducible refine gate_dst (N := 18) rfl ?_); refine box_event ?hg (N := 18) ?hd (cs := #[.int .i64 0, .int .i64 0, .int .i64 0, .int .i64 0]) (t := 39) ?hr ?_; (case hd => rfl); (case hg => rfl); (case hr => first | (go_simp; done) | (go_simp; rfl)); intro gb243 hg w61 hbox hb; have n0_ := Aside0.mk (Kd.R_below (by (with_reducible repeat (first | apply Kd.R_alloc | apply Kd.R_drewN | apply Kd.R_drew)); exact HO_11.out) hb); have n1_ := Aside0.mk (zb BK215.out hb); have n2_ := Aside0.mk (zb BK236.out hb); have n3_ := Aside0.mk (below_step (by repeat (first | (with_reducible first | exact HB.out | apply below_alloc | apply pw_below_drewN | apply below_drew1 | refine below_set ?_ GE215.out | refine below_set ?_ GE236.out) | exact HB.out)) hb); have n4_ := Aside0.mk (hbox); have n5_ := Aside0.mk ((by rw [hg]; exact (below_size (by repeat (first | (with_reducible first | exact HB.out | apply below_alloc | apply pw_below_drewN | apply below_drew1 | refine below_set ?_ GE215.out | refine below_set ?_ GE236.out) | exact HB.out))) : w.heap.size ≤ gb243)); have n6_ := Aside0.mk ((by rw [hg]; exact (below_size (by repeat (first | (with_reducible first | exact HB.out | apply below_alloc | apply pw_below_drewN | apply below_drew1 | refine below_set ?_ GE215.out | refine below_set ?_ GE236.out) | exact HB.out))) : w.heap.size ≤ gb243)); have n7_ := Aside0.mk ((by rw [hg]; exact Nat.ne_of_lt (blk_lt (zk BK215.out)) : gb215 ≠ gb243)); have n8_ := Aside0.mk ((by rw [hg]; exact Nat.ne_of_gt (blk_lt (zk BK215.out)) : gb243 ≠ gb215)); have n9_ := Aside0.mk ((by rw [hg]; exact Nat.ne_of_lt (blk_lt (zk BK236.out)) : gb236 ≠ gb243)); have n10_ := Aside0.mk ((by rw [hg]; exact Nat.ne_of_gt (blk_lt (zk BK236.out)) : gb243 ≠ gb236)); clear HO_11; clear BK215; clear BK236; clear HB; have HO_11 := n0_; have BK215 := n1_; have BK236 := n2_; have HB := n3_; have BK243 := n4_; have GW243 := n5_; have GE243 := n6_; have NB215_243 := n7_; have NB243_215 := n8_; have NB236_243 := n9_; have NB243_236 := n10_; clear n0_ n1_ n2_ n3_ n4_ n5_ n6_ n7_ n8_ n9_ n10_; clear hb hbox hg; have hnb62 := NB243_215.out; have hnc62 := NB215_243.out; have hnb63 := NB243_236.out; have hnc63 := NB236_243.out; have hcz64_0 : w61.cell? ⟨gb243, 0, none⟩ = some (.int .i64 0) := (blk_cell BK243.out 0).trans rfl; have hcz64_1 : w61.cell? ⟨gb243, 1, none⟩ = some (.int .i64 0) := (blk_cell BK243.out 1).trans rfl; have hcz64_2 : w61.cell? ⟨gb243, 2, none⟩ = some (.int .i64 0) := (blk_cell BK243.out 2).trans rfl; have hcz64_3 : w61.cell? ⟨gb243, 3, none⟩ = some (.int .i64 0) := (blk_cell BK243.out 3).trans rfl; have hfz64_0 := blk_frozen BK243.out 0; have hfz64_1 := blk_frozen BK243.out 1; have hfz64_2 := blk_frozen BK243.out 2; have hfz64_3 := blk_frozen BK243.out 3))
         repeat (go_quiet (first | (go_at_call 15; (with_reducible refine (weather_Of.calls _ _ l0 a1_2 a1_3 a2 t230 t231 t232 t233 t234 t235 _ ?side1 ?side2 A50.out).mono ?_); (case side1 => repeat (first | exact (Kd.C_below HR0.out HB.out) | (with_reducible refine Kd.C_alloc ?_ _) | (with_reducible refine Kd.C_drewN ?_ _) | (with_reducible refine Kd.C_drew ?_))); (case side2 => exact HC0.out); rintro e w54 ⟨rfl, hb⟩; have n0_ := Aside0.mk (Kd.R_below (by (with_reducible repeat (first | apply Kd.R_alloc | apply Kd.R_drewN | apply Kd.R_drew)); exact HO_11.out) hb); have n1_ := Aside0.mk (zb BK215.out hb); have n2_ := Aside0.mk (below_step (by repeat (first | (with_reducible first | exact HB.out | apply below_alloc | apply pw_below_drewN | apply below_drew1 | refine below_set ?_ GE215.out) | exact HB.out)) hb); clear HO_11; clear BK215; clear HB; have HO_11 := n0_; have BK215 := n1_; have HB := n2_; clear n0_ n1_ n2_; (try clear hb); (try clear hb2); (try clear hk); (try clear hi)) | ((with_reducible refine gate_dst (N := 15) rfl ?_); refine box_event ?hg (N := 15) ?hd (cs := #[.int .i64 0, .int .i64 0, .int .i64 0, .int .i64 0]) (t := 39) ?hr ?_; (case hd => rfl); (case hg => rfl); (case hr => first | (go_simp; done) | (go_simp; rfl)); intro gb236 hg w55 hbox hb; have n0_ := Aside0.mk (Kd.R_below (by (with_reducible repeat (first | apply Kd.R_alloc | apply Kd.R_drewN | apply Kd.R_drew)); exact HO_11.out) hb); have n1_ := Aside0.mk (zb BK215.out hb); have n2_ := Aside0.mk (below_step (by repeat (first | (with_reducible first | exact HB.out | apply below_alloc | apply pw_below_drewN | apply below_drew1 | refine below_set ?_ GE215.out) | exact HB.out)) hb); have n3_ := Aside0.mk (hbox); have n4_ := Aside0.mk ((by rw [hg]; exact (below_size (by repeat (first | (with_reducible first | exact HB.out | apply below_alloc | apply pw_below_drewN | apply below_drew1 | refine below_set ?_ GE215.out) | exact HB.out))) : w.heap.size ≤ gb236)); have n5_ := Aside0.mk ((by rw [hg]; exact (below_size (by repeat (first | (with_reducible first | exact HB.out | apply below_alloc | apply pw_below_drewN | apply below_drew1 | refine below_set ?_ GE215.out) | exact HB.out))) : w.heap.size ≤ gb236)); have n6_ := Aside0.mk ((by rw [hg]; exact Nat.ne_of_lt (blk_lt (zk BK215.out)) : gb215 ≠ gb236)); have n7_ := Aside0.mk ((by rw [hg]; exact Nat.ne_of_gt (blk_lt (zk BK215.out)) : gb236 ≠ gb215)); clear HO_11; clear BK215; clear HB; have HO_11 := n0_; have BK215 := n1_; have HB := n2_; have BK236 := n3_; have GW236 := n4_; have GE236 := n5_; have NB215_236 := n6_; have NB236_215 := n7_; clear n0_ n1_ n2_ n3_ n4_ n5_ n6_ n7_; clear hb hbox hg; have hnb56 := NB236_215.out; have hnc56 := NB215_236.out; have hcz57_0 : w55.cell? ⟨gb236, 0, none⟩ = some (.int .i64 0) := (blk_cell BK236.out 0).trans rfl; have hcz57_1 : w55.cell? ⟨gb236, 1, none⟩ = some (.int .i64 0) := (blk_cell BK236.out 1).trans rfl; have hcz57_2 : w55.cell? ⟨gb236, 2, none⟩ = some (.int .i64 0) := (blk_cell BK236.out 2).trans rfl; have hcz57_3 : w55.cell? ⟨gb236, 3, none⟩ = some (.int .i64 0) := (blk_cell BK236.out 3).trans rfl; have hfz57_0 := blk_frozen BK236.out 0; have hfz57_1 := blk_frozen BK236.out 1; have hfz57_2 := blk_frozen BK236.out 2; have hfz57_3 := blk_frozen BK236.out 3; have hcz58_0 : w55.cell? ⟨gb215, 0, none⟩ = some (.int .i64 a1_0) := (blk_cell BK215.out 0).trans rfl; have hcz58_1 : w55.cell? ⟨gb215, 1, none⟩ = some (.int .i64 a1_1) := (blk_cell BK215.out 1).trans rfl; have hcz58_2 : w55.cell? ⟨gb215, 2, none⟩ = some (.int .i64 a1_2) := (blk_cell BK215.out 2).trans rfl; have hcz58_3 : w55.cell? ⟨gb215, 3, none⟩ = some (.int .i64 a1_3) := (blk_cell BK215.out 3).trans rfl; have hcz58_4 : w55.cell? ⟨gb215, 4, none⟩ = some (.int .i64 a1_4) := (blk_cell BK215.out 4).trans rfl; have hcz58_5 : w55.cell? ⟨gb215, 5, none⟩ = some (.int .i64 a1_5) := (blk_cell BK215.out 5).trans rfl; have hcz58_6 : w55.cell? ⟨gb215, 6, none⟩ = some (.int .i64 a1_6) := (blk_cell BK215.out 6).trans rfl; have hcz58_7 : w55.cell? ⟨gb215, 7, none⟩ = some (.int .i64 a1_7) := (blk_cell BK215.out 7).trans rfl; have hcz58_8 : w55.cell? ⟨gb215, 8, none⟩ = some (.int .i64 a1_8) := (blk_cell BK215.out 8).trans rfl; have hfz58_0 := blk_frozen BK215.out 0; have hfz58_1 := blk_frozen BK215.out 1; have hfz58_2 := blk_frozen BK215.out 2; have hfz58_3 := blk_frozen BK215.out 3; have hfz58_4 := blk_frozen BK215.out 4; have hfz58_5 := blk_frozen BK215.out 5; have hfz58_6 := blk_frozen BK215.out 6; have hfz58_7 := blk_frozen BK215.out 7; have hfz58_8 := blk_frozen BK215.out 8; obtain ⟨Ao59, co59, eo59⟩ := Kd.R_slice HO_11.out; subst eo59) | (go_at_call 15; (with_reducible refine (weather_Of.calls _ _ t217 a1_2 a1_3 a2 t237 t238 t239 t240 t241 t242 _ ?side1 ?side2 A51.out).mono ?_); (case side1 => refine (Kd.R_reads' (e := 41) (base := w.heap.size) (ok := fun k_ => k_ ≠ gb215) (n := t217.length) (c := co59) ?_).2.2; exact (by (with_reducible repeat (first | apply Kd.R_alloc | apply Kd.R_drewN | apply Kd.R_drew)); exact (Kd.R_mono (Kd.R_far (p := ⟨gb236, 3, none⟩) (Kd.R_far (p := ⟨gb236, 2, none⟩) (Kd.R_far (p := ⟨gb236, 1, none⟩) (Kd.R_far (p := ⟨gb236, 0, none⟩) (Kd.R_types HO_11.out BK236.out (by decide)) (fun _ hk => hk.2) (.int .i64 t230)) (fun _ hk => hk.2) (.int .i64 t231)) (fun _ hk => hk.2) (.int .i64 t232)) (fun _ hk => hk.2) (.int .i64 t233)) (fun _ h_ => h_.1)))); (case side2 => exact (Kd.R_reads' HO_11.out).2.1); rintro e w60 ⟨rfl, hb⟩; have n0_ := Aside0.mk (Kd.R_below (by (with_reducible repeat (first | apply Kd.R_alloc | apply Kd.R_drewN | apply Kd.R_drew)); exact (Kd.R_mono (Kd.R_far (p := ⟨gb236, 3, none⟩) (Kd.R_far (p := ⟨gb236, 2, none⟩) (Kd.R_far (p := ⟨gb236, 1, none⟩) (Kd.R_far (p := ⟨gb236, 0, none⟩) (Kd.R_types HO_11.out BK236.out (by decide)) (fun _ hk => hk.2) (.int .i64 t230)) (fun _ hk => hk.2) (.int .i64 t231)) (fun _ hk => hk.2) (.int .i64 t232)) (fun _ hk => hk.2) (.int .i64 t233)) (fun _ h_ => h_.1))) hb); have n1_ := Aside0.mk (blk_below (g := gb215) (o := .cells #[.int .i64 a1_0, .int .i64 a1_1, .int .i64 a1_2, .int .i64 a1_3, .int .i64 a1_4, .int .i64 a1_5, .int .i64 a1_6, .int .i64 a1_7, .int .i64 a1_8] 41 (0, 0)) (by (with_reducible repeat (first | refine blk_drewN ?_ _ | refine blk_drew ?_ | refine blk_alloc ?_ _)); refine blk_far ?_ NB215_236.out _; (with_reducible repeat (first | refine blk_drewN ?_ _ | refine blk_drew ?_ | refine blk_alloc ?_ _)); refine blk_far ?_ NB215_236.out _; (with_reducible repeat (first | refine blk_drewN ?_ _ | refine blk_drew ?_ | refine blk_alloc ?_ _)); refine blk_far ?_ NB215_236.out _; (with_reducible repeat (first | refine blk_drewN ?_ _ | refine blk_drew ?_ | refine blk_alloc ?_ _)); refine blk_far ?_ NB215_236.out _; (with_reducible repeat (first | refine blk_drewN ?_ _ | refine blk_drew ?_ | refine blk_alloc ?_ _)); exact BK215.out) hb); have n2_ := Aside0.mk (blk_below (g := gb236) (o := .cells #[.int .i64 t230, .int .i64 t231, .int .i64 t232, .int .i64 t233] 39 (0, 0)) (by (with_reducible repeat (first | refine blk_drewN ?_ _ | refine blk_drew ?_ | refine blk_alloc ?_ _)); refine blk_put (cs := #[.int .i64 t230, .int .i64 t231, .int .i64 t232, .int .i64 0]) ?_ 3 _ rfl; (with_reducible repeat (first | refine blk_drewN ?_ _ | refine blk_drew ?_ | refine blk_alloc ?_ _)); refine blk_put (cs := #[.int .i64 t230, .int .i64 t231, .int .i64 0, .int .i64 0]) ?_ 2 _ rfl; (with_reducible repeat (first | refine blk_drewN ?_ _ | refine blk_drew ?_ | refine blk_alloc ?_ _)); refine blk_put (cs := #[.int .i64 t230, .int .i64 0, .int .i64 0, .int .i64 0]) ?_ 1 _ rfl; (with_reducible repeat (first | refine blk_drewN ?_ _ | refine blk_drew ?_ | refine blk_alloc ?_ _)); refine blk_put (cs := #[.int .i64 0, .int .i64 0, .int .i64 0, .int .i64 0]) ?_ 0 _ rfl; (with_reducible repeat (first | refine blk_drewN ?_ _ | refine blk_drew ?_ | refine blk_alloc ?_ _)); exact BK236.out) hb); have n3_ := Aside0.mk (below_step (by repeat (first | (with_reducible first | exact HB.out | apply below_alloc | apply pw_below_drewN | apply below_drew1 | refine below_set ?_ GE215.out | refine below_set ?_ GE236.out) | exact HB.out)) hb); clear HO_11; clear BK215; clear BK236; clear HB; have HO_11 := n0_; have BK215 := n1_; have BK236 := n2_; have HB := n3_; clear n0_ n1_ n2_ n3_; (try clear hb); (try clear hb2); (try clear hk); (try clear hi)) | ((with_reducible refine gate_dst (N := 18) rfl ?_); refine box_event ?hg (N := 18) ?hd (cs := #[.int .i64 0, .int .i64 0, .int .i64 0, .int .i64 0]) (t := 39) ?hr ?_; (case hd => rfl); (case hg => rfl); (case hr => first | (go_simp; done) | (go_simp; rfl)); intro gb243 hg w61 hbox hb; have n0_ := Aside0.mk (Kd.R_below (by (with_reducible repeat (first | apply Kd.R_alloc | apply Kd.R_drewN | apply Kd.R_drew)); exact HO_11.out) hb); have n1_ := Aside0.mk (zb BK215.out hb); have n2_ := Aside0.mk (zb BK236.out hb); have n3_ := Aside0.mk (below_step (by repeat (first | (with_reducible first | exact HB.out | apply below_alloc | apply pw_below_drewN | apply below_drew1 | refine below_set ?_ GE215.out | refine below_set ?_ GE236.out) | exact HB.out)) hb); have n4_ := Aside0.mk (hbox); have n5_ := Aside0.mk ((by rw [hg]; exact (below_size (by repeat (first | (with_reducible first | exact HB.out | apply below_alloc | apply pw_below_drewN | apply below_drew1 | refine below_set ?_ GE215.out | refine below_set ?_ GE236.out) | exact HB.out))) : w.heap.size ≤ gb243)); have n6_ := Aside0.mk ((by rw [hg]; exact (below_size (by repeat (first | (with_reducible first | exact HB.out | apply below_alloc | apply pw_below_drewN | apply below_drew1 | refine below_set ?_ GE215.out | refine below_set ?_ GE236.out) | exact HB.out))) : w.heap.size ≤ gb243)); have n7_ := Aside0.mk ((by rw [hg]; exact Nat.ne_of_lt (blk_lt (zk BK215.out)) : gb215 ≠ gb243)); have n8_ := Aside0.mk ((by rw [hg]; exact Nat.ne_of_gt (blk_lt (zk BK215.out)) : gb243 ≠ gb215)); have n9_ := Aside0.mk ((by rw [hg]; exact Nat.ne_of_lt (blk_lt (zk BK236.out)) : gb236 ≠ gb243)); have n10_ := Aside0.mk ((by rw [hg]; exact Nat.ne_of_gt (blk_lt (zk BK236.out)) : gb243 ≠ gb236)); clear HO_11; clear BK215; clear BK236; clear HB; have HO_11 := n0_; have BK215 := n1_; have BK236 := n2_; have HB := n3_; have BK243 := n4_; have GW243 := n5_; have GE243 := n6_; have NB215_243 := n7_; have NB243_215 := n8_; have NB236_243 := n9_; have NB243_236 := n10_; clear n0_ n1_ n2_ n3_ n4_ n5_ n6_ n7_ n8_ n9_ n10_; clear hb hbox hg; have hnb62 := NB243_215.out; have hnc62 := NB215_243.out; have hnb63 := NB243_236.out; have hnc63 := NB236_243.out; have hcz64_0 : w61.cell? ⟨gb243, 0, none⟩ = some (.int .i64 0) := (blk_cell BK243.out 0).trans rfl; have hcz64_1 : w61.cell? ⟨gb243, 1, none⟩ = some (.int .i64 0) := (blk_cell BK243.out 1).trans rfl; have hcz64_2 : w61.cell? ⟨gb243, 2, none⟩ = some (.int .i64 0) := (blk_cell BK243.out 2).trans rfl; have hcz64_3 : w61.cell? ⟨gb243, 3, none⟩ = some (.int .i64 0) := (blk_cell BK243.out 3).trans rfl; have hfz64_0 := blk_frozen BK243.out 0; have hfz64_1 := blk_frozen BK243.out 1; have hfz64_2 := blk_frozen BK243.out 2; have hfz64_3 := blk_frozen BK243.out 3)); go_upto_region 18 with (first | (go_at_call 15; (with_reducible refine (weather_Of.calls _ _ l0 a1_2 a1_3 a2 t230 t231 t232 t233 t234 t235 _ ?side1 ?side2 A50.out).mono ?_); (case side1 => repeat (first | exact (Kd.C_below HR0.out HB.out) | (with_reducible refine Kd.C_alloc ?_ _) | (with_reducible refine Kd.C_drewN ?_ _) | (with_reducible refine Kd.C_drew ?_))); (case side2 => exact HC0.out); rintro e w54 ⟨rfl, hb⟩; have n0_ := Aside0.mk (Kd.R_below (by (with_reducible repeat (first | apply Kd.R_alloc | apply Kd.R_drewN | apply Kd.R_drew)); exact HO_11.out) hb); have n1_ := Aside0.mk (zb BK215.out hb); have n2_ := Aside0.mk (below_step (by repeat (first | (with_reducible first | exact HB.out | apply below_alloc | apply pw_below_drewN | apply below_drew1 | refine below_set ?_ GE215.out) | exact HB.out)) hb); clear HO_11; clear BK215; clear HB; have HO_11 := n0_; have BK215 := n1_; have HB := n2_; clear n0_ n1_ n2_; (try clear hb); (try clear hb2); (try clear hk); (try clear hi)) | ((with_reducible refine gate_dst (N := 15) rfl ?_); refine box_event ?hg (N := 15) ?hd (cs := #[.int .i64 0, .int .i64 0, .int .i64 0, .int .i64 0]) (t := 39) ?hr ?_; (case hd => rfl); (case hg => rfl); (case hr => first | (go_simp; done) | (go_simp; rfl)); intro gb236 hg w55 hbox hb; have n0_ := Aside0.mk (Kd.R_below (by (with_reducible repeat (first | apply Kd.R_alloc | apply Kd.R_drewN | apply Kd.R_drew)); exact HO_11.out) hb); have n1_ := Aside0.mk (zb BK215.out hb); have n2_ := Aside0.mk (below_step (by repeat (first | (with_reducible first | exact HB.out | apply below_alloc | apply pw_below_drewN | apply below_drew1 | refine below_set ?_ GE215.out) | exact HB.out)) hb); have n3_ := Aside0.mk (hbox); have n4_ := Aside0.mk ((by rw [hg]; exact (below_size (by repeat (first | (with_reducible first | exact HB.out | apply below_alloc | apply pw_below_drewN | apply below_drew1 | refine below_set ?_ GE215.out) | exact HB.out))) : w.heap.size ≤ gb236)); have n5_ := Aside0.mk ((by rw [hg]; exact (below_size (by repeat (first | (with_reducible first | exact HB.out | apply below_alloc | apply pw_below_drewN | apply below_drew1 | refine below_set ?_ GE215.out) | exact HB.out))) : w.heap.size ≤ gb236)); have n6_ := Aside0.mk ((by rw [hg]; exact Nat.ne_of_lt (blk_lt (zk BK215.out)) : gb215 ≠ gb236)); have n7_ := Aside0.mk ((by rw [hg]; exact Nat.ne_of_gt (blk_lt (zk BK215.out)) : gb236 ≠ gb215)); clear HO_11; clear BK215; clear HB; have HO_11 := n0_; have BK215 := n1_; have HB := n2_; have BK236 := n3_; have GW236 := n4_; have GE236 := n5_; have NB215_236 := n6_; have NB236_215 := n7_; clear n0_ n1_ n2_ n3_ n4_ n5_ n6_ n7_; clear hb hbox hg; have hnb56 := NB236_215.out; have hnc56 := NB215_236.out; have hcz57_0 : w55.cell? ⟨gb236, 0, none⟩ = some (.int .i64 0) := (blk_cell BK236.out 0).trans rfl; have hcz57_1 : w55.cell? ⟨gb236, 1, none⟩ = some (.int .i64 0) := (blk_cell BK236.out 1).trans rfl; have hcz57_2 : w55.cell? ⟨gb236, 2, none⟩ = some (.int .i64 0) := (blk_cell BK236.out 2).trans rfl; have hcz57_3 : w55.cell? ⟨gb236, 3, none⟩ = some (.int .i64 0) := (blk_cell BK236.out 3).trans rfl; have hfz57_0 := blk_frozen BK236.out 0; have hfz57_1 := blk_frozen BK236.out 1; have hfz57_2 := blk_frozen BK236.out 2; have hfz57_3 := blk_frozen BK236.out 3; have hcz58_0 : w55.cell? ⟨gb215, 0, none⟩ = some (.int .i64 a1_0) := (blk_cell BK215.out 0).trans rfl; have hcz58_1 : w55.cell? ⟨gb215, 1, none⟩ = some (.int .i64 a1_1) := (blk_cell BK215.out 1).trans rfl; have hcz58_2 : w55.cell? ⟨gb215, 2, none⟩ = some (.int .i64 a1_2) := (blk_cell BK215.out 2).trans rfl; have hcz58_3 : w55.cell? ⟨gb215, 3, none⟩ = some (.int .i64 a1_3) := (blk_cell BK215.out 3).trans rfl; have hcz58_4 : w55.cell? ⟨gb215, 4, none⟩ = some (.int .i64 a1_4) := (blk_cell BK215.out 4).trans rfl; have hcz58_5 : w55.cell? ⟨gb215, 5, none⟩ = some (.int .i64 a1_5) := (blk_cell BK215.out 5).trans rfl; have hcz58_6 : w55.cell? ⟨gb215, 6, none⟩ = some (.int .i64 a1_6) := (blk_cell BK215.out 6).trans rfl; have hcz58_7 : w55.cell? ⟨gb215, 7, none⟩ = some (.int .i64 a1_7) := (blk_cell BK215.out 7).trans rfl; have hcz58_8 : w55.cell? ⟨gb215, 8, none⟩ = some (.int .i64 a1_8) := (blk_cell BK215.out 8).trans rfl; have hfz58_0 := blk_frozen BK215.out 0; have hfz58_1 := blk_frozen BK215.out 1; have hfz58_2 := blk_frozen BK215.out 2; have hfz58_3 := blk_frozen BK215.out 3; have hfz58_4 := blk_frozen BK215.out 4; have hfz58_5 := blk_frozen BK215.out 5; have hfz58_6 := blk_frozen BK215.out 6; have hfz58_7 := blk_frozen BK215.out 7; have hfz58_8 := blk_frozen BK215.out 8; obtain ⟨Ao59, co59, eo59⟩ := Kd.R_slice HO_11.out; subst eo59) | (go_at_call 15; (with_reducible refine (weather_Of.calls _ _ t217 a1_2 a1_3 a2 t237 t238 t239 t240 t241 t242 _ ?side1 ?side2 A51.out).mono ?_); (case side1 => refine (Kd.R_reads' (e := 41) (base := w.heap.size) (ok := fun k_ => k_ ≠ gb215) (n := t217.length) (c := co59) ?_).2.2; exact (by (with_reducible repeat (first | apply Kd.R_alloc | apply Kd.R_drewN | apply Kd.R_drew)); exact (Kd.R_mono (Kd.R_far (p := ⟨gb236, 3, none⟩) (Kd.R_far (p := ⟨gb236, 2, none⟩) (Kd.R_far (p := ⟨gb236, 1, none⟩) (Kd.R_far (p := ⟨gb236, 0, none⟩) (Kd.R_types HO_11.out BK236.out (by decide)) (fun _ hk => hk.2) (.int .i64 t230)) (fun _ hk => hk.2) (.int .i64 t231)) (fun _ hk => hk.2) (.int .i64 t232)) (fun _ hk => hk.2) (.int .i64 t233)) (fun _ h_ => h_.1)))); (case side2 => exact (Kd.R_reads' HO_11.out).2.1); rintro e w60 ⟨rfl, hb⟩; have n0_ := Aside0.mk (Kd.R_below (by (with_reducible repeat (first | apply Kd.R_alloc | apply Kd.R_drewN | apply Kd.R_drew)); exact (Kd.R_mono (Kd.R_far (p := ⟨gb236, 3, none⟩) (Kd.R_far (p := ⟨gb236, 2, none⟩) (Kd.R_far (p := ⟨gb236, 1, none⟩) (Kd.R_far (p := ⟨gb236, 0, none⟩) (Kd.R_types HO_11.out BK236.out (by decide)) (fun _ hk => hk.2) (.int .i64 t230)) (fun _ hk => hk.2) (.int .i64 t231)) (fun _ hk => hk.2) (.int .i64 t232)) (fun _ hk => hk.2) (.int .i64 t233)) (fun _ h_ => h_.1))) hb); have n1_ := Aside0.mk (blk_below (g := gb215) (o := .cells #[.int .i64 a1_0, .int .i64 a1_1, .int .i64 a1_2, .int .i64 a1_3, .int .i64 a1_4, .int .i64 a1_5, .int .i64 a1_6, .int .i64 a1_7, .int .i64 a1_8] 41 (0, 0)) (by (with_reducible repeat (first | refine blk_drewN ?_ _ | refine blk_drew ?_ | refine blk_alloc ?_ _)); refine blk_far ?_ NB215_236.out _; (with_reducible repeat (first | refine blk_drewN ?_ _ | refine blk_drew ?_ | refine blk_alloc ?_ _)); refine blk_far ?_ NB215_236.out _; (with_reducible repeat (first | refine blk_drewN ?_ _ | refine blk_drew ?_ | refine blk_alloc ?_ _)); refine blk_far ?_ NB215_236.out _; (with_reducible repeat (first | refine blk_drewN ?_ _ | refine blk_drew ?_ | refine blk_alloc ?_ _)); refine blk_far ?_ NB215_236.out _; (with_reducible repeat (first | refine blk_drewN ?_ _ | refine blk_drew ?_ | refine blk_alloc ?_ _)); exact BK215.out) hb); have n2_ := Aside0.mk (blk_below (g := gb236) (o := .cells #[.int .i64 t230, .int .i64 t231, .int .i64 t232, .int .i64 t233] 39 (0, 0)) (by (with_reducible repeat (first | refine blk_drewN ?_ _ | refine blk_drew ?_ | refine blk_alloc ?_ _)); refine blk_put (cs := #[.int .i64 t230, .int .i64 t231, .int .i64 t232, .int .i64 0]) ?_ 3 _ rfl; (with_reducible repeat (first | refine blk_drewN ?_ _ | refine blk_drew ?_ | refine blk_alloc ?_ _)); refine blk_put (cs := #[.int .i64 t230, .int .i64 t231, .int .i64 0, .int .i64 0]) ?_ 2 _ rfl; (with_reducible repeat (first | refine blk_drewN ?_ _ | refine blk_drew ?_ | refine blk_alloc ?_ _)); refine blk_put (cs := #[.int .i64 t230, .int .i64 0, .int .i64 0, .int .i64 0]) ?_ 1 _ rfl; (with_reducible repeat (first | refine blk_drewN ?_ _ | refine blk_drew ?_ | refine blk_alloc ?_ _)); refine blk_put (cs := #[.int .i64 0, .int .i64 0, .int .i64 0, .int .i64 0]) ?_ 0 _ rfl; (with_reducible repeat (first | refine blk_drewN ?_ _ | refine blk_drew ?_ | refine blk_alloc ?_ _)); exact BK236.out) hb); have n3_ := Aside0.mk (below_step (by repeat (first | (with_reducible first | exact HB.out | apply below_alloc | apply pw_below_drewN | apply below_drew1 | refine below_set ?_ GE215.out | refine below_set ?_ GE236.out) | exact HB.out)) hb); clear HO_11; clear BK215; clear BK236; clear HB; have HO_11 := n0_; have BK215 := n1_; have BK236 := n2_; have HB := n3_; clear n0_ n1_ n2_ n3_; (try clear hb); (try clear hb2); (try clear hk); (try clear hi)) | ((with_reducible refine gate_dst (N := 18) rfl ?_); refine box_event ?hg (N := 18) ?hd (cs := #[.int .i64 0, .int .i64 0, .int .i64 0, .int .i64 0]) (t := 39) ?hr ?_; (case hd => rfl); (case hg => rfl); (case hr => first | (go_simp; done) | (go_simp; rfl)); intro gb243 hg w61 hbox hb; have n0_ := Aside0.mk (Kd.R_below (by (with_reducible repeat (first | apply Kd.R_alloc | apply Kd.R_drewN | apply Kd.R_drew)); exact HO_11.out) hb); have n1_ := Aside0.mk (zb BK215.out hb); have n2_ := Aside0.mk (zb BK236.out hb); have n3_ := Aside0.mk (below_step (by repeat (first | (with_reducible first | exact HB.out | apply below_alloc | apply pw_below_drewN | apply below_drew1 | refine below_set ?_ GE215.out | refine below_set ?_ GE236.out) | exact HB.out)) hb); have n4_ := Aside0.mk (hbox); have n5_ := Aside0.mk ((by rw [hg]; exact (below_size (by repeat (first | (with_reducible first | exact HB.out | apply below_alloc | apply pw_below_drewN | apply below_drew1 | refine below_set ?_ GE215.out | refine below_set ?_ GE236.out) | exact HB.out))) : w.heap.size ≤ gb243)); have n6_ := Aside0.mk ((by rw [hg]; exact (below_size (by repeat (first | (with_reducible first | exact HB.out | apply below_alloc | apply pw_below_drewN | apply below_drew1 | refine below_set ?_ GE215.out | refine below_set ?_ GE236.out) | exact HB.out))) : w.heap.size ≤ gb243)); have n7_ := Aside0.mk ((by rw [hg]; exact Nat.ne_of_lt (blk_lt (zk BK215.out)) : gb215 ≠ gb243)); have n8_ := Aside0.mk ((by rw [hg]; exact Nat.ne_of_gt (blk_lt (zk BK215.out)) : gb243 ≠ gb215)); have n9_ := Aside0.mk ((by rw [hg]; exact Nat.ne_of_lt (blk_lt (zk BK236.out)) : gb236 ≠ gb243)); have n10_ := Aside0.mk ((by rw [hg]; exact Nat.ne_of_gt (blk_lt (zk BK236.out)) : gb243 ≠ gb236)); clear HO_11; clear BK215; clear BK236; clear HB; have HO_11 := n0_; have BK215 := n1_; have BK236 := n2_; have HB := n3_; have BK243 := n4_; have GW243 := n5_; have GE243 := n6_; have NB215_243 := n7_; have NB243_215 := n8_; have NB236_243 := n9_; have NB243_236 := n10_; clear n0_ n1_ n2_ n3_ n4_ n5_ n6_ n7_ n8_ n9_ n10_; clear hb hbox hg; have hnb62 := NB243_215.out; have hnc62 := NB215_243.out; have hnb63 := NB243_236.out; have hnc63 := NB236_243.out; have hcz64_0 : w61.cell? ⟨gb243, 0, none⟩ = some (.int .i64 0) := (blk_cell BK243.out 0).trans rfl; have hcz64_1 : w61.cell? ⟨gb243, 1, none⟩ = some (.int .i64 0) := (blk_cell BK243.out 1).trans rfl; have hcz64_2 : w61.cell? ⟨gb243, 2, none⟩ = some (.int .i64 0) := (blk_cell BK243.out 2).trans rfl; have hcz64_3 : w61.cell? ⟨gb243, 3, none⟩ = some (.int .i64 0) := (blk_cell BK243.out 3).trans rfl; have hfz64_0 := blk_frozen BK243.out 0; have hfz64_1 := blk_frozen BK243.out 1; have hfz64_2 := blk_frozen BK243.out 2; have hfz64_3 := blk_frozen BK243.out 3)))
         (try simp only [Act.put, List.setIfInBounds_toArray, List.set_cons_zero, List.set_cons_succ])
         go_cut [128] (fun v128 wc => ∃ (kq : Nat) (x128_51 : Bool), v128 = .bool x128_51 ∧ Aside0 (fastilaw27_WeatherTrue.j3 kq a3 a4 x13_2 t234 t235 t241 t242 x128_51 t230 t231 t232 t233 t237 t238 t239 t240 = some r) ∧ Aside0 (kq ≤ k2) ∧ Aside0 (wc.heap[gb215]? = some (.cells #[.int .i64 a1_0, .int .i64 a1_1, .int .i64 a1_2, .int .i64 a1_3, .int .i64 a1_4, .int .i64 a1_5, .int .i64 a1_6, .int .i64 a1_7, .int .i64 a1_8] 41 (0, 0))) ∧ Aside0 (wc.heap[gb236]? = some (.cells #[.int .i64 t230, .int .i64 t231, .int .i64 t232, .int .i64 t233] 39 (0, 0))) ∧ Aside0 (wc.heap[gb243]? = some (.cells #[.int .i64 t237, .int .i64 t238, .int .i64 t239, .int .i64 t240] 39 (0, 0))) ∧ Aside0 (Below w.heap.size w wc))
         case first =>
          have H := HC52.out
          clear HC52
          by_cases c65 : t235 = 0
          ·rw [if_pos c65] at H
           have c65b0 : (t235 == 0) = true := beq_iff_eq.mpr c65
           have c65b1 : (t235 != 0) = false := bne_eq_false_iff_eq.mpr c65
           clear c65
           (first | rw [c65b0] | (simp only [i64_w, i32_w]; rw [c65b0]) | skip)
           have H' := Aside0.mk H
           clear H
           go_wp2
           repeat (go_quiet (fail); try go_wp2)
           go_meet
           case rel => exact ⟨_, ((t242 != 0)), (by first | rfl | (simp; done) | (simp [*]; done)), H', ⟨by have := HJ11.out; have := HK2.out; first | omega | exact Nat.le_refl _⟩, ⟨by (with_reducible repeat (first | refine blk_drewN ?_ _ | refine blk_drew ?_ | refine blk_alloc ?_ _)); refine blk_far ?_ NB215_243.out _; (with_reducible repeat (first | refine blk_drewN ?_ _ | refine blk_drew ?_ | refine blk_alloc ?_ _)); refine blk_far ?_ NB215_243.out _; (with_reducible repeat (first | refine blk_drewN ?_ _ | refine blk_drew ?_ | refine blk_alloc ?_ _)); refine blk_far ?_ NB215_243.out _; (with_reducible repeat (first | refine blk_drewN ?_ _ | refine blk_drew ?_ | refine blk_alloc ?_ _)); refine blk_far ?_ NB215_243.out _; (with_reducible repeat (first | refine blk_drewN ?_ _ | refine blk_drew ?_ | refine blk_alloc ?_ _)); exact BK215.out⟩, ⟨by (with_reducible repeat (first | refine blk_drewN ?_ _ | refine blk_drew ?_ | refine blk_alloc ?_ _)); refine blk_far ?_ NB236_243.out _; (with_reducible repeat (first | refine blk_drewN ?_ _ | refine blk_drew ?_ | refine blk_alloc ?_ _)); refine blk_far ?_ NB236_243.out _; (with_reducible repeat (first | refine blk_drewN ?_ _ | refine blk_drew ?_ | refine blk_alloc ?_ _)); refine blk_far ?_ NB236_243.out _; (with_reducible repeat (first | refine blk_drewN ?_ _ | refine blk_drew ?_ | refine blk_alloc ?_ _)); refine blk_far ?_ NB236_243.out _; (with_reducible repeat (first | refine blk_drewN ?_ _ | refine blk_drew ?_ | refine blk_alloc ?_ _)); exact BK236.out⟩, ⟨by (with_reducible repeat (first | refine blk_drewN ?_ _ | refine blk_drew ?_ | refine blk_alloc ?_ _)); refine blk_put (cs := #[.int .i64 t237, .int .i64 t238, .int .i64 t239, .int .i64 0]) ?_ 3 _ rfl; (with_reducible repeat (first | refine blk_drewN ?_ _ | refine blk_drew ?_ | refine blk_alloc ?_ _)); refine blk_put (cs := #[.int .i64 t237, .int .i64 t238, .int .i64 0, .int .i64 0]) ?_ 2 _ rfl; (with_reducible repeat (first | refine blk_drewN ?_ _ | refine blk_drew ?_ | refine blk_alloc ?_ _)); refine blk_put (cs := #[.int .i64 t237, .int .i64 0, .int .i64 0, .int .i64 0]) ?_ 1 _ rfl; (with_reducible repeat (first | refine blk_drewN ?_ _ | refine blk_drew ?_ | refine blk_alloc ?_ _)); refine blk_put (cs := #[.int .i64 0, .int .i64 0, .int .i64 0, .int .i64 0]) ?_ 0 _ rfl; (with_reducible repeat (first | refine blk_drewN ?_ _ | refine blk_drew ?_ | refine blk_alloc ?_ _)); exact BK243.out⟩, ⟨by repeat (first | (with_reducible first | exact HB.out | apply below_alloc | apply pw_below_drewN | apply below_drew1 | refine below_set ?_ GE215.out | refine below_set ?_ GE236.out | refine below_set ?_ GE243.out) | exact HB.out)⟩⟩
          ·rw [if_neg c65] at H
           have c65b0 : (t235 == 0) = false := beq_eq_false_iff_ne.mpr c65
           have c65b1 : (t235 != 0) = true := bne_iff_ne.mpr c65
           (first | rw [c65b0] | (simp only [i64_w, i32_w]; rw [c65b0]) | skip)
           have H' := Aside0.mk H
           clear H
           go_wp2
           repeat (go_quiet (fail); try go_wp2)
           go_meet
           case rel => exact ⟨_, (true), (by first | rfl | (simp; done) | (simp [*]; done)), H', ⟨by have := HJ11.out; have := HK2.out; first | omega | exact Nat.le_refl _⟩, ⟨by (with_reducible repeat (first | refine blk_drewN ?_ _ | refine blk_drew ?_ | refine blk_alloc ?_ _)); refine blk_far ?_ NB215_243.out _; (with_reducible repeat (first | refine blk_drewN ?_ _ | refine blk_drew ?_ | refine blk_alloc ?_ _)); refine blk_far ?_ NB215_243.out _; (with_reducible repeat (first | refine blk_drewN ?_ _ | refine blk_drew ?_ | refine blk_alloc ?_ _)); refine blk_far ?_ NB215_243.out _; (with_reducible repeat (first | refine blk_drewN ?_ _ | refine blk_drew ?_ | refine blk_alloc ?_ _)); refine blk_far ?_ NB215_243.out _; (with_reducible repeat (first | refine blk_drewN ?_ _ | refine blk_drew ?_ | refine blk_alloc ?_ _)); exact BK215.out⟩, ⟨by (with_reducible repeat (first | refine blk_drewN ?_ _ | refine blk_drew ?_ | refine blk_alloc ?_ _)); refine blk_far ?_ NB236_243.out _; (with_reducible repeat (first | refine blk_drewN ?_ _ | refine blk_drew ?_ | refine blk_alloc ?_ _)); refine blk_far ?_ NB236_243.out _; (with_reducible repeat (first | refine blk_drewN ?_ _ | refine blk_drew ?_ | refine blk_alloc ?_ _)); refine blk_far ?_ NB236_243.out _; (with_reducible repeat (first | refine blk_drewN ?_ _ | refine blk_drew ?_ | refine blk_alloc ?_ _)); refine blk_far ?_ NB236_243.out _; (with_reducible repeat (first | refine blk_drewN ?_ _ | refine blk_drew ?_ | refine blk_alloc ?_ _)); exact BK236.out⟩, ⟨by (with_reducible repeat (first | refine blk_drewN ?_ _ | refine blk_drew ?_ | refine blk_alloc ?_ _)); refine blk_put (cs := #[.int .i64 t237, .int .i64 t238, .int .i64 t239, .int .i64 0]) ?_ 3 _ rfl; (with_reducible repeat (first | refine blk_drewN ?_ _ | refine blk_drew ?_ | refine blk_alloc ?_ _)); refine blk_put (cs := #[.int .i64 t237, .int .i64 t238, .int .i64 0, .int .i64 0]) ?_ 2 _ rfl; (with_reducible repeat (first | refine blk_drewN ?_ _ | refine blk_drew ?_ | refine blk_alloc ?_ _)); refine blk_put (cs := #[.int .i64 t237, .int .i64 0, .int .i64 0, .int .i64 0]) ?_ 1 _ rfl; (with_reducible repeat (first | refine blk_drewN ?_ _ | refine blk_drew ?_ | refine blk_alloc ?_ _)); refine blk_put (cs := #[.int .i64 0, .int .i64 0, .int .i64 0, .int .i64 0]) ?_ 0 _ rfl; (with_reducible repeat (first | refine blk_drewN ?_ _ | refine blk_drew ?_ | refine blk_alloc ?_ _)); exact BK243.out⟩, ⟨by repeat (first | (with_reducible first | exact HB.out | apply below_alloc | apply pw_below_drewN | apply below_drew1 | refine below_set ?_ GE215.out | refine below_set ?_ GE236.out | refine below_set ?_ GE243.out) | exact HB.out)⟩⟩
         case rest =>
          clear HC52
          try clear c1
          try clear c2
          try clear p2
          try clear q2
          try clear hx2
          try clear c3
          try clear c4
          try clear c5
          try clear c6
          try clear p6
          try clear c7
          try clear c8
          try clear c8b0
          try clear c8b1
          try clear c17
          try clear c17b0
          try clear c17b1
          try clear c19
          try clear p22
          try clear q22
          try clear hx22
          try clear c27
          try clear c28
          try clear c28b0
          try clear c30
          try clear c30b0
          try clear c31
          try clear c31b0
          try clear c31b1
          try clear c34
          try clear c35
          try clear c35b0
          try clear c36
          try clear c36b0
          try clear c38
          try clear c40
          try clear c41
          try clear c56
          try clear c62
          try clear c63
          try clear p64
          try clear c65
          try clear c65b0
          try clear c65b1
          try clear hcz15_0
          try clear hcz15_1
          try clear hcz15_2
          try clear hcz15_3
          try clear hcz15_4
          try clear hcz15_5
          try clear hcz15_6
          try clear hcz15_7
          try clear hcz15_8
          try clear hcz21_0
          try clear hcz21_1
          try clear hcz21_2
          try clear hcz21_3
          try clear hcz21_4
          try clear hcz21_5
          try clear hcz21_6
          try clear hcz21_7
          try clear hcz21_8
          try clear hcz23_0
          try clear hcz23_1
          try clear hcz23_2
          try clear hcz23_3
          try clear hcz23_4
          try clear hcz23_5
          try clear hcz23_6
          try clear hcz23_7
          try clear hcz23_8
          try clear hcz25_0
          try clear hcz25_1
          try clear hcz25_2
          try clear hcz25_3
          try clear hcz25_4
          try clear hcz25_5
          try clear hcz25_6
          try clear hcz25_7
          try clear hcz25_8
          try clear hcz32_0
          try clear hcz32_1
          try clear hcz32_2
          try clear hcz32_3
          try clear hcz32_4
          try clear hcz32_5
          try clear hcz32_6
          try clear hcz32_7
          try clear hcz32_8
          try clear hcz33_0
          try clear hcz33_1
          try clear hcz33_2
          try clear hcz33_3
          try clear hcz33_4
          try clear hcz33_5
          try clear hcz33_6
          try clear hcz33_7
          try clear hcz33_8
          try clear hcz44_0
          try clear hcz44_1
          try clear hcz44_2
          try clear hcz44_3
          try clear hcz44_4
          try clear hcz44_5
          try clear hcz44_6
          try clear hcz44_7
          try clear hcz44_8
          try clear hcz53_0
          try clear hcz53_1
          try clear hcz53_2
          try clear hcz53_3
          try clear hcz53_4
          try clear hcz53_5
          try clear hcz53_6
          try clear hcz53_7
          try clear hcz53_8
          try clear hcz57_0
          try clear hcz57_1
          try clear hcz57_2
          try clear hcz57_3
          try clear hcz58_0
          try clear hcz58_1
          try clear hcz58_2
          try clear hcz58_3
          try clear hcz58_4
          try clear hcz58_5
          try clear hcz58_6
          try clear hcz58_7
          try clear hcz58_8
          try clear hcz64_0
          try clear hcz64_1
          try clear hcz64_2
          try clear hcz64_3
          try clear hfz15_0
          try clear hfz15_1
          try clear hfz15_2
          try clear hfz15_3
          try clear hfz15_4
          try clear hfz15_5
          try clear hfz15_6
          try clear hfz15_7
          try clear hfz15_8
          try clear hfz21_0
          try clear hfz21_1
          try clear hfz21_2
          try clear hfz21_3
          try clear hfz21_4
          try clear hfz21_5
          try clear hfz21_6
          try clear hfz21_7
          try clear hfz21_8
          try clear hfz23_0
          try clear hfz23_1
          try clear hfz23_2
          try clear hfz23_3
          try clear hfz23_4
          try clear hfz23_5
          try clear hfz23_6
          try clear hfz23_7
          try clear hfz23_8
          try clear hfz25_0
          try clear hfz25_1
          try clear hfz25_2
          try clear hfz25_3
          try clear hfz25_4
          try clear hfz25_5
          try clear hfz25_6
          try clear hfz25_7
          try clear hfz25_8
          try clear hfz32_0
          try clear hfz32_1
          try clear hfz32_2
          try clear hfz32_3
          try clear hfz32_4
          try clear hfz32_5
          try clear hfz32_6
          try clear hfz32_7
          try clear hfz32_8
          try clear hfz33_0
          try clear hfz33_1
          try clear hfz33_2
          try clear hfz33_3
          try clear hfz33_4
          try clear hfz33_5
          try clear hfz33_6
          try clear hfz33_7
          try clear hfz33_8
          try clear hfz44_0
          try clear hfz44_1
          try clear hfz44_2
          try clear hfz44_3
          try clear hfz44_4
          try clear hfz44_5
          try clear hfz44_6
          try clear hfz44_7
          try clear hfz44_8
          try clear hfz53_0
          try clear hfz53_1
          try clear hfz53_2
          try clear hfz53_3
          try clear hfz53_4
          try clear hfz53_5
          try clear hfz53_6
          try clear hfz53_7
          try clear hfz53_8
          try clear hfz57_0
          try clear hfz57_1
          try clear hfz57_2
          try clear hfz57_3
          try clear hfz58_0
          try clear hfz58_1
          try clear hfz58_2
          try clear hfz58_3
          try clear hfz58_4
          try clear hfz58_5
          try clear hfz58_6
          try clear hfz58_7
          try clear hfz58_8
          try clear hfz64_0
          try clear hfz64_1
          try clear hfz64_2
          try clear hfz64_3
          try clear hx223_0
          try clear hx223_1
          try clear hx223_2
          try clear hx223_3
          try clear hx223_4
          try clear hx223_5
          try clear hx223_6
          try clear hx223_7
          try clear hx223_8
          try clear hx224_0
          try clear hx224_1
          try clear hx224_2
          try clear hx224_3
          try clear hx224_4
          try clear hx224_5
          try clear hx224_6
          try clear hx224_7
          try clear hx224_8
          try clear hx225_0
          try clear hx225_1
          try clear hx225_2
          try clear hx225_3
          try clear hx225_4
          try clear hx225_5
          try clear hx225_6
          try clear hx225_7
          try clear hx225_8
          try clear hx227_0
          try clear hx227_1
          try clear hx227_2
          try clear hx227_3
          try clear hx227_4
          try clear hx227_5
          try clear hx227_6
          try clear hx227_7
          try clear hx227_8
          try clear hx229_0
          try clear hx229_1
          try clear hx229_2
          try clear hx229_3
          try clear hx229_4
          try clear hx229_5
          try clear hx229_6
          try clear hx229_7
          try clear hx229_8
          try clear p2
          try clear p22
          try clear p223
          try clear p224
          try clear p225
          try clear p227
          try clear p229
          try clear q2
          try clear q22
          try clear q223
          try clear q224
          try clear q225
          try clear q227
          try clear q229
          obtain ⟨kq, x128_51, rfl, HA, HJ51, BK215, BK236, BK243, HB⟩ := hcut
          cases kq with
          | zero => exact absurd HA.out (by simp [fastilaw27_WeatherTrue.j3])
          | succ kj51 =>
           have H := HA.out
           clear HA
           simp only [fastilaw27_WeatherTrue.j3] at H
           by_cases c66 : x128_51 = true
           ·subst c66
            have H1 : (if t235 = 1 then (if t242 = t235 then (if t234 = 0 then (some (t241 == 0)) else (some false)) else (some false)) else (some false)) = some r := by rw [if_pos rfl] at H; exact H
            clear H
            have H := H1
            clear H1
            by_cases c67 : t235 = 1
            ·rw [if_pos c67] at H
             have c67b0 : (t235 == 1) = true := beq_iff_eq.mpr c67
             have c67b1 : (t235 != 1) = false := bne_eq_false_iff_eq.mpr c67
             clear c67
             by_cases c68 : t242 = t235
             ·rw [if_pos c68] at H
              have c68b0 : (t242 == t235) = true := beq_iff_eq.mpr c68
              have c68b1 : (t242 != t235) = false := bne_eq_false_iff_eq.mpr c68
              clear c68
              by_cases c69 : t234 = 0
              ·rw [if_pos c69] at H
               have c69b0 : (t234 == 0) = true := beq_iff_eq.mpr c69
               have c69b1 : (t234 != 0) = false := bne_eq_false_iff_eq.mpr c69
               clear c69
               obtain rfl := Option.some.inj H
               go_wp2
               repeat (go_quiet (fail); try go_wp2)
               go_ret
               exact ⟨by first | rfl | (simp [errW_none, errW_some] <;> rfl) | (simp [*, errW_none, errW_some] <;> rfl), by repeat (first | (with_reducible first | exact HB.out | apply below_alloc | apply pw_below_drewN | apply below_drew1 | refine below_set ?_ GE215.out | refine below_set ?_ GE236.out | refine below_set ?_ GE243.out) | exact HB.out)⟩
              ·rw [if_neg c69] at H
               have c69b0 : (t234 == 0) = false := beq_eq_false_iff_ne.mpr c69
               have c69b1 : (t234 != 0) = true := bne_iff_ne.mpr c69
               obtain rfl := Option.some.inj H
               go_wp2
               repeat (go_quiet (fail); try go_wp2)
               go_ret
               exact ⟨by first | rfl | (simp [errW_none, errW_some] <;> rfl) | (simp [*, errW_none, errW_some] <;> rfl), by repeat (first | (with_reducible first | exact HB.out | apply below_alloc | apply pw_below_drewN | apply below_drew1 | refine below_set ?_ GE215.out | refine below_set ?_ GE236.out | refine below_set ?_ GE243.out) | exact HB.out)⟩
             ·rw [if_neg c68] at H
              have c68b0 : (t242 == t235) = false := beq_eq_false_iff_ne.mpr c68
              have c68b1 : (t242 != t235) = true := bne_iff_ne.mpr c68
              obtain rfl := Option.some.inj H
              go_wp2
              repeat (go_quiet (fail); try go_wp2)
              go_ret
              exact ⟨by first | rfl | (simp [errW_none, errW_some] <;> rfl) | (simp [*, errW_none, errW_some] <;> rfl), by repeat (first | (with_reducible first | exact HB.out | apply below_alloc | apply pw_below_drewN | apply below_drew1 | refine below_set ?_ GE215.out | refine below_set ?_ GE236.out | refine below_set ?_ GE243.out) | exact HB.out)⟩
            ·rw [if_neg c67] at H
             have c67b0 : (t235 == 1) = false := beq_eq_false_iff_ne.mpr c67
             have c67b1 : (t235 != 1) = true := bne_iff_ne.mpr c67
             obtain rfl := Option.some.inj H
             go_wp2
             repeat (go_quiet (fail); try go_wp2)
             go_ret
             exact ⟨by first | rfl | (simp [errW_none, errW_some] <;> rfl) | (simp [*, errW_none, errW_some] <;> rfl), by repeat (first | (with_reducible first | exact HB.out | apply below_alloc | apply pw_below_drewN | apply below_drew1 | refine below_set ?_ GE215.out | refine below_set ?_ GE236.out | refine below_set ?_ GE243.out) | exact HB.out)⟩
           ·replace c66 := Bool.eq_false_iff.mpr c66
            subst c66
            have H1 : ((fastilaw27_holds.f t230 t231 a3).bind fun t244 => (if t244 = true then ((fastilaw27_holds.f t232 t233 a4).bind fun t245 => (if t245 = true then ((fastilaw27_holds.f t237 t238 a3).bind fun t246 => (if t246 = true then ((fastilaw27_holds.f t239 t240 a4).bind fun t247 => (fastilaw27_WeatherTrue.j4 kj51 x13_2 (!t247) t230 t231 t232 t233 t237 t238 t239 t240)) else (fastilaw27_WeatherTrue.j4 kj51 x13_2 true t230 t231 t232 t233 t237 t238 t239 t240))) else (fastilaw27_WeatherTrue.j4 kj51 x13_2 true t230 t231 t232 t233 t237 t238 t239 t240))) else (fastilaw27_WeatherTrue.j4 kj51 x13_2 true t230 t231 t232 t233 t237 t238 t239 t240))) = some r := by rw [if_neg (show ¬ (false = true) by decide)] at H; exact H
            clear H
            have H := H1
            clear H1
            have HC70 := Aside0.mk H
            clear H
            go_upto_region 20 with (fail)
            repeat (go_quiet (fail); go_upto_region 20 with (fail))
            go_cut [169] (fun v169 wc => ∃ (kq : Nat) (x169_69 : Bool), v169 = .bool x169_69 ∧ Aside0 (fastilaw27_WeatherTrue.j4 kq x13_2 x169_69 t230 t231 t232 t233 t237 t238 t239 t240 = some r) ∧ Aside0 (kq ≤ kj51) ∧ Aside0 (wc.heap[gb215]? = some (.cells #[.int .i64 a1_0, .int .i64 a1_1, .int .i64 a1_2, .int .i64 a1_3, .int .i64 a1_4, .int .i64 a1_5, .int .i64 a1_6, .int .i64 a1_7, .int .i64 a1_8] 41 (0, 0))) ∧ Aside0 (wc.heap[gb236]? = some (.cells #[.int .i64 t230, .int .i64 t231, .int .i64 t232, .int .i64 t233] 39 (0, 0))) ∧ Aside0 (wc.heap[gb243]? = some (.cells #[.int .i64 t237, .int .i64 t238, .int .i64 t239, .int .i64 t240] 39 (0, 0))) ∧ Aside0 (Below w.heap.size w wc))
            case first =>
             have H := HC70.out
             clear HC70
             replace H := Option.bind_eq_some_iff.mp H
             obtain ⟨t244, A710, H⟩ := H
             replace H : (if t244 = true then ((fastilaw27_holds.f t232 t233 a4).bind fun t245 => (if t245 = true then ((fastilaw27_holds.f t237 t238 a3).bind fun t246 => (if t246 = true then ((fastilaw27_holds.f t239 t240 a4).bind fun t247 => (fastilaw27_WeatherTrue.j4 kj51 x13_2 (!t247) t230 t231 t232 t233 t237 t238 t239 t240)) else (fastilaw27_WeatherTrue.j4 kj51 x13_2 true t230 t231 t232 t233 t237 t238 t239 t240))) else (fastilaw27_WeatherTrue.j4 kj51 x13_2 true t230 t231 t232 t233 t237 t238 t239 t240))) else (fastilaw27_WeatherTrue.j4 kj51 x13_2 true t230 t231 t232 t233 t237 t238 t239 t240)) = some r := H
             have A71 := Aside0.mk A710
             clear A710
             by_cases c72 : t244 = true
             ·subst c72
              have H1 : ((fastilaw27_holds.f t232 t233 a4).bind fun t245 => (if t245 = true then ((fastilaw27_holds.f t237 t238 a3).bind fun t246 => (if t246 = true then ((fastilaw27_holds.f t239 t240 a4).bind fun t247 => (fastilaw27_WeatherTrue.j4 kj51 x13_2 (!t247) t230 t231 t232 t233 t237 t238 t239 t240)) else (fastilaw27_WeatherTrue.j4 kj51 x13_2 true t230 t231 t232 t233 t237 t238 t239 t240))) else (fastilaw27_WeatherTrue.j4 kj51 x13_2 true t230 t231 t232 t233 t237 t238 t239 t240))) = some r := by rw [if_pos rfl] at H; exact H
              clear H
              have H := H1
              clear H1
              replace H := Option.bind_eq_some_iff.mp H
              obtain ⟨t245, A730, H⟩ := H
              replace H : (if t245 = true then ((fastilaw27_holds.f t237 t238 a3).bind fun t246 => (if t246 = true then ((fastilaw27_holds.f t239 t240 a4).bind fun t247 => (fastilaw27_WeatherTrue.j4 kj51 x13_2 (!t247) t230 t231 t232 t233 t237 t238 t239 t240)) else (fastilaw27_WeatherTrue.j4 kj51 x13_2 true t230 t231 t232 t233 t237 t238 t239 t240))) else (fastilaw27_WeatherTrue.j4 kj51 x13_2 true t230 t231 t232 t233 t237 t238 t239 t240)) = some r := H
              have A73 := Aside0.mk A730
              clear A730
              by_cases c74 : t245 = true
              ·subst c74
               have H1 : ((fastilaw27_holds.f t237 t238 a3).bind fun t246 => (if t246 = true then ((fastilaw27_holds.f t239 t240 a4).bind fun t247 => (fastilaw27_WeatherTrue.j4 kj51 x13_2 (!t247) t230 t231 t232 t233 t237 t238 t239 t240)) else (fastilaw27_WeatherTrue.j4 kj51 x13_2 true t230 t231 t232 t233 t237 t238 t239 t240))) = some r := by rw [if_pos rfl] at H; exact H
               clear H
               have H := H1
               clear H1
               replace H := Option.bind_eq_some_iff.mp H
               obtain ⟨t246, A750, H⟩ := H
               replace H : (if t246 = true then ((fastilaw27_holds.f t239 t240 a4).bind fun t247 => (fastilaw27_WeatherTrue.j4 kj51 x13_2 (!t247) t230 t231 t232 t233 t237 t238 t239 t240)) else (fastilaw27_WeatherTrue.j4 kj51 x13_2 true t230 t231 t232 t233 t237 t238 t239 t240)) = some r := H
               have A75 := Aside0.mk A750
               clear A750
               by_cases c76 : t246 = true
               ·subst c76
                have H1 : ((fastilaw27_holds.f t239 t240 a4).bind fun t247 => (fastilaw27_WeatherTrue.j4 kj51 x13_2 (!t247) t230 t231 t232 t233 t237 t238 t239 t240)) = some r := by rw [if_pos rfl] at H; exact H
                clear H
                have H := H1
                clear H1
                replace H := Option.bind_eq_some_iff.mp H
                obtain ⟨t247, A770, H⟩ := H
                replace H : (fastilaw27_WeatherTrue.j4 kj51 x13_2 (!t247) t230 t231 t232 t233 t237 t238 t239 t240) = some r := H
                have A77 := Aside0.mk A770
                clear A770
                have H' := Aside0.mk H
                clear H
                have hnb78 := NB236_215.out
                have hnc78 := NB215_236.out
                have hnb79 := NB236_243.out
                have hnc79 := NB243_236.out
                have hcz80_0 : wc.cell? ⟨gb236, 0, none⟩ = some (.int .i64 t230) := (blk_cell BK236.out 0).trans rfl
                have hcz80_1 : wc.cell? ⟨gb236, 1, none⟩ = some (.int .i64 t231) := (blk_cell BK236.out 1).trans rfl
                have hcz80_2 : wc.cell? ⟨gb236, 2, none⟩ = some (.int .i64 t232) := (blk_cell BK236.out 2).trans rfl
                have hcz80_3 : wc.cell? ⟨gb236, 3, none⟩ = some (.int .i64 t233) := (blk_cell BK236.out 3).trans rfl
                have hfz80_0 := blk_frozen BK236.out 0
                have hfz80_1 := blk_frozen BK236.out 1
                have hfz80_2 := blk_frozen BK236.out 2
                have hfz80_3 := blk_frozen BK236.out 3
                go_wp2_with (first | (go_at_call 31; (with_reducible refine (fastilaw27_holds.calls t230 t231 a3 true _ A71.out).mono ?_); rintro e w81 ⟨rfl, hb⟩; have n0_ := Aside0.mk (zb BK215.out hb); have n1_ := Aside0.mk (zb BK236.out hb); have n2_ := Aside0.mk (zb BK243.out hb); have n3_ := Aside0.mk (below_step (by repeat (first | (with_reducible first | exact HB.out | apply below_alloc | apply pw_below_drewN | apply below_drew1 | refine below_set ?_ GE215.out | refine below_set ?_ GE236.out | refine below_set ?_ GE243.out) | exact HB.out)) hb); clear BK215; clear BK236; clear BK243; clear HB; have BK215 := n0_; have BK236 := n1_; have BK243 := n2_; have HB := n3_; clear n0_ n1_ n2_ n3_; (try clear hb); (try clear hb2); (try clear hk); (try clear hi); have hcz82_0 : w81.cell? ⟨gb236, 0, none⟩ = some (.int .i64 t230) := (blk_cell BK236.out 0).trans rfl; have hcz82_1 : w81.cell? ⟨gb236, 1, none⟩ = some (.int .i64 t231) := (blk_cell BK236.out 1).trans rfl; have hcz82_2 : w81.cell? ⟨gb236, 2, none⟩ = some (.int .i64 t232) := (blk_cell BK236.out 2).trans rfl; have hcz82_3 : w81.cell? ⟨gb236, 3, none⟩ = some (.int .i64 t233) := (blk_cell BK236.out 3).trans rfl; have hfz82_0 := blk_frozen BK236.out 0; have hfz82_1 := blk_frozen BK236.out 1; have hfz82_2 := blk_frozen BK236.out 2; have hfz82_3 := blk_frozen BK236.out 3) | (go_at_call 31; (with_reducible refine (fastilaw27_holds.calls t232 t233 a4 true _ A73.out).mono ?_); rintro e w83 ⟨rfl, hb⟩; have n0_ := Aside0.mk (zb BK215.out hb); have n1_ := Aside0.mk (zb BK236.out hb); have n2_ := Aside0.mk (zb BK243.out hb); have n3_ := Aside0.mk (below_step (by repeat (first | (with_reducible first | exact HB.out | apply below_alloc | apply pw_below_drewN | apply below_drew1 | refine below_set ?_ GE215.out | refine below_set ?_ GE236.out | refine below_set ?_ GE243.out) | exact HB.out)) hb); clear BK215; clear BK236; clear BK243; clear HB; have BK215 := n0_; have BK236 := n1_; have BK243 := n2_; have HB := n3_; clear n0_ n1_ n2_ n3_; (try clear hb); (try clear hb2); (try clear hk); (try clear hi); have hnb84 := NB243_215.out; have hnc84 := NB215_243.out; have hcz85_0 : w83.cell? ⟨gb243, 0, none⟩ = some (.int .i64 t237) := (blk_cell BK243.out 0).trans rfl; have hcz85_1 : w83.cell? ⟨gb243, 1, none⟩ = some (.int .i64 t238) := (blk_cell BK243.out 1).trans rfl; have hcz85_2 : w83.cell? ⟨gb243, 2, none⟩ = some (.int .i64 t239) := (blk_cell BK243.out 2).trans rfl; have hcz85_3 : w83.cell? ⟨gb243, 3, none⟩ = some (.int .i64 t240) := (blk_cell BK243.out 3).trans rfl; have hfz85_0 := blk_frozen BK243.out 0; have hfz85_1 := blk_frozen BK243.out 1; have hfz85_2 := blk_frozen BK243.out 2; have hfz85_3 := blk_frozen BK243.out 3) | (go_at_call 31; (with_reducible refine (fastilaw27_holds.calls t237 t238 a3 true _ A75.out).mono ?_); rintro e w86 ⟨rfl, hb⟩; have n0_ := Aside0.mk (zb BK215.out hb); have n1_ := Aside0.mk (zb BK236.out hb); have n2_ := Aside0.mk (zb BK243.out hb); have n3_ := Aside0.mk (below_step (by repeat (first | (with_reducible first | exact HB.out | apply below_alloc | apply pw_below_drewN | apply below_drew1 | refine below_set ?_ GE215.out | refine below_set ?_ GE236.out | refine below_set ?_ GE243.out) | exact HB.out)) hb); clear BK215; clear BK236; clear BK243; clear HB; have BK215 := n0_; have BK236 := n1_; have BK243 := n2_; have HB := n3_; clear n0_ n1_ n2_ n3_; (try clear hb); (try clear hb2); (try clear hk); (try clear hi); have hcz87_0 : w86.cell? ⟨gb243, 0, none⟩ = some (.int .i64 t237) := (blk_cell BK243.out 0).trans rfl; have hcz87_1 : w86.cell? ⟨gb243, 1, none⟩ = some (.int .i64 t238) := (blk_cell BK243.out 1).trans rfl; have hcz87_2 : w86.cell? ⟨gb243, 2, none⟩ = some (.int .i64 t239) := (blk_cell BK243.out 2).trans rfl; have hcz87_3 : w86.cell? ⟨gb243, 3, none⟩ = some (.int .i64 t240) := (blk_cell BK243.out 3).trans rfl; have hfz87_0 := blk_frozen BK243.out 0; have hfz87_1 := blk_frozen BK243.out 1; have hfz87_2 := blk_frozen BK243.out 2; have hfz87_3 := blk_frozen BK243.out 3) | (go_at_call 31; (with_reducible refine (fastilaw27_holds.calls t239 t240 a4 t247 _ A77.out).mono ?_); rintro e w88 ⟨rfl, hb⟩; have n0_ := Aside0.mk (zb BK215.out hb); have n1_ := Aside0.mk (zb BK236.out hb); have n2_ := Aside0.mk (zb BK243.out hb); have n3_ := Aside0.mk (below_step (by repeat (first | (with_reducible first | exact HB.out | apply below_alloc | apply pw_below_drewN | apply below_drew1 | refine below_set ?_ GE215.out | refine below_set ?_ GE236.out | refine below_set ?_ GE243.out) | exact HB.out)) hb); clear BK215; clear BK236; clear BK243; clear HB; have BK215 := n0_; have BK236 := n1_; have BK243 := n2_; have HB := n3_; clear n0_ n1_ n2_ n3_; (try clear hb); (try clear hb2); (try clear hk); (try clear hi)))
                repeat (go_quiet (first | (go_at_call 31; (with_reducible refine (fastilaw27_holds.calls t230 t231 a3 true _ A71.out).mono ?_); rintro e w81 ⟨rfl, hb⟩; have n0_ := Aside0.mk (zb BK215.out hb); have n1_ := Aside0.mk (zb BK236.out hb); have n2_ := Aside0.mk (zb BK243.out hb); have n3_ := Aside0.mk (below_step (by repeat (first | (with_reducible first | exact HB.out | apply below_alloc | apply pw_below_drewN | apply below_drew1 | refine below_set ?_ GE215.out | refine below_set ?_ GE236.out | refine below_set ?_ GE243.out) | exact HB.out)) hb); clear BK215; clear BK236; clear BK243; clear HB; have BK215 := n0_; have BK236 := n1_; have BK243 := n2_; have HB := n3_; clear n0_ n1_ n2_ n3_; (try clear hb); (try clear hb2); (try clear hk); (try clear hi); have hcz82_0 : w81.cell? ⟨gb236, 0, none⟩ = some (.int .i64 t230) := (blk_cell BK236.out 0).trans rfl; have hcz82_1 : w81.cell? ⟨gb236, 1, none⟩ = some (.int .i64 t231) := (blk_cell BK236.out 1).trans rfl; have hcz82_2 : w81.cell? ⟨gb236, 2, none⟩ = some (.int .i64 t232) := (blk_cell BK236.out 2).trans rfl; have hcz82_3 : w81.cell? ⟨gb236, 3, none⟩ = some (.int .i64 t233) := (blk_cell BK236.out 3).trans rfl; have hfz82_0 := blk_frozen BK236.out 0; have hfz82_1 := blk_frozen BK236.out 1; have hfz82_2 := blk_frozen BK236.out 2; have hfz82_3 := blk_frozen BK236.out 3) | (go_at_call 31; (with_reducible refine (fastilaw27_holds.calls t232 t233 a4 true _ A73.out).mono ?_); rintro e w83 ⟨rfl, hb⟩; have n0_ := Aside0.mk (zb BK215.out hb); have n1_ := Aside0.mk (zb BK236.out hb); have n2_ := Aside0.mk (zb BK243.out hb); have n3_ := Aside0.mk (below_step (by repeat (first | (with_reducible first | exact HB.out | apply below_alloc | apply pw_below_drewN | apply below_drew1 | refine below_set ?_ GE215.out | refine below_set ?_ GE236.out | refine below_set ?_ GE243.out) | exact HB.out)) hb); clear BK215; clear BK236; clear BK243; clear HB; have BK215 := n0_; have BK236 := n1_; have BK243 := n2_; have HB := n3_; clear n0_ n1_ n2_ n3_; (try clear hb); (try clear hb2); (try clear hk); (try clear hi); have hnb84 := NB243_215.out; have hnc84 := NB215_243.out; have hcz85_0 : w83.cell? ⟨gb243, 0, none⟩ = some (.int .i64 t237) := (blk_cell BK243.out 0).trans rfl; have hcz85_1 : w83.cell? ⟨gb243, 1, none⟩ = some (.int .i64 t238) := (blk_cell BK243.out 1).trans rfl; have hcz85_2 : w83.cell? ⟨gb243, 2, none⟩ = some (.int .i64 t239) := (blk_cell BK243.out 2).trans rfl; have hcz85_3 : w83.cell? ⟨gb243, 3, none⟩ = some (.int .i64 t240) := (blk_cell BK243.out 3).trans rfl; have hfz85_0 := blk_frozen BK243.out 0; have hfz85_1 := blk_frozen BK243.out 1; have hfz85_2 := blk_frozen BK243.out 2; have hfz85_3 := blk_frozen BK243.out 3) | (go_at_call 31; (with_reducible refine (fastilaw27_holds.calls t237 t238 a3 true _ A75.out).mono ?_); rintro e w86 ⟨rfl, hb⟩; have n0_ := Aside0.mk (zb BK215.out hb); have n1_ := Aside0.mk (zb BK236.out hb); have n2_ := Aside0.mk (zb BK243.out hb); have n3_ := Aside0.mk (below_step (by repeat (first | (with_reducible first | exact HB.out | apply below_alloc | apply pw_below_drewN | apply below_drew1 | refine below_set ?_ GE215.out | refine below_set ?_ GE236.out | refine below_set ?_ GE243.out) | exact HB.out)) hb); clear BK215; clear BK236; clear BK243; clear HB; have BK215 := n0_; have BK236 := n1_; have BK243 := n2_; have HB := n3_; clear n0_ n1_ n2_ n3_; (try clear hb); (try clear hb2); (try clear hk); (try clear hi); have hcz87_0 : w86.cell? ⟨gb243, 0, none⟩ = some (.int .i64 t237) := (blk_cell BK243.out 0).trans rfl; have hcz87_1 : w86.cell? ⟨gb243, 1, none⟩ = some (.int .i64 t238) := (blk_cell BK243.out 1).trans rfl; have hcz87_2 : w86.cell? ⟨gb243, 2, none⟩ = some (.int .i64 t239) := (blk_cell BK243.out 2).trans rfl; have hcz87_3 : w86.cell? ⟨gb243, 3, none⟩ = some (.int .i64 t240) := (blk_cell BK243.out 3).trans rfl; have hfz87_0 := blk_frozen BK243.out 0; have hfz87_1 := blk_frozen BK243.out 1; have hfz87_2 := blk_frozen BK243.out 2; have hfz87_3 := blk_frozen BK243.out 3) | (go_at_call 31; (with_reducible refine (fastilaw27_holds.calls t239 t240 a4 t247 _ A77.out).mono ?_); rintro e w88 ⟨rfl, hb⟩; have n0_ := Aside0.mk (zb BK215.out hb); have n1_ := Aside0.mk (zb BK236.out hb); have n2_ := Aside0.mk (zb BK243.out hb); have n3_ := Aside0.mk (below_step (by repeat (first | (with_reducible first | exact HB.out | apply below_alloc | apply pw_below_drewN | apply below_drew1 | refine below_set ?_ GE215.out | refine below_set ?_ GE236.out | refine below_set ?_ GE243.out) | exact HB.out)) hb); clear BK215; clear BK236; clear BK243; clear HB; have BK215 := n0_; have BK236 := n1_; have BK243 := n2_; have HB := n3_; clear n0_ n1_ n2_ n3_; (try clear hb); (try clear hb2); (try clear hk); (try clear hi))); try go_wp2_with (first | (go_at_call 31; (with_reducible refine (fastilaw27_holds.calls t230 t231 a3 true _ A71.out).mono ?_); rintro e w81 ⟨rfl, hb⟩; have n0_ := Aside0.mk (zb BK215.out hb); have n1_ := Aside0.mk (zb BK236.out hb); have n2_ := Aside0.mk (zb BK243.out hb); have n3_ := Aside0.mk (below_step (by repeat (first | (with_reducible first | exact HB.out | apply below_alloc | apply pw_below_drewN | apply below_drew1 | refine below_set ?_ GE215.out | refine below_set ?_ GE236.out | refine below_set ?_ GE243.out) | exact HB.out)) hb); clear BK215; clear BK236; clear BK243; clear HB; have BK215 := n0_; have BK236 := n1_; have BK243 := n2_; have HB := n3_; clear n0_ n1_ n2_ n3_; (try clear hb); (try clear hb2); (try clear hk); (try clear hi); have hcz82_0 : w81.cell? ⟨gb236, 0, none⟩ = some (.int .i64 t230) := (blk_cell BK236.out 0).trans rfl; have hcz82_1 : w81.cell? ⟨gb236, 1, none⟩ = some (.int .i64 t231) := (blk_cell BK236.out 1).trans rfl; have hcz82_2 : w81.cell? ⟨gb236, 2, none⟩ = some (.int .i64 t232) := (blk_cell BK236.out 2).trans rfl; have hcz82_3 : w81.cell? ⟨gb236, 3, none⟩ = some (.int .i64 t233) := (blk_cell BK236.out 3).trans rfl; have hfz82_0 := blk_frozen BK236.out 0; have hfz82_1 := blk_frozen BK236.out 1; have hfz82_2 := blk_frozen BK236.out 2; have hfz82_3 := blk_frozen BK236.out 3) | (go_at_call 31; (with_reducible refine (fastilaw27_holds.calls t232 t233 a4 true _ A73.out).mono ?_); rintro e w83 ⟨rfl, hb⟩; have n0_ := Aside0.mk (zb BK215.out hb); have n1_ := Aside0.mk (zb BK236.out hb); have n2_ := Aside0.mk (zb BK243.out hb); have n3_ := Aside0.mk (below_step (by repeat (first | (with_reducible first | exact HB.out | apply below_alloc | apply pw_below_drewN | apply below_drew1 | refine below_set ?_ GE215.out | refine below_set ?_ GE236.out | refine below_set ?_ GE243.out) | exact HB.out)) hb); clear BK215; clear BK236; clear BK243; clear HB; have BK215 := n0_; have BK236 := n1_; have BK243 := n2_; have HB := n3_; clear n0_ n1_ n2_ n3_; (try clear hb); (try clear hb2); (try clear hk); (try clear hi); have hnb84 := NB243_215.out; have hnc84 := NB215_243.out; have hcz85_0 : w83.cell? ⟨gb243, 0, none⟩ = some (.int .i64 t237) := (blk_cell BK243.out 0).trans rfl; have hcz85_1 : w83.cell? ⟨gb243, 1, none⟩ = some (.int .i64 t238) := (blk_cell BK243.out 1).trans rfl; have hcz85_2 : w83.cell? ⟨gb243, 2, none⟩ = some (.int .i64 t239) := (blk_cell BK243.out 2).trans rfl; have hcz85_3 : w83.cell? ⟨gb243, 3, none⟩ = some (.int .i64 t240) := (blk_cell BK243.out 3).trans rfl; have hfz85_0 := blk_frozen BK243.out 0; have hfz85_1 := blk_frozen BK243.out 1; have hfz85_2 := blk_frozen BK243.out 2; have hfz85_3 := blk_frozen BK243.out 3) | (go_at_call 31; (with_reducible refine (fastilaw27_holds.calls t237 t238 a3 true _ A75.out).mono ?_); rintro e w86 ⟨rfl, hb⟩; have n0_ := Aside0.mk (zb BK215.out hb); have n1_ := Aside0.mk (zb BK236.out hb); have n2_ := Aside0.mk (zb BK243.out hb); have n3_ := Aside0.mk (below_step (by repeat (first | (with_reducible first | exact HB.out | apply below_alloc | apply pw_below_drewN | apply below_drew1 | refine below_set ?_ GE215.out | refine below_set ?_ GE236.out | refine below_set ?_ GE243.out) | exact HB.out)) hb); clear BK215; clear BK236; clear BK243; clear HB; have BK215 := n0_; have BK236 := n1_; have BK243 := n2_; have HB := n3_; clear n0_ n1_ n2_ n3_; (try clear hb); (try clear hb2); (try clear hk); (try clear hi); have hcz87_0 : w86.cell? ⟨gb243, 0, none⟩ = some (.int .i64 t237) := (blk_cell BK243.out 0).trans rfl; have hcz87_1 : w86.cell? ⟨gb243, 1, none⟩ = some (.int .i64 t238) := (blk_cell BK243.out 1).trans rfl; have hcz87_2 : w86.cell? ⟨gb243, 2, none⟩ = some (.int .i64 t239) := (blk_cell BK243.out 2).trans rfl; have hcz87_3 : w86.cell? ⟨gb243, 3, none⟩ = some (.int .i64 t240) := (blk_cell BK243.out 3).trans rfl; have hfz87_0 := blk_frozen BK243.out 0; have hfz87_1 := blk_frozen BK243.out 1; have hfz87_2 := blk_frozen BK243.out 2; have hfz87_3 := blk_frozen BK243.out 3) | (go_at_call 31; (with_reducible refine (fastilaw27_holds.calls t239 t240 a4 t247 _ A77.out).mono ?_); rintro e w88 ⟨rfl, hb⟩; have n0_ := Aside0.mk (zb BK215.out hb); have n1_ := Aside0.mk (zb BK236.out hb); have n2_ := Aside0.mk (zb BK243.out hb); have n3_ := Aside0.mk (below_step (by repeat (first | (with_reducible first | exact HB.out | apply below_alloc | apply pw_below_drewN | apply below_drew1 | refine below_set ?_ GE215.out | refine below_set ?_ GE236.out | refine below_set ?_ GE243.out) | exact HB.out)) hb); clear BK215; clear BK236; clear BK243; clear HB; have BK215 := n0_; have BK236 := n1_; have BK243 := n2_; have HB := n3_; clear n0_ n1_ n2_ n3_; (try clear hb); (try clear hb2); (try clear hk); (try clear hi))))
                go_meet
                case rel => exact ⟨_, (!t247), (by first | rfl | (simp; done) | (simp [*]; done)), H', ⟨by have := HJ11.out; have := HK2.out; have := HJ51.out; first | omega | exact Nat.le_refl _⟩, ⟨zk BK215.out⟩, ⟨zk BK236.out⟩, ⟨zk BK243.out⟩, ⟨by repeat (first | (with_reducible first | exact HB.out | apply below_alloc | apply pw_below_drewN | apply below_drew1 | refine below_set ?_ GE215.out | refine below_set ?_ GE236.out | refine below_set ?_ GE243.out) | exact HB.out)⟩⟩
               ·replace c76 := Bool.eq_false_iff.mpr c76
                subst c76
                have H1 : (fastilaw27_WeatherTrue.j4 kj51 x13_2 true t230 t231 t232 t233 t237 t238 t239 t240) = some r := by rw [if_neg (show ¬ (false = true) by decide)] at H; exact H
                clear H
                have H := H1
                clear H1
                have H' := Aside0.mk H
                clear H
                have hnb89 := NB236_215.out
                have hnc89 := NB215_236.out
                have hnb90 := NB236_243.out
                have hnc90 := NB243_236.out
                have hcz91_0 : wc.cell? ⟨gb236, 0, none⟩ = some (.int .i64 t230) := (blk_cell BK236.out 0).trans rfl
                have hcz91_1 : wc.cell? ⟨gb236, 1, none⟩ = some (.int .i64 t231) := (blk_cell BK236.out 1).trans rfl
                have hcz91_2 : wc.cell? ⟨gb236, 2, none⟩ = some (.int .i64 t232) := (blk_cell BK236.out 2).trans rfl
                have hcz91_3 : wc.cell? ⟨gb236, 3, none⟩ = some (.int .i64 t233) := (blk_cell BK236.out 3).trans rfl
                have hfz91_0 := blk_frozen BK236.out 0
                have hfz91_1 := blk_frozen BK236.out 1
                have hfz91_2 := blk_frozen BK236.out 2
                have hfz91_3 := blk_frozen BK236.out 3
                go_wp2_with (first | (go_at_call 31; (with_reducible refine (fastilaw27_holds.calls t230 t231 a3 true _ A71.out).mono ?_); rintro e w92 ⟨rfl, hb⟩; have n0_ := Aside0.mk (zb BK215.out hb); have n1_ := Aside0.mk (zb BK236.out hb); have n2_ := Aside0.mk (zb BK243.out hb); have n3_ := Aside0.mk (below_step (by repeat (first | (with_reducible first | exact HB.out | apply below_alloc | apply pw_below_drewN | apply below_drew1 | refine below_set ?_ GE215.out | refine below_set ?_ GE236.out | refine below_set ?_ GE243.out) | exact HB.out)) hb); clear BK215; clear BK236; clear BK243; clear HB; have BK215 := n0_; have BK236 := n1_; have BK243 := n2_; have HB := n3_; clear n0_ n1_ n2_ n3_; (try clear hb); (try clear hb2); (try clear hk); (try clear hi); have hcz93_0 : w92.cell? ⟨gb236, 0, none⟩ = some (.int .i64 t230) := (blk_cell BK236.out 0).trans rfl; have hcz93_1 : w92.cell? ⟨gb236, 1, none⟩ = some (.int .i64 t231) := (blk_cell BK236.out 1).trans rfl; have hcz93_2 : w92.cell? ⟨gb236, 2, none⟩ = some (.int .i64 t232) := (blk_cell BK236.out 2).trans rfl; have hcz93_3 : w92.cell? ⟨gb236, 3, none⟩ = some (.int .i64 t233) := (blk_cell BK236.out 3).trans rfl; have hfz93_0 := blk_frozen BK236.out 0; have hfz93_1 := blk_frozen BK236.out 1; have hfz93_2 := blk_frozen BK236.out 2; have hfz93_3 := blk_frozen BK236.out 3) | (go_at_call 31; (with_reducible refine (fastilaw27_holds.calls t232 t233 a4 true _ A73.out).mono ?_); rintro e w94 ⟨rfl, hb⟩; have n0_ := Aside0.mk (zb BK215.out hb); have n1_ := Aside0.mk (zb BK236.out hb); have n2_ := Aside0.mk (zb BK243.out hb); have n3_ := Aside0.mk (below_step (by repeat (first | (with_reducible first | exact HB.out | apply below_alloc | apply pw_below_drewN | apply below_drew1 | refine below_set ?_ GE215.out | refine below_set ?_ GE236.out | refine below_set ?_ GE243.out) | exact HB.out)) hb); clear BK215; clear BK236; clear BK243; clear HB; have BK215 := n0_; have BK236 := n1_; have BK243 := n2_; have HB := n3_; clear n0_ n1_ n2_ n3_; (try clear hb); (try clear hb2); (try clear hk); (try clear hi); have hnb95 := NB243_215.out; have hnc95 := NB215_243.out; have hcz96_0 : w94.cell? ⟨gb243, 0, none⟩ = some (.int .i64 t237) := (blk_cell BK243.out 0).trans rfl; have hcz96_1 : w94.cell? ⟨gb243, 1, none⟩ = some (.int .i64 t238) := (blk_cell BK243.out 1).trans rfl; have hcz96_2 : w94.cell? ⟨gb243, 2, none⟩ = some (.int .i64 t239) := (blk_cell BK243.out 2).trans rfl; have hcz96_3 : w94.cell? ⟨gb243, 3, none⟩ = some (.int .i64 t240) := (blk_cell BK243.out 3).trans rfl; have hfz96_0 := blk_frozen BK243.out 0; have hfz96_1 := blk_frozen BK243.out 1; have hfz96_2 := blk_frozen BK243.out 2; have hfz96_3 := blk_frozen BK243.out 3) | (go_at_call 31; (with_reducible refine (fastilaw27_holds.calls t237 t238 a3 false _ A75.out).mono ?_); rintro e w97 ⟨rfl, hb⟩; have n0_ := Aside0.mk (zb BK215.out hb); have n1_ := Aside0.mk (zb BK236.out hb); have n2_ := Aside0.mk (zb BK243.out hb); have n3_ := Aside0.mk (below_step (by repeat (first | (with_reducible first | exact HB.out | apply below_alloc | apply pw_below_drewN | apply below_drew1 | refine below_set ?_ GE215.out | refine below_set ?_ GE236.out | refine below_set ?_ GE243.out) | exact HB.out)) hb); clear BK215; clear BK236; clear BK243; clear HB; have BK215 := n0_; have BK236 := n1_; have BK243 := n2_; have HB := n3_; clear n0_ n1_ n2_ n3_; (try clear hb); (try clear hb2); (try clear hk); (try clear hi)))
                repeat (go_quiet (first | (go_at_call 31; (with_reducible refine (fastilaw27_holds.calls t230 t231 a3 true _ A71.out).mono ?_); rintro e w92 ⟨rfl, hb⟩; have n0_ := Aside0.mk (zb BK215.out hb); have n1_ := Aside0.mk (zb BK236.out hb); have n2_ := Aside0.mk (zb BK243.out hb); have n3_ := Aside0.mk (below_step (by repeat (first | (with_reducible first | exact HB.out | apply below_alloc | apply pw_below_drewN | apply below_drew1 | refine below_set ?_ GE215.out | refine below_set ?_ GE236.out | refine below_set ?_ GE243.out) | exact HB.out)) hb); clear BK215; clear BK236; clear BK243; clear HB; have BK215 := n0_; have BK236 := n1_; have BK243 := n2_; have HB := n3_; clear n0_ n1_ n2_ n3_; (try clear hb); (try clear hb2); (try clear hk); (try clear hi); have hcz93_0 : w92.cell? ⟨gb236, 0, none⟩ = some (.int .i64 t230) := (blk_cell BK236.out 0).trans rfl; have hcz93_1 : w92.cell? ⟨gb236, 1, none⟩ = some (.int .i64 t231) := (blk_cell BK236.out 1).trans rfl; have hcz93_2 : w92.cell? ⟨gb236, 2, none⟩ = some (.int .i64 t232) := (blk_cell BK236.out 2).trans rfl; have hcz93_3 : w92.cell? ⟨gb236, 3, none⟩ = some (.int .i64 t233) := (blk_cell BK236.out 3).trans rfl; have hfz93_0 := blk_frozen BK236.out 0; have hfz93_1 := blk_frozen BK236.out 1; have hfz93_2 := blk_frozen BK236.out 2; have hfz93_3 := blk_frozen BK236.out 3) | (go_at_call 31; (with_reducible refine (fastilaw27_holds.calls t232 t233 a4 true _ A73.out).mono ?_); rintro e w94 ⟨rfl, hb⟩; have n0_ := Aside0.mk (zb BK215.out hb); have n1_ := Aside0.mk (zb BK236.out hb); have n2_ := Aside0.mk (zb BK243.out hb); have n3_ := Aside0.mk (below_step (by repeat (first | (with_reducible first | exact HB.out | apply below_alloc | apply pw_below_drewN | apply below_drew1 | refine below_set ?_ GE215.out | refine below_set ?_ GE236.out | refine below_set ?_ GE243.out) | exact HB.out)) hb); clear BK215; clear BK236; clear BK243; clear HB; have BK215 := n0_; have BK236 := n1_; have BK243 := n2_; have HB := n3_; clear n0_ n1_ n2_ n3_; (try clear hb); (try clear hb2); (try clear hk); (try clear hi); have hnb95 := NB243_215.out; have hnc95 := NB215_243.out; have hcz96_0 : w94.cell? ⟨gb243, 0, none⟩ = some (.int .i64 t237) := (blk_cell BK243.out 0).trans rfl; have hcz96_1 : w94.cell? ⟨gb243, 1, none⟩ = some (.int .i64 t238) := (blk_cell BK243.out 1).trans rfl; have hcz96_2 : w94.cell? ⟨gb243, 2, none⟩ = some (.int .i64 t239) := (blk_cell BK243.out 2).trans rfl; have hcz96_3 : w94.cell? ⟨gb243, 3, none⟩ = some (.int .i64 t240) := (blk_cell BK243.out 3).trans rfl; have hfz96_0 := blk_frozen BK243.out 0; have hfz96_1 := blk_frozen BK243.out 1; have hfz96_2 := blk_frozen BK243.out 2; have hfz96_3 := blk_frozen BK243.out 3) | (go_at_call 31; (with_reducible refine (fastilaw27_holds.calls t237 t238 a3 false _ A75.out).mono ?_); rintro e w97 ⟨rfl, hb⟩; have n0_ := Aside0.mk (zb BK215.out hb); have n1_ := Aside0.mk (zb BK236.out hb); have n2_ := Aside0.mk (zb BK243.out hb); have n3_ := Aside0.mk (below_step (by repeat (first | (with_reducible first | exact HB.out | apply below_alloc | apply pw_below_drewN | apply below_drew1 | refine below_set ?_ GE215.out | refine below_set ?_ GE236.out | refine below_set ?_ GE243.out) | exact HB.out)) hb); clear BK215; clear BK236; clear BK243; clear HB; have BK215 := n0_; have BK236 := n1_; have BK243 := n2_; have HB := n3_; clear n0_ n1_ n2_ n3_; (try clear hb); (try clear hb2); (try clear hk); (try clear hi))); try go_wp2_with (first | (go_at_call 31; (with_reducible refine (fastilaw27_holds.calls t230 t231 a3 true _ A71.out).mono ?_); rintro e w92 ⟨rfl, hb⟩; have n0_ := Aside0.mk (zb BK215.out hb); have n1_ := Aside0.mk (zb BK236.out hb); have n2_ := Aside0.mk (zb BK243.out hb); have n3_ := Aside0.mk (below_step (by repeat (first | (with_reducible first | exact HB.out | apply below_alloc | apply pw_below_drewN | apply below_drew1 | refine below_set ?_ GE215.out | refine below_set ?_ GE236.out | refine below_set ?_ GE243.out) | exact HB.out)) hb); clear BK215; clear BK236; clear BK243; clear HB; have BK215 := n0_; have BK236 := n1_; have BK243 := n2_; have HB := n3_; clear n0_ n1_ n2_ n3_; (try clear hb); (try clear hb2); (try clear hk); (try clear hi); have hcz93_0 : w92.cell? ⟨gb236, 0, none⟩ = some (.int .i64 t230) := (blk_cell BK236.out 0).trans rfl; have hcz93_1 : w92.cell? ⟨gb236, 1, none⟩ = some (.int .i64 t231) := (blk_cell BK236.out 1).trans rfl; have hcz93_2 : w92.cell? ⟨gb236, 2, none⟩ = some (.int .i64 t232) := (blk_cell BK236.out 2).trans rfl; have hcz93_3 : w92.cell? ⟨gb236, 3, none⟩ = some (.int .i64 t233) := (blk_cell BK236.out 3).trans rfl; have hfz93_0 := blk_frozen BK236.out 0; have hfz93_1 := blk_frozen BK236.out 1; have hfz93_2 := blk_frozen BK236.out 2; have hfz93_3 := blk_frozen BK236.out 3) | (go_at_call 31; (with_reducible refine (fastilaw27_holds.calls t232 t233 a4 true _ A73.out).mono ?_); rintro e w94 ⟨rfl, hb⟩; have n0_ := Aside0.mk (zb BK215.out hb); have n1_ := Aside0.mk (zb BK236.out hb); have n2_ := Aside0.mk (zb BK243.out hb); have n3_ := Aside0.mk (below_step (by repeat (first | (with_reducible first | exact HB.out | apply below_alloc | apply pw_below_drewN | apply below_drew1 | refine below_set ?_ GE215.out | refine below_set ?_ GE236.out | refine below_set ?_ GE243.out) | exact HB.out)) hb); clear BK215; clear BK236; clear BK243; clear HB; have BK215 := n0_; have BK236 := n1_; have BK243 := n2_; have HB := n3_; clear n0_ n1_ n2_ n3_; (try clear hb); (try clear hb2); (try clear hk); (try clear hi); have hnb95 := NB243_215.out; have hnc95 := NB215_243.out; have hcz96_0 : w94.cell? ⟨gb243, 0, none⟩ = some (.int .i64 t237) := (blk_cell BK243.out 0).trans rfl; have hcz96_1 : w94.cell? ⟨gb243, 1, none⟩ = some (.int .i64 t238) := (blk_cell BK243.out 1).trans rfl; have hcz96_2 : w94.cell? ⟨gb243, 2, none⟩ = some (.int .i64 t239) := (blk_cell BK243.out 2).trans rfl; have hcz96_3 : w94.cell? ⟨gb243, 3, none⟩ = some (.int .i64 t240) := (blk_cell BK243.out 3).trans rfl; have hfz96_0 := blk_frozen BK243.out 0; have hfz96_1 := blk_frozen BK243.out 1; have hfz96_2 := blk_frozen BK243.out 2; have hfz96_3 := blk_frozen BK243.out 3) | (go_at_call 31; (with_reducible refine (fastilaw27_holds.calls t237 t238 a3 false _ A75.out).mono ?_); rintro e w97 ⟨rfl, hb⟩; have n0_ := Aside0.mk (zb BK215.out hb); have n1_ := Aside0.mk (zb BK236.out hb); have n2_ := Aside0.mk (zb BK243.out hb); have n3_ := Aside0.mk (below_step (by repeat (first | (with_reducible first | exact HB.out | apply below_alloc | apply pw_below_drewN | apply below_drew1 | refine below_set ?_ GE215.out | refine below_set ?_ GE236.out | refine below_set ?_ GE243.out) | exact HB.out)) hb); clear BK215; clear BK236; clear BK243; clear HB; have BK215 := n0_; have BK236 := n1_; have BK243 := n2_; have HB := n3_; clear n0_ n1_ n2_ n3_; (try clear hb); (try clear hb2); (try clear hk); (try clear hi))))
                go_meet
                case rel => exact ⟨_, (true), (by first | rfl | (simp; done) | (simp [*]; done)), H', ⟨by have := HJ11.out; have := HK2.out; have := HJ51.out; first | omega | exact Nat.le_refl _⟩, ⟨zk BK215.out⟩, ⟨zk BK236.out⟩, ⟨zk BK243.out⟩, ⟨by repeat (first | (with_reducible first | exact HB.out | apply below_alloc | apply pw_below_drewN | apply below_drew1 | refine below_set ?_ GE215.out | refine below_set ?_ GE236.out | refine below_set ?_ GE243.out) | exact HB.out)⟩⟩
              ·replace c74 := Bool.eq_false_iff.mpr c74
               subst c74
               have H1 : (fastilaw27_WeatherTrue.j4 kj51 x13_2 true t230 t231 t232 t233 t237 t238 t239 t240) = some r := by rw [if_neg (show ¬ (false = true) by decide)] at H; exact H
               clear H
               have H := H1
               clear H1
               have H' := Aside0.mk H
               clear H
               have hnb98 := NB236_215.out
               have hnc98 := NB215_236.out
               have hnb99 := NB236_243.out
               have hnc99 := NB243_236.out
               have hcz100_0 : wc.cell? ⟨gb236, 0, none⟩ = some (.int .i64 t230) := (blk_cell BK236.out 0).trans rfl
               have hcz100_1 : wc.cell? ⟨gb236, 1, none⟩ = some (.int .i64 t231) := (blk_cell BK236.out 1).trans rfl
               have hcz100_2 : wc.cell? ⟨gb236, 2, none⟩ = some (.int .i64 t232) := (blk_cell BK236.out 2).trans rfl
               have hcz100_3 : wc.cell? ⟨gb236, 3, none⟩ = some (.int .i64 t233) := (blk_cell BK236.out 3).trans rfl
               have hfz100_0 := blk_frozen BK236.out 0
               have hfz100_1 := blk_frozen BK236.out 1
               have hfz100_2 := blk_frozen BK236.out 2
               have hfz100_3 := blk_frozen BK236.out 3
               go_wp2_with (first | (go_at_call 31; (with_reducible refine (fastilaw27_holds.calls t230 t231 a3 true _ A71.out).mono ?_); rintro e w101 ⟨rfl, hb⟩; have n0_ := Aside0.mk (zb BK215.out hb); have n1_ := Aside0.mk (zb BK236.out hb); have n2_ := Aside0.mk (zb BK243.out hb); have n3_ := Aside0.mk (below_step (by repeat (first | (with_reducible first | exact HB.out | apply below_alloc | apply pw_below_drewN | apply below_drew1 | refine below_set ?_ GE215.out | refine below_set ?_ GE236.out | refine below_set ?_ GE243.out) | exact HB.out)) hb); clear BK215; clear BK236; clear BK243; clear HB; have BK215 := n0_; have BK236 := n1_; have BK243 := n2_; have HB := n3_; clear n0_ n1_ n2_ n3_; (try clear hb); (try clear hb2); (try clear hk); (try clear hi); have hcz102_0 : w101.cell? ⟨gb236, 0, none⟩ = some (.int .i64 t230) := (blk_cell BK236.out 0).trans rfl; have hcz102_1 : w101.cell? ⟨gb236, 1, none⟩ = some (.int .i64 t231) := (blk_cell BK236.out 1).trans rfl; have hcz102_2 : w101.cell? ⟨gb236, 2, none⟩ = some (.int .i64 t232) := (blk_cell BK236.out 2).trans rfl; have hcz102_3 : w101.cell? ⟨gb236, 3, none⟩ = some (.int .i64 t233) := (blk_cell BK236.out 3).trans rfl; have hfz102_0 := blk_frozen BK236.out 0; have hfz102_1 := blk_frozen BK236.out 1; have hfz102_2 := blk_frozen BK236.out 2; have hfz102_3 := blk_frozen BK236.out 3) | (go_at_call 31; (with_reducible refine (fastilaw27_holds.calls t232 t233 a4 false _ A73.out).mono ?_); rintro e w103 ⟨rfl, hb⟩; have n0_ := Aside0.mk (zb BK215.out hb); have n1_ := Aside0.mk (zb BK236.out hb); have n2_ := Aside0.mk (zb BK243.out hb); have n3_ := Aside0.mk (below_step (by repeat (first | (with_reducible first | exact HB.out | apply below_alloc | apply pw_below_drewN | apply below_drew1 | refine below_set ?_ GE215.out | refine below_set ?_ GE236.out | refine below_set ?_ GE243.out) | exact HB.out)) hb); clear BK215; clear BK236; clear BK243; clear HB; have BK215 := n0_; have BK236 := n1_; have BK243 := n2_; have HB := n3_; clear n0_ n1_ n2_ n3_; (try clear hb); (try clear hb2); (try clear hk); (try clear hi)))
               repeat (go_quiet (first | (go_at_call 31; (with_reducible refine (fastilaw27_holds.calls t230 t231 a3 true _ A71.out).mono ?_); rintro e w101 ⟨rfl, hb⟩; have n0_ := Aside0.mk (zb BK215.out hb); have n1_ := Aside0.mk (zb BK236.out hb); have n2_ := Aside0.mk (zb BK243.out hb); have n3_ := Aside0.mk (below_step (by repeat (first | (with_reducible first | exact HB.out | apply below_alloc | apply pw_below_drewN | apply below_drew1 | refine below_set ?_ GE215.out | refine below_set ?_ GE236.out | refine below_set ?_ GE243.out) | exact HB.out)) hb); clear BK215; clear BK236; clear BK243; clear HB; have BK215 := n0_; have BK236 := n1_; have BK243 := n2_; have HB := n3_; clear n0_ n1_ n2_ n3_; (try clear hb); (try clear hb2); (try clear hk); (try clear hi); have hcz102_0 : w101.cell? ⟨gb236, 0, none⟩ = some (.int .i64 t230) := (blk_cell BK236.out 0).trans rfl; have hcz102_1 : w101.cell? ⟨gb236, 1, none⟩ = some (.int .i64 t231) := (blk_cell BK236.out 1).trans rfl; have hcz102_2 : w101.cell? ⟨gb236, 2, none⟩ = some (.int .i64 t232) := (blk_cell BK236.out 2).trans rfl; have hcz102_3 : w101.cell? ⟨gb236, 3, none⟩ = some (.int .i64 t233) := (blk_cell BK236.out 3).trans rfl; have hfz102_0 := blk_frozen BK236.out 0; have hfz102_1 := blk_frozen BK236.out 1; have hfz102_2 := blk_frozen BK236.out 2; have hfz102_3 := blk_frozen BK236.out 3) | (go_at_call 31; (with_reducible refine (fastilaw27_holds.calls t232 t233 a4 false _ A73.out).mono ?_); rintro e w103 ⟨rfl, hb⟩; have n0_ := Aside0.mk (zb BK215.out hb); have n1_ := Aside0.mk (zb BK236.out hb); have n2_ := Aside0.mk (zb BK243.out hb); have n3_ := Aside0.mk (below_step (by repeat (first | (with_reducible first | exact HB.out | apply below_alloc | apply pw_below_drewN | apply below_drew1 | refine below_set ?_ GE215.out | refine below_set ?_ GE236.out | refine below_set ?_ GE243.out) | exact HB.out)) hb); clear BK215; clear BK236; clear BK243; clear HB; have BK215 := n0_; have BK236 := n1_; have BK243 := n2_; have HB := n3_; clear n0_ n1_ n2_ n3_; (try clear hb); (try clear hb2); (try clear hk); (try clear hi))); try go_wp2_with (first | (go_at_call 31; (with_reducible refine (fastilaw27_holds.calls t230 t231 a3 true _ A71.out).mono ?_); rintro e w101 ⟨rfl, hb⟩; have n0_ := Aside0.mk (zb BK215.out hb); have n1_ := Aside0.mk (zb BK236.out hb); have n2_ := Aside0.mk (zb BK243.out hb); have n3_ := Aside0.mk (below_step (by repeat (first | (with_reducible first | exact HB.out | apply below_alloc | apply pw_below_drewN | apply below_drew1 | refine below_set ?_ GE215.out | refine below_set ?_ GE236.out | refine below_set ?_ GE243.out) | exact HB.out)) hb); clear BK215; clear BK236; clear BK243; clear HB; have BK215 := n0_; have BK236 := n1_; have BK243 := n2_; have HB := n3_; clear n0_ n1_ n2_ n3_; (try clear hb); (try clear hb2); (try clear hk); (try clear hi); have hcz102_0 : w101.cell? ⟨gb236, 0, none⟩ = some (.int .i64 t230) := (blk_cell BK236.out 0).trans rfl; have hcz102_1 : w101.cell? ⟨gb236, 1, none⟩ = some (.int .i64 t231) := (blk_cell BK236.out 1).trans rfl; have hcz102_2 : w101.cell? ⟨gb236, 2, none⟩ = some (.int .i64 t232) := (blk_cell BK236.out 2).trans rfl; have hcz102_3 : w101.cell? ⟨gb236, 3, none⟩ = some (.int .i64 t233) := (blk_cell BK236.out 3).trans rfl; have hfz102_0 := blk_frozen BK236.out 0; have hfz102_1 := blk_frozen BK236.out 1; have hfz102_2 := blk_frozen BK236.out 2; have hfz102_3 := blk_frozen BK236.out 3) | (go_at_call 31; (with_reducible refine (fastilaw27_holds.calls t232 t233 a4 false _ A73.out).mono ?_); rintro e w103 ⟨rfl, hb⟩; have n0_ := Aside0.mk (zb BK215.out hb); have n1_ := Aside0.mk (zb BK236.out hb); have n2_ := Aside0.mk (zb BK243.out hb); have n3_ := Aside0.mk (below_step (by repeat (first | (with_reducible first | exact HB.out | apply below_alloc | apply pw_below_drewN | apply below_drew1 | refine below_set ?_ GE215.out | refine below_set ?_ GE236.out | refine below_set ?_ GE243.out) | exact HB.out)) hb); clear BK215; clear BK236; clear BK243; clear HB; have BK215 := n0_; have BK236 := n1_; have BK243 := n2_; have HB := n3_; clear n0_ n1_ n2_ n3_; (try clear hb); (try clear hb2); (try clear hk); (try clear hi))))
               go_meet
               case rel => exact ⟨_, (true), (by first | rfl | (simp; done) | (simp [*]; done)), H', ⟨by have := HJ11.out; have := HK2.out; have := HJ51.out; first | omega | exact Nat.le_refl _⟩, ⟨zk BK215.out⟩, ⟨zk BK236.out⟩, ⟨zk BK243.out⟩, ⟨by repeat (first | (with_reducible first | exact HB.out | apply below_alloc | apply pw_below_drewN | apply below_drew1 | refine below_set ?_ GE215.out | refine below_set ?_ GE236.out | refine below_set ?_ GE243.out) | exact HB.out)⟩⟩
             ·replace c72 := Bool.eq_false_iff.mpr c72
              subst c72
              have H1 : (fastilaw27_WeatherTrue.j4 kj51 x13_2 true t230 t231 t232 t233 t237 t238 t239 t240) = some r := by rw [if_neg (show ¬ (false = true) by decide)] at H; exact H
              clear H
              have H := H1
              clear H1
              have H' := Aside0.mk H
              clear H
              have hnb104 := NB236_215.out
              have hnc104 := NB215_236.out
              have hnb105 := NB236_243.out
              have hnc105 := NB243_236.out
              have hcz106_0 : wc.cell? ⟨gb236, 0, none⟩ = some (.int .i64 t230) := (blk_cell BK236.out 0).trans rfl
              have hcz106_1 : wc.cell? ⟨gb236, 1, none⟩ = some (.int .i64 t231) := (blk_cell BK236.out 1).trans rfl
              have hcz106_2 : wc.cell? ⟨gb236, 2, none⟩ = some (.int .i64 t232) := (blk_cell BK236.out 2).trans rfl
              have hcz106_3 : wc.cell? ⟨gb236, 3, none⟩ = some (.int .i64 t233) := (blk_cell BK236.out 3).trans rfl
              have hfz106_0 := blk_frozen BK236.out 0
              have hfz106_1 := blk_frozen BK236.out 1
              have hfz106_2 := blk_frozen BK236.out 2
              have hfz106_3 := blk_frozen BK236.out 3
              go_wp2_with (first | (go_at_call 31; (with_reducible refine (fastilaw27_holds.calls t230 t231 a3 false _ A71.out).mono ?_); rintro e w107 ⟨rfl, hb⟩; have n0_ := Aside0.mk (zb BK215.out hb); have n1_ := Aside0.mk (zb BK236.out hb); have n2_ := Aside0.mk (zb BK243.out hb); have n3_ := Aside0.mk (below_step (by repeat (first | (with_reducible first | exact HB.out | apply below_alloc | apply pw_below_drewN | apply below_drew1 | refine below_set ?_ GE215.out | refine below_set ?_ GE236.out | refine below_set ?_ GE243.out) | exact HB.out)) hb); clear BK215; clear BK236; clear BK243; clear HB; have BK215 := n0_; have BK236 := n1_; have BK243 := n2_; have HB := n3_; clear n0_ n1_ n2_ n3_; (try clear hb); (try clear hb2); (try clear hk); (try clear hi)))
              repeat (go_quiet (first | (go_at_call 31; (with_reducible refine (fastilaw27_holds.calls t230 t231 a3 false _ A71.out).mono ?_); rintro e w107 ⟨rfl, hb⟩; have n0_ := Aside0.mk (zb BK215.out hb); have n1_ := Aside0.mk (zb BK236.out hb); have n2_ := Aside0.mk (zb BK243.out hb); have n3_ := Aside0.mk (below_step (by repeat (first | (with_reducible first | exact HB.out | apply below_alloc | apply pw_below_drewN | apply below_drew1 | refine below_set ?_ GE215.out | refine below_set ?_ GE236.out | refine below_set ?_ GE243.out) | exact HB.out)) hb); clear BK215; clear BK236; clear BK243; clear HB; have BK215 := n0_; have BK236 := n1_; have BK243 := n2_; have HB := n3_; clear n0_ n1_ n2_ n3_; (try clear hb); (try clear hb2); (try clear hk); (try clear hi))); try go_wp2_with (first | (go_at_call 31; (with_reducible refine (fastilaw27_holds.calls t230 t231 a3 false _ A71.out).mono ?_); rintro e w107 ⟨rfl, hb⟩; have n0_ := Aside0.mk (zb BK215.out hb); have n1_ := Aside0.mk (zb BK236.out hb); have n2_ := Aside0.mk (zb BK243.out hb); have n3_ := Aside0.mk (below_step (by repeat (first | (with_reducible first | exact HB.out | apply below_alloc | apply pw_below_drewN | apply below_drew1 | refine below_set ?_ GE215.out | refine below_set ?_ GE236.out | refine below_set ?_ GE243.out) | exact HB.out)) hb); clear BK215; clear BK236; clear BK243; clear HB; have BK215 := n0_; have BK236 := n1_; have BK243 := n2_; have HB := n3_; clear n0_ n1_ n2_ n3_; (try clear hb); (try clear hb2); (try clear hk); (try clear hi))))
              go_meet
              case rel => exact ⟨_, (true), (by first | rfl | (simp; done) | (simp [*]; done)), H', ⟨by have := HJ11.out; have := HK2.out; have := HJ51.out; first | omega | exact Nat.le_refl _⟩, ⟨zk BK215.out⟩, ⟨zk BK236.out⟩, ⟨zk BK243.out⟩, ⟨by repeat (first | (with_reducible first | exact HB.out | apply below_alloc | apply pw_below_drewN | apply below_drew1 | refine below_set ?_ GE215.out | refine below_set ?_ GE236.out | refine below_set ?_ GE243.out) | exact HB.out)⟩⟩
            case rest =>
             clear HC70
             try clear c1
             try clear c2
             try clear p2
             try clear q2
             try clear hx2
             try clear c3
             try clear c4
             try clear c5
             try clear c6
             try clear p6
             try clear c7
             try clear c8
             try clear c8b0
             try clear c8b1
             try clear c9
             try clear c10
             try clear c17
             try clear c17b0
             try clear c17b1
             try clear c19
             try clear p22
             try clear q22
             try clear hx22
             try clear c27
             try clear c28
             try clear c28b0
             try clear c30
             try clear c30b0
             try clear c31
             try clear c31b0
             try clear c31b1
             try clear c34
             try clear c35
             try clear c35b0
             try clear c36
             try clear c36b0
             try clear c38
             try clear c40
             try clear c41
             try clear c56
             try clear c62
             try clear c63
             try clear p64
             try clear c65
             try clear c65b0
             try clear c65b1
             try clear c66
             try clear c67
             try clear c67b0
             try clear c67b1
             try clear c68
             try clear c68b0
             try clear c68b1
             try clear c69
             try clear c69b0
             try clear c69b1
             try clear c72
             try clear c74
             try clear c76
             try clear c78
             try clear c79
             try clear c84
             try clear c89
             try clear c90
             try clear c95
             try clear c98
             try clear c99
             try clear c104
             try clear c105
             try clear hcz100_0
             try clear hcz100_1
             try clear hcz100_2
             try clear hcz100_3
             try clear hcz102_0
             try clear hcz102_1
             try clear hcz102_2
             try clear hcz102_3
             try clear hcz106_0
             try clear hcz106_1
             try clear hcz106_2
             try clear hcz106_3
             try clear hcz15_0
             try clear hcz15_1
             try clear hcz15_2
             try clear hcz15_3
             try clear hcz15_4
             try clear hcz15_5
             try clear hcz15_6
             try clear hcz15_7
             try clear hcz15_8
             try clear hcz21_0
             try clear hcz21_1
             try clear hcz21_2
             try clear hcz21_3
             try clear hcz21_4
             try clear hcz21_5
             try clear hcz21_6
             try clear hcz21_7
             try clear hcz21_8
             try clear hcz23_0
             try clear hcz23_1
             try clear hcz23_2
             try clear hcz23_3
             try clear hcz23_4
             try clear hcz23_5
             try clear hcz23_6
             try clear hcz23_7
             try clear hcz23_8
             try clear hcz25_0
             try clear hcz25_1
             try clear hcz25_2
             try clear hcz25_3
             try clear hcz25_4
             try clear hcz25_5
             try clear hcz25_6
             try clear hcz25_7
             try clear hcz25_8
             try clear hcz32_0
             try clear hcz32_1
             try clear hcz32_2
             try clear hcz32_3
             try clear hcz32_4
             try clear hcz32_5
             try clear hcz32_6
             try clear hcz32_7
             try clear hcz32_8
             try clear hcz33_0
             try clear hcz33_1
             try clear hcz33_2
             try clear hcz33_3
             try clear hcz33_4
             try clear hcz33_5
             try clear hcz33_6
             try clear hcz33_7
             try clear hcz33_8
             try clear hcz44_0
             try clear hcz44_1
             try clear hcz44_2
             try clear hcz44_3
             try clear hcz44_4
             try clear hcz44_5
             try clear hcz44_6
             try clear hcz44_7
             try clear hcz44_8
             try clear hcz53_0
             try clear hcz53_1
             try clear hcz53_2
             try clear hcz53_3
             try clear hcz53_4
             try clear hcz53_5
             try clear hcz53_6
             try clear hcz53_7
             try clear hcz53_8
             try clear hcz57_0
             try clear hcz57_1
             try clear hcz57_2
             try clear hcz57_3
             try clear hcz58_0
             try clear hcz58_1
             try clear hcz58_2
             try clear hcz58_3
             try clear hcz58_4
             try clear hcz58_5
             try clear hcz58_6
             try clear hcz58_7
             try clear hcz58_8
             try clear hcz64_0
             try clear hcz64_1
             try clear hcz64_2
             try clear hcz64_3
             try clear hcz80_0
             try clear hcz80_1
             try clear hcz80_2
             try clear hcz80_3
             try clear hcz82_0
             try clear hcz82_1
             try clear hcz82_2
             try clear hcz82_3
             try clear hcz85_0
             try clear hcz85_1
             try clear hcz85_2
             try clear hcz85_3
             try clear hcz87_0
             try clear hcz87_1
             try clear hcz87_2
             try clear hcz87_3
             try clear hcz91_0
             try clear hcz91_1
             try clear hcz91_2
             try clear hcz91_3
             try clear hcz93_0
             try clear hcz93_1
             try clear hcz93_2
             try clear hcz93_3
             try clear hcz96_0
             try clear hcz96_1
             try clear hcz96_2
             try clear hcz96_3
             try clear hfz100_0
             try clear hfz100_1
             try clear hfz100_2
             try clear hfz100_3
             try clear hfz102_0
             try clear hfz102_1
             try clear hfz102_2
             try clear hfz102_3
             try clear hfz106_0
             try clear hfz106_1
             try clear hfz106_2
             try clear hfz106_3
             try clear hfz15_0
             try clear hfz15_1
             try clear hfz15_2
             try clear hfz15_3
             try clear hfz15_4
             try clear hfz15_5
             try clear hfz15_6
             try clear hfz15_7
             try clear hfz15_8
             try clear hfz21_0
             try clear hfz21_1
             try clear hfz21_2
             try clear hfz21_3
             try clear hfz21_4
             try clear hfz21_5
             try clear hfz21_6
             try clear hfz21_7
             try clear hfz21_8
             try clear hfz23_0
             try clear hfz23_1
             try clear hfz23_2
             try clear hfz23_3
             try clear hfz23_4
             try clear hfz23_5
             try clear hfz23_6
             try clear hfz23_7
             try clear hfz23_8
             try clear hfz25_0
             try clear hfz25_1
             try clear hfz25_2
             try clear hfz25_3
             try clear hfz25_4
             try clear hfz25_5
             try clear hfz25_6
             try clear hfz25_7
             try clear hfz25_8
             try clear hfz32_0
             try clear hfz32_1
             try clear hfz32_2
             try clear hfz32_3
             try clear hfz32_4
             try clear hfz32_5
             try clear hfz32_6
             try clear hfz32_7
             try clear hfz32_8
             try clear hfz33_0
             try clear hfz33_1
             try clear hfz33_2
             try clear hfz33_3
             try clear hfz33_4
             try clear hfz33_5
             try clear hfz33_6
             try clear hfz33_7
             try clear hfz33_8
             try clear hfz44_0
             try clear hfz44_1
             try clear hfz44_2
             try clear hfz44_3
             try clear hfz44_4
             try clear hfz44_5
             try clear hfz44_6
             try clear hfz44_7
             try clear hfz44_8
             try clear hfz53_0
             try clear hfz53_1
             try clear hfz53_2
             try clear hfz53_3
             try clear hfz53_4
             try clear hfz53_5
             try clear hfz53_6
             try clear hfz53_7
             try clear hfz53_8
             try clear hfz57_0
             try clear hfz57_1
             try clear hfz57_2
             try clear hfz57_3
             try clear hfz58_0
             try clear hfz58_1
             try clear hfz58_2
             try clear hfz58_3
             try clear hfz58_4
             try clear hfz58_5
             try clear hfz58_6
             try clear hfz58_7
             try clear hfz58_8
             try clear hfz64_0
             try clear hfz64_1
             try clear hfz64_2
             try clear hfz64_3
             try clear hfz80_0
             try clear hfz80_1
             try clear hfz80_2
             try clear hfz80_3
             try clear hfz82_0
             try clear hfz82_1
             try clear hfz82_2
             try clear hfz82_3
             try clear hfz85_0
             try clear hfz85_1
             try clear hfz85_2
             try clear hfz85_3
             try clear hfz87_0
             try clear hfz87_1
             try clear hfz87_2
             try clear hfz87_3
             try clear hfz91_0
             try clear hfz91_1
             try clear hfz91_2
             try clear hfz91_3
             try clear hfz93_0
             try clear hfz93_1
             try clear hfz93_2
             try clear hfz93_3
             try clear hfz96_0
             try clear hfz96_1
             try clear hfz96_2
             try clear hfz96_3
             try clear hx223_0
             try clear hx223_1
             try clear hx223_2
             try clear hx223_3
             try clear hx223_4
             try clear hx223_5
             try clear hx223_6
             try clear hx223_7
             try clear hx223_8
             try clear hx224_0
             try clear hx224_1
             try clear hx224_2
             try clear hx224_3
             try clear hx224_4
             try clear hx224_5
             try clear hx224_6
             try clear hx224_7
             try clear hx224_8
             try clear hx225_0
             try clear hx225_1
             try clear hx225_2
             try clear hx225_3
             try clear hx225_4
             try clear hx225_5
             try clear hx225_6
             try clear hx225_7
             try clear hx225_8
             try clear hx227_0
             try clear hx227_1
             try clear hx227_2
             try clear hx227_3
             try clear hx227_4
             try clear hx227_5
             try clear hx227_6
             try clear hx227_7
             try clear hx227_8
             try clear hx229_0
             try clear hx229_1
             try clear hx229_2
             try clear hx229_3
             try clear hx229_4
             try clear hx229_5
             try clear hx229_6
             try clear hx229_7
             try clear hx229_8
             try clear p2
             try clear p22
             try clear p223
             try clear p224
             try clear p225
             try clear p227
             try clear p229
             try clear p6
             try clear p64
             try clear q2
             try clear q22
             try clear q223
             try clear q224
             try clear q225
             try clear q227
             try clear q229
             obtain ⟨kq, x169_69, rfl, HA, HJ69, BK215, BK236, BK243, HB⟩ := hcut
             cases kq with
             | zero => exact absurd HA.out (by simp [fastilaw27_WeatherTrue.j4])
             | succ kj69 =>
              have H := HA.out
              clear HA
              simp only [fastilaw27_WeatherTrue.j4] at H
              by_cases c108 : x169_69 = true
              ·subst c108
               have H1 : (some false) = some r := by rw [if_pos rfl] at H; exact H
               clear H
               have H := H1
               clear H1
               obtain rfl := Option.some.inj H
               go_wp2
               repeat (go_quiet (fail); try go_wp2)
               go_ret
               exact ⟨by first | rfl | (simp [errW_none, errW_some] <;> rfl) | (simp [*, errW_none, errW_some] <;> rfl), by repeat (first | (with_reducible first | exact HB.out | apply below_alloc | apply pw_below_drewN | apply below_drew1 | refine below_set ?_ GE215.out | refine below_set ?_ GE236.out | refine below_set ?_ GE243.out) | exact HB.out)⟩
              ·replace c108 := Bool.eq_false_iff.mpr c108
               subst c108
               have H1 : (if x13_2 = true then ((fastilaw27_inside.f t237 t238 t230 t231).bind fun t248 => (if t248 = true then ((fastilaw27_inside.f t239 t240 t232 t233).bind fun t249 => (some t249)) else (some false))) else (some true)) = some r := by rw [if_neg (show ¬ (false = true) by decide)] at H; exact H
               clear H
               have H := H1
               clear H1
               by_cases c109 : x13_2 = true
               ·subst c109
                have H1 : ((fastilaw27_inside.f t237 t238 t230 t231).bind fun t248 => (if t248 = true then ((fastilaw27_inside.f t239 t240 t232 t233).bind fun t249 => (some t249)) else (some false))) = some r := by rw [if_pos rfl] at H; exact H
                clear H
                have H := H1
                clear H1
                replace H := Option.bind_eq_some_iff.mp H
                obtain ⟨t248, A1100, H⟩ := H
                replace H : (if t248 = true then ((fastilaw27_inside.f t239 t240 t232 t233).bind fun t249 => (some t249)) else (some false)) = some r := H
                have A110 := Aside0.mk A1100
                clear A1100
                by_cases c111 : t248 = true
                ·subst c111
                 have H1 : ((fastilaw27_inside.f t239 t240 t232 t233).bind fun t249 => (some t249)) = some r := by rw [if_pos rfl] at H; exact H
                 clear H
                 have H := H1
                 clear H1
                 replace H := Option.bind_eq_some_iff.mp H
                 obtain ⟨t249, A1120, H⟩ := H
                 replace H : (some t249) = some r := H
                 have A112 := Aside0.mk A1120
                 clear A1120
                 obtain rfl := Option.some.inj H
                 have hnb113 := NB243_215.out
                 have hnc113 := NB215_243.out
                 have hnb114 := NB243_236.out
                 have hnc114 := NB236_243.out
                 have hcz115_0 : wc.cell? ⟨gb243, 0, none⟩ = some (.int .i64 t237) := (blk_cell BK243.out 0).trans rfl
                 have hcz115_1 : wc.cell? ⟨gb243, 1, none⟩ = some (.int .i64 t238) := (blk_cell BK243.out 1).trans rfl
                 have hcz115_2 : wc.cell? ⟨gb243, 2, none⟩ = some (.int .i64 t239) := (blk_cell BK243.out 2).trans rfl
                 have hcz115_3 : wc.cell? ⟨gb243, 3, none⟩ = some (.int .i64 t240) := (blk_cell BK243.out 3).trans rfl
                 have hfz115_0 := blk_frozen BK243.out 0
                 have hfz115_1 := blk_frozen BK243.out 1
                 have hfz115_2 := blk_frozen BK243.out 2
                 have hfz115_3 := blk_frozen BK243.out 3
                 have hnb116 := NB236_215.out
                 have hnc116 := NB215_236.out
                 have hcz117_0 : wc.cell? ⟨gb236, 0, none⟩ = some (.int .i64 t230) := (blk_cell BK236.out 0).trans rfl
                 have hcz117_1 : wc.cell? ⟨gb236, 1, none⟩ = some (.int .i64 t231) := (blk_cell BK236.out 1).trans rfl
                 have hcz117_2 : wc.cell? ⟨gb236, 2, none⟩ = some (.int .i64 t232) := (blk_cell BK236.out 2).trans rfl
                 have hcz117_3 : wc.cell? ⟨gb236, 3, none⟩ = some (.int .i64 t233) := (blk_cell BK236.out 3).trans rfl
                 have hfz117_0 := blk_frozen BK236.out 0
                 have hfz117_1 := blk_frozen BK236.out 1
                 have hfz117_2 := blk_frozen BK236.out 2
                 have hfz117_3 := blk_frozen BK236.out 3
                 go_wp2_with (first | (go_at_call 32; (with_reducible refine (fastilaw27_inside.calls t237 t238 t230 t231 true _ A110.out).mono ?_); rintro e w118 ⟨rfl, hb⟩; have n0_ := Aside0.mk (zb BK215.out hb); have n1_ := Aside0.mk (zb BK236.out hb); have n2_ := Aside0.mk (zb BK243.out hb); have n3_ := Aside0.mk (below_step (by repeat (first | (with_reducible first | exact HB.out | apply below_alloc | apply pw_below_drewN | apply below_drew1 | refine below_set ?_ GE215.out | refine below_set ?_ GE236.out | refine below_set ?_ GE243.out) | exact HB.out)) hb); clear BK215; clear BK236; clear BK243; clear HB; have BK215 := n0_; have BK236 := n1_; have BK243 := n2_; have HB := n3_; clear n0_ n1_ n2_ n3_; (try clear hb); (try clear hb2); (try clear hk); (try clear hi); have hcz119_0 : w118.cell? ⟨gb243, 0, none⟩ = some (.int .i64 t237) := (blk_cell BK243.out 0).trans rfl; have hcz119_1 : w118.cell? ⟨gb243, 1, none⟩ = some (.int .i64 t238) := (blk_cell BK243.out 1).trans rfl; have hcz119_2 : w118.cell? ⟨gb243, 2, none⟩ = some (.int .i64 t239) := (blk_cell BK243.out 2).trans rfl; have hcz119_3 : w118.cell? ⟨gb243, 3, none⟩ = some (.int .i64 t240) := (blk_cell BK243.out 3).trans rfl; have hfz119_0 := blk_frozen BK243.out 0; have hfz119_1 := blk_frozen BK243.out 1; have hfz119_2 := blk_frozen BK243.out 2; have hfz119_3 := blk_frozen BK243.out 3; have hcz120_0 : w118.cell? ⟨gb236, 0, none⟩ = some (.int .i64 t230) := (blk_cell BK236.out 0).trans rfl; have hcz120_1 : w118.cell? ⟨gb236, 1, none⟩ = some (.int .i64 t231) := (blk_cell BK236.out 1).trans rfl; have hcz120_2 : w118.cell? ⟨gb236, 2, none⟩ = some (.int .i64 t232) := (blk_cell BK236.out 2).trans rfl; have hcz120_3 : w118.cell? ⟨gb236, 3, none⟩ = some (.int .i64 t233) := (blk_cell BK236.out 3).trans rfl; have hfz120_0 := blk_frozen BK236.out 0; have hfz120_1 := blk_frozen BK236.out 1; have hfz120_2 := blk_frozen BK236.out 2; have hfz120_3 := blk_frozen BK236.out 3) | (go_at_call 32; (with_reducible refine (fastilaw27_inside.calls t239 t240 t232 t233 t249 _ A112.out).mono ?_); rintro e w121 ⟨rfl, hb⟩; have n0_ := Aside0.mk (zb BK215.out hb); have n1_ := Aside0.mk (zb BK236.out hb); have n2_ := Aside0.mk (zb BK243.out hb); have n3_ := Aside0.mk (below_step (by repeat (first | (with_reducible first | exact HB.out | apply below_alloc | apply pw_below_drewN | apply below_drew1 | refine below_set ?_ GE215.out | refine below_set ?_ GE236.out | refine below_set ?_ GE243.out) | exact HB.out)) hb); clear BK215; clear BK236; clear BK243; clear HB; have BK215 := n0_; have BK236 := n1_; have BK243 := n2_; have HB := n3_; clear n0_ n1_ n2_ n3_; (try clear hb); (try clear hb2); (try clear hk); (try clear hi)))
                 repeat (go_quiet (first | (go_at_call 32; (with_reducible refine (fastilaw27_inside.calls t237 t238 t230 t231 true _ A110.out).mono ?_); rintro e w118 ⟨rfl, hb⟩; have n0_ := Aside0.mk (zb BK215.out hb); have n1_ := Aside0.mk (zb BK236.out hb); have n2_ := Aside0.mk (zb BK243.out hb); have n3_ := Aside0.mk (below_step (by repeat (first | (with_reducible first | exact HB.out | apply below_alloc | apply pw_below_drewN | apply below_drew1 | refine below_set ?_ GE215.out | refine below_set ?_ GE236.out | refine below_set ?_ GE243.out) | exact HB.out)) hb); clear BK215; clear BK236; clear BK243; clear HB; have BK215 := n0_; have BK236 := n1_; have BK243 := n2_; have HB := n3_; clear n0_ n1_ n2_ n3_; (try clear hb); (try clear hb2); (try clear hk); (try clear hi); have hcz119_0 : w118.cell? ⟨gb243, 0, none⟩ = some (.int .i64 t237) := (blk_cell BK243.out 0).trans rfl; have hcz119_1 : w118.cell? ⟨gb243, 1, none⟩ = some (.int .i64 t238) := (blk_cell BK243.out 1).trans rfl; have hcz119_2 : w118.cell? ⟨gb243, 2, none⟩ = some (.int .i64 t239) := (blk_cell BK243.out 2).trans rfl; have hcz119_3 : w118.cell? ⟨gb243, 3, none⟩ = some (.int .i64 t240) := (blk_cell BK243.out 3).trans rfl; have hfz119_0 := blk_frozen BK243.out 0; have hfz119_1 := blk_frozen BK243.out 1; have hfz119_2 := blk_frozen BK243.out 2; have hfz119_3 := blk_frozen BK243.out 3; have hcz120_0 : w118.cell? ⟨gb236, 0, none⟩ = some (.int .i64 t230) := (blk_cell BK236.out 0).trans rfl; have hcz120_1 : w118.cell? ⟨gb236, 1, none⟩ = some (.int .i64 t231) := (blk_cell BK236.out 1).trans rfl; have hcz120_2 : w118.cell? ⟨gb236, 2, none⟩ = some (.int .i64 t232) := (blk_cell BK236.out 2).trans rfl; have hcz120_3 : w118.cell? ⟨gb236, 3, none⟩ = some (.int .i64 t233) := (blk_cell BK236.out 3).trans rfl; have hfz120_0 := blk_frozen BK236.out 0; have hfz120_1 := blk_frozen BK236.out 1; have hfz120_2 := blk_frozen BK236.out 2; have hfz120_3 := blk_frozen BK236.out 3) | (go_at_call 32; (with_reducible refine (fastilaw27_inside.calls t239 t240 t232 t233 t249 _ A112.out).mono ?_); rintro e w121 ⟨rfl, hb⟩; have n0_ := Aside0.mk (zb BK215.out hb); have n1_ := Aside0.mk (zb BK236.out hb); have n2_ := Aside0.mk (zb BK243.out hb); have n3_ := Aside0.mk (below_step (by repeat (first | (with_reducible first | exact HB.out | apply below_alloc | apply pw_below_drewN | apply below_drew1 | refine below_set ?_ GE215.out | refine below_set ?_ GE236.out | refine below_set ?_ GE243.out) | exact HB.out)) hb); clear BK215; clear BK236; clear BK243; clear HB; have BK215 := n0_; have BK236 := n1_; have BK243 := n2_; have HB := n3_; clear n0_ n1_ n2_ n3_; (try clear hb); (try clear hb2); (try clear hk); (try clear hi))); try go_wp2_with (first | (go_at_call 32; (with_reducible refine (fastilaw27_inside.calls t237 t238 t230 t231 true _ A110.out).mono ?_); rintro e w118 ⟨rfl, hb⟩; have n0_ := Aside0.mk (zb BK215.out hb); have n1_ := Aside0.mk (zb BK236.out hb); have n2_ := Aside0.mk (zb BK243.out hb); have n3_ := Aside0.mk (below_step (by repeat (first | (with_reducible first | exact HB.out | apply below_alloc | apply pw_below_drewN | apply below_drew1 | refine below_set ?_ GE215.out | refine below_set ?_ GE236.out | refine below_set ?_ GE243.out) | exact HB.out)) hb); clear BK215; clear BK236; clear BK243; clear HB; have BK215 := n0_; have BK236 := n1_; have BK243 := n2_; have HB := n3_; clear n0_ n1_ n2_ n3_; (try clear hb); (try clear hb2); (try clear hk); (try clear hi); have hcz119_0 : w118.cell? ⟨gb243, 0, none⟩ = some (.int .i64 t237) := (blk_cell BK243.out 0).trans rfl; have hcz119_1 : w118.cell? ⟨gb243, 1, none⟩ = some (.int .i64 t238) := (blk_cell BK243.out 1).trans rfl; have hcz119_2 : w118.cell? ⟨gb243, 2, none⟩ = some (.int .i64 t239) := (blk_cell BK243.out 2).trans rfl; have hcz119_3 : w118.cell? ⟨gb243, 3, none⟩ = some (.int .i64 t240) := (blk_cell BK243.out 3).trans rfl; have hfz119_0 := blk_frozen BK243.out 0; have hfz119_1 := blk_frozen BK243.out 1; have hfz119_2 := blk_frozen BK243.out 2; have hfz119_3 := blk_frozen BK243.out 3; have hcz120_0 : w118.cell? ⟨gb236, 0, none⟩ = some (.int .i64 t230) := (blk_cell BK236.out 0).trans rfl; have hcz120_1 : w118.cell? ⟨gb236, 1, none⟩ = some (.int .i64 t231) := (blk_cell BK236.out 1).trans rfl; have hcz120_2 : w118.cell? ⟨gb236, 2, none⟩ = some (.int .i64 t232) := (blk_cell BK236.out 2).trans rfl; have hcz120_3 : w118.cell? ⟨gb236, 3, none⟩ = some (.int .i64 t233) := (blk_cell BK236.out 3).trans rfl; have hfz120_0 := blk_frozen BK236.out 0; have hfz120_1 := blk_frozen BK236.out 1; have hfz120_2 := blk_frozen BK236.out 2; have hfz120_3 := blk_frozen BK236.out 3) | (go_at_call 32; (with_reducible refine (fastilaw27_inside.calls t239 t240 t232 t233 t249 _ A112.out).mono ?_); rintro e w121 ⟨rfl, hb⟩; have n0_ := Aside0.mk (zb BK215.out hb); have n1_ := Aside0.mk (zb BK236.out hb); have n2_ := Aside0.mk (zb BK243.out hb); have n3_ := Aside0.mk (below_step (by repeat (first | (with_reducible first | exact HB.out | apply below_alloc | apply pw_below_drewN | apply below_drew1 | refine below_set ?_ GE215.out | refine below_set ?_ GE236.out | refine below_set ?_ GE243.out) | exact HB.out)) hb); clear BK215; clear BK236; clear BK243; clear HB; have BK215 := n0_; have BK236 := n1_; have BK243 := n2_; have HB := n3_; clear n0_ n1_ n2_ n3_; (try clear hb); (try clear hb2); (try clear hk); (try clear hi))))
                 go_ret
                 exact ⟨by first | rfl | (simp [errW_none, errW_some] <;> rfl) | (simp [*, errW_none, errW_some] <;> rfl), by repeat (first | (with_reducible first | exact HB.out | apply below_alloc | apply pw_below_drewN | apply below_drew1 | refine below_set ?_ GE215.out | refine below_set ?_ GE236.out | refine below_set ?_ GE243.out) | exact HB.out)⟩
                ·replace c111 := Bool.eq_false_iff.mpr c111
                 subst c111
                 have H1 : (some false) = some r := by rw [if_neg (show ¬ (false = true) by decide)] at H; exact H
                 clear H
                 have H := H1
                 clear H1
                 obtain rfl := Option.some.inj H
                 have hnb122 := NB243_215.out
                 have hnc122 := NB215_243.out
                 have hnb123 := NB243_236.out
                 have hnc123 := NB236_243.out
                 have hcz124_0 : wc.cell? ⟨gb243, 0, none⟩ = some (.int .i64 t237) := (blk_cell BK243.out 0).trans rfl
                 have hcz124_1 : wc.cell? ⟨gb243, 1, none⟩ = some (.int .i64 t238) := (blk_cell BK243.out 1).trans rfl
                 have hcz124_2 : wc.cell? ⟨gb243, 2, none⟩ = some (.int .i64 t239) := (blk_cell BK243.out 2).trans rfl
                 have hcz124_3 : wc.cell? ⟨gb243, 3, none⟩ = some (.int .i64 t240) := (blk_cell BK243.out 3).trans rfl
                 have hfz124_0 := blk_frozen BK243.out 0
                 have hfz124_1 := blk_frozen BK243.out 1
                 have hfz124_2 := blk_frozen BK243.out 2
                 have hfz124_3 := blk_frozen BK243.out 3
                 have hnb125 := NB236_215.out
                 have hnc125 := NB215_236.out
                 have hcz126_0 : wc.cell? ⟨gb236, 0, none⟩ = some (.int .i64 t230) := (blk_cell BK236.out 0).trans rfl
                 have hcz126_1 : wc.cell? ⟨gb236, 1, none⟩ = some (.int .i64 t231) := (blk_cell BK236.out 1).trans rfl
                 have hcz126_2 : wc.cell? ⟨gb236, 2, none⟩ = some (.int .i64 t232) := (blk_cell BK236.out 2).trans rfl
                 have hcz126_3 : wc.cell? ⟨gb236, 3, none⟩ = some (.int .i64 t233) := (blk_cell BK236.out 3).trans rfl
                 have hfz126_0 := blk_frozen BK236.out 0
                 have hfz126_1 := blk_frozen BK236.out 1
                 have hfz126_2 := blk_frozen BK236.out 2
                 have hfz126_3 := blk_frozen BK236.out 3
                 go_wp2_with (first | (go_at_call 32; (with_reducible refine (fastilaw27_inside.calls t237 t238 t230 t231 false _ A110.out).mono ?_); rintro e w127 ⟨rfl, hb⟩; have n0_ := Aside0.mk (zb BK215.out hb); have n1_ := Aside0.mk (zb BK236.out hb); have n2_ := Aside0.mk (zb BK243.out hb); have n3_ := Aside0.mk (below_step (by repeat (first | (with_reducible first | exact HB.out | apply below_alloc | apply pw_below_drewN | apply below_drew1 | refine below_set ?_ GE215.out | refine below_set ?_ GE236.out | refine below_set ?_ GE243.out) | exact HB.out)) hb); clear BK215; clear BK236; clear BK243; clear HB; have BK215 := n0_; have BK236 := n1_; have BK243 := n2_; have HB := n3_; clear n0_ n1_ n2_ n3_; (try clear hb); (try clear hb2); (try clear hk); (try clear hi)))
                 repeat (go_quiet (first | (go_at_call 32; (with_reducible refine (fastilaw27_inside.calls t237 t238 t230 t231 false _ A110.out).mono ?_); rintro e w127 ⟨rfl, hb⟩; have n0_ := Aside0.mk (zb BK215.out hb); have n1_ := Aside0.mk (zb BK236.out hb); have n2_ := Aside0.mk (zb BK243.out hb); have n3_ := Aside0.mk (below_step (by repeat (first | (with_reducible first | exact HB.out | apply below_alloc | apply pw_below_drewN | apply below_drew1 | refine below_set ?_ GE215.out | refine below_set ?_ GE236.out | refine below_set ?_ GE243.out) | exact HB.out)) hb); clear BK215; clear BK236; clear BK243; clear HB; have BK215 := n0_; have BK236 := n1_; have BK243 := n2_; have HB := n3_; clear n0_ n1_ n2_ n3_; (try clear hb); (try clear hb2); (try clear hk); (try clear hi))); try go_wp2_with (first | (go_at_call 32; (with_reducible refine (fastilaw27_inside.calls t237 t238 t230 t231 false _ A110.out).mono ?_); rintro e w127 ⟨rfl, hb⟩; have n0_ := Aside0.mk (zb BK215.out hb); have n1_ := Aside0.mk (zb BK236.out hb); have n2_ := Aside0.mk (zb BK243.out hb); have n3_ := Aside0.mk (below_step (by repeat (first | (with_reducible first | exact HB.out | apply below_alloc | apply pw_below_drewN | apply below_drew1 | refine below_set ?_ GE215.out | refine below_set ?_ GE236.out | refine below_set ?_ GE243.out) | exact HB.out)) hb); clear BK215; clear BK236; clear BK243; clear HB; have BK215 := n0_; have BK236 := n1_; have BK243 := n2_; have HB := n3_; clear n0_ n1_ n2_ n3_; (try clear hb); (try clear hb2); (try clear hk); (try clear hi))))
                 go_ret
                 exact ⟨by first | rfl | (simp [errW_none, errW_some] <;> rfl) | (simp [*, errW_none, errW_some] <;> rfl), by repeat (first | (with_reducible first | exact HB.out | apply below_alloc | apply pw_below_drewN | apply below_drew1 | refine below_set ?_ GE215.out | refine below_set ?_ GE236.out | refine below_set ?_ GE243.out) | exact HB.out)⟩
               ·replace c109 := Bool.eq_false_iff.mpr c109
                subst c109
                have H1 : (some true) = some r := by rw [if_neg (show ¬ (false = true) by decide)] at H; exact H
                clear H
                have H := H1
                clear H1
                obtain rfl := Option.some.inj H
                go_wp2
                repeat (go_quiet (fail); try go_wp2)
                go_ret
                exact ⟨by first | rfl | (simp [errW_none, errW_some] <;> rfl) | (simp [*, errW_none, errW_some] <;> rfl), by repeat (first | (with_reducible first | exact HB.out | apply below_alloc | apply pw_below_drewN | apply below_drew1 | refine below_set ?_ GE215.out | refine below_set ?_ GE236.out | refine below_set ?_ GE243.out) | exact HB.out)⟩
 ·replace c7 := Bool.eq_false_iff.mpr c7
  subst c7
  have H1 : (some false) = some r := by rw [if_neg (show ¬ (false = true) by decide)] at H; exact H
  clear H
  have H := H1
  clear H1
  obtain rfl := Option.some.inj H
  go_enter Try.func7, Try.ntmps7
  go_wp2_with (first | ((with_reducible refine gate_dst (N := 6) rfl ?_); refine box_event ?hg (N := 6) ?hd (cs := #[.int .i64 a1_0, .int .i64 a1_1, .int .i64 a1_2, .int .i64 a1_3, .int .i64 a1_4, .int .i64 a1_5, .int .i64 a1_6, .int .i64 a1_7, .int .i64 a1_8]) (t := 41) ?hr ?_; (case hd => rfl); (case hg => rfl); (case hr => first | (go_simp; done) | (go_simp; rfl)); intro gb215 hg w128 hbox hb; have n0_ := Aside0.mk (below_step (by repeat (first | (with_reducible first | exact HB.out | apply below_alloc | apply pw_below_drewN | apply below_drew1) | exact HB.out)) hb); have n1_ := Aside0.mk (hbox); have n2_ := Aside0.mk ((by rw [hg]; exact (below_size (by repeat (first | (with_reducible first | exact HB.out | apply below_alloc | apply pw_below_drewN | apply below_drew1) | exact HB.out))) : w.heap.size ≤ gb215)); have n3_ := Aside0.mk ((by rw [hg]; exact (below_size (by repeat (first | (with_reducible first | exact HB.out | apply below_alloc | apply pw_below_drewN | apply below_drew1) | exact HB.out))) : w.heap.size ≤ gb215)); clear HB; have HB := n0_; have BK215 := n1_; have GW215 := n2_; have GE215 := n3_; clear n0_ n1_ n2_ n3_; clear hb hbox hg) | (go_at_call 25; (with_reducible refine (fastilaw27_sane.calls  false _ A6.out).mono ?_); rintro e w129 ⟨rfl, hb⟩; have n0_ := Aside0.mk (zb BK215.out hb); have n1_ := Aside0.mk (below_step (by repeat (first | (with_reducible first | exact HB.out | apply below_alloc | apply pw_below_drewN | apply below_drew1 | refine below_set ?_ GE215.out) | exact HB.out)) hb); clear BK215; clear HB; have BK215 := n0_; have HB := n1_; clear n0_ n1_; (try clear hb); (try clear hb2); (try clear hk); (try clear hi)))
  repeat (go_quiet (first | ((with_reducible refine gate_dst (N := 6) rfl ?_); refine box_event ?hg (N := 6) ?hd (cs := #[.int .i64 a1_0, .int .i64 a1_1, .int .i64 a1_2, .int .i64 a1_3, .int .i64 a1_4, .int .i64 a1_5, .int .i64 a1_6, .int .i64 a1_7, .int .i64 a1_8]) (t := 41) ?hr ?_; (case hd => rfl); (case hg => rfl); (case hr => first | (go_simp; done) | (go_simp; rfl)); intro gb215 hg w128 hbox hb; have n0_ := Aside0.mk (below_step (by repeat (first | (with_reducible first | exact HB.out | apply below_alloc | apply pw_below_drewN | apply below_drew1) | exact HB.out)) hb); have n1_ := Aside0.mk (hbox); have n2_ := Aside0.mk ((by rw [hg]; exact (below_size (by repeat (first | (with_reducible first | exact HB.out | apply below_alloc | apply pw_below_drewN | apply below_drew1) | exact HB.out))) : w.heap.size ≤ gb215)); have n3_ := Aside0.mk ((by rw [hg]; exact (below_size (by repeat (first | (with_reducible first | exact HB.out | apply below_alloc | apply pw_below_drewN | apply below_drew1) | exact HB.out))) : w.heap.size ≤ gb215)); clear HB; have HB := n0_; have BK215 := n1_; have GW215 := n2_; have GE215 := n3_; clear n0_ n1_ n2_ n3_; clear hb hbox hg) | (go_at_call 25; (with_reducible refine (fastilaw27_sane.calls  false _ A6.out).mono ?_); rintro e w129 ⟨rfl, hb⟩; have n0_ := Aside0.mk (zb BK215.out hb); have n1_ := Aside0.mk (below_step (by repeat (first | (with_reducible first | exact HB.out | apply below_alloc | apply pw_below_drewN | apply below_drew1 | refine below_set ?_ GE215.out) | exact HB.out)) hb); clear BK215; clear HB; have BK215 := n0_; have HB := n1_; clear n0_ n1_; (try clear hb); (try clear hb2); (try clear hk); (try clear hi))); try go_wp2_with (first | ((with_reducible refine gate_dst (N := 6) rfl ?_); refine box_event ?hg (N := 6) ?hd (cs := #[.int .i64 a1_0, .int .i64 a1_1, .int .i64 a1_2, .int .i64 a1_3, .int .i64 a1_4, .int .i64 a1_5, .int .i64 a1_6, .int .i64 a1_7, .int .i64 a1_8]) (t := 41) ?hr ?_; (case hd => rfl); (case hg => rfl); (case hr => first | (go_simp; done) | (go_simp; rfl)); intro gb215 hg w128 hbox hb; have n0_ := Aside0.mk (below_step (by repeat (first | (with_reducible first | exact HB.out | apply below_alloc | apply pw_below_drewN | apply below_drew1) | exact HB.out)) hb); have n1_ := Aside0.mk (hbox); have n2_ := Aside0.mk ((by rw [hg]; exact (below_size (by repeat (first | (with_reducible first | exact HB.out | apply below_alloc | apply pw_below_drewN | apply below_drew1) | exact HB.out))) : w.heap.size ≤ gb215)); have n3_ := Aside0.mk ((by rw [hg]; exact (below_size (by repeat (first | (with_reducible first | exact HB.out | apply below_alloc | apply pw_below_drewN | apply below_drew1) | exact HB.out))) : w.heap.size ≤ gb215)); clear HB; have HB := n0_; have BK215 := n1_; have GW215 := n2_; have GE215 := n3_; clear n0_ n1_ n2_ n3_; clear hb hbox hg) | (go_at_call 25; (with_reducible refine (fastilaw27_sane.calls  false _ A6.out).mono ?_); rintro e w129 ⟨rfl, hb⟩; have n0_ := Aside0.mk (zb BK215.out hb); have n1_ := Aside0.mk (below_step (by repeat (first | (with_reducible first | exact HB.out | apply below_alloc | apply pw_below_drewN | apply below_drew1 | refine below_set ?_ GE215.out) | exact HB.out)) hb); clear BK215; clear HB; have BK215 := n0_; have HB := n1_; clear n0_ n1_; (try clear hb); (try clear hb2); (try clear hk); (try clear hi))))
  go_ret
  exact ⟨by first | rfl | (simp [errW_none, errW_some] <;> rfl) | (simp [*, errW_none, errW_some] <;> rfl), by repeat (first | (with_reducible first | exact HB.out | apply below_alloc | apply pw_below_drewN | apply below_drew1 | refine below_set ?_ GE215.out) | exact HB.out)⟩

end Go.Proofs.Ythfhjcbgccnijaa.Q
