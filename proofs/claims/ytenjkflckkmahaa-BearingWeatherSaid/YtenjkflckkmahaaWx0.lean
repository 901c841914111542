/- Functions of the translation as plain Lean functions, and proofs that the calls do what these say; written by a program of this session round the kit's print. -/
import Derived.Test.YtenjkflckkmahaaQ0
import Derived.Test.YtenjkflckkmahaaQ1
import Derived.Test.YtenjkflckkmahaaQ2
import Derived.Test.YtenjkflckkmahaaQ3
import Derived.Test.YtenjkflckkmahaaRuns2
import Derived.Test.YtenjkflckkmahaaSky
import Derived.Test.YtenjkflckkmahaaDay15
namespace Go.Proofs.Ytenjkflckkmahaa.Q
open Go.RowKit Go.Proofs.YtenjkflckkmahaaW.PrintWords Go.Proofs.YtenjkflckkmahaaW.PrintLast Go.Proofs.YtenjkflckkmahaaW.PrintMore
attribute [local go_sem] max2_int min2_int max_two min_two max_three min_three max_four min_four   -- for this text's walks alone
set_option linter.unusedVariables false
set_option linter.unusedSimpArgs false

/-! ### fastilaw29_BearingWeather: function 14 -/
mutual
def fastilaw29_BearingWeather.j0 : Nat → Int → Bool → ByteArray → ByteArray → Int → Int → Int → Int → Int → Int → List Int → List Int → List Int → List Int → List Int → Option (Bool)
 | 0, _, _, _, _, _, _, _, _, _, _, _, _, _, _, _ => none
 | k + 1, x5, x36, x210000, x210001, x210002, x210003, x210004, x210005, x210006, x211000, x211001, x211002, x211003, x211004, x211005 => if x36 = true then (some true) else (if x211000 < 0 then (fastilaw29_BearingWeather.j1 k x5 x211000 true x210000 x210001 x210002 x210003 x210004 x210005 x210006 x211000 x211001 x211002 x211003 x211004 x211005) else (fastilaw29_BearingWeather.j1 k x5 x211000 (decide (x211000 > 1000)) x210000 x210001 x210002 x210003 x210004 x210005 x210006 x211000 x211001 x211002 x211003 x211004 x211005))
def fastilaw29_BearingWeather.j1 : Nat → Int → Int → Bool → ByteArray → ByteArray → Int → Int → Int → Int → Int → Int → List Int → List Int → List Int → List Int → List Int → Option (Bool)
 | 0, _, _, _, _, _, _, _, _, _, _, _, _, _, _, _, _ => none
 | k + 1, x5, x6, x44, x210000, x210001, x210002, x210003, x210004, x210005, x210006, x211000, x211001, x211002, x211003, x211004, x211005 => if x44 = true then (some true) else (fastilaw29_BearingWeather.l0 k x5 x6 ([] : List (S44)) ([] : List (S44)) ([] : List Int) x5 0 x210000 x210001 x210002 x210003 x210004 x210005 x210006 x211000 x211001 x211002 x211003 x211004 x211005)
def fastilaw29_BearingWeather.l0 : Nat → Int → Int → List (S44) → List (S44) → List Int → Int → Int → ByteArray → ByteArray → Int → Int → Int → Int → Int → Int → List Int → List Int → List Int → List Int → List Int → Option (Bool)
 | 0, _, _, _, _, _, _, _, _, _, _, _, _, _, _, _, _, _, _, _, _ => none
 | k + 1, x5, x6, x7, x8, x9, x45, x46, x210000, x210001, x210002, x210003, x210004, x210005, x210006, x211000, x211001, x211002, x211003, x211004, x211005 => if x46 < x45 then ((fastilaw29_sky.f x211000 x211001 x211002 x211003 x211004 x211005 x46).bind fun bt213 => ((some (([(⟨(⟨bt213.1, bt213.2.1⟩ : S27), (⟨bt213.2.2.1, bt213.2.2.2.1⟩ : S27)⟩ : S44)] : List (S44)) : List (S44))).bind fun y223 => (if x7.length + y223.length < 4398046511104 then ((some (([(⟨(⟨bt213.2.2.2.2.1, bt213.2.2.2.2.2.1⟩ : S27), (⟨bt213.2.2.2.2.2.2.1, bt213.2.2.2.2.2.2.2⟩ : S27)⟩ : S44)] : List (S44)) : List (S44))).bind fun y229 => (if x8.length + y229.length < 4398046511104 then (if 0 ≤ x46 then (if x46 < (x211005.length : Int) then (if (wrap64 (x210006 + 1)) = 0 then (none) else ((some (([Int.tmod (wrap64 (rd x211005 x46)) (wrap64 (x210006 + 1))] : List Int) : List Int)).bind fun y236 => (if x9.length + y236.length < 17592186044416 then (fastilaw29_BearingWeather.l0 k x5 x6 (x7 ++ y223) (x8 ++ y229) (x9 ++ y236) x45 (wrap64 (x46 + 1)) x210000 x210001 x210002 x210003 x210004 x210005 x210006 x211000 x211001 x211002 x211003 x211004 x211005) else (none)))) else (none)) else (none)) else (none))) else (none)))) else ((turf_Run.f x210000 x210001 x210002 x210003 x210004 x210005 x210006 x6 x6 x7 x9).bind fun bt244 => ((turf_Run.f x210000 x210001 x210002 x210003 x210004 x210005 x210006 (mx 0 (wrap64 (x6 - 3))) (mn 1000 (wrap64 (x6 + 5))) x8 x9).bind fun bt248 => (if bt244.2 = 0 then (if bt248.2 = 0 then (if (bt244.1.length : Int) = x5 then (fastilaw29_BearingWeather.j3 k x5 bt244.1 bt248.1 ((bt248.1.length : Int) != x5) x210000 x210001 x210002 x210003 x210004 x210005 x210006 x6 x6 (mx 0 (wrap64 (x6 - 3))) (mn 1000 (wrap64 (x6 + 5)))) else (fastilaw29_BearingWeather.j3 k x5 bt244.1 bt248.1 true x210000 x210001 x210002 x210003 x210004 x210005 x210006 x6 x6 (mx 0 (wrap64 (x6 - 3))) (mn 1000 (wrap64 (x6 + 5))))) else (fastilaw29_BearingWeather.j3 k x5 bt244.1 bt248.1 true x210000 x210001 x210002 x210003 x210004 x210005 x210006 x6 x6 (mx 0 (wrap64 (x6 - 3))) (mn 1000 (wrap64 (x6 + 5))))) else (fastilaw29_BearingWeather.j3 k x5 bt244.1 bt248.1 true x210000 x210001 x210002 x210003 x210004 x210005 x210006 x6 x6 (mx 0 (wrap64 (x6 - 3))) (mn 1000 (wrap64 (x6 + 5)))))))
def fastilaw29_BearingWeather.j3 : Nat → Int → List (S27) → List (S27) → Bool → ByteArray → ByteArray → Int → Int → Int → Int → Int → Int → Int → Int → Int → Option (Bool)
 | 0, _, _, _, _, _, _, _, _, _, _, _, _, _, _, _ => none
 | k + 1, x5, x15, x17, x120, x210000, x210001, x210002, x210003, x210004, x210005, x210006, x243000, x243001, x244000, x244001 => if x120 = true then (some false) else (if x5 > 0 then (if 0 ≤ (wrap64 (x5 - 1)) then (if (wrap64 (x5 - 1)) < (x15.length : Int) then (if (wrap64 (x5 - 1)) < (x17.length : Int) then (fastilaw29_BearingWeather.j4 k x210000 x210001 x210002 x210003 x210004 x210005 x210006 ((rd_T27 x15 (wrap64 (x5 - 1))).f0) ((rd_T27 x15 (wrap64 (x5 - 1))).f1) ((rd_T27 x17 (wrap64 (x5 - 1))).f0) ((rd_T27 x17 (wrap64 (x5 - 1))).f1)) else (none)) else (none)) else (none)) else (fastilaw29_BearingWeather.j4 k x210000 x210001 x210002 x210003 x210004 x210005 x210006 x243000 x243001 x244000 x244001))
def fastilaw29_BearingWeather.j4 : Nat → ByteArray → ByteArray → Int → Int → Int → Int → Int → Int → Int → Int → Int → Option (Bool)
 | 0, _, _, _, _, _, _, _, _, _, _, _ => none
 | k + 1, x210000, x210001, x210002, x210003, x210004, x210005, x210006, x253000, x253001, x254000, x254001 => (bearing_Permit.f k x210000 x210001 x210002 x210003 x210004 x210005 x210006 x254000 x254001 0 false).bind fun bt256 => ((bearing_Permit.f k x210000 x210001 x210002 x210003 x210004 x210005 x210006 x254000 x254001 1000 true).bind fun bt258 => (if bt256.2 = 0 then (if bt258.2 = 0 then (fastilaw29_BearingWeather.j5 k bt256.1 bt258.1 (x253000 != x253001) x210000 x210001 x210002 x210003 x210004 x210005 x210006 x253000 x253001) else (fastilaw29_BearingWeather.j5 k bt256.1 bt258.1 true x210000 x210001 x210002 x210003 x210004 x210005 x210006 x253000 x253001)) else (fastilaw29_BearingWeather.j5 k bt256.1 bt258.1 true x210000 x210001 x210002 x210003 x210004 x210005 x210006 x253000 x253001)))
def fastilaw29_BearingWeather.j5 : Nat → Bool → Bool → Bool → ByteArray → ByteArray → Int → Int → Int → Int → Int → Int → Int → Option (Bool)
 | 0, _, _, _, _, _, _, _, _, _, _, _, _ => none
 | k + 1, x21, x23, x159, x210000, x210001, x210002, x210003, x210004, x210005, x210006, x253000, x253001 => if x159 = true then (some false) else (if x21 = true then (if x253000 ≥ x210003 then (if x23 = true then (fastilaw29_BearingWeather.j6 k true) else (fastilaw29_BearingWeather.j6 k (decide (x253000 < x210003)))) else (fastilaw29_BearingWeather.j6 k false)) else (if x23 = true then (fastilaw29_BearingWeather.j6 k true) else (fastilaw29_BearingWeather.j6 k (decide (x253000 < x210003)))))
def fastilaw29_BearingWeather.j6 : Nat → Bool → Option (Bool)
 | 0, _ => none
 | k + 1, x4 => some x4
end
def fastilaw29_BearingWeather.f (k : Nat) (a0_0 : ByteArray) (a0_1 : ByteArray) (a0_2 : Int) (a0_3 : Int) (a0_4 : Int) (a0_5 : Int) (a0_6 : Int) (a1_0 : Int) (l1_1 : List Int) (l1_2 : List Int) (l1_3 : List Int) (l1_4 : List Int) (l1_5 : List Int) : Option (Bool) := (fastilaw29_sane.f k).bind fun t211 => (if t211 = true then ((fastiref29_Pitch.f a0_0 a0_1 a0_2 a0_3 a0_4 a0_5 a0_6).bind fun t212 => (if t212 = true then (fastilaw29_BearingWeather.j0 k (l1_5.length : Int) (decide ((l1_5.length : Int) > 8)) a0_0 a0_1 a0_2 a0_3 a0_4 a0_5 a0_6 a1_0 l1_1 l1_2 l1_3 l1_4 l1_5) else (fastilaw29_BearingWeather.j0 k (l1_5.length : Int) true a0_0 a0_1 a0_2 a0_3 a0_4 a0_5 a0_6 a1_0 l1_1 l1_2 l1_3 l1_4 l1_5))) else (some false))
theorem fastilaw29_BearingWeather.mono_l : ∀ k, (∀ y0 y1 y2 y3 y4 y5 y6 y7 y8 y9 y10 y11 y12 y13 y14, LeO (fastilaw29_BearingWeather.j0 k y0 y1 y2 y3 y4 y5 y6 y7 y8 y9 y10 y11 y12 y13 y14) (fastilaw29_BearingWeather.j0 (k + 1) y0 y1 y2 y3 y4 y5 y6 y7 y8 y9 y10 y11 y12 y13 y14)) ∧ (∀ y0 y1 y2 y3 y4 y5 y6 y7 y8 y9 y10 y11 y12 y13 y14 y15, LeO (fastilaw29_BearingWeather.j1 k y0 y1 y2 y3 y4 y5 y6 y7 y8 y9 y10 y11 y12 y13 y14 y15) (fastilaw29_BearingWeather.j1 (k + 1) y0 y1 y2 y3 y4 y5 y6 y7 y8 y9 y10 y11 y12 y13 y14 y15)) ∧ (∀ y0 y1 y2 y3 y4 y5 y6 y7 y8 y9 y10 y11 y12 y13 y14 y15 y16 y17 y18 y19, LeO (fastilaw29_BearingWeather.l0 k y0 y1 y2 y3 y4 y5 y6 y7 y8 y9 y10 y11 y12 y13 y14 y15 y16 y17 y18 y19) (fastilaw29_BearingWeather.l0 (k + 1) y0 y1 y2 y3 y4 y5 y6 y7 y8 y9 y10 y11 y12 y13 y14 y15 y16 y17 y18 y19)) ∧ (∀ y0 y1 y2 y3 y4 y5 y6 y7 y8 y9 y10 y11 y12 y13 y14, LeO (fastilaw29_BearingWeather.j3 k y0 y1 y2 y3 y4 y5 y6 y7 y8 y9 y10 y11 y12 y13 y14) (fastilaw29_BearingWeather.j3 (k + 1) y0 y1 y2 y3 y4 y5 y6 y7 y8 y9 y10 y11 y12 y13 y14)) ∧ (∀ y0 y1 y2 y3 y4 y5 y6 y7 y8 y9 y10, LeO (fastilaw29_BearingWeather.j4 k y0 y1 y2 y3 y4 y5 y6 y7 y8 y9 y10) (fastilaw29_BearingWeather.j4 (k + 1) y0 y1 y2 y3 y4 y5 y6 y7 y8 y9 y10)) ∧ (∀ y0 y1 y2 y3 y4 y5 y6 y7 y8 y9 y10 y11, LeO (fastilaw29_BearingWeather.j5 k y0 y1 y2 y3 y4 y5 y6 y7 y8 y9 y10 y11) (fastilaw29_BearingWeather.j5 (k + 1) y0 y1 y2 y3 y4 y5 y6 y7 y8 y9 y10 y11)) ∧ (∀ y0, LeO (fastilaw29_BearingWeather.j6 k y0) (fastilaw29_BearingWeather.j6 (k + 1) y0))
 | 0 => ⟨fun _ _ _ _ _ _ _ _ _ _ _ _ _ _ _ r h => by simp [fastilaw29_BearingWeather.j0] at h, fun _ _ _ _ _ _ _ _ _ _ _ _ _ _ _ _ r h => by simp [fastilaw29_BearingWeather.j1] at h, fun _ _ _ _ _ _ _ _ _ _ _ _ _ _ _ _ _ _ _ _ r h => by simp [fastilaw29_BearingWeather.l0] at h, fun _ _ _ _ _ _ _ _ _ _ _ _ _ _ _ r h => by simp [fastilaw29_BearingWeather.j3] at h, fun _ _ _ _ _ _ _ _ _ _ _ r h => by simp [fastilaw29_BearingWeather.j4] at h, fun _ _ _ _ _ _ _ _ _ _ _ _ r h => by simp [fastilaw29_BearingWeather.j5] at h, fun _ r h => by simp [fastilaw29_BearingWeather.j6] at h⟩
 | k + 1 => by
  obtain ⟨ih0, ih1, ih2, ih3, ih4, ih5, ih6⟩ := fastilaw29_BearingWeather.mono_l k
  refine ⟨?_, ?_, ?_, ?_, ?_, ?_, ?_⟩
  ·intro y0 y1 y2 y3 y4 y5 y6 y7 y8 y9 y10 y11 y12 y13 y14
   unfold fastilaw29_BearingWeather.j0
   repeat' first
   | (with_reducible exact ih0 _ _ _ _ _ _ _ _ _ _ _ _ _ _ _)
   | (with_reducible exact ih1 _ _ _ _ _ _ _ _ _ _ _ _ _ _ _ _)
   | (with_reducible exact ih2 _ _ _ _ _ _ _ _ _ _ _ _ _ _ _ _ _ _ _ _)
   | (with_reducible exact ih3 _ _ _ _ _ _ _ _ _ _ _ _ _ _ _)
   | (with_reducible exact ih4 _ _ _ _ _ _ _ _ _ _ _)
   | (with_reducible exact ih5 _ _ _ _ _ _ _ _ _ _ _ _)
   | (with_reducible exact ih6 _)
   | (with_reducible exact bearing_Permit.mono _ _ _ _ _ _ _ _ _ _ _ _)
   | (with_reducible exact fastilaw29_sane.mono _)
   | (with_reducible exact LeO.refl _)
   | (with_reducible exact LeO.none _)
   | (with_reducible refine LeO.ite ?_ ?_)
   | (with_reducible refine LeO.bind ?_ (fun _ => ?_))
   | exact ih0 _ _ _ _ _ _ _ _ _ _ _ _ _ _ _
   | exact ih1 _ _ _ _ _ _ _ _ _ _ _ _ _ _ _ _
   | exact ih2 _ _ _ _ _ _ _ _ _ _ _ _ _ _ _ _ _ _ _ _
   | exact ih3 _ _ _ _ _ _ _ _ _ _ _ _ _ _ _
   | exact ih4 _ _ _ _ _ _ _ _ _ _ _
   | exact ih5 _ _ _ _ _ _ _ _ _ _ _ _
   | exact ih6 _
   | exact bearing_Permit.mono _ _ _ _ _ _ _ _ _ _ _ _
   | exact fastilaw29_sane.mono _
   | exact LeO.none _
   | refine LeO.ite ?_ ?_
   | refine LeO.bind ?_ (fun _ => ?_)
  ·intro y0 y1 y2 y3 y4 y5 y6 y7 y8 y9 y10 y11 y12 y13 y14 y15
   unfold fastilaw29_BearingWeather.j1
   repeat' first
   | (with_reducible exact ih0 _ _ _ _ _ _ _ _ _ _ _ _ _ _ _)
   | (with_reducible exact ih1 _ _ _ _ _ _ _ _ _ _ _ _ _ _ _ _)
   | (with_reducible exact ih2 _ _ _ _ _ _ _ _ _ _ _ _ _ _ _ _ _ _ _ _)
   | (with_reducible exact ih3 _ _ _ _ _ _ _ _ _ _ _ _ _ _ _)
   | (with_reducible exact ih4 _ _ _ _ _ _ _ _ _ _ _)
   | (with_reducible exact ih5 _ _ _ _ _ _ _ _ _ _ _ _)
   | (with_reducible exact ih6 _)
   | (with_reducible exact bearing_Permit.mono _ _ _ _ _ _ _ _ _ _ _ _)
   | (with_reducible exact fastilaw29_sane.mono _)
   | (with_reducible exact LeO.refl _)
   | (with_reducible exact LeO.none _)
   | (with_reducible refine LeO.ite ?_ ?_)
   | (with_reducible refine LeO.bind ?_ (fun _ => ?_))
   | exact ih0 _ _ _ _ _ _ _ _ _ _ _ _ _ _ _
   | exact ih1 _ _ _ _ _ _ _ _ _ _ _ _ _ _ _ _
   | exact ih2 _ _ _ _ _ _ _ _ _ _ _ _ _ _ _ _ _ _ _ _
   | exact ih3 _ _ _ _ _ _ _ _ _ _ _ _ _ _ _
   | exact ih4 _ _ _ _ _ _ _ _ _ _ _
   | exact ih5 _ _ _ _ _ _ _ _ _ _ _ _
   | exact ih6 _
   | exact bearing_Permit.mono _ _ _ _ _ _ _ _ _ _ _ _
   | exact fastilaw29_sane.mono _
   | exact LeO.none _
   | refine LeO.ite ?_ ?_
   | refine LeO.bind ?_ (fun _ => ?_)
  ·intro y0 y1 y2 y3 y4 y5 y6 y7 y8 y9 y10 y11 y12 y13 y14 y15 y16 y17 y18 y19
   unfold fastilaw29_BearingWeather.l0
   repeat' first
   | (with_reducible exact ih0 _ _ _ _ _ _ _ _ _ _ _ _ _ _ _)
   | (with_reducible exact ih1 _ _ _ _ _ _ _ _ _ _ _ _ _ _ _ _)
   | (with_reducible exact ih2 _ _ _ _ _ _ _ _ _ _ _ _ _ _ _ _ _ _ _ _)
   | (with_reducible exact ih3 _ _ _ _ _ _ _ _ _ _ _ _ _ _ _)
   | (with_reducible exact ih4 _ _ _ _ _ _ _ _ _ _ _)
   | (with_reducible exact ih5 _ _ _ _ _ _ _ _ _ _ _ _)
   | (with_reducible exact ih6 _)
   | (with_reducible exact bearing_Permit.mono _ _ _ _ _ _ _ _ _ _ _ _)
   | (with_reducible exact fastilaw29_sane.mono _)
   | (with_reducible exact LeO.refl _)
   | (with_reducible exact LeO.none _)
   | (with_reducible refine LeO.ite ?_ ?_)
   | (with_reducible refine LeO.bind ?_ (fun _ => ?_))
   | exact ih0 _ _ _ _ _ _ _ _ _ _ _ _ _ _ _
   | exact ih1 _ _ _ _ _ _ _ _ _ _ _ _ _ _ _ _
   | exact ih2 _ _ _ _ _ _ _ _ _ _ _ _ _ _ _ _ _ _ _ _
   | exact ih3 _ _ _ _ _ _ _ _ _ _ _ _ _ _ _
   | exact ih4 _ _ _ _ _ _ _ _ _ _ _
   | exact ih5 _ _ _ _ _ _ _ _ _ _ _ _
   | exact ih6 _
   | exact bearing_Permit.mono _ _ _ _ _ _ _ _ _ _ _ _
   | exact fastilaw29_sane.mono _
   | exact LeO.none _
   | refine LeO.ite ?_ ?_
   | refine LeO.bind ?_ (fun _ => ?_)
  ·intro y0 y1 y2 y3 y4 y5 y6 y7 y8 y9 y10 y11 y12 y13 y14
   unfold fastilaw29_BearingWeather.j3
   repeat' first
   | (with_reducible exact ih0 _ _ _ _ _ _ _ _ _ _ _ _ _ _ _)
   | (with_reducible exact ih1 _ _ _ _ _ _ _ _ _ _ _ _ _ _ _ _)
   | (with_reducible exact ih2 _ _ _ _ _ _ _ _ _ _ _ _ _ _ _ _ _ _ _ _)
   | (with_reducible exact ih3 _ _ _ _ _ _ _ _ _ _ _ _ _ _ _)
   | (with_reducible exact ih4 _ _ _ _ _ _ _ _ _ _ _)
   | (with_reducible exact ih5 _ _ _ _ _ _ _ _ _ _ _ _)
   | (with_reducible exact ih6 _)
   | (with_reducible exact bearing_Permit.mono _ _ _ _ _ _ _ _ _ _ _ _)
   | (with_reducible exact fastilaw29_sane.mono _)
   | (with_reducible exact LeO.refl _)
   | (with_reducible exact LeO.none _)
   | (with_reducible refine LeO.ite ?_ ?_)
   | (with_reducible refine LeO.bind ?_ (fun _ => ?_))
   | exact ih0 _ _ _ _ _ _ _ _ _ _ _ _ _ _ _
   | exact ih1 _ _ _ _ _ _ _ _ _ _ _ _ _ _ _ _
   | exact ih2 _ _ _ _ _ _ _ _ _ _ _ _ _ _ _ _ _ _ _ _
   | exact ih3 _ _ _ _ _ _ _ _ _ _ _ _ _ _ _
   | exact ih4 _ _ _ _ _ _ _ _ _ _ _
   | exact ih5 _ _ _ _ _ _ _ _ _ _ _ _
   | exact ih6 _
   | exact bearing_Permit.mono _ _ _ _ _ _ _ _ _ _ _ _
   | exact fastilaw29_sane.mono _
   | exact LeO.none _
   | refine LeO.ite ?_ ?_
   | refine LeO.bind ?_ (fun _ => ?_)
  ·intro y0 y1 y2 y3 y4 y5 y6 y7 y8 y9 y10
   unfold fastilaw29_BearingWeather.j4
   repeat' first
   | (with_reducible exact ih0 _ _ _ _ _ _ _ _ _ _ _ _ _ _ _)
   | (with_reducible exact ih1 _ _ _ _ _ _ _ _ _ _ _ _ _ _ _ _)
   | (with_reducible exact ih2 _ _ _ _ _ _ _ _ _ _ _ _ _ _ _ _ _ _ _ _)
   | (with_reducible exact ih3 _ _ _ _ _ _ _ _ _ _ _ _ _ _ _)
   | (with_reducible exact ih4 _ _ _ _ _ _ _ _ _ _ _)
   | (with_reducible exact ih5 _ _ _ _ _ _ _ _ _ _ _ _)
   | (with_reducible exact ih6 _)
   | (with_reducible exact bearing_Permit.mono _ _ _ _ _ _ _ _ _ _ _ _)
   | (with_reducible exact fastilaw29_sane.mono _)
   | (with_reducible exact LeO.refl _)
   | (with_reducible exact LeO.none _)
   | (with_reducible refine LeO.ite ?_ ?_)
   | (with_reducible refine LeO.bind ?_ (fun _ => ?_))
   | exact ih0 _ _ _ _ _ _ _ _ _ _ _ _ _ _ _
   | exact ih1 _ _ _ _ _ _ _ _ _ _ _ _ _ _ _ _
   | exact ih2 _ _ _ _ _ _ _ _ _ _ _ _ _ _ _ _ _ _ _ _
   | exact ih3 _ _ _ _ _ _ _ _ _ _ _ _ _ _ _
   | exact ih4 _ _ _ _ _ _ _ _ _ _ _
   | exact ih5 _ _ _ _ _ _ _ _ _ _ _ _
   | exact ih6 _
   | exact bearing_Permit.mono _ _ _ _ _ _ _ _ _ _ _ _
   | exact fastilaw29_sane.mono _
   | exact LeO.none _
   | refine LeO.ite ?_ ?_
   | refine LeO.bind ?_ (fun _ => ?_)
  ·intro y0 y1 y2 y3 y4 y5 y6 y7 y8 y9 y10 y11
   unfold fastilaw29_BearingWeather.j5
   repeat' first
   | (with_reducible exact ih0 _ _ _ _ _ _ _ _ _ _ _ _ _ _ _)
   | (with_reducible exact ih1 _ _ _ _ _ _ _ _ _ _ _ _ _ _ _ _)
   | (with_reducible exact ih2 _ _ _ _ _ _ _ _ _ _ _ _ _ _ _ _ _ _ _ _)
   | (with_reducible exact ih3 _ _ _ _ _ _ _ _ _ _ _ _ _ _ _)
   | (with_reducible exact ih4 _ _ _ _ _ _ _ _ _ _ _)
   | (with_reducible exact ih5 _ _ _ _ _ _ _ _ _ _ _ _)
   | (with_reducible exact ih6 _)
   | (with_reducible exact bearing_Permit.mono _ _ _ _ _ _ _ _ _ _ _ _)
   | (with_reducible exact fastilaw29_sane.mono _)
   | (with_reducible exact LeO.refl _)
   | (with_reducible exact LeO.none _)
   | (with_reducible refine LeO.ite ?_ ?_)
   | (with_reducible refine LeO.bind ?_ (fun _ => ?_))
   | exact ih0 _ _ _ _ _ _ _ _ _ _ _ _ _ _ _
   | exact ih1 _ _ _ _ _ _ _ _ _ _ _ _ _ _ _ _
   | exact ih2 _ _ _ _ _ _ _ _ _ _ _ _ _ _ _ _ _ _ _ _
   | exact ih3 _ _ _ _ _ _ _ _ _ _ _ _ _ _ _
   | exact ih4 _ _ _ _ _ _ _ _ _ _ _
   | exact ih5 _ _ _ _ _ _ _ _ _ _ _ _
   | exact ih6 _
   | exact bearing_Permit.mono _ _ _ _ _ _ _ _ _ _ _ _
   | exact fastilaw29_sane.mono _
   | exact LeO.none _
   | refine LeO.ite ?_ ?_
   | refine LeO.bind ?_ (fun _ => ?_)
  ·intro y0
   unfold fastilaw29_BearingWeather.j6
   repeat' first
   | (with_reducible exact ih0 _ _ _ _ _ _ _ _ _ _ _ _ _ _ _)
   | (with_reducible exact ih1 _ _ _ _ _ _ _ _ _ _ _ _ _ _ _ _)
   | (with_reducible exact ih2 _ _ _ _ _ _ _ _ _ _ _ _ _ _ _ _ _ _ _ _)
   | (with_reducible exact ih3 _ _ _ _ _ _ _ _ _ _ _ _ _ _ _)
   | (with_reducible exact ih4 _ _ _ _ _ _ _ _ _ _ _)
   | (with_reducible exact ih5 _ _ _ _ _ _ _ _ _ _ _ _)
   | (with_reducible exact ih6 _)
   | (with_reducible exact bearing_Permit.mono _ _ _ _ _ _ _ _ _ _ _ _)
   | (with_reducible exact fastilaw29_sane.mono _)
   | (with_reducible exact LeO.refl _)
   | (with_reducible exact LeO.none _)
   | (with_reducible refine LeO.ite ?_ ?_)
   | (with_reducible refine LeO.bind ?_ (fun _ => ?_))
   | exact ih0 _ _ _ _ _ _ _ _ _ _ _ _ _ _ _
   | exact ih1 _ _ _ _ _ _ _ _ _ _ _ _ _ _ _ _
   | exact ih2 _ _ _ _ _ _ _ _ _ _ _ _ _ _ _ _ _ _ _ _
   | exact ih3 _ _ _ _ _ _ _ _ _ _ _ _ _ _ _
   | exact ih4 _ _ _ _ _ _ _ _ _ _ _
   | exact ih5 _ _ _ _ _ _ _ _ _ _ _ _
   | exact ih6 _
   | exact bearing_Permit.mono _ _ _ _ _ _ _ _ _ _ _ _
   | exact fastilaw29_sane.mono _
   | exact LeO.none _
   | refine LeO.ite ?_ ?_
   | refine LeO.bind ?_ (fun _ => ?_)
theorem fastilaw29_BearingWeather.mono : ∀ a0 a1 a2 a3 a4 a5 a6 a7 a8 a9 a10 a11 a12 k, LeO (fastilaw29_BearingWeather.f k a0 a1 a2 a3 a4 a5 a6 a7 a8 a9 a10 a11 a12) (fastilaw29_BearingWeather.f (k + 1) a0 a1 a2 a3 a4 a5 a6 a7 a8 a9 a10 a11 a12) := by
 intro a0 a1 a2 a3 a4 a5 a6 a7 a8 a9 a10 a11 a12 k
 obtain ⟨ih0, ih1, ih2, ih3, ih4, ih5, ih6⟩ := fastilaw29_BearingWeather.mono_l k
 unfold fastilaw29_BearingWeather.f
 repeat' first
   | (with_reducible exact ih0 _ _ _ _ _ _ _ _ _ _ _ _ _ _ _)
   | (with_reducible exact ih1 _ _ _ _ _ _ _ _ _ _ _ _ _ _ _ _)
   | (with_reducible exact ih2 _ _ _ _ _ _ _ _ _ _ _ _ _ _ _ _ _ _ _ _)
   | (with_reducible exact ih3 _ _ _ _ _ _ _ _ _ _ _ _ _ _ _)
   | (with_reducible exact ih4 _ _ _ _ _ _ _ _ _ _ _)
   | (with_reducible exact ih5 _ _ _ _ _ _ _ _ _ _ _ _)
   | (with_reducible exact ih6 _)
   | (with_reducible exact bearing_Permit.mono _ _ _ _ _ _ _ _ _ _ _ _)
   | (with_reducible exact fastilaw29_sane.mono _)
   | (with_reducible exact LeO.refl _)
   | (with_reducible exact LeO.none _)
   | (with_reducible refine LeO.ite ?_ ?_)
   | (with_reducible refine LeO.bind ?_ (fun _ => ?_))
   | exact ih0 _ _ _ _ _ _ _ _ _ _ _ _ _ _ _
   | exact ih1 _ _ _ _ _ _ _ _ _ _ _ _ _ _ _ _
   | exact ih2 _ _ _ _ _ _ _ _ _ _ _ _ _ _ _ _ _ _ _ _
   | exact ih3 _ _ _ _ _ _ _ _ _ _ _ _ _ _ _
   | exact ih4 _ _ _ _ _ _ _ _ _ _ _
   | exact ih5 _ _ _ _ _ _ _ _ _ _ _ _
   | exact ih6 _
   | exact bearing_Permit.mono _ _ _ _ _ _ _ _ _ _ _ _
   | exact fastilaw29_sane.mono _
   | exact LeO.none _
   | refine LeO.ite ?_ ?_
   | refine LeO.bind ?_ (fun _ => ?_)
end Go.Proofs.Ytenjkflckkmahaa.Q
