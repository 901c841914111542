/- Functions of the translation as plain Lean functions, and proofs that the calls do what these say; written by a program of this session round the kit's print. -/
import Derived.WalkMore
import Derived.Test.YtgiinjfandeddaaQ0
import Derived.Test.YtgiinjfandeddaaAidB
import Derived.Test.YtgiinjfandeddaaAidC
import Derived.Test.YtgiinjfandeddaaGRe
namespace Go.Proofs.Ytgiinjfandeddaa.Q
open Go.RowKit Go.Proofs.YtgiinjfandeddaaW.PrintWords Go.Proofs.YtgiinjfandeddaaW.PrintLast Go.Proofs.YtgiinjfandeddaaW.PrintMore
attribute [local go_sem] max2_int min2_int max_two min_two max_three min_three max_four min_four   -- for this text's walks alone
set_option linter.unusedVariables false
set_option linter.unusedSimpArgs false

/-! ### assign_solve: function 31 -/
mutual
def assign_solve.l0 : Nat → List (List Int) → Int → List Int → List Int → List Int → List Int → Int → Int → Option (List Int × List Int × List Int × Bool)
 | 0, _, _, _, _, _, _, _, _ => none
 | k + 1, x0, x1, x4, x5, x6, x8, x35, x36 => if x36 < x35 then ((slices_Repeat_int_int.f (([1152921504606846976] : List Int)) x1).bind fun t138 => (if 0 ≤ x1 then (if (x1 : Int).toNat ≤ 35184372088832 then (if (x1 : Int).toNat ≤ 281474976710656 then (assign_solve.l1 k x0 x1 x4 x5 x6 x8 x36 t138 (List.replicate (x1 : Int).toNat 0) (List.replicate (x1 : Int).toNat false) (-1) x36 x35 x36) else (none)) else (none)) else (none))) else (assign_solve.l5 k x4 x5 x6 x8 (x8.length : Int) 0)
def assign_solve.l1 : Nat → List (List Int) → Int → List Int → List Int → List Int → List Int → Int → List Int → List Int → List Bool → Int → Int → Int → Int → Option (List Int × List Int × List Int × Bool)
 | 0, _, _, _, _, _, _, _, _, _, _, _, _, _, _ => none
 | k + 1, x0, x1, x4, x5, x6, x8, x9, x10, x11, x12, x13, x14, x35, x36 => assign_solve.l2 k x0 x1 x4 x5 x6 x8 x9 x10 x11 x12 x13 x14 1152921504606846976 (-1) x35 x36 x1 0
def assign_solve.l2 : Nat → List (List Int) → Int → List Int → List Int → List Int → List Int → Int → List Int → List Int → List Bool → Int → Int → Int → Int → Int → Int → Int → Int → Option (List Int × List Int × List Int × Bool)
 | 0, _, _, _, _, _, _, _, _, _, _, _, _, _, _, _, _, _, _ => none
 | k + 1, x0, x1, x4, x5, x6, x8, x9, x10, x11, x12, x13, x14, x15, x16, x35, x36, x47, x48 => if x48 < x47 then (if 0 ≤ x48 then (if x48 < (x12.length : Int) then (if rdOf false x12 x48 = true then (assign_solve.l2 k x0 x1 x4 x5 x6 x8 x9 x10 x11 x12 x13 x14 x15 x16 x35 x36 x47 (wrap64 (x48 + 1))) else (if 0 ≤ x14 then (if x14 < (x0.length : Int) then (if x48 < ((rd_L1 x0 x14).length : Int) then (if (rd (rd_L1 x0 x14) x48) ≥ 0 then (if x14 < (x5.length : Int) then (if x48 < (x6.length : Int) then (if x48 < (x10.length : Int) then (assign_solve.j3 k x0 x1 x4 x5 x6 x8 x9 x10 x11 x12 x13 x14 x15 x16 x48 (rd (rd_L1 x0 x14) x48) x35 x36 x47 x48 (decide ((wrap64 ((wrap64 ((rd (rd_L1 x0 x14) x48) - (rd x5 x14))) - (rd x6 x48))) < (rd x10 x48)))) else (none)) else (none)) else (none)) else (assign_solve.j3 k x0 x1 x4 x5 x6 x8 x9 x10 x11 x12 x13 x14 x15 x16 x48 (rd (rd_L1 x0 x14) x48) x35 x36 x47 x48 false)) else (none)) else (none)) else (none))) else (none)) else (none)) else (if x16 < 0 then (some (([] : List Int), ([] : List Int), ([] : List Int), false)) else (if 0 ≤ x9 then (if x9 < (x5.length : Int) then (assign_solve.l3 k x0 x1 x4 (x5.set (x9 : Int).toNat (wrap64 ((rd x5 x9) + x15))) x6 x8 x9 x10 x11 x12 x15 x16 x35 x36 x1 0) else (none)) else (none)))
def assign_solve.j3 : Nat → List (List Int) → Int → List Int → List Int → List Int → List Int → Int → List Int → List Int → List Bool → Int → Int → Int → Int → Int → Int → Int → Int → Int → Int → Bool → Option (List Int × List Int × List Int × Bool)
 | 0, _, _, _, _, _, _, _, _, _, _, _, _, _, _, _, _, _, _, _, _, _ => none
 | k + 1, x0, x1, x4, x5, x6, x8, x9, x10, x11, x12, x13, x14, x15, x16, x17, x18, x35, x36, x47, x48, x81 => if x81 = true then (if 0 ≤ x14 then (if x14 < (x5.length : Int) then (if 0 ≤ x17 then (if x17 < (x6.length : Int) then (if x17 < (x10.length : Int) then ((some (x10.set (x17 : Int).toNat (wrap64 ((wrap64 (x18 - (rd x5 x14))) - (rd x6 x17))) : List Int)).bind fun y155 => (if x17 < (x11.length : Int) then ((some (x11.set (x17 : Int).toNat x13 : List Int)).bind fun y156 => (if (wrap64 ((wrap64 (x18 - (rd x5 x14))) - (rd x6 x17))) < x15 then (assign_solve.l2 k x0 x1 x4 x5 x6 x8 x9 y155 y156 x12 x13 x14 (wrap64 ((wrap64 (x18 - (rd x5 x14))) - (rd x6 x17))) x17 x35 x36 x47 (wrap64 (x48 + 1))) else (assign_solve.l2 k x0 x1 x4 x5 x6 x8 x9 y155 y156 x12 x13 x14 x15 x16 x35 x36 x47 (wrap64 (x48 + 1))))) else (none))) else (none)) else (none)) else (none)) else (none)) else (none)) else (if 0 ≤ x17 then (if x17 < (x10.length : Int) then (if (rd x10 x17) < x15 then (assign_solve.l2 k x0 x1 x4 x5 x6 x8 x9 x10 x11 x12 x13 x14 (rd x10 x17) x17 x35 x36 x47 (wrap64 (x48 + 1))) else (assign_solve.l2 k x0 x1 x4 x5 x6 x8 x9 x10 x11 x12 x13 x14 x15 x16 x35 x36 x47 (wrap64 (x48 + 1)))) else (none)) else (none))
def assign_solve.l3 : Nat → List (List Int) → Int → List Int → List Int → List Int → List Int → Int → List Int → List Int → List Bool → Int → Int → Int → Int → Int → Int → Option (List Int × List Int × List Int × Bool)
 | 0, _, _, _, _, _, _, _, _, _, _, _, _, _, _, _, _ => none
 | k + 1, x0, x1, x4, x5, x6, x8, x9, x10, x11, x12, x15, x16, x35, x36, x121, x122 => if x122 < x121 then (if 0 ≤ x122 then (if x122 < (x12.length : Int) then (if rdOf false x12 x122 = true then (if x122 < (x8.length : Int) then (if 0 ≤ (rd x8 x122) then (if (rd x8 x122) < (x5.length : Int) then (if x122 < (x6.length : Int) then (assign_solve.l3 k x0 x1 x4 (x5.set ((rd x8 x122) : Int).toNat (wrap64 ((rd x5 (rd x8 x122)) + x15))) (x6.set (x122 : Int).toNat (wrap64 ((rd x6 x122) - x15))) x8 x9 x10 x11 x12 x15 x16 x35 x36 x121 (wrap64 (x122 + 1))) else (none)) else (none)) else (none)) else (none)) else (if x122 < (x10.length : Int) then (if (rd x10 x122) < 1152921504606846976 then (assign_solve.l3 k x0 x1 x4 x5 x6 x8 x9 (x10.set (x122 : Int).toNat (wrap64 ((rd x10 x122) - x15))) x11 x12 x15 x16 x35 x36 x121 (wrap64 (x122 + 1))) else (assign_solve.l3 k x0 x1 x4 x5 x6 x8 x9 x10 x11 x12 x15 x16 x35 x36 x121 (wrap64 (x122 + 1)))) else (none))) else (none)) else (none)) else (if 0 ≤ x16 then (if x16 < (x12.length : Int) then (if x16 < (x8.length : Int) then (if (rd x8 x16) < 0 then (assign_solve.l4 k x0 x1 x4 x5 x6 x8 x9 x11 x16 x35 x36) else (assign_solve.l1 k x0 x1 x4 x5 x6 x8 x9 x10 x11 (x12.set (x16 : Int).toNat true) x16 (rd x8 x16) x35 x36)) else (none)) else (none)) else (none))
def assign_solve.l4 : Nat → List (List Int) → Int → List Int → List Int → List Int → List Int → Int → List Int → Int → Int → Int → Option (List Int × List Int × List Int × Bool)
 | 0, _, _, _, _, _, _, _, _, _, _, _ => none
 | k + 1, x0, x1, x4, x5, x6, x8, x9, x11, x13, x35, x36 => if x13 ≥ 0 then (if 0 ≤ x13 then (if x13 < (x11.length : Int) then (if x13 < (x8.length : Int) then ((some (x8.set (x13 : Int).toNat x9 : List Int)).bind fun y176 => (if (rd x11 x13) ≥ 0 then (if 0 ≤ (rd x11 x13) then (if (rd x11 x13) < (x8.length : Int) then (assign_solve.l4 k x0 x1 x4 x5 x6 (y176.set (x13 : Int).toNat (rd y176 (rd x11 x13))) x9 x11 (rd x11 x13) x35 x36) else (none)) else (none)) else (assign_solve.l4 k x0 x1 x4 x5 x6 y176 x9 x11 (rd x11 x13) x35 x36))) else (none)) else (none)) else (none)) else (assign_solve.l0 k x0 x1 x4 x5 x6 x8 x35 (wrap64 (x36 + 1)))
def assign_solve.l5 : Nat → List Int → List Int → List Int → List Int → Int → Int → Option (List Int × List Int × List Int × Bool)
 | 0, _, _, _, _, _, _ => none
 | k + 1, x4, x5, x6, x195, x196, x197 => if x197 < x196 then (if 0 ≤ x197 then (if x197 < (x195.length : Int) then (if (rd x195 x197) ≥ 0 then (if 0 ≤ (rd x195 x197) then (if (rd x195 x197) < (x4.length : Int) then (assign_solve.l5 k (x4.set ((rd x195 x197) : Int).toNat x197) x5 x6 x195 x196 (wrap64 (x197 + 1))) else (none)) else (none)) else (assign_solve.l5 k x4 x5 x6 x195 x196 (wrap64 (x197 + 1)))) else (none)) else (none)) else (some (x4, x5, x6, true))
end
def assign_solve.f (k : Nat) (l0 : List (List Int)) (a1 : Int) : Option (List Int × List Int × List Int × Bool) := if 0 ≤ (l0.length : Int) then (if ((l0.length : Int) : Int).toNat ≤ 35184372088832 then (if 0 ≤ a1 then (if (a1 : Int).toNat ≤ 35184372088832 then ((slices_Repeat_int_int.f (([(-1)] : List Int)) a1).bind fun t132 => (assign_solve.l0 k l0 a1 (List.replicate ((l0.length : Int) : Int).toNat 0) (List.replicate ((l0.length : Int) : Int).toNat 0) (List.replicate (a1 : Int).toNat 0) t132 (l0.length : Int) 0)) else (none)) else (none)) else (none)) else (none)
theorem assign_solve.mono_l : ∀ k, (∀ y0 y1 y2 y3 y4 y5 y6 y7, LeO (assign_solve.l0 k y0 y1 y2 y3 y4 y5 y6 y7) (assign_solve.l0 (k + 1) y0 y1 y2 y3 y4 y5 y6 y7)) ∧ (∀ y0 y1 y2 y3 y4 y5 y6 y7 y8 y9 y10 y11 y12 y13, LeO (assign_solve.l1 k y0 y1 y2 y3 y4 y5 y6 y7 y8 y9 y10 y11 y12 y13) (assign_solve.l1 (k + 1) y0 y1 y2 y3 y4 y5 y6 y7 y8 y9 y10 y11 y12 y13)) ∧ (∀ y0 y1 y2 y3 y4 y5 y6 y7 y8 y9 y10 y11 y12 y13 y14 y15 y16 y17, LeO (assign_solve.l2 k y0 y1 y2 y3 y4 y5 y6 y7 y8 y9 y10 y11 y12 y13 y14 y15 y16 y17) (assign_solve.l2 (k + 1) y0 y1 y2 y3 y4 y5 y6 y7 y8 y9 y10 y11 y12 y13 y14 y15 y16 y17)) ∧ (∀ y0 y1 y2 y3 y4 y5 y6 y7 y8 y9 y10 y11 y12 y13 y14 y15 y16 y17 y18 y19 y20, LeO (assign_solve.j3 k y0 y1 y2 y3 y4 y5 y6 y7 y8 y9 y10 y11 y12 y13 y14 y15 y16 y17 y18 y19 y20) (assign_solve.j3 (k + 1) y0 y1 y2 y3 y4 y5 y6 y7 y8 y9 y10 y11 y12 y13 y14 y15 y16 y17 y18 y19 y20)) ∧ (∀ y0 y1 y2 y3 y4 y5 y6 y7 y8 y9 y10 y11 y12 y13 y14 y15, LeO (assign_solve.l3 k y0 y1 y2 y3 y4 y5 y6 y7 y8 y9 y10 y11 y12 y13 y14 y15) (assign_solve.l3 (k + 1) y0 y1 y2 y3 y4 y5 y6 y7 y8 y9 y10 y11 y12 y13 y14 y15)) ∧ (∀ y0 y1 y2 y3 y4 y5 y6 y7 y8 y9 y10, LeO (assign_solve.l4 k y0 y1 y2 y3 y4 y5 y6 y7 y8 y9 y10) (assign_solve.l4 (k + 1) y0 y1 y2 y3 y4 y5 y6 y7 y8 y9 y10)) ∧ (∀ y0 y1 y2 y3 y4 y5, LeO (assign_solve.l5 k y0 y1 y2 y3 y4 y5) (assign_solve.l5 (k + 1) y0 y1 y2 y3 y4 y5))
 | 0 => ⟨fun _ _ _ _ _ _ _ _ r h => by simp [assign_solve.l0] at h, fun _ _ _ _ _ _ _ _ _ _ _ _ _ _ r h => by simp [assign_solve.l1] at h, fun _ _ _ _ _ _ _ _ _ _ _ _ _ _ _ _ _ _ r h => by simp [assign_solve.l2] at h, fun _ _ _ _ _ _ _ _ _ _ _ _ _ _ _ _ _ _ _ _ _ r h => by simp [assign_solve.j3] at h, fun _ _ _ _ _ _ _ _ _ _ _ _ _ _ _ _ r h => by simp [assign_solve.l3] at h, fun _ _ _ _ _ _ _ _ _ _ _ r h => by simp [assign_solve.l4] at h, fun _ _ _ _ _ _ r h => by simp [assign_solve.l5] at h⟩
 | k + 1 => by
  obtain ⟨ih0, ih1, ih2, ih3, ih4, ih5, ih6⟩ := assign_solve.mono_l k
  refine ⟨?_, ?_, ?_, ?_, ?_, ?_, ?_⟩
  ·intro y0 y1 y2 y3 y4 y5 y6 y7
   unfold assign_solve.l0
   repeat' first
   | (with_reducible exact ih0 _ _ _ _ _ _ _ _)
   | (with_reducible exact ih1 _ _ _ _ _ _ _ _ _ _ _ _ _ _)
   | (with_reducible exact ih2 _ _ _ _ _ _ _ _ _ _ _ _ _ _ _ _ _ _)
   | (with_reducible exact ih3 _ _ _ _ _ _ _ _ _ _ _ _ _ _ _ _ _ _ _ _ _)
   | (with_reducible exact ih4 _ _ _ _ _ _ _ _ _ _ _ _ _ _ _ _)
   | (with_reducible exact ih5 _ _ _ _ _ _ _ _ _ _ _)
   | (with_reducible exact ih6 _ _ _ _ _ _)
   | (with_reducible exact LeO.refl _)
   | (with_reducible exact LeO.none _)
   | (with_reducible refine LeO.ite ?_ ?_)
   | (with_reducible refine LeO.bind ?_ (fun _ => ?_))
   | exact ih0 _ _ _ _ _ _ _ _
   | exact ih1 _ _ _ _ _ _ _ _ _ _ _ _ _ _
   | exact ih2 _ _ _ _ _ _ _ _ _ _ _ _ _ _ _ _ _ _
   | exact ih3 _ _ _ _ _ _ _ _ _ _ _ _ _ _ _ _ _ _ _ _ _
   | exact ih4 _ _ _ _ _ _ _ _ _ _ _ _ _ _ _ _
   | exact ih5 _ _ _ _ _ _ _ _ _ _ _
   | exact ih6 _ _ _ _ _ _
   | exact LeO.none _
   | refine LeO.ite ?_ ?_
   | refine LeO.bind ?_ (fun _ => ?_)
  ·intro y0 y1 y2 y3 y4 y5 y6 y7 y8 y9 y10 y11 y12 y13
   unfold assign_solve.l1
   repeat' first
   | (with_reducible exact ih0 _ _ _ _ _ _ _ _)
   | (with_reducible exact ih1 _ _ _ _ _ _ _ _ _ _ _ _ _ _)
   | (with_reducible exact ih2 _ _ _ _ _ _ _ _ _ _ _ _ _ _ _ _ _ _)
   | (with_reducible exact ih3 _ _ _ _ _ _ _ _ _ _ _ _ _ _ _ _ _ _ _ _ _)
   | (with_reducible exact ih4 _ _ _ _ _ _ _ _ _ _ _ _ _ _ _ _)
   | (with_reducible exact ih5 _ _ _ _ _ _ _ _ _ _ _)
   | (with_reducible exact ih6 _ _ _ _ _ _)
   | (with_reducible exact LeO.refl _)
   | (with_reducible exact LeO.none _)
   | (with_reducible refine LeO.ite ?_ ?_)
   | (with_reducible refine LeO.bind ?_ (fun _ => ?_))
   | exact ih0 _ _ _ _ _ _ _ _
   | exact ih1 _ _ _ _ _ _ _ _ _ _ _ _ _ _
   | exact ih2 _ _ _ _ _ _ _ _ _ _ _ _ _ _ _ _ _ _
   | exact ih3 _ _ _ _ _ _ _ _ _ _ _ _ _ _ _ _ _ _ _ _ _
   | exact ih4 _ _ _ _ _ _ _ _ _ _ _ _ _ _ _ _
   | exact ih5 _ _ _ _ _ _ _ _ _ _ _
   | exact ih6 _ _ _ _ _ _
   | exact LeO.none _
   | refine LeO.ite ?_ ?_
   | refine LeO.bind ?_ (fun _ => ?_)
  ·intro y0 y1 y2 y3 y4 y5 y6 y7 y8 y9 y10 y11 y12 y13 y14 y15 y16 y17
   unfold assign_solve.l2
   repeat' first
   | (with_reducible exact ih0 _ _ _ _ _ _ _ _)
   | (with_reducible exact ih1 _ _ _ _ _ _ _ _ _ _ _ _ _ _)
   | (with_reducible exact ih2 _ _ _ _ _ _ _ _ _ _ _ _ _ _ _ _ _ _)
   | (with_reducible exact ih3 _ _ _ _ _ _ _ _ _ _ _ _ _ _ _ _ _ _ _ _ _)
   | (with_reducible exact ih4 _ _ _ _ _ _ _ _ _ _ _ _ _ _ _ _)
   | (with_reducible exact ih5 _ _ _ _ _ _ _ _ _ _ _)
   | (with_reducible exact ih6 _ _ _ _ _ _)
   | (with_reducible exact LeO.refl _)
   | (with_reducible exact LeO.none _)
   | (with_reducible refine LeO.ite ?_ ?_)
   | (with_reducible refine LeO.bind ?_ (fun _ => ?_))
   | exact ih0 _ _ _ _ _ _ _ _
   | exact ih1 _ _ _ _ _ _ _ _ _ _ _ _ _ _
   | exact ih2 _ _ _ _ _ _ _ _ _ _ _ _ _ _ _ _ _ _
   | exact ih3 _ _ _ _ _ _ _ _ _ _ _ _ _ _ _ _ _ _ _ _ _
   | exact ih4 _ _ _ _ _ _ _ _ _ _ _ _ _ _ _ _
   | exact ih5 _ _ _ _ _ _ _ _ _ _ _
   | exact ih6 _ _ _ _ _ _
   | exact LeO.none _
   | refine LeO.ite ?_ ?_
   | refine LeO.bind ?_ (fun _ => ?_)
  ·intro y0 y1 y2 y3 y4 y5 y6 y7 y8 y9 y10 y11 y12 y13 y14 y15 y16 y17 y18 y19 y20
   unfold assign_solve.j3
   repeat' first
   | (with_reducible exact ih0 _ _ _ _ _ _ _ _)
   | (with_reducible exact ih1 _ _ _ _ _ _ _ _ _ _ _ _ _ _)
   | (with_reducible exact ih2 _ _ _ _ _ _ _ _ _ _ _ _ _ _ _ _ _ _)
   | (with_reducible exact ih3 _ _ _ _ _ _ _ _ _ _ _ _ _ _ _ _ _ _ _ _ _)
   | (with_reducible exact ih4 _ _ _ _ _ _ _ _ _ _ _ _ _ _ _ _)
   | (with_reducible exact ih5 _ _ _ _ _ _ _ _ _ _ _)
   | (with_reducible exact ih6 _ _ _ _ _ _)
   | (with_reducible exact LeO.refl _)
   | (with_reducible exact LeO.none _)
   | (with_reducible refine LeO.ite ?_ ?_)
   | (with_reducible refine LeO.bind ?_ (fun _ => ?_))
   | exact ih0 _ _ _ _ _ _ _ _
   | exact ih1 _ _ _ _ _ _ _ _ _ _ _ _ _ _
   | exact ih2 _ _ _ _ _ _ _ _ _ _ _ _ _ _ _ _ _ _
   | exact ih3 _ _ _ _ _ _ _ _ _ _ _ _ _ _ _ _ _ _ _ _ _
   | exact ih4 _ _ _ _ _ _ _ _ _ _ _ _ _ _ _ _
   | exact ih5 _ _ _ _ _ _ _ _ _ _ _
   | exact ih6 _ _ _ _ _ _
   | exact LeO.none _
   | refine LeO.ite ?_ ?_
   | refine LeO.bind ?_ (fun _ => ?_)
  ·intro y0 y1 y2 y3 y4 y5 y6 y7 y8 y9 y10 y11 y12 y13 y14 y15
   unfold assign_solve.l3
   repeat' first
   | (with_reducible exact ih0 _ _ _ _ _ _ _ _)
   | (with_reducible exact ih1 _ _ _ _ _ _ _ _ _ _ _ _ _ _)
   | (with_reducible exact ih2 _ _ _ _ _ _ _ _ _ _ _ _ _ _ _ _ _ _)
   | (with_reducible exact ih3 _ _ _ _ _ _ _ _ _ _ _ _ _ _ _ _ _ _ _ _ _)
   | (with_reducible exact ih4 _ _ _ _ _ _ _ _ _ _ _ _ _ _ _ _)
   | (with_reducible exact ih5 _ _ _ _ _ _ _ _ _ _ _)
   | (with_reducible exact ih6 _ _ _ _ _ _)
   | (with_reducible exact LeO.refl _)
   | (with_reducible exact LeO.none _)
   | (with_reducible refine LeO.ite ?_ ?_)
   | (with_reducible refine LeO.bind ?_ (fun _ => ?_))
   | exact ih0 _ _ _ _ _ _ _ _
   | exact ih1 _ _ _ _ _ _ _ _ _ _ _ _ _ _
   | exact ih2 _ _ _ _ _ _ _ _ _ _ _ _ _ _ _ _ _ _
   | exact ih3 _ _ _ _ _ _ _ _ _ _ _ _ _ _ _ _ _ _ _ _ _
   | exact ih4 _ _ _ _ _ _ _ _ _ _ _ _ _ _ _ _
   | exact ih5 _ _ _ _ _ _ _ _ _ _ _
   | exact ih6 _ _ _ _ _ _
   | exact LeO.none _
   | refine LeO.ite ?_ ?_
   | refine LeO.bind ?_ (fun _ => ?_)
  ·intro y0 y1 y2 y3 y4 y5 y6 y7 y8 y9 y10
   unfold assign_solve.l4
   repeat' first
   | (with_reducible exact ih0 _ _ _ _ _ _ _ _)
   | (with_reducible exact ih1 _ _ _ _ _ _ _ _ _ _ _ _ _ _)
   | (with_reducible exact ih2 _ _ _ _ _ _ _ _ _ _ _ _ _ _ _ _ _ _)
   | (with_reducible exact ih3 _ _ _ _ _ _ _ _ _ _ _ _ _ _ _ _ _ _ _ _ _)
   | (with_reducible exact ih4 _ _ _ _ _ _ _ _ _ _ _ _ _ _ _ _)
   | (with_reducible exact ih5 _ _ _ _ _ _ _ _ _ _ _)
   | (with_reducible exact ih6 _ _ _ _ _ _)
   | (with_reducible exact LeO.refl _)
   | (with_reducible exact LeO.none _)
   | (with_reducible refine LeO.ite ?_ ?_)
   | (with_reducible refine LeO.bind ?_ (fun _ => ?_))
   | exact ih0 _ _ _ _ _ _ _ _
   | exact ih1 _ _ _ _ _ _ _ _ _ _ _ _ _ _
   | exact ih2 _ _ _ _ _ _ _ _ _ _ _ _ _ _ _ _ _ _
   | exact ih3 _ _ _ _ _ _ _ _ _ _ _ _ _ _ _ _ _ _ _ _ _
   | exact ih4 _ _ _ _ _ _ _ _ _ _ _ _ _ _ _ _
   | exact ih5 _ _ _ _ _ _ _ _ _ _ _
   | exact ih6 _ _ _ _ _ _
   | exact LeO.none _
   | refine LeO.ite ?_ ?_
   | refine LeO.bind ?_ (fun _ => ?_)
  ·intro y0 y1 y2 y3 y4 y5
   unfold assign_solve.l5
   repeat' first
   | (with_reducible exact ih0 _ _ _ _ _ _ _ _)
   | (with_reducible exact ih1 _ _ _ _ _ _ _ _ _ _ _ _ _ _)
   | (with_reducible exact ih2 _ _ _ _ _ _ _ _ _ _ _ _ _ _ _ _ _ _)
   | (with_reducible exact ih3 _ _ _ _ _ _ _ _ _ _ _ _ _ _ _ _ _ _ _ _ _)
   | (with_reducible exact ih4 _ _ _ _ _ _ _ _ _ _ _ _ _ _ _ _)
   | (with_reducible exact ih5 _ _ _ _ _ _ _ _ _ _ _)
   | (with_reducible exact ih6 _ _ _ _ _ _)
   | (with_reducible exact LeO.refl _)
   | (with_reducible exact LeO.none _)
   | (with_reducible refine LeO.ite ?_ ?_)
   | (with_reducible refine LeO.bind ?_ (fun _ => ?_))
   | exact ih0 _ _ _ _ _ _ _ _
   | exact ih1 _ _ _ _ _ _ _ _ _ _ _ _ _ _
   | exact ih2 _ _ _ _ _ _ _ _ _ _ _ _ _ _ _ _ _ _
   | exact ih3 _ _ _ _ _ _ _ _ _ _ _ _ _ _ _ _ _ _ _ _ _
   | exact ih4 _ _ _ _ _ _ _ _ _ _ _ _ _ _ _ _
   | exact ih5 _ _ _ _ _ _ _ _ _ _ _
   | exact ih6 _ _ _ _ _ _
   | exact LeO.none _
   | refine LeO.ite ?_ ?_
   | refine LeO.bind ?_ (fun _ => ?_)
theorem assign_solve.mono : ∀ a0 a1 k, LeO (assign_solve.f k a0 a1) (assign_solve.f (k + 1) a0 a1) := by
 intro a0 a1 k
 obtain ⟨ih0, ih1, ih2, ih3, ih4, ih5, ih6⟩ := assign_solve.mono_l k
 unfold assign_solve.f
 repeat' first
   | (with_reducible exact ih0 _ _ _ _ _ _ _ _)
   | (with_reducible exact ih1 _ _ _ _ _ _ _ _ _ _ _ _ _ _)
   | (with_reducible exact ih2 _ _ _ _ _ _ _ _ _ _ _ _ _ _ _ _ _ _)
   | (with_reducible exact ih3 _ _ _ _ _ _ _ _ _ _ _ _ _ _ _ _ _ _ _ _ _)
   | (with_reducible exact ih4 _ _ _ _ _ _ _ _ _ _ _ _ _ _ _ _)
   | (with_reducible exact ih5 _ _ _ _ _ _ _ _ _ _ _)
   | (with_reducible exact ih6 _ _ _ _ _ _)
   | (with_reducible exact LeO.refl _)
   | (with_reducible exact LeO.none _)
   | (with_reducible refine LeO.ite ?_ ?_)
   | (with_reducible refine LeO.bind ?_ (fun _ => ?_))
   | exact ih0 _ _ _ _ _ _ _ _
   | exact ih1 _ _ _ _ _ _ _ _ _ _ _ _ _ _
   | exact ih2 _ _ _ _ _ _ _ _ _ _ _ _ _ _ _ _ _ _
   | exact ih3 _ _ _ _ _ _ _ _ _ _ _ _ _ _ _ _ _ _ _ _ _
   | exact ih4 _ _ _ _ _ _ _ _ _ _ _ _ _ _ _ _
   | exact ih5 _ _ _ _ _ _ _ _ _ _ _
   | exact ih6 _ _ _ _ _ _
   | exact LeO.none _
   | refine LeO.ite ?_ ?_
   | refine LeO.bind ?_ (fun _ => ?_)
def assign_solve.T1 : Bool × List (List Nat × List Nat) := (true, [([], []), ([0], [0]), ([1, 1], [1]), ([], []), ([3], [3]), ([4, 4], [4]), ([], []), ([6, 6], [6]), ([2, 0, 1, 2], [2]), ([5, 8, 0, 1, 2, 3, 4, 5, 8], [5]), ([7, 9, 0, 1, 2, 3, 4, 5, 6, 7, 8, 9], [7])])
def assign_solve.B1 : List Nat := [0, 1, 3, 0, 8, 24, 0, 64, 7, 319, 1023]
theorem assign_solve.tab1 : rtab .any (opsOf Try.f31 1) = assign_solve.T1 := by kernel_rfl
theorem assign_solve.bits1 : waitsOk assign_solve.T1.2 assign_solve.B1 = true := by kernel_rfl
def assign_solve.T6 : Bool × List (List Nat × List Nat) := (true, [([], []), ([], []), ([0, 1], [0, 1]), ([], []), ([3, 3], [3]), ([], []), ([5, 5], [5]), ([2, 2, 0, 1, 2], [2]), ([4, 7, 0, 1, 2, 3, 4, 7], [4]), ([6, 8, 0, 1, 2, 3, 4, 5, 6, 7, 8], [6])])
def assign_solve.B6 : List Nat := [0, 0, 3, 0, 8, 0, 32, 7, 159, 511]
theorem assign_solve.tab6 : rtab .any (opsOf Try.f31 6) = assign_solve.T6 := by kernel_rfl
theorem assign_solve.bits6 : waitsOk assign_solve.T6.2 assign_solve.B6 = true := by kernel_rfl
def assign_solve.T14 : Bool × List (List Nat × List Nat) := (true, [([], []), ([0], [0]), ([1], [1]), ([2], [2]), ([2], [2]), ([2], [2]), ([4, 5, 2], [2, 4, 5]), ([6, 2], [2, 6]), ([3, 7, 2], [2, 3, 7]), ([2], [2]), ([2], [2]), ([9, 10, 2], [2, 9, 10]), ([11, 2], [2, 11]), ([8, 12, 2], [2, 8, 12]), ([2], [2]), ([2], [2]), ([14, 15, 2], [2, 14, 15]), ([16, 2], [2, 16]), ([13, 17, 2], [2, 13, 17]), ([2, 18], [2, 18])])
def assign_solve.B14 : List Nat := [0, 1, 3, 7, 7, 7, 55, 119, 255, 7, 7, 1543, 3591, 8191, 7, 7, 49159, 114695, 262143, 524287]
theorem assign_solve.tab14 : rtab .any (opsOf Try.f31 14) = assign_solve.T14 := by kernel_rfl
theorem assign_solve.bits14 : waitsOk assign_solve.T14.2 assign_solve.B14 = true := by kernel_rfl
def assign_solve.T15 : Bool × List (List Nat × List Nat) := (true, [([], []), ([], []), ([], []), ([], []), ([], []), ([], []), ([], []), ([5, 6], [5, 6]), ([7], [7]), ([4, 8], [4, 8]), ([], []), ([], []), ([10, 11], [10, 11]), ([12], [12]), ([9, 13], [9, 13]), ([], []), ([0, 1, 0, 1, 4, 5, 6, 7, 8, 9, 10, 11, 12, 13, 14], [0, 1]), ([16, 14, 0, 1, 4, 5, 6, 7, 8, 9, 10, 11, 12, 13, 14], [14, 16]), ([2, 3, 0, 1, 2, 3, 4, 5, 6, 7, 8, 9, 10, 11, 12, 13, 14, 15, 16, 17], [2, 3]), ([18, 15, 17, 0, 1, 2, 3, 4, 5, 6, 7, 8, 9, 10, 11, 12, 13, 14, 15, 16, 17], [15, 18])])
def assign_solve.B15 : List Nat := [0, 0, 0, 0, 0, 0, 0, 96, 224, 496, 0, 0, 3072, 7168, 16368, 0, 32755, 98291, 262143, 524287]
theorem assign_solve.tab15 : rtab .any (opsOf Try.f31 15) = assign_solve.T15 := by kernel_rfl
theorem assign_solve.bits15 : waitsOk assign_solve.T15.2 assign_solve.B15 = true := by kernel_rfl
end Go.Proofs.Ytgiinjfandeddaa.Q
