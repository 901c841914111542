/- Functions of the translation as plain Lean functions, and proofs that the calls do what these say; written by a program of this session round the kit's print. -/
import Derived.Test.YtebfcckaicgcfaaDoorQ0
import Derived.Test.YtebfcckaicgcfaaDoorAidB
import Derived.Test.YtebfcckaicgcfaaDoorAidC
import Derived.Test.YtebfcckaicgcfaaDoorQ6
import Derived.Test.YtebfcckaicgcfaaDoorQ13
import Derived.Test.YtebfcckaicgcfaaDoorFAd
namespace Go.Proofs.YtebfcckaicgcfaaDoor.Q
open Go.RowKit Go.Proofs.YtebfcckaicgcfaaDoorW.PrintWords Go.Proofs.YtebfcckaicgcfaaDoorW.PrintLast Go.Proofs.YtebfcckaicgcfaaDoorW.PrintMore
attribute [local go_sem] max2_int min2_int max_two min_two max_three min_three max_four min_four   -- for this text's walks alone
set_option linter.unusedVariables false
set_option linter.unusedSimpArgs false

/-! ### fastilaw46_FactsOrder: function 6 -/
mutual
def fastilaw46_FactsOrder.j0 : Nat → List (S24) → List Int → Bool → Option (Bool)
  | 0, _, _, _ => none
  | k + 1, x0, x1, x23 => if x23 = true then (some true) else ((some (([] : List (S24)) : List (S24))).bind fun y313 => (if y313.length + x0.length < 1954687338268 then (fastilaw46_FactsOrder.l0 k x0 x1 (y313 ++ x0) ([] : List (S24)) 0) else (none)))
def fastilaw46_FactsOrder.l0 : Nat → List (S24) → List Int → List (S24) → List (S24) → Int → Option (Bool)
  | 0, _, _, _, _, _ => none
  | k + 1, x0, x1, x5, x6, x7 => if (x5.length : Int) > 0 then (if x7 < (x1.length : Int) then (if 0 ≤ x7 then (if (x5.length : Int) = 0 then (none) else (fastilaw46_FactsOrder.j2 k x0 x1 x5 x6 x7 (Int.tmod (wrap64 (rd x1 x7)) (x5.length : Int)))) else (none)) else (fastilaw46_FactsOrder.j2 k x0 x1 x5 x6 x7 0)) else ((fastiref46_Same.f k x6 x0).bind fun t319 => (some t319))
def fastilaw46_FactsOrder.j2 : Nat → List (S24) → List Int → List (S24) → List (S24) → Int → Int → Option (Bool)
  | 0, _, _, _, _, _, _ => none
  | k + 1, x0, x1, x5, x6, x7, x8 => if 0 ≤ x8 then (if x8 < (x5.length : Int) then ((some (([] : List (S24)) : List (S24))).bind fun y323 => (if x8 ≤ (x5.length : Int) then ((some (x5.take (x8 : Int).toNat : List (S24))).bind fun y326 => (if y323.length + y326.length < 1954687338268 then ((some (y323 ++ y326 : List (S24))).bind fun y330 => (if 0 ≤ (wrap64 (x8 + 1)) then (if (wrap64 (x8 + 1)) ≤ (x5.length : Int) then ((some (x5.drop ((wrap64 (x8 + 1)) : Int).toNat : List (S24))).bind fun y333 => (if y330.length + y333.length < 1954687338268 then ((some (y330 ++ y333 : List (S24))).bind fun y337 => ((facts_Add.f x6 ((rd_T24 x5 x8).f0) ((rd_T24 x5 x8).f1) ((rd_T24 x5 x8).f2) ((rd_T24 x5 x8).f3) ((rd_T24 x5 x8).f4) ((rd_T24 x5 x8).f5) ((rd_T24 x5 x8).f6) ((rd_T24 x5 x8).f7) ((rd_T24 x5 x8).f8)).bind fun bt340 => (if bt340.2 = 0 then (fastilaw46_FactsOrder.j3 k x0 x1 y337 x7 bt340.1 ((bt340.1.length : Int) != (wrap64 ((x6.length : Int) + 1))) ((rd_T24 x5 x8).f0) ((rd_T24 x5 x8).f1) ((rd_T24 x5 x8).f2) ((rd_T24 x5 x8).f3) ((rd_T24 x5 x8).f4) ((rd_T24 x5 x8).f5) ((rd_T24 x5 x8).f6) ((rd_T24 x5 x8).f7) ((rd_T24 x5 x8).f8)) else (fastilaw46_FactsOrder.j3 k x0 x1 y337 x7 bt340.1 true ((rd_T24 x5 x8).f0) ((rd_T24 x5 x8).f1) ((rd_T24 x5 x8).f2) ((rd_T24 x5 x8).f3) ((rd_T24 x5 x8).f4) ((rd_T24 x5 x8).f5) ((rd_T24 x5 x8).f6) ((rd_T24 x5 x8).f7) ((rd_T24 x5 x8).f8))))) else (none))) else (none)) else (none))) else (none))) else (none))) else (none)) else (none)
def fastilaw46_FactsOrder.j3 : Nat → List (S24) → List Int → List (S24) → Int → List (S24) → Bool → Int → Int → Int → Int → Int → Int → Int → Int → Int → Option (Bool)
  | 0, _, _, _, _, _, _, _, _, _, _, _, _, _, _, _ => none
  | k + 1, x0, x1, x5, x7, x10, x73, x323000, x323001, x323002, x323003, x323004, x323005, x323006, x323007, x323008 => if x73 = true then (none) else ((facts_Add.f x10 x323000 x323001 x323002 x323003 x323004 x323005 x323006 x323007 x323008).bind fun bt344 => (if bt344.2 = 171 then (fastilaw46_FactsOrder.l0 k x0 x1 x5 x10 (wrap64 (x7 + 1))) else (none)))
end
def fastilaw46_FactsOrder.f (k : Nat) (l0 : List (S24)) (l1 : List Int) : Option (Bool) := (fastilaw46_sane.f k).bind fun t311 => (if t311 = true then ((fastilaw46_right.f k l0).bind fun t312 => (if t312 = true then (fastilaw46_FactsOrder.j0 k l0 l1 (decide ((l0.length : Int) > 40))) else (fastilaw46_FactsOrder.j0 k l0 l1 true))) else (none))
theorem fastilaw46_FactsOrder.mono_l : ∀ k, (∀ y0 y1 y2, LeO (fastilaw46_FactsOrder.j0 k y0 y1 y2) (fastilaw46_FactsOrder.j0 (k + 1) y0 y1 y2)) ∧ (∀ y0 y1 y2 y3 y4, LeO (fastilaw46_FactsOrder.l0 k y0 y1 y2 y3 y4) (fastilaw46_FactsOrder.l0 (k + 1) y0 y1 y2 y3 y4)) ∧ (∀ y0 y1 y2 y3 y4 y5, LeO (fastilaw46_FactsOrder.j2 k y0 y1 y2 y3 y4 y5) (fastilaw46_FactsOrder.j2 (k + 1) y0 y1 y2 y3 y4 y5)) ∧ (∀ y0 y1 y2 y3 y4 y5 y6 y7 y8 y9 y10 y11 y12 y13 y14, LeO (fastilaw46_FactsOrder.j3 k y0 y1 y2 y3 y4 y5 y6 y7 y8 y9 y10 y11 y12 y13 y14) (fastilaw46_FactsOrder.j3 (k + 1) y0 y1 y2 y3 y4 y5 y6 y7 y8 y9 y10 y11 y12 y13 y14))
  | 0 => ⟨fun _ _ _ r h => by simp [fastilaw46_FactsOrder.j0] at h, fun _ _ _ _ _ r h => by simp [fastilaw46_FactsOrder.l0] at h, fun _ _ _ _ _ _ r h => by simp [fastilaw46_FactsOrder.j2] at h, fun _ _ _ _ _ _ _ _ _ _ _ _ _ _ _ r h => by simp [fastilaw46_FactsOrder.j3] at h⟩
  | k + 1 => by
    obtain ⟨ih0, ih1, ih2, ih3⟩ := fastilaw46_FactsOrder.mono_l k
    refine ⟨?_, ?_, ?_, ?_⟩
    · intro y0 y1 y2
      unfold fastilaw46_FactsOrder.j0
      repeat' first
      | (with_reducible exact ih0 _ _ _)
      | (with_reducible exact ih1 _ _ _ _ _)
      | (with_reducible exact ih2 _ _ _ _ _ _)
      | (with_reducible exact ih3 _ _ _ _ _ _ _ _ _ _ _ _ _ _ _)
      | (with_reducible exact fastilaw46_right.mono _ _)
      | (with_reducible exact fastilaw46_sane.mono _)
      | (with_reducible exact fastiref46_Same.mono _ _ _)
      | (with_reducible exact LeO.refl _)
      | (with_reducible exact LeO.none _)
      | (with_reducible refine LeO.ite ?_ ?_)
      | (with_reducible refine LeO.bind ?_ (fun _ => ?_))
      | exact ih0 _ _ _
      | exact ih1 _ _ _ _ _
      | exact ih2 _ _ _ _ _ _
      | exact ih3 _ _ _ _ _ _ _ _ _ _ _ _ _ _ _
      | exact fastilaw46_right.mono _ _
      | exact fastilaw46_sane.mono _
      | exact fastiref46_Same.mono _ _ _
      | exact LeO.none _
      | refine LeO.ite ?_ ?_
      | refine LeO.bind ?_ (fun _ => ?_)
    · intro y0 y1 y2 y3 y4
      unfold fastilaw46_FactsOrder.l0
      repeat' first
      | (with_reducible exact ih0 _ _ _)
      | (with_reducible exact ih1 _ _ _ _ _)
      | (with_reducible exact ih2 _ _ _ _ _ _)
      | (with_reducible exact ih3 _ _ _ _ _ _ _ _ _ _ _ _ _ _ _)
      | (with_reducible exact fastilaw46_right.mono _ _)
      | (with_reducible exact fastilaw46_sane.mono _)
      | (with_reducible exact fastiref46_Same.mono _ _ _)
      | (with_reducible exact LeO.refl _)
      | (with_reducible exact LeO.none _)
      | (with_reducible refine LeO.ite ?_ ?_)
      | (with_reducible refine LeO.bind ?_ (fun _ => ?_))
      | exact ih0 _ _ _
      | exact ih1 _ _ _ _ _
      | exact ih2 _ _ _ _ _ _
      | exact ih3 _ _ _ _ _ _ _ _ _ _ _ _ _ _ _
      | exact fastilaw46_right.mono _ _
      | exact fastilaw46_sane.mono _
      | exact fastiref46_Same.mono _ _ _
      | exact LeO.none _
      | refine LeO.ite ?_ ?_
      | refine LeO.bind ?_ (fun _ => ?_)
    · intro y0 y1 y2 y3 y4 y5
      unfold fastilaw46_FactsOrder.j2
      repeat' first
      | (with_reducible exact ih0 _ _ _)
      | (with_reducible exact ih1 _ _ _ _ _)
      | (with_reducible exact ih2 _ _ _ _ _ _)
      | (with_reducible exact ih3 _ _ _ _ _ _ _ _ _ _ _ _ _ _ _)
      | (with_reducible exact fastilaw46_right.mono _ _)
      | (with_reducible exact fastilaw46_sane.mono _)
      | (with_reducible exact fastiref46_Same.mono _ _ _)
      | (with_reducible exact LeO.refl _)
      | (with_reducible exact LeO.none _)
      | (with_reducible refine LeO.ite ?_ ?_)
      | (with_reducible refine LeO.bind ?_ (fun _ => ?_))
      | exact ih0 _ _ _
      | exact ih1 _ _ _ _ _
      | exact ih2 _ _ _ _ _ _
      | exact ih3 _ _ _ _ _ _ _ _ _ _ _ _ _ _ _
      | exact fastilaw46_right.mono _ _
      | exact fastilaw46_sane.mono _
      | exact fastiref46_Same.mono _ _ _
      | exact LeO.none _
      | refine LeO.ite ?_ ?_
      | refine LeO.bind ?_ (fun _ => ?_)
    · intro y0 y1 y2 y3 y4 y5 y6 y7 y8 y9 y10 y11 y12 y13 y14
      unfold fastilaw46_FactsOrder.j3
      repeat' first
      | (with_reducible exact ih0 _ _ _)
      | (with_reducible exact ih1 _ _ _ _ _)
      | (with_reducible exact ih2 _ _ _ _ _ _)
      | (with_reducible exact ih3 _ _ _ _ _ _ _ _ _ _ _ _ _ _ _)
      | (with_reducible exact fastilaw46_right.mono _ _)
      | (with_reducible exact fastilaw46_sane.mono _)
      | (with_reducible exact fastiref46_Same.mono _ _ _)
      | (with_reducible exact LeO.refl _)
      | (with_reducible exact LeO.none _)
      | (with_reducible refine LeO.ite ?_ ?_)
      | (with_reducible refine LeO.bind ?_ (fun _ => ?_))
      | exact ih0 _ _ _
      | exact ih1 _ _ _ _ _
      | exact ih2 _ _ _ _ _ _
      | exact ih3 _ _ _ _ _ _ _ _ _ _ _ _ _ _ _
      | exact fastilaw46_right.mono _ _
      | exact fastilaw46_sane.mono _
      | exact fastiref46_Same.mono _ _ _
      | exact LeO.none _
      | refine LeO.ite ?_ ?_
      | refine LeO.bind ?_ (fun _ => ?_)
theorem fastilaw46_FactsOrder.mono : ∀ a0 a1 k, LeO (fastilaw46_FactsOrder.f k a0 a1) (fastilaw46_FactsOrder.f (k + 1) a0 a1) := by
  intro a0 a1 k
  obtain ⟨ih0, ih1, ih2, ih3⟩ := fastilaw46_FactsOrder.mono_l k
  unfold fastilaw46_FactsOrder.f
  repeat' first
      | (with_reducible exact ih0 _ _ _)
      | (with_reducible exact ih1 _ _ _ _ _)
      | (with_reducible exact ih2 _ _ _ _ _ _)
      | (with_reducible exact ih3 _ _ _ _ _ _ _ _ _ _ _ _ _ _ _)
      | (with_reducible exact fastilaw46_right.mono _ _)
      | (with_reducible exact fastilaw46_sane.mono _)
      | (with_reducible exact fastiref46_Same.mono _ _ _)
      | (with_reducible exact LeO.refl _)
      | (with_reducible exact LeO.none _)
      | (with_reducible refine LeO.ite ?_ ?_)
      | (with_reducible refine LeO.bind ?_ (fun _ => ?_))
      | exact ih0 _ _ _
      | exact ih1 _ _ _ _ _
      | exact ih2 _ _ _ _ _ _
      | exact ih3 _ _ _ _ _ _ _ _ _ _ _ _ _ _ _
      | exact fastilaw46_right.mono _ _
      | exact fastilaw46_sane.mono _
      | exact fastiref46_Same.mono _ _ _
      | exact LeO.none _
      | refine LeO.ite ?_ ?_
      | refine LeO.bind ?_ (fun _ => ?_)
def fastilaw46_FactsOrder.T14 : Bool × List (List Nat × List Nat) := (true, [([], []), ([], []), ([], []), ([1, 2], [1, 2]), ([0, 3], [0, 3]), ([], []), ([], []), ([6], [6]), ([5, 7], [5, 7]), ([4, 8, 4], [4, 8]), ([9, 9, 0, 1, 2, 3, 4, 5, 6, 7, 8, 9], [1, 5, 9])])
def fastilaw46_FactsOrder.B14 : List Nat := [0, 0, 0, 6, 15, 0, 0, 64, 224, 511, 1023]
theorem fastilaw46_FactsOrder.tab14 : rtab .any (opsOf Tryd.f6 14) = fastilaw46_FactsOrder.T14 := by kernel_rfl
theorem fastilaw46_FactsOrder.bits14 : waitsOk fastilaw46_FactsOrder.T14.2 fastilaw46_FactsOrder.B14 = true := by kernel_rfl
set_option maxHeartbeats 8000000 in
set_option maxRecDepth 100000 in
theorem fastilaw46_FactsOrder.calls (k : Nat) (A0 : Option Addr) (c0 : Nat) (l0 : List (S24)) (A1 : Option Addr) (c1 : Nat) (l1 : List Int) (r : Bool) (w : World) (hr0 : Kd.C k24 w A0 l0.length l0) (hc0 : l0.length ≤ c0) (hr1 : Kd.C (Kd.int .u8) w A1 l1.length l1) (hc1 : l1.length ≤ c1) (h : fastilaw46_FactsOrder.f k l0 l1 = some r) (hrw : RowsAt w) :
    Calls Tryd.prog 6 #[.slice A0 l0.length c0, .slice A1 l1.length c1] w fun e w' => e = .returned (.bool r) ∧ Below w.heap.size w w' := by
 have hu24 := Tryd.underlying24; have HR0 := Aside0.mk hr0; have HC0 := Aside0.mk hc0; clear hr0 hc0; have HR1 := Aside0.mk hr1; have HC1 := Aside0.mk hc1; clear hr1 hc1; have HRW := Aside0.mk hrw; clear hrw; have HB := Aside0.mk (Below.refl w.heap.size w); have H : ((fastilaw46_sane.f k).bind fun t311 => (if t311 = true then ((fastilaw46_right.f k l0).bind fun t312 => (if t312 = true then (fastilaw46_FactsOrder.j0 k l0 l1 (decide ((l0.length : Int) > 40))) else (fastilaw46_FactsOrder.j0 k l0 l1 true))) else (none))) = some r := h; clear h; replace H := Option.bind_eq_some_iff.mp H; obtain ⟨t311, A30, H⟩ := H; replace H : (if t311 = true then ((fastilaw46_right.f k l0).bind fun t312 => (if t312 = true then (fastilaw46_FactsOrder.j0 k l0 l1 (decide ((l0.length : Int) > 40))) else (fastilaw46_FactsOrder.j0 k l0 l1 true))) else (none)) = some r := H; have A3 := Aside0.mk A30; clear A30
 by_cases c4 : t311 = true
 rotate_left
 ·replace c4 := Bool.eq_false_iff.mpr c4
  subst c4
  have H1 : (none) = some r := by rw [if_neg (show ¬ (false = true) by decide)] at H; exact H
  clear H; have H := H1; clear H1
  exact absurd H (by simp)
 subst c4
 have H1 : ((fastilaw46_right.f k l0).bind fun t312 => (if t312 = true then (fastilaw46_FactsOrder.j0 k l0 l1 (decide ((l0.length : Int) > 40))) else (fastilaw46_FactsOrder.j0 k l0 l1 true))) = some r := by rw [if_pos rfl] at H; exact H
 clear H; have H := H1; clear H1; have HC5 := Aside0.mk H; clear H
 go_enter Tryd.func6, Tryd.ntmps6
 go_upto_region 3 with (first | (refine goesC 14 Tryd.func10 #[] ?_; (with_reducible refine (fastilaw46_sane.calls k  true _ A3.out).mono ?_); rintro e w6 ⟨rfl, hb⟩; refine ⟨_, rfl, ?_⟩; replace HB := sB HB hb; (try clear hb); (try clear hb2); (try clear hk); (try clear hi)))
 (try simp only [Act.put, List.setIfInBounds_toArray, List.set_cons_zero, List.set_cons_succ])
 go_cut [23] (fun v23 wc => ∃ (kq : Nat) (x23_4 : Bool), v23 = .bool x23_4 ∧ Aside0 (fastilaw46_FactsOrder.j0 kq l0 l1 x23_4 = some r) ∧ Aside0 (kq ≤ k) ∧ Aside0 (Below w.heap.size w wc))
 case first =>
  have H := HC5.out; clear HC5; replace H := Option.bind_eq_some_iff.mp H; obtain ⟨t312, A70, H⟩ := H; replace H : (if t312 = true then (fastilaw46_FactsOrder.j0 k l0 l1 (decide ((l0.length : Int) > 40))) else (fastilaw46_FactsOrder.j0 k l0 l1 true)) = some r := H; have A7 := Aside0.mk A70; clear A70
  by_cases c8 : t312 = true
  ·subst c8
   have H1 : (fastilaw46_FactsOrder.j0 k l0 l1 (decide ((l0.length : Int) > 40))) = some r := by rw [if_pos rfl] at H; exact H
   clear H; have H := H1; clear H1; have H' := Aside0.mk H; clear H
   go_wp2_with (first | (refine goesC 17 Tryd.func21 #[.slice A0 l0.length c0] ?_; (with_reducible refine (fastilaw46_right.calls k _ _ l0 true _ ?side1 ?side2 A7.out).mono ?_); (case side1 => exact cB HR0 HB); (case side2 => exact HC0.out); rintro e w9 ⟨rfl, hb⟩; refine ⟨_, rfl, ?_⟩; replace HB := sB HB hb; (try clear hb); (try clear hb2); (try clear hk); (try clear hi)))
   go_meet
   case rel => exact ⟨_, (decide ((l0.length : Int) > 40)), (by first | rfl | (simp; done) | (simp [*]; done)), H', ⟨by first | omega | exact Nat.le_refl _⟩, ⟨blw HB.out⟩⟩
  replace c8 := Bool.eq_false_iff.mpr c8; subst c8
  have H1 : (fastilaw46_FactsOrder.j0 k l0 l1 true) = some r := by rw [if_neg (show ¬ (false = true) by decide)] at H; exact H
  clear H; have H := H1; clear H1; have H' := Aside0.mk H; clear H
  go_wp2_with (first | (refine goesC 17 Tryd.func21 #[.slice A0 l0.length c0] ?_; (with_reducible refine (fastilaw46_right.calls k _ _ l0 false _ ?side1 ?side2 A7.out).mono ?_); (case side1 => exact cB HR0 HB); (case side2 => exact HC0.out); rintro e w10 ⟨rfl, hb⟩; refine ⟨_, rfl, ?_⟩; replace HB := sB HB hb; (try clear hb); (try clear hb2); (try clear hk); (try clear hi)))
  go_meet
  case rel => exact ⟨_, (true), (by first | rfl | (simp; done) | (simp [*]; done)), H', ⟨by first | omega | exact Nat.le_refl _⟩, ⟨blw HB.out⟩⟩
 clear HC5; (try clear c1); (try clear c2); (try clear p2); (try clear c4); (try clear c6); (try clear c8); (try clear c10); obtain ⟨kq, x23_4, rfl, HA, HJ4, HB⟩ := hcut
 cases kq with
 | zero => exact absurd HA.out (by simp [fastilaw46_FactsOrder.j0])
 | succ kj4 =>
   have H := HA.out; clear HA
   simp only [fastilaw46_FactsOrder.j0] at H
   by_cases c11 : x23_4 = true
   · subst c11
     have H1 : (some true) = some r := by rw [if_pos rfl] at H; exact H
     clear H; have H := H1; clear H1; obtain rfl := Option.some.inj H
     go_wp2
     go_ret
     exact ⟨by first | rfl | (simp [errW_none, errW_some] <;> rfl) | (simp [*, errW_none, errW_some] <;> rfl), blw HB.out⟩
   · replace c11 := Bool.eq_false_iff.mpr c11
     subst c11
     have H1 : ((some (([] : List (S24)) : List (S24))).bind fun y313 => (if y313.length + l0.length < 1954687338268 then (fastilaw46_FactsOrder.l0 kj4 l0 l1 (y313 ++ l0) ([] : List (S24)) 0) else (none))) = some r := by rw [if_neg (show ¬ (false = true) by decide)] at H; exact H
     clear H; have H := H1; clear H1; obtain ⟨y313, hy313⟩ : ∃ y_ : List (S24), y_ = (([] : List (S24))) := ⟨_, rfl⟩
     replace H : (if y313.length + l0.length < 1954687338268 then (fastilaw46_FactsOrder.l0 kj4 l0 l1 (y313 ++ l0) ([] : List (S24)) 0) else (none)) = some r := by first | (rw [hy313]; with_reducible exact H) | (have H2_ := (Option.bind_some _ _).symm.trans H; rw [hy313]; with_reducible exact H2_) | (have H2_ := (Option.bind_some _ _).symm.trans H; with_reducible exact H2_) | with_reducible exact H | (rw [hy313]; exact H) | exact H
     have Ny313 := Aside0.mk hy313; clear hy313
     by_cases c12 : y313.length + l0.length < 1954687338268
     · rw [if_pos c12] at H
       have LMc12 := Aside0.mk c12; clear c12; obtain ⟨y316, hy316⟩ : ∃ y_ : List (S24), y_ = (y313 ++ l0) := ⟨_, rfl⟩
       replace H : (fastilaw46_FactsOrder.l0 kj4 l0 l1 y316 ([] : List (S24)) 0) = some r := by first | (rw [hy316]; with_reducible exact H) | (have H2_ := (Option.bind_some _ _).symm.trans H; rw [hy316]; with_reducible exact H2_) | (have H2_ := (Option.bind_some _ _).symm.trans H; with_reducible exact H2_) | with_reducible exact H | (rw [hy316]; exact H) | exact H
       have Ny316 := Aside0.mk hy316; clear hy316; have H' := Aside0.mk H; clear H
       go_wp2_with (first | ((with_reducible refine gate_dst (N := 24) rfl ?_); (try (refine gate_guard (by rfl) ?_; dsimp only)); refine Kd.R_lit k24 _ 24 ?hg (N := 24) ?hd (xs := ([] : List (S24))) (inner := []) (ok := fun _ => True) (okp := fun _ => True) ?hr ?hp (fun _ hk => hk) trivial (Below.refl _ _) (Nat.le_refl _) (by simp) ?_; (case hd => rfl); (case hg => rfl); (case hr => first | (go_simp; done) | (go_simp; rfl)); (case hp => exact (Reps.none _ _)); intro v314 w13 ho14 hb hg_ hnew_; clear hg_ hnew_; (first | rw [← Ny313.out] at ho14 | (simp only [Int.reduceToNat] at ho14; rw [← Ny313.out] at ho14)); have HO315 := Aside0.mk (Kd.R_lower ho14 (below_size (blw HB.out))); replace HB := sB HB hb; clear hb ho14) | ((with_reducible refine gate_builtin (b := .append) (xs := #[.tmp 24, .tmp 25]) rfl ?_); (try (refine gate_guard (by rfl) ?_; dsimp only)); at_builtin; refine Kd.R_append_rows k24 (w0 := w) w.heap.size rfl (.tmp 24) (.tmp 25) 22 24 (.agg #[(.int .i64 0), (.int .i64 0), (.int .i64 0), (.int .i64 0), (.int .i64 0), (.int .i64 0), (.int .i64 0), (.int .i64 0), (.int .i64 0)]) 72 rfl Tryd.underlying22 info24 rfl (by decide) (by omega) v314 y313 l0 _ _ _ (fun _ => True) (fun _ => False) rfl rfl ?aO ?aR (fun _ _ h => h) (fun _ h => h.elim) ?aF ?aB ?aS ?aL ?_; (case aR => repeat (first | exact (Kd.C_below HR0.out HB.out) | (with_reducible refine Kd.C_alloc ?_ _) | (with_reducible refine Kd.C_drewN ?_ _) | (with_reducible refine Kd.C_drew ?_))); (case aB => exact (blw HB.out)); (case aF => exact (fun _ _ => trivial)); (case aO => exact (rmv HO315.out)); (case aS => exact (below_size (blw HB.out))); (case aL => have := LMc12.out; omega); intro v317 w15 ho hb hg hat; rw [← Ny316.out] at ho; replace HB := Aside0.mk (hb); have HO318 := Aside0.mk (ho); clear HO315; clear ho hb hg hat))
       go_loopg [5, 6, 7] kj4 (fun kq v5 v6 v7 w' => ∃ (x5_2 : List (S24)) (x6_2 : List (S24)) (x7_2 : Int), v7 = .int .i64 x7_2 ∧ Aside0 (fastilaw46_FactsOrder.l0 kq l0 l1 x5_2 x6_2 x7_2 = some r) ∧ Aside0 (kq ≤ kj4) ∧ Aside0 (Kd.R k24 24 w' w.heap.size (fun k_ => some k_ ≠ (v6 : Value).ownBlock) v5 x5_2) ∧ Aside0 (Kd.R k24 24 w' w.heap.size (fun k_ => some k_ ≠ (v5 : Value).ownBlock) v6 x6_2) ∧ Aside0 (Below w.heap.size w w'))
       case atStart => exact ⟨(y316), (([] : List (S24))), (0), (by first | rfl | (simp; done) | (simp [*]; done)), H', ⟨Nat.le_refl _⟩, ⟨by (with_reducible repeat (first | apply Kd.R_alloc | apply Kd.R_drewN | apply Kd.R_drew)); exact Kd.R_mono HO318.out (fun _ hk => (by simp [Value.ownBlock]))⟩, ⟨by first | exact Kd.R_nil _ _ _ _ _ | exact Kd.N_nil _ _ _ _ _ | exact Kd.V_nil _ _ _ _ _ | exact Kd.Q_nil _ _ _ _ _ | exact Kd.S_nil _ _ _ _ _⟩, ⟨blw HB.out⟩⟩
       case round =>
         clear H'; (try clear c1); (try clear c2); (try clear p2); (try clear c4); (try clear c6); (try clear c8); (try clear c10); (try clear c11); (try clear c12); (try clear p2); obtain ⟨x5_2, x6_2, x7_2, rfl, HA, HK2, HO_5, HO_6, HB⟩ := hrel
         cases gk with
         | zero => exact absurd HA.out (by simp [fastilaw46_FactsOrder.l0])
         | succ k2 =>
           have H := HA.out; clear HA
           simp only [fastilaw46_FactsOrder.l0] at H
           by_cases c16 : (x5_2.length : Int) > 0
           · rw [if_pos c16] at H
             have c16b0 : decide (0 < (x5_2.length : Int)) = true := decide_eq_true c16; have c16b1 : decide (0 < x5_2.length) = true := decide_eq_true (by omega); clear c16; have HC17 := Aside0.mk H; clear H; obtain ⟨Ao18, co18, eo18⟩ := Kd.R_slice HO_5.out; subst eo18
             go_upto_if 35 with (fail)
             go_cut [8] (fun v8 wc => ∃ (kq : Nat) (x8_16 : Int), v8 = .int .i64 x8_16 ∧ Aside0 (fastilaw46_FactsOrder.j2 kq l0 l1 x5_2 x6_2 x7_2 x8_16 = some r) ∧ Aside0 (kq ≤ k2) ∧ Aside0 (Kd.R k24 24 wc w.heap.size (fun k_ => some k_ ≠ (u6 : Value).ownBlock) (.slice Ao18 x5_2.length co18) x5_2) ∧ Aside0 (Kd.R k24 24 wc w.heap.size (fun k_ => some k_ ≠ ((.slice Ao18 x5_2.length co18) : Value).ownBlock) u6 x6_2) ∧ Aside0 (Below w.heap.size w wc))
             case first =>
               have H := HC17.out; clear HC17
               by_cases c19 : x7_2 < (l1.length : Int)
               · rw [if_pos c19] at H
                 have c19b0 : decide (x7_2 < (l1.length : Int)) = true := decide_eq_true c19; clear c19
                 (first | rw [c19b0] | (simp only [i64_w, i32_w]; rw [c19b0]) | skip)
                 by_cases c20 : 0 ≤ x7_2
                 · rw [if_pos c20] at H
                   have c20b0 : decide (0 ≤ x7_2) = true := decide_eq_true c20; clear c20
                   by_cases c21 : (x5_2.length : Int) = 0
                   · rw [if_pos c21] at H
                     exact absurd H (by simp)
                   · rw [if_neg c21] at H
                     have c21b0 : ((x5_2.length : Int) == 0) = false := beq_eq_false_iff_ne.mpr c21; have c21b1 : ((x5_2.length : Int) != 0) = true := bne_iff_ne.mpr c21; have c21b2 : ¬ (x5_2 = []) := fun h_ => c21 (by rw [h_]; rfl); have H' := Aside0.mk H; clear H; have p320 : 0 ≤ (x7_2 : Int) := of_decide_eq_true (by first | (with_reducible assumption) | assumption); have q320 : x7_2 < (l1.length : Int) := of_decide_eq_true (by first | (with_reducible assumption) | assumption); obtain ⟨ad320, e320, hx320_0⟩ := Kd.at_int HR1.out x7_2 p320 q320; cases e320; replace hx320_0 := (HB.out.cell (World.block_lt_of_cell? w _ hx320_0)).trans hx320_0; replace p320 := eq_true p320; replace q320 := eq_true q320
                     go_wp2
                     go_meet
                     case rel => exact ⟨_, (Int.tmod (wrap64 (rd l1 x7_2)) (x5_2.length : Int)), (by first | rfl | (simp; done) | (simp [*]; done)), H', ⟨by have := HJ4.out; have := HK2.out; first | omega | exact Nat.le_refl _⟩, ⟨rmv HO_5.out⟩, ⟨rmv HO_6.out⟩, ⟨blw HB.out⟩⟩
                 · rw [if_neg c20] at H
                   exact absurd H (by simp)
               · rw [if_neg c19] at H
                 have c19b0 : decide (x7_2 < (l1.length : Int)) = false := decide_eq_false c19; clear c19
                 (first | rw [c19b0] | (simp only [i64_w, i32_w]; rw [c19b0]) | skip)
                 have H' := Aside0.mk H; clear H
                 go_wp2
                 go_meet
                 case rel => exact ⟨_, (0), (by first | rfl | (simp; done) | (simp [*]; done)), H', ⟨by have := HJ4.out; have := HK2.out; first | omega | exact Nat.le_refl _⟩, ⟨rmv HO_5.out⟩, ⟨rmv HO_6.out⟩, ⟨blw HB.out⟩⟩
             case rest =>
               clear HC17; (try clear c1); (try clear c2); (try clear p2); (try clear p3); (try clear q3); (try clear hx3); (try clear c4); (try clear c6); (try clear p6); (try clear c8); (try clear c10); (try clear c11); (try clear c12); (try clear c16); (try clear c16b0); (try clear c16b1); (try clear c19); (try clear c19b0); (try clear c20); (try clear c20b0); (try clear c21); (try clear c21b0); (try clear c21b1); (try clear c21b2); (try clear hx320_0); (try clear p2); (try clear p320); (try clear q320); obtain ⟨kq, x8_16, rfl, HA, HJ16, HO_5, HO_6, HB⟩ := hcut
               cases kq with
               | zero => exact absurd HA.out (by simp [fastilaw46_FactsOrder.j2])
               | succ kj16 =>
                 have H := HA.out; clear HA
                 simp only [fastilaw46_FactsOrder.j2] at H
                 by_cases c22 : 0 ≤ x8_16
                 · rw [if_pos c22] at H
                   have c22b0 : decide (0 ≤ x8_16) = true := decide_eq_true c22; clear c22
                   by_cases c23 : x8_16 < (x5_2.length : Int)
                   · rw [if_pos c23] at H
                     have c23b0 : decide (x8_16 < (x5_2.length : Int)) = true := decide_eq_true c23; clear c23; obtain ⟨y323, hy323⟩ : ∃ y_ : List (S24), y_ = (([] : List (S24))) := ⟨_, rfl⟩
                     replace H : (if x8_16 ≤ (x5_2.length : Int) then ((some (x5_2.take (x8_16 : Int).toNat : List (S24))).bind fun y326 => (if y323.length + y326.length < 1954687338268 then ((some (y323 ++ y326 : List (S24))).bind fun y330 => (if 0 ≤ (wrap64 (x8_16 + 1)) then (if (wrap64 (x8_16 + 1)) ≤ (x5_2.length : Int) then ((some (x5_2.drop ((wrap64 (x8_16 + 1)) : Int).toNat : List (S24))).bind fun y333 => (if y330.length + y333.length < 1954687338268 then ((some (y330 ++ y333 : List (S24))).bind fun y337 => ((facts_Add.f x6_2 ((rd_T24 x5_2 x8_16).f0) ((rd_T24 x5_2 x8_16).f1) ((rd_T24 x5_2 x8_16).f2) ((rd_T24 x5_2 x8_16).f3) ((rd_T24 x5_2 x8_16).f4) ((rd_T24 x5_2 x8_16).f5) ((rd_T24 x5_2 x8_16).f6) ((rd_T24 x5_2 x8_16).f7) ((rd_T24 x5_2 x8_16).f8)).bind fun bt340 => (if bt340.2 = 0 then (fastilaw46_FactsOrder.j3 kj16 l0 l1 y337 x7_2 bt340.1 ((bt340.1.length : Int) != (wrap64 ((x6_2.length : Int) + 1))) ((rd_T24 x5_2 x8_16).f0) ((rd_T24 x5_2 x8_16).f1) ((rd_T24 x5_2 x8_16).f2) ((rd_T24 x5_2 x8_16).f3) ((rd_T24 x5_2 x8_16).f4) ((rd_T24 x5_2 x8_16).f5) ((rd_T24 x5_2 x8_16).f6) ((rd_T24 x5_2 x8_16).f7) ((rd_T24 x5_2 x8_16).f8)) else (fastilaw46_FactsOrder.j3 kj16 l0 l1 y337 x7_2 bt340.1 true ((rd_T24 x5_2 x8_16).f0) ((rd_T24 x5_2 x8_16).f1) ((rd_T24 x5_2 x8_16).f2) ((rd_T24 x5_2 x8_16).f3) ((rd_T24 x5_2 x8_16).f4) ((rd_T24 x5_2 x8_16).f5) ((rd_T24 x5_2 x8_16).f6) ((rd_T24 x5_2 x8_16).f7) ((rd_T24 x5_2 x8_16).f8))))) else (none))) else (none)) else (none))) else (none))) else (none)) = some r := by first | (rw [hy323]; with_reducible exact H) | (have H2_ := (Option.bind_some _ _).symm.trans H; rw [hy323]; with_reducible exact H2_) | (have H2_ := (Option.bind_some _ _).symm.trans H; with_reducible exact H2_) | with_reducible exact H | (rw [hy323]; exact H) | exact H
                     have Ny323 := Aside0.mk hy323; clear hy323; have c24b0 := eq_true (of_decide_eq_true (by first | (with_reducible assumption) | assumption) : 0 ≤ x8_16)
                     by_cases c25 : x8_16 ≤ (x5_2.length : Int)
                     · rw [if_pos c25] at H
                       have c25b0 := eq_true c25; have c25b1 : decide (x8_16 ≤ (x5_2.length : Int)) = true := decide_eq_true c25; clear c25; obtain ⟨y326, hy326⟩ : ∃ y_ : List (S24), y_ = (x5_2.take (x8_16 : Int).toNat) := ⟨_, rfl⟩
                       replace H : (if y323.length + y326.length < 1954687338268 then ((some (y323 ++ y326 : List (S24))).bind fun y330 => (if 0 ≤ (wrap64 (x8_16 + 1)) then (if (wrap64 (x8_16 + 1)) ≤ (x5_2.length : Int) then ((some (x5_2.drop ((wrap64 (x8_16 + 1)) : Int).toNat : List (S24))).bind fun y333 => (if y330.length + y333.length < 1954687338268 then ((some (y330 ++ y333 : List (S24))).bind fun y337 => ((facts_Add.f x6_2 ((rd_T24 x5_2 x8_16).f0) ((rd_T24 x5_2 x8_16).f1) ((rd_T24 x5_2 x8_16).f2) ((rd_T24 x5_2 x8_16).f3) ((rd_T24 x5_2 x8_16).f4) ((rd_T24 x5_2 x8_16).f5) ((rd_T24 x5_2 x8_16).f6) ((rd_T24 x5_2 x8_16).f7) ((rd_T24 x5_2 x8_16).f8)).bind fun bt340 => (if bt340.2 = 0 then (fastilaw46_FactsOrder.j3 kj16 l0 l1 y337 x7_2 bt340.1 ((bt340.1.length : Int) != (wrap64 ((x6_2.length : Int) + 1))) ((rd_T24 x5_2 x8_16).f0) ((rd_T24 x5_2 x8_16).f1) ((rd_T24 x5_2 x8_16).f2) ((rd_T24 x5_2 x8_16).f3) ((rd_T24 x5_2 x8_16).f4) ((rd_T24 x5_2 x8_16).f5) ((rd_T24 x5_2 x8_16).f6) ((rd_T24 x5_2 x8_16).f7) ((rd_T24 x5_2 x8_16).f8)) else (fastilaw46_FactsOrder.j3 kj16 l0 l1 y337 x7_2 bt340.1 true ((rd_T24 x5_2 x8_16).f0) ((rd_T24 x5_2 x8_16).f1) ((rd_T24 x5_2 x8_16).f2) ((rd_T24 x5_2 x8_16).f3) ((rd_T24 x5_2 x8_16).f4) ((rd_T24 x5_2 x8_16).f5) ((rd_T24 x5_2 x8_16).f6) ((rd_T24 x5_2 x8_16).f7) ((rd_T24 x5_2 x8_16).f8))))) else (none))) else (none)) else (none))) else (none)) = some r := by first | (rw [hy326]; with_reducible exact H) | (have H2_ := (Option.bind_some _ _).symm.trans H; rw [hy326]; with_reducible exact H2_) | (have H2_ := (Option.bind_some _ _).symm.trans H; with_reducible exact H2_) | with_reducible exact H | (rw [hy326]; exact H) | exact H
                       have Ny326 := Aside0.mk hy326; clear hy326
                       by_cases c26 : y323.length + y326.length < 1954687338268
                       · rw [if_pos c26] at H
                         have LMc26 := Aside0.mk c26; clear c26; obtain ⟨y330, hy330⟩ : ∃ y_ : List (S24), y_ = (y323 ++ y326) := ⟨_, rfl⟩
                         replace H : (if 0 ≤ (wrap64 (x8_16 + 1)) then (if (wrap64 (x8_16 + 1)) ≤ (x5_2.length : Int) then ((some (x5_2.drop ((wrap64 (x8_16 + 1)) : Int).toNat : List (S24))).bind fun y333 => (if y330.length + y333.length < 1954687338268 then ((some (y330 ++ y333 : List (S24))).bind fun y337 => ((facts_Add.f x6_2 ((rd_T24 x5_2 x8_16).f0) ((rd_T24 x5_2 x8_16).f1) ((rd_T24 x5_2 x8_16).f2) ((rd_T24 x5_2 x8_16).f3) ((rd_T24 x5_2 x8_16).f4) ((rd_T24 x5_2 x8_16).f5) ((rd_T24 x5_2 x8_16).f6) ((rd_T24 x5_2 x8_16).f7) ((rd_T24 x5_2 x8_16).f8)).bind fun bt340 => (if bt340.2 = 0 then (fastilaw46_FactsOrder.j3 kj16 l0 l1 y337 x7_2 bt340.1 ((bt340.1.length : Int) != (wrap64 ((x6_2.length : Int) + 1))) ((rd_T24 x5_2 x8_16).f0) ((rd_T24 x5_2 x8_16).f1) ((rd_T24 x5_2 x8_16).f2) ((rd_T24 x5_2 x8_16).f3) ((rd_T24 x5_2 x8_16).f4) ((rd_T24 x5_2 x8_16).f5) ((rd_T24 x5_2 x8_16).f6) ((rd_T24 x5_2 x8_16).f7) ((rd_T24 x5_2 x8_16).f8)) else (fastilaw46_FactsOrder.j3 kj16 l0 l1 y337 x7_2 bt340.1 true ((rd_T24 x5_2 x8_16).f0) ((rd_T24 x5_2 x8_16).f1) ((rd_T24 x5_2 x8_16).f2) ((rd_T24 x5_2 x8_16).f3) ((rd_T24 x5_2 x8_16).f4) ((rd_T24 x5_2 x8_16).f5) ((rd_T24 x5_2 x8_16).f6) ((rd_T24 x5_2 x8_16).f7) ((rd_T24 x5_2 x8_16).f8))))) else (none))) else (none)) else (none)) = some r := by first | (rw [hy330]; with_reducible exact H) | (have H2_ := (Option.bind_some _ _).symm.trans H; rw [hy330]; with_reducible exact H2_) | (have H2_ := (Option.bind_some _ _).symm.trans H; with_reducible exact H2_) | with_reducible exact H | (rw [hy330]; exact H) | exact H
                         have Ny330 := Aside0.mk hy330; clear hy330; obtain ⟨ji27, hji27⟩ : ∃ j_ : Int, (wrap64 (x8_16 + 1)) = j_ := ⟨_, rfl⟩
                         replace H : (if 0 ≤ (ji27) then (if (ji27) ≤ (x5_2.length : Int) then ((some (x5_2.drop ((ji27) : Int).toNat : List (S24))).bind fun y333 => (if y330.length + y333.length < 1954687338268 then ((some (y330 ++ y333 : List (S24))).bind fun y337 => ((facts_Add.f x6_2 ((rd_T24 x5_2 x8_16).f0) ((rd_T24 x5_2 x8_16).f1) ((rd_T24 x5_2 x8_16).f2) ((rd_T24 x5_2 x8_16).f3) ((rd_T24 x5_2 x8_16).f4) ((rd_T24 x5_2 x8_16).f5) ((rd_T24 x5_2 x8_16).f6) ((rd_T24 x5_2 x8_16).f7) ((rd_T24 x5_2 x8_16).f8)).bind fun bt340 => (if bt340.2 = 0 then (fastilaw46_FactsOrder.j3 kj16 l0 l1 y337 x7_2 bt340.1 ((bt340.1.length : Int) != (wrap64 ((x6_2.length : Int) + 1))) ((rd_T24 x5_2 x8_16).f0) ((rd_T24 x5_2 x8_16).f1) ((rd_T24 x5_2 x8_16).f2) ((rd_T24 x5_2 x8_16).f3) ((rd_T24 x5_2 x8_16).f4) ((rd_T24 x5_2 x8_16).f5) ((rd_T24 x5_2 x8_16).f6) ((rd_T24 x5_2 x8_16).f7) ((rd_T24 x5_2 x8_16).f8)) else (fastilaw46_FactsOrder.j3 kj16 l0 l1 y337 x7_2 bt340.1 true ((rd_T24 x5_2 x8_16).f0) ((rd_T24 x5_2 x8_16).f1) ((rd_T24 x5_2 x8_16).f2) ((rd_T24 x5_2 x8_16).f3) ((rd_T24 x5_2 x8_16).f4) ((rd_T24 x5_2 x8_16).f5) ((rd_T24 x5_2 x8_16).f6) ((rd_T24 x5_2 x8_16).f7) ((rd_T24 x5_2 x8_16).f8))))) else (none))) else (none)) else (none)) = some r := by first | (rw [hji27] at H; exact H) | (simp only [hji27] at H ⊢; exact H)
                         have hji27w : (IntKind.i64.wrap (x8_16 + 1)) = ji27 := (i64_w _).trans hji27
                         by_cases c28 : 0 ≤ (ji27)
                         · rw [if_pos c28] at H
                           have c28b0 := eq_true c28; have c28b1 : decide (0 ≤ (ji27)) = true := decide_eq_true c28; clear c28
                           by_cases c29 : (ji27) ≤ (x5_2.length : Int)
                           · rw [if_pos c29] at H
                             have c29b0 := eq_true c29; have c29b1 : decide ((ji27) ≤ (x5_2.length : Int)) = true := decide_eq_true c29; clear c29; obtain ⟨y333, hy333⟩ : ∃ y_ : List (S24), y_ = (x5_2.drop ((ji27) : Int).toNat) := ⟨_, rfl⟩
                             replace H : (if y330.length + y333.length < 1954687338268 then ((some (y330 ++ y333 : List (S24))).bind fun y337 => ((facts_Add.f x6_2 ((rd_T24 x5_2 x8_16).f0) ((rd_T24 x5_2 x8_16).f1) ((rd_T24 x5_2 x8_16).f2) ((rd_T24 x5_2 x8_16).f3) ((rd_T24 x5_2 x8_16).f4) ((rd_T24 x5_2 x8_16).f5) ((rd_T24 x5_2 x8_16).f6) ((rd_T24 x5_2 x8_16).f7) ((rd_T24 x5_2 x8_16).f8)).bind fun bt340 => (if bt340.2 = 0 then (fastilaw46_FactsOrder.j3 kj16 l0 l1 y337 x7_2 bt340.1 ((bt340.1.length : Int) != (wrap64 ((x6_2.length : Int) + 1))) ((rd_T24 x5_2 x8_16).f0) ((rd_T24 x5_2 x8_16).f1) ((rd_T24 x5_2 x8_16).f2) ((rd_T24 x5_2 x8_16).f3) ((rd_T24 x5_2 x8_16).f4) ((rd_T24 x5_2 x8_16).f5) ((rd_T24 x5_2 x8_16).f6) ((rd_T24 x5_2 x8_16).f7) ((rd_T24 x5_2 x8_16).f8)) else (fastilaw46_FactsOrder.j3 kj16 l0 l1 y337 x7_2 bt340.1 true ((rd_T24 x5_2 x8_16).f0) ((rd_T24 x5_2 x8_16).f1) ((rd_T24 x5_2 x8_16).f2) ((rd_T24 x5_2 x8_16).f3) ((rd_T24 x5_2 x8_16).f4) ((rd_T24 x5_2 x8_16).f5) ((rd_T24 x5_2 x8_16).f6) ((rd_T24 x5_2 x8_16).f7) ((rd_T24 x5_2 x8_16).f8))))) else (none)) = some r := by first | (rw [hy333]; with_reducible exact H) | (have H2_ := (Option.bind_some _ _).symm.trans H; rw [hy333]; with_reducible exact H2_) | (have H2_ := (Option.bind_some _ _).symm.trans H; with_reducible exact H2_) | with_reducible exact H | (rw [hy333]; exact H) | exact H
                             have Ny333 := Aside0.mk hy333; clear hy333
                             by_cases c30 : y330.length + y333.length < 1954687338268
                             · rw [if_pos c30] at H
                               have LMc30 := Aside0.mk c30; clear c30; obtain ⟨y337, hy337⟩ : ∃ y_ : List (S24), y_ = (y330 ++ y333) := ⟨_, rfl⟩
                               replace H : ((facts_Add.f x6_2 ((rd_T24 x5_2 x8_16).f0) ((rd_T24 x5_2 x8_16).f1) ((rd_T24 x5_2 x8_16).f2) ((rd_T24 x5_2 x8_16).f3) ((rd_T24 x5_2 x8_16).f4) ((rd_T24 x5_2 x8_16).f5) ((rd_T24 x5_2 x8_16).f6) ((rd_T24 x5_2 x8_16).f7) ((rd_T24 x5_2 x8_16).f8)).bind fun bt340 => (if bt340.2 = 0 then (fastilaw46_FactsOrder.j3 kj16 l0 l1 y337 x7_2 bt340.1 ((bt340.1.length : Int) != (wrap64 ((x6_2.length : Int) + 1))) ((rd_T24 x5_2 x8_16).f0) ((rd_T24 x5_2 x8_16).f1) ((rd_T24 x5_2 x8_16).f2) ((rd_T24 x5_2 x8_16).f3) ((rd_T24 x5_2 x8_16).f4) ((rd_T24 x5_2 x8_16).f5) ((rd_T24 x5_2 x8_16).f6) ((rd_T24 x5_2 x8_16).f7) ((rd_T24 x5_2 x8_16).f8)) else (fastilaw46_FactsOrder.j3 kj16 l0 l1 y337 x7_2 bt340.1 true ((rd_T24 x5_2 x8_16).f0) ((rd_T24 x5_2 x8_16).f1) ((rd_T24 x5_2 x8_16).f2) ((rd_T24 x5_2 x8_16).f3) ((rd_T24 x5_2 x8_16).f4) ((rd_T24 x5_2 x8_16).f5) ((rd_T24 x5_2 x8_16).f6) ((rd_T24 x5_2 x8_16).f7) ((rd_T24 x5_2 x8_16).f8)))) = some r := by first | (rw [hy337]; with_reducible exact H) | (have H2_ := (Option.bind_some _ _).symm.trans H; rw [hy337]; with_reducible exact H2_) | (have H2_ := (Option.bind_some _ _).symm.trans H; with_reducible exact H2_) | with_reducible exact H | (rw [hy337]; exact H) | exact H
                               have Ny337 := Aside0.mk hy337; clear hy337; replace H := Option.bind_eq_some_iff.mp H; obtain ⟨⟨t340, t343⟩, A310, H⟩ := H; replace H : (if t343 = 0 then (fastilaw46_FactsOrder.j3 kj16 l0 l1 y337 x7_2 t340 ((t340.length : Int) != (wrap64 ((x6_2.length : Int) + 1))) ((rd_T24 x5_2 x8_16).f0) ((rd_T24 x5_2 x8_16).f1) ((rd_T24 x5_2 x8_16).f2) ((rd_T24 x5_2 x8_16).f3) ((rd_T24 x5_2 x8_16).f4) ((rd_T24 x5_2 x8_16).f5) ((rd_T24 x5_2 x8_16).f6) ((rd_T24 x5_2 x8_16).f7) ((rd_T24 x5_2 x8_16).f8)) else (fastilaw46_FactsOrder.j3 kj16 l0 l1 y337 x7_2 t340 true ((rd_T24 x5_2 x8_16).f0) ((rd_T24 x5_2 x8_16).f1) ((rd_T24 x5_2 x8_16).f2) ((rd_T24 x5_2 x8_16).f3) ((rd_T24 x5_2 x8_16).f4) ((rd_T24 x5_2 x8_16).f5) ((rd_T24 x5_2 x8_16).f6) ((rd_T24 x5_2 x8_16).f7) ((rd_T24 x5_2 x8_16).f8))) = some r := H; have A31 := Aside0.mk A310; clear A310; have HC32 := Aside0.mk H; clear H; have p321 : 0 ≤ (x8_16 : Int) := of_decide_eq_true (by first | (with_reducible assumption) | assumption); have q321 : x8_16 < (x5_2.length : Int) := of_decide_eq_true (by first | (with_reducible assumption) | assumption); obtain ⟨ad321, e321, hx321_0, hx321_1, hx321_2, hx321_3, hx321_4, hx321_5, hx321_6, hx321_7, hx321_8⟩ := at_T24 (Kd.R_reads' HO_5.out).2.2 x8_16 p321 q321; cases e321; replace p321 := eq_true p321; replace q321 := eq_true q321
                               try go_wp2_with (first | ((with_reducible refine gate_dst (N := 9) rfl ?_); (try (refine gate_guard (by rfl) ?_; dsimp only)); refine boxA (N := 9) #[.int .i64 0, .int .i64 0, .int .i64 0, .int .i64 0, .int .i64 0, .int .i64 0, .int .i64 0, .int .i64 0, .int .i64 0] 24 ?_; intro gb322 hg w33 hbox hb; replace HO_5 := Aside0.mk (Kd.R_below (Kd.R_elderB (rmv HO_5.out) gb322 (Nat.le_of_eq hg.symm)) hb); replace HO_6 := Aside0.mk (Kd.R_below (Kd.R_elderB (rmv HO_6.out) gb322 (Nat.le_of_eq hg.symm)) hb); have BK322 := Aside0.mk (hbox); have GW322 := gW HB hg; have GE322 := gW HB hg; replace HB := sB HB hb; clear hb hbox hg; have hcz34_0 := bc0 BK322; have hcz34_1 := bc1 BK322; have hcz34_2 := bc2 BK322; have hcz34_3 := bc3 BK322; have hcz34_4 := bc4 BK322; have hcz34_5 := bc5 BK322; have hcz34_6 := bc6 BK322; have hcz34_7 := bc7 BK322; have hcz34_8 := bc8 BK322; have hfz34_0 := fz BK322 0; have hfz34_1 := fz BK322 1; have hfz34_2 := fz BK322 2; have hfz34_3 := fz BK322 3; have hfz34_4 := fz BK322 4; have hfz34_5 := fz BK322 5; have hfz34_6 := fz BK322 6; have hfz34_7 := fz BK322 7; have hfz34_8 := fz BK322 8))
                               have n0_ : Aside0 (Kd.R k24 24 (((((((((w33.setCell ⟨gb322, 0, none⟩ (.int .i64 ((rd_T24 x5_2 x8_16).f0))).setCell ⟨gb322, 1, none⟩ (.int .i64 ((rd_T24 x5_2 x8_16).f1))).setCell ⟨gb322, 2, none⟩ (.int .i64 ((rd_T24 x5_2 x8_16).f2))).setCell ⟨gb322, 3, none⟩ (.int .i64 ((rd_T24 x5_2 x8_16).f3))).setCell ⟨gb322, 4, none⟩ (.int .i64 ((rd_T24 x5_2 x8_16).f4))).setCell ⟨gb322, 5, none⟩ (.int .i64 ((rd_T24 x5_2 x8_16).f5))).setCell ⟨gb322, 6, none⟩ (.int .i64 ((rd_T24 x5_2 x8_16).f6))).setCell ⟨gb322, 7, none⟩ (.int .i64 ((rd_T24 x5_2 x8_16).f7))).setCell ⟨gb322, 8, none⟩ (.int .i64 ((rd_T24 x5_2 x8_16).f8))) w.heap.size (fun k_ => some k_ ≠ (u6 : Value).ownBlock ∧ k_ ≠ gb322) (.slice (some ad321) x5_2.length co18) x5_2) := ⟨by (with_reducible repeat (first | apply Kd.R_alloc | apply Kd.R_drewN | apply Kd.R_drew)); exact Kd.R_mono (Kd.R_far (p := ⟨gb322, 8, none⟩) (Kd.R_far (p := ⟨gb322, 7, none⟩) (Kd.R_far (p := ⟨gb322, 6, none⟩) (Kd.R_far (p := ⟨gb322, 5, none⟩) (Kd.R_far (p := ⟨gb322, 4, none⟩) (Kd.R_far (p := ⟨gb322, 3, none⟩) (Kd.R_far (p := ⟨gb322, 2, none⟩) (Kd.R_far (p := ⟨gb322, 1, none⟩) (Kd.R_far (p := ⟨gb322, 0, none⟩) (Kd.R_mono HO_5.out (fun k_ hk => (⟨hk, hk.2⟩ : _ ∧ k_ ≠ gb322))) (fun _ hk => hk.2) (.int .i64 ((rd_T24 x5_2 x8_16).f0))) (fun _ hk => hk.2) (.int .i64 ((rd_T24 x5_2 x8_16).f1))) (fun _ hk => hk.2) (.int .i64 ((rd_T24 x5_2 x8_16).f2))) (fun _ hk => hk.2) (.int .i64 ((rd_T24 x5_2 x8_16).f3))) (fun _ hk => hk.2) (.int .i64 ((rd_T24 x5_2 x8_16).f4))) (fun _ hk => hk.2) (.int .i64 ((rd_T24 x5_2 x8_16).f5))) (fun _ hk => hk.2) (.int .i64 ((rd_T24 x5_2 x8_16).f6))) (fun _ hk => hk.2) (.int .i64 ((rd_T24 x5_2 x8_16).f7))) (fun _ hk => hk.2) (.int .i64 ((rd_T24 x5_2 x8_16).f8))) (fun _ hk => ⟨hk.1.1, hk.1.2⟩)⟩
                               have n1_ : Aside0 (Kd.R k24 24 (((((((((w33.setCell ⟨gb322, 0, none⟩ (.int .i64 ((rd_T24 x5_2 x8_16).f0))).setCell ⟨gb322, 1, none⟩ (.int .i64 ((rd_T24 x5_2 x8_16).f1))).setCell ⟨gb322, 2, none⟩ (.int .i64 ((rd_T24 x5_2 x8_16).f2))).setCell ⟨gb322, 3, none⟩ (.int .i64 ((rd_T24 x5_2 x8_16).f3))).setCell ⟨gb322, 4, none⟩ (.int .i64 ((rd_T24 x5_2 x8_16).f4))).setCell ⟨gb322, 5, none⟩ (.int .i64 ((rd_T24 x5_2 x8_16).f5))).setCell ⟨gb322, 6, none⟩ (.int .i64 ((rd_T24 x5_2 x8_16).f6))).setCell ⟨gb322, 7, none⟩ (.int .i64 ((rd_T24 x5_2 x8_16).f7))).setCell ⟨gb322, 8, none⟩ (.int .i64 ((rd_T24 x5_2 x8_16).f8))) w.heap.size (fun k_ => some k_ ≠ (.slice (some ad321) x5_2.length co18 : Value).ownBlock ∧ k_ ≠ gb322) u6 x6_2) := ⟨by (with_reducible repeat (first | apply Kd.R_alloc | apply Kd.R_drewN | apply Kd.R_drew)); exact Kd.R_mono (Kd.R_far (p := ⟨gb322, 8, none⟩) (Kd.R_far (p := ⟨gb322, 7, none⟩) (Kd.R_far (p := ⟨gb322, 6, none⟩) (Kd.R_far (p := ⟨gb322, 5, none⟩) (Kd.R_far (p := ⟨gb322, 4, none⟩) (Kd.R_far (p := ⟨gb322, 3, none⟩) (Kd.R_far (p := ⟨gb322, 2, none⟩) (Kd.R_far (p := ⟨gb322, 1, none⟩) (Kd.R_far (p := ⟨gb322, 0, none⟩) (Kd.R_mono HO_6.out (fun k_ hk => (⟨hk, hk.2⟩ : _ ∧ k_ ≠ gb322))) (fun _ hk => hk.2) (.int .i64 ((rd_T24 x5_2 x8_16).f0))) (fun _ hk => hk.2) (.int .i64 ((rd_T24 x5_2 x8_16).f1))) (fun _ hk => hk.2) (.int .i64 ((rd_T24 x5_2 x8_16).f2))) (fun _ hk => hk.2) (.int .i64 ((rd_T24 x5_2 x8_16).f3))) (fun _ hk => hk.2) (.int .i64 ((rd_T24 x5_2 x8_16).f4))) (fun _ hk => hk.2) (.int .i64 ((rd_T24 x5_2 x8_16).f5))) (fun _ hk => hk.2) (.int .i64 ((rd_T24 x5_2 x8_16).f6))) (fun _ hk => hk.2) (.int .i64 ((rd_T24 x5_2 x8_16).f7))) (fun _ hk => hk.2) (.int .i64 ((rd_T24 x5_2 x8_16).f8))) (fun _ hk => ⟨hk.1.1, hk.1.2⟩)⟩
                               have n2_ : Aside0 ((((((((((w33.setCell ⟨gb322, 0, none⟩ (.int .i64 ((rd_T24 x5_2 x8_16).f0))).setCell ⟨gb322, 1, none⟩ (.int .i64 ((rd_T24 x5_2 x8_16).f1))).setCell ⟨gb322, 2, none⟩ (.int .i64 ((rd_T24 x5_2 x8_16).f2))).setCell ⟨gb322, 3, none⟩ (.int .i64 ((rd_T24 x5_2 x8_16).f3))).setCell ⟨gb322, 4, none⟩ (.int .i64 ((rd_T24 x5_2 x8_16).f4))).setCell ⟨gb322, 5, none⟩ (.int .i64 ((rd_T24 x5_2 x8_16).f5))).setCell ⟨gb322, 6, none⟩ (.int .i64 ((rd_T24 x5_2 x8_16).f6))).setCell ⟨gb322, 7, none⟩ (.int .i64 ((rd_T24 x5_2 x8_16).f7))).setCell ⟨gb322, 8, none⟩ (.int .i64 ((rd_T24 x5_2 x8_16).f8))).heap[gb322]? = some (.cells #[.int .i64 ((rd_T24 x5_2 x8_16).f0), .int .i64 ((rd_T24 x5_2 x8_16).f1), .int .i64 ((rd_T24 x5_2 x8_16).f2), .int .i64 ((rd_T24 x5_2 x8_16).f3), .int .i64 ((rd_T24 x5_2 x8_16).f4), .int .i64 ((rd_T24 x5_2 x8_16).f5), .int .i64 ((rd_T24 x5_2 x8_16).f6), .int .i64 ((rd_T24 x5_2 x8_16).f7), .int .i64 ((rd_T24 x5_2 x8_16).f8)] 24 (0, 0))) := ⟨by (with_reducible repeat (first | refine blk_drewN ?_ _ | refine blk_drew ?_ | refine blk_alloc ?_ _)); refine blk_put (cs := #[.int .i64 ((rd_T24 x5_2 x8_16).f0), .int .i64 ((rd_T24 x5_2 x8_16).f1), .int .i64 ((rd_T24 x5_2 x8_16).f2), .int .i64 ((rd_T24 x5_2 x8_16).f3), .int .i64 ((rd_T24 x5_2 x8_16).f4), .int .i64 ((rd_T24 x5_2 x8_16).f5), .int .i64 ((rd_T24 x5_2 x8_16).f6), .int .i64 ((rd_T24 x5_2 x8_16).f7), .int .i64 0]) ?_ 8 _ rfl; refine blk_put (cs := #[.int .i64 ((rd_T24 x5_2 x8_16).f0), .int .i64 ((rd_T24 x5_2 x8_16).f1), .int .i64 ((rd_T24 x5_2 x8_16).f2), .int .i64 ((rd_T24 x5_2 x8_16).f3), .int .i64 ((rd_T24 x5_2 x8_16).f4), .int .i64 ((rd_T24 x5_2 x8_16).f5), .int .i64 ((rd_T24 x5_2 x8_16).f6), .int .i64 0, .int .i64 0]) ?_ 7 _ rfl; refine blk_put (cs := #[.int .i64 ((rd_T24 x5_2 x8_16).f0), .int .i64 ((rd_T24 x5_2 x8_16).f1), .int .i64 ((rd_T24 x5_2 x8_16).f2), .int .i64 ((rd_T24 x5_2 x8_16).f3), .int .i64 ((rd_T24 x5_2 x8_16).f4), .int .i64 ((rd_T24 x5_2 x8_16).f5), .int .i64 0, .int .i64 0, .int .i64 0]) ?_ 6 _ rfl; refine blk_put (cs := #[.int .i64 ((rd_T24 x5_2 x8_16).f0), .int .i64 ((rd_T24 x5_2 x8_16).f1), .int .i64 ((rd_T24 x5_2 x8_16).f2), .int .i64 ((rd_T24 x5_2 x8_16).f3), .int .i64 ((rd_T24 x5_2 x8_16).f4), .int .i64 0, .int .i64 0, .int .i64 0, .int .i64 0]) ?_ 5 _ rfl; refine blk_put (cs := #[.int .i64 ((rd_T24 x5_2 x8_16).f0), .int .i64 ((rd_T24 x5_2 x8_16).f1), .int .i64 ((rd_T24 x5_2 x8_16).f2), .int .i64 ((rd_T24 x5_2 x8_16).f3), .int .i64 0, .int .i64 0, .int .i64 0, .int .i64 0, .int .i64 0]) ?_ 4 _ rfl; refine blk_put (cs := #[.int .i64 ((rd_T24 x5_2 x8_16).f0), .int .i64 ((rd_T24 x5_2 x8_16).f1), .int .i64 ((rd_T24 x5_2 x8_16).f2), .int .i64 0, .int .i64 0, .int .i64 0, .int .i64 0, .int .i64 0, .int .i64 0]) ?_ 3 _ rfl; refine blk_put (cs := #[.int .i64 ((rd_T24 x5_2 x8_16).f0), .int .i64 ((rd_T24 x5_2 x8_16).f1), .int .i64 0, .int .i64 0, .int .i64 0, .int .i64 0, .int .i64 0, .int .i64 0, .int .i64 0]) ?_ 2 _ rfl; refine blk_put (cs := #[.int .i64 ((rd_T24 x5_2 x8_16).f0), .int .i64 0, .int .i64 0, .int .i64 0, .int .i64 0, .int .i64 0, .int .i64 0, .int .i64 0, .int .i64 0]) ?_ 1 _ rfl; refine blk_put (cs := #[.int .i64 0, .int .i64 0, .int .i64 0, .int .i64 0, .int .i64 0, .int .i64 0, .int .i64 0, .int .i64 0, .int .i64 0]) ?_ 0 _ rfl; (with_reducible repeat (first | refine blk_drewN ?_ _ | refine blk_drew ?_ | refine blk_alloc ?_ _)); exact BK322.out⟩
                               have n3_ : Aside0 (Below w.heap.size w (((((((((w33.setCell ⟨gb322, 0, none⟩ (.int .i64 ((rd_T24 x5_2 x8_16).f0))).setCell ⟨gb322, 1, none⟩ (.int .i64 ((rd_T24 x5_2 x8_16).f1))).setCell ⟨gb322, 2, none⟩ (.int .i64 ((rd_T24 x5_2 x8_16).f2))).setCell ⟨gb322, 3, none⟩ (.int .i64 ((rd_T24 x5_2 x8_16).f3))).setCell ⟨gb322, 4, none⟩ (.int .i64 ((rd_T24 x5_2 x8_16).f4))).setCell ⟨gb322, 5, none⟩ (.int .i64 ((rd_T24 x5_2 x8_16).f5))).setCell ⟨gb322, 6, none⟩ (.int .i64 ((rd_T24 x5_2 x8_16).f6))).setCell ⟨gb322, 7, none⟩ (.int .i64 ((rd_T24 x5_2 x8_16).f7))).setCell ⟨gb322, 8, none⟩ (.int .i64 ((rd_T24 x5_2 x8_16).f8)))) := ⟨blw HB.out⟩; (try clear HO_5); (try clear HO_6); (try clear BK322); (try clear HB)
                               generalize (((((((((w33.setCell ⟨gb322, 0, none⟩ (.int .i64 ((rd_T24 x5_2 x8_16).f0))).setCell ⟨gb322, 1, none⟩ (.int .i64 ((rd_T24 x5_2 x8_16).f1))).setCell ⟨gb322, 2, none⟩ (.int .i64 ((rd_T24 x5_2 x8_16).f2))).setCell ⟨gb322, 3, none⟩ (.int .i64 ((rd_T24 x5_2 x8_16).f3))).setCell ⟨gb322, 4, none⟩ (.int .i64 ((rd_T24 x5_2 x8_16).f4))).setCell ⟨gb322, 5, none⟩ (.int .i64 ((rd_T24 x5_2 x8_16).f5))).setCell ⟨gb322, 6, none⟩ (.int .i64 ((rd_T24 x5_2 x8_16).f6))).setCell ⟨gb322, 7, none⟩ (.int .i64 ((rd_T24 x5_2 x8_16).f7))).setCell ⟨gb322, 8, none⟩ (.int .i64 ((rd_T24 x5_2 x8_16).f8))) = w35 at n0_ n1_ n2_ n3_ ⊢
                               have HO_5 := n0_; have HO_6 := n1_; have BK322 := n2_; have HB := n3_; clear n0_ n1_ n2_ n3_; replace HO_5 := Aside0.mk (Kd.R_drew HO_5.out); replace HO_6 := Aside0.mk (Kd.R_drew HO_6.out); replace BK322 := bD BK322; replace HB := hD HB; have q37 : (x8_16 : Int) ≤ ((x5_2.length : Int) : Int) := of_decide_eq_true (by first | (with_reducible assumption) | assumption); obtain ⟨i037, hi037, _, hsz37, _⟩ := info_parts info24; have hroom37 : x5_2.length ≤ co18 := (Kd.R_reads' HO_5.out).2.1; have hC37 : Kd.C k24 _ (some ad321) x5_2.length x5_2 := (Kd.R_reads' HO_5.out).2.2; have hcut37 := cut_to (P := Tryd.prog) 22 24 .i64 Tryd.underlying22 hi037 (some ad321) x5_2.length co18 x8_16 (of_decide_eq_true (by first | (with_reducible assumption) | assumption)) q37 hroom37; have hr37 := Kd.C_take (m := (x8_16 : Int).toNat) hC37 (by omega); have hy37 : y326.length = (x8_16 : Int).toNat := (by rw [Ny326.out, List.length_take]; omega); rw [← Ny326.out] at hr37; rw [← hy37] at hcut37; have HR329 := Aside0.mk hr37; have HC329 := Aside0.mk (show y326.length ≤ co18 from by omega); clear hr37 hC37 hroom37 hi037 hsz37; have KY37 := Aside0.mk hy37; clear hy37; have KL37 := Aside0.mk (show (x8_16 : Int).toNat ≤ x5_2.length from by omega); replace q37 := eq_true q37; have q38 : ((ji27) : Int) ≤ ((x5_2.length : Int) : Int) := of_decide_eq_true (by first | (with_reducible assumption) | assumption)
                               obtain ⟨i038, hi038, _, hsz38, _⟩ := info_parts info24; have hroom38 : x5_2.length ≤ co18 := (Kd.R_reads' HO_5.out).2.1; have hC38 : Kd.C k24 _ (some ad321) x5_2.length x5_2 := (Kd.R_reads' HO_5.out).2.2; have q038 : (0 : Int) ≤ ((ji27) : Int) := of_decide_eq_true (by first | (with_reducible assumption) | assumption); have hcut38 := cut_from (P := Tryd.prog) 22 24 .i64 Tryd.underlying22 hi038 9 hsz38 (some ad321) x5_2.length co18 (ji27) q038 q38; have hr38 := Kd.C_drop (m := ((ji27) : Int).toNat) (c := co18) hC38 (by omega) hroom38; obtain ⟨A38, hA38⟩ : ∃ A1, A1 = (if co18 = ((ji27) : Int).toNat then (some ad321) else ((some ad321) : Option Addr).map (·.add (((ji27) : Int).toNat * 9))) := ⟨_, rfl⟩; obtain ⟨c38, hc38⟩ : ∃ c1, c1 = co18 - ((ji27) : Int).toNat := ⟨_, rfl⟩; have hy38 : y333.length = x5_2.length - ((ji27) : Int).toNat := (by rw [Ny333.out, List.length_drop] <;> omega); rw [show (x5_2).drop ((ji27) : Int).toNat = y333 from Ny333.out.symm] at hr38; replace hr38 : Kd.C k24 _ A38 y333.length y333 := (by rw [hA38]; exact hr38); rw [← hy38, ← hA38, ← hc38] at hcut38; have HR336 := Aside0.mk hr38; have HC336 := Aside0.mk (show y333.length ≤ c38 from by rw [hy38, hc38]; exact Nat.sub_le_sub_right hroom38 _); clear hr38 hC38 hroom38 hi038 hsz38 hc38; have KY38 := Aside0.mk hy38; have KA38 := Aside0.mk hA38; clear hy38 hA38; have KL38 := Aside0.mk (show ((ji27) : Int).toNat ≤ x5_2.length from by omega); replace q38 := eq_true q38
                               refine start_ (n := 11) (S := fun w' => True) (ds := []) (ar 11 0) (by kernel_rfl) rfl rfl trivial (fun hHeld => ?_); refine with_tabW fastilaw46_FactsOrder.tab14 fastilaw46_FactsOrder.bits14 (fun HT_ HW_ => ?_)
                               generalize w35.drew = w36 at HO_5 HO_6 BK322 HB HR329 HR336 hHeld ⊢
                               refine pureA (i := 1) (N := some 49) (ar 11 2) (any_of HT_.out (by kernel_rfl)) ?_; refine pureA (i := 2) (N := some 50) (ar 11 6) (any_of HT_.out (by kernel_rfl)) ?_; refine pureA (i := 3) (N := some 51) (ar 11 14) (any_of HT_.out (by kernel_rfl)) ?_; refine pureA (i := 5) (N := some 53) (ar 11 46) (any_of HT_.out (by kernel_rfl)) ?_; refine pureA (i := 6) (N := some 54) (ar 11 110) (any_of HT_.out (by kernel_rfl)) ?_; refine pureA (i := 7) (N := some 55) (ar 11 238) (any_of HT_.out (by kernel_rfl)) ?_; refine pureA (i := 8) (N := some 56) (ar 11 494) (any_of HT_.out (by kernel_rfl)) ?_
                               refine oA HT_ 0 48 495 fun K hK => ?_
                               refine Kd.R_lit_step k24 _ 24 ?hg (N := 48) ?hd (xs := ([] : List (S24))) (inner := []) (ok := fun _ => True) (okp := fun _ => True) ?hr ?hp (fun _ hk => hk) trivial (Below.refl _ _) (Nat.le_refl _) (by simp) ?_; (case hd => rfl); (case hg => rfl); (case hr => first | (go_simp; done) | (go_simp; rfl)); (case hp => exact (Reps.none _ _))
                               intro v324 w39 ho40 hb hg_ hnew_
                               clear hg_ hnew_
                               (first | rw [← Ny323.out] at ho40 | (simp only [Int.reduceToNat] at ho40; rw [← Ny323.out] at ho40))
                               have HO325 := Aside0.mk (Kd.R_lower (Kd.R_newB (Kd.R_new' (Kd.R_new' ho40 (Kd.R_lt (rmv HO_5.out))) (Kd.R_lt (rmv HO_6.out))) (g := gb322) (o := .cells #[.int .i64 ((rd_T24 x5_2 x8_16).f0), .int .i64 ((rd_T24 x5_2 x8_16).f1), .int .i64 ((rd_T24 x5_2 x8_16).f2), .int .i64 ((rd_T24 x5_2 x8_16).f3), .int .i64 ((rd_T24 x5_2 x8_16).f4), .int .i64 ((rd_T24 x5_2 x8_16).f5), .int .i64 ((rd_T24 x5_2 x8_16).f6), .int .i64 ((rd_T24 x5_2 x8_16).f7), .int .i64 ((rd_T24 x5_2 x8_16).f8)] 24 (0, 0)) (zk BK322.out)) (below_size (blw HB.out))); replace HO_5 := Aside0.mk (Kd.R_elder' (rmv HO_5.out) (Kd.R_base ho40) hb); replace HO_6 := Aside0.mk (Kd.R_elder' (rmv HO_6.out) (Kd.R_base ho40) hb); replace BK322 := bB BK322 hb; replace HR329 := Aside0.mk (Kd.C_below (by repeat (first | (with_reducible exact HR329.out) | (with_reducible refine Kd.C_alloc ?_ _) | (with_reducible refine Kd.C_drewN ?_ _) | (with_reducible refine Kd.C_drew ?_) | exact HR329.out)) hb); replace HR336 := Aside0.mk (Kd.C_below (by repeat (first | (with_reducible exact HR336.out) | (with_reducible refine Kd.C_alloc ?_ _) | (with_reducible refine Kd.C_drewN ?_ _) | (with_reducible refine Kd.C_drew ?_) | exact HR336.out)) hb); replace HB := sB HB hb; clear hb ho40
                               refine hK.out _ _ trivial (fun hHeld => normA ?_); clear hK K
                               refine oA HT_ 4 52 511 fun K hK => ?_
                               refine Kd.R_append_rows_step k24 (w0 := w) w.heap.size (by rfl) (.tmp 48) (.tmp 51) 22 24 (.agg #[(.int .i64 0), (.int .i64 0), (.int .i64 0), (.int .i64 0), (.int .i64 0), (.int .i64 0), (.int .i64 0), (.int .i64 0), (.int .i64 0)]) 72 rfl Tryd.underlying22 info24 rfl (by decide) (by omega) v324 y323 y326 _ _ _ (fun k_ => some k_ ≠ (.slice (some ad321) x5_2.length co18 : Value).ownBlock ∧ some k_ ≠ (u6 : Value).ownBlock ∧ k_ ≠ gb322) (fun _ => False) rfl rfl ?aO ?aR (fun _ _ h => h) (fun _ h => h.elim) ?aF ?aB ?aS ?aL ?_
                               (case aR => repeat (first | exact (by repeat (first | (with_reducible exact HR329.out) | (with_reducible refine Kd.C_alloc ?_ _) | (with_reducible refine Kd.C_drewN ?_ _) | (with_reducible refine Kd.C_drew ?_) | exact HR329.out)) | (with_reducible refine Kd.C_alloc ?_ _) | (with_reducible refine Kd.C_drewN ?_ _) | (with_reducible refine Kd.C_drew ?_)))
                               (case aB => exact (blw HB.out))
                               (case aF => exact (fun k_ hk => ⟨Kd.fresh' (Kd.R_lt (rmv HO_5.out)) k_ hk, Kd.fresh' (Kd.R_lt (rmv HO_6.out)) k_ hk, Kd.freshB (zk BK322.out) k_ hk⟩))
                               (case aO => exact (by (with_reducible repeat (first | apply Kd.R_alloc | apply Kd.R_drewN | apply Kd.R_drew)); exact Kd.R_mono HO325.out (fun _ hk => ⟨hk.1.1.2, ⟨hk.1.2, hk.2⟩⟩)))
                               (case aS => exact (below_size (blw HB.out)))
                               (case aL => have := LMc26.out; omega)
                               intro v331 w41 ho hb hg hat
                               rw [← Ny330.out] at ho; replace HO_6 := Aside0.mk (Kd.R_after (ok := (fun k_ => some k_ ≠ (.slice (some ad321) x5_2.length co18 : Value).ownBlock ∧ k_ ≠ gb322)) (rmv HO_6.out) hg hat); replace BK322 := Aside0.mk (blk_grown (g := gb322) (o := .cells #[.int .i64 ((rd_T24 x5_2 x8_16).f0), .int .i64 ((rd_T24 x5_2 x8_16).f1), .int .i64 ((rd_T24 x5_2 x8_16).f2), .int .i64 ((rd_T24 x5_2 x8_16).f3), .int .i64 ((rd_T24 x5_2 x8_16).f4), .int .i64 ((rd_T24 x5_2 x8_16).f5), .int .i64 ((rd_T24 x5_2 x8_16).f6), .int .i64 ((rd_T24 x5_2 x8_16).f7), .int .i64 ((rd_T24 x5_2 x8_16).f8)] 24 (0, 0)) (zk BK322.out) hg (Kd.R_away HO325.out (fun _ hk => hk.2))); replace HB := Aside0.mk (hb); replace HR329 := Aside0.mk ((show Kd.C k24 w41 (some ad321) y326.length y326 from by rw [Ny326.out]; exact Kd.C_take (m := (x8_16 : Int).toNat) ((Kd.R_reads' (Kd.R_after (ok := (fun k_ => some k_ ≠ (u6 : Value).ownBlock ∧ k_ ≠ gb322)) (rmv HO_5.out) hg hat)).2.2) KL37.out)); replace HR336 := Aside0.mk ((show Kd.C k24 w41 A38 y333.length y333 from by rw [Ny333.out, KA38.out]; exact Kd.C_drop (m := ((ji27) : Int).toNat) (c := co18) ((Kd.R_reads' (Kd.R_after (ok := (fun k_ => some k_ ≠ (u6 : Value).ownBlock ∧ k_ ≠ gb322)) (rmv HO_5.out) hg hat)).2.2) KL38.out ((Kd.R_reads' (Kd.R_after (ok := (fun k_ => some k_ ≠ (u6 : Value).ownBlock ∧ k_ ≠ gb322)) (rmv HO_5.out) hg hat)).2.1)))
                               replace HO_5 := Aside0.mk (Kd.R_after (ok := (fun k_ => some k_ ≠ (u6 : Value).ownBlock ∧ k_ ≠ gb322)) (rmv HO_5.out) hg hat); have HO332 := Aside0.mk (ho); clear HO325 ho hb hg hat
                               refine hK.out _ _ trivial (fun hHeld => normA ?_); clear hK K
                               refine oA HT_ 9 57 1023 fun K hK => ?_
                               refine Kd.R_append_rows_step k24 (w0 := w) w.heap.size (by rfl) (.tmp 52) (.tmp 56) 22 24 (.agg #[(.int .i64 0), (.int .i64 0), (.int .i64 0), (.int .i64 0), (.int .i64 0), (.int .i64 0), (.int .i64 0), (.int .i64 0), (.int .i64 0)]) 72 rfl Tryd.underlying22 info24 rfl (by decide) (by omega) v331 y330 y333 _ _ _ (fun k_ => some k_ ≠ (.slice (some ad321) x5_2.length co18 : Value).ownBlock ∧ some k_ ≠ (u6 : Value).ownBlock ∧ k_ ≠ gb322) (fun _ => False) rfl rfl ?aO ?aR (fun _ _ h => h) (fun _ h => h.elim) ?aF ?aB ?aS ?aL ?_
                               (case aR => repeat (first | exact (by repeat (first | (with_reducible exact HR336.out) | (with_reducible refine Kd.C_alloc ?_ _) | (with_reducible refine Kd.C_drewN ?_ _) | (with_reducible refine Kd.C_drew ?_) | exact HR336.out)) | (with_reducible refine Kd.C_alloc ?_ _) | (with_reducible refine Kd.C_drewN ?_ _) | (with_reducible refine Kd.C_drew ?_)))
                               (case aB => exact (blw HB.out))
                               (case aF => exact (fun k_ hk => ⟨Kd.fresh' (Kd.R_lt (rmv HO_5.out)) k_ hk, Kd.fresh' (Kd.R_lt (rmv HO_6.out)) k_ hk, Kd.freshB (zk BK322.out) k_ hk⟩))
                               (case aO => exact (rmv HO332.out))
                               (case aS => exact (below_size (blw HB.out)))
                               (case aL => have := LMc30.out; omega)
                               intro v338 w42 ho hb hg hat
                               rw [← Ny337.out] at ho; replace HO_6 := Aside0.mk (Kd.R_after (ok := (fun k_ => some k_ ≠ (.slice (some ad321) x5_2.length co18 : Value).ownBlock ∧ k_ ≠ gb322)) (rmv HO_6.out) hg hat); replace BK322 := Aside0.mk (blk_grown (g := gb322) (o := .cells #[.int .i64 ((rd_T24 x5_2 x8_16).f0), .int .i64 ((rd_T24 x5_2 x8_16).f1), .int .i64 ((rd_T24 x5_2 x8_16).f2), .int .i64 ((rd_T24 x5_2 x8_16).f3), .int .i64 ((rd_T24 x5_2 x8_16).f4), .int .i64 ((rd_T24 x5_2 x8_16).f5), .int .i64 ((rd_T24 x5_2 x8_16).f6), .int .i64 ((rd_T24 x5_2 x8_16).f7), .int .i64 ((rd_T24 x5_2 x8_16).f8)] 24 (0, 0)) (zk BK322.out) hg (Kd.R_away HO332.out (fun _ hk => hk.2.2))); replace HB := Aside0.mk (hb); replace HR329 := Aside0.mk ((show Kd.C k24 w42 (some ad321) y326.length y326 from by rw [Ny326.out]; exact Kd.C_take (m := (x8_16 : Int).toNat) ((Kd.R_reads' (Kd.R_after (ok := (fun k_ => some k_ ≠ (u6 : Value).ownBlock ∧ k_ ≠ gb322)) (rmv HO_5.out) hg hat)).2.2) KL37.out)); replace HR336 := Aside0.mk ((show Kd.C k24 w42 A38 y333.length y333 from by rw [Ny333.out, KA38.out]; exact Kd.C_drop (m := ((ji27) : Int).toNat) (c := co18) ((Kd.R_reads' (Kd.R_after (ok := (fun k_ => some k_ ≠ (u6 : Value).ownBlock ∧ k_ ≠ gb322)) (rmv HO_5.out) hg hat)).2.2) KL38.out ((Kd.R_reads' (Kd.R_after (ok := (fun k_ => some k_ ≠ (u6 : Value).ownBlock ∧ k_ ≠ gb322)) (rmv HO_5.out) hg hat)).2.1)))
                               replace HO_5 := Aside0.mk (Kd.R_after (ok := (fun k_ => some k_ ≠ (u6 : Value).ownBlock ∧ k_ ≠ gb322)) (rmv HO_5.out) hg hat); have HO339 := Aside0.mk (ho); clear HO332 ho hb hg hat
                               refine hK.out _ _ trivial (fun hHeld => normA ?_); clear hK K
                               refine pureA (i := 10) (N := some 5) (ar 11 2047) (any_of HT_.out (by kernel_rfl)) ?_
                               refine done_ (done_of HT_.out (by kernel_rfl)) ?_
                               have hcz43_0 := bc0 BK322; have hcz43_1 := bc1 BK322; have hcz43_2 := bc2 BK322; have hcz43_3 := bc3 BK322; have hcz43_4 := bc4 BK322; have hcz43_5 := bc5 BK322; have hcz43_6 := bc6 BK322; have hcz43_7 := bc7 BK322; have hcz43_8 := bc8 BK322; have hfz43_0 := fz BK322 0; have hfz43_1 := fz BK322 1; have hfz43_2 := fz BK322 2; have hfz43_3 := fz BK322 3; have hfz43_4 := fz BK322 4; have hfz43_5 := fz BK322 5; have hfz43_6 := fz BK322 6; have hfz43_7 := fz BK322 7; have hfz43_8 := fz BK322 8; obtain ⟨Ao44, co44, eo44⟩ := Kd.R_slice HO_6.out; subst eo44
                               go_upto_region 16 with (first | (refine goesC 61 Tryd.func12 #[.slice Ao44 x6_2.length co44, .agg #[.int .i64 ((rd_T24 x5_2 x8_16).f0), .int .i64 ((rd_T24 x5_2 x8_16).f1), .int .i64 ((rd_T24 x5_2 x8_16).f2), .int .i64 ((rd_T24 x5_2 x8_16).f3), .int .i64 ((rd_T24 x5_2 x8_16).f4), .int .i64 ((rd_T24 x5_2 x8_16).f5), .int .i64 ((rd_T24 x5_2 x8_16).f6), .int .i64 ((rd_T24 x5_2 x8_16).f7), .int .i64 ((rd_T24 x5_2 x8_16).f8)]] ?_; (with_reducible refine (facts_Add.calls _ _ x6_2 ((rd_T24 x5_2 x8_16).f0) ((rd_T24 x5_2 x8_16).f1) ((rd_T24 x5_2 x8_16).f2) ((rd_T24 x5_2 x8_16).f3) ((rd_T24 x5_2 x8_16).f4) ((rd_T24 x5_2 x8_16).f5) ((rd_T24 x5_2 x8_16).f6) ((rd_T24 x5_2 x8_16).f7) ((rd_T24 x5_2 x8_16).f8) t340 t343 _ ?side1 ?side2 A31.out).mono ?_); (case side1 => repeat (first | exact (Kd.R_reads' HO_6.out).2.2 | (with_reducible refine Kd.C_alloc ?_ _) | (with_reducible refine Kd.C_drewN ?_ _) | (with_reducible refine Kd.C_drew ?_))); (case side2 => exact (Kd.R_reads' HO_6.out).2.1); rintro e w45 ⟨v341, rfl, ho0, hb⟩; refine ⟨_, rfl, ?_⟩; have HO342 := Aside0.mk (Kd.R_lower (Kd.R_newB (Kd.R_new' (Kd.R_new' (Kd.R_new' ho0 (Kd.R_lt (rmv HO_5.out))) (Kd.R_lt (rmv HO_6.out))) (Kd.R_lt (rmv HO339.out))) (g := gb322) (o := .cells #[.int .i64 ((rd_T24 x5_2 x8_16).f0), .int .i64 ((rd_T24 x5_2 x8_16).f1), .int .i64 ((rd_T24 x5_2 x8_16).f2), .int .i64 ((rd_T24 x5_2 x8_16).f3), .int .i64 ((rd_T24 x5_2 x8_16).f4), .int .i64 ((rd_T24 x5_2 x8_16).f5), .int .i64 ((rd_T24 x5_2 x8_16).f6), .int .i64 ((rd_T24 x5_2 x8_16).f7), .int .i64 ((rd_T24 x5_2 x8_16).f8)] 24 (0, 0)) (zk BK322.out)) (below_size (blw HB.out))); replace HO_5 := Aside0.mk (Kd.R_elder' (rmv HO_5.out) (Kd.R_base ho0) hb); replace HO_6 := Aside0.mk (Kd.R_elder' (rmv HO_6.out) (Kd.R_base ho0) hb); replace HO339 := Aside0.mk (Kd.R_elder' (rmv HO339.out) (Kd.R_base ho0) hb); replace BK322 := bB BK322 hb; replace HR329 := Aside0.mk (Kd.C_below (by repeat (first | (with_reducible exact HR329.out) | (with_reducible refine Kd.C_alloc ?_ _) | (with_reducible refine Kd.C_drewN ?_ _) | (with_reducible refine Kd.C_drew ?_) | exact HR329.out)) hb); replace HR336 := Aside0.mk (Kd.C_below (by repeat (first | (with_reducible exact HR336.out) | (with_reducible refine Kd.C_alloc ?_ _) | (with_reducible refine Kd.C_drewN ?_ _) | (with_reducible refine Kd.C_drew ?_) | exact HR336.out)) hb); replace HB := sB HB hb; (try clear hb); (try clear hb2); (try clear hk); (try clear hi); (try clear ho0)))
                               (try simp only [Act.put, List.setIfInBounds_toArray, List.set_cons_zero, List.set_cons_succ])
                               go_cut [73] (fun v73 wc => ∃ (kq : Nat) (x73_31 : Bool), v73 = .bool x73_31 ∧ Aside0 (fastilaw46_FactsOrder.j3 kq l0 l1 y337 x7_2 t340 x73_31 ((rd_T24 x5_2 x8_16).f0) ((rd_T24 x5_2 x8_16).f1) ((rd_T24 x5_2 x8_16).f2) ((rd_T24 x5_2 x8_16).f3) ((rd_T24 x5_2 x8_16).f4) ((rd_T24 x5_2 x8_16).f5) ((rd_T24 x5_2 x8_16).f6) ((rd_T24 x5_2 x8_16).f7) ((rd_T24 x5_2 x8_16).f8) = some r) ∧ Aside0 (kq ≤ kj16) ∧ Aside0 (Kd.R k24 24 wc w.heap.size (fun k_ => some k_ ≠ (v341 : Value).ownBlock ∧ k_ ≠ gb322) v338 y337) ∧ Aside0 (Kd.R k24 24 wc w.heap.size (fun k_ => some k_ ≠ (v338 : Value).ownBlock ∧ k_ ≠ gb322) v341 t340) ∧ Aside0 (wc.heap[gb322]? = some (.cells #[.int .i64 ((rd_T24 x5_2 x8_16).f0), .int .i64 ((rd_T24 x5_2 x8_16).f1), .int .i64 ((rd_T24 x5_2 x8_16).f2), .int .i64 ((rd_T24 x5_2 x8_16).f3), .int .i64 ((rd_T24 x5_2 x8_16).f4), .int .i64 ((rd_T24 x5_2 x8_16).f5), .int .i64 ((rd_T24 x5_2 x8_16).f6), .int .i64 ((rd_T24 x5_2 x8_16).f7), .int .i64 ((rd_T24 x5_2 x8_16).f8)] 24 (0, 0))) ∧ Aside0 (Kd.C k24 wc (some ad321) y326.length y326) ∧ Aside0 (Kd.C k24 wc A38 y333.length y333) ∧ Aside0 (Below w.heap.size w wc))
                               case first =>
                                 have H := HC32.out; clear HC32
                                 by_cases c46 : t343 = 0
                                 · rw [if_pos c46] at H
                                   have c46b0 : (t343 == 0) = true := beq_iff_eq.mpr c46; have c46b1 : (t343 != 0) = false := bne_eq_false_iff_eq.mpr c46; clear c46
                                   (first | rw [c46b0] | (simp only [i64_w, i32_w]; rw [c46b0]) | skip)
                                   have H' := Aside0.mk H; clear H; obtain ⟨Ao47, co47, eo47⟩ := Kd.R_slice HO342.out; subst eo47
                                   go_wp2
                                   go_meet
                                   case rel => exact ⟨_, (((t340.length : Int) != (wrap64 ((x6_2.length : Int) + 1)))), (by first | rfl | (simp; done) | (simp [*]; done)), H', ⟨by have := HJ4.out; have := HK2.out; have := HJ16.out; first | omega | exact Nat.le_refl _⟩, ⟨by (with_reducible repeat (first | apply Kd.R_alloc | apply Kd.R_drewN | apply Kd.R_drew)); exact Kd.R_mono HO339.out (fun _ hk => ⟨hk.2, hk.1.2.2⟩)⟩, ⟨by (with_reducible repeat (first | apply Kd.R_alloc | apply Kd.R_drewN | apply Kd.R_drew)); exact Kd.R_mono HO342.out (fun _ hk => ⟨hk.1.2, hk.2⟩)⟩, ⟨zk BK322.out⟩, ⟨by repeat (first | (with_reducible exact HR329.out) | (with_reducible refine Kd.C_alloc ?_ _) | (with_reducible refine Kd.C_drewN ?_ _) | (with_reducible refine Kd.C_drew ?_) | exact HR329.out)⟩, ⟨by repeat (first | (with_reducible exact HR336.out) | (with_reducible refine Kd.C_alloc ?_ _) | (with_reducible refine Kd.C_drewN ?_ _) | (with_reducible refine Kd.C_drew ?_) | exact HR336.out)⟩, ⟨blw HB.out⟩⟩
                                 · rw [if_neg c46] at H
                                   have c46b0 : (t343 == 0) = false := beq_eq_false_iff_ne.mpr c46; have c46b1 : (t343 != 0) = true := bne_iff_ne.mpr c46
                                   (first | rw [c46b0] | (simp only [i64_w, i32_w]; rw [c46b0]) | skip)
                                   have H' := Aside0.mk H; clear H
                                   go_wp2
                                   go_meet
                                   case rel => exact ⟨_, (true), (by first | rfl | (simp; done) | (simp [*]; done)), H', ⟨by have := HJ4.out; have := HK2.out; have := HJ16.out; first | omega | exact Nat.le_refl _⟩, ⟨by (with_reducible repeat (first | apply Kd.R_alloc | apply Kd.R_drewN | apply Kd.R_drew)); exact Kd.R_mono HO339.out (fun _ hk => ⟨hk.2, hk.1.2.2⟩)⟩, ⟨by (with_reducible repeat (first | apply Kd.R_alloc | apply Kd.R_drewN | apply Kd.R_drew)); exact Kd.R_mono HO342.out (fun _ hk => ⟨hk.1.2, hk.2⟩)⟩, ⟨zk BK322.out⟩, ⟨by repeat (first | (with_reducible exact HR329.out) | (with_reducible refine Kd.C_alloc ?_ _) | (with_reducible refine Kd.C_drewN ?_ _) | (with_reducible refine Kd.C_drew ?_) | exact HR329.out)⟩, ⟨by repeat (first | (with_reducible exact HR336.out) | (with_reducible refine Kd.C_alloc ?_ _) | (with_reducible refine Kd.C_drewN ?_ _) | (with_reducible refine Kd.C_drew ?_) | exact HR336.out)⟩, ⟨blw HB.out⟩⟩
                               case rest =>
                                 clear HC32
                                 (try clear c1); (try clear c2); (try clear p2); (try clear c3); (try clear p3); (try clear q3); (try clear hx3); (try clear c4); (try clear c6); (try clear p6); (try clear c8); (try clear c10); (try clear c11); (try clear c12); (try clear c16); (try clear c16b0); (try clear c16b1); (try clear c19); (try clear c19b0); (try clear c20); (try clear c20b0); (try clear c21); (try clear c21b0); (try clear c21b1); (try clear c21b2); (try clear c22); (try clear c22b0); (try clear c23); (try clear c23b0); (try clear c24); (try clear c24b0); (try clear c25); (try clear c25b0); (try clear c25b1); (try clear c26); (try clear c28); (try clear c28b0); (try clear c28b1); (try clear c29); (try clear c29b0); (try clear c29b1); (try clear c30); (try clear p32); (try clear q32); (try clear hx32); (try clear q37); (try clear c38); (try clear q38); (try clear c46); (try clear c46b0); (try clear c46b1); (try clear hcz34_0); (try clear hcz34_1); (try clear hcz34_2); (try clear hcz34_3); (try clear hcz34_4); (try clear hcz34_5); (try clear hcz34_6); (try clear hcz34_7); (try clear hcz34_8); (try clear hcz43_0); (try clear hcz43_1); (try clear hcz43_2); (try clear hcz43_3); (try clear hcz43_4); (try clear hcz43_5); (try clear hcz43_6); (try clear hcz43_7); (try clear hcz43_8); (try clear hfz34_0); (try clear hfz34_1); (try clear hfz34_2); (try clear hfz34_3); (try clear hfz34_4); (try clear hfz34_5); (try clear hfz34_6); (try clear hfz34_7); (try clear hfz34_8); (try clear hfz43_0); (try clear hfz43_1); (try clear hfz43_2); (try clear hfz43_3); (try clear hfz43_4); (try clear hfz43_5); (try clear hfz43_6); (try clear hfz43_7); (try clear hfz43_8); (try clear hx320_0); (try clear hx321_0); (try clear hx321_1); (try clear hx321_2); (try clear hx321_3); (try clear hx321_4); (try clear hx321_5); (try clear hx321_6); (try clear hx321_7); (try clear hx321_8); (try clear p2); (try clear p3); (try clear p320); (try clear p321); (try clear p6); (try clear q038); (try clear q3); (try clear q320); (try clear q321); (try clear q37); (try clear q38)
                                 obtain ⟨kq, x73_31, rfl, HA, HJ31, HO_5, HO_10, BK322, HR329, HR336, HB⟩ := hcut
                                 cases kq with
                                 | zero => exact absurd HA.out (by simp [fastilaw46_FactsOrder.j3])
                                 | succ kj31 =>
                                   have H := HA.out; clear HA
                                   simp only [fastilaw46_FactsOrder.j3] at H
                                   by_cases c48 : x73_31 = true
                                   · subst c48
                                     have H1 : (none) = some r := by rw [if_pos rfl] at H; exact H
                                     clear H; have H := H1; clear H1
                                     exact absurd H (by simp)
                                   · replace c48 := Bool.eq_false_iff.mpr c48
                                     subst c48
                                     have H1 : ((facts_Add.f t340 ((rd_T24 x5_2 x8_16).f0) ((rd_T24 x5_2 x8_16).f1) ((rd_T24 x5_2 x8_16).f2) ((rd_T24 x5_2 x8_16).f3) ((rd_T24 x5_2 x8_16).f4) ((rd_T24 x5_2 x8_16).f5) ((rd_T24 x5_2 x8_16).f6) ((rd_T24 x5_2 x8_16).f7) ((rd_T24 x5_2 x8_16).f8)).bind fun bt344 => (if bt344.2 = 171 then (fastilaw46_FactsOrder.l0 kj31 l0 l1 y337 t340 (wrap64 (x7_2 + 1))) else (none))) = some r := by rw [if_neg (show ¬ (false = true) by decide)] at H; exact H
                                     clear H; have H := H1; clear H1; replace H := Option.bind_eq_some_iff.mp H; obtain ⟨⟨t344, t347⟩, A490, H⟩ := H; replace H : (if t347 = 171 then (fastilaw46_FactsOrder.l0 kj31 l0 l1 y337 t340 (wrap64 (x7_2 + 1))) else (none)) = some r := H; have A49 := Aside0.mk A490; clear A490
                                     by_cases c50 : t347 = 171
                                     · rw [if_pos c50] at H
                                       have c50b0 : (t347 == 171) = true := beq_iff_eq.mpr c50; have c50b1 : (t347 != 171) = false := bne_eq_false_iff_eq.mpr c50; clear c50; have H' := Aside0.mk H; clear H; have hcz51_0 := bc0 BK322; have hcz51_1 := bc1 BK322; have hcz51_2 := bc2 BK322; have hcz51_3 := bc3 BK322; have hcz51_4 := bc4 BK322; have hcz51_5 := bc5 BK322; have hcz51_6 := bc6 BK322; have hcz51_7 := bc7 BK322; have hcz51_8 := bc8 BK322; have hfz51_0 := fz BK322 0; have hfz51_1 := fz BK322 1; have hfz51_2 := fz BK322 2; have hfz51_3 := fz BK322 3; have hfz51_4 := fz BK322 4; have hfz51_5 := fz BK322 5; have hfz51_6 := fz BK322 6; have hfz51_7 := fz BK322 7; have hfz51_8 := fz BK322 8
                                       obtain ⟨Ao52, co52, eo52⟩ := Kd.R_slice HO_10.out; subst eo52
                                       go_wp2_with (first | (refine goesC 78 Tryd.func12 #[.slice Ao52 t340.length co52, .agg #[.int .i64 ((rd_T24 x5_2 x8_16).f0), .int .i64 ((rd_T24 x5_2 x8_16).f1), .int .i64 ((rd_T24 x5_2 x8_16).f2), .int .i64 ((rd_T24 x5_2 x8_16).f3), .int .i64 ((rd_T24 x5_2 x8_16).f4), .int .i64 ((rd_T24 x5_2 x8_16).f5), .int .i64 ((rd_T24 x5_2 x8_16).f6), .int .i64 ((rd_T24 x5_2 x8_16).f7), .int .i64 ((rd_T24 x5_2 x8_16).f8)]] ?_; (with_reducible refine (facts_Add.calls _ _ t340 ((rd_T24 x5_2 x8_16).f0) ((rd_T24 x5_2 x8_16).f1) ((rd_T24 x5_2 x8_16).f2) ((rd_T24 x5_2 x8_16).f3) ((rd_T24 x5_2 x8_16).f4) ((rd_T24 x5_2 x8_16).f5) ((rd_T24 x5_2 x8_16).f6) ((rd_T24 x5_2 x8_16).f7) ((rd_T24 x5_2 x8_16).f8) t344 t347 _ ?side1 ?side2 A49.out).mono ?_); (case side1 => repeat (first | exact (Kd.R_reads' HO_10.out).2.2 | (with_reducible refine Kd.C_alloc ?_ _) | (with_reducible refine Kd.C_drewN ?_ _) | (with_reducible refine Kd.C_drew ?_))); (case side2 => exact (Kd.R_reads' HO_10.out).2.1); rintro e w53 ⟨v345, rfl, ho0, hb⟩; refine ⟨_, rfl, ?_⟩; replace HO_5 := Aside0.mk (Kd.R_elder' (rmv HO_5.out) (Kd.R_base ho0) hb); replace HO_10 := Aside0.mk (Kd.R_elder' (rmv HO_10.out) (Kd.R_base ho0) hb); replace HR329 := Aside0.mk (Kd.C_below (by repeat (first | (with_reducible exact HR329.out) | (with_reducible refine Kd.C_alloc ?_ _) | (with_reducible refine Kd.C_drewN ?_ _) | (with_reducible refine Kd.C_drew ?_) | exact HR329.out)) hb); replace HR336 := Aside0.mk (Kd.C_below (by repeat (first | (with_reducible exact HR336.out) | (with_reducible refine Kd.C_alloc ?_ _) | (with_reducible refine Kd.C_drewN ?_ _) | (with_reducible refine Kd.C_drew ?_) | exact HR336.out)) hb); replace HB := sB HB hb; (try clear hb); (try clear hb2); (try clear hk); (try clear hi); (try clear ho0)))
                                       go_roundg kj31
                                       case measure => have := HJ4.out; have := HK2.out; have := HJ16.out; have := HJ31.out; omega
                                       case rel => exact ⟨(y337), (t340), (wrap64 (x7_2 + 1)), (by first | rfl | (simp; done) | (simp [*]; done)), H', ⟨by have := HJ4.out; have := HK2.out; have := HJ16.out; have := HJ31.out; omega⟩, ⟨by (with_reducible repeat (first | apply Kd.R_alloc | apply Kd.R_drewN | apply Kd.R_drew)); exact Kd.R_mono HO_5.out (fun _ hk => hk.1.1)⟩, ⟨by (with_reducible repeat (first | apply Kd.R_alloc | apply Kd.R_drewN | apply Kd.R_drew)); exact Kd.R_mono HO_10.out (fun _ hk => hk.1.1)⟩, ⟨blw HB.out⟩⟩
                                     · rw [if_neg c50] at H
                                       exact absurd H (by simp)
                             · rw [if_neg c30] at H
                               exact absurd H (by simp)
                           · rw [if_neg c29] at H
                             exact absurd H (by simp)
                         · rw [if_neg c28] at H
                           exact absurd H (by simp)
                       · rw [if_neg c26] at H
                         exact absurd H (by simp)
                     · rw [if_neg c25] at H
                       exact absurd H (by simp)
                   · rw [if_neg c23] at H
                     exact absurd H (by simp)
                 · rw [if_neg c22] at H
                   exact absurd H (by simp)
           · rw [if_neg c16] at H
             have c16b0 : decide (0 < (x5_2.length : Int)) = false := decide_eq_false c16; have c16b1 : decide (0 < x5_2.length) = false := decide_eq_false (by omega)
             have c16n : ¬ 0 < x5_2.length := by omega
             clear c16; replace H := Option.bind_eq_some_iff.mp H; obtain ⟨t319, A540, H⟩ := H; replace H : (some t319) = some r := H; have A54 := Aside0.mk A540; clear A540; obtain rfl := Option.some.inj H; obtain ⟨Ao55, co55, eo55⟩ := Kd.R_slice HO_5.out; subst eo55; obtain ⟨Ao56, co56, eo56⟩ := Kd.R_slice HO_6.out; subst eo56
             go_wp2_with (first | (refine goesC 85 Tryd.func16 #[.slice Ao56 x6_2.length co56, .slice A0 l0.length c0] ?_; (with_reducible refine (fastiref46_Same.calls k2 _ _ x6_2 _ _ l0 t319 _ ?side1 ?side2 ?side3 ?side4 A54.out).mono ?_); (case side1 => repeat (first | exact (Kd.R_reads' HO_6.out).2.2 | (with_reducible refine Kd.C_alloc ?_ _) | (with_reducible refine Kd.C_drewN ?_ _) | (with_reducible refine Kd.C_drew ?_))); (case side2 => exact (Kd.R_reads' HO_6.out).2.1); (case side3 => exact cB HR0 HB); (case side4 => exact HC0.out); rintro e w' ⟨rfl, ⟨nd, rfl⟩⟩; refine ⟨_, rfl, ?_⟩))
             go_ret
             exact ⟨by first | rfl | (simp [errW_none, errW_some] <;> rfl) | (simp [*, errW_none, errW_some] <;> rfl), blw HB.out⟩
     · rw [if_neg c12] at H
       exact absurd H (by simp)

end Go.Proofs.YtebfcckaicgcfaaDoor.Q
