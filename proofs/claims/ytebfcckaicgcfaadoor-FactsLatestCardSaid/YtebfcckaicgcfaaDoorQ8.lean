/- Functions of the translation as plain Lean functions, and proofs that the calls do what these say; written by a program of this session round the kit's print. -/
import Derived.Test.YtebfcckaicgcfaaDoorQ0
import Derived.Test.YtebfcckaicgcfaaDoorAidB
import Derived.Test.YtebfcckaicgcfaaDoorAidC
import Derived.Test.YtebfcckaicgcfaaDoorQ6
import Derived.Test.YtebfcckaicgcfaaDoorQ7
namespace Go.Proofs.YtebfcckaicgcfaaDoor.Q
open Go.RowKit Go.Proofs.YtebfcckaicgcfaaDoorW.PrintWords Go.Proofs.YtebfcckaicgcfaaDoorW.PrintLast Go.Proofs.YtebfcckaicgcfaaDoorW.PrintMore
attribute [local go_sem] max2_int min2_int max_two min_two max_three min_three max_four min_four   -- for this text's walks alone
set_option linter.unusedVariables false
set_option linter.unusedSimpArgs false

/-! ### fastiref46_numbers: function 40 -/
def fastiref46_numbers.f (a0_0 : Int) (a0_1 : Int) (a0_2 : Int) (a0_3 : Int) (a0_4 : Int) (a0_5 : Int) (a0_6 : Int) (a0_7 : Int) (a0_8 : Int) : Option (Bool) := if a0_5 = (-1) then (some (a0_6 == 0)) else (if a0_1 = 1 then ((fastiref46_within.f a0_5 0 99).bind fun t195 => (if t195 = true then ((fastiref46_within.f a0_6 0 99).bind fun t196 => (some t196)) else (some false))) else (if a0_1 = 4 then ((fastiref46_within.f a0_5 1 512).bind fun t197 => (if t197 = true then ((fastiref46_within.f a0_6 0 1440).bind fun t198 => (some t198)) else (some false))) else (if a0_1 = 5 then (if a0_5 = 0 then (some (a0_6 == 0)) else (some false)) else (if a0_1 = 6 then ((fastiref46_within.f a0_5 0 73048).bind fun t199 => (if t199 = true then ((fastiref46_within.f a0_6 0 15).bind fun t200 => (some t200)) else (some false))) else ((fastiref46_within.f a0_5 1 512).bind fun t201 => (if t201 = true then (some (a0_6 == 0)) else (some false)))))))
set_option maxHeartbeats 8000000 in
set_option maxRecDepth 100000 in
theorem fastiref46_numbers.calls (a0_0 : Int) (a0_1 : Int) (a0_2 : Int) (a0_3 : Int) (a0_4 : Int) (a0_5 : Int) (a0_6 : Int) (a0_7 : Int) (a0_8 : Int) (r : Bool) (w : World) (h : fastiref46_numbers.f a0_0 a0_1 a0_2 a0_3 a0_4 a0_5 a0_6 a0_7 a0_8 = some r) :
    Calls Tryd.prog 40 #[.agg #[.int .i64 a0_0, .int .i64 a0_1, .int .i64 a0_2, .int .i64 a0_3, .int .i64 a0_4, .int .i64 a0_5, .int .i64 a0_6, .int .i64 a0_7, .int .i64 a0_8]] w fun e w' => e = .returned (.bool r) ∧ Below w.heap.size w w' := by
 have hu24 := Tryd.underlying24; have HB := Aside0.mk (Below.refl w.heap.size w); have H : (if a0_5 = (-1) then (some (a0_6 == 0)) else (if a0_1 = 1 then ((fastiref46_within.f a0_5 0 99).bind fun t195 => (if t195 = true then ((fastiref46_within.f a0_6 0 99).bind fun t196 => (some t196)) else (some false))) else (if a0_1 = 4 then ((fastiref46_within.f a0_5 1 512).bind fun t197 => (if t197 = true then ((fastiref46_within.f a0_6 0 1440).bind fun t198 => (some t198)) else (some false))) else (if a0_1 = 5 then (if a0_5 = 0 then (some (a0_6 == 0)) else (some false)) else (if a0_1 = 6 then ((fastiref46_within.f a0_5 0 73048).bind fun t199 => (if t199 = true then ((fastiref46_within.f a0_6 0 15).bind fun t200 => (some t200)) else (some false))) else ((fastiref46_within.f a0_5 1 512).bind fun t201 => (if t201 = true then (some (a0_6 == 0)) else (some false)))))))) = some r := h; clear h
 by_cases c2 : a0_5 = (-1)
 ·rw [if_pos c2] at H
  have c2b0 : (a0_5 == (-1)) = true := beq_iff_eq.mpr c2; have c2b1 : (a0_5 != (-1)) = false := bne_eq_false_iff_eq.mpr c2; clear c2; obtain rfl := Option.some.inj H
  go_enter Tryd.func40, Tryd.ntmps40
  go_wp2_with (first | ((with_reducible refine gate_dst (N := 1) rfl ?_); refine boxA (N := 1) #[.int .i64 a0_0, .int .i64 a0_1, .int .i64 a0_2, .int .i64 a0_3, .int .i64 a0_4, .int .i64 a0_5, .int .i64 a0_6, .int .i64 a0_7, .int .i64 a0_8] 24 ?_; intro gb194 hg w3 hbox hb; have BK194 := Aside0.mk (hbox); have GW194 := gW HB hg; have GE194 := gW HB hg; replace HB := sB HB hb; clear hb hbox hg; have hcz4_0 := bc0 BK194; have hcz4_1 := bc1 BK194; have hcz4_2 := bc2 BK194; have hcz4_3 := bc3 BK194; have hcz4_4 := bc4 BK194; have hcz4_5 := bc5 BK194; have hcz4_6 := bc6 BK194; have hcz4_7 := bc7 BK194; have hcz4_8 := bc8 BK194; have hfz4_0 := fz BK194 0; have hfz4_1 := fz BK194 1; have hfz4_2 := fz BK194 2; have hfz4_3 := fz BK194 3; have hfz4_4 := fz BK194 4; have hfz4_5 := fz BK194 5; have hfz4_6 := fz BK194 6; have hfz4_7 := fz BK194 7; have hfz4_8 := fz BK194 8))
  go_ret
  exact ⟨by first | rfl | (simp [errW_none, errW_some] <;> rfl) | (simp [*, errW_none, errW_some] <;> rfl), blw HB.out⟩
 rw [if_neg c2] at H; have c2b0 : (a0_5 == (-1)) = false := beq_eq_false_iff_ne.mpr c2; have c2b1 : (a0_5 != (-1)) = true := bne_iff_ne.mpr c2
 by_cases c5 : a0_1 = 1
 ·rw [if_pos c5] at H
  have c5b0 : (a0_1 == 1) = true := beq_iff_eq.mpr c5; have c5b1 : (a0_1 != 1) = false := bne_eq_false_iff_eq.mpr c5; clear c5; replace H := Option.bind_eq_some_iff.mp H; obtain ⟨t195, A60, H⟩ := H; replace H : (if t195 = true then ((fastiref46_within.f a0_6 0 99).bind fun t196 => (some t196)) else (some false)) = some r := H; have A6 := Aside0.mk A60; clear A60
  by_cases c7 : t195 = true
  rotate_left
  ·replace c7 := Bool.eq_false_iff.mpr c7
   subst c7
   have H1 : (some false) = some r := by rw [if_neg (show ¬ (false = true) by decide)] at H; exact H
   clear H; have H := H1; clear H1; obtain rfl := Option.some.inj H
   go_enter Tryd.func40, Tryd.ntmps40
   go_wp2_with (first | ((with_reducible refine gate_dst (N := 1) rfl ?_); refine boxA (N := 1) #[.int .i64 a0_0, .int .i64 a0_1, .int .i64 a0_2, .int .i64 a0_3, .int .i64 a0_4, .int .i64 a0_5, .int .i64 a0_6, .int .i64 a0_7, .int .i64 a0_8] 24 ?_; intro gb194 hg w11 hbox hb; have BK194 := Aside0.mk (hbox); have GW194 := gW HB hg; have GE194 := gW HB hg; replace HB := sB HB hb; clear hb hbox hg; have hcz12_0 := bc0 BK194; have hcz12_1 := bc1 BK194; have hcz12_2 := bc2 BK194; have hcz12_3 := bc3 BK194; have hcz12_4 := bc4 BK194; have hcz12_5 := bc5 BK194; have hcz12_6 := bc6 BK194; have hcz12_7 := bc7 BK194; have hcz12_8 := bc8 BK194; have hfz12_0 := fz BK194 0; have hfz12_1 := fz BK194 1; have hfz12_2 := fz BK194 2; have hfz12_3 := fz BK194 3; have hfz12_4 := fz BK194 4; have hfz12_5 := fz BK194 5; have hfz12_6 := fz BK194 6; have hfz12_7 := fz BK194 7; have hfz12_8 := fz BK194 8) | (refine goesC 15 Tryd.func35 #[.int .i64 a0_5, .int .i64 0, .int .i64 99] ?_; (with_reducible refine (fastiref46_within.calls a0_5 0 99 false _ A6.out).mono ?_); rintro e w' ⟨rfl, ⟨nd, rfl⟩⟩; refine ⟨_, rfl, ?_⟩))
   go_ret
   exact ⟨by first | rfl | (simp [errW_none, errW_some] <;> rfl) | (simp [*, errW_none, errW_some] <;> rfl), blw HB.out⟩
  subst c7
  have H1 : ((fastiref46_within.f a0_6 0 99).bind fun t196 => (some t196)) = some r := by rw [if_pos rfl] at H; exact H
  clear H; have H := H1; clear H1; replace H := Option.bind_eq_some_iff.mp H; obtain ⟨t196, A80, H⟩ := H; replace H : (some t196) = some r := H; have A8 := Aside0.mk A80; clear A80; obtain rfl := Option.some.inj H
  go_enter Tryd.func40, Tryd.ntmps40
  go_wp2_with (first | ((with_reducible refine gate_dst (N := 1) rfl ?_); refine boxA (N := 1) #[.int .i64 a0_0, .int .i64 a0_1, .int .i64 a0_2, .int .i64 a0_3, .int .i64 a0_4, .int .i64 a0_5, .int .i64 a0_6, .int .i64 a0_7, .int .i64 a0_8] 24 ?_; intro gb194 hg w9 hbox hb; have BK194 := Aside0.mk (hbox); have GW194 := gW HB hg; have GE194 := gW HB hg; replace HB := sB HB hb; clear hb hbox hg; have hcz10_0 := bc0 BK194; have hcz10_1 := bc1 BK194; have hcz10_2 := bc2 BK194; have hcz10_3 := bc3 BK194; have hcz10_4 := bc4 BK194; have hcz10_5 := bc5 BK194; have hcz10_6 := bc6 BK194; have hcz10_7 := bc7 BK194; have hcz10_8 := bc8 BK194; have hfz10_0 := fz BK194 0; have hfz10_1 := fz BK194 1; have hfz10_2 := fz BK194 2; have hfz10_3 := fz BK194 3; have hfz10_4 := fz BK194 4; have hfz10_5 := fz BK194 5; have hfz10_6 := fz BK194 6; have hfz10_7 := fz BK194 7; have hfz10_8 := fz BK194 8) | (refine goesC 15 Tryd.func35 #[.int .i64 a0_5, .int .i64 0, .int .i64 99] ?_; (with_reducible refine (fastiref46_within.calls a0_5 0 99 true _ A6.out).mono ?_); rintro e w' ⟨rfl, ⟨nd, rfl⟩⟩; refine ⟨_, rfl, ?_⟩) | (go_at_call 35; (with_reducible refine (fastiref46_within.calls a0_6 0 99 t196 _ A8.out).mono ?_); rintro e w' ⟨rfl, ⟨nd, rfl⟩⟩))
  go_ret
  exact ⟨by first | rfl | (simp [errW_none, errW_some] <;> rfl) | (simp [*, errW_none, errW_some] <;> rfl), blw HB.out⟩
 rw [if_neg c5] at H; have c5b0 : (a0_1 == 1) = false := beq_eq_false_iff_ne.mpr c5; have c5b1 : (a0_1 != 1) = true := bne_iff_ne.mpr c5
 by_cases c13 : a0_1 = 4
 ·rw [if_pos c13] at H
  have c13b0 : (a0_1 == 4) = true := beq_iff_eq.mpr c13; have c13b1 : (a0_1 != 4) = false := bne_eq_false_iff_eq.mpr c13; clear c13; replace H := Option.bind_eq_some_iff.mp H; obtain ⟨t197, A140, H⟩ := H; replace H : (if t197 = true then ((fastiref46_within.f a0_6 0 1440).bind fun t198 => (some t198)) else (some false)) = some r := H; have A14 := Aside0.mk A140; clear A140
  by_cases c15 : t197 = true
  rotate_left
  ·replace c15 := Bool.eq_false_iff.mpr c15
   subst c15
   have H1 : (some false) = some r := by rw [if_neg (show ¬ (false = true) by decide)] at H; exact H
   clear H; have H := H1; clear H1; obtain rfl := Option.some.inj H
   go_enter Tryd.func40, Tryd.ntmps40
   go_wp2_with (first | ((with_reducible refine gate_dst (N := 1) rfl ?_); refine boxA (N := 1) #[.int .i64 a0_0, .int .i64 a0_1, .int .i64 a0_2, .int .i64 a0_3, .int .i64 a0_4, .int .i64 a0_5, .int .i64 a0_6, .int .i64 a0_7, .int .i64 a0_8] 24 ?_; intro gb194 hg w19 hbox hb; have BK194 := Aside0.mk (hbox); have GW194 := gW HB hg; have GE194 := gW HB hg; replace HB := sB HB hb; clear hb hbox hg; have hcz20_0 := bc0 BK194; have hcz20_1 := bc1 BK194; have hcz20_2 := bc2 BK194; have hcz20_3 := bc3 BK194; have hcz20_4 := bc4 BK194; have hcz20_5 := bc5 BK194; have hcz20_6 := bc6 BK194; have hcz20_7 := bc7 BK194; have hcz20_8 := bc8 BK194; have hfz20_0 := fz BK194 0; have hfz20_1 := fz BK194 1; have hfz20_2 := fz BK194 2; have hfz20_3 := fz BK194 3; have hfz20_4 := fz BK194 4; have hfz20_5 := fz BK194 5; have hfz20_6 := fz BK194 6; have hfz20_7 := fz BK194 7; have hfz20_8 := fz BK194 8) | (refine goesC 25 Tryd.func35 #[.int .i64 a0_5, .int .i64 1, .int .i64 512] ?_; (with_reducible refine (fastiref46_within.calls a0_5 1 512 false _ A14.out).mono ?_); rintro e w' ⟨rfl, ⟨nd, rfl⟩⟩; refine ⟨_, rfl, ?_⟩))
   go_ret
   exact ⟨by first | rfl | (simp [errW_none, errW_some] <;> rfl) | (simp [*, errW_none, errW_some] <;> rfl), blw HB.out⟩
  subst c15
  have H1 : ((fastiref46_within.f a0_6 0 1440).bind fun t198 => (some t198)) = some r := by rw [if_pos rfl] at H; exact H
  clear H; have H := H1; clear H1; replace H := Option.bind_eq_some_iff.mp H; obtain ⟨t198, A160, H⟩ := H; replace H : (some t198) = some r := H; have A16 := Aside0.mk A160; clear A160; obtain rfl := Option.some.inj H
  go_enter Tryd.func40, Tryd.ntmps40
  go_wp2_with (first | ((with_reducible refine gate_dst (N := 1) rfl ?_); refine boxA (N := 1) #[.int .i64 a0_0, .int .i64 a0_1, .int .i64 a0_2, .int .i64 a0_3, .int .i64 a0_4, .int .i64 a0_5, .int .i64 a0_6, .int .i64 a0_7, .int .i64 a0_8] 24 ?_; intro gb194 hg w17 hbox hb; have BK194 := Aside0.mk (hbox); have GW194 := gW HB hg; have GE194 := gW HB hg; replace HB := sB HB hb; clear hb hbox hg; have hcz18_0 := bc0 BK194; have hcz18_1 := bc1 BK194; have hcz18_2 := bc2 BK194; have hcz18_3 := bc3 BK194; have hcz18_4 := bc4 BK194; have hcz18_5 := bc5 BK194; have hcz18_6 := bc6 BK194; have hcz18_7 := bc7 BK194; have hcz18_8 := bc8 BK194; have hfz18_0 := fz BK194 0; have hfz18_1 := fz BK194 1; have hfz18_2 := fz BK194 2; have hfz18_3 := fz BK194 3; have hfz18_4 := fz BK194 4; have hfz18_5 := fz BK194 5; have hfz18_6 := fz BK194 6; have hfz18_7 := fz BK194 7; have hfz18_8 := fz BK194 8) | (refine goesC 25 Tryd.func35 #[.int .i64 a0_5, .int .i64 1, .int .i64 512] ?_; (with_reducible refine (fastiref46_within.calls a0_5 1 512 true _ A14.out).mono ?_); rintro e w' ⟨rfl, ⟨nd, rfl⟩⟩; refine ⟨_, rfl, ?_⟩) | (go_at_call 35; (with_reducible refine (fastiref46_within.calls a0_6 0 1440 t198 _ A16.out).mono ?_); rintro e w' ⟨rfl, ⟨nd, rfl⟩⟩))
  go_ret
  exact ⟨by first | rfl | (simp [errW_none, errW_some] <;> rfl) | (simp [*, errW_none, errW_some] <;> rfl), blw HB.out⟩
 rw [if_neg c13] at H; have c13b0 : (a0_1 == 4) = false := beq_eq_false_iff_ne.mpr c13; have c13b1 : (a0_1 != 4) = true := bne_iff_ne.mpr c13
 by_cases c21 : a0_1 = 5
 ·rw [if_pos c21] at H
  have c21b0 : (a0_1 == 5) = true := beq_iff_eq.mpr c21; have c21b1 : (a0_1 != 5) = false := bne_eq_false_iff_eq.mpr c21; clear c21
  by_cases c22 : a0_5 = 0
  rotate_left
  ·rw [if_neg c22] at H
   have c22b0 : (a0_5 == 0) = false := beq_eq_false_iff_ne.mpr c22; have c22b1 : (a0_5 != 0) = true := bne_iff_ne.mpr c22; obtain rfl := Option.some.inj H
   go_enter Tryd.func40, Tryd.ntmps40
   go_wp2_with (first | ((with_reducible refine gate_dst (N := 1) rfl ?_); refine boxA (N := 1) #[.int .i64 a0_0, .int .i64 a0_1, .int .i64 a0_2, .int .i64 a0_3, .int .i64 a0_4, .int .i64 a0_5, .int .i64 a0_6, .int .i64 a0_7, .int .i64 a0_8] 24 ?_; intro gb194 hg w25 hbox hb; have BK194 := Aside0.mk (hbox); have GW194 := gW HB hg; have GE194 := gW HB hg; replace HB := sB HB hb; clear hb hbox hg; have hcz26_0 := bc0 BK194; have hcz26_1 := bc1 BK194; have hcz26_2 := bc2 BK194; have hcz26_3 := bc3 BK194; have hcz26_4 := bc4 BK194; have hcz26_5 := bc5 BK194; have hcz26_6 := bc6 BK194; have hcz26_7 := bc7 BK194; have hcz26_8 := bc8 BK194; have hfz26_0 := fz BK194 0; have hfz26_1 := fz BK194 1; have hfz26_2 := fz BK194 2; have hfz26_3 := fz BK194 3; have hfz26_4 := fz BK194 4; have hfz26_5 := fz BK194 5; have hfz26_6 := fz BK194 6; have hfz26_7 := fz BK194 7; have hfz26_8 := fz BK194 8))
   go_ret
   exact ⟨by first | rfl | (simp [errW_none, errW_some] <;> rfl) | (simp [*, errW_none, errW_some] <;> rfl), blw HB.out⟩
  rw [if_pos c22] at H; have c22b0 : (a0_5 == 0) = true := beq_iff_eq.mpr c22; have c22b1 : (a0_5 != 0) = false := bne_eq_false_iff_eq.mpr c22; clear c22; obtain rfl := Option.some.inj H
  go_enter Tryd.func40, Tryd.ntmps40
  go_wp2_with (first | ((with_reducible refine gate_dst (N := 1) rfl ?_); refine boxA (N := 1) #[.int .i64 a0_0, .int .i64 a0_1, .int .i64 a0_2, .int .i64 a0_3, .int .i64 a0_4, .int .i64 a0_5, .int .i64 a0_6, .int .i64 a0_7, .int .i64 a0_8] 24 ?_; intro gb194 hg w23 hbox hb; have BK194 := Aside0.mk (hbox); have GW194 := gW HB hg; have GE194 := gW HB hg; replace HB := sB HB hb; clear hb hbox hg; have hcz24_0 := bc0 BK194; have hcz24_1 := bc1 BK194; have hcz24_2 := bc2 BK194; have hcz24_3 := bc3 BK194; have hcz24_4 := bc4 BK194; have hcz24_5 := bc5 BK194; have hcz24_6 := bc6 BK194; have hcz24_7 := bc7 BK194; have hcz24_8 := bc8 BK194; have hfz24_0 := fz BK194 0; have hfz24_1 := fz BK194 1; have hfz24_2 := fz BK194 2; have hfz24_3 := fz BK194 3; have hfz24_4 := fz BK194 4; have hfz24_5 := fz BK194 5; have hfz24_6 := fz BK194 6; have hfz24_7 := fz BK194 7; have hfz24_8 := fz BK194 8))
  go_ret
  exact ⟨by first | rfl | (simp [errW_none, errW_some] <;> rfl) | (simp [*, errW_none, errW_some] <;> rfl), blw HB.out⟩
 rw [if_neg c21] at H; have c21b0 : (a0_1 == 5) = false := beq_eq_false_iff_ne.mpr c21; have c21b1 : (a0_1 != 5) = true := bne_iff_ne.mpr c21
 by_cases c27 : a0_1 = 6
 rotate_left
 ·rw [if_neg c27] at H
  have c27b0 : (a0_1 == 6) = false := beq_eq_false_iff_ne.mpr c27; have c27b1 : (a0_1 != 6) = true := bne_iff_ne.mpr c27; replace H := Option.bind_eq_some_iff.mp H; obtain ⟨t201, A350, H⟩ := H; replace H : (if t201 = true then (some (a0_6 == 0)) else (some false)) = some r := H; have A35 := Aside0.mk A350; clear A350
  by_cases c36 : t201 = true
  ·subst c36
   have H1 : (some (a0_6 == 0)) = some r := by rw [if_pos rfl] at H; exact H
   clear H; have H := H1; clear H1; obtain rfl := Option.some.inj H
   go_enter Tryd.func40, Tryd.ntmps40
   go_wp2_with (first | ((with_reducible refine gate_dst (N := 1) rfl ?_); refine boxA (N := 1) #[.int .i64 a0_0, .int .i64 a0_1, .int .i64 a0_2, .int .i64 a0_3, .int .i64 a0_4, .int .i64 a0_5, .int .i64 a0_6, .int .i64 a0_7, .int .i64 a0_8] 24 ?_; intro gb194 hg w37 hbox hb; have BK194 := Aside0.mk (hbox); have GW194 := gW HB hg; have GE194 := gW HB hg; replace HB := sB HB hb; clear hb hbox hg; have hcz38_0 := bc0 BK194; have hcz38_1 := bc1 BK194; have hcz38_2 := bc2 BK194; have hcz38_3 := bc3 BK194; have hcz38_4 := bc4 BK194; have hcz38_5 := bc5 BK194; have hcz38_6 := bc6 BK194; have hcz38_7 := bc7 BK194; have hcz38_8 := bc8 BK194; have hfz38_0 := fz BK194 0; have hfz38_1 := fz BK194 1; have hfz38_2 := fz BK194 2; have hfz38_3 := fz BK194 3; have hfz38_4 := fz BK194 4; have hfz38_5 := fz BK194 5; have hfz38_6 := fz BK194 6; have hfz38_7 := fz BK194 7; have hfz38_8 := fz BK194 8) | (refine goesC 53 Tryd.func35 #[.int .i64 a0_5, .int .i64 1, .int .i64 512] ?_; (with_reducible refine (fastiref46_within.calls a0_5 1 512 true _ A35.out).mono ?_); rintro e w' ⟨rfl, ⟨nd, rfl⟩⟩; refine ⟨_, rfl, ?_⟩))
   go_ret
   exact ⟨by first | rfl | (simp [errW_none, errW_some] <;> rfl) | (simp [*, errW_none, errW_some] <;> rfl), blw HB.out⟩
  replace c36 := Bool.eq_false_iff.mpr c36; subst c36
  have H1 : (some false) = some r := by rw [if_neg (show ¬ (false = true) by decide)] at H; exact H
  clear H; have H := H1; clear H1; obtain rfl := Option.some.inj H
  go_enter Tryd.func40, Tryd.ntmps40
  go_wp2_with (first | ((with_reducible refine gate_dst (N := 1) rfl ?_); refine boxA (N := 1) #[.int .i64 a0_0, .int .i64 a0_1, .int .i64 a0_2, .int .i64 a0_3, .int .i64 a0_4, .int .i64 a0_5, .int .i64 a0_6, .int .i64 a0_7, .int .i64 a0_8] 24 ?_; intro gb194 hg w39 hbox hb; have BK194 := Aside0.mk (hbox); have GW194 := gW HB hg; have GE194 := gW HB hg; replace HB := sB HB hb; clear hb hbox hg; have hcz40_0 := bc0 BK194; have hcz40_1 := bc1 BK194; have hcz40_2 := bc2 BK194; have hcz40_3 := bc3 BK194; have hcz40_4 := bc4 BK194; have hcz40_5 := bc5 BK194; have hcz40_6 := bc6 BK194; have hcz40_7 := bc7 BK194; have hcz40_8 := bc8 BK194; have hfz40_0 := fz BK194 0; have hfz40_1 := fz BK194 1; have hfz40_2 := fz BK194 2; have hfz40_3 := fz BK194 3; have hfz40_4 := fz BK194 4; have hfz40_5 := fz BK194 5; have hfz40_6 := fz BK194 6; have hfz40_7 := fz BK194 7; have hfz40_8 := fz BK194 8) | (refine goesC 53 Tryd.func35 #[.int .i64 a0_5, .int .i64 1, .int .i64 512] ?_; (with_reducible refine (fastiref46_within.calls a0_5 1 512 false _ A35.out).mono ?_); rintro e w' ⟨rfl, ⟨nd, rfl⟩⟩; refine ⟨_, rfl, ?_⟩))
  go_ret
  exact ⟨by first | rfl | (simp [errW_none, errW_some] <;> rfl) | (simp [*, errW_none, errW_some] <;> rfl), blw HB.out⟩
 rw [if_pos c27] at H; have c27b0 : (a0_1 == 6) = true := beq_iff_eq.mpr c27; have c27b1 : (a0_1 != 6) = false := bne_eq_false_iff_eq.mpr c27; clear c27; replace H := Option.bind_eq_some_iff.mp H; obtain ⟨t199, A280, H⟩ := H; replace H : (if t199 = true then ((fastiref46_within.f a0_6 0 15).bind fun t200 => (some t200)) else (some false)) = some r := H; have A28 := Aside0.mk A280; clear A280
 by_cases c29 : t199 = true
 rotate_left
 ·replace c29 := Bool.eq_false_iff.mpr c29
  subst c29
  have H1 : (some false) = some r := by rw [if_neg (show ¬ (false = true) by decide)] at H; exact H
  clear H; have H := H1; clear H1; obtain rfl := Option.some.inj H
  go_enter Tryd.func40, Tryd.ntmps40
  go_wp2_with (first | ((with_reducible refine gate_dst (N := 1) rfl ?_); refine boxA (N := 1) #[.int .i64 a0_0, .int .i64 a0_1, .int .i64 a0_2, .int .i64 a0_3, .int .i64 a0_4, .int .i64 a0_5, .int .i64 a0_6, .int .i64 a0_7, .int .i64 a0_8] 24 ?_; intro gb194 hg w33 hbox hb; have BK194 := Aside0.mk (hbox); have GW194 := gW HB hg; have GE194 := gW HB hg; replace HB := sB HB hb; clear hb hbox hg; have hcz34_0 := bc0 BK194; have hcz34_1 := bc1 BK194; have hcz34_2 := bc2 BK194; have hcz34_3 := bc3 BK194; have hcz34_4 := bc4 BK194; have hcz34_5 := bc5 BK194; have hcz34_6 := bc6 BK194; have hcz34_7 := bc7 BK194; have hcz34_8 := bc8 BK194; have hfz34_0 := fz BK194 0; have hfz34_1 := fz BK194 1; have hfz34_2 := fz BK194 2; have hfz34_3 := fz BK194 3; have hfz34_4 := fz BK194 4; have hfz34_5 := fz BK194 5; have hfz34_6 := fz BK194 6; have hfz34_7 := fz BK194 7; have hfz34_8 := fz BK194 8) | (refine goesC 45 Tryd.func35 #[.int .i64 a0_5, .int .i64 0, .int .i64 73048] ?_; (with_reducible refine (fastiref46_within.calls a0_5 0 73048 false _ A28.out).mono ?_); rintro e w' ⟨rfl, ⟨nd, rfl⟩⟩; refine ⟨_, rfl, ?_⟩))
  go_ret
  exact ⟨by first | rfl | (simp [errW_none, errW_some] <;> rfl) | (simp [*, errW_none, errW_some] <;> rfl), blw HB.out⟩
 subst c29
 have H1 : ((fastiref46_within.f a0_6 0 15).bind fun t200 => (some t200)) = some r := by rw [if_pos rfl] at H; exact H
 clear H; have H := H1; clear H1; replace H := Option.bind_eq_some_iff.mp H; obtain ⟨t200, A300, H⟩ := H; replace H : (some t200) = some r := H; have A30 := Aside0.mk A300; clear A300; obtain rfl := Option.some.inj H
 go_enter Tryd.func40, Tryd.ntmps40
 go_wp2_with (first | ((with_reducible refine gate_dst (N := 1) rfl ?_); refine boxA (N := 1) #[.int .i64 a0_0, .int .i64 a0_1, .int .i64 a0_2, .int .i64 a0_3, .int .i64 a0_4, .int .i64 a0_5, .int .i64 a0_6, .int .i64 a0_7, .int .i64 a0_8] 24 ?_; intro gb194 hg w31 hbox hb; have BK194 := Aside0.mk (hbox); have GW194 := gW HB hg; have GE194 := gW HB hg; replace HB := sB HB hb; clear hb hbox hg; have hcz32_0 := bc0 BK194; have hcz32_1 := bc1 BK194; have hcz32_2 := bc2 BK194; have hcz32_3 := bc3 BK194; have hcz32_4 := bc4 BK194; have hcz32_5 := bc5 BK194; have hcz32_6 := bc6 BK194; have hcz32_7 := bc7 BK194; have hcz32_8 := bc8 BK194; have hfz32_0 := fz BK194 0; have hfz32_1 := fz BK194 1; have hfz32_2 := fz BK194 2; have hfz32_3 := fz BK194 3; have hfz32_4 := fz BK194 4; have hfz32_5 := fz BK194 5; have hfz32_6 := fz BK194 6; have hfz32_7 := fz BK194 7; have hfz32_8 := fz BK194 8) | (refine goesC 45 Tryd.func35 #[.int .i64 a0_5, .int .i64 0, .int .i64 73048] ?_; (with_reducible refine (fastiref46_within.calls a0_5 0 73048 true _ A28.out).mono ?_); rintro e w' ⟨rfl, ⟨nd, rfl⟩⟩; refine ⟨_, rfl, ?_⟩) | (go_at_call 35; (with_reducible refine (fastiref46_within.calls a0_6 0 15 t200 _ A30.out).mono ?_); rintro e w' ⟨rfl, ⟨nd, rfl⟩⟩))
 go_ret
 exact ⟨by first | rfl | (simp [errW_none, errW_some] <;> rfl) | (simp [*, errW_none, errW_some] <;> rfl), blw HB.out⟩

/-! ### fastiref46_Right: function 29 -/
def fastiref46_Right.f (k : Nat) (a0_0 : Int) (a0_1 : Int) (a0_2 : Int) (a0_3 : Int) (a0_4 : Int) (a0_5 : Int) (a0_6 : Int) (a0_7 : Int) (a0_8 : Int) : Option (Bool) := (fastiref46_within.f a0_0 0 1048576).bind fun t203 => (if t203 = true then ((fastiref46_Moment.f a0_8).bind fun t204 => (if t204 = true then ((fastiref46_subject.f k a0_0 a0_1 a0_2 a0_3 a0_4 a0_5 a0_6 a0_7 a0_8).bind fun t205 => (if t205 = true then ((fastiref46_numbers.f a0_0 a0_1 a0_2 a0_3 a0_4 a0_5 a0_6 a0_7 a0_8).bind fun t206 => (some t206)) else (some false))) else (some false))) else (some false))
theorem fastiref46_Right.mono : ∀ a0 a1 a2 a3 a4 a5 a6 a7 a8 k, LeO (fastiref46_Right.f k a0 a1 a2 a3 a4 a5 a6 a7 a8) (fastiref46_Right.f (k + 1) a0 a1 a2 a3 a4 a5 a6 a7 a8) := by
  intro a0 a1 a2 a3 a4 a5 a6 a7 a8 k
  unfold fastiref46_Right.f
  repeat' first
      | (with_reducible exact fastiref46_subject.mono _ _ _ _ _ _ _ _ _ _)
      | (with_reducible exact LeO.refl _)
      | (with_reducible exact LeO.none _)
      | (with_reducible refine LeO.ite ?_ ?_)
      | (with_reducible refine LeO.bind ?_ (fun _ => ?_))
      | exact fastiref46_subject.mono _ _ _ _ _ _ _ _ _ _
      | exact LeO.none _
      | refine LeO.ite ?_ ?_
      | refine LeO.bind ?_ (fun _ => ?_)
set_option maxHeartbeats 8000000 in
set_option maxRecDepth 100000 in
theorem fastiref46_Right.calls (k : Nat) (a0_0 : Int) (a0_1 : Int) (a0_2 : Int) (a0_3 : Int) (a0_4 : Int) (a0_5 : Int) (a0_6 : Int) (a0_7 : Int) (a0_8 : Int) (r : Bool) (w : World) (h : fastiref46_Right.f k a0_0 a0_1 a0_2 a0_3 a0_4 a0_5 a0_6 a0_7 a0_8 = some r) :
    Calls Tryd.prog 29 #[.agg #[.int .i64 a0_0, .int .i64 a0_1, .int .i64 a0_2, .int .i64 a0_3, .int .i64 a0_4, .int .i64 a0_5, .int .i64 a0_6, .int .i64 a0_7, .int .i64 a0_8]] w fun e w' => e = .returned (.bool r) ∧ Below w.heap.size w w' := by
 have hu24 := Tryd.underlying24; have HB := Aside0.mk (Below.refl w.heap.size w); have H : ((fastiref46_within.f a0_0 0 1048576).bind fun t203 => (if t203 = true then ((fastiref46_Moment.f a0_8).bind fun t204 => (if t204 = true then ((fastiref46_subject.f k a0_0 a0_1 a0_2 a0_3 a0_4 a0_5 a0_6 a0_7 a0_8).bind fun t205 => (if t205 = true then ((fastiref46_numbers.f a0_0 a0_1 a0_2 a0_3 a0_4 a0_5 a0_6 a0_7 a0_8).bind fun t206 => (some t206)) else (some false))) else (some false))) else (some false))) = some r := h; clear h; replace H := Option.bind_eq_some_iff.mp H; obtain ⟨t203, A20, H⟩ := H; replace H : (if t203 = true then ((fastiref46_Moment.f a0_8).bind fun t204 => (if t204 = true then ((fastiref46_subject.f k a0_0 a0_1 a0_2 a0_3 a0_4 a0_5 a0_6 a0_7 a0_8).bind fun t205 => (if t205 = true then ((fastiref46_numbers.f a0_0 a0_1 a0_2 a0_3 a0_4 a0_5 a0_6 a0_7 a0_8).bind fun t206 => (some t206)) else (some false))) else (some false))) else (some false)) = some r := H; have A2 := Aside0.mk A20; clear A20
 by_cases c3 : t203 = true
 rotate_left
 ·replace c3 := Bool.eq_false_iff.mpr c3
  subst c3
  have H1 : (some false) = some r := by rw [if_neg (show ¬ (false = true) by decide)] at H; exact H
  clear H; have H := H1; clear H1; obtain rfl := Option.some.inj H
  go_enter Tryd.func29, Tryd.ntmps29
  go_wp2_with (first | ((with_reducible refine gate_dst (N := 1) rfl ?_); refine boxA (N := 1) #[.int .i64 a0_0, .int .i64 a0_1, .int .i64 a0_2, .int .i64 a0_3, .int .i64 a0_4, .int .i64 a0_5, .int .i64 a0_6, .int .i64 a0_7, .int .i64 a0_8] 24 ?_; intro gb202 hg w19 hbox hb; have BK202 := Aside0.mk (hbox); have GW202 := gW HB hg; have GE202 := gW HB hg; replace HB := sB HB hb; clear hb hbox hg; have hcz20_0 := bc0 BK202; have hcz20_1 := bc1 BK202; have hcz20_2 := bc2 BK202; have hcz20_3 := bc3 BK202; have hcz20_4 := bc4 BK202; have hcz20_5 := bc5 BK202; have hcz20_6 := bc6 BK202; have hcz20_7 := bc7 BK202; have hcz20_8 := bc8 BK202; have hfz20_0 := fz BK202 0; have hfz20_1 := fz BK202 1; have hfz20_2 := fz BK202 2; have hfz20_3 := fz BK202 3; have hfz20_4 := fz BK202 4; have hfz20_5 := fz BK202 5; have hfz20_6 := fz BK202 6; have hfz20_7 := fz BK202 7; have hfz20_8 := fz BK202 8) | (refine goesC 5 Tryd.func35 #[.int .i64 a0_0, .int .i64 0, .int .i64 1048576] ?_; (with_reducible refine (fastiref46_within.calls a0_0 0 1048576 false _ A2.out).mono ?_); rintro e w' ⟨rfl, ⟨nd, rfl⟩⟩; refine ⟨_, rfl, ?_⟩))
  go_ret
  exact ⟨by first | rfl | (simp [errW_none, errW_some] <;> rfl) | (simp [*, errW_none, errW_some] <;> rfl), blw HB.out⟩
 subst c3
 have H1 : ((fastiref46_Moment.f a0_8).bind fun t204 => (if t204 = true then ((fastiref46_subject.f k a0_0 a0_1 a0_2 a0_3 a0_4 a0_5 a0_6 a0_7 a0_8).bind fun t205 => (if t205 = true then ((fastiref46_numbers.f a0_0 a0_1 a0_2 a0_3 a0_4 a0_5 a0_6 a0_7 a0_8).bind fun t206 => (some t206)) else (some false))) else (some false))) = some r := by rw [if_pos rfl] at H; exact H
 clear H; have H := H1; clear H1; replace H := Option.bind_eq_some_iff.mp H; obtain ⟨t204, A40, H⟩ := H; replace H : (if t204 = true then ((fastiref46_subject.f k a0_0 a0_1 a0_2 a0_3 a0_4 a0_5 a0_6 a0_7 a0_8).bind fun t205 => (if t205 = true then ((fastiref46_numbers.f a0_0 a0_1 a0_2 a0_3 a0_4 a0_5 a0_6 a0_7 a0_8).bind fun t206 => (some t206)) else (some false))) else (some false)) = some r := H; have A4 := Aside0.mk A40; clear A40
 by_cases c5 : t204 = true
 rotate_left
 ·replace c5 := Bool.eq_false_iff.mpr c5
  subst c5
  have H1 : (some false) = some r := by rw [if_neg (show ¬ (false = true) by decide)] at H; exact H
  clear H; have H := H1; clear H1; obtain rfl := Option.some.inj H
  go_enter Tryd.func29, Tryd.ntmps29
  go_wp2_with (first | ((with_reducible refine gate_dst (N := 1) rfl ?_); refine boxA (N := 1) #[.int .i64 a0_0, .int .i64 a0_1, .int .i64 a0_2, .int .i64 a0_3, .int .i64 a0_4, .int .i64 a0_5, .int .i64 a0_6, .int .i64 a0_7, .int .i64 a0_8] 24 ?_; intro gb202 hg w17 hbox hb; have BK202 := Aside0.mk (hbox); have GW202 := gW HB hg; have GE202 := gW HB hg; replace HB := sB HB hb; clear hb hbox hg; have hcz18_0 := bc0 BK202; have hcz18_1 := bc1 BK202; have hcz18_2 := bc2 BK202; have hcz18_3 := bc3 BK202; have hcz18_4 := bc4 BK202; have hcz18_5 := bc5 BK202; have hcz18_6 := bc6 BK202; have hcz18_7 := bc7 BK202; have hcz18_8 := bc8 BK202; have hfz18_0 := fz BK202 0; have hfz18_1 := fz BK202 1; have hfz18_2 := fz BK202 2; have hfz18_3 := fz BK202 3; have hfz18_4 := fz BK202 4; have hfz18_5 := fz BK202 5; have hfz18_6 := fz BK202 6; have hfz18_7 := fz BK202 7; have hfz18_8 := fz BK202 8) | (refine goesC 5 Tryd.func35 #[.int .i64 a0_0, .int .i64 0, .int .i64 1048576] ?_; (with_reducible refine (fastiref46_within.calls a0_0 0 1048576 true _ A2.out).mono ?_); rintro e w' ⟨rfl, ⟨nd, rfl⟩⟩; refine ⟨_, rfl, ?_⟩) | (go_at_call 22; (with_reducible refine (fastiref46_Moment.calls a0_8 false _ A4.out).mono ?_); rintro e w' ⟨rfl, ⟨nd, rfl⟩⟩))
  go_ret
  exact ⟨by first | rfl | (simp [errW_none, errW_some] <;> rfl) | (simp [*, errW_none, errW_some] <;> rfl), blw HB.out⟩
 subst c5
 have H1 : ((fastiref46_subject.f k a0_0 a0_1 a0_2 a0_3 a0_4 a0_5 a0_6 a0_7 a0_8).bind fun t205 => (if t205 = true then ((fastiref46_numbers.f a0_0 a0_1 a0_2 a0_3 a0_4 a0_5 a0_6 a0_7 a0_8).bind fun t206 => (some t206)) else (some false))) = some r := by rw [if_pos rfl] at H; exact H
 clear H; have H := H1; clear H1; replace H := Option.bind_eq_some_iff.mp H; obtain ⟨t205, A60, H⟩ := H; replace H : (if t205 = true then ((fastiref46_numbers.f a0_0 a0_1 a0_2 a0_3 a0_4 a0_5 a0_6 a0_7 a0_8).bind fun t206 => (some t206)) else (some false)) = some r := H; have A6 := Aside0.mk A60; clear A60
 by_cases c7 : t205 = true
 rotate_left
 ·replace c7 := Bool.eq_false_iff.mpr c7
  subst c7
  have H1 : (some false) = some r := by rw [if_neg (show ¬ (false = true) by decide)] at H; exact H
  clear H; have H := H1; clear H1; obtain rfl := Option.some.inj H
  go_enter Tryd.func29, Tryd.ntmps29
  go_wp2_with (first | ((with_reducible refine gate_dst (N := 1) rfl ?_); refine boxA (N := 1) #[.int .i64 a0_0, .int .i64 a0_1, .int .i64 a0_2, .int .i64 a0_3, .int .i64 a0_4, .int .i64 a0_5, .int .i64 a0_6, .int .i64 a0_7, .int .i64 a0_8] 24 ?_; intro gb202 hg w14 hbox hb; have BK202 := Aside0.mk (hbox); have GW202 := gW HB hg; have GE202 := gW HB hg; replace HB := sB HB hb; clear hb hbox hg; have hcz15_0 := bc0 BK202; have hcz15_1 := bc1 BK202; have hcz15_2 := bc2 BK202; have hcz15_3 := bc3 BK202; have hcz15_4 := bc4 BK202; have hcz15_5 := bc5 BK202; have hcz15_6 := bc6 BK202; have hcz15_7 := bc7 BK202; have hcz15_8 := bc8 BK202; have hfz15_0 := fz BK202 0; have hfz15_1 := fz BK202 1; have hfz15_2 := fz BK202 2; have hfz15_3 := fz BK202 3; have hfz15_4 := fz BK202 4; have hfz15_5 := fz BK202 5; have hfz15_6 := fz BK202 6; have hfz15_7 := fz BK202 7; have hfz15_8 := fz BK202 8) | (refine goesC 5 Tryd.func35 #[.int .i64 a0_0, .int .i64 0, .int .i64 1048576] ?_; (with_reducible refine (fastiref46_within.calls a0_0 0 1048576 true _ A2.out).mono ?_); rintro e w' ⟨rfl, ⟨nd, rfl⟩⟩; refine ⟨_, rfl, ?_⟩) | (go_at_call 22; (with_reducible refine (fastiref46_Moment.calls a0_8 true _ A4.out).mono ?_); rintro e w' ⟨rfl, ⟨nd, rfl⟩⟩) | (go_at_call 39; (with_reducible refine (fastiref46_subject.calls k a0_0 a0_1 a0_2 a0_3 a0_4 a0_5 a0_6 a0_7 a0_8 false _ A6.out).mono ?_); rintro e w16 ⟨rfl, hb⟩; replace BK202 := bB BK202 hb; replace HB := sB HB hb; (try clear hb); (try clear hb2); (try clear hk); (try clear hi)))
  go_ret
  exact ⟨by first | rfl | (simp [errW_none, errW_some] <;> rfl) | (simp [*, errW_none, errW_some] <;> rfl), blw HB.out⟩
 subst c7
 have H1 : ((fastiref46_numbers.f a0_0 a0_1 a0_2 a0_3 a0_4 a0_5 a0_6 a0_7 a0_8).bind fun t206 => (some t206)) = some r := by rw [if_pos rfl] at H; exact H
 clear H; have H := H1; clear H1; replace H := Option.bind_eq_some_iff.mp H; obtain ⟨t206, A80, H⟩ := H; replace H : (some t206) = some r := H; have A8 := Aside0.mk A80; clear A80; obtain rfl := Option.some.inj H
 go_enter Tryd.func29, Tryd.ntmps29
 go_wp2_with (first | ((with_reducible refine gate_dst (N := 1) rfl ?_); refine boxA (N := 1) #[.int .i64 a0_0, .int .i64 a0_1, .int .i64 a0_2, .int .i64 a0_3, .int .i64 a0_4, .int .i64 a0_5, .int .i64 a0_6, .int .i64 a0_7, .int .i64 a0_8] 24 ?_; intro gb202 hg w9 hbox hb; have BK202 := Aside0.mk (hbox); have GW202 := gW HB hg; have GE202 := gW HB hg; replace HB := sB HB hb; clear hb hbox hg; have hcz10_0 := bc0 BK202; have hcz10_1 := bc1 BK202; have hcz10_2 := bc2 BK202; have hcz10_3 := bc3 BK202; have hcz10_4 := bc4 BK202; have hcz10_5 := bc5 BK202; have hcz10_6 := bc6 BK202; have hcz10_7 := bc7 BK202; have hcz10_8 := bc8 BK202; have hfz10_0 := fz BK202 0; have hfz10_1 := fz BK202 1; have hfz10_2 := fz BK202 2; have hfz10_3 := fz BK202 3; have hfz10_4 := fz BK202 4; have hfz10_5 := fz BK202 5; have hfz10_6 := fz BK202 6; have hfz10_7 := fz BK202 7; have hfz10_8 := fz BK202 8) | (refine goesC 5 Tryd.func35 #[.int .i64 a0_0, .int .i64 0, .int .i64 1048576] ?_; (with_reducible refine (fastiref46_within.calls a0_0 0 1048576 true _ A2.out).mono ?_); rintro e w' ⟨rfl, ⟨nd, rfl⟩⟩; refine ⟨_, rfl, ?_⟩) | (go_at_call 22; (with_reducible refine (fastiref46_Moment.calls a0_8 true _ A4.out).mono ?_); rintro e w' ⟨rfl, ⟨nd, rfl⟩⟩) | (go_at_call 39; (with_reducible refine (fastiref46_subject.calls k a0_0 a0_1 a0_2 a0_3 a0_4 a0_5 a0_6 a0_7 a0_8 true _ A6.out).mono ?_); rintro e w11 ⟨rfl, hb⟩; replace BK202 := bB BK202 hb; replace HB := sB HB hb; (try clear hb); (try clear hb2); (try clear hk); (try clear hi); have hcz12_0 := bc0 BK202; have hcz12_1 := bc1 BK202; have hcz12_2 := bc2 BK202; have hcz12_3 := bc3 BK202; have hcz12_4 := bc4 BK202; have hcz12_5 := bc5 BK202; have hcz12_6 := bc6 BK202; have hcz12_7 := bc7 BK202; have hcz12_8 := bc8 BK202; have hfz12_0 := fz BK202 0; have hfz12_1 := fz BK202 1; have hfz12_2 := fz BK202 2; have hfz12_3 := fz BK202 3; have hfz12_4 := fz BK202 4; have hfz12_5 := fz BK202 5; have hfz12_6 := fz BK202 6; have hfz12_7 := fz BK202 7; have hfz12_8 := fz BK202 8) | (go_at_call 40; (with_reducible refine (fastiref46_numbers.calls a0_0 a0_1 a0_2 a0_3 a0_4 a0_5 a0_6 a0_7 a0_8 t206 _ A8.out).mono ?_); rintro e w13 ⟨rfl, hb⟩; replace HB := sB HB hb; (try clear hb); (try clear hb2); (try clear hk); (try clear hi)))
 go_ret
 exact ⟨by first | rfl | (simp [errW_none, errW_some] <;> rfl) | (simp [*, errW_none, errW_some] <;> rfl), blw HB.out⟩

end Go.Proofs.YtebfcckaicgcfaaDoor.Q
