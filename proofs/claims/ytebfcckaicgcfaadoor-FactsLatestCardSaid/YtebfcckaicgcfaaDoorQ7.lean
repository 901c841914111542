/- Functions of the translation as plain Lean functions, and proofs that the calls do what these say; written by a program of this session round the kit's print. -/
import Derived.Test.YtebfcckaicgcfaaDoorQ0
import Derived.Test.YtebfcckaicgcfaaDoorAidB
import Derived.Test.YtebfcckaicgcfaaDoorAidC
import Derived.Test.YtebfcckaicgcfaaDoorQ6
namespace Go.Proofs.YtebfcckaicgcfaaDoor.Q
open Go.RowKit Go.Proofs.YtebfcckaicgcfaaDoorW.PrintWords Go.Proofs.YtebfcckaicgcfaaDoorW.PrintLast Go.Proofs.YtebfcckaicgcfaaDoorW.PrintMore
attribute [local go_sem] max2_int min2_int max_two min_two max_three min_three max_four min_four   -- for this text's walks alone
set_option linter.unusedVariables false
set_option linter.unusedSimpArgs false

/-! ### fastiref46_subject: function 39 -/
mutual
def fastiref46_subject.j0 : Nat → Int → Bool → Int → Int → Int → Int → Int → Int → Int → Int → Int → Option (Bool)
  | 0, _, _, _, _, _, _, _, _, _, _, _ => none
  | k + 1, x4, x5, x188000, x188001, x188002, x188003, x188004, x188005, x188006, x188007, x188008 => if x5 = true then ((fastiref46_within.f x188003 0 1023).bind fun t188 => (if t188 = true then (if x188002 = 0 then (if x188004 = 0 then (some (x188007 == 0)) else (some false)) else (some false)) else (some false))) else (if x4 = 2 then ((fastiref46_within.f x188004 0 63).bind fun t189 => (if t189 = true then (if x188002 = 0 then (if x188003 = 0 then ((fastiref46_within.f x188007 0 73048).bind fun t190 => (some t190)) else (some false)) else (some false)) else (some false))) else (if x4 = 3 then (fastiref46_subject.j1 k x4 (x4 == 3) x188000 x188001 x188002 x188003 x188004 x188005 x188006 x188007 x188008) else (fastiref46_subject.j1 k x4 (x4 == 5) x188000 x188001 x188002 x188003 x188004 x188005 x188006 x188007 x188008)))
def fastiref46_subject.j1 : Nat → Int → Bool → Int → Int → Int → Int → Int → Int → Int → Int → Int → Option (Bool)
  | 0, _, _, _, _, _, _, _, _, _, _, _ => none
  | k + 1, x4, x46, x188000, x188001, x188002, x188003, x188004, x188005, x188006, x188007, x188008 => if x46 = true then ((fastiref46_within.f x188002 0 63).bind fun t191 => (if t191 = true then (if x188004 = 0 then (if x188003 = 0 then ((fastiref46_within.f x188007 0 73048).bind fun t192 => (some t192)) else (some false)) else (some false)) else (some false))) else (if x4 = 4 then (if x188002 = 0 then (if x188004 = 0 then (if x188003 = 0 then ((fastiref46_within.f x188007 0 73048).bind fun t193 => (some t193)) else (some false)) else (some false)) else (some false)) else (some false))
end
def fastiref46_subject.f (k : Nat) (a0_0 : Int) (a0_1 : Int) (a0_2 : Int) (a0_3 : Int) (a0_4 : Int) (a0_5 : Int) (a0_6 : Int) (a0_7 : Int) (a0_8 : Int) : Option (Bool) := if a0_1 = 1 then (fastiref46_subject.j0 k a0_1 (a0_1 == 1) a0_0 a0_1 a0_2 a0_3 a0_4 a0_5 a0_6 a0_7 a0_8) else (fastiref46_subject.j0 k a0_1 (a0_1 == 6) a0_0 a0_1 a0_2 a0_3 a0_4 a0_5 a0_6 a0_7 a0_8)
theorem fastiref46_subject.mono_l : ∀ k, (∀ y0 y1 y2 y3 y4 y5 y6 y7 y8 y9 y10, LeO (fastiref46_subject.j0 k y0 y1 y2 y3 y4 y5 y6 y7 y8 y9 y10) (fastiref46_subject.j0 (k + 1) y0 y1 y2 y3 y4 y5 y6 y7 y8 y9 y10)) ∧ (∀ y0 y1 y2 y3 y4 y5 y6 y7 y8 y9 y10, LeO (fastiref46_subject.j1 k y0 y1 y2 y3 y4 y5 y6 y7 y8 y9 y10) (fastiref46_subject.j1 (k + 1) y0 y1 y2 y3 y4 y5 y6 y7 y8 y9 y10))
  | 0 => ⟨fun _ _ _ _ _ _ _ _ _ _ _ r h => by simp [fastiref46_subject.j0] at h, fun _ _ _ _ _ _ _ _ _ _ _ r h => by simp [fastiref46_subject.j1] at h⟩
  | k + 1 => by
    obtain ⟨ih0, ih1⟩ := fastiref46_subject.mono_l k
    refine ⟨?_, ?_⟩
    · intro y0 y1 y2 y3 y4 y5 y6 y7 y8 y9 y10
      unfold fastiref46_subject.j0
      repeat' first
      | (with_reducible exact ih0 _ _ _ _ _ _ _ _ _ _ _)
      | (with_reducible exact ih1 _ _ _ _ _ _ _ _ _ _ _)
      | (with_reducible exact LeO.refl _)
      | (with_reducible exact LeO.none _)
      | (with_reducible refine LeO.ite ?_ ?_)
      | (with_reducible refine LeO.bind ?_ (fun _ => ?_))
      | exact ih0 _ _ _ _ _ _ _ _ _ _ _
      | exact ih1 _ _ _ _ _ _ _ _ _ _ _
      | exact LeO.none _
      | refine LeO.ite ?_ ?_
      | refine LeO.bind ?_ (fun _ => ?_)
    · intro y0 y1 y2 y3 y4 y5 y6 y7 y8 y9 y10
      unfold fastiref46_subject.j1
      repeat' first
      | (with_reducible exact ih0 _ _ _ _ _ _ _ _ _ _ _)
      | (with_reducible exact ih1 _ _ _ _ _ _ _ _ _ _ _)
      | (with_reducible exact LeO.refl _)
      | (with_reducible exact LeO.none _)
      | (with_reducible refine LeO.ite ?_ ?_)
      | (with_reducible refine LeO.bind ?_ (fun _ => ?_))
      | exact ih0 _ _ _ _ _ _ _ _ _ _ _
      | exact ih1 _ _ _ _ _ _ _ _ _ _ _
      | exact LeO.none _
      | refine LeO.ite ?_ ?_
      | refine LeO.bind ?_ (fun _ => ?_)
theorem fastiref46_subject.mono : ∀ a0 a1 a2 a3 a4 a5 a6 a7 a8 k, LeO (fastiref46_subject.f k a0 a1 a2 a3 a4 a5 a6 a7 a8) (fastiref46_subject.f (k + 1) a0 a1 a2 a3 a4 a5 a6 a7 a8) := by
  intro a0 a1 a2 a3 a4 a5 a6 a7 a8 k
  obtain ⟨ih0, ih1⟩ := fastiref46_subject.mono_l k
  unfold fastiref46_subject.f
  repeat' first
      | (with_reducible exact ih0 _ _ _ _ _ _ _ _ _ _ _)
      | (with_reducible exact ih1 _ _ _ _ _ _ _ _ _ _ _)
      | (with_reducible exact LeO.refl _)
      | (with_reducible exact LeO.none _)
      | (with_reducible refine LeO.ite ?_ ?_)
      | (with_reducible refine LeO.bind ?_ (fun _ => ?_))
      | exact ih0 _ _ _ _ _ _ _ _ _ _ _
      | exact ih1 _ _ _ _ _ _ _ _ _ _ _
      | exact LeO.none _
      | refine LeO.ite ?_ ?_
      | refine LeO.bind ?_ (fun _ => ?_)
set_option maxHeartbeats 8000000 in
set_option maxRecDepth 100000 in
theorem fastiref46_subject.calls (k : Nat) (a0_0 : Int) (a0_1 : Int) (a0_2 : Int) (a0_3 : Int) (a0_4 : Int) (a0_5 : Int) (a0_6 : Int) (a0_7 : Int) (a0_8 : Int) (r : Bool) (w : World) (h : fastiref46_subject.f k a0_0 a0_1 a0_2 a0_3 a0_4 a0_5 a0_6 a0_7 a0_8 = some r) :
    Calls Tryd.prog 39 #[.agg #[.int .i64 a0_0, .int .i64 a0_1, .int .i64 a0_2, .int .i64 a0_3, .int .i64 a0_4, .int .i64 a0_5, .int .i64 a0_6, .int .i64 a0_7, .int .i64 a0_8]] w fun e w' => e = .returned (.bool r) ∧ Below w.heap.size w w' := by
 have hu24 := Tryd.underlying24; have HB := Aside0.mk (Below.refl w.heap.size w); have H : (if a0_1 = 1 then (fastiref46_subject.j0 k a0_1 (a0_1 == 1) a0_0 a0_1 a0_2 a0_3 a0_4 a0_5 a0_6 a0_7 a0_8) else (fastiref46_subject.j0 k a0_1 (a0_1 == 6) a0_0 a0_1 a0_2 a0_3 a0_4 a0_5 a0_6 a0_7 a0_8)) = some r := h; clear h; have HC2 := Aside0.mk H; clear H
 go_enter Tryd.func39, Tryd.ntmps39
 go_upto_if 5 with (first | ((with_reducible refine gate_dst (N := 1) rfl ?_); refine boxA (N := 1) #[.int .i64 a0_0, .int .i64 a0_1, .int .i64 a0_2, .int .i64 a0_3, .int .i64 a0_4, .int .i64 a0_5, .int .i64 a0_6, .int .i64 a0_7, .int .i64 a0_8] 24 ?_; intro gb187 hg w3 hbox hb; have BK187 := Aside0.mk (hbox); have GW187 := gW HB hg; have GE187 := gW HB hg; replace HB := sB HB hb; clear hb hbox hg; have hcz4_0 := bc0 BK187; have hcz4_1 := bc1 BK187; have hcz4_2 := bc2 BK187; have hcz4_3 := bc3 BK187; have hcz4_4 := bc4 BK187; have hcz4_5 := bc5 BK187; have hcz4_6 := bc6 BK187; have hcz4_7 := bc7 BK187; have hcz4_8 := bc8 BK187; have hfz4_0 := fz BK187 0; have hfz4_1 := fz BK187 1; have hfz4_2 := fz BK187 2; have hfz4_3 := fz BK187 3; have hfz4_4 := fz BK187 4; have hfz4_5 := fz BK187 5; have hfz4_6 := fz BK187 6; have hfz4_7 := fz BK187 7; have hfz4_8 := fz BK187 8))
 (try simp only [Act.put, List.setIfInBounds_toArray, List.set_cons_zero, List.set_cons_succ])
 go_cut [5] (fun v5 wc => ∃ (kq : Nat) (x5_1 : Bool), v5 = .bool x5_1 ∧ Aside0 (fastiref46_subject.j0 kq a0_1 x5_1 a0_0 a0_1 a0_2 a0_3 a0_4 a0_5 a0_6 a0_7 a0_8 = some r) ∧ Aside0 (kq ≤ k) ∧ Aside0 (wc.heap[gb187]? = some (.cells #[.int .i64 a0_0, .int .i64 a0_1, .int .i64 a0_2, .int .i64 a0_3, .int .i64 a0_4, .int .i64 a0_5, .int .i64 a0_6, .int .i64 a0_7, .int .i64 a0_8] 24 (0, 0))) ∧ Aside0 (Below w.heap.size w wc))
 case first =>
  have H := HC2.out; clear HC2
  by_cases c5 : a0_1 = 1
  rotate_left
  ·rw [if_neg c5] at H
   have c5b0 : (a0_1 == 1) = false := beq_eq_false_iff_ne.mpr c5; have c5b1 : (a0_1 != 1) = true := bne_iff_ne.mpr c5
   (first | rw [c5b0] | (simp only [i64_w, i32_w]; rw [c5b0]) | skip)
   have H' := Aside0.mk H; clear H
   go_wp2
   go_meet
   case rel => exact ⟨_, ((a0_1 == 6)), (by first | rfl | (simp; done) | (simp [*]; done)), H', ⟨by first | omega | exact Nat.le_refl _⟩, ⟨zk BK187.out⟩, ⟨blw HB.out⟩⟩
  rw [if_pos c5] at H; have c5b0 : (a0_1 == 1) = true := beq_iff_eq.mpr c5; have c5b1 : (a0_1 != 1) = false := bne_eq_false_iff_eq.mpr c5; clear c5
  (first | rw [c5b0] | (simp only [i64_w, i32_w]; rw [c5b0]) | skip)
  have H' := Aside0.mk H; clear H
  go_wp2
  go_meet
  case rel => exact ⟨_, ((a0_1 == 1)), (by first | rfl | (simp; done) | (simp [*]; done)), H', ⟨by first | omega | exact Nat.le_refl _⟩, ⟨zk BK187.out⟩, ⟨blw HB.out⟩⟩
 clear HC2; (try clear p2); (try clear c3); (try clear c5); (try clear c5b0); (try clear c5b1); (try clear hcz4_0); (try clear hcz4_1); (try clear hcz4_2); (try clear hcz4_3); (try clear hcz4_4); (try clear hcz4_5); (try clear hcz4_6); (try clear hcz4_7); (try clear hcz4_8); (try clear hfz4_0); (try clear hfz4_1); (try clear hfz4_2); (try clear hfz4_3); (try clear hfz4_4); (try clear hfz4_5); (try clear hfz4_6); (try clear hfz4_7); (try clear hfz4_8); obtain ⟨kq, x5_1, rfl, HA, HJ1, BK187, HB⟩ := hcut
 cases kq with
 | zero => exact absurd HA.out (by simp [fastiref46_subject.j0])
 | succ kj1 =>
   have H := HA.out; clear HA
   simp only [fastiref46_subject.j0] at H
   by_cases c6 : x5_1 = true
   · subst c6
     have H1 : ((fastiref46_within.f a0_3 0 1023).bind fun t188 => (if t188 = true then (if a0_2 = 0 then (if a0_4 = 0 then (some (a0_7 == 0)) else (some false)) else (some false)) else (some false))) = some r := by rw [if_pos rfl] at H; exact H
     clear H; have H := H1; clear H1; replace H := Option.bind_eq_some_iff.mp H; obtain ⟨t188, A70, H⟩ := H; replace H : (if t188 = true then (if a0_2 = 0 then (if a0_4 = 0 then (some (a0_7 == 0)) else (some false)) else (some false)) else (some false)) = some r := H; have A7 := Aside0.mk A70; clear A70
     by_cases c8 : t188 = true
     · subst c8
       have H1 : (if a0_2 = 0 then (if a0_4 = 0 then (some (a0_7 == 0)) else (some false)) else (some false)) = some r := by rw [if_pos rfl] at H; exact H
       clear H; have H := H1; clear H1
       by_cases c9 : a0_2 = 0
       · rw [if_pos c9] at H
         have c9b0 : (a0_2 == 0) = true := beq_iff_eq.mpr c9; have c9b1 : (a0_2 != 0) = false := bne_eq_false_iff_eq.mpr c9; clear c9
         by_cases c10 : a0_4 = 0
         · rw [if_pos c10] at H
           have c10b0 : (a0_4 == 0) = true := beq_iff_eq.mpr c10; have c10b1 : (a0_4 != 0) = false := bne_eq_false_iff_eq.mpr c10; clear c10; obtain rfl := Option.some.inj H; have hcz11_0 := bc0 BK187; have hcz11_1 := bc1 BK187; have hcz11_2 := bc2 BK187; have hcz11_3 := bc3 BK187; have hcz11_4 := bc4 BK187; have hcz11_5 := bc5 BK187; have hcz11_6 := bc6 BK187; have hcz11_7 := bc7 BK187; have hcz11_8 := bc8 BK187; have hfz11_0 := fz BK187 0; have hfz11_1 := fz BK187 1; have hfz11_2 := fz BK187 2; have hfz11_3 := fz BK187 3; have hfz11_4 := fz BK187 4; have hfz11_5 := fz BK187 5; have hfz11_6 := fz BK187 6; have hfz11_7 := fz BK187 7; have hfz11_8 := fz BK187 8
           go_wp2_with (first | (refine goesC 10 Tryd.func35 #[.int .i64 a0_3, .int .i64 0, .int .i64 1023] ?_; (with_reducible refine (fastiref46_within.calls a0_3 0 1023 true _ A7.out).mono ?_); rintro e w' ⟨rfl, ⟨nd, rfl⟩⟩; refine ⟨_, rfl, ?_⟩))
           go_ret
           exact ⟨by first | rfl | (simp [errW_none, errW_some] <;> rfl) | (simp [*, errW_none, errW_some] <;> rfl), blw HB.out⟩
         · rw [if_neg c10] at H
           have c10b0 : (a0_4 == 0) = false := beq_eq_false_iff_ne.mpr c10; have c10b1 : (a0_4 != 0) = true := bne_iff_ne.mpr c10; obtain rfl := Option.some.inj H; have hcz12_0 := bc0 BK187; have hcz12_1 := bc1 BK187; have hcz12_2 := bc2 BK187; have hcz12_3 := bc3 BK187; have hcz12_4 := bc4 BK187; have hcz12_5 := bc5 BK187; have hcz12_6 := bc6 BK187; have hcz12_7 := bc7 BK187; have hcz12_8 := bc8 BK187; have hfz12_0 := fz BK187 0; have hfz12_1 := fz BK187 1; have hfz12_2 := fz BK187 2; have hfz12_3 := fz BK187 3; have hfz12_4 := fz BK187 4; have hfz12_5 := fz BK187 5; have hfz12_6 := fz BK187 6; have hfz12_7 := fz BK187 7; have hfz12_8 := fz BK187 8
           go_wp2_with (first | (refine goesC 10 Tryd.func35 #[.int .i64 a0_3, .int .i64 0, .int .i64 1023] ?_; (with_reducible refine (fastiref46_within.calls a0_3 0 1023 true _ A7.out).mono ?_); rintro e w' ⟨rfl, ⟨nd, rfl⟩⟩; refine ⟨_, rfl, ?_⟩))
           go_ret
           exact ⟨by first | rfl | (simp [errW_none, errW_some] <;> rfl) | (simp [*, errW_none, errW_some] <;> rfl), blw HB.out⟩
       · rw [if_neg c9] at H
         have c9b0 : (a0_2 == 0) = false := beq_eq_false_iff_ne.mpr c9; have c9b1 : (a0_2 != 0) = true := bne_iff_ne.mpr c9; obtain rfl := Option.some.inj H; have hcz13_0 := bc0 BK187; have hcz13_1 := bc1 BK187; have hcz13_2 := bc2 BK187; have hcz13_3 := bc3 BK187; have hcz13_4 := bc4 BK187; have hcz13_5 := bc5 BK187; have hcz13_6 := bc6 BK187; have hcz13_7 := bc7 BK187; have hcz13_8 := bc8 BK187; have hfz13_0 := fz BK187 0; have hfz13_1 := fz BK187 1; have hfz13_2 := fz BK187 2; have hfz13_3 := fz BK187 3; have hfz13_4 := fz BK187 4; have hfz13_5 := fz BK187 5; have hfz13_6 := fz BK187 6; have hfz13_7 := fz BK187 7; have hfz13_8 := fz BK187 8
         go_wp2_with (first | (refine goesC 10 Tryd.func35 #[.int .i64 a0_3, .int .i64 0, .int .i64 1023] ?_; (with_reducible refine (fastiref46_within.calls a0_3 0 1023 true _ A7.out).mono ?_); rintro e w' ⟨rfl, ⟨nd, rfl⟩⟩; refine ⟨_, rfl, ?_⟩))
         go_ret
         exact ⟨by first | rfl | (simp [errW_none, errW_some] <;> rfl) | (simp [*, errW_none, errW_some] <;> rfl), blw HB.out⟩
     · replace c8 := Bool.eq_false_iff.mpr c8
       subst c8
       have H1 : (some false) = some r := by rw [if_neg (show ¬ (false = true) by decide)] at H; exact H
       clear H; have H := H1; clear H1; obtain rfl := Option.some.inj H; have hcz14_0 := bc0 BK187; have hcz14_1 := bc1 BK187; have hcz14_2 := bc2 BK187; have hcz14_3 := bc3 BK187; have hcz14_4 := bc4 BK187; have hcz14_5 := bc5 BK187; have hcz14_6 := bc6 BK187; have hcz14_7 := bc7 BK187; have hcz14_8 := bc8 BK187; have hfz14_0 := fz BK187 0; have hfz14_1 := fz BK187 1; have hfz14_2 := fz BK187 2; have hfz14_3 := fz BK187 3; have hfz14_4 := fz BK187 4; have hfz14_5 := fz BK187 5; have hfz14_6 := fz BK187 6; have hfz14_7 := fz BK187 7; have hfz14_8 := fz BK187 8
       go_wp2_with (first | (refine goesC 10 Tryd.func35 #[.int .i64 a0_3, .int .i64 0, .int .i64 1023] ?_; (with_reducible refine (fastiref46_within.calls a0_3 0 1023 false _ A7.out).mono ?_); rintro e w' ⟨rfl, ⟨nd, rfl⟩⟩; refine ⟨_, rfl, ?_⟩))
       go_ret
       exact ⟨by first | rfl | (simp [errW_none, errW_some] <;> rfl) | (simp [*, errW_none, errW_some] <;> rfl), blw HB.out⟩
   · replace c6 := Bool.eq_false_iff.mpr c6
     subst c6
     have H1 : (if a0_1 = 2 then ((fastiref46_within.f a0_4 0 63).bind fun t189 => (if t189 = true then (if a0_2 = 0 then (if a0_3 = 0 then ((fastiref46_within.f a0_7 0 73048).bind fun t190 => (some t190)) else (some false)) else (some false)) else (some false))) else (if a0_1 = 3 then (fastiref46_subject.j1 kj1 a0_1 (a0_1 == 3) a0_0 a0_1 a0_2 a0_3 a0_4 a0_5 a0_6 a0_7 a0_8) else (fastiref46_subject.j1 kj1 a0_1 (a0_1 == 5) a0_0 a0_1 a0_2 a0_3 a0_4 a0_5 a0_6 a0_7 a0_8))) = some r := by rw [if_neg (show ¬ (false = true) by decide)] at H; exact H
     clear H; have H := H1; clear H1
     by_cases c15 : a0_1 = 2
     · rw [if_pos c15] at H
       have c15b0 : (a0_1 == 2) = true := beq_iff_eq.mpr c15; have c15b1 : (a0_1 != 2) = false := bne_eq_false_iff_eq.mpr c15; clear c15; replace H := Option.bind_eq_some_iff.mp H; obtain ⟨t189, A160, H⟩ := H; replace H : (if t189 = true then (if a0_2 = 0 then (if a0_3 = 0 then ((fastiref46_within.f a0_7 0 73048).bind fun t190 => (some t190)) else (some false)) else (some false)) else (some false)) = some r := H; have A16 := Aside0.mk A160; clear A160
       by_cases c17 : t189 = true
       · subst c17
         have H1 : (if a0_2 = 0 then (if a0_3 = 0 then ((fastiref46_within.f a0_7 0 73048).bind fun t190 => (some t190)) else (some false)) else (some false)) = some r := by rw [if_pos rfl] at H; exact H
         clear H; have H := H1; clear H1
         by_cases c18 : a0_2 = 0
         · rw [if_pos c18] at H
           have c18b0 : (a0_2 == 0) = true := beq_iff_eq.mpr c18; have c18b1 : (a0_2 != 0) = false := bne_eq_false_iff_eq.mpr c18; clear c18
           by_cases c19 : a0_3 = 0
           · rw [if_pos c19] at H
             have c19b0 : (a0_3 == 0) = true := beq_iff_eq.mpr c19; have c19b1 : (a0_3 != 0) = false := bne_eq_false_iff_eq.mpr c19; clear c19; replace H := Option.bind_eq_some_iff.mp H; obtain ⟨t190, A200, H⟩ := H; replace H : (some t190) = some r := H; have A20 := Aside0.mk A200; clear A200; obtain rfl := Option.some.inj H; have hcz21_0 := bc0 BK187; have hcz21_1 := bc1 BK187; have hcz21_2 := bc2 BK187; have hcz21_3 := bc3 BK187; have hcz21_4 := bc4 BK187; have hcz21_5 := bc5 BK187; have hcz21_6 := bc6 BK187; have hcz21_7 := bc7 BK187; have hcz21_8 := bc8 BK187; have hfz21_0 := fz BK187 0; have hfz21_1 := fz BK187 1; have hfz21_2 := fz BK187 2; have hfz21_3 := fz BK187 3; have hfz21_4 := fz BK187 4; have hfz21_5 := fz BK187 5; have hfz21_6 := fz BK187 6; have hfz21_7 := fz BK187 7; have hfz21_8 := fz BK187 8
             go_wp2_with (first | (refine goesC 30 Tryd.func35 #[.int .i64 a0_4, .int .i64 0, .int .i64 63] ?_; (with_reducible refine (fastiref46_within.calls a0_4 0 63 true _ A16.out).mono ?_); rintro e w' ⟨rfl, ⟨nd, rfl⟩⟩; refine ⟨_, rfl, ?_⟩) | (go_at_call 35; (with_reducible refine (fastiref46_within.calls a0_7 0 73048 t190 _ A20.out).mono ?_); rintro e w' ⟨rfl, ⟨nd, rfl⟩⟩))
             go_ret
             exact ⟨by first | rfl | (simp [errW_none, errW_some] <;> rfl) | (simp [*, errW_none, errW_some] <;> rfl), blw HB.out⟩
           · rw [if_neg c19] at H
             have c19b0 : (a0_3 == 0) = false := beq_eq_false_iff_ne.mpr c19; have c19b1 : (a0_3 != 0) = true := bne_iff_ne.mpr c19; obtain rfl := Option.some.inj H; have hcz22_0 := bc0 BK187; have hcz22_1 := bc1 BK187; have hcz22_2 := bc2 BK187; have hcz22_3 := bc3 BK187; have hcz22_4 := bc4 BK187; have hcz22_5 := bc5 BK187; have hcz22_6 := bc6 BK187; have hcz22_7 := bc7 BK187; have hcz22_8 := bc8 BK187; have hfz22_0 := fz BK187 0; have hfz22_1 := fz BK187 1; have hfz22_2 := fz BK187 2; have hfz22_3 := fz BK187 3; have hfz22_4 := fz BK187 4; have hfz22_5 := fz BK187 5; have hfz22_6 := fz BK187 6; have hfz22_7 := fz BK187 7; have hfz22_8 := fz BK187 8
             go_wp2_with (first | (refine goesC 30 Tryd.func35 #[.int .i64 a0_4, .int .i64 0, .int .i64 63] ?_; (with_reducible refine (fastiref46_within.calls a0_4 0 63 true _ A16.out).mono ?_); rintro e w' ⟨rfl, ⟨nd, rfl⟩⟩; refine ⟨_, rfl, ?_⟩))
             go_ret
             exact ⟨by first | rfl | (simp [errW_none, errW_some] <;> rfl) | (simp [*, errW_none, errW_some] <;> rfl), blw HB.out⟩
         · rw [if_neg c18] at H
           have c18b0 : (a0_2 == 0) = false := beq_eq_false_iff_ne.mpr c18; have c18b1 : (a0_2 != 0) = true := bne_iff_ne.mpr c18; obtain rfl := Option.some.inj H; have hcz23_0 := bc0 BK187; have hcz23_1 := bc1 BK187; have hcz23_2 := bc2 BK187; have hcz23_3 := bc3 BK187; have hcz23_4 := bc4 BK187; have hcz23_5 := bc5 BK187; have hcz23_6 := bc6 BK187; have hcz23_7 := bc7 BK187; have hcz23_8 := bc8 BK187; have hfz23_0 := fz BK187 0; have hfz23_1 := fz BK187 1; have hfz23_2 := fz BK187 2; have hfz23_3 := fz BK187 3; have hfz23_4 := fz BK187 4; have hfz23_5 := fz BK187 5; have hfz23_6 := fz BK187 6; have hfz23_7 := fz BK187 7; have hfz23_8 := fz BK187 8
           go_wp2_with (first | (refine goesC 30 Tryd.func35 #[.int .i64 a0_4, .int .i64 0, .int .i64 63] ?_; (with_reducible refine (fastiref46_within.calls a0_4 0 63 true _ A16.out).mono ?_); rintro e w' ⟨rfl, ⟨nd, rfl⟩⟩; refine ⟨_, rfl, ?_⟩))
           go_ret
           exact ⟨by first | rfl | (simp [errW_none, errW_some] <;> rfl) | (simp [*, errW_none, errW_some] <;> rfl), blw HB.out⟩
       · replace c17 := Bool.eq_false_iff.mpr c17
         subst c17
         have H1 : (some false) = some r := by rw [if_neg (show ¬ (false = true) by decide)] at H; exact H
         clear H; have H := H1; clear H1; obtain rfl := Option.some.inj H; have hcz24_0 := bc0 BK187; have hcz24_1 := bc1 BK187; have hcz24_2 := bc2 BK187; have hcz24_3 := bc3 BK187; have hcz24_4 := bc4 BK187; have hcz24_5 := bc5 BK187; have hcz24_6 := bc6 BK187; have hcz24_7 := bc7 BK187; have hcz24_8 := bc8 BK187; have hfz24_0 := fz BK187 0; have hfz24_1 := fz BK187 1; have hfz24_2 := fz BK187 2; have hfz24_3 := fz BK187 3; have hfz24_4 := fz BK187 4; have hfz24_5 := fz BK187 5; have hfz24_6 := fz BK187 6; have hfz24_7 := fz BK187 7; have hfz24_8 := fz BK187 8
         go_wp2_with (first | (refine goesC 30 Tryd.func35 #[.int .i64 a0_4, .int .i64 0, .int .i64 63] ?_; (with_reducible refine (fastiref46_within.calls a0_4 0 63 false _ A16.out).mono ?_); rintro e w' ⟨rfl, ⟨nd, rfl⟩⟩; refine ⟨_, rfl, ?_⟩))
         go_ret
         exact ⟨by first | rfl | (simp [errW_none, errW_some] <;> rfl) | (simp [*, errW_none, errW_some] <;> rfl), blw HB.out⟩
     · rw [if_neg c15] at H
       have c15b0 : (a0_1 == 2) = false := beq_eq_false_iff_ne.mpr c15; have c15b1 : (a0_1 != 2) = true := bne_iff_ne.mpr c15; have HC25 := Aside0.mk H; clear H
       go_upto_if 46 with (fail)
       go_cut [46] (fun v46 wc => ∃ (kq : Nat) (x46_24 : Bool), v46 = .bool x46_24 ∧ Aside0 (fastiref46_subject.j1 kq a0_1 x46_24 a0_0 a0_1 a0_2 a0_3 a0_4 a0_5 a0_6 a0_7 a0_8 = some r) ∧ Aside0 (kq ≤ kj1) ∧ Aside0 (wc.heap[gb187]? = some (.cells #[.int .i64 a0_0, .int .i64 a0_1, .int .i64 a0_2, .int .i64 a0_3, .int .i64 a0_4, .int .i64 a0_5, .int .i64 a0_6, .int .i64 a0_7, .int .i64 a0_8] 24 (0, 0))) ∧ Aside0 (Below w.heap.size w wc))
       case first =>
         have H := HC25.out; clear HC25
         by_cases c26 : a0_1 = 3
         · rw [if_pos c26] at H
           have c26b0 : (a0_1 == 3) = true := beq_iff_eq.mpr c26; have c26b1 : (a0_1 != 3) = false := bne_eq_false_iff_eq.mpr c26; clear c26
           (first | rw [c26b0] | (simp only [i64_w, i32_w]; rw [c26b0]) | skip)
           have H' := Aside0.mk H; clear H
           go_wp2
           go_meet
           case rel => exact ⟨_, ((a0_1 == 3)), (by first | rfl | (simp; done) | (simp [*]; done)), H', ⟨by have := HJ1.out; first | omega | exact Nat.le_refl _⟩, ⟨zk BK187.out⟩, ⟨blw HB.out⟩⟩
         · rw [if_neg c26] at H
           have c26b0 : (a0_1 == 3) = false := beq_eq_false_iff_ne.mpr c26; have c26b1 : (a0_1 != 3) = true := bne_iff_ne.mpr c26
           (first | rw [c26b0] | (simp only [i64_w, i32_w]; rw [c26b0]) | skip)
           have H' := Aside0.mk H; clear H
           go_wp2
           go_meet
           case rel => exact ⟨_, ((a0_1 == 5)), (by first | rfl | (simp; done) | (simp [*]; done)), H', ⟨by have := HJ1.out; first | omega | exact Nat.le_refl _⟩, ⟨zk BK187.out⟩, ⟨blw HB.out⟩⟩
       case rest =>
         clear HC25
         (try clear c1); (try clear c2); (try clear p2); (try clear c3); (try clear c5); (try clear c5b0); (try clear c5b1); (try clear c6); (try clear c8); (try clear c9); (try clear c9b0); (try clear c9b1); (try clear c10); (try clear c10b0); (try clear c10b1); (try clear c15); (try clear c15b0); (try clear c15b1); (try clear c17); (try clear c18); (try clear c18b0); (try clear c18b1); (try clear c19); (try clear c19b0); (try clear c19b1); (try clear c26); (try clear c26b0); (try clear c26b1); (try clear hcz11_0); (try clear hcz11_1); (try clear hcz11_2); (try clear hcz11_3); (try clear hcz11_4); (try clear hcz11_5); (try clear hcz11_6); (try clear hcz11_7); (try clear hcz11_8); (try clear hcz12_0); (try clear hcz12_1); (try clear hcz12_2); (try clear hcz12_3); (try clear hcz12_4); (try clear hcz12_5); (try clear hcz12_6); (try clear hcz12_7); (try clear hcz12_8); (try clear hcz13_0); (try clear hcz13_1); (try clear hcz13_2); (try clear hcz13_3); (try clear hcz13_4); (try clear hcz13_5); (try clear hcz13_6); (try clear hcz13_7); (try clear hcz13_8); (try clear hcz14_0); (try clear hcz14_1); (try clear hcz14_2); (try clear hcz14_3); (try clear hcz14_4); (try clear hcz14_5); (try clear hcz14_6); (try clear hcz14_7); (try clear hcz14_8); (try clear hcz21_0); (try clear hcz21_1); (try clear hcz21_2); (try clear hcz21_3); (try clear hcz21_4); (try clear hcz21_5); (try clear hcz21_6); (try clear hcz21_7); (try clear hcz21_8); (try clear hcz22_0); (try clear hcz22_1); (try clear hcz22_2); (try clear hcz22_3); (try clear hcz22_4); (try clear hcz22_5); (try clear hcz22_6); (try clear hcz22_7); (try clear hcz22_8); (try clear hcz23_0); (try clear hcz23_1); (try clear hcz23_2); (try clear hcz23_3); (try clear hcz23_4); (try clear hcz23_5); (try clear hcz23_6); (try clear hcz23_7); (try clear hcz23_8); (try clear hcz24_0); (try clear hcz24_1); (try clear hcz24_2); (try clear hcz24_3); (try clear hcz24_4); (try clear hcz24_5); (try clear hcz24_6); (try clear hcz24_7); (try clear hcz24_8); (try clear hcz4_0); (try clear hcz4_1); (try clear hcz4_2); (try clear hcz4_3); (try clear hcz4_4); (try clear hcz4_5); (try clear hcz4_6); (try clear hcz4_7); (try clear hcz4_8); (try clear hfz11_0); (try clear hfz11_1); (try clear hfz11_2); (try clear hfz11_3); (try clear hfz11_4); (try clear hfz11_5); (try clear hfz11_6); (try clear hfz11_7); (try clear hfz11_8); (try clear hfz12_0); (try clear hfz12_1); (try clear hfz12_2); (try clear hfz12_3); (try clear hfz12_4); (try clear hfz12_5); (try clear hfz12_6); (try clear hfz12_7); (try clear hfz12_8); (try clear hfz13_0); (try clear hfz13_1); (try clear hfz13_2); (try clear hfz13_3); (try clear hfz13_4); (try clear hfz13_5); (try clear hfz13_6); (try clear hfz13_7); (try clear hfz13_8); (try clear hfz14_0); (try clear hfz14_1); (try clear hfz14_2); (try clear hfz14_3); (try clear hfz14_4); (try clear hfz14_5); (try clear hfz14_6); (try clear hfz14_7); (try clear hfz14_8); (try clear hfz21_0); (try clear hfz21_1); (try clear hfz21_2); (try clear hfz21_3); (try clear hfz21_4); (try clear hfz21_5); (try clear hfz21_6); (try clear hfz21_7); (try clear hfz21_8); (try clear hfz22_0); (try clear hfz22_1); (try clear hfz22_2); (try clear hfz22_3); (try clear hfz22_4); (try clear hfz22_5); (try clear hfz22_6); (try clear hfz22_7); (try clear hfz22_8); (try clear hfz23_0); (try clear hfz23_1); (try clear hfz23_2); (try clear hfz23_3); (try clear hfz23_4); (try clear hfz23_5); (try clear hfz23_6); (try clear hfz23_7); (try clear hfz23_8); (try clear hfz24_0); (try clear hfz24_1); (try clear hfz24_2); (try clear hfz24_3); (try clear hfz24_4); (try clear hfz24_5); (try clear hfz24_6); (try clear hfz24_7); (try clear hfz24_8); (try clear hfz4_0); (try clear hfz4_1); (try clear hfz4_2); (try clear hfz4_3); (try clear hfz4_4); (try clear hfz4_5); (try clear hfz4_6); (try clear hfz4_7); (try clear hfz4_8); (try clear p2)
         obtain ⟨kq, x46_24, rfl, HA, HJ24, BK187, HB⟩ := hcut
         cases kq with
         | zero => exact absurd HA.out (by simp [fastiref46_subject.j1])
         | succ kj24 =>
           have H := HA.out; clear HA
           simp only [fastiref46_subject.j1] at H
           by_cases c27 : x46_24 = true
           · subst c27
             have H1 : ((fastiref46_within.f a0_2 0 63).bind fun t191 => (if t191 = true then (if a0_4 = 0 then (if a0_3 = 0 then ((fastiref46_within.f a0_7 0 73048).bind fun t192 => (some t192)) else (some false)) else (some false)) else (some false))) = some r := by rw [if_pos rfl] at H; exact H
             clear H; have H := H1; clear H1; replace H := Option.bind_eq_some_iff.mp H; obtain ⟨t191, A280, H⟩ := H; replace H : (if t191 = true then (if a0_4 = 0 then (if a0_3 = 0 then ((fastiref46_within.f a0_7 0 73048).bind fun t192 => (some t192)) else (some false)) else (some false)) else (some false)) = some r := H; have A28 := Aside0.mk A280; clear A280
             by_cases c29 : t191 = true
             · subst c29
               have H1 : (if a0_4 = 0 then (if a0_3 = 0 then ((fastiref46_within.f a0_7 0 73048).bind fun t192 => (some t192)) else (some false)) else (some false)) = some r := by rw [if_pos rfl] at H; exact H
               clear H; have H := H1; clear H1
               by_cases c30 : a0_4 = 0
               · rw [if_pos c30] at H
                 have c30b0 : (a0_4 == 0) = true := beq_iff_eq.mpr c30; have c30b1 : (a0_4 != 0) = false := bne_eq_false_iff_eq.mpr c30; clear c30
                 by_cases c31 : a0_3 = 0
                 · rw [if_pos c31] at H
                   have c31b0 : (a0_3 == 0) = true := beq_iff_eq.mpr c31; have c31b1 : (a0_3 != 0) = false := bne_eq_false_iff_eq.mpr c31; clear c31; replace H := Option.bind_eq_some_iff.mp H; obtain ⟨t192, A320, H⟩ := H; replace H : (some t192) = some r := H; have A32 := Aside0.mk A320; clear A320; obtain rfl := Option.some.inj H; have hcz33_0 := bc0 BK187; have hcz33_1 := bc1 BK187; have hcz33_2 := bc2 BK187; have hcz33_3 := bc3 BK187; have hcz33_4 := bc4 BK187; have hcz33_5 := bc5 BK187; have hcz33_6 := bc6 BK187; have hcz33_7 := bc7 BK187; have hcz33_8 := bc8 BK187; have hfz33_0 := fz BK187 0; have hfz33_1 := fz BK187 1; have hfz33_2 := fz BK187 2; have hfz33_3 := fz BK187 3; have hfz33_4 := fz BK187 4; have hfz33_5 := fz BK187 5; have hfz33_6 := fz BK187 6; have hfz33_7 := fz BK187 7; have hfz33_8 := fz BK187 8
                   go_wp2_with (first | (refine goesC 51 Tryd.func35 #[.int .i64 a0_2, .int .i64 0, .int .i64 63] ?_; (with_reducible refine (fastiref46_within.calls a0_2 0 63 true _ A28.out).mono ?_); rintro e w' ⟨rfl, ⟨nd, rfl⟩⟩; refine ⟨_, rfl, ?_⟩) | (go_at_call 35; (with_reducible refine (fastiref46_within.calls a0_7 0 73048 t192 _ A32.out).mono ?_); rintro e w' ⟨rfl, ⟨nd, rfl⟩⟩))
                   go_ret
                   exact ⟨by first | rfl | (simp [errW_none, errW_some] <;> rfl) | (simp [*, errW_none, errW_some] <;> rfl), blw HB.out⟩
                 · rw [if_neg c31] at H
                   have c31b0 : (a0_3 == 0) = false := beq_eq_false_iff_ne.mpr c31; have c31b1 : (a0_3 != 0) = true := bne_iff_ne.mpr c31; obtain rfl := Option.some.inj H; have hcz34_0 := bc0 BK187; have hcz34_1 := bc1 BK187; have hcz34_2 := bc2 BK187; have hcz34_3 := bc3 BK187; have hcz34_4 := bc4 BK187; have hcz34_5 := bc5 BK187; have hcz34_6 := bc6 BK187; have hcz34_7 := bc7 BK187; have hcz34_8 := bc8 BK187; have hfz34_0 := fz BK187 0; have hfz34_1 := fz BK187 1; have hfz34_2 := fz BK187 2; have hfz34_3 := fz BK187 3; have hfz34_4 := fz BK187 4; have hfz34_5 := fz BK187 5; have hfz34_6 := fz BK187 6; have hfz34_7 := fz BK187 7; have hfz34_8 := fz BK187 8
                   go_wp2_with (first | (refine goesC 51 Tryd.func35 #[.int .i64 a0_2, .int .i64 0, .int .i64 63] ?_; (with_reducible refine (fastiref46_within.calls a0_2 0 63 true _ A28.out).mono ?_); rintro e w' ⟨rfl, ⟨nd, rfl⟩⟩; refine ⟨_, rfl, ?_⟩))
                   go_ret
                   exact ⟨by first | rfl | (simp [errW_none, errW_some] <;> rfl) | (simp [*, errW_none, errW_some] <;> rfl), blw HB.out⟩
               · rw [if_neg c30] at H
                 have c30b0 : (a0_4 == 0) = false := beq_eq_false_iff_ne.mpr c30; have c30b1 : (a0_4 != 0) = true := bne_iff_ne.mpr c30; obtain rfl := Option.some.inj H; have hcz35_0 := bc0 BK187; have hcz35_1 := bc1 BK187; have hcz35_2 := bc2 BK187; have hcz35_3 := bc3 BK187; have hcz35_4 := bc4 BK187; have hcz35_5 := bc5 BK187; have hcz35_6 := bc6 BK187; have hcz35_7 := bc7 BK187; have hcz35_8 := bc8 BK187; have hfz35_0 := fz BK187 0; have hfz35_1 := fz BK187 1; have hfz35_2 := fz BK187 2; have hfz35_3 := fz BK187 3; have hfz35_4 := fz BK187 4; have hfz35_5 := fz BK187 5; have hfz35_6 := fz BK187 6; have hfz35_7 := fz BK187 7; have hfz35_8 := fz BK187 8
                 go_wp2_with (first | (refine goesC 51 Tryd.func35 #[.int .i64 a0_2, .int .i64 0, .int .i64 63] ?_; (with_reducible refine (fastiref46_within.calls a0_2 0 63 true _ A28.out).mono ?_); rintro e w' ⟨rfl, ⟨nd, rfl⟩⟩; refine ⟨_, rfl, ?_⟩))
                 go_ret
                 exact ⟨by first | rfl | (simp [errW_none, errW_some] <;> rfl) | (simp [*, errW_none, errW_some] <;> rfl), blw HB.out⟩
             · replace c29 := Bool.eq_false_iff.mpr c29
               subst c29
               have H1 : (some false) = some r := by rw [if_neg (show ¬ (false = true) by decide)] at H; exact H
               clear H; have H := H1; clear H1; obtain rfl := Option.some.inj H; have hcz36_0 := bc0 BK187; have hcz36_1 := bc1 BK187; have hcz36_2 := bc2 BK187; have hcz36_3 := bc3 BK187; have hcz36_4 := bc4 BK187; have hcz36_5 := bc5 BK187; have hcz36_6 := bc6 BK187; have hcz36_7 := bc7 BK187; have hcz36_8 := bc8 BK187; have hfz36_0 := fz BK187 0; have hfz36_1 := fz BK187 1; have hfz36_2 := fz BK187 2; have hfz36_3 := fz BK187 3; have hfz36_4 := fz BK187 4; have hfz36_5 := fz BK187 5; have hfz36_6 := fz BK187 6; have hfz36_7 := fz BK187 7; have hfz36_8 := fz BK187 8
               go_wp2_with (first | (refine goesC 51 Tryd.func35 #[.int .i64 a0_2, .int .i64 0, .int .i64 63] ?_; (with_reducible refine (fastiref46_within.calls a0_2 0 63 false _ A28.out).mono ?_); rintro e w' ⟨rfl, ⟨nd, rfl⟩⟩; refine ⟨_, rfl, ?_⟩))
               go_ret
               exact ⟨by first | rfl | (simp [errW_none, errW_some] <;> rfl) | (simp [*, errW_none, errW_some] <;> rfl), blw HB.out⟩
           · replace c27 := Bool.eq_false_iff.mpr c27
             subst c27
             have H1 : (if a0_1 = 4 then (if a0_2 = 0 then (if a0_4 = 0 then (if a0_3 = 0 then ((fastiref46_within.f a0_7 0 73048).bind fun t193 => (some t193)) else (some false)) else (some false)) else (some false)) else (some false)) = some r := by rw [if_neg (show ¬ (false = true) by decide)] at H; exact H
             clear H; have H := H1; clear H1
             by_cases c37 : a0_1 = 4
             · rw [if_pos c37] at H
               have c37b0 : (a0_1 == 4) = true := beq_iff_eq.mpr c37; have c37b1 : (a0_1 != 4) = false := bne_eq_false_iff_eq.mpr c37; clear c37
               by_cases c38 : a0_2 = 0
               · rw [if_pos c38] at H
                 have c38b0 : (a0_2 == 0) = true := beq_iff_eq.mpr c38; have c38b1 : (a0_2 != 0) = false := bne_eq_false_iff_eq.mpr c38; clear c38
                 by_cases c39 : a0_4 = 0
                 · rw [if_pos c39] at H
                   have c39b0 : (a0_4 == 0) = true := beq_iff_eq.mpr c39; have c39b1 : (a0_4 != 0) = false := bne_eq_false_iff_eq.mpr c39; clear c39
                   by_cases c40 : a0_3 = 0
                   · rw [if_pos c40] at H
                     have c40b0 : (a0_3 == 0) = true := beq_iff_eq.mpr c40; have c40b1 : (a0_3 != 0) = false := bne_eq_false_iff_eq.mpr c40; clear c40; replace H := Option.bind_eq_some_iff.mp H; obtain ⟨t193, A410, H⟩ := H; replace H : (some t193) = some r := H; have A41 := Aside0.mk A410; clear A410; obtain rfl := Option.some.inj H; have hcz42_0 := bc0 BK187; have hcz42_1 := bc1 BK187; have hcz42_2 := bc2 BK187; have hcz42_3 := bc3 BK187; have hcz42_4 := bc4 BK187; have hcz42_5 := bc5 BK187; have hcz42_6 := bc6 BK187; have hcz42_7 := bc7 BK187; have hcz42_8 := bc8 BK187; have hfz42_0 := fz BK187 0; have hfz42_1 := fz BK187 1; have hfz42_2 := fz BK187 2; have hfz42_3 := fz BK187 3; have hfz42_4 := fz BK187 4; have hfz42_5 := fz BK187 5; have hfz42_6 := fz BK187 6; have hfz42_7 := fz BK187 7; have hfz42_8 := fz BK187 8
                     go_wp2_with (first | (go_at_call 35; (with_reducible refine (fastiref46_within.calls a0_7 0 73048 t193 _ A41.out).mono ?_); rintro e w' ⟨rfl, ⟨nd, rfl⟩⟩))
                     go_ret
                     exact ⟨by first | rfl | (simp [errW_none, errW_some] <;> rfl) | (simp [*, errW_none, errW_some] <;> rfl), blw HB.out⟩
                   · rw [if_neg c40] at H
                     have c40b0 : (a0_3 == 0) = false := beq_eq_false_iff_ne.mpr c40; have c40b1 : (a0_3 != 0) = true := bne_iff_ne.mpr c40; obtain rfl := Option.some.inj H; have hcz43_0 := bc0 BK187; have hcz43_1 := bc1 BK187; have hcz43_2 := bc2 BK187; have hcz43_3 := bc3 BK187; have hcz43_4 := bc4 BK187; have hcz43_5 := bc5 BK187; have hcz43_6 := bc6 BK187; have hcz43_7 := bc7 BK187; have hcz43_8 := bc8 BK187; have hfz43_0 := fz BK187 0; have hfz43_1 := fz BK187 1; have hfz43_2 := fz BK187 2; have hfz43_3 := fz BK187 3; have hfz43_4 := fz BK187 4; have hfz43_5 := fz BK187 5; have hfz43_6 := fz BK187 6; have hfz43_7 := fz BK187 7; have hfz43_8 := fz BK187 8
                     go_wp2
                     go_ret
                     exact ⟨by first | rfl | (simp [errW_none, errW_some] <;> rfl) | (simp [*, errW_none, errW_some] <;> rfl), blw HB.out⟩
                 · rw [if_neg c39] at H
                   have c39b0 : (a0_4 == 0) = false := beq_eq_false_iff_ne.mpr c39; have c39b1 : (a0_4 != 0) = true := bne_iff_ne.mpr c39; obtain rfl := Option.some.inj H; have hcz44_0 := bc0 BK187; have hcz44_1 := bc1 BK187; have hcz44_2 := bc2 BK187; have hcz44_3 := bc3 BK187; have hcz44_4 := bc4 BK187; have hcz44_5 := bc5 BK187; have hcz44_6 := bc6 BK187; have hcz44_7 := bc7 BK187; have hcz44_8 := bc8 BK187; have hfz44_0 := fz BK187 0; have hfz44_1 := fz BK187 1; have hfz44_2 := fz BK187 2; have hfz44_3 := fz BK187 3; have hfz44_4 := fz BK187 4; have hfz44_5 := fz BK187 5; have hfz44_6 := fz BK187 6; have hfz44_7 := fz BK187 7; have hfz44_8 := fz BK187 8
                   go_wp2
                   go_ret
                   exact ⟨by first | rfl | (simp [errW_none, errW_some] <;> rfl) | (simp [*, errW_none, errW_some] <;> rfl), blw HB.out⟩
               · rw [if_neg c38] at H
                 have c38b0 : (a0_2 == 0) = false := beq_eq_false_iff_ne.mpr c38; have c38b1 : (a0_2 != 0) = true := bne_iff_ne.mpr c38; obtain rfl := Option.some.inj H; have hcz45_0 := bc0 BK187; have hcz45_1 := bc1 BK187; have hcz45_2 := bc2 BK187; have hcz45_3 := bc3 BK187; have hcz45_4 := bc4 BK187; have hcz45_5 := bc5 BK187; have hcz45_6 := bc6 BK187; have hcz45_7 := bc7 BK187; have hcz45_8 := bc8 BK187; have hfz45_0 := fz BK187 0; have hfz45_1 := fz BK187 1; have hfz45_2 := fz BK187 2; have hfz45_3 := fz BK187 3; have hfz45_4 := fz BK187 4; have hfz45_5 := fz BK187 5; have hfz45_6 := fz BK187 6; have hfz45_7 := fz BK187 7; have hfz45_8 := fz BK187 8
                 go_wp2
                 go_ret
                 exact ⟨by first | rfl | (simp [errW_none, errW_some] <;> rfl) | (simp [*, errW_none, errW_some] <;> rfl), blw HB.out⟩
             · rw [if_neg c37] at H
               have c37b0 : (a0_1 == 4) = false := beq_eq_false_iff_ne.mpr c37; have c37b1 : (a0_1 != 4) = true := bne_iff_ne.mpr c37; obtain rfl := Option.some.inj H
               go_wp2
               go_ret
               exact ⟨by first | rfl | (simp [errW_none, errW_some] <;> rfl) | (simp [*, errW_none, errW_some] <;> rfl), blw HB.out⟩

end Go.Proofs.YtebfcckaicgcfaaDoor.Q
