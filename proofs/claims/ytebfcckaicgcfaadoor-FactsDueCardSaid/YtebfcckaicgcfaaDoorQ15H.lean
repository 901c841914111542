/- Functions of the translation as plain Lean functions, and proofs that the calls do what these say; written by a program of this session round the kit's print. -/
import Derived.Test.YtebfcckaicgcfaaDoorQ6
import Derived.Test.YtebfcckaicgcfaaDoorQ13
import Derived.Test.YtebfcckaicgcfaaDoorFDu
import Derived.Test.YtebfcckaicgcfaaDoorFSt
import Derived.Test.YtebfcckaicgcfaaDoorQ0
import Derived.Test.YtebfcckaicgcfaaDoorAidB
import Derived.Test.YtebfcckaicgcfaaDoorAidC
namespace Go.Proofs.YtebfcckaicgcfaaDoor.Q
open Go.RowKit Go.Proofs.YtebfcckaicgcfaaDoorW.PrintWords Go.Proofs.YtebfcckaicgcfaaDoorW.PrintLast Go.Proofs.YtebfcckaicgcfaaDoorW.PrintMore
attribute [local go_sem] max2_int min2_int max_two min_two max_three min_three max_four min_four   -- for this text's walks alone
set_option linter.unusedVariables false
set_option linter.unusedSimpArgs false

/-! ### fastilaw46_FactsEarly: function 7 -/
mutual
def fastilaw46_FactsEarly.j0 : Nat → List (S24) → Int → Bool → Option (Bool)
 | 0, _, _, _ => none
 | k + 1, x0, x1, x23 => if x23 = true then (some true) else (fastilaw46_FactsEarly.l0 k x0 x1 ([] : List (S24)) x0 (x0.length : Int) 0)
def fastilaw46_FactsEarly.l0 : Nat → List (S24) → Int → List (S24) → List (S24) → Int → Int → Option (Bool)
 | 0, _, _, _, _, _, _ => none
 | k + 1, x0, x1, x5, x24, x25, x26 => if x26 < x25 then (if 0 ≤ x26 then (if x26 < (x24.length : Int) then (if ((rd_T24 x24 x26).f8) ≤ x1 then (if x5.length < 1954687338268 then (fastilaw46_FactsEarly.l0 k x0 x1 (x5 ++ [(⟨(rd_T24 x24 x26).f0, (rd_T24 x24 x26).f1, (rd_T24 x24 x26).f2, (rd_T24 x24 x26).f3, (rd_T24 x24 x26).f4, (rd_T24 x24 x26).f5, (rd_T24 x24 x26).f6, (rd_T24 x24 x26).f7, (rd_T24 x24 x26).f8⟩ : S24)]) x24 x25 (wrap64 (x26 + 1))) else (none)) else (fastilaw46_FactsEarly.l0 k x0 x1 x5 x24 x25 (wrap64 (x26 + 1)))) else (none)) else (none)) else ((facts_Standing.f x0 x1).bind fun bt356 => ((facts_Standing.f x5 x1).bind fun bt360 => ((facts_Standing.f bt356.1 x1).bind fun bt364 => (if bt356.2 = 0 then (if bt360.2 = 0 then (if bt364.2 = 0 then ((fastiref46_Same.f k bt356.1 bt360.1).bind fun t368 => (if t368 = true then ((fastiref46_Same.f k bt356.1 bt364.1).bind fun t369 => (some t369)) else (none))) else (none)) else (none)) else (none)))))
end
def fastilaw46_FactsEarly.f (k : Nat) (l0 : List (S24)) (a1 : Int) : Option (Bool) := (fastilaw46_sane.f k).bind fun t348 => (if t348 = true then ((fastilaw46_right.f k l0).bind fun t349 => (if t349 = true then ((fastiref46_Moment.f a1).bind fun t350 => (fastilaw46_FactsEarly.j0 k l0 a1 (!t350))) else (fastilaw46_FactsEarly.j0 k l0 a1 true))) else (none))
theorem fastilaw46_FactsEarly.mono_l : ∀ k, (∀ y0 y1 y2, LeO (fastilaw46_FactsEarly.j0 k y0 y1 y2) (fastilaw46_FactsEarly.j0 (k + 1) y0 y1 y2)) ∧ (∀ y0 y1 y2 y3 y4 y5, LeO (fastilaw46_FactsEarly.l0 k y0 y1 y2 y3 y4 y5) (fastilaw46_FactsEarly.l0 (k + 1) y0 y1 y2 y3 y4 y5))
 | 0 => ⟨fun _ _ _ r h => by simp [fastilaw46_FactsEarly.j0] at h, fun _ _ _ _ _ _ r h => by simp [fastilaw46_FactsEarly.l0] at h⟩
 | k + 1 => by
  obtain ⟨ih0, ih1⟩ := fastilaw46_FactsEarly.mono_l k
  refine ⟨?_, ?_⟩
  ·intro y0 y1 y2
   unfold fastilaw46_FactsEarly.j0
   repeat' first
   | (with_reducible exact ih0 _ _ _)
   | (with_reducible exact ih1 _ _ _ _ _ _)
   | (with_reducible exact fastilaw46_right.mono _ _)
   | (with_reducible exact fastilaw46_sane.mono _)
   | (with_reducible exact fastiref46_Same.mono _ _ _)
   | (with_reducible exact LeO.refl _)
   | (with_reducible exact LeO.none _)
   | (with_reducible refine LeO.ite ?_ ?_)
   | (with_reducible refine LeO.bind ?_ (fun _ => ?_))
   | exact ih0 _ _ _
   | exact ih1 _ _ _ _ _ _
   | exact fastilaw46_right.mono _ _
   | exact fastilaw46_sane.mono _
   | exact fastiref46_Same.mono _ _ _
   | exact LeO.none _
   | refine LeO.ite ?_ ?_
   | refine LeO.bind ?_ (fun _ => ?_)
  ·intro y0 y1 y2 y3 y4 y5
   unfold fastilaw46_FactsEarly.l0
   repeat' first
   | (with_reducible exact ih0 _ _ _)
   | (with_reducible exact ih1 _ _ _ _ _ _)
   | (with_reducible exact fastilaw46_right.mono _ _)
   | (with_reducible exact fastilaw46_sane.mono _)
   | (with_reducible exact fastiref46_Same.mono _ _ _)
   | (with_reducible exact LeO.refl _)
   | (with_reducible exact LeO.none _)
   | (with_reducible refine LeO.ite ?_ ?_)
   | (with_reducible refine LeO.bind ?_ (fun _ => ?_))
   | exact ih0 _ _ _
   | exact ih1 _ _ _ _ _ _
   | exact fastilaw46_right.mono _ _
   | exact fastilaw46_sane.mono _
   | exact fastiref46_Same.mono _ _ _
   | exact LeO.none _
   | refine LeO.ite ?_ ?_
   | refine LeO.bind ?_ (fun _ => ?_)
theorem fastilaw46_FactsEarly.mono : ∀ a0 a1 k, LeO (fastilaw46_FactsEarly.f k a0 a1) (fastilaw46_FactsEarly.f (k + 1) a0 a1) := by
 intro a0 a1 k
 obtain ⟨ih0, ih1⟩ := fastilaw46_FactsEarly.mono_l k
 unfold fastilaw46_FactsEarly.f
 repeat' first
   | (with_reducible exact ih0 _ _ _)
   | (with_reducible exact ih1 _ _ _ _ _ _)
   | (with_reducible exact fastilaw46_right.mono _ _)
   | (with_reducible exact fastilaw46_sane.mono _)
   | (with_reducible exact fastiref46_Same.mono _ _ _)
   | (with_reducible exact LeO.refl _)
   | (with_reducible exact LeO.none _)
   | (with_reducible refine LeO.ite ?_ ?_)
   | (with_reducible refine LeO.bind ?_ (fun _ => ?_))
   | exact ih0 _ _ _
   | exact ih1 _ _ _ _ _ _
   | exact fastilaw46_right.mono _ _
   | exact fastilaw46_sane.mono _
   | exact fastiref46_Same.mono _ _ _
   | exact LeO.none _
   | refine LeO.ite ?_ ?_
   | refine LeO.bind ?_ (fun _ => ?_)
set_option maxHeartbeats 8000000 in
set_option maxRecDepth 100000 in
theorem fastilaw46_FactsEarly.calls (k : Nat) (A0 : Option Addr) (c0 : Nat) (l0 : List (S24)) (a1 : Int) (r : Bool) (w : World) (hr0 : Kd.C k24 w A0 l0.length l0) (hc0 : l0.length ≤ c0) (h : fastilaw46_FactsEarly.f k l0 a1 = some r) (hrw : RowsAt w) :
  Calls Tryd.prog 7 #[.slice A0 l0.length c0, .int .i64 a1] w fun e w' => e = .returned (.bool r) ∧ Below w.heap.size w w' := by
 have hu24 := Tryd.underlying24; have HR0 := Aside0.mk hr0; have HC0 := Aside0.mk hc0; clear hr0 hc0; have HRW := Aside0.mk hrw; clear hrw; have HB := Aside0.mk (Below.refl w.heap.size w); have H : ((fastilaw46_sane.f k).bind fun t348 => (if t348 = true then ((fastilaw46_right.f k l0).bind fun t349 => (if t349 = true then ((fastiref46_Moment.f a1).bind fun t350 => (fastilaw46_FactsEarly.j0 k l0 a1 (!t350))) else (fastilaw46_FactsEarly.j0 k l0 a1 true))) else (none))) = some r := h; clear h; replace H := Option.bind_eq_some_iff.mp H; obtain ⟨t348, A30, H⟩ := H; replace H : (if t348 = true then ((fastilaw46_right.f k l0).bind fun t349 => (if t349 = true then ((fastiref46_Moment.f a1).bind fun t350 => (fastilaw46_FactsEarly.j0 k l0 a1 (!t350))) else (fastilaw46_FactsEarly.j0 k l0 a1 true))) else (none)) = some r := H; have A3 := Aside0.mk A30; clear A30
 by_cases c4 : t348 = true
 rotate_left
 ·replace c4 := Bool.eq_false_iff.mpr c4
  subst c4
  have H1 : (none) = some r := by rw [if_neg (show ¬ (false = true) by decide)] at H; exact H
  clear H; have H := H1; clear H1
  exact absurd H (by simp)
 subst c4
 have H1 : ((fastilaw46_right.f k l0).bind fun t349 => (if t349 = true then ((fastiref46_Moment.f a1).bind fun t350 => (fastilaw46_FactsEarly.j0 k l0 a1 (!t350))) else (fastilaw46_FactsEarly.j0 k l0 a1 true))) = some r := by rw [if_pos rfl] at H; exact H
 clear H; have H := H1; clear H1; have HC5 := Aside0.mk H; clear H
 go_enter Tryd.func7, Tryd.ntmps7
 go_upto_region 3 with (first | (refine goesC 14 Tryd.func10 #[] ?_; (with_reducible refine (fastilaw46_sane.calls k  true _ A3.out).mono ?_); rintro e w6 ⟨rfl, hb⟩; refine ⟨_, rfl, ?_⟩; replace HB := sB HB hb; (try clear hb); (try clear hb2); (try clear hk); (try clear hi)))
 (try simp only [Act.put, List.setIfInBounds_toArray, List.set_cons_zero, List.set_cons_succ])
 go_cut [23] (fun v23 wc => ∃ (kq : Nat) (x23_4 : Bool), v23 = .bool x23_4 ∧ Aside0 (fastilaw46_FactsEarly.j0 kq l0 a1 x23_4 = some r) ∧ Aside0 (kq ≤ k) ∧ Aside0 (Below w.heap.size w wc))
 case first =>
  have H := HC5.out; clear HC5; replace H := Option.bind_eq_some_iff.mp H; obtain ⟨t349, A70, H⟩ := H; replace H : (if t349 = true then ((fastiref46_Moment.f a1).bind fun t350 => (fastilaw46_FactsEarly.j0 k l0 a1 (!t350))) else (fastilaw46_FactsEarly.j0 k l0 a1 true)) = some r := H; have A7 := Aside0.mk A70; clear A70
  by_cases c8 : t349 = true
  rotate_left
  ·replace c8 := Bool.eq_false_iff.mpr c8
   subst c8
   have H1 : (fastilaw46_FactsEarly.j0 k l0 a1 true) = some r := by rw [if_neg (show ¬ (false = true) by decide)] at H; exact H
   clear H; have H := H1; clear H1; have H' := Aside0.mk H; clear H
   go_wp2_with (first | (refine goesC 17 Tryd.func21 #[.slice A0 l0.length c0] ?_; (with_reducible refine (fastilaw46_right.calls k _ _ l0 false _ ?side1 ?side2 A7.out).mono ?_); (case side1 => exact cB HR0 HB); (case side2 => exact HC0.out); rintro e w11 ⟨rfl, hb⟩; refine ⟨_, rfl, ?_⟩; replace HB := sB HB hb; (try clear hb); (try clear hb2); (try clear hk); (try clear hi)))
   go_meet
   case rel => exact ⟨_, (true), (by first | rfl | (simp; done) | (simp [*]; done)), H', ⟨by first | omega | exact Nat.le_refl _⟩, ⟨blw HB.out⟩⟩
  subst c8
  have H1 : ((fastiref46_Moment.f a1).bind fun t350 => (fastilaw46_FactsEarly.j0 k l0 a1 (!t350))) = some r := by rw [if_pos rfl] at H; exact H
  clear H; have H := H1; clear H1; replace H := Option.bind_eq_some_iff.mp H; obtain ⟨t350, A90, H⟩ := H; replace H : (fastilaw46_FactsEarly.j0 k l0 a1 (!t350)) = some r := H; have A9 := Aside0.mk A90; clear A90; have H' := Aside0.mk H; clear H
  go_wp2_with (first | (refine goesC 17 Tryd.func21 #[.slice A0 l0.length c0] ?_; (with_reducible refine (fastilaw46_right.calls k _ _ l0 true _ ?side1 ?side2 A7.out).mono ?_); (case side1 => exact cB HR0 HB); (case side2 => exact HC0.out); rintro e w10 ⟨rfl, hb⟩; refine ⟨_, rfl, ?_⟩; replace HB := sB HB hb; (try clear hb); (try clear hb2); (try clear hk); (try clear hi)) | (go_at_call 22; (with_reducible refine (fastiref46_Moment.calls a1 t350 _ A9.out).mono ?_); rintro e w' ⟨rfl, ⟨nd, rfl⟩⟩))
  go_meet
  case rel => exact ⟨_, (!t350), (by first | rfl | (simp; done) | (simp [*]; done)), H', ⟨by first | omega | exact Nat.le_refl _⟩, ⟨blw HB.out⟩⟩
 clear HC5; (try clear c1); (try clear c2); (try clear p2); (try clear c4); (try clear c7); (try clear c8); (try clear c10); obtain ⟨kq, x23_4, rfl, HA, HJ4, HB⟩ := hcut
 cases kq with
 | zero => exact absurd HA.out (by simp [fastilaw46_FactsEarly.j0])
 | succ kj4 =>
  have H := HA.out; clear HA
  simp only [fastilaw46_FactsEarly.j0] at H
  by_cases c12 : x23_4 = true
  ·subst c12
   have H1 : (some true) = some r := by rw [if_pos rfl] at H; exact H
   clear H; have H := H1; clear H1; obtain rfl := Option.some.inj H
   go_wp2
   go_ret
   exact ⟨by first | rfl | (simp [errW_none, errW_some] <;> rfl) | (simp [*, errW_none, errW_some] <;> rfl), blw HB.out⟩
  ·replace c12 := Bool.eq_false_iff.mpr c12
   subst c12
   have H1 : (fastilaw46_FactsEarly.l0 kj4 l0 a1 ([] : List (S24)) l0 (l0.length : Int) 0) = some r := by rw [if_neg (show ¬ (false = true) by decide)] at H; exact H
   clear H; have H := H1; clear H1; have H' := Aside0.mk H; clear H
   go_wp2
   go_loopg [5, 26] kj4 (fun kq v5 v26 w' => ∃ (x5_2 : List (S24)) (x26_2 : Int), v26 = .int .i64 x26_2 ∧ Aside0 (fastilaw46_FactsEarly.l0 kq l0 a1 x5_2 l0 (l0.length : Int) x26_2 = some r) ∧ Aside0 (kq ≤ kj4) ∧ Aside0 (Kd.R k24 24 w' w.heap.size (fun _ => True) v5 x5_2) ∧ Aside0 (Below w.heap.size w w'))
   case atStart => exact ⟨(([] : List (S24))), (0), (by first | rfl | (simp; done) | (simp [*]; done)), H', ⟨Nat.le_refl _⟩, ⟨by first | exact Kd.R_nil _ _ _ _ _ | exact Kd.N_nil _ _ _ _ _ | exact Kd.V_nil _ _ _ _ _ | exact Kd.Q_nil _ _ _ _ _ | exact Kd.S_nil _ _ _ _ _⟩, ⟨blw HB.out⟩⟩
   case round =>
    clear H'; (try clear c1); (try clear c2); (try clear p2); (try clear c4); (try clear c7); (try clear c8); (try clear c10); (try clear c12); (try clear p2); obtain ⟨x5_2, x26_2, rfl, HA, HK2, HO_5, HB⟩ := hrel
    cases gk with
    | zero => exact absurd HA.out (by simp [fastilaw46_FactsEarly.l0])
    | succ k2 =>
     have H := HA.out; clear HA
     simp only [fastilaw46_FactsEarly.l0] at H
     by_cases c13 : x26_2 < (l0.length : Int)
     ·rw [if_pos c13] at H
      have c13b0 : decide (x26_2 < (l0.length : Int)) = true := decide_eq_true c13; clear c13
      by_cases c14 : 0 ≤ x26_2
      ·rw [if_pos c14] at H
       have c14b0 : decide (0 ≤ x26_2) = true := decide_eq_true c14; clear c14
       by_cases c15 : x26_2 < (l0.length : Int)
       ·rw [if_pos c15] at H
        have c15b0 : decide (x26_2 < (l0.length : Int)) = true := decide_eq_true c15; clear c15
        by_cases c16 : ((rd_T24 l0 x26_2).f8) ≤ a1
        ·rw [if_pos c16] at H
         have c16b0 : decide (((rd_T24 l0 x26_2).f8) ≤ a1) = true := decide_eq_true c16; clear c16
         by_cases c17 : x5_2.length < 1954687338268
         ·rw [if_pos c17] at H
          have LMc17 := Aside0.mk c17; clear c17; obtain ⟨y353, hy353⟩ : ∃ y_ : List (S24), y_ = (x5_2 ++ [(⟨(rd_T24 l0 x26_2).f0, (rd_T24 l0 x26_2).f1, (rd_T24 l0 x26_2).f2, (rd_T24 l0 x26_2).f3, (rd_T24 l0 x26_2).f4, (rd_T24 l0 x26_2).f5, (rd_T24 l0 x26_2).f6, (rd_T24 l0 x26_2).f7, (rd_T24 l0 x26_2).f8⟩ : S24)]) := ⟨_, rfl⟩
          replace H : (fastilaw46_FactsEarly.l0 k2 l0 a1 y353 l0 (l0.length : Int) (wrap64 (x26_2 + 1))) = some r := by first | (rw [hy353]; with_reducible exact H) | (have H2_ := (Option.bind_some _ _).symm.trans H; rw [hy353]; with_reducible exact H2_) | (have H2_ := (Option.bind_some _ _).symm.trans H; with_reducible exact H2_) | with_reducible exact H | (rw [hy353]; exact H) | exact H
          have Ny353 := Aside0.mk hy353; clear hy353; have H' := Aside0.mk H; clear H; have p351 : 0 ≤ (x26_2 : Int) := of_decide_eq_true (by first | (with_reducible assumption) | assumption); have q351 : x26_2 < (l0.length : Int) := of_decide_eq_true (by first | (with_reducible assumption) | assumption); obtain ⟨ad351, e351, hx351_0, hx351_1, hx351_2, hx351_3, hx351_4, hx351_5, hx351_6, hx351_7, hx351_8⟩ := at_T24 HR0.out x26_2 p351 q351; cases e351; replace hx351_0 := (HB.out.cell (World.block_lt_of_cell? w _ hx351_0)).trans hx351_0; replace hx351_1 := (HB.out.cell (World.block_lt_of_cell? w _ hx351_1)).trans hx351_1; replace hx351_2 := (HB.out.cell (World.block_lt_of_cell? w _ hx351_2)).trans hx351_2; replace hx351_3 := (HB.out.cell (World.block_lt_of_cell? w _ hx351_3)).trans hx351_3; replace hx351_4 := (HB.out.cell (World.block_lt_of_cell? w _ hx351_4)).trans hx351_4; replace hx351_5 := (HB.out.cell (World.block_lt_of_cell? w _ hx351_5)).trans hx351_5; replace hx351_6 := (HB.out.cell (World.block_lt_of_cell? w _ hx351_6)).trans hx351_6; replace hx351_7 := (HB.out.cell (World.block_lt_of_cell? w _ hx351_7)).trans hx351_7; replace hx351_8 := (HB.out.cell (World.block_lt_of_cell? w _ hx351_8)).trans hx351_8; replace p351 := eq_true p351; replace q351 := eq_true q351
          go_wp2_with (first | ((with_reducible refine gate_dst (N := 7) rfl ?_); refine boxA (N := 7) #[.int .i64 0, .int .i64 0, .int .i64 0, .int .i64 0, .int .i64 0, .int .i64 0, .int .i64 0, .int .i64 0, .int .i64 0] 24 ?_; intro gb352 hg w18 hbox hb; replace HO_5 := Aside0.mk (Kd.R_below (Kd.R_elderB (rmv HO_5.out) gb352 (Nat.le_of_eq hg.symm)) hb); have BK352 := Aside0.mk (hbox); have GW352 := gW HB hg; have GE352 := gW HB hg; replace HB := sB HB hb; clear hb hbox hg; have hcz19_0 := bc0 BK352; have hcz19_1 := bc1 BK352; have hcz19_2 := bc2 BK352; have hcz19_3 := bc3 BK352; have hcz19_4 := bc4 BK352; have hcz19_5 := bc5 BK352; have hcz19_6 := bc6 BK352; have hcz19_7 := bc7 BK352; have hcz19_8 := bc8 BK352; have hfz19_0 := fz BK352 0; have hfz19_1 := fz BK352 1; have hfz19_2 := fz BK352 2; have hfz19_3 := fz BK352 3; have hfz19_4 := fz BK352 4; have hfz19_5 := fz BK352 5; have hfz19_6 := fz BK352 6; have hfz19_7 := fz BK352 7; have hfz19_8 := fz BK352 8) | ((with_reducible refine gate_builtin (b := .append) (xs := #[.tmp 34, .tmp 36]) rfl ?_); at_builtin; refine Kd.R_append k24 (w0 := w) w.heap.size rfl (.tmp 34) (.tmp 36) 22 24 (.agg #[(.int .i64 0), (.int .i64 0), (.int .i64 0), (.int .i64 0), (.int .i64 0), (.int .i64 0), (.int .i64 0), (.int .i64 0), (.int .i64 0)]) 72 rfl Tryd.underlying22 info24 rfl (by decide) (by omega) u5 x5_2 (⟨(rd_T24 l0 x26_2).f0, (rd_T24 l0 x26_2).f1, (rd_T24 l0 x26_2).f2, (rd_T24 l0 x26_2).f3, (rd_T24 l0 x26_2).f4, (rd_T24 l0 x26_2).f5, (rd_T24 l0 x26_2).f6, (rd_T24 l0 x26_2).f7, (rd_T24 l0 x26_2).f8⟩ : S24) [.int .i64 ((rd_T24 l0 x26_2).f0), .int .i64 ((rd_T24 l0 x26_2).f1), .int .i64 ((rd_T24 l0 x26_2).f2), .int .i64 ((rd_T24 l0 x26_2).f3), .int .i64 ((rd_T24 l0 x26_2).f4), .int .i64 ((rd_T24 l0 x26_2).f5), .int .i64 ((rd_T24 l0 x26_2).f6), .int .i64 ((rd_T24 l0 x26_2).f7), .int .i64 ((rd_T24 l0 x26_2).f8)] (fun k_ => k_ ≠ gb352) (fun _ => False) rfl (by first | (go_simp; done) | (go_simp; rfl)) ?aP (fun _ hk => hk.elim) ?aF ?aO ?aB ?aS ?aL ?_; (case aP => exact k24_mkM _ _ _ (⟨(rd_T24 l0 x26_2).f0, (rd_T24 l0 x26_2).f1, (rd_T24 l0 x26_2).f2, (rd_T24 l0 x26_2).f3, (rd_T24 l0 x26_2).f4, (rd_T24 l0 x26_2).f5, (rd_T24 l0 x26_2).f6, (rd_T24 l0 x26_2).f7, (rd_T24 l0 x26_2).f8⟩ : S24)); (case aB => exact (blw HB.out)); (case aF => exact (fun k_ hk => Kd.freshB (g := gb352) (o := .cells #[.int .i64 ((rd_T24 l0 x26_2).f0), .int .i64 ((rd_T24 l0 x26_2).f1), .int .i64 ((rd_T24 l0 x26_2).f2), .int .i64 ((rd_T24 l0 x26_2).f3), .int .i64 ((rd_T24 l0 x26_2).f4), .int .i64 ((rd_T24 l0 x26_2).f5), .int .i64 ((rd_T24 l0 x26_2).f6), .int .i64 ((rd_T24 l0 x26_2).f7), .int .i64 ((rd_T24 l0 x26_2).f8)] 24 (0, 0)) (by (with_reducible repeat (first | refine blk_drewN ?_ _ | refine blk_drew ?_ | refine blk_alloc ?_ _)); refine blk_put (cs := #[.int .i64 ((rd_T24 l0 x26_2).f0), .int .i64 ((rd_T24 l0 x26_2).f1), .int .i64 ((rd_T24 l0 x26_2).f2), .int .i64 ((rd_T24 l0 x26_2).f3), .int .i64 ((rd_T24 l0 x26_2).f4), .int .i64 ((rd_T24 l0 x26_2).f5), .int .i64 ((rd_T24 l0 x26_2).f6), .int .i64 ((rd_T24 l0 x26_2).f7), .int .i64 0]) ?_ 8 _ rfl; refine blk_put (cs := #[.int .i64 ((rd_T24 l0 x26_2).f0), .int .i64 ((rd_T24 l0 x26_2).f1), .int .i64 ((rd_T24 l0 x26_2).f2), .int .i64 ((rd_T24 l0 x26_2).f3), .int .i64 ((rd_T24 l0 x26_2).f4), .int .i64 ((rd_T24 l0 x26_2).f5), .int .i64 ((rd_T24 l0 x26_2).f6), .int .i64 0, .int .i64 0]) ?_ 7 _ rfl; refine blk_put (cs := #[.int .i64 ((rd_T24 l0 x26_2).f0), .int .i64 ((rd_T24 l0 x26_2).f1), .int .i64 ((rd_T24 l0 x26_2).f2), .int .i64 ((rd_T24 l0 x26_2).f3), .int .i64 ((rd_T24 l0 x26_2).f4), .int .i64 ((rd_T24 l0 x26_2).f5), .int .i64 0, .int .i64 0, .int .i64 0]) ?_ 6 _ rfl; refine blk_put (cs := #[.int .i64 ((rd_T24 l0 x26_2).f0), .int .i64 ((rd_T24 l0 x26_2).f1), .int .i64 ((rd_T24 l0 x26_2).f2), .int .i64 ((rd_T24 l0 x26_2).f3), .int .i64 ((rd_T24 l0 x26_2).f4), .int .i64 0, .int .i64 0, .int .i64 0, .int .i64 0]) ?_ 5 _ rfl; refine blk_put (cs := #[.int .i64 ((rd_T24 l0 x26_2).f0), .int .i64 ((rd_T24 l0 x26_2).f1), .int .i64 ((rd_T24 l0 x26_2).f2), .int .i64 ((rd_T24 l0 x26_2).f3), .int .i64 0, .int .i64 0, .int .i64 0, .int .i64 0, .int .i64 0]) ?_ 4 _ rfl; refine blk_put (cs := #[.int .i64 ((rd_T24 l0 x26_2).f0), .int .i64 ((rd_T24 l0 x26_2).f1), .int .i64 ((rd_T24 l0 x26_2).f2), .int .i64 0, .int .i64 0, .int .i64 0, .int .i64 0, .int .i64 0, .int .i64 0]) ?_ 3 _ rfl; refine blk_put (cs := #[.int .i64 ((rd_T24 l0 x26_2).f0), .int .i64 ((rd_T24 l0 x26_2).f1), .int .i64 0, .int .i64 0, .int .i64 0, .int .i64 0, .int .i64 0, .int .i64 0, .int .i64 0]) ?_ 2 _ rfl; refine blk_put (cs := #[.int .i64 ((rd_T24 l0 x26_2).f0), .int .i64 0, .int .i64 0, .int .i64 0, .int .i64 0, .int .i64 0, .int .i64 0, .int .i64 0, .int .i64 0]) ?_ 1 _ rfl; refine blk_put (cs := #[.int .i64 0, .int .i64 0, .int .i64 0, .int .i64 0, .int .i64 0, .int .i64 0, .int .i64 0, .int .i64 0, .int .i64 0]) ?_ 0 _ rfl; (with_reducible repeat (first | refine blk_drewN ?_ _ | refine blk_drew ?_ | refine blk_alloc ?_ _)); exact BK352.out) k_ hk)); (case aO => exact (by (with_reducible repeat (first | apply Kd.R_alloc | apply Kd.R_drewN | apply Kd.R_drew)); exact Kd.R_mono (Kd.R_far (p := ⟨gb352, 8, none⟩) (Kd.R_far (p := ⟨gb352, 7, none⟩) (Kd.R_far (p := ⟨gb352, 6, none⟩) (Kd.R_far (p := ⟨gb352, 5, none⟩) (Kd.R_far (p := ⟨gb352, 4, none⟩) (Kd.R_far (p := ⟨gb352, 3, none⟩) (Kd.R_far (p := ⟨gb352, 2, none⟩) (Kd.R_far (p := ⟨gb352, 1, none⟩) (Kd.R_far (p := ⟨gb352, 0, none⟩) (Kd.R_mono HO_5.out (fun k_ hk => (⟨hk, hk.2⟩ : _ ∧ k_ ≠ gb352))) (fun _ hk => hk.2) (.int .i64 ((rd_T24 l0 x26_2).f0))) (fun _ hk => hk.2) (.int .i64 ((rd_T24 l0 x26_2).f1))) (fun _ hk => hk.2) (.int .i64 ((rd_T24 l0 x26_2).f2))) (fun _ hk => hk.2) (.int .i64 ((rd_T24 l0 x26_2).f3))) (fun _ hk => hk.2) (.int .i64 ((rd_T24 l0 x26_2).f4))) (fun _ hk => hk.2) (.int .i64 ((rd_T24 l0 x26_2).f5))) (fun _ hk => hk.2) (.int .i64 ((rd_T24 l0 x26_2).f6))) (fun _ hk => hk.2) (.int .i64 ((rd_T24 l0 x26_2).f7))) (fun _ hk => hk.2) (.int .i64 ((rd_T24 l0 x26_2).f8))) (fun _ hk => hk.1.2))); (case aS => exact (below_size (blw HB.out))); (case aL => have := LMc17.out; omega); intro v354 w20 ho hb hg hat; rw [← Ny353.out] at ho; replace BK352 := Aside0.mk (blk_grown (g := gb352) (o := .cells #[.int .i64 ((rd_T24 l0 x26_2).f0), .int .i64 ((rd_T24 l0 x26_2).f1), .int .i64 ((rd_T24 l0 x26_2).f2), .int .i64 ((rd_T24 l0 x26_2).f3), .int .i64 ((rd_T24 l0 x26_2).f4), .int .i64 ((rd_T24 l0 x26_2).f5), .int .i64 ((rd_T24 l0 x26_2).f6), .int .i64 ((rd_T24 l0 x26_2).f7), .int .i64 ((rd_T24 l0 x26_2).f8)] 24 (0, 0)) (by (with_reducible repeat (first | refine blk_drewN ?_ _ | refine blk_drew ?_ | refine blk_alloc ?_ _)); refine blk_put (cs := #[.int .i64 ((rd_T24 l0 x26_2).f0), .int .i64 ((rd_T24 l0 x26_2).f1), .int .i64 ((rd_T24 l0 x26_2).f2), .int .i64 ((rd_T24 l0 x26_2).f3), .int .i64 ((rd_T24 l0 x26_2).f4), .int .i64 ((rd_T24 l0 x26_2).f5), .int .i64 ((rd_T24 l0 x26_2).f6), .int .i64 ((rd_T24 l0 x26_2).f7), .int .i64 0]) ?_ 8 _ rfl; refine blk_put (cs := #[.int .i64 ((rd_T24 l0 x26_2).f0), .int .i64 ((rd_T24 l0 x26_2).f1), .int .i64 ((rd_T24 l0 x26_2).f2), .int .i64 ((rd_T24 l0 x26_2).f3), .int .i64 ((rd_T24 l0 x26_2).f4), .int .i64 ((rd_T24 l0 x26_2).f5), .int .i64 ((rd_T24 l0 x26_2).f6), .int .i64 0, .int .i64 0]) ?_ 7 _ rfl; refine blk_put (cs := #[.int .i64 ((rd_T24 l0 x26_2).f0), .int .i64 ((rd_T24 l0 x26_2).f1), .int .i64 ((rd_T24 l0 x26_2).f2), .int .i64 ((rd_T24 l0 x26_2).f3), .int .i64 ((rd_T24 l0 x26_2).f4), .int .i64 ((rd_T24 l0 x26_2).f5), .int .i64 0, .int .i64 0, .int .i64 0]) ?_ 6 _ rfl; refine blk_put (cs := #[.int .i64 ((rd_T24 l0 x26_2).f0), .int .i64 ((rd_T24 l0 x26_2).f1), .int .i64 ((rd_T24 l0 x26_2).f2), .int .i64 ((rd_T24 l0 x26_2).f3), .int .i64 ((rd_T24 l0 x26_2).f4), .int .i64 0, .int .i64 0, .int .i64 0, .int .i64 0]) ?_ 5 _ rfl; refine blk_put (cs := #[.int .i64 ((rd_T24 l0 x26_2).f0), .int .i64 ((rd_T24 l0 x26_2).f1), .int .i64 ((rd_T24 l0 x26_2).f2), .int .i64 ((rd_T24 l0 x26_2).f3), .int .i64 0, .int .i64 0, .int .i64 0, .int .i64 0, .int .i64 0]) ?_ 4 _ rfl; refine blk_put (cs := #[.int .i64 ((rd_T24 l0 x26_2).f0), .int .i64 ((rd_T24 l0 x26_2).f1), .int .i64 ((rd_T24 l0 x26_2).f2), .int .i64 0, .int .i64 0, .int .i64 0, .int .i64 0, .int .i64 0, .int .i64 0]) ?_ 3 _ rfl; refine blk_put (cs := #[.int .i64 ((rd_T24 l0 x26_2).f0), .int .i64 ((rd_T24 l0 x26_2).f1), .int .i64 0, .int .i64 0, .int .i64 0, .int .i64 0, .int .i64 0, .int .i64 0, .int .i64 0]) ?_ 2 _ rfl; refine blk_put (cs := #[.int .i64 ((rd_T24 l0 x26_2).f0), .int .i64 0, .int .i64 0, .int .i64 0, .int .i64 0, .int .i64 0, .int .i64 0, .int .i64 0, .int .i64 0]) ?_ 1 _ rfl; refine blk_put (cs := #[.int .i64 0, .int .i64 0, .int .i64 0, .int .i64 0, .int .i64 0, .int .i64 0, .int .i64 0, .int .i64 0, .int .i64 0]) ?_ 0 _ rfl; (with_reducible repeat (first | refine blk_drewN ?_ _ | refine blk_drew ?_ | refine blk_alloc ?_ _)); exact BK352.out) hg (Kd.R_away HO_5.out (fun _ hk => hk.2))); replace HB := Aside0.mk (hb); have HO355 := Aside0.mk (ho); clear HO_5; clear ho hb hg hat))
          go_roundg k2
          case measure => have := HJ4.out; have := HK2.out; omega
          case rel => exact ⟨(y353), (wrap64 (x26_2 + 1)), (by first | rfl | (simp; done) | (simp [*]; done)), H', ⟨by have := HJ4.out; have := HK2.out; omega⟩, ⟨by (with_reducible repeat (first | apply Kd.R_alloc | apply Kd.R_drewN | apply Kd.R_drew)); exact Kd.R_mono HO355.out (fun _ hk => trivial)⟩, ⟨blw HB.out⟩⟩
         ·rw [if_neg c17] at H
          exact absurd H (by simp)
        ·rw [if_neg c16] at H
         have c16b0 : decide (((rd_T24 l0 x26_2).f8) ≤ a1) = false := decide_eq_false c16; clear c16; have H' := Aside0.mk H; clear H; have p351 : 0 ≤ (x26_2 : Int) := of_decide_eq_true (by first | (with_reducible assumption) | assumption); have q351 : x26_2 < (l0.length : Int) := of_decide_eq_true (by first | (with_reducible assumption) | assumption); obtain ⟨ad351, e351, hx351_0, hx351_1, hx351_2, hx351_3, hx351_4, hx351_5, hx351_6, hx351_7, hx351_8⟩ := at_T24 HR0.out x26_2 p351 q351; cases e351; replace hx351_0 := (HB.out.cell (World.block_lt_of_cell? w _ hx351_0)).trans hx351_0; replace hx351_1 := (HB.out.cell (World.block_lt_of_cell? w _ hx351_1)).trans hx351_1; replace hx351_2 := (HB.out.cell (World.block_lt_of_cell? w _ hx351_2)).trans hx351_2; replace hx351_3 := (HB.out.cell (World.block_lt_of_cell? w _ hx351_3)).trans hx351_3; replace hx351_4 := (HB.out.cell (World.block_lt_of_cell? w _ hx351_4)).trans hx351_4; replace hx351_5 := (HB.out.cell (World.block_lt_of_cell? w _ hx351_5)).trans hx351_5; replace hx351_6 := (HB.out.cell (World.block_lt_of_cell? w _ hx351_6)).trans hx351_6; replace hx351_7 := (HB.out.cell (World.block_lt_of_cell? w _ hx351_7)).trans hx351_7; replace hx351_8 := (HB.out.cell (World.block_lt_of_cell? w _ hx351_8)).trans hx351_8; replace p351 := eq_true p351; replace q351 := eq_true q351
         go_wp2_with (first | ((with_reducible refine gate_dst (N := 7) rfl ?_); refine boxA (N := 7) #[.int .i64 0, .int .i64 0, .int .i64 0, .int .i64 0, .int .i64 0, .int .i64 0, .int .i64 0, .int .i64 0, .int .i64 0] 24 ?_; intro gb352 hg w21 hbox hb; replace HO_5 := Aside0.mk (Kd.R_below (Kd.R_elderB (rmv HO_5.out) gb352 (Nat.le_of_eq hg.symm)) hb); have BK352 := Aside0.mk (hbox); have GW352 := gW HB hg; have GE352 := gW HB hg; replace HB := sB HB hb; clear hb hbox hg; have hcz22_0 := bc0 BK352; have hcz22_1 := bc1 BK352; have hcz22_2 := bc2 BK352; have hcz22_3 := bc3 BK352; have hcz22_4 := bc4 BK352; have hcz22_5 := bc5 BK352; have hcz22_6 := bc6 BK352; have hcz22_7 := bc7 BK352; have hcz22_8 := bc8 BK352; have hfz22_0 := fz BK352 0; have hfz22_1 := fz BK352 1; have hfz22_2 := fz BK352 2; have hfz22_3 := fz BK352 3; have hfz22_4 := fz BK352 4; have hfz22_5 := fz BK352 5; have hfz22_6 := fz BK352 6; have hfz22_7 := fz BK352 7; have hfz22_8 := fz BK352 8))
         go_roundg k2
         case measure => have := HJ4.out; have := HK2.out; omega
         case rel => exact ⟨(x5_2), (wrap64 (x26_2 + 1)), (by first | rfl | (simp; done) | (simp [*]; done)), H', ⟨by have := HJ4.out; have := HK2.out; omega⟩, ⟨by (with_reducible repeat (first | apply Kd.R_alloc | apply Kd.R_drewN | apply Kd.R_drew)); exact Kd.R_mono (Kd.R_far (p := ⟨gb352, 8, none⟩) (Kd.R_far (p := ⟨gb352, 7, none⟩) (Kd.R_far (p := ⟨gb352, 6, none⟩) (Kd.R_far (p := ⟨gb352, 5, none⟩) (Kd.R_far (p := ⟨gb352, 4, none⟩) (Kd.R_far (p := ⟨gb352, 3, none⟩) (Kd.R_far (p := ⟨gb352, 2, none⟩) (Kd.R_far (p := ⟨gb352, 1, none⟩) (Kd.R_far (p := ⟨gb352, 0, none⟩) (Kd.R_mono HO_5.out (fun k_ hk => (⟨hk, hk.2⟩ : _ ∧ k_ ≠ gb352))) (fun _ hk => hk.2) (.int .i64 ((rd_T24 l0 x26_2).f0))) (fun _ hk => hk.2) (.int .i64 ((rd_T24 l0 x26_2).f1))) (fun _ hk => hk.2) (.int .i64 ((rd_T24 l0 x26_2).f2))) (fun _ hk => hk.2) (.int .i64 ((rd_T24 l0 x26_2).f3))) (fun _ hk => hk.2) (.int .i64 ((rd_T24 l0 x26_2).f4))) (fun _ hk => hk.2) (.int .i64 ((rd_T24 l0 x26_2).f5))) (fun _ hk => hk.2) (.int .i64 ((rd_T24 l0 x26_2).f6))) (fun _ hk => hk.2) (.int .i64 ((rd_T24 l0 x26_2).f7))) (fun _ hk => hk.2) (.int .i64 ((rd_T24 l0 x26_2).f8))) (fun _ hk => trivial)⟩, ⟨blw HB.out⟩⟩
       ·rw [if_neg c15] at H
        exact absurd H (by simp)
      ·rw [if_neg c14] at H
       exact absurd H (by simp)
     ·rw [if_neg c13] at H
      have c13b0 : decide (x26_2 < (l0.length : Int)) = false := decide_eq_false c13; clear c13; replace H := Option.bind_eq_some_iff.mp H; obtain ⟨⟨t356, t357⟩, A230, H⟩ := H; replace H : ((facts_Standing.f x5_2 a1).bind fun bt360 => ((facts_Standing.f t356 a1).bind fun bt364 => (if t357 = 0 then (if bt360.2 = 0 then (if bt364.2 = 0 then ((fastiref46_Same.f k2 t356 bt360.1).bind fun t368 => (if t368 = true then ((fastiref46_Same.f k2 t356 bt364.1).bind fun t369 => (some t369)) else (none))) else (none)) else (none)) else (none)))) = some r := H; have A23 := Aside0.mk A230; clear A230; replace H := Option.bind_eq_some_iff.mp H; obtain ⟨⟨t360, t361⟩, A240, H⟩ := H; replace H : ((facts_Standing.f t356 a1).bind fun bt364 => (if t357 = 0 then (if t361 = 0 then (if bt364.2 = 0 then ((fastiref46_Same.f k2 t356 t360).bind fun t368 => (if t368 = true then ((fastiref46_Same.f k2 t356 bt364.1).bind fun t369 => (some t369)) else (none))) else (none)) else (none)) else (none))) = some r := H; have A24 := Aside0.mk A240; clear A240; replace H := Option.bind_eq_some_iff.mp H; obtain ⟨⟨t364, t365⟩, A250, H⟩ := H; replace H : (if t357 = 0 then (if t361 = 0 then (if t365 = 0 then ((fastiref46_Same.f k2 t356 t360).bind fun t368 => (if t368 = true then ((fastiref46_Same.f k2 t356 t364).bind fun t369 => (some t369)) else (none))) else (none)) else (none)) else (none)) = some r := H; have A25 := Aside0.mk A250; clear A250
      by_cases c26 : t357 = 0
      ·rw [if_pos c26] at H
       have c26b0 : (t357 == 0) = true := beq_iff_eq.mpr c26; have c26b1 : (t357 != 0) = false := bne_eq_false_iff_eq.mpr c26; clear c26
       by_cases c27 : t361 = 0
       ·rw [if_pos c27] at H
        have c27b0 : (t361 == 0) = true := beq_iff_eq.mpr c27; have c27b1 : (t361 != 0) = false := bne_eq_false_iff_eq.mpr c27; clear c27
        by_cases c28 : t365 = 0
        ·rw [if_pos c28] at H
         have c28b0 : (t365 == 0) = true := beq_iff_eq.mpr c28; have c28b1 : (t365 != 0) = false := bne_eq_false_iff_eq.mpr c28; clear c28; replace H := Option.bind_eq_some_iff.mp H; obtain ⟨t368, A290, H⟩ := H; replace H : (if t368 = true then ((fastiref46_Same.f k2 t356 t364).bind fun t369 => (some t369)) else (none)) = some r := H; have A29 := Aside0.mk A290; clear A290
         by_cases c30 : t368 = true
         ·subst c30
          have H1 : ((fastiref46_Same.f k2 t356 t364).bind fun t369 => (some t369)) = some r := by rw [if_pos rfl] at H; exact H
          clear H; have H := H1; clear H1; replace H := Option.bind_eq_some_iff.mp H; obtain ⟨t369, A310, H⟩ := H; replace H : (some t369) = some r := H; have A31 := Aside0.mk A310; clear A310; obtain rfl := Option.some.inj H
          go_wp2_with (first | (refine goesC 42 Tryd.func17 #[.slice A0 l0.length c0, .int .i64 a1] ?_; (with_reducible refine (facts_Standing.calls _ _ l0 a1 t356 t357 _ ?side1 ?side2 A23.out).mono ?_); (case side1 => exact cB HR0 HB); (case side2 => exact HC0.out); rintro e w32 ⟨v358, rfl, ho0, hb⟩; refine ⟨_, rfl, ?_⟩; have HO359 := Aside0.mk (Kd.R_lower (Kd.R_new' ho0 (Kd.R_lt (rmv HO_5.out))) (below_size (blw HB.out))); replace HO_5 := Aside0.mk (Kd.R_elder' (rmv HO_5.out) (Kd.R_base ho0) hb); replace HB := sB HB hb; (try clear hb); (try clear hb2); (try clear hk); (try clear hi); (try clear ho0); obtain ⟨Ao33, co33, eo33⟩ := Kd.R_slice HO_5.out; subst eo33) | (refine goesC 48 Tryd.func17 #[.slice Ao33 x5_2.length co33, .int .i64 a1] ?_; (with_reducible refine (facts_Standing.calls _ _ x5_2 a1 t360 t361 _ ?side1 ?side2 A24.out).mono ?_); (case side1 => repeat (first | exact (Kd.R_reads' HO_5.out).2.2 | (with_reducible refine Kd.C_alloc ?_ _) | (with_reducible refine Kd.C_drewN ?_ _) | (with_reducible refine Kd.C_drew ?_))); (case side2 => exact (Kd.R_reads' HO_5.out).2.1); rintro e w34 ⟨v362, rfl, ho0, hb⟩; refine ⟨_, rfl, ?_⟩; have HO363 := Aside0.mk (Kd.R_lower (Kd.R_new' (Kd.R_new' ho0 (Kd.R_lt (rmv HO_5.out))) (Kd.R_lt (rmv HO359.out))) (below_size (blw HB.out))); replace HO_5 := Aside0.mk (Kd.R_elder' (rmv HO_5.out) (Kd.R_base ho0) hb); replace HO359 := Aside0.mk (Kd.R_elder' (rmv HO359.out) (Kd.R_base ho0) hb); replace HB := sB HB hb; (try clear hb); (try clear hb2); (try clear hk); (try clear hi); (try clear ho0); obtain ⟨Ao35, co35, eo35⟩ := Kd.R_slice HO359.out; subst eo35) | (refine goesC 54 Tryd.func17 #[.slice Ao35 t356.length co35, .int .i64 a1] ?_; (with_reducible refine (facts_Standing.calls _ _ t356 a1 t364 t365 _ ?side1 ?side2 A25.out).mono ?_); (case side1 => repeat (first | exact (Kd.R_reads' HO359.out).2.2 | (with_reducible refine Kd.C_alloc ?_ _) | (with_reducible refine Kd.C_drewN ?_ _) | (with_reducible refine Kd.C_drew ?_))); (case side2 => exact (Kd.R_reads' HO359.out).2.1); rintro e w36 ⟨v366, rfl, ho0, hb⟩; refine ⟨_, rfl, ?_⟩; have HO367 := Aside0.mk (Kd.R_lower (Kd.R_new' (Kd.R_new' (Kd.R_new' ho0 (Kd.R_lt (rmv HO_5.out))) (Kd.R_lt (rmv HO359.out))) (Kd.R_lt (rmv HO363.out))) (below_size (blw HB.out))); replace HO_5 := Aside0.mk (Kd.R_elder' (rmv HO_5.out) (Kd.R_base ho0) hb); replace HO359 := Aside0.mk (Kd.R_elder' (rmv HO359.out) (Kd.R_base ho0) hb); replace HO363 := Aside0.mk (Kd.R_elder' (rmv HO363.out) (Kd.R_base ho0) hb); replace HB := sB HB hb; (try clear hb); (try clear hb2); (try clear hk); (try clear hi); (try clear ho0); obtain ⟨Ao37, co37, eo37⟩ := Kd.R_slice HO363.out; subst eo37) | (go_at_call 16; (with_reducible refine (fastiref46_Same.calls k2 _ _ t356 _ _ t360 true _ ?side1 ?side2 ?side3 ?side4 A29.out).mono ?_); (case side1 => repeat (first | exact (Kd.R_reads' HO359.out).2.2 | (with_reducible refine Kd.C_alloc ?_ _) | (with_reducible refine Kd.C_drewN ?_ _) | (with_reducible refine Kd.C_drew ?_))); (case side2 => exact (Kd.R_reads' HO359.out).2.1); (case side3 => repeat (first | exact (Kd.R_reads' HO363.out).2.2 | (with_reducible refine Kd.C_alloc ?_ _) | (with_reducible refine Kd.C_drewN ?_ _) | (with_reducible refine Kd.C_drew ?_))); (case side4 => exact (Kd.R_reads' HO363.out).2.1); rintro e w' ⟨rfl, ⟨nd, rfl⟩⟩; obtain ⟨Ao38, co38, eo38⟩ := Kd.R_slice HO367.out; subst eo38) | (go_at_call 16; (with_reducible refine (fastiref46_Same.calls k2 _ _ t356 _ _ t364 t369 _ ?side1 ?side2 ?side3 ?side4 A31.out).mono ?_); (case side1 => repeat (first | exact (Kd.R_reads' HO359.out).2.2 | (with_reducible refine Kd.C_alloc ?_ _) | (with_reducible refine Kd.C_drewN ?_ _) | (with_reducible refine Kd.C_drew ?_))); (case side2 => exact (Kd.R_reads' HO359.out).2.1); (case side3 => repeat (first | exact (Kd.R_reads' HO367.out).2.2 | (with_reducible refine Kd.C_alloc ?_ _) | (with_reducible refine Kd.C_drewN ?_ _) | (with_reducible refine Kd.C_drew ?_))); (case side4 => exact (Kd.R_reads' HO367.out).2.1); rintro e w' ⟨rfl, ⟨nd, rfl⟩⟩))
          go_ret
          exact ⟨by first | rfl | (simp [errW_none, errW_some] <;> rfl) | (simp [*, errW_none, errW_some] <;> rfl), blw HB.out⟩
         ·replace c30 := Bool.eq_false_iff.mpr c30
          subst c30
          have H1 : (none) = some r := by rw [if_neg (show ¬ (false = true) by decide)] at H; exact H
          clear H; have H := H1; clear H1
          exact absurd H (by simp)
        ·rw [if_neg c28] at H
         exact absurd H (by simp)
       ·rw [if_neg c27] at H
        exact absurd H (by simp)
      ·rw [if_neg c26] at H
       exact absurd H (by simp)
end Go.Proofs.YtebfcckaicgcfaaDoor.Q
