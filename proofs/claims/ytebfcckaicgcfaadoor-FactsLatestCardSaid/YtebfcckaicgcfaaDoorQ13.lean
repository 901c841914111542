/- Functions of the translation as plain Lean functions, and proofs that the calls do what these say; written by a program of this session round the kit's print. -/
import Derived.Test.YtebfcckaicgcfaaDoorQ0
import Derived.Test.YtebfcckaicgcfaaDoorAidB
import Derived.Test.YtebfcckaicgcfaaDoorAidC
import Derived.Test.YtebfcckaicgcfaaDoorQ6
import Derived.Test.YtebfcckaicgcfaaDoorQ9
import Derived.Test.YtebfcckaicgcfaaDoorQ12
import Derived.Test.YtebfcckaicgcfaaDoorFDu
import Derived.Test.YtebfcckaicgcfaaDoorFSt
namespace Go.Proofs.YtebfcckaicgcfaaDoor.Q
open Go.RowKit Go.Proofs.YtebfcckaicgcfaaDoorW.PrintWords Go.Proofs.YtebfcckaicgcfaaDoorW.PrintLast Go.Proofs.YtebfcckaicgcfaaDoorW.PrintMore
attribute [local go_sem] max2_int min2_int max_two min_two max_three min_three max_four min_four   -- for this text's walks alone
set_option linter.unusedVariables false
set_option linter.unusedSimpArgs false

/-! ### fastiref46_Standing: function 18 -/
def fastiref46_Standing.l0 : Nat → List (S24) → Int → List (S24) → Int → Option ((List (S24)) × Int)
  | 0, _, _, _, _ => none
  | k + 1, x0, x1, x7, x8 => if x8 < (x0.length : Int) then (if 0 ≤ x8 then ((fastiref46_stands.f k x0 ((rd_T24 x0 x8).f0) ((rd_T24 x0 x8).f1) ((rd_T24 x0 x8).f2) ((rd_T24 x0 x8).f3) ((rd_T24 x0 x8).f4) ((rd_T24 x0 x8).f5) ((rd_T24 x0 x8).f6) ((rd_T24 x0 x8).f7) ((rd_T24 x0 x8).f8) x1).bind fun t266 => (if t266 = true then (if x7.length < 1954687338268 then (fastiref46_Standing.l0 k x0 x1 (x7 ++ [(⟨(rd_T24 x0 x8).f0, (rd_T24 x0 x8).f1, (rd_T24 x0 x8).f2, (rd_T24 x0 x8).f3, (rd_T24 x0 x8).f4, (rd_T24 x0 x8).f5, (rd_T24 x0 x8).f6, (rd_T24 x0 x8).f7, (rd_T24 x0 x8).f8⟩ : S24)]) (wrap64 (x8 + 1))) else (none)) else (fastiref46_Standing.l0 k x0 x1 x7 (wrap64 (x8 + 1))))) else (none)) else (some (x7, 0))
def fastiref46_Standing.f (k : Nat) (l0 : List (S24)) (a1 : Int) : Option ((List (S24)) × Int) := (fastiref46_Check.f k l0).bind fun t260 => (if t260 = 0 then ((fastiref46_Moment.f a1).bind fun t261 => (if t261 = true then (fastiref46_Standing.l0 k l0 a1 (([] : List (S24))) 0) else (some (([] : List (S24)), 1)))) else (some (([] : List (S24)), t260)))
theorem fastiref46_Standing.mono_l : ∀ k, (∀ y0 y1 y2 y3, LeO (fastiref46_Standing.l0 k y0 y1 y2 y3) (fastiref46_Standing.l0 (k + 1) y0 y1 y2 y3))
  | 0 => fun _ _ _ _ r h => by simp [fastiref46_Standing.l0] at h
  | k + 1 => by
    have ih0 := fastiref46_Standing.mono_l k
    · intro y0 y1 y2 y3
      unfold fastiref46_Standing.l0
      repeat' first
      | (with_reducible exact ih0 _ _ _ _)
      | (with_reducible exact fastiref46_Check.mono _ _)
      | (with_reducible exact fastiref46_stands.mono _ _ _ _ _ _ _ _ _ _ _ _)
      | (with_reducible exact LeO.refl _)
      | (with_reducible exact LeO.none _)
      | (with_reducible refine LeO.ite ?_ ?_)
      | (with_reducible refine LeO.bind ?_ (fun _ => ?_))
      | exact ih0 _ _ _ _
      | exact fastiref46_Check.mono _ _
      | exact fastiref46_stands.mono _ _ _ _ _ _ _ _ _ _ _ _
      | exact LeO.none _
      | refine LeO.ite ?_ ?_
      | refine LeO.bind ?_ (fun _ => ?_)
theorem fastiref46_Standing.mono : ∀ a0 a1 k, LeO (fastiref46_Standing.f k a0 a1) (fastiref46_Standing.f (k + 1) a0 a1) := by
  intro a0 a1 k
  have ih0 := fastiref46_Standing.mono_l k
  unfold fastiref46_Standing.f
  repeat' first
      | (with_reducible exact ih0 _ _ _ _)
      | (with_reducible exact fastiref46_Check.mono _ _)
      | (with_reducible exact fastiref46_stands.mono _ _ _ _ _ _ _ _ _ _ _ _)
      | (with_reducible exact LeO.refl _)
      | (with_reducible exact LeO.none _)
      | (with_reducible refine LeO.ite ?_ ?_)
      | (with_reducible refine LeO.bind ?_ (fun _ => ?_))
      | exact ih0 _ _ _ _
      | exact fastiref46_Check.mono _ _
      | exact fastiref46_stands.mono _ _ _ _ _ _ _ _ _ _ _ _
      | exact LeO.none _
      | refine LeO.ite ?_ ?_
      | refine LeO.bind ?_ (fun _ => ?_)
set_option maxHeartbeats 8000000 in
set_option maxRecDepth 100000 in
theorem fastiref46_Standing.calls (k : Nat) (A0 : Option Addr) (c0 : Nat) (l0 : List (S24)) (a1 : Int) (r1 : List (S24)) (r2 : Int) (w : World) (hr0 : Kd.C k24 w A0 l0.length l0) (hc0 : l0.length ≤ c0) (h : fastiref46_Standing.f k l0 a1 = some (r1, r2)) :
    Calls Tryd.prog 18 #[.slice A0 l0.length c0, .int .i64 a1] w fun e w' => ∃ v0_ : Value, e = .returned (.tuple #[v0_, .int .i64 r2]) ∧ Kd.R k24 24 w' w.heap.size (fun _ => True) v0_ r1 ∧ Below w.heap.size w w' := by
 have hu24 := Tryd.underlying24; have HR0 := Aside0.mk hr0; have HC0 := Aside0.mk hc0; clear hr0 hc0; have HB := Aside0.mk (Below.refl w.heap.size w); have H : ((fastiref46_Check.f k l0).bind fun t260 => (if t260 = 0 then ((fastiref46_Moment.f a1).bind fun t261 => (if t261 = true then (fastiref46_Standing.l0 k l0 a1 (([] : List (S24))) 0) else (some (([] : List (S24)), 1)))) else (some (([] : List (S24)), t260)))) = some (r1, r2) := h; clear h; replace H := Option.bind_eq_some_iff.mp H; obtain ⟨t260, A30, H⟩ := H; replace H : (if t260 = 0 then ((fastiref46_Moment.f a1).bind fun t261 => (if t261 = true then (fastiref46_Standing.l0 k l0 a1 (([] : List (S24))) 0) else (some (([] : List (S24)), 1)))) else (some (([] : List (S24)), t260))) = some (r1, r2) := H; have A3 := Aside0.mk A30; clear A30
 by_cases c4 : t260 = 0
 rotate_left
 ·rw [if_neg c4] at H
  have c4b0 : (t260 == 0) = false := beq_eq_false_iff_ne.mpr c4; have c4b1 : (t260 != 0) = true := bne_iff_ne.mpr c4
  simp only [Option.some.injEq, Prod.mk.injEq] at H
  obtain ⟨rfl, rfl⟩ := H
  go_enter Tryd.func18, Tryd.ntmps18
  go_wp2_with (first | (refine goesC 10 Tryd.func15 #[.slice A0 l0.length c0] ?_; (with_reducible refine (fastiref46_Check.calls k _ _ l0 t260 _ ?side1 ?side2 A3.out).mono ?_); (case side1 => exact cH HR0); (case side2 => exact HC0.out); rintro e w19 ⟨rfl, hb⟩; refine ⟨_, rfl, ?_⟩; replace HB := sB HB hb; (try clear hb); (try clear hb2); (try clear hk); (try clear hi)))
  go_ret2
  exact ⟨_, by first | rfl | (simp [errW_none, errW_some] <;> rfl) | (simp [*, errW_none, errW_some] <;> rfl), by first | exact Kd.R_nil _ _ _ _ _ | exact Kd.N_nil _ _ _ _ _ | exact Kd.V_nil _ _ _ _ _ | exact Kd.Q_nil _ _ _ _ _ | exact Kd.S_nil _ _ _ _ _, blw HB.out⟩
 rw [if_pos c4] at H; have c4b0 : (t260 == 0) = true := beq_iff_eq.mpr c4; have c4b1 : (t260 != 0) = false := bne_eq_false_iff_eq.mpr c4; clear c4; replace H := Option.bind_eq_some_iff.mp H; obtain ⟨t261, A50, H⟩ := H; replace H : (if t261 = true then (fastiref46_Standing.l0 k l0 a1 (([] : List (S24))) 0) else (some (([] : List (S24)), 1))) = some (r1, r2) := H; have A5 := Aside0.mk A50; clear A50
 by_cases c6 : t261 = true
 rotate_left
 ·replace c6 := Bool.eq_false_iff.mpr c6
  subst c6
  have H1 : (some (([] : List (S24)), 1)) = some (r1, r2) := by rw [if_neg (show ¬ (false = true) by decide)] at H; exact H
  clear H; have H := H1; clear H1
  simp only [Option.some.injEq, Prod.mk.injEq] at H
  obtain ⟨rfl, rfl⟩ := H
  go_enter Tryd.func18, Tryd.ntmps18
  go_wp2_with (first | (refine goesC 10 Tryd.func15 #[.slice A0 l0.length c0] ?_; (with_reducible refine (fastiref46_Check.calls k _ _ l0 t260 _ ?side1 ?side2 A3.out).mono ?_); (case side1 => exact cH HR0); (case side2 => exact HC0.out); rintro e w18 ⟨rfl, hb⟩; refine ⟨_, rfl, ?_⟩; replace HB := sB HB hb; (try clear hb); (try clear hb2); (try clear hk); (try clear hi)) | (refine goesC 15 Tryd.func22 #[.int .i64 a1] ?_; (with_reducible refine (fastiref46_Moment.calls a1 false _ A5.out).mono ?_); rintro e w' ⟨rfl, ⟨nd, rfl⟩⟩; refine ⟨_, rfl, ?_⟩))
  go_ret2
  exact ⟨_, by first | rfl | (simp [errW_none, errW_some] <;> rfl) | (simp [*, errW_none, errW_some] <;> rfl), by first | exact Kd.R_nil _ _ _ _ _ | exact Kd.N_nil _ _ _ _ _ | exact Kd.V_nil _ _ _ _ _ | exact Kd.Q_nil _ _ _ _ _ | exact Kd.S_nil _ _ _ _ _, blw HB.out⟩
 subst c6
 have H1 : (fastiref46_Standing.l0 k l0 a1 (([] : List (S24))) 0) = some (r1, r2) := by rw [if_pos rfl] at H; exact H
 clear H; have H := H1; clear H1; obtain ⟨y262, hy262⟩ : ∃ y_ : List (S24), y_ = (([] : List (S24))) := ⟨_, rfl⟩
 replace H : (fastiref46_Standing.l0 k l0 a1 y262 0) = some (r1, r2) := by first | (rw [hy262]; with_reducible exact H) | (have H2_ := (Option.bind_some _ _).symm.trans H; rw [hy262]; with_reducible exact H2_) | (have H2_ := (Option.bind_some _ _).symm.trans H; with_reducible exact H2_) | with_reducible exact H | (rw [hy262]; exact H) | exact H
 have Ny262 := Aside0.mk hy262; clear hy262; have H' := Aside0.mk H; clear H
 go_enter Tryd.func18, Tryd.ntmps18
 go_wp2_with (first | (refine goesC 10 Tryd.func15 #[.slice A0 l0.length c0] ?_; (with_reducible refine (fastiref46_Check.calls k _ _ l0 t260 _ ?side1 ?side2 A3.out).mono ?_); (case side1 => exact cH HR0); (case side2 => exact HC0.out); rintro e w7 ⟨rfl, hb⟩; refine ⟨_, rfl, ?_⟩; replace HB := sB HB hb; (try clear hb); (try clear hb2); (try clear hk); (try clear hi)) | (refine goesC 15 Tryd.func22 #[.int .i64 a1] ?_; (with_reducible refine (fastiref46_Moment.calls a1 true _ A5.out).mono ?_); rintro e w' ⟨rfl, ⟨nd, rfl⟩⟩; refine ⟨_, rfl, ?_⟩) | ((with_reducible refine gate_dst (N := 17) rfl ?_); refine Kd.R_lit k24 _ 24 ?hg (N := 17) ?hd (xs := ([] : List (S24))) (inner := []) (ok := fun _ => True) (okp := fun _ => True) ?hr ?hp (fun _ hk => hk) trivial (Below.refl _ _) (Nat.le_refl _) (by simp) ?_; (case hd => rfl); (case hg => rfl); (case hr => first | (go_simp; done) | (go_simp; rfl)); (case hp => exact (Reps.none _ _)); intro v263 w8 ho9 hb hg_ hnew_; clear hg_ hnew_; (first | rw [← Ny262.out] at ho9 | (simp only [Int.reduceToNat] at ho9; rw [← Ny262.out] at ho9)); have HO264 := Aside0.mk (Kd.R_lower ho9 (below_size (blw HB.out))); replace HB := sB HB hb; clear hb ho9))
 go_loopg [7, 8] k (fun kq v7 v8 w' => ∃ (x7_1 : List (S24)) (x8_1 : Int), v8 = .int .i64 x8_1 ∧ Aside0 (fastiref46_Standing.l0 kq l0 a1 x7_1 x8_1 = some (r1, r2)) ∧ Aside0 (kq ≤ k) ∧ Aside0 (Kd.R k24 24 w' w.heap.size (fun _ => True) v7 x7_1) ∧ Aside0 (Below w.heap.size w w'))
 case atStart => exact ⟨(y262), (0), (by first | rfl | (simp; done) | (simp [*]; done)), H', ⟨Nat.le_refl _⟩, ⟨rmv HO264.out⟩, ⟨blw HB.out⟩⟩
 clear H'; (try clear c1); (try clear c2); (try clear p2); (try clear c4); (try clear c4b0); (try clear c4b1); (try clear c6); obtain ⟨x7_1, x8_1, rfl, HA, HK1, HO_7, HB⟩ := hrel
 cases gk with
 | zero => exact absurd HA.out (by simp [fastiref46_Standing.l0])
 | succ k1 =>
   have H := HA.out; clear HA
   simp only [fastiref46_Standing.l0] at H
   by_cases c10 : x8_1 < (l0.length : Int)
   · rw [if_pos c10] at H
     have c10b0 : decide (x8_1 < (l0.length : Int)) = true := decide_eq_true c10; clear c10
     by_cases c11 : 0 ≤ x8_1
     · rw [if_pos c11] at H
       have c11b0 : decide (0 ≤ x8_1) = true := decide_eq_true c11; clear c11; replace H := Option.bind_eq_some_iff.mp H; obtain ⟨t266, A120, H⟩ := H; replace H : (if t266 = true then (if x7_1.length < 1954687338268 then (fastiref46_Standing.l0 k1 l0 a1 (x7_1 ++ [(⟨(rd_T24 l0 x8_1).f0, (rd_T24 l0 x8_1).f1, (rd_T24 l0 x8_1).f2, (rd_T24 l0 x8_1).f3, (rd_T24 l0 x8_1).f4, (rd_T24 l0 x8_1).f5, (rd_T24 l0 x8_1).f6, (rd_T24 l0 x8_1).f7, (rd_T24 l0 x8_1).f8⟩ : S24)]) (wrap64 (x8_1 + 1))) else (none)) else (fastiref46_Standing.l0 k1 l0 a1 x7_1 (wrap64 (x8_1 + 1)))) = some (r1, r2) := H; have A12 := Aside0.mk A120; clear A120
       by_cases c13 : t266 = true
       · subst c13
         have H1 : (if x7_1.length < 1954687338268 then (fastiref46_Standing.l0 k1 l0 a1 (x7_1 ++ [(⟨(rd_T24 l0 x8_1).f0, (rd_T24 l0 x8_1).f1, (rd_T24 l0 x8_1).f2, (rd_T24 l0 x8_1).f3, (rd_T24 l0 x8_1).f4, (rd_T24 l0 x8_1).f5, (rd_T24 l0 x8_1).f6, (rd_T24 l0 x8_1).f7, (rd_T24 l0 x8_1).f8⟩ : S24)]) (wrap64 (x8_1 + 1))) else (none)) = some (r1, r2) := by rw [if_pos rfl] at H; exact H
         clear H; have H := H1; clear H1
         by_cases c14 : x7_1.length < 1954687338268
         · rw [if_pos c14] at H
           have LMc14 := Aside0.mk c14; clear c14; obtain ⟨y268, hy268⟩ : ∃ y_ : List (S24), y_ = (x7_1 ++ [(⟨(rd_T24 l0 x8_1).f0, (rd_T24 l0 x8_1).f1, (rd_T24 l0 x8_1).f2, (rd_T24 l0 x8_1).f3, (rd_T24 l0 x8_1).f4, (rd_T24 l0 x8_1).f5, (rd_T24 l0 x8_1).f6, (rd_T24 l0 x8_1).f7, (rd_T24 l0 x8_1).f8⟩ : S24)]) := ⟨_, rfl⟩
           replace H : (fastiref46_Standing.l0 k1 l0 a1 y268 (wrap64 (x8_1 + 1))) = some (r1, r2) := by first | (rw [hy268]; with_reducible exact H) | (have H2_ := (Option.bind_some _ _).symm.trans H; rw [hy268]; with_reducible exact H2_) | (have H2_ := (Option.bind_some _ _).symm.trans H; with_reducible exact H2_) | with_reducible exact H | (rw [hy268]; exact H) | exact H
           have Ny268 := Aside0.mk hy268; clear hy268; have H' := Aside0.mk H; clear H; have p265 : 0 ≤ (x8_1 : Int) := of_decide_eq_true (by first | (with_reducible assumption) | assumption); have q265 : x8_1 < (l0.length : Int) := of_decide_eq_true (by first | (with_reducible assumption) | assumption); obtain ⟨ad265, e265, hx265_0, hx265_1, hx265_2, hx265_3, hx265_4, hx265_5, hx265_6, hx265_7, hx265_8⟩ := at_T24 HR0.out x8_1 p265 q265; cases e265; replace hx265_0 := (HB.out.cell (World.block_lt_of_cell? w _ hx265_0)).trans hx265_0; replace hx265_1 := (HB.out.cell (World.block_lt_of_cell? w _ hx265_1)).trans hx265_1; replace hx265_2 := (HB.out.cell (World.block_lt_of_cell? w _ hx265_2)).trans hx265_2; replace hx265_3 := (HB.out.cell (World.block_lt_of_cell? w _ hx265_3)).trans hx265_3; replace hx265_4 := (HB.out.cell (World.block_lt_of_cell? w _ hx265_4)).trans hx265_4; replace hx265_5 := (HB.out.cell (World.block_lt_of_cell? w _ hx265_5)).trans hx265_5; replace hx265_6 := (HB.out.cell (World.block_lt_of_cell? w _ hx265_6)).trans hx265_6; replace hx265_7 := (HB.out.cell (World.block_lt_of_cell? w _ hx265_7)).trans hx265_7; replace hx265_8 := (HB.out.cell (World.block_lt_of_cell? w _ hx265_8)).trans hx265_8; replace p265 := eq_true p265; replace q265 := eq_true q265
           go_wp2_with (first | (refine goesC 30 Tryd.func32 #[.slice (some ad265) l0.length c0, .agg #[.int .i64 ((rd_T24 l0 x8_1).f0), .int .i64 ((rd_T24 l0 x8_1).f1), .int .i64 ((rd_T24 l0 x8_1).f2), .int .i64 ((rd_T24 l0 x8_1).f3), .int .i64 ((rd_T24 l0 x8_1).f4), .int .i64 ((rd_T24 l0 x8_1).f5), .int .i64 ((rd_T24 l0 x8_1).f6), .int .i64 ((rd_T24 l0 x8_1).f7), .int .i64 ((rd_T24 l0 x8_1).f8)], .int .i64 a1] ?_; (with_reducible refine (fastiref46_stands.calls k1 _ _ l0 ((rd_T24 l0 x8_1).f0) ((rd_T24 l0 x8_1).f1) ((rd_T24 l0 x8_1).f2) ((rd_T24 l0 x8_1).f3) ((rd_T24 l0 x8_1).f4) ((rd_T24 l0 x8_1).f5) ((rd_T24 l0 x8_1).f6) ((rd_T24 l0 x8_1).f7) ((rd_T24 l0 x8_1).f8) a1 true _ ?side1 ?side2 A12.out).mono ?_); (case side1 => exact cB HR0 HB); (case side2 => exact HC0.out); rintro e w15 ⟨rfl, hb⟩; refine ⟨_, rfl, ?_⟩; replace HO_7 := Aside0.mk (Kd.R_below (rmv HO_7.out) hb); replace HB := sB HB hb; (try clear hb); (try clear hb2); (try clear hk); (try clear hi); have p267 : 0 ≤ (x8_1 : Int) := of_decide_eq_true (by first | (with_reducible assumption) | assumption); have q267 : x8_1 < (l0.length : Int) := of_decide_eq_true (by first | (with_reducible assumption) | assumption); obtain ⟨ad267, e267, hx267_0, hx267_1, hx267_2, hx267_3, hx267_4, hx267_5, hx267_6, hx267_7, hx267_8⟩ := at_T24 HR0.out x8_1 p267 q267; obtain rfl : ad265 = ad267 := (by injection e267); replace hx267_0 := (HB.out.cell (World.block_lt_of_cell? w _ hx267_0)).trans hx267_0; replace hx267_1 := (HB.out.cell (World.block_lt_of_cell? w _ hx267_1)).trans hx267_1; replace hx267_2 := (HB.out.cell (World.block_lt_of_cell? w _ hx267_2)).trans hx267_2; replace hx267_3 := (HB.out.cell (World.block_lt_of_cell? w _ hx267_3)).trans hx267_3; replace hx267_4 := (HB.out.cell (World.block_lt_of_cell? w _ hx267_4)).trans hx267_4; replace hx267_5 := (HB.out.cell (World.block_lt_of_cell? w _ hx267_5)).trans hx267_5; replace hx267_6 := (HB.out.cell (World.block_lt_of_cell? w _ hx267_6)).trans hx267_6; replace hx267_7 := (HB.out.cell (World.block_lt_of_cell? w _ hx267_7)).trans hx267_7; replace hx267_8 := (HB.out.cell (World.block_lt_of_cell? w _ hx267_8)).trans hx267_8; replace p267 := eq_true p267; replace q267 := eq_true q267) | ((with_reducible refine gate_builtin (b := .append) (xs := #[.tmp 31, .tmp 36]) rfl ?_); at_builtin; refine Kd.R_append k24 (w0 := w) w.heap.size rfl (.tmp 31) (.tmp 36) 22 24 (.agg #[(.int .i64 0), (.int .i64 0), (.int .i64 0), (.int .i64 0), (.int .i64 0), (.int .i64 0), (.int .i64 0), (.int .i64 0), (.int .i64 0)]) 72 rfl Tryd.underlying22 info24 rfl (by decide) (by omega) u7 x7_1 (⟨(rd_T24 l0 x8_1).f0, (rd_T24 l0 x8_1).f1, (rd_T24 l0 x8_1).f2, (rd_T24 l0 x8_1).f3, (rd_T24 l0 x8_1).f4, (rd_T24 l0 x8_1).f5, (rd_T24 l0 x8_1).f6, (rd_T24 l0 x8_1).f7, (rd_T24 l0 x8_1).f8⟩ : S24) [.int .i64 ((rd_T24 l0 x8_1).f0), .int .i64 ((rd_T24 l0 x8_1).f1), .int .i64 ((rd_T24 l0 x8_1).f2), .int .i64 ((rd_T24 l0 x8_1).f3), .int .i64 ((rd_T24 l0 x8_1).f4), .int .i64 ((rd_T24 l0 x8_1).f5), .int .i64 ((rd_T24 l0 x8_1).f6), .int .i64 ((rd_T24 l0 x8_1).f7), .int .i64 ((rd_T24 l0 x8_1).f8)] (fun _ => True) (fun _ => False) rfl rfl ?aP (fun _ hk => hk.elim) ?aF ?aO ?aB ?aS ?aL ?_; (case aP => exact k24_mkM _ _ _ (⟨(rd_T24 l0 x8_1).f0, (rd_T24 l0 x8_1).f1, (rd_T24 l0 x8_1).f2, (rd_T24 l0 x8_1).f3, (rd_T24 l0 x8_1).f4, (rd_T24 l0 x8_1).f5, (rd_T24 l0 x8_1).f6, (rd_T24 l0 x8_1).f7, (rd_T24 l0 x8_1).f8⟩ : S24)); (case aB => exact (blw HB.out)); (case aF => exact (fun _ _ => trivial)); (case aO => exact (rmv HO_7.out)); (case aS => exact (below_size (blw HB.out))); (case aL => have := LMc14.out; omega); intro v269 w16 ho hb hg hat; rw [← Ny268.out] at ho; replace HB := Aside0.mk (hb); have HO270 := Aside0.mk (ho); clear HO_7; clear ho hb hg hat))
           go_roundg k1
           case measure => have := HK1.out; omega
           case rel => exact ⟨(y268), (wrap64 (x8_1 + 1)), (by first | rfl | (simp; done) | (simp [*]; done)), H', ⟨by have := HK1.out; omega⟩, ⟨rmv HO270.out⟩, ⟨blw HB.out⟩⟩
         · rw [if_neg c14] at H
           exact absurd H (by simp)
       · replace c13 := Bool.eq_false_iff.mpr c13
         subst c13
         have H1 : (fastiref46_Standing.l0 k1 l0 a1 x7_1 (wrap64 (x8_1 + 1))) = some (r1, r2) := by rw [if_neg (show ¬ (false = true) by decide)] at H; exact H
         clear H; have H := H1; clear H1; have H' := Aside0.mk H; clear H; have p265 : 0 ≤ (x8_1 : Int) := of_decide_eq_true (by first | (with_reducible assumption) | assumption); have q265 : x8_1 < (l0.length : Int) := of_decide_eq_true (by first | (with_reducible assumption) | assumption); obtain ⟨ad265, e265, hx265_0, hx265_1, hx265_2, hx265_3, hx265_4, hx265_5, hx265_6, hx265_7, hx265_8⟩ := at_T24 HR0.out x8_1 p265 q265; cases e265; replace hx265_0 := (HB.out.cell (World.block_lt_of_cell? w _ hx265_0)).trans hx265_0; replace hx265_1 := (HB.out.cell (World.block_lt_of_cell? w _ hx265_1)).trans hx265_1; replace hx265_2 := (HB.out.cell (World.block_lt_of_cell? w _ hx265_2)).trans hx265_2; replace hx265_3 := (HB.out.cell (World.block_lt_of_cell? w _ hx265_3)).trans hx265_3; replace hx265_4 := (HB.out.cell (World.block_lt_of_cell? w _ hx265_4)).trans hx265_4; replace hx265_5 := (HB.out.cell (World.block_lt_of_cell? w _ hx265_5)).trans hx265_5; replace hx265_6 := (HB.out.cell (World.block_lt_of_cell? w _ hx265_6)).trans hx265_6; replace hx265_7 := (HB.out.cell (World.block_lt_of_cell? w _ hx265_7)).trans hx265_7; replace hx265_8 := (HB.out.cell (World.block_lt_of_cell? w _ hx265_8)).trans hx265_8; replace p265 := eq_true p265; replace q265 := eq_true q265
         go_wp2_with (first | (refine goesC 30 Tryd.func32 #[.slice (some ad265) l0.length c0, .agg #[.int .i64 ((rd_T24 l0 x8_1).f0), .int .i64 ((rd_T24 l0 x8_1).f1), .int .i64 ((rd_T24 l0 x8_1).f2), .int .i64 ((rd_T24 l0 x8_1).f3), .int .i64 ((rd_T24 l0 x8_1).f4), .int .i64 ((rd_T24 l0 x8_1).f5), .int .i64 ((rd_T24 l0 x8_1).f6), .int .i64 ((rd_T24 l0 x8_1).f7), .int .i64 ((rd_T24 l0 x8_1).f8)], .int .i64 a1] ?_; (with_reducible refine (fastiref46_stands.calls k1 _ _ l0 ((rd_T24 l0 x8_1).f0) ((rd_T24 l0 x8_1).f1) ((rd_T24 l0 x8_1).f2) ((rd_T24 l0 x8_1).f3) ((rd_T24 l0 x8_1).f4) ((rd_T24 l0 x8_1).f5) ((rd_T24 l0 x8_1).f6) ((rd_T24 l0 x8_1).f7) ((rd_T24 l0 x8_1).f8) a1 false _ ?side1 ?side2 A12.out).mono ?_); (case side1 => exact cB HR0 HB); (case side2 => exact HC0.out); rintro e w17 ⟨rfl, hb⟩; refine ⟨_, rfl, ?_⟩; replace HO_7 := Aside0.mk (Kd.R_below (rmv HO_7.out) hb); replace HB := sB HB hb; (try clear hb); (try clear hb2); (try clear hk); (try clear hi)))
         go_roundg k1
         case measure => have := HK1.out; omega
         case rel => exact ⟨(x7_1), (wrap64 (x8_1 + 1)), (by first | rfl | (simp; done) | (simp [*]; done)), H', ⟨by have := HK1.out; omega⟩, ⟨rmv HO_7.out⟩, ⟨blw HB.out⟩⟩
     · rw [if_neg c11] at H
       exact absurd H (by simp)
   · rw [if_neg c10] at H
     have c10b0 : decide (x8_1 < (l0.length : Int)) = false := decide_eq_false c10; clear c10
     simp only [Option.some.injEq, Prod.mk.injEq] at H
     obtain ⟨rfl, rfl⟩ := H
     go_wp2
     go_ret2
     exact ⟨_, by first | rfl | (simp [errW_none, errW_some] <;> rfl) | (simp [*, errW_none, errW_some] <;> rfl), by (with_reducible repeat (first | apply Kd.R_alloc | apply Kd.R_drewN | apply Kd.R_drew)); exact HO_7.out, blw HB.out⟩

/-! ### fastiref46_Due: function 20 -/
def fastiref46_Due.l0 : Nat → Int → Int → List (S24) → Int → Option ((List (S24)) × Int)
  | 0, _, _, _, _ => none
  | k + 1, x1, x2, x9, x10 => if x10 < (x9.length : Int) then (if 0 ≤ x10 then (if ((rd_T24 x9 x10).f0) = x1 then (some ((x9.set (x10 : Int).toNat (⟨(rd_T24 x9 x10).f0, (rd_T24 x9 x10).f1, (rd_T24 x9 x10).f2, (rd_T24 x9 x10).f3, (rd_T24 x9 x10).f4, (rd_T24 x9 x10).f5, (rd_T24 x9 x10).f6, (rd_T24 x9 x10).f7, x2⟩ : S24)), 0)) else (fastiref46_Due.l0 k x1 x2 x9 (wrap64 (x10 + 1)))) else (none)) else (some (([] : List (S24)), 460))
def fastiref46_Due.f (k : Nat) (l0 : List (S24)) (a1 : Int) (a2 : Int) : Option ((List (S24)) × Int) := (fastiref46_Check.f k l0).bind fun t271 => (if t271 = 0 then ((fastiref46_Moment.f a2).bind fun t272 => (if t272 = true then ((some (([] : List (S24)) : List (S24))).bind fun y273 => (if y273.length + l0.length < 1954687338268 then (fastiref46_Due.l0 k a1 a2 (y273 ++ l0) 0) else (none))) else (some (([] : List (S24)), 1)))) else (some (([] : List (S24)), t271)))
theorem fastiref46_Due.mono_l : ∀ k, (∀ y0 y1 y2 y3, LeO (fastiref46_Due.l0 k y0 y1 y2 y3) (fastiref46_Due.l0 (k + 1) y0 y1 y2 y3))
  | 0 => fun _ _ _ _ r h => by simp [fastiref46_Due.l0] at h
  | k + 1 => by
    have ih0 := fastiref46_Due.mono_l k
    · intro y0 y1 y2 y3
      unfold fastiref46_Due.l0
      repeat' first
      | (with_reducible exact ih0 _ _ _ _)
      | (with_reducible exact fastiref46_Check.mono _ _)
      | (with_reducible exact LeO.refl _)
      | (with_reducible exact LeO.none _)
      | (with_reducible refine LeO.ite ?_ ?_)
      | (with_reducible refine LeO.bind ?_ (fun _ => ?_))
      | exact ih0 _ _ _ _
      | exact fastiref46_Check.mono _ _
      | exact LeO.none _
      | refine LeO.ite ?_ ?_
      | refine LeO.bind ?_ (fun _ => ?_)
theorem fastiref46_Due.mono : ∀ a0 a1 a2 k, LeO (fastiref46_Due.f k a0 a1 a2) (fastiref46_Due.f (k + 1) a0 a1 a2) := by
  intro a0 a1 a2 k
  have ih0 := fastiref46_Due.mono_l k
  unfold fastiref46_Due.f
  repeat' first
      | (with_reducible exact ih0 _ _ _ _)
      | (with_reducible exact fastiref46_Check.mono _ _)
      | (with_reducible exact LeO.refl _)
      | (with_reducible exact LeO.none _)
      | (with_reducible refine LeO.ite ?_ ?_)
      | (with_reducible refine LeO.bind ?_ (fun _ => ?_))
      | exact ih0 _ _ _ _
      | exact fastiref46_Check.mono _ _
      | exact LeO.none _
      | refine LeO.ite ?_ ?_
      | refine LeO.bind ?_ (fun _ => ?_)
set_option maxHeartbeats 8000000 in
set_option maxRecDepth 100000 in
theorem fastiref46_Due.calls (k : Nat) (A0 : Option Addr) (c0 : Nat) (l0 : List (S24)) (a1 : Int) (a2 : Int) (r1 : List (S24)) (r2 : Int) (w : World) (hr0 : Kd.C k24 w A0 l0.length l0) (hc0 : l0.length ≤ c0) (h : fastiref46_Due.f k l0 a1 a2 = some (r1, r2)) :
    Calls Tryd.prog 20 #[.slice A0 l0.length c0, .int .i64 a1, .int .i64 a2] w fun e w' => ∃ v0_ : Value, e = .returned (.tuple #[v0_, .int .i64 r2]) ∧ Kd.R k24 24 w' w.heap.size (fun _ => True) v0_ r1 ∧ Below w.heap.size w w' := by
 have HR0 := Aside0.mk hr0; have HC0 := Aside0.mk hc0; clear hr0 hc0; have HB := Aside0.mk (Below.refl w.heap.size w); have H : ((fastiref46_Check.f k l0).bind fun t271 => (if t271 = 0 then ((fastiref46_Moment.f a2).bind fun t272 => (if t272 = true then ((some (([] : List (S24)) : List (S24))).bind fun y273 => (if y273.length + l0.length < 1954687338268 then (fastiref46_Due.l0 k a1 a2 (y273 ++ l0) 0) else (none))) else (some (([] : List (S24)), 1)))) else (some (([] : List (S24)), t271)))) = some (r1, r2) := h; clear h; replace H := Option.bind_eq_some_iff.mp H; obtain ⟨t271, A40, H⟩ := H; replace H : (if t271 = 0 then ((fastiref46_Moment.f a2).bind fun t272 => (if t272 = true then ((some (([] : List (S24)) : List (S24))).bind fun y273 => (if y273.length + l0.length < 1954687338268 then (fastiref46_Due.l0 k a1 a2 (y273 ++ l0) 0) else (none))) else (some (([] : List (S24)), 1)))) else (some (([] : List (S24)), t271))) = some (r1, r2) := H; have A4 := Aside0.mk A40; clear A40
 by_cases c5 : t271 = 0
 rotate_left
 ·rw [if_neg c5] at H
  have c5b0 : (t271 == 0) = false := beq_eq_false_iff_ne.mpr c5; have c5b1 : (t271 != 0) = true := bne_iff_ne.mpr c5
  simp only [Option.some.injEq, Prod.mk.injEq] at H
  obtain ⟨rfl, rfl⟩ := H
  go_enter Tryd.func20, Tryd.ntmps20
  go_wp2_with (first | (refine goesC 12 Tryd.func15 #[.slice A0 l0.length c0] ?_; (with_reducible refine (fastiref46_Check.calls k _ _ l0 t271 _ ?side1 ?side2 A4.out).mono ?_); (case side1 => exact cH HR0); (case side2 => exact HC0.out); rintro e w23 ⟨rfl, hb⟩; refine ⟨_, rfl, ?_⟩; replace HB := sB HB hb; (try clear hb); (try clear hb2); (try clear hk); (try clear hi)))
  go_ret2
  exact ⟨_, by first | rfl | (simp [errW_none, errW_some] <;> rfl) | (simp [*, errW_none, errW_some] <;> rfl), by first | exact Kd.R_nil _ _ _ _ _ | exact Kd.N_nil _ _ _ _ _ | exact Kd.V_nil _ _ _ _ _ | exact Kd.Q_nil _ _ _ _ _ | exact Kd.S_nil _ _ _ _ _, blw HB.out⟩
 rw [if_pos c5] at H; have c5b0 : (t271 == 0) = true := beq_iff_eq.mpr c5; have c5b1 : (t271 != 0) = false := bne_eq_false_iff_eq.mpr c5; clear c5; replace H := Option.bind_eq_some_iff.mp H; obtain ⟨t272, A60, H⟩ := H; replace H : (if t272 = true then ((some (([] : List (S24)) : List (S24))).bind fun y273 => (if y273.length + l0.length < 1954687338268 then (fastiref46_Due.l0 k a1 a2 (y273 ++ l0) 0) else (none))) else (some (([] : List (S24)), 1))) = some (r1, r2) := H; have A6 := Aside0.mk A60; clear A60
 by_cases c7 : t272 = true
 rotate_left
 ·replace c7 := Bool.eq_false_iff.mpr c7
  subst c7
  have H1 : (some (([] : List (S24)), 1)) = some (r1, r2) := by rw [if_neg (show ¬ (false = true) by decide)] at H; exact H
  clear H; have H := H1; clear H1
  simp only [Option.some.injEq, Prod.mk.injEq] at H
  obtain ⟨rfl, rfl⟩ := H
  go_enter Tryd.func20, Tryd.ntmps20
  go_wp2_with (first | (refine goesC 12 Tryd.func15 #[.slice A0 l0.length c0] ?_; (with_reducible refine (fastiref46_Check.calls k _ _ l0 t271 _ ?side1 ?side2 A4.out).mono ?_); (case side1 => exact cH HR0); (case side2 => exact HC0.out); rintro e w22 ⟨rfl, hb⟩; refine ⟨_, rfl, ?_⟩; replace HB := sB HB hb; (try clear hb); (try clear hb2); (try clear hk); (try clear hi)) | (refine goesC 17 Tryd.func22 #[.int .i64 a2] ?_; (with_reducible refine (fastiref46_Moment.calls a2 false _ A6.out).mono ?_); rintro e w' ⟨rfl, ⟨nd, rfl⟩⟩; refine ⟨_, rfl, ?_⟩))
  go_ret2
  exact ⟨_, by first | rfl | (simp [errW_none, errW_some] <;> rfl) | (simp [*, errW_none, errW_some] <;> rfl), by first | exact Kd.R_nil _ _ _ _ _ | exact Kd.N_nil _ _ _ _ _ | exact Kd.V_nil _ _ _ _ _ | exact Kd.Q_nil _ _ _ _ _ | exact Kd.S_nil _ _ _ _ _, blw HB.out⟩
 subst c7
 have H1 : ((some (([] : List (S24)) : List (S24))).bind fun y273 => (if y273.length + l0.length < 1954687338268 then (fastiref46_Due.l0 k a1 a2 (y273 ++ l0) 0) else (none))) = some (r1, r2) := by rw [if_pos rfl] at H; exact H
 clear H; have H := H1; clear H1; obtain ⟨y273, hy273⟩ : ∃ y_ : List (S24), y_ = (([] : List (S24))) := ⟨_, rfl⟩
 replace H : (if y273.length + l0.length < 1954687338268 then (fastiref46_Due.l0 k a1 a2 (y273 ++ l0) 0) else (none)) = some (r1, r2) := by first | (rw [hy273]; with_reducible exact H) | (have H2_ := (Option.bind_some _ _).symm.trans H; rw [hy273]; with_reducible exact H2_) | (have H2_ := (Option.bind_some _ _).symm.trans H; with_reducible exact H2_) | with_reducible exact H | (rw [hy273]; exact H) | exact H
 have Ny273 := Aside0.mk hy273; clear hy273
 by_cases c8 : y273.length + l0.length < 1954687338268
 rotate_left
 ·rw [if_neg c8] at H
  exact absurd H (by simp)
 rw [if_pos c8] at H; have LMc8 := Aside0.mk c8; clear c8; obtain ⟨y276, hy276⟩ : ∃ y_ : List (S24), y_ = (y273 ++ l0) := ⟨_, rfl⟩
 replace H : (fastiref46_Due.l0 k a1 a2 y276 0) = some (r1, r2) := by first | (rw [hy276]; with_reducible exact H) | (have H2_ := (Option.bind_some _ _).symm.trans H; rw [hy276]; with_reducible exact H2_) | (have H2_ := (Option.bind_some _ _).symm.trans H; with_reducible exact H2_) | with_reducible exact H | (rw [hy276]; exact H) | exact H
 have Ny276 := Aside0.mk hy276; clear hy276; have H' := Aside0.mk H; clear H
 go_enter Tryd.func20, Tryd.ntmps20
 go_wp2_with (first | (refine goesC 12 Tryd.func15 #[.slice A0 l0.length c0] ?_; (with_reducible refine (fastiref46_Check.calls k _ _ l0 t271 _ ?side1 ?side2 A4.out).mono ?_); (case side1 => exact cH HR0); (case side2 => exact HC0.out); rintro e w9 ⟨rfl, hb⟩; refine ⟨_, rfl, ?_⟩; replace HB := sB HB hb; (try clear hb); (try clear hb2); (try clear hk); (try clear hi)) | (refine goesC 17 Tryd.func22 #[.int .i64 a2] ?_; (with_reducible refine (fastiref46_Moment.calls a2 true _ A6.out).mono ?_); rintro e w' ⟨rfl, ⟨nd, rfl⟩⟩; refine ⟨_, rfl, ?_⟩) | ((with_reducible refine gate_dst (N := 19) rfl ?_); refine Kd.R_lit k24 _ 24 ?hg (N := 19) ?hd (xs := ([] : List (S24))) (inner := []) (ok := fun _ => True) (okp := fun _ => True) ?hr ?hp (fun _ hk => hk) trivial (Below.refl _ _) (Nat.le_refl _) (by simp) ?_; (case hd => rfl); (case hg => rfl); (case hr => first | (go_simp; done) | (go_simp; rfl)); (case hp => exact (Reps.none _ _)); intro v274 w10 ho11 hb hg_ hnew_; clear hg_ hnew_; (first | rw [← Ny273.out] at ho11 | (simp only [Int.reduceToNat] at ho11; rw [← Ny273.out] at ho11)); have HO275 := Aside0.mk (Kd.R_lower ho11 (below_size (blw HB.out))); replace HB := sB HB hb; clear hb ho11) | ((with_reducible refine gate_builtin (b := .append) (xs := #[.tmp 19, .tmp 20]) rfl ?_); at_builtin; refine Kd.R_append_rows k24 (w0 := w) w.heap.size rfl (.tmp 19) (.tmp 20) 22 24 (.agg #[(.int .i64 0), (.int .i64 0), (.int .i64 0), (.int .i64 0), (.int .i64 0), (.int .i64 0), (.int .i64 0), (.int .i64 0), (.int .i64 0)]) 72 rfl Tryd.underlying22 info24 rfl (by decide) (by omega) v274 y273 l0 _ _ _ (fun _ => True) (fun _ => False) rfl rfl ?aO ?aR (fun _ _ h => h) (fun _ h => h.elim) ?aF ?aB ?aS ?aL ?_; (case aR => repeat (first | exact (Kd.C_below HR0.out HB.out) | (with_reducible refine Kd.C_alloc ?_ _) | (with_reducible refine Kd.C_drewN ?_ _) | (with_reducible refine Kd.C_drew ?_))); (case aB => exact (blw HB.out)); (case aF => exact (fun _ _ => trivial)); (case aO => exact (rmv HO275.out)); (case aS => exact (below_size (blw HB.out))); (case aL => have := LMc8.out; omega); intro v277 w12 ho hb hg hat; rw [← Ny276.out] at ho; replace HB := Aside0.mk (hb); have HO278 := Aside0.mk (ho); clear HO275; clear ho hb hg hat))
 go_loopg [10] k (fun kq v10 w' => ∃ (x9_1 : List (S24)) (x10_1 : Int), v10 = .int .i64 x10_1 ∧ Aside0 (fastiref46_Due.l0 kq a1 a2 x9_1 x10_1 = some (r1, r2)) ∧ Aside0 (kq ≤ k) ∧ Aside0 (Kd.R k24 24 w' w.heap.size (fun _ => True) v277 x9_1) ∧ Aside0 (Below w.heap.size w w'))
 case atStart => exact ⟨(y276), (0), (by first | rfl | (simp; done) | (simp [*]; done)), H', ⟨Nat.le_refl _⟩, ⟨rmv HO278.out⟩, ⟨blw HB.out⟩⟩
 clear H'; (try clear c1); (try clear c2); (try clear p2); (try clear c5); (try clear c5b0); (try clear c5b1); (try clear c7); (try clear c8); obtain ⟨x9_1, x10_1, rfl, HA, HK1, HO_9, HB⟩ := hrel
 cases gk with
 | zero => exact absurd HA.out (by simp [fastiref46_Due.l0])
 | succ k1 =>
   have H := HA.out; clear HA
   simp only [fastiref46_Due.l0] at H
   by_cases c13 : x10_1 < (x9_1.length : Int)
   · rw [if_pos c13] at H
     have c13b0 : decide (x10_1 < (x9_1.length : Int)) = true := decide_eq_true c13; clear c13
     by_cases c14 : 0 ≤ x10_1
     · rw [if_pos c14] at H
       have c14b0 : decide (0 ≤ x10_1) = true := decide_eq_true c14; clear c14
       by_cases c15 : ((rd_T24 x9_1 x10_1).f0) = a1
       · rw [if_pos c15] at H
         have c15b0 : (((rd_T24 x9_1 x10_1).f0) == a1) = true := beq_iff_eq.mpr c15; have c15b1 : (((rd_T24 x9_1 x10_1).f0) != a1) = false := bne_eq_false_iff_eq.mpr c15; clear c15; obtain ⟨y280, hy280⟩ : ∃ y_ : List (S24), y_ = (x9_1.set (x10_1 : Int).toNat (⟨(rd_T24 x9_1 x10_1).f0, (rd_T24 x9_1 x10_1).f1, (rd_T24 x9_1 x10_1).f2, (rd_T24 x9_1 x10_1).f3, (rd_T24 x9_1 x10_1).f4, (rd_T24 x9_1 x10_1).f5, (rd_T24 x9_1 x10_1).f6, (rd_T24 x9_1 x10_1).f7, a2⟩ : S24)) := ⟨_, rfl⟩
         replace H : (some (y280, 0)) = some (r1, r2) := by first | (rw [hy280]; with_reducible exact H) | (have H2_ := (Option.bind_some _ _).symm.trans H; rw [hy280]; with_reducible exact H2_) | (have H2_ := (Option.bind_some _ _).symm.trans H; with_reducible exact H2_) | with_reducible exact H | (rw [hy280]; exact H) | exact H
         have Ny280 := Aside0.mk hy280; clear hy280
         simp only [Option.some.injEq, Prod.mk.injEq] at H
         obtain ⟨rfl, rfl⟩ := H; obtain ⟨Ao17, co17, eo17⟩ := Kd.R_slice HO_9.out; subst eo17; have p279 : 0 ≤ (x10_1 : Int) := of_decide_eq_true (by first | (with_reducible assumption) | assumption); have q279 : x10_1 < (x9_1.length : Int) := of_decide_eq_true (by first | (with_reducible assumption) | assumption); obtain ⟨ad279, e279, hx279_0, hx279_1, hx279_2, hx279_3, hx279_4, hx279_5, hx279_6, hx279_7, hx279_8⟩ := at_T24 (Kd.R_reads' HO_9.out).2.2 x10_1 p279 q279; cases e279; replace p279 := eq_true p279; replace q279 := eq_true q279; have p16 : 0 ≤ (x10_1 : Int) := of_decide_eq_true (by first | (with_reducible assumption) | assumption); have q16 : (x10_1 : Int) < ((x9_1.length : Int) : Int) := of_decide_eq_true (by first | (with_reducible assumption) | assumption); obtain ⟨go16, co16, eo16, gb16, gl16, cl16, HG16⟩ := Kd.R_form HO_9.out (by omega)
         (first | cases eo16 | (injection eo16 with ea_ en_ ec_; (first | subst ea_ | (injection ea_ with ea_; subst ea_)); subst ec_; clear en_))
         have GB16 := Aside0.mk gb16; have GG16 := Aside0.mk HG16; clear gb16 gl16 HG16
         (first | simp only [add_plain] at hx279_0 | skip)
         (first | simp only [add_plain] at hx279_1 | skip)
         (first | simp only [add_plain] at hx279_2 | skip)
         (first | simp only [add_plain] at hx279_3 | skip)
         (first | simp only [add_plain] at hx279_4 | skip)
         (first | simp only [add_plain] at hx279_5 | skip)
         (first | simp only [add_plain] at hx279_6 | skip)
         (first | simp only [add_plain] at hx279_7 | skip)
         (first | simp only [add_plain] at hx279_8 | skip)
         obtain ⟨ce16, hcl16, hM16, hcc16, hfr16⟩ := Kd.R_elem HO_9.out z24 (x10_1 : Int) p16 q16; obtain rfl := k24_openM hM16; have hx16_0 : wr.cell? ⟨go16, (x10_1 : Int).toNat * 9, none⟩ = some (.int .i64 ((rd_T24 x9_1 x10_1).f0)) := hcc16 0 _ rfl; have hx16_1 : wr.cell? ⟨go16, (x10_1 : Int).toNat * 9 + 1, none⟩ = some (.int .i64 ((rd_T24 x9_1 x10_1).f1)) := hcc16 1 _ rfl; have hx16_2 : wr.cell? ⟨go16, (x10_1 : Int).toNat * 9 + 2, none⟩ = some (.int .i64 ((rd_T24 x9_1 x10_1).f2)) := hcc16 2 _ rfl; have hx16_3 : wr.cell? ⟨go16, (x10_1 : Int).toNat * 9 + 3, none⟩ = some (.int .i64 ((rd_T24 x9_1 x10_1).f3)) := hcc16 3 _ rfl; have hx16_4 : wr.cell? ⟨go16, (x10_1 : Int).toNat * 9 + 4, none⟩ = some (.int .i64 ((rd_T24 x9_1 x10_1).f4)) := hcc16 4 _ rfl; have hx16_5 : wr.cell? ⟨go16, (x10_1 : Int).toNat * 9 + 5, none⟩ = some (.int .i64 ((rd_T24 x9_1 x10_1).f5)) := hcc16 5 _ rfl; have hx16_6 : wr.cell? ⟨go16, (x10_1 : Int).toNat * 9 + 6, none⟩ = some (.int .i64 ((rd_T24 x9_1 x10_1).f6)) := hcc16 6 _ rfl; have hx16_7 : wr.cell? ⟨go16, (x10_1 : Int).toNat * 9 + 7, none⟩ = some (.int .i64 ((rd_T24 x9_1 x10_1).f7)) := hcc16 7 _ rfl; have hx16_8 : wr.cell? ⟨go16, (x10_1 : Int).toNat * 9 + 8, none⟩ = some (.int .i64 ((rd_T24 x9_1 x10_1).f8)) := hcc16 8 _ rfl; have hf16_0 : wr.frozen? ⟨go16, (x10_1 : Int).toNat * 9, none⟩ = false := hfr16 0; have hf16_1 : wr.frozen? ⟨go16, (x10_1 : Int).toNat * 9 + 1, none⟩ = false := hfr16 1
         have hf16_2 : wr.frozen? ⟨go16, (x10_1 : Int).toNat * 9 + 2, none⟩ = false := hfr16 2; have hf16_3 : wr.frozen? ⟨go16, (x10_1 : Int).toNat * 9 + 3, none⟩ = false := hfr16 3; have hf16_4 : wr.frozen? ⟨go16, (x10_1 : Int).toNat * 9 + 4, none⟩ = false := hfr16 4; have hf16_5 : wr.frozen? ⟨go16, (x10_1 : Int).toNat * 9 + 5, none⟩ = false := hfr16 5; have hf16_6 : wr.frozen? ⟨go16, (x10_1 : Int).toNat * 9 + 6, none⟩ = false := hfr16 6; have hf16_7 : wr.frozen? ⟨go16, (x10_1 : Int).toNat * 9 + 7, none⟩ = false := hfr16 7; have hf16_8 : wr.frozen? ⟨go16, (x10_1 : Int).toNat * 9 + 8, none⟩ = false := hfr16 8; clear hcl16 hcc16 hfr16 hM16; replace p16 := eq_true p16; replace q16 := eq_true q16; have HX18 := Aside0.mk (show Kd.R k24 24 wr w.heap.size (fun _ => True) (.slice (some ⟨go16, 0, none⟩) x9_1.length co17) x9_1 from (rmv HO_9.out)); obtain ⟨ce18, hcl18, hM18, hcc18, hfr18⟩ := Kd.R_elem HX18.out z24 (x10_1 : Int) (of_decide_eq_true (by first | (with_reducible assumption) | assumption)) (by have h_ : (x10_1 : Int) < ((x9_1.length : Int) : Int) := of_decide_eq_true (by first | (with_reducible assumption) | assumption); first | exact h_ | (have e_ := (Kd.R_reads' HO_9.out).1; omega) | simpa using h_); obtain rfl := k24_openM hM18
         have HP18 := Kd.R_seg HX18.out (x10_1 : Int) (of_decide_eq_true (by first | (with_reducible assumption) | assumption)) (by have h_ : (x10_1 : Int) < ((x9_1.length : Int) : Int) := of_decide_eq_true (by first | (with_reducible assumption) | assumption); first | exact h_ | (have e_ := (Kd.R_reads' HO_9.out).1; omega) | simpa using h_) (seg := [.int .i64 a2]) (j := 8) hcl18 hcc18 (show 9 ≤ 9 from by decide) (x' := (⟨(rd_T24 x9_1 x10_1).f0, (rd_T24 x9_1 x10_1).f1, (rd_T24 x9_1 x10_1).f2, (rd_T24 x9_1 x10_1).f3, (rd_T24 x9_1 x10_1).f4, (rd_T24 x9_1 x10_1).f5, (rd_T24 x9_1 x10_1).f6, (rd_T24 x9_1 x10_1).f7, a2⟩ : S24)) (k24_mkM _ _ _ (⟨(rd_T24 x9_1 x10_1).f0, (rd_T24 x9_1 x10_1).f1, (rd_T24 x9_1 x10_1).f2, (rd_T24 x9_1 x10_1).f3, (rd_T24 x9_1 x10_1).f4, (rd_T24 x9_1 x10_1).f5, (rd_T24 x9_1 x10_1).f6, (rd_T24 x9_1 x10_1).f7, a2⟩ : S24) ) (fun _ hk => hk); have hx18_8 := hcc18 8 _ rfl
         (try simp only [show (k24).sz = 9 from rfl, Nat.mul_one, Nat.add_zero] at hx18_8)
         have hf18_8 := hfr18 8
         (try simp only [show (k24).sz = 9 from rfl, Nat.mul_one, Nat.add_zero] at hf18_8)
         clear hcl18 hcc18 hfr18 hM18
         go_wp2_with (first | ((with_reducible refine gate_store (t := 3) (p := 39) rfl ?_); refine store_event (t := 3) (p := 39) (v := ?vo_w19) (w1 := (wr.setCell ⟨go16, (x10_1 : Int).toNat * 9 + 8, none⟩ (.int .i64 a2))) ?hg ?ho ?hn ?hr ?_; (case ho => rfl); (case hg => rfl); (case hn => rfl); (case hr => first | (go_simp; done) | (go_simp; rfl)); intro w19 hw; have hg : wr.grownBy w19 (some go16) := (by rw [hw]; exact HP18.2); have hp_ : Kd.R k24 24 w19 w.heap.size (fun _ => True) (.slice (some ⟨go16, 0, none⟩) x9_1.length co17) y280 := (by rw [hw, Ny280.out]; exact HP18.1); clear HP18; replace HO_9 := Aside0.mk (hp_); replace HB := Aside0.mk ((by rw [hw]; exact below_set (HB.out) GB16.out : Below w.heap.size w w19)); clear hg hw hp_))
         go_ret2
         exact ⟨_, by first | rfl | (simp [errW_none, errW_some] <;> rfl) | (simp [*, errW_none, errW_some] <;> rfl), by (with_reducible repeat (first | apply Kd.R_alloc | apply Kd.R_drewN | apply Kd.R_drew)); exact HO_9.out, blw HB.out⟩
       · rw [if_neg c15] at H
         have c15b0 : (((rd_T24 x9_1 x10_1).f0) == a1) = false := beq_eq_false_iff_ne.mpr c15; have c15b1 : (((rd_T24 x9_1 x10_1).f0) != a1) = true := bne_iff_ne.mpr c15; have H' := Aside0.mk H; clear H; obtain ⟨Ao20, co20, eo20⟩ := Kd.R_slice HO_9.out; subst eo20; have p279 : 0 ≤ (x10_1 : Int) := of_decide_eq_true (by first | (with_reducible assumption) | assumption); have q279 : x10_1 < (x9_1.length : Int) := of_decide_eq_true (by first | (with_reducible assumption) | assumption); obtain ⟨ad279, e279, hx279_0, hx279_1, hx279_2, hx279_3, hx279_4, hx279_5, hx279_6, hx279_7, hx279_8⟩ := at_T24 (Kd.R_reads' HO_9.out).2.2 x10_1 p279 q279; cases e279; replace p279 := eq_true p279; replace q279 := eq_true q279
         go_wp2
         go_roundg k1
         case measure => have := HK1.out; omega
         case rel => exact ⟨(x9_1), (wrap64 (x10_1 + 1)), (by first | rfl | (simp; done) | (simp [*]; done)), H', ⟨by have := HK1.out; omega⟩, ⟨rmv HO_9.out⟩, ⟨blw HB.out⟩⟩
     · rw [if_neg c14] at H
       exact absurd H (by simp)
   · rw [if_neg c13] at H
     have c13b0 : decide (x10_1 < (x9_1.length : Int)) = false := decide_eq_false c13; clear c13
     simp only [Option.some.injEq, Prod.mk.injEq] at H
     obtain ⟨rfl, rfl⟩ := H; obtain ⟨Ao21, co21, eo21⟩ := Kd.R_slice HO_9.out; subst eo21
     go_wp2
     go_ret2
     exact ⟨_, by first | rfl | (simp [errW_none, errW_some] <;> rfl) | (simp [*, errW_none, errW_some] <;> rfl), by first | exact Kd.R_nil _ _ _ _ _ | exact Kd.N_nil _ _ _ _ _ | exact Kd.V_nil _ _ _ _ _ | exact Kd.Q_nil _ _ _ _ _ | exact Kd.S_nil _ _ _ _ _, blw HB.out⟩

/-! ### fastilaw46_FactsStandingSpec: function 4 -/
def fastilaw46_FactsStandingSpec.f (k : Nat) (l0 : List (S24)) (a1 : Int) (a2 : Int) (a3 : Int) : Option (Bool) := (fastilaw46_sane.f k).bind fun t281 => (if t281 = true then ((fastiref46_Few.f l0).bind fun t282 => (if t282 = true then ((facts_Standing.f l0 a1).bind fun bt283 => ((fastiref46_Standing.f k l0 a1).bind fun bt287 => ((facts_Due.f l0 a2 a3).bind fun bt291 => ((fastiref46_Due.f k l0 a2 a3).bind fun bt295 => ((fastiref46_Same.f k bt283.1 bt287.1).bind fun t299 => (if t299 = true then (if bt283.2 = bt287.2 then ((fastiref46_Same.f k bt291.1 bt295.1).bind fun t300 => (if t300 = true then (some (bt291.2 == bt295.2)) else (none))) else (none)) else (none))))))) else (some true))) else (none))
theorem fastilaw46_FactsStandingSpec.mono : ∀ a0 a1 a2 a3 k, LeO (fastilaw46_FactsStandingSpec.f k a0 a1 a2 a3) (fastilaw46_FactsStandingSpec.f (k + 1) a0 a1 a2 a3) := by
  intro a0 a1 a2 a3 k
  unfold fastilaw46_FactsStandingSpec.f
  repeat' first
      | (with_reducible exact fastilaw46_sane.mono _)
      | (with_reducible exact fastiref46_Due.mono _ _ _ _)
      | (with_reducible exact fastiref46_Same.mono _ _ _)
      | (with_reducible exact fastiref46_Standing.mono _ _ _)
      | (with_reducible exact LeO.refl _)
      | (with_reducible exact LeO.none _)
      | (with_reducible refine LeO.ite ?_ ?_)
      | (with_reducible refine LeO.bind ?_ (fun _ => ?_))
      | exact fastilaw46_sane.mono _
      | exact fastiref46_Due.mono _ _ _ _
      | exact fastiref46_Same.mono _ _ _
      | exact fastiref46_Standing.mono _ _ _
      | exact LeO.none _
      | refine LeO.ite ?_ ?_
      | refine LeO.bind ?_ (fun _ => ?_)
set_option maxHeartbeats 8000000 in
set_option maxRecDepth 100000 in
theorem fastilaw46_FactsStandingSpec.calls (k : Nat) (A0 : Option Addr) (c0 : Nat) (l0 : List (S24)) (a1 : Int) (a2 : Int) (a3 : Int) (r : Bool) (w : World) (hr0 : Kd.C k24 w A0 l0.length l0) (hc0 : l0.length ≤ c0) (h : fastilaw46_FactsStandingSpec.f k l0 a1 a2 a3 = some r) (hrw : RowsAt w) :
    Calls Tryd.prog 4 #[.slice A0 l0.length c0, .int .i64 a1, .int .i64 a2, .int .i64 a3] w fun e w' => e = .returned (.bool r) ∧ Below w.heap.size w w' := by
 have HR0 := Aside0.mk hr0; have HC0 := Aside0.mk hc0; clear hr0 hc0; have HRW := Aside0.mk hrw; clear hrw; have HB := Aside0.mk (Below.refl w.heap.size w); have H : ((fastilaw46_sane.f k).bind fun t281 => (if t281 = true then ((fastiref46_Few.f l0).bind fun t282 => (if t282 = true then ((facts_Standing.f l0 a1).bind fun bt283 => ((fastiref46_Standing.f k l0 a1).bind fun bt287 => ((facts_Due.f l0 a2 a3).bind fun bt291 => ((fastiref46_Due.f k l0 a2 a3).bind fun bt295 => ((fastiref46_Same.f k bt283.1 bt287.1).bind fun t299 => (if t299 = true then (if bt283.2 = bt287.2 then ((fastiref46_Same.f k bt291.1 bt295.1).bind fun t300 => (if t300 = true then (some (bt291.2 == bt295.2)) else (none))) else (none)) else (none))))))) else (some true))) else (none))) = some r := h; clear h; replace H := Option.bind_eq_some_iff.mp H; obtain ⟨t281, A50, H⟩ := H; replace H : (if t281 = true then ((fastiref46_Few.f l0).bind fun t282 => (if t282 = true then ((facts_Standing.f l0 a1).bind fun bt283 => ((fastiref46_Standing.f k l0 a1).bind fun bt287 => ((facts_Due.f l0 a2 a3).bind fun bt291 => ((fastiref46_Due.f k l0 a2 a3).bind fun bt295 => ((fastiref46_Same.f k bt283.1 bt287.1).bind fun t299 => (if t299 = true then (if bt283.2 = bt287.2 then ((fastiref46_Same.f k bt291.1 bt295.1).bind fun t300 => (if t300 = true then (some (bt291.2 == bt295.2)) else (none))) else (none)) else (none))))))) else (some true))) else (none)) = some r := H; have A5 := Aside0.mk A50; clear A50
 by_cases c6 : t281 = true
 rotate_left
 ·replace c6 := Bool.eq_false_iff.mpr c6
  subst c6
  have H1 : (none) = some r := by rw [if_neg (show ¬ (false = true) by decide)] at H; exact H
  clear H; have H := H1; clear H1
  exact absurd H (by simp)
 subst c6
 have H1 : ((fastiref46_Few.f l0).bind fun t282 => (if t282 = true then ((facts_Standing.f l0 a1).bind fun bt283 => ((fastiref46_Standing.f k l0 a1).bind fun bt287 => ((facts_Due.f l0 a2 a3).bind fun bt291 => ((fastiref46_Due.f k l0 a2 a3).bind fun bt295 => ((fastiref46_Same.f k bt283.1 bt287.1).bind fun t299 => (if t299 = true then (if bt283.2 = bt287.2 then ((fastiref46_Same.f k bt291.1 bt295.1).bind fun t300 => (if t300 = true then (some (bt291.2 == bt295.2)) else (none))) else (none)) else (none))))))) else (some true))) = some r := by rw [if_pos rfl] at H; exact H
 clear H; have H := H1; clear H1; replace H := Option.bind_eq_some_iff.mp H; obtain ⟨t282, A70, H⟩ := H; replace H : (if t282 = true then ((facts_Standing.f l0 a1).bind fun bt283 => ((fastiref46_Standing.f k l0 a1).bind fun bt287 => ((facts_Due.f l0 a2 a3).bind fun bt291 => ((fastiref46_Due.f k l0 a2 a3).bind fun bt295 => ((fastiref46_Same.f k bt283.1 bt287.1).bind fun t299 => (if t299 = true then (if bt283.2 = bt287.2 then ((fastiref46_Same.f k bt291.1 bt295.1).bind fun t300 => (if t300 = true then (some (bt291.2 == bt295.2)) else (none))) else (none)) else (none))))))) else (some true)) = some r := H; have A7 := Aside0.mk A70; clear A70
 by_cases c8 : t282 = true
 rotate_left
 ·replace c8 := Bool.eq_false_iff.mpr c8
  subst c8
  have H1 : (some true) = some r := by rw [if_neg (show ¬ (false = true) by decide)] at H; exact H
  clear H; have H := H1; clear H1; obtain rfl := Option.some.inj H
  go_enter Tryd.func4, Tryd.ntmps4
  go_wp2_with (first | (refine goesC 17 Tryd.func10 #[] ?_; (with_reducible refine (fastilaw46_sane.calls k  true _ A5.out).mono ?_); rintro e w27 ⟨rfl, hb⟩; refine ⟨_, rfl, ?_⟩; replace HB := sB HB hb; (try clear hb); (try clear hb2); (try clear hk); (try clear hi)) | (refine goesC 20 Tryd.func11 #[.slice A0 l0.length c0] ?_; (with_reducible refine (fastiref46_Few.calls _ _ l0 false _ ?side1 ?side2 A7.out).mono ?_); (case side1 => exact cB HR0 HB); (case side2 => exact HC0.out); rintro e w' ⟨rfl, ⟨nd, rfl⟩⟩; refine ⟨_, rfl, ?_⟩))
  go_ret
  exact ⟨by first | rfl | (simp [errW_none, errW_some] <;> rfl) | (simp [*, errW_none, errW_some] <;> rfl), blw HB.out⟩
 subst c8
 have H1 : ((facts_Standing.f l0 a1).bind fun bt283 => ((fastiref46_Standing.f k l0 a1).bind fun bt287 => ((facts_Due.f l0 a2 a3).bind fun bt291 => ((fastiref46_Due.f k l0 a2 a3).bind fun bt295 => ((fastiref46_Same.f k bt283.1 bt287.1).bind fun t299 => (if t299 = true then (if bt283.2 = bt287.2 then ((fastiref46_Same.f k bt291.1 bt295.1).bind fun t300 => (if t300 = true then (some (bt291.2 == bt295.2)) else (none))) else (none)) else (none))))))) = some r := by rw [if_pos rfl] at H; exact H
 clear H; have H := H1; clear H1; replace H := Option.bind_eq_some_iff.mp H; obtain ⟨⟨t283, t284⟩, A90, H⟩ := H; replace H : ((fastiref46_Standing.f k l0 a1).bind fun bt287 => ((facts_Due.f l0 a2 a3).bind fun bt291 => ((fastiref46_Due.f k l0 a2 a3).bind fun bt295 => ((fastiref46_Same.f k t283 bt287.1).bind fun t299 => (if t299 = true then (if t284 = bt287.2 then ((fastiref46_Same.f k bt291.1 bt295.1).bind fun t300 => (if t300 = true then (some (bt291.2 == bt295.2)) else (none))) else (none)) else (none)))))) = some r := H; have A9 := Aside0.mk A90; clear A90; replace H := Option.bind_eq_some_iff.mp H; obtain ⟨⟨t287, t288⟩, A100, H⟩ := H; replace H : ((facts_Due.f l0 a2 a3).bind fun bt291 => ((fastiref46_Due.f k l0 a2 a3).bind fun bt295 => ((fastiref46_Same.f k t283 t287).bind fun t299 => (if t299 = true then (if t284 = t288 then ((fastiref46_Same.f k bt291.1 bt295.1).bind fun t300 => (if t300 = true then (some (bt291.2 == bt295.2)) else (none))) else (none)) else (none))))) = some r := H; have A10 := Aside0.mk A100; clear A100; replace H := Option.bind_eq_some_iff.mp H; obtain ⟨⟨t291, t292⟩, A110, H⟩ := H; replace H : ((fastiref46_Due.f k l0 a2 a3).bind fun bt295 => ((fastiref46_Same.f k t283 t287).bind fun t299 => (if t299 = true then (if t284 = t288 then ((fastiref46_Same.f k t291 bt295.1).bind fun t300 => (if t300 = true then (some (t292 == bt295.2)) else (none))) else (none)) else (none)))) = some r := H; have A11 := Aside0.mk A110; clear A110
 replace H := Option.bind_eq_some_iff.mp H; obtain ⟨⟨t295, t296⟩, A120, H⟩ := H; replace H : ((fastiref46_Same.f k t283 t287).bind fun t299 => (if t299 = true then (if t284 = t288 then ((fastiref46_Same.f k t291 t295).bind fun t300 => (if t300 = true then (some (t292 == t296)) else (none))) else (none)) else (none))) = some r := H; have A12 := Aside0.mk A120; clear A120; replace H := Option.bind_eq_some_iff.mp H; obtain ⟨t299, A130, H⟩ := H; replace H : (if t299 = true then (if t284 = t288 then ((fastiref46_Same.f k t291 t295).bind fun t300 => (if t300 = true then (some (t292 == t296)) else (none))) else (none)) else (none)) = some r := H; have A13 := Aside0.mk A130; clear A130
 by_cases c14 : t299 = true
 rotate_left
 ·replace c14 := Bool.eq_false_iff.mpr c14
  subst c14
  have H1 : (none) = some r := by rw [if_neg (show ¬ (false = true) by decide)] at H; exact H
  clear H; have H := H1; clear H1
  exact absurd H (by simp)
 subst c14
 have H1 : (if t284 = t288 then ((fastiref46_Same.f k t291 t295).bind fun t300 => (if t300 = true then (some (t292 == t296)) else (none))) else (none)) = some r := by rw [if_pos rfl] at H; exact H
 clear H; have H := H1; clear H1
 by_cases c15 : t284 = t288
 rotate_left
 ·rw [if_neg c15] at H
  exact absurd H (by simp)
 rw [if_pos c15] at H; have c15b0 : (t284 == t288) = true := beq_iff_eq.mpr c15; have c15b1 : (t284 != t288) = false := bne_eq_false_iff_eq.mpr c15; clear c15; replace H := Option.bind_eq_some_iff.mp H; obtain ⟨t300, A160, H⟩ := H; replace H : (if t300 = true then (some (t292 == t296)) else (none)) = some r := H; have A16 := Aside0.mk A160; clear A160
 by_cases c17 : t300 = true
 rotate_left
 ·replace c17 := Bool.eq_false_iff.mpr c17
  subst c17
  have H1 : (none) = some r := by rw [if_neg (show ¬ (false = true) by decide)] at H; exact H
  clear H; have H := H1; clear H1
  exact absurd H (by simp)
 subst c17
 have H1 : (some (t292 == t296)) = some r := by rw [if_pos rfl] at H; exact H
 clear H; have H := H1; clear H1; obtain rfl := Option.some.inj H
 go_enter Tryd.func4, Tryd.ntmps4
 go_wp2_with (first | (refine goesC 17 Tryd.func10 #[] ?_; (with_reducible refine (fastilaw46_sane.calls k  true _ A5.out).mono ?_); rintro e w18 ⟨rfl, hb⟩; refine ⟨_, rfl, ?_⟩; replace HB := sB HB hb; (try clear hb); (try clear hb2); (try clear hk); (try clear hi)) | (refine goesC 20 Tryd.func11 #[.slice A0 l0.length c0] ?_; (with_reducible refine (fastiref46_Few.calls _ _ l0 true _ ?side1 ?side2 A7.out).mono ?_); (case side1 => exact cB HR0 HB); (case side2 => exact HC0.out); rintro e w' ⟨rfl, ⟨nd, rfl⟩⟩; refine ⟨_, rfl, ?_⟩) | (refine goesC 25 Tryd.func17 #[.slice A0 l0.length c0, .int .i64 a1] ?_; (with_reducible refine (facts_Standing.calls _ _ l0 a1 t283 t284 _ ?side1 ?side2 A9.out).mono ?_); (case side1 => exact cB HR0 HB); (case side2 => exact HC0.out); rintro e w19 ⟨v285, rfl, ho0, hb⟩; refine ⟨_, rfl, ?_⟩; have HO286 := Aside0.mk (Kd.R_lower ho0 (below_size (blw HB.out))); replace HB := sB HB hb; (try clear hb); (try clear hb2); (try clear hk); (try clear hi); (try clear ho0)) | (refine goesC 31 Tryd.func18 #[.slice A0 l0.length c0, .int .i64 a1] ?_; (with_reducible refine (fastiref46_Standing.calls k _ _ l0 a1 t287 t288 _ ?side1 ?side2 A10.out).mono ?_); (case side1 => exact cB HR0 HB); (case side2 => exact HC0.out); rintro e w20 ⟨v289, rfl, ho0, hb⟩; refine ⟨_, rfl, ?_⟩; have HO290 := Aside0.mk (Kd.R_lower (Kd.R_new' ho0 (Kd.R_lt (rmv HO286.out))) (below_size (blw HB.out))); replace HO286 := Aside0.mk (Kd.R_elder' (rmv HO286.out) (Kd.R_base ho0) hb); replace HB := sB HB hb; (try clear hb); (try clear hb2); (try clear hk); (try clear hi); (try clear ho0)) | (refine goesC 38 Tryd.func19 #[.slice A0 l0.length c0, .int .i64 a2, .int .i64 a3] ?_; (with_reducible refine (facts_Due.calls _ _ l0 a2 a3 t291 t292 _ ?side1 ?side2 A11.out).mono ?_); (case side1 => exact cB HR0 HB); (case side2 => exact HC0.out); rintro e w21 ⟨v293, rfl, ho0, hb⟩; refine ⟨_, rfl, ?_⟩; have HO294 := Aside0.mk (Kd.R_lower (Kd.R_new' (Kd.R_new' ho0 (Kd.R_lt (rmv HO286.out))) (Kd.R_lt (rmv HO290.out))) (below_size (blw HB.out))); replace HO286 := Aside0.mk (Kd.R_elder' (rmv HO286.out) (Kd.R_base ho0) hb); replace HO290 := Aside0.mk (Kd.R_elder' (rmv HO290.out) (Kd.R_base ho0) hb); replace HB := sB HB hb; (try clear hb); (try clear hb2); (try clear hk); (try clear hi); (try clear ho0)) | (refine goesC 45 Tryd.func20 #[.slice A0 l0.length c0, .int .i64 a2, .int .i64 a3] ?_; (with_reducible refine (fastiref46_Due.calls k _ _ l0 a2 a3 t295 t296 _ ?side1 ?side2 A12.out).mono ?_); (case side1 => exact cB HR0 HB); (case side2 => exact HC0.out); rintro e w22 ⟨v297, rfl, ho0, hb⟩; refine ⟨_, rfl, ?_⟩; have HO298 := Aside0.mk (Kd.R_lower (Kd.R_new' (Kd.R_new' (Kd.R_new' ho0 (Kd.R_lt (rmv HO286.out))) (Kd.R_lt (rmv HO290.out))) (Kd.R_lt (rmv HO294.out))) (below_size (blw HB.out))); replace HO286 := Aside0.mk (Kd.R_elder' (rmv HO286.out) (Kd.R_base ho0) hb); replace HO290 := Aside0.mk (Kd.R_elder' (rmv HO290.out) (Kd.R_base ho0) hb); replace HO294 := Aside0.mk (Kd.R_elder' (rmv HO294.out) (Kd.R_base ho0) hb); replace HB := sB HB hb; (try clear hb); (try clear hb2); (try clear hk); (try clear hi); (try clear ho0); obtain ⟨Ao23, co23, eo23⟩ := Kd.R_slice HO286.out; subst eo23; obtain ⟨Ao24, co24, eo24⟩ := Kd.R_slice HO290.out; subst eo24) | (refine goesC 50 Tryd.func16 #[.slice Ao23 t283.length co23, .slice Ao24 t287.length co24] ?_; (with_reducible refine (fastiref46_Same.calls k _ _ t283 _ _ t287 true _ ?side1 ?side2 ?side3 ?side4 A13.out).mono ?_); (case side1 => repeat (first | exact (Kd.R_reads' HO286.out).2.2 | (with_reducible refine Kd.C_alloc ?_ _) | (with_reducible refine Kd.C_drewN ?_ _) | (with_reducible refine Kd.C_drew ?_))); (case side2 => exact (Kd.R_reads' HO286.out).2.1); (case side3 => repeat (first | exact (Kd.R_reads' HO290.out).2.2 | (with_reducible refine Kd.C_alloc ?_ _) | (with_reducible refine Kd.C_drewN ?_ _) | (with_reducible refine Kd.C_drew ?_))); (case side4 => exact (Kd.R_reads' HO290.out).2.1); rintro e w' ⟨rfl, ⟨nd, rfl⟩⟩; refine ⟨_, rfl, ?_⟩; obtain ⟨Ao25, co25, eo25⟩ := Kd.R_slice HO294.out; subst eo25; obtain ⟨Ao26, co26, eo26⟩ := Kd.R_slice HO298.out; subst eo26) | (go_at_call 16; (with_reducible refine (fastiref46_Same.calls k _ _ t291 _ _ t295 true _ ?side1 ?side2 ?side3 ?side4 A16.out).mono ?_); (case side1 => repeat (first | exact (Kd.R_reads' HO294.out).2.2 | (with_reducible refine Kd.C_alloc ?_ _) | (with_reducible refine Kd.C_drewN ?_ _) | (with_reducible refine Kd.C_drew ?_))); (case side2 => exact (Kd.R_reads' HO294.out).2.1); (case side3 => repeat (first | exact (Kd.R_reads' HO298.out).2.2 | (with_reducible refine Kd.C_alloc ?_ _) | (with_reducible refine Kd.C_drewN ?_ _) | (with_reducible refine Kd.C_drew ?_))); (case side4 => exact (Kd.R_reads' HO298.out).2.1); rintro e w' ⟨rfl, ⟨nd, rfl⟩⟩))
 go_ret
 exact ⟨by first | rfl | (simp [errW_none, errW_some] <;> rfl) | (simp [*, errW_none, errW_some] <;> rfl), blw HB.out⟩

/-! ### fastilaw46_right: function 21 -/
def fastilaw46_right.f (k : Nat) (l0 : List (S24)) : Option (Bool) := if (l0.length : Int) ≤ 300 then ((fastiref46_Check.f k l0).bind fun t301 => (some (t301 == 0))) else (some false)
theorem fastilaw46_right.mono : ∀ a0 k, LeO (fastilaw46_right.f k a0) (fastilaw46_right.f (k + 1) a0) := by
  intro a0 k
  unfold fastilaw46_right.f
  repeat' first
      | (with_reducible exact fastiref46_Check.mono _ _)
      | (with_reducible exact LeO.refl _)
      | (with_reducible exact LeO.none _)
      | (with_reducible refine LeO.ite ?_ ?_)
      | (with_reducible refine LeO.bind ?_ (fun _ => ?_))
      | exact fastiref46_Check.mono _ _
      | exact LeO.none _
      | refine LeO.ite ?_ ?_
      | refine LeO.bind ?_ (fun _ => ?_)
set_option maxHeartbeats 8000000 in
set_option maxRecDepth 100000 in
theorem fastilaw46_right.calls (k : Nat) (A0 : Option Addr) (c0 : Nat) (l0 : List (S24)) (r : Bool) (w : World) (hr0 : Kd.C k24 w A0 l0.length l0) (hc0 : l0.length ≤ c0) (h : fastilaw46_right.f k l0 = some r) :
    Calls Tryd.prog 21 #[.slice A0 l0.length c0] w fun e w' => e = .returned (.bool r) ∧ Below w.heap.size w w' := by
 have HR0 := Aside0.mk hr0; have HC0 := Aside0.mk hc0; clear hr0 hc0; have HB := Aside0.mk (Below.refl w.heap.size w); have H : (if (l0.length : Int) ≤ 300 then ((fastiref46_Check.f k l0).bind fun t301 => (some (t301 == 0))) else (some false)) = some r := h; clear h
 by_cases c2 : (l0.length : Int) ≤ 300
 rotate_left
 ·rw [if_neg c2] at H
  have c2b0 : decide ((l0.length : Int) ≤ 300) = false := decide_eq_false c2; have c2b1 : decide (l0.length ≤ 300) = false := decide_eq_false (by omega); clear c2; obtain rfl := Option.some.inj H
  go_enter Tryd.func21, Tryd.ntmps21
  go_wp2
  go_ret
  exact ⟨by first | rfl | (simp [errW_none, errW_some] <;> rfl) | (simp [*, errW_none, errW_some] <;> rfl), blw HB.out⟩
 rw [if_pos c2] at H; have c2b0 : decide ((l0.length : Int) ≤ 300) = true := decide_eq_true c2; have c2b1 : decide (l0.length ≤ 300) = true := decide_eq_true (by omega); clear c2; replace H := Option.bind_eq_some_iff.mp H; obtain ⟨t301, A30, H⟩ := H; replace H : (some (t301 == 0)) = some r := H; have A3 := Aside0.mk A30; clear A30; obtain rfl := Option.some.inj H
 go_enter Tryd.func21, Tryd.ntmps21
 go_wp2_with (first | (go_at_call 15; (with_reducible refine (fastiref46_Check.calls k _ _ l0 t301 _ ?side1 ?side2 A3.out).mono ?_); (case side1 => exact cH HR0); (case side2 => exact HC0.out); rintro e w4 ⟨rfl, hb⟩; replace HB := sB HB hb; (try clear hb); (try clear hb2); (try clear hk); (try clear hi)))
 go_ret
 exact ⟨by first | rfl | (simp [errW_none, errW_some] <;> rfl) | (simp [*, errW_none, errW_some] <;> rfl), blw HB.out⟩

/-! ### fastilaw46_about: function 23 -/
def fastilaw46_about.f (a0_0 : Int) (a0_1 : Int) (a0_2 : Int) (a0_3 : Int) (a0_4 : Int) (a0_5 : Int) (a0_6 : Int) (a0_7 : Int) (a0_8 : Int) : Option (Int × Int × Int × Int × Int) := some (a0_1, a0_2, a0_3, a0_4, a0_7)
set_option maxHeartbeats 8000000 in
set_option maxRecDepth 100000 in
theorem fastilaw46_about.calls (a0_0 : Int) (a0_1 : Int) (a0_2 : Int) (a0_3 : Int) (a0_4 : Int) (a0_5 : Int) (a0_6 : Int) (a0_7 : Int) (a0_8 : Int) (r1 : Int) (r2 : Int) (r3 : Int) (r4 : Int) (r5 : Int) (w : World) (h : fastilaw46_about.f a0_0 a0_1 a0_2 a0_3 a0_4 a0_5 a0_6 a0_7 a0_8 = some (r1, r2, r3, r4, r5)) :
    Calls Tryd.prog 23 #[.agg #[.int .i64 a0_0, .int .i64 a0_1, .int .i64 a0_2, .int .i64 a0_3, .int .i64 a0_4, .int .i64 a0_5, .int .i64 a0_6, .int .i64 a0_7, .int .i64 a0_8]] w fun e w' => e = .returned (.agg #[.int .i64 r1, .int .i64 r2, .int .i64 r3, .int .i64 r4, .int .i64 r5]) ∧ Below w.heap.size w w' := by
 have hu24 := Tryd.underlying24; have hu40 := Tryd.underlying40; have HB := Aside0.mk (Below.refl w.heap.size w); have H : (some (a0_1, a0_2, a0_3, a0_4, a0_7)) = some (r1, r2, r3, r4, r5) := h; clear h
 simp only [Option.some.injEq, Prod.mk.injEq] at H
 obtain ⟨rfl, rfl, rfl, rfl, rfl⟩ := H
 go_enter Tryd.func23, Tryd.ntmps23
 go_wp2_with (first | ((with_reducible refine gate_dst (N := 1) rfl ?_); refine boxA (N := 1) #[.int .i64 a0_0, .int .i64 a0_1, .int .i64 a0_2, .int .i64 a0_3, .int .i64 a0_4, .int .i64 a0_5, .int .i64 a0_6, .int .i64 a0_7, .int .i64 a0_8] 24 ?_; intro gb302 hg w2 hbox hb; have BK302 := Aside0.mk (hbox); have GW302 := gW HB hg; have GE302 := gW HB hg; replace HB := sB HB hb; clear hb hbox hg) | ((with_reducible refine gate_dst (N := 2) rfl ?_); refine boxA (N := 2) #[.int .i64 0, .int .i64 0, .int .i64 0, .int .i64 0, .int .i64 0] 40 ?_; intro gb303 hg w3 hbox hb; have BK303 := Aside0.mk (hbox); have GW303 := gW HB hg; have GE303 := gW HB hg; replace HB := sB HB hb; have NB302_303 := nL BK302 hg; have NB303_302 := nG NB302_303; replace BK302 := bB BK302 hb; clear hb hbox hg; have hnb4 := NB302_303.out; have hnc4 := NB303_302.out; have hcz5_0 := bc0 BK302; have hcz5_1 := bc1 BK302; have hcz5_2 := bc2 BK302; have hcz5_3 := bc3 BK302; have hcz5_4 := bc4 BK302; have hcz5_5 := bc5 BK302; have hcz5_6 := bc6 BK302; have hcz5_7 := bc7 BK302; have hcz5_8 := bc8 BK302; have hfz5_0 := fz BK302 0; have hfz5_1 := fz BK302 1; have hfz5_2 := fz BK302 2; have hfz5_3 := fz BK302 3; have hfz5_4 := fz BK302 4; have hfz5_5 := fz BK302 5; have hfz5_6 := fz BK302 6; have hfz5_7 := fz BK302 7; have hfz5_8 := fz BK302 8; have hcz6_0 := bc0 BK303; have hcz6_1 := bc1 BK303; have hcz6_2 := bc2 BK303; have hcz6_3 := bc3 BK303; have hcz6_4 := bc4 BK303; have hfz6_0 := fz BK303 0; have hfz6_1 := fz BK303 1; have hfz6_2 := fz BK303 2; have hfz6_3 := fz BK303 3; have hfz6_4 := fz BK303 4))
 refine bodyPost_ret (results_cell_row rfl _ _ gb303 40 #[.int .i64 a0_1, .int .i64 a0_2, .int .i64 a0_3, .int .i64 a0_4, .int .i64 a0_7] (0, 0) _ rfl (by (with_reducible repeat (first | refine blk_drewN ?_ _ | refine blk_drew ?_ | refine blk_alloc ?_ _)); refine blk_put (cs := #[.int .i64 a0_1, .int .i64 a0_2, .int .i64 a0_3, .int .i64 a0_4, .int .i64 0]) ?_ 4 _ rfl; refine blk_put (cs := #[.int .i64 a0_1, .int .i64 a0_2, .int .i64 a0_3, .int .i64 0, .int .i64 0]) ?_ 3 _ rfl; refine blk_put (cs := #[.int .i64 a0_1, .int .i64 a0_2, .int .i64 0, .int .i64 0, .int .i64 0]) ?_ 2 _ rfl; refine blk_put (cs := #[.int .i64 a0_1, .int .i64 0, .int .i64 0, .int .i64 0, .int .i64 0]) ?_ 1 _ rfl; refine blk_put (cs := #[.int .i64 0, .int .i64 0, .int .i64 0, .int .i64 0, .int .i64 0]) ?_ 0 _ rfl; (with_reducible repeat (first | refine blk_drewN ?_ _ | refine blk_drew ?_ | refine blk_alloc ?_ _)); exact BK303.out) Tryd.underlying40 rfl (by kernel_rfl)) rfl ?_
 exact ⟨by first | rfl | (simp [errW_none, errW_some] <;> rfl) | (simp [*, errW_none, errW_some] <;> rfl), blw HB.out⟩

-- NOT PRINTED: function 5 (fastilaw46_FactsLatest)

end Go.Proofs.YtebfcckaicgcfaaDoor.Q
