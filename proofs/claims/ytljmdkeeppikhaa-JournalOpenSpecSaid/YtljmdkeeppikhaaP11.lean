/- Functions of the translation as plain Lean functions, and proofs that the calls do what these say; written by a program of this session round the kit's print. -/
import Derived.Test.YtljmdkeeppikhaaQ0
import Derived.Test.YtljmdkeeppikhaaAidB
import Derived.Test.YtljmdkeeppikhaaAidC
import Derived.Test.YtljmdkeeppikhaaP8
import Derived.Test.YtljmdkeeppikhaaP10
namespace Go.Proofs.Ytljmdkeeppikhaa.Q
open Go.RowKit Go.Proofs.YtljmdkeeppikhaaW.PrintWords Go.Proofs.YtljmdkeeppikhaaW.PrintLast Go.Proofs.YtljmdkeeppikhaaW.PrintMore
attribute [local go_sem] max2_int min2_int max_two min_two max_three min_three max_four min_four   -- for this text's walks alone
set_option linter.unusedVariables false
set_option linter.unusedSimpArgs false

/-! ### fastiref05_record: function 62 -/
mutual
def fastiref05_record.l0 : Nat → List (List Int) → Int → List Int → Int → Option (List Int × Int)
  | 0, _, _, _, _ => none
  | k + 1, x0, x1, x6, x7 => if (wrap64 (x1 + x7)) < (x0.length : Int) then (if 0 ≤ (wrap64 (x1 + x7)) then ((fastiref05_good.f k (rd_L1 x0 (wrap64 (x1 + x7))) (wrap64 (x1 + x7))).bind fun t311 => (if t311 = true then (if 10 < ((rd_L1 x0 (wrap64 (x1 + x7))).length : Int) then (if (((Int.tmod (rd (rd_L1 x0 (wrap64 (x1 + x7))) 10) 2) == 1) != (x7 == 0)) = true then (fastiref05_record.j1 k x0 x1 x6 x7 (rd_L1 x0 (wrap64 (x1 + x7))) true) else (if x7 > 0 then (if 4 ≤ ((rd_L1 x0 (wrap64 (x1 + x7))).length : Int) then ((fastiref05_number.f k ((rd_L1 x0 (wrap64 (x1 + x7))).take 4)).bind fun t314 => (if 0 ≤ x1 then (if x1 < (x0.length : Int) then (if 4 ≤ ((rd_L1 x0 x1).length : Int) then ((fastiref05_number.f k ((rd_L1 x0 x1).take 4)).bind fun t317 => (fastiref05_record.j1 k x0 x1 x6 x7 (rd_L1 x0 (wrap64 (x1 + x7))) (t314 != t317))) else (none)) else (none)) else (none))) else (none)) else (fastiref05_record.j1 k x0 x1 x6 x7 (rd_L1 x0 (wrap64 (x1 + x7))) false))) else (none)) else (fastiref05_record.j1 k x0 x1 x6 x7 (rd_L1 x0 (wrap64 (x1 + x7))) true))) else (none)) else (some (([] : List Int), 0))
def fastiref05_record.j1 : Nat → List (List Int) → Int → List Int → Int → List Int → Bool → Option (List Int × Int)
  | 0, _, _, _, _, _, _ => none
  | k + 1, x0, x1, x6, x7, x8, x55 => if x55 = true then (some (([] : List Int), 0)) else (if 11 < (x8.length : Int) then (if 12 ≤ (wrap64 (12 + (wrap64 (rd x8 11)))) then (if (wrap64 (12 + (wrap64 (rd x8 11)))) ≤ (x8.length : Int) then (if x6.length + ((x8.take ((wrap64 (12 + (wrap64 (rd x8 11)))) : Int).toNat).drop 12).length < 140737488355328 then ((some (x6 ++ ((x8.take ((wrap64 (12 + (wrap64 (rd x8 11)))) : Int).toNat).drop 12) : List Int)).bind fun y320 => (if 10 < (x8.length : Int) then (if (rd x8 10) ≥ 2 then (some (y320, wrap64 (x7 + 1))) else (fastiref05_record.l0 k x0 x1 y320 (wrap64 (x7 + 1)))) else (none))) else (none)) else (none)) else (none)) else (none))
end
def fastiref05_record.f (k : Nat) (l0 : List (List Int)) (a1 : Int) : Option (List Int × Int) := fastiref05_record.l0 k l0 a1 (([] : List Int)) 0
set_option maxRecDepth 100000 in
theorem fastiref05_record.mono_l : ∀ k, (∀ y0 y1 y2 y3, LeO (fastiref05_record.l0 k y0 y1 y2 y3) (fastiref05_record.l0 (k + 1) y0 y1 y2 y3)) ∧ (∀ y0 y1 y2 y3 y4 y5, LeO (fastiref05_record.j1 k y0 y1 y2 y3 y4 y5) (fastiref05_record.j1 (k + 1) y0 y1 y2 y3 y4 y5))
  | 0 => ⟨fun _ _ _ _ r h => by simp [fastiref05_record.l0] at h, fun _ _ _ _ _ _ r h => by simp [fastiref05_record.j1] at h⟩
  | k + 1 => by
    obtain ⟨ih0, ih1⟩ := fastiref05_record.mono_l k
    refine ⟨?_, ?_⟩
    · intro y0 y1 y2 y3
      unfold fastiref05_record.l0
      repeat' first
      | (with_reducible exact ih0 _ _ _ _)
      | (with_reducible exact ih1 _ _ _ _ _ _)
      | (with_reducible exact fastiref05_good.mono _ _ _)
      | (with_reducible exact fastiref05_number.mono _ _)
      | (with_reducible exact LeO.refl _)
      | (with_reducible exact LeO.none _)
      | (with_reducible refine LeO.ite ?_ ?_)
      | (with_reducible refine LeO.bind ?_ (fun _ => ?_))
      | exact ih0 _ _ _ _
      | exact ih1 _ _ _ _ _ _
      | exact fastiref05_good.mono _ _ _
      | exact fastiref05_number.mono _ _
      | exact LeO.none _
      | refine LeO.ite ?_ ?_
      | refine LeO.bind ?_ (fun _ => ?_)
    · intro y0 y1 y2 y3 y4 y5
      unfold fastiref05_record.j1
      repeat' first
      | (with_reducible exact ih0 _ _ _ _)
      | (with_reducible exact ih1 _ _ _ _ _ _)
      | (with_reducible exact fastiref05_good.mono _ _ _)
      | (with_reducible exact fastiref05_number.mono _ _)
      | (with_reducible exact LeO.refl _)
      | (with_reducible exact LeO.none _)
      | (with_reducible refine LeO.ite ?_ ?_)
      | (with_reducible refine LeO.bind ?_ (fun _ => ?_))
      | exact ih0 _ _ _ _
      | exact ih1 _ _ _ _ _ _
      | exact fastiref05_good.mono _ _ _
      | exact fastiref05_number.mono _ _
      | exact LeO.none _
      | refine LeO.ite ?_ ?_
      | refine LeO.bind ?_ (fun _ => ?_)
theorem fastiref05_record.mono : ∀ a0 a1 k, LeO (fastiref05_record.f k a0 a1) (fastiref05_record.f (k + 1) a0 a1) := by
  intro a0 a1 k
  obtain ⟨ih0, ih1⟩ := fastiref05_record.mono_l k
  unfold fastiref05_record.f
  repeat' first
      | (with_reducible exact ih0 _ _ _ _)
      | (with_reducible exact ih1 _ _ _ _ _ _)
      | (with_reducible exact fastiref05_good.mono _ _ _)
      | (with_reducible exact fastiref05_number.mono _ _)
      | (with_reducible exact LeO.refl _)
      | (with_reducible exact LeO.none _)
      | (with_reducible refine LeO.ite ?_ ?_)
      | (with_reducible refine LeO.bind ?_ (fun _ => ?_))
      | exact ih0 _ _ _ _
      | exact ih1 _ _ _ _ _ _
      | exact fastiref05_good.mono _ _ _
      | exact fastiref05_number.mono _ _
      | exact LeO.none _
      | refine LeO.ite ?_ ?_
      | refine LeO.bind ?_ (fun _ => ?_)
def fastiref05_record.T6 : Bool × List (List Nat × List Nat) := (true, [([], []), ([], []), ([], []), ([1, 2], [1, 2]), ([0, 3], [0, 3]), ([4], [4]), ([5, 4], [5]), ([6], [6]), ([7, 6], [6, 7]), ([8, 6], [6, 8]), ([9, 6], [6, 9]), ([10, 6], [6, 10]), ([6], [6]), ([12, 6], [6, 12]), ([11, 13, 6], [6, 11, 13]), ([6, 14], [6, 14]), ([15, 6], [15]), ([16], [16]), ([17, 16], [16, 17]), ([18, 16, 16], [16, 18]), ([19], [19]), ([20, 19], [19, 20]), ([21, 19, 19], [19, 21]), ([19], [19]), ([19], [19]), ([23, 24, 19], [19, 23, 24]), ([25, 19], [19, 25]), ([26, 19], [19, 26]), ([27, 22, 19], [19, 27]), ([22, 28, 19], [19, 22, 28]), ([19, 29, 16], [16, 19, 29]), ([16, 30], [16, 30])])
def fastiref05_record.B6 : List Nat := [0, 0, 0, 6, 15, 31, 63, 127, 255, 511, 1023, 2047, 127, 4223, 16383, 32767, 65535, 131071, 262143, 524287, 1048575, 2097151, 4194303, 1048575, 1048575, 26214399, 59768831, 126877695, 268435455, 536870911, 1073741823, 2147483647]
theorem fastiref05_record.tab6 : rtab .any (opsOf Try.f62 6) = fastiref05_record.T6 := by kernel_rfl
theorem fastiref05_record.bits6 : waitsOk fastiref05_record.T6.2 fastiref05_record.B6 = true := by kernel_rfl
set_option maxHeartbeats 8000000 in
set_option maxRecDepth 100000 in
theorem fastiref05_record.calls (k : Nat) (A0 : Option Addr) (c0 : Nat) (l0 : List (List Int)) (a1 : Int) (r1 : List Int) (r2 : Int) (w : World) (hr0 : Kd.C (Kd.slice 5 (Kd.int .u8)) w A0 l0.length l0) (hc0 : l0.length ≤ c0) (h : fastiref05_record.f k l0 a1 = some (r1, r2)) :
    Calls Try.prog 62 #[.slice A0 l0.length c0, .int .i64 a1] w fun e w' => ∃ v0_ : Value, e = .returned (.tuple #[v0_, .int .i64 r2]) ∧ Kd.R (Kd.int .u8) 5 w' w.heap.size (fun _ => True) v0_ r1 ∧ Below w.heap.size w w' := by
 have HR0 := Aside0.mk hr0; have HC0 := Aside0.mk hc0; clear hr0 hc0; have HB := Aside0.mk (Below.refl w.heap.size w); have H : (fastiref05_record.l0 k l0 a1 (([] : List Int)) 0) = some (r1, r2) := h; clear h; obtain ⟨y307, hy307⟩ : ∃ y_ : List Int, y_ = (([] : List Int)) := ⟨_, rfl⟩
 replace H : (fastiref05_record.l0 k l0 a1 y307 0) = some (r1, r2) := by first | (rw [hy307]; with_reducible exact H) | (have H2_ := (Option.bind_some _ _).symm.trans H; rw [hy307]; with_reducible exact H2_) | (have H2_ := (Option.bind_some _ _).symm.trans H; with_reducible exact H2_) | with_reducible exact H | (rw [hy307]; exact H) | exact H
 have Ny307 := Aside0.mk hy307; clear hy307; have H' := Aside0.mk H; clear H
 go_enter Try.func62, Try.ntmps62
 go_wp2_with (first | ((with_reducible refine gate_dst (N := 9) rfl ?_); refine Kd.R_lit (Kd.int .u8) _ 5 ?hg (N := 9) ?hd (xs := ([] : List Int)) (inner := []) (ok := fun _ => True) (okp := fun _ => True) ?hr ?hp (fun _ hk => hk) trivial (Below.refl _ _) (Nat.le_refl _) (by simp) ?_; (case hd => rfl); (case hg => rfl); (case hr => first | (go_simp; done) | (go_simp; rfl)); (case hp => exact (Reps.none _ _)); intro v308 w3 ho4 hb hg_ hnew_; clear hg_ hnew_; (first | rw [← Ny307.out] at ho4 | (simp only [Int.reduceToNat] at ho4; rw [← Ny307.out] at ho4)); have HO309 := Aside0.mk (Kd.R_lower ho4 (below_size (blw HB.out))); replace HB := sB HB hb; clear hb ho4))
 go_loopg [6, 7] k (fun kq v6 v7 w' => ∃ (x6_1 : List Int) (x7_1 : Int), v7 = .int .i64 x7_1 ∧ Aside0 (fastiref05_record.l0 kq l0 a1 x6_1 x7_1 = some (r1, r2)) ∧ Aside0 (kq ≤ k) ∧ Aside0 (Kd.R (Kd.int .u8) 5 w' w.heap.size (fun _ => True) v6 x6_1) ∧ Aside0 (Below w.heap.size w w'))
 case atStart => exact ⟨(y307), (0), (by first | rfl | (simp; done) | (simp [*]; done)), H', ⟨Nat.le_refl _⟩, ⟨rmv HO309.out⟩, ⟨blw HB.out⟩⟩
 clear H'; (try clear p2); obtain ⟨x6_1, x7_1, rfl, HA, HK1, HO_6, HB⟩ := hrel
 cases gk with
 | zero => exact absurd HA.out (by simp [fastiref05_record.l0])
 | succ k1 =>
   have H := HA.out; clear HA
   simp only [fastiref05_record.l0] at H
   by_cases c5 : (wrap64 (a1 + x7_1)) < (l0.length : Int)
   · rw [if_pos c5] at H
     have c5b0 : decide ((wrap64 (a1 + x7_1)) < (l0.length : Int)) = true := decide_eq_true c5; clear c5; obtain ⟨ji6, hji6⟩ : ∃ j_ : Int, (wrap64 (a1 + x7_1)) = j_ := ⟨_, rfl⟩
     replace H : (if 0 ≤ (ji6) then ((fastiref05_good.f k1 (rd_L1 l0 (ji6)) (ji6)).bind fun t311 => (if t311 = true then (if 10 < ((rd_L1 l0 (ji6)).length : Int) then (if (((Int.tmod (rd (rd_L1 l0 (ji6)) 10) 2) == 1) != (x7_1 == 0)) = true then (fastiref05_record.j1 k1 l0 a1 x6_1 x7_1 (rd_L1 l0 (ji6)) true) else (if x7_1 > 0 then (if 4 ≤ ((rd_L1 l0 (ji6)).length : Int) then ((fastiref05_number.f k1 ((rd_L1 l0 (ji6)).take 4)).bind fun t314 => (if 0 ≤ a1 then (if a1 < (l0.length : Int) then (if 4 ≤ ((rd_L1 l0 a1).length : Int) then ((fastiref05_number.f k1 ((rd_L1 l0 a1).take 4)).bind fun t317 => (fastiref05_record.j1 k1 l0 a1 x6_1 x7_1 (rd_L1 l0 (ji6)) (t314 != t317))) else (none)) else (none)) else (none))) else (none)) else (fastiref05_record.j1 k1 l0 a1 x6_1 x7_1 (rd_L1 l0 (ji6)) false))) else (none)) else (fastiref05_record.j1 k1 l0 a1 x6_1 x7_1 (rd_L1 l0 (ji6)) true))) else (none)) = some (r1, r2) := by first | (rw [hji6] at H; exact H) | (simp only [hji6] at H ⊢; exact H)
     (try rw [hji6] at c5b0)
     have hji6w : (IntKind.i64.wrap (a1 + x7_1)) = ji6 := (i64_w _).trans hji6
     by_cases c7 : 0 ≤ (ji6)
     · rw [if_pos c7] at H
       have c7b0 : decide (0 ≤ (ji6)) = true := decide_eq_true c7; clear c7; have HC8 := Aside0.mk H; clear H; have p310 : 0 ≤ ((ji6) : Int) := of_decide_eq_true (by first | (with_reducible assumption) | assumption); have q310 : (ji6) < (l0.length : Int) := of_decide_eq_true (by first | (with_reducible assumption) | assumption); obtain ⟨ad310, A310_0, c310_0, e310, hx310_0, hl310_0, hi310_0⟩ := at_L1 HR0.out (ji6) p310 q310; cases e310; replace hx310_0 := (HB.out.cell (World.block_lt_of_cell? w _ hx310_0)).trans hx310_0; have HR310_0 := Aside0.mk hi310_0; have HC310_0 := Aside0.mk hl310_0; clear hi310_0 hl310_0; replace p310 := eq_true p310; replace q310 := eq_true q310
       go_upto_region 6 with (fail)
       go_cut [55] (fun v55 wc => ∃ (kq : Nat) (x55_7 : Bool), v55 = .bool x55_7 ∧ Aside0 (fastiref05_record.j1 kq l0 a1 x6_1 x7_1 (rd_L1 l0 (ji6)) x55_7 = some (r1, r2)) ∧ Aside0 (kq ≤ k1) ∧ Aside0 (Kd.R (Kd.int .u8) 5 wc w.heap.size (fun _ => True) u6 x6_1) ∧ Aside0 (Below w.heap.size w wc))
       case first =>
         have H := HC8.out; clear HC8; replace H := Option.bind_eq_some_iff.mp H; obtain ⟨t311, A90, H⟩ := H; replace H : (if t311 = true then (if 10 < ((rd_L1 l0 (ji6)).length : Int) then (if (((Int.tmod (rd (rd_L1 l0 (ji6)) 10) 2) == 1) != (x7_1 == 0)) = true then (fastiref05_record.j1 k1 l0 a1 x6_1 x7_1 (rd_L1 l0 (ji6)) true) else (if x7_1 > 0 then (if 4 ≤ ((rd_L1 l0 (ji6)).length : Int) then ((fastiref05_number.f k1 ((rd_L1 l0 (ji6)).take 4)).bind fun t314 => (if 0 ≤ a1 then (if a1 < (l0.length : Int) then (if 4 ≤ ((rd_L1 l0 a1).length : Int) then ((fastiref05_number.f k1 ((rd_L1 l0 a1).take 4)).bind fun t317 => (fastiref05_record.j1 k1 l0 a1 x6_1 x7_1 (rd_L1 l0 (ji6)) (t314 != t317))) else (none)) else (none)) else (none))) else (none)) else (fastiref05_record.j1 k1 l0 a1 x6_1 x7_1 (rd_L1 l0 (ji6)) false))) else (none)) else (fastiref05_record.j1 k1 l0 a1 x6_1 x7_1 (rd_L1 l0 (ji6)) true)) = some (r1, r2) := H; have A9 := Aside0.mk A90; clear A90
         by_cases c10 : t311 = true
         · subst c10
           have H1 : (if 10 < ((rd_L1 l0 (ji6)).length : Int) then (if (((Int.tmod (rd (rd_L1 l0 (ji6)) 10) 2) == 1) != (x7_1 == 0)) = true then (fastiref05_record.j1 k1 l0 a1 x6_1 x7_1 (rd_L1 l0 (ji6)) true) else (if x7_1 > 0 then (if 4 ≤ ((rd_L1 l0 (ji6)).length : Int) then ((fastiref05_number.f k1 ((rd_L1 l0 (ji6)).take 4)).bind fun t314 => (if 0 ≤ a1 then (if a1 < (l0.length : Int) then (if 4 ≤ ((rd_L1 l0 a1).length : Int) then ((fastiref05_number.f k1 ((rd_L1 l0 a1).take 4)).bind fun t317 => (fastiref05_record.j1 k1 l0 a1 x6_1 x7_1 (rd_L1 l0 (ji6)) (t314 != t317))) else (none)) else (none)) else (none))) else (none)) else (fastiref05_record.j1 k1 l0 a1 x6_1 x7_1 (rd_L1 l0 (ji6)) false))) else (none)) = some (r1, r2) := by rw [if_pos rfl] at H; exact H
           clear H; have H := H1; clear H1
           by_cases c11 : 10 < ((rd_L1 l0 (ji6)).length : Int)
           · rw [if_pos c11] at H
             have c11b0 : decide (10 < ((rd_L1 l0 (ji6)).length : Int)) = true := decide_eq_true c11; have c11b1 : decide (10 < (rd_L1 l0 (ji6)).length) = true := decide_eq_true (by omega); clear c11
             (first | rw [c11b0] | (simp only [i64_w, i32_w]; rw [c11b0]) | skip)
             by_cases c12 : (((Int.tmod (rd (rd_L1 l0 (ji6)) 10) 2) == 1) != (x7_1 == 0)) = true
             · rw [if_pos c12] at H
               have c12b0 : (((Int.tmod (rd (rd_L1 l0 (ji6)) 10) 2) == 1) != (x7_1 == 0)) = true := c12
               (try (have c12b1 : decide (((Int.tmod (rd (rd_L1 l0 (ji6)) 10) 2) == 1) = (x7_1 == 0)) = false := by simpa using c12))
               (try (have c12b2 : (((Int.tmod (rd (rd_L1 l0 (ji6)) 10) 2) == 1) == (x7_1 == 0)) = false := by simpa using c12))
               (try (have c12b3 : ¬ (((Int.tmod (rd (rd_L1 l0 (ji6)) 10) 2) == 1) = (x7_1 == 0)) := by simpa using c12))
               clear c12; have H' := Aside0.mk H; clear H
               try go_wp2
               replace HO_6 := Aside0.mk (Kd.R_drew HO_6.out); replace HB := hD HB; have p312 : 0 ≤ (10 : Int) := (by omega); have q312 : 10 < ((rd_L1 l0 (ji6)).length : Int) := of_decide_eq_true (by first | (with_reducible assumption) | assumption); obtain ⟨ad312, e312, hx312_0⟩ := Kd.at_int HR310_0.out 10 p312 q312; have hw312_0 := hx312_0
               (try rw [show ((10 : Int)).toNat = 10 from rfl] at hw312_0)
               (try rw [show 10 * 1 = 10 from rfl] at hw312_0)
               (try simp only [Nat.reduceMul, Nat.reduceEqDiff, Go.Addr.add, ↓reduceIte] at hw312_0)
               cases e312
               (try simp only [show (10 : Int).toNat = 10 from rfl, Nat.reduceMul, Nat.reduceEqDiff, Go.Addr.add, ↓reduceIte] at hx312_0)
               have qi312 : (10 < (rd_L1 l0 (ji6)).length) = True := eq_true (by omega)
               (try rw [show ((10 : Int)).toNat = 10 from rfl] at hx312_0)
               replace hx312_0 := (HB.out.cell (World.block_lt_of_cell? w _ hx312_0)).trans hx312_0; replace p312 := eq_true p312; replace q312 := eq_true q312
               refine start_ (n := 32) (S := fun w' => w'.cell? ⟨ad312.block, ad312.off + 10, none⟩ = some (.int .u8 (rd (rd_L1 l0 (ji6)) 10))) (ds := []) (ar 32 0) (by kernel_rfl) rfl rfl (((HB.out.cell (World.block_lt_of_cell? w _ hw312_0)).trans hw312_0)) (fun hHeld => ?_); refine with_tabW fastiref05_record.tab6 fastiref05_record.bits6 (fun HT_ HW_ => ?_)
               generalize wr.drew = w13 at HO_6 HB hx312_0 hHeld ⊢
               refine pA HT_ 0 24 1 ?_; refine pA HT_ 1 25 3 ?_; refine pA HT_ 2 26 7 ?_; refine pA HT_ 3 27 15 ?_
               refine oA HT_ 4 28 31 fun K hK => ?_
               refine goes_ Try.func72 (by kernel_rfl) rfl #[.slice (some ad312) (rd_L1 l0 (ji6)).length c310_0, .int .i64 ji6] (by rfl) rfl rfl (by (try simp only [List.map_toArray, List.map_cons, List.map_nil]); first | done | (simp only [hji6]; rfl) | rfl | (simp only [List.length_drop, List.length_take]; rfl)) ?_
               with_reducible refine (fastiref05_good.calls k1 _ _ (rd_L1 l0 (ji6)) ji6 true _ ?side1 ?side2 A9.out).mono ?_
               (case side1 => exact cB HR310_0 HB)
               (case side2 => exact HC310_0.out)
               rintro e w14 ⟨rfl, hb⟩
               refine ⟨_, rfl, ?_⟩
               replace HO_6 := Aside0.mk (Kd.R_below (rmv HO_6.out) hb); replace HB := sB HB hb; (try clear hb); (try clear hb2); (try clear hk); (try clear hi)
               refine hK.out _ _ (((HB.out.cell (World.block_lt_of_cell? w _ hw312_0)).trans hw312_0)) (fun hHeld => normA ?_); clear hK K
               refine pA HT_ 5 29 63 ?_; refine pA HT_ 6 30 127 ?_; refine pA HT_ 7 31 255 ?_; refine pA HT_ 8 32 511 ?_; refine pA HT_ 12 36 4607 ?_; refine pA HT_ 13 37 12799 ?_
               refine take_ (i := 9) (N := some 33) (v := ?_) (a' := ?_) (ar 32 13311) rfl rfl (take_ofW HT_.out HW_.out (by kernel_rfl)) (fun _ _ _ h => h) (Or.inl ⟨by rfl, ?_⟩) hHeld ?_ ?_
               rotate_left
               · intro w' s0
                 go_simp
                 with_reducible rfl
               rotate_left
               · simp only [Act.put, List.setIfInBounds_toArray, List.set_cons_zero, List.set_cons_succ, i64_w, i32_w]
                 rfl
               refine pA HT_ 10 34 14335 ?_; refine pA HT_ 11 35 16383 ?_; refine pA HT_ 14 38 32767 ?_; refine pA HT_ 15 39 65535 ?_; refine pA HT_ 16 40 131071 ?_; refine pU HT_ 17 41 262143 ?_; refine pU HT_ 18 42 524287 ?_; refine pU HT_ 19 43 1048575 ?_; refine pU HT_ 20 44 2097151 ?_; refine pU HT_ 21 45 4194303 ?_
               refine pU HT_ 22 46 8388607 ?_; refine pU HT_ 23 47 16777215 ?_; refine pU HT_ 24 48 33554431 ?_; refine pU HT_ 25 49 67108863 ?_; refine pU HT_ 26 50 134217727 ?_; refine pU HT_ 27 51 268435455 ?_; refine pU HT_ 28 52 536870911 ?_; refine pU HT_ 29 53 1073741823 ?_; refine pU HT_ 30 54 2147483647 ?_; refine pA HT_ 31 55 4294967295 ?_
               refine done_ (done_of HT_.out (by kernel_rfl)) ?_
               try go_wp2
               go_meet
               case rel => exact ⟨_, (true), (by first | rfl | (simp; done) | (simp [*]; done)), H', ⟨by have := HK1.out; first | omega | exact Nat.le_refl _⟩, ⟨rmv HO_6.out⟩, ⟨blw HB.out⟩⟩
             · rw [if_neg c12] at H
               have c12b0 : (((Int.tmod (rd (rd_L1 l0 (ji6)) 10) 2) == 1) != (x7_1 == 0)) = false := by simpa using c12
               (try (have c12b1 : decide (((Int.tmod (rd (rd_L1 l0 (ji6)) 10) 2) == 1) = (x7_1 == 0)) = true := by simpa using c12))
               (try (have c12b2 : (((Int.tmod (rd (rd_L1 l0 (ji6)) 10) 2) == 1) == (x7_1 == 0)) = true := by simpa using c12))
               clear c12
               by_cases c15 : x7_1 > 0
               · rw [if_pos c15] at H
                 have c15b0 : decide (0 < x7_1) = true := decide_eq_true c15; clear c15
                 by_cases c16 : 4 ≤ ((rd_L1 l0 (ji6)).length : Int)
                 · rw [if_pos c16] at H
                   have c16b0 := eq_true c16; have c16b1 : decide (4 ≤ ((rd_L1 l0 (ji6)).length : Int)) = true := decide_eq_true c16; clear c16; replace H := Option.bind_eq_some_iff.mp H; obtain ⟨t314, A170, H⟩ := H; replace H : (if 0 ≤ a1 then (if a1 < (l0.length : Int) then (if 4 ≤ ((rd_L1 l0 a1).length : Int) then ((fastiref05_number.f k1 ((rd_L1 l0 a1).take 4)).bind fun t317 => (fastiref05_record.j1 k1 l0 a1 x6_1 x7_1 (rd_L1 l0 (ji6)) (t314 != t317))) else (none)) else (none)) else (none)) = some (r1, r2) := H; have A17 := Aside0.mk A170; clear A170
                   by_cases c18 : 0 ≤ a1
                   · rw [if_pos c18] at H
                     have c18b0 : decide (0 ≤ a1) = true := decide_eq_true c18; clear c18
                     by_cases c19 : a1 < (l0.length : Int)
                     · rw [if_pos c19] at H
                       have c19b0 : decide (a1 < (l0.length : Int)) = true := decide_eq_true c19; clear c19
                       by_cases c20 : 4 ≤ ((rd_L1 l0 a1).length : Int)
                       · rw [if_pos c20] at H
                         have c20b0 := eq_true c20; have c20b1 : decide (4 ≤ ((rd_L1 l0 a1).length : Int)) = true := decide_eq_true c20; clear c20; replace H := Option.bind_eq_some_iff.mp H; obtain ⟨t317, A210, H⟩ := H; replace H : (fastiref05_record.j1 k1 l0 a1 x6_1 x7_1 (rd_L1 l0 (ji6)) (t314 != t317)) = some (r1, r2) := H; have A21 := Aside0.mk A210; clear A210; have H' := Aside0.mk H; clear H
                         try go_wp2
                         replace HO_6 := Aside0.mk (Kd.R_drew HO_6.out); replace HB := hD HB; have p312 : 0 ≤ (10 : Int) := (by omega); have q312 : 10 < ((rd_L1 l0 (ji6)).length : Int) := of_decide_eq_true (by first | (with_reducible assumption) | assumption); obtain ⟨ad312, e312, hx312_0⟩ := Kd.at_int HR310_0.out 10 p312 q312; have hw312_0 := hx312_0
                         (try rw [show ((10 : Int)).toNat = 10 from rfl] at hw312_0)
                         (try rw [show 10 * 1 = 10 from rfl] at hw312_0)
                         (try simp only [Nat.reduceMul, Nat.reduceEqDiff, Go.Addr.add, ↓reduceIte] at hw312_0)
                         cases e312
                         (try simp only [show (10 : Int).toNat = 10 from rfl, Nat.reduceMul, Nat.reduceEqDiff, Go.Addr.add, ↓reduceIte] at hx312_0)
                         have qi312 : (10 < (rd_L1 l0 (ji6)).length) = True := eq_true (by omega)
                         (try rw [show ((10 : Int)).toNat = 10 from rfl] at hx312_0)
                         replace hx312_0 := (HB.out.cell (World.block_lt_of_cell? w _ hx312_0)).trans hx312_0; replace p312 := eq_true p312; replace q312 := eq_true q312; have p315 : 0 ≤ (a1 : Int) := of_decide_eq_true (by first | (with_reducible assumption) | assumption); have q315 : a1 < (l0.length : Int) := of_decide_eq_true (by first | (with_reducible assumption) | assumption); obtain ⟨ad315, A315_0, c315_0, e315, hx315_0, hl315_0, hi315_0⟩ := at_L1 HR0.out a1 p315 q315; have hw315_0 := hx315_0; obtain rfl : ad310 = ad315 := (by injection e315); replace hx315_0 := (HB.out.cell (World.block_lt_of_cell? w _ hx315_0)).trans hx315_0; have HR315_0 := Aside0.mk hi315_0; have HC315_0 := Aside0.mk hl315_0; clear hi315_0 hl315_0; replace p315 := eq_true p315; replace q315 := eq_true q315
                         obtain ⟨i024, hi024, _, hsz24, _⟩ := info_parts info5; obtain ⟨hcut24, hA24, hC24⟩ := print_take_of (P := Try.prog) (Value.int .u8) 0 35 5 .i64 Try.underlying35 hi024 hsz24 (some ad312) c310_0 (rd_L1 l0 (ji6)) 4 (by omega) (of_decide_eq_true (by first | (with_reducible assumption) | assumption)) HC310_0.out; have HR313 := Aside0.mk (Kd.C_of_reads (h1 := fun _ => rfl) (hA24 _ (Kd.reads_of_C HR310_0.out))); have HC313 := Aside0.mk hC24; clear hA24 hC24 hi024 hsz24; obtain ⟨i025, hi025, _, hsz25, _⟩ := info_parts info5; obtain ⟨hcut25, hA25, hC25⟩ := print_take_of (P := Try.prog) (Value.int .u8) 0 35 5 .i64 Try.underlying35 hi025 hsz25 A315_0 c315_0 (rd_L1 l0 a1) 4 (by omega) (of_decide_eq_true (by first | (with_reducible assumption) | assumption)) HC315_0.out; have HR316 := Aside0.mk (Kd.C_of_reads (h1 := fun _ => rfl) (hA25 _ (Kd.reads_of_C HR315_0.out))); have HC316 := Aside0.mk hC25; clear hA25 hC25 hi025 hsz25
                         refine start_ (n := 32) (S := fun w' => w'.cell? ⟨ad312.block, ad312.off + 10, none⟩ = some (.int .u8 (rd (rd_L1 l0 (ji6)) 10)) ∧ w'.cell? (ad310.add (a1).toNat) = some (.slice A315_0 (rd_L1 l0 a1).length c315_0)) (ds := []) (ar 32 0) (by kernel_rfl) rfl rfl ⟨((HB.out.cell (World.block_lt_of_cell? w _ hw312_0)).trans hw312_0), ((HB.out.cell (World.block_lt_of_cell? w _ hw315_0)).trans hw315_0)⟩ (fun hHeld => ?_); refine with_tabW fastiref05_record.tab6 fastiref05_record.bits6 (fun HT_ HW_ => ?_)
                         generalize wr.drew = w22 at HO_6 HB HR315_0 hx312_0 hx315_0 hHeld ⊢
                         refine pA HT_ 0 24 1 ?_; refine pA HT_ 1 25 3 ?_; refine pA HT_ 2 26 7 ?_; refine pA HT_ 3 27 15 ?_
                         refine oA HT_ 4 28 31 fun K hK => ?_
                         refine goes_ Try.func72 (by kernel_rfl) rfl #[.slice (some ad312) (rd_L1 l0 (ji6)).length c310_0, .int .i64 ji6] (by rfl) rfl rfl (by (try simp only [List.map_toArray, List.map_cons, List.map_nil]); first | done | (simp only [hji6]; rfl) | rfl | (simp only [List.length_drop, List.length_take]; rfl)) ?_
                         with_reducible refine (fastiref05_good.calls k1 _ _ (rd_L1 l0 (ji6)) ji6 true _ ?side1 ?side2 A9.out).mono ?_
                         (case side1 => exact cB HR310_0 HB)
                         (case side2 => exact HC310_0.out)
                         rintro e w23 ⟨rfl, hb⟩
                         refine ⟨_, rfl, ?_⟩
                         replace HO_6 := Aside0.mk (Kd.R_below (rmv HO_6.out) hb); replace HB := sB HB hb; (try clear hb); (try clear hb2); (try clear hk); (try clear hi); 
                         refine hK.out _ _ ⟨((HB.out.cell (World.block_lt_of_cell? w _ hw312_0)).trans hw312_0), ((HB.out.cell (World.block_lt_of_cell? w _ hw315_0)).trans hw315_0)⟩ (fun hHeld => normA ?_); clear hK K
                         refine pA HT_ 5 29 63 ?_; refine pA HT_ 6 30 127 ?_; refine pA HT_ 7 31 255 ?_; refine pA HT_ 8 32 511 ?_; refine pA HT_ 12 36 4607 ?_; refine pA HT_ 13 37 12799 ?_; refine takeA (i := 9) (N := some 33) (ar 32 13311) rfl (take_ofW HT_.out HW_.out (by kernel_rfl)) hHeld (by rintro w' ⟨s0, s1⟩; go_simp; with_reducible rfl) ?_; refine pA HT_ 10 34 14335 ?_; refine pA HT_ 11 35 16383 ?_
                         refine pA HT_ 14 38 32767 ?_; refine pA HT_ 15 39 65535 ?_; refine pA HT_ 16 40 131071 ?_; refine pA HT_ 17 41 262143 ?_; refine pA HT_ 18 42 524287 ?_; refine pA HT_ 19 43 1048575 ?_; refine pA HT_ 20 44 2097151 ?_; refine pA HT_ 21 45 4194303 ?_; refine pA HT_ 23 47 12582911 ?_; refine pA HT_ 24 48 29360127 ?_
                         refine pA HT_ 25 49 62914559 ?_; refine takeA (i := 26) (N := some 50) (ar 32 130023423) rfl (take_ofW HT_.out HW_.out (by kernel_rfl)) hHeld (by rintro w' ⟨s0, s1⟩; go_simp; with_reducible rfl) ?_; refine pA HT_ 27 51 264241151 ?_
                         refine oA HT_ 22 46 268435455 fun K hK => ?_
                         refine goes_ Try.func63 (by kernel_rfl) rfl #[.slice (some ad312) ((rd_L1 l0 (ji6)).take 4).length c310_0] (by rfl) rfl rfl (by (try simp only [List.map_toArray, List.map_cons, List.map_nil]); first | done | (rw [show ((rd_L1 l0 (ji6)).take 4).length = 4 from (by rw [List.length_take]; have h_ : (4 : Int) ≤ ((rd_L1 l0 (ji6)).length : Int) := of_decide_eq_true (by first | (with_reducible assumption) | assumption); omega)] <;> rfl) | (simp only [hji6]; rfl) | rfl | (simp only [List.length_drop, List.length_take]; rfl)) ?_
                         with_reducible refine (fastiref05_number.calls k1 _ _ ((rd_L1 l0 (ji6)).take 4) t314 _ ?side1 ?side2 A17.out).mono ?_
                         (case side1 => exact cB HR313 HB)
                         (case side2 => exact HC313.out)
                         rintro e w' ⟨rfl, ⟨nd, rfl⟩⟩
                         refine ⟨_, rfl, ?_⟩
                         refine hK.out _ _ ⟨((HB.out.cell (World.block_lt_of_cell? w _ hw312_0)).trans hw312_0), ((HB.out.cell (World.block_lt_of_cell? w _ hw315_0)).trans hw315_0)⟩ (fun hHeld => normA ?_); clear hK K
                         refine oA HT_ 28 52 536870911 fun K hK => ?_
                         refine goes_ Try.func63 (by kernel_rfl) rfl #[.slice A315_0 ((rd_L1 l0 a1).take 4).length c315_0] (by rfl) rfl rfl (by (try simp only [List.map_toArray, List.map_cons, List.map_nil]); first | done | (rw [show ((rd_L1 l0 a1).take 4).length = 4 from (by rw [List.length_take]; have h_ : (4 : Int) ≤ ((rd_L1 l0 a1).length : Int) := of_decide_eq_true (by first | (with_reducible assumption) | assumption); omega)] <;> rfl) | rfl | (simp only [List.length_drop, List.length_take]; rfl)) ?_
                         with_reducible refine (fastiref05_number.calls k1 _ _ ((rd_L1 l0 a1).take 4) t317 _ ?side1 ?side2 A21.out).mono ?_
                         (case side1 => exact cB HR316 HB)
                         (case side2 => exact HC316.out)
                         rintro e w' ⟨rfl, ⟨nd, rfl⟩⟩
                         refine ⟨_, rfl, ?_⟩
                         refine hK.out _ _ ⟨((HB.out.cell (World.block_lt_of_cell? w _ hw312_0)).trans hw312_0), ((HB.out.cell (World.block_lt_of_cell? w _ hw315_0)).trans hw315_0)⟩ (fun hHeld => normA ?_); clear hK K
                         refine pA HT_ 29 53 1073741823 ?_; refine pA HT_ 30 54 2147483647 ?_; refine pA HT_ 31 55 4294967295 ?_
                         refine done_ (done_of HT_.out (by kernel_rfl)) ?_
                         try go_wp2
                         go_meet
                         case rel => exact ⟨_, ((t314 != t317)), (by first | rfl | (simp; done) | (simp [*]; done)), H', ⟨by have := HK1.out; first | omega | exact Nat.le_refl _⟩, ⟨rmv HO_6.out⟩, ⟨blw HB.out⟩⟩
                       · rw [if_neg c20] at H
                         exact absurd H (by simp)
                     · rw [if_neg c19] at H
                       exact absurd H (by simp)
                   · rw [if_neg c18] at H
                     exact absurd H (by simp)
                 · rw [if_neg c16] at H
                   exact absurd H (by simp)
               · rw [if_neg c15] at H
                 have c15b0 : decide (0 < x7_1) = false := decide_eq_false c15; clear c15; have H' := Aside0.mk H; clear H
                 try go_wp2
                 replace HO_6 := Aside0.mk (Kd.R_drew HO_6.out); replace HB := hD HB; have p312 : 0 ≤ (10 : Int) := (by omega); have q312 : 10 < ((rd_L1 l0 (ji6)).length : Int) := of_decide_eq_true (by first | (with_reducible assumption) | assumption); obtain ⟨ad312, e312, hx312_0⟩ := Kd.at_int HR310_0.out 10 p312 q312; have hw312_0 := hx312_0
                 (try rw [show ((10 : Int)).toNat = 10 from rfl] at hw312_0)
                 (try rw [show 10 * 1 = 10 from rfl] at hw312_0)
                 (try simp only [Nat.reduceMul, Nat.reduceEqDiff, Go.Addr.add, ↓reduceIte] at hw312_0)
                 cases e312
                 (try simp only [show (10 : Int).toNat = 10 from rfl, Nat.reduceMul, Nat.reduceEqDiff, Go.Addr.add, ↓reduceIte] at hx312_0)
                 have qi312 : (10 < (rd_L1 l0 (ji6)).length) = True := eq_true (by omega)
                 (try rw [show ((10 : Int)).toNat = 10 from rfl] at hx312_0)
                 replace hx312_0 := (HB.out.cell (World.block_lt_of_cell? w _ hx312_0)).trans hx312_0; replace p312 := eq_true p312; replace q312 := eq_true q312
                 refine start_ (n := 32) (S := fun w' => w'.cell? ⟨ad312.block, ad312.off + 10, none⟩ = some (.int .u8 (rd (rd_L1 l0 (ji6)) 10))) (ds := []) (ar 32 0) (by kernel_rfl) rfl rfl (((HB.out.cell (World.block_lt_of_cell? w _ hw312_0)).trans hw312_0)) (fun hHeld => ?_); refine with_tabW fastiref05_record.tab6 fastiref05_record.bits6 (fun HT_ HW_ => ?_)
                 generalize wr.drew = w26 at HO_6 HB hx312_0 hHeld ⊢
                 refine pA HT_ 0 24 1 ?_; refine pA HT_ 1 25 3 ?_; refine pA HT_ 2 26 7 ?_; refine pA HT_ 3 27 15 ?_
                 refine oA HT_ 4 28 31 fun K hK => ?_
                 refine goes_ Try.func72 (by kernel_rfl) rfl #[.slice (some ad312) (rd_L1 l0 (ji6)).length c310_0, .int .i64 ji6] (by rfl) rfl rfl (by (try simp only [List.map_toArray, List.map_cons, List.map_nil]); first | done | (simp only [hji6]; rfl) | rfl | (simp only [List.length_drop, List.length_take]; rfl)) ?_
                 with_reducible refine (fastiref05_good.calls k1 _ _ (rd_L1 l0 (ji6)) ji6 true _ ?side1 ?side2 A9.out).mono ?_
                 (case side1 => exact cB HR310_0 HB)
                 (case side2 => exact HC310_0.out)
                 rintro e w27 ⟨rfl, hb⟩
                 refine ⟨_, rfl, ?_⟩
                 replace HO_6 := Aside0.mk (Kd.R_below (rmv HO_6.out) hb); replace HB := sB HB hb; (try clear hb); (try clear hb2); (try clear hk); (try clear hi)
                 refine hK.out _ _ (((HB.out.cell (World.block_lt_of_cell? w _ hw312_0)).trans hw312_0)) (fun hHeld => normA ?_); clear hK K
                 refine pA HT_ 5 29 63 ?_; refine pA HT_ 6 30 127 ?_; refine pA HT_ 7 31 255 ?_; refine pA HT_ 8 32 511 ?_; refine pA HT_ 12 36 4607 ?_; refine pA HT_ 13 37 12799 ?_
                 refine take_ (i := 9) (N := some 33) (v := ?_) (a' := ?_) (ar 32 13311) rfl rfl (take_ofW HT_.out HW_.out (by kernel_rfl)) (fun _ _ _ h => h) (Or.inl ⟨by rfl, ?_⟩) hHeld ?_ ?_
                 rotate_left
                 · intro w' s0
                   go_simp
                   with_reducible rfl
                 rotate_left
                 · simp only [Act.put, List.setIfInBounds_toArray, List.set_cons_zero, List.set_cons_succ, i64_w, i32_w]
                   rfl
                 refine pA HT_ 10 34 14335 ?_; refine pA HT_ 11 35 16383 ?_; refine pA HT_ 14 38 32767 ?_; refine pA HT_ 15 39 65535 ?_; refine pA HT_ 16 40 131071 ?_; refine pA HT_ 17 41 262143 ?_; refine pA HT_ 18 42 524287 ?_; refine pA HT_ 19 43 1048575 ?_; refine pU HT_ 20 44 2097151 ?_; refine pU HT_ 21 45 4194303 ?_
                 refine pU HT_ 22 46 8388607 ?_; refine pU HT_ 23 47 16777215 ?_; refine pU HT_ 24 48 33554431 ?_; refine pU HT_ 25 49 67108863 ?_; refine pU HT_ 26 50 134217727 ?_; refine pU HT_ 27 51 268435455 ?_; refine pU HT_ 28 52 536870911 ?_; refine pU HT_ 29 53 1073741823 ?_; refine pA HT_ 30 54 2147483647 ?_; refine pA HT_ 31 55 4294967295 ?_
                 refine done_ (done_of HT_.out (by kernel_rfl)) ?_
                 try go_wp2
                 go_meet
                 case rel => exact ⟨_, (false), (by first | rfl | (simp; done) | (simp [*]; done)), H', ⟨by have := HK1.out; first | omega | exact Nat.le_refl _⟩, ⟨rmv HO_6.out⟩, ⟨blw HB.out⟩⟩
           · rw [if_neg c11] at H
             exact absurd H (by simp)
         · replace c10 := Bool.eq_false_iff.mpr c10
           subst c10
           have H1 : (fastiref05_record.j1 k1 l0 a1 x6_1 x7_1 (rd_L1 l0 (ji6)) true) = some (r1, r2) := by rw [if_neg (show ¬ (false = true) by decide)] at H; exact H
           clear H; have H := H1; clear H1; have H' := Aside0.mk H; clear H
           try go_wp2
           replace HO_6 := Aside0.mk (Kd.R_drew HO_6.out); replace HB := hD HB
           refine start_ (n := 32) (S := fun w' => True) (ds := []) (ar 32 0) (by kernel_rfl) rfl rfl trivial (fun hHeld => ?_); refine with_tabW fastiref05_record.tab6 fastiref05_record.bits6 (fun HT_ HW_ => ?_)
           generalize wr.drew = w28 at HO_6 HB hHeld ⊢
           refine pA HT_ 0 24 1 ?_; refine pA HT_ 1 25 3 ?_; refine pA HT_ 2 26 7 ?_; refine pA HT_ 3 27 15 ?_
           refine oA HT_ 4 28 31 fun K hK => ?_
           refine goes_ Try.func72 (by kernel_rfl) rfl #[.slice A310_0 (rd_L1 l0 (ji6)).length c310_0, .int .i64 ji6] (by rfl) rfl rfl (by (try simp only [List.map_toArray, List.map_cons, List.map_nil]); first | done | (simp only [hji6]; rfl) | rfl | (simp only [List.length_drop, List.length_take]; rfl)) ?_
           with_reducible refine (fastiref05_good.calls k1 _ _ (rd_L1 l0 (ji6)) ji6 false _ ?side1 ?side2 A9.out).mono ?_
           (case side1 => exact cB HR310_0 HB)
           (case side2 => exact HC310_0.out)
           rintro e w29 ⟨rfl, hb⟩
           refine ⟨_, rfl, ?_⟩
           replace HO_6 := Aside0.mk (Kd.R_below (rmv HO_6.out) hb); replace HB := sB HB hb; (try clear hb); (try clear hb2); (try clear hk); (try clear hi)
           refine hK.out _ _ trivial (fun hHeld => normA ?_); clear hK K
           refine pA HT_ 5 29 63 ?_; refine pA HT_ 6 30 127 ?_; refine pU HT_ 7 31 255 ?_; refine pU HT_ 8 32 511 ?_; refine pU HT_ 9 33 1023 ?_; refine pU HT_ 10 34 2047 ?_; refine pU HT_ 11 35 4095 ?_; refine pU HT_ 12 36 8191 ?_; refine pU HT_ 13 37 16383 ?_; refine pU HT_ 14 38 32767 ?_
           refine pA HT_ 15 39 65535 ?_; refine pA HT_ 16 40 131071 ?_; refine pU HT_ 17 41 262143 ?_; refine pU HT_ 18 42 524287 ?_; refine pU HT_ 19 43 1048575 ?_; refine pU HT_ 20 44 2097151 ?_; refine pU HT_ 21 45 4194303 ?_; refine pU HT_ 22 46 8388607 ?_; refine pU HT_ 23 47 16777215 ?_; refine pU HT_ 24 48 33554431 ?_
           refine pU HT_ 25 49 67108863 ?_; refine pU HT_ 26 50 134217727 ?_; refine pU HT_ 27 51 268435455 ?_; refine pU HT_ 28 52 536870911 ?_; refine pU HT_ 29 53 1073741823 ?_; refine pU HT_ 30 54 2147483647 ?_; refine pA HT_ 31 55 4294967295 ?_
           refine done_ (done_of HT_.out (by kernel_rfl)) ?_
           try go_wp2
           go_meet
           case rel => exact ⟨_, (true), (by first | rfl | (simp; done) | (simp [*]; done)), H', ⟨by have := HK1.out; first | omega | exact Nat.le_refl _⟩, ⟨rmv HO_6.out⟩, ⟨blw HB.out⟩⟩
       case rest =>
         clear HC8; (try clear c1); (try clear c2); (try clear p2); (try clear c3); (try clear p3); (try clear q3); (try clear hx3); (try clear qi3); (try clear c6); (try clear c7); (try clear c10); (try clear c11); (try clear c15); (try clear c15b0); (try clear c16); (try clear c18); (try clear c19); (try clear c20); (try clear hx312_0); (try clear p312); (try clear q312); obtain ⟨kq, x55_7, rfl, HA, HJ7, HO_6, HB⟩ := hcut
         cases kq with
         | zero => exact absurd HA.out (by simp [fastiref05_record.j1])
         | succ kj7 =>
           have H := HA.out; clear HA
           simp only [fastiref05_record.j1] at H
           by_cases c30 : x55_7 = true
           · subst c30
             have H1 : (some (([] : List Int), 0)) = some (r1, r2) := by rw [if_pos rfl] at H; exact H
             clear H; have H := H1; clear H1
             simp only [Option.some.injEq, Prod.mk.injEq] at H
             obtain ⟨rfl, rfl⟩ := H
             go_wp2
             go_ret2
             exact ⟨_, by first | rfl | (simp [errW_none, errW_some] <;> rfl) | (simp only [← hji6]; first | rfl | (simp [errW_none, errW_some] <;> rfl)) | (simp [*, errW_none, errW_some] <;> rfl), by first | exact Kd.R_nil _ _ _ _ _ | exact Kd.N_nil _ _ _ _ _ | exact Kd.V_nil _ _ _ _ _ | exact Kd.Q_nil _ _ _ _ _ | exact Kd.S_nil _ _ _ _ _, blw HB.out⟩
           · replace c30 := Bool.eq_false_iff.mpr c30
             subst c30
             have H1 : (if 11 < ((rd_L1 l0 (ji6)).length : Int) then (if 12 ≤ (wrap64 (12 + (wrap64 (rd (rd_L1 l0 (ji6)) 11)))) then (if (wrap64 (12 + (wrap64 (rd (rd_L1 l0 (ji6)) 11)))) ≤ ((rd_L1 l0 (ji6)).length : Int) then (if x6_1.length + (((rd_L1 l0 (ji6)).take ((wrap64 (12 + (wrap64 (rd (rd_L1 l0 (ji6)) 11)))) : Int).toNat).drop 12).length < 140737488355328 then ((some (x6_1 ++ (((rd_L1 l0 (ji6)).take ((wrap64 (12 + (wrap64 (rd (rd_L1 l0 (ji6)) 11)))) : Int).toNat).drop 12) : List Int)).bind fun y320 => (if 10 < ((rd_L1 l0 (ji6)).length : Int) then (if (rd (rd_L1 l0 (ji6)) 10) ≥ 2 then (some (y320, wrap64 (x7_1 + 1))) else (fastiref05_record.l0 kj7 l0 a1 y320 (wrap64 (x7_1 + 1)))) else (none))) else (none)) else (none)) else (none)) else (none)) = some (r1, r2) := by rw [if_neg (show ¬ (false = true) by decide)] at H; exact H
             clear H; have H := H1; clear H1
             by_cases c31 : 11 < ((rd_L1 l0 (ji6)).length : Int)
             · rw [if_pos c31] at H
               have c31b0 : decide (11 < ((rd_L1 l0 (ji6)).length : Int)) = true := decide_eq_true c31; have c31b1 : decide (11 < (rd_L1 l0 (ji6)).length) = true := decide_eq_true (by omega); clear c31
               by_cases c32 : 12 ≤ (wrap64 (12 + (wrap64 (rd (rd_L1 l0 (ji6)) 11))))
               · rw [if_pos c32] at H
                 have c32b0 := eq_true c32; have c32b1 : decide (12 ≤ (wrap64 (12 + (wrap64 (rd (rd_L1 l0 (ji6)) 11))))) = true := decide_eq_true c32
                 by_cases c33 : (wrap64 (12 + (wrap64 (rd (rd_L1 l0 (ji6)) 11)))) ≤ ((rd_L1 l0 (ji6)).length : Int)
                 · rw [if_pos c33] at H
                   have c33b0 := eq_true c33; have c33b1 : decide ((wrap64 (12 + (wrap64 (rd (rd_L1 l0 (ji6)) 11)))) ≤ ((rd_L1 l0 (ji6)).length : Int)) = true := decide_eq_true c33
                   by_cases c34 : x6_1.length + (((rd_L1 l0 (ji6)).take ((wrap64 (12 + (wrap64 (rd (rd_L1 l0 (ji6)) 11)))) : Int).toNat).drop 12).length < 140737488355328
                   · rw [if_pos c34] at H
                     have LMc34 := Aside0.mk c34; clear c34; obtain ⟨y320, hy320⟩ : ∃ y_ : List Int, y_ = (x6_1 ++ (((rd_L1 l0 (ji6)).take ((wrap64 (12 + (wrap64 (rd (rd_L1 l0 (ji6)) 11)))) : Int).toNat).drop 12)) := ⟨_, rfl⟩
                     replace H : (if 10 < ((rd_L1 l0 (ji6)).length : Int) then (if (rd (rd_L1 l0 (ji6)) 10) ≥ 2 then (some (y320, wrap64 (x7_1 + 1))) else (fastiref05_record.l0 kj7 l0 a1 y320 (wrap64 (x7_1 + 1)))) else (none)) = some (r1, r2) := by first | (rw [hy320]; with_reducible exact H) | (have H2_ := (Option.bind_some _ _).symm.trans H; rw [hy320]; with_reducible exact H2_) | (have H2_ := (Option.bind_some _ _).symm.trans H; with_reducible exact H2_) | with_reducible exact H | (rw [hy320]; exact H) | exact H
                     have Ny320 := Aside0.mk hy320; clear hy320
                     by_cases c35 : 10 < ((rd_L1 l0 (ji6)).length : Int)
                     · rw [if_pos c35] at H
                       have c35b0 : decide (10 < ((rd_L1 l0 (ji6)).length : Int)) = true := decide_eq_true c35; have c35b1 : decide (10 < (rd_L1 l0 (ji6)).length) = true := decide_eq_true (by omega); clear c35
                       by_cases c36 : (rd (rd_L1 l0 (ji6)) 10) ≥ 2
                       · rw [if_pos c36] at H
                         have c36b0 : decide (2 ≤ (rd (rd_L1 l0 (ji6)) 10)) = true := decide_eq_true c36; clear c36
                         simp only [Option.some.injEq, Prod.mk.injEq] at H
                         obtain ⟨rfl, rfl⟩ := H; have p318 : 0 ≤ (11 : Int) := (by omega); have q318 : 11 < ((rd_L1 l0 (ji6)).length : Int) := of_decide_eq_true (by first | (with_reducible assumption) | assumption); obtain ⟨ad318, e318, hx318_0⟩ := Kd.at_int HR310_0.out 11 p318 q318; cases e318
                         (try simp only [show (11 : Int).toNat = 11 from rfl, Nat.reduceMul, Nat.reduceEqDiff, Go.Addr.add, ↓reduceIte] at hx318_0)
                         have qi318 : (11 < (rd_L1 l0 (ji6)).length) = True := eq_true (by omega)
                         (try rw [show ((11 : Int)).toNat = 11 from rfl] at hx318_0)
                         replace hx318_0 := (HB.out.cell (World.block_lt_of_cell? w _ hx318_0)).trans hx318_0; replace p318 := eq_true p318; replace q318 := eq_true q318; obtain ⟨i037, hi037, _, hsz37, _⟩ := info_parts info5; obtain ⟨A37, hcut37, hA37, hC37⟩ := print_mid_of (P := Try.prog) (Value.int .u8) 0 35 5 .i64 .i64 Try.underlying35 hi037 hsz37 (some ad318) c310_0 (rd_L1 l0 (ji6)) 12 (wrap64 (12 + (wrap64 (rd (rd_L1 l0 (ji6)) 11)))) (by omega) (by first | omega | exact of_decide_eq_true (by first | (with_reducible assumption) | assumption)) (of_decide_eq_true (by first | (with_reducible assumption) | assumption)) HC310_0.out; have HR319 := Aside0.mk (Kd.C_of_reads (h1 := fun _ => rfl) (hA37 _ (Kd.reads_of_C HR310_0.out))); have HC319 := Aside0.mk hC37; clear hA37 hC37 hi037 hsz37
                         go_wp2_with (first | ((with_reducible refine gate_builtin (b := .append) (xs := #[.tmp 56, .tmp 63]) rfl ?_); at_builtin; refine Kd.R_append_rows (Kd.int .u8) (w0 := w) w.heap.size rfl (.tmp 56) (.tmp 63) 35 5 (.int .u8 0) 1 rfl Try.underlying35 info5 rfl (by decide) (by omega) u6 x6_1 (((rd_L1 l0 (ji6)).take ((wrap64 (12 + (wrap64 (rd (rd_L1 l0 (ji6)) 11)))) : Int).toNat).drop 12) _ _ _ (fun _ => True) (fun _ => False) rfl rfl ?aO ?aR (fun _ _ h => h) (fun _ h => h.elim) ?aF ?aB ?aS ?aL ?_; (case aR => first | (rw [← show (((rd_L1 l0 (ji6)).take ((wrap64 (12 + (wrap64 (rd (rd_L1 l0 (ji6)) 11)))) : Int).toNat).drop 12).length = ((wrap64 (12 + (wrap64 (rd (rd_L1 l0 (ji6)) 11)))).toNat - 12) from (by rw [List.length_drop, List.length_take]; have h_ : ((wrap64 (12 + (wrap64 (rd (rd_L1 l0 (ji6)) 11)))) : Int) ≤ ((rd_L1 l0 (ji6)).length : Int) := of_decide_eq_true (by first | (with_reducible assumption) | assumption); omega)]; repeat (first | exact (Kd.C_below HR319.out HB.out) | (with_reducible refine Kd.C_alloc ?_ _) | (with_reducible refine Kd.C_drewN ?_ _) | (with_reducible refine Kd.C_drew ?_))) | (repeat (first | exact (Kd.C_below HR319.out HB.out) | (with_reducible refine Kd.C_alloc ?_ _) | (with_reducible refine Kd.C_drewN ?_ _) | (with_reducible refine Kd.C_drew ?_)))); (case aB => exact (blw HB.out)); (case aF => exact (fun _ _ => trivial)); (case aO => exact (rmv HO_6.out)); (case aS => exact (below_size (blw HB.out))); (case aL => have := LMc34.out; have hlx_ := (show (((rd_L1 l0 (ji6)).take ((wrap64 (12 + (wrap64 (rd (rd_L1 l0 (ji6)) 11)))) : Int).toNat).drop 12).length = ((wrap64 (12 + (wrap64 (rd (rd_L1 l0 (ji6)) 11)))).toNat - 12) from (by rw [List.length_drop, List.length_take]; have h_ : ((wrap64 (12 + (wrap64 (rd (rd_L1 l0 (ji6)) 11)))) : Int) ≤ ((rd_L1 l0 (ji6)).length : Int) := of_decide_eq_true (by first | (with_reducible assumption) | assumption); omega)); omega); intro v321 w38 ho hb hg hat; rw [← Ny320.out] at ho; replace HB := Aside0.mk (hb); have HO322 := Aside0.mk (ho); clear HO_6; clear ho hb hg hat; have p323 : 0 ≤ (10 : Int) := (by omega); have q323 : 10 < ((rd_L1 l0 (ji6)).length : Int) := of_decide_eq_true (by first | (with_reducible assumption) | assumption); obtain ⟨ad323, e323, hx323_0⟩ := Kd.at_int HR310_0.out 10 p323 q323; obtain rfl : ad318 = ad323 := (by injection e323); (try simp only [show (10 : Int).toNat = 10 from rfl, Nat.reduceMul, Nat.reduceEqDiff, Go.Addr.add, ↓reduceIte] at hx323_0); have qi323 : (10 < (rd_L1 l0 (ji6)).length) = True := eq_true (by omega); (try rw [show ((10 : Int)).toNat = 10 from rfl] at hx323_0); replace hx323_0 := (HB.out.cell (World.block_lt_of_cell? w _ hx323_0)).trans hx323_0; replace p323 := eq_true p323; replace q323 := eq_true q323))
                         go_ret2
                         exact ⟨_, by first | rfl | (simp [errW_none, errW_some] <;> rfl) | (simp only [← hji6]; first | rfl | (simp [errW_none, errW_some] <;> rfl)) | (simp [*, errW_none, errW_some] <;> rfl), by (with_reducible repeat (first | apply Kd.R_alloc | apply Kd.R_drewN | apply Kd.R_drew)); exact HO322.out, blw HB.out⟩
                       · rw [if_neg c36] at H
                         have c36b0 : decide (2 ≤ (rd (rd_L1 l0 (ji6)) 10)) = false := decide_eq_false c36; clear c36; have H' := Aside0.mk H; clear H; have p318 : 0 ≤ (11 : Int) := (by omega); have q318 : 11 < ((rd_L1 l0 (ji6)).length : Int) := of_decide_eq_true (by first | (with_reducible assumption) | assumption); obtain ⟨ad318, e318, hx318_0⟩ := Kd.at_int HR310_0.out 11 p318 q318; cases e318
                         (try simp only [show (11 : Int).toNat = 11 from rfl, Nat.reduceMul, Nat.reduceEqDiff, Go.Addr.add, ↓reduceIte] at hx318_0)
                         have qi318 : (11 < (rd_L1 l0 (ji6)).length) = True := eq_true (by omega)
                         (try rw [show ((11 : Int)).toNat = 11 from rfl] at hx318_0)
                         replace hx318_0 := (HB.out.cell (World.block_lt_of_cell? w _ hx318_0)).trans hx318_0; replace p318 := eq_true p318; replace q318 := eq_true q318; obtain ⟨i039, hi039, _, hsz39, _⟩ := info_parts info5; obtain ⟨A39, hcut39, hA39, hC39⟩ := print_mid_of (P := Try.prog) (Value.int .u8) 0 35 5 .i64 .i64 Try.underlying35 hi039 hsz39 (some ad318) c310_0 (rd_L1 l0 (ji6)) 12 (wrap64 (12 + (wrap64 (rd (rd_L1 l0 (ji6)) 11)))) (by omega) (by first | omega | exact of_decide_eq_true (by first | (with_reducible assumption) | assumption)) (of_decide_eq_true (by first | (with_reducible assumption) | assumption)) HC310_0.out; have HR319 := Aside0.mk (Kd.C_of_reads (h1 := fun _ => rfl) (hA39 _ (Kd.reads_of_C HR310_0.out))); have HC319 := Aside0.mk hC39; clear hA39 hC39 hi039 hsz39
                         go_wp2_with (first | ((with_reducible refine gate_builtin (b := .append) (xs := #[.tmp 56, .tmp 63]) rfl ?_); at_builtin; refine Kd.R_append_rows (Kd.int .u8) (w0 := w) w.heap.size rfl (.tmp 56) (.tmp 63) 35 5 (.int .u8 0) 1 rfl Try.underlying35 info5 rfl (by decide) (by omega) u6 x6_1 (((rd_L1 l0 (ji6)).take ((wrap64 (12 + (wrap64 (rd (rd_L1 l0 (ji6)) 11)))) : Int).toNat).drop 12) _ _ _ (fun _ => True) (fun _ => False) rfl rfl ?aO ?aR (fun _ _ h => h) (fun _ h => h.elim) ?aF ?aB ?aS ?aL ?_; (case aR => first | (rw [← show (((rd_L1 l0 (ji6)).take ((wrap64 (12 + (wrap64 (rd (rd_L1 l0 (ji6)) 11)))) : Int).toNat).drop 12).length = ((wrap64 (12 + (wrap64 (rd (rd_L1 l0 (ji6)) 11)))).toNat - 12) from (by rw [List.length_drop, List.length_take]; have h_ : ((wrap64 (12 + (wrap64 (rd (rd_L1 l0 (ji6)) 11)))) : Int) ≤ ((rd_L1 l0 (ji6)).length : Int) := of_decide_eq_true (by first | (with_reducible assumption) | assumption); omega)]; repeat (first | exact (Kd.C_below HR319.out HB.out) | (with_reducible refine Kd.C_alloc ?_ _) | (with_reducible refine Kd.C_drewN ?_ _) | (with_reducible refine Kd.C_drew ?_))) | (repeat (first | exact (Kd.C_below HR319.out HB.out) | (with_reducible refine Kd.C_alloc ?_ _) | (with_reducible refine Kd.C_drewN ?_ _) | (with_reducible refine Kd.C_drew ?_)))); (case aB => exact (blw HB.out)); (case aF => exact (fun _ _ => trivial)); (case aO => exact (rmv HO_6.out)); (case aS => exact (below_size (blw HB.out))); (case aL => have := LMc34.out; have hlx_ := (show (((rd_L1 l0 (ji6)).take ((wrap64 (12 + (wrap64 (rd (rd_L1 l0 (ji6)) 11)))) : Int).toNat).drop 12).length = ((wrap64 (12 + (wrap64 (rd (rd_L1 l0 (ji6)) 11)))).toNat - 12) from (by rw [List.length_drop, List.length_take]; have h_ : ((wrap64 (12 + (wrap64 (rd (rd_L1 l0 (ji6)) 11)))) : Int) ≤ ((rd_L1 l0 (ji6)).length : Int) := of_decide_eq_true (by first | (with_reducible assumption) | assumption); omega)); omega); intro v321 w40 ho hb hg hat; rw [← Ny320.out] at ho; replace HB := Aside0.mk (hb); have HO322 := Aside0.mk (ho); clear HO_6; clear ho hb hg hat; have p323 : 0 ≤ (10 : Int) := (by omega); have q323 : 10 < ((rd_L1 l0 (ji6)).length : Int) := of_decide_eq_true (by first | (with_reducible assumption) | assumption); obtain ⟨ad323, e323, hx323_0⟩ := Kd.at_int HR310_0.out 10 p323 q323; obtain rfl : ad318 = ad323 := (by injection e323); (try simp only [show (10 : Int).toNat = 10 from rfl, Nat.reduceMul, Nat.reduceEqDiff, Go.Addr.add, ↓reduceIte] at hx323_0); have qi323 : (10 < (rd_L1 l0 (ji6)).length) = True := eq_true (by omega); (try rw [show ((10 : Int)).toNat = 10 from rfl] at hx323_0); replace hx323_0 := (HB.out.cell (World.block_lt_of_cell? w _ hx323_0)).trans hx323_0; replace p323 := eq_true p323; replace q323 := eq_true q323))
                         go_roundg kj7
                         case measure => have := HK1.out; have := HJ7.out; omega
                         case rel => exact ⟨(y320), (wrap64 (x7_1 + 1)), (by first | rfl | (simp; done) | (simp [*]; done)), H', ⟨by have := HK1.out; have := HJ7.out; omega⟩, ⟨rmv HO322.out⟩, ⟨blw HB.out⟩⟩
                     · rw [if_neg c35] at H
                       exact absurd H (by simp)
                   · rw [if_neg c34] at H
                     exact absurd H (by simp)
                 · rw [if_neg c33] at H
                   exact absurd H (by simp)
               · rw [if_neg c32] at H
                 exact absurd H (by simp)
             · rw [if_neg c31] at H
               exact absurd H (by simp)
     · rw [if_neg c7] at H
       exact absurd H (by simp)
   · rw [if_neg c5] at H
     have c5b0 : decide ((wrap64 (a1 + x7_1)) < (l0.length : Int)) = false := decide_eq_false c5; clear c5
     simp only [Option.some.injEq, Prod.mk.injEq] at H
     obtain ⟨rfl, rfl⟩ := H
     go_wp2
     go_ret2
     exact ⟨_, by first | rfl | (simp [errW_none, errW_some] <;> rfl) | (simp [*, errW_none, errW_some] <;> rfl), by first | exact Kd.R_nil _ _ _ _ _ | exact Kd.N_nil _ _ _ _ _ | exact Kd.V_nil _ _ _ _ _ | exact Kd.Q_nil _ _ _ _ _ | exact Kd.S_nil _ _ _ _ _, blw HB.out⟩

end Go.Proofs.Ytljmdkeeppikhaa.Q
