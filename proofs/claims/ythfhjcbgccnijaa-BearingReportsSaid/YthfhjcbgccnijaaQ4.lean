/- Functions of the translation as plain Lean functions, and proofs that the calls do what these say; written by a program of this session round the kit's print. -/
import Derived.Test.YthfhjcbgccnijaaQ0
import Derived.Test.YthfhjcbgccnijaaAidB
import Derived.Test.YthfhjcbgccnijaaQ3
import Derived.Test.YthfhjcbgccnijaaBear
namespace Go.Proofs.Ythfhjcbgccnijaa.Q
open Go.RowKit Go.Proofs.YthfhjcbgccnijaaW.PrintWords Go.Proofs.YthfhjcbgccnijaaW.PrintLast Go.Proofs.YthfhjcbgccnijaaW.PrintMore
attribute [local go_sem] max2_int min2_int max_two min_two max_three min_three max_four min_four   -- for this text's walks alone
set_option linter.unusedVariables false
set_option linter.unusedSimpArgs false

/-! ### fastilaw29_sane: function 22 -/
def fastilaw29_sane.l0 : Nat → List (S101) → Int → Int → Option (Bool)
  | 0, _, _, _ => none
  | k + 1, x31, x32, x33 => if x33 < x32 then (if 0 ≤ x33 then (if x33 < (x31.length : Int) then ((fastilaw29_pitch.f ((rd_T101 x31 x33).f0)).bind fun bt118 => ((bearing_Bears.f bt118.1 bt118.2.1 bt118.2.2.1 bt118.2.2.2.1 bt118.2.2.2.2.1 bt118.2.2.2.2.2.1 bt118.2.2.2.2.2.2 ((rd_T101 x31 x33).f1) ((rd_T101 x31 x33).f2)).bind fun bt125 => (if bt125.1 = ((rd_T101 x31 x33).f3) then (if bt125.2 = 0 then (fastilaw29_sane.l0 k x31 x32 (wrap64 (x33 + 1))) else (none)) else (none)))) else (none)) else (none)) else ((fastilaw29_pitch.f 300).bind fun bt129 => ((bearing_Risk.f (⟨#[]⟩ : ByteArray) (⟨#[]⟩ : ByteArray) 0 300 0 0 1 0 1000).bind fun bt136 => ((fastilaw29_pitch.f 300).bind fun bt139 => ((bearing_Risk.f (⟨#[]⟩ : ByteArray) (⟨#[]⟩ : ByteArray) 0 300 0 0 1 298 301).bind fun bt146 => ((fastilaw29_pitch.f 300).bind fun bt149 => ((bearing_Permit.f k (⟨#[]⟩ : ByteArray) (⟨#[]⟩ : ByteArray) 0 300 0 0 1 0 1000 299 true).bind fun bt156 => ((fastilaw29_pitch.f 300).bind fun bt158 => ((bearing_Permit.f k (⟨#[]⟩ : ByteArray) (⟨#[]⟩ : ByteArray) 0 300 0 0 1 0 1000 300 true).bind fun bt165 => ((fastilaw29_pitch.f 300).bind fun bt167 => ((bearing_Permit.f k (⟨#[]⟩ : ByteArray) (⟨#[]⟩ : ByteArray) 0 300 0 0 1 0 299 1000 true).bind fun bt174 => ((fastilaw29_pitch.f 300).bind fun bt176 => ((bearing_Permit.f k (⟨#[]⟩ : ByteArray) (⟨#[]⟩ : ByteArray) 0 300 0 0 1 298 301 500 true).bind fun bt183 => ((fastilaw29_pitch.f 300).bind fun bt185 => ((bearing_Permit.f k (⟨#[]⟩ : ByteArray) (⟨#[]⟩ : ByteArray) 0 300 0 0 1 0 1000 1001 true).bind fun bt192 => ((fastilaw29_pitch.f 1001).bind fun bt194 => ((bearing_Bears.f (⟨#[]⟩ : ByteArray) (⟨#[]⟩ : ByteArray) 0 1001 0 0 1 0 1000).bind fun bt201 => ((fastilaw29_pitch.f 0).bind fun bt203 => ((bearing_Bears.f (⟨#[]⟩ : ByteArray) (⟨#[]⟩ : ByteArray) 0 0 0 0 1 1 0).bind fun bt210 => (some true)))))))))))))))))))
def fastilaw29_sane.f (k : Nat)  : Option (Bool) := (some (([(⟨300, 300, 700, 2⟩ : S101), (⟨300, 0, 299, 0⟩ : S101), (⟨0, 0, 0, 2⟩ : S101), (⟨300, 298, 301, 1⟩ : S101)] : List (S101)) : List (S101))).bind fun y113 => (fastilaw29_sane.l0 k y113 (y113.length : Int) 0)
theorem fastilaw29_sane.mono_l : ∀ k, (∀ y0 y1 y2, LeO (fastilaw29_sane.l0 k y0 y1 y2) (fastilaw29_sane.l0 (k + 1) y0 y1 y2))
  | 0 => fun _ _ _ r h => by simp [fastilaw29_sane.l0] at h
  | k + 1 => by
    have ih0 := fastilaw29_sane.mono_l k
    · intro y0 y1 y2
      unfold fastilaw29_sane.l0
      repeat' first
      | (with_reducible exact ih0 _ _ _)
      | (with_reducible exact bearing_Permit.mono _ _ _ _ _ _ _ _ _ _ _ _)
      | (with_reducible exact LeO.refl _)
      | (with_reducible exact LeO.none _)
      | (with_reducible refine LeO.ite ?_ ?_)
      | (with_reducible refine LeO.bind ?_ (fun _ => ?_))
      | exact ih0 _ _ _
      | exact bearing_Permit.mono _ _ _ _ _ _ _ _ _ _ _ _
      | exact LeO.none _
      | refine LeO.ite ?_ ?_
      | refine LeO.bind ?_ (fun _ => ?_)
theorem fastilaw29_sane.mono : ∀ k, LeO (fastilaw29_sane.f k ) (fastilaw29_sane.f (k + 1) ) := by
  intro  k
  have ih0 := fastilaw29_sane.mono_l k
  unfold fastilaw29_sane.f
  repeat' first
      | (with_reducible exact ih0 _ _ _)
      | (with_reducible exact bearing_Permit.mono _ _ _ _ _ _ _ _ _ _ _ _)
      | (with_reducible exact LeO.refl _)
      | (with_reducible exact LeO.none _)
      | (with_reducible refine LeO.ite ?_ ?_)
      | (with_reducible refine LeO.bind ?_ (fun _ => ?_))
      | exact ih0 _ _ _
      | exact bearing_Permit.mono _ _ _ _ _ _ _ _ _ _ _ _
      | exact LeO.none _
      | refine LeO.ite ?_ ?_
      | refine LeO.bind ?_ (fun _ => ?_)
def fastilaw29_sane.T4 : Bool × List (List Nat × List Nat) := (true, [([], []), ([0], [0]), ([1], [1]), ([], []), ([3], [3]), ([], []), ([5], [5]), ([4, 6], [4, 6]), ([2, 7, 2], [2, 7]), ([8], [8]), ([9], [9]), ([9], [9]), ([10, 8, 0, 1, 2, 3, 4, 5, 6, 7, 8, 9, 10], [10]), ([11, 12, 0, 1, 2, 3, 4, 5, 6, 7, 8, 9, 10, 11, 12], [11])])
def fastilaw29_sane.B4 : List Nat := [0, 1, 3, 0, 8, 0, 32, 120, 255, 511, 1023, 1023, 2047, 8191]
theorem fastilaw29_sane.tab4 : rtab .any (opsOf Try.f22 4) = fastilaw29_sane.T4 := by kernel_rfl
theorem fastilaw29_sane.bits4 : waitsOk fastilaw29_sane.T4.2 fastilaw29_sane.B4 = true := by kernel_rfl
def fastilaw29_sane.T9 : Bool × List (List Nat × List Nat) := (true, [([], []), ([], []), ([0, 1, 0], [0, 1]), ([2], [2]), ([3], [3]), ([3], [3]), ([3], [3]), ([4, 2, 0, 1, 2, 3, 4], [4]), ([5, 7, 0, 1, 2, 3, 4, 5, 7], [5]), ([6, 8, 0, 1, 2, 3, 4, 5, 6, 7, 8], [6])])
def fastilaw29_sane.B9 : List Nat := [0, 0, 3, 7, 15, 15, 15, 31, 191, 511]
theorem fastilaw29_sane.tab9 : rtab .any (opsOf Try.f22 9) = fastilaw29_sane.T9 := by kernel_rfl
theorem fastilaw29_sane.bits9 : waitsOk fastilaw29_sane.T9.2 fastilaw29_sane.B9 = true := by kernel_rfl
def fastilaw29_sane.T11 : Bool × List (List Nat × List Nat) := (true, [([], []), ([], []), ([0, 1, 0], [0, 1]), ([2], [2]), ([3], [3]), ([3], [3]), ([4, 2, 0, 1, 2, 3, 4], [4]), ([5, 6, 0, 1, 2, 3, 4, 5, 6], [5])])
def fastilaw29_sane.B11 : List Nat := [0, 0, 3, 7, 15, 15, 31, 127]
theorem fastilaw29_sane.tab11 : rtab .any (opsOf Try.f22 11) = fastilaw29_sane.T11 := by kernel_rfl
theorem fastilaw29_sane.bits11 : waitsOk fastilaw29_sane.T11.2 fastilaw29_sane.B11 = true := by kernel_rfl
def fastilaw29_sane.T12 : Bool × List (List Nat × List Nat) := (true, [([], []), ([], []), ([0, 1, 0], [0, 1]), ([2], [2]), ([3], [3]), ([3], [3]), ([4, 2, 0, 1, 2, 3, 4], [4]), ([5, 6, 0, 1, 2, 3, 4, 5, 6], [5])])
def fastilaw29_sane.B12 : List Nat := [0, 0, 3, 7, 15, 15, 31, 127]
theorem fastilaw29_sane.tab12 : rtab .any (opsOf Try.f22 12) = fastilaw29_sane.T12 := by kernel_rfl
theorem fastilaw29_sane.bits12 : waitsOk fastilaw29_sane.T12.2 fastilaw29_sane.B12 = true := by kernel_rfl
def fastilaw29_sane.T13 : Bool × List (List Nat × List Nat) := (true, [([], []), ([], []), ([0, 1, 0], [0, 1]), ([2], [2]), ([3], [3]), ([3], [3]), ([4, 2, 0, 1, 2, 3, 4], [4]), ([5, 6, 0, 1, 2, 3, 4, 5, 6], [5])])
def fastilaw29_sane.B13 : List Nat := [0, 0, 3, 7, 15, 15, 31, 127]
theorem fastilaw29_sane.tab13 : rtab .any (opsOf Try.f22 13) = fastilaw29_sane.T13 := by kernel_rfl
theorem fastilaw29_sane.bits13 : waitsOk fastilaw29_sane.T13.2 fastilaw29_sane.B13 = true := by kernel_rfl
def fastilaw29_sane.T15 : Bool × List (List Nat × List Nat) := (true, [([], []), ([], []), ([0, 1, 0], [0, 1]), ([2], [2]), ([3], [3]), ([3], [3]), ([4, 2, 0, 1, 2, 3, 4], [4]), ([5, 6, 0, 1, 2, 3, 4, 5, 6], [5])])
def fastilaw29_sane.B15 : List Nat := [0, 0, 3, 7, 15, 15, 31, 127]
theorem fastilaw29_sane.tab15 : rtab .any (opsOf Try.f22 15) = fastilaw29_sane.T15 := by kernel_rfl
theorem fastilaw29_sane.bits15 : waitsOk fastilaw29_sane.T15.2 fastilaw29_sane.B15 = true := by kernel_rfl
def fastilaw29_sane.T16 : Bool × List (List Nat × List Nat) := (true, [([], []), ([], []), ([0, 1, 0], [0, 1]), ([2], [2]), ([3], [3]), ([3], [3]), ([4, 2, 0, 1, 2, 3, 4], [4]), ([5, 6, 0, 1, 2, 3, 4, 5, 6], [5])])
def fastilaw29_sane.B16 : List Nat := [0, 0, 3, 7, 15, 15, 31, 127]
theorem fastilaw29_sane.tab16 : rtab .any (opsOf Try.f22 16) = fastilaw29_sane.T16 := by kernel_rfl
theorem fastilaw29_sane.bits16 : waitsOk fastilaw29_sane.T16.2 fastilaw29_sane.B16 = true := by kernel_rfl
set_option maxHeartbeats 8000000 in
set_option maxRecDepth 100000 in
theorem fastilaw29_sane.calls (k : Nat)  (r : Bool) (w : World) (h : fastilaw29_sane.f k  = some r) :
    Calls Try.prog 22 #[] w fun e w' => e = .returned (.bool r) ∧ Below w.heap.size w w' := by
  have hu101 := Try.underlying101
  have hu27 := Try.underlying27
  have HB := Aside0.mk (Below.refl w.heap.size w)
  have H : ((some (([(⟨300, 300, 700, 2⟩ : S101), (⟨300, 0, 299, 0⟩ : S101), (⟨0, 0, 0, 2⟩ : S101), (⟨300, 298, 301, 1⟩ : S101)] : List (S101)) : List (S101))).bind fun y113 => (fastilaw29_sane.l0 k y113 (y113.length : Int) 0)) = some r := h
  clear h
  obtain ⟨y113, hy113⟩ : ∃ y_ : List (S101), y_ = (([(⟨300, 300, 700, 2⟩ : S101), (⟨300, 0, 299, 0⟩ : S101), (⟨0, 0, 0, 2⟩ : S101), (⟨300, 298, 301, 1⟩ : S101)] : List (S101))) := ⟨_, rfl⟩
  replace H : (fastilaw29_sane.l0 k y113 (y113.length : Int) 0) = some r := by first | (rw [hy113]; with_reducible exact H) | (have H2_ := (Option.bind_some _ _).symm.trans H; rw [hy113]; with_reducible exact H2_) | (have H2_ := (Option.bind_some _ _).symm.trans H; with_reducible exact H2_) | with_reducible exact H | (rw [hy113]; exact H) | exact H
  have Ny113 := Aside0.mk hy113
  clear hy113
  have H' := Aside0.mk H
  clear H
  go_enter Try.func22, Try.ntmps22
  go_wp2_with (first | ((with_reducible refine gate_dst (N := 31) rfl ?_); refine Kd.R_lit k101 _ 101 ?hg (N := 31) ?hd (xs := ([(⟨300, 300, 700, 2⟩ : S101), (⟨300, 0, 299, 0⟩ : S101), (⟨0, 0, 0, 2⟩ : S101), (⟨300, 298, 301, 1⟩ : S101)] : List (S101))) (inner := [.int .i64 300, .int .i64 300, .int .i64 700, .int .i64 2, .int .i64 300, .int .i64 0, .int .i64 299, .int .i64 0, .int .i64 0, .int .i64 0, .int .i64 0, .int .i64 2, .int .i64 300, .int .i64 298, .int .i64 301, .int .i64 1]) (ok := fun _ => True) (okp := fun _ => True) ?hr ?hp (fun _ hk => hk) trivial (Below.refl _ _) (Nat.le_refl _) (by simp) ?_; (case hd => rfl); (case hg => rfl); (case hr => first | (go_simp; done) | (go_simp; rfl)); (case hp => exact (Reps.c4 (show Kd.M k101 _ _ _ (⟨300, 300, 700, 2⟩ : S101) [.int .i64 300, .int .i64 300, .int .i64 700, .int .i64 2] from (k101_mkM _ _ _ (⟨300, 300, 700, 2⟩ : S101) )) (Reps.c4 (show Kd.M k101 _ _ _ (⟨300, 0, 299, 0⟩ : S101) [.int .i64 300, .int .i64 0, .int .i64 299, .int .i64 0] from (k101_mkM _ _ _ (⟨300, 0, 299, 0⟩ : S101) )) (Reps.c4 (show Kd.M k101 _ _ _ (⟨0, 0, 0, 2⟩ : S101) [.int .i64 0, .int .i64 0, .int .i64 0, .int .i64 2] from (k101_mkM _ _ _ (⟨0, 0, 0, 2⟩ : S101) )) (Reps.c4 (show Kd.M k101 _ _ _ (⟨300, 298, 301, 1⟩ : S101) [.int .i64 300, .int .i64 298, .int .i64 301, .int .i64 1] from (k101_mkM _ _ _ (⟨300, 298, 301, 1⟩ : S101) )) (Reps.none _ _)))))); intro v114 w1 ho2 hb hg_ hnew_; clear hg_ hnew_; (first | rw [← Ny113.out] at ho2 | (simp only [Int.reduceToNat] at ho2; rw [← Ny113.out] at ho2)); have HO115 := Aside0.mk (Kd.R_lower ho2 (below_size (blw HB.out))); replace HB := Aside0.mk (below_step (blw HB.out) hb); clear hb ho2; obtain ⟨Ao3, co3, eo3⟩ := Kd.R_slice HO115.out; subst eo3))
  go_loopg [33] k (fun kq v33 w' => ∃ (x33_1 : Int), v33 = .int .i64 x33_1 ∧ Aside0 (fastilaw29_sane.l0 kq y113 (y113.length : Int) x33_1 = some r) ∧ Aside0 (kq ≤ k) ∧ Aside0 (Kd.R k101 101 w' w.heap.size (fun _ => True) (.slice Ao3 y113.length co3) y113) ∧ Aside0 (Below w.heap.size w w'))
  case atStart => exact ⟨(0), (by first | rfl | (simp; done) | (simp [*]; done)), H', ⟨Nat.le_refl _⟩, ⟨rmv HO115.out⟩, ⟨blw HB.out⟩⟩
  case round =>
    clear H'
    try clear c2
    try clear p2
    obtain ⟨x33_1, rfl, HA, HK1, HO_31, HB⟩ := hrel
    cases gk with
    | zero => exact absurd HA.out (by simp [fastilaw29_sane.l0])
    | succ k1 =>
      have H := HA.out
      clear HA
      simp only [fastilaw29_sane.l0] at H
      by_cases c4 : x33_1 < (y113.length : Int)
      · rw [if_pos c4] at H
        have c4b0 : decide (x33_1 < (y113.length : Int)) = true := decide_eq_true c4
        clear c4
        by_cases c5 : 0 ≤ x33_1
        · rw [if_pos c5] at H
          have c5b0 : decide (0 ≤ x33_1) = true := decide_eq_true c5
          clear c5
          by_cases c6 : x33_1 < (y113.length : Int)
          · rw [if_pos c6] at H
            have c6b0 : decide (x33_1 < (y113.length : Int)) = true := decide_eq_true c6
            clear c6
            replace H := Option.bind_eq_some_iff.mp H
            obtain ⟨⟨t118, t119, t120, t121, t122, t123, t124⟩, A70, H⟩ := H
            replace H : ((bearing_Bears.f t118 t119 t120 t121 t122 t123 t124 ((rd_T101 y113 x33_1).f1) ((rd_T101 y113 x33_1).f2)).bind fun bt125 => (if bt125.1 = ((rd_T101 y113 x33_1).f3) then (if bt125.2 = 0 then (fastilaw29_sane.l0 k1 y113 (y113.length : Int) (wrap64 (x33_1 + 1))) else (none)) else (none))) = some r := H
            have A7 := Aside0.mk A70
            clear A70
            replace H := Option.bind_eq_some_iff.mp H
            obtain ⟨⟨t125, t126⟩, A80, H⟩ := H
            replace H : (if t125 = ((rd_T101 y113 x33_1).f3) then (if t126 = 0 then (fastilaw29_sane.l0 k1 y113 (y113.length : Int) (wrap64 (x33_1 + 1))) else (none)) else (none)) = some r := H
            have A8 := Aside0.mk A80
            clear A80
            by_cases c9 : t125 = ((rd_T101 y113 x33_1).f3)
            · rw [if_pos c9] at H
              have c9b0 : (t125 == ((rd_T101 y113 x33_1).f3)) = true := beq_iff_eq.mpr c9
              have c9b1 : (t125 != ((rd_T101 y113 x33_1).f3)) = false := bne_eq_false_iff_eq.mpr c9
              clear c9
              by_cases c10 : t126 = 0
              · rw [if_pos c10] at H
                have c10b0 : (t126 == 0) = true := beq_iff_eq.mpr c10
                have c10b1 : (t126 != 0) = false := bne_eq_false_iff_eq.mpr c10
                clear c10
                have H' := Aside0.mk H
                clear H
                have p116 : 0 ≤ (x33_1 : Int) := of_decide_eq_true (by first | (with_reducible assumption) | assumption)
                have q116 : x33_1 < (y113.length : Int) := of_decide_eq_true (by first | (with_reducible assumption) | assumption)
                obtain ⟨ad116, e116, hx116_0, hx116_1, hx116_2, hx116_3⟩ := at_T101 (Kd.R_reads' HO_31.out).2.2 x33_1 p116 q116
                cases e116
                replace p116 := eq_true p116
                replace q116 := eq_true q116
                try go_wp2_with (first | ((with_reducible refine gate_dst (N := 2) rfl ?_); refine box_event ?hg (N := 2) ?hd (cs := #[.int .i64 0, .int .i64 0, .int .i64 0, .int .i64 0]) (t := 101) ?hr ?_; (case hd => rfl); (case hg => rfl); (case hr => first | (go_simp; done) | (go_simp; rfl)); intro gb117 hg w11 hbox hb; replace HO_31 := Aside0.mk (Kd.R_below (Kd.R_elderB (rmv HO_31.out) gb117 (Nat.le_of_eq hg.symm)) hb); have BK117 := Aside0.mk (hbox); have GW117 := Aside0.mk ((by rw [hg]; exact (below_size (blw HB.out)) : w.heap.size ≤ gb117)); have GE117 := Aside0.mk ((by rw [hg]; exact (below_size (blw HB.out)) : w.heap.size ≤ gb117)); replace HB := Aside0.mk (below_step (blw HB.out) hb); clear hb hbox hg; have hcz12_0 : w11.cell? ⟨gb117, 0, none⟩ = some (.int .i64 0) := bc BK117 0; have hcz12_1 : w11.cell? ⟨gb117, 1, none⟩ = some (.int .i64 0) := bc BK117 1; have hcz12_2 : w11.cell? ⟨gb117, 2, none⟩ = some (.int .i64 0) := bc BK117 2; have hcz12_3 : w11.cell? ⟨gb117, 3, none⟩ = some (.int .i64 0) := bc BK117 3; have hfz12_0 := blk_frozen BK117.out 0; have hfz12_1 := blk_frozen BK117.out 1; have hfz12_2 := blk_frozen BK117.out 2; have hfz12_3 := blk_frozen BK117.out 3))
                have n0_ : Aside0 (Kd.R k101 101 ((((w11.setCell ⟨gb117, 0, none⟩ (.int .i64 ((rd_T101 y113 x33_1).f0))).setCell ⟨gb117, 1, none⟩ (.int .i64 ((rd_T101 y113 x33_1).f1))).setCell ⟨gb117, 2, none⟩ (.int .i64 ((rd_T101 y113 x33_1).f2))).setCell ⟨gb117, 3, none⟩ (.int .i64 ((rd_T101 y113 x33_1).f3))) w.heap.size (fun k_ => k_ ≠ gb117) (.slice (some ad116) y113.length co3) y113) := ⟨by (with_reducible repeat (first | apply Kd.R_alloc | apply Kd.R_drewN | apply Kd.R_drew)); exact Kd.R_mono (Kd.R_far (p := ⟨gb117, 3, none⟩) (Kd.R_far (p := ⟨gb117, 2, none⟩) (Kd.R_far (p := ⟨gb117, 1, none⟩) (Kd.R_far (p := ⟨gb117, 0, none⟩) (Kd.R_mono HO_31.out (fun k_ hk => (⟨hk, hk.2⟩ : _ ∧ k_ ≠ gb117))) (fun _ hk => hk.2) (.int .i64 ((rd_T101 y113 x33_1).f0))) (fun _ hk => hk.2) (.int .i64 ((rd_T101 y113 x33_1).f1))) (fun _ hk => hk.2) (.int .i64 ((rd_T101 y113 x33_1).f2))) (fun _ hk => hk.2) (.int .i64 ((rd_T101 y113 x33_1).f3))) (fun _ hk => hk.1.2)⟩
                have n1_ : Aside0 (((((w11.setCell ⟨gb117, 0, none⟩ (.int .i64 ((rd_T101 y113 x33_1).f0))).setCell ⟨gb117, 1, none⟩ (.int .i64 ((rd_T101 y113 x33_1).f1))).setCell ⟨gb117, 2, none⟩ (.int .i64 ((rd_T101 y113 x33_1).f2))).setCell ⟨gb117, 3, none⟩ (.int .i64 ((rd_T101 y113 x33_1).f3))).heap[gb117]? = some (.cells #[.int .i64 ((rd_T101 y113 x33_1).f0), .int .i64 ((rd_T101 y113 x33_1).f1), .int .i64 ((rd_T101 y113 x33_1).f2), .int .i64 ((rd_T101 y113 x33_1).f3)] 101 (0, 0))) := ⟨by (with_reducible repeat (first | refine blk_drewN ?_ _ | refine blk_drew ?_ | refine blk_alloc ?_ _)); refine blk_put (cs := #[.int .i64 ((rd_T101 y113 x33_1).f0), .int .i64 ((rd_T101 y113 x33_1).f1), .int .i64 ((rd_T101 y113 x33_1).f2), .int .i64 0]) ?_ 3 _ rfl; (with_reducible repeat (first | refine blk_drewN ?_ _ | refine blk_drew ?_ | refine blk_alloc ?_ _)); refine blk_put (cs := #[.int .i64 ((rd_T101 y113 x33_1).f0), .int .i64 ((rd_T101 y113 x33_1).f1), .int .i64 0, .int .i64 0]) ?_ 2 _ rfl; (with_reducible repeat (first | refine blk_drewN ?_ _ | refine blk_drew ?_ | refine blk_alloc ?_ _)); refine blk_put (cs := #[.int .i64 ((rd_T101 y113 x33_1).f0), .int .i64 0, .int .i64 0, .int .i64 0]) ?_ 1 _ rfl; (with_reducible repeat (first | refine blk_drewN ?_ _ | refine blk_drew ?_ | refine blk_alloc ?_ _)); refine blk_put (cs := #[.int .i64 0, .int .i64 0, .int .i64 0, .int .i64 0]) ?_ 0 _ rfl; (with_reducible repeat (first | refine blk_drewN ?_ _ | refine blk_drew ?_ | refine blk_alloc ?_ _)); exact BK117.out⟩
                have n2_ : Aside0 (Below w.heap.size w ((((w11.setCell ⟨gb117, 0, none⟩ (.int .i64 ((rd_T101 y113 x33_1).f0))).setCell ⟨gb117, 1, none⟩ (.int .i64 ((rd_T101 y113 x33_1).f1))).setCell ⟨gb117, 2, none⟩ (.int .i64 ((rd_T101 y113 x33_1).f2))).setCell ⟨gb117, 3, none⟩ (.int .i64 ((rd_T101 y113 x33_1).f3)))) := ⟨blw HB.out⟩
                (try clear HO_31)
                (try clear BK117)
                (try clear HB)
                generalize ((((w11.setCell ⟨gb117, 0, none⟩ (.int .i64 ((rd_T101 y113 x33_1).f0))).setCell ⟨gb117, 1, none⟩ (.int .i64 ((rd_T101 y113 x33_1).f1))).setCell ⟨gb117, 2, none⟩ (.int .i64 ((rd_T101 y113 x33_1).f2))).setCell ⟨gb117, 3, none⟩ (.int .i64 ((rd_T101 y113 x33_1).f3))) = w13 at n0_ n1_ n2_ ⊢
                have HO_31 := n0_
                have BK117 := n1_
                have HB := n2_
                clear n0_ n1_ n2_
                replace HO_31 := Aside0.mk (Kd.R_drew HO_31.out)
                replace BK117 := Aside0.mk (blk_drew BK117.out)
                replace HB := Aside0.mk (below_drew1 HB.out)
                refine start_ (n := 14) (S := fun w' => w'.cell? ⟨gb117, 0, none⟩ = some (.int .i64 ((rd_T101 y113 x33_1).f0)) ∧ w'.cell? ⟨gb117, 1, none⟩ = some (.int .i64 ((rd_T101 y113 x33_1).f1)) ∧ w'.cell? ⟨gb117, 2, none⟩ = some (.int .i64 ((rd_T101 y113 x33_1).f2)) ∧ w'.cell? ⟨gb117, 3, none⟩ = some (.int .i64 ((rd_T101 y113 x33_1).f3))) (ds := []) #[N,N,N,N,N,N,N,N,N,N,N,N,N,N] (by kernel_rfl) rfl rfl ⟨bc BK117 0, bc BK117 1, bc BK117 2, bc BK117 3⟩ (fun hHeld => ?_); refine with_tabW fastilaw29_sane.tab4 fastilaw29_sane.bits4 (fun HT_ HW_ => ?_)
                generalize w13.drew = w14 at HO_31 BK117 HB hHeld ⊢
                refine pureA (i := 0) (N := some 38) #[Y,N,N,N,N,N,N,N,N,N,N,N,N,N] (any_of HT_.out (by kernel_rfl)) ?_
                refine pureA (i := 3) (N := some 41) #[Y,N,N,Y,N,N,N,N,N,N,N,N,N,N] (any_of HT_.out (by kernel_rfl)) ?_
                refine pureA (i := 5) (N := some 43) #[Y,N,N,Y,N,Y,N,N,N,N,N,N,N,N] (any_of HT_.out (by kernel_rfl)) ?_
                refine take_ (i := 1) (N := some 39) (v := ?_) (a' := ?_) #[Y,Y,N,Y,N,Y,N,N,N,N,N,N,N,N] rfl rfl (take_ofW HT_.out HW_.out (by kernel_rfl)) (fun _ _ _ h => h) (Or.inl ⟨by rfl, ?_⟩) hHeld ?_ ?_
                rotate_left
                · rintro w' ⟨s0, s1, s2, s3⟩
                  go_simp
                  with_reducible rfl
                rotate_left
                · simp only [Act.put, List.setIfInBounds_toArray, List.set_cons_zero, List.set_cons_succ, i64_w, i32_w]
                  rfl
                refine take_ (i := 4) (N := some 42) (v := ?_) (a' := ?_) #[Y,Y,N,Y,Y,Y,N,N,N,N,N,N,N,N] rfl rfl (take_ofW HT_.out HW_.out (by kernel_rfl)) (fun _ _ _ h => h) (Or.inl ⟨by rfl, ?_⟩) hHeld ?_ ?_
                rotate_left
                · rintro w' ⟨s0, s1, s2, s3⟩
                  go_simp
                  with_reducible rfl
                rotate_left
                · simp only [Act.put, List.setIfInBounds_toArray, List.set_cons_zero, List.set_cons_succ, i64_w, i32_w]
                  rfl
                refine take_ (i := 6) (N := some 44) (v := ?_) (a' := ?_) #[Y,Y,N,Y,Y,Y,Y,N,N,N,N,N,N,N] rfl rfl (take_ofW HT_.out HW_.out (by kernel_rfl)) (fun _ _ _ h => h) (Or.inl ⟨by rfl, ?_⟩) hHeld ?_ ?_
                rotate_left
                · rintro w' ⟨s0, s1, s2, s3⟩
                  go_simp
                  with_reducible rfl
                rotate_left
                · simp only [Act.put, List.setIfInBounds_toArray, List.set_cons_zero, List.set_cons_succ, i64_w, i32_w]
                  rfl
                refine pureA (i := 7) (N := some 45) #[Y,Y,N,Y,Y,Y,Y,Y,N,N,N,N,N,N] (any_of HT_.out (by kernel_rfl)) ?_
                refine one_ (i := 2) (N := some 40) #[Y,Y,Y,Y,Y,Y,Y,Y,N,N,N,N,N,N] rfl rfl (one_of HT_.out (by kernel_rfl)) (by decide) (fun K hK => ?_)
                refine goes_ Try.func55 (by kernel_rfl) rfl #[.int .i64 ((rd_T101 y113 x33_1).f0)] (by rfl) rfl rfl (by (try simp only [List.map_toArray, List.map_cons, List.map_nil]); first | done | rfl | (simp only [List.length_drop, List.length_take]; rfl)) ?_
                with_reducible refine (fastilaw29_pitch.calls ((rd_T101 y113 x33_1).f0) t118 t119 t120 t121 t122 t123 t124 _ A7.out).mono ?_
                rintro e w15 ⟨rfl, hb⟩
                refine ⟨_, rfl, ?_⟩
                replace HO_31 := Aside0.mk (Kd.R_below (rmv HO_31.out) hb)
                replace BK117 := Aside0.mk (zb BK117.out hb)
                replace HB := Aside0.mk (below_step (blw HB.out) hb)
                (try clear hb)
                (try clear hb2)
                (try clear hk)
                (try clear hi)
                refine hK.out _ _ ⟨bc BK117 0, bc BK117 1, bc BK117 2, bc BK117 3⟩ (fun hHeld => ?_)
                clear hK K
                refine norm_ (a' := ?_) ?_ ?_
                rotate_left
                · show Act.put _ (some 40) _ = _
                  simp only [Act.put, List.setIfInBounds_toArray, List.set_cons_zero, List.set_cons_succ, i64_w, i32_w]
                  rfl
                refine one_ (i := 8) (N := some 46) #[Y,Y,Y,Y,Y,Y,Y,Y,Y,N,N,N,N,N] rfl rfl (one_of HT_.out (by kernel_rfl)) (by decide) (fun K hK => ?_)
                refine goes_ Try.func20 (by kernel_rfl) rfl #[.agg #[.string t118, .string t119, .int .i64 t120, .int .i64 t121, .int .i64 t122, .int .i64 t123, .int .i64 t124], .agg #[.int .i64 ((rd_T101 y113 x33_1).f1), .int .i64 ((rd_T101 y113 x33_1).f2)]] (by rfl) rfl rfl (by (try simp only [List.map_toArray, List.map_cons, List.map_nil]); first | done | rfl | (simp only [List.length_drop, List.length_take]; rfl)) ?_
                with_reducible refine (bearing_Bears.calls t118 t119 t120 t121 t122 t123 t124 ((rd_T101 y113 x33_1).f1) ((rd_T101 y113 x33_1).f2) t125 t126 _ A8.out).mono ?_
                rintro e w16 ⟨rfl, hb⟩
                refine ⟨_, rfl, ?_⟩
                replace HO_31 := Aside0.mk (Kd.R_below (rmv HO_31.out) hb)
                replace BK117 := Aside0.mk (zb BK117.out hb)
                replace HB := Aside0.mk (below_step (blw HB.out) hb)
                (try clear hb)
                (try clear hb2)
                (try clear hk)
                (try clear hi)
                refine hK.out _ _ ⟨bc BK117 0, bc BK117 1, bc BK117 2, bc BK117 3⟩ (fun hHeld => ?_)
                clear hK K
                refine norm_ (a' := ?_) ?_ ?_
                rotate_left
                · show Act.put _ (some 46) _ = _
                  simp only [Act.put, List.setIfInBounds_toArray, List.set_cons_zero, List.set_cons_succ, i64_w, i32_w]
                  rfl
                refine pureA (i := 9) (N := some 37) #[Y,Y,Y,Y,Y,Y,Y,Y,Y,Y,N,N,N,N] (any_of HT_.out (by kernel_rfl)) ?_
                refine pureA (i := 10) (N := some 47) #[Y,Y,Y,Y,Y,Y,Y,Y,Y,Y,Y,N,N,N] (any_of HT_.out (by kernel_rfl)) ?_
                refine pureA (i := 11) (N := some 48) #[Y,Y,Y,Y,Y,Y,Y,Y,Y,Y,Y,Y,N,N] (any_of HT_.out (by kernel_rfl)) ?_
                refine pureA (i := 12) (N := some 3) #[Y,Y,Y,Y,Y,Y,Y,Y,Y,Y,Y,Y,Y,N] (any_of HT_.out (by kernel_rfl)) ?_
                refine pureA (i := 13) (N := some 4) #[Y,Y,Y,Y,Y,Y,Y,Y,Y,Y,Y,Y,Y,Y] (any_of HT_.out (by kernel_rfl)) ?_
                refine done_ (done_of HT_.out (by kernel_rfl)) ?_
                have hcz17_0 : w16.cell? ⟨gb117, 0, none⟩ = some (.int .i64 ((rd_T101 y113 x33_1).f0)) := bc BK117 0
                have hcz17_1 : w16.cell? ⟨gb117, 1, none⟩ = some (.int .i64 ((rd_T101 y113 x33_1).f1)) := bc BK117 1
                have hcz17_2 : w16.cell? ⟨gb117, 2, none⟩ = some (.int .i64 ((rd_T101 y113 x33_1).f2)) := bc BK117 2
                have hcz17_3 : w16.cell? ⟨gb117, 3, none⟩ = some (.int .i64 ((rd_T101 y113 x33_1).f3)) := bc BK117 3
                have hfz17_0 := blk_frozen BK117.out 0
                have hfz17_1 := blk_frozen BK117.out 1
                have hfz17_2 := blk_frozen BK117.out 2
                have hfz17_3 := blk_frozen BK117.out 3
                try go_wp2
                go_roundg k1
                case measure => have := HK1.out; omega
                case rel => exact ⟨(wrap64 (x33_1 + 1)), (by first | rfl | (simp; done) | (simp [*]; done)), H', ⟨by have := HK1.out; omega⟩, ⟨by (with_reducible repeat (first | apply Kd.R_alloc | apply Kd.R_drewN | apply Kd.R_drew)); exact Kd.R_mono HO_31.out (fun _ hk => trivial)⟩, ⟨blw HB.out⟩⟩
              · rw [if_neg c10] at H
                exact absurd H (by simp)
            · rw [if_neg c9] at H
              exact absurd H (by simp)
          · rw [if_neg c6] at H
            exact absurd H (by simp)
        · rw [if_neg c5] at H
          exact absurd H (by simp)
      · rw [if_neg c4] at H
        have c4b0 : decide (x33_1 < (y113.length : Int)) = false := decide_eq_false c4
        clear c4
        replace H := Option.bind_eq_some_iff.mp H
        obtain ⟨⟨t129, t130, t131, t132, t133, t134, t135⟩, A180, H⟩ := H
        have e_ := Option.some.inj (A180.symm.trans (show fastilaw29_pitch.f 300 = some ((⟨#[]⟩ : ByteArray), (⟨#[]⟩ : ByteArray), 0, 300, 0, 0, 1) by kernel_rfl))
        simp only [Prod.mk.injEq] at e_
        obtain ⟨rfl, rfl, rfl, rfl, rfl, rfl, rfl⟩ := e_
        replace H : ((bearing_Risk.f (⟨#[]⟩ : ByteArray) (⟨#[]⟩ : ByteArray) 0 300 0 0 1 0 1000).bind fun bt136 => ((fastilaw29_pitch.f 300).bind fun bt139 => ((bearing_Risk.f (⟨#[]⟩ : ByteArray) (⟨#[]⟩ : ByteArray) 0 300 0 0 1 298 301).bind fun bt146 => ((fastilaw29_pitch.f 300).bind fun bt149 => ((bearing_Permit.f k1 (⟨#[]⟩ : ByteArray) (⟨#[]⟩ : ByteArray) 0 300 0 0 1 0 1000 299 true).bind fun bt156 => ((fastilaw29_pitch.f 300).bind fun bt158 => ((bearing_Permit.f k1 (⟨#[]⟩ : ByteArray) (⟨#[]⟩ : ByteArray) 0 300 0 0 1 0 1000 300 true).bind fun bt165 => ((fastilaw29_pitch.f 300).bind fun bt167 => ((bearing_Permit.f k1 (⟨#[]⟩ : ByteArray) (⟨#[]⟩ : ByteArray) 0 300 0 0 1 0 299 1000 true).bind fun bt174 => ((fastilaw29_pitch.f 300).bind fun bt176 => ((bearing_Permit.f k1 (⟨#[]⟩ : ByteArray) (⟨#[]⟩ : ByteArray) 0 300 0 0 1 298 301 500 true).bind fun bt183 => ((fastilaw29_pitch.f 300).bind fun bt185 => ((bearing_Permit.f k1 (⟨#[]⟩ : ByteArray) (⟨#[]⟩ : ByteArray) 0 300 0 0 1 0 1000 1001 true).bind fun bt192 => ((fastilaw29_pitch.f 1001).bind fun bt194 => ((bearing_Bears.f (⟨#[]⟩ : ByteArray) (⟨#[]⟩ : ByteArray) 0 1001 0 0 1 0 1000).bind fun bt201 => ((fastilaw29_pitch.f 0).bind fun bt203 => ((bearing_Bears.f (⟨#[]⟩ : ByteArray) (⟨#[]⟩ : ByteArray) 0 0 0 0 1 1 0).bind fun bt210 => (some true)))))))))))))))))) = some r := H
        have A18 := Aside0.mk A180
        clear A180
        replace H := Option.bind_eq_some_iff.mp H
        obtain ⟨⟨t136, t137, t138⟩, A190, H⟩ := H
        have e_ := Option.some.inj (A190.symm.trans (show bearing_Risk.f (⟨#[]⟩ : ByteArray) (⟨#[]⟩ : ByteArray) 0 300 0 0 1 0 1000 = some (300, 1001, 0) by kernel_rfl))
        simp only [Prod.mk.injEq] at e_
        obtain ⟨rfl, rfl, rfl⟩ := e_
        replace H : ((fastilaw29_pitch.f 300).bind fun bt139 => ((bearing_Risk.f (⟨#[]⟩ : ByteArray) (⟨#[]⟩ : ByteArray) 0 300 0 0 1 298 301).bind fun bt146 => ((fastilaw29_pitch.f 300).bind fun bt149 => ((bearing_Permit.f k1 (⟨#[]⟩ : ByteArray) (⟨#[]⟩ : ByteArray) 0 300 0 0 1 0 1000 299 true).bind fun bt156 => ((fastilaw29_pitch.f 300).bind fun bt158 => ((bearing_Permit.f k1 (⟨#[]⟩ : ByteArray) (⟨#[]⟩ : ByteArray) 0 300 0 0 1 0 1000 300 true).bind fun bt165 => ((fastilaw29_pitch.f 300).bind fun bt167 => ((bearing_Permit.f k1 (⟨#[]⟩ : ByteArray) (⟨#[]⟩ : ByteArray) 0 300 0 0 1 0 299 1000 true).bind fun bt174 => ((fastilaw29_pitch.f 300).bind fun bt176 => ((bearing_Permit.f k1 (⟨#[]⟩ : ByteArray) (⟨#[]⟩ : ByteArray) 0 300 0 0 1 298 301 500 true).bind fun bt183 => ((fastilaw29_pitch.f 300).bind fun bt185 => ((bearing_Permit.f k1 (⟨#[]⟩ : ByteArray) (⟨#[]⟩ : ByteArray) 0 300 0 0 1 0 1000 1001 true).bind fun bt192 => ((fastilaw29_pitch.f 1001).bind fun bt194 => ((bearing_Bears.f (⟨#[]⟩ : ByteArray) (⟨#[]⟩ : ByteArray) 0 1001 0 0 1 0 1000).bind fun bt201 => ((fastilaw29_pitch.f 0).bind fun bt203 => ((bearing_Bears.f (⟨#[]⟩ : ByteArray) (⟨#[]⟩ : ByteArray) 0 0 0 0 1 1 0).bind fun bt210 => (some true))))))))))))))))) = some r := H
        have A19 := Aside0.mk A190
        clear A190
        replace H := Option.bind_eq_some_iff.mp H
        obtain ⟨⟨t139, t140, t141, t142, t143, t144, t145⟩, A200, H⟩ := H
        have e_ := Option.some.inj (A200.symm.trans (show fastilaw29_pitch.f 300 = some ((⟨#[]⟩ : ByteArray), (⟨#[]⟩ : ByteArray), 0, 300, 0, 0, 1) by kernel_rfl))
        simp only [Prod.mk.injEq] at e_
        obtain ⟨rfl, rfl, rfl, rfl, rfl, rfl, rfl⟩ := e_
        replace H : ((bearing_Risk.f (⟨#[]⟩ : ByteArray) (⟨#[]⟩ : ByteArray) 0 300 0 0 1 298 301).bind fun bt146 => ((fastilaw29_pitch.f 300).bind fun bt149 => ((bearing_Permit.f k1 (⟨#[]⟩ : ByteArray) (⟨#[]⟩ : ByteArray) 0 300 0 0 1 0 1000 299 true).bind fun bt156 => ((fastilaw29_pitch.f 300).bind fun bt158 => ((bearing_Permit.f k1 (⟨#[]⟩ : ByteArray) (⟨#[]⟩ : ByteArray) 0 300 0 0 1 0 1000 300 true).bind fun bt165 => ((fastilaw29_pitch.f 300).bind fun bt167 => ((bearing_Permit.f k1 (⟨#[]⟩ : ByteArray) (⟨#[]⟩ : ByteArray) 0 300 0 0 1 0 299 1000 true).bind fun bt174 => ((fastilaw29_pitch.f 300).bind fun bt176 => ((bearing_Permit.f k1 (⟨#[]⟩ : ByteArray) (⟨#[]⟩ : ByteArray) 0 300 0 0 1 298 301 500 true).bind fun bt183 => ((fastilaw29_pitch.f 300).bind fun bt185 => ((bearing_Permit.f k1 (⟨#[]⟩ : ByteArray) (⟨#[]⟩ : ByteArray) 0 300 0 0 1 0 1000 1001 true).bind fun bt192 => ((fastilaw29_pitch.f 1001).bind fun bt194 => ((bearing_Bears.f (⟨#[]⟩ : ByteArray) (⟨#[]⟩ : ByteArray) 0 1001 0 0 1 0 1000).bind fun bt201 => ((fastilaw29_pitch.f 0).bind fun bt203 => ((bearing_Bears.f (⟨#[]⟩ : ByteArray) (⟨#[]⟩ : ByteArray) 0 0 0 0 1 1 0).bind fun bt210 => (some true)))))))))))))))) = some r := H
        have A20 := Aside0.mk A200
        clear A200
        replace H := Option.bind_eq_some_iff.mp H
        obtain ⟨⟨t146, t147, t148⟩, A210, H⟩ := H
        have e_ := Option.some.inj (A210.symm.trans (show bearing_Risk.f (⟨#[]⟩ : ByteArray) (⟨#[]⟩ : ByteArray) 0 300 0 0 1 298 301 = some (2, 4, 0) by kernel_rfl))
        simp only [Prod.mk.injEq] at e_
        obtain ⟨rfl, rfl, rfl⟩ := e_
        replace H : ((fastilaw29_pitch.f 300).bind fun bt149 => ((bearing_Permit.f k1 (⟨#[]⟩ : ByteArray) (⟨#[]⟩ : ByteArray) 0 300 0 0 1 0 1000 299 true).bind fun bt156 => ((fastilaw29_pitch.f 300).bind fun bt158 => ((bearing_Permit.f k1 (⟨#[]⟩ : ByteArray) (⟨#[]⟩ : ByteArray) 0 300 0 0 1 0 1000 300 true).bind fun bt165 => ((fastilaw29_pitch.f 300).bind fun bt167 => ((bearing_Permit.f k1 (⟨#[]⟩ : ByteArray) (⟨#[]⟩ : ByteArray) 0 300 0 0 1 0 299 1000 true).bind fun bt174 => ((fastilaw29_pitch.f 300).bind fun bt176 => ((bearing_Permit.f k1 (⟨#[]⟩ : ByteArray) (⟨#[]⟩ : ByteArray) 0 300 0 0 1 298 301 500 true).bind fun bt183 => ((fastilaw29_pitch.f 300).bind fun bt185 => ((bearing_Permit.f k1 (⟨#[]⟩ : ByteArray) (⟨#[]⟩ : ByteArray) 0 300 0 0 1 0 1000 1001 true).bind fun bt192 => ((fastilaw29_pitch.f 1001).bind fun bt194 => ((bearing_Bears.f (⟨#[]⟩ : ByteArray) (⟨#[]⟩ : ByteArray) 0 1001 0 0 1 0 1000).bind fun bt201 => ((fastilaw29_pitch.f 0).bind fun bt203 => ((bearing_Bears.f (⟨#[]⟩ : ByteArray) (⟨#[]⟩ : ByteArray) 0 0 0 0 1 1 0).bind fun bt210 => (some true))))))))))))))) = some r := H
        have A21 := Aside0.mk A210
        clear A210
        replace H := Option.bind_eq_some_iff.mp H
        obtain ⟨⟨t149, t150, t151, t152, t153, t154, t155⟩, A220, H⟩ := H
        have e_ := Option.some.inj (A220.symm.trans (show fastilaw29_pitch.f 300 = some ((⟨#[]⟩ : ByteArray), (⟨#[]⟩ : ByteArray), 0, 300, 0, 0, 1) by kernel_rfl))
        simp only [Prod.mk.injEq] at e_
        obtain ⟨rfl, rfl, rfl, rfl, rfl, rfl, rfl⟩ := e_
        replace H : ((bearing_Permit.f k1 (⟨#[]⟩ : ByteArray) (⟨#[]⟩ : ByteArray) 0 300 0 0 1 0 1000 299 true).bind fun bt156 => ((fastilaw29_pitch.f 300).bind fun bt158 => ((bearing_Permit.f k1 (⟨#[]⟩ : ByteArray) (⟨#[]⟩ : ByteArray) 0 300 0 0 1 0 1000 300 true).bind fun bt165 => ((fastilaw29_pitch.f 300).bind fun bt167 => ((bearing_Permit.f k1 (⟨#[]⟩ : ByteArray) (⟨#[]⟩ : ByteArray) 0 300 0 0 1 0 299 1000 true).bind fun bt174 => ((fastilaw29_pitch.f 300).bind fun bt176 => ((bearing_Permit.f k1 (⟨#[]⟩ : ByteArray) (⟨#[]⟩ : ByteArray) 0 300 0 0 1 298 301 500 true).bind fun bt183 => ((fastilaw29_pitch.f 300).bind fun bt185 => ((bearing_Permit.f k1 (⟨#[]⟩ : ByteArray) (⟨#[]⟩ : ByteArray) 0 300 0 0 1 0 1000 1001 true).bind fun bt192 => ((fastilaw29_pitch.f 1001).bind fun bt194 => ((bearing_Bears.f (⟨#[]⟩ : ByteArray) (⟨#[]⟩ : ByteArray) 0 1001 0 0 1 0 1000).bind fun bt201 => ((fastilaw29_pitch.f 0).bind fun bt203 => ((bearing_Bears.f (⟨#[]⟩ : ByteArray) (⟨#[]⟩ : ByteArray) 0 0 0 0 1 1 0).bind fun bt210 => (some true)))))))))))))) = some r := H
        have A22 := Aside0.mk A220
        clear A220
        replace H := Option.bind_eq_some_iff.mp H
        obtain ⟨⟨t156, t157⟩, A230, H⟩ := H
        have e_ := lit_same (fun k_ => bearing_Permit.mono _ _ _ _ _ _ _ _ _ _ _ k_) (show bearing_Permit.f 60 (⟨#[]⟩ : ByteArray) (⟨#[]⟩ : ByteArray) 0 300 0 0 1 0 1000 299 true = some (false, 0) by kernel_rfl) A230
        simp only [Prod.mk.injEq] at e_
        obtain ⟨rfl, rfl⟩ := e_
        replace H : ((fastilaw29_pitch.f 300).bind fun bt158 => ((bearing_Permit.f k1 (⟨#[]⟩ : ByteArray) (⟨#[]⟩ : ByteArray) 0 300 0 0 1 0 1000 300 true).bind fun bt165 => ((fastilaw29_pitch.f 300).bind fun bt167 => ((bearing_Permit.f k1 (⟨#[]⟩ : ByteArray) (⟨#[]⟩ : ByteArray) 0 300 0 0 1 0 299 1000 true).bind fun bt174 => ((fastilaw29_pitch.f 300).bind fun bt176 => ((bearing_Permit.f k1 (⟨#[]⟩ : ByteArray) (⟨#[]⟩ : ByteArray) 0 300 0 0 1 298 301 500 true).bind fun bt183 => ((fastilaw29_pitch.f 300).bind fun bt185 => ((bearing_Permit.f k1 (⟨#[]⟩ : ByteArray) (⟨#[]⟩ : ByteArray) 0 300 0 0 1 0 1000 1001 true).bind fun bt192 => ((fastilaw29_pitch.f 1001).bind fun bt194 => ((bearing_Bears.f (⟨#[]⟩ : ByteArray) (⟨#[]⟩ : ByteArray) 0 1001 0 0 1 0 1000).bind fun bt201 => ((fastilaw29_pitch.f 0).bind fun bt203 => ((bearing_Bears.f (⟨#[]⟩ : ByteArray) (⟨#[]⟩ : ByteArray) 0 0 0 0 1 1 0).bind fun bt210 => (some true))))))))))))) = some r := H
        have A23 := Aside0.mk A230
        clear A230
        replace H := Option.bind_eq_some_iff.mp H
        obtain ⟨⟨t158, t159, t160, t161, t162, t163, t164⟩, A240, H⟩ := H
        have e_ := Option.some.inj (A240.symm.trans (show fastilaw29_pitch.f 300 = some ((⟨#[]⟩ : ByteArray), (⟨#[]⟩ : ByteArray), 0, 300, 0, 0, 1) by kernel_rfl))
        simp only [Prod.mk.injEq] at e_
        obtain ⟨rfl, rfl, rfl, rfl, rfl, rfl, rfl⟩ := e_
        replace H : ((bearing_Permit.f k1 (⟨#[]⟩ : ByteArray) (⟨#[]⟩ : ByteArray) 0 300 0 0 1 0 1000 300 true).bind fun bt165 => ((fastilaw29_pitch.f 300).bind fun bt167 => ((bearing_Permit.f k1 (⟨#[]⟩ : ByteArray) (⟨#[]⟩ : ByteArray) 0 300 0 0 1 0 299 1000 true).bind fun bt174 => ((fastilaw29_pitch.f 300).bind fun bt176 => ((bearing_Permit.f k1 (⟨#[]⟩ : ByteArray) (⟨#[]⟩ : ByteArray) 0 300 0 0 1 298 301 500 true).bind fun bt183 => ((fastilaw29_pitch.f 300).bind fun bt185 => ((bearing_Permit.f k1 (⟨#[]⟩ : ByteArray) (⟨#[]⟩ : ByteArray) 0 300 0 0 1 0 1000 1001 true).bind fun bt192 => ((fastilaw29_pitch.f 1001).bind fun bt194 => ((bearing_Bears.f (⟨#[]⟩ : ByteArray) (⟨#[]⟩ : ByteArray) 0 1001 0 0 1 0 1000).bind fun bt201 => ((fastilaw29_pitch.f 0).bind fun bt203 => ((bearing_Bears.f (⟨#[]⟩ : ByteArray) (⟨#[]⟩ : ByteArray) 0 0 0 0 1 1 0).bind fun bt210 => (some true)))))))))))) = some r := H
        have A24 := Aside0.mk A240
        clear A240
        replace H := Option.bind_eq_some_iff.mp H
        obtain ⟨⟨t165, t166⟩, A250, H⟩ := H
        have e_ := lit_same (fun k_ => bearing_Permit.mono _ _ _ _ _ _ _ _ _ _ _ k_) (show bearing_Permit.f 60 (⟨#[]⟩ : ByteArray) (⟨#[]⟩ : ByteArray) 0 300 0 0 1 0 1000 300 true = some (true, 0) by kernel_rfl) A250
        simp only [Prod.mk.injEq] at e_
        obtain ⟨rfl, rfl⟩ := e_
        replace H : ((fastilaw29_pitch.f 300).bind fun bt167 => ((bearing_Permit.f k1 (⟨#[]⟩ : ByteArray) (⟨#[]⟩ : ByteArray) 0 300 0 0 1 0 299 1000 true).bind fun bt174 => ((fastilaw29_pitch.f 300).bind fun bt176 => ((bearing_Permit.f k1 (⟨#[]⟩ : ByteArray) (⟨#[]⟩ : ByteArray) 0 300 0 0 1 298 301 500 true).bind fun bt183 => ((fastilaw29_pitch.f 300).bind fun bt185 => ((bearing_Permit.f k1 (⟨#[]⟩ : ByteArray) (⟨#[]⟩ : ByteArray) 0 300 0 0 1 0 1000 1001 true).bind fun bt192 => ((fastilaw29_pitch.f 1001).bind fun bt194 => ((bearing_Bears.f (⟨#[]⟩ : ByteArray) (⟨#[]⟩ : ByteArray) 0 1001 0 0 1 0 1000).bind fun bt201 => ((fastilaw29_pitch.f 0).bind fun bt203 => ((bearing_Bears.f (⟨#[]⟩ : ByteArray) (⟨#[]⟩ : ByteArray) 0 0 0 0 1 1 0).bind fun bt210 => (some true))))))))))) = some r := H
        have A25 := Aside0.mk A250
        clear A250
        replace H := Option.bind_eq_some_iff.mp H
        obtain ⟨⟨t167, t168, t169, t170, t171, t172, t173⟩, A260, H⟩ := H
        have e_ := Option.some.inj (A260.symm.trans (show fastilaw29_pitch.f 300 = some ((⟨#[]⟩ : ByteArray), (⟨#[]⟩ : ByteArray), 0, 300, 0, 0, 1) by kernel_rfl))
        simp only [Prod.mk.injEq] at e_
        obtain ⟨rfl, rfl, rfl, rfl, rfl, rfl, rfl⟩ := e_
        replace H : ((bearing_Permit.f k1 (⟨#[]⟩ : ByteArray) (⟨#[]⟩ : ByteArray) 0 300 0 0 1 0 299 1000 true).bind fun bt174 => ((fastilaw29_pitch.f 300).bind fun bt176 => ((bearing_Permit.f k1 (⟨#[]⟩ : ByteArray) (⟨#[]⟩ : ByteArray) 0 300 0 0 1 298 301 500 true).bind fun bt183 => ((fastilaw29_pitch.f 300).bind fun bt185 => ((bearing_Permit.f k1 (⟨#[]⟩ : ByteArray) (⟨#[]⟩ : ByteArray) 0 300 0 0 1 0 1000 1001 true).bind fun bt192 => ((fastilaw29_pitch.f 1001).bind fun bt194 => ((bearing_Bears.f (⟨#[]⟩ : ByteArray) (⟨#[]⟩ : ByteArray) 0 1001 0 0 1 0 1000).bind fun bt201 => ((fastilaw29_pitch.f 0).bind fun bt203 => ((bearing_Bears.f (⟨#[]⟩ : ByteArray) (⟨#[]⟩ : ByteArray) 0 0 0 0 1 1 0).bind fun bt210 => (some true)))))))))) = some r := H
        have A26 := Aside0.mk A260
        clear A260
        replace H := Option.bind_eq_some_iff.mp H
        obtain ⟨⟨t174, t175⟩, A270, H⟩ := H
        have e_ := lit_same (fun k_ => bearing_Permit.mono _ _ _ _ _ _ _ _ _ _ _ k_) (show bearing_Permit.f 60 (⟨#[]⟩ : ByteArray) (⟨#[]⟩ : ByteArray) 0 300 0 0 1 0 299 1000 true = some (false, 0) by kernel_rfl) A270
        simp only [Prod.mk.injEq] at e_
        obtain ⟨rfl, rfl⟩ := e_
        replace H : ((fastilaw29_pitch.f 300).bind fun bt176 => ((bearing_Permit.f k1 (⟨#[]⟩ : ByteArray) (⟨#[]⟩ : ByteArray) 0 300 0 0 1 298 301 500 true).bind fun bt183 => ((fastilaw29_pitch.f 300).bind fun bt185 => ((bearing_Permit.f k1 (⟨#[]⟩ : ByteArray) (⟨#[]⟩ : ByteArray) 0 300 0 0 1 0 1000 1001 true).bind fun bt192 => ((fastilaw29_pitch.f 1001).bind fun bt194 => ((bearing_Bears.f (⟨#[]⟩ : ByteArray) (⟨#[]⟩ : ByteArray) 0 1001 0 0 1 0 1000).bind fun bt201 => ((fastilaw29_pitch.f 0).bind fun bt203 => ((bearing_Bears.f (⟨#[]⟩ : ByteArray) (⟨#[]⟩ : ByteArray) 0 0 0 0 1 1 0).bind fun bt210 => (some true))))))))) = some r := H
        have A27 := Aside0.mk A270
        clear A270
        replace H := Option.bind_eq_some_iff.mp H
        obtain ⟨⟨t176, t177, t178, t179, t180, t181, t182⟩, A280, H⟩ := H
        have e_ := Option.some.inj (A280.symm.trans (show fastilaw29_pitch.f 300 = some ((⟨#[]⟩ : ByteArray), (⟨#[]⟩ : ByteArray), 0, 300, 0, 0, 1) by kernel_rfl))
        simp only [Prod.mk.injEq] at e_
        obtain ⟨rfl, rfl, rfl, rfl, rfl, rfl, rfl⟩ := e_
        replace H : ((bearing_Permit.f k1 (⟨#[]⟩ : ByteArray) (⟨#[]⟩ : ByteArray) 0 300 0 0 1 298 301 500 true).bind fun bt183 => ((fastilaw29_pitch.f 300).bind fun bt185 => ((bearing_Permit.f k1 (⟨#[]⟩ : ByteArray) (⟨#[]⟩ : ByteArray) 0 300 0 0 1 0 1000 1001 true).bind fun bt192 => ((fastilaw29_pitch.f 1001).bind fun bt194 => ((bearing_Bears.f (⟨#[]⟩ : ByteArray) (⟨#[]⟩ : ByteArray) 0 1001 0 0 1 0 1000).bind fun bt201 => ((fastilaw29_pitch.f 0).bind fun bt203 => ((bearing_Bears.f (⟨#[]⟩ : ByteArray) (⟨#[]⟩ : ByteArray) 0 0 0 0 1 1 0).bind fun bt210 => (some true)))))))) = some r := H
        have A28 := Aside0.mk A280
        clear A280
        replace H := Option.bind_eq_some_iff.mp H
        obtain ⟨⟨t183, t184⟩, A290, H⟩ := H
        have e_ := lit_same (fun k_ => bearing_Permit.mono _ _ _ _ _ _ _ _ _ _ _ k_) (show bearing_Permit.f 60 (⟨#[]⟩ : ByteArray) (⟨#[]⟩ : ByteArray) 0 300 0 0 1 298 301 500 true = some (true, 0) by kernel_rfl) A290
        simp only [Prod.mk.injEq] at e_
        obtain ⟨rfl, rfl⟩ := e_
        replace H : ((fastilaw29_pitch.f 300).bind fun bt185 => ((bearing_Permit.f k1 (⟨#[]⟩ : ByteArray) (⟨#[]⟩ : ByteArray) 0 300 0 0 1 0 1000 1001 true).bind fun bt192 => ((fastilaw29_pitch.f 1001).bind fun bt194 => ((bearing_Bears.f (⟨#[]⟩ : ByteArray) (⟨#[]⟩ : ByteArray) 0 1001 0 0 1 0 1000).bind fun bt201 => ((fastilaw29_pitch.f 0).bind fun bt203 => ((bearing_Bears.f (⟨#[]⟩ : ByteArray) (⟨#[]⟩ : ByteArray) 0 0 0 0 1 1 0).bind fun bt210 => (some true))))))) = some r := H
        have A29 := Aside0.mk A290
        clear A290
        replace H := Option.bind_eq_some_iff.mp H
        obtain ⟨⟨t185, t186, t187, t188, t189, t190, t191⟩, A300, H⟩ := H
        have e_ := Option.some.inj (A300.symm.trans (show fastilaw29_pitch.f 300 = some ((⟨#[]⟩ : ByteArray), (⟨#[]⟩ : ByteArray), 0, 300, 0, 0, 1) by kernel_rfl))
        simp only [Prod.mk.injEq] at e_
        obtain ⟨rfl, rfl, rfl, rfl, rfl, rfl, rfl⟩ := e_
        replace H : ((bearing_Permit.f k1 (⟨#[]⟩ : ByteArray) (⟨#[]⟩ : ByteArray) 0 300 0 0 1 0 1000 1001 true).bind fun bt192 => ((fastilaw29_pitch.f 1001).bind fun bt194 => ((bearing_Bears.f (⟨#[]⟩ : ByteArray) (⟨#[]⟩ : ByteArray) 0 1001 0 0 1 0 1000).bind fun bt201 => ((fastilaw29_pitch.f 0).bind fun bt203 => ((bearing_Bears.f (⟨#[]⟩ : ByteArray) (⟨#[]⟩ : ByteArray) 0 0 0 0 1 1 0).bind fun bt210 => (some true)))))) = some r := H
        have A30 := Aside0.mk A300
        clear A300
        replace H := Option.bind_eq_some_iff.mp H
        obtain ⟨⟨t192, t193⟩, A310, H⟩ := H
        have e_ := lit_same (fun k_ => bearing_Permit.mono _ _ _ _ _ _ _ _ _ _ _ k_) (show bearing_Permit.f 60 (⟨#[]⟩ : ByteArray) (⟨#[]⟩ : ByteArray) 0 300 0 0 1 0 1000 1001 true = some (false, 290) by kernel_rfl) A310
        simp only [Prod.mk.injEq] at e_
        obtain ⟨rfl, rfl⟩ := e_
        replace H : ((fastilaw29_pitch.f 1001).bind fun bt194 => ((bearing_Bears.f (⟨#[]⟩ : ByteArray) (⟨#[]⟩ : ByteArray) 0 1001 0 0 1 0 1000).bind fun bt201 => ((fastilaw29_pitch.f 0).bind fun bt203 => ((bearing_Bears.f (⟨#[]⟩ : ByteArray) (⟨#[]⟩ : ByteArray) 0 0 0 0 1 1 0).bind fun bt210 => (some true))))) = some r := H
        have A31 := Aside0.mk A310
        clear A310
        replace H := Option.bind_eq_some_iff.mp H
        obtain ⟨⟨t194, t195, t196, t197, t198, t199, t200⟩, A320, H⟩ := H
        have e_ := Option.some.inj (A320.symm.trans (show fastilaw29_pitch.f 1001 = some ((⟨#[]⟩ : ByteArray), (⟨#[]⟩ : ByteArray), 0, 1001, 0, 0, 1) by kernel_rfl))
        simp only [Prod.mk.injEq] at e_
        obtain ⟨rfl, rfl, rfl, rfl, rfl, rfl, rfl⟩ := e_
        replace H : ((bearing_Bears.f (⟨#[]⟩ : ByteArray) (⟨#[]⟩ : ByteArray) 0 1001 0 0 1 0 1000).bind fun bt201 => ((fastilaw29_pitch.f 0).bind fun bt203 => ((bearing_Bears.f (⟨#[]⟩ : ByteArray) (⟨#[]⟩ : ByteArray) 0 0 0 0 1 1 0).bind fun bt210 => (some true)))) = some r := H
        have A32 := Aside0.mk A320
        clear A320
        replace H := Option.bind_eq_some_iff.mp H
        obtain ⟨⟨t201, t202⟩, A330, H⟩ := H
        have e_ := Option.some.inj (A330.symm.trans (show bearing_Bears.f (⟨#[]⟩ : ByteArray) (⟨#[]⟩ : ByteArray) 0 1001 0 0 1 0 1000 = some (0, 290) by kernel_rfl))
        simp only [Prod.mk.injEq] at e_
        obtain ⟨rfl, rfl⟩ := e_
        replace H : ((fastilaw29_pitch.f 0).bind fun bt203 => ((bearing_Bears.f (⟨#[]⟩ : ByteArray) (⟨#[]⟩ : ByteArray) 0 0 0 0 1 1 0).bind fun bt210 => (some true))) = some r := H
        have A33 := Aside0.mk A330
        clear A330
        replace H := Option.bind_eq_some_iff.mp H
        obtain ⟨⟨t203, t204, t205, t206, t207, t208, t209⟩, A340, H⟩ := H
        have e_ := Option.some.inj (A340.symm.trans (show fastilaw29_pitch.f 0 = some ((⟨#[]⟩ : ByteArray), (⟨#[]⟩ : ByteArray), 0, 0, 0, 0, 1) by kernel_rfl))
        simp only [Prod.mk.injEq] at e_
        obtain ⟨rfl, rfl, rfl, rfl, rfl, rfl, rfl⟩ := e_
        replace H : ((bearing_Bears.f (⟨#[]⟩ : ByteArray) (⟨#[]⟩ : ByteArray) 0 0 0 0 1 1 0).bind fun bt210 => (some true)) = some r := H
        have A34 := Aside0.mk A340
        clear A340
        replace H := Option.bind_eq_some_iff.mp H
        obtain ⟨⟨t210, t211⟩, A350, H⟩ := H
        have e_ := Option.some.inj (A350.symm.trans (show bearing_Bears.f (⟨#[]⟩ : ByteArray) (⟨#[]⟩ : ByteArray) 0 0 0 0 1 1 0 = some (0, 290) by kernel_rfl))
        simp only [Prod.mk.injEq] at e_
        obtain ⟨rfl, rfl⟩ := e_
        replace H : (some true) = some r := H
        have A35 := Aside0.mk A350
        clear A350
        obtain rfl := Option.some.inj H
        try go_wp2_with (first | ((with_reducible refine gate_dst (N := 5) rfl ?_); refine box_event ?hg (N := 5) ?hd (cs := #[.int .i64 0, .int .i64 0]) (t := 27) ?hr ?_; (case hd => rfl); (case hg => rfl); (case hr => first | (go_simp; done) | (go_simp; rfl)); intro gb127 hg w36 hbox hb; replace HO_31 := Aside0.mk (Kd.R_below (rmv HO_31.out) hb); have BK127 := Aside0.mk (hbox); have GW127 := Aside0.mk ((by rw [hg]; exact (below_size (blw HB.out)) : w.heap.size ≤ gb127)); have GE127 := Aside0.mk ((by rw [hg]; exact (below_size (blw HB.out)) : w.heap.size ≤ gb127)); replace HB := Aside0.mk (below_step (blw HB.out) hb); clear hb hbox hg) | ((with_reducible refine gate_dst (N := 6) rfl ?_); refine box_event ?hg (N := 6) ?hd (cs := #[.int .i64 0, .int .i64 0]) (t := 27) ?hr ?_; (case hd => rfl); (case hg => rfl); (case hr => first | (go_simp; done) | (go_simp; rfl)); intro gb128 hg w37 hbox hb; replace HO_31 := Aside0.mk (Kd.R_below (rmv HO_31.out) hb); have BK128 := Aside0.mk (hbox); have GW128 := Aside0.mk ((by rw [hg]; exact (below_size (blw HB.out)) : w.heap.size ≤ gb128)); have GE128 := Aside0.mk ((by rw [hg]; exact (below_size (blw HB.out)) : w.heap.size ≤ gb128)); replace HB := Aside0.mk (below_step (blw HB.out) hb); have NB127_128 := Aside0.mk ((by rw [hg]; exact Nat.ne_of_lt (blk_lt (zk BK127.out)) : gb127 ≠ gb128)); have NB128_127 := Aside0.mk ((by rw [hg]; exact Nat.ne_of_gt (blk_lt (zk BK127.out)) : gb128 ≠ gb127)); replace BK127 := Aside0.mk (zb BK127.out hb); clear hb hbox hg; have hnb38 := NB127_128.out; have hnc38 := NB128_127.out; have hcz39_0 : w37.cell? ⟨gb127, 0, none⟩ = some (.int .i64 0) := bc BK127 0; have hcz39_1 : w37.cell? ⟨gb127, 1, none⟩ = some (.int .i64 0) := bc BK127 1; have hfz39_0 := blk_frozen BK127.out 0; have hfz39_1 := blk_frozen BK127.out 1; have hcz40_0 : w37.cell? ⟨gb128, 0, none⟩ = some (.int .i64 0) := bc BK128 0; have hcz40_1 : w37.cell? ⟨gb128, 1, none⟩ = some (.int .i64 0) := bc BK128 1; have hfz40_0 := blk_frozen BK128.out 0; have hfz40_1 := blk_frozen BK128.out 1))
        have n0_ : Aside0 (Kd.R k101 101 ((((w37.setCell ⟨gb127, 0, none⟩ (.int .i64 0)).setCell ⟨gb127, 1, none⟩ (.int .i64 1000)).setCell ⟨gb128, 0, none⟩ (.int .i64 0)).setCell ⟨gb128, 1, none⟩ (.int .i64 299)) w.heap.size (fun _ => True) (.slice Ao3 y113.length co3) y113) := ⟨by (with_reducible repeat (first | apply Kd.R_alloc | apply Kd.R_drewN | apply Kd.R_drew)); exact Kd.R_mono (Kd.R_far (p := ⟨gb128, 1, none⟩) (Kd.R_far (p := ⟨gb128, 0, none⟩) (Kd.R_far (p := ⟨gb127, 1, none⟩) (Kd.R_far (p := ⟨gb127, 0, none⟩) (Kd.R_types (Kd.R_types HO_31.out BK127.out (by decide)) BK128.out (by decide)) (fun _ hk => hk.1.2) (.int .i64 0)) (fun _ hk => hk.1.2) (.int .i64 1000)) (fun _ hk => hk.2) (.int .i64 0)) (fun _ hk => hk.2) (.int .i64 299)) (fun _ hk => trivial)⟩
        have n1_ : Aside0 (((((w37.setCell ⟨gb127, 0, none⟩ (.int .i64 0)).setCell ⟨gb127, 1, none⟩ (.int .i64 1000)).setCell ⟨gb128, 0, none⟩ (.int .i64 0)).setCell ⟨gb128, 1, none⟩ (.int .i64 299)).heap[gb127]? = some (.cells #[.int .i64 0, .int .i64 1000] 27 (0, 0))) := ⟨by (with_reducible repeat (first | refine blk_drewN ?_ _ | refine blk_drew ?_ | refine blk_alloc ?_ _)); refine blk_far ?_ NB127_128.out _; (with_reducible repeat (first | refine blk_drewN ?_ _ | refine blk_drew ?_ | refine blk_alloc ?_ _)); refine blk_far ?_ NB127_128.out _; (with_reducible repeat (first | refine blk_drewN ?_ _ | refine blk_drew ?_ | refine blk_alloc ?_ _)); refine blk_put (cs := #[.int .i64 0, .int .i64 0]) ?_ 1 _ rfl; (with_reducible repeat (first | refine blk_drewN ?_ _ | refine blk_drew ?_ | refine blk_alloc ?_ _)); refine blk_put (cs := #[.int .i64 0, .int .i64 0]) ?_ 0 _ rfl; (with_reducible repeat (first | refine blk_drewN ?_ _ | refine blk_drew ?_ | refine blk_alloc ?_ _)); exact BK127.out⟩
        have n2_ : Aside0 (((((w37.setCell ⟨gb127, 0, none⟩ (.int .i64 0)).setCell ⟨gb127, 1, none⟩ (.int .i64 1000)).setCell ⟨gb128, 0, none⟩ (.int .i64 0)).setCell ⟨gb128, 1, none⟩ (.int .i64 299)).heap[gb128]? = some (.cells #[.int .i64 0, .int .i64 299] 27 (0, 0))) := ⟨by (with_reducible repeat (first | refine blk_drewN ?_ _ | refine blk_drew ?_ | refine blk_alloc ?_ _)); refine blk_put (cs := #[.int .i64 0, .int .i64 0]) ?_ 1 _ rfl; (with_reducible repeat (first | refine blk_drewN ?_ _ | refine blk_drew ?_ | refine blk_alloc ?_ _)); refine blk_put (cs := #[.int .i64 0, .int .i64 0]) ?_ 0 _ rfl; (with_reducible repeat (first | refine blk_drewN ?_ _ | refine blk_drew ?_ | refine blk_alloc ?_ _)); refine blk_far ?_ NB128_127.out _; (with_reducible repeat (first | refine blk_drewN ?_ _ | refine blk_drew ?_ | refine blk_alloc ?_ _)); refine blk_far ?_ NB128_127.out _; (with_reducible repeat (first | refine blk_drewN ?_ _ | refine blk_drew ?_ | refine blk_alloc ?_ _)); exact BK128.out⟩
        have n3_ : Aside0 (Below w.heap.size w ((((w37.setCell ⟨gb127, 0, none⟩ (.int .i64 0)).setCell ⟨gb127, 1, none⟩ (.int .i64 1000)).setCell ⟨gb128, 0, none⟩ (.int .i64 0)).setCell ⟨gb128, 1, none⟩ (.int .i64 299))) := ⟨blw HB.out⟩
        (try clear HO_31)
        (try clear BK127)
        (try clear BK128)
        (try clear HB)
        generalize ((((w37.setCell ⟨gb127, 0, none⟩ (.int .i64 0)).setCell ⟨gb127, 1, none⟩ (.int .i64 1000)).setCell ⟨gb128, 0, none⟩ (.int .i64 0)).setCell ⟨gb128, 1, none⟩ (.int .i64 299)) = w41 at n0_ n1_ n2_ n3_ ⊢
        have HO_31 := n0_
        have BK127 := n1_
        have BK128 := n2_
        have HB := n3_
        clear n0_ n1_ n2_ n3_
        replace HO_31 := Aside0.mk (Kd.R_drew HO_31.out)
        replace BK127 := Aside0.mk (blk_drew BK127.out)
        replace BK128 := Aside0.mk (blk_drew BK128.out)
        replace HB := Aside0.mk (below_drew1 HB.out)
        refine start_ (n := 10) (S := fun w' => w'.cell? ⟨gb127, 0, none⟩ = some (.int .i64 0) ∧ w'.cell? ⟨gb127, 1, none⟩ = some (.int .i64 1000)) (ds := []) #[N,N,N,N,N,N,N,N,N,N] (by kernel_rfl) rfl rfl ⟨bc BK127 0, bc BK127 1⟩ (fun hHeld => ?_); refine with_tabW fastilaw29_sane.tab9 fastilaw29_sane.bits9 (fun HT_ HW_ => ?_)
        generalize w41.drew = w42 at HO_31 BK127 BK128 HB hHeld ⊢
        refine take_ (i := 1) (N := some 62) (v := ?_) (a' := ?_) #[N,Y,N,N,N,N,N,N,N,N] rfl rfl (take_ofW HT_.out HW_.out (by kernel_rfl)) (fun _ _ _ h => h) (Or.inl ⟨by rfl, ?_⟩) hHeld ?_ ?_
        rotate_left
        · rintro w' ⟨s0, s1⟩
          go_simp
          with_reducible rfl
        rotate_left
        · simp only [Act.put, List.setIfInBounds_toArray, List.set_cons_zero, List.set_cons_succ, i64_w, i32_w]
          rfl
        refine one_ (i := 0) (N := some 61) #[Y,Y,N,N,N,N,N,N,N,N] rfl rfl (one_of HT_.out (by kernel_rfl)) (by decide) (fun K hK => ?_)
        refine goes_ Try.func55 (by kernel_rfl) rfl #[.int .i64 300] (by rfl) rfl rfl (by (try simp only [List.map_toArray, List.map_cons, List.map_nil]); first | done | rfl | (simp only [List.length_drop, List.length_take]; rfl)) ?_
        with_reducible refine (fastilaw29_pitch.calls 300 (⟨#[]⟩ : ByteArray) (⟨#[]⟩ : ByteArray) 0 300 0 0 1 _ A18.out).mono ?_
        rintro e w43 ⟨rfl, hb⟩
        refine ⟨_, rfl, ?_⟩
        replace HO_31 := Aside0.mk (Kd.R_below (rmv HO_31.out) hb)
        replace BK127 := Aside0.mk (zb BK127.out hb)
        replace BK128 := Aside0.mk (zb BK128.out hb)
        replace HB := Aside0.mk (below_step (blw HB.out) hb)
        (try clear hb)
        (try clear hb2)
        (try clear hk)
        (try clear hi)
        refine hK.out _ _ ⟨bc BK127 0, bc BK127 1⟩ (fun hHeld => ?_)
        clear hK K
        refine norm_ (a' := ?_) ?_ ?_
        rotate_left
        · show Act.put _ (some 61) _ = _
          simp only [Act.put, List.setIfInBounds_toArray, List.set_cons_zero, List.set_cons_succ, i64_w, i32_w]
          rfl
        refine one_ (i := 2) (N := some 63) #[Y,Y,Y,N,N,N,N,N,N,N] rfl rfl (one_of HT_.out (by kernel_rfl)) (by decide) (fun K hK => ?_)
        refine goes_ Try.func49 (by kernel_rfl) rfl #[.agg #[.string (⟨#[]⟩ : ByteArray), .string (⟨#[]⟩ : ByteArray), .int .i64 0, .int .i64 300, .int .i64 0, .int .i64 0, .int .i64 1], .agg #[.int .i64 0, .int .i64 1000]] (by rfl) rfl rfl (by (try simp only [List.map_toArray, List.map_cons, List.map_nil]); first | done | rfl | (simp only [List.length_drop, List.length_take]; rfl)) ?_
        with_reducible refine (bearing_Risk.calls (⟨#[]⟩ : ByteArray) (⟨#[]⟩ : ByteArray) 0 300 0 0 1 0 1000 300 1001 0 _ A19.out).mono ?_
        rintro e w44 ⟨rfl, hb⟩
        refine ⟨_, rfl, ?_⟩
        replace HO_31 := Aside0.mk (Kd.R_below (rmv HO_31.out) hb)
        replace BK127 := Aside0.mk (zb BK127.out hb)
        replace BK128 := Aside0.mk (zb BK128.out hb)
        replace HB := Aside0.mk (below_step (blw HB.out) hb)
        (try clear hb)
        (try clear hb2)
        (try clear hk)
        (try clear hi)
        refine hK.out _ _ ⟨bc BK127 0, bc BK127 1⟩ (fun hHeld => ?_)
        clear hK K
        refine norm_ (a' := ?_) ?_ ?_
        rotate_left
        · show Act.put _ (some 63) _ = _
          simp only [Act.put, List.setIfInBounds_toArray, List.set_cons_zero, List.set_cons_succ, i64_w, i32_w]
          rfl
        refine pureA (i := 3) (N := some 60) #[Y,Y,Y,Y,N,N,N,N,N,N] (any_of HT_.out (by kernel_rfl)) ?_
        refine pureA (i := 4) (N := some 64) #[Y,Y,Y,Y,Y,N,N,N,N,N] (any_of HT_.out (by kernel_rfl)) ?_
        refine pureA (i := 5) (N := some 65) #[Y,Y,Y,Y,Y,Y,N,N,N,N] (any_of HT_.out (by kernel_rfl)) ?_
        refine pureA (i := 6) (N := some 66) #[Y,Y,Y,Y,Y,Y,Y,N,N,N] (any_of HT_.out (by kernel_rfl)) ?_
        refine pureA (i := 7) (N := some 7) #[Y,Y,Y,Y,Y,Y,Y,Y,N,N] (any_of HT_.out (by kernel_rfl)) ?_
        refine pureA (i := 8) (N := some 8) #[Y,Y,Y,Y,Y,Y,Y,Y,Y,N] (any_of HT_.out (by kernel_rfl)) ?_
        refine pureA (i := 9) (N := some 9) #[Y,Y,Y,Y,Y,Y,Y,Y,Y,Y] (any_of HT_.out (by kernel_rfl)) ?_
        refine done_ (done_of HT_.out (by kernel_rfl)) ?_
        try go_wp2_with (first | ((with_reducible refine gate_callee (f := 55) rfl ?_); refine goesL_ (some 68) rfl rfl Try.func55 (by kernel_rfl) rfl #[.int .i64 300] rfl (by (try simp only [List.map_toArray, List.map_cons, List.map_nil]); first | done | rfl | (simp only [List.length_drop, List.length_take]; rfl)) ?_; (with_reducible refine (fastilaw29_pitch.calls 300 (⟨#[]⟩ : ByteArray) (⟨#[]⟩ : ByteArray) 0 300 0 0 1 _ A20.out).mono ?_); rintro e w45 ⟨rfl, hb⟩; refine ⟨_, rfl, ?_⟩; replace HO_31 := Aside0.mk (Kd.R_below (rmv HO_31.out) hb); replace BK127 := Aside0.mk (zb BK127.out hb); replace BK128 := Aside0.mk (zb BK128.out hb); replace HB := Aside0.mk (below_step (blw HB.out) hb); (try clear hb); (try clear hb2); (try clear hk); (try clear hi)) | ((with_reducible refine gate_callee (f := 49) rfl ?_); refine goesL_ (some 70) rfl rfl Try.func49 (by kernel_rfl) rfl #[.agg #[.string (⟨#[]⟩ : ByteArray), .string (⟨#[]⟩ : ByteArray), .int .i64 0, .int .i64 300, .int .i64 0, .int .i64 0, .int .i64 1], .agg #[.int .i64 298, .int .i64 301]] rfl (by (try simp only [List.map_toArray, List.map_cons, List.map_nil]); first | done | rfl | (simp only [List.length_drop, List.length_take]; rfl)) ?_; (with_reducible refine (bearing_Risk.calls (⟨#[]⟩ : ByteArray) (⟨#[]⟩ : ByteArray) 0 300 0 0 1 298 301 2 4 0 _ A21.out).mono ?_); rintro e w46 ⟨rfl, hb⟩; refine ⟨_, rfl, ?_⟩; replace HO_31 := Aside0.mk (Kd.R_below (rmv HO_31.out) hb); replace BK127 := Aside0.mk (zb BK127.out hb); replace BK128 := Aside0.mk (zb BK128.out hb); replace HB := Aside0.mk (below_step (blw HB.out) hb); (try clear hb); (try clear hb2); (try clear hk); (try clear hi)))
        replace HO_31 := Aside0.mk (Kd.R_drew HO_31.out)
        replace BK127 := Aside0.mk (blk_drew BK127.out)
        replace BK128 := Aside0.mk (blk_drew BK128.out)
        replace HB := Aside0.mk (below_drew1 HB.out)
        refine start_ (n := 8) (S := fun w' => w'.cell? ⟨gb127, 0, none⟩ = some (.int .i64 0) ∧ w'.cell? ⟨gb127, 1, none⟩ = some (.int .i64 1000)) (ds := []) #[N,N,N,N,N,N,N,N] (by kernel_rfl) rfl rfl ⟨bc BK127 0, bc BK127 1⟩ (fun hHeld => ?_); refine with_tabW fastilaw29_sane.tab11 fastilaw29_sane.bits11 (fun HT_ HW_ => ?_)
        generalize w46.drew = w47 at HO_31 BK127 BK128 HB hHeld ⊢
        refine take_ (i := 1) (N := some 76) (v := ?_) (a' := ?_) #[N,Y,N,N,N,N,N,N] rfl rfl (take_ofW HT_.out HW_.out (by kernel_rfl)) (fun _ _ _ h => h) (Or.inl ⟨by rfl, ?_⟩) hHeld ?_ ?_
        rotate_left
        · rintro w' ⟨s0, s1⟩
          go_simp
          with_reducible rfl
        rotate_left
        · simp only [Act.put, List.setIfInBounds_toArray, List.set_cons_zero, List.set_cons_succ, i64_w, i32_w]
          rfl
        refine one_ (i := 0) (N := some 75) #[Y,Y,N,N,N,N,N,N] rfl rfl (one_of HT_.out (by kernel_rfl)) (by decide) (fun K hK => ?_)
        refine goes_ Try.func55 (by kernel_rfl) rfl #[.int .i64 300] (by rfl) rfl rfl (by (try simp only [List.map_toArray, List.map_cons, List.map_nil]); first | done | rfl | (simp only [List.length_drop, List.length_take]; rfl)) ?_
        with_reducible refine (fastilaw29_pitch.calls 300 (⟨#[]⟩ : ByteArray) (⟨#[]⟩ : ByteArray) 0 300 0 0 1 _ A22.out).mono ?_
        rintro e w48 ⟨rfl, hb⟩
        refine ⟨_, rfl, ?_⟩
        replace HO_31 := Aside0.mk (Kd.R_below (rmv HO_31.out) hb)
        replace BK127 := Aside0.mk (zb BK127.out hb)
        replace BK128 := Aside0.mk (zb BK128.out hb)
        replace HB := Aside0.mk (below_step (blw HB.out) hb)
        (try clear hb)
        (try clear hb2)
        (try clear hk)
        (try clear hi)
        refine hK.out _ _ ⟨bc BK127 0, bc BK127 1⟩ (fun hHeld => ?_)
        clear hK K
        refine norm_ (a' := ?_) ?_ ?_
        rotate_left
        · show Act.put _ (some 75) _ = _
          simp only [Act.put, List.setIfInBounds_toArray, List.set_cons_zero, List.set_cons_succ, i64_w, i32_w]
          rfl
        refine one_ (i := 2) (N := some 77) #[Y,Y,Y,N,N,N,N,N] rfl rfl (one_of HT_.out (by kernel_rfl)) (by decide) (fun K hK => ?_)
        refine goes_ Try.func19 (by kernel_rfl) rfl #[.agg #[.string (⟨#[]⟩ : ByteArray), .string (⟨#[]⟩ : ByteArray), .int .i64 0, .int .i64 300, .int .i64 0, .int .i64 0, .int .i64 1], .agg #[.int .i64 0, .int .i64 1000], .int .i64 299, .bool true] (by rfl) rfl rfl (by (try simp only [List.map_toArray, List.map_cons, List.map_nil]); first | done | rfl | (simp only [List.length_drop, List.length_take]; rfl)) ?_
        with_reducible refine (bearing_Permit.calls k1 (⟨#[]⟩ : ByteArray) (⟨#[]⟩ : ByteArray) 0 300 0 0 1 0 1000 299 true false 0 _ A23.out).mono ?_
        rintro e w49 ⟨rfl, hb⟩
        refine ⟨_, rfl, ?_⟩
        replace HO_31 := Aside0.mk (Kd.R_below (rmv HO_31.out) hb)
        replace BK127 := Aside0.mk (zb BK127.out hb)
        replace BK128 := Aside0.mk (zb BK128.out hb)
        replace HB := Aside0.mk (below_step (blw HB.out) hb)
        (try clear hb)
        (try clear hb2)
        (try clear hk)
        (try clear hi)
        refine hK.out _ _ ⟨bc BK127 0, bc BK127 1⟩ (fun hHeld => ?_)
        clear hK K
        refine norm_ (a' := ?_) ?_ ?_
        rotate_left
        · show Act.put _ (some 77) _ = _
          simp only [Act.put, List.setIfInBounds_toArray, List.set_cons_zero, List.set_cons_succ, i64_w, i32_w]
          rfl
        refine pureA (i := 3) (N := some 74) #[Y,Y,Y,Y,N,N,N,N] (any_of HT_.out (by kernel_rfl)) ?_
        refine pureA (i := 4) (N := some 78) #[Y,Y,Y,Y,Y,N,N,N] (any_of HT_.out (by kernel_rfl)) ?_
        refine pureA (i := 5) (N := some 79) #[Y,Y,Y,Y,Y,Y,N,N] (any_of HT_.out (by kernel_rfl)) ?_
        refine pureA (i := 6) (N := some 13) #[Y,Y,Y,Y,Y,Y,Y,N] (any_of HT_.out (by kernel_rfl)) ?_
        refine pureA (i := 7) (N := some 14) #[Y,Y,Y,Y,Y,Y,Y,Y] (any_of HT_.out (by kernel_rfl)) ?_
        refine done_ (done_of HT_.out (by kernel_rfl)) ?_
        try go_wp2
        replace HO_31 := Aside0.mk (Kd.R_drew HO_31.out)
        replace BK127 := Aside0.mk (blk_drew BK127.out)
        replace BK128 := Aside0.mk (blk_drew BK128.out)
        replace HB := Aside0.mk (below_drew1 HB.out)
        refine start_ (n := 8) (S := fun w' => w'.cell? ⟨gb127, 0, none⟩ = some (.int .i64 0) ∧ w'.cell? ⟨gb127, 1, none⟩ = some (.int .i64 1000)) (ds := []) #[N,N,N,N,N,N,N,N] (by kernel_rfl) rfl rfl ⟨bc BK127 0, bc BK127 1⟩ (fun hHeld => ?_); refine with_tabW fastilaw29_sane.tab12 fastilaw29_sane.bits12 (fun HT_ HW_ => ?_)
        generalize w49.drew = w50 at HO_31 BK127 BK128 HB hHeld ⊢
        refine take_ (i := 1) (N := some 82) (v := ?_) (a' := ?_) #[N,Y,N,N,N,N,N,N] rfl rfl (take_ofW HT_.out HW_.out (by kernel_rfl)) (fun _ _ _ h => h) (Or.inl ⟨by rfl, ?_⟩) hHeld ?_ ?_
        rotate_left
        · rintro w' ⟨s0, s1⟩
          go_simp
          with_reducible rfl
        rotate_left
        · simp only [Act.put, List.setIfInBounds_toArray, List.set_cons_zero, List.set_cons_succ, i64_w, i32_w]
          rfl
        refine one_ (i := 0) (N := some 81) #[Y,Y,N,N,N,N,N,N] rfl rfl (one_of HT_.out (by kernel_rfl)) (by decide) (fun K hK => ?_)
        refine goes_ Try.func55 (by kernel_rfl) rfl #[.int .i64 300] (by rfl) rfl rfl (by (try simp only [List.map_toArray, List.map_cons, List.map_nil]); first | done | rfl | (simp only [List.length_drop, List.length_take]; rfl)) ?_
        with_reducible refine (fastilaw29_pitch.calls 300 (⟨#[]⟩ : ByteArray) (⟨#[]⟩ : ByteArray) 0 300 0 0 1 _ A24.out).mono ?_
        rintro e w51 ⟨rfl, hb⟩
        refine ⟨_, rfl, ?_⟩
        replace HO_31 := Aside0.mk (Kd.R_below (rmv HO_31.out) hb)
        replace BK127 := Aside0.mk (zb BK127.out hb)
        replace BK128 := Aside0.mk (zb BK128.out hb)
        replace HB := Aside0.mk (below_step (blw HB.out) hb)
        (try clear hb)
        (try clear hb2)
        (try clear hk)
        (try clear hi)
        refine hK.out _ _ ⟨bc BK127 0, bc BK127 1⟩ (fun hHeld => ?_)
        clear hK K
        refine norm_ (a' := ?_) ?_ ?_
        rotate_left
        · show Act.put _ (some 81) _ = _
          simp only [Act.put, List.setIfInBounds_toArray, List.set_cons_zero, List.set_cons_succ, i64_w, i32_w]
          rfl
        refine one_ (i := 2) (N := some 83) #[Y,Y,Y,N,N,N,N,N] rfl rfl (one_of HT_.out (by kernel_rfl)) (by decide) (fun K hK => ?_)
        refine goes_ Try.func19 (by kernel_rfl) rfl #[.agg #[.string (⟨#[]⟩ : ByteArray), .string (⟨#[]⟩ : ByteArray), .int .i64 0, .int .i64 300, .int .i64 0, .int .i64 0, .int .i64 1], .agg #[.int .i64 0, .int .i64 1000], .int .i64 300, .bool true] (by rfl) rfl rfl (by (try simp only [List.map_toArray, List.map_cons, List.map_nil]); first | done | rfl | (simp only [List.length_drop, List.length_take]; rfl)) ?_
        with_reducible refine (bearing_Permit.calls k1 (⟨#[]⟩ : ByteArray) (⟨#[]⟩ : ByteArray) 0 300 0 0 1 0 1000 300 true true 0 _ A25.out).mono ?_
        rintro e w52 ⟨rfl, hb⟩
        refine ⟨_, rfl, ?_⟩
        replace HO_31 := Aside0.mk (Kd.R_below (rmv HO_31.out) hb)
        replace BK127 := Aside0.mk (zb BK127.out hb)
        replace BK128 := Aside0.mk (zb BK128.out hb)
        replace HB := Aside0.mk (below_step (blw HB.out) hb)
        (try clear hb)
        (try clear hb2)
        (try clear hk)
        (try clear hi)
        refine hK.out _ _ ⟨bc BK127 0, bc BK127 1⟩ (fun hHeld => ?_)
        clear hK K
        refine norm_ (a' := ?_) ?_ ?_
        rotate_left
        · show Act.put _ (some 83) _ = _
          simp only [Act.put, List.setIfInBounds_toArray, List.set_cons_zero, List.set_cons_succ, i64_w, i32_w]
          rfl
        refine pureA (i := 3) (N := some 80) #[Y,Y,Y,Y,N,N,N,N] (any_of HT_.out (by kernel_rfl)) ?_
        refine pureA (i := 4) (N := some 84) #[Y,Y,Y,Y,Y,N,N,N] (any_of HT_.out (by kernel_rfl)) ?_
        refine pureA (i := 5) (N := some 85) #[Y,Y,Y,Y,Y,Y,N,N] (any_of HT_.out (by kernel_rfl)) ?_
        refine pureA (i := 6) (N := some 15) #[Y,Y,Y,Y,Y,Y,Y,N] (any_of HT_.out (by kernel_rfl)) ?_
        refine pureA (i := 7) (N := some 16) #[Y,Y,Y,Y,Y,Y,Y,Y] (any_of HT_.out (by kernel_rfl)) ?_
        refine done_ (done_of HT_.out (by kernel_rfl)) ?_
        try go_wp2
        replace HO_31 := Aside0.mk (Kd.R_drew HO_31.out)
        replace BK127 := Aside0.mk (blk_drew BK127.out)
        replace BK128 := Aside0.mk (blk_drew BK128.out)
        replace HB := Aside0.mk (below_drew1 HB.out)
        refine start_ (n := 8) (S := fun w' => w'.cell? ⟨gb128, 0, none⟩ = some (.int .i64 0) ∧ w'.cell? ⟨gb128, 1, none⟩ = some (.int .i64 299)) (ds := []) #[N,N,N,N,N,N,N,N] (by kernel_rfl) rfl rfl ⟨bc BK128 0, bc BK128 1⟩ (fun hHeld => ?_); refine with_tabW fastilaw29_sane.tab13 fastilaw29_sane.bits13 (fun HT_ HW_ => ?_)
        generalize w52.drew = w53 at HO_31 BK127 BK128 HB hHeld ⊢
        refine take_ (i := 1) (N := some 88) (v := ?_) (a' := ?_) #[N,Y,N,N,N,N,N,N] rfl rfl (take_ofW HT_.out HW_.out (by kernel_rfl)) (fun _ _ _ h => h) (Or.inl ⟨by rfl, ?_⟩) hHeld ?_ ?_
        rotate_left
        · rintro w' ⟨s0, s1⟩
          go_simp
          with_reducible rfl
        rotate_left
        · simp only [Act.put, List.setIfInBounds_toArray, List.set_cons_zero, List.set_cons_succ, i64_w, i32_w]
          rfl
        refine one_ (i := 0) (N := some 87) #[Y,Y,N,N,N,N,N,N] rfl rfl (one_of HT_.out (by kernel_rfl)) (by decide) (fun K hK => ?_)
        refine goes_ Try.func55 (by kernel_rfl) rfl #[.int .i64 300] (by rfl) rfl rfl (by (try simp only [List.map_toArray, List.map_cons, List.map_nil]); first | done | rfl | (simp only [List.length_drop, List.length_take]; rfl)) ?_
        with_reducible refine (fastilaw29_pitch.calls 300 (⟨#[]⟩ : ByteArray) (⟨#[]⟩ : ByteArray) 0 300 0 0 1 _ A26.out).mono ?_
        rintro e w54 ⟨rfl, hb⟩
        refine ⟨_, rfl, ?_⟩
        replace HO_31 := Aside0.mk (Kd.R_below (rmv HO_31.out) hb)
        replace BK127 := Aside0.mk (zb BK127.out hb)
        replace BK128 := Aside0.mk (zb BK128.out hb)
        replace HB := Aside0.mk (below_step (blw HB.out) hb)
        (try clear hb)
        (try clear hb2)
        (try clear hk)
        (try clear hi)
        refine hK.out _ _ ⟨bc BK128 0, bc BK128 1⟩ (fun hHeld => ?_)
        clear hK K
        refine norm_ (a' := ?_) ?_ ?_
        rotate_left
        · show Act.put _ (some 87) _ = _
          simp only [Act.put, List.setIfInBounds_toArray, List.set_cons_zero, List.set_cons_succ, i64_w, i32_w]
          rfl
        refine one_ (i := 2) (N := some 89) #[Y,Y,Y,N,N,N,N,N] rfl rfl (one_of HT_.out (by kernel_rfl)) (by decide) (fun K hK => ?_)
        refine goes_ Try.func19 (by kernel_rfl) rfl #[.agg #[.string (⟨#[]⟩ : ByteArray), .string (⟨#[]⟩ : ByteArray), .int .i64 0, .int .i64 300, .int .i64 0, .int .i64 0, .int .i64 1], .agg #[.int .i64 0, .int .i64 299], .int .i64 1000, .bool true] (by rfl) rfl rfl (by (try simp only [List.map_toArray, List.map_cons, List.map_nil]); first | done | rfl | (simp only [List.length_drop, List.length_take]; rfl)) ?_
        with_reducible refine (bearing_Permit.calls k1 (⟨#[]⟩ : ByteArray) (⟨#[]⟩ : ByteArray) 0 300 0 0 1 0 299 1000 true false 0 _ A27.out).mono ?_
        rintro e w55 ⟨rfl, hb⟩
        refine ⟨_, rfl, ?_⟩
        replace HO_31 := Aside0.mk (Kd.R_below (rmv HO_31.out) hb)
        replace BK127 := Aside0.mk (zb BK127.out hb)
        replace BK128 := Aside0.mk (zb BK128.out hb)
        replace HB := Aside0.mk (below_step (blw HB.out) hb)
        (try clear hb)
        (try clear hb2)
        (try clear hk)
        (try clear hi)
        refine hK.out _ _ ⟨bc BK128 0, bc BK128 1⟩ (fun hHeld => ?_)
        clear hK K
        refine norm_ (a' := ?_) ?_ ?_
        rotate_left
        · show Act.put _ (some 89) _ = _
          simp only [Act.put, List.setIfInBounds_toArray, List.set_cons_zero, List.set_cons_succ, i64_w, i32_w]
          rfl
        refine pureA (i := 3) (N := some 86) #[Y,Y,Y,Y,N,N,N,N] (any_of HT_.out (by kernel_rfl)) ?_
        refine pureA (i := 4) (N := some 90) #[Y,Y,Y,Y,Y,N,N,N] (any_of HT_.out (by kernel_rfl)) ?_
        refine pureA (i := 5) (N := some 91) #[Y,Y,Y,Y,Y,Y,N,N] (any_of HT_.out (by kernel_rfl)) ?_
        refine pureA (i := 6) (N := some 17) #[Y,Y,Y,Y,Y,Y,Y,N] (any_of HT_.out (by kernel_rfl)) ?_
        refine pureA (i := 7) (N := some 18) #[Y,Y,Y,Y,Y,Y,Y,Y] (any_of HT_.out (by kernel_rfl)) ?_
        refine done_ (done_of HT_.out (by kernel_rfl)) ?_
        try go_wp2_with (first | ((with_reducible refine gate_callee (f := 55) rfl ?_); refine goesL_ (some 93) rfl rfl Try.func55 (by kernel_rfl) rfl #[.int .i64 300] rfl (by (try simp only [List.map_toArray, List.map_cons, List.map_nil]); first | done | rfl | (simp only [List.length_drop, List.length_take]; rfl)) ?_; (with_reducible refine (fastilaw29_pitch.calls 300 (⟨#[]⟩ : ByteArray) (⟨#[]⟩ : ByteArray) 0 300 0 0 1 _ A28.out).mono ?_); rintro e w56 ⟨rfl, hb⟩; refine ⟨_, rfl, ?_⟩; replace HO_31 := Aside0.mk (Kd.R_below (rmv HO_31.out) hb); replace BK127 := Aside0.mk (zb BK127.out hb); replace BK128 := Aside0.mk (zb BK128.out hb); replace HB := Aside0.mk (below_step (blw HB.out) hb); (try clear hb); (try clear hb2); (try clear hk); (try clear hi)) | ((with_reducible refine gate_callee (f := 19) rfl ?_); refine goesL_ (some 95) rfl rfl Try.func19 (by kernel_rfl) rfl #[.agg #[.string (⟨#[]⟩ : ByteArray), .string (⟨#[]⟩ : ByteArray), .int .i64 0, .int .i64 300, .int .i64 0, .int .i64 0, .int .i64 1], .agg #[.int .i64 298, .int .i64 301], .int .i64 500, .bool true] rfl (by (try simp only [List.map_toArray, List.map_cons, List.map_nil]); first | done | rfl | (simp only [List.length_drop, List.length_take]; rfl)) ?_; (with_reducible refine (bearing_Permit.calls k1 (⟨#[]⟩ : ByteArray) (⟨#[]⟩ : ByteArray) 0 300 0 0 1 298 301 500 true true 0 _ A29.out).mono ?_); rintro e w57 ⟨rfl, hb⟩; refine ⟨_, rfl, ?_⟩; replace HO_31 := Aside0.mk (Kd.R_below (rmv HO_31.out) hb); replace BK127 := Aside0.mk (zb BK127.out hb); replace BK128 := Aside0.mk (zb BK128.out hb); replace HB := Aside0.mk (below_step (blw HB.out) hb); (try clear hb); (try clear hb2); (try clear hk); (try clear hi)))
        replace HO_31 := Aside0.mk (Kd.R_drew HO_31.out)
        replace BK127 := Aside0.mk (blk_drew BK127.out)
        replace BK128 := Aside0.mk (blk_drew BK128.out)
        replace HB := Aside0.mk (below_drew1 HB.out)
        refine start_ (n := 8) (S := fun w' => w'.cell? ⟨gb127, 0, none⟩ = some (.int .i64 0) ∧ w'.cell? ⟨gb127, 1, none⟩ = some (.int .i64 1000)) (ds := []) #[N,N,N,N,N,N,N,N] (by kernel_rfl) rfl rfl ⟨bc BK127 0, bc BK127 1⟩ (fun hHeld => ?_); refine with_tabW fastilaw29_sane.tab15 fastilaw29_sane.bits15 (fun HT_ HW_ => ?_)
        generalize w57.drew = w58 at HO_31 BK127 BK128 HB hHeld ⊢
        refine take_ (i := 1) (N := some 100) (v := ?_) (a' := ?_) #[N,Y,N,N,N,N,N,N] rfl rfl (take_ofW HT_.out HW_.out (by kernel_rfl)) (fun _ _ _ h => h) (Or.inl ⟨by rfl, ?_⟩) hHeld ?_ ?_
        rotate_left
        · rintro w' ⟨s0, s1⟩
          go_simp
          with_reducible rfl
        rotate_left
        · simp only [Act.put, List.setIfInBounds_toArray, List.set_cons_zero, List.set_cons_succ, i64_w, i32_w]
          rfl
        refine one_ (i := 0) (N := some 99) #[Y,Y,N,N,N,N,N,N] rfl rfl (one_of HT_.out (by kernel_rfl)) (by decide) (fun K hK => ?_)
        refine goes_ Try.func55 (by kernel_rfl) rfl #[.int .i64 300] (by rfl) rfl rfl (by (try simp only [List.map_toArray, List.map_cons, List.map_nil]); first | done | rfl | (simp only [List.length_drop, List.length_take]; rfl)) ?_
        with_reducible refine (fastilaw29_pitch.calls 300 (⟨#[]⟩ : ByteArray) (⟨#[]⟩ : ByteArray) 0 300 0 0 1 _ A30.out).mono ?_
        rintro e w59 ⟨rfl, hb⟩
        refine ⟨_, rfl, ?_⟩
        replace HO_31 := Aside0.mk (Kd.R_below (rmv HO_31.out) hb)
        replace BK127 := Aside0.mk (zb BK127.out hb)
        replace BK128 := Aside0.mk (zb BK128.out hb)
        replace HB := Aside0.mk (below_step (blw HB.out) hb)
        (try clear hb)
        (try clear hb2)
        (try clear hk)
        (try clear hi)
        refine hK.out _ _ ⟨bc BK127 0, bc BK127 1⟩ (fun hHeld => ?_)
        clear hK K
        refine norm_ (a' := ?_) ?_ ?_
        rotate_left
        · show Act.put _ (some 99) _ = _
          simp only [Act.put, List.setIfInBounds_toArray, List.set_cons_zero, List.set_cons_succ, i64_w, i32_w]
          rfl
        refine one_ (i := 2) (N := some 101) #[Y,Y,Y,N,N,N,N,N] rfl rfl (one_of HT_.out (by kernel_rfl)) (by decide) (fun K hK => ?_)
        refine goes_ Try.func19 (by kernel_rfl) rfl #[.agg #[.string (⟨#[]⟩ : ByteArray), .string (⟨#[]⟩ : ByteArray), .int .i64 0, .int .i64 300, .int .i64 0, .int .i64 0, .int .i64 1], .agg #[.int .i64 0, .int .i64 1000], .int .i64 1001, .bool true] (by rfl) rfl rfl (by (try simp only [List.map_toArray, List.map_cons, List.map_nil]); first | done | rfl | (simp only [List.length_drop, List.length_take]; rfl)) ?_
        with_reducible refine (bearing_Permit.calls k1 (⟨#[]⟩ : ByteArray) (⟨#[]⟩ : ByteArray) 0 300 0 0 1 0 1000 1001 true false 290 _ A31.out).mono ?_
        rintro e w60 ⟨rfl, hb⟩
        refine ⟨_, rfl, ?_⟩
        replace HO_31 := Aside0.mk (Kd.R_below (rmv HO_31.out) hb)
        replace BK127 := Aside0.mk (zb BK127.out hb)
        replace BK128 := Aside0.mk (zb BK128.out hb)
        replace HB := Aside0.mk (below_step (blw HB.out) hb)
        (try clear hb)
        (try clear hb2)
        (try clear hk)
        (try clear hi)
        refine hK.out _ _ ⟨bc BK127 0, bc BK127 1⟩ (fun hHeld => ?_)
        clear hK K
        refine norm_ (a' := ?_) ?_ ?_
        rotate_left
        · show Act.put _ (some 101) _ = _
          simp only [Act.put, List.setIfInBounds_toArray, List.set_cons_zero, List.set_cons_succ, i64_w, i32_w]
          rfl
        refine pureA (i := 3) (N := some 98) #[Y,Y,Y,Y,N,N,N,N] (any_of HT_.out (by kernel_rfl)) ?_
        refine pureA (i := 4) (N := some 102) #[Y,Y,Y,Y,Y,N,N,N] (any_of HT_.out (by kernel_rfl)) ?_
        refine pureA (i := 5) (N := some 103) #[Y,Y,Y,Y,Y,Y,N,N] (any_of HT_.out (by kernel_rfl)) ?_
        refine pureA (i := 6) (N := some 21) #[Y,Y,Y,Y,Y,Y,Y,N] (any_of HT_.out (by kernel_rfl)) ?_
        refine pureA (i := 7) (N := some 22) #[Y,Y,Y,Y,Y,Y,Y,Y] (any_of HT_.out (by kernel_rfl)) ?_
        refine done_ (done_of HT_.out (by kernel_rfl)) ?_
        try go_wp2
        replace HO_31 := Aside0.mk (Kd.R_drew HO_31.out)
        replace BK127 := Aside0.mk (blk_drew BK127.out)
        replace BK128 := Aside0.mk (blk_drew BK128.out)
        replace HB := Aside0.mk (below_drew1 HB.out)
        refine start_ (n := 8) (S := fun w' => w'.cell? ⟨gb127, 0, none⟩ = some (.int .i64 0) ∧ w'.cell? ⟨gb127, 1, none⟩ = some (.int .i64 1000)) (ds := []) #[N,N,N,N,N,N,N,N] (by kernel_rfl) rfl rfl ⟨bc BK127 0, bc BK127 1⟩ (fun hHeld => ?_); refine with_tabW fastilaw29_sane.tab16 fastilaw29_sane.bits16 (fun HT_ HW_ => ?_)
        generalize w60.drew = w61 at HO_31 BK127 BK128 HB hHeld ⊢
        refine take_ (i := 1) (N := some 106) (v := ?_) (a' := ?_) #[N,Y,N,N,N,N,N,N] rfl rfl (take_ofW HT_.out HW_.out (by kernel_rfl)) (fun _ _ _ h => h) (Or.inl ⟨by rfl, ?_⟩) hHeld ?_ ?_
        rotate_left
        · rintro w' ⟨s0, s1⟩
          go_simp
          with_reducible rfl
        rotate_left
        · simp only [Act.put, List.setIfInBounds_toArray, List.set_cons_zero, List.set_cons_succ, i64_w, i32_w]
          rfl
        refine one_ (i := 0) (N := some 105) #[Y,Y,N,N,N,N,N,N] rfl rfl (one_of HT_.out (by kernel_rfl)) (by decide) (fun K hK => ?_)
        refine goes_ Try.func55 (by kernel_rfl) rfl #[.int .i64 1001] (by rfl) rfl rfl (by (try simp only [List.map_toArray, List.map_cons, List.map_nil]); first | done | rfl | (simp only [List.length_drop, List.length_take]; rfl)) ?_
        with_reducible refine (fastilaw29_pitch.calls 1001 (⟨#[]⟩ : ByteArray) (⟨#[]⟩ : ByteArray) 0 1001 0 0 1 _ A32.out).mono ?_
        rintro e w62 ⟨rfl, hb⟩
        refine ⟨_, rfl, ?_⟩
        replace HO_31 := Aside0.mk (Kd.R_below (rmv HO_31.out) hb)
        replace BK127 := Aside0.mk (zb BK127.out hb)
        replace BK128 := Aside0.mk (zb BK128.out hb)
        replace HB := Aside0.mk (below_step (blw HB.out) hb)
        (try clear hb)
        (try clear hb2)
        (try clear hk)
        (try clear hi)
        refine hK.out _ _ ⟨bc BK127 0, bc BK127 1⟩ (fun hHeld => ?_)
        clear hK K
        refine norm_ (a' := ?_) ?_ ?_
        rotate_left
        · show Act.put _ (some 105) _ = _
          simp only [Act.put, List.setIfInBounds_toArray, List.set_cons_zero, List.set_cons_succ, i64_w, i32_w]
          rfl
        refine one_ (i := 2) (N := some 107) #[Y,Y,Y,N,N,N,N,N] rfl rfl (one_of HT_.out (by kernel_rfl)) (by decide) (fun K hK => ?_)
        refine goes_ Try.func20 (by kernel_rfl) rfl #[.agg #[.string (⟨#[]⟩ : ByteArray), .string (⟨#[]⟩ : ByteArray), .int .i64 0, .int .i64 1001, .int .i64 0, .int .i64 0, .int .i64 1], .agg #[.int .i64 0, .int .i64 1000]] (by rfl) rfl rfl (by (try simp only [List.map_toArray, List.map_cons, List.map_nil]); first | done | rfl | (simp only [List.length_drop, List.length_take]; rfl)) ?_
        with_reducible refine (bearing_Bears.calls (⟨#[]⟩ : ByteArray) (⟨#[]⟩ : ByteArray) 0 1001 0 0 1 0 1000 0 290 _ A33.out).mono ?_
        rintro e w63 ⟨rfl, hb⟩
        refine ⟨_, rfl, ?_⟩
        replace HO_31 := Aside0.mk (Kd.R_below (rmv HO_31.out) hb)
        replace BK127 := Aside0.mk (zb BK127.out hb)
        replace BK128 := Aside0.mk (zb BK128.out hb)
        replace HB := Aside0.mk (below_step (blw HB.out) hb)
        (try clear hb)
        (try clear hb2)
        (try clear hk)
        (try clear hi)
        refine hK.out _ _ ⟨bc BK127 0, bc BK127 1⟩ (fun hHeld => ?_)
        clear hK K
        refine norm_ (a' := ?_) ?_ ?_
        rotate_left
        · show Act.put _ (some 107) _ = _
          simp only [Act.put, List.setIfInBounds_toArray, List.set_cons_zero, List.set_cons_succ, i64_w, i32_w]
          rfl
        refine pureA (i := 3) (N := some 104) #[Y,Y,Y,Y,N,N,N,N] (any_of HT_.out (by kernel_rfl)) ?_
        refine pureA (i := 4) (N := some 108) #[Y,Y,Y,Y,Y,N,N,N] (any_of HT_.out (by kernel_rfl)) ?_
        refine pureA (i := 5) (N := some 109) #[Y,Y,Y,Y,Y,Y,N,N] (any_of HT_.out (by kernel_rfl)) ?_
        refine pureA (i := 6) (N := some 23) #[Y,Y,Y,Y,Y,Y,Y,N] (any_of HT_.out (by kernel_rfl)) ?_
        refine pureA (i := 7) (N := some 24) #[Y,Y,Y,Y,Y,Y,Y,Y] (any_of HT_.out (by kernel_rfl)) ?_
        refine done_ (done_of HT_.out (by kernel_rfl)) ?_
        try go_wp2_with (first | ((with_reducible refine gate_callee (f := 55) rfl ?_); refine goesL_ (some 111) rfl rfl Try.func55 (by kernel_rfl) rfl #[.int .i64 0] rfl (by (try simp only [List.map_toArray, List.map_cons, List.map_nil]); first | done | rfl | (simp only [List.length_drop, List.length_take]; rfl)) ?_; (with_reducible refine (fastilaw29_pitch.calls 0 (⟨#[]⟩ : ByteArray) (⟨#[]⟩ : ByteArray) 0 0 0 0 1 _ A34.out).mono ?_); rintro e w64 ⟨rfl, hb⟩; refine ⟨_, rfl, ?_⟩; replace HO_31 := Aside0.mk (Kd.R_below (rmv HO_31.out) hb); replace BK127 := Aside0.mk (zb BK127.out hb); replace BK128 := Aside0.mk (zb BK128.out hb); replace HB := Aside0.mk (below_step (blw HB.out) hb); (try clear hb); (try clear hb2); (try clear hk); (try clear hi)) | ((with_reducible refine gate_callee (f := 20) rfl ?_); refine goesL_ (some 113) rfl rfl Try.func20 (by kernel_rfl) rfl #[.agg #[.string (⟨#[]⟩ : ByteArray), .string (⟨#[]⟩ : ByteArray), .int .i64 0, .int .i64 0, .int .i64 0, .int .i64 0, .int .i64 1], .agg #[.int .i64 1, .int .i64 0]] rfl (by (try simp only [List.map_toArray, List.map_cons, List.map_nil]); first | done | rfl | (simp only [List.length_drop, List.length_take]; rfl)) ?_; (with_reducible refine (bearing_Bears.calls (⟨#[]⟩ : ByteArray) (⟨#[]⟩ : ByteArray) 0 0 0 0 1 1 0 0 290 _ A35.out).mono ?_); rintro e w65 ⟨rfl, hb⟩; refine ⟨_, rfl, ?_⟩; replace HO_31 := Aside0.mk (Kd.R_below (rmv HO_31.out) hb); replace BK127 := Aside0.mk (zb BK127.out hb); replace BK128 := Aside0.mk (zb BK128.out hb); replace HB := Aside0.mk (below_step (blw HB.out) hb); (try clear hb); (try clear hb2); (try clear hk); (try clear hi)))
        go_ret
        exact ⟨by first | rfl | (simp [errW_none, errW_some] <;> rfl) | (simp [*, errW_none, errW_some] <;> rfl), blw HB.out⟩

end Go.Proofs.Ythfhjcbgccnijaa.Q
