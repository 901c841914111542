/- Functions of the translation as plain Lean functions, and proofs that the calls do what these say; written by a program of this session round the kit's print. -/
import Derived.Test.YtenjkflckkmahaaQ0
import Derived.Test.YtenjkflckkmahaaQ1
import Derived.Test.YtenjkflckkmahaaBear
namespace Go.Proofs.Ytenjkflckkmahaa.Q
open Go.RowKit Go.Proofs.YtenjkflckkmahaaW.PrintWords Go.Proofs.YtenjkflckkmahaaW.PrintLast Go.Proofs.YtenjkflckkmahaaW.PrintMore
attribute [local go_sem] max2_int min2_int max_two min_two max_three min_three max_four min_four   -- for this text's walks alone
set_option linter.unusedVariables false
set_option linter.unusedSimpArgs false

/-! ### fastilaw29_sane: function 15 -/
def fastilaw29_sane.l0 : Nat → List (S76) → Int → Int → Option (Bool)
 | 0, _, _, _ => none
 | k + 1, x31, x32, x33 => if x33 < x32 then (if 0 ≤ x33 then (if x33 < (x31.length : Int) then ((fastilaw29_pitch.f ((rd_T76 x31 x33).f0)).bind fun bt114 => ((bearing_Bears.f bt114.1 bt114.2.1 bt114.2.2.1 bt114.2.2.2.1 bt114.2.2.2.2.1 bt114.2.2.2.2.2.1 bt114.2.2.2.2.2.2 ((rd_T76 x31 x33).f1) ((rd_T76 x31 x33).f2)).bind fun bt121 => (if bt121.1 = ((rd_T76 x31 x33).f3) then (if bt121.2 = 0 then (fastilaw29_sane.l0 k x31 x32 (wrap64 (x33 + 1))) else (some false)) else (some false)))) else (none)) else (none)) else ((fastilaw29_pitch.f 300).bind fun bt125 => ((bearing_Risk.f (⟨#[]⟩ : ByteArray) (⟨#[]⟩ : ByteArray) 0 300 0 0 1 0 1000).bind fun bt132 => ((fastilaw29_pitch.f 300).bind fun bt135 => ((bearing_Risk.f (⟨#[]⟩ : ByteArray) (⟨#[]⟩ : ByteArray) 0 300 0 0 1 298 301).bind fun bt142 => ((fastilaw29_pitch.f 300).bind fun bt145 => ((bearing_Permit.f k (⟨#[]⟩ : ByteArray) (⟨#[]⟩ : ByteArray) 0 300 0 0 1 0 1000 299 true).bind fun bt152 => ((fastilaw29_pitch.f 300).bind fun bt154 => ((bearing_Permit.f k (⟨#[]⟩ : ByteArray) (⟨#[]⟩ : ByteArray) 0 300 0 0 1 0 1000 300 true).bind fun bt161 => ((fastilaw29_pitch.f 300).bind fun bt163 => ((bearing_Permit.f k (⟨#[]⟩ : ByteArray) (⟨#[]⟩ : ByteArray) 0 300 0 0 1 0 299 1000 true).bind fun bt170 => ((fastilaw29_pitch.f 300).bind fun bt172 => ((bearing_Permit.f k (⟨#[]⟩ : ByteArray) (⟨#[]⟩ : ByteArray) 0 300 0 0 1 298 301 500 true).bind fun bt179 => ((fastilaw29_pitch.f 300).bind fun bt181 => ((bearing_Permit.f k (⟨#[]⟩ : ByteArray) (⟨#[]⟩ : ByteArray) 0 300 0 0 1 0 1000 1001 true).bind fun bt188 => ((fastilaw29_pitch.f 1001).bind fun bt190 => ((bearing_Bears.f (⟨#[]⟩ : ByteArray) (⟨#[]⟩ : ByteArray) 0 1001 0 0 1 0 1000).bind fun bt197 => ((fastilaw29_pitch.f 0).bind fun bt199 => ((bearing_Bears.f (⟨#[]⟩ : ByteArray) (⟨#[]⟩ : ByteArray) 0 0 0 0 1 1 0).bind fun bt206 => (some true)))))))))))))))))))
def fastilaw29_sane.f (k : Nat)  : Option (Bool) := (some (([(⟨300, 300, 700, 2⟩ : S76), (⟨300, 0, 299, 0⟩ : S76), (⟨0, 0, 0, 2⟩ : S76), (⟨300, 298, 301, 1⟩ : S76)] : List (S76)) : List (S76))).bind fun y109 => (fastilaw29_sane.l0 k y109 (y109.length : Int) 0)
theorem fastilaw29_sane.mono_l : ∀ k, (∀ y0 y1 y2, LeO (fastilaw29_sane.l0 k y0 y1 y2) (fastilaw29_sane.l0 (k + 1) y0 y1 y2))
 | 0 => fun _ _ _ r h => by simp [fastilaw29_sane.l0] at h
 | k + 1 => by
  have ih0 := fastilaw29_sane.mono_l k
  ·intro y0 y1 y2
   unfold fastilaw29_sane.l0
   repeat' first
   | (with_reducible exact ih0 _ _ _)
   | (with_reducible exact bearing_Permit.mono _ _ _ _ _ _ _ _ _ _ _ _)
   | (with_reducible exact LeO.refl _)
   | (with_reducible exact LeO.none _)
   | (with_reducible refine LeO.ite ?_ ?_)
   | (with_reducible refine LeO.bind ?_ (fun _ => ?_))
   | exact ih0 _ _ _
   | exact bearing_Permit.mono _ _ _ _ _ _ _ _ _ _ _ _
   | exact LeO.none _
   | refine LeO.ite ?_ ?_
   | refine LeO.bind ?_ (fun _ => ?_)
theorem fastilaw29_sane.mono : ∀ k, LeO (fastilaw29_sane.f k ) (fastilaw29_sane.f (k + 1) ) := by
 intro  k
 have ih0 := fastilaw29_sane.mono_l k
 unfold fastilaw29_sane.f
 repeat' first
   | (with_reducible exact ih0 _ _ _)
   | (with_reducible exact bearing_Permit.mono _ _ _ _ _ _ _ _ _ _ _ _)
   | (with_reducible exact LeO.refl _)
   | (with_reducible exact LeO.none _)
   | (with_reducible refine LeO.ite ?_ ?_)
   | (with_reducible refine LeO.bind ?_ (fun _ => ?_))
   | exact ih0 _ _ _
   | exact bearing_Permit.mono _ _ _ _ _ _ _ _ _ _ _ _
   | exact LeO.none _
   | refine LeO.ite ?_ ?_
   | refine LeO.bind ?_ (fun _ => ?_)
def fastilaw29_sane.T4 : Bool × List (List Nat × List Nat) := (true, [([], []), ([0], [0]), ([1], [1]), ([], []), ([3], [3]), ([], []), ([5], [5]), ([4, 6], [4, 6]), ([2, 7, 2], [2, 7]), ([8], [8]), ([9], [9]), ([9], [9]), ([10, 8, 0, 1, 2, 3, 4, 5, 6, 7, 8, 9, 10], [10]), ([11, 12, 0, 1, 2, 3, 4, 5, 6, 7, 8, 9, 10, 11, 12], [11])])
def fastilaw29_sane.B4 : List Nat := [0, 1, 3, 0, 8, 0, 32, 120, 255, 511, 1023, 1023, 2047, 8191]
theorem fastilaw29_sane.tab4 : rtab .any (opsOf Try.f15 4) = fastilaw29_sane.T4 := by kernel_rfl
theorem fastilaw29_sane.bits4 : waitsOk fastilaw29_sane.T4.2 fastilaw29_sane.B4 = true := by kernel_rfl
def fastilaw29_sane.T9 : Bool × List (List Nat × List Nat) := (true, [([], []), ([], []), ([0, 1, 0], [0, 1]), ([2], [2]), ([3], [3]), ([3], [3]), ([3], [3]), ([4, 2, 0, 1, 2, 3, 4], [4]), ([5, 7, 0, 1, 2, 3, 4, 5, 7], [5]), ([6, 8, 0, 1, 2, 3, 4, 5, 6, 7, 8], [6])])
def fastilaw29_sane.B9 : List Nat := [0, 0, 3, 7, 15, 15, 15, 31, 191, 511]
theorem fastilaw29_sane.tab9 : rtab .any (opsOf Try.f15 9) = fastilaw29_sane.T9 := by kernel_rfl
theorem fastilaw29_sane.bits9 : waitsOk fastilaw29_sane.T9.2 fastilaw29_sane.B9 = true := by kernel_rfl
def fastilaw29_sane.T11 : Bool × List (List Nat × List Nat) := (true, [([], []), ([], []), ([0, 1, 0], [0, 1]), ([2], [2]), ([3], [3]), ([3], [3]), ([4, 2, 0, 1, 2, 3, 4], [4]), ([5, 6, 0, 1, 2, 3, 4, 5, 6], [5])])
def fastilaw29_sane.B11 : List Nat := [0, 0, 3, 7, 15, 15, 31, 127]
theorem fastilaw29_sane.tab11 : rtab .any (opsOf Try.f15 11) = fastilaw29_sane.T11 := by kernel_rfl
theorem fastilaw29_sane.bits11 : waitsOk fastilaw29_sane.T11.2 fastilaw29_sane.B11 = true := by kernel_rfl
def fastilaw29_sane.T12 : Bool × List (List Nat × List Nat) := (true, [([], []), ([], []), ([0, 1, 0], [0, 1]), ([2], [2]), ([3], [3]), ([3], [3]), ([4, 2, 0, 1, 2, 3, 4], [4]), ([5, 6, 0, 1, 2, 3, 4, 5, 6], [5])])
def fastilaw29_sane.B12 : List Nat := [0, 0, 3, 7, 15, 15, 31, 127]
theorem fastilaw29_sane.tab12 : rtab .any (opsOf Try.f15 12) = fastilaw29_sane.T12 := by kernel_rfl
theorem fastilaw29_sane.bits12 : waitsOk fastilaw29_sane.T12.2 fastilaw29_sane.B12 = true := by kernel_rfl
def fastilaw29_sane.T13 : Bool × List (List Nat × List Nat) := (true, [([], []), ([], []), ([0, 1, 0], [0, 1]), ([2], [2]), ([3], [3]), ([3], [3]), ([4, 2, 0, 1, 2, 3, 4], [4]), ([5, 6, 0, 1, 2, 3, 4, 5, 6], [5])])
def fastilaw29_sane.B13 : List Nat := [0, 0, 3, 7, 15, 15, 31, 127]
theorem fastilaw29_sane.tab13 : rtab .any (opsOf Try.f15 13) = fastilaw29_sane.T13 := by kernel_rfl
theorem fastilaw29_sane.bits13 : waitsOk fastilaw29_sane.T13.2 fastilaw29_sane.B13 = true := by kernel_rfl
def fastilaw29_sane.T15 : Bool × List (List Nat × List Nat) := (true, [([], []), ([], []), ([0, 1, 0], [0, 1]), ([2], [2]), ([3], [3]), ([3], [3]), ([4, 2, 0, 1, 2, 3, 4], [4]), ([5, 6, 0, 1, 2, 3, 4, 5, 6], [5])])
def fastilaw29_sane.B15 : List Nat := [0, 0, 3, 7, 15, 15, 31, 127]
theorem fastilaw29_sane.tab15 : rtab .any (opsOf Try.f15 15) = fastilaw29_sane.T15 := by kernel_rfl
theorem fastilaw29_sane.bits15 : waitsOk fastilaw29_sane.T15.2 fastilaw29_sane.B15 = true := by kernel_rfl
def fastilaw29_sane.T16 : Bool × List (List Nat × List Nat) := (true, [([], []), ([], []), ([0, 1, 0], [0, 1]), ([2], [2]), ([3], [3]), ([3], [3]), ([4, 2, 0, 1, 2, 3, 4], [4]), ([5, 6, 0, 1, 2, 3, 4, 5, 6], [5])])
def fastilaw29_sane.B16 : List Nat := [0, 0, 3, 7, 15, 15, 31, 127]
theorem fastilaw29_sane.tab16 : rtab .any (opsOf Try.f15 16) = fastilaw29_sane.T16 := by kernel_rfl
theorem fastilaw29_sane.bits16 : waitsOk fastilaw29_sane.T16.2 fastilaw29_sane.B16 = true := by kernel_rfl
set_option maxHeartbeats 8000000 in
set_option maxRecDepth 100000 in
theorem fastilaw29_sane.calls (k : Nat)  (r : Bool) (w : World) (h : fastilaw29_sane.f k  = some r) :
  Calls Try.prog 15 #[] w fun e w' => e = .returned (.bool r) ∧ Below w.heap.size w w' := by
 have hu76 := Try.underlying76
 have hu27 := Try.underlying27
 have HB := Aside0.mk (Below.refl w.heap.size w)
 have H : ((some (([(⟨300, 300, 700, 2⟩ : S76), (⟨300, 0, 299, 0⟩ : S76), (⟨0, 0, 0, 2⟩ : S76), (⟨300, 298, 301, 1⟩ : S76)] : List (S76)) : List (S76))).bind fun y109 => (fastilaw29_sane.l0 k y109 (y109.length : Int) 0)) = some r := h
 clear h
 obtain ⟨y109, hy109⟩ : ∃ y_ : List (S76), y_ = (([(⟨300, 300, 700, 2⟩ : S76), (⟨300, 0, 299, 0⟩ : S76), (⟨0, 0, 0, 2⟩ : S76), (⟨300, 298, 301, 1⟩ : S76)] : List (S76))) := ⟨_, rfl⟩
 replace H : (fastilaw29_sane.l0 k y109 (y109.length : Int) 0) = some r := by first | (rw [hy109]; with_reducible exact H) | (have H2_ := (Option.bind_some _ _).symm.trans H; rw [hy109]; with_reducible exact H2_) | (have H2_ := (Option.bind_some _ _).symm.trans H; with_reducible exact H2_) | with_reducible exact H | (rw [hy109]; exact H) | exact H
 have Ny109 := Aside0.mk hy109
 clear hy109
 have H' := Aside0.mk H
 clear H
 go_enter Try.func15, Try.ntmps15
 go_wp2_with (first | ((with_reducible refine gate_dst (N := 31) rfl ?_); refine Kd.R_lit k76 _ 76 ?hg (N := 31) ?hd (xs := ([(⟨300, 300, 700, 2⟩ : S76), (⟨300, 0, 299, 0⟩ : S76), (⟨0, 0, 0, 2⟩ : S76), (⟨300, 298, 301, 1⟩ : S76)] : List (S76))) (inner := [.int .i64 300, .int .i64 300, .int .i64 700, .int .i64 2, .int .i64 300, .int .i64 0, .int .i64 299, .int .i64 0, .int .i64 0, .int .i64 0, .int .i64 0, .int .i64 2, .int .i64 300, .int .i64 298, .int .i64 301, .int .i64 1]) (ok := fun _ => True) (okp := fun _ => True) ?hr ?hp (fun _ hk => hk) trivial (Below.refl _ _) (Nat.le_refl _) (by simp) ?_; (case hd => rfl); (case hg => rfl); (case hr => first | (go_simp; done) | (go_simp; rfl)); (case hp => exact (Reps.c4 (show Kd.M k76 _ _ _ (⟨300, 300, 700, 2⟩ : S76) [.int .i64 300, .int .i64 300, .int .i64 700, .int .i64 2] from (k76_mkM _ _ _ (⟨300, 300, 700, 2⟩ : S76) )) (Reps.c4 (show Kd.M k76 _ _ _ (⟨300, 0, 299, 0⟩ : S76) [.int .i64 300, .int .i64 0, .int .i64 299, .int .i64 0] from (k76_mkM _ _ _ (⟨300, 0, 299, 0⟩ : S76) )) (Reps.c4 (show Kd.M k76 _ _ _ (⟨0, 0, 0, 2⟩ : S76) [.int .i64 0, .int .i64 0, .int .i64 0, .int .i64 2] from (k76_mkM _ _ _ (⟨0, 0, 0, 2⟩ : S76) )) (Reps.c4 (show Kd.M k76 _ _ _ (⟨300, 298, 301, 1⟩ : S76) [.int .i64 300, .int .i64 298, .int .i64 301, .int .i64 1] from (k76_mkM _ _ _ (⟨300, 298, 301, 1⟩ : S76) )) (Reps.none _ _)))))); intro v110 w1 ho2 hb hg_ hnew_; clear hg_ hnew_; (first | rw [← Ny109.out] at ho2 | (simp only [Int.reduceToNat] at ho2; rw [← Ny109.out] at ho2)); have n0_ := Aside0.mk (Kd.R_lower ho2 (below_size (by repeat (first | (with_reducible first | exact HB.out | apply below_alloc | apply pw_below_drewN | apply below_drew1) | exact HB.out)))); have n1_ := Aside0.mk (below_step (by repeat (first | (with_reducible first | exact HB.out | apply below_alloc | apply pw_below_drewN | apply below_drew1) | exact HB.out)) hb); clear HB; have HO111 := n0_; have HB := n1_; clear n0_ n1_; clear hb ho2; obtain ⟨Ao3, co3, eo3⟩ := Kd.R_slice HO111.out; subst eo3))
 go_loopg [33] k (fun kq v33 w' => ∃ (x33_1 : Int), v33 = .int .i64 x33_1 ∧ Aside0 (fastilaw29_sane.l0 kq y109 (y109.length : Int) x33_1 = some r) ∧ Aside0 (kq ≤ k) ∧ Aside0 (Kd.R k76 76 w' w.heap.size (fun _ => True) (.slice Ao3 y109.length co3) y109) ∧ Aside0 (Below w.heap.size w w'))
 case atStart => exact ⟨(0), (by first | rfl | (simp; done) | (simp [*]; done)), H', ⟨Nat.le_refl _⟩, ⟨by (with_reducible repeat (first | apply Kd.R_alloc | apply Kd.R_drewN | apply Kd.R_drew)); exact HO111.out⟩, ⟨by repeat (first | (with_reducible first | exact HB.out | apply below_alloc | apply pw_below_drewN | apply below_drew1) | exact HB.out)⟩⟩
 case round =>
  clear H'
  try clear c1
  try clear p2
  obtain ⟨x33_1, rfl, HA, HK1, HO_31, HB⟩ := hrel
  cases gk with
  | zero => exact absurd HA.out (by simp [fastilaw29_sane.l0])
  | succ k1 =>
   have H := HA.out
   clear HA
   simp only [fastilaw29_sane.l0] at H
   by_cases c4 : x33_1 < (y109.length : Int)
   ·rw [if_pos c4] at H
    have c4b0 : decide (x33_1 < (y109.length : Int)) = true := decide_eq_true c4
    clear c4
    by_cases c5 : 0 ≤ x33_1
    ·rw [if_pos c5] at H
     have c5b0 : decide (0 ≤ x33_1) = true := decide_eq_true c5
     clear c5
     by_cases c6 : x33_1 < (y109.length : Int)
     ·rw [if_pos c6] at H
      have c6b0 : decide (x33_1 < (y109.length : Int)) = true := decide_eq_true c6
      clear c6
      replace H := Option.bind_eq_some_iff.mp H
      obtain ⟨⟨t114, t115, t116, t117, t118, t119, t120⟩, A70, H⟩ := H
      replace H : ((bearing_Bears.f t114 t115 t116 t117 t118 t119 t120 ((rd_T76 y109 x33_1).f1) ((rd_T76 y109 x33_1).f2)).bind fun bt121 => (if bt121.1 = ((rd_T76 y109 x33_1).f3) then (if bt121.2 = 0 then (fastilaw29_sane.l0 k1 y109 (y109.length : Int) (wrap64 (x33_1 + 1))) else (some false)) else (some false))) = some r := H
      have A7 := Aside0.mk A70
      clear A70
      replace H := Option.bind_eq_some_iff.mp H
      obtain ⟨⟨t121, t122⟩, A80, H⟩ := H
      replace H : (if t121 = ((rd_T76 y109 x33_1).f3) then (if t122 = 0 then (fastilaw29_sane.l0 k1 y109 (y109.length : Int) (wrap64 (x33_1 + 1))) else (some false)) else (some false)) = some r := H
      have A8 := Aside0.mk A80
      clear A80
      by_cases c9 : t121 = ((rd_T76 y109 x33_1).f3)
      ·rw [if_pos c9] at H
       have c9b0 : (t121 == ((rd_T76 y109 x33_1).f3)) = true := beq_iff_eq.mpr c9
       have c9b1 : (t121 != ((rd_T76 y109 x33_1).f3)) = false := bne_eq_false_iff_eq.mpr c9
       clear c9
       by_cases c10 : t122 = 0
       ·rw [if_pos c10] at H
        have c10b0 : (t122 == 0) = true := beq_iff_eq.mpr c10
        have c10b1 : (t122 != 0) = false := bne_eq_false_iff_eq.mpr c10
        clear c10
        have H' := Aside0.mk H
        clear H
        have p112 : 0 ≤ (x33_1 : Int) := of_decide_eq_true (by first | (with_reducible assumption) | assumption)
        have q112 : x33_1 < (y109.length : Int) := of_decide_eq_true (by first | (with_reducible assumption) | assumption)
        obtain ⟨ad112, e112, hx112_0, hx112_1, hx112_2, hx112_3⟩ := at_T76 (Kd.R_reads' HO_31.out).2.2 x33_1 p112 q112
        cases e112
        replace p112 := eq_true p112
        replace q112 := eq_true q112
        try go_wp2_with (first | ((with_reducible refine gate_dst (N := 2) rfl ?_); refine box_event ?hg (N := 2) ?hd (cs := #[.int .i64 0, .int .i64 0, .int .i64 0, .int .i64 0]) (t := 76) ?hr ?_; (case hd => rfl); (case hg => rfl); (case hr => first | (go_simp; done) | (go_simp; rfl)); intro gb113 hg w11 hbox hb; have n0_ := Aside0.mk (Kd.R_below (Kd.R_elderB (by (with_reducible repeat (first | apply Kd.R_alloc | apply Kd.R_drewN | apply Kd.R_drew)); exact HO_31.out) gb113 (Nat.le_of_eq hg.symm)) hb); have n1_ := Aside0.mk (below_step (by repeat (first | (with_reducible first | exact HB.out | apply below_alloc | apply pw_below_drewN | apply below_drew1) | exact HB.out)) hb); have n2_ := Aside0.mk (hbox); have n3_ := Aside0.mk ((by rw [hg]; exact (below_size (by repeat (first | (with_reducible first | exact HB.out | apply below_alloc | apply pw_below_drewN | apply below_drew1) | exact HB.out))) : w.heap.size ≤ gb113)); have n4_ := Aside0.mk ((by rw [hg]; exact (below_size (by repeat (first | (with_reducible first | exact HB.out | apply below_alloc | apply pw_below_drewN | apply below_drew1) | exact HB.out))) : w.heap.size ≤ gb113)); clear HO_31; clear HB; have HO_31 := n0_; have HB := n1_; have BK113 := n2_; have GW113 := n3_; have GE113 := n4_; clear n0_ n1_ n2_ n3_ n4_; clear hb hbox hg; have hcz12_0 : w11.cell? ⟨gb113, 0, none⟩ = some (.int .i64 0) := (blk_cell BK113.out 0).trans rfl; have hcz12_1 : w11.cell? ⟨gb113, 1, none⟩ = some (.int .i64 0) := (blk_cell BK113.out 1).trans rfl; have hcz12_2 : w11.cell? ⟨gb113, 2, none⟩ = some (.int .i64 0) := (blk_cell BK113.out 2).trans rfl; have hcz12_3 : w11.cell? ⟨gb113, 3, none⟩ = some (.int .i64 0) := (blk_cell BK113.out 3).trans rfl; have hfz12_0 := blk_frozen BK113.out 0; have hfz12_1 := blk_frozen BK113.out 1; have hfz12_2 := blk_frozen BK113.out 2; have hfz12_3 := blk_frozen BK113.out 3))
        have n0_ : Aside0 (Kd.R k76 76 ((((w11.setCell ⟨gb113, 0, none⟩ (.int .i64 ((rd_T76 y109 x33_1).f0))).setCell ⟨gb113, 1, none⟩ (.int .i64 ((rd_T76 y109 x33_1).f1))).setCell ⟨gb113, 2, none⟩ (.int .i64 ((rd_T76 y109 x33_1).f2))).setCell ⟨gb113, 3, none⟩ (.int .i64 ((rd_T76 y109 x33_1).f3))) w.heap.size (fun k_ => k_ ≠ gb113) (.slice (some ad112) y109.length co3) y109) := ⟨by (with_reducible repeat (first | apply Kd.R_alloc | apply Kd.R_drewN | apply Kd.R_drew)); exact Kd.R_mono (Kd.R_far (p := ⟨gb113, 3, none⟩) (Kd.R_far (p := ⟨gb113, 2, none⟩) (Kd.R_far (p := ⟨gb113, 1, none⟩) (Kd.R_far (p := ⟨gb113, 0, none⟩) (Kd.R_mono HO_31.out (fun k_ hk => (⟨hk, hk.2⟩ : _ ∧ k_ ≠ gb113))) (fun _ hk => hk.2) (.int .i64 ((rd_T76 y109 x33_1).f0))) (fun _ hk => hk.2) (.int .i64 ((rd_T76 y109 x33_1).f1))) (fun _ hk => hk.2) (.int .i64 ((rd_T76 y109 x33_1).f2))) (fun _ hk => hk.2) (.int .i64 ((rd_T76 y109 x33_1).f3))) (fun _ hk => hk.1.2)⟩
        have n1_ : Aside0 (((((w11.setCell ⟨gb113, 0, none⟩ (.int .i64 ((rd_T76 y109 x33_1).f0))).setCell ⟨gb113, 1, none⟩ (.int .i64 ((rd_T76 y109 x33_1).f1))).setCell ⟨gb113, 2, none⟩ (.int .i64 ((rd_T76 y109 x33_1).f2))).setCell ⟨gb113, 3, none⟩ (.int .i64 ((rd_T76 y109 x33_1).f3))).heap[gb113]? = some (.cells #[.int .i64 ((rd_T76 y109 x33_1).f0), .int .i64 ((rd_T76 y109 x33_1).f1), .int .i64 ((rd_T76 y109 x33_1).f2), .int .i64 ((rd_T76 y109 x33_1).f3)] 76 (0, 0))) := ⟨by (with_reducible repeat (first | refine blk_drewN ?_ _ | refine blk_drew ?_ | refine blk_alloc ?_ _)); refine blk_put (cs := #[.int .i64 ((rd_T76 y109 x33_1).f0), .int .i64 ((rd_T76 y109 x33_1).f1), .int .i64 ((rd_T76 y109 x33_1).f2), .int .i64 0]) ?_ 3 _ rfl; (with_reducible repeat (first | refine blk_drewN ?_ _ | refine blk_drew ?_ | refine blk_alloc ?_ _)); refine blk_put (cs := #[.int .i64 ((rd_T76 y109 x33_1).f0), .int .i64 ((rd_T76 y109 x33_1).f1), .int .i64 0, .int .i64 0]) ?_ 2 _ rfl; (with_reducible repeat (first | refine blk_drewN ?_ _ | refine blk_drew ?_ | refine blk_alloc ?_ _)); refine blk_put (cs := #[.int .i64 ((rd_T76 y109 x33_1).f0), .int .i64 0, .int .i64 0, .int .i64 0]) ?_ 1 _ rfl; (with_reducible repeat (first | refine blk_drewN ?_ _ | refine blk_drew ?_ | refine blk_alloc ?_ _)); refine blk_put (cs := #[.int .i64 0, .int .i64 0, .int .i64 0, .int .i64 0]) ?_ 0 _ rfl; (with_reducible repeat (first | refine blk_drewN ?_ _ | refine blk_drew ?_ | refine blk_alloc ?_ _)); exact BK113.out⟩
        have n2_ : Aside0 (Below w.heap.size w ((((w11.setCell ⟨gb113, 0, none⟩ (.int .i64 ((rd_T76 y109 x33_1).f0))).setCell ⟨gb113, 1, none⟩ (.int .i64 ((rd_T76 y109 x33_1).f1))).setCell ⟨gb113, 2, none⟩ (.int .i64 ((rd_T76 y109 x33_1).f2))).setCell ⟨gb113, 3, none⟩ (.int .i64 ((rd_T76 y109 x33_1).f3)))) := ⟨by repeat (first | (with_reducible first | exact HB.out | apply below_alloc | apply pw_below_drewN | apply below_drew1 | refine below_set ?_ GE113.out) | exact HB.out)⟩
        (try clear HO_31)
        (try clear BK113)
        (try clear HB)
        generalize ((((w11.setCell ⟨gb113, 0, none⟩ (.int .i64 ((rd_T76 y109 x33_1).f0))).setCell ⟨gb113, 1, none⟩ (.int .i64 ((rd_T76 y109 x33_1).f1))).setCell ⟨gb113, 2, none⟩ (.int .i64 ((rd_T76 y109 x33_1).f2))).setCell ⟨gb113, 3, none⟩ (.int .i64 ((rd_T76 y109 x33_1).f3))) = w13 at n0_ n1_ n2_ ⊢
        have HO_31 := n0_
        have BK113 := n1_
        have HB := n2_
        clear n0_ n1_ n2_
        have n0_ := Aside0.mk (Kd.R_drew HO_31.out)
        have n1_ := Aside0.mk (blk_drew BK113.out)
        have n2_ := Aside0.mk (below_drew1 HB.out)
        clear HO_31
        clear BK113
        clear HB
        have HO_31 := n0_
        have BK113 := n1_
        have HB := n2_
        clear n0_ n1_ n2_
        refine start_ (n := 14) (S := fun w' => w'.cell? ⟨gb113, 0, none⟩ = some (.int .i64 ((rd_T76 y109 x33_1).f0)) ∧ w'.cell? ⟨gb113, 1, none⟩ = some (.int .i64 ((rd_T76 y109 x33_1).f1)) ∧ w'.cell? ⟨gb113, 2, none⟩ = some (.int .i64 ((rd_T76 y109 x33_1).f2)) ∧ w'.cell? ⟨gb113, 3, none⟩ = some (.int .i64 ((rd_T76 y109 x33_1).f3))) (ds := []) #[false, false, false, false, false, false, false, false, false, false, false, false, false, false] (by kernel_rfl) rfl rfl ⟨(blk_cell BK113.out 0).trans rfl, (blk_cell BK113.out 1).trans rfl, (blk_cell BK113.out 2).trans rfl, (blk_cell BK113.out 3).trans rfl⟩ (fun hHeld => ?_); refine with_tabW fastilaw29_sane.tab4 fastilaw29_sane.bits4 (fun HT_ HW_ => ?_)
        generalize w13.drew = w14 at HO_31 BK113 HB hHeld ⊢
        refine pure_ (i := 0) (N := some 38) (v := ?_) (a' := ?_) #[true, false, false, false, false, false, false, false, false, false, false, false, false, false] rfl rfl (any_of HT_.out (by kernel_rfl)) (fun _ _ _ h => h) (Or.inl ⟨by rfl, ?_⟩) ?_ ?_
        rotate_left
        ·intro w'
         go_simp
         with_reducible rfl
        rotate_left
        ·simp only [Act.put, List.setIfInBounds_toArray, List.set_cons_zero, List.set_cons_succ, i64_w, i32_w]
         rfl
        refine pure_ (i := 3) (N := some 41) (v := ?_) (a' := ?_) #[true, false, false, true, false, false, false, false, false, false, false, false, false, false] rfl rfl (any_of HT_.out (by kernel_rfl)) (fun _ _ _ h => h) (Or.inl ⟨by rfl, ?_⟩) ?_ ?_
        rotate_left
        ·intro w'
         go_simp
         with_reducible rfl
        rotate_left
        ·simp only [Act.put, List.setIfInBounds_toArray, List.set_cons_zero, List.set_cons_succ, i64_w, i32_w]
         rfl
        refine pure_ (i := 5) (N := some 43) (v := ?_) (a' := ?_) #[true, false, false, true, false, true, false, false, false, false, false, false, false, false] rfl rfl (any_of HT_.out (by kernel_rfl)) (fun _ _ _ h => h) (Or.inl ⟨by rfl, ?_⟩) ?_ ?_
        rotate_left
        ·intro w'
         go_simp
         with_reducible rfl
        rotate_left
        ·simp only [Act.put, List.setIfInBounds_toArray, List.set_cons_zero, List.set_cons_succ, i64_w, i32_w]
         rfl
        refine take_ (i := 1) (N := some 39) (v := ?_) (a' := ?_) #[true, true, false, true, false, true, false, false, false, false, false, false, false, false] rfl rfl (take_ofW HT_.out HW_.out (by kernel_rfl)) (fun _ _ _ h => h) (Or.inl ⟨by rfl, ?_⟩) hHeld ?_ ?_
        rotate_left
        ·rintro w' ⟨s0, s1, s2, s3⟩
         go_simp
         with_reducible rfl
        rotate_left
        ·simp only [Act.put, List.setIfInBounds_toArray, List.set_cons_zero, List.set_cons_succ, i64_w, i32_w]
         rfl
        refine take_ (i := 4) (N := some 42) (v := ?_) (a' := ?_) #[true, true, false, true, true, true, false, false, false, false, false, false, false, false] rfl rfl (take_ofW HT_.out HW_.out (by kernel_rfl)) (fun _ _ _ h => h) (Or.inl ⟨by rfl, ?_⟩) hHeld ?_ ?_
        rotate_left
        ·rintro w' ⟨s0, s1, s2, s3⟩
         go_simp
         with_reducible rfl
        rotate_left
        ·simp only [Act.put, List.setIfInBounds_toArray, List.set_cons_zero, List.set_cons_succ, i64_w, i32_w]
         rfl
        refine take_ (i := 6) (N := some 44) (v := ?_) (a' := ?_) #[true, true, false, true, true, true, true, false, false, false, false, false, false, false] rfl rfl (take_ofW HT_.out HW_.out (by kernel_rfl)) (fun _ _ _ h => h) (Or.inl ⟨by rfl, ?_⟩) hHeld ?_ ?_
        rotate_left
        ·rintro w' ⟨s0, s1, s2, s3⟩
         go_simp
         with_reducible rfl
        rotate_left
        ·simp only [Act.put, List.setIfInBounds_toArray, List.set_cons_zero, List.set_cons_succ, i64_w, i32_w]
         rfl
        refine pure_ (i := 7) (N := some 45) (v := ?_) (a' := ?_) #[true, true, false, true, true, true, true, true, false, false, false, false, false, false] rfl rfl (any_of HT_.out (by kernel_rfl)) (fun _ _ _ h => h) (Or.inl ⟨by rfl, ?_⟩) ?_ ?_
        rotate_left
        ·intro w'
         go_simp
         with_reducible rfl
        rotate_left
        ·simp only [Act.put, List.setIfInBounds_toArray, List.set_cons_zero, List.set_cons_succ, i64_w, i32_w]
         rfl
        refine one_ (i := 2) (N := some 40) #[true, true, true, true, true, true, true, true, false, false, false, false, false, false] rfl rfl (one_of HT_.out (by kernel_rfl)) (by decide) (fun K hK => ?_)
        refine goes_ Try.func38 (by kernel_rfl) rfl #[.int .i64 ((rd_T76 y109 x33_1).f0)] (by rfl) rfl rfl (by (try simp only [List.map_toArray, List.map_cons, List.map_nil]); first | done | rfl | (simp only [List.length_drop, List.length_take]; rfl)) ?_
        with_reducible refine (fastilaw29_pitch.calls ((rd_T76 y109 x33_1).f0) t114 t115 t116 t117 t118 t119 t120 _ A7.out).mono ?_
        rintro e w15 ⟨rfl, hb⟩
        refine ⟨_, rfl, ?_⟩
        have n0_ := Aside0.mk (Kd.R_below (by (with_reducible repeat (first | apply Kd.R_alloc | apply Kd.R_drewN | apply Kd.R_drew)); exact HO_31.out) hb)
        have n1_ := Aside0.mk (zb BK113.out hb)
        have n2_ := Aside0.mk (below_step (by repeat (first | (with_reducible first | exact HB.out | apply below_alloc | apply pw_below_drewN | apply below_drew1 | refine below_set ?_ GE113.out) | exact HB.out)) hb)
        clear HO_31
        clear BK113
        clear HB
        have HO_31 := n0_
        have BK113 := n1_
        have HB := n2_
        clear n0_ n1_ n2_
        (try clear hb)
        (try clear hb2)
        (try clear hk)
        (try clear hi)
        refine hK.out _ _ ⟨(blk_cell BK113.out 0).trans rfl, (blk_cell BK113.out 1).trans rfl, (blk_cell BK113.out 2).trans rfl, (blk_cell BK113.out 3).trans rfl⟩ (fun hHeld => ?_)
        clear hK K
        refine norm_ (a' := ?_) ?_ ?_
        rotate_left
        ·show Act.put _ (some 40) _ = _
         simp only [Act.put, List.setIfInBounds_toArray, List.set_cons_zero, List.set_cons_succ, i64_w, i32_w]
         rfl
        refine one_ (i := 8) (N := some 46) #[true, true, true, true, true, true, true, true, true, false, false, false, false, false] rfl rfl (one_of HT_.out (by kernel_rfl)) (by decide) (fun K hK => ?_)
        refine goes_ Try.func16 (by kernel_rfl) rfl #[.agg #[.string t114, .string t115, .int .i64 t116, .int .i64 t117, .int .i64 t118, .int .i64 t119, .int .i64 t120], .agg #[.int .i64 ((rd_T76 y109 x33_1).f1), .int .i64 ((rd_T76 y109 x33_1).f2)]] (by rfl) rfl rfl (by (try simp only [List.map_toArray, List.map_cons, List.map_nil]); first | done | rfl | (simp only [List.length_drop, List.length_take]; rfl)) ?_
        with_reducible refine (bearing_Bears.calls t114 t115 t116 t117 t118 t119 t120 ((rd_T76 y109 x33_1).f1) ((rd_T76 y109 x33_1).f2) t121 t122 _ A8.out).mono ?_
        rintro e w16 ⟨rfl, hb⟩
        refine ⟨_, rfl, ?_⟩
        have n0_ := Aside0.mk (Kd.R_below (by (with_reducible repeat (first | apply Kd.R_alloc | apply Kd.R_drewN | apply Kd.R_drew)); exact HO_31.out) hb)
        have n1_ := Aside0.mk (zb BK113.out hb)
        have n2_ := Aside0.mk (below_step (by repeat (first | (with_reducible first | exact HB.out | apply below_alloc | apply pw_below_drewN | apply below_drew1 | refine below_set ?_ GE113.out) | exact HB.out)) hb)
        clear HO_31
        clear BK113
        clear HB
        have HO_31 := n0_
        have BK113 := n1_
        have HB := n2_
        clear n0_ n1_ n2_
        (try clear hb)
        (try clear hb2)
        (try clear hk)
        (try clear hi)
        refine hK.out _ _ ⟨(blk_cell BK113.out 0).trans rfl, (blk_cell BK113.out 1).trans rfl, (blk_cell BK113.out 2).trans rfl, (blk_cell BK113.out 3).trans rfl⟩ (fun hHeld => ?_)
        clear hK K
        refine norm_ (a' := ?_) ?_ ?_
        rotate_left
        ·show Act.put _ (some 46) _ = _
         simp only [Act.put, List.setIfInBounds_toArray, List.set_cons_zero, List.set_cons_succ, i64_w, i32_w]
         rfl
        refine pure_ (i := 9) (N := some 37) (v := ?_) (a' := ?_) #[true, true, true, true, true, true, true, true, true, true, false, false, false, false] rfl rfl (any_of HT_.out (by kernel_rfl)) (fun _ _ _ h => h) (Or.inl ⟨by rfl, ?_⟩) ?_ ?_
        rotate_left
        ·intro w'
         go_simp
         with_reducible rfl
        rotate_left
        ·simp only [Act.put, List.setIfInBounds_toArray, List.set_cons_zero, List.set_cons_succ, i64_w, i32_w]
         rfl
        refine pure_ (i := 10) (N := some 47) (v := ?_) (a' := ?_) #[true, true, true, true, true, true, true, true, true, true, true, false, false, false] rfl rfl (any_of HT_.out (by kernel_rfl)) (fun _ _ _ h => h) (Or.inl ⟨by rfl, ?_⟩) ?_ ?_
        rotate_left
        ·intro w'
         go_simp
         with_reducible rfl
        rotate_left
        ·simp only [Act.put, List.setIfInBounds_toArray, List.set_cons_zero, List.set_cons_succ, i64_w, i32_w]
         rfl
        refine pure_ (i := 11) (N := some 48) (v := ?_) (a' := ?_) #[true, true, true, true, true, true, true, true, true, true, true, true, false, false] rfl rfl (any_of HT_.out (by kernel_rfl)) (fun _ _ _ h => h) (Or.inl ⟨by rfl, ?_⟩) ?_ ?_
        rotate_left
        ·intro w'
         go_simp
         with_reducible rfl
        rotate_left
        ·simp only [Act.put, List.setIfInBounds_toArray, List.set_cons_zero, List.set_cons_succ, i64_w, i32_w]
         rfl
        refine pure_ (i := 12) (N := some 3) (v := ?_) (a' := ?_) #[true, true, true, true, true, true, true, true, true, true, true, true, true, false] rfl rfl (any_of HT_.out (by kernel_rfl)) (fun _ _ _ h => h) (Or.inl ⟨by rfl, ?_⟩) ?_ ?_
        rotate_left
        ·intro w'
         go_simp
         with_reducible rfl
        rotate_left
        ·simp only [Act.put, List.setIfInBounds_toArray, List.set_cons_zero, List.set_cons_succ, i64_w, i32_w]
         rfl
        refine pure_ (i := 13) (N := some 4) (v := ?_) (a' := ?_) #[true, true, true, true, true, true, true, true, true, true, true, true, true, true] rfl rfl (any_of HT_.out (by kernel_rfl)) (fun _ _ _ h => h) (Or.inl ⟨by rfl, ?_⟩) ?_ ?_
        rotate_left
        ·intro w'
         go_simp
         with_reducible rfl
        rotate_left
        ·simp only [Act.put, List.setIfInBounds_toArray, List.set_cons_zero, List.set_cons_succ, i64_w, i32_w]
         rfl
        refine done_ (done_of HT_.out (by kernel_rfl)) ?_
        have hcz17_0 : w16.cell? ⟨gb113, 0, none⟩ = some (.int .i64 ((rd_T76 y109 x33_1).f0)) := (blk_cell BK113.out 0).trans rfl
        have hcz17_1 : w16.cell? ⟨gb113, 1, none⟩ = some (.int .i64 ((rd_T76 y109 x33_1).f1)) := (blk_cell BK113.out 1).trans rfl
        have hcz17_2 : w16.cell? ⟨gb113, 2, none⟩ = some (.int .i64 ((rd_T76 y109 x33_1).f2)) := (blk_cell BK113.out 2).trans rfl
        have hcz17_3 : w16.cell? ⟨gb113, 3, none⟩ = some (.int .i64 ((rd_T76 y109 x33_1).f3)) := (blk_cell BK113.out 3).trans rfl
        have hfz17_0 := blk_frozen BK113.out 0
        have hfz17_1 := blk_frozen BK113.out 1
        have hfz17_2 := blk_frozen BK113.out 2
        have hfz17_3 := blk_frozen BK113.out 3
        try go_wp2
        go_roundg k1
        case measure => have := HK1.out; omega
        case rel => exact ⟨(wrap64 (x33_1 + 1)), (by first | rfl | (simp; done) | (simp [*]; done)), H', ⟨by have := HK1.out; omega⟩, ⟨by (with_reducible repeat (first | apply Kd.R_alloc | apply Kd.R_drewN | apply Kd.R_drew)); exact Kd.R_mono HO_31.out (fun _ hk => trivial)⟩, ⟨by repeat (first | (with_reducible first | exact HB.out | apply below_alloc | apply pw_below_drewN | apply below_drew1 | refine below_set ?_ GE113.out) | exact HB.out)⟩⟩
       ·rw [if_neg c10] at H
        have c10b0 : (t122 == 0) = false := beq_eq_false_iff_ne.mpr c10
        have c10b1 : (t122 != 0) = true := bne_iff_ne.mpr c10
        obtain rfl := Option.some.inj H
        have p112 : 0 ≤ (x33_1 : Int) := of_decide_eq_true (by first | (with_reducible assumption) | assumption)
        have q112 : x33_1 < (y109.length : Int) := of_decide_eq_true (by first | (with_reducible assumption) | assumption)
        obtain ⟨ad112, e112, hx112_0, hx112_1, hx112_2, hx112_3⟩ := at_T76 (Kd.R_reads' HO_31.out).2.2 x33_1 p112 q112
        cases e112
        replace p112 := eq_true p112
        replace q112 := eq_true q112
        try go_wp2_with (first | ((with_reducible refine gate_dst (N := 2) rfl ?_); refine box_event ?hg (N := 2) ?hd (cs := #[.int .i64 0, .int .i64 0, .int .i64 0, .int .i64 0]) (t := 76) ?hr ?_; (case hd => rfl); (case hg => rfl); (case hr => first | (go_simp; done) | (go_simp; rfl)); intro gb113 hg w18 hbox hb; have n0_ := Aside0.mk (Kd.R_below (Kd.R_elderB (by (with_reducible repeat (first | apply Kd.R_alloc | apply Kd.R_drewN | apply Kd.R_drew)); exact HO_31.out) gb113 (Nat.le_of_eq hg.symm)) hb); have n1_ := Aside0.mk (below_step (by repeat (first | (with_reducible first | exact HB.out | apply below_alloc | apply pw_below_drewN | apply below_drew1) | exact HB.out)) hb); have n2_ := Aside0.mk (hbox); have n3_ := Aside0.mk ((by rw [hg]; exact (below_size (by repeat (first | (with_reducible first | exact HB.out | apply below_alloc | apply pw_below_drewN | apply below_drew1) | exact HB.out))) : w.heap.size ≤ gb113)); have n4_ := Aside0.mk ((by rw [hg]; exact (below_size (by repeat (first | (with_reducible first | exact HB.out | apply below_alloc | apply pw_below_drewN | apply below_drew1) | exact HB.out))) : w.heap.size ≤ gb113)); clear HO_31; clear HB; have HO_31 := n0_; have HB := n1_; have BK113 := n2_; have GW113 := n3_; have GE113 := n4_; clear n0_ n1_ n2_ n3_ n4_; clear hb hbox hg; have hcz19_0 : w18.cell? ⟨gb113, 0, none⟩ = some (.int .i64 0) := (blk_cell BK113.out 0).trans rfl; have hcz19_1 : w18.cell? ⟨gb113, 1, none⟩ = some (.int .i64 0) := (blk_cell BK113.out 1).trans rfl; have hcz19_2 : w18.cell? ⟨gb113, 2, none⟩ = some (.int .i64 0) := (blk_cell BK113.out 2).trans rfl; have hcz19_3 : w18.cell? ⟨gb113, 3, none⟩ = some (.int .i64 0) := (blk_cell BK113.out 3).trans rfl; have hfz19_0 := blk_frozen BK113.out 0; have hfz19_1 := blk_frozen BK113.out 1; have hfz19_2 := blk_frozen BK113.out 2; have hfz19_3 := blk_frozen BK113.out 3))
        have n0_ : Aside0 (Kd.R k76 76 ((((w18.setCell ⟨gb113, 0, none⟩ (.int .i64 ((rd_T76 y109 x33_1).f0))).setCell ⟨gb113, 1, none⟩ (.int .i64 ((rd_T76 y109 x33_1).f1))).setCell ⟨gb113, 2, none⟩ (.int .i64 ((rd_T76 y109 x33_1).f2))).setCell ⟨gb113, 3, none⟩ (.int .i64 ((rd_T76 y109 x33_1).f3))) w.heap.size (fun k_ => k_ ≠ gb113) (.slice (some ad112) y109.length co3) y109) := ⟨by (with_reducible repeat (first | apply Kd.R_alloc | apply Kd.R_drewN | apply Kd.R_drew)); exact Kd.R_mono (Kd.R_far (p := ⟨gb113, 3, none⟩) (Kd.R_far (p := ⟨gb113, 2, none⟩) (Kd.R_far (p := ⟨gb113, 1, none⟩) (Kd.R_far (p := ⟨gb113, 0, none⟩) (Kd.R_mono HO_31.out (fun k_ hk => (⟨hk, hk.2⟩ : _ ∧ k_ ≠ gb113))) (fun _ hk => hk.2) (.int .i64 ((rd_T76 y109 x33_1).f0))) (fun _ hk => hk.2) (.int .i64 ((rd_T76 y109 x33_1).f1))) (fun _ hk => hk.2) (.int .i64 ((rd_T76 y109 x33_1).f2))) (fun _ hk => hk.2) (.int .i64 ((rd_T76 y109 x33_1).f3))) (fun _ hk => hk.1.2)⟩
        have n1_ : Aside0 (((((w18.setCell ⟨gb113, 0, none⟩ (.int .i64 ((rd_T76 y109 x33_1).f0))).setCell ⟨gb113, 1, none⟩ (.int .i64 ((rd_T76 y109 x33_1).f1))).setCell ⟨gb113, 2, none⟩ (.int .i64 ((rd_T76 y109 x33_1).f2))).setCell ⟨gb113, 3, none⟩ (.int .i64 ((rd_T76 y109 x33_1).f3))).heap[gb113]? = some (.cells #[.int .i64 ((rd_T76 y109 x33_1).f0), .int .i64 ((rd_T76 y109 x33_1).f1), .int .i64 ((rd_T76 y109 x33_1).f2), .int .i64 ((rd_T76 y109 x33_1).f3)] 76 (0, 0))) := ⟨by (with_reducible repeat (first | refine blk_drewN ?_ _ | refine blk_drew ?_ | refine blk_alloc ?_ _)); refine blk_put (cs := #[.int .i64 ((rd_T76 y109 x33_1).f0), .int .i64 ((rd_T76 y109 x33_1).f1), .int .i64 ((rd_T76 y109 x33_1).f2), .int .i64 0]) ?_ 3 _ rfl; (with_reducible repeat (first | refine blk_drewN ?_ _ | refine blk_drew ?_ | refine blk_alloc ?_ _)); refine blk_put (cs := #[.int .i64 ((rd_T76 y109 x33_1).f0), .int .i64 ((rd_T76 y109 x33_1).f1), .int .i64 0, .int .i64 0]) ?_ 2 _ rfl; (with_reducible repeat (first | refine blk_drewN ?_ _ | refine blk_drew ?_ | refine blk_alloc ?_ _)); refine blk_put (cs := #[.int .i64 ((rd_T76 y109 x33_1).f0), .int .i64 0, .int .i64 0, .int .i64 0]) ?_ 1 _ rfl; (with_reducible repeat (first | refine blk_drewN ?_ _ | refine blk_drew ?_ | refine blk_alloc ?_ _)); refine blk_put (cs := #[.int .i64 0, .int .i64 0, .int .i64 0, .int .i64 0]) ?_ 0 _ rfl; (with_reducible repeat (first | refine blk_drewN ?_ _ | refine blk_drew ?_ | refine blk_alloc ?_ _)); exact BK113.out⟩
        have n2_ : Aside0 (Below w.heap.size w ((((w18.setCell ⟨gb113, 0, none⟩ (.int .i64 ((rd_T76 y109 x33_1).f0))).setCell ⟨gb113, 1, none⟩ (.int .i64 ((rd_T76 y109 x33_1).f1))).setCell ⟨gb113, 2, none⟩ (.int .i64 ((rd_T76 y109 x33_1).f2))).setCell ⟨gb113, 3, none⟩ (.int .i64 ((rd_T76 y109 x33_1).f3)))) := ⟨by repeat (first | (with_reducible first | exact HB.out | apply below_alloc | apply pw_below_drewN | apply below_drew1 | refine below_set ?_ GE113.out) | exact HB.out)⟩
        (try clear HO_31)
        (try clear BK113)
        (try clear HB)
        generalize ((((w18.setCell ⟨gb113, 0, none⟩ (.int .i64 ((rd_T76 y109 x33_1).f0))).setCell ⟨gb113, 1, none⟩ (.int .i64 ((rd_T76 y109 x33_1).f1))).setCell ⟨gb113, 2, none⟩ (.int .i64 ((rd_T76 y109 x33_1).f2))).setCell ⟨gb113, 3, none⟩ (.int .i64 ((rd_T76 y109 x33_1).f3))) = w20 at n0_ n1_ n2_ ⊢
        have HO_31 := n0_
        have BK113 := n1_
        have HB := n2_
        clear n0_ n1_ n2_
        have n0_ := Aside0.mk (Kd.R_drew HO_31.out)
        have n1_ := Aside0.mk (blk_drew BK113.out)
        have n2_ := Aside0.mk (below_drew1 HB.out)
        clear HO_31
        clear BK113
        clear HB
        have HO_31 := n0_
        have BK113 := n1_
        have HB := n2_
        clear n0_ n1_ n2_
        refine start_ (n := 14) (S := fun w' => w'.cell? ⟨gb113, 0, none⟩ = some (.int .i64 ((rd_T76 y109 x33_1).f0)) ∧ w'.cell? ⟨gb113, 1, none⟩ = some (.int .i64 ((rd_T76 y109 x33_1).f1)) ∧ w'.cell? ⟨gb113, 2, none⟩ = some (.int .i64 ((rd_T76 y109 x33_1).f2)) ∧ w'.cell? ⟨gb113, 3, none⟩ = some (.int .i64 ((rd_T76 y109 x33_1).f3))) (ds := []) #[false, false, false, false, false, false, false, false, false, false, false, false, false, false] (by kernel_rfl) rfl rfl ⟨(blk_cell BK113.out 0).trans rfl, (blk_cell BK113.out 1).trans rfl, (blk_cell BK113.out 2).trans rfl, (blk_cell BK113.out 3).trans rfl⟩ (fun hHeld => ?_); refine with_tabW fastilaw29_sane.tab4 fastilaw29_sane.bits4 (fun HT_ HW_ => ?_)
        generalize w20.drew = w21 at HO_31 BK113 HB hHeld ⊢
        refine pure_ (i := 0) (N := some 38) (v := ?_) (a' := ?_) #[true, false, false, false, false, false, false, false, false, false, false, false, false, false] rfl rfl (any_of HT_.out (by kernel_rfl)) (fun _ _ _ h => h) (Or.inl ⟨by rfl, ?_⟩) ?_ ?_
        rotate_left
        ·intro w'
         go_simp
         with_reducible rfl
        rotate_left
        ·simp only [Act.put, List.setIfInBounds_toArray, List.set_cons_zero, List.set_cons_succ, i64_w, i32_w]
         rfl
        refine pure_ (i := 3) (N := some 41) (v := ?_) (a' := ?_) #[true, false, false, true, false, false, false, false, false, false, false, false, false, false] rfl rfl (any_of HT_.out (by kernel_rfl)) (fun _ _ _ h => h) (Or.inl ⟨by rfl, ?_⟩) ?_ ?_
        rotate_left
        ·intro w'
         go_simp
         with_reducible rfl
        rotate_left
        ·simp only [Act.put, List.setIfInBounds_toArray, List.set_cons_zero, List.set_cons_succ, i64_w, i32_w]
         rfl
        refine pure_ (i := 5) (N := some 43) (v := ?_) (a' := ?_) #[true, false, false, true, false, true, false, false, false, false, false, false, false, false] rfl rfl (any_of HT_.out (by kernel_rfl)) (fun _ _ _ h => h) (Or.inl ⟨by rfl, ?_⟩) ?_ ?_
        rotate_left
        ·intro w'
         go_simp
         with_reducible rfl
        rotate_left
        ·simp only [Act.put, List.setIfInBounds_toArray, List.set_cons_zero, List.set_cons_succ, i64_w, i32_w]
         rfl
        refine take_ (i := 1) (N := some 39) (v := ?_) (a' := ?_) #[true, true, false, true, false, true, false, false, false, false, false, false, false, false] rfl rfl (take_ofW HT_.out HW_.out (by kernel_rfl)) (fun _ _ _ h => h) (Or.inl ⟨by rfl, ?_⟩) hHeld ?_ ?_
        rotate_left
        ·rintro w' ⟨s0, s1, s2, s3⟩
         go_simp
         with_reducible rfl
        rotate_left
        ·simp only [Act.put, List.setIfInBounds_toArray, List.set_cons_zero, List.set_cons_succ, i64_w, i32_w]
         rfl
        refine take_ (i := 4) (N := some 42) (v := ?_) (a' := ?_) #[true, true, false, true, true, true, false, false, false, false, false, false, false, false] rfl rfl (take_ofW HT_.out HW_.out (by kernel_rfl)) (fun _ _ _ h => h) (Or.inl ⟨by rfl, ?_⟩) hHeld ?_ ?_
        rotate_left
        ·rintro w' ⟨s0, s1, s2, s3⟩
         go_simp
         with_reducible rfl
        rotate_left
        ·simp only [Act.put, List.setIfInBounds_toArray, List.set_cons_zero, List.set_cons_succ, i64_w, i32_w]
         rfl
        refine take_ (i := 6) (N := some 44) (v := ?_) (a' := ?_) #[true, true, false, true, true, true, true, false, false, false, false, false, false, false] rfl rfl (take_ofW HT_.out HW_.out (by kernel_rfl)) (fun _ _ _ h => h) (Or.inl ⟨by rfl, ?_⟩) hHeld ?_ ?_
        rotate_left
        ·rintro w' ⟨s0, s1, s2, s3⟩
         go_simp
         with_reducible rfl
        rotate_left
        ·simp only [Act.put, List.setIfInBounds_toArray, List.set_cons_zero, List.set_cons_succ, i64_w, i32_w]
         rfl
        refine pure_ (i := 7) (N := some 45) (v := ?_) (a' := ?_) #[true, true, false, true, true, true, true, true, false, false, false, false, false, false] rfl rfl (any_of HT_.out (by kernel_rfl)) (fun _ _ _ h => h) (Or.inl ⟨by rfl, ?_⟩) ?_ ?_
        rotate_left
        ·intro w'
         go_simp
         with_reducible rfl
        rotate_left
        ·simp only [Act.put, List.setIfInBounds_toArray, List.set_cons_zero, List.set_cons_succ, i64_w, i32_w]
         rfl
        refine one_ (i := 2) (N := some 40) #[true, true, true, true, true, true, true, true, false, false, false, false, false, false] rfl rfl (one_of HT_.out (by kernel_rfl)) (by decide) (fun K hK => ?_)
        refine goes_ Try.func38 (by kernel_rfl) rfl #[.int .i64 ((rd_T76 y109 x33_1).f0)] (by rfl) rfl rfl (by (try simp only [List.map_toArray, List.map_cons, List.map_nil]); first | done | rfl | (simp only [List.length_drop, List.length_take]; rfl)) ?_
        with_reducible refine (fastilaw29_pitch.calls ((rd_T76 y109 x33_1).f0) t114 t115 t116 t117 t118 t119 t120 _ A7.out).mono ?_
        rintro e w22 ⟨rfl, hb⟩
        refine ⟨_, rfl, ?_⟩
        have n0_ := Aside0.mk (Kd.R_below (by (with_reducible repeat (first | apply Kd.R_alloc | apply Kd.R_drewN | apply Kd.R_drew)); exact HO_31.out) hb)
        have n1_ := Aside0.mk (zb BK113.out hb)
        have n2_ := Aside0.mk (below_step (by repeat (first | (with_reducible first | exact HB.out | apply below_alloc | apply pw_below_drewN | apply below_drew1 | refine below_set ?_ GE113.out) | exact HB.out)) hb)
        clear HO_31
        clear BK113
        clear HB
        have HO_31 := n0_
        have BK113 := n1_
        have HB := n2_
        clear n0_ n1_ n2_
        (try clear hb)
        (try clear hb2)
        (try clear hk)
        (try clear hi)
        refine hK.out _ _ ⟨(blk_cell BK113.out 0).trans rfl, (blk_cell BK113.out 1).trans rfl, (blk_cell BK113.out 2).trans rfl, (blk_cell BK113.out 3).trans rfl⟩ (fun hHeld => ?_)
        clear hK K
        refine norm_ (a' := ?_) ?_ ?_
        rotate_left
        ·show Act.put _ (some 40) _ = _
         simp only [Act.put, List.setIfInBounds_toArray, List.set_cons_zero, List.set_cons_succ, i64_w, i32_w]
         rfl
        refine one_ (i := 8) (N := some 46) #[true, true, true, true, true, true, true, true, true, false, false, false, false, false] rfl rfl (one_of HT_.out (by kernel_rfl)) (by decide) (fun K hK => ?_)
        refine goes_ Try.func16 (by kernel_rfl) rfl #[.agg #[.string t114, .string t115, .int .i64 t116, .int .i64 t117, .int .i64 t118, .int .i64 t119, .int .i64 t120], .agg #[.int .i64 ((rd_T76 y109 x33_1).f1), .int .i64 ((rd_T76 y109 x33_1).f2)]] (by rfl) rfl rfl (by (try simp only [List.map_toArray, List.map_cons, List.map_nil]); first | done | rfl | (simp only [List.length_drop, List.length_take]; rfl)) ?_
        with_reducible refine (bearing_Bears.calls t114 t115 t116 t117 t118 t119 t120 ((rd_T76 y109 x33_1).f1) ((rd_T76 y109 x33_1).f2) t121 t122 _ A8.out).mono ?_
        rintro e w23 ⟨rfl, hb⟩
        refine ⟨_, rfl, ?_⟩
        have n0_ := Aside0.mk (Kd.R_below (by (with_reducible repeat (first | apply Kd.R_alloc | apply Kd.R_drewN | apply Kd.R_drew)); exact HO_31.out) hb)
        have n1_ := Aside0.mk (zb BK113.out hb)
        have n2_ := Aside0.mk (below_step (by repeat (first | (with_reducible first | exact HB.out | apply below_alloc | apply pw_below_drewN | apply below_drew1 | refine below_set ?_ GE113.out) | exact HB.out)) hb)
        clear HO_31
        clear BK113
        clear HB
        have HO_31 := n0_
        have BK113 := n1_
        have HB := n2_
        clear n0_ n1_ n2_
        (try clear hb)
        (try clear hb2)
        (try clear hk)
        (try clear hi)
        refine hK.out _ _ ⟨(blk_cell BK113.out 0).trans rfl, (blk_cell BK113.out 1).trans rfl, (blk_cell BK113.out 2).trans rfl, (blk_cell BK113.out 3).trans rfl⟩ (fun hHeld => ?_)
        clear hK K
        refine norm_ (a' := ?_) ?_ ?_
        rotate_left
        ·show Act.put _ (some 46) _ = _
         simp only [Act.put, List.setIfInBounds_toArray, List.set_cons_zero, List.set_cons_succ, i64_w, i32_w]
         rfl
        refine pure_ (i := 9) (N := some 37) (v := ?_) (a' := ?_) #[true, true, true, true, true, true, true, true, true, true, false, false, false, false] rfl rfl (any_of HT_.out (by kernel_rfl)) (fun _ _ _ h => h) (Or.inl ⟨by rfl, ?_⟩) ?_ ?_
        rotate_left
        ·intro w'
         go_simp
         with_reducible rfl
        rotate_left
        ·simp only [Act.put, List.setIfInBounds_toArray, List.set_cons_zero, List.set_cons_succ, i64_w, i32_w]
         rfl
        refine pure_ (i := 10) (N := some 47) (v := ?_) (a' := ?_) #[true, true, true, true, true, true, true, true, true, true, true, false, false, false] rfl rfl (any_of HT_.out (by kernel_rfl)) (fun _ _ _ h => h) (Or.inl ⟨by rfl, ?_⟩) ?_ ?_
        rotate_left
        ·intro w'
         go_simp
         with_reducible rfl
        rotate_left
        ·simp only [Act.put, List.setIfInBounds_toArray, List.set_cons_zero, List.set_cons_succ, i64_w, i32_w]
         rfl
        refine pure_ (i := 11) (N := some 48) (v := ?_) (a' := ?_) #[true, true, true, true, true, true, true, true, true, true, true, true, false, false] rfl rfl (any_of HT_.out (by kernel_rfl)) (fun _ _ _ h => h) (Or.inl ⟨by rfl, ?_⟩) ?_ ?_
        rotate_left
        ·intro w'
         go_simp
         with_reducible rfl
        rotate_left
        ·simp only [Act.put, List.setIfInBounds_toArray, List.set_cons_zero, List.set_cons_succ, i64_w, i32_w]
         rfl
        refine pure_ (i := 12) (N := some 3) (v := ?_) (a' := ?_) #[true, true, true, true, true, true, true, true, true, true, true, true, true, false] rfl rfl (any_of HT_.out (by kernel_rfl)) (fun _ _ _ h => h) (Or.inl ⟨by rfl, ?_⟩) ?_ ?_
        rotate_left
        ·intro w'
         go_simp
         with_reducible rfl
        rotate_left
        ·simp only [Act.put, List.setIfInBounds_toArray, List.set_cons_zero, List.set_cons_succ, i64_w, i32_w]
         rfl
        refine pure_ (i := 13) (N := some 4) (v := ?_) (a' := ?_) #[true, true, true, true, true, true, true, true, true, true, true, true, true, true] rfl rfl (any_of HT_.out (by kernel_rfl)) (fun _ _ _ h => h) (Or.inl ⟨by rfl, ?_⟩) ?_ ?_
        rotate_left
        ·intro w'
         go_simp
         with_reducible rfl
        rotate_left
        ·simp only [Act.put, List.setIfInBounds_toArray, List.set_cons_zero, List.set_cons_succ, i64_w, i32_w]
         rfl
        refine done_ (done_of HT_.out (by kernel_rfl)) ?_
        have hcz24_0 : w23.cell? ⟨gb113, 0, none⟩ = some (.int .i64 ((rd_T76 y109 x33_1).f0)) := (blk_cell BK113.out 0).trans rfl
        have hcz24_1 : w23.cell? ⟨gb113, 1, none⟩ = some (.int .i64 ((rd_T76 y109 x33_1).f1)) := (blk_cell BK113.out 1).trans rfl
        have hcz24_2 : w23.cell? ⟨gb113, 2, none⟩ = some (.int .i64 ((rd_T76 y109 x33_1).f2)) := (blk_cell BK113.out 2).trans rfl
        have hcz24_3 : w23.cell? ⟨gb113, 3, none⟩ = some (.int .i64 ((rd_T76 y109 x33_1).f3)) := (blk_cell BK113.out 3).trans rfl
        have hfz24_0 := blk_frozen BK113.out 0
        have hfz24_1 := blk_frozen BK113.out 1
        have hfz24_2 := blk_frozen BK113.out 2
        have hfz24_3 := blk_frozen BK113.out 3
        try go_wp2
        go_ret
        exact ⟨by first | rfl | (simp [errW_none, errW_some] <;> rfl) | (simp [*, errW_none, errW_some] <;> rfl), by repeat (first | (with_reducible first | exact HB.out | apply below_alloc | apply pw_below_drewN | apply below_drew1 | refine below_set ?_ GE113.out) | exact HB.out)⟩
      ·rw [if_neg c9] at H
       have c9b0 : (t121 == ((rd_T76 y109 x33_1).f3)) = false := beq_eq_false_iff_ne.mpr c9
       have c9b1 : (t121 != ((rd_T76 y109 x33_1).f3)) = true := bne_iff_ne.mpr c9
       obtain rfl := Option.some.inj H
       have p112 : 0 ≤ (x33_1 : Int) := of_decide_eq_true (by first | (with_reducible assumption) | assumption)
       have q112 : x33_1 < (y109.length : Int) := of_decide_eq_true (by first | (with_reducible assumption) | assumption)
       obtain ⟨ad112, e112, hx112_0, hx112_1, hx112_2, hx112_3⟩ := at_T76 (Kd.R_reads' HO_31.out).2.2 x33_1 p112 q112
       cases e112
       replace p112 := eq_true p112
       replace q112 := eq_true q112
       try go_wp2_with (first | ((with_reducible refine gate_dst (N := 2) rfl ?_); refine box_event ?hg (N := 2) ?hd (cs := #[.int .i64 0, .int .i64 0, .int .i64 0, .int .i64 0]) (t := 76) ?hr ?_; (case hd => rfl); (case hg => rfl); (case hr => first | (go_simp; done) | (go_simp; rfl)); intro gb113 hg w25 hbox hb; have n0_ := Aside0.mk (Kd.R_below (Kd.R_elderB (by (with_reducible repeat (first | apply Kd.R_alloc | apply Kd.R_drewN | apply Kd.R_drew)); exact HO_31.out) gb113 (Nat.le_of_eq hg.symm)) hb); have n1_ := Aside0.mk (below_step (by repeat (first | (with_reducible first | exact HB.out | apply below_alloc | apply pw_below_drewN | apply below_drew1) | exact HB.out)) hb); have n2_ := Aside0.mk (hbox); have n3_ := Aside0.mk ((by rw [hg]; exact (below_size (by repeat (first | (with_reducible first | exact HB.out | apply below_alloc | apply pw_below_drewN | apply below_drew1) | exact HB.out))) : w.heap.size ≤ gb113)); have n4_ := Aside0.mk ((by rw [hg]; exact (below_size (by repeat (first | (with_reducible first | exact HB.out | apply below_alloc | apply pw_below_drewN | apply below_drew1) | exact HB.out))) : w.heap.size ≤ gb113)); clear HO_31; clear HB; have HO_31 := n0_; have HB := n1_; have BK113 := n2_; have GW113 := n3_; have GE113 := n4_; clear n0_ n1_ n2_ n3_ n4_; clear hb hbox hg; have hcz26_0 : w25.cell? ⟨gb113, 0, none⟩ = some (.int .i64 0) := (blk_cell BK113.out 0).trans rfl; have hcz26_1 : w25.cell? ⟨gb113, 1, none⟩ = some (.int .i64 0) := (blk_cell BK113.out 1).trans rfl; have hcz26_2 : w25.cell? ⟨gb113, 2, none⟩ = some (.int .i64 0) := (blk_cell BK113.out 2).trans rfl; have hcz26_3 : w25.cell? ⟨gb113, 3, none⟩ = some (.int .i64 0) := (blk_cell BK113.out 3).trans rfl; have hfz26_0 := blk_frozen BK113.out 0; have hfz26_1 := blk_frozen BK113.out 1; have hfz26_2 := blk_frozen BK113.out 2; have hfz26_3 := blk_frozen BK113.out 3))
       have n0_ : Aside0 (Kd.R k76 76 ((((w25.setCell ⟨gb113, 0, none⟩ (.int .i64 ((rd_T76 y109 x33_1).f0))).setCell ⟨gb113, 1, none⟩ (.int .i64 ((rd_T76 y109 x33_1).f1))).setCell ⟨gb113, 2, none⟩ (.int .i64 ((rd_T76 y109 x33_1).f2))).setCell ⟨gb113, 3, none⟩ (.int .i64 ((rd_T76 y109 x33_1).f3))) w.heap.size (fun k_ => k_ ≠ gb113) (.slice (some ad112) y109.length co3) y109) := ⟨by (with_reducible repeat (first | apply Kd.R_alloc | apply Kd.R_drewN | apply Kd.R_drew)); exact Kd.R_mono (Kd.R_far (p := ⟨gb113, 3, none⟩) (Kd.R_far (p := ⟨gb113, 2, none⟩) (Kd.R_far (p := ⟨gb113, 1, none⟩) (Kd.R_far (p := ⟨gb113, 0, none⟩) (Kd.R_mono HO_31.out (fun k_ hk => (⟨hk, hk.2⟩ : _ ∧ k_ ≠ gb113))) (fun _ hk => hk.2) (.int .i64 ((rd_T76 y109 x33_1).f0))) (fun _ hk => hk.2) (.int .i64 ((rd_T76 y109 x33_1).f1))) (fun _ hk => hk.2) (.int .i64 ((rd_T76 y109 x33_1).f2))) (fun _ hk => hk.2) (.int .i64 ((rd_T76 y109 x33_1).f3))) (fun _ hk => hk.1.2)⟩
       have n1_ : Aside0 (((((w25.setCell ⟨gb113, 0, none⟩ (.int .i64 ((rd_T76 y109 x33_1).f0))).setCell ⟨gb113, 1, none⟩ (.int .i64 ((rd_T76 y109 x33_1).f1))).setCell ⟨gb113, 2, none⟩ (.int .i64 ((rd_T76 y109 x33_1).f2))).setCell ⟨gb113, 3, none⟩ (.int .i64 ((rd_T76 y109 x33_1).f3))).heap[gb113]? = some (.cells #[.int .i64 ((rd_T76 y109 x33_1).f0), .int .i64 ((rd_T76 y109 x33_1).f1), .int .i64 ((rd_T76 y109 x33_1).f2), .int .i64 ((rd_T76 y109 x33_1).f3)] 76 (0, 0))) := ⟨by (with_reducible repeat (first | refine blk_drewN ?_ _ | refine blk_drew ?_ | refine blk_alloc ?_ _)); refine blk_put (cs := #[.int .i64 ((rd_T76 y109 x33_1).f0), .int .i64 ((rd_T76 y109 x33_1).f1), .int .i64 ((rd_T76 y109 x33_1).f2), .int .i64 0]) ?_ 3 _ rfl; (with_reducible repeat (first | refine blk_drewN ?_ _ | refine blk_drew ?_ | refine blk_alloc ?_ _)); refine blk_put (cs := #[.int .i64 ((rd_T76 y109 x33_1).f0), .int .i64 ((rd_T76 y109 x33_1).f1), .int .i64 0, .int .i64 0]) ?_ 2 _ rfl; (with_reducible repeat (first | refine blk_drewN ?_ _ | refine blk_drew ?_ | refine blk_alloc ?_ _)); refine blk_put (cs := #[.int .i64 ((rd_T76 y109 x33_1).f0), .int .i64 0, .int .i64 0, .int .i64 0]) ?_ 1 _ rfl; (with_reducible repeat (first | refine blk_drewN ?_ _ | refine blk_drew ?_ | refine blk_alloc ?_ _)); refine blk_put (cs := #[.int .i64 0, .int .i64 0, .int .i64 0, .int .i64 0]) ?_ 0 _ rfl; (with_reducible repeat (first | refine blk_drewN ?_ _ | refine blk_drew ?_ | refine blk_alloc ?_ _)); exact BK113.out⟩
       have n2_ : Aside0 (Below w.heap.size w ((((w25.setCell ⟨gb113, 0, none⟩ (.int .i64 ((rd_T76 y109 x33_1).f0))).setCell ⟨gb113, 1, none⟩ (.int .i64 ((rd_T76 y109 x33_1).f1))).setCell ⟨gb113, 2, none⟩ (.int .i64 ((rd_T76 y109 x33_1).f2))).setCell ⟨gb113, 3, none⟩ (.int .i64 ((rd_T76 y109 x33_1).f3)))) := ⟨by repeat (first | (with_reducible first | exact HB.out | apply below_alloc | apply pw_below_drewN | apply below_drew1 | refine below_set ?_ GE113.out) | exact HB.out)⟩
       (try clear HO_31)
       (try clear BK113)
       (try clear HB)
       generalize ((((w25.setCell ⟨gb113, 0, none⟩ (.int .i64 ((rd_T76 y109 x33_1).f0))).setCell ⟨gb113, 1, none⟩ (.int .i64 ((rd_T76 y109 x33_1).f1))).setCell ⟨gb113, 2, none⟩ (.int .i64 ((rd_T76 y109 x33_1).f2))).setCell ⟨gb113, 3, none⟩ (.int .i64 ((rd_T76 y109 x33_1).f3))) = w27 at n0_ n1_ n2_ ⊢
       have HO_31 := n0_
       have BK113 := n1_
       have HB := n2_
       clear n0_ n1_ n2_
       have n0_ := Aside0.mk (Kd.R_drew HO_31.out)
       have n1_ := Aside0.mk (blk_drew BK113.out)
       have n2_ := Aside0.mk (below_drew1 HB.out)
       clear HO_31
       clear BK113
       clear HB
       have HO_31 := n0_
       have BK113 := n1_
       have HB := n2_
       clear n0_ n1_ n2_
       refine start_ (n := 14) (S := fun w' => w'.cell? ⟨gb113, 0, none⟩ = some (.int .i64 ((rd_T76 y109 x33_1).f0)) ∧ w'.cell? ⟨gb113, 1, none⟩ = some (.int .i64 ((rd_T76 y109 x33_1).f1)) ∧ w'.cell? ⟨gb113, 2, none⟩ = some (.int .i64 ((rd_T76 y109 x33_1).f2)) ∧ w'.cell? ⟨gb113, 3, none⟩ = some (.int .i64 ((rd_T76 y109 x33_1).f3))) (ds := []) #[false, false, false, false, false, false, false, false, false, false, false, false, false, false] (by kernel_rfl) rfl rfl ⟨(blk_cell BK113.out 0).trans rfl, (blk_cell BK113.out 1).trans rfl, (blk_cell BK113.out 2).trans rfl, (blk_cell BK113.out 3).trans rfl⟩ (fun hHeld => ?_); refine with_tabW fastilaw29_sane.tab4 fastilaw29_sane.bits4 (fun HT_ HW_ => ?_)
       generalize w27.drew = w28 at HO_31 BK113 HB hHeld ⊢
       refine pure_ (i := 0) (N := some 38) (v := ?_) (a' := ?_) #[true, false, false, false, false, false, false, false, false, false, false, false, false, false] rfl rfl (any_of HT_.out (by kernel_rfl)) (fun _ _ _ h => h) (Or.inl ⟨by rfl, ?_⟩) ?_ ?_
       rotate_left
       ·intro w'
        go_simp
        with_reducible rfl
       rotate_left
       ·simp only [Act.put, List.setIfInBounds_toArray, List.set_cons_zero, List.set_cons_succ, i64_w, i32_w]
        rfl
       refine pure_ (i := 3) (N := some 41) (v := ?_) (a' := ?_) #[true, false, false, true, false, false, false, false, false, false, false, false, false, false] rfl rfl (any_of HT_.out (by kernel_rfl)) (fun _ _ _ h => h) (Or.inl ⟨by rfl, ?_⟩) ?_ ?_
       rotate_left
       ·intro w'
        go_simp
        with_reducible rfl
       rotate_left
       ·simp only [Act.put, List.setIfInBounds_toArray, List.set_cons_zero, List.set_cons_succ, i64_w, i32_w]
        rfl
       refine pure_ (i := 5) (N := some 43) (v := ?_) (a' := ?_) #[true, false, false, true, false, true, false, false, false, false, false, false, false, false] rfl rfl (any_of HT_.out (by kernel_rfl)) (fun _ _ _ h => h) (Or.inl ⟨by rfl, ?_⟩) ?_ ?_
       rotate_left
       ·intro w'
        go_simp
        with_reducible rfl
       rotate_left
       ·simp only [Act.put, List.setIfInBounds_toArray, List.set_cons_zero, List.set_cons_succ, i64_w, i32_w]
        rfl
       refine take_ (i := 1) (N := some 39) (v := ?_) (a' := ?_) #[true, true, false, true, false, true, false, false, false, false, false, false, false, false] rfl rfl (take_ofW HT_.out HW_.out (by kernel_rfl)) (fun _ _ _ h => h) (Or.inl ⟨by rfl, ?_⟩) hHeld ?_ ?_
       rotate_left
       ·rintro w' ⟨s0, s1, s2, s3⟩
        go_simp
        with_reducible rfl
       rotate_left
       ·simp only [Act.put, List.setIfInBounds_toArray, List.set_cons_zero, List.set_cons_succ, i64_w, i32_w]
        rfl
       refine take_ (i := 4) (N := some 42) (v := ?_) (a' := ?_) #[true, true, false, true, true, true, false, false, false, false, false, false, false, false] rfl rfl (take_ofW HT_.out HW_.out (by kernel_rfl)) (fun _ _ _ h => h) (Or.inl ⟨by rfl, ?_⟩) hHeld ?_ ?_
       rotate_left
       ·rintro w' ⟨s0, s1, s2, s3⟩
        go_simp
        with_reducible rfl
       rotate_left
       ·simp only [Act.put, List.setIfInBounds_toArray, List.set_cons_zero, List.set_cons_succ, i64_w, i32_w]
        rfl
       refine take_ (i := 6) (N := some 44) (v := ?_) (a' := ?_) #[true, true, false, true, true, true, true, false, false, false, false, false, false, false] rfl rfl (take_ofW HT_.out HW_.out (by kernel_rfl)) (fun _ _ _ h => h) (Or.inl ⟨by rfl, ?_⟩) hHeld ?_ ?_
       rotate_left
       ·rintro w' ⟨s0, s1, s2, s3⟩
        go_simp
        with_reducible rfl
       rotate_left
       ·simp only [Act.put, List.setIfInBounds_toArray, List.set_cons_zero, List.set_cons_succ, i64_w, i32_w]
        rfl
       refine pure_ (i := 7) (N := some 45) (v := ?_) (a' := ?_) #[true, true, false, true, true, true, true, true, false, false, false, false, false, false] rfl rfl (any_of HT_.out (by kernel_rfl)) (fun _ _ _ h => h) (Or.inl ⟨by rfl, ?_⟩) ?_ ?_
       rotate_left
       ·intro w'
        go_simp
        with_reducible rfl
       rotate_left
       ·simp only [Act.put, List.setIfInBounds_toArray, List.set_cons_zero, List.set_cons_succ, i64_w, i32_w]
        rfl
       refine one_ (i := 2) (N := some 40) #[true, true, true, true, true, true, true, true, false, false, false, false, false, false] rfl rfl (one_of HT_.out (by kernel_rfl)) (by decide) (fun K hK => ?_)
       refine goes_ Try.func38 (by kernel_rfl) rfl #[.int .i64 ((rd_T76 y109 x33_1).f0)] (by rfl) rfl rfl (by (try simp only [List.map_toArray, List.map_cons, List.map_nil]); first | done | rfl | (simp only [List.length_drop, List.length_take]; rfl)) ?_
       with_reducible refine (fastilaw29_pitch.calls ((rd_T76 y109 x33_1).f0) t114 t115 t116 t117 t118 t119 t120 _ A7.out).mono ?_
       rintro e w29 ⟨rfl, hb⟩
       refine ⟨_, rfl, ?_⟩
       have n0_ := Aside0.mk (Kd.R_below (by (with_reducible repeat (first | apply Kd.R_alloc | apply Kd.R_drewN | apply Kd.R_drew)); exact HO_31.out) hb)
       have n1_ := Aside0.mk (zb BK113.out hb)
       have n2_ := Aside0.mk (below_step (by repeat (first | (with_reducible first | exact HB.out | apply below_alloc | apply pw_below_drewN | apply below_drew1 | refine below_set ?_ GE113.out) | exact HB.out)) hb)
       clear HO_31
       clear BK113
       clear HB
       have HO_31 := n0_
       have BK113 := n1_
       have HB := n2_
       clear n0_ n1_ n2_
       (try clear hb)
       (try clear hb2)
       (try clear hk)
       (try clear hi)
       refine hK.out _ _ ⟨(blk_cell BK113.out 0).trans rfl, (blk_cell BK113.out 1).trans rfl, (blk_cell BK113.out 2).trans rfl, (blk_cell BK113.out 3).trans rfl⟩ (fun hHeld => ?_)
       clear hK K
       refine norm_ (a' := ?_) ?_ ?_
       rotate_left
       ·show Act.put _ (some 40) _ = _
        simp only [Act.put, List.setIfInBounds_toArray, List.set_cons_zero, List.set_cons_succ, i64_w, i32_w]
        rfl
       refine one_ (i := 8) (N := some 46) #[true, true, true, true, true, true, true, true, true, false, false, false, false, false] rfl rfl (one_of HT_.out (by kernel_rfl)) (by decide) (fun K hK => ?_)
       refine goes_ Try.func16 (by kernel_rfl) rfl #[.agg #[.string t114, .string t115, .int .i64 t116, .int .i64 t117, .int .i64 t118, .int .i64 t119, .int .i64 t120], .agg #[.int .i64 ((rd_T76 y109 x33_1).f1), .int .i64 ((rd_T76 y109 x33_1).f2)]] (by rfl) rfl rfl (by (try simp only [List.map_toArray, List.map_cons, List.map_nil]); first | done | rfl | (simp only [List.length_drop, List.length_take]; rfl)) ?_
       with_reducible refine (bearing_Bears.calls t114 t115 t116 t117 t118 t119 t120 ((rd_T76 y109 x33_1).f1) ((rd_T76 y109 x33_1).f2) t121 t122 _ A8.out).mono ?_
       rintro e w30 ⟨rfl, hb⟩
       refine ⟨_, rfl, ?_⟩
       have n0_ := Aside0.mk (Kd.R_below (by (with_reducible repeat (first | apply Kd.R_alloc | apply Kd.R_drewN | apply Kd.R_drew)); exact HO_31.out) hb)
       have n1_ := Aside0.mk (zb BK113.out hb)
       have n2_ := Aside0.mk (below_step (by repeat (first | (with_reducible first | exact HB.out | apply below_alloc | apply pw_below_drewN | apply below_drew1 | refine below_set ?_ GE113.out) | exact HB.out)) hb)
       clear HO_31
       clear BK113
       clear HB
       have HO_31 := n0_
       have BK113 := n1_
       have HB := n2_
       clear n0_ n1_ n2_
       (try clear hb)
       (try clear hb2)
       (try clear hk)
       (try clear hi)
       refine hK.out _ _ ⟨(blk_cell BK113.out 0).trans rfl, (blk_cell BK113.out 1).trans rfl, (blk_cell BK113.out 2).trans rfl, (blk_cell BK113.out 3).trans rfl⟩ (fun hHeld => ?_)
       clear hK K
       refine norm_ (a' := ?_) ?_ ?_
       rotate_left
       ·show Act.put _ (some 46) _ = _
        simp only [Act.put, List.setIfInBounds_toArray, List.set_cons_zero, List.set_cons_succ, i64_w, i32_w]
        rfl
       refine pure_ (i := 9) (N := some 37) (v := ?_) (a' := ?_) #[true, true, true, true, true, true, true, true, true, true, false, false, false, false] rfl rfl (any_of HT_.out (by kernel_rfl)) (fun _ _ _ h => h) (Or.inl ⟨by rfl, ?_⟩) ?_ ?_
       rotate_left
       ·intro w'
        go_simp
        with_reducible rfl
       rotate_left
       ·simp only [Act.put, List.setIfInBounds_toArray, List.set_cons_zero, List.set_cons_succ, i64_w, i32_w]
        rfl
       refine pure_ (i := 10) (N := some 47) (v := ?_) (a' := ?_) #[true, true, true, true, true, true, true, true, true, true, true, false, false, false] rfl rfl (any_of HT_.out (by kernel_rfl)) (fun _ _ _ h => h) (Or.inl ⟨by rfl, ?_⟩) ?_ ?_
       rotate_left
       ·intro w'
        go_simp
        with_reducible rfl
       rotate_left
       ·simp only [Act.put, List.setIfInBounds_toArray, List.set_cons_zero, List.set_cons_succ, i64_w, i32_w]
        rfl
       refine pure_ (i := 11) (N := some 48) (v := ?_) (a' := ?_) #[true, true, true, true, true, true, true, true, true, true, true, true, false, false] rfl rfl (any_of HT_.out (by kernel_rfl)) (fun _ _ _ h => h) (Or.inl ⟨by rfl, ?_⟩) ?_ ?_
       rotate_left
       ·intro w'
        go_simp
        with_reducible rfl
       rotate_left
       ·simp only [Act.put, List.setIfInBounds_toArray, List.set_cons_zero, List.set_cons_succ, i64_w, i32_w]
        rfl
       refine pure_ (i := 12) (N := some 3) (v := ?_) (a' := ?_) #[true, true, true, true, true, true, true, true, true, true, true, true, true, false] rfl rfl (any_of HT_.out (by kernel_rfl)) (fun _ _ _ h => h) (Or.inl ⟨by rfl, ?_⟩) ?_ ?_
       rotate_left
       ·intro w'
        go_simp
        with_reducible rfl
       rotate_left
       ·simp only [Act.put, List.setIfInBounds_toArray, List.set_cons_zero, List.set_cons_succ, i64_w, i32_w]
        rfl
       refine pure_ (i := 13) (N := some 4) (v := ?_) (a' := ?_) #[true, true, true, true, true, true, true, true, true, true, true, true, true, true] rfl rfl (any_of HT_.out (by kernel_rfl)) (fun _ _ _ h => h) (Or.inl ⟨by rfl, ?_⟩) ?_ ?_
       rotate_left
       ·intro w'
        go_simp
        with_reducible rfl
       rotate_left
       ·simp only [Act.put, List.setIfInBounds_toArray, List.set_cons_zero, List.set_cons_succ, i64_w, i32_w]
        rfl
       refine done_ (done_of HT_.out (by kernel_rfl)) ?_
       have hcz31_0 : w30.cell? ⟨gb113, 0, none⟩ = some (.int .i64 ((rd_T76 y109 x33_1).f0)) := (blk_cell BK113.out 0).trans rfl
       have hcz31_1 : w30.cell? ⟨gb113, 1, none⟩ = some (.int .i64 ((rd_T76 y109 x33_1).f1)) := (blk_cell BK113.out 1).trans rfl
       have hcz31_2 : w30.cell? ⟨gb113, 2, none⟩ = some (.int .i64 ((rd_T76 y109 x33_1).f2)) := (blk_cell BK113.out 2).trans rfl
       have hcz31_3 : w30.cell? ⟨gb113, 3, none⟩ = some (.int .i64 ((rd_T76 y109 x33_1).f3)) := (blk_cell BK113.out 3).trans rfl
       have hfz31_0 := blk_frozen BK113.out 0
       have hfz31_1 := blk_frozen BK113.out 1
       have hfz31_2 := blk_frozen BK113.out 2
       have hfz31_3 := blk_frozen BK113.out 3
       try go_wp2
       go_ret
       exact ⟨by first | rfl | (simp [errW_none, errW_some] <;> rfl) | (simp [*, errW_none, errW_some] <;> rfl), by repeat (first | (with_reducible first | exact HB.out | apply below_alloc | apply pw_below_drewN | apply below_drew1 | refine below_set ?_ GE113.out) | exact HB.out)⟩
     ·rw [if_neg c6] at H
      exact absurd H (by simp)
    ·rw [if_neg c5] at H
     exact absurd H (by simp)
   ·rw [if_neg c4] at H
    have c4b0 : decide (x33_1 < (y109.length : Int)) = false := decide_eq_false c4
    clear c4
    replace H := Option.bind_eq_some_iff.mp H
    obtain ⟨⟨t125, t126, t127, t128, t129, t130, t131⟩, A320, H⟩ := H
    have e_ := Option.some.inj (A320.symm.trans (show fastilaw29_pitch.f 300 = some ((⟨#[]⟩ : ByteArray), (⟨#[]⟩ : ByteArray), 0, 300, 0, 0, 1) by kernel_rfl))
    simp only [Prod.mk.injEq] at e_
    obtain ⟨rfl, rfl, rfl, rfl, rfl, rfl, rfl⟩ := e_
    replace H : ((bearing_Risk.f (⟨#[]⟩ : ByteArray) (⟨#[]⟩ : ByteArray) 0 300 0 0 1 0 1000).bind fun bt132 => ((fastilaw29_pitch.f 300).bind fun bt135 => ((bearing_Risk.f (⟨#[]⟩ : ByteArray) (⟨#[]⟩ : ByteArray) 0 300 0 0 1 298 301).bind fun bt142 => ((fastilaw29_pitch.f 300).bind fun bt145 => ((bearing_Permit.f k1 (⟨#[]⟩ : ByteArray) (⟨#[]⟩ : ByteArray) 0 300 0 0 1 0 1000 299 true).bind fun bt152 => ((fastilaw29_pitch.f 300).bind fun bt154 => ((bearing_Permit.f k1 (⟨#[]⟩ : ByteArray) (⟨#[]⟩ : ByteArray) 0 300 0 0 1 0 1000 300 true).bind fun bt161 => ((fastilaw29_pitch.f 300).bind fun bt163 => ((bearing_Permit.f k1 (⟨#[]⟩ : ByteArray) (⟨#[]⟩ : ByteArray) 0 300 0 0 1 0 299 1000 true).bind fun bt170 => ((fastilaw29_pitch.f 300).bind fun bt172 => ((bearing_Permit.f k1 (⟨#[]⟩ : ByteArray) (⟨#[]⟩ : ByteArray) 0 300 0 0 1 298 301 500 true).bind fun bt179 => ((fastilaw29_pitch.f 300).bind fun bt181 => ((bearing_Permit.f k1 (⟨#[]⟩ : ByteArray) (⟨#[]⟩ : ByteArray) 0 300 0 0 1 0 1000 1001 true).bind fun bt188 => ((fastilaw29_pitch.f 1001).bind fun bt190 => ((bearing_Bears.f (⟨#[]⟩ : ByteArray) (⟨#[]⟩ : ByteArray) 0 1001 0 0 1 0 1000).bind fun bt197 => ((fastilaw29_pitch.f 0).bind fun bt199 => ((bearing_Bears.f (⟨#[]⟩ : ByteArray) (⟨#[]⟩ : ByteArray) 0 0 0 0 1 1 0).bind fun bt206 => (some true)))))))))))))))))) = some r := H
    have A32 := Aside0.mk A320
    clear A320
    replace H := Option.bind_eq_some_iff.mp H
    obtain ⟨⟨t132, t133, t134⟩, A330, H⟩ := H
    have e_ := Option.some.inj (A330.symm.trans (show bearing_Risk.f (⟨#[]⟩ : ByteArray) (⟨#[]⟩ : ByteArray) 0 300 0 0 1 0 1000 = some (300, 1001, 0) by kernel_rfl))
    simp only [Prod.mk.injEq] at e_
    obtain ⟨rfl, rfl, rfl⟩ := e_
    replace H : ((fastilaw29_pitch.f 300).bind fun bt135 => ((bearing_Risk.f (⟨#[]⟩ : ByteArray) (⟨#[]⟩ : ByteArray) 0 300 0 0 1 298 301).bind fun bt142 => ((fastilaw29_pitch.f 300).bind fun bt145 => ((bearing_Permit.f k1 (⟨#[]⟩ : ByteArray) (⟨#[]⟩ : ByteArray) 0 300 0 0 1 0 1000 299 true).bind fun bt152 => ((fastilaw29_pitch.f 300).bind fun bt154 => ((bearing_Permit.f k1 (⟨#[]⟩ : ByteArray) (⟨#[]⟩ : ByteArray) 0 300 0 0 1 0 1000 300 true).bind fun bt161 => ((fastilaw29_pitch.f 300).bind fun bt163 => ((bearing_Permit.f k1 (⟨#[]⟩ : ByteArray) (⟨#[]⟩ : ByteArray) 0 300 0 0 1 0 299 1000 true).bind fun bt170 => ((fastilaw29_pitch.f 300).bind fun bt172 => ((bearing_Permit.f k1 (⟨#[]⟩ : ByteArray) (⟨#[]⟩ : ByteArray) 0 300 0 0 1 298 301 500 true).bind fun bt179 => ((fastilaw29_pitch.f 300).bind fun bt181 => ((bearing_Permit.f k1 (⟨#[]⟩ : ByteArray) (⟨#[]⟩ : ByteArray) 0 300 0 0 1 0 1000 1001 true).bind fun bt188 => ((fastilaw29_pitch.f 1001).bind fun bt190 => ((bearing_Bears.f (⟨#[]⟩ : ByteArray) (⟨#[]⟩ : ByteArray) 0 1001 0 0 1 0 1000).bind fun bt197 => ((fastilaw29_pitch.f 0).bind fun bt199 => ((bearing_Bears.f (⟨#[]⟩ : ByteArray) (⟨#[]⟩ : ByteArray) 0 0 0 0 1 1 0).bind fun bt206 => (some true))))))))))))))))) = some r := H
    have A33 := Aside0.mk A330
    clear A330
    replace H := Option.bind_eq_some_iff.mp H
    obtain ⟨⟨t135, t136, t137, t138, t139, t140, t141⟩, A340, H⟩ := H
    have e_ := Option.some.inj (A340.symm.trans (show fastilaw29_pitch.f 300 = some ((⟨#[]⟩ : ByteArray), (⟨#[]⟩ : ByteArray), 0, 300, 0, 0, 1) by kernel_rfl))
    simp only [Prod.mk.injEq] at e_
    obtain ⟨rfl, rfl, rfl, rfl, rfl, rfl, rfl⟩ := e_
    replace H : ((bearing_Risk.f (⟨#[]⟩ : ByteArray) (⟨#[]⟩ : ByteArray) 0 300 0 0 1 298 301).bind fun bt142 => ((fastilaw29_pitch.f 300).bind fun bt145 => ((bearing_Permit.f k1 (⟨#[]⟩ : ByteArray) (⟨#[]⟩ : ByteArray) 0 300 0 0 1 0 1000 299 true).bind fun bt152 => ((fastilaw29_pitch.f 300).bind fun bt154 => ((bearing_Permit.f k1 (⟨#[]⟩ : ByteArray) (⟨#[]⟩ : ByteArray) 0 300 0 0 1 0 1000 300 true).bind fun bt161 => ((fastilaw29_pitch.f 300).bind fun bt163 => ((bearing_Permit.f k1 (⟨#[]⟩ : ByteArray) (⟨#[]⟩ : ByteArray) 0 300 0 0 1 0 299 1000 true).bind fun bt170 => ((fastilaw29_pitch.f 300).bind fun bt172 => ((bearing_Permit.f k1 (⟨#[]⟩ : ByteArray) (⟨#[]⟩ : ByteArray) 0 300 0 0 1 298 301 500 true).bind fun bt179 => ((fastilaw29_pitch.f 300).bind fun bt181 => ((bearing_Permit.f k1 (⟨#[]⟩ : ByteArray) (⟨#[]⟩ : ByteArray) 0 300 0 0 1 0 1000 1001 true).bind fun bt188 => ((fastilaw29_pitch.f 1001).bind fun bt190 => ((bearing_Bears.f (⟨#[]⟩ : ByteArray) (⟨#[]⟩ : ByteArray) 0 1001 0 0 1 0 1000).bind fun bt197 => ((fastilaw29_pitch.f 0).bind fun bt199 => ((bearing_Bears.f (⟨#[]⟩ : ByteArray) (⟨#[]⟩ : ByteArray) 0 0 0 0 1 1 0).bind fun bt206 => (some true)))))))))))))))) = some r := H
    have A34 := Aside0.mk A340
    clear A340
    replace H := Option.bind_eq_some_iff.mp H
    obtain ⟨⟨t142, t143, t144⟩, A350, H⟩ := H
    have e_ := Option.some.inj (A350.symm.trans (show bearing_Risk.f (⟨#[]⟩ : ByteArray) (⟨#[]⟩ : ByteArray) 0 300 0 0 1 298 301 = some (2, 4, 0) by kernel_rfl))
    simp only [Prod.mk.injEq] at e_
    obtain ⟨rfl, rfl, rfl⟩ := e_
    replace H : ((fastilaw29_pitch.f 300).bind fun bt145 => ((bearing_Permit.f k1 (⟨#[]⟩ : ByteArray) (⟨#[]⟩ : ByteArray) 0 300 0 0 1 0 1000 299 true).bind fun bt152 => ((fastilaw29_pitch.f 300).bind fun bt154 => ((bearing_Permit.f k1 (⟨#[]⟩ : ByteArray) (⟨#[]⟩ : ByteArray) 0 300 0 0 1 0 1000 300 true).bind fun bt161 => ((fastilaw29_pitch.f 300).bind fun bt163 => ((bearing_Permit.f k1 (⟨#[]⟩ : ByteArray) (⟨#[]⟩ : ByteArray) 0 300 0 0 1 0 299 1000 true).bind fun bt170 => ((fastilaw29_pitch.f 300).bind fun bt172 => ((bearing_Permit.f k1 (⟨#[]⟩ : ByteArray) (⟨#[]⟩ : ByteArray) 0 300 0 0 1 298 301 500 true).bind fun bt179 => ((fastilaw29_pitch.f 300).bind fun bt181 => ((bearing_Permit.f k1 (⟨#[]⟩ : ByteArray) (⟨#[]⟩ : ByteArray) 0 300 0 0 1 0 1000 1001 true).bind fun bt188 => ((fastilaw29_pitch.f 1001).bind fun bt190 => ((bearing_Bears.f (⟨#[]⟩ : ByteArray) (⟨#[]⟩ : ByteArray) 0 1001 0 0 1 0 1000).bind fun bt197 => ((fastilaw29_pitch.f 0).bind fun bt199 => ((bearing_Bears.f (⟨#[]⟩ : ByteArray) (⟨#[]⟩ : ByteArray) 0 0 0 0 1 1 0).bind fun bt206 => (some true))))))))))))))) = some r := H
    have A35 := Aside0.mk A350
    clear A350
    replace H := Option.bind_eq_some_iff.mp H
    obtain ⟨⟨t145, t146, t147, t148, t149, t150, t151⟩, A360, H⟩ := H
    have e_ := Option.some.inj (A360.symm.trans (show fastilaw29_pitch.f 300 = some ((⟨#[]⟩ : ByteArray), (⟨#[]⟩ : ByteArray), 0, 300, 0, 0, 1) by kernel_rfl))
    simp only [Prod.mk.injEq] at e_
    obtain ⟨rfl, rfl, rfl, rfl, rfl, rfl, rfl⟩ := e_
    replace H : ((bearing_Permit.f k1 (⟨#[]⟩ : ByteArray) (⟨#[]⟩ : ByteArray) 0 300 0 0 1 0 1000 299 true).bind fun bt152 => ((fastilaw29_pitch.f 300).bind fun bt154 => ((bearing_Permit.f k1 (⟨#[]⟩ : ByteArray) (⟨#[]⟩ : ByteArray) 0 300 0 0 1 0 1000 300 true).bind fun bt161 => ((fastilaw29_pitch.f 300).bind fun bt163 => ((bearing_Permit.f k1 (⟨#[]⟩ : ByteArray) (⟨#[]⟩ : ByteArray) 0 300 0 0 1 0 299 1000 true).bind fun bt170 => ((fastilaw29_pitch.f 300).bind fun bt172 => ((bearing_Permit.f k1 (⟨#[]⟩ : ByteArray) (⟨#[]⟩ : ByteArray) 0 300 0 0 1 298 301 500 true).bind fun bt179 => ((fastilaw29_pitch.f 300).bind fun bt181 => ((bearing_Permit.f k1 (⟨#[]⟩ : ByteArray) (⟨#[]⟩ : ByteArray) 0 300 0 0 1 0 1000 1001 true).bind fun bt188 => ((fastilaw29_pitch.f 1001).bind fun bt190 => ((bearing_Bears.f (⟨#[]⟩ : ByteArray) (⟨#[]⟩ : ByteArray) 0 1001 0 0 1 0 1000).bind fun bt197 => ((fastilaw29_pitch.f 0).bind fun bt199 => ((bearing_Bears.f (⟨#[]⟩ : ByteArray) (⟨#[]⟩ : ByteArray) 0 0 0 0 1 1 0).bind fun bt206 => (some true)))))))))))))) = some r := H
    have A36 := Aside0.mk A360
    clear A360
    replace H := Option.bind_eq_some_iff.mp H
    obtain ⟨⟨t152, t153⟩, A370, H⟩ := H
    have e_ := lit_same (fun k_ => bearing_Permit.mono _ _ _ _ _ _ _ _ _ _ _ k_) (show bearing_Permit.f 60 (⟨#[]⟩ : ByteArray) (⟨#[]⟩ : ByteArray) 0 300 0 0 1 0 1000 299 true = some (false, 0) by kernel_rfl) A370
    simp only [Prod.mk.injEq] at e_
    obtain ⟨rfl, rfl⟩ := e_
    replace H : ((fastilaw29_pitch.f 300).bind fun bt154 => ((bearing_Permit.f k1 (⟨#[]⟩ : ByteArray) (⟨#[]⟩ : ByteArray) 0 300 0 0 1 0 1000 300 true).bind fun bt161 => ((fastilaw29_pitch.f 300).bind fun bt163 => ((bearing_Permit.f k1 (⟨#[]⟩ : ByteArray) (⟨#[]⟩ : ByteArray) 0 300 0 0 1 0 299 1000 true).bind fun bt170 => ((fastilaw29_pitch.f 300).bind fun bt172 => ((bearing_Permit.f k1 (⟨#[]⟩ : ByteArray) (⟨#[]⟩ : ByteArray) 0 300 0 0 1 298 301 500 true).bind fun bt179 => ((fastilaw29_pitch.f 300).bind fun bt181 => ((bearing_Permit.f k1 (⟨#[]⟩ : ByteArray) (⟨#[]⟩ : ByteArray) 0 300 0 0 1 0 1000 1001 true).bind fun bt188 => ((fastilaw29_pitch.f 1001).bind fun bt190 => ((bearing_Bears.f (⟨#[]⟩ : ByteArray) (⟨#[]⟩ : ByteArray) 0 1001 0 0 1 0 1000).bind fun bt197 => ((fastilaw29_pitch.f 0).bind fun bt199 => ((bearing_Bears.f (⟨#[]⟩ : ByteArray) (⟨#[]⟩ : ByteArray) 0 0 0 0 1 1 0).bind fun bt206 => (some true))))))))))))) = some r := H
    have A37 := Aside0.mk A370
    clear A370
    replace H := Option.bind_eq_some_iff.mp H
    obtain ⟨⟨t154, t155, t156, t157, t158, t159, t160⟩, A380, H⟩ := H
    have e_ := Option.some.inj (A380.symm.trans (show fastilaw29_pitch.f 300 = some ((⟨#[]⟩ : ByteArray), (⟨#[]⟩ : ByteArray), 0, 300, 0, 0, 1) by kernel_rfl))
    simp only [Prod.mk.injEq] at e_
    obtain ⟨rfl, rfl, rfl, rfl, rfl, rfl, rfl⟩ := e_
    replace H : ((bearing_Permit.f k1 (⟨#[]⟩ : ByteArray) (⟨#[]⟩ : ByteArray) 0 300 0 0 1 0 1000 300 true).bind fun bt161 => ((fastilaw29_pitch.f 300).bind fun bt163 => ((bearing_Permit.f k1 (⟨#[]⟩ : ByteArray) (⟨#[]⟩ : ByteArray) 0 300 0 0 1 0 299 1000 true).bind fun bt170 => ((fastilaw29_pitch.f 300).bind fun bt172 => ((bearing_Permit.f k1 (⟨#[]⟩ : ByteArray) (⟨#[]⟩ : ByteArray) 0 300 0 0 1 298 301 500 true).bind fun bt179 => ((fastilaw29_pitch.f 300).bind fun bt181 => ((bearing_Permit.f k1 (⟨#[]⟩ : ByteArray) (⟨#[]⟩ : ByteArray) 0 300 0 0 1 0 1000 1001 true).bind fun bt188 => ((fastilaw29_pitch.f 1001).bind fun bt190 => ((bearing_Bears.f (⟨#[]⟩ : ByteArray) (⟨#[]⟩ : ByteArray) 0 1001 0 0 1 0 1000).bind fun bt197 => ((fastilaw29_pitch.f 0).bind fun bt199 => ((bearing_Bears.f (⟨#[]⟩ : ByteArray) (⟨#[]⟩ : ByteArray) 0 0 0 0 1 1 0).bind fun bt206 => (some true)))))))))))) = some r := H
    have A38 := Aside0.mk A380
    clear A380
    replace H := Option.bind_eq_some_iff.mp H
    obtain ⟨⟨t161, t162⟩, A390, H⟩ := H
    have e_ := lit_same (fun k_ => bearing_Permit.mono _ _ _ _ _ _ _ _ _ _ _ k_) (show bearing_Permit.f 60 (⟨#[]⟩ : ByteArray) (⟨#[]⟩ : ByteArray) 0 300 0 0 1 0 1000 300 true = some (true, 0) by kernel_rfl) A390
    simp only [Prod.mk.injEq] at e_
    obtain ⟨rfl, rfl⟩ := e_
    replace H : ((fastilaw29_pitch.f 300).bind fun bt163 => ((bearing_Permit.f k1 (⟨#[]⟩ : ByteArray) (⟨#[]⟩ : ByteArray) 0 300 0 0 1 0 299 1000 true).bind fun bt170 => ((fastilaw29_pitch.f 300).bind fun bt172 => ((bearing_Permit.f k1 (⟨#[]⟩ : ByteArray) (⟨#[]⟩ : ByteArray) 0 300 0 0 1 298 301 500 true).bind fun bt179 => ((fastilaw29_pitch.f 300).bind fun bt181 => ((bearing_Permit.f k1 (⟨#[]⟩ : ByteArray) (⟨#[]⟩ : ByteArray) 0 300 0 0 1 0 1000 1001 true).bind fun bt188 => ((fastilaw29_pitch.f 1001).bind fun bt190 => ((bearing_Bears.f (⟨#[]⟩ : ByteArray) (⟨#[]⟩ : ByteArray) 0 1001 0 0 1 0 1000).bind fun bt197 => ((fastilaw29_pitch.f 0).bind fun bt199 => ((bearing_Bears.f (⟨#[]⟩ : ByteArray) (⟨#[]⟩ : ByteArray) 0 0 0 0 1 1 0).bind fun bt206 => (some true))))))))))) = some r := H
    have A39 := Aside0.mk A390
    clear A390
    replace H := Option.bind_eq_some_iff.mp H
    obtain ⟨⟨t163, t164, t165, t166, t167, t168, t169⟩, A400, H⟩ := H
    have e_ := Option.some.inj (A400.symm.trans (show fastilaw29_pitch.f 300 = some ((⟨#[]⟩ : ByteArray), (⟨#[]⟩ : ByteArray), 0, 300, 0, 0, 1) by kernel_rfl))
    simp only [Prod.mk.injEq] at e_
    obtain ⟨rfl, rfl, rfl, rfl, rfl, rfl, rfl⟩ := e_
    replace H : ((bearing_Permit.f k1 (⟨#[]⟩ : ByteArray) (⟨#[]⟩ : ByteArray) 0 300 0 0 1 0 299 1000 true).bind fun bt170 => ((fastilaw29_pitch.f 300).bind fun bt172 => ((bearing_Permit.f k1 (⟨#[]⟩ : ByteArray) (⟨#[]⟩ : ByteArray) 0 300 0 0 1 298 301 500 true).bind fun bt179 => ((fastilaw29_pitch.f 300).bind fun bt181 => ((bearing_Permit.f k1 (⟨#[]⟩ : ByteArray) (⟨#[]⟩ : ByteArray) 0 300 0 0 1 0 1000 1001 true).bind fun bt188 => ((fastilaw29_pitch.f 1001).bind fun bt190 => ((bearing_Bears.f (⟨#[]⟩ : ByteArray) (⟨#[]⟩ : ByteArray) 0 1001 0 0 1 0 1000).bind fun bt197 => ((fastilaw29_pitch.f 0).bind fun bt199 => ((bearing_Bears.f (⟨#[]⟩ : ByteArray) (⟨#[]⟩ : ByteArray) 0 0 0 0 1 1 0).bind fun bt206 => (some true)))))))))) = some r := H
    have A40 := Aside0.mk A400
    clear A400
    replace H := Option.bind_eq_some_iff.mp H
    obtain ⟨⟨t170, t171⟩, A410, H⟩ := H
    have e_ := lit_same (fun k_ => bearing_Permit.mono _ _ _ _ _ _ _ _ _ _ _ k_) (show bearing_Permit.f 60 (⟨#[]⟩ : ByteArray) (⟨#[]⟩ : ByteArray) 0 300 0 0 1 0 299 1000 true = some (false, 0) by kernel_rfl) A410
    simp only [Prod.mk.injEq] at e_
    obtain ⟨rfl, rfl⟩ := e_
    replace H : ((fastilaw29_pitch.f 300).bind fun bt172 => ((bearing_Permit.f k1 (⟨#[]⟩ : ByteArray) (⟨#[]⟩ : ByteArray) 0 300 0 0 1 298 301 500 true).bind fun bt179 => ((fastilaw29_pitch.f 300).bind fun bt181 => ((bearing_Permit.f k1 (⟨#[]⟩ : ByteArray) (⟨#[]⟩ : ByteArray) 0 300 0 0 1 0 1000 1001 true).bind fun bt188 => ((fastilaw29_pitch.f 1001).bind fun bt190 => ((bearing_Bears.f (⟨#[]⟩ : ByteArray) (⟨#[]⟩ : ByteArray) 0 1001 0 0 1 0 1000).bind fun bt197 => ((fastilaw29_pitch.f 0).bind fun bt199 => ((bearing_Bears.f (⟨#[]⟩ : ByteArray) (⟨#[]⟩ : ByteArray) 0 0 0 0 1 1 0).bind fun bt206 => (some true))))))))) = some r := H
    have A41 := Aside0.mk A410
    clear A410
    replace H := Option.bind_eq_some_iff.mp H
    obtain ⟨⟨t172, t173, t174, t175, t176, t177, t178⟩, A420, H⟩ := H
    have e_ := Option.some.inj (A420.symm.trans (show fastilaw29_pitch.f 300 = some ((⟨#[]⟩ : ByteArray), (⟨#[]⟩ : ByteArray), 0, 300, 0, 0, 1) by kernel_rfl))
    simp only [Prod.mk.injEq] at e_
    obtain ⟨rfl, rfl, rfl, rfl, rfl, rfl, rfl⟩ := e_
    replace H : ((bearing_Permit.f k1 (⟨#[]⟩ : ByteArray) (⟨#[]⟩ : ByteArray) 0 300 0 0 1 298 301 500 true).bind fun bt179 => ((fastilaw29_pitch.f 300).bind fun bt181 => ((bearing_Permit.f k1 (⟨#[]⟩ : ByteArray) (⟨#[]⟩ : ByteArray) 0 300 0 0 1 0 1000 1001 true).bind fun bt188 => ((fastilaw29_pitch.f 1001).bind fun bt190 => ((bearing_Bears.f (⟨#[]⟩ : ByteArray) (⟨#[]⟩ : ByteArray) 0 1001 0 0 1 0 1000).bind fun bt197 => ((fastilaw29_pitch.f 0).bind fun bt199 => ((bearing_Bears.f (⟨#[]⟩ : ByteArray) (⟨#[]⟩ : ByteArray) 0 0 0 0 1 1 0).bind fun bt206 => (some true)))))))) = some r := H
    have A42 := Aside0.mk A420
    clear A420
    replace H := Option.bind_eq_some_iff.mp H
    obtain ⟨⟨t179, t180⟩, A430, H⟩ := H
    have e_ := lit_same (fun k_ => bearing_Permit.mono _ _ _ _ _ _ _ _ _ _ _ k_) (show bearing_Permit.f 60 (⟨#[]⟩ : ByteArray) (⟨#[]⟩ : ByteArray) 0 300 0 0 1 298 301 500 true = some (true, 0) by kernel_rfl) A430
    simp only [Prod.mk.injEq] at e_
    obtain ⟨rfl, rfl⟩ := e_
    replace H : ((fastilaw29_pitch.f 300).bind fun bt181 => ((bearing_Permit.f k1 (⟨#[]⟩ : ByteArray) (⟨#[]⟩ : ByteArray) 0 300 0 0 1 0 1000 1001 true).bind fun bt188 => ((fastilaw29_pitch.f 1001).bind fun bt190 => ((bearing_Bears.f (⟨#[]⟩ : ByteArray) (⟨#[]⟩ : ByteArray) 0 1001 0 0 1 0 1000).bind fun bt197 => ((fastilaw29_pitch.f 0).bind fun bt199 => ((bearing_Bears.f (⟨#[]⟩ : ByteArray) (⟨#[]⟩ : ByteArray) 0 0 0 0 1 1 0).bind fun bt206 => (some true))))))) = some r := H
    have A43 := Aside0.mk A430
    clear A430
    replace H := Option.bind_eq_some_iff.mp H
    obtain ⟨⟨t181, t182, t183, t184, t185, t186, t187⟩, A440, H⟩ := H
    have e_ := Option.some.inj (A440.symm.trans (show fastilaw29_pitch.f 300 = some ((⟨#[]⟩ : ByteArray), (⟨#[]⟩ : ByteArray), 0, 300, 0, 0, 1) by kernel_rfl))
    simp only [Prod.mk.injEq] at e_
    obtain ⟨rfl, rfl, rfl, rfl, rfl, rfl, rfl⟩ := e_
    replace H : ((bearing_Permit.f k1 (⟨#[]⟩ : ByteArray) (⟨#[]⟩ : ByteArray) 0 300 0 0 1 0 1000 1001 true).bind fun bt188 => ((fastilaw29_pitch.f 1001).bind fun bt190 => ((bearing_Bears.f (⟨#[]⟩ : ByteArray) (⟨#[]⟩ : ByteArray) 0 1001 0 0 1 0 1000).bind fun bt197 => ((fastilaw29_pitch.f 0).bind fun bt199 => ((bearing_Bears.f (⟨#[]⟩ : ByteArray) (⟨#[]⟩ : ByteArray) 0 0 0 0 1 1 0).bind fun bt206 => (some true)))))) = some r := H
    have A44 := Aside0.mk A440
    clear A440
    replace H := Option.bind_eq_some_iff.mp H
    obtain ⟨⟨t188, t189⟩, A450, H⟩ := H
    have e_ := lit_same (fun k_ => bearing_Permit.mono _ _ _ _ _ _ _ _ _ _ _ k_) (show bearing_Permit.f 60 (⟨#[]⟩ : ByteArray) (⟨#[]⟩ : ByteArray) 0 300 0 0 1 0 1000 1001 true = some (false, 290) by kernel_rfl) A450
    simp only [Prod.mk.injEq] at e_
    obtain ⟨rfl, rfl⟩ := e_
    replace H : ((fastilaw29_pitch.f 1001).bind fun bt190 => ((bearing_Bears.f (⟨#[]⟩ : ByteArray) (⟨#[]⟩ : ByteArray) 0 1001 0 0 1 0 1000).bind fun bt197 => ((fastilaw29_pitch.f 0).bind fun bt199 => ((bearing_Bears.f (⟨#[]⟩ : ByteArray) (⟨#[]⟩ : ByteArray) 0 0 0 0 1 1 0).bind fun bt206 => (some true))))) = some r := H
    have A45 := Aside0.mk A450
    clear A450
    replace H := Option.bind_eq_some_iff.mp H
    obtain ⟨⟨t190, t191, t192, t193, t194, t195, t196⟩, A460, H⟩ := H
    have e_ := Option.some.inj (A460.symm.trans (show fastilaw29_pitch.f 1001 = some ((⟨#[]⟩ : ByteArray), (⟨#[]⟩ : ByteArray), 0, 1001, 0, 0, 1) by kernel_rfl))
    simp only [Prod.mk.injEq] at e_
    obtain ⟨rfl, rfl, rfl, rfl, rfl, rfl, rfl⟩ := e_
    replace H : ((bearing_Bears.f (⟨#[]⟩ : ByteArray) (⟨#[]⟩ : ByteArray) 0 1001 0 0 1 0 1000).bind fun bt197 => ((fastilaw29_pitch.f 0).bind fun bt199 => ((bearing_Bears.f (⟨#[]⟩ : ByteArray) (⟨#[]⟩ : ByteArray) 0 0 0 0 1 1 0).bind fun bt206 => (some true)))) = some r := H
    have A46 := Aside0.mk A460
    clear A460
    replace H := Option.bind_eq_some_iff.mp H
    obtain ⟨⟨t197, t198⟩, A470, H⟩ := H
    have e_ := Option.some.inj (A470.symm.trans (show bearing_Bears.f (⟨#[]⟩ : ByteArray) (⟨#[]⟩ : ByteArray) 0 1001 0 0 1 0 1000 = some (0, 290) by kernel_rfl))
    simp only [Prod.mk.injEq] at e_
    obtain ⟨rfl, rfl⟩ := e_
    replace H : ((fastilaw29_pitch.f 0).bind fun bt199 => ((bearing_Bears.f (⟨#[]⟩ : ByteArray) (⟨#[]⟩ : ByteArray) 0 0 0 0 1 1 0).bind fun bt206 => (some true))) = some r := H
    have A47 := Aside0.mk A470
    clear A470
    replace H := Option.bind_eq_some_iff.mp H
    obtain ⟨⟨t199, t200, t201, t202, t203, t204, t205⟩, A480, H⟩ := H
    have e_ := Option.some.inj (A480.symm.trans (show fastilaw29_pitch.f 0 = some ((⟨#[]⟩ : ByteArray), (⟨#[]⟩ : ByteArray), 0, 0, 0, 0, 1) by kernel_rfl))
    simp only [Prod.mk.injEq] at e_
    obtain ⟨rfl, rfl, rfl, rfl, rfl, rfl, rfl⟩ := e_
    replace H : ((bearing_Bears.f (⟨#[]⟩ : ByteArray) (⟨#[]⟩ : ByteArray) 0 0 0 0 1 1 0).bind fun bt206 => (some true)) = some r := H
    have A48 := Aside0.mk A480
    clear A480
    replace H := Option.bind_eq_some_iff.mp H
    obtain ⟨⟨t206, t207⟩, A490, H⟩ := H
    have e_ := Option.some.inj (A490.symm.trans (show bearing_Bears.f (⟨#[]⟩ : ByteArray) (⟨#[]⟩ : ByteArray) 0 0 0 0 1 1 0 = some (0, 290) by kernel_rfl))
    simp only [Prod.mk.injEq] at e_
    obtain ⟨rfl, rfl⟩ := e_
    replace H : (some true) = some r := H
    have A49 := Aside0.mk A490
    clear A490
    obtain rfl := Option.some.inj H
    try go_wp2_with (first | ((with_reducible refine gate_dst (N := 5) rfl ?_); refine box_event ?hg (N := 5) ?hd (cs := #[.int .i64 0, .int .i64 0]) (t := 27) ?hr ?_; (case hd => rfl); (case hg => rfl); (case hr => first | (go_simp; done) | (go_simp; rfl)); intro gb123 hg w50 hbox hb; have n0_ := Aside0.mk (Kd.R_below (by (with_reducible repeat (first | apply Kd.R_alloc | apply Kd.R_drewN | apply Kd.R_drew)); exact HO_31.out) hb); have n1_ := Aside0.mk (below_step (by repeat (first | (with_reducible first | exact HB.out | apply below_alloc | apply pw_below_drewN | apply below_drew1) | exact HB.out)) hb); have n2_ := Aside0.mk (hbox); have n3_ := Aside0.mk ((by rw [hg]; exact (below_size (by repeat (first | (with_reducible first | exact HB.out | apply below_alloc | apply pw_below_drewN | apply below_drew1) | exact HB.out))) : w.heap.size ≤ gb123)); have n4_ := Aside0.mk ((by rw [hg]; exact (below_size (by repeat (first | (with_reducible first | exact HB.out | apply below_alloc | apply pw_below_drewN | apply below_drew1) | exact HB.out))) : w.heap.size ≤ gb123)); clear HO_31; clear HB; have HO_31 := n0_; have HB := n1_; have BK123 := n2_; have GW123 := n3_; have GE123 := n4_; clear n0_ n1_ n2_ n3_ n4_; clear hb hbox hg) | ((with_reducible refine gate_dst (N := 6) rfl ?_); refine box_event ?hg (N := 6) ?hd (cs := #[.int .i64 0, .int .i64 0]) (t := 27) ?hr ?_; (case hd => rfl); (case hg => rfl); (case hr => first | (go_simp; done) | (go_simp; rfl)); intro gb124 hg w51 hbox hb; have n0_ := Aside0.mk (Kd.R_below (by (with_reducible repeat (first | apply Kd.R_alloc | apply Kd.R_drewN | apply Kd.R_drew)); exact HO_31.out) hb); have n1_ := Aside0.mk (zb BK123.out hb); have n2_ := Aside0.mk (below_step (by repeat (first | (with_reducible first | exact HB.out | apply below_alloc | apply pw_below_drewN | apply below_drew1 | refine below_set ?_ GE123.out) | exact HB.out)) hb); have n3_ := Aside0.mk (hbox); have n4_ := Aside0.mk ((by rw [hg]; exact (below_size (by repeat (first | (with_reducible first | exact HB.out | apply below_alloc | apply pw_below_drewN | apply below_drew1 | refine below_set ?_ GE123.out) | exact HB.out))) : w.heap.size ≤ gb124)); have n5_ := Aside0.mk ((by rw [hg]; exact (below_size (by repeat (first | (with_reducible first | exact HB.out | apply below_alloc | apply pw_below_drewN | apply below_drew1 | refine below_set ?_ GE123.out) | exact HB.out))) : w.heap.size ≤ gb124)); have n6_ := Aside0.mk ((by rw [hg]; exact Nat.ne_of_lt (blk_lt (zk BK123.out)) : gb123 ≠ gb124)); have n7_ := Aside0.mk ((by rw [hg]; exact Nat.ne_of_gt (blk_lt (zk BK123.out)) : gb124 ≠ gb123)); clear HO_31; clear BK123; clear HB; have HO_31 := n0_; have BK123 := n1_; have HB := n2_; have BK124 := n3_; have GW124 := n4_; have GE124 := n5_; have NB123_124 := n6_; have NB124_123 := n7_; clear n0_ n1_ n2_ n3_ n4_ n5_ n6_ n7_; clear hb hbox hg; have hnb52 := NB123_124.out; have hnc52 := NB124_123.out; have hcz53_0 : w51.cell? ⟨gb123, 0, none⟩ = some (.int .i64 0) := (blk_cell BK123.out 0).trans rfl; have hcz53_1 : w51.cell? ⟨gb123, 1, none⟩ = some (.int .i64 0) := (blk_cell BK123.out 1).trans rfl; have hfz53_0 := blk_frozen BK123.out 0; have hfz53_1 := blk_frozen BK123.out 1; have hcz54_0 : w51.cell? ⟨gb124, 0, none⟩ = some (.int .i64 0) := (blk_cell BK124.out 0).trans rfl; have hcz54_1 : w51.cell? ⟨gb124, 1, none⟩ = some (.int .i64 0) := (blk_cell BK124.out 1).trans rfl; have hfz54_0 := blk_frozen BK124.out 0; have hfz54_1 := blk_frozen BK124.out 1))
    have n0_ : Aside0 (Kd.R k76 76 ((((w51.setCell ⟨gb123, 0, none⟩ (.int .i64 0)).setCell ⟨gb123, 1, none⟩ (.int .i64 1000)).setCell ⟨gb124, 0, none⟩ (.int .i64 0)).setCell ⟨gb124, 1, none⟩ (.int .i64 299)) w.heap.size (fun _ => True) (.slice Ao3 y109.length co3) y109) := ⟨by (with_reducible repeat (first | apply Kd.R_alloc | apply Kd.R_drewN | apply Kd.R_drew)); exact Kd.R_mono (Kd.R_far (p := ⟨gb124, 1, none⟩) (Kd.R_far (p := ⟨gb124, 0, none⟩) (Kd.R_far (p := ⟨gb123, 1, none⟩) (Kd.R_far (p := ⟨gb123, 0, none⟩) (Kd.R_types (Kd.R_types HO_31.out BK123.out (by decide)) BK124.out (by decide)) (fun _ hk => hk.1.2) (.int .i64 0)) (fun _ hk => hk.1.2) (.int .i64 1000)) (fun _ hk => hk.2) (.int .i64 0)) (fun _ hk => hk.2) (.int .i64 299)) (fun _ hk => trivial)⟩
    have n1_ : Aside0 (((((w51.setCell ⟨gb123, 0, none⟩ (.int .i64 0)).setCell ⟨gb123, 1, none⟩ (.int .i64 1000)).setCell ⟨gb124, 0, none⟩ (.int .i64 0)).setCell ⟨gb124, 1, none⟩ (.int .i64 299)).heap[gb123]? = some (.cells #[.int .i64 0, .int .i64 1000] 27 (0, 0))) := ⟨by (with_reducible repeat (first | refine blk_drewN ?_ _ | refine blk_drew ?_ | refine blk_alloc ?_ _)); refine blk_far ?_ NB123_124.out _; (with_reducible repeat (first | refine blk_drewN ?_ _ | refine blk_drew ?_ | refine blk_alloc ?_ _)); refine blk_far ?_ NB123_124.out _; (with_reducible repeat (first | refine blk_drewN ?_ _ | refine blk_drew ?_ | refine blk_alloc ?_ _)); refine blk_put (cs := #[.int .i64 0, .int .i64 0]) ?_ 1 _ rfl; (with_reducible repeat (first | refine blk_drewN ?_ _ | refine blk_drew ?_ | refine blk_alloc ?_ _)); refine blk_put (cs := #[.int .i64 0, .int .i64 0]) ?_ 0 _ rfl; (with_reducible repeat (first | refine blk_drewN ?_ _ | refine blk_drew ?_ | refine blk_alloc ?_ _)); exact BK123.out⟩
    have n2_ : Aside0 (((((w51.setCell ⟨gb123, 0, none⟩ (.int .i64 0)).setCell ⟨gb123, 1, none⟩ (.int .i64 1000)).setCell ⟨gb124, 0, none⟩ (.int .i64 0)).setCell ⟨gb124, 1, none⟩ (.int .i64 299)).heap[gb124]? = some (.cells #[.int .i64 0, .int .i64 299] 27 (0, 0))) := ⟨by (with_reducible repeat (first | refine blk_drewN ?_ _ | refine blk_drew ?_ | refine blk_alloc ?_ _)); refine blk_put (cs := #[.int .i64 0, .int .i64 0]) ?_ 1 _ rfl; (with_reducible repeat (first | refine blk_drewN ?_ _ | refine blk_drew ?_ | refine blk_alloc ?_ _)); refine blk_put (cs := #[.int .i64 0, .int .i64 0]) ?_ 0 _ rfl; (with_reducible repeat (first | refine blk_drewN ?_ _ | refine blk_drew ?_ | refine blk_alloc ?_ _)); refine blk_far ?_ NB124_123.out _; (with_reducible repeat (first | refine blk_drewN ?_ _ | refine blk_drew ?_ | refine blk_alloc ?_ _)); refine blk_far ?_ NB124_123.out _; (with_reducible repeat (first | refine blk_drewN ?_ _ | refine blk_drew ?_ | refine blk_alloc ?_ _)); exact BK124.out⟩
    have n3_ : Aside0 (Below w.heap.size w ((((w51.setCell ⟨gb123, 0, none⟩ (.int .i64 0)).setCell ⟨gb123, 1, none⟩ (.int .i64 1000)).setCell ⟨gb124, 0, none⟩ (.int .i64 0)).setCell ⟨gb124, 1, none⟩ (.int .i64 299))) := ⟨by repeat (first | (with_reducible first | exact HB.out | apply below_alloc | apply pw_below_drewN | apply below_drew1 | refine below_set ?_ GE123.out | refine below_set ?_ GE124.out) | exact HB.out)⟩
    (try clear HO_31)
    (try clear BK123)
    (try clear BK124)
    (try clear HB)
    generalize ((((w51.setCell ⟨gb123, 0, none⟩ (.int .i64 0)).setCell ⟨gb123, 1, none⟩ (.int .i64 1000)).setCell ⟨gb124, 0, none⟩ (.int .i64 0)).setCell ⟨gb124, 1, none⟩ (.int .i64 299)) = w55 at n0_ n1_ n2_ n3_ ⊢
    have HO_31 := n0_
    have BK123 := n1_
    have BK124 := n2_
    have HB := n3_
    clear n0_ n1_ n2_ n3_
    have n0_ := Aside0.mk (Kd.R_drew HO_31.out)
    have n1_ := Aside0.mk (blk_drew BK123.out)
    have n2_ := Aside0.mk (blk_drew BK124.out)
    have n3_ := Aside0.mk (below_drew1 HB.out)
    clear HO_31
    clear BK123
    clear BK124
    clear HB
    have HO_31 := n0_
    have BK123 := n1_
    have BK124 := n2_
    have HB := n3_
    clear n0_ n1_ n2_ n3_
    refine start_ (n := 10) (S := fun w' => w'.cell? ⟨gb123, 0, none⟩ = some (.int .i64 0) ∧ w'.cell? ⟨gb123, 1, none⟩ = some (.int .i64 1000)) (ds := []) #[false, false, false, false, false, false, false, false, false, false] (by kernel_rfl) rfl rfl ⟨(blk_cell BK123.out 0).trans rfl, (blk_cell BK123.out 1).trans rfl⟩ (fun hHeld => ?_); refine with_tabW fastilaw29_sane.tab9 fastilaw29_sane.bits9 (fun HT_ HW_ => ?_)
    generalize w55.drew = w56 at HO_31 BK123 BK124 HB hHeld ⊢
    refine take_ (i := 1) (N := some 62) (v := ?_) (a' := ?_) #[false, true, false, false, false, false, false, false, false, false] rfl rfl (take_ofW HT_.out HW_.out (by kernel_rfl)) (fun _ _ _ h => h) (Or.inl ⟨by rfl, ?_⟩) hHeld ?_ ?_
    rotate_left
    ·rintro w' ⟨s0, s1⟩
     go_simp
     with_reducible rfl
    rotate_left
    ·simp only [Act.put, List.setIfInBounds_toArray, List.set_cons_zero, List.set_cons_succ, i64_w, i32_w]
     rfl
    refine one_ (i := 0) (N := some 61) #[true, true, false, false, false, false, false, false, false, false] rfl rfl (one_of HT_.out (by kernel_rfl)) (by decide) (fun K hK => ?_)
    refine goes_ Try.func38 (by kernel_rfl) rfl #[.int .i64 300] (by rfl) rfl rfl (by (try simp only [List.map_toArray, List.map_cons, List.map_nil]); first | done | rfl | (simp only [List.length_drop, List.length_take]; rfl)) ?_
    with_reducible refine (fastilaw29_pitch.calls 300 (⟨#[]⟩ : ByteArray) (⟨#[]⟩ : ByteArray) 0 300 0 0 1 _ A32.out).mono ?_
    rintro e w57 ⟨rfl, hb⟩
    refine ⟨_, rfl, ?_⟩
    have n0_ := Aside0.mk (Kd.R_below (by (with_reducible repeat (first | apply Kd.R_alloc | apply Kd.R_drewN | apply Kd.R_drew)); exact HO_31.out) hb)
    have n1_ := Aside0.mk (zb BK123.out hb)
    have n2_ := Aside0.mk (zb BK124.out hb)
    have n3_ := Aside0.mk (below_step (by repeat (first | (with_reducible first | exact HB.out | apply below_alloc | apply pw_below_drewN | apply below_drew1 | refine below_set ?_ GE123.out | refine below_set ?_ GE124.out) | exact HB.out)) hb)
    clear HO_31
    clear BK123
    clear BK124
    clear HB
    have HO_31 := n0_
    have BK123 := n1_
    have BK124 := n2_
    have HB := n3_
    clear n0_ n1_ n2_ n3_
    (try clear hb)
    (try clear hb2)
    (try clear hk)
    (try clear hi)
    refine hK.out _ _ ⟨(blk_cell BK123.out 0).trans rfl, (blk_cell BK123.out 1).trans rfl⟩ (fun hHeld => ?_)
    clear hK K
    refine norm_ (a' := ?_) ?_ ?_
    rotate_left
    ·show Act.put _ (some 61) _ = _
     simp only [Act.put, List.setIfInBounds_toArray, List.set_cons_zero, List.set_cons_succ, i64_w, i32_w]
     rfl
    refine one_ (i := 2) (N := some 63) #[true, true, true, false, false, false, false, false, false, false] rfl rfl (one_of HT_.out (by kernel_rfl)) (by decide) (fun K hK => ?_)
    refine goes_ Try.func18 (by kernel_rfl) rfl #[.agg #[.string (⟨#[]⟩ : ByteArray), .string (⟨#[]⟩ : ByteArray), .int .i64 0, .int .i64 300, .int .i64 0, .int .i64 0, .int .i64 1], .agg #[.int .i64 0, .int .i64 1000]] (by rfl) rfl rfl (by (try simp only [List.map_toArray, List.map_cons, List.map_nil]); first | done | rfl | (simp only [List.length_drop, List.length_take]; rfl)) ?_
    with_reducible refine (bearing_Risk.calls (⟨#[]⟩ : ByteArray) (⟨#[]⟩ : ByteArray) 0 300 0 0 1 0 1000 300 1001 0 _ A33.out).mono ?_
    rintro e w58 ⟨rfl, hb⟩
    refine ⟨_, rfl, ?_⟩
    have n0_ := Aside0.mk (Kd.R_below (by (with_reducible repeat (first | apply Kd.R_alloc | apply Kd.R_drewN | apply Kd.R_drew)); exact HO_31.out) hb)
    have n1_ := Aside0.mk (zb BK123.out hb)
    have n2_ := Aside0.mk (zb BK124.out hb)
    have n3_ := Aside0.mk (below_step (by repeat (first | (with_reducible first | exact HB.out | apply below_alloc | apply pw_below_drewN | apply below_drew1 | refine below_set ?_ GE123.out | refine below_set ?_ GE124.out) | exact HB.out)) hb)
    clear HO_31
    clear BK123
    clear BK124
    clear HB
    have HO_31 := n0_
    have BK123 := n1_
    have BK124 := n2_
    have HB := n3_
    clear n0_ n1_ n2_ n3_
    (try clear hb)
    (try clear hb2)
    (try clear hk)
    (try clear hi)
    refine hK.out _ _ ⟨(blk_cell BK123.out 0).trans rfl, (blk_cell BK123.out 1).trans rfl⟩ (fun hHeld => ?_)
    clear hK K
    refine norm_ (a' := ?_) ?_ ?_
    rotate_left
    ·show Act.put _ (some 63) _ = _
     simp only [Act.put, List.setIfInBounds_toArray, List.set_cons_zero, List.set_cons_succ, i64_w, i32_w]
     rfl
    refine pure_ (i := 3) (N := some 60) (v := ?_) (a' := ?_) #[true, true, true, true, false, false, false, false, false, false] rfl rfl (any_of HT_.out (by kernel_rfl)) (fun _ _ _ h => h) (Or.inl ⟨by rfl, ?_⟩) ?_ ?_
    rotate_left
    ·intro w'
     go_simp
     with_reducible rfl
    rotate_left
    ·simp only [Act.put, List.setIfInBounds_toArray, List.set_cons_zero, List.set_cons_succ, i64_w, i32_w]
     rfl
    refine pure_ (i := 4) (N := some 64) (v := ?_) (a' := ?_) #[true, true, true, true, true, false, false, false, false, false] rfl rfl (any_of HT_.out (by kernel_rfl)) (fun _ _ _ h => h) (Or.inl ⟨by rfl, ?_⟩) ?_ ?_
    rotate_left
    ·intro w'
     go_simp
     with_reducible rfl
    rotate_left
    ·simp only [Act.put, List.setIfInBounds_toArray, List.set_cons_zero, List.set_cons_succ, i64_w, i32_w]
     rfl
    refine pure_ (i := 5) (N := some 65) (v := ?_) (a' := ?_) #[true, true, true, true, true, true, false, false, false, false] rfl rfl (any_of HT_.out (by kernel_rfl)) (fun _ _ _ h => h) (Or.inl ⟨by rfl, ?_⟩) ?_ ?_
    rotate_left
    ·intro w'
     go_simp
     with_reducible rfl
    rotate_left
    ·simp only [Act.put, List.setIfInBounds_toArray, List.set_cons_zero, List.set_cons_succ, i64_w, i32_w]
     rfl
    refine pure_ (i := 6) (N := some 66) (v := ?_) (a' := ?_) #[true, true, true, true, true, true, true, false, false, false] rfl rfl (any_of HT_.out (by kernel_rfl)) (fun _ _ _ h => h) (Or.inl ⟨by rfl, ?_⟩) ?_ ?_
    rotate_left
    ·intro w'
     go_simp
     with_reducible rfl
    rotate_left
    ·simp only [Act.put, List.setIfInBounds_toArray, List.set_cons_zero, List.set_cons_succ, i64_w, i32_w]
     rfl
    refine pure_ (i := 7) (N := some 7) (v := ?_) (a' := ?_) #[true, true, true, true, true, true, true, true, false, false] rfl rfl (any_of HT_.out (by kernel_rfl)) (fun _ _ _ h => h) (Or.inl ⟨by rfl, ?_⟩) ?_ ?_
    rotate_left
    ·intro w'
     go_simp
     with_reducible rfl
    rotate_left
    ·simp only [Act.put, List.setIfInBounds_toArray, List.set_cons_zero, List.set_cons_succ, i64_w, i32_w]
     rfl
    refine pure_ (i := 8) (N := some 8) (v := ?_) (a' := ?_) #[true, true, true, true, true, true, true, true, true, false] rfl rfl (any_of HT_.out (by kernel_rfl)) (fun _ _ _ h => h) (Or.inl ⟨by rfl, ?_⟩) ?_ ?_
    rotate_left
    ·intro w'
     go_simp
     with_reducible rfl
    rotate_left
    ·simp only [Act.put, List.setIfInBounds_toArray, List.set_cons_zero, List.set_cons_succ, i64_w, i32_w]
     rfl
    refine pure_ (i := 9) (N := some 9) (v := ?_) (a' := ?_) #[true, true, true, true, true, true, true, true, true, true] rfl rfl (any_of HT_.out (by kernel_rfl)) (fun _ _ _ h => h) (Or.inl ⟨by rfl, ?_⟩) ?_ ?_
    rotate_left
    ·intro w'
     go_simp
     with_reducible rfl
    rotate_left
    ·simp only [Act.put, List.setIfInBounds_toArray, List.set_cons_zero, List.set_cons_succ, i64_w, i32_w]
     rfl
    refine done_ (done_of HT_.out (by kernel_rfl)) ?_
    try go_wp2_with (first | ((with_reducible refine gate_callee (f := 38) rfl ?_); refine goesL_ (some 68) rfl rfl Try.func38 (by kernel_rfl) rfl #[.int .i64 300] rfl (by (try simp only [List.map_toArray, List.map_cons, List.map_nil]); first | done | rfl | (simp only [List.length_drop, List.length_take]; rfl)) ?_; (with_reducible refine (fastilaw29_pitch.calls 300 (⟨#[]⟩ : ByteArray) (⟨#[]⟩ : ByteArray) 0 300 0 0 1 _ A34.out).mono ?_); rintro e w59 ⟨rfl, hb⟩; refine ⟨_, rfl, ?_⟩; have n0_ := Aside0.mk (Kd.R_below (by (with_reducible repeat (first | apply Kd.R_alloc | apply Kd.R_drewN | apply Kd.R_drew)); exact HO_31.out) hb); have n1_ := Aside0.mk (zb BK123.out hb); have n2_ := Aside0.mk (zb BK124.out hb); have n3_ := Aside0.mk (below_step (by repeat (first | (with_reducible first | exact HB.out | apply below_alloc | apply pw_below_drewN | apply below_drew1 | refine below_set ?_ GE123.out | refine below_set ?_ GE124.out) | exact HB.out)) hb); clear HO_31; clear BK123; clear BK124; clear HB; have HO_31 := n0_; have BK123 := n1_; have BK124 := n2_; have HB := n3_; clear n0_ n1_ n2_ n3_; (try clear hb); (try clear hb2); (try clear hk); (try clear hi)) | ((with_reducible refine gate_callee (f := 18) rfl ?_); refine goesL_ (some 70) rfl rfl Try.func18 (by kernel_rfl) rfl #[.agg #[.string (⟨#[]⟩ : ByteArray), .string (⟨#[]⟩ : ByteArray), .int .i64 0, .int .i64 300, .int .i64 0, .int .i64 0, .int .i64 1], .agg #[.int .i64 298, .int .i64 301]] rfl (by (try simp only [List.map_toArray, List.map_cons, List.map_nil]); first | done | rfl | (simp only [List.length_drop, List.length_take]; rfl)) ?_; (with_reducible refine (bearing_Risk.calls (⟨#[]⟩ : ByteArray) (⟨#[]⟩ : ByteArray) 0 300 0 0 1 298 301 2 4 0 _ A35.out).mono ?_); rintro e w60 ⟨rfl, hb⟩; refine ⟨_, rfl, ?_⟩; have n0_ := Aside0.mk (Kd.R_below (by (with_reducible repeat (first | apply Kd.R_alloc | apply Kd.R_drewN | apply Kd.R_drew)); exact HO_31.out) hb); have n1_ := Aside0.mk (zb BK123.out hb); have n2_ := Aside0.mk (zb BK124.out hb); have n3_ := Aside0.mk (below_step (by repeat (first | (with_reducible first | exact HB.out | apply below_alloc | apply pw_below_drewN | apply below_drew1 | refine below_set ?_ GE123.out | refine below_set ?_ GE124.out) | exact HB.out)) hb); clear HO_31; clear BK123; clear BK124; clear HB; have HO_31 := n0_; have BK123 := n1_; have BK124 := n2_; have HB := n3_; clear n0_ n1_ n2_ n3_; (try clear hb); (try clear hb2); (try clear hk); (try clear hi)))
    have n0_ := Aside0.mk (Kd.R_drew HO_31.out)
    have n1_ := Aside0.mk (blk_drew BK123.out)
    have n2_ := Aside0.mk (blk_drew BK124.out)
    have n3_ := Aside0.mk (below_drew1 HB.out)
    clear HO_31
    clear BK123
    clear BK124
    clear HB
    have HO_31 := n0_
    have BK123 := n1_
    have BK124 := n2_
    have HB := n3_
    clear n0_ n1_ n2_ n3_
    refine start_ (n := 8) (S := fun w' => w'.cell? ⟨gb123, 0, none⟩ = some (.int .i64 0) ∧ w'.cell? ⟨gb123, 1, none⟩ = some (.int .i64 1000)) (ds := []) #[false, false, false, false, false, false, false, false] (by kernel_rfl) rfl rfl ⟨(blk_cell BK123.out 0).trans rfl, (blk_cell BK123.out 1).trans rfl⟩ (fun hHeld => ?_); refine with_tabW fastilaw29_sane.tab11 fastilaw29_sane.bits11 (fun HT_ HW_ => ?_)
    generalize w60.drew = w61 at HO_31 BK123 BK124 HB hHeld ⊢
    refine take_ (i := 1) (N := some 76) (v := ?_) (a' := ?_) #[false, true, false, false, false, false, false, false] rfl rfl (take_ofW HT_.out HW_.out (by kernel_rfl)) (fun _ _ _ h => h) (Or.inl ⟨by rfl, ?_⟩) hHeld ?_ ?_
    rotate_left
    ·rintro w' ⟨s0, s1⟩
     go_simp
     with_reducible rfl
    rotate_left
    ·simp only [Act.put, List.setIfInBounds_toArray, List.set_cons_zero, List.set_cons_succ, i64_w, i32_w]
     rfl
    refine one_ (i := 0) (N := some 75) #[true, true, false, false, false, false, false, false] rfl rfl (one_of HT_.out (by kernel_rfl)) (by decide) (fun K hK => ?_)
    refine goes_ Try.func38 (by kernel_rfl) rfl #[.int .i64 300] (by rfl) rfl rfl (by (try simp only [List.map_toArray, List.map_cons, List.map_nil]); first | done | rfl | (simp only [List.length_drop, List.length_take]; rfl)) ?_
    with_reducible refine (fastilaw29_pitch.calls 300 (⟨#[]⟩ : ByteArray) (⟨#[]⟩ : ByteArray) 0 300 0 0 1 _ A36.out).mono ?_
    rintro e w62 ⟨rfl, hb⟩
    refine ⟨_, rfl, ?_⟩
    have n0_ := Aside0.mk (Kd.R_below (by (with_reducible repeat (first | apply Kd.R_alloc | apply Kd.R_drewN | apply Kd.R_drew)); exact HO_31.out) hb)
    have n1_ := Aside0.mk (zb BK123.out hb)
    have n2_ := Aside0.mk (zb BK124.out hb)
    have n3_ := Aside0.mk (below_step (by repeat (first | (with_reducible first | exact HB.out | apply below_alloc | apply pw_below_drewN | apply below_drew1 | refine below_set ?_ GE123.out | refine below_set ?_ GE124.out) | exact HB.out)) hb)
    clear HO_31
    clear BK123
    clear BK124
    clear HB
    have HO_31 := n0_
    have BK123 := n1_
    have BK124 := n2_
    have HB := n3_
    clear n0_ n1_ n2_ n3_
    (try clear hb)
    (try clear hb2)
    (try clear hk)
    (try clear hi)
    refine hK.out _ _ ⟨(blk_cell BK123.out 0).trans rfl, (blk_cell BK123.out 1).trans rfl⟩ (fun hHeld => ?_)
    clear hK K
    refine norm_ (a' := ?_) ?_ ?_
    rotate_left
    ·show Act.put _ (some 75) _ = _
     simp only [Act.put, List.setIfInBounds_toArray, List.set_cons_zero, List.set_cons_succ, i64_w, i32_w]
     rfl
    refine one_ (i := 2) (N := some 77) #[true, true, true, false, false, false, false, false] rfl rfl (one_of HT_.out (by kernel_rfl)) (by decide) (fun K hK => ?_)
    refine goes_ Try.func20 (by kernel_rfl) rfl #[.agg #[.string (⟨#[]⟩ : ByteArray), .string (⟨#[]⟩ : ByteArray), .int .i64 0, .int .i64 300, .int .i64 0, .int .i64 0, .int .i64 1], .agg #[.int .i64 0, .int .i64 1000], .int .i64 299, .bool true] (by rfl) rfl rfl (by (try simp only [List.map_toArray, List.map_cons, List.map_nil]); first | done | rfl | (simp only [List.length_drop, List.length_take]; rfl)) ?_
    with_reducible refine (bearing_Permit.calls k1 (⟨#[]⟩ : ByteArray) (⟨#[]⟩ : ByteArray) 0 300 0 0 1 0 1000 299 true false 0 _ A37.out).mono ?_
    rintro e w63 ⟨rfl, hb⟩
    refine ⟨_, rfl, ?_⟩
    have n0_ := Aside0.mk (Kd.R_below (by (with_reducible repeat (first | apply Kd.R_alloc | apply Kd.R_drewN | apply Kd.R_drew)); exact HO_31.out) hb)
    have n1_ := Aside0.mk (zb BK123.out hb)
    have n2_ := Aside0.mk (zb BK124.out hb)
    have n3_ := Aside0.mk (below_step (by repeat (first | (with_reducible first | exact HB.out | apply below_alloc | apply pw_below_drewN | apply below_drew1 | refine below_set ?_ GE123.out | refine below_set ?_ GE124.out) | exact HB.out)) hb)
    clear HO_31
    clear BK123
    clear BK124
    clear HB
    have HO_31 := n0_
    have BK123 := n1_
    have BK124 := n2_
    have HB := n3_
    clear n0_ n1_ n2_ n3_
    (try clear hb)
    (try clear hb2)
    (try clear hk)
    (try clear hi)
    refine hK.out _ _ ⟨(blk_cell BK123.out 0).trans rfl, (blk_cell BK123.out 1).trans rfl⟩ (fun hHeld => ?_)
    clear hK K
    refine norm_ (a' := ?_) ?_ ?_
    rotate_left
    ·show Act.put _ (some 77) _ = _
     simp only [Act.put, List.setIfInBounds_toArray, List.set_cons_zero, List.set_cons_succ, i64_w, i32_w]
     rfl
    refine pure_ (i := 3) (N := some 74) (v := ?_) (a' := ?_) #[true, true, true, true, false, false, false, false] rfl rfl (any_of HT_.out (by kernel_rfl)) (fun _ _ _ h => h) (Or.inl ⟨by rfl, ?_⟩) ?_ ?_
    rotate_left
    ·intro w'
     go_simp
     with_reducible rfl
    rotate_left
    ·simp only [Act.put, List.setIfInBounds_toArray, List.set_cons_zero, List.set_cons_succ, i64_w, i32_w]
     rfl
    refine pure_ (i := 4) (N := some 78) (v := ?_) (a' := ?_) #[true, true, true, true, true, false, false, false] rfl rfl (any_of HT_.out (by kernel_rfl)) (fun _ _ _ h => h) (Or.inl ⟨by rfl, ?_⟩) ?_ ?_
    rotate_left
    ·intro w'
     go_simp
     with_reducible rfl
    rotate_left
    ·simp only [Act.put, List.setIfInBounds_toArray, List.set_cons_zero, List.set_cons_succ, i64_w, i32_w]
     rfl
    refine pure_ (i := 5) (N := some 79) (v := ?_) (a' := ?_) #[true, true, true, true, true, true, false, false] rfl rfl (any_of HT_.out (by kernel_rfl)) (fun _ _ _ h => h) (Or.inl ⟨by rfl, ?_⟩) ?_ ?_
    rotate_left
    ·intro w'
     go_simp
     with_reducible rfl
    rotate_left
    ·simp only [Act.put, List.setIfInBounds_toArray, List.set_cons_zero, List.set_cons_succ, i64_w, i32_w]
     rfl
    refine pure_ (i := 6) (N := some 13) (v := ?_) (a' := ?_) #[true, true, true, true, true, true, true, false] rfl rfl (any_of HT_.out (by kernel_rfl)) (fun _ _ _ h => h) (Or.inl ⟨by rfl, ?_⟩) ?_ ?_
    rotate_left
    ·intro w'
     go_simp
     with_reducible rfl
    rotate_left
    ·simp only [Act.put, List.setIfInBounds_toArray, List.set_cons_zero, List.set_cons_succ, i64_w, i32_w]
     rfl
    refine pure_ (i := 7) (N := some 14) (v := ?_) (a' := ?_) #[true, true, true, true, true, true, true, true] rfl rfl (any_of HT_.out (by kernel_rfl)) (fun _ _ _ h => h) (Or.inl ⟨by rfl, ?_⟩) ?_ ?_
    rotate_left
    ·intro w'
     go_simp
     with_reducible rfl
    rotate_left
    ·simp only [Act.put, List.setIfInBounds_toArray, List.set_cons_zero, List.set_cons_succ, i64_w, i32_w]
     rfl
    refine done_ (done_of HT_.out (by kernel_rfl)) ?_
    try go_wp2
    have n0_ := Aside0.mk (Kd.R_drew HO_31.out)
    have n1_ := Aside0.mk (blk_drew BK123.out)
    have n2_ := Aside0.mk (blk_drew BK124.out)
    have n3_ := Aside0.mk (below_drew1 HB.out)
    clear HO_31
    clear BK123
    clear BK124
    clear HB
    have HO_31 := n0_
    have BK123 := n1_
    have BK124 := n2_
    have HB := n3_
    clear n0_ n1_ n2_ n3_
    refine start_ (n := 8) (S := fun w' => w'.cell? ⟨gb123, 0, none⟩ = some (.int .i64 0) ∧ w'.cell? ⟨gb123, 1, none⟩ = some (.int .i64 1000)) (ds := []) #[false, false, false, false, false, false, false, false] (by kernel_rfl) rfl rfl ⟨(blk_cell BK123.out 0).trans rfl, (blk_cell BK123.out 1).trans rfl⟩ (fun hHeld => ?_); refine with_tabW fastilaw29_sane.tab12 fastilaw29_sane.bits12 (fun HT_ HW_ => ?_)
    generalize w63.drew = w64 at HO_31 BK123 BK124 HB hHeld ⊢
    refine take_ (i := 1) (N := some 82) (v := ?_) (a' := ?_) #[false, true, false, false, false, false, false, false] rfl rfl (take_ofW HT_.out HW_.out (by kernel_rfl)) (fun _ _ _ h => h) (Or.inl ⟨by rfl, ?_⟩) hHeld ?_ ?_
    rotate_left
    ·rintro w' ⟨s0, s1⟩
     go_simp
     with_reducible rfl
    rotate_left
    ·simp only [Act.put, List.setIfInBounds_toArray, List.set_cons_zero, List.set_cons_succ, i64_w, i32_w]
     rfl
    refine one_ (i := 0) (N := some 81) #[true, true, false, false, false, false, false, false] rfl rfl (one_of HT_.out (by kernel_rfl)) (by decide) (fun K hK => ?_)
    refine goes_ Try.func38 (by kernel_rfl) rfl #[.int .i64 300] (by rfl) rfl rfl (by (try simp only [List.map_toArray, List.map_cons, List.map_nil]); first | done | rfl | (simp only [List.length_drop, List.length_take]; rfl)) ?_
    with_reducible refine (fastilaw29_pitch.calls 300 (⟨#[]⟩ : ByteArray) (⟨#[]⟩ : ByteArray) 0 300 0 0 1 _ A38.out).mono ?_
    rintro e w65 ⟨rfl, hb⟩
    refine ⟨_, rfl, ?_⟩
    have n0_ := Aside0.mk (Kd.R_below (by (with_reducible repeat (first | apply Kd.R_alloc | apply Kd.R_drewN | apply Kd.R_drew)); exact HO_31.out) hb)
    have n1_ := Aside0.mk (zb BK123.out hb)
    have n2_ := Aside0.mk (zb BK124.out hb)
    have n3_ := Aside0.mk (below_step (by repeat (first | (with_reducible first | exact HB.out | apply below_alloc | apply pw_below_drewN | apply below_drew1 | refine below_set ?_ GE123.out | refine below_set ?_ GE124.out) | exact HB.out)) hb)
    clear HO_31
    clear BK123
    clear BK124
    clear HB
    have HO_31 := n0_
    have BK123 := n1_
    have BK124 := n2_
    have HB := n3_
    clear n0_ n1_ n2_ n3_
    (try clear hb)
    (try clear hb2)
    (try clear hk)
    (try clear hi)
    refine hK.out _ _ ⟨(blk_cell BK123.out 0).trans rfl, (blk_cell BK123.out 1).trans rfl⟩ (fun hHeld => ?_)
    clear hK K
    refine norm_ (a' := ?_) ?_ ?_
    rotate_left
    ·show Act.put _ (some 81) _ = _
     simp only [Act.put, List.setIfInBounds_toArray, List.set_cons_zero, List.set_cons_succ, i64_w, i32_w]
     rfl
    refine one_ (i := 2) (N := some 83) #[true, true, true, false, false, false, false, false] rfl rfl (one_of HT_.out (by kernel_rfl)) (by decide) (fun K hK => ?_)
    refine goes_ Try.func20 (by kernel_rfl) rfl #[.agg #[.string (⟨#[]⟩ : ByteArray), .string (⟨#[]⟩ : ByteArray), .int .i64 0, .int .i64 300, .int .i64 0, .int .i64 0, .int .i64 1], .agg #[.int .i64 0, .int .i64 1000], .int .i64 300, .bool true] (by rfl) rfl rfl (by (try simp only [List.map_toArray, List.map_cons, List.map_nil]); first | done | rfl | (simp only [List.length_drop, List.length_take]; rfl)) ?_
    with_reducible refine (bearing_Permit.calls k1 (⟨#[]⟩ : ByteArray) (⟨#[]⟩ : ByteArray) 0 300 0 0 1 0 1000 300 true true 0 _ A39.out).mono ?_
    rintro e w66 ⟨rfl, hb⟩
    refine ⟨_, rfl, ?_⟩
    have n0_ := Aside0.mk (Kd.R_below (by (with_reducible repeat (first | apply Kd.R_alloc | apply Kd.R_drewN | apply Kd.R_drew)); exact HO_31.out) hb)
    have n1_ := Aside0.mk (zb BK123.out hb)
    have n2_ := Aside0.mk (zb BK124.out hb)
    have n3_ := Aside0.mk (below_step (by repeat (first | (with_reducible first | exact HB.out | apply below_alloc | apply pw_below_drewN | apply below_drew1 | refine below_set ?_ GE123.out | refine below_set ?_ GE124.out) | exact HB.out)) hb)
    clear HO_31
    clear BK123
    clear BK124
    clear HB
    have HO_31 := n0_
    have BK123 := n1_
    have BK124 := n2_
    have HB := n3_
    clear n0_ n1_ n2_ n3_
    (try clear hb)
    (try clear hb2)
    (try clear hk)
    (try clear hi)
    refine hK.out _ _ ⟨(blk_cell BK123.out 0).trans rfl, (blk_cell BK123.out 1).trans rfl⟩ (fun hHeld => ?_)
    clear hK K
    refine norm_ (a' := ?_) ?_ ?_
    rotate_left
    ·show Act.put _ (some 83) _ = _
     simp only [Act.put, List.setIfInBounds_toArray, List.set_cons_zero, List.set_cons_succ, i64_w, i32_w]
     rfl
    refine pure_ (i := 3) (N := some 80) (v := ?_) (a' := ?_) #[true, true, true, true, false, false, false, false] rfl rfl (any_of HT_.out (by kernel_rfl)) (fun _ _ _ h => h) (Or.inl ⟨by rfl, ?_⟩) ?_ ?_
    rotate_left
    ·intro w'
     go_simp
     with_reducible rfl
    rotate_left
    ·simp only [Act.put, List.setIfInBounds_toArray, List.set_cons_zero, List.set_cons_succ, i64_w, i32_w]
     rfl
    refine pure_ (i := 4) (N := some 84) (v := ?_) (a' := ?_) #[true, true, true, true, true, false, false, false] rfl rfl (any_of HT_.out (by kernel_rfl)) (fun _ _ _ h => h) (Or.inl ⟨by rfl, ?_⟩) ?_ ?_
    rotate_left
    ·intro w'
     go_simp
     with_reducible rfl
    rotate_left
    ·simp only [Act.put, List.setIfInBounds_toArray, List.set_cons_zero, List.set_cons_succ, i64_w, i32_w]
     rfl
    refine pure_ (i := 5) (N := some 85) (v := ?_) (a' := ?_) #[true, true, true, true, true, true, false, false] rfl rfl (any_of HT_.out (by kernel_rfl)) (fun _ _ _ h => h) (Or.inl ⟨by rfl, ?_⟩) ?_ ?_
    rotate_left
    ·intro w'
     go_simp
     with_reducible rfl
    rotate_left
    ·simp only [Act.put, List.setIfInBounds_toArray, List.set_cons_zero, List.set_cons_succ, i64_w, i32_w]
     rfl
    refine pure_ (i := 6) (N := some 15) (v := ?_) (a' := ?_) #[true, true, true, true, true, true, true, false] rfl rfl (any_of HT_.out (by kernel_rfl)) (fun _ _ _ h => h) (Or.inl ⟨by rfl, ?_⟩) ?_ ?_
    rotate_left
    ·intro w'
     go_simp
     with_reducible rfl
    rotate_left
    ·simp only [Act.put, List.setIfInBounds_toArray, List.set_cons_zero, List.set_cons_succ, i64_w, i32_w]
     rfl
    refine pure_ (i := 7) (N := some 16) (v := ?_) (a' := ?_) #[true, true, true, true, true, true, true, true] rfl rfl (any_of HT_.out (by kernel_rfl)) (fun _ _ _ h => h) (Or.inl ⟨by rfl, ?_⟩) ?_ ?_
    rotate_left
    ·intro w'
     go_simp
     with_reducible rfl
    rotate_left
    ·simp only [Act.put, List.setIfInBounds_toArray, List.set_cons_zero, List.set_cons_succ, i64_w, i32_w]
     rfl
    refine done_ (done_of HT_.out (by kernel_rfl)) ?_
    try go_wp2
    have n0_ := Aside0.mk (Kd.R_drew HO_31.out)
    have n1_ := Aside0.mk (blk_drew BK123.out)
    have n2_ := Aside0.mk (blk_drew BK124.out)
    have n3_ := Aside0.mk (below_drew1 HB.out)
    clear HO_31
    clear BK123
    clear BK124
    clear HB
    have HO_31 := n0_
    have BK123 := n1_
    have BK124 := n2_
    have HB := n3_
    clear n0_ n1_ n2_ n3_
    refine start_ (n := 8) (S := fun w' => w'.cell? ⟨gb124, 0, none⟩ = some (.int .i64 0) ∧ w'.cell? ⟨gb124, 1, none⟩ = some (.int .i64 299)) (ds := []) #[false, false, false, false, false, false, false, false] (by kernel_rfl) rfl rfl ⟨(blk_cell BK124.out 0).trans rfl, (blk_cell BK124.out 1).trans rfl⟩ (fun hHeld => ?_); refine with_tabW fastilaw29_sane.tab13 fastilaw29_sane.bits13 (fun HT_ HW_ => ?_)
    generalize w66.drew = w67 at HO_31 BK123 BK124 HB hHeld ⊢
    refine take_ (i := 1) (N := some 88) (v := ?_) (a' := ?_) #[false, true, false, false, false, false, false, false] rfl rfl (take_ofW HT_.out HW_.out (by kernel_rfl)) (fun _ _ _ h => h) (Or.inl ⟨by rfl, ?_⟩) hHeld ?_ ?_
    rotate_left
    ·rintro w' ⟨s0, s1⟩
     go_simp
     with_reducible rfl
    rotate_left
    ·simp only [Act.put, List.setIfInBounds_toArray, List.set_cons_zero, List.set_cons_succ, i64_w, i32_w]
     rfl
    refine one_ (i := 0) (N := some 87) #[true, true, false, false, false, false, false, false] rfl rfl (one_of HT_.out (by kernel_rfl)) (by decide) (fun K hK => ?_)
    refine goes_ Try.func38 (by kernel_rfl) rfl #[.int .i64 300] (by rfl) rfl rfl (by (try simp only [List.map_toArray, List.map_cons, List.map_nil]); first | done | rfl | (simp only [List.length_drop, List.length_take]; rfl)) ?_
    with_reducible refine (fastilaw29_pitch.calls 300 (⟨#[]⟩ : ByteArray) (⟨#[]⟩ : ByteArray) 0 300 0 0 1 _ A40.out).mono ?_
    rintro e w68 ⟨rfl, hb⟩
    refine ⟨_, rfl, ?_⟩
    have n0_ := Aside0.mk (Kd.R_below (by (with_reducible repeat (first | apply Kd.R_alloc | apply Kd.R_drewN | apply Kd.R_drew)); exact HO_31.out) hb)
    have n1_ := Aside0.mk (zb BK123.out hb)
    have n2_ := Aside0.mk (zb BK124.out hb)
    have n3_ := Aside0.mk (below_step (by repeat (first | (with_reducible first | exact HB.out | apply below_alloc | apply pw_below_drewN | apply below_drew1 | refine below_set ?_ GE123.out | refine below_set ?_ GE124.out) | exact HB.out)) hb)
    clear HO_31
    clear BK123
    clear BK124
    clear HB
    have HO_31 := n0_
    have BK123 := n1_
    have BK124 := n2_
    have HB := n3_
    clear n0_ n1_ n2_ n3_
    (try clear hb)
    (try clear hb2)
    (try clear hk)
    (try clear hi)
    refine hK.out _ _ ⟨(blk_cell BK124.out 0).trans rfl, (blk_cell BK124.out 1).trans rfl⟩ (fun hHeld => ?_)
    clear hK K
    refine norm_ (a' := ?_) ?_ ?_
    rotate_left
    ·show Act.put _ (some 87) _ = _
     simp only [Act.put, List.setIfInBounds_toArray, List.set_cons_zero, List.set_cons_succ, i64_w, i32_w]
     rfl
    refine one_ (i := 2) (N := some 89) #[true, true, true, false, false, false, false, false] rfl rfl (one_of HT_.out (by kernel_rfl)) (by decide) (fun K hK => ?_)
    refine goes_ Try.func20 (by kernel_rfl) rfl #[.agg #[.string (⟨#[]⟩ : ByteArray), .string (⟨#[]⟩ : ByteArray), .int .i64 0, .int .i64 300, .int .i64 0, .int .i64 0, .int .i64 1], .agg #[.int .i64 0, .int .i64 299], .int .i64 1000, .bool true] (by rfl) rfl rfl (by (try simp only [List.map_toArray, List.map_cons, List.map_nil]); first | done | rfl | (simp only [List.length_drop, List.length_take]; rfl)) ?_
    with_reducible refine (bearing_Permit.calls k1 (⟨#[]⟩ : ByteArray) (⟨#[]⟩ : ByteArray) 0 300 0 0 1 0 299 1000 true false 0 _ A41.out).mono ?_
    rintro e w69 ⟨rfl, hb⟩
    refine ⟨_, rfl, ?_⟩
    have n0_ := Aside0.mk (Kd.R_below (by (with_reducible repeat (first | apply Kd.R_alloc | apply Kd.R_drewN | apply Kd.R_drew)); exact HO_31.out) hb)
    have n1_ := Aside0.mk (zb BK123.out hb)
    have n2_ := Aside0.mk (zb BK124.out hb)
    have n3_ := Aside0.mk (below_step (by repeat (first | (with_reducible first | exact HB.out | apply below_alloc | apply pw_below_drewN | apply below_drew1 | refine below_set ?_ GE123.out | refine below_set ?_ GE124.out) | exact HB.out)) hb)
    clear HO_31
    clear BK123
    clear BK124
    clear HB
    have HO_31 := n0_
    have BK123 := n1_
    have BK124 := n2_
    have HB := n3_
    clear n0_ n1_ n2_ n3_
    (try clear hb)
    (try clear hb2)
    (try clear hk)
    (try clear hi)
    refine hK.out _ _ ⟨(blk_cell BK124.out 0).trans rfl, (blk_cell BK124.out 1).trans rfl⟩ (fun hHeld => ?_)
    clear hK K
    refine norm_ (a' := ?_) ?_ ?_
    rotate_left
    ·show Act.put _ (some 89) _ = _
     simp only [Act.put, List.setIfInBounds_toArray, List.set_cons_zero, List.set_cons_succ, i64_w, i32_w]
     rfl
    refine pure_ (i := 3) (N := some 86) (v := ?_) (a' := ?_) #[true, true, true, true, false, false, false, false] rfl rfl (any_of HT_.out (by kernel_rfl)) (fun _ _ _ h => h) (Or.inl ⟨by rfl, ?_⟩) ?_ ?_
    rotate_left
    ·intro w'
     go_simp
     with_reducible rfl
    rotate_left
    ·simp only [Act.put, List.setIfInBounds_toArray, List.set_cons_zero, List.set_cons_succ, i64_w, i32_w]
     rfl
    refine pure_ (i := 4) (N := some 90) (v := ?_) (a' := ?_) #[true, true, true, true, true, false, false, false] rfl rfl (any_of HT_.out (by kernel_rfl)) (fun _ _ _ h => h) (Or.inl ⟨by rfl, ?_⟩) ?_ ?_
    rotate_left
    ·intro w'
     go_simp
     with_reducible rfl
    rotate_left
    ·simp only [Act.put, List.setIfInBounds_toArray, List.set_cons_zero, List.set_cons_succ, i64_w, i32_w]
     rfl
    refine pure_ (i := 5) (N := some 91) (v := ?_) (a' := ?_) #[true, true, true, true, true, true, false, false] rfl rfl (any_of HT_.out (by kernel_rfl)) (fun _ _ _ h => h) (Or.inl ⟨by rfl, ?_⟩) ?_ ?_
    rotate_left
    ·intro w'
     go_simp
     with_reducible rfl
    rotate_left
    ·simp only [Act.put, List.setIfInBounds_toArray, List.set_cons_zero, List.set_cons_succ, i64_w, i32_w]
     rfl
    refine pure_ (i := 6) (N := some 17) (v := ?_) (a' := ?_) #[true, true, true, true, true, true, true, false] rfl rfl (any_of HT_.out (by kernel_rfl)) (fun _ _ _ h => h) (Or.inl ⟨by rfl, ?_⟩) ?_ ?_
    rotate_left
    ·intro w'
     go_simp
     with_reducible rfl
    rotate_left
    ·simp only [Act.put, List.setIfInBounds_toArray, List.set_cons_zero, List.set_cons_succ, i64_w, i32_w]
     rfl
    refine pure_ (i := 7) (N := some 18) (v := ?_) (a' := ?_) #[true, true, true, true, true, true, true, true] rfl rfl (any_of HT_.out (by kernel_rfl)) (fun _ _ _ h => h) (Or.inl ⟨by rfl, ?_⟩) ?_ ?_
    rotate_left
    ·intro w'
     go_simp
     with_reducible rfl
    rotate_left
    ·simp only [Act.put, List.setIfInBounds_toArray, List.set_cons_zero, List.set_cons_succ, i64_w, i32_w]
     rfl
    refine done_ (done_of HT_.out (by kernel_rfl)) ?_
    try go_wp2_with (first | ((with_reducible refine gate_callee (f := 38) rfl ?_); refine goesL_ (some 93) rfl rfl Try.func38 (by kernel_rfl) rfl #[.int .i64 300] rfl (by (try simp only [List.map_toArray, List.map_cons, List.map_nil]); first | done | rfl | (simp only [List.length_drop, List.length_take]; rfl)) ?_; (with_reducible refine (fastilaw29_pitch.calls 300 (⟨#[]⟩ : ByteArray) (⟨#[]⟩ : ByteArray) 0 300 0 0 1 _ A42.out).mono ?_); rintro e w70 ⟨rfl, hb⟩; refine ⟨_, rfl, ?_⟩; have n0_ := Aside0.mk (Kd.R_below (by (with_reducible repeat (first | apply Kd.R_alloc | apply Kd.R_drewN | apply Kd.R_drew)); exact HO_31.out) hb); have n1_ := Aside0.mk (zb BK123.out hb); have n2_ := Aside0.mk (zb BK124.out hb); have n3_ := Aside0.mk (below_step (by repeat (first | (with_reducible first | exact HB.out | apply below_alloc | apply pw_below_drewN | apply below_drew1 | refine below_set ?_ GE123.out | refine below_set ?_ GE124.out) | exact HB.out)) hb); clear HO_31; clear BK123; clear BK124; clear HB; have HO_31 := n0_; have BK123 := n1_; have BK124 := n2_; have HB := n3_; clear n0_ n1_ n2_ n3_; (try clear hb); (try clear hb2); (try clear hk); (try clear hi)) | ((with_reducible refine gate_callee (f := 20) rfl ?_); refine goesL_ (some 95) rfl rfl Try.func20 (by kernel_rfl) rfl #[.agg #[.string (⟨#[]⟩ : ByteArray), .string (⟨#[]⟩ : ByteArray), .int .i64 0, .int .i64 300, .int .i64 0, .int .i64 0, .int .i64 1], .agg #[.int .i64 298, .int .i64 301], .int .i64 500, .bool true] rfl (by (try simp only [List.map_toArray, List.map_cons, List.map_nil]); first | done | rfl | (simp only [List.length_drop, List.length_take]; rfl)) ?_; (with_reducible refine (bearing_Permit.calls k1 (⟨#[]⟩ : ByteArray) (⟨#[]⟩ : ByteArray) 0 300 0 0 1 298 301 500 true true 0 _ A43.out).mono ?_); rintro e w71 ⟨rfl, hb⟩; refine ⟨_, rfl, ?_⟩; have n0_ := Aside0.mk (Kd.R_below (by (with_reducible repeat (first | apply Kd.R_alloc | apply Kd.R_drewN | apply Kd.R_drew)); exact HO_31.out) hb); have n1_ := Aside0.mk (zb BK123.out hb); have n2_ := Aside0.mk (zb BK124.out hb); have n3_ := Aside0.mk (below_step (by repeat (first | (with_reducible first | exact HB.out | apply below_alloc | apply pw_below_drewN | apply below_drew1 | refine below_set ?_ GE123.out | refine below_set ?_ GE124.out) | exact HB.out)) hb); clear HO_31; clear BK123; clear BK124; clear HB; have HO_31 := n0_; have BK123 := n1_; have BK124 := n2_; have HB := n3_; clear n0_ n1_ n2_ n3_; (try clear hb); (try clear hb2); (try clear hk); (try clear hi)))
    have n0_ := Aside0.mk (Kd.R_drew HO_31.out)
    have n1_ := Aside0.mk (blk_drew BK123.out)
    have n2_ := Aside0.mk (blk_drew BK124.out)
    have n3_ := Aside0.mk (below_drew1 HB.out)
    clear HO_31
    clear BK123
    clear BK124
    clear HB
    have HO_31 := n0_
    have BK123 := n1_
    have BK124 := n2_
    have HB := n3_
    clear n0_ n1_ n2_ n3_
    refine start_ (n := 8) (S := fun w' => w'.cell? ⟨gb123, 0, none⟩ = some (.int .i64 0) ∧ w'.cell? ⟨gb123, 1, none⟩ = some (.int .i64 1000)) (ds := []) #[false, false, false, false, false, false, false, false] (by kernel_rfl) rfl rfl ⟨(blk_cell BK123.out 0).trans rfl, (blk_cell BK123.out 1).trans rfl⟩ (fun hHeld => ?_); refine with_tabW fastilaw29_sane.tab15 fastilaw29_sane.bits15 (fun HT_ HW_ => ?_)
    generalize w71.drew = w72 at HO_31 BK123 BK124 HB hHeld ⊢
    refine take_ (i := 1) (N := some 100) (v := ?_) (a' := ?_) #[false, true, false, false, false, false, false, false] rfl rfl (take_ofW HT_.out HW_.out (by kernel_rfl)) (fun _ _ _ h => h) (Or.inl ⟨by rfl, ?_⟩) hHeld ?_ ?_
    rotate_left
    ·rintro w' ⟨s0, s1⟩
     go_simp
     with_reducible rfl
    rotate_left
    ·simp only [Act.put, List.setIfInBounds_toArray, List.set_cons_zero, List.set_cons_succ, i64_w, i32_w]
     rfl
    refine one_ (i := 0) (N := some 99) #[true, true, false, false, false, false, false, false] rfl rfl (one_of HT_.out (by kernel_rfl)) (by decide) (fun K hK => ?_)
    refine goes_ Try.func38 (by kernel_rfl) rfl #[.int .i64 300] (by rfl) rfl rfl (by (try simp only [List.map_toArray, List.map_cons, List.map_nil]); first | done | rfl | (simp only [List.length_drop, List.length_take]; rfl)) ?_
    with_reducible refine (fastilaw29_pitch.calls 300 (⟨#[]⟩ : ByteArray) (⟨#[]⟩ : ByteArray) 0 300 0 0 1 _ A44.out).mono ?_
    rintro e w73 ⟨rfl, hb⟩
    refine ⟨_, rfl, ?_⟩
    have n0_ := Aside0.mk (Kd.R_below (by (with_reducible repeat (first | apply Kd.R_alloc | apply Kd.R_drewN | apply Kd.R_drew)); exact HO_31.out) hb)
    have n1_ := Aside0.mk (zb BK123.out hb)
    have n2_ := Aside0.mk (zb BK124.out hb)
    have n3_ := Aside0.mk (below_step (by repeat (first | (with_reducible first | exact HB.out | apply below_alloc | apply pw_below_drewN | apply below_drew1 | refine below_set ?_ GE123.out | refine below_set ?_ GE124.out) | exact HB.out)) hb)
    clear HO_31
    clear BK123
    clear BK124
    clear HB
    have HO_31 := n0_
    have BK123 := n1_
    have BK124 := n2_
    have HB := n3_
    clear n0_ n1_ n2_ n3_
    (try clear hb)
    (try clear hb2)
    (try clear hk)
    (try clear hi)
    refine hK.out _ _ ⟨(blk_cell BK123.out 0).trans rfl, (blk_cell BK123.out 1).trans rfl⟩ (fun hHeld => ?_)
    clear hK K
    refine norm_ (a' := ?_) ?_ ?_
    rotate_left
    ·show Act.put _ (some 99) _ = _
     simp only [Act.put, List.setIfInBounds_toArray, List.set_cons_zero, List.set_cons_succ, i64_w, i32_w]
     rfl
    refine one_ (i := 2) (N := some 101) #[true, true, true, false, false, false, false, false] rfl rfl (one_of HT_.out (by kernel_rfl)) (by decide) (fun K hK => ?_)
    refine goes_ Try.func20 (by kernel_rfl) rfl #[.agg #[.string (⟨#[]⟩ : ByteArray), .string (⟨#[]⟩ : ByteArray), .int .i64 0, .int .i64 300, .int .i64 0, .int .i64 0, .int .i64 1], .agg #[.int .i64 0, .int .i64 1000], .int .i64 1001, .bool true] (by rfl) rfl rfl (by (try simp only [List.map_toArray, List.map_cons, List.map_nil]); first | done | rfl | (simp only [List.length_drop, List.length_take]; rfl)) ?_
    with_reducible refine (bearing_Permit.calls k1 (⟨#[]⟩ : ByteArray) (⟨#[]⟩ : ByteArray) 0 300 0 0 1 0 1000 1001 true false 290 _ A45.out).mono ?_
    rintro e w74 ⟨rfl, hb⟩
    refine ⟨_, rfl, ?_⟩
    have n0_ := Aside0.mk (Kd.R_below (by (with_reducible repeat (first | apply Kd.R_alloc | apply Kd.R_drewN | apply Kd.R_drew)); exact HO_31.out) hb)
    have n1_ := Aside0.mk (zb BK123.out hb)
    have n2_ := Aside0.mk (zb BK124.out hb)
    have n3_ := Aside0.mk (below_step (by repeat (first | (with_reducible first | exact HB.out | apply below_alloc | apply pw_below_drewN | apply below_drew1 | refine below_set ?_ GE123.out | refine below_set ?_ GE124.out) | exact HB.out)) hb)
    clear HO_31
    clear BK123
    clear BK124
    clear HB
    have HO_31 := n0_
    have BK123 := n1_
    have BK124 := n2_
    have HB := n3_
    clear n0_ n1_ n2_ n3_
    (try clear hb)
    (try clear hb2)
    (try clear hk)
    (try clear hi)
    refine hK.out _ _ ⟨(blk_cell BK123.out 0).trans rfl, (blk_cell BK123.out 1).trans rfl⟩ (fun hHeld => ?_)
    clear hK K
    refine norm_ (a' := ?_) ?_ ?_
    rotate_left
    ·show Act.put _ (some 101) _ = _
     simp only [Act.put, List.setIfInBounds_toArray, List.set_cons_zero, List.set_cons_succ, i64_w, i32_w]
     rfl
    refine pure_ (i := 3) (N := some 98) (v := ?_) (a' := ?_) #[true, true, true, true, false, false, false, false] rfl rfl (any_of HT_.out (by kernel_rfl)) (fun _ _ _ h => h) (Or.inl ⟨by rfl, ?_⟩) ?_ ?_
    rotate_left
    ·intro w'
     go_simp
     with_reducible rfl
    rotate_left
    ·simp only [Act.put, List.setIfInBounds_toArray, List.set_cons_zero, List.set_cons_succ, i64_w, i32_w]
     rfl
    refine pure_ (i := 4) (N := some 102) (v := ?_) (a' := ?_) #[true, true, true, true, true, false, false, false] rfl rfl (any_of HT_.out (by kernel_rfl)) (fun _ _ _ h => h) (Or.inl ⟨by rfl, ?_⟩) ?_ ?_
    rotate_left
    ·intro w'
     go_simp
     with_reducible rfl
    rotate_left
    ·simp only [Act.put, List.setIfInBounds_toArray, List.set_cons_zero, List.set_cons_succ, i64_w, i32_w]
     rfl
    refine pure_ (i := 5) (N := some 103) (v := ?_) (a' := ?_) #[true, true, true, true, true, true, false, false] rfl rfl (any_of HT_.out (by kernel_rfl)) (fun _ _ _ h => h) (Or.inl ⟨by rfl, ?_⟩) ?_ ?_
    rotate_left
    ·intro w'
     go_simp
     with_reducible rfl
    rotate_left
    ·simp only [Act.put, List.setIfInBounds_toArray, List.set_cons_zero, List.set_cons_succ, i64_w, i32_w]
     rfl
    refine pure_ (i := 6) (N := some 21) (v := ?_) (a' := ?_) #[true, true, true, true, true, true, true, false] rfl rfl (any_of HT_.out (by kernel_rfl)) (fun _ _ _ h => h) (Or.inl ⟨by rfl, ?_⟩) ?_ ?_
    rotate_left
    ·intro w'
     go_simp
     with_reducible rfl
    rotate_left
    ·simp only [Act.put, List.setIfInBounds_toArray, List.set_cons_zero, List.set_cons_succ, i64_w, i32_w]
     rfl
    refine pure_ (i := 7) (N := some 22) (v := ?_) (a' := ?_) #[true, true, true, true, true, true, true, true] rfl rfl (any_of HT_.out (by kernel_rfl)) (fun _ _ _ h => h) (Or.inl ⟨by rfl, ?_⟩) ?_ ?_
    rotate_left
    ·intro w'
     go_simp
     with_reducible rfl
    rotate_left
    ·simp only [Act.put, List.setIfInBounds_toArray, List.set_cons_zero, List.set_cons_succ, i64_w, i32_w]
     rfl
    refine done_ (done_of HT_.out (by kernel_rfl)) ?_
    try go_wp2
    have n0_ := Aside0.mk (Kd.R_drew HO_31.out)
    have n1_ := Aside0.mk (blk_drew BK123.out)
    have n2_ := Aside0.mk (blk_drew BK124.out)
    have n3_ := Aside0.mk (below_drew1 HB.out)
    clear HO_31
    clear BK123
    clear BK124
    clear HB
    have HO_31 := n0_
    have BK123 := n1_
    have BK124 := n2_
    have HB := n3_
    clear n0_ n1_ n2_ n3_
    refine start_ (n := 8) (S := fun w' => w'.cell? ⟨gb123, 0, none⟩ = some (.int .i64 0) ∧ w'.cell? ⟨gb123, 1, none⟩ = some (.int .i64 1000)) (ds := []) #[false, false, false, false, false, false, false, false] (by kernel_rfl) rfl rfl ⟨(blk_cell BK123.out 0).trans rfl, (blk_cell BK123.out 1).trans rfl⟩ (fun hHeld => ?_); refine with_tabW fastilaw29_sane.tab16 fastilaw29_sane.bits16 (fun HT_ HW_ => ?_)
    generalize w74.drew = w75 at HO_31 BK123 BK124 HB hHeld ⊢
    refine take_ (i := 1) (N := some 106) (v := ?_) (a' := ?_) #[false, true, false, false, false, false, false, false] rfl rfl (take_ofW HT_.out HW_.out (by kernel_rfl)) (fun _ _ _ h => h) (Or.inl ⟨by rfl, ?_⟩) hHeld ?_ ?_
    rotate_left
    ·rintro w' ⟨s0, s1⟩
     go_simp
     with_reducible rfl
    rotate_left
    ·simp only [Act.put, List.setIfInBounds_toArray, List.set_cons_zero, List.set_cons_succ, i64_w, i32_w]
     rfl
    refine one_ (i := 0) (N := some 105) #[true, true, false, false, false, false, false, false] rfl rfl (one_of HT_.out (by kernel_rfl)) (by decide) (fun K hK => ?_)
    refine goes_ Try.func38 (by kernel_rfl) rfl #[.int .i64 1001] (by rfl) rfl rfl (by (try simp only [List.map_toArray, List.map_cons, List.map_nil]); first | done | rfl | (simp only [List.length_drop, List.length_take]; rfl)) ?_
    with_reducible refine (fastilaw29_pitch.calls 1001 (⟨#[]⟩ : ByteArray) (⟨#[]⟩ : ByteArray) 0 1001 0 0 1 _ A46.out).mono ?_
    rintro e w76 ⟨rfl, hb⟩
    refine ⟨_, rfl, ?_⟩
    have n0_ := Aside0.mk (Kd.R_below (by (with_reducible repeat (first | apply Kd.R_alloc | apply Kd.R_drewN | apply Kd.R_drew)); exact HO_31.out) hb)
    have n1_ := Aside0.mk (zb BK123.out hb)
    have n2_ := Aside0.mk (zb BK124.out hb)
    have n3_ := Aside0.mk (below_step (by repeat (first | (with_reducible first | exact HB.out | apply below_alloc | apply pw_below_drewN | apply below_drew1 | refine below_set ?_ GE123.out | refine below_set ?_ GE124.out) | exact HB.out)) hb)
    clear HO_31
    clear BK123
    clear BK124
    clear HB
    have HO_31 := n0_
    have BK123 := n1_
    have BK124 := n2_
    have HB := n3_
    clear n0_ n1_ n2_ n3_
    (try clear hb)
    (try clear hb2)
    (try clear hk)
    (try clear hi)
    refine hK.out _ _ ⟨(blk_cell BK123.out 0).trans rfl, (blk_cell BK123.out 1).trans rfl⟩ (fun hHeld => ?_)
    clear hK K
    refine norm_ (a' := ?_) ?_ ?_
    rotate_left
    ·show Act.put _ (some 105) _ = _
     simp only [Act.put, List.setIfInBounds_toArray, List.set_cons_zero, List.set_cons_succ, i64_w, i32_w]
     rfl
    refine one_ (i := 2) (N := some 107) #[true, true, true, false, false, false, false, false] rfl rfl (one_of HT_.out (by kernel_rfl)) (by decide) (fun K hK => ?_)
    refine goes_ Try.func16 (by kernel_rfl) rfl #[.agg #[.string (⟨#[]⟩ : ByteArray), .string (⟨#[]⟩ : ByteArray), .int .i64 0, .int .i64 1001, .int .i64 0, .int .i64 0, .int .i64 1], .agg #[.int .i64 0, .int .i64 1000]] (by rfl) rfl rfl (by (try simp only [List.map_toArray, List.map_cons, List.map_nil]); first | done | rfl | (simp only [List.length_drop, List.length_take]; rfl)) ?_
    with_reducible refine (bearing_Bears.calls (⟨#[]⟩ : ByteArray) (⟨#[]⟩ : ByteArray) 0 1001 0 0 1 0 1000 0 290 _ A47.out).mono ?_
    rintro e w77 ⟨rfl, hb⟩
    refine ⟨_, rfl, ?_⟩
    have n0_ := Aside0.mk (Kd.R_below (by (with_reducible repeat (first | apply Kd.R_alloc | apply Kd.R_drewN | apply Kd.R_drew)); exact HO_31.out) hb)
    have n1_ := Aside0.mk (zb BK123.out hb)
    have n2_ := Aside0.mk (zb BK124.out hb)
    have n3_ := Aside0.mk (below_step (by repeat (first | (with_reducible first | exact HB.out | apply below_alloc | apply pw_below_drewN | apply below_drew1 | refine below_set ?_ GE123.out | refine below_set ?_ GE124.out) | exact HB.out)) hb)
    clear HO_31
    clear BK123
    clear BK124
    clear HB
    have HO_31 := n0_
    have BK123 := n1_
    have BK124 := n2_
    have HB := n3_
    clear n0_ n1_ n2_ n3_
    (try clear hb)
    (try clear hb2)
    (try clear hk)
    (try clear hi)
    refine hK.out _ _ ⟨(blk_cell BK123.out 0).trans rfl, (blk_cell BK123.out 1).trans rfl⟩ (fun hHeld => ?_)
    clear hK K
    refine norm_ (a' := ?_) ?_ ?_
    rotate_left
    ·show Act.put _ (some 107) _ = _
     simp only [Act.put, List.setIfInBounds_toArray, List.set_cons_zero, List.set_cons_succ, i64_w, i32_w]
     rfl
    refine pure_ (i := 3) (N := some 104) (v := ?_) (a' := ?_) #[true, true, true, true, false, false, false, false] rfl rfl (any_of HT_.out (by kernel_rfl)) (fun _ _ _ h => h) (Or.inl ⟨by rfl, ?_⟩) ?_ ?_
    rotate_left
    ·intro w'
     go_simp
     with_reducible rfl
    rotate_left
    ·simp only [Act.put, List.setIfInBounds_toArray, List.set_cons_zero, List.set_cons_succ, i64_w, i32_w]
     rfl
    refine pure_ (i := 4) (N := some 108) (v := ?_) (a' := ?_) #[true, true, true, true, true, false, false, false] rfl rfl (any_of HT_.out (by kernel_rfl)) (fun _ _ _ h => h) (Or.inl ⟨by rfl, ?_⟩) ?_ ?_
    rotate_left
    ·intro w'
     go_simp
     with_reducible rfl
    rotate_left
    ·simp only [Act.put, List.setIfInBounds_toArray, List.set_cons_zero, List.set_cons_succ, i64_w, i32_w]
     rfl
    refine pure_ (i := 5) (N := some 109) (v := ?_) (a' := ?_) #[true, true, true, true, true, true, false, false] rfl rfl (any_of HT_.out (by kernel_rfl)) (fun _ _ _ h => h) (Or.inl ⟨by rfl, ?_⟩) ?_ ?_
    rotate_left
    ·intro w'
     go_simp
     with_reducible rfl
    rotate_left
    ·simp only [Act.put, List.setIfInBounds_toArray, List.set_cons_zero, List.set_cons_succ, i64_w, i32_w]
     rfl
    refine pure_ (i := 6) (N := some 23) (v := ?_) (a' := ?_) #[true, true, true, true, true, true, true, false] rfl rfl (any_of HT_.out (by kernel_rfl)) (fun _ _ _ h => h) (Or.inl ⟨by rfl, ?_⟩) ?_ ?_
    rotate_left
    ·intro w'
     go_simp
     with_reducible rfl
    rotate_left
    ·simp only [Act.put, List.setIfInBounds_toArray, List.set_cons_zero, List.set_cons_succ, i64_w, i32_w]
     rfl
    refine pure_ (i := 7) (N := some 24) (v := ?_) (a' := ?_) #[true, true, true, true, true, true, true, true] rfl rfl (any_of HT_.out (by kernel_rfl)) (fun _ _ _ h => h) (Or.inl ⟨by rfl, ?_⟩) ?_ ?_
    rotate_left
    ·intro w'
     go_simp
     with_reducible rfl
    rotate_left
    ·simp only [Act.put, List.setIfInBounds_toArray, List.set_cons_zero, List.set_cons_succ, i64_w, i32_w]
     rfl
    refine done_ (done_of HT_.out (by kernel_rfl)) ?_
    try go_wp2_with (first | ((with_reducible refine gate_callee (f := 38) rfl ?_); refine goesL_ (some 111) rfl rfl Try.func38 (by kernel_rfl) rfl #[.int .i64 0] rfl (by (try simp only [List.map_toArray, List.map_cons, List.map_nil]); first | done | rfl | (simp only [List.length_drop, List.length_take]; rfl)) ?_; (with_reducible refine (fastilaw29_pitch.calls 0 (⟨#[]⟩ : ByteArray) (⟨#[]⟩ : ByteArray) 0 0 0 0 1 _ A48.out).mono ?_); rintro e w78 ⟨rfl, hb⟩; refine ⟨_, rfl, ?_⟩; have n0_ := Aside0.mk (Kd.R_below (by (with_reducible repeat (first | apply Kd.R_alloc | apply Kd.R_drewN | apply Kd.R_drew)); exact HO_31.out) hb); have n1_ := Aside0.mk (zb BK123.out hb); have n2_ := Aside0.mk (zb BK124.out hb); have n3_ := Aside0.mk (below_step (by repeat (first | (with_reducible first | exact HB.out | apply below_alloc | apply pw_below_drewN | apply below_drew1 | refine below_set ?_ GE123.out | refine below_set ?_ GE124.out) | exact HB.out)) hb); clear HO_31; clear BK123; clear BK124; clear HB; have HO_31 := n0_; have BK123 := n1_; have BK124 := n2_; have HB := n3_; clear n0_ n1_ n2_ n3_; (try clear hb); (try clear hb2); (try clear hk); (try clear hi)) | ((with_reducible refine gate_callee (f := 16) rfl ?_); refine goesL_ (some 113) rfl rfl Try.func16 (by kernel_rfl) rfl #[.agg #[.string (⟨#[]⟩ : ByteArray), .string (⟨#[]⟩ : ByteArray), .int .i64 0, .int .i64 0, .int .i64 0, .int .i64 0, .int .i64 1], .agg #[.int .i64 1, .int .i64 0]] rfl (by (try simp only [List.map_toArray, List.map_cons, List.map_nil]); first | done | rfl | (simp only [List.length_drop, List.length_take]; rfl)) ?_; (with_reducible refine (bearing_Bears.calls (⟨#[]⟩ : ByteArray) (⟨#[]⟩ : ByteArray) 0 0 0 0 1 1 0 0 290 _ A49.out).mono ?_); rintro e w79 ⟨rfl, hb⟩; refine ⟨_, rfl, ?_⟩; have n0_ := Aside0.mk (Kd.R_below (by (with_reducible repeat (first | apply Kd.R_alloc | apply Kd.R_drewN | apply Kd.R_drew)); exact HO_31.out) hb); have n1_ := Aside0.mk (zb BK123.out hb); have n2_ := Aside0.mk (zb BK124.out hb); have n3_ := Aside0.mk (below_step (by repeat (first | (with_reducible first | exact HB.out | apply below_alloc | apply pw_below_drewN | apply below_drew1 | refine below_set ?_ GE123.out | refine below_set ?_ GE124.out) | exact HB.out)) hb); clear HO_31; clear BK123; clear BK124; clear HB; have HO_31 := n0_; have BK123 := n1_; have BK124 := n2_; have HB := n3_; clear n0_ n1_ n2_ n3_; (try clear hb); (try clear hb2); (try clear hk); (try clear hi)))
    go_ret
    exact ⟨by first | rfl | (simp [errW_none, errW_some] <;> rfl) | (simp [*, errW_none, errW_some] <;> rfl), by repeat (first | (with_reducible first | exact HB.out | apply below_alloc | apply pw_below_drewN | apply below_drew1 | refine below_set ?_ GE123.out | refine below_set ?_ GE124.out) | exact HB.out)⟩

end Go.Proofs.Ytenjkflckkmahaa.Q
