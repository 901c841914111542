/- Functions of the translation as plain Lean functions, and proofs that the calls do what these say; written by a program of this session round the kit's print. -/
import Derived.Test.YtenjkflckkmahaaQ0
import Derived.Test.YtenjkflckkmahaaQ1
import Derived.Test.YtenjkflckkmahaaRuns2
import Derived.Test.YtenjkflckkmahaaTurf
namespace Go.Proofs.Ytenjkflckkmahaa.Q
open Go.RowKit Go.Proofs.YtenjkflckkmahaaW.PrintWords Go.Proofs.YtenjkflckkmahaaW.PrintLast Go.Proofs.YtenjkflckkmahaaW.PrintMore
attribute [local go_sem] max2_int min2_int max_two min_two max_three min_three max_four min_four   -- for this text's walks alone
set_option linter.unusedVariables false
set_option linter.unusedSimpArgs false

attribute [local go_sem high] eqA27
-- by hand: function 23 (turf_Next)

-- by hand: function 25 (turf_Check)

-- by hand: function 27 (turf_Run)

/-! ### fastiref28_Same: function 29 -/
def fastiref28_Same.l0 : Nat → List (S27) → List (S27) → Int → Option (Bool)
 | 0, _, _, _ => none
 | k + 1, x0, x1, x5 => if x5 < (x0.length : Int) then (if 0 ≤ x5 then (if x5 < (x1.length : Int) then (if (!(((rd_T27 x0 x5).f0) == ((rd_T27 x1 x5).f0)) || (!(((rd_T27 x0 x5).f1) == ((rd_T27 x1 x5).f1)))) = true then (some false) else (fastiref28_Same.l0 k x0 x1 (wrap64 (x5 + 1)))) else (none)) else (none)) else (some true)
def fastiref28_Same.f (k : Nat) (l0 : List (S27)) (l1 : List (S27)) : Option (Bool) := if (l0.length : Int) = (l1.length : Int) then (fastiref28_Same.l0 k l0 l1 0) else (some false)
theorem fastiref28_Same.mono_l : ∀ k, (∀ y0 y1 y2, LeO (fastiref28_Same.l0 k y0 y1 y2) (fastiref28_Same.l0 (k + 1) y0 y1 y2))
 | 0 => fun _ _ _ r h => by simp [fastiref28_Same.l0] at h
 | k + 1 => by
  have ih0 := fastiref28_Same.mono_l k
  ·intro y0 y1 y2
   unfold fastiref28_Same.l0
   repeat' first
   | (with_reducible exact ih0 _ _ _)
   | (with_reducible exact LeO.refl _)
   | (with_reducible exact LeO.none _)
   | (with_reducible refine LeO.ite ?_ ?_)
   | (with_reducible refine LeO.bind ?_ (fun _ => ?_))
   | exact ih0 _ _ _
   | exact LeO.none _
   | refine LeO.ite ?_ ?_
   | refine LeO.bind ?_ (fun _ => ?_)
theorem fastiref28_Same.mono : ∀ a0 a1 k, LeO (fastiref28_Same.f k a0 a1) (fastiref28_Same.f (k + 1) a0 a1) := by
 intro a0 a1 k
 have ih0 := fastiref28_Same.mono_l k
 unfold fastiref28_Same.f
 repeat' first
   | (with_reducible exact ih0 _ _ _)
   | (with_reducible exact LeO.refl _)
   | (with_reducible exact LeO.none _)
   | (with_reducible refine LeO.ite ?_ ?_)
   | (with_reducible refine LeO.bind ?_ (fun _ => ?_))
   | exact ih0 _ _ _
   | exact LeO.none _
   | refine LeO.ite ?_ ?_
   | refine LeO.bind ?_ (fun _ => ?_)
set_option maxHeartbeats 8000000 in
set_option maxRecDepth 100000 in
theorem fastiref28_Same.calls (k : Nat) (A0 : Option Addr) (c0 : Nat) (l0 : List (S27)) (A1 : Option Addr) (c1 : Nat) (l1 : List (S27)) (r : Bool) (w : World) (hr0 : Kd.C k27 w A0 l0.length l0) (hc0 : l0.length ≤ c0) (hr1 : Kd.C k27 w A1 l1.length l1) (hc1 : l1.length ≤ c1) (h : fastiref28_Same.f k l0 l1 = some r) :
  Calls Try.prog 29 #[.slice A0 l0.length c0, .slice A1 l1.length c1] w fun e w' => e = .returned (.bool r) ∧ Drawn0 w w' := by
 have hu27 := Try.underlying27
 have HR0 := Aside0.mk hr0
 have HC0 := Aside0.mk hc0
 clear hr0 hc0
 have HR1 := Aside0.mk hr1
 have HC1 := Aside0.mk hc1
 clear hr1 hc1
 have H : (if (l0.length : Int) = (l1.length : Int) then (fastiref28_Same.l0 k l0 l1 0) else (some false)) = some r := h
 clear h
 by_cases c3 : (l0.length : Int) = (l1.length : Int)
 ·rw [if_pos c3] at H
  have c3b0 : ((l0.length : Int) == (l1.length : Int)) = true := beq_iff_eq.mpr c3
  have c3b1 : ((l0.length : Int) != (l1.length : Int)) = false := bne_eq_false_iff_eq.mpr c3
  have c3b2 : (l0.length == l1.length) = true := by first | simpa using c3 | (simp at c3 ⊢; omega)
  clear c3
  have H' := Aside0.mk H
  clear H
  go_enter Try.func29, Try.ntmps29
  go_wp2
  repeat (go_quiet (fail); try go_wp2)
  go_loopg [5] k (fun kq v5 w' => ∃ (x5_1 : Int), v5 = .int .i64 x5_1 ∧ Aside0 (fastiref28_Same.l0 kq l0 l1 x5_1 = some r) ∧ Aside0 (kq ≤ k) ∧ Drawn0 w w')
  case atStart => exact ⟨(0), (by first | rfl | (simp; done) | (simp [*]; done)), H', ⟨Nat.le_refl _⟩, by repeat (first | exact Drawn0.refl _ | apply Drawn0.step)⟩
  case round =>
   clear H'
   try clear c1
   try clear c2
   try clear p2
   try clear c3
   try clear c3b0
   try clear c3b1
   try clear c3b2
   obtain ⟨x5_1, rfl, HA, HK1, ⟨m1, rfl⟩⟩ := hrel
   cases gk with
   | zero => exact absurd HA.out (by simp [fastiref28_Same.l0])
   | succ k1 =>
    have H := HA.out
    clear HA
    simp only [fastiref28_Same.l0] at H
    by_cases c4 : x5_1 < (l0.length : Int)
    ·rw [if_pos c4] at H
     have c4b0 : decide (x5_1 < (l0.length : Int)) = true := decide_eq_true c4
     clear c4
     by_cases c5 : 0 ≤ x5_1
     ·rw [if_pos c5] at H
      have c5b0 : decide (0 ≤ x5_1) = true := decide_eq_true c5
      clear c5
      by_cases c6 : x5_1 < (l1.length : Int)
      ·rw [if_pos c6] at H
       have c6b0 : decide (x5_1 < (l1.length : Int)) = true := decide_eq_true c6
       clear c6
       by_cases c7 : (!(((rd_T27 l0 x5_1).f0) == ((rd_T27 l1 x5_1).f0)) || (!(((rd_T27 l0 x5_1).f1) == ((rd_T27 l1 x5_1).f1)))) = true
       ·rw [if_pos c7] at H
        have c7b0 : (!(((rd_T27 l0 x5_1).f0) == ((rd_T27 l1 x5_1).f0)) || (!(((rd_T27 l0 x5_1).f1) == ((rd_T27 l1 x5_1).f1)))) = true := c7
        clear c7
        obtain rfl := Option.some.inj H
        have p101 : 0 ≤ (x5_1 : Int) := of_decide_eq_true (by first | (with_reducible assumption) | assumption)
        have q101 : x5_1 < (l0.length : Int) := of_decide_eq_true (by first | (with_reducible assumption) | assumption)
        obtain ⟨ad101, e101, hx101_0, hx101_1⟩ := at_T27 HR0.out x5_1 p101 q101
        cases e101
        replace p101 := eq_true p101
        replace q101 := eq_true q101
        have p102 : 0 ≤ (x5_1 : Int) := of_decide_eq_true (by first | (with_reducible assumption) | assumption)
        have q102 : x5_1 < (l1.length : Int) := of_decide_eq_true (by first | (with_reducible assumption) | assumption)
        obtain ⟨ad102, e102, hx102_0, hx102_1⟩ := at_T27 HR1.out x5_1 p102 q102
        cases e102
        replace p102 := eq_true p102
        replace q102 := eq_true q102
        go_wp2
        repeat (go_quiet (fail); try go_wp2)
        go_ret
        exact ⟨by first | rfl | (simp; done) | (simp [*]; done), by repeat (first | exact Drawn0.refl _ | apply Drawn0.step)⟩
       ·rw [if_neg c7] at H
        have c7b0 : (!(((rd_T27 l0 x5_1).f0) == ((rd_T27 l1 x5_1).f0)) || (!(((rd_T27 l0 x5_1).f1) == ((rd_T27 l1 x5_1).f1)))) = false := by simpa using c7
        clear c7
        have H' := Aside0.mk H
        clear H
        have p101 : 0 ≤ (x5_1 : Int) := of_decide_eq_true (by first | (with_reducible assumption) | assumption)
        have q101 : x5_1 < (l0.length : Int) := of_decide_eq_true (by first | (with_reducible assumption) | assumption)
        obtain ⟨ad101, e101, hx101_0, hx101_1⟩ := at_T27 HR0.out x5_1 p101 q101
        cases e101
        replace p101 := eq_true p101
        replace q101 := eq_true q101
        have p102 : 0 ≤ (x5_1 : Int) := of_decide_eq_true (by first | (with_reducible assumption) | assumption)
        have q102 : x5_1 < (l1.length : Int) := of_decide_eq_true (by first | (with_reducible assumption) | assumption)
        obtain ⟨ad102, e102, hx102_0, hx102_1⟩ := at_T27 HR1.out x5_1 p102 q102
        cases e102
        replace p102 := eq_true p102
        replace q102 := eq_true q102
        go_wp2
        repeat (go_quiet (fail); try go_wp2)
        go_roundg k1
        case measure => have := HK1.out; omega
        case rel => exact ⟨(wrap64 (x5_1 + 1)), (by first | rfl | (simp; done) | (simp [*]; done)), H', ⟨by have := HK1.out; omega⟩, by repeat (first | exact Drawn0.refl _ | apply Drawn0.step)⟩
      ·rw [if_neg c6] at H
       exact absurd H (by simp)
     ·rw [if_neg c5] at H
      exact absurd H (by simp)
    ·rw [if_neg c4] at H
     have c4b0 : decide (x5_1 < (l0.length : Int)) = false := decide_eq_false c4
     clear c4
     obtain rfl := Option.some.inj H
     go_wp2
     repeat (go_quiet (fail); try go_wp2)
     go_ret
     exact ⟨by first | rfl | (simp; done) | (simp [*]; done), by repeat (first | exact Drawn0.refl _ | apply Drawn0.step)⟩
 ·rw [if_neg c3] at H
  have c3b0 : ((l0.length : Int) == (l1.length : Int)) = false := beq_eq_false_iff_ne.mpr c3
  have c3b1 : ((l0.length : Int) != (l1.length : Int)) = true := bne_iff_ne.mpr c3
  have c3b2 : (l0.length == l1.length) = false := by first | simpa using c3 | (simp at c3 ⊢; omega)
  obtain rfl := Option.some.inj H
  go_enter Try.func29, Try.ntmps29
  go_wp2
  repeat (go_quiet (fail); try go_wp2)
  go_ret
  exact ⟨by first | rfl | (simp; done) | (simp [*]; done), by repeat (first | exact Drawn0.refl _ | apply Drawn0.step)⟩

/-! ### fastilaw28_pitch: function 45 -/
def fastilaw28_pitch.f  : Option (ByteArray × ByteArray × Int × Int × Int × Int × Int) := some ((⟨#[]⟩ : ByteArray), (⟨#[]⟩ : ByteArray), 0, 300, 200, 20, 2)
set_option maxHeartbeats 8000000 in
set_option maxRecDepth 100000 in
theorem fastilaw28_pitch.calls  (r1 : ByteArray) (r2 : ByteArray) (r3 : Int) (r4 : Int) (r5 : Int) (r6 : Int) (r7 : Int) (w : World) (h : fastilaw28_pitch.f  = some (r1, r2, r3, r4, r5, r6, r7)) :
  Calls Try.prog 45 #[] w fun e w' => e = .returned (.agg #[.string r1, .string r2, .int .i64 r3, .int .i64 r4, .int .i64 r5, .int .i64 r6, .int .i64 r7]) ∧ Below w.heap.size w w' := by
 have hu25 := Try.underlying25
 have HB := Aside0.mk (Below.refl w.heap.size w)
 have H : (some ((⟨#[]⟩ : ByteArray), (⟨#[]⟩ : ByteArray), 0, 300, 200, 20, 2)) = some (r1, r2, r3, r4, r5, r6, r7) := h
 clear h
 simp only [Option.some.injEq, Prod.mk.injEq] at H
 obtain ⟨rfl, rfl, rfl, rfl, rfl, rfl, rfl⟩ := H
 go_enter Try.func45, Try.ntmps45
 go_wp2_with (first | ((with_reducible refine gate_dst (N := 0) rfl ?_); refine box_event ?hg (N := 0) ?hd (cs := #[.string (⟨#[]⟩ : ByteArray), .string (⟨#[]⟩ : ByteArray), .int .i64 0, .int .i64 0, .int .i64 0, .int .i64 0, .int .i64 0]) (t := 25) ?hr ?_; (case hd => rfl); (case hg => rfl); (case hr => first | (go_simp; done) | (go_simp; rfl)); intro gb103 hg w1 hbox hb; have n0_ := Aside0.mk (below_step (by repeat (first | (with_reducible first | exact HB.out | apply below_alloc | apply pw_below_drewN | apply below_drew1) | exact HB.out)) hb); have n1_ := Aside0.mk (hbox); have n2_ := Aside0.mk ((by rw [hg]; exact (below_size (by repeat (first | (with_reducible first | exact HB.out | apply below_alloc | apply pw_below_drewN | apply below_drew1) | exact HB.out))) : w.heap.size ≤ gb103)); have n3_ := Aside0.mk ((by rw [hg]; exact (below_size (by repeat (first | (with_reducible first | exact HB.out | apply below_alloc | apply pw_below_drewN | apply below_drew1) | exact HB.out))) : w.heap.size ≤ gb103)); clear HB; have HB := n0_; have BK103 := n1_; have GW103 := n2_; have GE103 := n3_; clear n0_ n1_ n2_ n3_; clear hb hbox hg; have hcz2_0 : w1.cell? ⟨gb103, 0, none⟩ = some (.string (⟨#[]⟩ : ByteArray)) := (blk_cell BK103.out 0).trans rfl; have hcz2_1 : w1.cell? ⟨gb103, 1, none⟩ = some (.string (⟨#[]⟩ : ByteArray)) := (blk_cell BK103.out 1).trans rfl; have hcz2_2 : w1.cell? ⟨gb103, 2, none⟩ = some (.int .i64 0) := (blk_cell BK103.out 2).trans rfl; have hcz2_3 : w1.cell? ⟨gb103, 3, none⟩ = some (.int .i64 0) := (blk_cell BK103.out 3).trans rfl; have hcz2_4 : w1.cell? ⟨gb103, 4, none⟩ = some (.int .i64 0) := (blk_cell BK103.out 4).trans rfl; have hcz2_5 : w1.cell? ⟨gb103, 5, none⟩ = some (.int .i64 0) := (blk_cell BK103.out 5).trans rfl; have hcz2_6 : w1.cell? ⟨gb103, 6, none⟩ = some (.int .i64 0) := (blk_cell BK103.out 6).trans rfl; have hfz2_0 := blk_frozen BK103.out 0; have hfz2_1 := blk_frozen BK103.out 1; have hfz2_2 := blk_frozen BK103.out 2; have hfz2_3 := blk_frozen BK103.out 3; have hfz2_4 := blk_frozen BK103.out 4; have hfz2_5 := blk_frozen BK103.out 5; have hfz2_6 := blk_frozen BK103.out 6))
 refine bodyPost_ret (results_cell_row rfl _ _ gb103 25 #[.string (⟨#[]⟩ : ByteArray), .string (⟨#[]⟩ : ByteArray), .int .i64 0, .int .i64 300, .int .i64 200, .int .i64 20, .int .i64 2] (0, 0) _ rfl (by (with_reducible repeat (first | refine blk_drewN ?_ _ | refine blk_drew ?_ | refine blk_alloc ?_ _)); refine blk_put (cs := #[.string (⟨#[]⟩ : ByteArray), .string (⟨#[]⟩ : ByteArray), .int .i64 0, .int .i64 300, .int .i64 200, .int .i64 20, .int .i64 0]) ?_ 6 _ rfl; (with_reducible repeat (first | refine blk_drewN ?_ _ | refine blk_drew ?_ | refine blk_alloc ?_ _)); refine blk_put (cs := #[.string (⟨#[]⟩ : ByteArray), .string (⟨#[]⟩ : ByteArray), .int .i64 0, .int .i64 300, .int .i64 200, .int .i64 0, .int .i64 0]) ?_ 5 _ rfl; (with_reducible repeat (first | refine blk_drewN ?_ _ | refine blk_drew ?_ | refine blk_alloc ?_ _)); refine blk_put (cs := #[.string (⟨#[]⟩ : ByteArray), .string (⟨#[]⟩ : ByteArray), .int .i64 0, .int .i64 300, .int .i64 0, .int .i64 0, .int .i64 0]) ?_ 4 _ rfl; (with_reducible repeat (first | refine blk_drewN ?_ _ | refine blk_drew ?_ | refine blk_alloc ?_ _)); refine blk_put (cs := #[.string (⟨#[]⟩ : ByteArray), .string (⟨#[]⟩ : ByteArray), .int .i64 0, .int .i64 0, .int .i64 0, .int .i64 0, .int .i64 0]) ?_ 3 _ rfl; (with_reducible repeat (first | refine blk_drewN ?_ _ | refine blk_drew ?_ | refine blk_alloc ?_ _)); refine blk_put (cs := #[.string (⟨#[]⟩ : ByteArray), .string (⟨#[]⟩ : ByteArray), .int .i64 0, .int .i64 0, .int .i64 0, .int .i64 0, .int .i64 0]) ?_ 2 _ rfl; (with_reducible repeat (first | refine blk_drewN ?_ _ | refine blk_drew ?_ | refine blk_alloc ?_ _)); refine blk_put (cs := #[.string (⟨#[]⟩ : ByteArray), .string (⟨#[]⟩ : ByteArray), .int .i64 0, .int .i64 0, .int .i64 0, .int .i64 0, .int .i64 0]) ?_ 1 _ rfl; (with_reducible repeat (first | refine blk_drewN ?_ _ | refine blk_drew ?_ | refine blk_alloc ?_ _)); refine blk_put (cs := #[.string (⟨#[]⟩ : ByteArray), .string (⟨#[]⟩ : ByteArray), .int .i64 0, .int .i64 0, .int .i64 0, .int .i64 0, .int .i64 0]) ?_ 0 _ rfl; (with_reducible repeat (first | refine blk_drewN ?_ _ | refine blk_drew ?_ | refine blk_alloc ?_ _)); exact BK103.out) Try.underlying25 rfl (by kernel_rfl)) rfl ?_
 exact ⟨by first | rfl | (simp [errW_none, errW_some] <;> rfl) | (simp [*, errW_none, errW_some] <;> rfl), by repeat (first | (with_reducible first | exact HB.out | apply below_alloc | apply pw_below_drewN | apply below_drew1 | refine below_set ?_ GE103.out) | exact HB.out)⟩

/-! ### fastilaw28_sane: function 22 -/
def fastilaw28_sane.j0 : Nat → List (S27) → Bool → ByteArray → ByteArray → Int → Int → Int → Int → Int → Int → Int → Int → Int → Option (Bool)
 | 0, _, _, _, _, _, _, _, _, _, _, _, _, _ => none
 | k + 1, x10, x92, x112000, x112001, x112002, x112003, x112004, x112005, x112006, x118000, x118001, x122000, x122001 => if x92 = true then (some false) else ((turf_Check.f x112000 x112001 x112002 x112003 x112004 x112005 x112006).bind fun t147 => (if t147 = 0 then ((turf_Check.f (⟨#[]⟩ : ByteArray) (⟨#[]⟩ : ByteArray) 0 0 0 0 0).bind fun t148 => (if t148 = 280 then (if (x118000 == 80 && (x118001 == 220)) = true then (if (x122000 == 1000 && (x122001 == 1000)) = true then ((fastiref28_Same.f k x10 (([(⟨80, 220⟩ : S27), (⟨100, 240⟩ : S27)] : List (S27)))).bind fun t152 => (some t152)) else (some false)) else (some false)) else (some false))) else (some false)))
def fastilaw28_sane.f (k : Nat)  : Option (Bool) := (fastilaw28_pitch.f).bind fun bt104 => ((turf_Next.f bt104.1 bt104.2.1 bt104.2.2.1 bt104.2.2.2.1 bt104.2.2.2.2.1 bt104.2.2.2.2.2.1 bt104.2.2.2.2.2.2 500 600 0 40 0 5 2).bind fun bt114 => ((turf_Next.f bt104.1 bt104.2.1 bt104.2.2.1 bt104.2.2.2.1 bt104.2.2.2.2.1 bt104.2.2.2.2.2.1 bt104.2.2.2.2.2.2 990 1000 0 0 0 0 0).bind fun bt118 => ((turf_Next.f bt104.1 bt104.2.1 bt104.2.2.1 bt104.2.2.2.1 bt104.2.2.2.2.1 bt104.2.2.2.2.2.1 bt104.2.2.2.2.2.2 500 600 0 40 0 5 5).bind fun bt122 => ((turf_Run.f bt104.1 bt104.2.1 bt104.2.2.1 bt104.2.2.2.1 bt104.2.2.2.2.1 bt104.2.2.2.2.2.1 bt104.2.2.2.2.2.2 500 600 (([(⟨(⟨0, 40⟩ : S27), (⟨0, 5⟩ : S27)⟩ : S44), (⟨(⟨0, 0⟩ : S27), (⟨0, 0⟩ : S27)⟩ : S44)] : List (S44))) (([2, 0] : List Int))).bind fun bt132 => ((turf_Run.f bt104.1 bt104.2.1 bt104.2.2.1 bt104.2.2.2.1 bt104.2.2.2.2.1 bt104.2.2.2.2.2.1 bt104.2.2.2.2.2.2 500 600 (([(⟨(⟨0, 40⟩ : S27), (⟨0, 5⟩ : S27)⟩ : S44)] : List (S44))) ([] : List Int)).bind fun bt139 => ((turf_Run.f bt104.1 bt104.2.1 bt104.2.2.1 bt104.2.2.2.1 bt104.2.2.2.2.1 bt104.2.2.2.2.2.1 bt104.2.2.2.2.2.2 500 600 ([] : List (S44)) ([] : List Int)).bind fun bt143 => (if bt114.2.2 = 0 then (if bt118.2.2 = 0 then (if bt122.2.2 = 280 then (if bt132.2 = 0 then (if bt139.2 = 280 then (if bt143.2 = 0 then (fastilaw28_sane.j0 k bt132.1 ((bt143.1.length : Int) != 0) bt104.1 bt104.2.1 bt104.2.2.1 bt104.2.2.2.1 bt104.2.2.2.2.1 bt104.2.2.2.2.2.1 bt104.2.2.2.2.2.2 bt114.1 bt114.2.1 bt118.1 bt118.2.1) else (fastilaw28_sane.j0 k bt132.1 true bt104.1 bt104.2.1 bt104.2.2.1 bt104.2.2.2.1 bt104.2.2.2.2.1 bt104.2.2.2.2.2.1 bt104.2.2.2.2.2.2 bt114.1 bt114.2.1 bt118.1 bt118.2.1)) else (fastilaw28_sane.j0 k bt132.1 true bt104.1 bt104.2.1 bt104.2.2.1 bt104.2.2.2.1 bt104.2.2.2.2.1 bt104.2.2.2.2.2.1 bt104.2.2.2.2.2.2 bt114.1 bt114.2.1 bt118.1 bt118.2.1)) else (fastilaw28_sane.j0 k bt132.1 true bt104.1 bt104.2.1 bt104.2.2.1 bt104.2.2.2.1 bt104.2.2.2.2.1 bt104.2.2.2.2.2.1 bt104.2.2.2.2.2.2 bt114.1 bt114.2.1 bt118.1 bt118.2.1)) else (fastilaw28_sane.j0 k bt132.1 true bt104.1 bt104.2.1 bt104.2.2.1 bt104.2.2.2.1 bt104.2.2.2.2.1 bt104.2.2.2.2.2.1 bt104.2.2.2.2.2.2 bt114.1 bt114.2.1 bt118.1 bt118.2.1)) else (fastilaw28_sane.j0 k bt132.1 true bt104.1 bt104.2.1 bt104.2.2.1 bt104.2.2.2.1 bt104.2.2.2.2.1 bt104.2.2.2.2.2.1 bt104.2.2.2.2.2.2 bt114.1 bt114.2.1 bt118.1 bt118.2.1)) else (fastilaw28_sane.j0 k bt132.1 true bt104.1 bt104.2.1 bt104.2.2.1 bt104.2.2.2.1 bt104.2.2.2.2.1 bt104.2.2.2.2.2.1 bt104.2.2.2.2.2.2 bt114.1 bt114.2.1 bt118.1 bt118.2.1))))))))
theorem fastilaw28_sane.mono_l : ∀ k, (∀ y0 y1 y2 y3 y4 y5 y6 y7 y8 y9 y10 y11 y12, LeO (fastilaw28_sane.j0 k y0 y1 y2 y3 y4 y5 y6 y7 y8 y9 y10 y11 y12) (fastilaw28_sane.j0 (k + 1) y0 y1 y2 y3 y4 y5 y6 y7 y8 y9 y10 y11 y12))
 | 0 => fun _ _ _ _ _ _ _ _ _ _ _ _ _ r h => by simp [fastilaw28_sane.j0] at h
 | k + 1 => by
  have ih0 := fastilaw28_sane.mono_l k
  ·intro y0 y1 y2 y3 y4 y5 y6 y7 y8 y9 y10 y11 y12
   unfold fastilaw28_sane.j0
   repeat' first
   | (with_reducible exact ih0 _ _ _ _ _ _ _ _ _ _ _ _ _)
   | (with_reducible exact fastiref28_Same.mono _ _ _)
   | (with_reducible exact LeO.refl _)
   | (with_reducible exact LeO.none _)
   | (with_reducible refine LeO.ite ?_ ?_)
   | (with_reducible refine LeO.bind ?_ (fun _ => ?_))
   | exact ih0 _ _ _ _ _ _ _ _ _ _ _ _ _
   | exact fastiref28_Same.mono _ _ _
   | exact LeO.none _
   | refine LeO.ite ?_ ?_
   | refine LeO.bind ?_ (fun _ => ?_)
theorem fastilaw28_sane.mono : ∀ k, LeO (fastilaw28_sane.f k ) (fastilaw28_sane.f (k + 1) ) := by
 intro  k
 have ih0 := fastilaw28_sane.mono_l k
 unfold fastilaw28_sane.f
 repeat' first
   | (with_reducible exact ih0 _ _ _ _ _ _ _ _ _ _ _ _ _)
   | (with_reducible exact fastiref28_Same.mono _ _ _)
   | (with_reducible exact LeO.refl _)
   | (with_reducible exact LeO.none _)
   | (with_reducible refine LeO.ite ?_ ?_)
   | (with_reducible refine LeO.bind ?_ (fun _ => ?_))
   | exact ih0 _ _ _ _ _ _ _ _ _ _ _ _ _
   | exact fastiref28_Same.mono _ _ _
   | exact LeO.none _
   | refine LeO.ite ?_ ?_
   | refine LeO.bind ?_ (fun _ => ?_)
set_option maxHeartbeats 8000000 in
set_option maxRecDepth 100000 in
theorem fastilaw28_sane.calls (k : Nat)  (r : Bool) (w : World) (h : fastilaw28_sane.f k  = some r) :
  Calls Try.prog 22 #[] w fun e w' => e = .returned (.bool r) ∧ Below w.heap.size w w' := by
 have hu25 := Try.underlying25
 have hu27 := Try.underlying27
 have hu44 := Try.underlying44
 have HB := Aside0.mk (Below.refl w.heap.size w)
 have H : ((fastilaw28_pitch.f).bind fun bt104 => ((turf_Next.f bt104.1 bt104.2.1 bt104.2.2.1 bt104.2.2.2.1 bt104.2.2.2.2.1 bt104.2.2.2.2.2.1 bt104.2.2.2.2.2.2 500 600 0 40 0 5 2).bind fun bt114 => ((turf_Next.f bt104.1 bt104.2.1 bt104.2.2.1 bt104.2.2.2.1 bt104.2.2.2.2.1 bt104.2.2.2.2.2.1 bt104.2.2.2.2.2.2 990 1000 0 0 0 0 0).bind fun bt118 => ((turf_Next.f bt104.1 bt104.2.1 bt104.2.2.1 bt104.2.2.2.1 bt104.2.2.2.2.1 bt104.2.2.2.2.2.1 bt104.2.2.2.2.2.2 500 600 0 40 0 5 5).bind fun bt122 => ((turf_Run.f bt104.1 bt104.2.1 bt104.2.2.1 bt104.2.2.2.1 bt104.2.2.2.2.1 bt104.2.2.2.2.2.1 bt104.2.2.2.2.2.2 500 600 (([(⟨(⟨0, 40⟩ : S27), (⟨0, 5⟩ : S27)⟩ : S44), (⟨(⟨0, 0⟩ : S27), (⟨0, 0⟩ : S27)⟩ : S44)] : List (S44))) (([2, 0] : List Int))).bind fun bt132 => ((turf_Run.f bt104.1 bt104.2.1 bt104.2.2.1 bt104.2.2.2.1 bt104.2.2.2.2.1 bt104.2.2.2.2.2.1 bt104.2.2.2.2.2.2 500 600 (([(⟨(⟨0, 40⟩ : S27), (⟨0, 5⟩ : S27)⟩ : S44)] : List (S44))) ([] : List Int)).bind fun bt139 => ((turf_Run.f bt104.1 bt104.2.1 bt104.2.2.1 bt104.2.2.2.1 bt104.2.2.2.2.1 bt104.2.2.2.2.2.1 bt104.2.2.2.2.2.2 500 600 ([] : List (S44)) ([] : List Int)).bind fun bt143 => (if bt114.2.2 = 0 then (if bt118.2.2 = 0 then (if bt122.2.2 = 280 then (if bt132.2 = 0 then (if bt139.2 = 280 then (if bt143.2 = 0 then (fastilaw28_sane.j0 k bt132.1 ((bt143.1.length : Int) != 0) bt104.1 bt104.2.1 bt104.2.2.1 bt104.2.2.2.1 bt104.2.2.2.2.1 bt104.2.2.2.2.2.1 bt104.2.2.2.2.2.2 bt114.1 bt114.2.1 bt118.1 bt118.2.1) else (fastilaw28_sane.j0 k bt132.1 true bt104.1 bt104.2.1 bt104.2.2.1 bt104.2.2.2.1 bt104.2.2.2.2.1 bt104.2.2.2.2.2.1 bt104.2.2.2.2.2.2 bt114.1 bt114.2.1 bt118.1 bt118.2.1)) else (fastilaw28_sane.j0 k bt132.1 true bt104.1 bt104.2.1 bt104.2.2.1 bt104.2.2.2.1 bt104.2.2.2.2.1 bt104.2.2.2.2.2.1 bt104.2.2.2.2.2.2 bt114.1 bt114.2.1 bt118.1 bt118.2.1)) else (fastilaw28_sane.j0 k bt132.1 true bt104.1 bt104.2.1 bt104.2.2.1 bt104.2.2.2.1 bt104.2.2.2.2.1 bt104.2.2.2.2.2.1 bt104.2.2.2.2.2.2 bt114.1 bt114.2.1 bt118.1 bt118.2.1)) else (fastilaw28_sane.j0 k bt132.1 true bt104.1 bt104.2.1 bt104.2.2.1 bt104.2.2.2.1 bt104.2.2.2.2.1 bt104.2.2.2.2.2.1 bt104.2.2.2.2.2.2 bt114.1 bt114.2.1 bt118.1 bt118.2.1)) else (fastilaw28_sane.j0 k bt132.1 true bt104.1 bt104.2.1 bt104.2.2.1 bt104.2.2.2.1 bt104.2.2.2.2.1 bt104.2.2.2.2.2.1 bt104.2.2.2.2.2.2 bt114.1 bt114.2.1 bt118.1 bt118.2.1)) else (fastilaw28_sane.j0 k bt132.1 true bt104.1 bt104.2.1 bt104.2.2.1 bt104.2.2.2.1 bt104.2.2.2.2.1 bt104.2.2.2.2.2.1 bt104.2.2.2.2.2.2 bt114.1 bt114.2.1 bt118.1 bt118.2.1))))))))) = some r := h
 clear h
 replace H := Option.bind_eq_some_iff.mp H
 obtain ⟨⟨t104, t105, t106, t107, t108, t109, t110⟩, A10, H⟩ := H
 replace H : ((turf_Next.f t104 t105 t106 t107 t108 t109 t110 500 600 0 40 0 5 2).bind fun bt114 => ((turf_Next.f t104 t105 t106 t107 t108 t109 t110 990 1000 0 0 0 0 0).bind fun bt118 => ((turf_Next.f t104 t105 t106 t107 t108 t109 t110 500 600 0 40 0 5 5).bind fun bt122 => ((turf_Run.f t104 t105 t106 t107 t108 t109 t110 500 600 (([(⟨(⟨0, 40⟩ : S27), (⟨0, 5⟩ : S27)⟩ : S44), (⟨(⟨0, 0⟩ : S27), (⟨0, 0⟩ : S27)⟩ : S44)] : List (S44))) (([2, 0] : List Int))).bind fun bt132 => ((turf_Run.f t104 t105 t106 t107 t108 t109 t110 500 600 (([(⟨(⟨0, 40⟩ : S27), (⟨0, 5⟩ : S27)⟩ : S44)] : List (S44))) ([] : List Int)).bind fun bt139 => ((turf_Run.f t104 t105 t106 t107 t108 t109 t110 500 600 ([] : List (S44)) ([] : List Int)).bind fun bt143 => (if bt114.2.2 = 0 then (if bt118.2.2 = 0 then (if bt122.2.2 = 280 then (if bt132.2 = 0 then (if bt139.2 = 280 then (if bt143.2 = 0 then (fastilaw28_sane.j0 k bt132.1 ((bt143.1.length : Int) != 0) t104 t105 t106 t107 t108 t109 t110 bt114.1 bt114.2.1 bt118.1 bt118.2.1) else (fastilaw28_sane.j0 k bt132.1 true t104 t105 t106 t107 t108 t109 t110 bt114.1 bt114.2.1 bt118.1 bt118.2.1)) else (fastilaw28_sane.j0 k bt132.1 true t104 t105 t106 t107 t108 t109 t110 bt114.1 bt114.2.1 bt118.1 bt118.2.1)) else (fastilaw28_sane.j0 k bt132.1 true t104 t105 t106 t107 t108 t109 t110 bt114.1 bt114.2.1 bt118.1 bt118.2.1)) else (fastilaw28_sane.j0 k bt132.1 true t104 t105 t106 t107 t108 t109 t110 bt114.1 bt114.2.1 bt118.1 bt118.2.1)) else (fastilaw28_sane.j0 k bt132.1 true t104 t105 t106 t107 t108 t109 t110 bt114.1 bt114.2.1 bt118.1 bt118.2.1)) else (fastilaw28_sane.j0 k bt132.1 true t104 t105 t106 t107 t108 t109 t110 bt114.1 bt114.2.1 bt118.1 bt118.2.1)))))))) = some r := H
 have A1 := Aside0.mk A10
 clear A10
 replace H := Option.bind_eq_some_iff.mp H
 obtain ⟨⟨t114, t115, t116⟩, A20, H⟩ := H
 replace H : ((turf_Next.f t104 t105 t106 t107 t108 t109 t110 990 1000 0 0 0 0 0).bind fun bt118 => ((turf_Next.f t104 t105 t106 t107 t108 t109 t110 500 600 0 40 0 5 5).bind fun bt122 => ((turf_Run.f t104 t105 t106 t107 t108 t109 t110 500 600 (([(⟨(⟨0, 40⟩ : S27), (⟨0, 5⟩ : S27)⟩ : S44), (⟨(⟨0, 0⟩ : S27), (⟨0, 0⟩ : S27)⟩ : S44)] : List (S44))) (([2, 0] : List Int))).bind fun bt132 => ((turf_Run.f t104 t105 t106 t107 t108 t109 t110 500 600 (([(⟨(⟨0, 40⟩ : S27), (⟨0, 5⟩ : S27)⟩ : S44)] : List (S44))) ([] : List Int)).bind fun bt139 => ((turf_Run.f t104 t105 t106 t107 t108 t109 t110 500 600 ([] : List (S44)) ([] : List Int)).bind fun bt143 => (if t116 = 0 then (if bt118.2.2 = 0 then (if bt122.2.2 = 280 then (if bt132.2 = 0 then (if bt139.2 = 280 then (if bt143.2 = 0 then (fastilaw28_sane.j0 k bt132.1 ((bt143.1.length : Int) != 0) t104 t105 t106 t107 t108 t109 t110 t114 t115 bt118.1 bt118.2.1) else (fastilaw28_sane.j0 k bt132.1 true t104 t105 t106 t107 t108 t109 t110 t114 t115 bt118.1 bt118.2.1)) else (fastilaw28_sane.j0 k bt132.1 true t104 t105 t106 t107 t108 t109 t110 t114 t115 bt118.1 bt118.2.1)) else (fastilaw28_sane.j0 k bt132.1 true t104 t105 t106 t107 t108 t109 t110 t114 t115 bt118.1 bt118.2.1)) else (fastilaw28_sane.j0 k bt132.1 true t104 t105 t106 t107 t108 t109 t110 t114 t115 bt118.1 bt118.2.1)) else (fastilaw28_sane.j0 k bt132.1 true t104 t105 t106 t107 t108 t109 t110 t114 t115 bt118.1 bt118.2.1)) else (fastilaw28_sane.j0 k bt132.1 true t104 t105 t106 t107 t108 t109 t110 t114 t115 bt118.1 bt118.2.1))))))) = some r := H
 have A2 := Aside0.mk A20
 clear A20
 replace H := Option.bind_eq_some_iff.mp H
 obtain ⟨⟨t118, t119, t120⟩, A30, H⟩ := H
 replace H : ((turf_Next.f t104 t105 t106 t107 t108 t109 t110 500 600 0 40 0 5 5).bind fun bt122 => ((turf_Run.f t104 t105 t106 t107 t108 t109 t110 500 600 (([(⟨(⟨0, 40⟩ : S27), (⟨0, 5⟩ : S27)⟩ : S44), (⟨(⟨0, 0⟩ : S27), (⟨0, 0⟩ : S27)⟩ : S44)] : List (S44))) (([2, 0] : List Int))).bind fun bt132 => ((turf_Run.f t104 t105 t106 t107 t108 t109 t110 500 600 (([(⟨(⟨0, 40⟩ : S27), (⟨0, 5⟩ : S27)⟩ : S44)] : List (S44))) ([] : List Int)).bind fun bt139 => ((turf_Run.f t104 t105 t106 t107 t108 t109 t110 500 600 ([] : List (S44)) ([] : List Int)).bind fun bt143 => (if t116 = 0 then (if t120 = 0 then (if bt122.2.2 = 280 then (if bt132.2 = 0 then (if bt139.2 = 280 then (if bt143.2 = 0 then (fastilaw28_sane.j0 k bt132.1 ((bt143.1.length : Int) != 0) t104 t105 t106 t107 t108 t109 t110 t114 t115 t118 t119) else (fastilaw28_sane.j0 k bt132.1 true t104 t105 t106 t107 t108 t109 t110 t114 t115 t118 t119)) else (fastilaw28_sane.j0 k bt132.1 true t104 t105 t106 t107 t108 t109 t110 t114 t115 t118 t119)) else (fastilaw28_sane.j0 k bt132.1 true t104 t105 t106 t107 t108 t109 t110 t114 t115 t118 t119)) else (fastilaw28_sane.j0 k bt132.1 true t104 t105 t106 t107 t108 t109 t110 t114 t115 t118 t119)) else (fastilaw28_sane.j0 k bt132.1 true t104 t105 t106 t107 t108 t109 t110 t114 t115 t118 t119)) else (fastilaw28_sane.j0 k bt132.1 true t104 t105 t106 t107 t108 t109 t110 t114 t115 t118 t119)))))) = some r := H
 have A3 := Aside0.mk A30
 clear A30
 replace H := Option.bind_eq_some_iff.mp H
 obtain ⟨⟨t122, t123, t124⟩, A40, H⟩ := H
 replace H : ((turf_Run.f t104 t105 t106 t107 t108 t109 t110 500 600 (([(⟨(⟨0, 40⟩ : S27), (⟨0, 5⟩ : S27)⟩ : S44), (⟨(⟨0, 0⟩ : S27), (⟨0, 0⟩ : S27)⟩ : S44)] : List (S44))) (([2, 0] : List Int))).bind fun bt132 => ((turf_Run.f t104 t105 t106 t107 t108 t109 t110 500 600 (([(⟨(⟨0, 40⟩ : S27), (⟨0, 5⟩ : S27)⟩ : S44)] : List (S44))) ([] : List Int)).bind fun bt139 => ((turf_Run.f t104 t105 t106 t107 t108 t109 t110 500 600 ([] : List (S44)) ([] : List Int)).bind fun bt143 => (if t116 = 0 then (if t120 = 0 then (if t124 = 280 then (if bt132.2 = 0 then (if bt139.2 = 280 then (if bt143.2 = 0 then (fastilaw28_sane.j0 k bt132.1 ((bt143.1.length : Int) != 0) t104 t105 t106 t107 t108 t109 t110 t114 t115 t118 t119) else (fastilaw28_sane.j0 k bt132.1 true t104 t105 t106 t107 t108 t109 t110 t114 t115 t118 t119)) else (fastilaw28_sane.j0 k bt132.1 true t104 t105 t106 t107 t108 t109 t110 t114 t115 t118 t119)) else (fastilaw28_sane.j0 k bt132.1 true t104 t105 t106 t107 t108 t109 t110 t114 t115 t118 t119)) else (fastilaw28_sane.j0 k bt132.1 true t104 t105 t106 t107 t108 t109 t110 t114 t115 t118 t119)) else (fastilaw28_sane.j0 k bt132.1 true t104 t105 t106 t107 t108 t109 t110 t114 t115 t118 t119)) else (fastilaw28_sane.j0 k bt132.1 true t104 t105 t106 t107 t108 t109 t110 t114 t115 t118 t119))))) = some r := H
 have A4 := Aside0.mk A40
 clear A40
 obtain ⟨y126, hy126⟩ : ∃ y_ : List (S44), y_ = (([(⟨(⟨0, 40⟩ : S27), (⟨0, 5⟩ : S27)⟩ : S44), (⟨(⟨0, 0⟩ : S27), (⟨0, 0⟩ : S27)⟩ : S44)] : List (S44))) := ⟨_, rfl⟩
 replace H : ((turf_Run.f t104 t105 t106 t107 t108 t109 t110 500 600 y126 (([2, 0] : List Int))).bind fun bt132 => ((turf_Run.f t104 t105 t106 t107 t108 t109 t110 500 600 (([(⟨(⟨0, 40⟩ : S27), (⟨0, 5⟩ : S27)⟩ : S44)] : List (S44))) ([] : List Int)).bind fun bt139 => ((turf_Run.f t104 t105 t106 t107 t108 t109 t110 500 600 ([] : List (S44)) ([] : List Int)).bind fun bt143 => (if t116 = 0 then (if t120 = 0 then (if t124 = 280 then (if bt132.2 = 0 then (if bt139.2 = 280 then (if bt143.2 = 0 then (fastilaw28_sane.j0 k bt132.1 ((bt143.1.length : Int) != 0) t104 t105 t106 t107 t108 t109 t110 t114 t115 t118 t119) else (fastilaw28_sane.j0 k bt132.1 true t104 t105 t106 t107 t108 t109 t110 t114 t115 t118 t119)) else (fastilaw28_sane.j0 k bt132.1 true t104 t105 t106 t107 t108 t109 t110 t114 t115 t118 t119)) else (fastilaw28_sane.j0 k bt132.1 true t104 t105 t106 t107 t108 t109 t110 t114 t115 t118 t119)) else (fastilaw28_sane.j0 k bt132.1 true t104 t105 t106 t107 t108 t109 t110 t114 t115 t118 t119)) else (fastilaw28_sane.j0 k bt132.1 true t104 t105 t106 t107 t108 t109 t110 t114 t115 t118 t119)) else (fastilaw28_sane.j0 k bt132.1 true t104 t105 t106 t107 t108 t109 t110 t114 t115 t118 t119))))) = some r := by first | (rw [hy126]; with_reducible exact H) | (have H2_ := (Option.bind_some _ _).symm.trans H; rw [hy126]; with_reducible exact H2_) | (have H2_ := (Option.bind_some _ _).symm.trans H; with_reducible exact H2_) | with_reducible exact H | (rw [hy126]; exact H) | exact H
 have Ny126 := Aside0.mk hy126
 clear hy126
 obtain ⟨y129, hy129⟩ : ∃ y_ : List Int, y_ = (([2, 0] : List Int)) := ⟨_, rfl⟩
 replace H : ((turf_Run.f t104 t105 t106 t107 t108 t109 t110 500 600 y126 y129).bind fun bt132 => ((turf_Run.f t104 t105 t106 t107 t108 t109 t110 500 600 (([(⟨(⟨0, 40⟩ : S27), (⟨0, 5⟩ : S27)⟩ : S44)] : List (S44))) ([] : List Int)).bind fun bt139 => ((turf_Run.f t104 t105 t106 t107 t108 t109 t110 500 600 ([] : List (S44)) ([] : List Int)).bind fun bt143 => (if t116 = 0 then (if t120 = 0 then (if t124 = 280 then (if bt132.2 = 0 then (if bt139.2 = 280 then (if bt143.2 = 0 then (fastilaw28_sane.j0 k bt132.1 ((bt143.1.length : Int) != 0) t104 t105 t106 t107 t108 t109 t110 t114 t115 t118 t119) else (fastilaw28_sane.j0 k bt132.1 true t104 t105 t106 t107 t108 t109 t110 t114 t115 t118 t119)) else (fastilaw28_sane.j0 k bt132.1 true t104 t105 t106 t107 t108 t109 t110 t114 t115 t118 t119)) else (fastilaw28_sane.j0 k bt132.1 true t104 t105 t106 t107 t108 t109 t110 t114 t115 t118 t119)) else (fastilaw28_sane.j0 k bt132.1 true t104 t105 t106 t107 t108 t109 t110 t114 t115 t118 t119)) else (fastilaw28_sane.j0 k bt132.1 true t104 t105 t106 t107 t108 t109 t110 t114 t115 t118 t119)) else (fastilaw28_sane.j0 k bt132.1 true t104 t105 t106 t107 t108 t109 t110 t114 t115 t118 t119))))) = some r := by first | (rw [hy129]; with_reducible exact H) | (have H2_ := (Option.bind_some _ _).symm.trans H; rw [hy129]; with_reducible exact H2_) | (have H2_ := (Option.bind_some _ _).symm.trans H; with_reducible exact H2_) | with_reducible exact H | (rw [hy129]; exact H) | exact H
 have Ny129 := Aside0.mk hy129
 clear hy129
 replace H := Option.bind_eq_some_iff.mp H
 obtain ⟨⟨t132, t135⟩, A50, H⟩ := H
 replace H : ((turf_Run.f t104 t105 t106 t107 t108 t109 t110 500 600 (([(⟨(⟨0, 40⟩ : S27), (⟨0, 5⟩ : S27)⟩ : S44)] : List (S44))) ([] : List Int)).bind fun bt139 => ((turf_Run.f t104 t105 t106 t107 t108 t109 t110 500 600 ([] : List (S44)) ([] : List Int)).bind fun bt143 => (if t116 = 0 then (if t120 = 0 then (if t124 = 280 then (if t135 = 0 then (if bt139.2 = 280 then (if bt143.2 = 0 then (fastilaw28_sane.j0 k t132 ((bt143.1.length : Int) != 0) t104 t105 t106 t107 t108 t109 t110 t114 t115 t118 t119) else (fastilaw28_sane.j0 k t132 true t104 t105 t106 t107 t108 t109 t110 t114 t115 t118 t119)) else (fastilaw28_sane.j0 k t132 true t104 t105 t106 t107 t108 t109 t110 t114 t115 t118 t119)) else (fastilaw28_sane.j0 k t132 true t104 t105 t106 t107 t108 t109 t110 t114 t115 t118 t119)) else (fastilaw28_sane.j0 k t132 true t104 t105 t106 t107 t108 t109 t110 t114 t115 t118 t119)) else (fastilaw28_sane.j0 k t132 true t104 t105 t106 t107 t108 t109 t110 t114 t115 t118 t119)) else (fastilaw28_sane.j0 k t132 true t104 t105 t106 t107 t108 t109 t110 t114 t115 t118 t119)))) = some r := H
 have A5 := Aside0.mk A50
 clear A50
 obtain ⟨y136, hy136⟩ : ∃ y_ : List (S44), y_ = (([(⟨(⟨0, 40⟩ : S27), (⟨0, 5⟩ : S27)⟩ : S44)] : List (S44))) := ⟨_, rfl⟩
 replace H : ((turf_Run.f t104 t105 t106 t107 t108 t109 t110 500 600 y136 ([] : List Int)).bind fun bt139 => ((turf_Run.f t104 t105 t106 t107 t108 t109 t110 500 600 ([] : List (S44)) ([] : List Int)).bind fun bt143 => (if t116 = 0 then (if t120 = 0 then (if t124 = 280 then (if t135 = 0 then (if bt139.2 = 280 then (if bt143.2 = 0 then (fastilaw28_sane.j0 k t132 ((bt143.1.length : Int) != 0) t104 t105 t106 t107 t108 t109 t110 t114 t115 t118 t119) else (fastilaw28_sane.j0 k t132 true t104 t105 t106 t107 t108 t109 t110 t114 t115 t118 t119)) else (fastilaw28_sane.j0 k t132 true t104 t105 t106 t107 t108 t109 t110 t114 t115 t118 t119)) else (fastilaw28_sane.j0 k t132 true t104 t105 t106 t107 t108 t109 t110 t114 t115 t118 t119)) else (fastilaw28_sane.j0 k t132 true t104 t105 t106 t107 t108 t109 t110 t114 t115 t118 t119)) else (fastilaw28_sane.j0 k t132 true t104 t105 t106 t107 t108 t109 t110 t114 t115 t118 t119)) else (fastilaw28_sane.j0 k t132 true t104 t105 t106 t107 t108 t109 t110 t114 t115 t118 t119)))) = some r := by first | (rw [hy136]; with_reducible exact H) | (have H2_ := (Option.bind_some _ _).symm.trans H; rw [hy136]; with_reducible exact H2_) | (have H2_ := (Option.bind_some _ _).symm.trans H; with_reducible exact H2_) | with_reducible exact H | (rw [hy136]; exact H) | exact H
 have Ny136 := Aside0.mk hy136
 clear hy136
 replace H := Option.bind_eq_some_iff.mp H
 obtain ⟨⟨t139, t142⟩, A60, H⟩ := H
 replace H : ((turf_Run.f t104 t105 t106 t107 t108 t109 t110 500 600 ([] : List (S44)) ([] : List Int)).bind fun bt143 => (if t116 = 0 then (if t120 = 0 then (if t124 = 280 then (if t135 = 0 then (if t142 = 280 then (if bt143.2 = 0 then (fastilaw28_sane.j0 k t132 ((bt143.1.length : Int) != 0) t104 t105 t106 t107 t108 t109 t110 t114 t115 t118 t119) else (fastilaw28_sane.j0 k t132 true t104 t105 t106 t107 t108 t109 t110 t114 t115 t118 t119)) else (fastilaw28_sane.j0 k t132 true t104 t105 t106 t107 t108 t109 t110 t114 t115 t118 t119)) else (fastilaw28_sane.j0 k t132 true t104 t105 t106 t107 t108 t109 t110 t114 t115 t118 t119)) else (fastilaw28_sane.j0 k t132 true t104 t105 t106 t107 t108 t109 t110 t114 t115 t118 t119)) else (fastilaw28_sane.j0 k t132 true t104 t105 t106 t107 t108 t109 t110 t114 t115 t118 t119)) else (fastilaw28_sane.j0 k t132 true t104 t105 t106 t107 t108 t109 t110 t114 t115 t118 t119))) = some r := H
 have A6 := Aside0.mk A60
 clear A60
 replace H := Option.bind_eq_some_iff.mp H
 obtain ⟨⟨t143, t146⟩, A70, H⟩ := H
 replace H : (if t116 = 0 then (if t120 = 0 then (if t124 = 280 then (if t135 = 0 then (if t142 = 280 then (if t146 = 0 then (fastilaw28_sane.j0 k t132 ((t143.length : Int) != 0) t104 t105 t106 t107 t108 t109 t110 t114 t115 t118 t119) else (fastilaw28_sane.j0 k t132 true t104 t105 t106 t107 t108 t109 t110 t114 t115 t118 t119)) else (fastilaw28_sane.j0 k t132 true t104 t105 t106 t107 t108 t109 t110 t114 t115 t118 t119)) else (fastilaw28_sane.j0 k t132 true t104 t105 t106 t107 t108 t109 t110 t114 t115 t118 t119)) else (fastilaw28_sane.j0 k t132 true t104 t105 t106 t107 t108 t109 t110 t114 t115 t118 t119)) else (fastilaw28_sane.j0 k t132 true t104 t105 t106 t107 t108 t109 t110 t114 t115 t118 t119)) else (fastilaw28_sane.j0 k t132 true t104 t105 t106 t107 t108 t109 t110 t114 t115 t118 t119)) = some r := H
 have A7 := Aside0.mk A70
 clear A70
 have HC8 := Aside0.mk H
 clear H
 go_enter Try.func22, Try.ntmps22
 go_upto_region 10 with (first | ((with_reducible refine gate_callee (f := 45) rfl ?_); refine goesL_ (some 16) rfl rfl Try.func45 (by kernel_rfl) rfl #[] rfl (by (try simp only [List.map_toArray, List.map_cons, List.map_nil]); first | done | rfl | (simp only [List.length_drop, List.length_take]; rfl)) ?_; (with_reducible refine (fastilaw28_pitch.calls  t104 t105 t106 t107 t108 t109 t110 _ A1.out).mono ?_); rintro e w9 ⟨rfl, hb⟩; refine ⟨_, rfl, ?_⟩; have n0_ := Aside0.mk (below_step (by repeat (first | (with_reducible first | exact HB.out | apply below_alloc | apply pw_below_drewN | apply below_drew1) | exact HB.out)) hb); clear HB; have HB := n0_; clear n0_; (try clear hb); (try clear hb2); (try clear hk); (try clear hi)) | ((with_reducible refine gate_dst (N := 1) rfl ?_); (try (refine gate_guard (by rfl) ?_; dsimp only)); refine box_event ?hg (N := 1) ?hd (cs := #[.string (⟨#[]⟩ : ByteArray), .string (⟨#[]⟩ : ByteArray), .int .i64 0, .int .i64 0, .int .i64 0, .int .i64 0, .int .i64 0]) (t := 25) ?hr ?_; (case hd => rfl); (case hg => rfl); (case hr => first | (go_simp; done) | (go_simp; rfl)); intro gb111 hg w10 hbox hb; have n0_ := Aside0.mk (below_step (by repeat (first | (with_reducible first | exact HB.out | apply below_alloc | apply pw_below_drewN | apply below_drew1) | exact HB.out)) hb); have n1_ := Aside0.mk (hbox); have n2_ := Aside0.mk ((by rw [hg]; exact (below_size (by repeat (first | (with_reducible first | exact HB.out | apply below_alloc | apply pw_below_drewN | apply below_drew1) | exact HB.out))) : w.heap.size ≤ gb111)); have n3_ := Aside0.mk ((by rw [hg]; exact (below_size (by repeat (first | (with_reducible first | exact HB.out | apply below_alloc | apply pw_below_drewN | apply below_drew1) | exact HB.out))) : w.heap.size ≤ gb111)); clear HB; have HB := n0_; have BK111 := n1_; have GW111 := n2_; have GE111 := n3_; clear n0_ n1_ n2_ n3_; clear hb hbox hg; have hcz11_0 : w10.cell? ⟨gb111, 0, none⟩ = some (.string (⟨#[]⟩ : ByteArray)) := (blk_cell BK111.out 0).trans rfl; have hcz11_1 : w10.cell? ⟨gb111, 1, none⟩ = some (.string (⟨#[]⟩ : ByteArray)) := (blk_cell BK111.out 1).trans rfl; have hcz11_2 : w10.cell? ⟨gb111, 2, none⟩ = some (.int .i64 0) := (blk_cell BK111.out 2).trans rfl; have hcz11_3 : w10.cell? ⟨gb111, 3, none⟩ = some (.int .i64 0) := (blk_cell BK111.out 3).trans rfl; have hcz11_4 : w10.cell? ⟨gb111, 4, none⟩ = some (.int .i64 0) := (blk_cell BK111.out 4).trans rfl; have hcz11_5 : w10.cell? ⟨gb111, 5, none⟩ = some (.int .i64 0) := (blk_cell BK111.out 5).trans rfl; have hcz11_6 : w10.cell? ⟨gb111, 6, none⟩ = some (.int .i64 0) := (blk_cell BK111.out 6).trans rfl; have hfz11_0 := blk_frozen BK111.out 0; have hfz11_1 := blk_frozen BK111.out 1; have hfz11_2 := blk_frozen BK111.out 2; have hfz11_3 := blk_frozen BK111.out 3; have hfz11_4 := blk_frozen BK111.out 4; have hfz11_5 := blk_frozen BK111.out 5; have hfz11_6 := blk_frozen BK111.out 6) | ((with_reducible refine gate_dst (N := 2) rfl ?_); (try (refine gate_guard (by rfl) ?_; dsimp only)); refine box_event ?hg (N := 2) ?hd (cs := #[.int .i64 0, .int .i64 0, .int .i64 0, .int .i64 0]) (t := 44) ?hr ?_; (case hd => rfl); (case hg => rfl); (case hr => first | (go_simp; done) | (go_simp; rfl)); intro gb112 hg w12 hbox hb; have n0_ := Aside0.mk (blk_below (g := gb111) (o := .cells #[.string t104, .string t105, .int .i64 t106, .int .i64 t107, .int .i64 t108, .int .i64 t109, .int .i64 t110] 25 (0, 0)) (by (with_reducible repeat (first | refine blk_drewN ?_ _ | refine blk_drew ?_ | refine blk_alloc ?_ _)); refine blk_put (cs := #[.string t104, .string t105, .int .i64 t106, .int .i64 t107, .int .i64 t108, .int .i64 t109, .int .i64 0]) ?_ 6 _ rfl; (with_reducible repeat (first | refine blk_drewN ?_ _ | refine blk_drew ?_ | refine blk_alloc ?_ _)); refine blk_put (cs := #[.string t104, .string t105, .int .i64 t106, .int .i64 t107, .int .i64 t108, .int .i64 0, .int .i64 0]) ?_ 5 _ rfl; (with_reducible repeat (first | refine blk_drewN ?_ _ | refine blk_drew ?_ | refine blk_alloc ?_ _)); refine blk_put (cs := #[.string t104, .string t105, .int .i64 t106, .int .i64 t107, .int .i64 0, .int .i64 0, .int .i64 0]) ?_ 4 _ rfl; (with_reducible repeat (first | refine blk_drewN ?_ _ | refine blk_drew ?_ | refine blk_alloc ?_ _)); refine blk_put (cs := #[.string t104, .string t105, .int .i64 t106, .int .i64 0, .int .i64 0, .int .i64 0, .int .i64 0]) ?_ 3 _ rfl; (with_reducible repeat (first | refine blk_drewN ?_ _ | refine blk_drew ?_ | refine blk_alloc ?_ _)); refine blk_put (cs := #[.string t104, .string t105, .int .i64 0, .int .i64 0, .int .i64 0, .int .i64 0, .int .i64 0]) ?_ 2 _ rfl; (with_reducible repeat (first | refine blk_drewN ?_ _ | refine blk_drew ?_ | refine blk_alloc ?_ _)); refine blk_put (cs := #[.string t104, .string (⟨#[]⟩ : ByteArray), .int .i64 0, .int .i64 0, .int .i64 0, .int .i64 0, .int .i64 0]) ?_ 1 _ rfl; (with_reducible repeat (first | refine blk_drewN ?_ _ | refine blk_drew ?_ | refine blk_alloc ?_ _)); refine blk_put (cs := #[.string (⟨#[]⟩ : ByteArray), .string (⟨#[]⟩ : ByteArray), .int .i64 0, .int .i64 0, .int .i64 0, .int .i64 0, .int .i64 0]) ?_ 0 _ rfl; (with_reducible repeat (first | refine blk_drewN ?_ _ | refine blk_drew ?_ | refine blk_alloc ?_ _)); exact BK111.out) hb); have n1_ := Aside0.mk (below_step (by repeat (first | (with_reducible first | exact HB.out | apply below_alloc | apply pw_below_drewN | apply below_drew1 | refine below_set ?_ GE111.out) | exact HB.out)) hb); have n2_ := Aside0.mk (hbox); have n3_ := Aside0.mk ((by rw [hg]; exact (below_size (by repeat (first | (with_reducible first | exact HB.out | apply below_alloc | apply pw_below_drewN | apply below_drew1 | refine below_set ?_ GE111.out) | exact HB.out))) : w.heap.size ≤ gb112)); have n4_ := Aside0.mk ((by rw [hg]; exact (below_size (by repeat (first | (with_reducible first | exact HB.out | apply below_alloc | apply pw_below_drewN | apply below_drew1 | refine below_set ?_ GE111.out) | exact HB.out))) : w.heap.size ≤ gb112)); have n5_ := Aside0.mk ((by rw [hg]; exact Nat.ne_of_lt (blk_lt (g := gb111) (o := .cells #[.string t104, .string t105, .int .i64 t106, .int .i64 t107, .int .i64 t108, .int .i64 t109, .int .i64 t110] 25 (0, 0)) (by (with_reducible repeat (first | refine blk_drewN ?_ _ | refine blk_drew ?_ | refine blk_alloc ?_ _)); refine blk_put (cs := #[.string t104, .string t105, .int .i64 t106, .int .i64 t107, .int .i64 t108, .int .i64 t109, .int .i64 0]) ?_ 6 _ rfl; (with_reducible repeat (first | refine blk_drewN ?_ _ | refine blk_drew ?_ | refine blk_alloc ?_ _)); refine blk_put (cs := #[.string t104, .string t105, .int .i64 t106, .int .i64 t107, .int .i64 t108, .int .i64 0, .int .i64 0]) ?_ 5 _ rfl; (with_reducible repeat (first | refine blk_drewN ?_ _ | refine blk_drew ?_ | refine blk_alloc ?_ _)); refine blk_put (cs := #[.string t104, .string t105, .int .i64 t106, .int .i64 t107, .int .i64 0, .int .i64 0, .int .i64 0]) ?_ 4 _ rfl; (with_reducible repeat (first | refine blk_drewN ?_ _ | refine blk_drew ?_ | refine blk_alloc ?_ _)); refine blk_put (cs := #[.string t104, .string t105, .int .i64 t106, .int .i64 0, .int .i64 0, .int .i64 0, .int .i64 0]) ?_ 3 _ rfl; (with_reducible repeat (first | refine blk_drewN ?_ _ | refine blk_drew ?_ | refine blk_alloc ?_ _)); refine blk_put (cs := #[.string t104, .string t105, .int .i64 0, .int .i64 0, .int .i64 0, .int .i64 0, .int .i64 0]) ?_ 2 _ rfl; (with_reducible repeat (first | refine blk_drewN ?_ _ | refine blk_drew ?_ | refine blk_alloc ?_ _)); refine blk_put (cs := #[.string t104, .string (⟨#[]⟩ : ByteArray), .int .i64 0, .int .i64 0, .int .i64 0, .int .i64 0, .int .i64 0]) ?_ 1 _ rfl; (with_reducible repeat (first | refine blk_drewN ?_ _ | refine blk_drew ?_ | refine blk_alloc ?_ _)); refine blk_put (cs := #[.string (⟨#[]⟩ : ByteArray), .string (⟨#[]⟩ : ByteArray), .int .i64 0, .int .i64 0, .int .i64 0, .int .i64 0, .int .i64 0]) ?_ 0 _ rfl; (with_reducible repeat (first | refine blk_drewN ?_ _ | refine blk_drew ?_ | refine blk_alloc ?_ _)); exact BK111.out)) : gb111 ≠ gb112)); have n6_ := Aside0.mk ((by rw [hg]; exact Nat.ne_of_gt (blk_lt (g := gb111) (o := .cells #[.string t104, .string t105, .int .i64 t106, .int .i64 t107, .int .i64 t108, .int .i64 t109, .int .i64 t110] 25 (0, 0)) (by (with_reducible repeat (first | refine blk_drewN ?_ _ | refine blk_drew ?_ | refine blk_alloc ?_ _)); refine blk_put (cs := #[.string t104, .string t105, .int .i64 t106, .int .i64 t107, .int .i64 t108, .int .i64 t109, .int .i64 0]) ?_ 6 _ rfl; (with_reducible repeat (first | refine blk_drewN ?_ _ | refine blk_drew ?_ | refine blk_alloc ?_ _)); refine blk_put (cs := #[.string t104, .string t105, .int .i64 t106, .int .i64 t107, .int .i64 t108, .int .i64 0, .int .i64 0]) ?_ 5 _ rfl; (with_reducible repeat (first | refine blk_drewN ?_ _ | refine blk_drew ?_ | refine blk_alloc ?_ _)); refine blk_put (cs := #[.string t104, .string t105, .int .i64 t106, .int .i64 t107, .int .i64 0, .int .i64 0, .int .i64 0]) ?_ 4 _ rfl; (with_reducible repeat (first | refine blk_drewN ?_ _ | refine blk_drew ?_ | refine blk_alloc ?_ _)); refine blk_put (cs := #[.string t104, .string t105, .int .i64 t106, .int .i64 0, .int .i64 0, .int .i64 0, .int .i64 0]) ?_ 3 _ rfl; (with_reducible repeat (first | refine blk_drewN ?_ _ | refine blk_drew ?_ | refine blk_alloc ?_ _)); refine blk_put (cs := #[.string t104, .string t105, .int .i64 0, .int .i64 0, .int .i64 0, .int .i64 0, .int .i64 0]) ?_ 2 _ rfl; (with_reducible repeat (first | refine blk_drewN ?_ _ | refine blk_drew ?_ | refine blk_alloc ?_ _)); refine blk_put (cs := #[.string t104, .string (⟨#[]⟩ : ByteArray), .int .i64 0, .int .i64 0, .int .i64 0, .int .i64 0, .int .i64 0]) ?_ 1 _ rfl; (with_reducible repeat (first | refine blk_drewN ?_ _ | refine blk_drew ?_ | refine blk_alloc ?_ _)); refine blk_put (cs := #[.string (⟨#[]⟩ : ByteArray), .string (⟨#[]⟩ : ByteArray), .int .i64 0, .int .i64 0, .int .i64 0, .int .i64 0, .int .i64 0]) ?_ 0 _ rfl; (with_reducible repeat (first | refine blk_drewN ?_ _ | refine blk_drew ?_ | refine blk_alloc ?_ _)); exact BK111.out)) : gb112 ≠ gb111)); clear BK111; clear HB; have BK111 := n0_; have HB := n1_; have BK112 := n2_; have GW112 := n3_; have GE112 := n4_; have NB111_112 := n5_; have NB112_111 := n6_; clear n0_ n1_ n2_ n3_ n4_ n5_ n6_; clear hb hbox hg; have hnb13 := NB112_111.out; have hnc13 := NB111_112.out; have hcz14_0 : w12.cell? ⟨gb112, 0, none⟩ = some (.int .i64 0) := (blk_cell BK112.out 0).trans rfl; have hcz14_1 : w12.cell? ⟨gb112, 1, none⟩ = some (.int .i64 0) := (blk_cell BK112.out 1).trans rfl; have hcz14_2 : w12.cell? ⟨gb112, 2, none⟩ = some (.int .i64 0) := (blk_cell BK112.out 2).trans rfl; have hcz14_3 : w12.cell? ⟨gb112, 3, none⟩ = some (.int .i64 0) := (blk_cell BK112.out 3).trans rfl; have hfz14_0 := blk_frozen BK112.out 0; have hfz14_1 := blk_frozen BK112.out 1; have hfz14_2 := blk_frozen BK112.out 2; have hfz14_3 := blk_frozen BK112.out 3) | ((with_reducible refine gate_dst (N := 3) rfl ?_); (try (refine gate_guard (by rfl) ?_; dsimp only)); refine box_event ?hg (N := 3) ?hd (cs := #[.int .i64 0, .int .i64 0]) (t := 27) ?hr ?_; (case hd => rfl); (case hg => rfl); (case hr => first | (go_simp; done) | (go_simp; rfl)); intro gb113 hg w15 hbox hb; have n0_ := Aside0.mk (blk_below (g := gb111) (o := .cells #[.string t104, .string t105, .int .i64 t106, .int .i64 t107, .int .i64 t108, .int .i64 t109, .int .i64 t110] 25 (0, 0)) (by (with_reducible repeat (first | refine blk_drewN ?_ _ | refine blk_drew ?_ | refine blk_alloc ?_ _)); refine blk_far ?_ NB111_112.out _; (with_reducible repeat (first | refine blk_drewN ?_ _ | refine blk_drew ?_ | refine blk_alloc ?_ _)); refine blk_far ?_ NB111_112.out _; (with_reducible repeat (first | refine blk_drewN ?_ _ | refine blk_drew ?_ | refine blk_alloc ?_ _)); refine blk_far ?_ NB111_112.out _; (with_reducible repeat (first | refine blk_drewN ?_ _ | refine blk_drew ?_ | refine blk_alloc ?_ _)); refine blk_far ?_ NB111_112.out _; (with_reducible repeat (first | refine blk_drewN ?_ _ | refine blk_drew ?_ | refine blk_alloc ?_ _)); exact BK111.out) hb); have n1_ := Aside0.mk (blk_below (g := gb112) (o := .cells #[.int .i64 0, .int .i64 40, .int .i64 0, .int .i64 5] 44 (0, 0)) (by (with_reducible repeat (first | refine blk_drewN ?_ _ | refine blk_drew ?_ | refine blk_alloc ?_ _)); refine blk_put (cs := #[.int .i64 0, .int .i64 40, .int .i64 0, .int .i64 0]) ?_ 3 _ rfl; (with_reducible repeat (first | refine blk_drewN ?_ _ | refine blk_drew ?_ | refine blk_alloc ?_ _)); refine blk_put (cs := #[.int .i64 0, .int .i64 40, .int .i64 0, .int .i64 0]) ?_ 2 _ rfl; (with_reducible repeat (first | refine blk_drewN ?_ _ | refine blk_drew ?_ | refine blk_alloc ?_ _)); refine blk_put (cs := #[.int .i64 0, .int .i64 0, .int .i64 0, .int .i64 0]) ?_ 1 _ rfl; (with_reducible repeat (first | refine blk_drewN ?_ _ | refine blk_drew ?_ | refine blk_alloc ?_ _)); refine blk_put (cs := #[.int .i64 0, .int .i64 0, .int .i64 0, .int .i64 0]) ?_ 0 _ rfl; (with_reducible repeat (first | refine blk_drewN ?_ _ | refine blk_drew ?_ | refine blk_alloc ?_ _)); exact BK112.out) hb); have n2_ := Aside0.mk (below_step (by repeat (first | (with_reducible first | exact HB.out | apply below_alloc | apply pw_below_drewN | apply below_drew1 | refine below_set ?_ GE111.out | refine below_set ?_ GE112.out) | exact HB.out)) hb); have n3_ := Aside0.mk (hbox); have n4_ := Aside0.mk ((by rw [hg]; exact (below_size (by repeat (first | (with_reducible first | exact HB.out | apply below_alloc | apply pw_below_drewN | apply below_drew1 | refine below_set ?_ GE111.out | refine below_set ?_ GE112.out) | exact HB.out))) : w.heap.size ≤ gb113)); have n5_ := Aside0.mk ((by rw [hg]; exact (below_size (by repeat (first | (with_reducible first | exact HB.out | apply below_alloc | apply pw_below_drewN | apply below_drew1 | refine below_set ?_ GE111.out | refine below_set ?_ GE112.out) | exact HB.out))) : w.heap.size ≤ gb113)); have n6_ := Aside0.mk ((by rw [hg]; exact Nat.ne_of_lt (blk_lt (g := gb111) (o := .cells #[.string t104, .string t105, .int .i64 t106, .int .i64 t107, .int .i64 t108, .int .i64 t109, .int .i64 t110] 25 (0, 0)) (by (with_reducible repeat (first | refine blk_drewN ?_ _ | refine blk_drew ?_ | refine blk_alloc ?_ _)); refine blk_far ?_ NB111_112.out _; (with_reducible repeat (first | refine blk_drewN ?_ _ | refine blk_drew ?_ | refine blk_alloc ?_ _)); refine blk_far ?_ NB111_112.out _; (with_reducible repeat (first | refine blk_drewN ?_ _ | refine blk_drew ?_ | refine blk_alloc ?_ _)); refine blk_far ?_ NB111_112.out _; (with_reducible repeat (first | refine blk_drewN ?_ _ | refine blk_drew ?_ | refine blk_alloc ?_ _)); refine blk_far ?_ NB111_112.out _; (with_reducible repeat (first | refine blk_drewN ?_ _ | refine blk_drew ?_ | refine blk_alloc ?_ _)); exact BK111.out)) : gb111 ≠ gb113)); have n7_ := Aside0.mk ((by rw [hg]; exact Nat.ne_of_gt (blk_lt (g := gb111) (o := .cells #[.string t104, .string t105, .int .i64 t106, .int .i64 t107, .int .i64 t108, .int .i64 t109, .int .i64 t110] 25 (0, 0)) (by (with_reducible repeat (first | refine blk_drewN ?_ _ | refine blk_drew ?_ | refine blk_alloc ?_ _)); refine blk_far ?_ NB111_112.out _; (with_reducible repeat (first | refine blk_drewN ?_ _ | refine blk_drew ?_ | refine blk_alloc ?_ _)); refine blk_far ?_ NB111_112.out _; (with_reducible repeat (first | refine blk_drewN ?_ _ | refine blk_drew ?_ | refine blk_alloc ?_ _)); refine blk_far ?_ NB111_112.out _; (with_reducible repeat (first | refine blk_drewN ?_ _ | refine blk_drew ?_ | refine blk_alloc ?_ _)); refine blk_far ?_ NB111_112.out _; (with_reducible repeat (first | refine blk_drewN ?_ _ | refine blk_drew ?_ | refine blk_alloc ?_ _)); exact BK111.out)) : gb113 ≠ gb111)); have n8_ := Aside0.mk ((by rw [hg]; exact Nat.ne_of_lt (blk_lt (g := gb112) (o := .cells #[.int .i64 0, .int .i64 40, .int .i64 0, .int .i64 5] 44 (0, 0)) (by (with_reducible repeat (first | refine blk_drewN ?_ _ | refine blk_drew ?_ | refine blk_alloc ?_ _)); refine blk_put (cs := #[.int .i64 0, .int .i64 40, .int .i64 0, .int .i64 0]) ?_ 3 _ rfl; (with_reducible repeat (first | refine blk_drewN ?_ _ | refine blk_drew ?_ | refine blk_alloc ?_ _)); refine blk_put (cs := #[.int .i64 0, .int .i64 40, .int .i64 0, .int .i64 0]) ?_ 2 _ rfl; (with_reducible repeat (first | refine blk_drewN ?_ _ | refine blk_drew ?_ | refine blk_alloc ?_ _)); refine blk_put (cs := #[.int .i64 0, .int .i64 0, .int .i64 0, .int .i64 0]) ?_ 1 _ rfl; (with_reducible repeat (first | refine blk_drewN ?_ _ | refine blk_drew ?_ | refine blk_alloc ?_ _)); refine blk_put (cs := #[.int .i64 0, .int .i64 0, .int .i64 0, .int .i64 0]) ?_ 0 _ rfl; (with_reducible repeat (first | refine blk_drewN ?_ _ | refine blk_drew ?_ | refine blk_alloc ?_ _)); exact BK112.out)) : gb112 ≠ gb113)); have n9_ := Aside0.mk ((by rw [hg]; exact Nat.ne_of_gt (blk_lt (g := gb112) (o := .cells #[.int .i64 0, .int .i64 40, .int .i64 0, .int .i64 5] 44 (0, 0)) (by (with_reducible repeat (first | refine blk_drewN ?_ _ | refine blk_drew ?_ | refine blk_alloc ?_ _)); refine blk_put (cs := #[.int .i64 0, .int .i64 40, .int .i64 0, .int .i64 0]) ?_ 3 _ rfl; (with_reducible repeat (first | refine blk_drewN ?_ _ | refine blk_drew ?_ | refine blk_alloc ?_ _)); refine blk_put (cs := #[.int .i64 0, .int .i64 40, .int .i64 0, .int .i64 0]) ?_ 2 _ rfl; (with_reducible repeat (first | refine blk_drewN ?_ _ | refine blk_drew ?_ | refine blk_alloc ?_ _)); refine blk_put (cs := #[.int .i64 0, .int .i64 0, .int .i64 0, .int .i64 0]) ?_ 1 _ rfl; (with_reducible repeat (first | refine blk_drewN ?_ _ | refine blk_drew ?_ | refine blk_alloc ?_ _)); refine blk_put (cs := #[.int .i64 0, .int .i64 0, .int .i64 0, .int .i64 0]) ?_ 0 _ rfl; (with_reducible repeat (first | refine blk_drewN ?_ _ | refine blk_drew ?_ | refine blk_alloc ?_ _)); exact BK112.out)) : gb113 ≠ gb112)); clear BK111; clear BK112; clear HB; have BK111 := n0_; have BK112 := n1_; have HB := n2_; have BK113 := n3_; have GW113 := n4_; have GE113 := n5_; have NB111_113 := n6_; have NB113_111 := n7_; have NB112_113 := n8_; have NB113_112 := n9_; clear n0_ n1_ n2_ n3_ n4_ n5_ n6_ n7_ n8_ n9_; clear hb hbox hg; have hnb16 := NB113_111.out; have hnc16 := NB111_113.out; have hnb17 := NB113_112.out; have hnc17 := NB112_113.out; have hcz18_0 : w15.cell? ⟨gb113, 0, none⟩ = some (.int .i64 0) := (blk_cell BK113.out 0).trans rfl; have hcz18_1 : w15.cell? ⟨gb113, 1, none⟩ = some (.int .i64 0) := (blk_cell BK113.out 1).trans rfl; have hfz18_0 := blk_frozen BK113.out 0; have hfz18_1 := blk_frozen BK113.out 1; have hcz19_0 : w15.cell? ⟨gb111, 0, none⟩ = some (.string t104) := (blk_cell BK111.out 0).trans rfl; have hcz19_1 : w15.cell? ⟨gb111, 1, none⟩ = some (.string t105) := (blk_cell BK111.out 1).trans rfl; have hcz19_2 : w15.cell? ⟨gb111, 2, none⟩ = some (.int .i64 t106) := (blk_cell BK111.out 2).trans rfl; have hcz19_3 : w15.cell? ⟨gb111, 3, none⟩ = some (.int .i64 t107) := (blk_cell BK111.out 3).trans rfl; have hcz19_4 : w15.cell? ⟨gb111, 4, none⟩ = some (.int .i64 t108) := (blk_cell BK111.out 4).trans rfl; have hcz19_5 : w15.cell? ⟨gb111, 5, none⟩ = some (.int .i64 t109) := (blk_cell BK111.out 5).trans rfl; have hcz19_6 : w15.cell? ⟨gb111, 6, none⟩ = some (.int .i64 t110) := (blk_cell BK111.out 6).trans rfl; have hfz19_0 := blk_frozen BK111.out 0; have hfz19_1 := blk_frozen BK111.out 1; have hfz19_2 := blk_frozen BK111.out 2; have hfz19_3 := blk_frozen BK111.out 3; have hfz19_4 := blk_frozen BK111.out 4; have hfz19_5 := blk_frozen BK111.out 5; have hfz19_6 := blk_frozen BK111.out 6; have hcz20_0 : w15.cell? ⟨gb112, 0, none⟩ = some (.int .i64 0) := (blk_cell BK112.out 0).trans rfl; have hcz20_1 : w15.cell? ⟨gb112, 1, none⟩ = some (.int .i64 40) := (blk_cell BK112.out 1).trans rfl; have hcz20_2 : w15.cell? ⟨gb112, 2, none⟩ = some (.int .i64 0) := (blk_cell BK112.out 2).trans rfl; have hcz20_3 : w15.cell? ⟨gb112, 3, none⟩ = some (.int .i64 5) := (blk_cell BK112.out 3).trans rfl; have hfz20_0 := blk_frozen BK112.out 0; have hfz20_1 := blk_frozen BK112.out 1; have hfz20_2 := blk_frozen BK112.out 2; have hfz20_3 := blk_frozen BK112.out 3) | ((with_reducible refine gate_callee (f := 23) rfl ?_); refine goesL_ (some 25) rfl rfl Try.func23 (by kernel_rfl) rfl #[.agg #[.string t104, .string t105, .int .i64 t106, .int .i64 t107, .int .i64 t108, .int .i64 t109, .int .i64 t110], .agg #[.int .i64 500, .int .i64 600], .agg #[.int .i64 0, .int .i64 40, .int .i64 0, .int .i64 5], .int .i64 2] rfl (by (try simp only [List.map_toArray, List.map_cons, List.map_nil]); first | done | rfl | (simp only [List.length_drop, List.length_take]; rfl)) ?_; (with_reducible refine (turf_Next.calls t104 t105 t106 t107 t108 t109 t110 500 600 0 40 0 5 2 t114 t115 t116 _ A2.out).mono ?_); rintro e w21 ⟨rfl, hb⟩; refine ⟨_, rfl, ?_⟩; have n0_ := Aside0.mk (blk_below (g := gb111) (o := .cells #[.string t104, .string t105, .int .i64 t106, .int .i64 t107, .int .i64 t108, .int .i64 t109, .int .i64 t110] 25 (0, 0)) (by (with_reducible repeat (first | refine blk_drewN ?_ _ | refine blk_drew ?_ | refine blk_alloc ?_ _)); refine blk_far ?_ NB111_113.out _; (with_reducible repeat (first | refine blk_drewN ?_ _ | refine blk_drew ?_ | refine blk_alloc ?_ _)); refine blk_far ?_ NB111_113.out _; (with_reducible repeat (first | refine blk_drewN ?_ _ | refine blk_drew ?_ | refine blk_alloc ?_ _)); exact BK111.out) hb); have n1_ := Aside0.mk (blk_below (g := gb112) (o := .cells #[.int .i64 0, .int .i64 40, .int .i64 0, .int .i64 5] 44 (0, 0)) (by (with_reducible repeat (first | refine blk_drewN ?_ _ | refine blk_drew ?_ | refine blk_alloc ?_ _)); refine blk_far ?_ NB112_113.out _; (with_reducible repeat (first | refine blk_drewN ?_ _ | refine blk_drew ?_ | refine blk_alloc ?_ _)); refine blk_far ?_ NB112_113.out _; (with_reducible repeat (first | refine blk_drewN ?_ _ | refine blk_drew ?_ | refine blk_alloc ?_ _)); exact BK112.out) hb); have n2_ := Aside0.mk (blk_below (g := gb113) (o := .cells #[.int .i64 500, .int .i64 600] 27 (0, 0)) (by (with_reducible repeat (first | refine blk_drewN ?_ _ | refine blk_drew ?_ | refine blk_alloc ?_ _)); refine blk_put (cs := #[.int .i64 500, .int .i64 0]) ?_ 1 _ rfl; (with_reducible repeat (first | refine blk_drewN ?_ _ | refine blk_drew ?_ | refine blk_alloc ?_ _)); refine blk_put (cs := #[.int .i64 0, .int .i64 0]) ?_ 0 _ rfl; (with_reducible repeat (first | refine blk_drewN ?_ _ | refine blk_drew ?_ | refine blk_alloc ?_ _)); exact BK113.out) hb); have n3_ := Aside0.mk (below_step (by repeat (first | (with_reducible first | exact HB.out | apply below_alloc | apply pw_below_drewN | apply below_drew1 | refine below_set ?_ GE111.out | refine below_set ?_ GE112.out | refine below_set ?_ GE113.out) | exact HB.out)) hb); clear BK111; clear BK112; clear BK113; clear HB; have BK111 := n0_; have BK112 := n1_; have BK113 := n2_; have HB := n3_; clear n0_ n1_ n2_ n3_; (try clear hb); (try clear hb2); (try clear hk); (try clear hi)) | ((with_reducible refine gate_dst (N := 4) rfl ?_); (try (refine gate_guard (by rfl) ?_; dsimp only)); refine box_event ?hg (N := 4) ?hd (cs := #[.int .i64 0, .int .i64 0]) (t := 27) ?hr ?_; (case hd => rfl); (case hg => rfl); (case hr => first | (go_simp; done) | (go_simp; rfl)); intro gb117 hg w22 hbox hb; have n0_ := Aside0.mk (zb BK111.out hb); have n1_ := Aside0.mk (zb BK112.out hb); have n2_ := Aside0.mk (zb BK113.out hb); have n3_ := Aside0.mk (below_step (by repeat (first | (with_reducible first | exact HB.out | apply below_alloc | apply pw_below_drewN | apply below_drew1 | refine below_set ?_ GE111.out | refine below_set ?_ GE112.out | refine below_set ?_ GE113.out) | exact HB.out)) hb); have n4_ := Aside0.mk (hbox); have n5_ := Aside0.mk ((by rw [hg]; exact (below_size (by repeat (first | (with_reducible first | exact HB.out | apply below_alloc | apply pw_below_drewN | apply below_drew1 | refine below_set ?_ GE111.out | refine below_set ?_ GE112.out | refine below_set ?_ GE113.out) | exact HB.out))) : w.heap.size ≤ gb117)); have n6_ := Aside0.mk ((by rw [hg]; exact (below_size (by repeat (first | (with_reducible first | exact HB.out | apply below_alloc | apply pw_below_drewN | apply below_drew1 | refine below_set ?_ GE111.out | refine below_set ?_ GE112.out | refine below_set ?_ GE113.out) | exact HB.out))) : w.heap.size ≤ gb117)); have n7_ := Aside0.mk ((by rw [hg]; exact Nat.ne_of_lt (blk_lt (zk BK111.out)) : gb111 ≠ gb117)); have n8_ := Aside0.mk ((by rw [hg]; exact Nat.ne_of_gt (blk_lt (zk BK111.out)) : gb117 ≠ gb111)); have n9_ := Aside0.mk ((by rw [hg]; exact Nat.ne_of_lt (blk_lt (zk BK112.out)) : gb112 ≠ gb117)); have n10_ := Aside0.mk ((by rw [hg]; exact Nat.ne_of_gt (blk_lt (zk BK112.out)) : gb117 ≠ gb112)); have n11_ := Aside0.mk ((by rw [hg]; exact Nat.ne_of_lt (blk_lt (zk BK113.out)) : gb113 ≠ gb117)); have n12_ := Aside0.mk ((by rw [hg]; exact Nat.ne_of_gt (blk_lt (zk BK113.out)) : gb117 ≠ gb113)); clear BK111; clear BK112; clear BK113; clear HB; have BK111 := n0_; have BK112 := n1_; have BK113 := n2_; have HB := n3_; have BK117 := n4_; have GW117 := n5_; have GE117 := n6_; have NB111_117 := n7_; have NB117_111 := n8_; have NB112_117 := n9_; have NB117_112 := n10_; have NB113_117 := n11_; have NB117_113 := n12_; clear n0_ n1_ n2_ n3_ n4_ n5_ n6_ n7_ n8_ n9_ n10_ n11_ n12_; clear hb hbox hg; have hnb23 := NB117_111.out; have hnc23 := NB111_117.out; have hnb24 := NB117_112.out; have hnc24 := NB112_117.out; have hnb25 := NB117_113.out; have hnc25 := NB113_117.out; have hcz26_0 : w22.cell? ⟨gb117, 0, none⟩ = some (.int .i64 0) := (blk_cell BK117.out 0).trans rfl; have hcz26_1 : w22.cell? ⟨gb117, 1, none⟩ = some (.int .i64 0) := (blk_cell BK117.out 1).trans rfl; have hfz26_0 := blk_frozen BK117.out 0; have hfz26_1 := blk_frozen BK117.out 1; have hcz27_0 : w22.cell? ⟨gb111, 0, none⟩ = some (.string t104) := (blk_cell BK111.out 0).trans rfl; have hcz27_1 : w22.cell? ⟨gb111, 1, none⟩ = some (.string t105) := (blk_cell BK111.out 1).trans rfl; have hcz27_2 : w22.cell? ⟨gb111, 2, none⟩ = some (.int .i64 t106) := (blk_cell BK111.out 2).trans rfl; have hcz27_3 : w22.cell? ⟨gb111, 3, none⟩ = some (.int .i64 t107) := (blk_cell BK111.out 3).trans rfl; have hcz27_4 : w22.cell? ⟨gb111, 4, none⟩ = some (.int .i64 t108) := (blk_cell BK111.out 4).trans rfl; have hcz27_5 : w22.cell? ⟨gb111, 5, none⟩ = some (.int .i64 t109) := (blk_cell BK111.out 5).trans rfl; have hcz27_6 : w22.cell? ⟨gb111, 6, none⟩ = some (.int .i64 t110) := (blk_cell BK111.out 6).trans rfl; have hfz27_0 := blk_frozen BK111.out 0; have hfz27_1 := blk_frozen BK111.out 1; have hfz27_2 := blk_frozen BK111.out 2; have hfz27_3 := blk_frozen BK111.out 3; have hfz27_4 := blk_frozen BK111.out 4; have hfz27_5 := blk_frozen BK111.out 5; have hfz27_6 := blk_frozen BK111.out 6) | ((with_reducible refine gate_callee (f := 23) rfl ?_); refine goesL_ (some 32) rfl rfl Try.func23 (by kernel_rfl) rfl #[.agg #[.string t104, .string t105, .int .i64 t106, .int .i64 t107, .int .i64 t108, .int .i64 t109, .int .i64 t110], .agg #[.int .i64 990, .int .i64 1000], .agg #[.int .i64 0, .int .i64 0, .int .i64 0, .int .i64 0], .int .i64 0] rfl (by (try simp only [List.map_toArray, List.map_cons, List.map_nil]); first | done | rfl | (simp only [List.length_drop, List.length_take]; rfl)) ?_; (with_reducible refine (turf_Next.calls t104 t105 t106 t107 t108 t109 t110 990 1000 0 0 0 0 0 t118 t119 t120 _ A3.out).mono ?_); rintro e w28 ⟨rfl, hb⟩; refine ⟨_, rfl, ?_⟩; have n0_ := Aside0.mk (blk_below (g := gb111) (o := .cells #[.string t104, .string t105, .int .i64 t106, .int .i64 t107, .int .i64 t108, .int .i64 t109, .int .i64 t110] 25 (0, 0)) (by (with_reducible repeat (first | refine blk_drewN ?_ _ | refine blk_drew ?_ | refine blk_alloc ?_ _)); refine blk_far ?_ NB111_117.out _; (with_reducible repeat (first | refine blk_drewN ?_ _ | refine blk_drew ?_ | refine blk_alloc ?_ _)); refine blk_far ?_ NB111_117.out _; (with_reducible repeat (first | refine blk_drewN ?_ _ | refine blk_drew ?_ | refine blk_alloc ?_ _)); exact BK111.out) hb); have n1_ := Aside0.mk (blk_below (g := gb112) (o := .cells #[.int .i64 0, .int .i64 40, .int .i64 0, .int .i64 5] 44 (0, 0)) (by (with_reducible repeat (first | refine blk_drewN ?_ _ | refine blk_drew ?_ | refine blk_alloc ?_ _)); refine blk_far ?_ NB112_117.out _; (with_reducible repeat (first | refine blk_drewN ?_ _ | refine blk_drew ?_ | refine blk_alloc ?_ _)); refine blk_far ?_ NB112_117.out _; (with_reducible repeat (first | refine blk_drewN ?_ _ | refine blk_drew ?_ | refine blk_alloc ?_ _)); exact BK112.out) hb); have n2_ := Aside0.mk (blk_below (g := gb113) (o := .cells #[.int .i64 500, .int .i64 600] 27 (0, 0)) (by (with_reducible repeat (first | refine blk_drewN ?_ _ | refine blk_drew ?_ | refine blk_alloc ?_ _)); refine blk_far ?_ NB113_117.out _; (with_reducible repeat (first | refine blk_drewN ?_ _ | refine blk_drew ?_ | refine blk_alloc ?_ _)); refine blk_far ?_ NB113_117.out _; (with_reducible repeat (first | refine blk_drewN ?_ _ | refine blk_drew ?_ | refine blk_alloc ?_ _)); exact BK113.out) hb); have n3_ := Aside0.mk (blk_below (g := gb117) (o := .cells #[.int .i64 t114, .int .i64 t115] 27 (0, 0)) (by (with_reducible repeat (first | refine blk_drewN ?_ _ | refine blk_drew ?_ | refine blk_alloc ?_ _)); refine blk_put (cs := #[.int .i64 t114, .int .i64 0]) ?_ 1 _ rfl; (with_reducible repeat (first | refine blk_drewN ?_ _ | refine blk_drew ?_ | refine blk_alloc ?_ _)); refine blk_put (cs := #[.int .i64 0, .int .i64 0]) ?_ 0 _ rfl; (with_reducible repeat (first | refine blk_drewN ?_ _ | refine blk_drew ?_ | refine blk_alloc ?_ _)); exact BK117.out) hb); have n4_ := Aside0.mk (below_step (by repeat (first | (with_reducible first | exact HB.out | apply below_alloc | apply pw_below_drewN | apply below_drew1 | refine below_set ?_ GE111.out | refine below_set ?_ GE112.out | refine below_set ?_ GE113.out | refine below_set ?_ GE117.out) | exact HB.out)) hb); clear BK111; clear BK112; clear BK113; clear BK117; clear HB; have BK111 := n0_; have BK112 := n1_; have BK113 := n2_; have BK117 := n3_; have HB := n4_; clear n0_ n1_ n2_ n3_ n4_; (try clear hb); (try clear hb2); (try clear hk); (try clear hi)) | ((with_reducible refine gate_dst (N := 6) rfl ?_); (try (refine gate_guard (by rfl) ?_; dsimp only)); refine box_event ?hg (N := 6) ?hd (cs := #[.int .i64 0, .int .i64 0]) (t := 27) ?hr ?_; (case hd => rfl); (case hg => rfl); (case hr => first | (go_simp; done) | (go_simp; rfl)); intro gb121 hg w29 hbox hb; have n0_ := Aside0.mk (zb BK111.out hb); have n1_ := Aside0.mk (zb BK112.out hb); have n2_ := Aside0.mk (zb BK113.out hb); have n3_ := Aside0.mk (zb BK117.out hb); have n4_ := Aside0.mk (below_step (by repeat (first | (with_reducible first | exact HB.out | apply below_alloc | apply pw_below_drewN | apply below_drew1 | refine below_set ?_ GE111.out | refine below_set ?_ GE112.out | refine below_set ?_ GE113.out | refine below_set ?_ GE117.out) | exact HB.out)) hb); have n5_ := Aside0.mk (hbox); have n6_ := Aside0.mk ((by rw [hg]; exact (below_size (by repeat (first | (with_reducible first | exact HB.out | apply below_alloc | apply pw_below_drewN | apply below_drew1 | refine below_set ?_ GE111.out | refine below_set ?_ GE112.out | refine below_set ?_ GE113.out | refine below_set ?_ GE117.out) | exact HB.out))) : w.heap.size ≤ gb121)); have n7_ := Aside0.mk ((by rw [hg]; exact (below_size (by repeat (first | (with_reducible first | exact HB.out | apply below_alloc | apply pw_below_drewN | apply below_drew1 | refine below_set ?_ GE111.out | refine below_set ?_ GE112.out | refine below_set ?_ GE113.out | refine below_set ?_ GE117.out) | exact HB.out))) : w.heap.size ≤ gb121)); have n8_ := Aside0.mk ((by rw [hg]; exact Nat.ne_of_lt (blk_lt (zk BK111.out)) : gb111 ≠ gb121)); have n9_ := Aside0.mk ((by rw [hg]; exact Nat.ne_of_gt (blk_lt (zk BK111.out)) : gb121 ≠ gb111)); have n10_ := Aside0.mk ((by rw [hg]; exact Nat.ne_of_lt (blk_lt (zk BK112.out)) : gb112 ≠ gb121)); have n11_ := Aside0.mk ((by rw [hg]; exact Nat.ne_of_gt (blk_lt (zk BK112.out)) : gb121 ≠ gb112)); have n12_ := Aside0.mk ((by rw [hg]; exact Nat.ne_of_lt (blk_lt (zk BK113.out)) : gb113 ≠ gb121)); have n13_ := Aside0.mk ((by rw [hg]; exact Nat.ne_of_gt (blk_lt (zk BK113.out)) : gb121 ≠ gb113)); have n14_ := Aside0.mk ((by rw [hg]; exact Nat.ne_of_lt (blk_lt (zk BK117.out)) : gb117 ≠ gb121)); have n15_ := Aside0.mk ((by rw [hg]; exact Nat.ne_of_gt (blk_lt (zk BK117.out)) : gb121 ≠ gb117)); clear BK111; clear BK112; clear BK113; clear BK117; clear HB; have BK111 := n0_; have BK112 := n1_; have BK113 := n2_; have BK117 := n3_; have HB := n4_; have BK121 := n5_; have GW121 := n6_; have GE121 := n7_; have NB111_121 := n8_; have NB121_111 := n9_; have NB112_121 := n10_; have NB121_112 := n11_; have NB113_121 := n12_; have NB121_113 := n13_; have NB117_121 := n14_; have NB121_117 := n15_; clear n0_ n1_ n2_ n3_ n4_ n5_ n6_ n7_ n8_ n9_ n10_ n11_ n12_ n13_ n14_ n15_; clear hb hbox hg; have hnb30 := NB121_111.out; have hnc30 := NB111_121.out; have hnb31 := NB121_112.out; have hnc31 := NB112_121.out; have hnb32 := NB121_113.out; have hnc32 := NB113_121.out; have hnb33 := NB121_117.out; have hnc33 := NB117_121.out; have hcz34_0 : w29.cell? ⟨gb121, 0, none⟩ = some (.int .i64 0) := (blk_cell BK121.out 0).trans rfl; have hcz34_1 : w29.cell? ⟨gb121, 1, none⟩ = some (.int .i64 0) := (blk_cell BK121.out 1).trans rfl; have hfz34_0 := blk_frozen BK121.out 0; have hfz34_1 := blk_frozen BK121.out 1; have hcz35_0 : w29.cell? ⟨gb111, 0, none⟩ = some (.string t104) := (blk_cell BK111.out 0).trans rfl; have hcz35_1 : w29.cell? ⟨gb111, 1, none⟩ = some (.string t105) := (blk_cell BK111.out 1).trans rfl; have hcz35_2 : w29.cell? ⟨gb111, 2, none⟩ = some (.int .i64 t106) := (blk_cell BK111.out 2).trans rfl; have hcz35_3 : w29.cell? ⟨gb111, 3, none⟩ = some (.int .i64 t107) := (blk_cell BK111.out 3).trans rfl; have hcz35_4 : w29.cell? ⟨gb111, 4, none⟩ = some (.int .i64 t108) := (blk_cell BK111.out 4).trans rfl; have hcz35_5 : w29.cell? ⟨gb111, 5, none⟩ = some (.int .i64 t109) := (blk_cell BK111.out 5).trans rfl; have hcz35_6 : w29.cell? ⟨gb111, 6, none⟩ = some (.int .i64 t110) := (blk_cell BK111.out 6).trans rfl; have hfz35_0 := blk_frozen BK111.out 0; have hfz35_1 := blk_frozen BK111.out 1; have hfz35_2 := blk_frozen BK111.out 2; have hfz35_3 := blk_frozen BK111.out 3; have hfz35_4 := blk_frozen BK111.out 4; have hfz35_5 := blk_frozen BK111.out 5; have hfz35_6 := blk_frozen BK111.out 6; have hcz36_0 : w29.cell? ⟨gb113, 0, none⟩ = some (.int .i64 500) := (blk_cell BK113.out 0).trans rfl; have hcz36_1 : w29.cell? ⟨gb113, 1, none⟩ = some (.int .i64 600) := (blk_cell BK113.out 1).trans rfl; have hfz36_0 := blk_frozen BK113.out 0; have hfz36_1 := blk_frozen BK113.out 1; have hcz37_0 : w29.cell? ⟨gb112, 0, none⟩ = some (.int .i64 0) := (blk_cell BK112.out 0).trans rfl; have hcz37_1 : w29.cell? ⟨gb112, 1, none⟩ = some (.int .i64 40) := (blk_cell BK112.out 1).trans rfl; have hcz37_2 : w29.cell? ⟨gb112, 2, none⟩ = some (.int .i64 0) := (blk_cell BK112.out 2).trans rfl; have hcz37_3 : w29.cell? ⟨gb112, 3, none⟩ = some (.int .i64 5) := (blk_cell BK112.out 3).trans rfl; have hfz37_0 := blk_frozen BK112.out 0; have hfz37_1 := blk_frozen BK112.out 1; have hfz37_2 := blk_frozen BK112.out 2; have hfz37_3 := blk_frozen BK112.out 3) | ((with_reducible refine gate_callee (f := 23) rfl ?_); refine goesL_ (some 39) rfl rfl Try.func23 (by kernel_rfl) rfl #[.agg #[.string t104, .string t105, .int .i64 t106, .int .i64 t107, .int .i64 t108, .int .i64 t109, .int .i64 t110], .agg #[.int .i64 500, .int .i64 600], .agg #[.int .i64 0, .int .i64 40, .int .i64 0, .int .i64 5], .int .i64 5] rfl (by (try simp only [List.map_toArray, List.map_cons, List.map_nil]); first | done | rfl | (simp only [List.length_drop, List.length_take]; rfl)) ?_; (with_reducible refine (turf_Next.calls t104 t105 t106 t107 t108 t109 t110 500 600 0 40 0 5 5 t122 t123 t124 _ A4.out).mono ?_); rintro e w38 ⟨rfl, hb⟩; refine ⟨_, rfl, ?_⟩; have n0_ := Aside0.mk (blk_below (g := gb111) (o := .cells #[.string t104, .string t105, .int .i64 t106, .int .i64 t107, .int .i64 t108, .int .i64 t109, .int .i64 t110] 25 (0, 0)) (by (with_reducible repeat (first | refine blk_drewN ?_ _ | refine blk_drew ?_ | refine blk_alloc ?_ _)); refine blk_far ?_ NB111_121.out _; (with_reducible repeat (first | refine blk_drewN ?_ _ | refine blk_drew ?_ | refine blk_alloc ?_ _)); refine blk_far ?_ NB111_121.out _; (with_reducible repeat (first | refine blk_drewN ?_ _ | refine blk_drew ?_ | refine blk_alloc ?_ _)); exact BK111.out) hb); have n1_ := Aside0.mk (blk_below (g := gb112) (o := .cells #[.int .i64 0, .int .i64 40, .int .i64 0, .int .i64 5] 44 (0, 0)) (by (with_reducible repeat (first | refine blk_drewN ?_ _ | refine blk_drew ?_ | refine blk_alloc ?_ _)); refine blk_far ?_ NB112_121.out _; (with_reducible repeat (first | refine blk_drewN ?_ _ | refine blk_drew ?_ | refine blk_alloc ?_ _)); refine blk_far ?_ NB112_121.out _; (with_reducible repeat (first | refine blk_drewN ?_ _ | refine blk_drew ?_ | refine blk_alloc ?_ _)); exact BK112.out) hb); have n2_ := Aside0.mk (blk_below (g := gb113) (o := .cells #[.int .i64 500, .int .i64 600] 27 (0, 0)) (by (with_reducible repeat (first | refine blk_drewN ?_ _ | refine blk_drew ?_ | refine blk_alloc ?_ _)); refine blk_far ?_ NB113_121.out _; (with_reducible repeat (first | refine blk_drewN ?_ _ | refine blk_drew ?_ | refine blk_alloc ?_ _)); refine blk_far ?_ NB113_121.out _; (with_reducible repeat (first | refine blk_drewN ?_ _ | refine blk_drew ?_ | refine blk_alloc ?_ _)); exact BK113.out) hb); have n3_ := Aside0.mk (blk_below (g := gb117) (o := .cells #[.int .i64 t114, .int .i64 t115] 27 (0, 0)) (by (with_reducible repeat (first | refine blk_drewN ?_ _ | refine blk_drew ?_ | refine blk_alloc ?_ _)); refine blk_far ?_ NB117_121.out _; (with_reducible repeat (first | refine blk_drewN ?_ _ | refine blk_drew ?_ | refine blk_alloc ?_ _)); refine blk_far ?_ NB117_121.out _; (with_reducible repeat (first | refine blk_drewN ?_ _ | refine blk_drew ?_ | refine blk_alloc ?_ _)); exact BK117.out) hb); have n4_ := Aside0.mk (blk_below (g := gb121) (o := .cells #[.int .i64 t118, .int .i64 t119] 27 (0, 0)) (by (with_reducible repeat (first | refine blk_drewN ?_ _ | refine blk_drew ?_ | refine blk_alloc ?_ _)); refine blk_put (cs := #[.int .i64 t118, .int .i64 0]) ?_ 1 _ rfl; (with_reducible repeat (first | refine blk_drewN ?_ _ | refine blk_drew ?_ | refine blk_alloc ?_ _)); refine blk_put (cs := #[.int .i64 0, .int .i64 0]) ?_ 0 _ rfl; (with_reducible repeat (first | refine blk_drewN ?_ _ | refine blk_drew ?_ | refine blk_alloc ?_ _)); exact BK121.out) hb); have n5_ := Aside0.mk (below_step (by repeat (first | (with_reducible first | exact HB.out | apply below_alloc | apply pw_below_drewN | apply below_drew1 | refine below_set ?_ GE111.out | refine below_set ?_ GE112.out | refine below_set ?_ GE113.out | refine below_set ?_ GE117.out | refine below_set ?_ GE121.out) | exact HB.out)) hb); clear BK111; clear BK112; clear BK113; clear BK117; clear BK121; clear HB; have BK111 := n0_; have BK112 := n1_; have BK113 := n2_; have BK117 := n3_; have BK121 := n4_; have HB := n5_; clear n0_ n1_ n2_ n3_ n4_ n5_; (try clear hb); (try clear hb2); (try clear hk); (try clear hi)) | ((with_reducible refine gate_dst (N := 8) rfl ?_); (try (refine gate_guard (by rfl) ?_; dsimp only)); refine box_event ?hg (N := 8) ?hd (cs := #[.int .i64 0, .int .i64 0]) (t := 27) ?hr ?_; (case hd => rfl); (case hg => rfl); (case hr => first | (go_simp; done) | (go_simp; rfl)); intro gb125 hg w39 hbox hb; have n0_ := Aside0.mk (zb BK111.out hb); have n1_ := Aside0.mk (zb BK112.out hb); have n2_ := Aside0.mk (zb BK113.out hb); have n3_ := Aside0.mk (zb BK117.out hb); have n4_ := Aside0.mk (zb BK121.out hb); have n5_ := Aside0.mk (below_step (by repeat (first | (with_reducible first | exact HB.out | apply below_alloc | apply pw_below_drewN | apply below_drew1 | refine below_set ?_ GE111.out | refine below_set ?_ GE112.out | refine below_set ?_ GE113.out | refine below_set ?_ GE117.out | refine below_set ?_ GE121.out) | exact HB.out)) hb); have n6_ := Aside0.mk (hbox); have n7_ := Aside0.mk ((by rw [hg]; exact (below_size (by repeat (first | (with_reducible first | exact HB.out | apply below_alloc | apply pw_below_drewN | apply below_drew1 | refine below_set ?_ GE111.out | refine below_set ?_ GE112.out | refine below_set ?_ GE113.out | refine below_set ?_ GE117.out | refine below_set ?_ GE121.out) | exact HB.out))) : w.heap.size ≤ gb125)); have n8_ := Aside0.mk ((by rw [hg]; exact (below_size (by repeat (first | (with_reducible first | exact HB.out | apply below_alloc | apply pw_below_drewN | apply below_drew1 | refine below_set ?_ GE111.out | refine below_set ?_ GE112.out | refine below_set ?_ GE113.out | refine below_set ?_ GE117.out | refine below_set ?_ GE121.out) | exact HB.out))) : w.heap.size ≤ gb125)); have n9_ := Aside0.mk ((by rw [hg]; exact Nat.ne_of_lt (blk_lt (zk BK111.out)) : gb111 ≠ gb125)); have n10_ := Aside0.mk ((by rw [hg]; exact Nat.ne_of_gt (blk_lt (zk BK111.out)) : gb125 ≠ gb111)); have n11_ := Aside0.mk ((by rw [hg]; exact Nat.ne_of_lt (blk_lt (zk BK112.out)) : gb112 ≠ gb125)); have n12_ := Aside0.mk ((by rw [hg]; exact Nat.ne_of_gt (blk_lt (zk BK112.out)) : gb125 ≠ gb112)); have n13_ := Aside0.mk ((by rw [hg]; exact Nat.ne_of_lt (blk_lt (zk BK113.out)) : gb113 ≠ gb125)); have n14_ := Aside0.mk ((by rw [hg]; exact Nat.ne_of_gt (blk_lt (zk BK113.out)) : gb125 ≠ gb113)); have n15_ := Aside0.mk ((by rw [hg]; exact Nat.ne_of_lt (blk_lt (zk BK117.out)) : gb117 ≠ gb125)); have n16_ := Aside0.mk ((by rw [hg]; exact Nat.ne_of_gt (blk_lt (zk BK117.out)) : gb125 ≠ gb117)); have n17_ := Aside0.mk ((by rw [hg]; exact Nat.ne_of_lt (blk_lt (zk BK121.out)) : gb121 ≠ gb125)); have n18_ := Aside0.mk ((by rw [hg]; exact Nat.ne_of_gt (blk_lt (zk BK121.out)) : gb125 ≠ gb121)); clear BK111; clear BK112; clear BK113; clear BK117; clear BK121; clear HB; have BK111 := n0_; have BK112 := n1_; have BK113 := n2_; have BK117 := n3_; have BK121 := n4_; have HB := n5_; have BK125 := n6_; have GW125 := n7_; have GE125 := n8_; have NB111_125 := n9_; have NB125_111 := n10_; have NB112_125 := n11_; have NB125_112 := n12_; have NB113_125 := n13_; have NB125_113 := n14_; have NB117_125 := n15_; have NB125_117 := n16_; have NB121_125 := n17_; have NB125_121 := n18_; clear n0_ n1_ n2_ n3_ n4_ n5_ n6_ n7_ n8_ n9_ n10_ n11_ n12_ n13_ n14_ n15_ n16_ n17_ n18_; clear hb hbox hg; have hnb40 := NB125_111.out; have hnc40 := NB111_125.out; have hnb41 := NB125_112.out; have hnc41 := NB112_125.out; have hnb42 := NB125_113.out; have hnc42 := NB113_125.out; have hnb43 := NB125_117.out; have hnc43 := NB117_125.out; have hnb44 := NB125_121.out; have hnc44 := NB121_125.out; have hcz45_0 : w39.cell? ⟨gb125, 0, none⟩ = some (.int .i64 0) := (blk_cell BK125.out 0).trans rfl; have hcz45_1 : w39.cell? ⟨gb125, 1, none⟩ = some (.int .i64 0) := (blk_cell BK125.out 1).trans rfl; have hfz45_0 := blk_frozen BK125.out 0; have hfz45_1 := blk_frozen BK125.out 1; have hcz46_0 : w39.cell? ⟨gb111, 0, none⟩ = some (.string t104) := (blk_cell BK111.out 0).trans rfl; have hcz46_1 : w39.cell? ⟨gb111, 1, none⟩ = some (.string t105) := (blk_cell BK111.out 1).trans rfl; have hcz46_2 : w39.cell? ⟨gb111, 2, none⟩ = some (.int .i64 t106) := (blk_cell BK111.out 2).trans rfl; have hcz46_3 : w39.cell? ⟨gb111, 3, none⟩ = some (.int .i64 t107) := (blk_cell BK111.out 3).trans rfl; have hcz46_4 : w39.cell? ⟨gb111, 4, none⟩ = some (.int .i64 t108) := (blk_cell BK111.out 4).trans rfl; have hcz46_5 : w39.cell? ⟨gb111, 5, none⟩ = some (.int .i64 t109) := (blk_cell BK111.out 5).trans rfl; have hcz46_6 : w39.cell? ⟨gb111, 6, none⟩ = some (.int .i64 t110) := (blk_cell BK111.out 6).trans rfl; have hfz46_0 := blk_frozen BK111.out 0; have hfz46_1 := blk_frozen BK111.out 1; have hfz46_2 := blk_frozen BK111.out 2; have hfz46_3 := blk_frozen BK111.out 3; have hfz46_4 := blk_frozen BK111.out 4; have hfz46_5 := blk_frozen BK111.out 5; have hfz46_6 := blk_frozen BK111.out 6; have hcz47_0 : w39.cell? ⟨gb113, 0, none⟩ = some (.int .i64 500) := (blk_cell BK113.out 0).trans rfl; have hcz47_1 : w39.cell? ⟨gb113, 1, none⟩ = some (.int .i64 600) := (blk_cell BK113.out 1).trans rfl; have hfz47_0 := blk_frozen BK113.out 0; have hfz47_1 := blk_frozen BK113.out 1; have hcz48_0 : w39.cell? ⟨gb112, 0, none⟩ = some (.int .i64 0) := (blk_cell BK112.out 0).trans rfl; have hcz48_1 : w39.cell? ⟨gb112, 1, none⟩ = some (.int .i64 40) := (blk_cell BK112.out 1).trans rfl; have hcz48_2 : w39.cell? ⟨gb112, 2, none⟩ = some (.int .i64 0) := (blk_cell BK112.out 2).trans rfl; have hcz48_3 : w39.cell? ⟨gb112, 3, none⟩ = some (.int .i64 5) := (blk_cell BK112.out 3).trans rfl; have hfz48_0 := blk_frozen BK112.out 0; have hfz48_1 := blk_frozen BK112.out 1; have hfz48_2 := blk_frozen BK112.out 2; have hfz48_3 := blk_frozen BK112.out 3) | ((with_reducible refine gate_dst (N := 47) rfl ?_); (try (refine gate_guard (by rfl) ?_; dsimp only)); refine Kd.R_lit k44 _ 44 ?hg (N := 47) ?hd (xs := ([(⟨(⟨0, 40⟩ : S27), (⟨0, 5⟩ : S27)⟩ : S44), (⟨(⟨0, 0⟩ : S27), (⟨0, 0⟩ : S27)⟩ : S44)] : List (S44))) (inner := [.int .i64 0, .int .i64 40, .int .i64 0, .int .i64 5, .int .i64 0, .int .i64 0, .int .i64 0, .int .i64 0]) (ok := fun _ => True) (okp := fun _ => True) ?hr ?hp (fun _ hk => hk) trivial (Below.refl _ _) (Nat.le_refl _) (by simp) ?_; (case hd => rfl); (case hg => rfl); (case hr => first | (go_simp; done) | (go_simp; rfl)); (case hp => exact (Reps.c4 (show Kd.M k44 _ _ _ (⟨(⟨0, 40⟩ : S27), (⟨0, 5⟩ : S27)⟩ : S44) [.int .i64 0, .int .i64 40, .int .i64 0, .int .i64 5] from (k44_mkM _ _ _ (⟨(⟨0, 40⟩ : S27), (⟨0, 5⟩ : S27)⟩ : S44) )) (Reps.c4 (show Kd.M k44 _ _ _ (⟨(⟨0, 0⟩ : S27), (⟨0, 0⟩ : S27)⟩ : S44) [.int .i64 0, .int .i64 0, .int .i64 0, .int .i64 0] from (k44_mkM _ _ _ (⟨(⟨0, 0⟩ : S27), (⟨0, 0⟩ : S27)⟩ : S44) )) (Reps.none _ _)))); intro v127 w49 ho50 hb hg_ hnew_; clear hg_ hnew_; (first | rw [← Ny126.out] at ho50 | (simp only [Int.reduceToNat] at ho50; rw [← Ny126.out] at ho50)); have n0_ := Aside0.mk (Kd.R_lower (Kd.R_newB ho50 (g := gb112) (o := .cells #[.int .i64 0, .int .i64 40, .int .i64 0, .int .i64 5] 44 (0, 0)) (by (with_reducible repeat (first | refine blk_drewN ?_ _ | refine blk_drew ?_ | refine blk_alloc ?_ _)); refine blk_far ?_ NB112_125.out _; (with_reducible repeat (first | refine blk_drewN ?_ _ | refine blk_drew ?_ | refine blk_alloc ?_ _)); refine blk_far ?_ NB112_125.out _; (with_reducible repeat (first | refine blk_drewN ?_ _ | refine blk_drew ?_ | refine blk_alloc ?_ _)); exact BK112.out)) (below_size (by repeat (first | (with_reducible first | exact HB.out | apply below_alloc | apply pw_below_drewN | apply below_drew1 | refine below_set ?_ GE111.out | refine below_set ?_ GE112.out | refine below_set ?_ GE113.out | refine below_set ?_ GE117.out | refine below_set ?_ GE121.out | refine below_set ?_ GE125.out) | exact HB.out)))); have n1_ := Aside0.mk (blk_below (g := gb111) (o := .cells #[.string t104, .string t105, .int .i64 t106, .int .i64 t107, .int .i64 t108, .int .i64 t109, .int .i64 t110] 25 (0, 0)) (by (with_reducible repeat (first | refine blk_drewN ?_ _ | refine blk_drew ?_ | refine blk_alloc ?_ _)); refine blk_far ?_ NB111_125.out _; (with_reducible repeat (first | refine blk_drewN ?_ _ | refine blk_drew ?_ | refine blk_alloc ?_ _)); refine blk_far ?_ NB111_125.out _; (with_reducible repeat (first | refine blk_drewN ?_ _ | refine blk_drew ?_ | refine blk_alloc ?_ _)); exact BK111.out) hb); have n2_ := Aside0.mk (blk_below (g := gb112) (o := .cells #[.int .i64 0, .int .i64 40, .int .i64 0, .int .i64 5] 44 (0, 0)) (by (with_reducible repeat (first | refine blk_drewN ?_ _ | refine blk_drew ?_ | refine blk_alloc ?_ _)); refine blk_far ?_ NB112_125.out _; (with_reducible repeat (first | refine blk_drewN ?_ _ | refine blk_drew ?_ | refine blk_alloc ?_ _)); refine blk_far ?_ NB112_125.out _; (with_reducible repeat (first | refine blk_drewN ?_ _ | refine blk_drew ?_ | refine blk_alloc ?_ _)); exact BK112.out) hb); have n3_ := Aside0.mk (blk_below (g := gb113) (o := .cells #[.int .i64 500, .int .i64 600] 27 (0, 0)) (by (with_reducible repeat (first | refine blk_drewN ?_ _ | refine blk_drew ?_ | refine blk_alloc ?_ _)); refine blk_far ?_ NB113_125.out _; (with_reducible repeat (first | refine blk_drewN ?_ _ | refine blk_drew ?_ | refine blk_alloc ?_ _)); refine blk_far ?_ NB113_125.out _; (with_reducible repeat (first | refine blk_drewN ?_ _ | refine blk_drew ?_ | refine blk_alloc ?_ _)); exact BK113.out) hb); have n4_ := Aside0.mk (blk_below (g := gb117) (o := .cells #[.int .i64 t114, .int .i64 t115] 27 (0, 0)) (by (with_reducible repeat (first | refine blk_drewN ?_ _ | refine blk_drew ?_ | refine blk_alloc ?_ _)); refine blk_far ?_ NB117_125.out _; (with_reducible repeat (first | refine blk_drewN ?_ _ | refine blk_drew ?_ | refine blk_alloc ?_ _)); refine blk_far ?_ NB117_125.out _; (with_reducible repeat (first | refine blk_drewN ?_ _ | refine blk_drew ?_ | refine blk_alloc ?_ _)); exact BK117.out) hb); have n5_ := Aside0.mk (blk_below (g := gb121) (o := .cells #[.int .i64 t118, .int .i64 t119] 27 (0, 0)) (by (with_reducible repeat (first | refine blk_drewN ?_ _ | refine blk_drew ?_ | refine blk_alloc ?_ _)); refine blk_far ?_ NB121_125.out _; (with_reducible repeat (first | refine blk_drewN ?_ _ | refine blk_drew ?_ | refine blk_alloc ?_ _)); refine blk_far ?_ NB121_125.out _; (with_reducible repeat (first | refine blk_drewN ?_ _ | refine blk_drew ?_ | refine blk_alloc ?_ _)); exact BK121.out) hb); have n6_ := Aside0.mk (blk_below (g := gb125) (o := .cells #[.int .i64 t122, .int .i64 t123] 27 (0, 0)) (by (with_reducible repeat (first | refine blk_drewN ?_ _ | refine blk_drew ?_ | refine blk_alloc ?_ _)); refine blk_put (cs := #[.int .i64 t122, .int .i64 0]) ?_ 1 _ rfl; (with_reducible repeat (first | refine blk_drewN ?_ _ | refine blk_drew ?_ | refine blk_alloc ?_ _)); refine blk_put (cs := #[.int .i64 0, .int .i64 0]) ?_ 0 _ rfl; (with_reducible repeat (first | refine blk_drewN ?_ _ | refine blk_drew ?_ | refine blk_alloc ?_ _)); exact BK125.out) hb); have n7_ := Aside0.mk (below_step (by repeat (first | (with_reducible first | exact HB.out | apply below_alloc | apply pw_below_drewN | apply below_drew1 | refine below_set ?_ GE111.out | refine below_set ?_ GE112.out | refine below_set ?_ GE113.out | refine below_set ?_ GE117.out | refine below_set ?_ GE121.out | refine below_set ?_ GE125.out) | exact HB.out)) hb); clear BK111; clear BK112; clear BK113; clear BK117; clear BK121; clear BK125; clear HB; have HO128 := n0_; have BK111 := n1_; have BK112 := n2_; have BK113 := n3_; have BK117 := n4_; have BK121 := n5_; have BK125 := n6_; have HB := n7_; clear n0_ n1_ n2_ n3_ n4_ n5_ n6_ n7_; clear hb ho50) | ((with_reducible refine gate_dst (N := 48) rfl ?_); (try (refine gate_guard (by rfl) ?_; dsimp only)); refine Kd.R_lit (Kd.int .i64) _ 3 ?hg (N := 48) ?hd (xs := ([2, 0] : List Int)) (inner := [.int .i64 2, .int .i64 0]) (ok := fun _ => True) (okp := fun _ => True) ?hr ?hp (fun _ hk => hk) trivial (Below.refl _ _) (Nat.le_refl _) (by simp) ?_; (case hd => rfl); (case hg => rfl); (case hr => first | (go_simp; done) | (go_simp; rfl)); (case hp => exact (Reps.one (show Kd.M (Kd.int .i64) _ _ _ 2 [.int .i64 2] from rfl) (Reps.one (show Kd.M (Kd.int .i64) _ _ _ 0 [.int .i64 0] from rfl) (Reps.none _ _)))); intro v130 w51 ho52 hb hg_ hnew_; clear hg_ hnew_; (first | rw [← Ny129.out] at ho52 | (simp only [Int.reduceToNat] at ho52; rw [← Ny129.out] at ho52)); have n0_ := Aside0.mk (Kd.R_below (by (with_reducible repeat (first | apply Kd.R_alloc | apply Kd.R_drewN | apply Kd.R_drew)); exact HO128.out) hb); have n1_ := Aside0.mk (Kd.R_lower ho52 (below_size (by repeat (first | (with_reducible first | exact HB.out | apply below_alloc | apply pw_below_drewN | apply below_drew1 | refine below_set ?_ GE111.out | refine below_set ?_ GE112.out | refine below_set ?_ GE113.out | refine below_set ?_ GE117.out | refine below_set ?_ GE121.out | refine below_set ?_ GE125.out) | exact HB.out)))); have n2_ := Aside0.mk (zb BK111.out hb); have n3_ := Aside0.mk (zb BK112.out hb); have n4_ := Aside0.mk (zb BK113.out hb); have n5_ := Aside0.mk (zb BK117.out hb); have n6_ := Aside0.mk (zb BK121.out hb); have n7_ := Aside0.mk (zb BK125.out hb); have n8_ := Aside0.mk (below_step (by repeat (first | (with_reducible first | exact HB.out | apply below_alloc | apply pw_below_drewN | apply below_drew1 | refine below_set ?_ GE111.out | refine below_set ?_ GE112.out | refine below_set ?_ GE113.out | refine below_set ?_ GE117.out | refine below_set ?_ GE121.out | refine below_set ?_ GE125.out) | exact HB.out)) hb); clear HO128; clear BK111; clear BK112; clear BK113; clear BK117; clear BK121; clear BK125; clear HB; have HO128 := n0_; have HO131 := n1_; have BK111 := n2_; have BK112 := n3_; have BK113 := n4_; have BK117 := n5_; have BK121 := n6_; have BK125 := n7_; have HB := n8_; clear n0_ n1_ n2_ n3_ n4_ n5_ n6_ n7_ n8_; clear hb ho52; obtain ⟨Ao53, co53, eo53⟩ := Kd.R_slice HO128.out; subst eo53; obtain ⟨Ao54, co54, eo54⟩ := Kd.R_slice HO131.out; subst eo54) | ((with_reducible refine gate_callee (f := 27) rfl ?_); refine goesL_ (some 49) rfl rfl Try.func27 (by kernel_rfl) rfl #[.agg #[.string t104, .string t105, .int .i64 t106, .int .i64 t107, .int .i64 t108, .int .i64 t109, .int .i64 t110], .agg #[.int .i64 500, .int .i64 600], .slice Ao53 y126.length co53, .slice Ao54 y129.length co54] rfl (by (try simp only [List.map_toArray, List.map_cons, List.map_nil]); first | done | rfl | (simp only [List.length_drop, List.length_take]; rfl)) ?_; (with_reducible refine (turf_Run.calls t104 t105 t106 t107 t108 t109 t110 500 600 _ _ y126 _ _ y129 t132 t135 _ ?side1 ?side2 ?side3 ?side4 A5.out).mono ?_); (case side1 => repeat (first | exact (Kd.R_reads' HO128.out).2.2 | (with_reducible refine Kd.C_alloc ?_ _) | (with_reducible refine Kd.C_drewN ?_ _) | (with_reducible refine Kd.C_drew ?_))); (case side2 => exact (Kd.R_reads' HO128.out).2.1); (case side3 => repeat (first | exact (Kd.R_reads' HO131.out).2.2 | (with_reducible refine Kd.C_alloc ?_ _) | (with_reducible refine Kd.C_drewN ?_ _) | (with_reducible refine Kd.C_drew ?_))); (case side4 => exact (Kd.R_reads' HO131.out).2.1); rintro e w55 ⟨v133, rfl, ho0, hb⟩; refine ⟨_, rfl, ?_⟩; have n0_ := Aside0.mk (Kd.R_below (by (with_reducible repeat (first | apply Kd.R_alloc | apply Kd.R_drewN | apply Kd.R_drew)); exact HO128.out) hb); have n1_ := Aside0.mk (Kd.R_below (by (with_reducible repeat (first | apply Kd.R_alloc | apply Kd.R_drewN | apply Kd.R_drew)); exact HO131.out) hb); have n2_ := Aside0.mk (Kd.R_lower (Kd.R_newB (Kd.R_newB (Kd.R_newB (Kd.R_newB ho0 (g := gb113) (o := .cells #[.int .i64 500, .int .i64 600] 27 (0, 0)) (zk BK113.out)) (g := gb117) (o := .cells #[.int .i64 t114, .int .i64 t115] 27 (0, 0)) (zk BK117.out)) (g := gb121) (o := .cells #[.int .i64 t118, .int .i64 t119] 27 (0, 0)) (zk BK121.out)) (g := gb125) (o := .cells #[.int .i64 t122, .int .i64 t123] 27 (0, 0)) (zk BK125.out)) (below_size (by repeat (first | (with_reducible first | exact HB.out | apply below_alloc | apply pw_below_drewN | apply below_drew1 | refine below_set ?_ GE111.out | refine below_set ?_ GE112.out | refine below_set ?_ GE113.out | refine below_set ?_ GE117.out | refine below_set ?_ GE121.out | refine below_set ?_ GE125.out) | exact HB.out)))); have n3_ := Aside0.mk (zb BK111.out hb); have n4_ := Aside0.mk (zb BK112.out hb); have n5_ := Aside0.mk (zb BK113.out hb); have n6_ := Aside0.mk (zb BK117.out hb); have n7_ := Aside0.mk (zb BK121.out hb); have n8_ := Aside0.mk (zb BK125.out hb); have n9_ := Aside0.mk (below_step (by repeat (first | (with_reducible first | exact HB.out | apply below_alloc | apply pw_below_drewN | apply below_drew1 | refine below_set ?_ GE111.out | refine below_set ?_ GE112.out | refine below_set ?_ GE113.out | refine below_set ?_ GE117.out | refine below_set ?_ GE121.out | refine below_set ?_ GE125.out) | exact HB.out)) hb); clear HO128; clear HO131; clear BK111; clear BK112; clear BK113; clear BK117; clear BK121; clear BK125; clear HB; have HO128 := n0_; have HO131 := n1_; have HO134 := n2_; have BK111 := n3_; have BK112 := n4_; have BK113 := n5_; have BK117 := n6_; have BK121 := n7_; have BK125 := n8_; have HB := n9_; clear n0_ n1_ n2_ n3_ n4_ n5_ n6_ n7_ n8_ n9_; (try clear hb); (try clear hb2); (try clear hk); (try clear hi); (try clear ho0); have hcz56_0 : w55.cell? ⟨gb111, 0, none⟩ = some (.string t104) := (blk_cell BK111.out 0).trans rfl; have hcz56_1 : w55.cell? ⟨gb111, 1, none⟩ = some (.string t105) := (blk_cell BK111.out 1).trans rfl; have hcz56_2 : w55.cell? ⟨gb111, 2, none⟩ = some (.int .i64 t106) := (blk_cell BK111.out 2).trans rfl; have hcz56_3 : w55.cell? ⟨gb111, 3, none⟩ = some (.int .i64 t107) := (blk_cell BK111.out 3).trans rfl; have hcz56_4 : w55.cell? ⟨gb111, 4, none⟩ = some (.int .i64 t108) := (blk_cell BK111.out 4).trans rfl; have hcz56_5 : w55.cell? ⟨gb111, 5, none⟩ = some (.int .i64 t109) := (blk_cell BK111.out 5).trans rfl; have hcz56_6 : w55.cell? ⟨gb111, 6, none⟩ = some (.int .i64 t110) := (blk_cell BK111.out 6).trans rfl; have hfz56_0 := blk_frozen BK111.out 0; have hfz56_1 := blk_frozen BK111.out 1; have hfz56_2 := blk_frozen BK111.out 2; have hfz56_3 := blk_frozen BK111.out 3; have hfz56_4 := blk_frozen BK111.out 4; have hfz56_5 := blk_frozen BK111.out 5; have hfz56_6 := blk_frozen BK111.out 6; have hcz57_0 : w55.cell? ⟨gb113, 0, none⟩ = some (.int .i64 500) := (blk_cell BK113.out 0).trans rfl; have hcz57_1 : w55.cell? ⟨gb113, 1, none⟩ = some (.int .i64 600) := (blk_cell BK113.out 1).trans rfl; have hfz57_0 := blk_frozen BK113.out 0; have hfz57_1 := blk_frozen BK113.out 1; have hcz58_0 : w55.cell? ⟨gb112, 0, none⟩ = some (.int .i64 0) := (blk_cell BK112.out 0).trans rfl; have hcz58_1 : w55.cell? ⟨gb112, 1, none⟩ = some (.int .i64 40) := (blk_cell BK112.out 1).trans rfl; have hcz58_2 : w55.cell? ⟨gb112, 2, none⟩ = some (.int .i64 0) := (blk_cell BK112.out 2).trans rfl; have hcz58_3 : w55.cell? ⟨gb112, 3, none⟩ = some (.int .i64 5) := (blk_cell BK112.out 3).trans rfl; have hfz58_0 := blk_frozen BK112.out 0; have hfz58_1 := blk_frozen BK112.out 1; have hfz58_2 := blk_frozen BK112.out 2; have hfz58_3 := blk_frozen BK112.out 3) | ((with_reducible refine gate_dst (N := 56) rfl ?_); (try (refine gate_guard (by rfl) ?_; dsimp only)); refine Kd.R_lit k44 _ 44 ?hg (N := 56) ?hd (xs := ([(⟨(⟨0, 40⟩ : S27), (⟨0, 5⟩ : S27)⟩ : S44)] : List (S44))) (inner := [.int .i64 0, .int .i64 40, .int .i64 0, .int .i64 5]) (ok := fun _ => True) (okp := fun _ => True) ?hr ?hp (fun _ hk => hk) trivial (Below.refl _ _) (Nat.le_refl _) (by simp) ?_; (case hd => rfl); (case hg => rfl); (case hr => first | (go_simp; done) | (go_simp; rfl)); (case hp => exact (Reps.c4 (show Kd.M k44 _ _ _ (⟨(⟨0, 40⟩ : S27), (⟨0, 5⟩ : S27)⟩ : S44) [.int .i64 0, .int .i64 40, .int .i64 0, .int .i64 5] from (k44_mkM _ _ _ (⟨(⟨0, 40⟩ : S27), (⟨0, 5⟩ : S27)⟩ : S44) )) (Reps.none _ _))); intro v137 w59 ho60 hb hg_ hnew_; clear hg_ hnew_; (first | rw [← Ny136.out] at ho60 | (simp only [Int.reduceToNat] at ho60; rw [← Ny136.out] at ho60)); have n0_ := Aside0.mk (Kd.R_elder' (by (with_reducible repeat (first | apply Kd.R_alloc | apply Kd.R_drewN | apply Kd.R_drew)); exact HO128.out) (Kd.R_base ho60) hb); have n1_ := Aside0.mk (Kd.R_below (by (with_reducible repeat (first | apply Kd.R_alloc | apply Kd.R_drewN | apply Kd.R_drew)); exact HO131.out) hb); have n2_ := Aside0.mk (Kd.R_below (by (with_reducible repeat (first | apply Kd.R_alloc | apply Kd.R_drewN | apply Kd.R_drew)); exact HO134.out) hb); have n3_ := Aside0.mk (Kd.R_lower (Kd.R_newB (Kd.R_new' ho60 (Kd.R_lt (by (with_reducible repeat (first | apply Kd.R_alloc | apply Kd.R_drewN | apply Kd.R_drew)); exact HO128.out))) (g := gb112) (o := .cells #[.int .i64 0, .int .i64 40, .int .i64 0, .int .i64 5] 44 (0, 0)) (zk BK112.out)) (below_size (by repeat (first | (with_reducible first | exact HB.out | apply below_alloc | apply pw_below_drewN | apply below_drew1 | refine below_set ?_ GE111.out | refine below_set ?_ GE112.out | refine below_set ?_ GE113.out | refine below_set ?_ GE117.out | refine below_set ?_ GE121.out | refine below_set ?_ GE125.out) | exact HB.out)))); have n4_ := Aside0.mk (zb BK111.out hb); have n5_ := Aside0.mk (zb BK112.out hb); have n6_ := Aside0.mk (zb BK113.out hb); have n7_ := Aside0.mk (zb BK117.out hb); have n8_ := Aside0.mk (zb BK121.out hb); have n9_ := Aside0.mk (zb BK125.out hb); have n10_ := Aside0.mk (below_step (by repeat (first | (with_reducible first | exact HB.out | apply below_alloc | apply pw_below_drewN | apply below_drew1 | refine below_set ?_ GE111.out | refine below_set ?_ GE112.out | refine below_set ?_ GE113.out | refine below_set ?_ GE117.out | refine below_set ?_ GE121.out | refine below_set ?_ GE125.out) | exact HB.out)) hb); clear HO128; clear HO131; clear HO134; clear BK111; clear BK112; clear BK113; clear BK117; clear BK121; clear BK125; clear HB; have HO128 := n0_; have HO131 := n1_; have HO134 := n2_; have HO138 := n3_; have BK111 := n4_; have BK112 := n5_; have BK113 := n6_; have BK117 := n7_; have BK121 := n8_; have BK125 := n9_; have HB := n10_; clear n0_ n1_ n2_ n3_ n4_ n5_ n6_ n7_ n8_ n9_ n10_; clear hb ho60; obtain ⟨Ao61, co61, eo61⟩ := Kd.R_slice HO138.out; subst eo61) | ((with_reducible refine gate_callee (f := 27) rfl ?_); refine goesL_ (some 57) rfl rfl Try.func27 (by kernel_rfl) rfl #[.agg #[.string t104, .string t105, .int .i64 t106, .int .i64 t107, .int .i64 t108, .int .i64 t109, .int .i64 t110], .agg #[.int .i64 500, .int .i64 600], .slice Ao61 y136.length co61, .slice none 0 0] rfl (by (try simp only [List.map_toArray, List.map_cons, List.map_nil]); first | done | rfl | (simp only [List.length_drop, List.length_take]; rfl)) ?_; (refine (turf_Run.calls t104 t105 t106 t107 t108 t109 t110 500 600 _ _ y136 _ _ ([] : List Int) t139 t142 _ ?side1 ?side2 ?side3 ?side4 A6.out).mono ?_); (case side1 => repeat (first | exact (Kd.R_reads' HO138.out).2.2 | (with_reducible refine Kd.C_alloc ?_ _) | (with_reducible refine Kd.C_drewN ?_ _) | (with_reducible refine Kd.C_drew ?_))); (case side2 => exact (Kd.R_reads' HO138.out).2.1); (case side3 => exact Kd.C_nil _ _); (case side4 => exact Nat.le_refl _); rintro e w62 ⟨v140, rfl, ho0, hb⟩; refine ⟨_, rfl, ?_⟩; have n0_ := Aside0.mk (Kd.R_below (by (with_reducible repeat (first | apply Kd.R_alloc | apply Kd.R_drewN | apply Kd.R_drew)); exact HO128.out) hb); have n1_ := Aside0.mk (Kd.R_below (by (with_reducible repeat (first | apply Kd.R_alloc | apply Kd.R_drewN | apply Kd.R_drew)); exact HO131.out) hb); have n2_ := Aside0.mk (Kd.R_elder' (by (with_reducible repeat (first | apply Kd.R_alloc | apply Kd.R_drewN | apply Kd.R_drew)); exact HO134.out) (Kd.R_base ho0) hb); have n3_ := Aside0.mk (Kd.R_below (by (with_reducible repeat (first | apply Kd.R_alloc | apply Kd.R_drewN | apply Kd.R_drew)); exact HO138.out) hb); have n4_ := Aside0.mk (Kd.R_lower (Kd.R_newB (Kd.R_newB (Kd.R_newB (Kd.R_newB (Kd.R_new' ho0 (Kd.R_lt (by (with_reducible repeat (first | apply Kd.R_alloc | apply Kd.R_drewN | apply Kd.R_drew)); exact HO134.out))) (g := gb113) (o := .cells #[.int .i64 500, .int .i64 600] 27 (0, 0)) (zk BK113.out)) (g := gb117) (o := .cells #[.int .i64 t114, .int .i64 t115] 27 (0, 0)) (zk BK117.out)) (g := gb121) (o := .cells #[.int .i64 t118, .int .i64 t119] 27 (0, 0)) (zk BK121.out)) (g := gb125) (o := .cells #[.int .i64 t122, .int .i64 t123] 27 (0, 0)) (zk BK125.out)) (below_size (by repeat (first | (with_reducible first | exact HB.out | apply below_alloc | apply pw_below_drewN | apply below_drew1 | refine below_set ?_ GE111.out | refine below_set ?_ GE112.out | refine below_set ?_ GE113.out | refine below_set ?_ GE117.out | refine below_set ?_ GE121.out | refine below_set ?_ GE125.out) | exact HB.out)))); have n5_ := Aside0.mk (zb BK111.out hb); have n6_ := Aside0.mk (zb BK112.out hb); have n7_ := Aside0.mk (zb BK113.out hb); have n8_ := Aside0.mk (zb BK117.out hb); have n9_ := Aside0.mk (zb BK121.out hb); have n10_ := Aside0.mk (zb BK125.out hb); have n11_ := Aside0.mk (below_step (by repeat (first | (with_reducible first | exact HB.out | apply below_alloc | apply pw_below_drewN | apply below_drew1 | refine below_set ?_ GE111.out | refine below_set ?_ GE112.out | refine below_set ?_ GE113.out | refine below_set ?_ GE117.out | refine below_set ?_ GE121.out | refine below_set ?_ GE125.out) | exact HB.out)) hb); clear HO128; clear HO131; clear HO134; clear HO138; clear BK111; clear BK112; clear BK113; clear BK117; clear BK121; clear BK125; clear HB; have HO128 := n0_; have HO131 := n1_; have HO134 := n2_; have HO138 := n3_; have HO141 := n4_; have BK111 := n5_; have BK112 := n6_; have BK113 := n7_; have BK117 := n8_; have BK121 := n9_; have BK125 := n10_; have HB := n11_; clear n0_ n1_ n2_ n3_ n4_ n5_ n6_ n7_ n8_ n9_ n10_ n11_; (try clear hb); (try clear hb2); (try clear hk); (try clear hi); (try clear ho0); have hcz63_0 : w62.cell? ⟨gb111, 0, none⟩ = some (.string t104) := (blk_cell BK111.out 0).trans rfl; have hcz63_1 : w62.cell? ⟨gb111, 1, none⟩ = some (.string t105) := (blk_cell BK111.out 1).trans rfl; have hcz63_2 : w62.cell? ⟨gb111, 2, none⟩ = some (.int .i64 t106) := (blk_cell BK111.out 2).trans rfl; have hcz63_3 : w62.cell? ⟨gb111, 3, none⟩ = some (.int .i64 t107) := (blk_cell BK111.out 3).trans rfl; have hcz63_4 : w62.cell? ⟨gb111, 4, none⟩ = some (.int .i64 t108) := (blk_cell BK111.out 4).trans rfl; have hcz63_5 : w62.cell? ⟨gb111, 5, none⟩ = some (.int .i64 t109) := (blk_cell BK111.out 5).trans rfl; have hcz63_6 : w62.cell? ⟨gb111, 6, none⟩ = some (.int .i64 t110) := (blk_cell BK111.out 6).trans rfl; have hfz63_0 := blk_frozen BK111.out 0; have hfz63_1 := blk_frozen BK111.out 1; have hfz63_2 := blk_frozen BK111.out 2; have hfz63_3 := blk_frozen BK111.out 3; have hfz63_4 := blk_frozen BK111.out 4; have hfz63_5 := blk_frozen BK111.out 5; have hfz63_6 := blk_frozen BK111.out 6; have hcz64_0 : w62.cell? ⟨gb113, 0, none⟩ = some (.int .i64 500) := (blk_cell BK113.out 0).trans rfl; have hcz64_1 : w62.cell? ⟨gb113, 1, none⟩ = some (.int .i64 600) := (blk_cell BK113.out 1).trans rfl; have hfz64_0 := blk_frozen BK113.out 0; have hfz64_1 := blk_frozen BK113.out 1) | ((with_reducible refine gate_callee (f := 27) rfl ?_); refine goesL_ (some 63) rfl rfl Try.func27 (by kernel_rfl) rfl #[.agg #[.string t104, .string t105, .int .i64 t106, .int .i64 t107, .int .i64 t108, .int .i64 t109, .int .i64 t110], .agg #[.int .i64 500, .int .i64 600], .slice none 0 0, .slice none 0 0] rfl (by (try simp only [List.map_toArray, List.map_cons, List.map_nil]); first | done | rfl | (simp only [List.length_drop, List.length_take]; rfl)) ?_; (refine (turf_Run.calls t104 t105 t106 t107 t108 t109 t110 500 600 _ _ ([] : List (S44)) _ _ ([] : List Int) t143 t146 _ ?side1 ?side2 ?side3 ?side4 A7.out).mono ?_); (case side1 => exact Kd.C_nil _ _); (case side2 => exact Nat.le_refl _); (case side3 => exact Kd.C_nil _ _); (case side4 => exact Nat.le_refl _); rintro e w65 ⟨v144, rfl, ho0, hb⟩; refine ⟨_, rfl, ?_⟩; have n0_ := Aside0.mk (Kd.R_below (by (with_reducible repeat (first | apply Kd.R_alloc | apply Kd.R_drewN | apply Kd.R_drew)); exact HO128.out) hb); have n1_ := Aside0.mk (Kd.R_below (by (with_reducible repeat (first | apply Kd.R_alloc | apply Kd.R_drewN | apply Kd.R_drew)); exact HO131.out) hb); have n2_ := Aside0.mk (Kd.R_elder' (by (with_reducible repeat (first | apply Kd.R_alloc | apply Kd.R_drewN | apply Kd.R_drew)); exact HO134.out) (Kd.R_base ho0) hb); have n3_ := Aside0.mk (Kd.R_below (by (with_reducible repeat (first | apply Kd.R_alloc | apply Kd.R_drewN | apply Kd.R_drew)); exact HO138.out) hb); have n4_ := Aside0.mk (Kd.R_elder' (by (with_reducible repeat (first | apply Kd.R_alloc | apply Kd.R_drewN | apply Kd.R_drew)); exact HO141.out) (Kd.R_base ho0) hb); have n5_ := Aside0.mk (Kd.R_lower (Kd.R_newB (Kd.R_newB (Kd.R_newB (Kd.R_newB (Kd.R_new' (Kd.R_new' ho0 (Kd.R_lt (by (with_reducible repeat (first | apply Kd.R_alloc | apply Kd.R_drewN | apply Kd.R_drew)); exact HO134.out))) (Kd.R_lt (by (with_reducible repeat (first | apply Kd.R_alloc | apply Kd.R_drewN | apply Kd.R_drew)); exact HO141.out))) (g := gb113) (o := .cells #[.int .i64 500, .int .i64 600] 27 (0, 0)) (zk BK113.out)) (g := gb117) (o := .cells #[.int .i64 t114, .int .i64 t115] 27 (0, 0)) (zk BK117.out)) (g := gb121) (o := .cells #[.int .i64 t118, .int .i64 t119] 27 (0, 0)) (zk BK121.out)) (g := gb125) (o := .cells #[.int .i64 t122, .int .i64 t123] 27 (0, 0)) (zk BK125.out)) (below_size (by repeat (first | (with_reducible first | exact HB.out | apply below_alloc | apply pw_below_drewN | apply below_drew1 | refine below_set ?_ GE111.out | refine below_set ?_ GE112.out | refine below_set ?_ GE113.out | refine below_set ?_ GE117.out | refine below_set ?_ GE121.out | refine below_set ?_ GE125.out) | exact HB.out)))); have n6_ := Aside0.mk (zb BK111.out hb); have n7_ := Aside0.mk (zb BK112.out hb); have n8_ := Aside0.mk (zb BK113.out hb); have n9_ := Aside0.mk (zb BK117.out hb); have n10_ := Aside0.mk (zb BK121.out hb); have n11_ := Aside0.mk (zb BK125.out hb); have n12_ := Aside0.mk (below_step (by repeat (first | (with_reducible first | exact HB.out | apply below_alloc | apply pw_below_drewN | apply below_drew1 | refine below_set ?_ GE111.out | refine below_set ?_ GE112.out | refine below_set ?_ GE113.out | refine below_set ?_ GE117.out | refine below_set ?_ GE121.out | refine below_set ?_ GE125.out) | exact HB.out)) hb); clear HO128; clear HO131; clear HO134; clear HO138; clear HO141; clear BK111; clear BK112; clear BK113; clear BK117; clear BK121; clear BK125; clear HB; have HO128 := n0_; have HO131 := n1_; have HO134 := n2_; have HO138 := n3_; have HO141 := n4_; have HO145 := n5_; have BK111 := n6_; have BK112 := n7_; have BK113 := n8_; have BK117 := n9_; have BK121 := n10_; have BK125 := n11_; have HB := n12_; clear n0_ n1_ n2_ n3_ n4_ n5_ n6_ n7_ n8_ n9_ n10_ n11_ n12_; (try clear hb); (try clear hb2); (try clear hk); (try clear hi); (try clear ho0)))
 (try simp only [Act.put, List.setIfInBounds_toArray, List.set_cons_zero, List.set_cons_succ])
 go_cut [92] (fun v92 wc => ∃ (kq : Nat) (x92_7 : Bool), v92 = .bool x92_7 ∧ Aside0 (fastilaw28_sane.j0 kq t132 x92_7 t104 t105 t106 t107 t108 t109 t110 t114 t115 t118 t119 = some r) ∧ Aside0 (kq ≤ k) ∧ Aside0 (Kd.R k27 27 wc w.heap.size (fun k_ => k_ ≠ gb113 ∧ k_ ≠ gb117 ∧ k_ ≠ gb121 ∧ k_ ≠ gb125) v133 t132) ∧ Aside0 (wc.heap[gb111]? = some (.cells #[.string t104, .string t105, .int .i64 t106, .int .i64 t107, .int .i64 t108, .int .i64 t109, .int .i64 t110] 25 (0, 0))) ∧ Aside0 (wc.heap[gb112]? = some (.cells #[.int .i64 0, .int .i64 40, .int .i64 0, .int .i64 5] 44 (0, 0))) ∧ Aside0 (wc.heap[gb113]? = some (.cells #[.int .i64 500, .int .i64 600] 27 (0, 0))) ∧ Aside0 (wc.heap[gb117]? = some (.cells #[.int .i64 t114, .int .i64 t115] 27 (0, 0))) ∧ Aside0 (wc.heap[gb121]? = some (.cells #[.int .i64 t118, .int .i64 t119] 27 (0, 0))) ∧ Aside0 (wc.heap[gb125]? = some (.cells #[.int .i64 t122, .int .i64 t123] 27 (0, 0))) ∧ Aside0 (Below w.heap.size w wc))
 case first =>
  have H := HC8.out
  clear HC8
  by_cases c66 : t116 = 0
  ·rw [if_pos c66] at H
   have c66b0 : (t116 == 0) = true := beq_iff_eq.mpr c66
   have c66b1 : (t116 != 0) = false := bne_eq_false_iff_eq.mpr c66
   clear c66
   (first | rw [c66b0] | (simp only [i64_w, i32_w]; rw [c66b0]) | skip)
   by_cases c67 : t120 = 0
   ·rw [if_pos c67] at H
    have c67b0 : (t120 == 0) = true := beq_iff_eq.mpr c67
    have c67b1 : (t120 != 0) = false := bne_eq_false_iff_eq.mpr c67
    clear c67
    by_cases c68 : t124 = 280
    ·rw [if_pos c68] at H
     have c68b0 : (t124 == 280) = true := beq_iff_eq.mpr c68
     have c68b1 : (t124 != 280) = false := bne_eq_false_iff_eq.mpr c68
     clear c68
     by_cases c69 : t135 = 0
     ·rw [if_pos c69] at H
      have c69b0 : (t135 == 0) = true := beq_iff_eq.mpr c69
      have c69b1 : (t135 != 0) = false := bne_eq_false_iff_eq.mpr c69
      clear c69
      by_cases c70 : t142 = 280
      ·rw [if_pos c70] at H
       have c70b0 : (t142 == 280) = true := beq_iff_eq.mpr c70
       have c70b1 : (t142 != 280) = false := bne_eq_false_iff_eq.mpr c70
       clear c70
       by_cases c71 : t146 = 0
       ·rw [if_pos c71] at H
        have c71b0 : (t146 == 0) = true := beq_iff_eq.mpr c71
        have c71b1 : (t146 != 0) = false := bne_eq_false_iff_eq.mpr c71
        clear c71
        have H' := Aside0.mk H
        clear H
        obtain ⟨Ao72, co72, eo72⟩ := Kd.R_slice HO145.out
        subst eo72
        go_wp2
        go_meet
        case rel => exact ⟨_, (((t143.length : Int) != 0)), (by first | rfl | (simp; done) | (simp [*]; done)), H', ⟨by first | omega | exact Nat.le_refl _⟩, ⟨by (with_reducible repeat (first | apply Kd.R_alloc | apply Kd.R_drewN | apply Kd.R_drew)); exact Kd.R_mono HO134.out (fun _ hk => ⟨hk.1.1.1.1.1.2, ⟨hk.1.1.1.1.2, ⟨hk.1.1.1.2, hk.1.1.2⟩⟩⟩)⟩, ⟨zk BK111.out⟩, ⟨zk BK112.out⟩, ⟨zk BK113.out⟩, ⟨zk BK117.out⟩, ⟨zk BK121.out⟩, ⟨zk BK125.out⟩, ⟨by repeat (first | (with_reducible first | exact HB.out | apply below_alloc | apply pw_below_drewN | apply below_drew1 | refine below_set ?_ GE111.out | refine below_set ?_ GE112.out | refine below_set ?_ GE113.out | refine below_set ?_ GE117.out | refine below_set ?_ GE121.out | refine below_set ?_ GE125.out) | exact HB.out)⟩⟩
       ·rw [if_neg c71] at H
        have c71b0 : (t146 == 0) = false := beq_eq_false_iff_ne.mpr c71
        have c71b1 : (t146 != 0) = true := bne_iff_ne.mpr c71
        have H' := Aside0.mk H
        clear H
        go_wp2
        go_meet
        case rel => exact ⟨_, (true), (by first | rfl | (simp; done) | (simp [*]; done)), H', ⟨by first | omega | exact Nat.le_refl _⟩, ⟨by (with_reducible repeat (first | apply Kd.R_alloc | apply Kd.R_drewN | apply Kd.R_drew)); exact Kd.R_mono HO134.out (fun _ hk => ⟨hk.1.1.1.1.1.2, ⟨hk.1.1.1.1.2, ⟨hk.1.1.1.2, hk.1.1.2⟩⟩⟩)⟩, ⟨zk BK111.out⟩, ⟨zk BK112.out⟩, ⟨zk BK113.out⟩, ⟨zk BK117.out⟩, ⟨zk BK121.out⟩, ⟨zk BK125.out⟩, ⟨by repeat (first | (with_reducible first | exact HB.out | apply below_alloc | apply pw_below_drewN | apply below_drew1 | refine below_set ?_ GE111.out | refine below_set ?_ GE112.out | refine below_set ?_ GE113.out | refine below_set ?_ GE117.out | refine below_set ?_ GE121.out | refine below_set ?_ GE125.out) | exact HB.out)⟩⟩
      ·rw [if_neg c70] at H
       have c70b0 : (t142 == 280) = false := beq_eq_false_iff_ne.mpr c70
       have c70b1 : (t142 != 280) = true := bne_iff_ne.mpr c70
       have H' := Aside0.mk H
       clear H
       go_wp2
       go_meet
       case rel => exact ⟨_, (true), (by first | rfl | (simp; done) | (simp [*]; done)), H', ⟨by first | omega | exact Nat.le_refl _⟩, ⟨by (with_reducible repeat (first | apply Kd.R_alloc | apply Kd.R_drewN | apply Kd.R_drew)); exact Kd.R_mono HO134.out (fun _ hk => ⟨hk.1.1.1.1.1.2, ⟨hk.1.1.1.1.2, ⟨hk.1.1.1.2, hk.1.1.2⟩⟩⟩)⟩, ⟨zk BK111.out⟩, ⟨zk BK112.out⟩, ⟨zk BK113.out⟩, ⟨zk BK117.out⟩, ⟨zk BK121.out⟩, ⟨zk BK125.out⟩, ⟨by repeat (first | (with_reducible first | exact HB.out | apply below_alloc | apply pw_below_drewN | apply below_drew1 | refine below_set ?_ GE111.out | refine below_set ?_ GE112.out | refine below_set ?_ GE113.out | refine below_set ?_ GE117.out | refine below_set ?_ GE121.out | refine below_set ?_ GE125.out) | exact HB.out)⟩⟩
     ·rw [if_neg c69] at H
      have c69b0 : (t135 == 0) = false := beq_eq_false_iff_ne.mpr c69
      have c69b1 : (t135 != 0) = true := bne_iff_ne.mpr c69
      have H' := Aside0.mk H
      clear H
      go_wp2
      go_meet
      case rel => exact ⟨_, (true), (by first | rfl | (simp; done) | (simp [*]; done)), H', ⟨by first | omega | exact Nat.le_refl _⟩, ⟨by (with_reducible repeat (first | apply Kd.R_alloc | apply Kd.R_drewN | apply Kd.R_drew)); exact Kd.R_mono HO134.out (fun _ hk => ⟨hk.1.1.1.1.1.2, ⟨hk.1.1.1.1.2, ⟨hk.1.1.1.2, hk.1.1.2⟩⟩⟩)⟩, ⟨zk BK111.out⟩, ⟨zk BK112.out⟩, ⟨zk BK113.out⟩, ⟨zk BK117.out⟩, ⟨zk BK121.out⟩, ⟨zk BK125.out⟩, ⟨by repeat (first | (with_reducible first | exact HB.out | apply below_alloc | apply pw_below_drewN | apply below_drew1 | refine below_set ?_ GE111.out | refine below_set ?_ GE112.out | refine below_set ?_ GE113.out | refine below_set ?_ GE117.out | refine below_set ?_ GE121.out | refine below_set ?_ GE125.out) | exact HB.out)⟩⟩
    ·rw [if_neg c68] at H
     have c68b0 : (t124 == 280) = false := beq_eq_false_iff_ne.mpr c68
     have c68b1 : (t124 != 280) = true := bne_iff_ne.mpr c68
     have H' := Aside0.mk H
     clear H
     go_wp2
     go_meet
     case rel => exact ⟨_, (true), (by first | rfl | (simp; done) | (simp [*]; done)), H', ⟨by first | omega | exact Nat.le_refl _⟩, ⟨by (with_reducible repeat (first | apply Kd.R_alloc | apply Kd.R_drewN | apply Kd.R_drew)); exact Kd.R_mono HO134.out (fun _ hk => ⟨hk.1.1.1.1.1.2, ⟨hk.1.1.1.1.2, ⟨hk.1.1.1.2, hk.1.1.2⟩⟩⟩)⟩, ⟨zk BK111.out⟩, ⟨zk BK112.out⟩, ⟨zk BK113.out⟩, ⟨zk BK117.out⟩, ⟨zk BK121.out⟩, ⟨zk BK125.out⟩, ⟨by repeat (first | (with_reducible first | exact HB.out | apply below_alloc | apply pw_below_drewN | apply below_drew1 | refine below_set ?_ GE111.out | refine below_set ?_ GE112.out | refine below_set ?_ GE113.out | refine below_set ?_ GE117.out | refine below_set ?_ GE121.out | refine below_set ?_ GE125.out) | exact HB.out)⟩⟩
   ·rw [if_neg c67] at H
    have c67b0 : (t120 == 0) = false := beq_eq_false_iff_ne.mpr c67
    have c67b1 : (t120 != 0) = true := bne_iff_ne.mpr c67
    have H' := Aside0.mk H
    clear H
    go_wp2
    go_meet
    case rel => exact ⟨_, (true), (by first | rfl | (simp; done) | (simp [*]; done)), H', ⟨by first | omega | exact Nat.le_refl _⟩, ⟨by (with_reducible repeat (first | apply Kd.R_alloc | apply Kd.R_drewN | apply Kd.R_drew)); exact Kd.R_mono HO134.out (fun _ hk => ⟨hk.1.1.1.1.1.2, ⟨hk.1.1.1.1.2, ⟨hk.1.1.1.2, hk.1.1.2⟩⟩⟩)⟩, ⟨zk BK111.out⟩, ⟨zk BK112.out⟩, ⟨zk BK113.out⟩, ⟨zk BK117.out⟩, ⟨zk BK121.out⟩, ⟨zk BK125.out⟩, ⟨by repeat (first | (with_reducible first | exact HB.out | apply below_alloc | apply pw_below_drewN | apply below_drew1 | refine below_set ?_ GE111.out | refine below_set ?_ GE112.out | refine below_set ?_ GE113.out | refine below_set ?_ GE117.out | refine below_set ?_ GE121.out | refine below_set ?_ GE125.out) | exact HB.out)⟩⟩
  ·rw [if_neg c66] at H
   have c66b0 : (t116 == 0) = false := beq_eq_false_iff_ne.mpr c66
   have c66b1 : (t116 != 0) = true := bne_iff_ne.mpr c66
   (first | rw [c66b0] | (simp only [i64_w, i32_w]; rw [c66b0]) | skip)
   have H' := Aside0.mk H
   clear H
   go_wp2
   go_meet
   case rel => exact ⟨_, (true), (by first | rfl | (simp; done) | (simp [*]; done)), H', ⟨by first | omega | exact Nat.le_refl _⟩, ⟨by (with_reducible repeat (first | apply Kd.R_alloc | apply Kd.R_drewN | apply Kd.R_drew)); exact Kd.R_mono HO134.out (fun _ hk => ⟨hk.1.1.1.1.1.2, ⟨hk.1.1.1.1.2, ⟨hk.1.1.1.2, hk.1.1.2⟩⟩⟩)⟩, ⟨zk BK111.out⟩, ⟨zk BK112.out⟩, ⟨zk BK113.out⟩, ⟨zk BK117.out⟩, ⟨zk BK121.out⟩, ⟨zk BK125.out⟩, ⟨by repeat (first | (with_reducible first | exact HB.out | apply below_alloc | apply pw_below_drewN | apply below_drew1 | refine below_set ?_ GE111.out | refine below_set ?_ GE112.out | refine below_set ?_ GE113.out | refine below_set ?_ GE117.out | refine below_set ?_ GE121.out | refine below_set ?_ GE125.out) | exact HB.out)⟩⟩
 case rest =>
  clear HC8
  try clear c1
  try clear c2
  try clear p2
  try clear c3
  try clear c4
  try clear c6
  try clear c7
  try clear c13
  try clear c16
  try clear c17
  try clear c22
  try clear c23
  try clear c24
  try clear c25
  try clear c27
  try clear c30
  try clear c31
  try clear c32
  try clear c33
  try clear c40
  try clear c41
  try clear c42
  try clear c43
  try clear c44
  try clear c45
  try clear c66
  try clear c66b0
  try clear c66b1
  try clear c67
  try clear c67b0
  try clear c67b1
  try clear c68
  try clear c68b0
  try clear c68b1
  try clear c69
  try clear c69b0
  try clear c69b1
  try clear c70
  try clear c70b0
  try clear c70b1
  try clear c71
  try clear c71b0
  try clear c71b1
  try clear hcz11_0
  try clear hcz11_1
  try clear hcz11_2
  try clear hcz11_3
  try clear hcz11_4
  try clear hcz11_5
  try clear hcz11_6
  try clear hcz14_0
  try clear hcz14_1
  try clear hcz14_2
  try clear hcz14_3
  try clear hcz18_0
  try clear hcz18_1
  try clear hcz19_0
  try clear hcz19_1
  try clear hcz19_2
  try clear hcz19_3
  try clear hcz19_4
  try clear hcz19_5
  try clear hcz19_6
  try clear hcz20_0
  try clear hcz20_1
  try clear hcz20_2
  try clear hcz20_3
  try clear hcz26_0
  try clear hcz26_1
  try clear hcz27_0
  try clear hcz27_1
  try clear hcz27_2
  try clear hcz27_3
  try clear hcz27_4
  try clear hcz27_5
  try clear hcz27_6
  try clear hcz34_0
  try clear hcz34_1
  try clear hcz35_0
  try clear hcz35_1
  try clear hcz35_2
  try clear hcz35_3
  try clear hcz35_4
  try clear hcz35_5
  try clear hcz35_6
  try clear hcz36_0
  try clear hcz36_1
  try clear hcz37_0
  try clear hcz37_1
  try clear hcz37_2
  try clear hcz37_3
  try clear hcz45_0
  try clear hcz45_1
  try clear hcz46_0
  try clear hcz46_1
  try clear hcz46_2
  try clear hcz46_3
  try clear hcz46_4
  try clear hcz46_5
  try clear hcz46_6
  try clear hcz47_0
  try clear hcz47_1
  try clear hcz48_0
  try clear hcz48_1
  try clear hcz48_2
  try clear hcz48_3
  try clear hcz56_0
  try clear hcz56_1
  try clear hcz56_2
  try clear hcz56_3
  try clear hcz56_4
  try clear hcz56_5
  try clear hcz56_6
  try clear hcz57_0
  try clear hcz57_1
  try clear hcz58_0
  try clear hcz58_1
  try clear hcz58_2
  try clear hcz58_3
  try clear hcz63_0
  try clear hcz63_1
  try clear hcz63_2
  try clear hcz63_3
  try clear hcz63_4
  try clear hcz63_5
  try clear hcz63_6
  try clear hcz64_0
  try clear hcz64_1
  try clear hfz11_0
  try clear hfz11_1
  try clear hfz11_2
  try clear hfz11_3
  try clear hfz11_4
  try clear hfz11_5
  try clear hfz11_6
  try clear hfz14_0
  try clear hfz14_1
  try clear hfz14_2
  try clear hfz14_3
  try clear hfz18_0
  try clear hfz18_1
  try clear hfz19_0
  try clear hfz19_1
  try clear hfz19_2
  try clear hfz19_3
  try clear hfz19_4
  try clear hfz19_5
  try clear hfz19_6
  try clear hfz20_0
  try clear hfz20_1
  try clear hfz20_2
  try clear hfz20_3
  try clear hfz26_0
  try clear hfz26_1
  try clear hfz27_0
  try clear hfz27_1
  try clear hfz27_2
  try clear hfz27_3
  try clear hfz27_4
  try clear hfz27_5
  try clear hfz27_6
  try clear hfz34_0
  try clear hfz34_1
  try clear hfz35_0
  try clear hfz35_1
  try clear hfz35_2
  try clear hfz35_3
  try clear hfz35_4
  try clear hfz35_5
  try clear hfz35_6
  try clear hfz36_0
  try clear hfz36_1
  try clear hfz37_0
  try clear hfz37_1
  try clear hfz37_2
  try clear hfz37_3
  try clear hfz45_0
  try clear hfz45_1
  try clear hfz46_0
  try clear hfz46_1
  try clear hfz46_2
  try clear hfz46_3
  try clear hfz46_4
  try clear hfz46_5
  try clear hfz46_6
  try clear hfz47_0
  try clear hfz47_1
  try clear hfz48_0
  try clear hfz48_1
  try clear hfz48_2
  try clear hfz48_3
  try clear hfz56_0
  try clear hfz56_1
  try clear hfz56_2
  try clear hfz56_3
  try clear hfz56_4
  try clear hfz56_5
  try clear hfz56_6
  try clear hfz57_0
  try clear hfz57_1
  try clear hfz58_0
  try clear hfz58_1
  try clear hfz58_2
  try clear hfz58_3
  try clear hfz63_0
  try clear hfz63_1
  try clear hfz63_2
  try clear hfz63_3
  try clear hfz63_4
  try clear hfz63_5
  try clear hfz63_6
  try clear hfz64_0
  try clear hfz64_1
  obtain ⟨kq, x92_7, rfl, HA, HJ7, HO_10, BK111, BK112, BK113, BK117, BK121, BK125, HB⟩ := hcut
  cases kq with
  | zero => exact absurd HA.out (by simp [fastilaw28_sane.j0])
  | succ kj7 =>
   have H := HA.out
   clear HA
   simp only [fastilaw28_sane.j0] at H
   by_cases c73 : x92_7 = true
   ·subst c73
    have H1 : (some false) = some r := by rw [if_pos rfl] at H; exact H
    clear H
    have H := H1
    clear H1
    obtain rfl := Option.some.inj H
    go_wp2
    go_ret
    exact ⟨by first | rfl | (simp [errW_none, errW_some] <;> rfl) | (simp [*, errW_none, errW_some] <;> rfl), by repeat (first | (with_reducible first | exact HB.out | apply below_alloc | apply pw_below_drewN | apply below_drew1 | refine below_set ?_ GE111.out | refine below_set ?_ GE112.out | refine below_set ?_ GE113.out | refine below_set ?_ GE117.out | refine below_set ?_ GE121.out | refine below_set ?_ GE125.out) | exact HB.out)⟩
   ·replace c73 := Bool.eq_false_iff.mpr c73
    subst c73
    have H1 : ((turf_Check.f t104 t105 t106 t107 t108 t109 t110).bind fun t147 => (if t147 = 0 then ((turf_Check.f (⟨#[]⟩ : ByteArray) (⟨#[]⟩ : ByteArray) 0 0 0 0 0).bind fun t148 => (if t148 = 280 then (if (t114 == 80 && (t115 == 220)) = true then (if (t118 == 1000 && (t119 == 1000)) = true then ((fastiref28_Same.f kj7 t132 (([(⟨80, 220⟩ : S27), (⟨100, 240⟩ : S27)] : List (S27)))).bind fun t152 => (some t152)) else (some false)) else (some false)) else (some false))) else (some false))) = some r := by rw [if_neg (show ¬ (false = true) by decide)] at H; exact H
    clear H
    have H := H1
    clear H1
    replace H := Option.bind_eq_some_iff.mp H
    obtain ⟨t147, A740, H⟩ := H
    replace H : (if t147 = 0 then ((turf_Check.f (⟨#[]⟩ : ByteArray) (⟨#[]⟩ : ByteArray) 0 0 0 0 0).bind fun t148 => (if t148 = 280 then (if (t114 == 80 && (t115 == 220)) = true then (if (t118 == 1000 && (t119 == 1000)) = true then ((fastiref28_Same.f kj7 t132 (([(⟨80, 220⟩ : S27), (⟨100, 240⟩ : S27)] : List (S27)))).bind fun t152 => (some t152)) else (some false)) else (some false)) else (some false))) else (some false)) = some r := H
    have A74 := Aside0.mk A740
    clear A740
    by_cases c75 : t147 = 0
    ·rw [if_pos c75] at H
     have c75b0 : (t147 == 0) = true := beq_iff_eq.mpr c75
     have c75b1 : (t147 != 0) = false := bne_eq_false_iff_eq.mpr c75
     clear c75
     replace H := Option.bind_eq_some_iff.mp H
     obtain ⟨t148, A760, H⟩ := H
     replace H : (if t148 = 280 then (if (t114 == 80 && (t115 == 220)) = true then (if (t118 == 1000 && (t119 == 1000)) = true then ((fastiref28_Same.f kj7 t132 (([(⟨80, 220⟩ : S27), (⟨100, 240⟩ : S27)] : List (S27)))).bind fun t152 => (some t152)) else (some false)) else (some false)) else (some false)) = some r := H
     have A76 := Aside0.mk A760
     clear A760
     by_cases c77 : t148 = 280
     ·rw [if_pos c77] at H
      have c77b0 : (t148 == 280) = true := beq_iff_eq.mpr c77
      have c77b1 : (t148 != 280) = false := bne_eq_false_iff_eq.mpr c77
      clear c77
      by_cases c78 : (t114 == 80 && (t115 == 220)) = true
      ·rw [if_pos c78] at H
       have c78b0 : (t114 == 80 && (t115 == 220)) = true := c78
       (try (have c78b1 : decide (t114 = 80 && (t115 == 220)) = true := by simpa using c78))
       (try (have c78b2 : (t114 == 80 && (t115 == 220)) = true := by simpa using c78))
       clear c78
       by_cases c79 : (t118 == 1000 && (t119 == 1000)) = true
       ·rw [if_pos c79] at H
        have c79b0 : (t118 == 1000 && (t119 == 1000)) = true := c79
        (try (have c79b1 : decide (t118 = 1000 && (t119 == 1000)) = true := by simpa using c79))
        (try (have c79b2 : (t118 == 1000 && (t119 == 1000)) = true := by simpa using c79))
        clear c79
        obtain ⟨y149, hy149⟩ : ∃ y_ : List (S27), y_ = (([(⟨80, 220⟩ : S27), (⟨100, 240⟩ : S27)] : List (S27))) := ⟨_, rfl⟩
        replace H : ((fastiref28_Same.f kj7 t132 y149).bind fun t152 => (some t152)) = some r := by first | (rw [hy149]; with_reducible exact H) | (have H2_ := (Option.bind_some _ _).symm.trans H; rw [hy149]; with_reducible exact H2_) | (have H2_ := (Option.bind_some _ _).symm.trans H; with_reducible exact H2_) | with_reducible exact H | (rw [hy149]; exact H) | exact H
        have Ny149 := Aside0.mk hy149
        clear hy149
        replace H := Option.bind_eq_some_iff.mp H
        obtain ⟨t152, A800, H⟩ := H
        replace H : (some t152) = some r := H
        have A80 := Aside0.mk A800
        clear A800
        obtain rfl := Option.some.inj H
        have hnb81 := NB111_112.out
        have hnc81 := NB112_111.out
        have hnb82 := NB111_113.out
        have hnc82 := NB113_111.out
        have hnb83 := NB111_117.out
        have hnc83 := NB117_111.out
        have hnb84 := NB111_121.out
        have hnc84 := NB121_111.out
        have hnb85 := NB111_125.out
        have hnc85 := NB125_111.out
        have hcz86_0 : wc.cell? ⟨gb111, 0, none⟩ = some (.string t104) := (blk_cell BK111.out 0).trans rfl
        have hcz86_1 : wc.cell? ⟨gb111, 1, none⟩ = some (.string t105) := (blk_cell BK111.out 1).trans rfl
        have hcz86_2 : wc.cell? ⟨gb111, 2, none⟩ = some (.int .i64 t106) := (blk_cell BK111.out 2).trans rfl
        have hcz86_3 : wc.cell? ⟨gb111, 3, none⟩ = some (.int .i64 t107) := (blk_cell BK111.out 3).trans rfl
        have hcz86_4 : wc.cell? ⟨gb111, 4, none⟩ = some (.int .i64 t108) := (blk_cell BK111.out 4).trans rfl
        have hcz86_5 : wc.cell? ⟨gb111, 5, none⟩ = some (.int .i64 t109) := (blk_cell BK111.out 5).trans rfl
        have hcz86_6 : wc.cell? ⟨gb111, 6, none⟩ = some (.int .i64 t110) := (blk_cell BK111.out 6).trans rfl
        have hfz86_0 := blk_frozen BK111.out 0
        have hfz86_1 := blk_frozen BK111.out 1
        have hfz86_2 := blk_frozen BK111.out 2
        have hfz86_3 := blk_frozen BK111.out 3
        have hfz86_4 := blk_frozen BK111.out 4
        have hfz86_5 := blk_frozen BK111.out 5
        have hfz86_6 := blk_frozen BK111.out 6
        go_wp2_with (first | ((with_reducible refine gate_callee (f := 25) rfl ?_); refine goesL_ (some 94) rfl rfl Try.func25 (by kernel_rfl) rfl #[.agg #[.string t104, .string t105, .int .i64 t106, .int .i64 t107, .int .i64 t108, .int .i64 t109, .int .i64 t110]] rfl (by (try simp only [List.map_toArray, List.map_cons, List.map_nil]); first | done | rfl | (simp only [List.length_drop, List.length_take]; rfl)) ?_; (with_reducible refine (turf_Check.calls t104 t105 t106 t107 t108 t109 t110 t147 _ A74.out).mono ?_); rintro e w87 ⟨rfl, hb⟩; refine ⟨_, rfl, ?_⟩; have n0_ := Aside0.mk (Kd.R_below (by (with_reducible repeat (first | apply Kd.R_alloc | apply Kd.R_drewN | apply Kd.R_drew)); exact HO_10.out) hb); have n1_ := Aside0.mk (zb BK111.out hb); have n2_ := Aside0.mk (zb BK112.out hb); have n3_ := Aside0.mk (zb BK113.out hb); have n4_ := Aside0.mk (zb BK117.out hb); have n5_ := Aside0.mk (zb BK121.out hb); have n6_ := Aside0.mk (zb BK125.out hb); have n7_ := Aside0.mk (below_step (by repeat (first | (with_reducible first | exact HB.out | apply below_alloc | apply pw_below_drewN | apply below_drew1 | refine below_set ?_ GE111.out | refine below_set ?_ GE112.out | refine below_set ?_ GE113.out | refine below_set ?_ GE117.out | refine below_set ?_ GE121.out | refine below_set ?_ GE125.out) | exact HB.out)) hb); clear HO_10; clear BK111; clear BK112; clear BK113; clear BK117; clear BK121; clear BK125; clear HB; have HO_10 := n0_; have BK111 := n1_; have BK112 := n2_; have BK113 := n3_; have BK117 := n4_; have BK121 := n5_; have BK125 := n6_; have HB := n7_; clear n0_ n1_ n2_ n3_ n4_ n5_ n6_ n7_; (try clear hb); (try clear hb2); (try clear hk); (try clear hi)) | (go_at_call 25; (with_reducible refine (turf_Check.calls (⟨#[]⟩ : ByteArray) (⟨#[]⟩ : ByteArray) 0 0 0 0 0 t148 _ A76.out).mono ?_); rintro e w88 ⟨rfl, hb⟩; have n0_ := Aside0.mk (Kd.R_below (by (with_reducible repeat (first | apply Kd.R_alloc | apply Kd.R_drewN | apply Kd.R_drew)); exact HO_10.out) hb); have n1_ := Aside0.mk (zb BK111.out hb); have n2_ := Aside0.mk (zb BK112.out hb); have n3_ := Aside0.mk (zb BK113.out hb); have n4_ := Aside0.mk (zb BK117.out hb); have n5_ := Aside0.mk (zb BK121.out hb); have n6_ := Aside0.mk (zb BK125.out hb); have n7_ := Aside0.mk (below_step (by repeat (first | (with_reducible first | exact HB.out | apply below_alloc | apply pw_below_drewN | apply below_drew1 | refine below_set ?_ GE111.out | refine below_set ?_ GE112.out | refine below_set ?_ GE113.out | refine below_set ?_ GE117.out | refine below_set ?_ GE121.out | refine below_set ?_ GE125.out) | exact HB.out)) hb); clear HO_10; clear BK111; clear BK112; clear BK113; clear BK117; clear BK121; clear BK125; clear HB; have HO_10 := n0_; have BK111 := n1_; have BK112 := n2_; have BK113 := n3_; have BK117 := n4_; have BK121 := n5_; have BK125 := n6_; have HB := n7_; clear n0_ n1_ n2_ n3_ n4_ n5_ n6_ n7_; (try clear hb); (try clear hb2); (try clear hk); (try clear hi); have hnb89 := NB117_112.out; have hnc89 := NB112_117.out; have hnb90 := NB117_113.out; have hnc90 := NB113_117.out; have hnb91 := NB117_121.out; have hnc91 := NB121_117.out; have hnb92 := NB117_125.out; have hnc92 := NB125_117.out; have hcz93_0 : w88.cell? ⟨gb117, 0, none⟩ = some (.int .i64 t114) := (blk_cell BK117.out 0).trans rfl; have hcz93_1 : w88.cell? ⟨gb117, 1, none⟩ = some (.int .i64 t115) := (blk_cell BK117.out 1).trans rfl; have hfz93_0 := blk_frozen BK117.out 0; have hfz93_1 := blk_frozen BK117.out 1; have hnb94 := NB121_112.out; have hnc94 := NB112_121.out; have hnb95 := NB121_113.out; have hnc95 := NB113_121.out; have hnb96 := NB121_125.out; have hnc96 := NB125_121.out; have hcz97_0 : w88.cell? ⟨gb121, 0, none⟩ = some (.int .i64 t118) := (blk_cell BK121.out 0).trans rfl; have hcz97_1 : w88.cell? ⟨gb121, 1, none⟩ = some (.int .i64 t119) := (blk_cell BK121.out 1).trans rfl; have hfz97_0 := blk_frozen BK121.out 0; have hfz97_1 := blk_frozen BK121.out 1) | ((with_reducible refine gate_dst (N := 115) rfl ?_); (try (refine gate_guard (by rfl) ?_; dsimp only)); refine Kd.R_lit k27 _ 27 ?hg (N := 115) ?hd (xs := ([(⟨80, 220⟩ : S27), (⟨100, 240⟩ : S27)] : List (S27))) (inner := [.int .i64 80, .int .i64 220, .int .i64 100, .int .i64 240]) (ok := fun _ => True) (okp := fun _ => True) ?hr ?hp (fun _ hk => hk) trivial (Below.refl _ _) (Nat.le_refl _) (by simp) ?_; (case hd => rfl); (case hg => rfl); (case hr => first | (go_simp; done) | (go_simp; rfl)); (case hp => exact (Reps.c2 (show Kd.M k27 _ _ _ (⟨80, 220⟩ : S27) [.int .i64 80, .int .i64 220] from (k27_mkM _ _ _ (⟨80, 220⟩ : S27) )) (Reps.c2 (show Kd.M k27 _ _ _ (⟨100, 240⟩ : S27) [.int .i64 100, .int .i64 240] from (k27_mkM _ _ _ (⟨100, 240⟩ : S27) )) (Reps.none _ _)))); intro v150 w98 ho99 hb hg_ hnew_; clear hg_ hnew_; (first | rw [← Ny149.out] at ho99 | (simp only [Int.reduceToNat] at ho99; rw [← Ny149.out] at ho99)); have n0_ := Aside0.mk (Kd.R_elder' (by (with_reducible repeat (first | apply Kd.R_alloc | apply Kd.R_drewN | apply Kd.R_drew)); exact HO_10.out) (Kd.R_base ho99) hb); have n1_ := Aside0.mk (Kd.R_lower (Kd.R_newB (Kd.R_newB (Kd.R_newB (Kd.R_newB (Kd.R_new' ho99 (Kd.R_lt (by (with_reducible repeat (first | apply Kd.R_alloc | apply Kd.R_drewN | apply Kd.R_drew)); exact HO_10.out))) (g := gb113) (o := .cells #[.int .i64 500, .int .i64 600] 27 (0, 0)) (zk BK113.out)) (g := gb117) (o := .cells #[.int .i64 t114, .int .i64 t115] 27 (0, 0)) (zk BK117.out)) (g := gb121) (o := .cells #[.int .i64 t118, .int .i64 t119] 27 (0, 0)) (zk BK121.out)) (g := gb125) (o := .cells #[.int .i64 t122, .int .i64 t123] 27 (0, 0)) (zk BK125.out)) (below_size (by repeat (first | (with_reducible first | exact HB.out | apply below_alloc | apply pw_below_drewN | apply below_drew1 | refine below_set ?_ GE111.out | refine below_set ?_ GE112.out | refine below_set ?_ GE113.out | refine below_set ?_ GE117.out | refine below_set ?_ GE121.out | refine below_set ?_ GE125.out) | exact HB.out)))); have n2_ := Aside0.mk (zb BK111.out hb); have n3_ := Aside0.mk (zb BK112.out hb); have n4_ := Aside0.mk (zb BK113.out hb); have n5_ := Aside0.mk (zb BK117.out hb); have n6_ := Aside0.mk (zb BK121.out hb); have n7_ := Aside0.mk (zb BK125.out hb); have n8_ := Aside0.mk (below_step (by repeat (first | (with_reducible first | exact HB.out | apply below_alloc | apply pw_below_drewN | apply below_drew1 | refine below_set ?_ GE111.out | refine below_set ?_ GE112.out | refine below_set ?_ GE113.out | refine below_set ?_ GE117.out | refine below_set ?_ GE121.out | refine below_set ?_ GE125.out) | exact HB.out)) hb); clear HO_10; clear BK111; clear BK112; clear BK113; clear BK117; clear BK121; clear BK125; clear HB; have HO_10 := n0_; have HO151 := n1_; have BK111 := n2_; have BK112 := n3_; have BK113 := n4_; have BK117 := n5_; have BK121 := n6_; have BK125 := n7_; have HB := n8_; clear n0_ n1_ n2_ n3_ n4_ n5_ n6_ n7_ n8_; clear hb ho99; obtain ⟨Ao100, co100, eo100⟩ := Kd.R_slice HO_10.out; subst eo100; obtain ⟨Ao101, co101, eo101⟩ := Kd.R_slice HO151.out; subst eo101) | (go_at_call 29; (with_reducible refine (fastiref28_Same.calls kj7 _ _ t132 _ _ y149 t152 _ ?side1 ?side2 ?side3 ?side4 A80.out).mono ?_); (case side1 => repeat (first | exact (Kd.R_reads' HO_10.out).2.2 | (with_reducible refine Kd.C_alloc ?_ _) | (with_reducible refine Kd.C_drewN ?_ _) | (with_reducible refine Kd.C_drew ?_))); (case side2 => exact (Kd.R_reads' HO_10.out).2.1); (case side3 => repeat (first | exact (Kd.R_reads' HO151.out).2.2 | (with_reducible refine Kd.C_alloc ?_ _) | (with_reducible refine Kd.C_drewN ?_ _) | (with_reducible refine Kd.C_drew ?_))); (case side4 => exact (Kd.R_reads' HO151.out).2.1); rintro e w' ⟨rfl, ⟨nd, rfl⟩⟩))
        go_ret
        exact ⟨by first | rfl | (simp [errW_none, errW_some] <;> rfl) | (simp [*, errW_none, errW_some] <;> rfl), by repeat (first | (with_reducible first | exact HB.out | apply below_alloc | apply pw_below_drewN | apply below_drew1 | refine below_set ?_ GE111.out | refine below_set ?_ GE112.out | refine below_set ?_ GE113.out | refine below_set ?_ GE117.out | refine below_set ?_ GE121.out | refine below_set ?_ GE125.out) | exact HB.out)⟩
       ·rw [if_neg c79] at H
        have c79b0 : (t118 == 1000 && (t119 == 1000)) = false := by simpa using c79
        (try (have c79b1 : decide (t118 = 1000 && (t119 == 1000)) = false := by simpa using c79))
        (try (have c79b2 : (t118 == 1000 && (t119 == 1000)) = false := by simpa using c79))
        (try (have c79b3 : ¬ (t118 = 1000 && (t119 == 1000)) := by simpa using c79))
        clear c79
        obtain rfl := Option.some.inj H
        have hnb102 := NB111_112.out
        have hnc102 := NB112_111.out
        have hnb103 := NB111_113.out
        have hnc103 := NB113_111.out
        have hnb104 := NB111_117.out
        have hnc104 := NB117_111.out
        have hnb105 := NB111_121.out
        have hnc105 := NB121_111.out
        have hnb106 := NB111_125.out
        have hnc106 := NB125_111.out
        have hcz107_0 : wc.cell? ⟨gb111, 0, none⟩ = some (.string t104) := (blk_cell BK111.out 0).trans rfl
        have hcz107_1 : wc.cell? ⟨gb111, 1, none⟩ = some (.string t105) := (blk_cell BK111.out 1).trans rfl
        have hcz107_2 : wc.cell? ⟨gb111, 2, none⟩ = some (.int .i64 t106) := (blk_cell BK111.out 2).trans rfl
        have hcz107_3 : wc.cell? ⟨gb111, 3, none⟩ = some (.int .i64 t107) := (blk_cell BK111.out 3).trans rfl
        have hcz107_4 : wc.cell? ⟨gb111, 4, none⟩ = some (.int .i64 t108) := (blk_cell BK111.out 4).trans rfl
        have hcz107_5 : wc.cell? ⟨gb111, 5, none⟩ = some (.int .i64 t109) := (blk_cell BK111.out 5).trans rfl
        have hcz107_6 : wc.cell? ⟨gb111, 6, none⟩ = some (.int .i64 t110) := (blk_cell BK111.out 6).trans rfl
        have hfz107_0 := blk_frozen BK111.out 0
        have hfz107_1 := blk_frozen BK111.out 1
        have hfz107_2 := blk_frozen BK111.out 2
        have hfz107_3 := blk_frozen BK111.out 3
        have hfz107_4 := blk_frozen BK111.out 4
        have hfz107_5 := blk_frozen BK111.out 5
        have hfz107_6 := blk_frozen BK111.out 6
        go_wp2_with (first | ((with_reducible refine gate_callee (f := 25) rfl ?_); refine goesL_ (some 94) rfl rfl Try.func25 (by kernel_rfl) rfl #[.agg #[.string t104, .string t105, .int .i64 t106, .int .i64 t107, .int .i64 t108, .int .i64 t109, .int .i64 t110]] rfl (by (try simp only [List.map_toArray, List.map_cons, List.map_nil]); first | done | rfl | (simp only [List.length_drop, List.length_take]; rfl)) ?_; (with_reducible refine (turf_Check.calls t104 t105 t106 t107 t108 t109 t110 t147 _ A74.out).mono ?_); rintro e w108 ⟨rfl, hb⟩; refine ⟨_, rfl, ?_⟩; have n0_ := Aside0.mk (Kd.R_below (by (with_reducible repeat (first | apply Kd.R_alloc | apply Kd.R_drewN | apply Kd.R_drew)); exact HO_10.out) hb); have n1_ := Aside0.mk (zb BK111.out hb); have n2_ := Aside0.mk (zb BK112.out hb); have n3_ := Aside0.mk (zb BK113.out hb); have n4_ := Aside0.mk (zb BK117.out hb); have n5_ := Aside0.mk (zb BK121.out hb); have n6_ := Aside0.mk (zb BK125.out hb); have n7_ := Aside0.mk (below_step (by repeat (first | (with_reducible first | exact HB.out | apply below_alloc | apply pw_below_drewN | apply below_drew1 | refine below_set ?_ GE111.out | refine below_set ?_ GE112.out | refine below_set ?_ GE113.out | refine below_set ?_ GE117.out | refine below_set ?_ GE121.out | refine below_set ?_ GE125.out) | exact HB.out)) hb); clear HO_10; clear BK111; clear BK112; clear BK113; clear BK117; clear BK121; clear BK125; clear HB; have HO_10 := n0_; have BK111 := n1_; have BK112 := n2_; have BK113 := n3_; have BK117 := n4_; have BK121 := n5_; have BK125 := n6_; have HB := n7_; clear n0_ n1_ n2_ n3_ n4_ n5_ n6_ n7_; (try clear hb); (try clear hb2); (try clear hk); (try clear hi)) | (go_at_call 25; (with_reducible refine (turf_Check.calls (⟨#[]⟩ : ByteArray) (⟨#[]⟩ : ByteArray) 0 0 0 0 0 t148 _ A76.out).mono ?_); rintro e w109 ⟨rfl, hb⟩; have n0_ := Aside0.mk (Kd.R_below (by (with_reducible repeat (first | apply Kd.R_alloc | apply Kd.R_drewN | apply Kd.R_drew)); exact HO_10.out) hb); have n1_ := Aside0.mk (zb BK111.out hb); have n2_ := Aside0.mk (zb BK112.out hb); have n3_ := Aside0.mk (zb BK113.out hb); have n4_ := Aside0.mk (zb BK117.out hb); have n5_ := Aside0.mk (zb BK121.out hb); have n6_ := Aside0.mk (zb BK125.out hb); have n7_ := Aside0.mk (below_step (by repeat (first | (with_reducible first | exact HB.out | apply below_alloc | apply pw_below_drewN | apply below_drew1 | refine below_set ?_ GE111.out | refine below_set ?_ GE112.out | refine below_set ?_ GE113.out | refine below_set ?_ GE117.out | refine below_set ?_ GE121.out | refine below_set ?_ GE125.out) | exact HB.out)) hb); clear HO_10; clear BK111; clear BK112; clear BK113; clear BK117; clear BK121; clear BK125; clear HB; have HO_10 := n0_; have BK111 := n1_; have BK112 := n2_; have BK113 := n3_; have BK117 := n4_; have BK121 := n5_; have BK125 := n6_; have HB := n7_; clear n0_ n1_ n2_ n3_ n4_ n5_ n6_ n7_; (try clear hb); (try clear hb2); (try clear hk); (try clear hi); have hnb110 := NB117_112.out; have hnc110 := NB112_117.out; have hnb111 := NB117_113.out; have hnc111 := NB113_117.out; have hnb112 := NB117_121.out; have hnc112 := NB121_117.out; have hnb113 := NB117_125.out; have hnc113 := NB125_117.out; have hcz114_0 : w109.cell? ⟨gb117, 0, none⟩ = some (.int .i64 t114) := (blk_cell BK117.out 0).trans rfl; have hcz114_1 : w109.cell? ⟨gb117, 1, none⟩ = some (.int .i64 t115) := (blk_cell BK117.out 1).trans rfl; have hfz114_0 := blk_frozen BK117.out 0; have hfz114_1 := blk_frozen BK117.out 1; have hnb115 := NB121_112.out; have hnc115 := NB112_121.out; have hnb116 := NB121_113.out; have hnc116 := NB113_121.out; have hnb117 := NB121_125.out; have hnc117 := NB125_121.out; have hcz118_0 : w109.cell? ⟨gb121, 0, none⟩ = some (.int .i64 t118) := (blk_cell BK121.out 0).trans rfl; have hcz118_1 : w109.cell? ⟨gb121, 1, none⟩ = some (.int .i64 t119) := (blk_cell BK121.out 1).trans rfl; have hfz118_0 := blk_frozen BK121.out 0; have hfz118_1 := blk_frozen BK121.out 1))
        go_ret
        exact ⟨by first | rfl | (simp [errW_none, errW_some] <;> rfl) | (simp [*, errW_none, errW_some] <;> rfl), by repeat (first | (with_reducible first | exact HB.out | apply below_alloc | apply pw_below_drewN | apply below_drew1 | refine below_set ?_ GE111.out | refine below_set ?_ GE112.out | refine below_set ?_ GE113.out | refine below_set ?_ GE117.out | refine below_set ?_ GE121.out | refine below_set ?_ GE125.out) | exact HB.out)⟩
      ·rw [if_neg c78] at H
       have c78b0 : (t114 == 80 && (t115 == 220)) = false := by simpa using c78
       (try (have c78b1 : decide (t114 = 80 && (t115 == 220)) = false := by simpa using c78))
       (try (have c78b2 : (t114 == 80 && (t115 == 220)) = false := by simpa using c78))
       (try (have c78b3 : ¬ (t114 = 80 && (t115 == 220)) := by simpa using c78))
       clear c78
       obtain rfl := Option.some.inj H
       have hnb119 := NB111_112.out
       have hnc119 := NB112_111.out
       have hnb120 := NB111_113.out
       have hnc120 := NB113_111.out
       have hnb121 := NB111_117.out
       have hnc121 := NB117_111.out
       have hnb122 := NB111_121.out
       have hnc122 := NB121_111.out
       have hnb123 := NB111_125.out
       have hnc123 := NB125_111.out
       have hcz124_0 : wc.cell? ⟨gb111, 0, none⟩ = some (.string t104) := (blk_cell BK111.out 0).trans rfl
       have hcz124_1 : wc.cell? ⟨gb111, 1, none⟩ = some (.string t105) := (blk_cell BK111.out 1).trans rfl
       have hcz124_2 : wc.cell? ⟨gb111, 2, none⟩ = some (.int .i64 t106) := (blk_cell BK111.out 2).trans rfl
       have hcz124_3 : wc.cell? ⟨gb111, 3, none⟩ = some (.int .i64 t107) := (blk_cell BK111.out 3).trans rfl
       have hcz124_4 : wc.cell? ⟨gb111, 4, none⟩ = some (.int .i64 t108) := (blk_cell BK111.out 4).trans rfl
       have hcz124_5 : wc.cell? ⟨gb111, 5, none⟩ = some (.int .i64 t109) := (blk_cell BK111.out 5).trans rfl
       have hcz124_6 : wc.cell? ⟨gb111, 6, none⟩ = some (.int .i64 t110) := (blk_cell BK111.out 6).trans rfl
       have hfz124_0 := blk_frozen BK111.out 0
       have hfz124_1 := blk_frozen BK111.out 1
       have hfz124_2 := blk_frozen BK111.out 2
       have hfz124_3 := blk_frozen BK111.out 3
       have hfz124_4 := blk_frozen BK111.out 4
       have hfz124_5 := blk_frozen BK111.out 5
       have hfz124_6 := blk_frozen BK111.out 6
       go_wp2_with (first | ((with_reducible refine gate_callee (f := 25) rfl ?_); refine goesL_ (some 94) rfl rfl Try.func25 (by kernel_rfl) rfl #[.agg #[.string t104, .string t105, .int .i64 t106, .int .i64 t107, .int .i64 t108, .int .i64 t109, .int .i64 t110]] rfl (by (try simp only [List.map_toArray, List.map_cons, List.map_nil]); first | done | rfl | (simp only [List.length_drop, List.length_take]; rfl)) ?_; (with_reducible refine (turf_Check.calls t104 t105 t106 t107 t108 t109 t110 t147 _ A74.out).mono ?_); rintro e w125 ⟨rfl, hb⟩; refine ⟨_, rfl, ?_⟩; have n0_ := Aside0.mk (Kd.R_below (by (with_reducible repeat (first | apply Kd.R_alloc | apply Kd.R_drewN | apply Kd.R_drew)); exact HO_10.out) hb); have n1_ := Aside0.mk (zb BK111.out hb); have n2_ := Aside0.mk (zb BK112.out hb); have n3_ := Aside0.mk (zb BK113.out hb); have n4_ := Aside0.mk (zb BK117.out hb); have n5_ := Aside0.mk (zb BK121.out hb); have n6_ := Aside0.mk (zb BK125.out hb); have n7_ := Aside0.mk (below_step (by repeat (first | (with_reducible first | exact HB.out | apply below_alloc | apply pw_below_drewN | apply below_drew1 | refine below_set ?_ GE111.out | refine below_set ?_ GE112.out | refine below_set ?_ GE113.out | refine below_set ?_ GE117.out | refine below_set ?_ GE121.out | refine below_set ?_ GE125.out) | exact HB.out)) hb); clear HO_10; clear BK111; clear BK112; clear BK113; clear BK117; clear BK121; clear BK125; clear HB; have HO_10 := n0_; have BK111 := n1_; have BK112 := n2_; have BK113 := n3_; have BK117 := n4_; have BK121 := n5_; have BK125 := n6_; have HB := n7_; clear n0_ n1_ n2_ n3_ n4_ n5_ n6_ n7_; (try clear hb); (try clear hb2); (try clear hk); (try clear hi)) | (go_at_call 25; (with_reducible refine (turf_Check.calls (⟨#[]⟩ : ByteArray) (⟨#[]⟩ : ByteArray) 0 0 0 0 0 t148 _ A76.out).mono ?_); rintro e w126 ⟨rfl, hb⟩; have n0_ := Aside0.mk (Kd.R_below (by (with_reducible repeat (first | apply Kd.R_alloc | apply Kd.R_drewN | apply Kd.R_drew)); exact HO_10.out) hb); have n1_ := Aside0.mk (zb BK111.out hb); have n2_ := Aside0.mk (zb BK112.out hb); have n3_ := Aside0.mk (zb BK113.out hb); have n4_ := Aside0.mk (zb BK117.out hb); have n5_ := Aside0.mk (zb BK121.out hb); have n6_ := Aside0.mk (zb BK125.out hb); have n7_ := Aside0.mk (below_step (by repeat (first | (with_reducible first | exact HB.out | apply below_alloc | apply pw_below_drewN | apply below_drew1 | refine below_set ?_ GE111.out | refine below_set ?_ GE112.out | refine below_set ?_ GE113.out | refine below_set ?_ GE117.out | refine below_set ?_ GE121.out | refine below_set ?_ GE125.out) | exact HB.out)) hb); clear HO_10; clear BK111; clear BK112; clear BK113; clear BK117; clear BK121; clear BK125; clear HB; have HO_10 := n0_; have BK111 := n1_; have BK112 := n2_; have BK113 := n3_; have BK117 := n4_; have BK121 := n5_; have BK125 := n6_; have HB := n7_; clear n0_ n1_ n2_ n3_ n4_ n5_ n6_ n7_; (try clear hb); (try clear hb2); (try clear hk); (try clear hi); have hnb127 := NB117_112.out; have hnc127 := NB112_117.out; have hnb128 := NB117_113.out; have hnc128 := NB113_117.out; have hnb129 := NB117_121.out; have hnc129 := NB121_117.out; have hnb130 := NB117_125.out; have hnc130 := NB125_117.out; have hcz131_0 : w126.cell? ⟨gb117, 0, none⟩ = some (.int .i64 t114) := (blk_cell BK117.out 0).trans rfl; have hcz131_1 : w126.cell? ⟨gb117, 1, none⟩ = some (.int .i64 t115) := (blk_cell BK117.out 1).trans rfl; have hfz131_0 := blk_frozen BK117.out 0; have hfz131_1 := blk_frozen BK117.out 1))
       go_ret
       exact ⟨by first | rfl | (simp [errW_none, errW_some] <;> rfl) | (simp [*, errW_none, errW_some] <;> rfl), by repeat (first | (with_reducible first | exact HB.out | apply below_alloc | apply pw_below_drewN | apply below_drew1 | refine below_set ?_ GE111.out | refine below_set ?_ GE112.out | refine below_set ?_ GE113.out | refine below_set ?_ GE117.out | refine below_set ?_ GE121.out | refine below_set ?_ GE125.out) | exact HB.out)⟩
     ·rw [if_neg c77] at H
      have c77b0 : (t148 == 280) = false := beq_eq_false_iff_ne.mpr c77
      have c77b1 : (t148 != 280) = true := bne_iff_ne.mpr c77
      obtain rfl := Option.some.inj H
      have hnb132 := NB111_112.out
      have hnc132 := NB112_111.out
      have hnb133 := NB111_113.out
      have hnc133 := NB113_111.out
      have hnb134 := NB111_117.out
      have hnc134 := NB117_111.out
      have hnb135 := NB111_121.out
      have hnc135 := NB121_111.out
      have hnb136 := NB111_125.out
      have hnc136 := NB125_111.out
      have hcz137_0 : wc.cell? ⟨gb111, 0, none⟩ = some (.string t104) := (blk_cell BK111.out 0).trans rfl
      have hcz137_1 : wc.cell? ⟨gb111, 1, none⟩ = some (.string t105) := (blk_cell BK111.out 1).trans rfl
      have hcz137_2 : wc.cell? ⟨gb111, 2, none⟩ = some (.int .i64 t106) := (blk_cell BK111.out 2).trans rfl
      have hcz137_3 : wc.cell? ⟨gb111, 3, none⟩ = some (.int .i64 t107) := (blk_cell BK111.out 3).trans rfl
      have hcz137_4 : wc.cell? ⟨gb111, 4, none⟩ = some (.int .i64 t108) := (blk_cell BK111.out 4).trans rfl
      have hcz137_5 : wc.cell? ⟨gb111, 5, none⟩ = some (.int .i64 t109) := (blk_cell BK111.out 5).trans rfl
      have hcz137_6 : wc.cell? ⟨gb111, 6, none⟩ = some (.int .i64 t110) := (blk_cell BK111.out 6).trans rfl
      have hfz137_0 := blk_frozen BK111.out 0
      have hfz137_1 := blk_frozen BK111.out 1
      have hfz137_2 := blk_frozen BK111.out 2
      have hfz137_3 := blk_frozen BK111.out 3
      have hfz137_4 := blk_frozen BK111.out 4
      have hfz137_5 := blk_frozen BK111.out 5
      have hfz137_6 := blk_frozen BK111.out 6
      go_wp2_with (first | ((with_reducible refine gate_callee (f := 25) rfl ?_); refine goesL_ (some 94) rfl rfl Try.func25 (by kernel_rfl) rfl #[.agg #[.string t104, .string t105, .int .i64 t106, .int .i64 t107, .int .i64 t108, .int .i64 t109, .int .i64 t110]] rfl (by (try simp only [List.map_toArray, List.map_cons, List.map_nil]); first | done | rfl | (simp only [List.length_drop, List.length_take]; rfl)) ?_; (with_reducible refine (turf_Check.calls t104 t105 t106 t107 t108 t109 t110 t147 _ A74.out).mono ?_); rintro e w138 ⟨rfl, hb⟩; refine ⟨_, rfl, ?_⟩; have n0_ := Aside0.mk (Kd.R_below (by (with_reducible repeat (first | apply Kd.R_alloc | apply Kd.R_drewN | apply Kd.R_drew)); exact HO_10.out) hb); have n1_ := Aside0.mk (zb BK111.out hb); have n2_ := Aside0.mk (zb BK112.out hb); have n3_ := Aside0.mk (zb BK113.out hb); have n4_ := Aside0.mk (zb BK117.out hb); have n5_ := Aside0.mk (zb BK121.out hb); have n6_ := Aside0.mk (zb BK125.out hb); have n7_ := Aside0.mk (below_step (by repeat (first | (with_reducible first | exact HB.out | apply below_alloc | apply pw_below_drewN | apply below_drew1 | refine below_set ?_ GE111.out | refine below_set ?_ GE112.out | refine below_set ?_ GE113.out | refine below_set ?_ GE117.out | refine below_set ?_ GE121.out | refine below_set ?_ GE125.out) | exact HB.out)) hb); clear HO_10; clear BK111; clear BK112; clear BK113; clear BK117; clear BK121; clear BK125; clear HB; have HO_10 := n0_; have BK111 := n1_; have BK112 := n2_; have BK113 := n3_; have BK117 := n4_; have BK121 := n5_; have BK125 := n6_; have HB := n7_; clear n0_ n1_ n2_ n3_ n4_ n5_ n6_ n7_; (try clear hb); (try clear hb2); (try clear hk); (try clear hi)) | (go_at_call 25; (with_reducible refine (turf_Check.calls (⟨#[]⟩ : ByteArray) (⟨#[]⟩ : ByteArray) 0 0 0 0 0 t148 _ A76.out).mono ?_); rintro e w139 ⟨rfl, hb⟩; have n0_ := Aside0.mk (Kd.R_below (by (with_reducible repeat (first | apply Kd.R_alloc | apply Kd.R_drewN | apply Kd.R_drew)); exact HO_10.out) hb); have n1_ := Aside0.mk (zb BK111.out hb); have n2_ := Aside0.mk (zb BK112.out hb); have n3_ := Aside0.mk (zb BK113.out hb); have n4_ := Aside0.mk (zb BK117.out hb); have n5_ := Aside0.mk (zb BK121.out hb); have n6_ := Aside0.mk (zb BK125.out hb); have n7_ := Aside0.mk (below_step (by repeat (first | (with_reducible first | exact HB.out | apply below_alloc | apply pw_below_drewN | apply below_drew1 | refine below_set ?_ GE111.out | refine below_set ?_ GE112.out | refine below_set ?_ GE113.out | refine below_set ?_ GE117.out | refine below_set ?_ GE121.out | refine below_set ?_ GE125.out) | exact HB.out)) hb); clear HO_10; clear BK111; clear BK112; clear BK113; clear BK117; clear BK121; clear BK125; clear HB; have HO_10 := n0_; have BK111 := n1_; have BK112 := n2_; have BK113 := n3_; have BK117 := n4_; have BK121 := n5_; have BK125 := n6_; have HB := n7_; clear n0_ n1_ n2_ n3_ n4_ n5_ n6_ n7_; (try clear hb); (try clear hb2); (try clear hk); (try clear hi)))
      go_ret
      exact ⟨by first | rfl | (simp [errW_none, errW_some] <;> rfl) | (simp [*, errW_none, errW_some] <;> rfl), by repeat (first | (with_reducible first | exact HB.out | apply below_alloc | apply pw_below_drewN | apply below_drew1 | refine below_set ?_ GE111.out | refine below_set ?_ GE112.out | refine below_set ?_ GE113.out | refine below_set ?_ GE117.out | refine below_set ?_ GE121.out | refine below_set ?_ GE125.out) | exact HB.out)⟩
    ·rw [if_neg c75] at H
     have c75b0 : (t147 == 0) = false := beq_eq_false_iff_ne.mpr c75
     have c75b1 : (t147 != 0) = true := bne_iff_ne.mpr c75
     obtain rfl := Option.some.inj H
     have hnb140 := NB111_112.out
     have hnc140 := NB112_111.out
     have hnb141 := NB111_113.out
     have hnc141 := NB113_111.out
     have hnb142 := NB111_117.out
     have hnc142 := NB117_111.out
     have hnb143 := NB111_121.out
     have hnc143 := NB121_111.out
     have hnb144 := NB111_125.out
     have hnc144 := NB125_111.out
     have hcz145_0 : wc.cell? ⟨gb111, 0, none⟩ = some (.string t104) := (blk_cell BK111.out 0).trans rfl
     have hcz145_1 : wc.cell? ⟨gb111, 1, none⟩ = some (.string t105) := (blk_cell BK111.out 1).trans rfl
     have hcz145_2 : wc.cell? ⟨gb111, 2, none⟩ = some (.int .i64 t106) := (blk_cell BK111.out 2).trans rfl
     have hcz145_3 : wc.cell? ⟨gb111, 3, none⟩ = some (.int .i64 t107) := (blk_cell BK111.out 3).trans rfl
     have hcz145_4 : wc.cell? ⟨gb111, 4, none⟩ = some (.int .i64 t108) := (blk_cell BK111.out 4).trans rfl
     have hcz145_5 : wc.cell? ⟨gb111, 5, none⟩ = some (.int .i64 t109) := (blk_cell BK111.out 5).trans rfl
     have hcz145_6 : wc.cell? ⟨gb111, 6, none⟩ = some (.int .i64 t110) := (blk_cell BK111.out 6).trans rfl
     have hfz145_0 := blk_frozen BK111.out 0
     have hfz145_1 := blk_frozen BK111.out 1
     have hfz145_2 := blk_frozen BK111.out 2
     have hfz145_3 := blk_frozen BK111.out 3
     have hfz145_4 := blk_frozen BK111.out 4
     have hfz145_5 := blk_frozen BK111.out 5
     have hfz145_6 := blk_frozen BK111.out 6
     go_wp2_with (first | ((with_reducible refine gate_callee (f := 25) rfl ?_); refine goesL_ (some 94) rfl rfl Try.func25 (by kernel_rfl) rfl #[.agg #[.string t104, .string t105, .int .i64 t106, .int .i64 t107, .int .i64 t108, .int .i64 t109, .int .i64 t110]] rfl (by (try simp only [List.map_toArray, List.map_cons, List.map_nil]); first | done | rfl | (simp only [List.length_drop, List.length_take]; rfl)) ?_; (with_reducible refine (turf_Check.calls t104 t105 t106 t107 t108 t109 t110 t147 _ A74.out).mono ?_); rintro e w146 ⟨rfl, hb⟩; refine ⟨_, rfl, ?_⟩; have n0_ := Aside0.mk (Kd.R_below (by (with_reducible repeat (first | apply Kd.R_alloc | apply Kd.R_drewN | apply Kd.R_drew)); exact HO_10.out) hb); have n1_ := Aside0.mk (zb BK111.out hb); have n2_ := Aside0.mk (zb BK112.out hb); have n3_ := Aside0.mk (zb BK113.out hb); have n4_ := Aside0.mk (zb BK117.out hb); have n5_ := Aside0.mk (zb BK121.out hb); have n6_ := Aside0.mk (zb BK125.out hb); have n7_ := Aside0.mk (below_step (by repeat (first | (with_reducible first | exact HB.out | apply below_alloc | apply pw_below_drewN | apply below_drew1 | refine below_set ?_ GE111.out | refine below_set ?_ GE112.out | refine below_set ?_ GE113.out | refine below_set ?_ GE117.out | refine below_set ?_ GE121.out | refine below_set ?_ GE125.out) | exact HB.out)) hb); clear HO_10; clear BK111; clear BK112; clear BK113; clear BK117; clear BK121; clear BK125; clear HB; have HO_10 := n0_; have BK111 := n1_; have BK112 := n2_; have BK113 := n3_; have BK117 := n4_; have BK121 := n5_; have BK125 := n6_; have HB := n7_; clear n0_ n1_ n2_ n3_ n4_ n5_ n6_ n7_; (try clear hb); (try clear hb2); (try clear hk); (try clear hi)))
     go_ret
     exact ⟨by first | rfl | (simp [errW_none, errW_some] <;> rfl) | (simp [*, errW_none, errW_some] <;> rfl), by repeat (first | (with_reducible first | exact HB.out | apply below_alloc | apply pw_below_drewN | apply below_drew1 | refine below_set ?_ GE111.out | refine below_set ?_ GE112.out | refine below_set ?_ GE113.out | refine below_set ?_ GE117.out | refine below_set ?_ GE121.out | refine below_set ?_ GE125.out) | exact HB.out)⟩

/-! ### fastiref28_between: function 49 -/
def fastiref28_between.f (a0 : Int) (a1 : Int) (a2 : Int) : Option (Bool) := if a0 ≥ a1 then (some (decide (a0 ≤ a2))) else (some false)
set_option maxHeartbeats 8000000 in
set_option maxRecDepth 100000 in
theorem fastiref28_between.calls (a0 : Int) (a1 : Int) (a2 : Int) (r : Bool) (w : World) (h : fastiref28_between.f a0 a1 a2 = some r) :
  Calls Try.prog 49 #[.int .i64 a0, .int .i64 a1, .int .i64 a2] w fun e w' => e = .returned (.bool r) ∧ Drawn0 w w' := by
 have H : (if a0 ≥ a1 then (some (decide (a0 ≤ a2))) else (some false)) = some r := h
 clear h
 by_cases c4 : a0 ≥ a1
 ·rw [if_pos c4] at H
  have c4b0 : decide (a1 ≤ a0) = true := decide_eq_true c4
  clear c4
  obtain rfl := Option.some.inj H
  go_enter Try.func49, Try.ntmps49
  go_wp2
  go_ret
  exact ⟨by first | rfl | (simp; done) | (simp [*]; done), by repeat (first | exact Drawn0.refl _ | apply Drawn0.step)⟩
 ·rw [if_neg c4] at H
  have c4b0 : decide (a1 ≤ a0) = false := decide_eq_false c4
  clear c4
  obtain rfl := Option.some.inj H
  go_enter Try.func49, Try.ntmps49
  go_wp2
  go_ret
  exact ⟨by first | rfl | (simp; done) | (simp [*]; done), by repeat (first | exact Drawn0.refl _ | apply Drawn0.step)⟩

end Go.Proofs.Ytenjkflckkmahaa.Q
