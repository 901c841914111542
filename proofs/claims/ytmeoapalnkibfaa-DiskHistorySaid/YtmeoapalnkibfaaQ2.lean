/- Functions of the translation as plain Lean functions, and proofs that the calls do what these say; written by a program of this session round the kit's print. -/
import Derived.Test.YtmeoapalnkibfaaQ0
import Derived.Test.YtmeoapalnkibfaaAidB
import Derived.Test.YtmeoapalnkibfaaDRd
namespace Go.Proofs.Ytmeoapalnkibfaa.Q
open Go.RowKit Go.Proofs.YtmeoapalnkibfaaW.PrintWords Go.Proofs.YtmeoapalnkibfaaW.PrintLast Go.Proofs.YtmeoapalnkibfaaW.PrintMore
attribute [local go_sem] max2_int min2_int max_two min_two max_three min_three max_four min_four   -- for this text's walks alone
set_option linter.unusedVariables false
set_option linter.unusedSimpArgs false

/-! ### fastilaw04_holds: function 28 -/
mutual
def fastilaw04_holds.l0 : Nat → Int → List (List Int) → List (S54) → Int → Bool → Int → Int → Int → Int → Int → Int → Int → Int → Option (Bool)
 | 0, _, _, _, _, _, _, _, _, _, _, _, _, _ => none
 | k + 1, x7, x114000, x114001, x114002, x114003, x115000, x115001, x115002, x115003, x116000, x116001, x116002, x116003 => if x7 < 4 then ((disk_Read.f x114000 x114001 x114002 x114003 x7).bind fun bt116 => (if bt116.2 = 0 then (if (bt116.1.length : Int) = 128 then (if 0 < (bt116.1.length : Int) then (if x7 = 0 then (if (rd bt116.1 0) = x115000 then (if 64 < (bt116.1.length : Int) then (if (rd bt116.1 64) = x116000 then (if 1 < (bt116.1.length : Int) then (if (rd bt116.1 1) = 0 then (if 127 < (bt116.1.length : Int) then (fastilaw04_holds.j1 k x7 ((rd bt116.1 127) != 0) x114000 x114001 x114002 x114003 x115000 x115001 x115002 x115003 x116000 x116001 x116002 x116003) else (none)) else (fastilaw04_holds.j1 k x7 true x114000 x114001 x114002 x114003 x115000 x115001 x115002 x115003 x116000 x116001 x116002 x116003)) else (none)) else (fastilaw04_holds.j1 k x7 true x114000 x114001 x114002 x114003 x115000 x115001 x115002 x115003 x116000 x116001 x116002 x116003)) else (none)) else (fastilaw04_holds.j1 k x7 true x114000 x114001 x114002 x114003 x115000 x115001 x115002 x115003 x116000 x116001 x116002 x116003)) else (if x7 = 1 then (if (rd bt116.1 0) = x115001 then (if 64 < (bt116.1.length : Int) then (if (rd bt116.1 64) = x116001 then (if 1 < (bt116.1.length : Int) then (if (rd bt116.1 1) = 0 then (if 127 < (bt116.1.length : Int) then (fastilaw04_holds.j1 k x7 ((rd bt116.1 127) != 0) x114000 x114001 x114002 x114003 x115000 x115001 x115002 x115003 x116000 x116001 x116002 x116003) else (none)) else (fastilaw04_holds.j1 k x7 true x114000 x114001 x114002 x114003 x115000 x115001 x115002 x115003 x116000 x116001 x116002 x116003)) else (none)) else (fastilaw04_holds.j1 k x7 true x114000 x114001 x114002 x114003 x115000 x115001 x115002 x115003 x116000 x116001 x116002 x116003)) else (none)) else (fastilaw04_holds.j1 k x7 true x114000 x114001 x114002 x114003 x115000 x115001 x115002 x115003 x116000 x116001 x116002 x116003)) else (if x7 = 2 then (if (rd bt116.1 0) = x115002 then (if 64 < (bt116.1.length : Int) then (if (rd bt116.1 64) = x116002 then (if 1 < (bt116.1.length : Int) then (if (rd bt116.1 1) = 0 then (if 127 < (bt116.1.length : Int) then (fastilaw04_holds.j1 k x7 ((rd bt116.1 127) != 0) x114000 x114001 x114002 x114003 x115000 x115001 x115002 x115003 x116000 x116001 x116002 x116003) else (none)) else (fastilaw04_holds.j1 k x7 true x114000 x114001 x114002 x114003 x115000 x115001 x115002 x115003 x116000 x116001 x116002 x116003)) else (none)) else (fastilaw04_holds.j1 k x7 true x114000 x114001 x114002 x114003 x115000 x115001 x115002 x115003 x116000 x116001 x116002 x116003)) else (none)) else (fastilaw04_holds.j1 k x7 true x114000 x114001 x114002 x114003 x115000 x115001 x115002 x115003 x116000 x116001 x116002 x116003)) else (if x7 = 3 then (if (rd bt116.1 0) = x115003 then (if 64 < (bt116.1.length : Int) then (if (rd bt116.1 64) = x116003 then (if 1 < (bt116.1.length : Int) then (if (rd bt116.1 1) = 0 then (if 127 < (bt116.1.length : Int) then (fastilaw04_holds.j1 k x7 ((rd bt116.1 127) != 0) x114000 x114001 x114002 x114003 x115000 x115001 x115002 x115003 x116000 x116001 x116002 x116003) else (none)) else (fastilaw04_holds.j1 k x7 true x114000 x114001 x114002 x114003 x115000 x115001 x115002 x115003 x116000 x116001 x116002 x116003)) else (none)) else (fastilaw04_holds.j1 k x7 true x114000 x114001 x114002 x114003 x115000 x115001 x115002 x115003 x116000 x116001 x116002 x116003)) else (none)) else (fastilaw04_holds.j1 k x7 true x114000 x114001 x114002 x114003 x115000 x115001 x115002 x115003 x116000 x116001 x116002 x116003)) else (none))))) else (none)) else (fastilaw04_holds.j1 k x7 true x114000 x114001 x114002 x114003 x115000 x115001 x115002 x115003 x116000 x116001 x116002 x116003)) else (fastilaw04_holds.j1 k x7 true x114000 x114001 x114002 x114003 x115000 x115001 x115002 x115003 x116000 x116001 x116002 x116003))) else (some true)
def fastilaw04_holds.j1 : Nat → Int → Bool → List (List Int) → List (S54) → Int → Bool → Int → Int → Int → Int → Int → Int → Int → Int → Option (Bool)
 | 0, _, _, _, _, _, _, _, _, _, _, _, _, _, _ => none
 | k + 1, x7, x56, x114000, x114001, x114002, x114003, x115000, x115001, x115002, x115003, x116000, x116001, x116002, x116003 => if x56 = true then (some false) else (fastilaw04_holds.l0 k (wrap64 (x7 + 1)) x114000 x114001 x114002 x114003 x115000 x115001 x115002 x115003 x116000 x116001 x116002 x116003)
end
def fastilaw04_holds.f (k : Nat) (l0_0 : List (List Int)) (l0_1 : List (S54)) (a0_2 : Int) (a0_3 : Bool) (a1_0 : Int) (a1_1 : Int) (a1_2 : Int) (a1_3 : Int) (a2_0 : Int) (a2_1 : Int) (a2_2 : Int) (a2_3 : Int) : Option (Bool) := fastilaw04_holds.l0 k 0 l0_0 l0_1 a0_2 a0_3 a1_0 a1_1 a1_2 a1_3 a2_0 a2_1 a2_2 a2_3
set_option maxRecDepth 100000 in
theorem fastilaw04_holds.mono_l : ∀ k, (∀ y0 y1 y2 y3 y4 y5 y6 y7 y8 y9 y10 y11 y12, LeO (fastilaw04_holds.l0 k y0 y1 y2 y3 y4 y5 y6 y7 y8 y9 y10 y11 y12) (fastilaw04_holds.l0 (k + 1) y0 y1 y2 y3 y4 y5 y6 y7 y8 y9 y10 y11 y12)) ∧ (∀ y0 y1 y2 y3 y4 y5 y6 y7 y8 y9 y10 y11 y12 y13, LeO (fastilaw04_holds.j1 k y0 y1 y2 y3 y4 y5 y6 y7 y8 y9 y10 y11 y12 y13) (fastilaw04_holds.j1 (k + 1) y0 y1 y2 y3 y4 y5 y6 y7 y8 y9 y10 y11 y12 y13))
 | 0 => ⟨fun _ _ _ _ _ _ _ _ _ _ _ _ _ r h => by simp [fastilaw04_holds.l0] at h, fun _ _ _ _ _ _ _ _ _ _ _ _ _ _ r h => by simp [fastilaw04_holds.j1] at h⟩
 | k + 1 => by
  obtain ⟨ih0, ih1⟩ := fastilaw04_holds.mono_l k
  refine ⟨?_, ?_⟩
  ·intro y0 y1 y2 y3 y4 y5 y6 y7 y8 y9 y10 y11 y12
   unfold fastilaw04_holds.l0
   repeat' first
   | (with_reducible exact ih0 _ _ _ _ _ _ _ _ _ _ _ _ _)
   | (with_reducible exact ih1 _ _ _ _ _ _ _ _ _ _ _ _ _ _)
   | (with_reducible exact LeO.refl _)
   | (with_reducible exact LeO.none _)
   | (with_reducible refine LeO.ite ?_ ?_)
   | (with_reducible refine LeO.bind ?_ (fun _ => ?_))
   | exact ih0 _ _ _ _ _ _ _ _ _ _ _ _ _
   | exact ih1 _ _ _ _ _ _ _ _ _ _ _ _ _ _
   | exact LeO.none _
   | refine LeO.ite ?_ ?_
   | refine LeO.bind ?_ (fun _ => ?_)
  ·intro y0 y1 y2 y3 y4 y5 y6 y7 y8 y9 y10 y11 y12 y13
   unfold fastilaw04_holds.j1
   repeat' first
   | (with_reducible exact ih0 _ _ _ _ _ _ _ _ _ _ _ _ _)
   | (with_reducible exact ih1 _ _ _ _ _ _ _ _ _ _ _ _ _ _)
   | (with_reducible exact LeO.refl _)
   | (with_reducible exact LeO.none _)
   | (with_reducible refine LeO.ite ?_ ?_)
   | (with_reducible refine LeO.bind ?_ (fun _ => ?_))
   | exact ih0 _ _ _ _ _ _ _ _ _ _ _ _ _
   | exact ih1 _ _ _ _ _ _ _ _ _ _ _ _ _ _
   | exact LeO.none _
   | refine LeO.ite ?_ ?_
   | refine LeO.bind ?_ (fun _ => ?_)
theorem fastilaw04_holds.mono : ∀ a0 a1 a2 a3 a4 a5 a6 a7 a8 a9 a10 a11 k, LeO (fastilaw04_holds.f k a0 a1 a2 a3 a4 a5 a6 a7 a8 a9 a10 a11) (fastilaw04_holds.f (k + 1) a0 a1 a2 a3 a4 a5 a6 a7 a8 a9 a10 a11) := by
 intro a0 a1 a2 a3 a4 a5 a6 a7 a8 a9 a10 a11 k
 obtain ⟨ih0, ih1⟩ := fastilaw04_holds.mono_l k
 unfold fastilaw04_holds.f
 repeat' first
   | (with_reducible exact ih0 _ _ _ _ _ _ _ _ _ _ _ _ _)
   | (with_reducible exact ih1 _ _ _ _ _ _ _ _ _ _ _ _ _ _)
   | (with_reducible exact LeO.refl _)
   | (with_reducible exact LeO.none _)
   | (with_reducible refine LeO.ite ?_ ?_)
   | (with_reducible refine LeO.bind ?_ (fun _ => ?_))
   | exact ih0 _ _ _ _ _ _ _ _ _ _ _ _ _
   | exact ih1 _ _ _ _ _ _ _ _ _ _ _ _ _ _
   | exact LeO.none _
   | refine LeO.ite ?_ ?_
   | refine LeO.bind ?_ (fun _ => ?_)
set_option maxHeartbeats 8000000 in
set_option maxRecDepth 100000 in
theorem fastilaw04_holds.calls (k : Nat) (A0_0 : Option Addr) (c0_0 : Nat) (l0_0 : List (List Int)) (A0_1 : Option Addr) (c0_1 : Nat) (l0_1 : List (S54)) (a0_2 : Int) (a0_3 : Bool) (a1_0 : Int) (a1_1 : Int) (a1_2 : Int) (a1_3 : Int) (a2_0 : Int) (a2_1 : Int) (a2_2 : Int) (a2_3 : Int) (r : Bool) (w : World) (hr0_0 : Kd.C (Kd.slice 5 (Kd.int .u8)) w A0_0 l0_0.length l0_0) (hc0_0 : l0_0.length ≤ c0_0) (hr0_1 : Kd.C k54 w A0_1 l0_1.length l0_1) (hc0_1 : l0_1.length ≤ c0_1) (h : fastilaw04_holds.f k l0_0 l0_1 a0_2 a0_3 a1_0 a1_1 a1_2 a1_3 a2_0 a2_1 a2_2 a2_3 = some r) :
  Calls Try.prog 28 #[.agg #[.slice A0_0 l0_0.length c0_0, .slice A0_1 l0_1.length c0_1, .int .i64 a0_2, .bool a0_3], .agg #[.int .u8 a1_0, .int .u8 a1_1, .int .u8 a1_2, .int .u8 a1_3], .agg #[.int .u8 a2_0, .int .u8 a2_1, .int .u8 a2_2, .int .u8 a2_3]] w fun e w' => e = .returned (.bool r) ∧ Below w.heap.size w w' := by
 have hu25 := Try.underlying25
 have hu44 := Try.underlying44
 have HR0_0 := Aside0.mk hr0_0
 have HC0_0 := Aside0.mk hc0_0
 clear hr0_0 hc0_0
 have HR0_1 := Aside0.mk hr0_1
 have HC0_1 := Aside0.mk hc0_1
 clear hr0_1 hc0_1
 have HB := Aside0.mk (Below.refl w.heap.size w)
 have H : (fastilaw04_holds.l0 k 0 l0_0 l0_1 a0_2 a0_3 a1_0 a1_1 a1_2 a1_3 a2_0 a2_1 a2_2 a2_3) = some r := h
 clear h
 have H' := Aside0.mk H
 clear H
 go_enter Try.func28, Try.ntmps28
 go_wp2_with (first | ((with_reducible refine gate_dst (N := 3) rfl ?_); (try (refine gate_guard (by rfl) ?_; dsimp only)); refine box_event ?hg (N := 3) ?hd (cs := #[.slice A0_0 l0_0.length c0_0, .slice A0_1 l0_1.length c0_1, .int .i64 a0_2, .bool a0_3]) (t := 25) ?hr ?_; (case hd => rfl); (case hg => rfl); (case hr => first | (go_simp; done) | (go_simp; rfl)); intro gb113 hg w4 hbox hb; have BK113 := Aside0.mk (hbox); have GW113 := Aside0.mk ((by rw [hg]; exact (below_size (blw HB.out)) : w.heap.size ≤ gb113)); have GE113 := Aside0.mk ((by rw [hg]; exact (below_size (blw HB.out)) : w.heap.size ≤ gb113)); replace HB := Aside0.mk (below_step (blw HB.out) hb); clear hb hbox hg) | ((with_reducible refine gate_dst (N := 4) rfl ?_); (try (refine gate_guard (by rfl) ?_; dsimp only)); refine box_event ?hg (N := 4) ?hd (cs := #[.int .u8 a1_0, .int .u8 a1_1, .int .u8 a1_2, .int .u8 a1_3]) (t := 44) ?hr ?_; (case hd => rfl); (case hg => rfl); (case hr => first | (go_simp; done) | (go_simp; rfl)); intro gb114 hg w5 hbox hb; have BK114 := Aside0.mk (hbox); have GW114 := Aside0.mk ((by rw [hg]; exact (below_size (blw HB.out)) : w.heap.size ≤ gb114)); have GE114 := Aside0.mk ((by rw [hg]; exact (below_size (blw HB.out)) : w.heap.size ≤ gb114)); replace HB := Aside0.mk (below_step (blw HB.out) hb); have NB113_114 := Aside0.mk ((by rw [hg]; exact Nat.ne_of_lt (blk_lt (zk BK113.out)) : gb113 ≠ gb114)); have NB114_113 := Aside0.mk ((by rw [hg]; exact Nat.ne_of_gt (blk_lt (zk BK113.out)) : gb114 ≠ gb113)); replace BK113 := Aside0.mk (zb BK113.out hb); clear hb hbox hg) | ((with_reducible refine gate_dst (N := 5) rfl ?_); (try (refine gate_guard (by rfl) ?_; dsimp only)); refine box_event ?hg (N := 5) ?hd (cs := #[.int .u8 a2_0, .int .u8 a2_1, .int .u8 a2_2, .int .u8 a2_3]) (t := 44) ?hr ?_; (case hd => rfl); (case hg => rfl); (case hr => first | (go_simp; done) | (go_simp; rfl)); intro gb115 hg w6 hbox hb; have BK115 := Aside0.mk (hbox); have GW115 := Aside0.mk ((by rw [hg]; exact (below_size (blw HB.out)) : w.heap.size ≤ gb115)); have GE115 := Aside0.mk ((by rw [hg]; exact (below_size (blw HB.out)) : w.heap.size ≤ gb115)); replace HB := Aside0.mk (below_step (blw HB.out) hb); have NB113_115 := Aside0.mk ((by rw [hg]; exact Nat.ne_of_lt (blk_lt (zk BK113.out)) : gb113 ≠ gb115)); have NB115_113 := Aside0.mk ((by rw [hg]; exact Nat.ne_of_gt (blk_lt (zk BK113.out)) : gb115 ≠ gb113)); replace BK113 := Aside0.mk (zb BK113.out hb); have NB114_115 := Aside0.mk ((by rw [hg]; exact Nat.ne_of_lt (blk_lt (zk BK114.out)) : gb114 ≠ gb115)); have NB115_114 := Aside0.mk ((by rw [hg]; exact Nat.ne_of_gt (blk_lt (zk BK114.out)) : gb115 ≠ gb114)); replace BK114 := Aside0.mk (zb BK114.out hb); clear hb hbox hg))
 go_loopg [7] k (fun kq v7 w' => ∃ (x7_1 : Int), v7 = .int .i64 x7_1 ∧ Aside0 (fastilaw04_holds.l0 kq x7_1 l0_0 l0_1 a0_2 a0_3 a1_0 a1_1 a1_2 a1_3 a2_0 a2_1 a2_2 a2_3 = some r) ∧ Aside0 (kq ≤ k) ∧ Aside0 (w'.heap[gb113]? = some (.cells #[(.slice A0_0 l0_0.length c0_0), (.slice A0_1 l0_1.length c0_1), .int .i64 a0_2, .bool a0_3] 25 (0, 0))) ∧ Aside0 (w'.heap[gb114]? = some (.cells #[.int .u8 a1_0, .int .u8 a1_1, .int .u8 a1_2, .int .u8 a1_3] 44 (0, 0))) ∧ Aside0 (w'.heap[gb115]? = some (.cells #[.int .u8 a2_0, .int .u8 a2_1, .int .u8 a2_2, .int .u8 a2_3] 44 (0, 0))) ∧ Aside0 (Below w.heap.size w w'))
 case atStart => exact ⟨(0), (by first | rfl | (simp; done) | (simp [*]; done)), H', ⟨Nat.le_refl _⟩, ⟨zk BK113.out⟩, ⟨zk BK114.out⟩, ⟨zk BK115.out⟩, ⟨blw HB.out⟩⟩
 case round =>
  clear H'
  try clear c2
  try clear p2
  obtain ⟨x7_1, rfl, HA, HK1, BK113, BK114, BK115, HB⟩ := hrel
  cases gk with
  | zero => exact absurd HA.out (by simp [fastilaw04_holds.l0])
  | succ k1 =>
   have H := HA.out
   clear HA
   simp only [fastilaw04_holds.l0] at H
   by_cases c7 : x7_1 < 4
   ·rw [if_pos c7] at H
    have c7b0 : decide (x7_1 < 4) = true := decide_eq_true c7
    clear c7
    replace H := Option.bind_eq_some_iff.mp H
    obtain ⟨⟨t116, t119⟩, A80, H⟩ := H
    replace H : (if t119 = 0 then (if (t116.length : Int) = 128 then (if 0 < (t116.length : Int) then (if x7_1 = 0 then (if (rd t116 0) = a1_0 then (if 64 < (t116.length : Int) then (if (rd t116 64) = a2_0 then (if 1 < (t116.length : Int) then (if (rd t116 1) = 0 then (if 127 < (t116.length : Int) then (fastilaw04_holds.j1 k1 x7_1 ((rd t116 127) != 0) l0_0 l0_1 a0_2 a0_3 a1_0 a1_1 a1_2 a1_3 a2_0 a2_1 a2_2 a2_3) else (none)) else (fastilaw04_holds.j1 k1 x7_1 true l0_0 l0_1 a0_2 a0_3 a1_0 a1_1 a1_2 a1_3 a2_0 a2_1 a2_2 a2_3)) else (none)) else (fastilaw04_holds.j1 k1 x7_1 true l0_0 l0_1 a0_2 a0_3 a1_0 a1_1 a1_2 a1_3 a2_0 a2_1 a2_2 a2_3)) else (none)) else (fastilaw04_holds.j1 k1 x7_1 true l0_0 l0_1 a0_2 a0_3 a1_0 a1_1 a1_2 a1_3 a2_0 a2_1 a2_2 a2_3)) else (if x7_1 = 1 then (if (rd t116 0) = a1_1 then (if 64 < (t116.length : Int) then (if (rd t116 64) = a2_1 then (if 1 < (t116.length : Int) then (if (rd t116 1) = 0 then (if 127 < (t116.length : Int) then (fastilaw04_holds.j1 k1 x7_1 ((rd t116 127) != 0) l0_0 l0_1 a0_2 a0_3 a1_0 a1_1 a1_2 a1_3 a2_0 a2_1 a2_2 a2_3) else (none)) else (fastilaw04_holds.j1 k1 x7_1 true l0_0 l0_1 a0_2 a0_3 a1_0 a1_1 a1_2 a1_3 a2_0 a2_1 a2_2 a2_3)) else (none)) else (fastilaw04_holds.j1 k1 x7_1 true l0_0 l0_1 a0_2 a0_3 a1_0 a1_1 a1_2 a1_3 a2_0 a2_1 a2_2 a2_3)) else (none)) else (fastilaw04_holds.j1 k1 x7_1 true l0_0 l0_1 a0_2 a0_3 a1_0 a1_1 a1_2 a1_3 a2_0 a2_1 a2_2 a2_3)) else (if x7_1 = 2 then (if (rd t116 0) = a1_2 then (if 64 < (t116.length : Int) then (if (rd t116 64) = a2_2 then (if 1 < (t116.length : Int) then (if (rd t116 1) = 0 then (if 127 < (t116.length : Int) then (fastilaw04_holds.j1 k1 x7_1 ((rd t116 127) != 0) l0_0 l0_1 a0_2 a0_3 a1_0 a1_1 a1_2 a1_3 a2_0 a2_1 a2_2 a2_3) else (none)) else (fastilaw04_holds.j1 k1 x7_1 true l0_0 l0_1 a0_2 a0_3 a1_0 a1_1 a1_2 a1_3 a2_0 a2_1 a2_2 a2_3)) else (none)) else (fastilaw04_holds.j1 k1 x7_1 true l0_0 l0_1 a0_2 a0_3 a1_0 a1_1 a1_2 a1_3 a2_0 a2_1 a2_2 a2_3)) else (none)) else (fastilaw04_holds.j1 k1 x7_1 true l0_0 l0_1 a0_2 a0_3 a1_0 a1_1 a1_2 a1_3 a2_0 a2_1 a2_2 a2_3)) else (if x7_1 = 3 then (if (rd t116 0) = a1_3 then (if 64 < (t116.length : Int) then (if (rd t116 64) = a2_3 then (if 1 < (t116.length : Int) then (if (rd t116 1) = 0 then (if 127 < (t116.length : Int) then (fastilaw04_holds.j1 k1 x7_1 ((rd t116 127) != 0) l0_0 l0_1 a0_2 a0_3 a1_0 a1_1 a1_2 a1_3 a2_0 a2_1 a2_2 a2_3) else (none)) else (fastilaw04_holds.j1 k1 x7_1 true l0_0 l0_1 a0_2 a0_3 a1_0 a1_1 a1_2 a1_3 a2_0 a2_1 a2_2 a2_3)) else (none)) else (fastilaw04_holds.j1 k1 x7_1 true l0_0 l0_1 a0_2 a0_3 a1_0 a1_1 a1_2 a1_3 a2_0 a2_1 a2_2 a2_3)) else (none)) else (fastilaw04_holds.j1 k1 x7_1 true l0_0 l0_1 a0_2 a0_3 a1_0 a1_1 a1_2 a1_3 a2_0 a2_1 a2_2 a2_3)) else (none))))) else (none)) else (fastilaw04_holds.j1 k1 x7_1 true l0_0 l0_1 a0_2 a0_3 a1_0 a1_1 a1_2 a1_3 a2_0 a2_1 a2_2 a2_3)) else (fastilaw04_holds.j1 k1 x7_1 true l0_0 l0_1 a0_2 a0_3 a1_0 a1_1 a1_2 a1_3 a2_0 a2_1 a2_2 a2_3)) = some r := H
    have A8 := Aside0.mk A80
    clear A80
    have HC9 := Aside0.mk H
    clear H
    have hnb10 := NB113_114.out
    have hnc10 := NB114_113.out
    have hnb11 := NB113_115.out
    have hnc11 := NB115_113.out
    have hcz12_0 : wr.cell? ⟨gb113, 0, none⟩ = some (.slice A0_0 l0_0.length c0_0) := bc BK113 0
    have hcz12_1 : wr.cell? ⟨gb113, 1, none⟩ = some (.slice A0_1 l0_1.length c0_1) := bc BK113 1
    have hcz12_2 : wr.cell? ⟨gb113, 2, none⟩ = some (.int .i64 a0_2) := bc BK113 2
    have hcz12_3 : wr.cell? ⟨gb113, 3, none⟩ = some (.bool a0_3) := bc BK113 3
    have hfz12_0 := blk_frozen BK113.out 0
    have hfz12_1 := blk_frozen BK113.out 1
    have hfz12_2 := blk_frozen BK113.out 2
    have hfz12_3 := blk_frozen BK113.out 3
    go_upto_region 5 with (first | (go_at_call 21; (with_reducible refine (disk_Read.calls (fun k_ => k_ < w.heap.size) _ _ l0_0 (fun k_ => k_ < w.heap.size) _ _ l0_1 a0_2 a0_3 x7_1 t116 t119 _ ?side1 ?side2 A8.out).mono ?_); (case side1 => exact Kd.V_mk HC0_0.out (Kd.F_below (Kd.C_F (Kd.heap_slice 5 (Kd.heap_int .u8)) HR0_0.out) (blw HB.out))); (case side2 => exact Kd.V_mk HC0_1.out (Kd.F_below (Kd.C_F k54_heap HR0_1.out) (blw HB.out))); rintro e w13 ⟨v117, rfl, ho0, hb⟩; have HO118 := Aside0.mk (Kd.V_lower (Kd.V_mono (ok' := fun k_ => k_ ≠ gb113 ∧ k_ ≠ gb114 ∧ k_ ≠ gb115) ho0 (fun k_ hk_ => ⟨Or.elim hk_ (fun hs_ => Or.elim hs_ (fun hs_ => fun e_ => Nat.not_le.2 hs_ (by rw [e_]; exact GW113.out)) (fun hs_ => fun e_ => Nat.not_le.2 hs_ (by rw [e_]; exact GW113.out))) (fun hn_ => (Kd.freshB (zk BK113.out) k_ hn_)), Or.elim hk_ (fun hs_ => Or.elim hs_ (fun hs_ => fun e_ => Nat.not_le.2 hs_ (by rw [e_]; exact GW114.out)) (fun hs_ => fun e_ => Nat.not_le.2 hs_ (by rw [e_]; exact GW114.out))) (fun hn_ => (Kd.freshB (zk BK114.out) k_ hn_)), Or.elim hk_ (fun hs_ => Or.elim hs_ (fun hs_ => fun e_ => Nat.not_le.2 hs_ (by rw [e_]; exact GW115.out)) (fun hs_ => fun e_ => Nat.not_le.2 hs_ (by rw [e_]; exact GW115.out))) (fun hn_ => (Kd.freshB (zk BK115.out) k_ hn_))⟩)) (below_size (blw HB.out))); replace BK113 := Aside0.mk (zb BK113.out hb); replace BK114 := Aside0.mk (zb BK114.out hb); replace BK115 := Aside0.mk (zb BK115.out hb); replace HB := Aside0.mk (below_step (blw HB.out) hb); (try clear hb); (try clear hb2); (try clear hk); (try clear hi); (try clear ho0)))
    (try simp only [Act.put, List.setIfInBounds_toArray, List.set_cons_zero, List.set_cons_succ])
    go_cut [56] (fun v56 wc => ∃ (kq : Nat) (x56_8 : Bool), v56 = .bool x56_8 ∧ Aside0 (fastilaw04_holds.j1 kq x7_1 x56_8 l0_0 l0_1 a0_2 a0_3 a1_0 a1_1 a1_2 a1_3 a2_0 a2_1 a2_2 a2_3 = some r) ∧ Aside0 (kq ≤ k1) ∧ Aside0 (wc.heap[gb113]? = some (.cells #[(.slice A0_0 l0_0.length c0_0), (.slice A0_1 l0_1.length c0_1), .int .i64 a0_2, .bool a0_3] 25 (0, 0))) ∧ Aside0 (wc.heap[gb114]? = some (.cells #[.int .u8 a1_0, .int .u8 a1_1, .int .u8 a1_2, .int .u8 a1_3] 44 (0, 0))) ∧ Aside0 (wc.heap[gb115]? = some (.cells #[.int .u8 a2_0, .int .u8 a2_1, .int .u8 a2_2, .int .u8 a2_3] 44 (0, 0))) ∧ Aside0 (Below w.heap.size w wc))
    case first =>
     have H := HC9.out
     clear HC9
     by_cases c14 : t119 = 0
     ·rw [if_pos c14] at H
      have c14b0 : (t119 == 0) = true := beq_iff_eq.mpr c14
      have c14b1 : (t119 != 0) = false := bne_eq_false_iff_eq.mpr c14
      clear c14
      (first | rw [c14b0] | (simp only [i64_w, i32_w]; rw [c14b0]) | skip)
      by_cases c15 : (t116.length : Int) = 128
      ·rw [if_pos c15] at H
       have c15b0 : ((t116.length : Int) == 128) = true := beq_iff_eq.mpr c15
       have c15b1 : ((t116.length : Int) != 128) = false := bne_eq_false_iff_eq.mpr c15
       clear c15
       by_cases c16 : 0 < (t116.length : Int)
       ·rw [if_pos c16] at H
        have c16b0 : decide (0 < (t116.length : Int)) = true := decide_eq_true c16
        have c16b1 : decide (0 < t116.length) = true := decide_eq_true (by omega)
        clear c16
        by_cases c17 : x7_1 = 0
        ·rw [if_pos c17] at H
         obtain ⟨c17t, c17l, c17g, c17h, c17j⟩ := idx4 0 c17
         have c17b0 : (x7_1 == 0) = true := beq_iff_eq.mpr c17
         have c17b1 : (x7_1 != 0) = false := bne_eq_false_iff_eq.mpr c17
         clear c17
         by_cases c18 : (rd t116 0) = a1_0
         ·rw [if_pos c18] at H
          have c18b0 : ((rd t116 0) == a1_0) = true := beq_iff_eq.mpr c18
          have c18b1 : ((rd t116 0) != a1_0) = false := bne_eq_false_iff_eq.mpr c18
          clear c18
          by_cases c19 : 64 < (t116.length : Int)
          ·rw [if_pos c19] at H
           have c19b0 : decide (64 < (t116.length : Int)) = true := decide_eq_true c19
           have c19b1 : decide (64 < t116.length) = true := decide_eq_true (by omega)
           clear c19
           by_cases c20 : (rd t116 64) = a2_0
           ·rw [if_pos c20] at H
            have c20b0 : ((rd t116 64) == a2_0) = true := beq_iff_eq.mpr c20
            have c20b1 : ((rd t116 64) != a2_0) = false := bne_eq_false_iff_eq.mpr c20
            clear c20
            by_cases c21 : 1 < (t116.length : Int)
            ·rw [if_pos c21] at H
             have c21b0 : decide (1 < (t116.length : Int)) = true := decide_eq_true c21
             have c21b1 : decide (1 < t116.length) = true := decide_eq_true (by omega)
             clear c21
             by_cases c22 : (rd t116 1) = 0
             ·rw [if_pos c22] at H
              have c22b0 : ((rd t116 1) == 0) = true := beq_iff_eq.mpr c22
              have c22b1 : ((rd t116 1) != 0) = false := bne_eq_false_iff_eq.mpr c22
              clear c22
              by_cases c23 : 127 < (t116.length : Int)
              ·rw [if_pos c23] at H
               have c23b0 : decide (127 < (t116.length : Int)) = true := decide_eq_true c23
               have c23b1 : decide (127 < t116.length) = true := decide_eq_true (by omega)
               clear c23
               have H' := Aside0.mk H
               clear H
               obtain ⟨Ao24, co24, eo24⟩ := Kd.V_slice HO118.out
               subst eo24
               have p120 : 0 ≤ (0 : Int) := (by omega)
               have q120 : 0 < (t116.length : Int) := of_decide_eq_true (by first | (with_reducible assumption) | assumption)
               obtain ⟨ad120, e120, hx120_0⟩ := Kd.at_int (Kd.V_reads' HO118.out).2.2 0 p120 q120
               cases e120
               have qi120 : (0 < t116.length) = True := eq_true (by omega)
               (try rw [show ((0 : Int)).toNat = 0 from rfl] at hx120_0)
               (try rw [Addr.add_zero'] at hx120_0)
               replace p120 := eq_true p120
               replace q120 := eq_true q120
               have hnb25 := NB114_113.out
               have hnc25 := NB113_114.out
               have hnb26 := NB114_115.out
               have hnc26 := NB115_114.out
               have hcz27_0 : w13.cell? ⟨gb114, 0, none⟩ = some (.int .u8 a1_0) := bc BK114 0
               have hcz27_1 : w13.cell? ⟨gb114, 1, none⟩ = some (.int .u8 a1_1) := bc BK114 1
               have hcz27_2 : w13.cell? ⟨gb114, 2, none⟩ = some (.int .u8 a1_2) := bc BK114 2
               have hcz27_3 : w13.cell? ⟨gb114, 3, none⟩ = some (.int .u8 a1_3) := bc BK114 3
               have hfz27_0 := blk_frozen BK114.out 0
               have hfz27_1 := blk_frozen BK114.out 1
               have hfz27_2 := blk_frozen BK114.out 2
               have hfz27_3 := blk_frozen BK114.out 3
               have p121 : 0 ≤ (64 : Int) := (by omega)
               have q121 : 64 < (t116.length : Int) := of_decide_eq_true (by first | (with_reducible assumption) | assumption)
               obtain ⟨ad121, e121, hx121_0⟩ := Kd.at_int (Kd.V_reads' HO118.out).2.2 64 p121 q121
               obtain rfl : ad120 = ad121 := (by injection e121)
               (try simp only [show (64 : Int).toNat = 64 from rfl, Nat.reduceMul, Nat.reduceEqDiff, Go.Addr.add, ↓reduceIte] at hx121_0)
               have qi121 : (64 < t116.length) = True := eq_true (by omega)
               (try rw [show ((64 : Int)).toNat = 64 from rfl] at hx121_0)
               replace p121 := eq_true p121
               replace q121 := eq_true q121
               have hnb28 := NB115_113.out
               have hnc28 := NB113_115.out
               have hcz29_0 : w13.cell? ⟨gb115, 0, none⟩ = some (.int .u8 a2_0) := bc BK115 0
               have hcz29_1 : w13.cell? ⟨gb115, 1, none⟩ = some (.int .u8 a2_1) := bc BK115 1
               have hcz29_2 : w13.cell? ⟨gb115, 2, none⟩ = some (.int .u8 a2_2) := bc BK115 2
               have hcz29_3 : w13.cell? ⟨gb115, 3, none⟩ = some (.int .u8 a2_3) := bc BK115 3
               have hfz29_0 := blk_frozen BK115.out 0
               have hfz29_1 := blk_frozen BK115.out 1
               have hfz29_2 := blk_frozen BK115.out 2
               have hfz29_3 := blk_frozen BK115.out 3
               have p122 : 0 ≤ (1 : Int) := (by omega)
               have q122 : 1 < (t116.length : Int) := of_decide_eq_true (by first | (with_reducible assumption) | assumption)
               obtain ⟨ad122, e122, hx122_0⟩ := Kd.at_int (Kd.V_reads' HO118.out).2.2 1 p122 q122
               obtain rfl : ad120 = ad122 := (by injection e122)
               (try simp only [show (1 : Int).toNat = 1 from rfl, Nat.reduceMul, Nat.reduceEqDiff, Go.Addr.add, ↓reduceIte] at hx122_0)
               have qi122 : (1 < t116.length) = True := eq_true (by omega)
               (try rw [show ((1 : Int)).toNat = 1 from rfl] at hx122_0)
               replace p122 := eq_true p122
               replace q122 := eq_true q122
               have p123 : 0 ≤ (127 : Int) := (by omega)
               have q123 : 127 < (t116.length : Int) := of_decide_eq_true (by first | (with_reducible assumption) | assumption)
               obtain ⟨ad123, e123, hx123_0⟩ := Kd.at_int (Kd.V_reads' HO118.out).2.2 127 p123 q123
               obtain rfl : ad120 = ad123 := (by injection e123)
               (try simp only [show (127 : Int).toNat = 127 from rfl, Nat.reduceMul, Nat.reduceEqDiff, Go.Addr.add, ↓reduceIte] at hx123_0)
               have qi123 : (127 < t116.length) = True := eq_true (by omega)
               (try rw [show ((127 : Int)).toNat = 127 from rfl] at hx123_0)
               replace p123 := eq_true p123
               replace q123 := eq_true q123
               go_wp2
               repeat (go_quiet (fail); try go_wp2)
               go_meet
               case rel => exact ⟨_, (((rd t116 127) != 0)), (by first | rfl | (simp; done) | (simp [*]; done)), H', ⟨by have := HK1.out; first | omega | exact Nat.le_refl _⟩, ⟨zk BK113.out⟩, ⟨zk BK114.out⟩, ⟨zk BK115.out⟩, ⟨blw HB.out⟩⟩
              ·rw [if_neg c23] at H
               exact absurd H (by simp)
             ·rw [if_neg c22] at H
              have c22b0 : ((rd t116 1) == 0) = false := beq_eq_false_iff_ne.mpr c22
              have c22b1 : ((rd t116 1) != 0) = true := bne_iff_ne.mpr c22
              have H' := Aside0.mk H
              clear H
              obtain ⟨Ao30, co30, eo30⟩ := Kd.V_slice HO118.out
              subst eo30
              have p120 : 0 ≤ (0 : Int) := (by omega)
              have q120 : 0 < (t116.length : Int) := of_decide_eq_true (by first | (with_reducible assumption) | assumption)
              obtain ⟨ad120, e120, hx120_0⟩ := Kd.at_int (Kd.V_reads' HO118.out).2.2 0 p120 q120
              cases e120
              have qi120 : (0 < t116.length) = True := eq_true (by omega)
              (try rw [show ((0 : Int)).toNat = 0 from rfl] at hx120_0)
              (try rw [Addr.add_zero'] at hx120_0)
              replace p120 := eq_true p120
              replace q120 := eq_true q120
              have hnb31 := NB114_113.out
              have hnc31 := NB113_114.out
              have hnb32 := NB114_115.out
              have hnc32 := NB115_114.out
              have hcz33_0 : w13.cell? ⟨gb114, 0, none⟩ = some (.int .u8 a1_0) := bc BK114 0
              have hcz33_1 : w13.cell? ⟨gb114, 1, none⟩ = some (.int .u8 a1_1) := bc BK114 1
              have hcz33_2 : w13.cell? ⟨gb114, 2, none⟩ = some (.int .u8 a1_2) := bc BK114 2
              have hcz33_3 : w13.cell? ⟨gb114, 3, none⟩ = some (.int .u8 a1_3) := bc BK114 3
              have hfz33_0 := blk_frozen BK114.out 0
              have hfz33_1 := blk_frozen BK114.out 1
              have hfz33_2 := blk_frozen BK114.out 2
              have hfz33_3 := blk_frozen BK114.out 3
              have p121 : 0 ≤ (64 : Int) := (by omega)
              have q121 : 64 < (t116.length : Int) := of_decide_eq_true (by first | (with_reducible assumption) | assumption)
              obtain ⟨ad121, e121, hx121_0⟩ := Kd.at_int (Kd.V_reads' HO118.out).2.2 64 p121 q121
              obtain rfl : ad120 = ad121 := (by injection e121)
              (try simp only [show (64 : Int).toNat = 64 from rfl, Nat.reduceMul, Nat.reduceEqDiff, Go.Addr.add, ↓reduceIte] at hx121_0)
              have qi121 : (64 < t116.length) = True := eq_true (by omega)
              (try rw [show ((64 : Int)).toNat = 64 from rfl] at hx121_0)
              replace p121 := eq_true p121
              replace q121 := eq_true q121
              have hnb34 := NB115_113.out
              have hnc34 := NB113_115.out
              have hcz35_0 : w13.cell? ⟨gb115, 0, none⟩ = some (.int .u8 a2_0) := bc BK115 0
              have hcz35_1 : w13.cell? ⟨gb115, 1, none⟩ = some (.int .u8 a2_1) := bc BK115 1
              have hcz35_2 : w13.cell? ⟨gb115, 2, none⟩ = some (.int .u8 a2_2) := bc BK115 2
              have hcz35_3 : w13.cell? ⟨gb115, 3, none⟩ = some (.int .u8 a2_3) := bc BK115 3
              have hfz35_0 := blk_frozen BK115.out 0
              have hfz35_1 := blk_frozen BK115.out 1
              have hfz35_2 := blk_frozen BK115.out 2
              have hfz35_3 := blk_frozen BK115.out 3
              have p122 : 0 ≤ (1 : Int) := (by omega)
              have q122 : 1 < (t116.length : Int) := of_decide_eq_true (by first | (with_reducible assumption) | assumption)
              obtain ⟨ad122, e122, hx122_0⟩ := Kd.at_int (Kd.V_reads' HO118.out).2.2 1 p122 q122
              obtain rfl : ad120 = ad122 := (by injection e122)
              (try simp only [show (1 : Int).toNat = 1 from rfl, Nat.reduceMul, Nat.reduceEqDiff, Go.Addr.add, ↓reduceIte] at hx122_0)
              have qi122 : (1 < t116.length) = True := eq_true (by omega)
              (try rw [show ((1 : Int)).toNat = 1 from rfl] at hx122_0)
              replace p122 := eq_true p122
              replace q122 := eq_true q122
              go_wp2
              repeat (go_quiet (fail); try go_wp2)
              go_meet
              case rel => exact ⟨_, (true), (by first | rfl | (simp; done) | (simp [*]; done)), H', ⟨by have := HK1.out; first | omega | exact Nat.le_refl _⟩, ⟨zk BK113.out⟩, ⟨zk BK114.out⟩, ⟨zk BK115.out⟩, ⟨blw HB.out⟩⟩
            ·rw [if_neg c21] at H
             exact absurd H (by simp)
           ·rw [if_neg c20] at H
            have c20b0 : ((rd t116 64) == a2_0) = false := beq_eq_false_iff_ne.mpr c20
            have c20b1 : ((rd t116 64) != a2_0) = true := bne_iff_ne.mpr c20
            have H' := Aside0.mk H
            clear H
            obtain ⟨Ao36, co36, eo36⟩ := Kd.V_slice HO118.out
            subst eo36
            have p120 : 0 ≤ (0 : Int) := (by omega)
            have q120 : 0 < (t116.length : Int) := of_decide_eq_true (by first | (with_reducible assumption) | assumption)
            obtain ⟨ad120, e120, hx120_0⟩ := Kd.at_int (Kd.V_reads' HO118.out).2.2 0 p120 q120
            cases e120
            have qi120 : (0 < t116.length) = True := eq_true (by omega)
            (try rw [show ((0 : Int)).toNat = 0 from rfl] at hx120_0)
            (try rw [Addr.add_zero'] at hx120_0)
            replace p120 := eq_true p120
            replace q120 := eq_true q120
            have hnb37 := NB114_113.out
            have hnc37 := NB113_114.out
            have hnb38 := NB114_115.out
            have hnc38 := NB115_114.out
            have hcz39_0 : w13.cell? ⟨gb114, 0, none⟩ = some (.int .u8 a1_0) := bc BK114 0
            have hcz39_1 : w13.cell? ⟨gb114, 1, none⟩ = some (.int .u8 a1_1) := bc BK114 1
            have hcz39_2 : w13.cell? ⟨gb114, 2, none⟩ = some (.int .u8 a1_2) := bc BK114 2
            have hcz39_3 : w13.cell? ⟨gb114, 3, none⟩ = some (.int .u8 a1_3) := bc BK114 3
            have hfz39_0 := blk_frozen BK114.out 0
            have hfz39_1 := blk_frozen BK114.out 1
            have hfz39_2 := blk_frozen BK114.out 2
            have hfz39_3 := blk_frozen BK114.out 3
            have p121 : 0 ≤ (64 : Int) := (by omega)
            have q121 : 64 < (t116.length : Int) := of_decide_eq_true (by first | (with_reducible assumption) | assumption)
            obtain ⟨ad121, e121, hx121_0⟩ := Kd.at_int (Kd.V_reads' HO118.out).2.2 64 p121 q121
            obtain rfl : ad120 = ad121 := (by injection e121)
            (try simp only [show (64 : Int).toNat = 64 from rfl, Nat.reduceMul, Nat.reduceEqDiff, Go.Addr.add, ↓reduceIte] at hx121_0)
            have qi121 : (64 < t116.length) = True := eq_true (by omega)
            (try rw [show ((64 : Int)).toNat = 64 from rfl] at hx121_0)
            replace p121 := eq_true p121
            replace q121 := eq_true q121
            have hnb40 := NB115_113.out
            have hnc40 := NB113_115.out
            have hcz41_0 : w13.cell? ⟨gb115, 0, none⟩ = some (.int .u8 a2_0) := bc BK115 0
            have hcz41_1 : w13.cell? ⟨gb115, 1, none⟩ = some (.int .u8 a2_1) := bc BK115 1
            have hcz41_2 : w13.cell? ⟨gb115, 2, none⟩ = some (.int .u8 a2_2) := bc BK115 2
            have hcz41_3 : w13.cell? ⟨gb115, 3, none⟩ = some (.int .u8 a2_3) := bc BK115 3
            have hfz41_0 := blk_frozen BK115.out 0
            have hfz41_1 := blk_frozen BK115.out 1
            have hfz41_2 := blk_frozen BK115.out 2
            have hfz41_3 := blk_frozen BK115.out 3
            go_wp2
            repeat (go_quiet (fail); try go_wp2)
            go_meet
            case rel => exact ⟨_, (true), (by first | rfl | (simp; done) | (simp [*]; done)), H', ⟨by have := HK1.out; first | omega | exact Nat.le_refl _⟩, ⟨zk BK113.out⟩, ⟨zk BK114.out⟩, ⟨zk BK115.out⟩, ⟨blw HB.out⟩⟩
          ·rw [if_neg c19] at H
           exact absurd H (by simp)
         ·rw [if_neg c18] at H
          have c18b0 : ((rd t116 0) == a1_0) = false := beq_eq_false_iff_ne.mpr c18
          have c18b1 : ((rd t116 0) != a1_0) = true := bne_iff_ne.mpr c18
          have H' := Aside0.mk H
          clear H
          obtain ⟨Ao42, co42, eo42⟩ := Kd.V_slice HO118.out
          subst eo42
          have p120 : 0 ≤ (0 : Int) := (by omega)
          have q120 : 0 < (t116.length : Int) := of_decide_eq_true (by first | (with_reducible assumption) | assumption)
          obtain ⟨ad120, e120, hx120_0⟩ := Kd.at_int (Kd.V_reads' HO118.out).2.2 0 p120 q120
          cases e120
          have qi120 : (0 < t116.length) = True := eq_true (by omega)
          (try rw [show ((0 : Int)).toNat = 0 from rfl] at hx120_0)
          (try rw [Addr.add_zero'] at hx120_0)
          replace p120 := eq_true p120
          replace q120 := eq_true q120
          have hnb43 := NB114_113.out
          have hnc43 := NB113_114.out
          have hnb44 := NB114_115.out
          have hnc44 := NB115_114.out
          have hcz45_0 : w13.cell? ⟨gb114, 0, none⟩ = some (.int .u8 a1_0) := bc BK114 0
          have hcz45_1 : w13.cell? ⟨gb114, 1, none⟩ = some (.int .u8 a1_1) := bc BK114 1
          have hcz45_2 : w13.cell? ⟨gb114, 2, none⟩ = some (.int .u8 a1_2) := bc BK114 2
          have hcz45_3 : w13.cell? ⟨gb114, 3, none⟩ = some (.int .u8 a1_3) := bc BK114 3
          have hfz45_0 := blk_frozen BK114.out 0
          have hfz45_1 := blk_frozen BK114.out 1
          have hfz45_2 := blk_frozen BK114.out 2
          have hfz45_3 := blk_frozen BK114.out 3
          go_wp2
          repeat (go_quiet (fail); try go_wp2)
          go_meet
          case rel => exact ⟨_, (true), (by first | rfl | (simp; done) | (simp [*]; done)), H', ⟨by have := HK1.out; first | omega | exact Nat.le_refl _⟩, ⟨zk BK113.out⟩, ⟨zk BK114.out⟩, ⟨zk BK115.out⟩, ⟨blw HB.out⟩⟩
        ·rw [if_neg c17] at H
         have c17b0 : (x7_1 == 0) = false := beq_eq_false_iff_ne.mpr c17
         have c17b1 : (x7_1 != 0) = true := bne_iff_ne.mpr c17
         by_cases c46 : x7_1 = 1
         ·rw [if_pos c46] at H
          obtain ⟨c46t, c46l, c46g, c46h, c46j⟩ := idx4 1 c46
          have c46b0 : (x7_1 == 1) = true := beq_iff_eq.mpr c46
          have c46b1 : (x7_1 != 1) = false := bne_eq_false_iff_eq.mpr c46
          clear c46
          by_cases c47 : (rd t116 0) = a1_1
          ·rw [if_pos c47] at H
           have c47b0 : ((rd t116 0) == a1_1) = true := beq_iff_eq.mpr c47
           have c47b1 : ((rd t116 0) != a1_1) = false := bne_eq_false_iff_eq.mpr c47
           clear c47
           by_cases c48 : 64 < (t116.length : Int)
           ·rw [if_pos c48] at H
            have c48b0 : decide (64 < (t116.length : Int)) = true := decide_eq_true c48
            have c48b1 : decide (64 < t116.length) = true := decide_eq_true (by omega)
            clear c48
            by_cases c49 : (rd t116 64) = a2_1
            ·rw [if_pos c49] at H
             have c49b0 : ((rd t116 64) == a2_1) = true := beq_iff_eq.mpr c49
             have c49b1 : ((rd t116 64) != a2_1) = false := bne_eq_false_iff_eq.mpr c49
             clear c49
             by_cases c50 : 1 < (t116.length : Int)
             ·rw [if_pos c50] at H
              have c50b0 : decide (1 < (t116.length : Int)) = true := decide_eq_true c50
              have c50b1 : decide (1 < t116.length) = true := decide_eq_true (by omega)
              clear c50
              by_cases c51 : (rd t116 1) = 0
              ·rw [if_pos c51] at H
               have c51b0 : ((rd t116 1) == 0) = true := beq_iff_eq.mpr c51
               have c51b1 : ((rd t116 1) != 0) = false := bne_eq_false_iff_eq.mpr c51
               clear c51
               by_cases c52 : 127 < (t116.length : Int)
               ·rw [if_pos c52] at H
                have c52b0 : decide (127 < (t116.length : Int)) = true := decide_eq_true c52
                have c52b1 : decide (127 < t116.length) = true := decide_eq_true (by omega)
                clear c52
                have H' := Aside0.mk H
                clear H
                obtain ⟨Ao53, co53, eo53⟩ := Kd.V_slice HO118.out
                subst eo53
                have p120 : 0 ≤ (0 : Int) := (by omega)
                have q120 : 0 < (t116.length : Int) := of_decide_eq_true (by first | (with_reducible assumption) | assumption)
                obtain ⟨ad120, e120, hx120_0⟩ := Kd.at_int (Kd.V_reads' HO118.out).2.2 0 p120 q120
                cases e120
                have qi120 : (0 < t116.length) = True := eq_true (by omega)
                (try rw [show ((0 : Int)).toNat = 0 from rfl] at hx120_0)
                (try rw [Addr.add_zero'] at hx120_0)
                replace p120 := eq_true p120
                replace q120 := eq_true q120
                have hnb54 := NB114_113.out
                have hnc54 := NB113_114.out
                have hnb55 := NB114_115.out
                have hnc55 := NB115_114.out
                have hcz56_0 : w13.cell? ⟨gb114, 0, none⟩ = some (.int .u8 a1_0) := bc BK114 0
                have hcz56_1 : w13.cell? ⟨gb114, 1, none⟩ = some (.int .u8 a1_1) := bc BK114 1
                have hcz56_2 : w13.cell? ⟨gb114, 2, none⟩ = some (.int .u8 a1_2) := bc BK114 2
                have hcz56_3 : w13.cell? ⟨gb114, 3, none⟩ = some (.int .u8 a1_3) := bc BK114 3
                have hfz56_0 := blk_frozen BK114.out 0
                have hfz56_1 := blk_frozen BK114.out 1
                have hfz56_2 := blk_frozen BK114.out 2
                have hfz56_3 := blk_frozen BK114.out 3
                have p124 : 0 ≤ (64 : Int) := (by omega)
                have q124 : 64 < (t116.length : Int) := of_decide_eq_true (by first | (with_reducible assumption) | assumption)
                obtain ⟨ad124, e124, hx124_0⟩ := Kd.at_int (Kd.V_reads' HO118.out).2.2 64 p124 q124
                obtain rfl : ad120 = ad124 := (by injection e124)
                (try simp only [show (64 : Int).toNat = 64 from rfl, Nat.reduceMul, Nat.reduceEqDiff, Go.Addr.add, ↓reduceIte] at hx124_0)
                have qi124 : (64 < t116.length) = True := eq_true (by omega)
                (try rw [show ((64 : Int)).toNat = 64 from rfl] at hx124_0)
                replace p124 := eq_true p124
                replace q124 := eq_true q124
                have hnb57 := NB115_113.out
                have hnc57 := NB113_115.out
                have hcz58_0 : w13.cell? ⟨gb115, 0, none⟩ = some (.int .u8 a2_0) := bc BK115 0
                have hcz58_1 : w13.cell? ⟨gb115, 1, none⟩ = some (.int .u8 a2_1) := bc BK115 1
                have hcz58_2 : w13.cell? ⟨gb115, 2, none⟩ = some (.int .u8 a2_2) := bc BK115 2
                have hcz58_3 : w13.cell? ⟨gb115, 3, none⟩ = some (.int .u8 a2_3) := bc BK115 3
                have hfz58_0 := blk_frozen BK115.out 0
                have hfz58_1 := blk_frozen BK115.out 1
                have hfz58_2 := blk_frozen BK115.out 2
                have hfz58_3 := blk_frozen BK115.out 3
                have p125 : 0 ≤ (1 : Int) := (by omega)
                have q125 : 1 < (t116.length : Int) := of_decide_eq_true (by first | (with_reducible assumption) | assumption)
                obtain ⟨ad125, e125, hx125_0⟩ := Kd.at_int (Kd.V_reads' HO118.out).2.2 1 p125 q125
                obtain rfl : ad120 = ad125 := (by injection e125)
                (try simp only [show (1 : Int).toNat = 1 from rfl, Nat.reduceMul, Nat.reduceEqDiff, Go.Addr.add, ↓reduceIte] at hx125_0)
                have qi125 : (1 < t116.length) = True := eq_true (by omega)
                (try rw [show ((1 : Int)).toNat = 1 from rfl] at hx125_0)
                replace p125 := eq_true p125
                replace q125 := eq_true q125
                have p126 : 0 ≤ (127 : Int) := (by omega)
                have q126 : 127 < (t116.length : Int) := of_decide_eq_true (by first | (with_reducible assumption) | assumption)
                obtain ⟨ad126, e126, hx126_0⟩ := Kd.at_int (Kd.V_reads' HO118.out).2.2 127 p126 q126
                obtain rfl : ad120 = ad126 := (by injection e126)
                (try simp only [show (127 : Int).toNat = 127 from rfl, Nat.reduceMul, Nat.reduceEqDiff, Go.Addr.add, ↓reduceIte] at hx126_0)
                have qi126 : (127 < t116.length) = True := eq_true (by omega)
                (try rw [show ((127 : Int)).toNat = 127 from rfl] at hx126_0)
                replace p126 := eq_true p126
                replace q126 := eq_true q126
                go_wp2
                repeat (go_quiet (fail); try go_wp2)
                go_meet
                case rel => exact ⟨_, (((rd t116 127) != 0)), (by first | rfl | (simp; done) | (simp [*]; done)), H', ⟨by have := HK1.out; first | omega | exact Nat.le_refl _⟩, ⟨zk BK113.out⟩, ⟨zk BK114.out⟩, ⟨zk BK115.out⟩, ⟨blw HB.out⟩⟩
               ·rw [if_neg c52] at H
                exact absurd H (by simp)
              ·rw [if_neg c51] at H
               have c51b0 : ((rd t116 1) == 0) = false := beq_eq_false_iff_ne.mpr c51
               have c51b1 : ((rd t116 1) != 0) = true := bne_iff_ne.mpr c51
               have H' := Aside0.mk H
               clear H
               obtain ⟨Ao59, co59, eo59⟩ := Kd.V_slice HO118.out
               subst eo59
               have p120 : 0 ≤ (0 : Int) := (by omega)
               have q120 : 0 < (t116.length : Int) := of_decide_eq_true (by first | (with_reducible assumption) | assumption)
               obtain ⟨ad120, e120, hx120_0⟩ := Kd.at_int (Kd.V_reads' HO118.out).2.2 0 p120 q120
               cases e120
               have qi120 : (0 < t116.length) = True := eq_true (by omega)
               (try rw [show ((0 : Int)).toNat = 0 from rfl] at hx120_0)
               (try rw [Addr.add_zero'] at hx120_0)
               replace p120 := eq_true p120
               replace q120 := eq_true q120
               have hnb60 := NB114_113.out
               have hnc60 := NB113_114.out
               have hnb61 := NB114_115.out
               have hnc61 := NB115_114.out
               have hcz62_0 : w13.cell? ⟨gb114, 0, none⟩ = some (.int .u8 a1_0) := bc BK114 0
               have hcz62_1 : w13.cell? ⟨gb114, 1, none⟩ = some (.int .u8 a1_1) := bc BK114 1
               have hcz62_2 : w13.cell? ⟨gb114, 2, none⟩ = some (.int .u8 a1_2) := bc BK114 2
               have hcz62_3 : w13.cell? ⟨gb114, 3, none⟩ = some (.int .u8 a1_3) := bc BK114 3
               have hfz62_0 := blk_frozen BK114.out 0
               have hfz62_1 := blk_frozen BK114.out 1
               have hfz62_2 := blk_frozen BK114.out 2
               have hfz62_3 := blk_frozen BK114.out 3
               have p124 : 0 ≤ (64 : Int) := (by omega)
               have q124 : 64 < (t116.length : Int) := of_decide_eq_true (by first | (with_reducible assumption) | assumption)
               obtain ⟨ad124, e124, hx124_0⟩ := Kd.at_int (Kd.V_reads' HO118.out).2.2 64 p124 q124
               obtain rfl : ad120 = ad124 := (by injection e124)
               (try simp only [show (64 : Int).toNat = 64 from rfl, Nat.reduceMul, Nat.reduceEqDiff, Go.Addr.add, ↓reduceIte] at hx124_0)
               have qi124 : (64 < t116.length) = True := eq_true (by omega)
               (try rw [show ((64 : Int)).toNat = 64 from rfl] at hx124_0)
               replace p124 := eq_true p124
               replace q124 := eq_true q124
               have hnb63 := NB115_113.out
               have hnc63 := NB113_115.out
               have hcz64_0 : w13.cell? ⟨gb115, 0, none⟩ = some (.int .u8 a2_0) := bc BK115 0
               have hcz64_1 : w13.cell? ⟨gb115, 1, none⟩ = some (.int .u8 a2_1) := bc BK115 1
               have hcz64_2 : w13.cell? ⟨gb115, 2, none⟩ = some (.int .u8 a2_2) := bc BK115 2
               have hcz64_3 : w13.cell? ⟨gb115, 3, none⟩ = some (.int .u8 a2_3) := bc BK115 3
               have hfz64_0 := blk_frozen BK115.out 0
               have hfz64_1 := blk_frozen BK115.out 1
               have hfz64_2 := blk_frozen BK115.out 2
               have hfz64_3 := blk_frozen BK115.out 3
               have p125 : 0 ≤ (1 : Int) := (by omega)
               have q125 : 1 < (t116.length : Int) := of_decide_eq_true (by first | (with_reducible assumption) | assumption)
               obtain ⟨ad125, e125, hx125_0⟩ := Kd.at_int (Kd.V_reads' HO118.out).2.2 1 p125 q125
               obtain rfl : ad120 = ad125 := (by injection e125)
               (try simp only [show (1 : Int).toNat = 1 from rfl, Nat.reduceMul, Nat.reduceEqDiff, Go.Addr.add, ↓reduceIte] at hx125_0)
               have qi125 : (1 < t116.length) = True := eq_true (by omega)
               (try rw [show ((1 : Int)).toNat = 1 from rfl] at hx125_0)
               replace p125 := eq_true p125
               replace q125 := eq_true q125
               go_wp2
               repeat (go_quiet (fail); try go_wp2)
               go_meet
               case rel => exact ⟨_, (true), (by first | rfl | (simp; done) | (simp [*]; done)), H', ⟨by have := HK1.out; first | omega | exact Nat.le_refl _⟩, ⟨zk BK113.out⟩, ⟨zk BK114.out⟩, ⟨zk BK115.out⟩, ⟨blw HB.out⟩⟩
             ·rw [if_neg c50] at H
              exact absurd H (by simp)
            ·rw [if_neg c49] at H
             have c49b0 : ((rd t116 64) == a2_1) = false := beq_eq_false_iff_ne.mpr c49
             have c49b1 : ((rd t116 64) != a2_1) = true := bne_iff_ne.mpr c49
             have H' := Aside0.mk H
             clear H
             obtain ⟨Ao65, co65, eo65⟩ := Kd.V_slice HO118.out
             subst eo65
             have p120 : 0 ≤ (0 : Int) := (by omega)
             have q120 : 0 < (t116.length : Int) := of_decide_eq_true (by first | (with_reducible assumption) | assumption)
             obtain ⟨ad120, e120, hx120_0⟩ := Kd.at_int (Kd.V_reads' HO118.out).2.2 0 p120 q120
             cases e120
             have qi120 : (0 < t116.length) = True := eq_true (by omega)
             (try rw [show ((0 : Int)).toNat = 0 from rfl] at hx120_0)
             (try rw [Addr.add_zero'] at hx120_0)
             replace p120 := eq_true p120
             replace q120 := eq_true q120
             have hnb66 := NB114_113.out
             have hnc66 := NB113_114.out
             have hnb67 := NB114_115.out
             have hnc67 := NB115_114.out
             have hcz68_0 : w13.cell? ⟨gb114, 0, none⟩ = some (.int .u8 a1_0) := bc BK114 0
             have hcz68_1 : w13.cell? ⟨gb114, 1, none⟩ = some (.int .u8 a1_1) := bc BK114 1
             have hcz68_2 : w13.cell? ⟨gb114, 2, none⟩ = some (.int .u8 a1_2) := bc BK114 2
             have hcz68_3 : w13.cell? ⟨gb114, 3, none⟩ = some (.int .u8 a1_3) := bc BK114 3
             have hfz68_0 := blk_frozen BK114.out 0
             have hfz68_1 := blk_frozen BK114.out 1
             have hfz68_2 := blk_frozen BK114.out 2
             have hfz68_3 := blk_frozen BK114.out 3
             have p124 : 0 ≤ (64 : Int) := (by omega)
             have q124 : 64 < (t116.length : Int) := of_decide_eq_true (by first | (with_reducible assumption) | assumption)
             obtain ⟨ad124, e124, hx124_0⟩ := Kd.at_int (Kd.V_reads' HO118.out).2.2 64 p124 q124
             obtain rfl : ad120 = ad124 := (by injection e124)
             (try simp only [show (64 : Int).toNat = 64 from rfl, Nat.reduceMul, Nat.reduceEqDiff, Go.Addr.add, ↓reduceIte] at hx124_0)
             have qi124 : (64 < t116.length) = True := eq_true (by omega)
             (try rw [show ((64 : Int)).toNat = 64 from rfl] at hx124_0)
             replace p124 := eq_true p124
             replace q124 := eq_true q124
             have hnb69 := NB115_113.out
             have hnc69 := NB113_115.out
             have hcz70_0 : w13.cell? ⟨gb115, 0, none⟩ = some (.int .u8 a2_0) := bc BK115 0
             have hcz70_1 : w13.cell? ⟨gb115, 1, none⟩ = some (.int .u8 a2_1) := bc BK115 1
             have hcz70_2 : w13.cell? ⟨gb115, 2, none⟩ = some (.int .u8 a2_2) := bc BK115 2
             have hcz70_3 : w13.cell? ⟨gb115, 3, none⟩ = some (.int .u8 a2_3) := bc BK115 3
             have hfz70_0 := blk_frozen BK115.out 0
             have hfz70_1 := blk_frozen BK115.out 1
             have hfz70_2 := blk_frozen BK115.out 2
             have hfz70_3 := blk_frozen BK115.out 3
             go_wp2
             repeat (go_quiet (fail); try go_wp2)
             go_meet
             case rel => exact ⟨_, (true), (by first | rfl | (simp; done) | (simp [*]; done)), H', ⟨by have := HK1.out; first | omega | exact Nat.le_refl _⟩, ⟨zk BK113.out⟩, ⟨zk BK114.out⟩, ⟨zk BK115.out⟩, ⟨blw HB.out⟩⟩
           ·rw [if_neg c48] at H
            exact absurd H (by simp)
          ·rw [if_neg c47] at H
           have c47b0 : ((rd t116 0) == a1_1) = false := beq_eq_false_iff_ne.mpr c47
           have c47b1 : ((rd t116 0) != a1_1) = true := bne_iff_ne.mpr c47
           have H' := Aside0.mk H
           clear H
           obtain ⟨Ao71, co71, eo71⟩ := Kd.V_slice HO118.out
           subst eo71
           have p120 : 0 ≤ (0 : Int) := (by omega)
           have q120 : 0 < (t116.length : Int) := of_decide_eq_true (by first | (with_reducible assumption) | assumption)
           obtain ⟨ad120, e120, hx120_0⟩ := Kd.at_int (Kd.V_reads' HO118.out).2.2 0 p120 q120
           cases e120
           have qi120 : (0 < t116.length) = True := eq_true (by omega)
           (try rw [show ((0 : Int)).toNat = 0 from rfl] at hx120_0)
           (try rw [Addr.add_zero'] at hx120_0)
           replace p120 := eq_true p120
           replace q120 := eq_true q120
           have hnb72 := NB114_113.out
           have hnc72 := NB113_114.out
           have hnb73 := NB114_115.out
           have hnc73 := NB115_114.out
           have hcz74_0 : w13.cell? ⟨gb114, 0, none⟩ = some (.int .u8 a1_0) := bc BK114 0
           have hcz74_1 : w13.cell? ⟨gb114, 1, none⟩ = some (.int .u8 a1_1) := bc BK114 1
           have hcz74_2 : w13.cell? ⟨gb114, 2, none⟩ = some (.int .u8 a1_2) := bc BK114 2
           have hcz74_3 : w13.cell? ⟨gb114, 3, none⟩ = some (.int .u8 a1_3) := bc BK114 3
           have hfz74_0 := blk_frozen BK114.out 0
           have hfz74_1 := blk_frozen BK114.out 1
           have hfz74_2 := blk_frozen BK114.out 2
           have hfz74_3 := blk_frozen BK114.out 3
           go_wp2
           repeat (go_quiet (fail); try go_wp2)
           go_meet
           case rel => exact ⟨_, (true), (by first | rfl | (simp; done) | (simp [*]; done)), H', ⟨by have := HK1.out; first | omega | exact Nat.le_refl _⟩, ⟨zk BK113.out⟩, ⟨zk BK114.out⟩, ⟨zk BK115.out⟩, ⟨blw HB.out⟩⟩
         ·rw [if_neg c46] at H
          have c46b0 : (x7_1 == 1) = false := beq_eq_false_iff_ne.mpr c46
          have c46b1 : (x7_1 != 1) = true := bne_iff_ne.mpr c46
          by_cases c75 : x7_1 = 2
          ·rw [if_pos c75] at H
           obtain ⟨c75t, c75l, c75g, c75h, c75j⟩ := idx4 2 c75
           have c75b0 : (x7_1 == 2) = true := beq_iff_eq.mpr c75
           have c75b1 : (x7_1 != 2) = false := bne_eq_false_iff_eq.mpr c75
           clear c75
           by_cases c76 : (rd t116 0) = a1_2
           ·rw [if_pos c76] at H
            have c76b0 : ((rd t116 0) == a1_2) = true := beq_iff_eq.mpr c76
            have c76b1 : ((rd t116 0) != a1_2) = false := bne_eq_false_iff_eq.mpr c76
            clear c76
            by_cases c77 : 64 < (t116.length : Int)
            ·rw [if_pos c77] at H
             have c77b0 : decide (64 < (t116.length : Int)) = true := decide_eq_true c77
             have c77b1 : decide (64 < t116.length) = true := decide_eq_true (by omega)
             clear c77
             by_cases c78 : (rd t116 64) = a2_2
             ·rw [if_pos c78] at H
              have c78b0 : ((rd t116 64) == a2_2) = true := beq_iff_eq.mpr c78
              have c78b1 : ((rd t116 64) != a2_2) = false := bne_eq_false_iff_eq.mpr c78
              clear c78
              by_cases c79 : 1 < (t116.length : Int)
              ·rw [if_pos c79] at H
               have c79b0 : decide (1 < (t116.length : Int)) = true := decide_eq_true c79
               have c79b1 : decide (1 < t116.length) = true := decide_eq_true (by omega)
               clear c79
               by_cases c80 : (rd t116 1) = 0
               ·rw [if_pos c80] at H
                have c80b0 : ((rd t116 1) == 0) = true := beq_iff_eq.mpr c80
                have c80b1 : ((rd t116 1) != 0) = false := bne_eq_false_iff_eq.mpr c80
                clear c80
                by_cases c81 : 127 < (t116.length : Int)
                ·rw [if_pos c81] at H
                 have c81b0 : decide (127 < (t116.length : Int)) = true := decide_eq_true c81
                 have c81b1 : decide (127 < t116.length) = true := decide_eq_true (by omega)
                 clear c81
                 have H' := Aside0.mk H
                 clear H
                 obtain ⟨Ao82, co82, eo82⟩ := Kd.V_slice HO118.out
                 subst eo82
                 have p120 : 0 ≤ (0 : Int) := (by omega)
                 have q120 : 0 < (t116.length : Int) := of_decide_eq_true (by first | (with_reducible assumption) | assumption)
                 obtain ⟨ad120, e120, hx120_0⟩ := Kd.at_int (Kd.V_reads' HO118.out).2.2 0 p120 q120
                 cases e120
                 have qi120 : (0 < t116.length) = True := eq_true (by omega)
                 (try rw [show ((0 : Int)).toNat = 0 from rfl] at hx120_0)
                 (try rw [Addr.add_zero'] at hx120_0)
                 replace p120 := eq_true p120
                 replace q120 := eq_true q120
                 have hnb83 := NB114_113.out
                 have hnc83 := NB113_114.out
                 have hnb84 := NB114_115.out
                 have hnc84 := NB115_114.out
                 have hcz85_0 : w13.cell? ⟨gb114, 0, none⟩ = some (.int .u8 a1_0) := bc BK114 0
                 have hcz85_1 : w13.cell? ⟨gb114, 1, none⟩ = some (.int .u8 a1_1) := bc BK114 1
                 have hcz85_2 : w13.cell? ⟨gb114, 2, none⟩ = some (.int .u8 a1_2) := bc BK114 2
                 have hcz85_3 : w13.cell? ⟨gb114, 3, none⟩ = some (.int .u8 a1_3) := bc BK114 3
                 have hfz85_0 := blk_frozen BK114.out 0
                 have hfz85_1 := blk_frozen BK114.out 1
                 have hfz85_2 := blk_frozen BK114.out 2
                 have hfz85_3 := blk_frozen BK114.out 3
                 have p127 : 0 ≤ (64 : Int) := (by omega)
                 have q127 : 64 < (t116.length : Int) := of_decide_eq_true (by first | (with_reducible assumption) | assumption)
                 obtain ⟨ad127, e127, hx127_0⟩ := Kd.at_int (Kd.V_reads' HO118.out).2.2 64 p127 q127
                 obtain rfl : ad120 = ad127 := (by injection e127)
                 (try simp only [show (64 : Int).toNat = 64 from rfl, Nat.reduceMul, Nat.reduceEqDiff, Go.Addr.add, ↓reduceIte] at hx127_0)
                 have qi127 : (64 < t116.length) = True := eq_true (by omega)
                 (try rw [show ((64 : Int)).toNat = 64 from rfl] at hx127_0)
                 replace p127 := eq_true p127
                 replace q127 := eq_true q127
                 have hnb86 := NB115_113.out
                 have hnc86 := NB113_115.out
                 have hcz87_0 : w13.cell? ⟨gb115, 0, none⟩ = some (.int .u8 a2_0) := bc BK115 0
                 have hcz87_1 : w13.cell? ⟨gb115, 1, none⟩ = some (.int .u8 a2_1) := bc BK115 1
                 have hcz87_2 : w13.cell? ⟨gb115, 2, none⟩ = some (.int .u8 a2_2) := bc BK115 2
                 have hcz87_3 : w13.cell? ⟨gb115, 3, none⟩ = some (.int .u8 a2_3) := bc BK115 3
                 have hfz87_0 := blk_frozen BK115.out 0
                 have hfz87_1 := blk_frozen BK115.out 1
                 have hfz87_2 := blk_frozen BK115.out 2
                 have hfz87_3 := blk_frozen BK115.out 3
                 have p128 : 0 ≤ (1 : Int) := (by omega)
                 have q128 : 1 < (t116.length : Int) := of_decide_eq_true (by first | (with_reducible assumption) | assumption)
                 obtain ⟨ad128, e128, hx128_0⟩ := Kd.at_int (Kd.V_reads' HO118.out).2.2 1 p128 q128
                 obtain rfl : ad120 = ad128 := (by injection e128)
                 (try simp only [show (1 : Int).toNat = 1 from rfl, Nat.reduceMul, Nat.reduceEqDiff, Go.Addr.add, ↓reduceIte] at hx128_0)
                 have qi128 : (1 < t116.length) = True := eq_true (by omega)
                 (try rw [show ((1 : Int)).toNat = 1 from rfl] at hx128_0)
                 replace p128 := eq_true p128
                 replace q128 := eq_true q128
                 have p129 : 0 ≤ (127 : Int) := (by omega)
                 have q129 : 127 < (t116.length : Int) := of_decide_eq_true (by first | (with_reducible assumption) | assumption)
                 obtain ⟨ad129, e129, hx129_0⟩ := Kd.at_int (Kd.V_reads' HO118.out).2.2 127 p129 q129
                 obtain rfl : ad120 = ad129 := (by injection e129)
                 (try simp only [show (127 : Int).toNat = 127 from rfl, Nat.reduceMul, Nat.reduceEqDiff, Go.Addr.add, ↓reduceIte] at hx129_0)
                 have qi129 : (127 < t116.length) = True := eq_true (by omega)
                 (try rw [show ((127 : Int)).toNat = 127 from rfl] at hx129_0)
                 replace p129 := eq_true p129
                 replace q129 := eq_true q129
                 go_wp2
                 repeat (go_quiet (fail); try go_wp2)
                 go_meet
                 case rel => exact ⟨_, (((rd t116 127) != 0)), (by first | rfl | (simp; done) | (simp [*]; done)), H', ⟨by have := HK1.out; first | omega | exact Nat.le_refl _⟩, ⟨zk BK113.out⟩, ⟨zk BK114.out⟩, ⟨zk BK115.out⟩, ⟨blw HB.out⟩⟩
                ·rw [if_neg c81] at H
                 exact absurd H (by simp)
               ·rw [if_neg c80] at H
                have c80b0 : ((rd t116 1) == 0) = false := beq_eq_false_iff_ne.mpr c80
                have c80b1 : ((rd t116 1) != 0) = true := bne_iff_ne.mpr c80
                have H' := Aside0.mk H
                clear H
                obtain ⟨Ao88, co88, eo88⟩ := Kd.V_slice HO118.out
                subst eo88
                have p120 : 0 ≤ (0 : Int) := (by omega)
                have q120 : 0 < (t116.length : Int) := of_decide_eq_true (by first | (with_reducible assumption) | assumption)
                obtain ⟨ad120, e120, hx120_0⟩ := Kd.at_int (Kd.V_reads' HO118.out).2.2 0 p120 q120
                cases e120
                have qi120 : (0 < t116.length) = True := eq_true (by omega)
                (try rw [show ((0 : Int)).toNat = 0 from rfl] at hx120_0)
                (try rw [Addr.add_zero'] at hx120_0)
                replace p120 := eq_true p120
                replace q120 := eq_true q120
                have hnb89 := NB114_113.out
                have hnc89 := NB113_114.out
                have hnb90 := NB114_115.out
                have hnc90 := NB115_114.out
                have hcz91_0 : w13.cell? ⟨gb114, 0, none⟩ = some (.int .u8 a1_0) := bc BK114 0
                have hcz91_1 : w13.cell? ⟨gb114, 1, none⟩ = some (.int .u8 a1_1) := bc BK114 1
                have hcz91_2 : w13.cell? ⟨gb114, 2, none⟩ = some (.int .u8 a1_2) := bc BK114 2
                have hcz91_3 : w13.cell? ⟨gb114, 3, none⟩ = some (.int .u8 a1_3) := bc BK114 3
                have hfz91_0 := blk_frozen BK114.out 0
                have hfz91_1 := blk_frozen BK114.out 1
                have hfz91_2 := blk_frozen BK114.out 2
                have hfz91_3 := blk_frozen BK114.out 3
                have p127 : 0 ≤ (64 : Int) := (by omega)
                have q127 : 64 < (t116.length : Int) := of_decide_eq_true (by first | (with_reducible assumption) | assumption)
                obtain ⟨ad127, e127, hx127_0⟩ := Kd.at_int (Kd.V_reads' HO118.out).2.2 64 p127 q127
                obtain rfl : ad120 = ad127 := (by injection e127)
                (try simp only [show (64 : Int).toNat = 64 from rfl, Nat.reduceMul, Nat.reduceEqDiff, Go.Addr.add, ↓reduceIte] at hx127_0)
                have qi127 : (64 < t116.length) = True := eq_true (by omega)
                (try rw [show ((64 : Int)).toNat = 64 from rfl] at hx127_0)
                replace p127 := eq_true p127
                replace q127 := eq_true q127
                have hnb92 := NB115_113.out
                have hnc92 := NB113_115.out
                have hcz93_0 : w13.cell? ⟨gb115, 0, none⟩ = some (.int .u8 a2_0) := bc BK115 0
                have hcz93_1 : w13.cell? ⟨gb115, 1, none⟩ = some (.int .u8 a2_1) := bc BK115 1
                have hcz93_2 : w13.cell? ⟨gb115, 2, none⟩ = some (.int .u8 a2_2) := bc BK115 2
                have hcz93_3 : w13.cell? ⟨gb115, 3, none⟩ = some (.int .u8 a2_3) := bc BK115 3
                have hfz93_0 := blk_frozen BK115.out 0
                have hfz93_1 := blk_frozen BK115.out 1
                have hfz93_2 := blk_frozen BK115.out 2
                have hfz93_3 := blk_frozen BK115.out 3
                have p128 : 0 ≤ (1 : Int) := (by omega)
                have q128 : 1 < (t116.length : Int) := of_decide_eq_true (by first | (with_reducible assumption) | assumption)
                obtain ⟨ad128, e128, hx128_0⟩ := Kd.at_int (Kd.V_reads' HO118.out).2.2 1 p128 q128
                obtain rfl : ad120 = ad128 := (by injection e128)
                (try simp only [show (1 : Int).toNat = 1 from rfl, Nat.reduceMul, Nat.reduceEqDiff, Go.Addr.add, ↓reduceIte] at hx128_0)
                have qi128 : (1 < t116.length) = True := eq_true (by omega)
                (try rw [show ((1 : Int)).toNat = 1 from rfl] at hx128_0)
                replace p128 := eq_true p128
                replace q128 := eq_true q128
                go_wp2
                repeat (go_quiet (fail); try go_wp2)
                go_meet
                case rel => exact ⟨_, (true), (by first | rfl | (simp; done) | (simp [*]; done)), H', ⟨by have := HK1.out; first | omega | exact Nat.le_refl _⟩, ⟨zk BK113.out⟩, ⟨zk BK114.out⟩, ⟨zk BK115.out⟩, ⟨blw HB.out⟩⟩
              ·rw [if_neg c79] at H
               exact absurd H (by simp)
             ·rw [if_neg c78] at H
              have c78b0 : ((rd t116 64) == a2_2) = false := beq_eq_false_iff_ne.mpr c78
              have c78b1 : ((rd t116 64) != a2_2) = true := bne_iff_ne.mpr c78
              have H' := Aside0.mk H
              clear H
              obtain ⟨Ao94, co94, eo94⟩ := Kd.V_slice HO118.out
              subst eo94
              have p120 : 0 ≤ (0 : Int) := (by omega)
              have q120 : 0 < (t116.length : Int) := of_decide_eq_true (by first | (with_reducible assumption) | assumption)
              obtain ⟨ad120, e120, hx120_0⟩ := Kd.at_int (Kd.V_reads' HO118.out).2.2 0 p120 q120
              cases e120
              have qi120 : (0 < t116.length) = True := eq_true (by omega)
              (try rw [show ((0 : Int)).toNat = 0 from rfl] at hx120_0)
              (try rw [Addr.add_zero'] at hx120_0)
              replace p120 := eq_true p120
              replace q120 := eq_true q120
              have hnb95 := NB114_113.out
              have hnc95 := NB113_114.out
              have hnb96 := NB114_115.out
              have hnc96 := NB115_114.out
              have hcz97_0 : w13.cell? ⟨gb114, 0, none⟩ = some (.int .u8 a1_0) := bc BK114 0
              have hcz97_1 : w13.cell? ⟨gb114, 1, none⟩ = some (.int .u8 a1_1) := bc BK114 1
              have hcz97_2 : w13.cell? ⟨gb114, 2, none⟩ = some (.int .u8 a1_2) := bc BK114 2
              have hcz97_3 : w13.cell? ⟨gb114, 3, none⟩ = some (.int .u8 a1_3) := bc BK114 3
              have hfz97_0 := blk_frozen BK114.out 0
              have hfz97_1 := blk_frozen BK114.out 1
              have hfz97_2 := blk_frozen BK114.out 2
              have hfz97_3 := blk_frozen BK114.out 3
              have p127 : 0 ≤ (64 : Int) := (by omega)
              have q127 : 64 < (t116.length : Int) := of_decide_eq_true (by first | (with_reducible assumption) | assumption)
              obtain ⟨ad127, e127, hx127_0⟩ := Kd.at_int (Kd.V_reads' HO118.out).2.2 64 p127 q127
              obtain rfl : ad120 = ad127 := (by injection e127)
              (try simp only [show (64 : Int).toNat = 64 from rfl, Nat.reduceMul, Nat.reduceEqDiff, Go.Addr.add, ↓reduceIte] at hx127_0)
              have qi127 : (64 < t116.length) = True := eq_true (by omega)
              (try rw [show ((64 : Int)).toNat = 64 from rfl] at hx127_0)
              replace p127 := eq_true p127
              replace q127 := eq_true q127
              have hnb98 := NB115_113.out
              have hnc98 := NB113_115.out
              have hcz99_0 : w13.cell? ⟨gb115, 0, none⟩ = some (.int .u8 a2_0) := bc BK115 0
              have hcz99_1 : w13.cell? ⟨gb115, 1, none⟩ = some (.int .u8 a2_1) := bc BK115 1
              have hcz99_2 : w13.cell? ⟨gb115, 2, none⟩ = some (.int .u8 a2_2) := bc BK115 2
              have hcz99_3 : w13.cell? ⟨gb115, 3, none⟩ = some (.int .u8 a2_3) := bc BK115 3
              have hfz99_0 := blk_frozen BK115.out 0
              have hfz99_1 := blk_frozen BK115.out 1
              have hfz99_2 := blk_frozen BK115.out 2
              have hfz99_3 := blk_frozen BK115.out 3
              go_wp2
              repeat (go_quiet (fail); try go_wp2)
              go_meet
              case rel => exact ⟨_, (true), (by first | rfl | (simp; done) | (simp [*]; done)), H', ⟨by have := HK1.out; first | omega | exact Nat.le_refl _⟩, ⟨zk BK113.out⟩, ⟨zk BK114.out⟩, ⟨zk BK115.out⟩, ⟨blw HB.out⟩⟩
            ·rw [if_neg c77] at H
             exact absurd H (by simp)
           ·rw [if_neg c76] at H
            have c76b0 : ((rd t116 0) == a1_2) = false := beq_eq_false_iff_ne.mpr c76
            have c76b1 : ((rd t116 0) != a1_2) = true := bne_iff_ne.mpr c76
            have H' := Aside0.mk H
            clear H
            obtain ⟨Ao100, co100, eo100⟩ := Kd.V_slice HO118.out
            subst eo100
            have p120 : 0 ≤ (0 : Int) := (by omega)
            have q120 : 0 < (t116.length : Int) := of_decide_eq_true (by first | (with_reducible assumption) | assumption)
            obtain ⟨ad120, e120, hx120_0⟩ := Kd.at_int (Kd.V_reads' HO118.out).2.2 0 p120 q120
            cases e120
            have qi120 : (0 < t116.length) = True := eq_true (by omega)
            (try rw [show ((0 : Int)).toNat = 0 from rfl] at hx120_0)
            (try rw [Addr.add_zero'] at hx120_0)
            replace p120 := eq_true p120
            replace q120 := eq_true q120
            have hnb101 := NB114_113.out
            have hnc101 := NB113_114.out
            have hnb102 := NB114_115.out
            have hnc102 := NB115_114.out
            have hcz103_0 : w13.cell? ⟨gb114, 0, none⟩ = some (.int .u8 a1_0) := bc BK114 0
            have hcz103_1 : w13.cell? ⟨gb114, 1, none⟩ = some (.int .u8 a1_1) := bc BK114 1
            have hcz103_2 : w13.cell? ⟨gb114, 2, none⟩ = some (.int .u8 a1_2) := bc BK114 2
            have hcz103_3 : w13.cell? ⟨gb114, 3, none⟩ = some (.int .u8 a1_3) := bc BK114 3
            have hfz103_0 := blk_frozen BK114.out 0
            have hfz103_1 := blk_frozen BK114.out 1
            have hfz103_2 := blk_frozen BK114.out 2
            have hfz103_3 := blk_frozen BK114.out 3
            go_wp2
            repeat (go_quiet (fail); try go_wp2)
            go_meet
            case rel => exact ⟨_, (true), (by first | rfl | (simp; done) | (simp [*]; done)), H', ⟨by have := HK1.out; first | omega | exact Nat.le_refl _⟩, ⟨zk BK113.out⟩, ⟨zk BK114.out⟩, ⟨zk BK115.out⟩, ⟨blw HB.out⟩⟩
          ·rw [if_neg c75] at H
           have c75b0 : (x7_1 == 2) = false := beq_eq_false_iff_ne.mpr c75
           have c75b1 : (x7_1 != 2) = true := bne_iff_ne.mpr c75
           by_cases c104 : x7_1 = 3
           ·rw [if_pos c104] at H
            obtain ⟨c104t, c104l, c104g, c104h, c104j⟩ := idx4 3 c104
            have c104b0 : (x7_1 == 3) = true := beq_iff_eq.mpr c104
            have c104b1 : (x7_1 != 3) = false := bne_eq_false_iff_eq.mpr c104
            clear c104
            by_cases c105 : (rd t116 0) = a1_3
            ·rw [if_pos c105] at H
             have c105b0 : ((rd t116 0) == a1_3) = true := beq_iff_eq.mpr c105
             have c105b1 : ((rd t116 0) != a1_3) = false := bne_eq_false_iff_eq.mpr c105
             clear c105
             by_cases c106 : 64 < (t116.length : Int)
             ·rw [if_pos c106] at H
              have c106b0 : decide (64 < (t116.length : Int)) = true := decide_eq_true c106
              have c106b1 : decide (64 < t116.length) = true := decide_eq_true (by omega)
              clear c106
              by_cases c107 : (rd t116 64) = a2_3
              ·rw [if_pos c107] at H
               have c107b0 : ((rd t116 64) == a2_3) = true := beq_iff_eq.mpr c107
               have c107b1 : ((rd t116 64) != a2_3) = false := bne_eq_false_iff_eq.mpr c107
               clear c107
               by_cases c108 : 1 < (t116.length : Int)
               ·rw [if_pos c108] at H
                have c108b0 : decide (1 < (t116.length : Int)) = true := decide_eq_true c108
                have c108b1 : decide (1 < t116.length) = true := decide_eq_true (by omega)
                clear c108
                by_cases c109 : (rd t116 1) = 0
                ·rw [if_pos c109] at H
                 have c109b0 : ((rd t116 1) == 0) = true := beq_iff_eq.mpr c109
                 have c109b1 : ((rd t116 1) != 0) = false := bne_eq_false_iff_eq.mpr c109
                 clear c109
                 by_cases c110 : 127 < (t116.length : Int)
                 ·rw [if_pos c110] at H
                  have c110b0 : decide (127 < (t116.length : Int)) = true := decide_eq_true c110
                  have c110b1 : decide (127 < t116.length) = true := decide_eq_true (by omega)
                  clear c110
                  have H' := Aside0.mk H
                  clear H
                  obtain ⟨Ao111, co111, eo111⟩ := Kd.V_slice HO118.out
                  subst eo111
                  have p120 : 0 ≤ (0 : Int) := (by omega)
                  have q120 : 0 < (t116.length : Int) := of_decide_eq_true (by first | (with_reducible assumption) | assumption)
                  obtain ⟨ad120, e120, hx120_0⟩ := Kd.at_int (Kd.V_reads' HO118.out).2.2 0 p120 q120
                  cases e120
                  have qi120 : (0 < t116.length) = True := eq_true (by omega)
                  (try rw [show ((0 : Int)).toNat = 0 from rfl] at hx120_0)
                  (try rw [Addr.add_zero'] at hx120_0)
                  replace p120 := eq_true p120
                  replace q120 := eq_true q120
                  have hnb112 := NB114_113.out
                  have hnc112 := NB113_114.out
                  have hnb113 := NB114_115.out
                  have hnc113 := NB115_114.out
                  have hcz114_0 : w13.cell? ⟨gb114, 0, none⟩ = some (.int .u8 a1_0) := bc BK114 0
                  have hcz114_1 : w13.cell? ⟨gb114, 1, none⟩ = some (.int .u8 a1_1) := bc BK114 1
                  have hcz114_2 : w13.cell? ⟨gb114, 2, none⟩ = some (.int .u8 a1_2) := bc BK114 2
                  have hcz114_3 : w13.cell? ⟨gb114, 3, none⟩ = some (.int .u8 a1_3) := bc BK114 3
                  have hfz114_0 := blk_frozen BK114.out 0
                  have hfz114_1 := blk_frozen BK114.out 1
                  have hfz114_2 := blk_frozen BK114.out 2
                  have hfz114_3 := blk_frozen BK114.out 3
                  have p130 : 0 ≤ (64 : Int) := (by omega)
                  have q130 : 64 < (t116.length : Int) := of_decide_eq_true (by first | (with_reducible assumption) | assumption)
                  obtain ⟨ad130, e130, hx130_0⟩ := Kd.at_int (Kd.V_reads' HO118.out).2.2 64 p130 q130
                  obtain rfl : ad120 = ad130 := (by injection e130)
                  (try simp only [show (64 : Int).toNat = 64 from rfl, Nat.reduceMul, Nat.reduceEqDiff, Go.Addr.add, ↓reduceIte] at hx130_0)
                  have qi130 : (64 < t116.length) = True := eq_true (by omega)
                  (try rw [show ((64 : Int)).toNat = 64 from rfl] at hx130_0)
                  replace p130 := eq_true p130
                  replace q130 := eq_true q130
                  have hnb115 := NB115_113.out
                  have hnc115 := NB113_115.out
                  have hcz116_0 : w13.cell? ⟨gb115, 0, none⟩ = some (.int .u8 a2_0) := bc BK115 0
                  have hcz116_1 : w13.cell? ⟨gb115, 1, none⟩ = some (.int .u8 a2_1) := bc BK115 1
                  have hcz116_2 : w13.cell? ⟨gb115, 2, none⟩ = some (.int .u8 a2_2) := bc BK115 2
                  have hcz116_3 : w13.cell? ⟨gb115, 3, none⟩ = some (.int .u8 a2_3) := bc BK115 3
                  have hfz116_0 := blk_frozen BK115.out 0
                  have hfz116_1 := blk_frozen BK115.out 1
                  have hfz116_2 := blk_frozen BK115.out 2
                  have hfz116_3 := blk_frozen BK115.out 3
                  have p131 : 0 ≤ (1 : Int) := (by omega)
                  have q131 : 1 < (t116.length : Int) := of_decide_eq_true (by first | (with_reducible assumption) | assumption)
                  obtain ⟨ad131, e131, hx131_0⟩ := Kd.at_int (Kd.V_reads' HO118.out).2.2 1 p131 q131
                  obtain rfl : ad120 = ad131 := (by injection e131)
                  (try simp only [show (1 : Int).toNat = 1 from rfl, Nat.reduceMul, Nat.reduceEqDiff, Go.Addr.add, ↓reduceIte] at hx131_0)
                  have qi131 : (1 < t116.length) = True := eq_true (by omega)
                  (try rw [show ((1 : Int)).toNat = 1 from rfl] at hx131_0)
                  replace p131 := eq_true p131
                  replace q131 := eq_true q131
                  have p132 : 0 ≤ (127 : Int) := (by omega)
                  have q132 : 127 < (t116.length : Int) := of_decide_eq_true (by first | (with_reducible assumption) | assumption)
                  obtain ⟨ad132, e132, hx132_0⟩ := Kd.at_int (Kd.V_reads' HO118.out).2.2 127 p132 q132
                  obtain rfl : ad120 = ad132 := (by injection e132)
                  (try simp only [show (127 : Int).toNat = 127 from rfl, Nat.reduceMul, Nat.reduceEqDiff, Go.Addr.add, ↓reduceIte] at hx132_0)
                  have qi132 : (127 < t116.length) = True := eq_true (by omega)
                  (try rw [show ((127 : Int)).toNat = 127 from rfl] at hx132_0)
                  replace p132 := eq_true p132
                  replace q132 := eq_true q132
                  go_wp2
                  repeat (go_quiet (fail); try go_wp2)
                  go_meet
                  case rel => exact ⟨_, (((rd t116 127) != 0)), (by first | rfl | (simp; done) | (simp [*]; done)), H', ⟨by have := HK1.out; first | omega | exact Nat.le_refl _⟩, ⟨zk BK113.out⟩, ⟨zk BK114.out⟩, ⟨zk BK115.out⟩, ⟨blw HB.out⟩⟩
                 ·rw [if_neg c110] at H
                  exact absurd H (by simp)
                ·rw [if_neg c109] at H
                 have c109b0 : ((rd t116 1) == 0) = false := beq_eq_false_iff_ne.mpr c109
                 have c109b1 : ((rd t116 1) != 0) = true := bne_iff_ne.mpr c109
                 have H' := Aside0.mk H
                 clear H
                 obtain ⟨Ao117, co117, eo117⟩ := Kd.V_slice HO118.out
                 subst eo117
                 have p120 : 0 ≤ (0 : Int) := (by omega)
                 have q120 : 0 < (t116.length : Int) := of_decide_eq_true (by first | (with_reducible assumption) | assumption)
                 obtain ⟨ad120, e120, hx120_0⟩ := Kd.at_int (Kd.V_reads' HO118.out).2.2 0 p120 q120
                 cases e120
                 have qi120 : (0 < t116.length) = True := eq_true (by omega)
                 (try rw [show ((0 : Int)).toNat = 0 from rfl] at hx120_0)
                 (try rw [Addr.add_zero'] at hx120_0)
                 replace p120 := eq_true p120
                 replace q120 := eq_true q120
                 have hnb118 := NB114_113.out
                 have hnc118 := NB113_114.out
                 have hnb119 := NB114_115.out
                 have hnc119 := NB115_114.out
                 have hcz120_0 : w13.cell? ⟨gb114, 0, none⟩ = some (.int .u8 a1_0) := bc BK114 0
                 have hcz120_1 : w13.cell? ⟨gb114, 1, none⟩ = some (.int .u8 a1_1) := bc BK114 1
                 have hcz120_2 : w13.cell? ⟨gb114, 2, none⟩ = some (.int .u8 a1_2) := bc BK114 2
                 have hcz120_3 : w13.cell? ⟨gb114, 3, none⟩ = some (.int .u8 a1_3) := bc BK114 3
                 have hfz120_0 := blk_frozen BK114.out 0
                 have hfz120_1 := blk_frozen BK114.out 1
                 have hfz120_2 := blk_frozen BK114.out 2
                 have hfz120_3 := blk_frozen BK114.out 3
                 have p130 : 0 ≤ (64 : Int) := (by omega)
                 have q130 : 64 < (t116.length : Int) := of_decide_eq_true (by first | (with_reducible assumption) | assumption)
                 obtain ⟨ad130, e130, hx130_0⟩ := Kd.at_int (Kd.V_reads' HO118.out).2.2 64 p130 q130
                 obtain rfl : ad120 = ad130 := (by injection e130)
                 (try simp only [show (64 : Int).toNat = 64 from rfl, Nat.reduceMul, Nat.reduceEqDiff, Go.Addr.add, ↓reduceIte] at hx130_0)
                 have qi130 : (64 < t116.length) = True := eq_true (by omega)
                 (try rw [show ((64 : Int)).toNat = 64 from rfl] at hx130_0)
                 replace p130 := eq_true p130
                 replace q130 := eq_true q130
                 have hnb121 := NB115_113.out
                 have hnc121 := NB113_115.out
                 have hcz122_0 : w13.cell? ⟨gb115, 0, none⟩ = some (.int .u8 a2_0) := bc BK115 0
                 have hcz122_1 : w13.cell? ⟨gb115, 1, none⟩ = some (.int .u8 a2_1) := bc BK115 1
                 have hcz122_2 : w13.cell? ⟨gb115, 2, none⟩ = some (.int .u8 a2_2) := bc BK115 2
                 have hcz122_3 : w13.cell? ⟨gb115, 3, none⟩ = some (.int .u8 a2_3) := bc BK115 3
                 have hfz122_0 := blk_frozen BK115.out 0
                 have hfz122_1 := blk_frozen BK115.out 1
                 have hfz122_2 := blk_frozen BK115.out 2
                 have hfz122_3 := blk_frozen BK115.out 3
                 have p131 : 0 ≤ (1 : Int) := (by omega)
                 have q131 : 1 < (t116.length : Int) := of_decide_eq_true (by first | (with_reducible assumption) | assumption)
                 obtain ⟨ad131, e131, hx131_0⟩ := Kd.at_int (Kd.V_reads' HO118.out).2.2 1 p131 q131
                 obtain rfl : ad120 = ad131 := (by injection e131)
                 (try simp only [show (1 : Int).toNat = 1 from rfl, Nat.reduceMul, Nat.reduceEqDiff, Go.Addr.add, ↓reduceIte] at hx131_0)
                 have qi131 : (1 < t116.length) = True := eq_true (by omega)
                 (try rw [show ((1 : Int)).toNat = 1 from rfl] at hx131_0)
                 replace p131 := eq_true p131
                 replace q131 := eq_true q131
                 go_wp2
                 repeat (go_quiet (fail); try go_wp2)
                 go_meet
                 case rel => exact ⟨_, (true), (by first | rfl | (simp; done) | (simp [*]; done)), H', ⟨by have := HK1.out; first | omega | exact Nat.le_refl _⟩, ⟨zk BK113.out⟩, ⟨zk BK114.out⟩, ⟨zk BK115.out⟩, ⟨blw HB.out⟩⟩
               ·rw [if_neg c108] at H
                exact absurd H (by simp)
              ·rw [if_neg c107] at H
               have c107b0 : ((rd t116 64) == a2_3) = false := beq_eq_false_iff_ne.mpr c107
               have c107b1 : ((rd t116 64) != a2_3) = true := bne_iff_ne.mpr c107
               have H' := Aside0.mk H
               clear H
               obtain ⟨Ao123, co123, eo123⟩ := Kd.V_slice HO118.out
               subst eo123
               have p120 : 0 ≤ (0 : Int) := (by omega)
               have q120 : 0 < (t116.length : Int) := of_decide_eq_true (by first | (with_reducible assumption) | assumption)
               obtain ⟨ad120, e120, hx120_0⟩ := Kd.at_int (Kd.V_reads' HO118.out).2.2 0 p120 q120
               cases e120
               have qi120 : (0 < t116.length) = True := eq_true (by omega)
               (try rw [show ((0 : Int)).toNat = 0 from rfl] at hx120_0)
               (try rw [Addr.add_zero'] at hx120_0)
               replace p120 := eq_true p120
               replace q120 := eq_true q120
               have hnb124 := NB114_113.out
               have hnc124 := NB113_114.out
               have hnb125 := NB114_115.out
               have hnc125 := NB115_114.out
               have hcz126_0 : w13.cell? ⟨gb114, 0, none⟩ = some (.int .u8 a1_0) := bc BK114 0
               have hcz126_1 : w13.cell? ⟨gb114, 1, none⟩ = some (.int .u8 a1_1) := bc BK114 1
               have hcz126_2 : w13.cell? ⟨gb114, 2, none⟩ = some (.int .u8 a1_2) := bc BK114 2
               have hcz126_3 : w13.cell? ⟨gb114, 3, none⟩ = some (.int .u8 a1_3) := bc BK114 3
               have hfz126_0 := blk_frozen BK114.out 0
               have hfz126_1 := blk_frozen BK114.out 1
               have hfz126_2 := blk_frozen BK114.out 2
               have hfz126_3 := blk_frozen BK114.out 3
               have p130 : 0 ≤ (64 : Int) := (by omega)
               have q130 : 64 < (t116.length : Int) := of_decide_eq_true (by first | (with_reducible assumption) | assumption)
               obtain ⟨ad130, e130, hx130_0⟩ := Kd.at_int (Kd.V_reads' HO118.out).2.2 64 p130 q130
               obtain rfl : ad120 = ad130 := (by injection e130)
               (try simp only [show (64 : Int).toNat = 64 from rfl, Nat.reduceMul, Nat.reduceEqDiff, Go.Addr.add, ↓reduceIte] at hx130_0)
               have qi130 : (64 < t116.length) = True := eq_true (by omega)
               (try rw [show ((64 : Int)).toNat = 64 from rfl] at hx130_0)
               replace p130 := eq_true p130
               replace q130 := eq_true q130
               have hnb127 := NB115_113.out
               have hnc127 := NB113_115.out
               have hcz128_0 : w13.cell? ⟨gb115, 0, none⟩ = some (.int .u8 a2_0) := bc BK115 0
               have hcz128_1 : w13.cell? ⟨gb115, 1, none⟩ = some (.int .u8 a2_1) := bc BK115 1
               have hcz128_2 : w13.cell? ⟨gb115, 2, none⟩ = some (.int .u8 a2_2) := bc BK115 2
               have hcz128_3 : w13.cell? ⟨gb115, 3, none⟩ = some (.int .u8 a2_3) := bc BK115 3
               have hfz128_0 := blk_frozen BK115.out 0
               have hfz128_1 := blk_frozen BK115.out 1
               have hfz128_2 := blk_frozen BK115.out 2
               have hfz128_3 := blk_frozen BK115.out 3
               go_wp2
               repeat (go_quiet (fail); try go_wp2)
               go_meet
               case rel => exact ⟨_, (true), (by first | rfl | (simp; done) | (simp [*]; done)), H', ⟨by have := HK1.out; first | omega | exact Nat.le_refl _⟩, ⟨zk BK113.out⟩, ⟨zk BK114.out⟩, ⟨zk BK115.out⟩, ⟨blw HB.out⟩⟩
             ·rw [if_neg c106] at H
              exact absurd H (by simp)
            ·rw [if_neg c105] at H
             have c105b0 : ((rd t116 0) == a1_3) = false := beq_eq_false_iff_ne.mpr c105
             have c105b1 : ((rd t116 0) != a1_3) = true := bne_iff_ne.mpr c105
             have H' := Aside0.mk H
             clear H
             obtain ⟨Ao129, co129, eo129⟩ := Kd.V_slice HO118.out
             subst eo129
             have p120 : 0 ≤ (0 : Int) := (by omega)
             have q120 : 0 < (t116.length : Int) := of_decide_eq_true (by first | (with_reducible assumption) | assumption)
             obtain ⟨ad120, e120, hx120_0⟩ := Kd.at_int (Kd.V_reads' HO118.out).2.2 0 p120 q120
             cases e120
             have qi120 : (0 < t116.length) = True := eq_true (by omega)
             (try rw [show ((0 : Int)).toNat = 0 from rfl] at hx120_0)
             (try rw [Addr.add_zero'] at hx120_0)
             replace p120 := eq_true p120
             replace q120 := eq_true q120
             have hnb130 := NB114_113.out
             have hnc130 := NB113_114.out
             have hnb131 := NB114_115.out
             have hnc131 := NB115_114.out
             have hcz132_0 : w13.cell? ⟨gb114, 0, none⟩ = some (.int .u8 a1_0) := bc BK114 0
             have hcz132_1 : w13.cell? ⟨gb114, 1, none⟩ = some (.int .u8 a1_1) := bc BK114 1
             have hcz132_2 : w13.cell? ⟨gb114, 2, none⟩ = some (.int .u8 a1_2) := bc BK114 2
             have hcz132_3 : w13.cell? ⟨gb114, 3, none⟩ = some (.int .u8 a1_3) := bc BK114 3
             have hfz132_0 := blk_frozen BK114.out 0
             have hfz132_1 := blk_frozen BK114.out 1
             have hfz132_2 := blk_frozen BK114.out 2
             have hfz132_3 := blk_frozen BK114.out 3
             go_wp2
             repeat (go_quiet (fail); try go_wp2)
             go_meet
             case rel => exact ⟨_, (true), (by first | rfl | (simp; done) | (simp [*]; done)), H', ⟨by have := HK1.out; first | omega | exact Nat.le_refl _⟩, ⟨zk BK113.out⟩, ⟨zk BK114.out⟩, ⟨zk BK115.out⟩, ⟨blw HB.out⟩⟩
           ·rw [if_neg c104] at H
            exact absurd H (by simp)
       ·rw [if_neg c16] at H
        exact absurd H (by simp)
      ·rw [if_neg c15] at H
       have c15b0 : ((t116.length : Int) == 128) = false := beq_eq_false_iff_ne.mpr c15
       have c15b1 : ((t116.length : Int) != 128) = true := bne_iff_ne.mpr c15
       have H' := Aside0.mk H
       clear H
       obtain ⟨Ao133, co133, eo133⟩ := Kd.V_slice HO118.out
       subst eo133
       go_wp2
       repeat (go_quiet (fail); try go_wp2)
       go_meet
       case rel => exact ⟨_, (true), (by first | rfl | (simp; done) | (simp [*]; done)), H', ⟨by have := HK1.out; first | omega | exact Nat.le_refl _⟩, ⟨zk BK113.out⟩, ⟨zk BK114.out⟩, ⟨zk BK115.out⟩, ⟨blw HB.out⟩⟩
     ·rw [if_neg c14] at H
      have c14b0 : (t119 == 0) = false := beq_eq_false_iff_ne.mpr c14
      have c14b1 : (t119 != 0) = true := bne_iff_ne.mpr c14
      (first | rw [c14b0] | (simp only [i64_w, i32_w]; rw [c14b0]) | skip)
      have H' := Aside0.mk H
      clear H
      go_wp2
      repeat (go_quiet (fail); try go_wp2)
      go_meet
      case rel => exact ⟨_, (true), (by first | rfl | (simp; done) | (simp [*]; done)), H', ⟨by have := HK1.out; first | omega | exact Nat.le_refl _⟩, ⟨zk BK113.out⟩, ⟨zk BK114.out⟩, ⟨zk BK115.out⟩, ⟨blw HB.out⟩⟩
    case rest =>
     clear HC9
     try clear c1
     try clear p1
     try clear q1
     try clear hx1
     try clear qi1
     try clear p2
     try clear c4
     try clear c6
     try clear c7
     try clear c8
     try clear c9
     try clear c10
     try clear c11
     try clear c12
     try clear p12
     try clear q12
     try clear hx12
     try clear qi12
     try clear c13
     try clear p13
     try clear q13
     try clear hx13
     try clear qi13
     try clear c14
     try clear c14b0
     try clear c14b1
     try clear c15
     try clear c15b0
     try clear c15b1
     try clear c16
     try clear c46
     try clear c46b0
     try clear c46b1
     try clear c47
     try clear c47b0
     try clear c47b1
     try clear c48
     try clear c67
     try clear c69
     try clear c72
     try clear c73
     try clear c75
     try clear c75b0
     try clear c75b1
     try clear c76
     try clear c76b0
     try clear c76b1
     try clear c77
     try clear c77b0
     try clear c77b1
     try clear c78
     try clear c78b0
     try clear c78b1
     try clear c79
     try clear c79b0
     try clear c79b1
     try clear c80
     try clear c80b0
     try clear c80b1
     try clear c81
     try clear c81b0
     try clear c81b1
     try clear c83
     try clear c84
     try clear c86
     try clear c89
     try clear c90
     try clear c92
     try clear c95
     try clear c96
     try clear c98
     try clear c101
     try clear c102
     try clear c104
     try clear c104b0
     try clear c104b1
     try clear c105
     try clear c105b0
     try clear c105b1
     try clear c106
     try clear c106b0
     try clear c106b1
     try clear c107
     try clear c107b0
     try clear c107b1
     try clear c108
     try clear c108b0
     try clear c108b1
     try clear c109
     try clear c109b0
     try clear c109b1
     try clear c110
     try clear c110b0
     try clear c110b1
     try clear c112
     try clear c113
     try clear c115
     try clear c118
     try clear c119
     try clear p120
     try clear q120
     try clear hx120
     try clear qi120
     try clear c121
     try clear c124
     try clear p124
     try clear q124
     try clear hx124
     try clear qi124
     try clear c125
     try clear c127
     try clear p127
     try clear q127
     try clear hx127
     try clear qi127
     try clear p128
     try clear q128
     try clear hx128
     try clear qi128
     try clear p129
     try clear q129
     try clear hx129
     try clear qi129
     try clear c130
     try clear p130
     try clear q130
     try clear hx130
     try clear qi130
     try clear c131
     try clear p131
     try clear q131
     try clear hx131
     try clear qi131
     try clear p132
     try clear q132
     try clear hx132
     try clear qi132
     try clear hcz103_0
     try clear hcz103_1
     try clear hcz103_2
     try clear hcz103_3
     try clear hcz114_0
     try clear hcz114_1
     try clear hcz114_2
     try clear hcz114_3
     try clear hcz116_0
     try clear hcz116_1
     try clear hcz116_2
     try clear hcz116_3
     try clear hcz120_0
     try clear hcz120_1
     try clear hcz120_2
     try clear hcz120_3
     try clear hcz122_0
     try clear hcz122_1
     try clear hcz122_2
     try clear hcz122_3
     try clear hcz126_0
     try clear hcz126_1
     try clear hcz126_2
     try clear hcz126_3
     try clear hcz128_0
     try clear hcz128_1
     try clear hcz128_2
     try clear hcz128_3
     try clear hcz132_0
     try clear hcz132_1
     try clear hcz132_2
     try clear hcz132_3
     try clear hcz68_0
     try clear hcz68_1
     try clear hcz68_2
     try clear hcz68_3
     try clear hcz70_0
     try clear hcz70_1
     try clear hcz70_2
     try clear hcz70_3
     try clear hcz74_0
     try clear hcz74_1
     try clear hcz74_2
     try clear hcz74_3
     try clear hcz85_0
     try clear hcz85_1
     try clear hcz85_2
     try clear hcz85_3
     try clear hcz87_0
     try clear hcz87_1
     try clear hcz87_2
     try clear hcz87_3
     try clear hcz91_0
     try clear hcz91_1
     try clear hcz91_2
     try clear hcz91_3
     try clear hcz93_0
     try clear hcz93_1
     try clear hcz93_2
     try clear hcz93_3
     try clear hcz97_0
     try clear hcz97_1
     try clear hcz97_2
     try clear hcz97_3
     try clear hcz99_0
     try clear hcz99_1
     try clear hcz99_2
     try clear hcz99_3
     try clear hfz103_0
     try clear hfz103_1
     try clear hfz103_2
     try clear hfz103_3
     try clear hfz114_0
     try clear hfz114_1
     try clear hfz114_2
     try clear hfz114_3
     try clear hfz116_0
     try clear hfz116_1
     try clear hfz116_2
     try clear hfz116_3
     try clear hfz120_0
     try clear hfz120_1
     try clear hfz120_2
     try clear hfz120_3
     try clear hfz122_0
     try clear hfz122_1
     try clear hfz122_2
     try clear hfz122_3
     try clear hfz126_0
     try clear hfz126_1
     try clear hfz126_2
     try clear hfz126_3
     try clear hfz128_0
     try clear hfz128_1
     try clear hfz128_2
     try clear hfz128_3
     try clear hfz132_0
     try clear hfz132_1
     try clear hfz132_2
     try clear hfz132_3
     try clear hfz68_0
     try clear hfz68_1
     try clear hfz68_2
     try clear hfz68_3
     try clear hfz70_0
     try clear hfz70_1
     try clear hfz70_2
     try clear hfz70_3
     try clear hfz74_0
     try clear hfz74_1
     try clear hfz74_2
     try clear hfz74_3
     try clear hfz85_0
     try clear hfz85_1
     try clear hfz85_2
     try clear hfz85_3
     try clear hfz87_0
     try clear hfz87_1
     try clear hfz87_2
     try clear hfz87_3
     try clear hfz91_0
     try clear hfz91_1
     try clear hfz91_2
     try clear hfz91_3
     try clear hfz93_0
     try clear hfz93_1
     try clear hfz93_2
     try clear hfz93_3
     try clear hfz97_0
     try clear hfz97_1
     try clear hfz97_2
     try clear hfz97_3
     try clear hfz99_0
     try clear hfz99_1
     try clear hfz99_2
     try clear hfz99_3
     try clear hx120_0
     try clear hx124_0
     try clear hx127_0
     try clear hx128_0
     try clear hx129_0
     try clear hx130_0
     try clear hx131_0
     try clear hx132_0
     try clear p120
     try clear p124
     try clear p127
     try clear p128
     try clear p129
     try clear p130
     try clear p131
     try clear p132
     try clear q120
     try clear q124
     try clear q127
     try clear q128
     try clear q129
     try clear q130
     try clear q131
     try clear q132
     obtain ⟨kq, x56_8, rfl, HA, HJ8, BK113, BK114, BK115, HB⟩ := hcut
     cases kq with
     | zero => exact absurd HA.out (by simp [fastilaw04_holds.j1])
     | succ kj8 =>
      have H := HA.out
      clear HA
      simp only [fastilaw04_holds.j1] at H
      by_cases c134 : x56_8 = true
      ·subst c134
       have H1 : (some false) = some r := by rw [if_pos rfl] at H; exact H
       clear H
       have H := H1
       clear H1
       obtain rfl := Option.some.inj H
       go_wp2
       repeat (go_quiet (fail); try go_wp2)
       go_ret
       exact ⟨by first | rfl | (simp [errW_none, errW_some] <;> rfl) | (simp [*, errW_none, errW_some] <;> rfl), blw HB.out⟩
      ·replace c134 := Bool.eq_false_iff.mpr c134
       subst c134
       have H1 : (fastilaw04_holds.l0 kj8 (wrap64 (x7_1 + 1)) l0_0 l0_1 a0_2 a0_3 a1_0 a1_1 a1_2 a1_3 a2_0 a2_1 a2_2 a2_3) = some r := by rw [if_neg (show ¬ (false = true) by decide)] at H; exact H
       clear H
       have H := H1
       clear H1
       have H' := Aside0.mk H
       clear H
       go_wp2
       repeat (go_quiet (fail); try go_wp2)
       go_roundg kj8
       case measure => have := HK1.out; have := HJ8.out; omega
       case rel => exact ⟨(wrap64 (x7_1 + 1)), (by first | rfl | (simp; done) | (simp [*]; done)), H', ⟨by have := HK1.out; have := HJ8.out; omega⟩, ⟨zk BK113.out⟩, ⟨zk BK114.out⟩, ⟨zk BK115.out⟩, ⟨blw HB.out⟩⟩
   ·rw [if_neg c7] at H
    have c7b0 : decide (x7_1 < 4) = false := decide_eq_false c7
    clear c7
    obtain rfl := Option.some.inj H
    go_wp2
    repeat (go_quiet (fail); try go_wp2)
    go_ret
    exact ⟨by first | rfl | (simp [errW_none, errW_some] <;> rfl) | (simp [*, errW_none, errW_some] <;> rfl), blw HB.out⟩

end Go.Proofs.Ytmeoapalnkibfaa.Q
