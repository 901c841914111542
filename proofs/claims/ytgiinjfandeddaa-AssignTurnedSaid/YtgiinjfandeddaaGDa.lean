/- By hand: the parts of assign.Deny: the closure, ContainsFunc with it. -/
import Derived.Test.YtgiinjfandeddaaGLs
import Derived.Test.YtgiinjfandeddaaGCf
import Derived.Test.YtgiinjfandeddaaQ1
import Derived.RangeFuncNested
import Derived.RangeFuncLeaves
namespace Go.Proofs.Ytgiinjfandeddaa.Q
open Go.RowKit Go.Proofs.YtgiinjfandeddaaW.PrintWords Go.Proofs.YtgiinjfandeddaaW.PrintLast Go.Proofs.YtgiinjfandeddaaW.PrintMore Go.Proofs.Ytgiinjfandeddaa.Rng
attribute [local go_sem] max2_int min2_int max_two min_two
set_option linter.unusedVariables false
set_option linter.unusedSimpArgs false

/-- Has the row i no cost in the column j? -/
def okD (C : List (List Int)) (j i : Int) : Bool := decide (rd (rd_L1 C i) j < 0)

theorem ckD (A0 : Option Addr) (c0 : Nat) (l0 : List (List Int)) (bc bj : Nat) (i j : Int) (w : World) (hbc : w.heap[bc]? = some (.cells #[.slice A0 l0.length c0] 22 (0, 0))) (hbj : w.heap[bj]? = some (.cells #[.int .i64 j] 3 (0, 0)))
    (hC : Kd.C (Kd.slice 3 (Kd.int .i64)) w A0 l0.length l0) (h0 : 0 ≤ i) (h1 : i < (l0.length : Int)) (h2 : 0 ≤ j) (h3 : j < ((rd_L1 l0 i).length : Int)) :
    Calls Try.prog 42 #[.int .i64 i, .pointer (some ⟨bc, 0, none⟩), .pointer (some ⟨bj, 0, none⟩)] w fun e w' => e = .returned (.bool (!okD l0 j i)) ∧ Below w.heap.size w w' := by
  obtain ⟨ad, A1, c1, rfl, q0, q1, q2⟩ := at_L1 hC i h0 h1
  obtain ⟨ad2, e2, q4⟩ := Kd.at_int q2 j h2 h3
  cases e2
  have b0_ := (blk_cell hbc 0).trans rfl
  have b1_ := (blk_cell hbj 0).trans rfl
  have p0 := eq_true h0
  have p1 := eq_true h1
  have p2 := eq_true h2
  have p3 := eq_true h3
  have HB := Aside0.mk (Below.refl w.heap.size w)
  have hok : (!okD l0 j i) = decide (0 ≤ rd (rd_L1 l0 i) j) := by unfold okD; by_cases hz : rd (rd_L1 l0 i) j < 0 <;> simp [hz] <;> omega
  rw [hok]
  clear hok hbc hbj hC q1 q2 h0 h1 h2 h3
  go_enter Try.func42, Try.ntmps42
  go_wp2
  repeat (go_quiet (fail))
  try go_wp2
  go_ret
  exact ⟨rfl, pw_below_drewN HB.out _⟩

set_option maxHeartbeats 1000000 in
theorem idxD (A0 : Option Addr) (c0 : Nat) (l0 : List (List Int)) (bc bj : Nat) (j : Int) (l : List Int) (A : Option Addr) (c : Nat) (w : World) (hbc : w.heap[bc]? = some (.cells #[.slice A0 l0.length c0] 22 (0, 0))) (hbj : w.heap[bj]? = some (.cells #[.int .i64 j] 3 (0, 0)))
    (hC : Kd.C (Kd.slice 3 (Kd.int .i64)) w A0 l0.length l0) (h2 : 0 ≤ j) (hin : ∀ i, i ∈ l → 0 ≤ i ∧ i < (l0.length : Int) ∧ j < ((rd_L1 l0 i).length : Int)) (hr : Kd.C (Kd.int .i64) w A l.length l) (hl : l.length ≤ 1000) :
    Calls Try.prog 47 #[.slice A l.length c, .func (.func 42) #[] #[.pointer (some ⟨bc, 0, none⟩), .pointer (some ⟨bj, 0, none⟩)]] w fun e w' => (∃ r : Int, e = .returned (.int .i64 r) ∧ (decide (0 ≤ r)) = !l.all (okD l0 j)) ∧ Below w.heap.size w w' := by
  have Hr := Aside0.mk hr
  have Hbc := Aside0.mk hbc
  have Hbj := Aside0.mk hbj
  have HC := Aside0.mk hC
  have Hin := Aside0.mk hin
  have HB := Aside0.mk (Below.refl w.heap.size w)
  clear hr hbc hbj hC hin
  go_enter Try.func47, Try.ntmps47
  go_wp2
  go_loopw [8] (fun i wr => ∃ k : Nat, k ≤ l.length ∧ i = .int .i64 k ∧ Aside0 ((l.take k).all (okD l0 j) = true) ∧ Aside0 (Below w.heap.size w wr)) (fun i _ => l.length - (intOf i).toNat)
  case atStart => exact ⟨0, Nat.zero_le _, rfl, ⟨rfl⟩, HB⟩
  case round =>
    clear HB
    obtain ⟨k, hk, rfl, Hall, HB⟩ := hrel
    by_cases hlt : k < l.length
    · obtain ⟨ad, rfl, hcell⟩ := Kd.at_int (Kd.C_below Hr.out HB.out) k (by omega) (by omega)
      rw [Int.toNat_natCast] at hcell
      have hrd : rd l (k : Int) = l.getD k 0 := by simp [rd]
      have hmem : rd l (k : Int) ∈ l := by rw [hrd, List.getD_eq_getElem?_getD, List.getElem?_eq_getElem hlt, Option.getD_some]; exact List.getElem_mem hlt
      obtain ⟨i0, i1, i2⟩ := Hin.out _ hmem
      have hx := ckD A0 c0 l0 bc bj (rd l (k : Int)) j wr (heap_below HB.out Hbc.out) (heap_below HB.out Hbj.out) (Kd.C_below HC.out HB.out) i0 i1 h2 i2
      generalize rd l (k : Int) = x at *
      have Hrd := Aside0.mk hrd
      clear hrd hmem i0 i1 i2
      cases hok : okD l0 j x with
      | false =>
        rw [hok] at hx
        simp only [Bool.not_false, Bool.not_true] at hx
        have hok := Aside0.mk hok
        go_wp2_with fail
        refine hx.mono ?_
        rintro e w' ⟨rfl, hb⟩
        have HB2 := Aside0.mk (below_step HB.out hb)
        clear hb
        go_wp2
        go_ret
        refine ⟨?_, HB2.out⟩
        rw [all_falseL (okD l0 j) l 0 k hlt (by rw [← Hrd.out]; exact hok.out)]
        exact ⟨_, rfl, by simp⟩
      | true =>
        rw [hok] at hx
        simp only [Bool.not_false, Bool.not_true] at hx
        have hok := Aside0.mk hok
        go_wp2_with fail
        refine hx.mono ?_
        rintro e w' ⟨rfl, hb⟩
        have HB2 := Aside0.mk (below_step HB.out hb)
        clear hb
        go_wp2
        go_round
        case rel => exact ⟨k + 1, by omega, by go_num, ⟨by rw [all_take_succL (okD l0 j) l 0 k hlt, Hall.out, ← Hrd.out]; exact hok.out⟩, HB2⟩
        case measure => simp [intOf]; omega
    · go_wp2
      go_ret
      have e := Hall.out
      rw [List.take_of_length_le (by omega)] at e
      rw [e]
      exact ⟨⟨_, rfl, rfl⟩, HB.out⟩

theorem conD (A0 : Option Addr) (c0 : Nat) (l0 : List (List Int)) (bc bj : Nat) (j : Int) (l : List Int) (A : Option Addr) (c : Nat) (w : World) (hbc : w.heap[bc]? = some (.cells #[.slice A0 l0.length c0] 22 (0, 0))) (hbj : w.heap[bj]? = some (.cells #[.int .i64 j] 3 (0, 0)))
    (hC : Kd.C (Kd.slice 3 (Kd.int .i64)) w A0 l0.length l0) (h2 : 0 ≤ j) (hin : ∀ i, i ∈ l → 0 ≤ i ∧ i < (l0.length : Int) ∧ j < ((rd_L1 l0 i).length : Int)) (hr : Kd.C (Kd.int .i64) w A l.length l) (hl : l.length ≤ 1000) :
    Calls Try.prog 38 #[.slice A l.length c, .func (.func 42) #[] #[.pointer (some ⟨bc, 0, none⟩), .pointer (some ⟨bj, 0, none⟩)]] w fun e w' => e = .returned (.bool (!l.all (okD l0 j))) ∧ Below w.heap.size w w' := by
  have h := idxD A0 c0 l0 bc bj j l A c w hbc hbj hC h2 hin hr hl
  generalize l.all (okD l0 j) = B at *
  clear hr hl hbc hbj hC hin
  go_enter Try.func38, Try.ntmps38
  go_wp2_with (go_at_call 47; refine h.mono ?_; rintro e w' ⟨⟨r, rfl, hB⟩, hb⟩)
  all_goals
    go_ret
    refine ⟨?_, hb⟩
    rw [← hB]
    rfl
end Go.Proofs.Ytgiinjfandeddaa.Q
