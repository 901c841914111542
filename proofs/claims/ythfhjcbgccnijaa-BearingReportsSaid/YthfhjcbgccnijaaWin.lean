/- By hand: what weather's within computes, with the library's two functions that it calls. -/
import Derived.Test.YthfhjcbgccnijaaQ0
import Derived.Outline
import Derived.Laws.EntriesVeiled
import Derived.RegionTactic
import Derived.Deep.RegionWith
import Derived.Shelf.Abstract
namespace Go.Proofs.Ythfhjcbgccnijaa.Q
open Go.RowKit Go.Proofs.YthfhjcbgccnijaaW.PrintWords Go.Proofs.YthfhjcbgccnijaaW.PrintLast Go.Proofs.YthfhjcbgccnijaaW.PrintMore
attribute [local go_sem] max2_int min2_int max_two min_two
set_option linter.unusedVariables false
set_option linter.unusedSimpArgs false

/-- Is a number from 0 to m? -/
def okw (m n : Int) : Bool := decide (0 ≤ n) && decide (n ≤ m)

theorem win11 (n m : Int) (g : Nat) (w : World) (hg : w.heap[g]? = some (.cells #[.int .i64 m] 3 (0, 0))) :
    Calls Try.prog 69 #[.int .i64 n, .pointer (some ⟨g, 0, none⟩)] w fun e w' => e = .returned (.bool (!okw m n)) ∧ w' = w := by
  have c0 := (blk_cell hg 0).trans rfl
  clear hg
  have h0 : (!okw m n) = (decide (n < 0) || decide (m < n)) := by
    unfold okw
    by_cases h1 : n < 0 <;> by_cases h2 : m < n <;> simp [h1, h2] <;> omega
  rw [h0]
  clear h0
  by_cases h1 : n < 0
  · go_enter Try.func69, Try.ntmps69
    go_wp2
    go_ret
    exact ⟨by simp [h1], rfl⟩
  · go_enter Try.func69, Try.ntmps69
    go_wp2
    go_ret
    exact ⟨by rw [show decide (n < 0) = false from decide_eq_false (by omega)]; rfl, rfl⟩

set_option maxHeartbeats 1000000 in
theorem idxf (m : Int) (g : Nat) (l : List Int) (A : Option Addr) (c : Nat) (w : World) (hg : w.heap[g]? = some (.cells #[.int .i64 m] 3 (0, 0))) (hr : Kd.C (Kd.int .i64) w A l.length l) (hl : l.length ≤ 1000) :
    Calls Try.prog 74 #[.slice A l.length c, .func (.func 69) #[] #[.pointer (some ⟨g, 0, none⟩)]] w fun e w' => (∃ r : Int, e = .returned (.int .i64 r) ∧ (decide (0 ≤ r)) = !l.all (okw m)) ∧ w' = w := by
  have Hw := Aside0.mk (fun n => win11 n m g w hg)
  clear hg
  go_enter Try.func74, Try.ntmps74
  go_wp2
  go_loop [8] (fun i => ∃ k : Nat, k ≤ l.length ∧ i = .int .i64 k ∧ Aside0 ((l.take k).all (okw m) = true)) (fun i => l.length - (intOf i).toNat)
  case atStart => exact ⟨0, Nat.zero_le _, rfl, ⟨rfl⟩⟩
  case round =>
    obtain ⟨k, hk, rfl, Hall⟩ := hrel
    by_cases hlt : k < l.length
    · obtain ⟨ad, rfl, hcell⟩ := Kd.at_int hr k (by omega) (by omega)
      rw [Int.toNat_natCast] at hcell
      have hrd : rd l (k : Int) = l.getD k 0 := by simp [rd]
      generalize rd l (k : Int) = x at *
      have Hrd := Aside0.mk hrd
      clear hrd
      cases hok : okw m x with
      | false =>
        have hx := Hw.out x
        rw [hok] at hx
        simp only [Bool.not_false, Bool.not_true] at hx
        go_wp2_with fail
        refine hx.mono ?_
        rintro e w' ⟨rfl, rfl⟩
        go_wp2
        go_ret
        refine ⟨?_, rfl⟩
        rw [all_false (okw m) l k hlt (by rw [← Hrd.out]; exact hok)]
        simp
      | true =>
        have hx := Hw.out x
        rw [hok] at hx
        simp only [Bool.not_false, Bool.not_true] at hx
        go_wp2_with fail
        refine hx.mono ?_
        rintro e w' ⟨rfl, rfl⟩
        go_wp2
        go_round
        case rel => exact ⟨k + 1, by omega, by go_num, ⟨by rw [all_take_succ (okw m) l k hlt, Hall.out, ← Hrd.out]; exact hok⟩⟩
        case measure => simp [intOf]; omega
    · go_wp2
      go_ret
      have e := Hall.out
      rw [List.take_of_length_le (by omega)] at e
      rw [e]
      exact ⟨⟨_, rfl, rfl⟩, rfl⟩

theorem conf (m : Int) (g : Nat) (l : List Int) (A : Option Addr) (c : Nat) (w : World) (hg : w.heap[g]? = some (.cells #[.int .i64 m] 3 (0, 0))) (hr : Kd.C (Kd.int .i64) w A l.length l) (hl : l.length ≤ 1000) :
    Calls Try.prog 42 #[.slice A l.length c, .func (.func 69) #[] #[.pointer (some ⟨g, 0, none⟩)]] w fun e w' => e = .returned (.bool (!l.all (okw m))) ∧ w' = w := by
  have h := idxf m g l A c w hg hr hl
  generalize l.all (okw m) = B at *
  clear hg hr hl
  go_enter Try.func42, Try.ntmps42
  go_wp2_with (go_at_call 74; refine h.mono ?_; rintro e w' ⟨⟨r, rfl, hB⟩, rfl⟩)
  all_goals
    go_ret
    refine ⟨?_, rfl⟩
    rw [← hB]
    rfl

/-- within$1: are all numbers from 0 to m? -/
theorem win1 (m : Int) (g : Nat) (l : List Int) (A : Option Addr) (c : Nat) (w : World) (hg : w.heap[g]? = some (.cells #[.int .i64 m] 3 (0, 0))) (hr : Kd.C (Kd.int .i64) w A l.length l) (hl : l.length ≤ 1000) :
    Calls Try.prog 68 #[.slice A l.length c, .pointer (some ⟨g, 0, none⟩)] w fun e w' => e = .returned (.bool (l.all (okw m))) ∧ w' = w := by
  have h := conf m g l A c w hg hr hl
  generalize l.all (okw m) = B at *
  clear hg hr hl
  go_enter Try.func68, Try.ntmps68
  go_wp2_with (go_at_call 42; refine h.mono ?_; rintro e w' ⟨rfl, rfl⟩)
  all_goals
    go_ret
    refine ⟨?_, rfl⟩
    cases B <;> rfl

/-- within: a function with the greatest number in a box. -/
theorem win0 (m : Int) (w : World) :
    Calls Try.prog 35 #[.int .i64 m] w fun e w' => e = .returned (.func (.func 68) #[] #[.pointer (some ⟨w.heap.size, 0, none⟩)]) ∧ w' = w.alloc (.cells #[.int .i64 m] 3 (0, 0)) := by
  go_enter Try.func35, Try.ntmps35
  go_wp2
  go_ret
  exact ⟨rfl, rfl⟩
end Go.Proofs.Ythfhjcbgccnijaa.Q
