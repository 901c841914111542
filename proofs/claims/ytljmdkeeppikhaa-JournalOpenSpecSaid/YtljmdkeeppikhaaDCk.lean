/- By hand: what disk.Check computes, with the library's functions that it calls. -/
import Derived.Test.YtljmdkeeppikhaaQ0
import Derived.Outline
import Derived.Laws.EntriesVeiled
import Derived.RegionTactic
import Derived.Deep.RegionWith
import Derived.Shelf.Abstract
namespace Go.Proofs.Ytljmdkeeppikhaa.Q
open Go.RowKit Go.Proofs.YtljmdkeeppikhaaW.PrintWords Go.Proofs.YtljmdkeeppikhaaW.PrintLast Go.Proofs.YtljmdkeeppikhaaW.PrintMore
attribute [local go_sem] max2_int min2_int max_two min_two
set_option linter.unusedVariables false
set_option linter.unusedSimpArgs false

abbrev kSec : Kd (List Int) := Kd.slice 5 (Kd.int .u8)
theorem infB : (Try.prog.info? 5).map (fun i => (i.zero, i.size, i.bytes)) = some (some (.int .u8 0), 1, 1) := by kernel_rfl
theorem infS : (Try.prog.info? 35).map (fun i => (i.zero, i.size, i.bytes)) = some (some (.slice none 0 0), 1, 24) := by kernel_rfl
theorem infW : (Try.prog.info? 76).map (fun i => (i.zero, i.size, i.bytes)) = some (some (.agg #[(.int .i64 0), (.slice none 0 0)]), 2, 32) := by kernel_rfl
abbrev SW := S76
abbrev kW : Kd SW := k76
/-- Is a sector of the right length? -/
def okS (b : List Int) : Bool := decide ((b.length : Int) = 128)
/-- Is a write right, of a disk of n sectors? -/
def okP (n : Int) (x : SW) : Bool := !(decide (x.f0 < 0) || (decide (n ≤ x.f0) || !okS x.f1))
def dchk (l0 : List (List Int)) (l1 : List SW) (a : Int) : Int :=
  if (l0.length : Int) < 1 ∨ (l0.length : Int) > 4096 ∨ (l1.length : Int) > 4096 ∨ a < -1 ∨ a > 65536 then 40
  else if l1.all (okP l0.length) = true then (if l0.all okS = true then 0 else 40) else 40
def disk_Check.f (l0_0 : List (List Int)) (l0_1 : List SW) (a0_2 : Int) (a0_3 : Bool) : Option (Int) := some (dchk l0_0 l0_1 a0_2)

theorem all_take_succL {α : Type} (p : α → Bool) (l : List α) (d : α) (k : Nat) (h : k < l.length) : (l.take (k + 1)).all p = ((l.take k).all p && p (l.getD k d)) := by
  rw [List.take_succ_eq_append_getElem h, List.all_append]
  simp [List.getD, h]
theorem all_falseL {α : Type} (p : α → Bool) (l : List α) (d : α) (k : Nat) (h : k < l.length) (hp : p (l.getD k d) = false) : l.all p = false := by
  rw [List.all_eq_false]
  refine ⟨l.getD k d, ?_, by rw [hp]; decide⟩
  simp [List.getD, h]

theorem isSec (A : Option Addr) (n c : Nat) (w : World) :
    Calls Try.prog 56 #[.slice A n c] w fun e w' => e = .returned (.bool (decide ((n : Int) = 128))) ∧ w' = w := by
  go_enter Try.func56, Try.ntmps56
  go_wp2
  go_ret
  exact ⟨rfl, rfl⟩

theorem ck2 (A : Option Addr) (n c : Nat) (w : World) :
    Calls Try.prog 59 #[.slice A n c] w fun e w' => e = .returned (.bool (!decide ((n : Int) = 128))) ∧ w' = w := by
  have h := isSec A n c
  generalize decide ((n : Int) = 128) = B at *
  go_enter Try.func59, Try.ntmps59
  go_wp2_with (go_at_call 56; refine (h _).mono ?_; rintro e w' ⟨rfl, rfl⟩)
  all_goals
    go_ret
    exact ⟨rfl, rfl⟩

theorem ck1 (n : Int) (g : Nat) (x : SW) (A : Option Addr) (c : Nat) (w : World) (hg : w.heap[g]? = some (.cells #[.int .i64 n] 3 (0, 0))) :
    Calls Try.prog 55 #[.agg #[.int .i64 x.f0, .slice A x.f1.length c], .pointer (some ⟨g, 0, none⟩)] w fun e w' => e = .returned (.bool (!okP n x)) ∧ Below w.heap.size w w' := by
  have h := isSec A x.f1.length c
  have hB := Aside0.mk (below_alloc (Below.refl w.heap.size w) (.cells #[.int .i64 x.f0, .slice A x.f1.length c] 76 (0, 0)))
  have c0 := (blk_cell (heap_at_old w (.cells #[.int .i64 x.f0, .slice A x.f1.length c] 76 (0, 0)) _ _ hg) 0).trans rfl
  clear hg
  unfold okP okS
  generalize decide ((x.f1.length : Int) = 128) = B at *
  by_cases h1 : x.f0 < 0
  · go_enter Try.func55, Try.ntmps55
    go_wp2
    go_ret
    exact ⟨by simp [h1], hB.out⟩
  · by_cases h2 : n ≤ x.f0
    · go_enter Try.func55, Try.ntmps55
      go_wp2
      go_ret
      exact ⟨by simp [h1, h2], hB.out⟩
    · go_enter Try.func55, Try.ntmps55
      go_wp2_with (go_at_call 56; refine (h _).mono ?_; rintro e w' ⟨rfl, rfl⟩)
      all_goals
        go_ret
        exact ⟨by rw [decide_eq_false (show ¬ x.f0 < 0 by omega), decide_eq_false (show ¬ n ≤ x.f0 by omega)]; cases B <;> rfl, hB.out⟩

set_option maxHeartbeats 1000000 in
theorem idxS (l : List (List Int)) (A : Option Addr) (c : Nat) (w : World) (hr : Kd.C kSec w A l.length l) (hl : l.length ≤ 100000) :
    Calls Try.prog 71 #[.slice A l.length c, .func (.func 59) #[] #[]] w fun e w' => (∃ r : Int, e = .returned (.int .i64 r) ∧ (decide (0 ≤ r)) = !l.all okS) ∧ w' = w := by
  have Hr := Aside0.mk hr
  clear hr
  go_enter Try.func71, Try.ntmps71
  go_wp2
  go_loop [8] (fun i => ∃ k : Nat, k ≤ l.length ∧ i = .int .i64 k ∧ Aside0 ((l.take k).all okS = true)) (fun i => l.length - (intOf i).toNat)
  case atStart => exact ⟨0, Nat.zero_le _, rfl, ⟨rfl⟩⟩
  case round =>
    obtain ⟨k, hk, rfl, Hall⟩ := hrel
    by_cases hlt : k < l.length
    · obtain ⟨ad, A0, c0, rfl, hcell, _, _⟩ := at_L1 Hr.out k (by omega) (by omega)
      rw [Int.toNat_natCast] at hcell
      have hrd : rd_L1 l (k : Int) = l.getD k [] := by simp [rd_L1]
      generalize rd_L1 l (k : Int) = x at *
      have Hrd := Aside0.mk hrd
      clear hrd
      have hx := ck2 A0 x.length c0
      have hok : okS x = decide ((x.length : Int) = 128) := rfl
      cases hb : decide ((x.length : Int) = 128) with
      | false =>
        rw [hb] at hx hok
        simp only [Bool.not_false, Bool.not_true] at hx
        have hok := Aside0.mk hok
        clear hb
        go_wp2_with fail
        refine (hx _).mono ?_
        rintro e w' ⟨rfl, rfl⟩
        go_wp2
        go_ret
        refine ⟨?_, rfl⟩
        rw [all_falseL okS l [] k hlt (by rw [← Hrd.out]; exact hok.out)]
        simp
      | true =>
        rw [hb] at hx hok
        simp only [Bool.not_false, Bool.not_true] at hx
        have hok := Aside0.mk hok
        clear hb
        go_wp2_with fail
        refine (hx _).mono ?_
        rintro e w' ⟨rfl, rfl⟩
        go_wp2
        go_round
        case rel => exact ⟨k + 1, by omega, by go_num, ⟨by rw [all_take_succL okS l [] k hlt, Hall.out, ← Hrd.out]; exact hok.out⟩⟩
        case measure => simp [intOf]; omega
    · go_wp2
      go_ret
      have e := Hall.out
      rw [List.take_of_length_le (by omega)] at e
      rw [e]
      exact ⟨⟨_, rfl, rfl⟩, rfl⟩

theorem conS (l : List (List Int)) (A : Option Addr) (c : Nat) (w : World) (hr : Kd.C kSec w A l.length l) (hl : l.length ≤ 100000) :
    Calls Try.prog 58 #[.slice A l.length c, .func (.func 59) #[] #[]] w fun e w' => e = .returned (.bool (!l.all okS)) ∧ w' = w := by
  have h := idxS l A c w hr hl
  generalize l.all okS = B at *
  clear hr hl
  go_enter Try.func58, Try.ntmps58
  go_wp2_with (go_at_call 71; refine h.mono ?_; rintro e w' ⟨⟨r, rfl, hB⟩, rfl⟩)
  all_goals
    go_ret
    refine ⟨?_, rfl⟩
    rw [← hB]
    rfl

set_option maxHeartbeats 1000000 in
theorem idxP (n : Int) (g : Nat) (l : List SW) (A : Option Addr) (c : Nat) (w : World) (hg : w.heap[g]? = some (.cells #[.int .i64 n] 3 (0, 0))) (hr : Kd.C kW w A l.length l) (hl : l.length ≤ 100000) :
    Calls Try.prog 70 #[.slice A l.length c, .func (.func 55) #[] #[.pointer (some ⟨g, 0, none⟩)]] w fun e w' => (∃ r : Int, e = .returned (.int .i64 r) ∧ (decide (0 ≤ r)) = !l.all (okP n)) ∧ Below w.heap.size w w' := by
  have Hr := Aside0.mk hr
  have Hg := Aside0.mk hg
  have HB := Aside0.mk (Below.refl w.heap.size w)
  clear hr hg
  go_enter Try.func70, Try.ntmps70
  go_wp2
  go_loopw [8] (fun i wr => ∃ k : Nat, k ≤ l.length ∧ i = .int .i64 k ∧ Aside0 ((l.take k).all (okP n) = true) ∧ Aside0 (Below w.heap.size w wr)) (fun i _ => l.length - (intOf i).toNat)
  case atStart => exact ⟨0, Nat.zero_le _, rfl, ⟨rfl⟩, HB⟩
  case round =>
    clear HB
    obtain ⟨k, hk, rfl, Hall, HB⟩ := hrel
    by_cases hlt : k < l.length
    · obtain ⟨ad, A1, c1, rfl, q0, q1, _, _⟩ := at_T76 (Kd.C_below Hr.out HB.out) k (by omega) (by omega)
      rw [Int.toNat_natCast] at q0 q1
      have hrd : rd_T76 l (k : Int) = l.getD k z76 := by simp [rd_T76]
      have hx := ck1 n g (rd_T76 l (k : Int)) A1 c1 wr (heap_below HB.out Hg.out)
      generalize rd_T76 l (k : Int) = x at *
      have Hrd := Aside0.mk hrd
      clear hrd
      cases hb : okP n x with
      | false =>
        rw [hb] at hx
        simp only [Bool.not_false, Bool.not_true] at hx
        have hok := Aside0.mk hb
        clear hb
        go_wp2_with fail
        refine hx.mono ?_
        rintro e w' ⟨rfl, hb⟩
        have HB2 := Aside0.mk (below_step HB.out hb)
        clear hb
        go_wp2
        go_ret
        refine ⟨?_, HB2.out⟩
        rw [all_falseL (okP n) l z76 k hlt (by rw [← Hrd.out]; exact hok.out)]
        simp
      | true =>
        rw [hb] at hx
        simp only [Bool.not_false, Bool.not_true] at hx
        have hok := Aside0.mk hb
        clear hb
        go_wp2_with fail
        refine hx.mono ?_
        rintro e w' ⟨rfl, hb⟩
        have HB2 := Aside0.mk (below_step HB.out hb)
        clear hb
        go_wp2
        go_round
        case rel => exact ⟨k + 1, by omega, by go_num, ⟨by rw [all_take_succL (okP n) l z76 k hlt, Hall.out, ← Hrd.out]; exact hok.out⟩, HB2⟩
        case measure => simp [intOf]; omega
    · go_wp2
      go_ret
      have e := Hall.out
      rw [List.take_of_length_le (by omega)] at e
      rw [e]
      exact ⟨⟨_, rfl, rfl⟩, HB.out⟩
theorem conP (n : Int) (g : Nat) (l : List SW) (A : Option Addr) (c : Nat) (w : World) (hg : w.heap[g]? = some (.cells #[.int .i64 n] 3 (0, 0))) (hr : Kd.C kW w A l.length l) (hl : l.length ≤ 100000) :
    Calls Try.prog 57 #[.slice A l.length c, .func (.func 55) #[] #[.pointer (some ⟨g, 0, none⟩)]] w fun e w' => e = .returned (.bool (!l.all (okP n))) ∧ Below w.heap.size w w' := by
  have h := idxP n g l A c w hg hr hl
  generalize l.all (okP n) = B at *
  clear hg hr hl
  go_enter Try.func57, Try.ntmps57
  go_wp2_with (go_at_call 70; refine h.mono ?_; rintro e w' ⟨⟨r, rfl, hB⟩, hb⟩)
  all_goals
    go_ret
    refine ⟨?_, hb⟩
    rw [← hB]
    rfl

set_option maxRecDepth 100000 in
set_option maxHeartbeats 2000000 in
theorem disk_Check.calls (A0_0 : Option Addr) (c0_0 : Nat) (l0_0 : List (List Int)) (A0_1 : Option Addr) (c0_1 : Nat) (l0_1 : List SW) (a0_2 : Int) (a0_3 : Bool) (r : Int) (w : World) (hr0_0 : Kd.C kSec w A0_0 l0_0.length l0_0) (hc0_0 : l0_0.length ≤ c0_0) (hr0_1 : Kd.C kW w A0_1 l0_1.length l0_1) (hc0_1 : l0_1.length ≤ c0_1) (h : disk_Check.f l0_0 l0_1 a0_2 a0_3 = some r) :
    Calls Try.prog 31 #[.agg #[.slice A0_0 l0_0.length c0_0, .slice A0_1 l0_1.length c0_1, .int .i64 a0_2, .bool a0_3]] w fun e w' => e = .returned (.int .i64 r) ∧ Below w.heap.size w w' := by
  obtain rfl : dchk l0_0 l0_1 a0_2 = r := Option.some.inj h
  clear h
  have hu := Try.underlying25
  have Hr0 := Aside0.mk hr0_0
  have Hr1 := Aside0.mk hr0_1
  clear hr0_0 hr0_1 hc0_0 hc0_1
  have HB2 := Aside0.mk (below_alloc (below_alloc (Below.refl w.heap.size w) (.cells #[.slice A0_0 l0_0.length c0_0, .slice A0_1 l0_1.length c0_1, .int .i64 a0_2, .bool a0_3] 25 (0, 0))) (.cells #[.int .i64 l0_0.length] 3 (0, 0)))
  have Hg := Aside0.mk (heap_at_new (w.alloc (.cells #[.slice A0_0 l0_0.length c0_0, .slice A0_1 l0_1.length c0_1, .int .i64 a0_2, .bool a0_3] 25 (0, 0))) (.cells #[.int .i64 l0_0.length] 3 (0, 0)) (w.heap.size + 1) (by simp))
  have Hd := Aside0.mk (heap_at_old (w.alloc (.cells #[.slice A0_0 l0_0.length c0_0, .slice A0_1 l0_1.length c0_1, .int .i64 a0_2, .bool a0_3] 25 (0, 0))) (.cells #[.int .i64 l0_0.length] 3 (0, 0)) w.heap.size _ (heap_at_new w _ _ rfl))
  have HP := Aside0.mk (fun hl => conP l0_0.length (w.heap.size + 1) l0_1 A0_1 c0_1 _ Hg.out (Kd.C_below Hr1.out HB2.out) hl)
  by_cases hbad : (l0_0.length : Int) < 1 ∨ (l0_0.length : Int) > 4096 ∨ (l0_1.length : Int) > 4096 ∨ a0_2 < -1 ∨ a0_2 > 65536
  · have e : dchk l0_0 l0_1 a0_2 = 40 := by unfold dchk; rw [if_pos hbad]
    rw [e]
    clear e HP Hg Hd Hr0 Hr1
    by_cases h1 : (l0_0.length : Int) < 1
    · clear hbad
      go_enter Try.func31, Try.ntmps31
      go_wp2
      go_ret
      exact ⟨rfl, HB2.out⟩
    · by_cases h2 : (l0_0.length : Int) > 4096
      · clear hbad
        go_enter Try.func31, Try.ntmps31
        go_wp2
        go_ret
        exact ⟨rfl, HB2.out⟩
      · by_cases h3 : (l0_1.length : Int) > 4096
        · clear hbad
          go_enter Try.func31, Try.ntmps31
          go_wp2
          go_ret
          exact ⟨rfl, HB2.out⟩
        · by_cases h4 : a0_2 < -1
          · clear hbad
            go_enter Try.func31, Try.ntmps31
            go_wp2
            go_ret
            exact ⟨rfl, HB2.out⟩
          · have h5 : a0_2 > 65536 := by omega
            clear hbad
            go_enter Try.func31, Try.ntmps31
            go_wp2
            go_ret
            exact ⟨rfl, HB2.out⟩
  · have h1 : ¬ (l0_0.length : Int) < 1 := by omega
    have h2 : ¬ (l0_0.length : Int) > 4096 := by omega
    have h3 : ¬ (l0_1.length : Int) > 4096 := by omega
    have h4 : ¬ a0_2 < -1 := by omega
    have h5 : ¬ a0_2 > 65536 := by omega
    have e : dchk l0_0 l0_1 a0_2 = if l0_1.all (okP l0_0.length) = true then (if l0_0.all okS = true then 0 else 40) else 40 := by unfold dchk; rw [if_neg hbad]
    rw [e]
    clear e hbad
    have HP := Aside0.mk (HP.out (by omega))
    have HS := Aside0.mk (fun w1 hb => conS l0_0 A0_0 c0_0 w1 (Kd.C_below Hr0.out (below_step HB2.out hb)) (by omega))
    clear Hr0 Hr1 Hg
    obtain ⟨B1, hB1⟩ : ∃ b, Aside0 (l0_1.all (okP l0_0.length) = b) := ⟨_, ⟨rfl⟩⟩
    obtain ⟨B2, hB2⟩ : ∃ b, Aside0 (l0_0.all okS = b) := ⟨_, ⟨rfl⟩⟩
    rw [hB1.out] at HP ⊢
    rw [hB2.out] at HS ⊢
    clear hB1 hB2
    cases B1 with
    | false =>
      go_enter Try.func31, Try.ntmps31
      go_wp2_with fail
      refine HP.out.mono ?_
      rintro e w1 ⟨rfl, hb⟩
      have HB3 := Aside0.mk (below_step HB2.out hb)
      clear hb
      go_wp2
      go_ret
      exact ⟨rfl, HB3.out⟩
    | true =>
      go_enter Try.func31, Try.ntmps31
      go_wp2_with fail
      refine HP.out.mono ?_
      rintro e w1 ⟨rfl, hb⟩
      have HB3 := Aside0.mk (below_step HB2.out hb)
      have HS := Aside0.mk (HS.out w1 hb)
      have c0 := (blk_cell (heap_below hb Hd.out) 0).trans rfl
      clear hb Hd
      cases B2 with
      | false =>
        go_wp2_with fail
        refine HS.out.mono ?_
        rintro e w1 ⟨rfl, rfl⟩
        go_wp2
        go_ret
        exact ⟨rfl, HB3.out⟩
      | true =>
        go_wp2_with fail
        refine HS.out.mono ?_
        rintro e w1 ⟨rfl, rfl⟩
        go_wp2
        go_ret
        exact ⟨rfl, HB3.out⟩
end Go.Proofs.Ytljmdkeeppikhaa.Q
