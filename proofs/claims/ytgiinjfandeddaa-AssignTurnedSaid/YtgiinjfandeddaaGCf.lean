/- By hand: slices.ContainsFunc with the closures of assign.Check and assign.Proves. -/
import Derived.Test.YtgiinjfandeddaaQ0
import Derived.Outline
import Derived.Laws.EntriesVeiled
import Derived.RegionTactic
import Derived.Deep.RegionWith
import Derived.Shelf.Abstract
namespace Go.Proofs.Ytgiinjfandeddaa.Q
open Go.RowKit Go.Proofs.YtgiinjfandeddaaW.PrintWords Go.Proofs.YtgiinjfandeddaaW.PrintLast Go.Proofs.YtgiinjfandeddaaW.PrintMore
attribute [local go_sem] max2_int min2_int max_two min_two
set_option linter.unusedVariables false
set_option linter.unusedSimpArgs false

/-- Is a row short enough? -/
def okRow (b : List Int) : Bool := decide ((b.length : Int) ≤ 16)
/-- Is a cost right? -/
def okCost (x : Int) : Bool := !(decide (x < -1) || decide (x > 1073741824))
/-- Is a column's price in its range? -/
def okPrice (x : Int) : Bool := !(decide (x < -1099511627776) || decide (x > 0))
def slices_ContainsFunc_int_int_35.f (l0 : List (List Int)) : Option Bool := if l0.length ≤ 1000 then some (!l0.all okRow) else none
def slices_ContainsFunc_int_int_38.f (l0 : List Int) : Option Bool := if l0.length ≤ 1000 then some (!l0.all okCost) else none
def slices_IndexFunc_int_int.f (l0 : List Int) : Option Bool := if l0.length ≤ 1000 then some (!l0.all okPrice) else none

theorem all_take_succL {α : Type} (p : α → Bool) (l : List α) (d : α) (k : Nat) (h : k < l.length) : (l.take (k + 1)).all p = ((l.take k).all p && p (l.getD k d)) := by
  rw [List.take_succ_eq_append_getElem h, List.all_append]
  simp [List.getD, h]
theorem all_falseL {α : Type} (p : α → Bool) (l : List α) (d : α) (k : Nat) (h : k < l.length) (hp : p (l.getD k d) = false) : l.all p = false := by
  rw [List.all_eq_false]
  refine ⟨l.getD k d, ?_, by rw [hp]; decide⟩
  simp [List.getD, h]

theorem ckR (A : Option Addr) (n c : Nat) (w : World) :
    Calls Try.prog 36 #[.slice A n c] w fun e w' => e = .returned (.bool (!decide ((n : Int) ≤ 16))) ∧ w' = w := by
  by_cases h : (n : Int) ≤ 16
  · go_enter Try.func36, Try.ntmps36
    go_wp2
    go_ret
    exact ⟨by simp [h], rfl⟩
  · go_enter Try.func36, Try.ntmps36
    go_wp2
    go_ret
    exact ⟨by simp [h], rfl⟩

theorem ckC (x : Int) (w : World) :
    Calls Try.prog 37 #[.int .i64 x] w fun e w' => e = .returned (.bool (!okCost x)) ∧ w' = w := by
  unfold okCost
  by_cases h1 : x < -1
  · go_enter Try.func37, Try.ntmps37
    go_wp2
    go_ret
    exact ⟨by simp [h1], rfl⟩
  · go_enter Try.func37, Try.ntmps37
    go_wp2
    go_ret
    exact ⟨by simp [h1]; omega, rfl⟩

theorem ckP (x : Int) (w : World) :
    Calls Try.prog 39 #[.int .i64 x] w fun e w' => e = .returned (.bool (!okPrice x)) ∧ w' = w := by
  unfold okPrice
  by_cases h1 : x < -1099511627776
  · go_enter Try.func39, Try.ntmps39
    go_wp2
    go_ret
    exact ⟨by simp [h1], rfl⟩
  · go_enter Try.func39, Try.ntmps39
    go_wp2
    go_ret
    exact ⟨by simp [h1]; omega, rfl⟩

set_option maxHeartbeats 1000000 in
theorem idxR (l : List (List Int)) (A : Option Addr) (c : Nat) (w : World) (hr : Kd.C (Kd.slice 3 (Kd.int .i64)) w A l.length l) (hl : l.length ≤ 1000) :
    Calls Try.prog 46 #[.slice A l.length c, .func (.func 36) #[] #[]] w fun e w' => (∃ r : Int, e = .returned (.int .i64 r) ∧ (decide (0 ≤ r)) = !l.all okRow) ∧ w' = w := by
  have Hr := Aside0.mk hr
  clear hr
  go_enter Try.func46, Try.ntmps46
  go_wp2
  go_loop [8] (fun i => ∃ k : Nat, k ≤ l.length ∧ i = .int .i64 k ∧ Aside0 ((l.take k).all okRow = true)) (fun i => l.length - (intOf i).toNat)
  case atStart => exact ⟨0, Nat.zero_le _, rfl, ⟨rfl⟩⟩
  case round =>
    obtain ⟨k, hk, rfl, Hall⟩ := hrel
    by_cases hlt : k < l.length
    · obtain ⟨ad, A0, c0, rfl, hcell, _, _⟩ := at_L1 Hr.out k (by omega) (by omega)
      rw [Int.toNat_natCast] at hcell
      have hrd : rd_L1 l (k : Int) = l.getD k [] := by simp [rd_L1]
      generalize rd_L1 l (k : Int) = x at *
      have Hrd := Aside0.mk hrd
      clear hrd
      have hx := ckR A0 x.length c0
      have hoka : okRow x = decide ((x.length : Int) ≤ 16) := rfl
      rw [← hoka] at hx
      cases hok : okRow x with
      | false =>
        rw [hok] at hx
        simp only [Bool.not_false, Bool.not_true] at hx
        have hok := Aside0.mk hok
        go_wp2_with fail
        refine (hx _).mono ?_
        rintro e w' ⟨rfl, rfl⟩
        go_wp2
        go_ret
        refine ⟨?_, rfl⟩
        rw [all_falseL okRow l [] k hlt (by rw [← Hrd.out]; exact hok.out)]
        simp
      | true =>
        rw [hok] at hx
        simp only [Bool.not_false, Bool.not_true] at hx
        have hok := Aside0.mk hok
        go_wp2_with fail
        refine (hx _).mono ?_
        rintro e w' ⟨rfl, rfl⟩
        go_wp2
        go_round
        case rel => exact ⟨k + 1, by omega, by go_num, ⟨by rw [all_take_succL okRow l [] k hlt, Hall.out, ← Hrd.out]; exact hok.out⟩⟩
        case measure => simp [intOf]; omega
    · go_wp2
      go_ret
      have e := Hall.out
      rw [List.take_of_length_le (by omega)] at e
      rw [e]
      exact ⟨⟨_, rfl, rfl⟩, rfl⟩

theorem conR (l : List (List Int)) (A : Option Addr) (c : Nat) (w : World) (hr : Kd.C (Kd.slice 3 (Kd.int .i64)) w A l.length l) (hl : l.length ≤ 1000) :
    Calls Try.prog 35 #[.slice A l.length c, .func (.func 36) #[] #[]] w fun e w' => e = .returned (.bool (!l.all okRow)) ∧ w' = w := by
  have h := idxR l A c w hr hl
  generalize l.all okRow = B at *
  clear hr hl
  go_enter Try.func35, Try.ntmps35
  go_wp2_with (go_at_call 46; refine h.mono ?_; rintro e w' ⟨⟨r, rfl, hB⟩, rfl⟩)
  all_goals
    go_ret
    refine ⟨?_, rfl⟩
    rw [← hB]
    rfl

set_option maxHeartbeats 1000000 in
theorem idxC (l : List Int) (A : Option Addr) (c : Nat) (w : World) (hr : Kd.C (Kd.int .i64) w A l.length l) (hl : l.length ≤ 1000) :
    Calls Try.prog 47 #[.slice A l.length c, .func (.func 37) #[] #[]] w fun e w' => (∃ r : Int, e = .returned (.int .i64 r) ∧ (decide (0 ≤ r)) = !l.all okCost) ∧ w' = w := by
  have Hr := Aside0.mk hr
  clear hr
  go_enter Try.func47, Try.ntmps47
  go_wp2
  go_loop [8] (fun i => ∃ k : Nat, k ≤ l.length ∧ i = .int .i64 k ∧ Aside0 ((l.take k).all okCost = true)) (fun i => l.length - (intOf i).toNat)
  case atStart => exact ⟨0, Nat.zero_le _, rfl, ⟨rfl⟩⟩
  case round =>
    obtain ⟨k, hk, rfl, Hall⟩ := hrel
    by_cases hlt : k < l.length
    · obtain ⟨ad, rfl, hcell⟩ := Kd.at_int Hr.out k (by omega) (by omega)
      rw [Int.toNat_natCast] at hcell
      have hrd : rd l (k : Int) = l.getD k 0 := by simp [rd]
      generalize rd l (k : Int) = x at *
      have Hrd := Aside0.mk hrd
      clear hrd
      have hx := ckC x
      cases hok : okCost x with
      | false =>
        rw [hok] at hx
        simp only [Bool.not_false, Bool.not_true] at hx
        have hok := Aside0.mk hok
        go_wp2_with fail
        refine (hx _).mono ?_
        rintro e w' ⟨rfl, rfl⟩
        go_wp2
        go_ret
        refine ⟨?_, rfl⟩
        rw [all_falseL okCost l 0 k hlt (by rw [← Hrd.out]; exact hok.out)]
        simp
      | true =>
        rw [hok] at hx
        simp only [Bool.not_false, Bool.not_true] at hx
        have hok := Aside0.mk hok
        go_wp2_with fail
        refine (hx _).mono ?_
        rintro e w' ⟨rfl, rfl⟩
        go_wp2
        go_round
        case rel => exact ⟨k + 1, by omega, by go_num, ⟨by rw [all_take_succL okCost l 0 k hlt, Hall.out, ← Hrd.out]; exact hok.out⟩⟩
        case measure => simp [intOf]; omega
    · go_wp2
      go_ret
      have e := Hall.out
      rw [List.take_of_length_le (by omega)] at e
      rw [e]
      exact ⟨⟨_, rfl, rfl⟩, rfl⟩

theorem conC (l : List Int) (A : Option Addr) (c : Nat) (w : World) (hr : Kd.C (Kd.int .i64) w A l.length l) (hl : l.length ≤ 1000) :
    Calls Try.prog 38 #[.slice A l.length c, .func (.func 37) #[] #[]] w fun e w' => e = .returned (.bool (!l.all okCost)) ∧ w' = w := by
  have h := idxC l A c w hr hl
  generalize l.all okCost = B at *
  clear hr hl
  go_enter Try.func38, Try.ntmps38
  go_wp2_with (go_at_call 47; refine h.mono ?_; rintro e w' ⟨⟨r, rfl, hB⟩, rfl⟩)
  all_goals
    go_ret
    refine ⟨?_, rfl⟩
    rw [← hB]
    rfl

set_option maxHeartbeats 1000000 in
theorem idxP (l : List Int) (A : Option Addr) (c : Nat) (w : World) (hr : Kd.C (Kd.int .i64) w A l.length l) (hl : l.length ≤ 1000) :
    Calls Try.prog 47 #[.slice A l.length c, .func (.func 39) #[] #[]] w fun e w' => (∃ r : Int, e = .returned (.int .i64 r) ∧ (decide (0 ≤ r)) = !l.all okPrice) ∧ w' = w := by
  have Hr := Aside0.mk hr
  clear hr
  go_enter Try.func47, Try.ntmps47
  go_wp2
  go_loop [8] (fun i => ∃ k : Nat, k ≤ l.length ∧ i = .int .i64 k ∧ Aside0 ((l.take k).all okPrice = true)) (fun i => l.length - (intOf i).toNat)
  case atStart => exact ⟨0, Nat.zero_le _, rfl, ⟨rfl⟩⟩
  case round =>
    obtain ⟨k, hk, rfl, Hall⟩ := hrel
    by_cases hlt : k < l.length
    · obtain ⟨ad, rfl, hcell⟩ := Kd.at_int Hr.out k (by omega) (by omega)
      rw [Int.toNat_natCast] at hcell
      have hrd : rd l (k : Int) = l.getD k 0 := by simp [rd]
      generalize rd l (k : Int) = x at *
      have Hrd := Aside0.mk hrd
      clear hrd
      have hx := ckP x
      cases hok : okPrice x with
      | false =>
        rw [hok] at hx
        simp only [Bool.not_false, Bool.not_true] at hx
        have hok := Aside0.mk hok
        go_wp2_with fail
        refine (hx _).mono ?_
        rintro e w' ⟨rfl, rfl⟩
        go_wp2
        go_ret
        refine ⟨?_, rfl⟩
        rw [all_falseL okPrice l 0 k hlt (by rw [← Hrd.out]; exact hok.out)]
        simp
      | true =>
        rw [hok] at hx
        simp only [Bool.not_false, Bool.not_true] at hx
        have hok := Aside0.mk hok
        go_wp2_with fail
        refine (hx _).mono ?_
        rintro e w' ⟨rfl, rfl⟩
        go_wp2
        go_round
        case rel => exact ⟨k + 1, by omega, by go_num, ⟨by rw [all_take_succL okPrice l 0 k hlt, Hall.out, ← Hrd.out]; exact hok.out⟩⟩
        case measure => simp [intOf]; omega
    · go_wp2
      go_ret
      have e := Hall.out
      rw [List.take_of_length_le (by omega)] at e
      rw [e]
      exact ⟨⟨_, rfl, rfl⟩, rfl⟩

theorem conP (l : List Int) (A : Option Addr) (c : Nat) (w : World) (hr : Kd.C (Kd.int .i64) w A l.length l) (hl : l.length ≤ 1000) :
    Calls Try.prog 38 #[.slice A l.length c, .func (.func 39) #[] #[]] w fun e w' => e = .returned (.bool (!l.all okPrice)) ∧ w' = w := by
  have h := idxP l A c w hr hl
  generalize l.all okPrice = B at *
  clear hr hl
  go_enter Try.func38, Try.ntmps38
  go_wp2_with (go_at_call 47; refine h.mono ?_; rintro e w' ⟨⟨r, rfl, hB⟩, rfl⟩)
  all_goals
    go_ret
    refine ⟨?_, rfl⟩
    rw [← hB]
    rfl

theorem slices_ContainsFunc_int_int_35.calls (A0 : Option Addr) (c0 : Nat) (l0 : List (List Int)) (r : Bool) (w : World) (hr0 : Kd.C (Kd.slice 3 (Kd.int .i64)) w A0 l0.length l0) (hc0 : l0.length ≤ c0) (h : slices_ContainsFunc_int_int_35.f l0 = some r) :
    Calls Try.prog 35 #[.slice A0 l0.length c0, .func (.func 36) #[] #[]] w fun e w' => e = .returned (.bool r) ∧ Below w.heap.size w w' := by
  unfold slices_ContainsFunc_int_int_35.f at h
  split at h
  · rename_i hl
    obtain rfl := Option.some.inj h
    exact (conR l0 A0 c0 w hr0 hl).mono fun e w' h => ⟨h.1, h.2 ▸ Below.refl _ _⟩
  · cases h

theorem slices_ContainsFunc_int_int_38.calls (A0 : Option Addr) (c0 : Nat) (l0 : List Int) (r : Bool) (w : World) (hr0 : Kd.C (Kd.int .i64) w A0 l0.length l0) (hc0 : l0.length ≤ c0) (h : slices_ContainsFunc_int_int_38.f l0 = some r) :
    Calls Try.prog 38 #[.slice A0 l0.length c0, .func (.func 37) #[] #[]] w fun e w' => e = .returned (.bool r) ∧ Below w.heap.size w w' := by
  unfold slices_ContainsFunc_int_int_38.f at h
  split at h
  · rename_i hl
    obtain rfl := Option.some.inj h
    exact (conC l0 A0 c0 w hr0 hl).mono fun e w' h => ⟨h.1, h.2 ▸ Below.refl _ _⟩
  · cases h

theorem slices_IndexFunc_int_int.calls (A0 : Option Addr) (c0 : Nat) (l0 : List Int) (r : Bool) (w : World) (hr0 : Kd.C (Kd.int .i64) w A0 l0.length l0) (hc0 : l0.length ≤ c0) (h : slices_IndexFunc_int_int.f l0 = some r) :
    Calls Try.prog 38 #[.slice A0 l0.length c0, .func (.func 39) #[] #[]] w fun e w' => e = .returned (.bool r) ∧ Below w.heap.size w w' := by
  unfold slices_IndexFunc_int_int.f at h
  split at h
  · rename_i hl
    obtain rfl := Option.some.inj h
    exact (conP l0 A0 c0 w hr0 hl).mono fun e w' h => ⟨h.1, h.2 ▸ Below.refl _ _⟩
  · cases h
end Go.Proofs.Ytgiinjfandeddaa.Q
