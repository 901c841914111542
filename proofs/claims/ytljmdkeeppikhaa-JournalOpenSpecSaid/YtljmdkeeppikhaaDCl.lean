/- By hand: the library's Clone and Clip at writes, sectors, bytes. -/
import Derived.Test.YtljmdkeeppikhaaDCk
import Derived.Shelf.RegionOpenPlain
import Derived.Lib.Walk
import Derived.Lib.SliceRun
import Derived.Laws.AppendOwn
namespace Go.Proofs.Ytljmdkeeppikhaa.Q
open Go.RowKit Go.Proofs.YtljmdkeeppikhaaW.PrintWords Go.Proofs.YtljmdkeeppikhaaW.PrintLast Go.Proofs.YtljmdkeeppikhaaW.PrintMore
attribute [local go_sem] max2_int min2_int max_two min_two
set_option linter.unusedVariables false
set_option linter.unusedSimpArgs false

/-- A row of nothing, made just now. -/
theorem N_made0 {α : Type} (d : Kd α) (e : Nat) (w : World) (ok : Nat → Prop) (hok : ok w.heap.size) : Kd.N d e (w.alloc (.cells #[] e)) w.heap.size ok (.slice (some ⟨w.heap.size, 0, none⟩) 0 0) [] :=
  ⟨fun k hk => by simp [Value.ownBlock] at hk; rw [← hk]; exact hok, [], rfl,
    ⟨fun k hk => hk.symm, [], World.ownsRow_made w #[] 0 (Nat.le_refl _) (Nat.zero_le _) (by simp), ⟨by simp, fun j p hj => by simp at hj⟩⟩,
    fun j x c hx => by simp at hx⟩

set_option maxHeartbeats 2000000 in
set_option maxRecDepth 100000 in
theorem clW (l : List SW) (A : Option Addr) (c : Nat) (P : Nat → Prop) (w : World) (hr : Kd.V kW 76 w w.heap.size P (.slice A l.length c) l) (hn : l.length ≤ 100000) :
    Calls Try.prog 53 #[.slice A l.length c] w fun e w' => ∃ v', e = .returned v' ∧ Kd.N kW 76 w' w.heap.size (fun k => P k ∨ w.heap.size ≤ k) v' l ∧ Below w.heap.size w w' := by
  have hu := Try.underlying23
  have q22 : ∀ (w : World) (a : Option Addr) (n c n' c' : Nat), (binOp .eql 23 (.slice a n c) (.slice none n' c')).run Try.prog w = .ok (.bool a.isNone) w := fun w a n c n' c' => Lib.run_eql_slice_nil w _ _ a n c n' c' Try.underlying23
  cases A with
  | none =>
    have h0 : l = [] := by
      by_cases h : 0 < l.length
      · obtain ⟨ad, e, _⟩ := (Kd.V_reads' hr).2.2.2.2 h
        cases e
      · exact List.eq_nil_of_length_eq_zero (by omega)
    subst h0
    clear hr
    go_enter Try.func53, Try.ntmps53
    go_wp2
    go_ret
    exact ⟨_, rfl, Kd.N_nil _ _ _ _ _, Below.refl _ _⟩
  | some ad =>
    have HV := Aside0.mk (Kd.F_alloc (Kd.F_bound (Kd.V_F hr)) (.cells #[] 76 (0, 0)))
    clear hr
    have HO := Aside0.mk (N_made0 kW 76 w (fun k => P k ∨ w.heap.size ≤ k) (.inr (Nat.le_refl _)))
    have HB := Aside0.mk (below_alloc (Below.refl w.heap.size w) (.cells #[] 76 (0, 0)))
    have hsz := Aside0.mk (show w.heap.size ≤ (w.alloc (.cells #[] 76 (0, 0))).heap.size from by simp)
    go_enter Try.func53, Try.ntmps53
    go_wp2_with (at_builtin; refine Kd.N_append_rows kW w.heap.size rfl _ _ 23 76 (.agg #[.int .i64 0, .slice none 0 0]) 32 rfl hu infW rfl (by decide) (by decide) (.slice (some ⟨w.heap.size, 0, none⟩) 0 0) [] l (some ad) l.length c _ _ rfl rfl HO.out HV.out ?qc1 ?qc2 HB.out hsz.out ?qc3 ?_)
    case qc1 => exact fun k hk => ⟨.inl hk.1, by simp [Value.ownBlock]; have := hk.2; omega⟩
    case qc2 => exact fun k hk => .inr (Nat.le_trans hsz.out hk)
    case qc3 => rw [List.length_nil, Nat.zero_add]; omega
    intro v' w1 hN hb hgrow hat
    go_wp2
    go_ret
    exact ⟨v', rfl, by simpa using hN, hb⟩

set_option maxHeartbeats 2000000 in
set_option maxRecDepth 100000 in
theorem clS (l : List (List Int)) (A : Option Addr) (c : Nat) (P : Nat → Prop) (w : World) (hr : Kd.V kSec 35 w w.heap.size P (.slice A l.length c) l) (hn : l.length ≤ 100000) :
    Calls Try.prog 69 #[.slice A l.length c] w fun e w' => ∃ v', e = .returned v' ∧ Kd.N kSec 35 w' w.heap.size (fun k => P k ∨ w.heap.size ≤ k) v' l ∧ Below w.heap.size w w' := by
  have hu := Try.underlying22
  have q22 : ∀ (w : World) (a : Option Addr) (n c n' c' : Nat), (binOp .eql 22 (.slice a n c) (.slice none n' c')).run Try.prog w = .ok (.bool a.isNone) w := fun w a n c n' c' => Lib.run_eql_slice_nil w _ _ a n c n' c' Try.underlying22
  cases A with
  | none =>
    have h0 : l = [] := by
      by_cases h : 0 < l.length
      · obtain ⟨ad, e, _⟩ := (Kd.V_reads' hr).2.2.2.2 h
        cases e
      · exact List.eq_nil_of_length_eq_zero (by omega)
    subst h0
    clear hr
    go_enter Try.func69, Try.ntmps69
    go_wp2
    go_ret
    exact ⟨_, rfl, Kd.N_nil _ _ _ _ _, Below.refl _ _⟩
  | some ad =>
    have HV := Aside0.mk (Kd.F_alloc (Kd.F_bound (Kd.V_F hr)) (.cells #[] 35 (0, 0)))
    clear hr
    have HO := Aside0.mk (N_made0 kSec 35 w (fun k => P k ∨ w.heap.size ≤ k) (.inr (Nat.le_refl _)))
    have HB := Aside0.mk (below_alloc (Below.refl w.heap.size w) (.cells #[] 35 (0, 0)))
    have hsz := Aside0.mk (show w.heap.size ≤ (w.alloc (.cells #[] 35 (0, 0))).heap.size from by simp)
    go_enter Try.func69, Try.ntmps69
    go_wp2_with (at_builtin; refine Kd.N_append_rows kSec w.heap.size rfl _ _ 22 35 (.slice none 0 0) 24 rfl hu infS rfl (by decide) (by decide) (.slice (some ⟨w.heap.size, 0, none⟩) 0 0) [] l (some ad) l.length c _ _ rfl rfl HO.out HV.out ?qc1 ?qc2 HB.out hsz.out ?qc3 ?_)
    case qc1 => exact fun k hk => ⟨.inl hk.1, by simp [Value.ownBlock]; have := hk.2; omega⟩
    case qc2 => exact fun k hk => .inr (Nat.le_trans hsz.out hk)
    case qc3 => rw [List.length_nil, Nat.zero_add]; omega
    intro v' w1 hN hb hgrow hat
    go_wp2
    go_ret
    exact ⟨v', rfl, by simpa using hN, hb⟩

set_option maxHeartbeats 2000000 in
set_option maxRecDepth 100000 in
theorem clB (l : List Int) (A : Option Addr) (c : Nat) (P : Nat → Prop) (w : World) (hr : Kd.V (Kd.int .u8) 5 w w.heap.size P (.slice A l.length c) l) (hn : l.length ≤ 100000) :
    Calls Try.prog 38 #[.slice A l.length c] w fun e w' => ∃ v', e = .returned v' ∧ Kd.N (Kd.int .u8) 5 w' w.heap.size (fun k => P k ∨ w.heap.size ≤ k) v' l ∧ Below w.heap.size w w' := by
  have hu := Try.underlying35
  have q22 : ∀ (w : World) (a : Option Addr) (n c n' c' : Nat), (binOp .eql 35 (.slice a n c) (.slice none n' c')).run Try.prog w = .ok (.bool a.isNone) w := fun w a n c n' c' => Lib.run_eql_slice_nil w _ _ a n c n' c' Try.underlying35
  cases A with
  | none =>
    have h0 : l = [] := by
      by_cases h : 0 < l.length
      · obtain ⟨ad, e, _⟩ := (Kd.V_reads' hr).2.2.2.2 h
        cases e
      · exact List.eq_nil_of_length_eq_zero (by omega)
    subst h0
    clear hr
    go_enter Try.func38, Try.ntmps38
    go_wp2
    go_ret
    exact ⟨_, rfl, Kd.N_nil _ _ _ _ _, Below.refl _ _⟩
  | some ad =>
    have HV := Aside0.mk (Kd.F_alloc (Kd.F_bound (Kd.V_F hr)) (.cells #[] 5 (0, 0)))
    clear hr
    have HO := Aside0.mk (N_made0 (Kd.int .u8) 5 w (fun k => P k ∨ w.heap.size ≤ k) (.inr (Nat.le_refl _)))
    have HB := Aside0.mk (below_alloc (Below.refl w.heap.size w) (.cells #[] 5 (0, 0)))
    have hsz := Aside0.mk (show w.heap.size ≤ (w.alloc (.cells #[] 5 (0, 0))).heap.size from by simp)
    go_enter Try.func38, Try.ntmps38
    go_wp2_with (at_builtin; refine Kd.N_append_rows (Kd.int .u8) w.heap.size rfl _ _ 35 5 (.int .u8 0) 1 rfl hu infB rfl (by decide) (by decide) (.slice (some ⟨w.heap.size, 0, none⟩) 0 0) [] l (some ad) l.length c _ _ rfl rfl HO.out HV.out ?qc1 ?qc2 HB.out hsz.out ?qc3 ?_)
    case qc1 => exact fun k hk => ⟨.inl hk.1, by simp [Value.ownBlock]; have := hk.2; omega⟩
    case qc2 => exact fun k hk => .inr (Nat.le_trans hsz.out hk)
    case qc3 => rw [List.length_nil, Nat.zero_add]; omega
    intro v' w1 hN hb hgrow hat
    go_wp2
    go_ret
    exact ⟨v', rfl, by simpa using hN, hb⟩
end Go.Proofs.Ytljmdkeeppikhaa.Q
