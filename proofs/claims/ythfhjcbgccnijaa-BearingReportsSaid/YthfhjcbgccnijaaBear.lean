/- By hand: what bearing.Risk and bearing.Bears compute, for every ground and range. -/
import Derived.Test.YthfhjcbgccnijaaQ0
import Derived.Outline
import Derived.Laws.EntriesVeiled
import Derived.RegionTactic
import Derived.Deep.RegionWith
namespace Go.Proofs.Ythfhjcbgccnijaa.Q
open Go.RowKit Go.Proofs.YthfhjcbgccnijaaW.PrintWords Go.Proofs.YthfhjcbgccnijaaW.PrintLast Go.Proofs.YthfhjcbgccnijaaW.PrintMore
attribute [local go_sem] max2_int min2_int max_two min_two
set_option linter.unusedVariables false
set_option linter.unusedSimpArgs false

theorem risk1 (x y : Int) (w : World) : Calls Try.prog 77 #[.int .i64 x, .int .i64 y] w fun e w' => e = .returned (.int .i64 (mx 0 (wrap64 (wrap64 (y - x) + 1)))) ∧ w = w' := by
  have hm : (if 0 < wrap64 (wrap64 (y - x) + 1) then wrap64 (wrap64 (y - x) + 1) else 0) = mx 0 (wrap64 (wrap64 (y - x) + 1)) := rfl
  go_enter Try.func77, Try.ntmps77
  go_wp2
  go_ret
  exact ⟨rfl, rfl⟩

def okState (n : Int) : Bool := decide (0 ≤ n) && decide (n ≤ 1000)

set_option maxHeartbeats 400000 in
theorem right1 (l : List Int) (A : Option Addr) (c : Nat) (w : World) (hr : Kd.C (Kd.int .i64) w A l.length l) (hl : l.length ≤ 1000) :
    Calls Try.prog 85 #[.slice A l.length c] w fun e w' => e = .returned (.bool (l.all okState)) ∧ w = w' := by
  go_enter Try.func85, Try.ntmps85
  go_wp2
  go_loop [7] (fun i => ∃ k : Nat, k ≤ l.length ∧ i = .int .i64 k ∧ (l.take k).all okState = true) (fun i => l.length - (intOf i).toNat)
  case atStart => exact ⟨0, Nat.zero_le _, rfl, rfl⟩
  case round =>
    obtain ⟨k, hk, rfl, hall⟩ := hrel
    have Hall := Aside0.mk hall
    clear hall
    by_cases hlt : k < l.length
    · obtain ⟨ad, rfl, hcell⟩ := Kd.at_int hr k (by omega) (by omega)
      rw [Int.toNat_natCast] at hcell
      have hrd : rd l (k : Int) = l.getD k 0 := by simp [rd]
      generalize rd l (k : Int) = x at *
      have Hrd := Aside0.mk hrd
      clear hrd
      by_cases h1 : x < 0
      · go_wp2
        go_ret
        refine ⟨?_, rfl⟩
        rw [all_false okState l k hlt (by rw [← Hrd.out]; simp [okState]; omega)]
        rfl
      · by_cases h2 : 1000 < x
        · go_wp2
          go_ret
          refine ⟨?_, rfl⟩
          rw [all_false okState l k hlt (by rw [← Hrd.out]; simp [okState]; omega)]
          rfl
        · go_wp2
          go_round
          case rel => exact ⟨k + 1, by omega, by go_num, by rw [all_take_succ okState l k hlt, Hall.out, ← Hrd.out]; simp [okState]; omega⟩
          case measure => simp [intOf]; omega
    · go_wp2
      go_ret
      have e := Hall.out
      rw [List.take_of_length_le (by omega)] at e
      rw [e]
      exact ⟨rfl, rfl⟩

/-- Is the ground a pitch, and the range one of states? -/
def rightB (bear wear grow uses lo hi : Int) : Bool := [bear, wear, grow, lo, hi].all okState && (decide (1 ≤ uses) && (decide (uses ≤ 4) && decide (lo ≤ hi)))

set_option maxHeartbeats 1000000 in
theorem right (n m : ByteArray) (t bear wear grow uses lo hi : Int) (w : World) :
    Calls Try.prog 76 #[.agg #[.string n, .string m, .int .i64 t, .int .i64 bear, .int .i64 wear, .int .i64 grow, .int .i64 uses], .agg #[.int .i64 lo, .int .i64 hi]] w fun e w' => e = .returned (.bool (rightB bear wear grow uses lo hi)) ∧ Below w.heap.size w w' := by
  have hc : ∀ (g : Nat) (W : World), W.heap[g]? = some (.cells #[.int .i64 bear, .int .i64 wear, .int .i64 grow, .int .i64 lo, .int .i64 hi] 3 (0, 0)) → Calls Try.prog 85 #[.slice (some ⟨g, 0, none⟩) 5 5] W fun e w' => e = .returned (.bool ([bear, wear, grow, lo, hi].all okState)) ∧ W = w' :=
    fun g W h => right1 [bear, wear, grow, lo, hi] _ _ _ (C_block [bear, wear, grow, lo, hi] h rfl (by simp)) (by simp)
  unfold rightB
  generalize [bear, wear, grow, lo, hi].all okState = B at *
  have Hc := Aside0.mk hc
  clear hc
  have hB := below_alloc (below_alloc (below_alloc (Below.refl w.heap.size w) (.cells #[.string n, .string m, .int .i64 t, .int .i64 bear, .int .i64 wear, .int .i64 grow, .int .i64 uses] 25)) (.cells #[.int .i64 lo, .int .i64 hi] 27)) (.cells #[.int .i64 bear, .int .i64 wear, .int .i64 grow, .int .i64 lo, .int .i64 hi] 3)
  have HB := Aside0.mk hB
  clear hB
  go_enter Try.func76, Try.ntmps76
  go_wp2_with fail
  refine (Hc.out _ _ (heap_at_new _ _ _ (by simp))).mono ?_
  rintro e w' ⟨rfl, rfl⟩
  cases B with
  | false =>
    go_wp2
    go_ret
    exact ⟨rfl, HB.out⟩
  | true =>
    by_cases h1 : 1 ≤ uses
    · by_cases h2 : uses ≤ 4
      · go_wp2
        go_ret
        exact ⟨by simp [h1, h2], HB.out⟩
      · go_wp2
        go_ret
        exact ⟨by simp [h1, h2]; omega, HB.out⟩
    · go_wp2
      go_ret
      exact ⟨by simp [h1]; omega, HB.out⟩

def bearing_Risk.f (_a0_0 : ByteArray) (_a0_1 : ByteArray) (_a0_2 : Int) (a0_3 : Int) (a0_4 : Int) (a0_5 : Int) (a0_6 : Int) (a1_0 : Int) (a1_1 : Int) : Option (Int × Int × Int) :=
  some (if rightB a0_3 a0_4 a0_5 a0_6 a1_0 a1_1 then (mx 0 (wrap64 (wrap64 (mn a1_1 (wrap64 (a0_3 - 1)) - a1_0) + 1)), mx 0 (wrap64 (wrap64 (a1_1 - a1_0) + 1)), 0) else (0, 0, 290))

set_option maxHeartbeats 1000000 in
theorem bearing_Risk.calls (a0_0 : ByteArray) (a0_1 : ByteArray) (a0_2 : Int) (a0_3 : Int) (a0_4 : Int) (a0_5 : Int) (a0_6 : Int) (a1_0 : Int) (a1_1 : Int) (r1 : Int) (r2 : Int) (r3 : Int) (w : World) (h : bearing_Risk.f a0_0 a0_1 a0_2 a0_3 a0_4 a0_5 a0_6 a1_0 a1_1 = some (r1, r2, r3)) :
    Calls Try.prog 49 #[.agg #[.string a0_0, .string a0_1, .int .i64 a0_2, .int .i64 a0_3, .int .i64 a0_4, .int .i64 a0_5, .int .i64 a0_6], .agg #[.int .i64 a1_0, .int .i64 a1_1]] w fun e w' => e = .returned (.tuple #[.int .i64 r1, .int .i64 r2, .int .i64 r3]) ∧ Below w.heap.size w w' := by
  have hr := right a0_0 a0_1 a0_2 a0_3 a0_4 a0_5 a0_6 a1_0 a1_1
  unfold bearing_Risk.f at h
  generalize rightB a0_3 a0_4 a0_5 a0_6 a1_0 a1_1 = B at *
  have Hr := Aside0.mk hr
  clear hr
  have H := Aside0.mk (Option.some.inj h)
  clear h
  have hB0 := below_alloc (below_alloc (Below.refl w.heap.size w) (.cells #[.string a0_0, .string a0_1, .int .i64 a0_2, .int .i64 a0_3, .int .i64 a0_4, .int .i64 a0_5, .int .i64 a0_6] 25)) (.cells #[.int .i64 a1_0, .int .i64 a1_1] 27)
  have HB0 := Aside0.mk hB0
  clear hB0
  go_enter Try.func49, Try.ntmps49
  go_wp2_with fail
  refine (Hr.out _).mono ?_
  rintro e w1 ⟨rfl, hb⟩
  have h0 : w1.heap[w.heap.size]? = some (.cells #[.string a0_0, .string a0_1, .int .i64 a0_2, .int .i64 a0_3, .int .i64 a0_4, .int .i64 a0_5, .int .i64 a0_6] 25) := heap_below hb (heap_at_old _ _ _ _ (heap_at_new _ _ _ rfl))
  have h1 : w1.heap[w.heap.size + 1]? = some (.cells #[.int .i64 a1_0, .int .i64 a1_1] 27) := heap_below hb (heap_at_new _ _ _ (by simp))
  have HB := Aside0.mk (below_step HB0.out hb)
  clear hb
  have c3 := (blk_cell h0 3).trans rfl
  have d0 := (blk_cell h1 0).trans rfl
  have d1 := (blk_cell h1 1).trans rfl
  clear h0 h1
  cases B with
  | false =>
    go_wp2
    go_ret3
    have e := H.out
    simp only [Bool.false_eq_true, if_false, Prod.mk.injEq] at e
    obtain ⟨rfl, rfl, rfl⟩ := e
    exact ⟨rfl, HB.out⟩
  | true =>
    have hm : (if wrap64 (a0_3 - 1) < a1_1 then wrap64 (a0_3 - 1) else a1_1) = mn a1_1 (wrap64 (a0_3 - 1)) := rfl
    go_wp2
    go_quiet ((go_at_call 77; exact Calls.quiet_of_same ((risk1 _ _ _).mono fun _ _ h => ⟨h.1, h.2.symm⟩)))
    go_wp2
    go_ret3
    have e := H.out
    simp only [if_true, Prod.mk.injEq] at e
    obtain ⟨rfl, rfl, rfl⟩ := e
    exact ⟨rfl, pw_below_drewN HB.out _⟩

def bearing_Bears.f (a0_0 : ByteArray) (a0_1 : ByteArray) (a0_2 : Int) (a0_3 : Int) (a0_4 : Int) (a0_5 : Int) (a0_6 : Int) (a1_0 : Int) (a1_1 : Int) : Option (Int × Int) :=
  (bearing_Risk.f a0_0 a0_1 a0_2 a0_3 a0_4 a0_5 a0_6 a1_0 a1_1).bind fun b => if b.2.2 = 0 then (if b.1 = 0 then some (2, 0) else if b.1 = b.2.1 then some (0, 0) else some (1, 0)) else some (0, b.2.2)

set_option maxHeartbeats 2000000 in
theorem bearing_Bears.calls (a0_0 : ByteArray) (a0_1 : ByteArray) (a0_2 : Int) (a0_3 : Int) (a0_4 : Int) (a0_5 : Int) (a0_6 : Int) (a1_0 : Int) (a1_1 : Int) (r1 : Int) (r2 : Int) (w : World) (h : bearing_Bears.f a0_0 a0_1 a0_2 a0_3 a0_4 a0_5 a0_6 a1_0 a1_1 = some (r1, r2)) :
    Calls Try.prog 20 #[.agg #[.string a0_0, .string a0_1, .int .i64 a0_2, .int .i64 a0_3, .int .i64 a0_4, .int .i64 a0_5, .int .i64 a0_6], .agg #[.int .i64 a1_0, .int .i64 a1_1]] w fun e w' => e = .returned (.tuple #[.int .i64 r1, .int .i64 r2]) ∧ Below w.heap.size w w' := by
  unfold bearing_Bears.f at h
  obtain ⟨bad, all, f, hb⟩ : ∃ bad all f, bearing_Risk.f a0_0 a0_1 a0_2 a0_3 a0_4 a0_5 a0_6 a1_0 a1_1 = some (bad, all, f) := ⟨_, _, _, rfl⟩
  rw [hb] at h
  have Hr := Aside0.mk (fun W => bearing_Risk.calls a0_0 a0_1 a0_2 a0_3 a0_4 a0_5 a0_6 a1_0 a1_1 bad all f W hb)
  clear hb
  have H := Aside0.mk h
  clear h
  have hB0 := below_alloc (below_alloc (Below.refl w.heap.size w) (.cells #[.string a0_0, .string a0_1, .int .i64 a0_2, .int .i64 a0_3, .int .i64 a0_4, .int .i64 a0_5, .int .i64 a0_6] 25)) (.cells #[.int .i64 a1_0, .int .i64 a1_1] 27)
  have HB0 := Aside0.mk hB0
  clear hB0
  by_cases hf : f = 0
  · go_enter Try.func20, Try.ntmps20
    go_wp2_with fail
    refine (Hr.out _).mono ?_
    rintro e w1 ⟨rfl, hb⟩
    have HB := Aside0.mk (below_step HB0.out hb)
    clear hb HB0
    subst hf
    have ht : (w1.alloc (.cells #[.int .i64 2, .func (.func 50) #[] #[], .int .i64 0, .func (.func 51) #[] #[], .int .i64 1, .func (.func 52) #[] #[]] 96)).heap[w1.heap.size]? = some (.cells #[.int .i64 2, .func (.func 50) #[] #[], .int .i64 0, .func (.func 51) #[] #[], .int .i64 1, .func (.func 52) #[] #[]] 96 (0, 0)) := heap_at_new _ _ _ rfl
    have HT := Aside0.mk ht
    clear ht
    have HB1 := Aside0.mk (below_alloc HB.out (.cells #[.int .i64 2, .func (.func 50) #[] #[], .int .i64 0, .func (.func 51) #[] #[], .int .i64 1, .func (.func 52) #[] #[]] 96))
    clear HB
    go_wp2
    go_loopw [25] (fun i wr => ∃ k : Int, (k = 0 ∨ k = 1 ∨ k = 2) ∧ i = .int .i64 k ∧ (0 < k → bad ≠ 0) ∧ (1 < k → bad ≠ all) ∧ Aside0 (wr.heap[w1.heap.size]? = some (.cells #[.int .i64 2, .func (.func 50) #[] #[], .int .i64 0, .func (.func 51) #[] #[], .int .i64 1, .func (.func 52) #[] #[]] 96 (0, 0))) ∧ Aside0 (Below w.heap.size w wr)) (fun i _ => 3 - (intOf i).toNat)
    case atStart => exact ⟨0, .inl rfl, rfl, by omega, by omega, HT, HB1⟩
    case round =>
      clear HT HB1
      obtain ⟨k, hk, rfl, ha, hb, HT, HB⟩ := hrel
      have e := H.out
      simp only [Option.bind_some, if_pos] at e
      have Ha := Aside0.mk ha
      have Hb := Aside0.mk hb
      clear ha hb
      have HE := Aside0.mk e
      clear e
      have t0 := (blk_cell HT.out 0).trans rfl
      have t1 := (blk_cell HT.out 1).trans rfl
      have t2 := (blk_cell HT.out 2).trans rfl
      have t3 := (blk_cell HT.out 3).trans rfl
      have t4 := (blk_cell HT.out 4).trans rfl
      have t5 := (blk_cell HT.out 5).trans rfl
      have hlt := blk_lt HT.out
      obtain rfl | rfl | rfl := hk
      · by_cases h0 : bad = 0
        · go_wp2
          go_ret2
          have e := HE.out
          rw [if_pos h0] at e
          simp only [Option.some.injEq, Prod.mk.injEq] at e
          obtain ⟨rfl, rfl⟩ := e
          exact ⟨rfl, below_alloc HB.out _⟩
        · have h0b : (bad == 0) = false := beq_eq_false_iff_ne.2 h0
          have H0 := Aside0.mk h0
          clear h0
          go_wp2
          go_roundw
          case rel => exact ⟨1, .inr (.inl rfl), by go_num, fun _ => H0.out, by omega, ⟨heap_at_old _ _ _ _ HT.out⟩, ⟨below_alloc HB.out _⟩⟩
          case measure => simp [intOf]
      · have h0 : bad ≠ 0 := Ha.out (by omega)
        have H0 := Aside0.mk h0
        clear h0
        by_cases h1 : bad = all
        · have h1b : (bad == all) = true := beq_iff_eq.2 h1
          have H1 := Aside0.mk h1
          clear h1
          go_wp2
          go_ret2
          have e := HE.out
          rw [if_neg H0.out, if_pos H1.out] at e
          simp only [Option.some.injEq, Prod.mk.injEq] at e
          obtain ⟨rfl, rfl⟩ := e
          exact ⟨rfl, below_alloc HB.out _⟩
        · have h1b : (bad == all) = false := beq_eq_false_iff_ne.2 h1
          have H1 := Aside0.mk h1
          clear h1
          go_wp2
          go_roundw
          case rel => exact ⟨2, .inr (.inr rfl), by go_num, fun _ => H0.out, fun _ => H1.out, ⟨heap_at_old _ _ _ _ HT.out⟩, ⟨below_alloc HB.out _⟩⟩
          case measure => simp [intOf]
      · have H0 := Aside0.mk (Ha.out (by omega))
        have H1 := Aside0.mk (Hb.out (by omega))
        go_wp2
        go_ret2
        have e := HE.out
        rw [if_neg H0.out, if_neg H1.out] at e
        simp only [Option.some.injEq, Prod.mk.injEq] at e
        obtain ⟨rfl, rfl⟩ := e
        exact ⟨rfl, below_alloc HB.out _⟩
  · have hf1 : (f != 0) = true := bne_iff_ne.2 hf
    go_enter Try.func20, Try.ntmps20
    go_wp2_with fail
    refine (Hr.out _).mono ?_
    rintro e w1 ⟨rfl, hb⟩
    have HB := Aside0.mk (below_step HB0.out hb)
    clear hb HB0
    go_wp2
    go_ret2
    have e := H.out
    simp only [Option.bind_some, if_neg hf, Option.some.injEq, Prod.mk.injEq] at e
    obtain ⟨rfl, rfl⟩ := e
    exact ⟨rfl, HB.out⟩

end Go.Proofs.Ythfhjcbgccnijaa.Q
