/- By hand: what turf.Check and turf.Next compute, for every ground, range, sky and use. -/
import Derived.Test.YthfhjcbgccnijaaQ0
import Derived.Test.YthfhjcbgccnijaaAid
import Derived.Outline
import Derived.RegionTactic
import Derived.Deep.RegionWith
import Derived.StillTailTactics
namespace Go.Proofs.Ythfhjcbgccnijaa.Q
open Go.RowKit Go.Proofs.YthfhjcbgccnijaaW.PrintWords Go.Proofs.YthfhjcbgccnijaaW.PrintLast Go.Proofs.YthfhjcbgccnijaaW.PrintMore
attribute [local go_sem] max2_int min2_int max_two min_two
set_option linter.unusedVariables false
set_option linter.unusedSimpArgs false

def pitchB (bear wear grow uses : Int) : Bool := decide (0 ≤ bear ∧ bear ≤ 1000) && (decide (0 ≤ wear ∧ wear ≤ 1000) && (decide (0 ≤ grow ∧ grow ≤ 1000) && decide (1 ≤ uses ∧ uses ≤ 4)))
def withinB (lo hi most : Int) : Bool := decide (0 ≤ lo ∧ lo ≤ hi ∧ hi ≤ most)

set_option maxHeartbeats 1000000 in
theorem within_ (lo hi most : Int) (w : World) : Calls Try.prog 47 #[.agg #[.int .i64 lo, .int .i64 hi], .int .i64 most] w fun e w' => e = .returned (.bool (withinB lo hi most)) ∧ Below w.heap.size w w' := by
  by_cases h1 : 0 ≤ lo
  · by_cases h2 : lo ≤ hi
    · have h3 : withinB lo hi most = decide (hi ≤ most) := by simp [withinB, h1, h2]
      rw [h3]
      go_enter Try.func47, Try.ntmps47
      go_wp2
      go_ret
      exact ⟨rfl, below_alloc (Below.refl _ _) _⟩
    · have h3 : withinB lo hi most = false := by simp [withinB]; omega
      rw [h3]
      go_enter Try.func47, Try.ntmps47
      go_wp2
      go_ret
      exact ⟨rfl, below_alloc (Below.refl _ _) _⟩
  · have h3 : withinB lo hi most = false := by simp [withinB]; omega
    rw [h3]
    go_enter Try.func47, Try.ntmps47
    go_wp2
    go_ret
    exact ⟨rfl, below_alloc (Below.refl _ _) _⟩

set_option maxHeartbeats 1000000 in
theorem fine_ (a b c d : Int) (w : World) : Calls Try.prog 53 #[.agg #[.int .i64 a, .int .i64 b, .int .i64 c, .int .i64 d]] w fun e w' => e = .returned (.bool (withinB a b 200 && withinB c d 40)) ∧ Below w.heap.size w w' := by
  have H1 := Aside0.mk (within_ a b 200)
  have H2 := Aside0.mk (within_ c d 40)
  generalize withinB a b 200 = B at *
  generalize withinB c d 40 = C at *
  go_enter Try.func53, Try.ntmps53
  go_wp2_with fail
  refine (H1.out _).mono ?_
  rintro e w1 ⟨rfl, hb⟩
  have h0 : w1.heap[w.heap.size]? = some (.cells #[.int .i64 a, .int .i64 b, .int .i64 c, .int .i64 d] 39) := heap_below hb (heap_at_new _ _ _ rfl)
  have HB := Aside0.mk (below_step (below_alloc (Below.refl w.heap.size w) _) hb)
  clear hb
  have c2 := (blk_cell h0 2).trans rfl
  have c3 := (blk_cell h0 3).trans rfl
  clear h0
  cases B with
  | false =>
    go_wp2
    go_ret
    exact ⟨rfl, HB.out⟩
  | true =>
    go_wp2_with fail
    refine (H2.out _).mono ?_
    rintro e w2 ⟨rfl, hb⟩
    have HB2 := Aside0.mk (below_step HB.out hb)
    clear hb
    go_wp2
    go_ret
    exact ⟨by simp, HB2.out⟩

def turf_Check.f (_a0_0 : ByteArray) (_a0_1 : ByteArray) (_a0_2 : Int) (a0_3 : Int) (a0_4 : Int) (a0_5 : Int) (a0_6 : Int) : Option (Int) := some (if pitchB a0_3 a0_4 a0_5 a0_6 then 0 else 280)

set_option maxHeartbeats 2000000 in
theorem check_ (a0_0 : ByteArray) (a0_1 : ByteArray) (a0_2 : Int) (x y z u : Int) (w : World) :
    Calls Try.prog 46 #[.agg #[.string a0_0, .string a0_1, .int .i64 a0_2, .int .i64 x, .int .i64 y, .int .i64 z, .int .i64 u]] w fun e w' => e = .returned (.int .i64 (if pitchB x y z u then 0 else 280)) ∧ Below w.heap.size w w' := by
  have i0 : ∀ w, (Instr.index 119 (.agg #[.int .i64 x, .int .i64 y, .int .i64 z]) (.int .i64 0)).run Try.prog w = .ok (.int .i64 x) w := fun _ => by kernel_rfl
  have i1 : ∀ w, (Instr.index 119 (.agg #[.int .i64 x, .int .i64 y, .int .i64 z]) (.int .i64 1)).run Try.prog w = .ok (.int .i64 y) w := fun _ => by kernel_rfl
  have i2 : ∀ w, (Instr.index 119 (.agg #[.int .i64 x, .int .i64 y, .int .i64 z]) (.int .i64 2)).run Try.prog w = .ok (.int .i64 z) w := fun _ => by kernel_rfl
  obtain ⟨R, hR⟩ : ∃ R, R = (if pitchB x y z u then (0 : Int) else 280) := ⟨_, rfl⟩
  rw [← hR]
  have HR := Aside0.mk hR
  clear hR
  have hB := below_alloc (Below.refl w.heap.size w) (.cells #[.string a0_0, .string a0_1, .int .i64 a0_2, .int .i64 x, .int .i64 y, .int .i64 z, .int .i64 u] 25)
  have HB := Aside0.mk hB
  clear hB
  go_enter Try.func46, Try.ntmps46
  go_wp2
  go_loop [12] (fun i => ∃ k : Int, (k = 0 ∨ k = 1 ∨ k = 2 ∨ k = 3) ∧ i = .int .i64 k ∧ (0 < k → 0 ≤ x ∧ x ≤ 1000) ∧ (1 < k → 0 ≤ y ∧ y ≤ 1000) ∧ (2 < k → 0 ≤ z ∧ z ≤ 1000)) (fun i => 3 - (intOf i).toNat)
  case atStart => exact ⟨0, .inl rfl, rfl, by omega, by omega, by omega⟩
  case round =>
    obtain ⟨k, hk, rfl, hx, hy, hz⟩ := hrel
    obtain rfl | rfl | rfl | rfl := hk
    · by_cases h1 : x < 0
      · go_wp2
        go_ret
        exact ⟨ret_i (by rw [HR.out, if_neg (by simp [pitchB]; omega)]), HB.out⟩
      · by_cases h2 : 1000 < x
        · go_wp2
          go_ret
          exact ⟨ret_i (by rw [HR.out, if_neg (by simp [pitchB]; omega)]), HB.out⟩
        · go_wp2
          go_round
          case rel => exact ⟨1, .inr (.inl rfl), by go_num, fun _ => by omega, by omega, by omega⟩
          case measure => simp [intOf]
    · have hx' := hx (by omega)
      clear hx hy hz
      by_cases h1 : y < 0
      · go_wp2
        go_ret
        exact ⟨ret_i (by rw [HR.out, if_neg (by simp [pitchB]; omega)]), HB.out⟩
      · by_cases h2 : 1000 < y
        · go_wp2
          go_ret
          exact ⟨ret_i (by rw [HR.out, if_neg (by simp [pitchB]; omega)]), HB.out⟩
        · go_wp2
          go_round
          case rel => exact ⟨2, .inr (.inr (.inl rfl)), by go_num, fun _ => by omega, by omega, by omega⟩
          case measure => simp [intOf]
    · have hx' := hx (by omega)
      have hy' := hy (by omega)
      clear hx hy hz
      by_cases h1 : z < 0
      · go_wp2
        go_ret
        exact ⟨ret_i (by rw [HR.out, if_neg (by simp [pitchB]; omega)]), HB.out⟩
      · by_cases h2 : 1000 < z
        · go_wp2
          go_ret
          exact ⟨ret_i (by rw [HR.out, if_neg (by simp [pitchB]; omega)]), HB.out⟩
        · go_wp2
          go_round
          case rel => exact ⟨3, .inr (.inr (.inr rfl)), by go_num, fun _ => by omega, by omega, by omega⟩
          case measure => simp [intOf]
    · have hx' := hx (by omega)
      have hy' := hy (by omega)
      have hz' := hz (by omega)
      clear hx hy hz
      by_cases h1 : u < 1
      · go_wp2
        go_ret
        exact ⟨ret_i (by rw [HR.out, if_neg (by simp [pitchB]; omega)]), HB.out⟩
      · by_cases h2 : 4 < u
        · go_wp2
          go_ret
          exact ⟨ret_i (by rw [HR.out, if_neg (by simp [pitchB]; omega)]), HB.out⟩
        · go_wp2
          go_ret
          exact ⟨ret_i (by rw [HR.out, if_pos (by simp [pitchB]; omega)]), HB.out⟩

theorem turf_Check.calls (a0_0 : ByteArray) (a0_1 : ByteArray) (a0_2 : Int) (a0_3 : Int) (a0_4 : Int) (a0_5 : Int) (a0_6 : Int) (r : Int) (w : World) (h : turf_Check.f a0_0 a0_1 a0_2 a0_3 a0_4 a0_5 a0_6 = some r) :
    Calls Try.prog 46 #[.agg #[.string a0_0, .string a0_1, .int .i64 a0_2, .int .i64 a0_3, .int .i64 a0_4, .int .i64 a0_5, .int .i64 a0_6]] w fun e w' => e = .returned (.int .i64 r) ∧ Below w.heap.size w w' := by
  obtain rfl := Option.some.inj h
  exact check_ a0_0 a0_1 a0_2 a0_3 a0_4 a0_5 a0_6 w

/-- The state after a day. -/
def dayV (wear grow uses c rain frost : Int) : Int := mn (mx ((if frost = 0 then c + grow else c) - uses * wear - uses * rain / 4) 0) 1000

set_option maxHeartbeats 1000000 in
theorem day1 (wear grow uses c rain frost : Int) (gb ub : Nat) (w : World) (h3 : w.cell? ⟨gb, 4, none⟩ = some (.int .i64 wear)) (h4 : w.cell? ⟨gb, 5, none⟩ = some (.int .i64 grow)) (hu : w.cell? ⟨ub, 0, none⟩ = some (.int .i64 uses))
    (b1 : 0 ≤ c ∧ c ≤ 1000) (b2 : 0 ≤ grow ∧ grow ≤ 1000) (b3 : 0 ≤ uses * wear ∧ uses * wear ≤ 4000) (b4 : 0 ≤ uses * rain ∧ uses * rain ≤ 800) :
    Calls Try.prog 78 #[.int .i64 c, .int .i64 rain, .int .i64 frost, .pointer (some ⟨gb, 0, none⟩), .pointer (some ⟨ub, 0, none⟩)] w fun e w' => e = .returned (.int .i64 (dayV wear grow uses c rain frost)) ∧ w' = w := by
  obtain ⟨b11, b12⟩ := b1
  obtain ⟨b21, b22⟩ := b2
  obtain ⟨b31, b32⟩ := b3
  obtain ⟨b41, b42⟩ := b4
  by_cases hf : frost = 0
  · subst hf
    obtain ⟨m1, hm⟩ : ∃ m1, (if c + grow - uses * wear - uses * rain / 4 < 0 then 0 else c + grow - uses * wear - uses * rain / 4) = m1 := ⟨_, rfl⟩
    obtain ⟨m2, hm2⟩ : ∃ m2, (if 1000 < m1 then 1000 else m1) = m2 := ⟨_, rfl⟩
    have HM := Aside0.mk (show mn (mx (c + grow - uses * wear - uses * rain / 4) 0) 1000 = m2 by rw [← hm2, ← hm]; rfl)
    go_enter Try.func78, Try.ntmps78
    go_wp2
    all_goals
      go_ret
      first | exact ⟨ret_i (by rw [← HM.out]; rfl), rfl⟩ | exact ⟨ret_i (by unfold dayV mn mx; simp only [if_true]; omega), rfl⟩
  · have hf1 : (frost == 0) = false := beq_eq_false_iff_ne.2 hf
    have hd : dayV wear grow uses c rain frost = mn (mx (c - uses * wear - uses * rain / 4) 0) 1000 := by simp [dayV, hf]
    rw [hd]
    have HF := Aside0.mk hf
    clear hf hd
    obtain ⟨m1, hm⟩ : ∃ m1, (if c - uses * wear - uses * rain / 4 < 0 then 0 else c - uses * wear - uses * rain / 4) = m1 := ⟨_, rfl⟩
    obtain ⟨m2, hm2⟩ : ∃ m2, (if 1000 < m1 then 1000 else m1) = m2 := ⟨_, rfl⟩
    have HM := Aside0.mk (show mn (mx (c - uses * wear - uses * rain / 4) 0) 1000 = m2 by rw [← hm2, ← hm]; rfl)
    go_enter Try.func78, Try.ntmps78
    go_wp2
    all_goals
      go_ret
      first | exact ⟨ret_i HM.out.symm, rfl⟩ | exact ⟨ret_i (by unfold mn mx; omega), rfl⟩

def okNext (bear wear grow uses lo hi rlo rhi flo fhi n : Int) : Bool := pitchB bear wear grow uses && (withinB lo hi 1000 && ((withinB rlo rhi 200 && withinB flo fhi 40) && (decide (0 ≤ n) && decide (n ≤ 4))))

def turf_Next.f (_a0_0 : ByteArray) (_a0_1 : ByteArray) (_a0_2 : Int) (a0_3 : Int) (a0_4 : Int) (a0_5 : Int) (a0_6 : Int) (a1_0 : Int) (a1_1 : Int) (a2_0 : Int) (a2_1 : Int) (a2_2 : Int) (a2_3 : Int) (a3 : Int) : Option (Int × Int × Int) :=
  some (if okNext a0_3 a0_4 a0_5 a0_6 a1_0 a1_1 a2_0 a2_1 a2_2 a2_3 a3 then (dayV a0_4 a0_5 a3 a1_0 a2_1 a2_3, dayV a0_4 a0_5 a3 a1_1 a2_0 a2_2, 0) else (0, 0, 280))

theorem pitchB_iff {bear wear grow uses : Int} : pitchB bear wear grow uses = true ↔ (0 ≤ bear ∧ bear ≤ 1000) ∧ (0 ≤ wear ∧ wear ≤ 1000) ∧ (0 ≤ grow ∧ grow ≤ 1000) ∧ (1 ≤ uses ∧ uses ≤ 4) := by
  simp [pitchB]
theorem withinB_iff {lo hi most : Int} : withinB lo hi most = true ↔ 0 ≤ lo ∧ lo ≤ hi ∧ hi ≤ most := by simp [withinB]
theorem mul_in {a b B : Int} (ha : 0 ≤ a ∧ a ≤ 4) (hb : 0 ≤ b ∧ b ≤ B) : 0 ≤ a * b ∧ a * b ≤ 4 * B := by
  refine ⟨Int.mul_nonneg ha.1 hb.1, ?_⟩
  calc a * b ≤ 4 * b := Int.mul_le_mul_of_nonneg_right ha.2 hb.1
    _ ≤ 4 * B := by omega

theorem day_ (a0_0 a0_1 : ByteArray) (a0_2 a0_3 a0_4 a0_5 a0_6 u : Int) (w : World) :
    Calls Try.prog 54 #[.agg #[.string a0_0, .string a0_1, .int .i64 a0_2, .int .i64 a0_3, .int .i64 a0_4, .int .i64 a0_5, .int .i64 a0_6], .int .i64 u] w fun e w' => e = .returned (.func (.func 78) #[] #[.pointer (some ⟨w.heap.size, 0, none⟩), .pointer (some ⟨w.heap.size + 1, 0, none⟩)]) ∧
      w' = (w.alloc (.cells #[.string a0_0, .string a0_1, .int .i64 a0_2, .int .i64 a0_3, .int .i64 a0_4, .int .i64 a0_5, .int .i64 a0_6] 25)).alloc (.cells #[.int .i64 u] 3) := by
  go_enter Try.func54, Try.ntmps54
  go_wp2
  go_ret
  exact ⟨rfl, rfl⟩

/-- The blocks of Next's parameters and result. -/
def NextIn (w w1 : World) (a0_0 a0_1 : ByteArray) (a0_2 a0_3 a0_4 a0_5 a0_6 a1_0 a1_1 a2_0 a2_1 a2_2 a2_3 : Int) : Prop :=
  w1.heap[w.heap.size]? = some (.cells #[.string a0_0, .string a0_1, .int .i64 a0_2, .int .i64 a0_3, .int .i64 a0_4, .int .i64 a0_5, .int .i64 a0_6] 25 (0, 0)) ∧
  w1.heap[w.heap.size + 1]? = some (.cells #[.int .i64 a1_0, .int .i64 a1_1] 27 (0, 0)) ∧
  w1.heap[w.heap.size + 2]? = some (.cells #[.int .i64 a2_0, .int .i64 a2_1, .int .i64 a2_2, .int .i64 a2_3] 39 (0, 0)) ∧
  w1.heap[w.heap.size + 3]? = some (.cells #[.int .i64 0, .int .i64 0] 27 (0, 0)) ∧ Below w.heap.size w w1
theorem NextIn.below {w w1 w2 : World} {a0_0 a0_1 : ByteArray} {a0_2 a0_3 a0_4 a0_5 a0_6 a1_0 a1_1 a2_0 a2_1 a2_2 a2_3 : Int} (h : NextIn w w1 a0_0 a0_1 a0_2 a0_3 a0_4 a0_5 a0_6 a1_0 a1_1 a2_0 a2_1 a2_2 a2_3) (hb : Below w1.heap.size w1 w2) :
    NextIn w w2 a0_0 a0_1 a0_2 a0_3 a0_4 a0_5 a0_6 a1_0 a1_1 a2_0 a2_1 a2_2 a2_3 :=
  ⟨heap_below hb h.1, heap_below hb h.2.1, heap_below hb h.2.2.1, heap_below hb h.2.2.2.1, below_step h.2.2.2.2 hb⟩

set_option maxRecDepth 100000 in
set_option maxHeartbeats 4000000 in
theorem next_no1 (a0_0 a0_1 : ByteArray) (a0_2 a0_3 a0_4 a0_5 a0_6 a1_0 a1_1 a2_0 a2_1 a2_2 a2_3 a3 : Int) (w : World) (hC : pitchB a0_3 a0_4 a0_5 a0_6 = false) :
    Calls Try.prog 21 #[.agg #[.string a0_0, .string a0_1, .int .i64 a0_2, .int .i64 a0_3, .int .i64 a0_4, .int .i64 a0_5, .int .i64 a0_6], .agg #[.int .i64 a1_0, .int .i64 a1_1], .agg #[.int .i64 a2_0, .int .i64 a2_1, .int .i64 a2_2, .int .i64 a2_3], .int .i64 a3] w fun e w' => e = .returned (.tuple #[.agg #[.int .i64 0, .int .i64 0], .int .i64 280]) ∧ Below w.heap.size w w' := by
  have hc := check_ a0_0 a0_1 a0_2 a0_3 a0_4 a0_5 a0_6
  rw [hC, if_neg (by decide)] at hc
  have HC := Aside0.mk hc
  clear hc
  have hu := Try.underlying27
  go_enter Try.func21, Try.ntmps21
  go_wp2_with fail
  refine (HC.out _).mono ?_
  rintro e w1 ⟨rfl, hb⟩
  have HI := Aside0.mk (show NextIn w w1 a0_0 a0_1 a0_2 a0_3 a0_4 a0_5 a0_6 a1_0 a1_1 a2_0 a2_1 a2_2 a2_3 from ⟨heap_below hb (heap_at_old _ _ _ _ (heap_at_old _ _ _ _ (heap_at_old _ _ _ _ (heap_at_new _ _ _ rfl)))), heap_below hb (heap_at_old _ _ _ _ (heap_at_old _ _ _ _ (heap_at_new _ _ _ (by simp)))), heap_below hb (heap_at_old _ _ _ _ (heap_at_new _ _ _ (by simp))), heap_below hb (heap_at_new _ _ _ (by simp)), below_step (below_alloc (below_alloc (below_alloc (below_alloc (Below.refl w.heap.size w) _) _) _) _) hb⟩)
  clear hb
  have c0 := (blk_cell HI.out.2.2.2.1 0).trans rfl
  have c1 := (blk_cell HI.out.2.2.2.1 1).trans rfl
  have f0 := blk_frozen HI.out.2.2.2.1 0
  have f1 := blk_frozen HI.out.2.2.2.1 1
  go_wp2
  refine bodyPost_ret (results_ct rfl _ _ (w.heap.size + 3) 27 #[.int .i64 0, .int .i64 0] (0, 0) _ rfl (blk_put (blk_put HI.out.2.2.2.1 0 _ rfl) 1 _ rfl) hu rfl (by kernel_rfl)) rfl ?_
  exact ⟨rfl, below_set (below_set HI.out.2.2.2.2 (by omega)) (by omega)⟩

set_option maxRecDepth 100000 in
set_option maxHeartbeats 4000000 in
theorem next_no2 (a0_0 a0_1 : ByteArray) (a0_2 a0_3 a0_4 a0_5 a0_6 a1_0 a1_1 a2_0 a2_1 a2_2 a2_3 a3 : Int) (w : World) (hC : pitchB a0_3 a0_4 a0_5 a0_6 = true) (hX : withinB a1_0 a1_1 1000 = false) :
    Calls Try.prog 21 #[.agg #[.string a0_0, .string a0_1, .int .i64 a0_2, .int .i64 a0_3, .int .i64 a0_4, .int .i64 a0_5, .int .i64 a0_6], .agg #[.int .i64 a1_0, .int .i64 a1_1], .agg #[.int .i64 a2_0, .int .i64 a2_1, .int .i64 a2_2, .int .i64 a2_3], .int .i64 a3] w fun e w' => e = .returned (.tuple #[.agg #[.int .i64 0, .int .i64 0], .int .i64 280]) ∧ Below w.heap.size w w' := by
  have hc := check_ a0_0 a0_1 a0_2 a0_3 a0_4 a0_5 a0_6
  rw [hC, if_pos rfl] at hc
  have hx := within_ a1_0 a1_1 1000
  rw [hX] at hx
  have HX := Aside0.mk hx
  clear hx
  clear hC hX
  have HC := Aside0.mk hc
  clear hc
  have hu := Try.underlying27
  go_enter Try.func21, Try.ntmps21
  go_wp2_with fail
  refine (HC.out _).mono ?_
  rintro e w1 ⟨rfl, hb⟩
  have HI := Aside0.mk (show NextIn w w1 a0_0 a0_1 a0_2 a0_3 a0_4 a0_5 a0_6 a1_0 a1_1 a2_0 a2_1 a2_2 a2_3 from ⟨heap_below hb (heap_at_old _ _ _ _ (heap_at_old _ _ _ _ (heap_at_old _ _ _ _ (heap_at_new _ _ _ rfl)))), heap_below hb (heap_at_old _ _ _ _ (heap_at_old _ _ _ _ (heap_at_new _ _ _ (by simp)))), heap_below hb (heap_at_old _ _ _ _ (heap_at_new _ _ _ (by simp))), heap_below hb (heap_at_new _ _ _ (by simp)), below_step (below_alloc (below_alloc (below_alloc (below_alloc (Below.refl w.heap.size w) _) _) _) _) hb⟩)
  clear hb
  have d0 := (blk_cell HI.out.2.1 0).trans rfl
  have d1 := (blk_cell HI.out.2.1 1).trans rfl
  go_wp2_with fail
  refine (HX.out _).mono ?_
  rintro e w2 ⟨rfl, hb⟩
  have HI2 := Aside0.mk (HI.out.below hb)
  clear hb d0 d1
  have c0 := (blk_cell HI2.out.2.2.2.1 0).trans rfl
  have c1 := (blk_cell HI2.out.2.2.2.1 1).trans rfl
  have f0 := blk_frozen HI2.out.2.2.2.1 0
  have f1 := blk_frozen HI2.out.2.2.2.1 1
  go_wp2
  refine bodyPost_ret (results_ct rfl _ _ (w.heap.size + 3) 27 #[.int .i64 0, .int .i64 0] (0, 0) _ rfl (blk_put (blk_put HI2.out.2.2.2.1 0 _ rfl) 1 _ rfl) hu rfl (by kernel_rfl)) rfl ?_
  exact ⟨rfl, below_set (below_set HI2.out.2.2.2.2 (by omega)) (by omega)⟩

set_option maxRecDepth 100000 in
set_option maxHeartbeats 4000000 in
theorem next_no3 (a0_0 a0_1 : ByteArray) (a0_2 a0_3 a0_4 a0_5 a0_6 a1_0 a1_1 a2_0 a2_1 a2_2 a2_3 a3 : Int) (w : World) (hC : pitchB a0_3 a0_4 a0_5 a0_6 = true) (hX : withinB a1_0 a1_1 1000 = true) (hF : (withinB a2_0 a2_1 200 && withinB a2_2 a2_3 40) = false) :
    Calls Try.prog 21 #[.agg #[.string a0_0, .string a0_1, .int .i64 a0_2, .int .i64 a0_3, .int .i64 a0_4, .int .i64 a0_5, .int .i64 a0_6], .agg #[.int .i64 a1_0, .int .i64 a1_1], .agg #[.int .i64 a2_0, .int .i64 a2_1, .int .i64 a2_2, .int .i64 a2_3], .int .i64 a3] w fun e w' => e = .returned (.tuple #[.agg #[.int .i64 0, .int .i64 0], .int .i64 280]) ∧ Below w.heap.size w w' := by
  have hc := check_ a0_0 a0_1 a0_2 a0_3 a0_4 a0_5 a0_6
  rw [hC, if_pos rfl] at hc
  have hx := within_ a1_0 a1_1 1000
  rw [hX] at hx
  have HX := Aside0.mk hx
  clear hx
  have hf := fine_ a2_0 a2_1 a2_2 a2_3
  rw [hF] at hf
  have HF := Aside0.mk hf
  clear hf
  clear hC hX hF
  have HC := Aside0.mk hc
  clear hc
  have hu := Try.underlying27
  go_enter Try.func21, Try.ntmps21
  go_wp2_with fail
  refine (HC.out _).mono ?_
  rintro e w1 ⟨rfl, hb⟩
  have HI := Aside0.mk (show NextIn w w1 a0_0 a0_1 a0_2 a0_3 a0_4 a0_5 a0_6 a1_0 a1_1 a2_0 a2_1 a2_2 a2_3 from ⟨heap_below hb (heap_at_old _ _ _ _ (heap_at_old _ _ _ _ (heap_at_old _ _ _ _ (heap_at_new _ _ _ rfl)))), heap_below hb (heap_at_old _ _ _ _ (heap_at_old _ _ _ _ (heap_at_new _ _ _ (by simp)))), heap_below hb (heap_at_old _ _ _ _ (heap_at_new _ _ _ (by simp))), heap_below hb (heap_at_new _ _ _ (by simp)), below_step (below_alloc (below_alloc (below_alloc (below_alloc (Below.refl w.heap.size w) _) _) _) _) hb⟩)
  clear hb
  have d0 := (blk_cell HI.out.2.1 0).trans rfl
  have d1 := (blk_cell HI.out.2.1 1).trans rfl
  go_wp2_with fail
  refine (HX.out _).mono ?_
  rintro e w2 ⟨rfl, hb⟩
  have HI2 := Aside0.mk (HI.out.below hb)
  clear hb d0 d1
  have d0 := (blk_cell HI2.out.2.2.1 0).trans rfl
  have d1 := (blk_cell HI2.out.2.2.1 1).trans rfl
  have d2 := (blk_cell HI2.out.2.2.1 2).trans rfl
  have d3 := (blk_cell HI2.out.2.2.1 3).trans rfl
  go_wp2_with fail
  refine (HF.out _).mono ?_
  rintro e w3 ⟨rfl, hb⟩
  have HI3 := Aside0.mk (HI2.out.below hb)
  clear hb d0 d1 d2 d3
  have c0 := (blk_cell HI3.out.2.2.2.1 0).trans rfl
  have c1 := (blk_cell HI3.out.2.2.2.1 1).trans rfl
  have f0 := blk_frozen HI3.out.2.2.2.1 0
  have f1 := blk_frozen HI3.out.2.2.2.1 1
  go_wp2
  refine bodyPost_ret (results_ct rfl _ _ (w.heap.size + 3) 27 #[.int .i64 0, .int .i64 0] (0, 0) _ rfl (blk_put (blk_put HI3.out.2.2.2.1 0 _ rfl) 1 _ rfl) hu rfl (by kernel_rfl)) rfl ?_
  exact ⟨rfl, below_set (below_set HI3.out.2.2.2.2 (by omega)) (by omega)⟩

set_option maxRecDepth 100000 in
set_option maxHeartbeats 4000000 in
theorem next_no4 (a0_0 a0_1 : ByteArray) (a0_2 a0_3 a0_4 a0_5 a0_6 a1_0 a1_1 a2_0 a2_1 a2_2 a2_3 a3 : Int) (w : World) (hC : pitchB a0_3 a0_4 a0_5 a0_6 = true) (hX : withinB a1_0 a1_1 1000 = true) (hF : (withinB a2_0 a2_1 200 && withinB a2_2 a2_3 40) = true) (hn : a3 < 0) :
    Calls Try.prog 21 #[.agg #[.string a0_0, .string a0_1, .int .i64 a0_2, .int .i64 a0_3, .int .i64 a0_4, .int .i64 a0_5, .int .i64 a0_6], .agg #[.int .i64 a1_0, .int .i64 a1_1], .agg #[.int .i64 a2_0, .int .i64 a2_1, .int .i64 a2_2, .int .i64 a2_3], .int .i64 a3] w fun e w' => e = .returned (.tuple #[.agg #[.int .i64 0, .int .i64 0], .int .i64 280]) ∧ Below w.heap.size w w' := by
  have hc := check_ a0_0 a0_1 a0_2 a0_3 a0_4 a0_5 a0_6
  rw [hC, if_pos rfl] at hc
  have hx := within_ a1_0 a1_1 1000
  rw [hX] at hx
  have HX := Aside0.mk hx
  clear hx
  have hf := fine_ a2_0 a2_1 a2_2 a2_3
  rw [hF] at hf
  have HF := Aside0.mk hf
  clear hf
  clear hC hX hF
  have HC := Aside0.mk hc
  clear hc
  have hu := Try.underlying27
  go_enter Try.func21, Try.ntmps21
  go_wp2_with fail
  refine (HC.out _).mono ?_
  rintro e w1 ⟨rfl, hb⟩
  have HI := Aside0.mk (show NextIn w w1 a0_0 a0_1 a0_2 a0_3 a0_4 a0_5 a0_6 a1_0 a1_1 a2_0 a2_1 a2_2 a2_3 from ⟨heap_below hb (heap_at_old _ _ _ _ (heap_at_old _ _ _ _ (heap_at_old _ _ _ _ (heap_at_new _ _ _ rfl)))), heap_below hb (heap_at_old _ _ _ _ (heap_at_old _ _ _ _ (heap_at_new _ _ _ (by simp)))), heap_below hb (heap_at_old _ _ _ _ (heap_at_new _ _ _ (by simp))), heap_below hb (heap_at_new _ _ _ (by simp)), below_step (below_alloc (below_alloc (below_alloc (below_alloc (Below.refl w.heap.size w) _) _) _) _) hb⟩)
  clear hb
  have d0 := (blk_cell HI.out.2.1 0).trans rfl
  have d1 := (blk_cell HI.out.2.1 1).trans rfl
  go_wp2_with fail
  refine (HX.out _).mono ?_
  rintro e w2 ⟨rfl, hb⟩
  have HI2 := Aside0.mk (HI.out.below hb)
  clear hb d0 d1
  have d0 := (blk_cell HI2.out.2.2.1 0).trans rfl
  have d1 := (blk_cell HI2.out.2.2.1 1).trans rfl
  have d2 := (blk_cell HI2.out.2.2.1 2).trans rfl
  have d3 := (blk_cell HI2.out.2.2.1 3).trans rfl
  go_wp2_with fail
  refine (HF.out _).mono ?_
  rintro e w3 ⟨rfl, hb⟩
  have HI3 := Aside0.mk (HI2.out.below hb)
  clear hb d0 d1 d2 d3
  have c0 := (blk_cell HI3.out.2.2.2.1 0).trans rfl
  have c1 := (blk_cell HI3.out.2.2.2.1 1).trans rfl
  have f0 := blk_frozen HI3.out.2.2.2.1 0
  have f1 := blk_frozen HI3.out.2.2.2.1 1
  go_wp2
  refine bodyPost_ret (results_ct rfl _ _ (w.heap.size + 3) 27 #[.int .i64 0, .int .i64 0] (0, 0) _ rfl (blk_put (blk_put HI3.out.2.2.2.1 0 _ rfl) 1 _ rfl) hu rfl (by kernel_rfl)) rfl ?_
  exact ⟨rfl, below_set (below_set HI3.out.2.2.2.2 (by omega)) (by omega)⟩

set_option maxRecDepth 100000 in
set_option maxHeartbeats 4000000 in
theorem next_no5 (a0_0 a0_1 : ByteArray) (a0_2 a0_3 a0_4 a0_5 a0_6 a1_0 a1_1 a2_0 a2_1 a2_2 a2_3 a3 : Int) (w : World) (hC : pitchB a0_3 a0_4 a0_5 a0_6 = true) (hX : withinB a1_0 a1_1 1000 = true) (hF : (withinB a2_0 a2_1 200 && withinB a2_2 a2_3 40) = true) (hn : 4 < a3) :
    Calls Try.prog 21 #[.agg #[.string a0_0, .string a0_1, .int .i64 a0_2, .int .i64 a0_3, .int .i64 a0_4, .int .i64 a0_5, .int .i64 a0_6], .agg #[.int .i64 a1_0, .int .i64 a1_1], .agg #[.int .i64 a2_0, .int .i64 a2_1, .int .i64 a2_2, .int .i64 a2_3], .int .i64 a3] w fun e w' => e = .returned (.tuple #[.agg #[.int .i64 0, .int .i64 0], .int .i64 280]) ∧ Below w.heap.size w w' := by
  have hc := check_ a0_0 a0_1 a0_2 a0_3 a0_4 a0_5 a0_6
  rw [hC, if_pos rfl] at hc
  have hx := within_ a1_0 a1_1 1000
  rw [hX] at hx
  have HX := Aside0.mk hx
  clear hx
  have hf := fine_ a2_0 a2_1 a2_2 a2_3
  rw [hF] at hf
  have HF := Aside0.mk hf
  clear hf
  clear hC hX hF
  have HC := Aside0.mk hc
  clear hc
  have hu := Try.underlying27
  go_enter Try.func21, Try.ntmps21
  go_wp2_with fail
  refine (HC.out _).mono ?_
  rintro e w1 ⟨rfl, hb⟩
  have HI := Aside0.mk (show NextIn w w1 a0_0 a0_1 a0_2 a0_3 a0_4 a0_5 a0_6 a1_0 a1_1 a2_0 a2_1 a2_2 a2_3 from ⟨heap_below hb (heap_at_old _ _ _ _ (heap_at_old _ _ _ _ (heap_at_old _ _ _ _ (heap_at_new _ _ _ rfl)))), heap_below hb (heap_at_old _ _ _ _ (heap_at_old _ _ _ _ (heap_at_new _ _ _ (by simp)))), heap_below hb (heap_at_old _ _ _ _ (heap_at_new _ _ _ (by simp))), heap_below hb (heap_at_new _ _ _ (by simp)), below_step (below_alloc (below_alloc (below_alloc (below_alloc (Below.refl w.heap.size w) _) _) _) _) hb⟩)
  clear hb
  have d0 := (blk_cell HI.out.2.1 0).trans rfl
  have d1 := (blk_cell HI.out.2.1 1).trans rfl
  go_wp2_with fail
  refine (HX.out _).mono ?_
  rintro e w2 ⟨rfl, hb⟩
  have HI2 := Aside0.mk (HI.out.below hb)
  clear hb d0 d1
  have d0 := (blk_cell HI2.out.2.2.1 0).trans rfl
  have d1 := (blk_cell HI2.out.2.2.1 1).trans rfl
  have d2 := (blk_cell HI2.out.2.2.1 2).trans rfl
  have d3 := (blk_cell HI2.out.2.2.1 3).trans rfl
  go_wp2_with fail
  refine (HF.out _).mono ?_
  rintro e w3 ⟨rfl, hb⟩
  have HI3 := Aside0.mk (HI2.out.below hb)
  clear hb d0 d1 d2 d3
  have c0 := (blk_cell HI3.out.2.2.2.1 0).trans rfl
  have c1 := (blk_cell HI3.out.2.2.2.1 1).trans rfl
  have f0 := blk_frozen HI3.out.2.2.2.1 0
  have f1 := blk_frozen HI3.out.2.2.2.1 1
  go_wp2
  refine bodyPost_ret (results_ct rfl _ _ (w.heap.size + 3) 27 #[.int .i64 0, .int .i64 0] (0, 0) _ rfl (blk_put (blk_put HI3.out.2.2.2.1 0 _ rfl) 1 _ rfl) hu rfl (by kernel_rfl)) rfl ?_
  exact ⟨rfl, below_set (below_set HI3.out.2.2.2.2 (by omega)) (by omega)⟩

set_option maxRecDepth 100000 in
set_option maxHeartbeats 4000000 in
theorem next_yes (a0_0 a0_1 : ByteArray) (a0_2 a0_3 a0_4 a0_5 a0_6 a1_0 a1_1 a2_0 a2_1 a2_2 a2_3 a3 : Int) (w : World) (hC : pitchB a0_3 a0_4 a0_5 a0_6 = true) (hX : withinB a1_0 a1_1 1000 = true) (hF : (withinB a2_0 a2_1 200 && withinB a2_2 a2_3 40) = true) (hn0 : 0 ≤ a3) (hn : a3 ≤ 4) :
    Calls Try.prog 21 #[.agg #[.string a0_0, .string a0_1, .int .i64 a0_2, .int .i64 a0_3, .int .i64 a0_4, .int .i64 a0_5, .int .i64 a0_6], .agg #[.int .i64 a1_0, .int .i64 a1_1], .agg #[.int .i64 a2_0, .int .i64 a2_1, .int .i64 a2_2, .int .i64 a2_3], .int .i64 a3] w fun e w' => e = .returned (.tuple #[.agg #[.int .i64 (dayV a0_4 a0_5 a3 a1_0 a2_1 a2_3), .int .i64 (dayV a0_4 a0_5 a3 a1_1 a2_0 a2_2)], .int .i64 0]) ∧ Below w.heap.size w w' := by
  have hc := check_ a0_0 a0_1 a0_2 a0_3 a0_4 a0_5 a0_6
  rw [hC, if_pos rfl] at hc
  have hx := within_ a1_0 a1_1 1000
  rw [hX] at hx
  have HX := Aside0.mk hx
  clear hx
  have hf := fine_ a2_0 a2_1 a2_2 a2_3
  rw [hF] at hf
  have HF := Aside0.mk hf
  clear hf
  have HC := Aside0.mk hc
  clear hc
  have hu := Try.underlying27
  have HH := Aside0.mk (And.intro hC (And.intro hX hF))
  clear hC hX hF
  go_enter Try.func21, Try.ntmps21
  go_wp2_with fail
  refine (HC.out _).mono ?_
  rintro e w1 ⟨rfl, hb⟩
  have HI := Aside0.mk (show NextIn w w1 a0_0 a0_1 a0_2 a0_3 a0_4 a0_5 a0_6 a1_0 a1_1 a2_0 a2_1 a2_2 a2_3 from ⟨heap_below hb (heap_at_old _ _ _ _ (heap_at_old _ _ _ _ (heap_at_old _ _ _ _ (heap_at_new _ _ _ rfl)))), heap_below hb (heap_at_old _ _ _ _ (heap_at_old _ _ _ _ (heap_at_new _ _ _ (by simp)))), heap_below hb (heap_at_old _ _ _ _ (heap_at_new _ _ _ (by simp))), heap_below hb (heap_at_new _ _ _ (by simp)), below_step (below_alloc (below_alloc (below_alloc (below_alloc (Below.refl w.heap.size w) _) _) _) _) hb⟩)
  clear hb
  have d0 := (blk_cell HI.out.2.1 0).trans rfl
  have d1 := (blk_cell HI.out.2.1 1).trans rfl
  go_wp2_with fail
  refine (HX.out _).mono ?_
  rintro e w2 ⟨rfl, hb⟩
  have HI2 := Aside0.mk (HI.out.below hb)
  clear hb d0 d1
  have d0 := (blk_cell HI2.out.2.2.1 0).trans rfl
  have d1 := (blk_cell HI2.out.2.2.1 1).trans rfl
  have d2 := (blk_cell HI2.out.2.2.1 2).trans rfl
  have d3 := (blk_cell HI2.out.2.2.1 3).trans rfl
  go_wp2_with fail
  refine (HF.out _).mono ?_
  rintro e w3 ⟨rfl, hb⟩
  have HI3 := Aside0.mk (HI2.out.below hb)
  clear hb d0 d1 d2 d3
  have t0 := (blk_cell HI3.out.1 0).trans rfl
  have t1 := (blk_cell HI3.out.1 1).trans rfl
  have t2 := (blk_cell HI3.out.1 2).trans rfl
  have t3 := (blk_cell HI3.out.1 3).trans rfl
  have t4 := (blk_cell HI3.out.1 4).trans rfl
  have t5 := (blk_cell HI3.out.1 5).trans rfl
  have t6 := (blk_cell HI3.out.1 6).trans rfl
  go_wp2_with fail
  refine (day_ a0_0 a0_1 a0_2 a0_3 a0_4 a0_5 a0_6 a3 _).mono ?_
  rintro e w4 ⟨rfl, hw4⟩
  clear t0 t1 t2 t3 t4 t5 t6
  have gg : w4.heap[w3.heap.size]? = some (.cells #[.string a0_0, .string a0_1, .int .i64 a0_2, .int .i64 a0_3, .int .i64 a0_4, .int .i64 a0_5, .int .i64 a0_6] 25 (0, 0)) := by rw [hw4]; exact heap_at_old _ _ _ _ (heap_at_new _ _ _ rfl)
  have gu : w4.heap[w3.heap.size + 1]? = some (.cells #[.int .i64 a3] 3 (0, 0)) := by rw [hw4]; exact heap_at_new _ _ _ (by simp)
  have HI4 := Aside0.mk (HI3.out.below (w2 := w4) (by rw [hw4]; exact below_alloc (below_alloc (Below.refl _ _) _) _))
  clear hw4
  have g4 := (blk_cell gg 4).trans rfl
  have g5 := (blk_cell gg 5).trans rfl
  have g6 := (blk_cell gu 0).trans rfl
  clear gg gu
  have d0 := (blk_cell HI4.out.2.1 0).trans rfl
  have d1 := (blk_cell HI4.out.2.1 1).trans rfl
  have s0 := (blk_cell HI4.out.2.2.1 0).trans rfl
  have s1 := (blk_cell HI4.out.2.2.1 1).trans rfl
  have s2 := (blk_cell HI4.out.2.2.1 2).trans rfl
  have s3 := (blk_cell HI4.out.2.2.1 3).trans rfl
  have eC := pitchB_iff.1 HH.out.1
  have eX := withinB_iff.1 HH.out.2.1
  have eF := Bool.and_eq_true_iff.1 HH.out.2.2
  have eR := withinB_iff.1 eF.1
  have m1 := mul_in (a := a3) ⟨hn0, hn⟩ (b := a0_4) (B := 1000) (by omega)
  have m2 := mul_in (a := a3) ⟨hn0, hn⟩ (b := a2_1) (B := 200) (by omega)
  have m3 := mul_in (a := a3) ⟨hn0, hn⟩ (b := a2_0) (B := 200) (by omega)
  have D1 := Aside0.mk (day1 a0_4 a0_5 a3 a1_0 a2_1 a2_3 w3.heap.size (w3.heap.size + 1) w4.drew g4 g5 g6 (by omega) (by omega) (by omega) (by omega))
  have D2 := Aside0.mk (day1 a0_4 a0_5 a3 a1_1 a2_0 a2_2 w3.heap.size (w3.heap.size + 1) w4.drew g4 g5 g6 (by omega) (by omega) (by omega) (by omega))
  clear eC eX eF eR m1 m2 m3 g4 g5 g6
  have f0 := blk_frozen HI4.out.2.2.2.1 0
  have f1 := blk_frozen HI4.out.2.2.2.1 1
  have c0 := (blk_cell HI4.out.2.2.2.1 0).trans rfl
  have c1 := (blk_cell HI4.out.2.2.2.1 1).trans rfl
  go_wp2
  refine wp_region_still_tail 21 (by kernel_rfl) (by kernel_rfl) ?_
  simp only [List.take_succ_cons, List.take_zero, List.drop_succ_cons, List.drop_zero]
  repeat still_step
  still_call D1.out
  repeat still_step
  still_call D2.out
  repeat still_step
  try refine wpStill_nil ?_
  change wpList _ _ _ _ _ w4.drew
  go_wp2
  refine bodyPost_ret (results_ct rfl _ _ (w.heap.size + 3) 27 #[.int .i64 (dayV a0_4 a0_5 a3 a1_0 a2_1 a2_3), .int .i64 (dayV a0_4 a0_5 a3 a1_1 a2_0 a2_2)] (0, 0) _ rfl (blk_put (blk_put (blk_drew HI4.out.2.2.2.1) 0 _ rfl) 1 _ rfl) hu rfl (by kernel_rfl)) rfl ?_
  exact ⟨rfl, below_set (below_set (below_drew1 HI4.out.2.2.2.2) (by omega)) (by omega)⟩

theorem turf_Next.calls (a0_0 : ByteArray) (a0_1 : ByteArray) (a0_2 : Int) (a0_3 : Int) (a0_4 : Int) (a0_5 : Int) (a0_6 : Int) (a1_0 : Int) (a1_1 : Int) (a2_0 : Int) (a2_1 : Int) (a2_2 : Int) (a2_3 : Int) (a3 : Int) (r1 : Int) (r2 : Int) (r3 : Int) (w : World) (h : turf_Next.f a0_0 a0_1 a0_2 a0_3 a0_4 a0_5 a0_6 a1_0 a1_1 a2_0 a2_1 a2_2 a2_3 a3 = some (r1, r2, r3)) :
    Calls Try.prog 21 #[.agg #[.string a0_0, .string a0_1, .int .i64 a0_2, .int .i64 a0_3, .int .i64 a0_4, .int .i64 a0_5, .int .i64 a0_6], .agg #[.int .i64 a1_0, .int .i64 a1_1], .agg #[.int .i64 a2_0, .int .i64 a2_1, .int .i64 a2_2, .int .i64 a2_3], .int .i64 a3] w fun e w' => e = .returned (.tuple #[.agg #[.int .i64 r1, .int .i64 r2], .int .i64 r3]) ∧ Below w.heap.size w w' := by
  have h0 := Option.some.inj h
  unfold okNext at h0
  have no : ∀ {B : Bool}, B = false → (if B = true then (dayV a0_4 a0_5 a3 a1_0 a2_1 a2_3, dayV a0_4 a0_5 a3 a1_1 a2_0 a2_2, (0 : Int)) else (0, 0, 280)) = (r1, r2, r3) → r1 = 0 ∧ r2 = 0 ∧ r3 = 280 := by
    rintro B rfl h
    simp only [Bool.false_eq_true, if_false, Prod.mk.injEq] at h
    exact ⟨h.1.symm, h.2.1.symm, h.2.2.symm⟩
  by_cases hC : pitchB a0_3 a0_4 a0_5 a0_6 = true
  · by_cases hX : withinB a1_0 a1_1 1000 = true
    · by_cases hF : (withinB a2_0 a2_1 200 && withinB a2_2 a2_3 40) = true
      · by_cases h1 : 0 ≤ a3
        · by_cases h2 : a3 ≤ 4
          · rw [if_pos (by rw [hC, hX, hF]; simp [h1, h2])] at h0
            simp only [Prod.mk.injEq] at h0
            obtain ⟨rfl, rfl, rfl⟩ := h0
            exact next_yes a0_0 a0_1 a0_2 a0_3 a0_4 a0_5 a0_6 a1_0 a1_1 a2_0 a2_1 a2_2 a2_3 a3 w hC hX hF h1 h2
          · obtain ⟨rfl, rfl, rfl⟩ := no (by rw [hC, hX, hF]; simp; omega) h0
            exact next_no5 a0_0 a0_1 a0_2 a0_3 a0_4 a0_5 a0_6 a1_0 a1_1 a2_0 a2_1 a2_2 a2_3 a3 w hC hX hF (by omega)
        · obtain ⟨rfl, rfl, rfl⟩ := no (by rw [hC, hX, hF]; simp; omega) h0
          exact next_no4 a0_0 a0_1 a0_2 a0_3 a0_4 a0_5 a0_6 a1_0 a1_1 a2_0 a2_1 a2_2 a2_3 a3 w hC hX hF (by omega)
      · obtain ⟨rfl, rfl, rfl⟩ := no (by rw [Bool.eq_false_iff.2 hF]; simp) h0
        exact next_no3 a0_0 a0_1 a0_2 a0_3 a0_4 a0_5 a0_6 a1_0 a1_1 a2_0 a2_1 a2_2 a2_3 a3 w hC hX (Bool.eq_false_iff.2 hF)
    · obtain ⟨rfl, rfl, rfl⟩ := no (by rw [Bool.eq_false_iff.2 hX]; simp) h0
      exact next_no2 a0_0 a0_1 a0_2 a0_3 a0_4 a0_5 a0_6 a1_0 a1_1 a2_0 a2_1 a2_2 a2_3 a3 w hC (Bool.eq_false_iff.2 hX)
  · obtain ⟨rfl, rfl, rfl⟩ := no (by rw [Bool.eq_false_iff.2 hC]; simp) h0
    exact next_no1 a0_0 a0_1 a0_2 a0_3 a0_4 a0_5 a0_6 a1_0 a1_1 a2_0 a2_1 a2_2 a2_3 a3 w (Bool.eq_false_iff.2 hC)
end Go.Proofs.Ythfhjcbgccnijaa.Q
