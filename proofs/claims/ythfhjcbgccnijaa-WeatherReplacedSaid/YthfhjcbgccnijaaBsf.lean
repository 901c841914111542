/- By hand: the library's search in reports that stand in the order of their numbers. -/
import Derived.Test.YthfhjcbgccnijaaVal
import Derived.Test.YthfhjcbgccnijaaChk
import Derived.Shelf.Abstract
namespace Go.Proofs.Ythfhjcbgccnijaa.Q
open Go.RowKit Go.Proofs.YthfhjcbgccnijaaW.PrintWords Go.Proofs.YthfhjcbgccnijaaW.PrintLast Go.Proofs.YthfhjcbgccnijaaW.PrintMore
attribute [local go_sem] max2_int min2_int max_two min_two
set_option linter.unusedVariables false
set_option linter.unusedSimpArgs false

def cmpV (x y : Int) : Int := if x < y then -1 else if y < x then 1 else 0
theorem cmpC (x y : Int) (w : World) : Calls Try.prog 61 #[.int .i64 x, .int .i64 y] w fun e w' => e = .returned (.int .i64 (cmpV x y)) ∧ w' = w := by
  unfold cmpV
  by_cases h1 : x < y
  · rw [if_pos h1]
    go_enter Try.func61, Try.ntmps61
    go_wp2
    go_ret
    exact ⟨rfl, rfl⟩
  · rw [if_neg h1]
    by_cases h2 : y < x
    · rw [if_pos h2]
      go_enter Try.func61, Try.ntmps61
      go_wp2
      go_ret
      exact ⟨rfl, rfl⟩
    · rw [if_neg h2]
      go_enter Try.func61, Try.ntmps61
      go_wp2
      go_ret
      exact ⟨rfl, rfl⟩
theorem add1 (a b : S41) (w : World) : Calls Try.prog 60 #[.agg #[.int .i64 a.f0, .int .i64 a.f1, .int .i64 a.f2, .int .i64 a.f3, .int .i64 a.f4, .int .i64 a.f5.f0, .int .i64 a.f5.f1, .int .i64 a.f6.f0, .int .i64 a.f6.f1], .agg #[.int .i64 b.f0, .int .i64 b.f1, .int .i64 b.f2, .int .i64 b.f3, .int .i64 b.f4, .int .i64 b.f5.f0, .int .i64 b.f5.f1, .int .i64 b.f6.f0, .int .i64 b.f6.f1]] w fun e w' => e = .returned (.int .i64 (cmpV a.f0 b.f0)) ∧ Below w.heap.size w w' := by
  have hc := Aside0.mk (cmpC a.f0 b.f0)
  generalize cmpV a.f0 b.f0 = v at hc ⊢
  go_enter Try.func60, Try.ntmps60
  go_wp2_with fail
  refine (hc.out _).mono ?_
  rintro e w' ⟨rfl, rfl⟩
  go_wp2
  go_ret
  exact ⟨rfl, below_alloc (below_alloc (Below.refl _ _) _) _⟩

def bsf.T5 : Bool × List (List Nat × List Nat) := (true, [([], []), ([], []), ([], []), ([1, 2], [1, 2]), ([3], [3]), ([], []), ([0, 4, 5], [0, 4, 5]), ([6], [6])])
def bsf.B5 : List Nat := [0, 0, 0, 6, 14, 0, 63, 127]
theorem bsf.tab5 : rtab .any (opsOf Try.f59 5) = bsf.T5 := by kernel_rfl
theorem bsf.bits5 : waitsOk bsf.T5.2 bsf.B5 = true := by kernel_rfl
def bsf.T8 : Bool × List (List Nat × List Nat) := (true, [([], []), ([], []), ([], []), ([1, 2], [1, 2]), ([3], [3]), ([4], [4]), ([4], [4]), ([4], [4]), ([6, 7, 4], [4, 6, 7]), ([8, 4], [4, 8]), ([4], [4]), ([5, 9, 10, 4, 4], [4, 5, 9, 10]), ([11, 4], [4, 11]), ([4, 12], [4, 12]), ([0, 11, 0], [0]), ([13, 14, 0, 1, 2, 3, 4, 5, 6, 7, 8, 9, 10, 11, 12, 13, 14], [13])])
def bsf.B8 : List Nat := [0, 0, 0, 6, 14, 30, 30, 30, 222, 478, 30, 2046, 4094, 8190, 4095, 32767]
theorem bsf.tab8 : rtab .any (opsOf Try.f59 8) = bsf.T8 := by kernel_rfl
theorem bsf.bits8 : waitsOk bsf.T8.2 bsf.B8 = true := by kernel_rfl
/-- The box of the target. -/
def BsIn (w : World) (r : S41) (W : World) : Prop :=
  W.heap[w.heap.size]? = some (.cells #[.int .i64 r.f0, .int .i64 r.f1, .int .i64 r.f2, .int .i64 r.f3, .int .i64 r.f4, .int .i64 r.f5.f0, .int .i64 r.f5.f1, .int .i64 r.f6.f0, .int .i64 r.f6.f1] 41 (0, 0)) ∧ Below w.heap.size w W
theorem BsIn.below {w : World} {r : S41} {W V : World} (h : BsIn w r W) (hb : Below W.heap.size W V) : BsIn w r V := ⟨heap_below hb h.1, below_step h.2 hb⟩
theorem BsIn.drew {w : World} {r : S41} {W : World} (h : BsIn w r W) : BsIn w r W.drew := h.below (below_drew1 (Below.refl _ _))
def noAt (l : List S41) (i : Nat) : Int := (rd_T41 l (i : Int)).f0
/-- Where a number belongs. -/
def posV (l : List S41) (x : Int) : Nat := (l.takeWhile (fun r => decide (r.f0 < x))).length
theorem noAt_get (l : List S41) (i : Nat) (hi : i < l.length) : noAt l i = l[i].f0 := by
  simp [noAt, rd_T41, List.getD_eq_getElem?_getD, hi]
theorem posV_eq : ∀ (l : List S41) (x : Int) (k : Nat), k ≤ l.length → (∀ j, j < k → noAt l j < x) → (k < l.length → x ≤ noAt l k) → posV l x = k
  | [], x, k, hk, _, _ => by simp only [List.length_nil] at hk; simp [posV]; omega
  | a :: r, x, 0, _, _, h2 => by
    have := h2 (by simp)
    rw [noAt_get _ _ (by simp)] at this
    simp only [List.getElem_cons_zero] at this
    have h3 : decide (a.f0 < x) = false := decide_eq_false (by omega)
    simp [posV, List.takeWhile_cons, h3]
  | a :: r, x, k + 1, hk, h1, h2 => by
    have h0 := h1 0 (by omega)
    rw [noAt_get _ _ (by simp)] at h0
    simp only [List.getElem_cons_zero] at h0
    simp only [List.length_cons] at hk h2
    have ih := posV_eq r x k (by omega) (fun j hj => by
      have := h1 (j + 1) (by omega)
      rw [noAt_get _ _ (by simp; omega)] at this
      rw [noAt_get _ _ (by omega)]
      simpa using this) (fun hk' => by
      have := h2 (by omega)
      rw [noAt_get _ _ (by simp; omega)] at this
      rw [noAt_get _ _ (by omega)]
      simpa using this)
    unfold posV at ih ⊢
    rw [List.takeWhile_cons, if_pos (decide_eq_true h0), List.length_cons, ih]

set_option maxRecDepth 100000 in
set_option maxHeartbeats 8000000 in
theorem bsf (l : List S41) (A : Option Addr) (c : Nat) (r : S41) (w : World) (hr : Kd.C k41 w A l.length l) (hn : l.length ≤ 4096) (hs : ∀ i j, i < j → j < l.length → noAt l i < noAt l j) :
    Calls Try.prog 59 #[.slice A l.length c, .agg #[.int .i64 r.f0, .int .i64 r.f1, .int .i64 r.f2, .int .i64 r.f3, .int .i64 r.f4, .int .i64 r.f5.f0, .int .i64 r.f5.f1, .int .i64 r.f6.f0, .int .i64 r.f6.f1], .func (.func 60) #[] #[]] w
      fun e w' => e = .returned (.tuple #[.int .i64 (posV l r.f0 : Nat), .bool (decide (posV l r.f0 < l.length) && decide (noAt l (posV l r.f0) = r.f0))]) ∧ Below w.heap.size w w' := by
  have HR := Aside0.mk hr
  have HS := Aside0.mk hs
  clear hr hs
  have H0 : Aside0 (BsIn w r (w.alloc (.cells #[.int .i64 r.f0, .int .i64 r.f1, .int .i64 r.f2, .int .i64 r.f3, .int .i64 r.f4, .int .i64 r.f5.f0, .int .i64 r.f5.f1, .int .i64 r.f6.f0, .int .i64 r.f6.f1] 41 (0, 0)))) := ⟨heap_at_new _ _ _ rfl, below_alloc (Below.refl _ _) _⟩
  obtain ⟨pos, hpos⟩ : ∃ p, Aside0 (posV l r.f0 = p) := ⟨_, ⟨rfl⟩⟩
  rw [hpos.out]
  obtain ⟨fin, hfin⟩ : ∃ b, Aside0 ((decide (pos < l.length) && decide (noAt l pos = r.f0)) = b) := ⟨_, ⟨rfl⟩⟩
  rw [hfin.out]
  go_enter Try.func59, Try.ntmps59
  go_wp2
  go_loopw [9, 10] (fun s9 s10 wr => ∃ lo hi : Nat, s9 = .int .i64 lo ∧ s10 = .int .i64 hi ∧ lo ≤ hi ∧ hi ≤ l.length ∧ Aside0 (BsIn w r wr) ∧ Aside0 ((∀ j, j < lo → noAt l j < r.f0) ∧ (∀ j, hi ≤ j → j < l.length → r.f0 ≤ noAt l j))) (fun s9 s10 _ => (intOf s10).toNat - (intOf s9).toNat)
  case atStart => exact ⟨0, l.length, rfl, rfl, Nat.zero_le _, Nat.le_refl _, H0, ⟨fun j hj => absurd hj (Nat.not_lt_zero _), fun j h1 h2 => by omega⟩⟩
  case round =>
    clear H0
    obtain ⟨lo, hi, rfl, rfl, hlh, hhn, HB, HI⟩ := hrel
    by_cases hlt : lo < hi
    · obtain ⟨m, hm⟩ : ∃ m, m = (lo + hi) / 2 := ⟨_, rfl⟩
      have hm1 : lo ≤ m ∧ m < hi := by omega
      have hm2 : ((lo : Int) + (hi : Int)) / 2 = (m : Int) := by omega
      have hm3 := Aside0.mk hm
      have hm4 := Aside0.mk hm2
      have hm5 := Aside0.mk hm1
      clear hm hm1 hm2
      go_wp2
      rw [hm4.out]
      obtain ⟨ad, eA, q0, q1, q2, q3, q4, q5, q6, q7, q8⟩ := at_T41 HR.out (m : Int) (by have := hm5.out; omega) (by have := hm5.out; omega)
      rw [Int.toNat_natCast] at q0 q1 q2 q3 q4 q5 q6 q7 q8
      have hno : Aside0 ((rd_T41 l (m : Int)).f0 = noAt l m) := ⟨rfl⟩
      generalize rd_T41 l (m : Int) = e at q0 q1 q2 q3 q4 q5 q6 q7 q8 hno
      have b0 := World.block_lt_of_cell? w _ q0
      subst eA
      have hcall := Aside0.mk (add1 e r)
      obtain ⟨v, hv⟩ : ∃ v, Aside0 (cmpV e.f0 r.f0 = v) := ⟨_, ⟨rfl⟩⟩
      rw [hv.out] at hcall
      have hS0 := Aside0.mk HB.out.drew
      have hmn := hm5.out
      have hlm : (m : Int) < (l.length : Int) := by omega
      clear hm4
      refine start_ (n := 8) (S := (BsIn w r)) (ds := []) #[false, false, false, false, false, false, false, false] (by kernel_rfl) rfl rfl hS0.out (fun hHeld => ?_)
      clear hS0
      refine with_tabW bsf.tab5 bsf.bits5 (fun HT_ HW_ => ?_)
      generalize World.drew _ = Wd at hHeld ⊢
      refine pure_ (i := 0) (N := some 24) (v := ?_) (a' := ?_) #[true, false, false, false, false, false, false, false] rfl rfl (any_of HT_.out (by kernel_rfl)) (fun _ _ _ h => h) (Or.inl ⟨by rfl, ?_⟩) ?_ ?_
      rotate_left
      · intro w'
        go_simp
        with_reducible rfl
      rotate_left
      · simp only [Act.put, List.setIfInBounds_toArray, List.set_cons_zero, List.set_cons_succ, i64_w, i32_w]
        rfl
      refine pure_ (i := 1) (N := some 25) (v := ?_) (a' := ?_) #[true, true, false, false, false, false, false, false] rfl rfl (any_of HT_.out (by kernel_rfl)) (fun _ _ _ h => h) (Or.inl ⟨by rfl, ?_⟩) ?_ ?_
      rotate_left
      · intro w'
        go_simp
        with_reducible rfl
      rotate_left
      · simp only [Act.put, List.setIfInBounds_toArray, List.set_cons_zero, List.set_cons_succ, i64_w, i32_w]
        rfl
      refine pure_ (i := 2) (N := some 26) (v := ?_) (a' := ?_) #[true, true, true, false, false, false, false, false] rfl rfl (any_of HT_.out (by kernel_rfl)) (fun _ _ _ h => h) (Or.inl ⟨by rfl, ?_⟩) ?_ ?_
      rotate_left
      · intro w'
        go_simp
        with_reducible rfl
      rotate_left
      · simp only [Act.put, List.setIfInBounds_toArray, List.set_cons_zero, List.set_cons_succ, i64_w, i32_w]
        rfl
      refine pure_ (i := 3) (N := some 27) (v := ?_) (a' := ?_) #[true, true, true, true, false, false, false, false] rfl rfl (any_of HT_.out (by kernel_rfl)) (fun _ _ _ h => h) (Or.inl ⟨by rfl, ?_⟩) ?_ ?_
      rotate_left
      · intro w'
        go_simp
        with_reducible rfl
      rotate_left
      · simp only [Act.put, List.setIfInBounds_toArray, List.set_cons_zero, List.set_cons_succ, i64_w, i32_w]
        rfl
      refine take_ (i := 4) (N := some 28) (v := ?_) (a' := ?_) #[true, true, true, true, true, false, false, false] rfl rfl (take_ofW HT_.out HW_.out (by kernel_rfl)) (fun _ _ _ h => h) (Or.inl ⟨by rfl, ?_⟩) hHeld ?_ ?_
      rotate_left
      · rintro w' hs
        have k0 := (hs.2.cell (p := _) (World.block_lt_of_cell? w _ q0)).trans q0
        have k1 := (hs.2.cell (p := _) (World.block_lt_of_cell? w _ q1)).trans q1
        have k2 := (hs.2.cell (p := _) (World.block_lt_of_cell? w _ q2)).trans q2
        have k3 := (hs.2.cell (p := _) (World.block_lt_of_cell? w _ q3)).trans q3
        have k4 := (hs.2.cell (p := _) (World.block_lt_of_cell? w _ q4)).trans q4
        have k5 := (hs.2.cell (p := _) (World.block_lt_of_cell? w _ q5)).trans q5
        have k6 := (hs.2.cell (p := _) (World.block_lt_of_cell? w _ q6)).trans q6
        have k7 := (hs.2.cell (p := _) (World.block_lt_of_cell? w _ q7)).trans q7
        have k8 := (hs.2.cell (p := _) (World.block_lt_of_cell? w _ q8)).trans q8
        go_simp
        with_reducible rfl
      rotate_left
      · simp only [Act.put, List.setIfInBounds_toArray, List.set_cons_zero, List.set_cons_succ, i64_w, i32_w]
        rfl
      refine take_ (i := 5) (N := some 29) (v := ?_) (a' := ?_) #[true, true, true, true, true, true, false, false] rfl rfl (take_ofW HT_.out HW_.out (by kernel_rfl)) (fun _ _ _ h => h) (Or.inl ⟨by rfl, ?_⟩) hHeld ?_ ?_
      rotate_left
      · rintro w' hs
        have k0 := (blk_cell hs.1 0).trans rfl
        have k1 := (blk_cell hs.1 1).trans rfl
        have k2 := (blk_cell hs.1 2).trans rfl
        have k3 := (blk_cell hs.1 3).trans rfl
        have k4 := (blk_cell hs.1 4).trans rfl
        have k5 := (blk_cell hs.1 5).trans rfl
        have k6 := (blk_cell hs.1 6).trans rfl
        have k7 := (blk_cell hs.1 7).trans rfl
        have k8 := (blk_cell hs.1 8).trans rfl
        go_simp
        with_reducible rfl
      rotate_left
      · simp only [Act.put, List.setIfInBounds_toArray, List.set_cons_zero, List.set_cons_succ, i64_w, i32_w]
        rfl
      refine one_ (i := 6) (N := some 30) #[true, true, true, true, true, true, true, false] rfl rfl (one_of HT_.out (by kernel_rfl)) (by decide) (fun K hK => ?_)
      refine goesV_ Try.func60 (by kernel_rfl) rfl (.tmp 24) #[] #[.agg #[.int .i64 e.f0, .int .i64 e.f1, .int .i64 e.f2, .int .i64 e.f3, .int .i64 e.f4, .int .i64 e.f5.f0, .int .i64 e.f5.f1, .int .i64 e.f6.f0, .int .i64 e.f6.f1], .agg #[.int .i64 r.f0, .int .i64 r.f1, .int .i64 r.f2, .int .i64 r.f3, .int .i64 r.f4, .int .i64 r.f5.f0, .int .i64 r.f5.f1, .int .i64 r.f6.f0, .int .i64 r.f6.f1]] (by rfl) rfl rfl (by rfl) (by (try simp only [List.map_toArray, List.map_cons, List.map_nil, List.append_toArray, List.cons_append, List.nil_append]); first | done | rfl) ?_
      refine (hcall.out _).mono ?_
      rintro e_ w' ⟨rfl, hb⟩
      refine ⟨_, rfl, ?_⟩
      refine hK.out _ _ (hHeld.below hb) (fun hHeld => ?_)
      clear hK K hb
      refine norm_ (a' := ?_) ?_ ?_
      rotate_left
      · show Act.put _ (some 30) _ = _
        simp only [Act.put, List.setIfInBounds_toArray, List.set_cons_zero, List.set_cons_succ, i64_w, i32_w]
        rfl
      refine pure_ (i := 7) (N := some 31) (v := ?_) (a' := ?_) #[true, true, true, true, true, true, true, true] rfl rfl (any_of HT_.out (by kernel_rfl)) (fun _ _ _ h => h) (Or.inl ⟨by rfl, ?_⟩) ?_ ?_
      rotate_left
      · intro w'
        go_simp
        with_reducible rfl
      rotate_left
      · simp only [Act.put, List.setIfInBounds_toArray, List.set_cons_zero, List.set_cons_succ, i64_w, i32_w]
        rfl
      refine done_ (done_of HT_.out (by kernel_rfl)) ?_
      by_cases hv0 : v < 0
      · go_wp2
        go_roundw
        case measure => simp [intOf]; omega
        case rel => exact ⟨m + 1, hi, by go_num, rfl, by omega, hhn, ⟨hHeld⟩, ⟨fun j hj => by
            have h1 : e.f0 < r.f0 := by have := hv.out; unfold cmpV at this; split at this; · assumption
                                        · split at this <;> omega
            rw [hno.out] at h1
            rcases Nat.lt_or_ge j m with h2 | h2
            · have := HS.out j m h2 (by omega); omega
            · obtain rfl : j = m := by omega
              exact h1, HI.out.2⟩⟩
      · go_wp2
        go_roundw
        case measure => simp [intOf]; omega
        case rel => exact ⟨lo, m, rfl, rfl, by omega, by omega, ⟨hHeld⟩, ⟨HI.out.1, fun j h1 h2 => by
            have h3 : r.f0 ≤ e.f0 := by have := hv.out; unfold cmpV at this; split at this <;> omega
            rw [hno.out] at h3
            rcases Nat.lt_or_ge m j with h4 | h4
            · have := HS.out m j h4 h2; omega
            · obtain rfl : j = m := by omega
              exact h3⟩⟩
    · obtain rfl : lo = hi := by omega
      have hp : pos = lo := by rw [← hpos.out]; exact posV_eq l r.f0 lo hhn HI.out.1 (fun h => HI.out.2 lo (Nat.le_refl _) h)
      subst hp
      have hS0 := Aside0.mk HB.out.drew
      by_cases hin : pos < l.length
      · obtain ⟨ad, eA, q0, q1, q2, q3, q4, q5, q6, q7, q8⟩ := at_T41 HR.out (pos : Int) (by omega) (by omega)
        rw [Int.toNat_natCast] at q0 q1 q2 q3 q4 q5 q6 q7 q8
        have hno : Aside0 ((rd_T41 l (pos : Int)).f0 = noAt l pos) := ⟨rfl⟩
        generalize rd_T41 l (pos : Int) = e at q0 q1 q2 q3 q4 q5 q6 q7 q8 hno
        have b0 := World.block_lt_of_cell? w _ q0
        subst eA
        have hcall := Aside0.mk (add1 e r)
        obtain ⟨v, hv⟩ : ∃ v, Aside0 (cmpV e.f0 r.f0 = v) := ⟨_, ⟨rfl⟩⟩
        rw [hv.out] at hcall
        have hlm : (pos : Int) < (l.length : Int) := by omega
        have hfv : Aside0 (fin = decide (v = 0)) := ⟨by
          rw [← hfin.out, ← hv.out, ← hno.out]
          unfold cmpV
          by_cases h1 : e.f0 = r.f0
          · simp [h1, hin]
          · rw [decide_eq_false h1, Bool.and_false]
            symm
            apply decide_eq_false
            split
            · omega
            · split <;> omega⟩
        clear hfin
        go_wp2
        refine start_ (n := 16) (S := (BsIn w r)) (ds := []) #[false, false, false, false, false, false, false, false, false, false, false, false, false, false, false, false] (by kernel_rfl) rfl rfl hS0.out (fun hHeld => ?_)
        clear hS0
        refine with_tabW bsf.tab8 bsf.bits8 (fun HT_ HW_ => ?_)
        generalize World.drew _ = Wd at hHeld ⊢
        refine pure_ (i := 0) (N := some 35) (v := ?_) (a' := ?_) #[true, false, false, false, false, false, false, false, false, false, false, false, false, false, false, false] rfl rfl (any_of HT_.out (by kernel_rfl)) (fun _ _ _ h => h) (Or.inl ⟨by rfl, ?_⟩) ?_ ?_
        rotate_left
        · intro w'
          go_simp
          with_reducible rfl
        rotate_left
        · simp only [Act.put, List.setIfInBounds_toArray, List.set_cons_zero, List.set_cons_succ, i64_w, i32_w]
          rfl
        refine pure_ (i := 1) (N := some 36) (v := ?_) (a' := ?_) #[true, true, false, false, false, false, false, false, false, false, false, false, false, false, false, false] rfl rfl (any_of HT_.out (by kernel_rfl)) (fun _ _ _ h => h) (Or.inl ⟨by rfl, ?_⟩) ?_ ?_
        rotate_left
        · intro w'
          go_simp
          with_reducible rfl
        rotate_left
        · simp only [Act.put, List.setIfInBounds_toArray, List.set_cons_zero, List.set_cons_succ, i64_w, i32_w]
          rfl
        refine pure_ (i := 2) (N := some 37) (v := ?_) (a' := ?_) #[true, true, true, false, false, false, false, false, false, false, false, false, false, false, false, false] rfl rfl (any_of HT_.out (by kernel_rfl)) (fun _ _ _ h => h) (Or.inl ⟨by rfl, ?_⟩) ?_ ?_
        rotate_left
        · intro w'
          go_simp
          with_reducible rfl
        rotate_left
        · simp only [Act.put, List.setIfInBounds_toArray, List.set_cons_zero, List.set_cons_succ, i64_w, i32_w]
          rfl
        refine pure_ (i := 3) (N := some 38) (v := ?_) (a' := ?_) #[true, true, true, true, false, false, false, false, false, false, false, false, false, false, false, false] rfl rfl (any_of HT_.out (by kernel_rfl)) (fun _ _ _ h => h) (Or.inl ⟨by rfl, ?_⟩) ?_ ?_
        rotate_left
        · intro w'
          go_simp
          with_reducible rfl
        rotate_left
        · simp only [Act.put, List.setIfInBounds_toArray, List.set_cons_zero, List.set_cons_succ, i64_w, i32_w]
          rfl
        refine pure_ (i := 4) (N := some 39) (v := ?_) (a' := ?_) #[true, true, true, true, true, false, false, false, false, false, false, false, false, false, false, false] rfl rfl (any_of HT_.out (by kernel_rfl)) (fun _ _ _ h => h) (Or.inl ⟨by rfl, ?_⟩) ?_ ?_
        rotate_left
        · intro w'
          go_simp
          with_reducible rfl
        rotate_left
        · simp only [Act.put, List.setIfInBounds_toArray, List.set_cons_zero, List.set_cons_succ, i64_w, i32_w]
          rfl
        refine pure_ (i := 5) (N := some 40) (v := ?_) (a' := ?_) #[true, true, true, true, true, true, false, false, false, false, false, false, false, false, false, false] rfl rfl (any_of HT_.out (by kernel_rfl)) (fun _ _ _ h => h) (Or.inl ⟨by rfl, ?_⟩) ?_ ?_
        rotate_left
        · intro w'
          go_simp
          with_reducible rfl
        rotate_left
        · simp only [Act.put, List.setIfInBounds_toArray, List.set_cons_zero, List.set_cons_succ, i64_w, i32_w]
          rfl
        refine pure_ (i := 6) (N := some 41) (v := ?_) (a' := ?_) #[true, true, true, true, true, true, true, false, false, false, false, false, false, false, false, false] rfl rfl (any_of HT_.out (by kernel_rfl)) (fun _ _ _ h => h) (Or.inl ⟨by rfl, ?_⟩) ?_ ?_
        rotate_left
        · intro w'
          go_simp
          with_reducible rfl
        rotate_left
        · simp only [Act.put, List.setIfInBounds_toArray, List.set_cons_zero, List.set_cons_succ, i64_w, i32_w]
          rfl
        refine pure_ (i := 7) (N := some 42) (v := ?_) (a' := ?_) #[true, true, true, true, true, true, true, true, false, false, false, false, false, false, false, false] rfl rfl (any_of HT_.out (by kernel_rfl)) (fun _ _ _ h => h) (Or.inl ⟨by rfl, ?_⟩) ?_ ?_
        rotate_left
        · intro w'
          go_simp
          with_reducible rfl
        rotate_left
        · simp only [Act.put, List.setIfInBounds_toArray, List.set_cons_zero, List.set_cons_succ, i64_w, i32_w]
          rfl
        refine pure_ (i := 8) (N := some 43) (v := ?_) (a' := ?_) #[true, true, true, true, true, true, true, true, true, false, false, false, false, false, false, false] rfl rfl (any_of HT_.out (by kernel_rfl)) (fun _ _ _ h => h) (Or.inl ⟨by rfl, ?_⟩) ?_ ?_
        rotate_left
        · intro w'
          go_simp
          with_reducible rfl
        rotate_left
        · simp only [Act.put, List.setIfInBounds_toArray, List.set_cons_zero, List.set_cons_succ, i64_w, i32_w]
          rfl
        refine take_ (i := 9) (N := some 44) (v := ?_) (a' := ?_) #[true, true, true, true, true, true, true, true, true, true, false, false, false, false, false, false] rfl rfl (take_ofW HT_.out HW_.out (by kernel_rfl)) (fun _ _ _ h => h) (Or.inl ⟨by rfl, ?_⟩) hHeld ?_ ?_
        rotate_left
        · rintro w' hs
          have k0 := (hs.2.cell (p := _) (World.block_lt_of_cell? w _ q0)).trans q0
          have k1 := (hs.2.cell (p := _) (World.block_lt_of_cell? w _ q1)).trans q1
          have k2 := (hs.2.cell (p := _) (World.block_lt_of_cell? w _ q2)).trans q2
          have k3 := (hs.2.cell (p := _) (World.block_lt_of_cell? w _ q3)).trans q3
          have k4 := (hs.2.cell (p := _) (World.block_lt_of_cell? w _ q4)).trans q4
          have k5 := (hs.2.cell (p := _) (World.block_lt_of_cell? w _ q5)).trans q5
          have k6 := (hs.2.cell (p := _) (World.block_lt_of_cell? w _ q6)).trans q6
          have k7 := (hs.2.cell (p := _) (World.block_lt_of_cell? w _ q7)).trans q7
          have k8 := (hs.2.cell (p := _) (World.block_lt_of_cell? w _ q8)).trans q8
          go_simp
          with_reducible rfl
        rotate_left
        · simp only [Act.put, List.setIfInBounds_toArray, List.set_cons_zero, List.set_cons_succ, i64_w, i32_w]
          rfl
        refine take_ (i := 10) (N := some 45) (v := ?_) (a' := ?_) #[true, true, true, true, true, true, true, true, true, true, true, false, false, false, false, false] rfl rfl (take_ofW HT_.out HW_.out (by kernel_rfl)) (fun _ _ _ h => h) (Or.inl ⟨by rfl, ?_⟩) hHeld ?_ ?_
        rotate_left
        · rintro w' hs
          have k0 := (blk_cell hs.1 0).trans rfl
          have k1 := (blk_cell hs.1 1).trans rfl
          have k2 := (blk_cell hs.1 2).trans rfl
          have k3 := (blk_cell hs.1 3).trans rfl
          have k4 := (blk_cell hs.1 4).trans rfl
          have k5 := (blk_cell hs.1 5).trans rfl
          have k6 := (blk_cell hs.1 6).trans rfl
          have k7 := (blk_cell hs.1 7).trans rfl
          have k8 := (blk_cell hs.1 8).trans rfl
          go_simp
          with_reducible rfl
        rotate_left
        · simp only [Act.put, List.setIfInBounds_toArray, List.set_cons_zero, List.set_cons_succ, i64_w, i32_w]
          rfl
        refine one_ (i := 11) (N := some 46) #[true, true, true, true, true, true, true, true, true, true, true, true, false, false, false, false] rfl rfl (one_of HT_.out (by kernel_rfl)) (by decide) (fun K hK => ?_)
        refine goesV_ Try.func60 (by kernel_rfl) rfl (.tmp 40) #[] #[.agg #[.int .i64 e.f0, .int .i64 e.f1, .int .i64 e.f2, .int .i64 e.f3, .int .i64 e.f4, .int .i64 e.f5.f0, .int .i64 e.f5.f1, .int .i64 e.f6.f0, .int .i64 e.f6.f1], .agg #[.int .i64 r.f0, .int .i64 r.f1, .int .i64 r.f2, .int .i64 r.f3, .int .i64 r.f4, .int .i64 r.f5.f0, .int .i64 r.f5.f1, .int .i64 r.f6.f0, .int .i64 r.f6.f1]] (by rfl) rfl rfl (by rfl) (by (try simp only [List.map_toArray, List.map_cons, List.map_nil, List.append_toArray, List.cons_append, List.nil_append]); first | done | rfl) ?_
        refine (hcall.out _).mono ?_
        rintro e_ w' ⟨rfl, hb⟩
        refine ⟨_, rfl, ?_⟩
        refine hK.out _ _ (hHeld.below hb) (fun hHeld => ?_)
        clear hK K hb
        refine norm_ (a' := ?_) ?_ ?_
        rotate_left
        · show Act.put _ (some 46) _ = _
          simp only [Act.put, List.setIfInBounds_toArray, List.set_cons_zero, List.set_cons_succ, i64_w, i32_w]
          rfl
        refine pure_ (i := 12) (N := some 47) (v := ?_) (a' := ?_) #[true, true, true, true, true, true, true, true, true, true, true, true, true, false, false, false] rfl rfl (any_of HT_.out (by kernel_rfl)) (fun _ _ _ h => h) (Or.inl ⟨by rfl, ?_⟩) ?_ ?_
        rotate_left
        · intro w'
          go_simp
          with_reducible rfl
        rotate_left
        · simp only [Act.put, List.setIfInBounds_toArray, List.set_cons_zero, List.set_cons_succ, i64_w, i32_w]
          rfl
        refine pure_ (i := 13) (N := some 48) (v := ?_) (a' := ?_) #[true, true, true, true, true, true, true, true, true, true, true, true, true, true, false, false] rfl rfl (any_of HT_.out (by kernel_rfl)) (fun _ _ _ h => h) (Or.inl ⟨by rfl, ?_⟩) ?_ ?_
        rotate_left
        · intro w'
          go_simp
          with_reducible rfl
        rotate_left
        · simp only [Act.put, List.setIfInBounds_toArray, List.set_cons_zero, List.set_cons_succ, i64_w, i32_w]
          rfl
        refine pure_ (i := 14) (N := some 6) (v := ?_) (a' := ?_) #[true, true, true, true, true, true, true, true, true, true, true, true, true, true, true, false] rfl rfl (any_of HT_.out (by kernel_rfl)) (fun _ _ _ h => h) (Or.inl ⟨by rfl, ?_⟩) ?_ ?_
        rotate_left
        · intro w'
          go_simp
          with_reducible rfl
        rotate_left
        · simp only [Act.put, List.setIfInBounds_toArray, List.set_cons_zero, List.set_cons_succ, i64_w, i32_w]
          rfl
        refine pure_ (i := 15) (N := some 7) (v := ?_) (a' := ?_) #[true, true, true, true, true, true, true, true, true, true, true, true, true, true, true, true] rfl rfl (any_of HT_.out (by kernel_rfl)) (fun _ _ _ h => h) (Or.inl ⟨by rfl, ?_⟩) ?_ ?_
        rotate_left
        · intro w'
          go_simp
          with_reducible rfl
        rotate_left
        · simp only [Act.put, List.setIfInBounds_toArray, List.set_cons_zero, List.set_cons_succ, i64_w, i32_w]
          rfl
        refine done_ (done_of HT_.out (by kernel_rfl)) ?_
        go_wp2
        go_ret2
        exact ⟨by rw [hfv.out]; rfl, hHeld.2⟩
      · have hf : Aside0 (fin = false) := ⟨by rw [← hfin.out, decide_eq_false hin]; rfl⟩
        have hlm : ¬ (pos : Int) < (l.length : Int) := by omega
        clear hfin
        go_wp2
        refine start_ (n := 16) (S := (BsIn w r)) (ds := []) #[false, false, false, false, false, false, false, false, false, false, false, false, false, false, false, false] (by kernel_rfl) rfl rfl hS0.out (fun hHeld => ?_)
        clear hS0
        refine with_tabW bsf.tab8 bsf.bits8 (fun HT_ HW_ => ?_)
        generalize World.drew _ = Wd at hHeld ⊢
        refine pure_ (i := 0) (N := some 35) (v := ?_) (a' := ?_) #[true, false, false, false, false, false, false, false, false, false, false, false, false, false, false, false] rfl rfl (any_of HT_.out (by kernel_rfl)) (fun _ _ _ h => h) (Or.inl ⟨by rfl, ?_⟩) ?_ ?_
        rotate_left
        · intro w'
          go_simp
          with_reducible rfl
        rotate_left
        · simp only [Act.put, List.setIfInBounds_toArray, List.set_cons_zero, List.set_cons_succ, i64_w, i32_w]
          rfl
        refine pure_ (i := 1) (N := some 36) (v := ?_) (a' := ?_) #[true, true, false, false, false, false, false, false, false, false, false, false, false, false, false, false] rfl rfl (any_of HT_.out (by kernel_rfl)) (fun _ _ _ h => h) (Or.inl ⟨by rfl, ?_⟩) ?_ ?_
        rotate_left
        · intro w'
          go_simp
          with_reducible rfl
        rotate_left
        · simp only [Act.put, List.setIfInBounds_toArray, List.set_cons_zero, List.set_cons_succ, i64_w, i32_w]
          rfl
        refine pure_ (i := 2) (N := some 37) (v := ?_) (a' := ?_) #[true, true, true, false, false, false, false, false, false, false, false, false, false, false, false, false] rfl rfl (any_of HT_.out (by kernel_rfl)) (fun _ _ _ h => h) (Or.inl ⟨by rfl, ?_⟩) ?_ ?_
        rotate_left
        · intro w'
          go_simp
          with_reducible rfl
        rotate_left
        · simp only [Act.put, List.setIfInBounds_toArray, List.set_cons_zero, List.set_cons_succ, i64_w, i32_w]
          rfl
        refine pure_ (i := 3) (N := some 38) (v := ?_) (a' := ?_) #[true, true, true, true, false, false, false, false, false, false, false, false, false, false, false, false] rfl rfl (any_of HT_.out (by kernel_rfl)) (fun _ _ _ h => h) (Or.inl ⟨by rfl, ?_⟩) ?_ ?_
        rotate_left
        · intro w'
          go_simp
          with_reducible rfl
        rotate_left
        · simp only [Act.put, List.setIfInBounds_toArray, List.set_cons_zero, List.set_cons_succ, i64_w, i32_w]
          rfl
        refine pure_ (i := 4) (N := some 39) (v := ?_) (a' := ?_) #[true, true, true, true, true, false, false, false, false, false, false, false, false, false, false, false] rfl rfl (any_of HT_.out (by kernel_rfl)) (fun _ _ _ h => h) (Or.inl ⟨by rfl, ?_⟩) ?_ ?_
        rotate_left
        · intro w'
          go_simp
          with_reducible rfl
        rotate_left
        · simp only [Act.put, List.setIfInBounds_toArray, List.set_cons_zero, List.set_cons_succ, i64_w, i32_w]
          rfl
        refine pure_ (i := 5) (N := some 40) (v := undef) (a' := ?_) #[true, true, true, true, true, true, false, false, false, false, false, false, false, false, false, false] rfl rfl (any_of HT_.out (by kernel_rfl)) (fun _ _ _ h => h) (Or.inr ⟨by rfl, rfl⟩) ?_ ?_
        rotate_left
        · simp only [Act.put, List.setIfInBounds_toArray, List.set_cons_zero, List.set_cons_succ, i64_w, i32_w]
          rfl
        refine pure_ (i := 6) (N := some 41) (v := undef) (a' := ?_) #[true, true, true, true, true, true, true, false, false, false, false, false, false, false, false, false] rfl rfl (any_of HT_.out (by kernel_rfl)) (fun _ _ _ h => h) (Or.inr ⟨by rfl, rfl⟩) ?_ ?_
        rotate_left
        · simp only [Act.put, List.setIfInBounds_toArray, List.set_cons_zero, List.set_cons_succ, i64_w, i32_w]
          rfl
        refine pure_ (i := 7) (N := some 42) (v := undef) (a' := ?_) #[true, true, true, true, true, true, true, true, false, false, false, false, false, false, false, false] rfl rfl (any_of HT_.out (by kernel_rfl)) (fun _ _ _ h => h) (Or.inr ⟨by rfl, rfl⟩) ?_ ?_
        rotate_left
        · simp only [Act.put, List.setIfInBounds_toArray, List.set_cons_zero, List.set_cons_succ, i64_w, i32_w]
          rfl
        refine pure_ (i := 8) (N := some 43) (v := undef) (a' := ?_) #[true, true, true, true, true, true, true, true, true, false, false, false, false, false, false, false] rfl rfl (any_of HT_.out (by kernel_rfl)) (fun _ _ _ h => h) (Or.inr ⟨by rfl, rfl⟩) ?_ ?_
        rotate_left
        · simp only [Act.put, List.setIfInBounds_toArray, List.set_cons_zero, List.set_cons_succ, i64_w, i32_w]
          rfl
        refine pure_ (i := 9) (N := some 44) (v := undef) (a' := ?_) #[true, true, true, true, true, true, true, true, true, true, false, false, false, false, false, false] rfl rfl (any_of HT_.out (by kernel_rfl)) (fun _ _ _ h => h) (Or.inr ⟨by rfl, rfl⟩) ?_ ?_
        rotate_left
        · simp only [Act.put, List.setIfInBounds_toArray, List.set_cons_zero, List.set_cons_succ, i64_w, i32_w]
          rfl
        refine pure_ (i := 10) (N := some 45) (v := undef) (a' := ?_) #[true, true, true, true, true, true, true, true, true, true, true, false, false, false, false, false] rfl rfl (any_of HT_.out (by kernel_rfl)) (fun _ _ _ h => h) (Or.inr ⟨by rfl, rfl⟩) ?_ ?_
        rotate_left
        · simp only [Act.put, List.setIfInBounds_toArray, List.set_cons_zero, List.set_cons_succ, i64_w, i32_w]
          rfl
        refine pure_ (i := 11) (N := some 46) (v := undef) (a' := ?_) #[true, true, true, true, true, true, true, true, true, true, true, true, false, false, false, false] rfl rfl (any_of HT_.out (by kernel_rfl)) (fun _ _ _ h => h) (Or.inr ⟨by rfl, rfl⟩) ?_ ?_
        rotate_left
        · simp only [Act.put, List.setIfInBounds_toArray, List.set_cons_zero, List.set_cons_succ, i64_w, i32_w]
          rfl
        refine pure_ (i := 12) (N := some 47) (v := undef) (a' := ?_) #[true, true, true, true, true, true, true, true, true, true, true, true, true, false, false, false] rfl rfl (any_of HT_.out (by kernel_rfl)) (fun _ _ _ h => h) (Or.inr ⟨by rfl, rfl⟩) ?_ ?_
        rotate_left
        · simp only [Act.put, List.setIfInBounds_toArray, List.set_cons_zero, List.set_cons_succ, i64_w, i32_w]
          rfl
        refine pure_ (i := 13) (N := some 48) (v := ?_) (a' := ?_) #[true, true, true, true, true, true, true, true, true, true, true, true, true, true, false, false] rfl rfl (any_of HT_.out (by kernel_rfl)) (fun _ _ _ h => h) (Or.inl ⟨by rfl, ?_⟩) ?_ ?_
        rotate_left
        · intro w'
          go_simp
          with_reducible rfl
        rotate_left
        · simp only [Act.put, List.setIfInBounds_toArray, List.set_cons_zero, List.set_cons_succ, i64_w, i32_w]
          rfl
        refine pure_ (i := 14) (N := some 6) (v := ?_) (a' := ?_) #[true, true, true, true, true, true, true, true, true, true, true, true, true, true, true, false] rfl rfl (any_of HT_.out (by kernel_rfl)) (fun _ _ _ h => h) (Or.inl ⟨by rfl, ?_⟩) ?_ ?_
        rotate_left
        · intro w'
          go_simp
          with_reducible rfl
        rotate_left
        · simp only [Act.put, List.setIfInBounds_toArray, List.set_cons_zero, List.set_cons_succ, i64_w, i32_w]
          rfl
        refine pure_ (i := 15) (N := some 7) (v := ?_) (a' := ?_) #[true, true, true, true, true, true, true, true, true, true, true, true, true, true, true, true] rfl rfl (any_of HT_.out (by kernel_rfl)) (fun _ _ _ h => h) (Or.inl ⟨by rfl, ?_⟩) ?_ ?_
        rotate_left
        · intro w'
          go_simp
          with_reducible rfl
        rotate_left
        · simp only [Act.put, List.setIfInBounds_toArray, List.set_cons_zero, List.set_cons_succ, i64_w, i32_w]
          rfl
        refine done_ (done_of HT_.out (by kernel_rfl)) ?_
        go_wp2
        go_ret2
        exact ⟨by rw [hf.out]; rfl, hHeld.2⟩
end Go.Proofs.Ythfhjcbgccnijaa.Q
