/- By hand: what the statement's sky computes: a closure that reads the number of the day out of its box. -/
import Derived.Test.YthfhjcbgccnijaaQ0
import Derived.Test.YthfhjcbgccnijaaAid
import Derived.Outline
import Derived.RegionTactic
import Derived.Deep.RegionWith
import Derived.StillTailTactics
namespace Go.Proofs.Ythfhjcbgccnijaa.Q
open Go.RowKit Go.Proofs.YthfhjcbgccnijaaW.PrintWords Go.Proofs.YthfhjcbgccnijaaW.PrintLast Go.Proofs.YthfhjcbgccnijaaW.PrintMore
attribute [local go_sem] max2_int min2_int max_two min_two
set_option linter.unusedVariables false
set_option linter.unusedSimpArgs false

def getV (l : List Int) (i : Int) (most : Int) : Int := if i < (l.length : Int) then Int.tmod (wrap64 (rd l i)) (wrap64 (most + 1)) else 0

set_option maxRecDepth 100000 in
set_option maxHeartbeats 4000000 in
theorem get_ (l : List Int) (A : Option Addr) (c : Nat) (most i : Int) (ib : Nat) (w : World) (hi : w.cell? ⟨ib, 0, none⟩ = some (.int .i64 i)) (h0 : 0 ≤ i) (hr : Kd.C (Kd.int .u8) w A l.length l) (hm : wrap64 (most + 1) ≠ 0) :
    Calls Try.prog 56 #[.slice A l.length c, .int .i64 most, .pointer (some ⟨ib, 0, none⟩)] w fun e w' => e = .returned (.int .i64 (getV l i most)) ∧ w' = w := by
  by_cases hl : i < (l.length : Int)
  · obtain ⟨ad, ea, p0⟩ := Kd.at_int hr i h0 hl
    subst ea
    have hg : getV l i most = Int.tmod (wrap64 (rd l i)) (wrap64 (most + 1)) := if_pos hl
    rw [hg]
    clear hg
    have HR := Aside0.mk hr
    clear hr
    have h0' : decide (0 ≤ i) = true := decide_eq_true h0
    go_enter Try.func56, Try.ntmps56
    go_wp2
    go_ret
    exact ⟨rfl, rfl⟩
  · have hg : getV l i most = 0 := if_neg hl
    rw [hg]
    clear hg hr
    go_enter Try.func56, Try.ntmps56
    go_wp2
    go_ret
    exact ⟨rfl, rfl⟩

def skyD (l1 l2 l3 l4 : List Int) (i : Int) : Int × Int × Int × Int × Int × Int × Int × Int :=
  (getV l1 i 200, getV l1 i 200, getV l2 i 40, getV l2 i 40, mx 0 (wrap64 (getV l1 i 200 - getV l3 i 30)), mn 200 (wrap64 (getV l1 i 200 + getV l4 i 30)),
    mx 0 (wrap64 (getV l2 i 40 - Int.tmod (getV l4 i 30) 4)), mn 40 (wrap64 (getV l2 i 40 + Int.tmod (getV l3 i 30) 4)))
def fastilaw29_sky.f (_a0_0 : Int) (l0_1 : List Int) (l0_2 : List Int) (l0_3 : List Int) (l0_4 : List Int) (_l0_5 : List Int) (a1 : Int) : Option (Int × Int × Int × Int × Int × Int × Int × Int) :=
  if 0 ≤ a1 then some (skyD l0_1 l0_2 l0_3 l0_4 a1) else none

/-- The blocks of sky's parameters and results. -/
def SkyIn (w w1 : World) (cs : Array Value) (a1 : Int) : Prop :=
  w1.heap[w.heap.size]? = some (.cells cs 57 (0, 0)) ∧ w1.heap[w.heap.size + 1]? = some (.cells #[.int .i64 a1] 3 (0, 0)) ∧
  w1.heap[w.heap.size + 2]? = some (.cells #[.int .i64 0, .int .i64 0, .int .i64 0, .int .i64 0] 39 (0, 0)) ∧ w1.heap[w.heap.size + 3]? = some (.cells #[.int .i64 0, .int .i64 0, .int .i64 0, .int .i64 0] 39 (0, 0)) ∧ Below w.heap.size w w1

def sky.T7 : Bool × List (List Nat × List Nat) := (true, [([], []), ([], []), ([0, 0], [0]), ([1, 2, 0, 1, 2], [1])])
def sky.B7 : List Nat := [0, 0, 1, 7]
theorem sky.tab7 : rtab .any (opsOf Try.f24 7) = sky.T7 := by kernel_rfl
theorem sky.bits7 : waitsOk sky.T7.2 sky.B7 = true := by kernel_rfl

theorem SkyIn.drew {w w1 : World} {cs : Array Value} {a1 : Int} (h : SkyIn w w1 cs a1) : SkyIn w w1.drew cs a1 :=
  ⟨blk_drew h.1, blk_drew h.2.1, blk_drew h.2.2.1, blk_drew h.2.2.2.1, below_drew1 h.2.2.2.2⟩

set_option maxRecDepth 100000 in
set_option maxHeartbeats 8000000 in
theorem fastilaw29_sky.calls (a0_0 : Int) (A0_1 : Option Addr) (c0_1 : Nat) (l0_1 : List Int) (A0_2 : Option Addr) (c0_2 : Nat) (l0_2 : List Int) (A0_3 : Option Addr) (c0_3 : Nat) (l0_3 : List Int) (A0_4 : Option Addr) (c0_4 : Nat) (l0_4 : List Int) (A0_5 : Option Addr) (c0_5 : Nat) (l0_5 : List Int) (a1 : Int) (r1 : Int) (r2 : Int) (r3 : Int) (r4 : Int) (r5 : Int) (r6 : Int) (r7 : Int) (r8 : Int) (w : World) (hr0_1 : Kd.C (Kd.int .u8) w A0_1 l0_1.length l0_1) (hc0_1 : l0_1.length ≤ c0_1) (hr0_2 : Kd.C (Kd.int .u8) w A0_2 l0_2.length l0_2) (hc0_2 : l0_2.length ≤ c0_2) (hr0_3 : Kd.C (Kd.int .u8) w A0_3 l0_3.length l0_3) (hc0_3 : l0_3.length ≤ c0_3) (hr0_4 : Kd.C (Kd.int .u8) w A0_4 l0_4.length l0_4) (hc0_4 : l0_4.length ≤ c0_4) (hr0_5 : Kd.C (Kd.int .u8) w A0_5 l0_5.length l0_5) (hc0_5 : l0_5.length ≤ c0_5) (h : fastilaw29_sky.f a0_0 l0_1 l0_2 l0_3 l0_4 l0_5 a1 = some (r1, r2, r3, r4, r5, r6, r7, r8)) :
    Calls Try.prog 24 #[.agg #[.int .i64 a0_0, .slice A0_1 l0_1.length c0_1, .slice A0_2 l0_2.length c0_2, .slice A0_3 l0_3.length c0_3, .slice A0_4 l0_4.length c0_4, .slice A0_5 l0_5.length c0_5], .int .i64 a1] w fun e w' => e = .returned (.tuple #[.agg #[.int .i64 r1, .int .i64 r2, .int .i64 r3, .int .i64 r4], .agg #[.int .i64 r5, .int .i64 r6, .int .i64 r7, .int .i64 r8]]) ∧ Below w.heap.size w w' := by
  unfold fastilaw29_sky.f at h
  by_cases h0 : 0 ≤ a1
  · rw [if_pos h0] at h
    have h' := Option.some.inj h
    unfold skyD at h'
    simp only [Prod.mk.injEq] at h'
    obtain ⟨e1, e2, e3, e4, e5, e6, e7, e8⟩ := h'
    have G1 := Aside0.mk (fun ib W hi hr => get_ l0_1 A0_1 c0_1 200 a1 ib W hi h0 hr (by unfold wrap64; decide))
    have G2 := Aside0.mk (fun ib W hi hr => get_ l0_2 A0_2 c0_2 40 a1 ib W hi h0 hr (by unfold wrap64; decide))
    have G3 := Aside0.mk (fun ib W hi hr => get_ l0_3 A0_3 c0_3 30 a1 ib W hi h0 hr (by unfold wrap64; decide))
    have G4 := Aside0.mk (fun ib W hi hr => get_ l0_4 A0_4 c0_4 30 a1 ib W hi h0 hr (by unfold wrap64; decide))
    generalize getV l0_1 a1 200 = rain at e1 e2 e3 e4 e5 e6 e7 e8 G1
    generalize getV l0_2 a1 40 = frost at e1 e2 e3 e4 e5 e6 e7 e8 G2
    generalize getV l0_3 a1 30 = less at e1 e2 e3 e4 e5 e6 e7 e8 G3
    generalize getV l0_4 a1 30 = more at e1 e2 e3 e4 e5 e6 e7 e8 G4
    have HR1 := Aside0.mk hr0_1
    have HR2 := Aside0.mk hr0_2
    have HR3 := Aside0.mk hr0_3
    have HR4 := Aside0.mk hr0_4
    clear hr0_1 hr0_2 hr0_3 hr0_4 hr0_5 h
    generalize l0_1.length = n1 at G1 HR1 hc0_1 ⊢
    generalize l0_2.length = n2 at G2 HR2 hc0_2 ⊢
    generalize l0_3.length = n3 at G3 HR3 hc0_3 ⊢
    generalize l0_4.length = n4 at G4 HR4 hc0_4 ⊢
    generalize l0_5.length = n5 at hc0_5 ⊢
    have hu := Try.underlying39
    subst e1 e2 e3 e4 e5 e6 e7 e8
    have m1 : (if 0 < wrap64 (rain - less) then wrap64 (rain - less) else 0) = mx 0 (wrap64 (rain - less)) := rfl
    have m2 : (if wrap64 (rain + more) < 200 then wrap64 (rain + more) else 200) = mn 200 (wrap64 (rain + more)) := rfl
    have m3 : (if 0 < wrap64 (frost - Int.tmod more 4) then wrap64 (frost - Int.tmod more 4) else 0) = mx 0 (wrap64 (frost - Int.tmod more 4)) := rfl
    have m4 : (if wrap64 (frost + Int.tmod less 4) < 40 then wrap64 (frost + Int.tmod less 4) else 40) = mn 40 (wrap64 (frost + Int.tmod less 4)) := rfl
    go_enter Try.func24, Try.ntmps24
    go_upto_region 2 with fail
    have HI := Aside0.mk (show SkyIn w ((((w.alloc (.cells #[.int .i64 a0_0, .slice A0_1 n1 c0_1, .slice A0_2 n2 c0_2, .slice A0_3 n3 c0_3, .slice A0_4 n4 c0_4, .slice A0_5 n5 c0_5] 57)).alloc (.cells #[.int .i64 a1] 3)).alloc (.cells #[.int .i64 0, .int .i64 0, .int .i64 0, .int .i64 0] 39)).alloc (.cells #[.int .i64 0, .int .i64 0, .int .i64 0, .int .i64 0] 39)) #[.int .i64 a0_0, .slice A0_1 n1 c0_1, .slice A0_2 n2 c0_2, .slice A0_3 n3 c0_3, .slice A0_4 n4 c0_4, .slice A0_5 n5 c0_5] a1 from
      ⟨heap_at_old _ _ _ _ (heap_at_old _ _ _ _ (heap_at_old _ _ _ _ (heap_at_new _ _ _ rfl))), heap_at_old _ _ _ _ (heap_at_old _ _ _ _ (heap_at_new _ _ _ (by simp))), heap_at_old _ _ _ _ (heap_at_new _ _ _ (by simp)), heap_at_new _ _ _ (by simp), below_alloc (below_alloc (below_alloc (below_alloc (Below.refl w.heap.size w) _) _) _) _⟩)
    generalize (((w.alloc (.cells #[.int .i64 a0_0, .slice A0_1 n1 c0_1, .slice A0_2 n2 c0_2, .slice A0_3 n3 c0_3, .slice A0_4 n4 c0_4, .slice A0_5 n5 c0_5] 57)).alloc (.cells #[.int .i64 a1] 3)).alloc (.cells #[.int .i64 0, .int .i64 0, .int .i64 0, .int .i64 0] 39)).alloc (.cells #[.int .i64 0, .int .i64 0, .int .i64 0, .int .i64 0] 39) = w1 at HI ⊢
    have i0 := (blk_cell HI.out.2.1 0).trans rfl
    have d1 := (blk_cell HI.out.1 1).trans rfl
    have d2 := (blk_cell HI.out.1 2).trans rfl
    have d3 := (blk_cell HI.out.1 3).trans rfl
    have d4 := (blk_cell HI.out.1 4).trans rfl
    have D1 := Aside0.mk (G1.out (w.heap.size + 1) w1.drew i0 (Kd.C_below HR1.out (below_drew1 HI.out.2.2.2.2)))
    have D2 := Aside0.mk (G2.out (w.heap.size + 1) w1.drew i0 (Kd.C_below HR2.out (below_drew1 HI.out.2.2.2.2)))
    clear i0
    refine wp_region_still_tail 8 (by kernel_rfl) (by kernel_rfl) ?_
    simp only [List.take_succ_cons, List.take_zero, List.drop_succ_cons, List.drop_zero]
    repeat still_step
    still_call D1.out
    repeat still_step
    still_call D2.out
    repeat still_step
    try refine wpStill_nil ?_
    change wpList _ _ _ _ _ w1.drew
    have HI2 := Aside0.mk HI.out.drew
    generalize w1.drew = w2 at HI2 ⊢
    clear HI D1 D2 d1 d2 d3 d4
    go_upto_region 3 with fail
    have i0 := (blk_cell HI2.out.2.1 0).trans rfl
    have d1 := (blk_cell HI2.out.1 1).trans rfl
    have d2 := (blk_cell HI2.out.1 2).trans rfl
    have d3 := (blk_cell HI2.out.1 3).trans rfl
    have d4 := (blk_cell HI2.out.1 4).trans rfl
    have D3 := Aside0.mk (G3.out (w.heap.size + 1) w2.drew i0 (Kd.C_below HR3.out (below_drew1 HI2.out.2.2.2.2)))
    have D4 := Aside0.mk (G4.out (w.heap.size + 1) w2.drew i0 (Kd.C_below HR4.out (below_drew1 HI2.out.2.2.2.2)))
    clear i0
    refine wp_region_still_tail 8 (by kernel_rfl) (by kernel_rfl) ?_
    simp only [List.take_succ_cons, List.take_zero, List.drop_succ_cons, List.drop_zero]
    repeat still_step
    still_call D3.out
    repeat still_step
    still_call D4.out
    repeat still_step
    try refine wpStill_nil ?_
    change wpList _ _ _ _ _ w2.drew
    have HI3 := Aside0.mk HI2.out.drew
    generalize w2.drew = w3 at HI3 ⊢
    clear HI2 D3 D4 d1 d2 d3 d4
    have c0 := (blk_cell HI3.out.2.2.1 0).trans rfl
    have c1 := (blk_cell HI3.out.2.2.1 1).trans rfl
    have c2 := (blk_cell HI3.out.2.2.1 2).trans rfl
    have c3 := (blk_cell HI3.out.2.2.1 3).trans rfl
    have k0 := (blk_cell HI3.out.2.2.2.1 0).trans rfl
    have k1 := (blk_cell HI3.out.2.2.2.1 1).trans rfl
    have k2 := (blk_cell HI3.out.2.2.2.1 2).trans rfl
    have k3 := (blk_cell HI3.out.2.2.2.1 3).trans rfl
    have f0 := blk_frozen HI3.out.2.2.1 0
    have f1 := blk_frozen HI3.out.2.2.1 1
    have f2 := blk_frozen HI3.out.2.2.1 2
    have f3 := blk_frozen HI3.out.2.2.1 3
    have g0 := blk_frozen HI3.out.2.2.2.1 0
    have g1 := blk_frozen HI3.out.2.2.2.1 1
    have g2 := blk_frozen HI3.out.2.2.2.1 2
    have g3 := blk_frozen HI3.out.2.2.2.1 3
    go_upto_region 7 with fail
    obtain ⟨w4, hw4⟩ : ∃ w4, ((((((((w3.setCell ⟨w.heap.size + 1 + 1, 0, none⟩ (.int .i64 rain)).setCell ⟨w.heap.size + 1 + 1, 1, none⟩ (.int .i64 rain)).setCell ⟨w.heap.size + 1 + 1, 2, none⟩ (.int .i64 frost)).setCell ⟨w.heap.size + 1 + 1, 3, none⟩ (.int .i64 frost)).setCell ⟨w.heap.size + 1 + 1 + 1, 0, none⟩ (.int .i64 (mx 0 (wrap64 (rain - less))))).setCell ⟨w.heap.size + 1 + 1 + 1, 1, none⟩ (.int .i64 (mn 200 (wrap64 (rain + more))))).setCell ⟨w.heap.size + 1 + 1 + 1, 2, none⟩ (.int .i64 (mx 0 (wrap64 (frost - Int.tmod more 4))))).setCell ⟨w.heap.size + 1 + 1 + 1, 3, none⟩ (.int .i64 (mn 40 (wrap64 (frost + Int.tmod less 4))))) = w4 := ⟨_, rfl⟩
    have B4 : w4.heap[w.heap.size + 2]? = some (.cells #[.int .i64 rain, .int .i64 rain, .int .i64 frost, .int .i64 frost] 39 (0, 0)) := hw4 ▸ blk_far (blk_far (blk_far (blk_far (blk_put (blk_put (blk_put (blk_put (HI3.out.2.2.1) 0 _ rfl) 1 _ rfl) 2 _ rfl) 3 _ rfl) (by simp) _) (by simp) _) (by simp) _) (by simp) _
    have B5 : w4.heap[w.heap.size + 3]? = some (.cells #[.int .i64 (mx 0 (wrap64 (rain - less))), .int .i64 (mn 200 (wrap64 (rain + more))), .int .i64 (mx 0 (wrap64 (frost - Int.tmod more 4))), .int .i64 (mn 40 (wrap64 (frost + Int.tmod less 4)))] 39 (0, 0)) := hw4 ▸ blk_put (blk_put (blk_put (blk_put (blk_far (blk_far (blk_far (blk_far (HI3.out.2.2.2.1) (by simp) _) (by simp) _) (by simp) _) (by simp) _) 0 _ rfl) 1 _ rfl) 2 _ rfl) 3 _ rfl
    have HB := Aside0.mk (show Below w.heap.size w w4 from hw4 ▸ below_set (below_set (below_set (below_set (below_set (below_set (below_set (below_set (HI3.out.2.2.2.2) (by omega)) (by omega)) (by omega)) (by omega)) (by omega)) (by omega)) (by omega)) (by omega))
    rw [hw4]
    clear hw4 c0 c1 c2 c3 k0 k1 k2 k3 f0 f1 f2 f3 g0 g1 g2 g3 HI3
    refine start_ (n := 4) (S := fun w' => w'.heap[w.heap.size + 2]? = some (.cells #[.int .i64 rain, .int .i64 rain, .int .i64 frost, .int .i64 frost] 39 (0, 0)) ∧ w'.heap[w.heap.size + 3]? = some (.cells #[.int .i64 (mx 0 (wrap64 (rain - less))), .int .i64 (mn 200 (wrap64 (rain + more))), .int .i64 (mx 0 (wrap64 (frost - Int.tmod more 4))), .int .i64 (mn 40 (wrap64 (frost + Int.tmod less 4)))] 39 (0, 0))) (ds := []) #[false, false, false, false] (by kernel_rfl) rfl rfl ⟨blk_drew B4, blk_drew B5⟩ (fun hHeld => ?_)
    refine with_tabW sky.tab7 sky.bits7 (fun HT_ HW_ => ?_)
    clear B4 B5
    have HB := Aside0.mk (below_drew1 HB.out)
    generalize w4.drew = w5 at HB hHeld ⊢
    refine take_ (i := 0) (N := some 57) (v := ?_) (a' := ?_) #[true, false, false, false] rfl rfl (take_ofW HT_.out HW_.out (by kernel_rfl)) (fun _ _ _ h => h) (Or.inl ⟨by rfl, ?_⟩) hHeld ?_ ?_
    rotate_left
    · rintro w' hs
      have c0 := (blk_cell hs.1 0).trans rfl
      have c1 := (blk_cell hs.1 1).trans rfl
      have c2 := (blk_cell hs.1 2).trans rfl
      have c3 := (blk_cell hs.1 3).trans rfl
      go_simp
      with_reducible rfl
    rotate_left
    · simp only [Act.put, List.setIfInBounds_toArray, List.set_cons_zero, List.set_cons_succ, i64_w, i32_w]
      rfl
    refine take_ (i := 1) (N := some 58) (v := ?_) (a' := ?_) #[true, true, false, false] rfl rfl (take_ofW HT_.out HW_.out (by kernel_rfl)) (fun _ _ _ h => h) (Or.inl ⟨by rfl, ?_⟩) hHeld ?_ ?_
    rotate_left
    · rintro w' hs
      have k0 := (blk_cell hs.2 0).trans rfl
      have k1 := (blk_cell hs.2 1).trans rfl
      have k2 := (blk_cell hs.2 2).trans rfl
      have k3 := (blk_cell hs.2 3).trans rfl
      go_simp
      with_reducible rfl
    rotate_left
    · simp only [Act.put, List.setIfInBounds_toArray, List.set_cons_zero, List.set_cons_succ, i64_w, i32_w]
      rfl
    refine one_ (i := 2) (N := none) #[true, true, true, false] rfl rfl (one_of HT_.out (by kernel_rfl)) (by decide) (fun K hK => ?_)
    have c0 := (blk_cell hHeld.1 0).trans rfl
    have c1 := (blk_cell hHeld.1 1).trans rfl
    have c2 := (blk_cell hHeld.1 2).trans rfl
    have c3 := (blk_cell hHeld.1 3).trans rfl
    have f0 := blk_frozen hHeld.1 0
    have f1 := blk_frozen hHeld.1 1
    have f2 := blk_frozen hHeld.1 2
    have f3 := blk_frozen hHeld.1 3
    refine skip_ (w1 := ?_) (by rfl) rfl ?_ ?_
    rotate_left
    · go_simp
      rfl
    clear c0 c1 c2 c3 f0 f1 f2 f3
    refine hK.out _ _ ⟨blk_put (blk_put (blk_put (blk_put (hHeld.1) 0 _ rfl) 1 _ rfl) 2 _ rfl) 3 _ rfl, blk_far (blk_far (blk_far (blk_far (hHeld.2) (by simp) _) (by simp) _) (by simp) _) (by simp) _⟩ (fun hHeld => ?_)
    clear hK K
    refine one_ (i := 3) (N := none) #[true, true, true, true] rfl rfl (one_of HT_.out (by kernel_rfl)) (by decide) (fun K hK => ?_)
    have k0 := (blk_cell hHeld.2 0).trans rfl
    have k1 := (blk_cell hHeld.2 1).trans rfl
    have k2 := (blk_cell hHeld.2 2).trans rfl
    have k3 := (blk_cell hHeld.2 3).trans rfl
    have g0 := blk_frozen hHeld.2 0
    have g1 := blk_frozen hHeld.2 1
    have g2 := blk_frozen hHeld.2 2
    have g3 := blk_frozen hHeld.2 3
    refine skip_ (w1 := ?_) (by rfl) rfl ?_ ?_
    rotate_left
    · go_simp
      rfl
    clear k0 k1 k2 k3 g0 g1 g2 g3
    refine hK.out _ _ ⟨blk_far (blk_far (blk_far (blk_far (hHeld.1) (by simp) _) (by simp) _) (by simp) _) (by simp) _, blk_put (blk_put (blk_put (blk_put (hHeld.2) 0 _ rfl) 1 _ rfl) 2 _ rfl) 3 _ rfl⟩ (fun hHeld => ?_)
    clear hK K
    refine done_ (done_of HT_.out (by kernel_rfl)) ?_
    go_wp2
    refine bodyPost_ret (results_cc rfl _ _ (w.heap.size + 2) (w.heap.size + 3) 39 39 _ _ (0, 0) (0, 0) _ _ rfl hHeld.1 hu rfl (by kernel_rfl) rfl hHeld.2 hu rfl (by kernel_rfl)) rfl ?_
    exact ⟨rfl, below_set (below_set (below_set (below_set (below_set (below_set (below_set (below_set (HB.out) (by omega)) (by omega)) (by omega)) (by omega)) (by omega)) (by omega)) (by omega)) (by omega)⟩
  · rw [if_neg h0] at h
    exact absurd h (by simp)
end Go.Proofs.Ythfhjcbgccnijaa.Q
