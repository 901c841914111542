/- By hand: what the statements' sane computes (layer 4): true. -/
import Derived.Test.YtmeoapalnkibfaaDWx
namespace Go.Proofs.Ytmeoapalnkibfaa.Q
open Go.RowKit Go.Proofs.YtmeoapalnkibfaaW.PrintWords Go.Proofs.YtmeoapalnkibfaaW.PrintLast Go.Proofs.YtmeoapalnkibfaaW.PrintMore
attribute [local go_sem] max2_int min2_int max_two min_two
set_option linter.unusedVariables false
set_option linter.unusedSimpArgs false

def sN2 := newV 2
def sW := writeV sN2.1 sN2.2.1 sN2.2.2.1 sN2.2.2.2.1 1 [7]
def sR7 := readV sW.1 sW.2.1 sW.2.2.1 sW.2.2.2.1 1
def sP := stopV sW.1 sW.2.1 sW.2.2.1 sW.2.2.2.1 1
def dbl (c : Int) : List Int := ((List.replicate 128 (0 : Int)).set 0 c).set 64 c
def sD := writeV sP.1 sP.2.1 sP.2.2.1 sP.2.2.2.1 0 (dbl 8)
def sY := syncV sD.1 sD.2.1 sD.2.2.1 sD.2.2.2.1
def sR18 := readV sY.1 [] (-1) false 1
def sR20 := readV sY.1 [] (-1) false 0
def sR22 := readV sW.1 [] (-1) false 1
theorem sane_vals : ∃ l3 m3 a3 s3 l5 m5 a5 s5 l13 m13 a13 s13 l14 m14 a14 s14 l16 m16 a16 b7 b18 b20 b22, newV 2 = (l3, m3, a3, s3, 0) ∧ writeV l3 m3 a3 s3 1 [7] = (l5, m5, a5, s5, 0) ∧ readV l5 m5 a5 s5 1 = (b7, 0) ∧ readV l3 m3 a3 s3 2 = ([], 40) ∧ writeV l3 m3 a3 s3 0 (List.replicate 129 0) = ([], [], 0, false, 1) ∧ stopV l5 m5 a5 s5 1 = (l13, m13, a13, s13, 0) ∧ writeV l13 m13 a13 s13 0 (dbl 8) = (l14, m14, a14, s14, 0) ∧ syncV l14 m14 a14 s14 = (l16, m16, a16, true, 40) ∧ readV l16 [] (-1) false 1 = (b18, 0) ∧ readV l16 [] (-1) false 0 = (b20, 0) ∧ readV l5 [] (-1) false 1 = (b22, 0) ∧ (b7.length = 128 ∧ rd b7 0 = 7) ∧ (b18.length = 128 ∧ rd b18 0 = 7) ∧ (b20.length = 128 ∧ rd b20 0 = 8 ∧ rd b20 64 = 0) ∧ (b22.length = 128 ∧ rd b22 0 = 0) :=
  ⟨sN2.1, sN2.2.1, sN2.2.2.1, sN2.2.2.2.1, sW.1, sW.2.1, sW.2.2.1, sW.2.2.2.1, sP.1, sP.2.1, sP.2.2.1, sP.2.2.2.1, sD.1, sD.2.1, sD.2.2.1, sD.2.2.2.1, sY.1, sY.2.1, sY.2.2.1, sR7.1, sR18.1, sR20.1, sR22.1, by kernel_rfl, by kernel_rfl, by kernel_rfl, by kernel_rfl, by kernel_rfl, by kernel_rfl, by kernel_rfl, by kernel_rfl, by kernel_rfl, by kernel_rfl, by kernel_rfl, ⟨by kernel_rfl, by kernel_rfl⟩, ⟨by kernel_rfl, by kernel_rfl⟩, ⟨by kernel_rfl, by kernel_rfl, by kernel_rfl⟩, ⟨by kernel_rfl, by kernel_rfl⟩⟩
def fastilaw04_sane.f : Option (Bool) := some true

theorem dbl_length (c : Int) : (dbl c).length = 128 := by simp [dbl]
def z129 : Array Value := madeCells #[.int .u8 0] 129
theorem make129 (W : World) : (Instr.makeSlice 35 (.int .i64 129) (.int .i64 129)).run Try.prog W = .ok (.slice (some ⟨W.heap.size, 0, none⟩) 129 129) (W.alloc (.cells z129 5)) := by
  obtain ⟨i0, hi, hzz⟩ := Option.map_eq_some_iff.1 infB
  simp only [Prod.mk.injEq] at hzz
  have := run_make (P := Try.prog) W 35 5 i0 _ Try.underlying35 hi hzz.1 .i64 .i64 129 129 (by decide) (by decide) (by rw [hzz.2.2]; decide) (by decide)
  rw [hzz.2.1] at this
  exact this
set_option maxRecDepth 100000 in
theorem C_z129 {W : World} {g : Nat} (h : W.heap[g]? = some (.cells z129 5 (0, 0))) : Kd.C (Kd.int .u8) W (some ⟨g, 0, none⟩) (List.replicate 129 (0 : Int)).length (List.replicate 129 (0 : Int)) := C_block _ h (by kernel_rfl) (by rw [List.length_replicate]; decide)
theorem double_ (c : Int) (w : World) :
    Calls Try.prog 27 #[.int .u8 c] w fun e w' => e = .returned (.slice (some ⟨w.heap.size, 0, none⟩) 128 128) ∧ Kd.V (Kd.int .u8) 5 w' w'.heap.size (fun k => k = w.heap.size) (.slice (some ⟨w.heap.size, 0, none⟩) 128 128) (dbl c) ∧ Below w.heap.size w w' := by
  have hmk := make128 w
  have hb := Aside0.mk (heap_at_new w (.cells z128 5 (0, 0)) _ rfl)
  have HB := Aside0.mk (below_alloc (Below.refl w.heap.size w) (.cells z128 5 (0, 0)))
  have c0_ := (blk_cell hb.out 0).trans (z128_get 0 (by decide))
  have c1_ := (blk_cell hb.out 64).trans (z128_get 64 (by decide))
  have f0_ := blk_frozen hb.out 0
  have f1_ := blk_frozen hb.out 64
  have z0_ : z128[0]? = some (.int .u8 0) := z128_get 0 (by decide)
  have z1_ : (z128.setIfInBounds 0 (.int .u8 c))[64]? = some (.int .u8 0) := by rw [Array.getElem?_setIfInBounds_ne (by decide)]; exact z128_get 64 (by decide)
  go_enter Try.func27, Try.ntmps27
  go_wp2
  go_ret
  have h2 := heap_at_new w (.cells ((z128.setIfInBounds 0 (.int .u8 c)).setIfInBounds 64 (.int .u8 c)) 5 (0, 0)) _ rfl
  refine ⟨rfl, ?_, below_alloc (Below.refl w.heap.size w) _⟩
  have hlen : (dbl c).length = 128 := by simp [dbl]
  have hF := blk_F (dbl c) h2 (by rw [hlen]; decide) (fun j p hj => by
    have hlt : j < 128 := by have := (List.getElem?_eq_some_iff.1 hj).1; rwa [hlen] at this
    unfold dbl at hj
    rw [List.getElem?_set, List.getElem?_set] at hj
    rw [Array.getElem?_setIfInBounds, Array.getElem?_setIfInBounds]
    by_cases h64 : 64 = j
    · subst h64
      rw [if_pos rfl, if_pos (by simp)] at hj
      rw [if_pos rfl, if_pos (by simp [z128_size])]
      cases hj
      rfl
    · rw [if_neg h64] at hj
      rw [if_neg h64]
      by_cases h0 : 0 = j
      · subst h0
        rw [if_pos rfl, if_pos (by simp)] at hj
        rw [if_pos rfl, if_pos (by simp [z128_size])]
        cases hj
        rfl
      · rw [if_neg h0, List.getElem?_replicate, if_pos hlt] at hj
        rw [if_neg h0, z128_get j hlt]
        cases hj
        rfl)
  have := Kd.V_mk (e := 5) (base := 0) (c := 128) (by rw [hlen]; exact Nat.le_refl _) hF
  rwa [hlen] at this

theorem byte_at {W : World} {k : Nat} {P : Nat → Prop} {A : Option Addr} {n c : Nat} {l : List Int} (h : Kd.V (Kd.int .u8) 5 W k P (.slice A n c) l) (hn : 0 < n) : ∃ ad, A = some ad ∧ ∀ i : Nat, i < n → W.cell? (ad.add i) = some (.int .u8 (rd l (i : Int))) := by
  obtain ⟨hn', _, hC⟩ := Kd.V_reads' h
  subst hn'
  obtain ⟨ad, rfl, _⟩ := hC.2.2 hn
  exact ⟨ad, rfl, fun i hi => Kd.foot_int hC (i : Int) (by omega) (by omega)⟩
def sane.T6 : Bool × List (List Nat × List Nat) := (true, [([], []), ([], []), ([0, 1], [0, 1]), ([2], [2]), ([3], [3]), ([3], [3]), ([], []), ([6, 4, 2, 0, 1, 2, 3, 4, 6], [4, 6]), ([5, 7, 0, 1, 2, 3, 4, 5, 6, 7], [5])])
def sane.B6 : List Nat := [0, 0, 3, 7, 15, 15, 0, 95, 255]
theorem sane.tab6 : rtab .any (opsOf Try.f10 6) = sane.T6 := by kernel_rfl
theorem sane.bits6 : waitsOk sane.T6.2 sane.B6 = true := by kernel_rfl
def sane.T8 : Bool × List (List Nat × List Nat) := (true, [([], []), ([], []), ([0, 1, 1], [0, 1]), ([2], [2]), ([3], [3]), ([3], [3]), ([4, 2, 0, 1, 2, 3, 4], [4]), ([5, 6, 0, 1, 2, 3, 4, 5, 6], [5])])
def sane.B8 : List Nat := [0, 0, 3, 7, 15, 15, 31, 127]
theorem sane.tab8 : rtab .any (opsOf Try.f10 8) = sane.T8 := by kernel_rfl
theorem sane.bits8 : waitsOk sane.T8.2 sane.B8 = true := by kernel_rfl

set_option maxHeartbeats 4000000 in
set_option maxRecDepth 100000 in
theorem fastilaw04_sane.calls (r : Bool) (w : World) (h : fastilaw04_sane.f = some r) :
    Calls Try.prog 10 #[] w fun e w' => e = .returned (.bool r) ∧ Below w.heap.size w w' := by
  obtain rfl : true = r := Option.some.inj h
  clear h
  have hu := Try.underlying25
  obtain ⟨l3, m3, a3, s3, l5, m5, a5, s5, l13, m13, a13, s13, l14, m14, a14, s14, l16, m16, a16, b7, b18, b20, b22, h3, h5, h7, h9, h11, h13, h14, h16, h18, h20, h22, y7, y18, y20, y22⟩ := sane_vals
  have X3 := Aside0.mk h3
  have X5 := Aside0.mk h5
  have X7 := Aside0.mk h7
  have X9 := Aside0.mk h9
  have X11 := Aside0.mk h11
  have X13 := Aside0.mk h13
  have X14 := Aside0.mk h14
  have X16 := Aside0.mk h16
  have X18 := Aside0.mk h18
  have X20 := Aside0.mk h20
  have X22 := Aside0.mk h22
  have Y7 := Aside0.mk y7
  have Y18 := Aside0.mk y18
  have Y20 := Aside0.mk y20
  have Y22 := Aside0.mk y22
  clear h3 h5 h7 h9 h11 h13 h14 h16 h18 h20 h22 y7 y18 y20 y22
  have HB := Aside0.mk (Below.refl w.heap.size w)
  go_enter Try.func10, Try.ntmps10
  go_upto_region 2 with (go_at_call 12; refine (dNew_ 0 w [] [] 0 false 1 rfl).mono ?_; rintro e w1 ⟨A1_0, c1_0, A1_1, c1_1, rfl, hV0, hV1, hb⟩; replace HB := Aside0.mk (below_step (by repeat (first | (with_reducible first | exact HB.out | apply below_alloc) | exact HB.out)) hb); have hz := hb.size; (try simp only [World.size_alloc] at hz); have Z1 := Aside0.mk (show w.heap.size ≤ w1.heap.size by omega); clear hz hb; clear hV0 hV1)
  go_upto_region 3 with (go_at_call 12; refine (dNew_ 2 _ l3 m3 a3 s3 0 X3.out).mono ?_; rintro e w2 ⟨A3_0, c3_0, A3_1, c3_1, rfl, hV0, hV1, hb⟩; replace HB := Aside0.mk (below_step (by repeat (first | (with_reducible first | exact HB.out | apply below_alloc) | exact HB.out)) hb); have hz := hb.size; (try simp only [World.size_alloc] at hz); have Z2 := Aside0.mk (show w1.heap.size ≤ w2.heap.size by omega); clear hz hb; have V30 := Aside0.mk (Kd.V_mono (Kd.V_bound hV0) (fun k hk => hk.2)); have V31 := Aside0.mk (Kd.V_mono (Kd.V_bound hV1) (fun k hk => hk.2)); clear hV0 hV1; have B3 := Aside0.mk (heap_at_new w2 (.cells (dkV A3_0 l3.length c3_0 A3_1 m3.length c3_1 a3 s3) 25 (0, 0)) _ rfl))
  go_upto_region 4 with (go_at_call 19; refine (dWrite_ _ A3_0 c3_0 l3 A3_1 c3_1 m3 a3 s3 1 (some ⟨_, 0, none⟩) 1 [7] _ (by (with_reducible repeat (first | apply Kd.V_alloc)); exact V30.out) (by (with_reducible repeat (first | apply Kd.V_alloc)); exact V31.out) (C_block [7] (heap_at_new (w2.alloc (.cells (dkV A3_0 l3.length c3_0 A3_1 m3.length c3_1 a3 s3) 25 (0, 0))) (.cells #[.int .u8 7] 5 (0, 0)) _ (by simp)) rfl (by decide)) (by decide) l5 m5 a5 s5 0 X5.out).mono ?_; rintro e w3 ⟨A5_0, c5_0, A5_1, c5_1, rfl, hV0, hV1, hb⟩; replace B3 := Aside0.mk (zb B3.out hb); replace V30 := Aside0.mk (Kd.V_below (by (with_reducible repeat (first | apply Kd.V_alloc)); exact V30.out) hb); replace V31 := Aside0.mk (Kd.V_below (by (with_reducible repeat (first | apply Kd.V_alloc)); exact V31.out) hb); replace HB := Aside0.mk (below_step (by repeat (first | (with_reducible first | exact HB.out | apply below_alloc) | exact HB.out)) hb); have hz := hb.size; (try simp only [World.size_alloc] at hz); have Z3 := Aside0.mk (show w2.heap.size ≤ w3.heap.size by omega); clear hz hb; have V50 := Aside0.mk (Kd.V_mono (Kd.V_bound hV0) (fun k hk => hk.2)); have V51 := Aside0.mk (Kd.V_mono (Kd.V_bound hV1) (fun k hk => hk.2)); clear hV0 hV1; have B5 := Aside0.mk (heap_at_new w3 (.cells (dkV A5_0 l5.length c5_0 A5_1 m5.length c5_1 a5 s5) 25 (0, 0)) _ rfl))
  go_upto_region 5 with (go_at_call 21; refine (dRead_ _ A5_0 c5_0 l5 A5_1 c5_1 m5 a5 s5 1 _ (by (with_reducible repeat (first | apply Kd.V_alloc)); exact V50.out) (by (with_reducible repeat (first | apply Kd.V_alloc)); exact V51.out) b7 0 X7.out).mono ?_; rintro e w4 ⟨A7, c7, he, hV7, hb⟩; replace B3 := Aside0.mk (zb B3.out hb); replace B5 := Aside0.mk (zb B5.out hb); replace V30 := Aside0.mk (Kd.V_below (by (with_reducible repeat (first | apply Kd.V_alloc)); exact V30.out) hb); replace V31 := Aside0.mk (Kd.V_below (by (with_reducible repeat (first | apply Kd.V_alloc)); exact V31.out) hb); replace V50 := Aside0.mk (Kd.V_below (by (with_reducible repeat (first | apply Kd.V_alloc)); exact V50.out) hb); replace V51 := Aside0.mk (Kd.V_below (by (with_reducible repeat (first | apply Kd.V_alloc)); exact V51.out) hb); replace HB := Aside0.mk (below_step (by repeat (first | (with_reducible first | exact HB.out | apply below_alloc) | exact HB.out)) hb); have hz := hb.size; (try simp only [World.size_alloc] at hz); have Z4 := Aside0.mk (show w3.heap.size ≤ w4.heap.size by omega); clear hz hb; rw [Y7.out.1] at he hV7; subst he; have V7 := Aside0.mk (Kd.V_mono (Kd.V_bound hV7) (fun k hk => hk.2)); clear hV7)
  have c0_ := (blk_cell B3.out 0).trans rfl
  have c1_ := (blk_cell B3.out 1).trans rfl
  have c2_ := (blk_cell B3.out 2).trans rfl
  have c3_ := (blk_cell B3.out 3).trans rfl
  go_upto_region 6 with (go_at_call 21; refine (dRead_ _ A3_0 c3_0 l3 A3_1 c3_1 m3 a3 s3 2 _ (by (with_reducible repeat (first | apply Kd.V_alloc)); exact V30.out) (by (with_reducible repeat (first | apply Kd.V_alloc)); exact V31.out) [] 40 X9.out).mono ?_; rintro e w5 ⟨A9, c9, rfl, hV9, hb⟩; replace B3 := Aside0.mk (zb B3.out hb); replace B5 := Aside0.mk (zb B5.out hb); replace V30 := Aside0.mk (Kd.V_below (by (with_reducible repeat (first | apply Kd.V_alloc)); exact V30.out) hb); replace V31 := Aside0.mk (Kd.V_below (by (with_reducible repeat (first | apply Kd.V_alloc)); exact V31.out) hb); replace V50 := Aside0.mk (Kd.V_below (by (with_reducible repeat (first | apply Kd.V_alloc)); exact V50.out) hb); replace V51 := Aside0.mk (Kd.V_below (by (with_reducible repeat (first | apply Kd.V_alloc)); exact V51.out) hb); replace V7 := Aside0.mk (Kd.V_below (by (with_reducible repeat (first | apply Kd.V_alloc)); exact V7.out) hb); replace HB := Aside0.mk (below_step (by repeat (first | (with_reducible first | exact HB.out | apply below_alloc) | exact HB.out)) hb); have hz := hb.size; (try simp only [World.size_alloc] at hz); have Z5 := Aside0.mk (show w4.heap.size ≤ w5.heap.size by omega); clear hz hb; clear hV9)
  clear c0_ c1_ c2_ c3_
  have hmk := make129
  refine start_ (n := 9) (S := (fun w' => Below w5.heap.size w5 w')) (ds := [7]) #[false, false, false, false, false, false, false, false, false] (by kernel_rfl) rfl rfl (below_drew1 (Below.refl _ _)) (fun hHeld => ?_)
  refine with_tabW sane.tab6 sane.bits6 (fun HT_ HW_ => ?_)
  generalize World.drew _ = Wd at hHeld ⊢
  have hge := hHeld.size
  refine take_ (i := 0) (N := some 49) (v := ?_) (a' := ?_) #[true, false, false, false, false, false, false, false, false] rfl rfl (take_ofW HT_.out HW_.out (by kernel_rfl)) (fun _ _ _ h => h) (Or.inl ⟨by rfl, ?_⟩) hHeld ?_ ?_
  rotate_left
  · rintro w' hs
    have t0_ := (blk_cell (heap_below hs B3.out) 0).trans rfl
    have t1_ := (blk_cell (heap_below hs B3.out) 1).trans rfl
    have t2_ := (blk_cell (heap_below hs B3.out) 2).trans rfl
    have t3_ := (blk_cell (heap_below hs B3.out) 3).trans rfl
    go_simp
    with_reducible rfl
  rotate_left
  · simp only [Act.put, List.setIfInBounds_toArray, List.set_cons_zero, List.set_cons_succ, i64_w, i32_w]
    rfl
  refine join_ (σ := Value × Value × Nat) 2 #[true, true, true, true, true, true, true, false, false] (fun s_ => [(50, s_.1), (51, .tuple #[s_.2.1, .int .i64 1]), (48, .tuple #[s_.2.1, .int .i64 1]), (52, s_.2.1), (53, .int .i64 1), (11, .pointer (some ⟨s_.2.2, 0, none⟩))]) (fun s_ W => Below w5.heap.size w5 W ∧ w5.heap.size ≤ s_.2.2 ∧ W.heap[s_.2.2]? = some (.cells dk0 25 (0, 0)) ∧ ∃ A0 c0 A1 c1, s_.2.1 = .agg (dkV A0 0 c0 A1 0 c1 0 false)) ?_ ?_
  rotate_left
  · intro HJ0
    have HJ := Aside0.mk HJ0
    clear HJ0
    refine two_ (i := 1) (j := 6) (Ni := some 50) (Nj := some 11) #[true, true, false, false, false, false, false, false, false] #[true, false, false, false, false, false, true, false, false] rfl rfl rfl rfl (two_of HT_.out (by kernel_rfl)) (by decide) (by decide) (fun K hK => ?_) (fun K hK => ?_)
    · skip
      refine value_ (w1 := ?_) (v := ?_) (by rfl) rfl ?_ ?_
      rotate_left
      rotate_left
      · go_simp
        refine And.intro ?_ ?_ <;> rfl
      have hG := Aside0.mk (heap_at_new Wd (.cells z129 5 (0, 0)) _ rfl)
      refine hK.out _ _ (hHeld.alloc (by have := hHeld.size; omega) _) (fun hHeld => ?_)
      clear hK K
      refine norm_ (a' := ?_) ?_ ?_
      rotate_left
      · show Act.put _ (some 50) _ = _
        simp only [Act.put, List.setIfInBounds_toArray, List.set_cons_zero, List.set_cons_succ, i64_w, i32_w]
        rfl
      refine two_ (i := 2) (j := 6) (Ni := some 51) (Nj := some 11) #[true, true, true, false, false, false, false, false, false] #[true, true, false, false, false, false, true, false, false] rfl rfl rfl rfl (two_of HT_.out (by kernel_rfl)) (by decide) (by decide) (fun K hK => ?_) (fun K hK => ?_)
      · skip
        refine goes_ Try.func19 (by kernel_rfl) rfl #[.agg (dkV A3_0 l3.length c3_0 A3_1 m3.length c3_1 a3 s3), .int .i64 0, .slice (some ⟨_, 0, none⟩) 129 129] (by rfl) rfl rfl (by (try simp only [List.map_toArray, List.map_cons, List.map_nil]); first | done | rfl) ?_
        have hc := dWrite_ _ A3_0 c3_0 l3 A3_1 c3_1 m3 a3 s3 0 (some ⟨_, 0, none⟩) 129 (List.replicate 129 0) (Wd.alloc (.cells z129 5 (0, 0))) (Kd.V_below V30.out hHeld) (Kd.V_below V31.out hHeld) (C_z129 hG.out) (by decide) [] [] 0 false 1 X11.out
        rw [List.length_replicate] at hc
        with_reducible refine hc.mono ?_
        clear hc
        rintro e w' ⟨A0, c0, A1, c1, rfl, hV0, hV1, hb⟩
        clear hV0 hV1
        refine ⟨_, rfl, ?_⟩
        refine hK.out _ _ (below_step hHeld hb) (fun hHeld => ?_)
        clear hK K
        refine norm_ (a' := ?_) ?_ ?_
        rotate_left
        · show Act.put _ (some 51) _ = _
          simp only [Act.put, List.setIfInBounds_toArray, List.set_cons_zero, List.set_cons_succ, i64_w, i32_w]
          rfl
        refine pure_ (i := 3) (N := some 48) (v := ?_) (a' := ?_) #[true, true, true, true, false, false, false, false, false] rfl rfl (any_of HT_.out (by kernel_rfl)) (fun _ _ _ h => h) (Or.inl ⟨by rfl, ?_⟩) ?_ ?_
        rotate_left
        · intro w'
          go_simp
          with_reducible rfl
        rotate_left
        · simp only [Act.put, List.setIfInBounds_toArray, List.set_cons_zero, List.set_cons_succ, i64_w, i32_w]
          rfl
        refine pure_ (i := 4) (N := some 52) (v := ?_) (a' := ?_) #[true, true, true, true, true, false, false, false, false] rfl rfl (any_of HT_.out (by kernel_rfl)) (fun _ _ _ h => h) (Or.inl ⟨by rfl, ?_⟩) ?_ ?_
        rotate_left
        · intro w'
          go_simp
          with_reducible rfl
        rotate_left
        · simp only [Act.put, List.setIfInBounds_toArray, List.set_cons_zero, List.set_cons_succ, i64_w, i32_w]
          rfl
        refine pure_ (i := 5) (N := some 53) (v := ?_) (a' := ?_) #[true, true, true, true, true, true, false, false, false] rfl rfl (any_of HT_.out (by kernel_rfl)) (fun _ _ _ h => h) (Or.inl ⟨by rfl, ?_⟩) ?_ ?_
        rotate_left
        · intro w'
          go_simp
          with_reducible rfl
        rotate_left
        · simp only [Act.put, List.setIfInBounds_toArray, List.set_cons_zero, List.set_cons_succ, i64_w, i32_w]
          rfl
        refine one_ (i := 6) (N := some 11) #[true, true, true, true, true, true, true, false, false] rfl rfl (one_of HT_.out (by kernel_rfl)) (by decide) (fun K hK => ?_)
        have hge2 := hHeld.size
        refine value_ (w1 := ?_) (v := ?_) (by rfl) rfl ?_ ?_
        rotate_left
        rotate_left
        · go_simp
          refine And.intro ?_ ?_ <;> rfl
        have hX := Aside0.mk (show (w'.alloc (.cells dk0 25 (0, 0))).heap[w'.heap.size]? = some (.cells dk0 25 (0, 0)) from heap_at_new w' (.cells dk0 25 (0, 0)) _ (by simp))
        refine hK.out _ _ (hHeld.alloc (by have := hHeld.size; omega) _) (fun hHeld => ?_)
        clear hK K
        refine norm_ (a' := ?_) ?_ ?_
        rotate_left
        · show Act.put _ (some 11) _ = _
          simp only [Act.put, List.setIfInBounds_toArray, List.set_cons_zero, List.set_cons_succ, i64_w, i32_w]
          rfl
        exact norm_ (by first | (simp only [putAll, Act.put, List.setIfInBounds_toArray, List.set_cons_zero, List.set_cons_succ]; done) | (simp only [putAll, Act.put, List.setIfInBounds_toArray, List.set_cons_zero, List.set_cons_succ]; rfl)) (HJ.out (_, _, w'.heap.size) _ ⟨hHeld, hge2, hX.out, _, _, _, _, rfl⟩)
      · skip
        refine value_ (w1 := ?_) (v := ?_) (by rfl) rfl ?_ ?_
        rotate_left
        rotate_left
        · go_simp
          refine And.intro ?_ ?_ <;> rfl
        have hX := Aside0.mk (show ((Wd.alloc (.cells z129 5 (0, 0))).alloc (.cells dk0 25 (0, 0))).heap[Wd.heap.size + 1]? = some (.cells dk0 25 (0, 0)) from heap_at_new (Wd.alloc (.cells z129 5 (0, 0))) (.cells dk0 25 (0, 0)) _ (by simp))
        replace hG := Aside0.mk (heap_at_old (Wd.alloc (.cells z129 5 (0, 0))) (.cells dk0 25 (0, 0)) _ _ hG.out)
        refine hK.out _ _ (hHeld.alloc (by have := hHeld.size; omega) _) (fun hHeld => ?_)
        clear hK K
        refine norm_ (a' := ?_) ?_ ?_
        rotate_left
        · show Act.put _ (some 11) _ = _
          simp only [Act.put, List.setIfInBounds_toArray, List.set_cons_zero, List.set_cons_succ, i64_w, i32_w]
          rfl
        refine one_ (i := 2) (N := some 51) #[true, true, true, false, false, false, true, false, false] rfl rfl (one_of HT_.out (by kernel_rfl)) (by decide) (fun K hK => ?_)
        refine goes_ Try.func19 (by kernel_rfl) rfl #[.agg (dkV A3_0 l3.length c3_0 A3_1 m3.length c3_1 a3 s3), .int .i64 0, .slice (some ⟨_, 0, none⟩) 129 129] (by rfl) rfl rfl (by (try simp only [List.map_toArray, List.map_cons, List.map_nil]); first | done | rfl) ?_
        have hc := dWrite_ _ A3_0 c3_0 l3 A3_1 c3_1 m3 a3 s3 0 (some ⟨_, 0, none⟩) 129 (List.replicate 129 0) ((Wd.alloc (.cells z129 5 (0, 0))).alloc (.cells dk0 25 (0, 0))) (Kd.V_below V30.out hHeld) (Kd.V_below V31.out hHeld) (C_z129 hG.out) (by decide) [] [] 0 false 1 X11.out
        rw [List.length_replicate] at hc
        with_reducible refine hc.mono ?_
        clear hc
        rintro e w' ⟨A0, c0, A1, c1, rfl, hV0, hV1, hb⟩
        clear hV0 hV1
        replace hX := Aside0.mk (heap_below hb hX.out)
        refine ⟨_, rfl, ?_⟩
        refine hK.out _ _ (below_step hHeld hb) (fun hHeld => ?_)
        clear hK K
        refine norm_ (a' := ?_) ?_ ?_
        rotate_left
        · show Act.put _ (some 51) _ = _
          simp only [Act.put, List.setIfInBounds_toArray, List.set_cons_zero, List.set_cons_succ, i64_w, i32_w]
          rfl
        refine pure_ (i := 3) (N := some 48) (v := ?_) (a' := ?_) #[true, true, true, true, false, false, true, false, false] rfl rfl (any_of HT_.out (by kernel_rfl)) (fun _ _ _ h => h) (Or.inl ⟨by rfl, ?_⟩) ?_ ?_
        rotate_left
        · intro w'
          go_simp
          with_reducible rfl
        rotate_left
        · simp only [Act.put, List.setIfInBounds_toArray, List.set_cons_zero, List.set_cons_succ, i64_w, i32_w]
          rfl
        refine pure_ (i := 4) (N := some 52) (v := ?_) (a' := ?_) #[true, true, true, true, true, false, true, false, false] rfl rfl (any_of HT_.out (by kernel_rfl)) (fun _ _ _ h => h) (Or.inl ⟨by rfl, ?_⟩) ?_ ?_
        rotate_left
        · intro w'
          go_simp
          with_reducible rfl
        rotate_left
        · simp only [Act.put, List.setIfInBounds_toArray, List.set_cons_zero, List.set_cons_succ, i64_w, i32_w]
          rfl
        refine pure_ (i := 5) (N := some 53) (v := ?_) (a' := ?_) #[true, true, true, true, true, true, true, false, false] rfl rfl (any_of HT_.out (by kernel_rfl)) (fun _ _ _ h => h) (Or.inl ⟨by rfl, ?_⟩) ?_ ?_
        rotate_left
        · intro w'
          go_simp
          with_reducible rfl
        rotate_left
        · simp only [Act.put, List.setIfInBounds_toArray, List.set_cons_zero, List.set_cons_succ, i64_w, i32_w]
          rfl
        exact norm_ (by first | (simp only [putAll, Act.put, List.setIfInBounds_toArray, List.set_cons_zero, List.set_cons_succ]; done) | (simp only [putAll, Act.put, List.setIfInBounds_toArray, List.set_cons_zero, List.set_cons_succ]; rfl)) (HJ.out (_, _, Wd.heap.size + 1) _ ⟨hHeld, (Nat.le_succ_of_le hge), hX.out, _, _, _, _, rfl⟩)
    · skip
      refine value_ (w1 := ?_) (v := ?_) (by rfl) rfl ?_ ?_
      rotate_left
      rotate_left
      · go_simp
        refine And.intro ?_ ?_ <;> rfl
      have hX := Aside0.mk (show (Wd.alloc (.cells dk0 25 (0, 0))).heap[Wd.heap.size]? = some (.cells dk0 25 (0, 0)) from heap_at_new Wd (.cells dk0 25 (0, 0)) _ (by simp))
      refine hK.out _ _ (hHeld.alloc (by have := hHeld.size; omega) _) (fun hHeld => ?_)
      clear hK K
      refine norm_ (a' := ?_) ?_ ?_
      rotate_left
      · show Act.put _ (some 11) _ = _
        simp only [Act.put, List.setIfInBounds_toArray, List.set_cons_zero, List.set_cons_succ, i64_w, i32_w]
        rfl
      refine one_ (i := 1) (N := some 50) #[true, true, false, false, false, false, true, false, false] rfl rfl (one_of HT_.out (by kernel_rfl)) (by decide) (fun K hK => ?_)
      replace hX := Aside0.mk (heap_at_old (Wd.alloc (.cells dk0 25 (0, 0))) (.cells z129 5 (0, 0)) _ _ hX.out)
      refine value_ (w1 := ?_) (v := ?_) (by rfl) rfl ?_ ?_
      rotate_left
      rotate_left
      · go_simp
        refine And.intro ?_ ?_ <;> rfl
      have hG := Aside0.mk (heap_at_new (Wd.alloc (.cells dk0 25 (0, 0))) (.cells z129 5 (0, 0)) _ rfl)
      refine hK.out _ _ (hHeld.alloc (by have := hHeld.size; omega) _) (fun hHeld => ?_)
      clear hK K
      refine norm_ (a' := ?_) ?_ ?_
      rotate_left
      · show Act.put _ (some 50) _ = _
        simp only [Act.put, List.setIfInBounds_toArray, List.set_cons_zero, List.set_cons_succ, i64_w, i32_w]
        rfl
      refine one_ (i := 2) (N := some 51) #[true, true, true, false, false, false, true, false, false] rfl rfl (one_of HT_.out (by kernel_rfl)) (by decide) (fun K hK => ?_)
      refine goes_ Try.func19 (by kernel_rfl) rfl #[.agg (dkV A3_0 l3.length c3_0 A3_1 m3.length c3_1 a3 s3), .int .i64 0, .slice (some ⟨_, 0, none⟩) 129 129] (by rfl) rfl rfl (by (try simp only [List.map_toArray, List.map_cons, List.map_nil]); first | done | rfl) ?_
      have hc := dWrite_ _ A3_0 c3_0 l3 A3_1 c3_1 m3 a3 s3 0 (some ⟨_, 0, none⟩) 129 (List.replicate 129 0) ((Wd.alloc (.cells dk0 25 (0, 0))).alloc (.cells z129 5 (0, 0))) (Kd.V_below V30.out hHeld) (Kd.V_below V31.out hHeld) (C_z129 hG.out) (by decide) [] [] 0 false 1 X11.out
      rw [List.length_replicate] at hc
      rw [show (Wd.alloc (.cells dk0 25 (0, 0))).heap.size = Wd.heap.size + 1 from by simp] at hc
      with_reducible refine hc.mono ?_
      clear hc
      rintro e w' ⟨A0, c0, A1, c1, rfl, hV0, hV1, hb⟩
      clear hV0 hV1
      replace hX := Aside0.mk (heap_below hb hX.out)
      refine ⟨_, rfl, ?_⟩
      refine hK.out _ _ (below_step hHeld hb) (fun hHeld => ?_)
      clear hK K
      refine norm_ (a' := ?_) ?_ ?_
      rotate_left
      · show Act.put _ (some 51) _ = _
        simp only [Act.put, List.setIfInBounds_toArray, List.set_cons_zero, List.set_cons_succ, i64_w, i32_w]
        rfl
      refine pure_ (i := 3) (N := some 48) (v := ?_) (a' := ?_) #[true, true, true, true, false, false, true, false, false] rfl rfl (any_of HT_.out (by kernel_rfl)) (fun _ _ _ h => h) (Or.inl ⟨by rfl, ?_⟩) ?_ ?_
      rotate_left
      · intro w'
        go_simp
        with_reducible rfl
      rotate_left
      · simp only [Act.put, List.setIfInBounds_toArray, List.set_cons_zero, List.set_cons_succ, i64_w, i32_w]
        rfl
      refine pure_ (i := 4) (N := some 52) (v := ?_) (a' := ?_) #[true, true, true, true, true, false, true, false, false] rfl rfl (any_of HT_.out (by kernel_rfl)) (fun _ _ _ h => h) (Or.inl ⟨by rfl, ?_⟩) ?_ ?_
      rotate_left
      · intro w'
        go_simp
        with_reducible rfl
      rotate_left
      · simp only [Act.put, List.setIfInBounds_toArray, List.set_cons_zero, List.set_cons_succ, i64_w, i32_w]
        rfl
      refine pure_ (i := 5) (N := some 53) (v := ?_) (a' := ?_) #[true, true, true, true, true, true, true, false, false] rfl rfl (any_of HT_.out (by kernel_rfl)) (fun _ _ _ h => h) (Or.inl ⟨by rfl, ?_⟩) ?_ ?_
      rotate_left
      · intro w'
        go_simp
        with_reducible rfl
      rotate_left
      · simp only [Act.put, List.setIfInBounds_toArray, List.set_cons_zero, List.set_cons_succ, i64_w, i32_w]
        rfl
      exact norm_ (by first | (simp only [putAll, Act.put, List.setIfInBounds_toArray, List.set_cons_zero, List.set_cons_succ]; done) | (simp only [putAll, Act.put, List.setIfInBounds_toArray, List.set_cons_zero, List.set_cons_succ]; rfl)) (HJ.out (_, _, Wd.heap.size) _ ⟨hHeld, hge, hX.out, _, _, _, _, rfl⟩)
  rintro ⟨v50, v51, b6⟩ W0 ⟨hHeld, hbge, hX, A6_0, c6_0, A6_1, c6_1, rfl⟩
  have HX := Aside0.mk hX
  have HBe := Aside0.mk hHeld
  have Hbge := Aside0.mk hbge
  clear hX hbge
  refine norm_ (a' := ?_) ?_ ?_
  rotate_left
  · simp only [putAll, Act.put, List.setIfInBounds_toArray, List.set_cons_zero, List.set_cons_succ]
    rfl
  have x0_ := (blk_cell HX.out 0).trans rfl
  have x1_ := (blk_cell HX.out 1).trans rfl
  have x2_ := (blk_cell HX.out 2).trans rfl
  have x3_ := (blk_cell HX.out 3).trans rfl
  have xf0_ := blk_frozen HX.out 0
  have xf1_ := blk_frozen HX.out 1
  have xf2_ := blk_frozen HX.out 2
  have xf3_ := blk_frozen HX.out 3
  refine last_ (i := 7) (N := none) #[true, true, true, true, true, true, true, true, false] rfl rfl (one_of HT_.out (by kernel_rfl)) (by decide) (fun K hK => ?_)
  refine skip_ (w1 := ?_) (by rfl) rfl ?_ ?_
  rotate_left
  · go_simp
    rfl
  refine hK.out _ _ ?_
  clear hK K
  refine pure_ (i := 8) (N := some 12) (v := ?_) (a' := ?_) #[true, true, true, true, true, true, true, true, true] rfl rfl (any_of HT_.out (by kernel_rfl)) (fun _ _ _ h => h) (Or.inl ⟨by rfl, ?_⟩) ?_ ?_
  rotate_left
  · intro w'
    go_simp
    with_reducible rfl
  rotate_left
  · simp only [Act.put, List.setIfInBounds_toArray, List.set_cons_zero, List.set_cons_succ, i64_w, i32_w]
    rfl
  refine done_ (done_of HT_.out (by kernel_rfl)) ?_
  obtain ⟨w6, hw6⟩ : ∃ x, (((W0.setCell ⟨b6, 0, none⟩ (.slice A6_0 0 c6_0)).setCell ⟨b6, 1, none⟩ (.slice A6_1 0 c6_1)).setCell ⟨b6, 2, none⟩ (.int .i64 0)).setCell ⟨b6, 3, none⟩ (.bool false) = x := ⟨_, rfl⟩
  have hb : Below w5.heap.size w5 w6 := hw6 ▸ below_setCell (below_setCell (below_setCell (below_setCell HBe.out Hbge.out 0 (.slice A6_0 0 c6_0)) Hbge.out 1 (.slice A6_1 0 c6_1)) Hbge.out 2 (.int .i64 0)) Hbge.out 3 (.bool false)
  rw [hw6]
  clear hw6 HX HBe Hbge x0_ xf0_ x1_ xf1_ x2_ xf2_ x3_ xf3_
  replace B3 := Aside0.mk (zb B3.out hb)
  replace B5 := Aside0.mk (zb B5.out hb)
  replace V30 := Aside0.mk (Kd.V_below (by (with_reducible repeat (first | apply Kd.V_alloc)); exact V30.out) hb)
  replace V31 := Aside0.mk (Kd.V_below (by (with_reducible repeat (first | apply Kd.V_alloc)); exact V31.out) hb)
  replace V50 := Aside0.mk (Kd.V_below (by (with_reducible repeat (first | apply Kd.V_alloc)); exact V50.out) hb)
  replace V51 := Aside0.mk (Kd.V_below (by (with_reducible repeat (first | apply Kd.V_alloc)); exact V51.out) hb)
  replace V7 := Aside0.mk (Kd.V_below (by (with_reducible repeat (first | apply Kd.V_alloc)); exact V7.out) hb)
  replace HB := Aside0.mk (below_step (by repeat (first | (with_reducible first | exact HB.out | apply below_alloc) | exact HB.out)) hb)
  have hz := hb.size
  (try simp only [World.size_alloc] at hz)
  have Z6 := Aside0.mk (show w5.heap.size ≤ w6.heap.size by omega)
  clear hz hb
  have c0_ := (blk_cell B5.out 0).trans rfl
  have c1_ := (blk_cell B5.out 1).trans rfl
  have c2_ := (blk_cell B5.out 2).trans rfl
  have c3_ := (blk_cell B5.out 3).trans rfl
  go_upto_region 8 with (go_at_call 25; refine (dStop_ _ A5_0 c5_0 l5 A5_1 c5_1 m5 a5 s5 1 _ (by (with_reducible repeat (first | apply Kd.V_alloc)); exact V50.out) (by (with_reducible repeat (first | apply Kd.V_alloc)); exact V51.out) l13 m13 a13 s13 0 X13.out).mono ?_; rintro e w7 ⟨A13_0, c13_0, A13_1, c13_1, rfl, hV0, hV1, hb⟩; replace B3 := Aside0.mk (zb B3.out hb); replace B5 := Aside0.mk (zb B5.out hb); replace V30 := Aside0.mk (Kd.V_below (by (with_reducible repeat (first | apply Kd.V_alloc)); exact V30.out) hb); replace V31 := Aside0.mk (Kd.V_below (by (with_reducible repeat (first | apply Kd.V_alloc)); exact V31.out) hb); replace V50 := Aside0.mk (Kd.V_below (by (with_reducible repeat (first | apply Kd.V_alloc)); exact V50.out) hb); replace V51 := Aside0.mk (Kd.V_below (by (with_reducible repeat (first | apply Kd.V_alloc)); exact V51.out) hb); replace V7 := Aside0.mk (Kd.V_below (by (with_reducible repeat (first | apply Kd.V_alloc)); exact V7.out) hb); replace HB := Aside0.mk (below_step (by repeat (first | (with_reducible first | exact HB.out | apply below_alloc) | exact HB.out)) hb); have hz := hb.size; (try simp only [World.size_alloc] at hz); have Z7 := Aside0.mk (show w6.heap.size ≤ w7.heap.size by omega); clear hz hb; have V130 := Aside0.mk (Kd.V_mono (Kd.V_bound hV0) (fun k hk => hk.2)); have V131 := Aside0.mk (Kd.V_mono (Kd.V_bound hV1) (fun k hk => hk.2)); clear hV0 hV1; have B13 := Aside0.mk (heap_at_new w7 (.cells (dkV A13_0 l13.length c13_0 A13_1 m13.length c13_1 a13 s13) 25 (0, 0)) _ rfl))
  clear c0_ c1_ c2_ c3_
  have H5 := Aside0.mk (Array.getElem?_eq_some_iff.1 B5.out).1
  obtain ⟨w8, hw8⟩ : ∃ x, w7.alloc (.cells (dkV A13_0 l13.length c13_0 A13_1 m13.length c13_1 a13 s13) 25 (0, 0)) = x := ⟨_, rfl⟩
  have B13 := Aside0.mk (show w8.heap[w7.heap.size]? = _ from hw8 ▸ B13.out)
  have hb : Below w7.heap.size w7 w8 := hw8 ▸ below_alloc (Below.refl _ _) _
  rw [hw8]
  clear hw8
  replace B3 := Aside0.mk (zb B3.out hb)
  replace B5 := Aside0.mk (zb B5.out hb)
  replace V30 := Aside0.mk (Kd.V_below (by (with_reducible repeat (first | apply Kd.V_alloc)); exact V30.out) hb)
  replace V31 := Aside0.mk (Kd.V_below (by (with_reducible repeat (first | apply Kd.V_alloc)); exact V31.out) hb)
  replace V50 := Aside0.mk (Kd.V_below (by (with_reducible repeat (first | apply Kd.V_alloc)); exact V50.out) hb)
  replace V51 := Aside0.mk (Kd.V_below (by (with_reducible repeat (first | apply Kd.V_alloc)); exact V51.out) hb)
  replace V7 := Aside0.mk (Kd.V_below (by (with_reducible repeat (first | apply Kd.V_alloc)); exact V7.out) hb)
  replace V130 := Aside0.mk (Kd.V_below (by (with_reducible repeat (first | apply Kd.V_alloc)); exact V130.out) hb)
  replace V131 := Aside0.mk (Kd.V_below (by (with_reducible repeat (first | apply Kd.V_alloc)); exact V131.out) hb)
  replace HB := Aside0.mk (below_step (by repeat (first | (with_reducible first | exact HB.out | apply below_alloc) | exact HB.out)) hb)
  have hz := hb.size
  (try simp only [World.size_alloc] at hz)
  have Z8 := Aside0.mk (show w7.heap.size ≤ w8.heap.size by omega)
  clear hz hb
  have Hw7 := Aside0.mk (show w.heap.size ≤ w7.heap.size from by have h1 := HB.out.size; have z1 := Z1.out; have z2 := Z2.out; have z3 := Z3.out; have z4 := Z4.out; have z5 := Z5.out; have z6 := Z6.out; have z7 := Z7.out; omega)
  refine start_ (n := 8) (S := fun w' => Below w8.heap.size w8 w') (ds := [6]) #[false, false, false, false, false, false, false, false] (by kernel_rfl) rfl rfl (below_drew1 (Below.refl _ _)) (fun hHeld => ?_)
  refine with_tabW sane.tab8 sane.bits8 (fun HT_ HW_ => ?_)
  generalize World.drew _ = Wd at hHeld ⊢
  refine take_ (i := 0) (N := some 60) (v := ?_) (a' := ?_) #[true, false, false, false, false, false, false, false] rfl rfl (take_ofW HT_.out HW_.out (by kernel_rfl)) (fun _ _ _ h => h) (Or.inl ⟨by rfl, ?_⟩) hHeld ?_ ?_
  rotate_left
  · rintro w' s0
    have t0_ := (blk_cell (heap_below s0 B13.out) 0).trans rfl
    have t1_ := (blk_cell (heap_below s0 B13.out) 1).trans rfl
    have t2_ := (blk_cell (heap_below s0 B13.out) 2).trans rfl
    have t3_ := (blk_cell (heap_below s0 B13.out) 3).trans rfl
    go_simp
    with_reducible rfl
  rotate_left
  · simp only [Act.put, List.setIfInBounds_toArray, List.set_cons_zero, List.set_cons_succ, i64_w, i32_w]
    rfl
  refine one_ (i := 1) (N := some 61) #[true, true, false, false, false, false, false, false] rfl rfl (one_of HT_.out (by kernel_rfl)) (by decide) (fun K hK => ?_)
  refine goes_ Try.func27 (by kernel_rfl) rfl #[.int .u8 8] (by rfl) rfl rfl (by (try simp only [List.map_toArray, List.map_cons, List.map_nil]); first | done | rfl | (simp only [List.length_drop, List.length_take]; rfl)) ?_
  with_reducible refine (double_ 8 _).mono ?_
  rintro e wa ⟨rfl, hVd, hb⟩
  have HVd := Aside0.mk hVd
  clear hVd
  refine ⟨_, rfl, ?_⟩
  refine hK.out _ _ (below_step hHeld hb) (fun hHeld => ?_)
  clear hK K
  refine norm_ (a' := ?_) ?_ ?_
  rotate_left
  · show Act.put _ (some 61) _ = _
    simp only [Act.put, List.setIfInBounds_toArray, List.set_cons_zero, List.set_cons_succ, i64_w, i32_w]
    rfl
  refine one_ (i := 2) (N := some 62) #[true, true, true, false, false, false, false, false] rfl rfl (one_of HT_.out (by kernel_rfl)) (by decide) (fun K hK => ?_)
  refine goes_ Try.func19 (by kernel_rfl) rfl #[.agg (dkV A13_0 l13.length c13_0 A13_1 m13.length c13_1 a13 s13), .int .i64 0, .slice (some ⟨Wd.heap.size, 0, none⟩) 128 128] (by rfl) rfl rfl (by (try simp only [List.map_toArray, List.map_cons, List.map_nil]); first | done | rfl | (simp only [List.length_drop, List.length_take]; rfl)) ?_
  have Hwa := Aside0.mk (Array.getElem?_eq_some_iff.1 (heap_below hHeld B13.out)).1
  have hc := dWrite_ _ A13_0 c13_0 l13 A13_1 c13_1 m13 a13 s13 0 (some ⟨Wd.heap.size, 0, none⟩) 128 (dbl 8) wa (Kd.V_below V130.out hHeld) (Kd.V_below V131.out hHeld) (Kd.V_reads' HVd.out).2.2 (Nat.le_of_eq (dbl_length 8)) l14 m14 a14 s14 0 X14.out
  rw [dbl_length] at hc
  with_reducible refine hc.mono ?_
  clear hc
  rintro e wb ⟨A14_0, c14_0, A14_1, c14_1, rfl, hV0, hV1, hb2⟩
  have V140 := Aside0.mk hV0
  have V141 := Aside0.mk hV1
  have hHe := Aside0.mk (below_step hHeld hb2)
  clear hV0 hV1
  refine ⟨_, rfl, ?_⟩
  refine hK.out _ _ hHe.out (fun hHeld => ?_)
  clear hK K
  refine norm_ (a' := ?_) ?_ ?_
  rotate_left
  · show Act.put _ (some 62) _ = _
    simp only [Act.put, List.setIfInBounds_toArray, List.set_cons_zero, List.set_cons_succ, i64_w, i32_w]
    rfl
  refine pure_ (i := 3) (N := some 59) (v := ?_) (a' := ?_) #[true, true, true, true, false, false, false, false] rfl rfl (any_of HT_.out (by kernel_rfl)) (fun _ _ _ h => h) (Or.inl ⟨by rfl, ?_⟩) ?_ ?_
  rotate_left
  · intro w'
    go_simp
    with_reducible rfl
  rotate_left
  · simp only [Act.put, List.setIfInBounds_toArray, List.set_cons_zero, List.set_cons_succ, i64_w, i32_w]
    rfl
  refine pure_ (i := 4) (N := some 63) (v := ?_) (a' := ?_) #[true, true, true, true, true, false, false, false] rfl rfl (any_of HT_.out (by kernel_rfl)) (fun _ _ _ h => h) (Or.inl ⟨by rfl, ?_⟩) ?_ ?_
  rotate_left
  · intro w'
    go_simp
    with_reducible rfl
  rotate_left
  · simp only [Act.put, List.setIfInBounds_toArray, List.set_cons_zero, List.set_cons_succ, i64_w, i32_w]
    rfl
  refine pure_ (i := 5) (N := some 64) (v := ?_) (a' := ?_) #[true, true, true, true, true, true, false, false] rfl rfl (any_of HT_.out (by kernel_rfl)) (fun _ _ _ h => h) (Or.inl ⟨by rfl, ?_⟩) ?_ ?_
  rotate_left
  · intro w'
    go_simp
    with_reducible rfl
  rotate_left
  · simp only [Act.put, List.setIfInBounds_toArray, List.set_cons_zero, List.set_cons_succ, i64_w, i32_w]
    rfl
  refine last_ (i := 6) (N := none) #[true, true, true, true, true, true, true, false] rfl rfl (one_of HT_.out (by kernel_rfl)) (by decide) (fun K hK => ?_)
  have x0_ := (blk_cell (heap_below hHe.out B13.out) 0).trans rfl
  have x1_ := (blk_cell (heap_below hHe.out B13.out) 1).trans rfl
  have x2_ := (blk_cell (heap_below hHe.out B13.out) 2).trans rfl
  have x3_ := (blk_cell (heap_below hHe.out B13.out) 3).trans rfl
  have xf0_ := blk_frozen (heap_below hHe.out B13.out) 0
  have xf1_ := blk_frozen (heap_below hHe.out B13.out) 1
  have xf2_ := blk_frozen (heap_below hHe.out B13.out) 2
  have xf3_ := blk_frozen (heap_below hHe.out B13.out) 3
  refine skip_ (w1 := ?_) (by rfl) rfl ?_ ?_
  rotate_left
  · go_simp
    rfl
  refine hK.out _ _ ?_
  clear hK K
  refine pure_ (i := 7) (N := some 15) (v := ?_) (a' := ?_) #[true, true, true, true, true, true, true, true] rfl rfl (any_of HT_.out (by kernel_rfl)) (fun _ _ _ h => h) (Or.inl ⟨by rfl, ?_⟩) ?_ ?_
  rotate_left
  · intro w'
    go_simp
    with_reducible rfl
  rotate_left
  · simp only [Act.put, List.setIfInBounds_toArray, List.set_cons_zero, List.set_cons_succ, i64_w, i32_w]
    rfl
  refine done_ (done_of HT_.out (by kernel_rfl)) ?_
  clear x0_ xf0_ x1_ xf1_ x2_ xf2_ x3_ xf3_
  obtain ⟨w9, hwx⟩ : ∃ x, (((wb.setCell ⟨w7.heap.size, 0, none⟩ (.slice A14_0 l14.length c14_0)).setCell ⟨w7.heap.size, 1, none⟩ (.slice A14_1 m14.length c14_1)).setCell ⟨w7.heap.size, 2, none⟩ (.int .i64 a14)).setCell ⟨w7.heap.size, 3, none⟩ (.bool s14) = x := ⟨_, rfl⟩
  have z4 := Z4.out
  have z5 := Z5.out
  have z6 := Z6.out
  have z7 := Z7.out
  have hwa := Hwa.out
  have z55 := H5.out
  have V50 := Aside0.mk (show Kd.V kSec 35 w9 w9.heap.size _ _ _ from hwx ▸ (Kd.V_far (Kd.V_far (Kd.V_far (Kd.V_far (Kd.V_below V50.out hHe.out) (fun k hk => by show k ≠ w7.heap.size; omega) _) (fun k hk => by show k ≠ w7.heap.size; omega) _) (fun k hk => by show k ≠ w7.heap.size; omega) _) (fun k hk => by show k ≠ w7.heap.size; omega) _))
  have V7 := Aside0.mk (show Kd.V (Kd.int .u8) 5 w9 w9.heap.size _ _ _ from hwx ▸ (Kd.V_far (Kd.V_far (Kd.V_far (Kd.V_far (Kd.V_below V7.out hHe.out) (fun k hk => by show k ≠ w7.heap.size; omega) _) (fun k hk => by show k ≠ w7.heap.size; omega) _) (fun k hk => by show k ≠ w7.heap.size; omega) _) (fun k hk => by show k ≠ w7.heap.size; omega) _))
  have V140 := Aside0.mk (show Kd.V kSec 35 w9 w9.heap.size _ _ _ from hwx ▸ (Kd.V_far (Kd.V_far (Kd.V_far (Kd.V_far V140.out (fun k hk => by show k ≠ w7.heap.size; omega) _) (fun k hk => by show k ≠ w7.heap.size; omega) _) (fun k hk => by show k ≠ w7.heap.size; omega) _) (fun k hk => by show k ≠ w7.heap.size; omega) _))
  have V141 := Aside0.mk (show Kd.V kW 54 w9 w9.heap.size _ _ _ from hwx ▸ (Kd.V_far (Kd.V_far (Kd.V_far (Kd.V_far V141.out (fun k hk => by show k ≠ w7.heap.size; omega) _) (fun k hk => by show k ≠ w7.heap.size; omega) _) (fun k hk => by show k ≠ w7.heap.size; omega) _) (fun k hk => by show k ≠ w7.heap.size; omega) _))
  have B5 := Aside0.mk (show w9.heap[w3.heap.size]? = _ from hwx ▸ (blk_far (blk_far (blk_far (blk_far (heap_below hHe.out B5.out) (by dsimp only; omega) _) (by dsimp only; omega) _) (by dsimp only; omega) _) (by dsimp only; omega) _))
  have B13 := Aside0.mk (show w9.heap[w7.heap.size]? = some (.cells #[.slice A14_0 l14.length c14_0, .slice A14_1 m14.length c14_1, .int .i64 a14, .bool s14] 25 (0, 0)) from hwx ▸ blk_put (blk_put (blk_put (blk_put (heap_below hHe.out B13.out) 0 _ rfl) 1 _ rfl) 2 _ rfl) 3 _ rfl)
  have hbw := HB.out.size
  have HB := Aside0.mk (show Below w.heap.size w w9 from hwx ▸ below_setCell (below_setCell (below_setCell (below_setCell (below_step HB.out hHe.out) (by have h8 := hHe.out.size; have h9 := Hw7.out; omega) _ _) (by have h9 := Hw7.out; omega) _ _) (by have h9 := Hw7.out; omega) _ _) (by have h9 := Hw7.out; omega) _ _)
  replace V7 := Aside0.mk (Kd.V_mono (Kd.V_bound V7.out) (fun k hk => hk.2))
  have HB9 := Aside0.mk HB.out.size
  rw [hwx]
  clear hwx z4 z5 z6 z7 z55 H5 hwa hbw hHe HVd Hwa
  have c0_ := (blk_cell B13.out 0).trans rfl
  have c1_ := (blk_cell B13.out 1).trans rfl
  have c2_ := (blk_cell B13.out 2).trans rfl
  have c3_ := (blk_cell B13.out 3).trans rfl
  go_upto_region 10 with (go_at_call 23; refine (dSync_ _ A14_0 c14_0 l14 A14_1 c14_1 m14 a14 s14 _ (by exact V140.out) (by exact V141.out) l16 m16 a16 true 40 X16.out).mono ?_; rintro e w10 ⟨A16_0, c16_0, A16_1, c16_1, rfl, hV0, hV1, hb⟩; replace B5 := Aside0.mk (zb B5.out hb); replace B13 := Aside0.mk (zb B13.out hb); replace V50 := Aside0.mk (Kd.V_below (by (with_reducible repeat (first | apply Kd.V_alloc)); exact V50.out) hb); replace V7 := Aside0.mk (Kd.V_below (by (with_reducible repeat (first | apply Kd.V_alloc)); exact V7.out) hb); replace V140 := Aside0.mk (Kd.V_below (by (with_reducible repeat (first | apply Kd.V_alloc)); exact V140.out) hb); replace V141 := Aside0.mk (Kd.V_below (by (with_reducible repeat (first | apply Kd.V_alloc)); exact V141.out) hb); replace HB := Aside0.mk (below_step (by repeat (first | (with_reducible first | exact HB.out | apply below_alloc) | exact HB.out)) hb); have hz := hb.size; (try simp only [World.size_alloc] at hz); have Z10 := Aside0.mk (show w9.heap.size ≤ w10.heap.size by omega); clear hz hb; have H15 := Aside0.mk (show w3.heap.size < w10.heap.size from (Array.getElem?_eq_some_iff.1 B5.out).1); have V160 := Aside0.mk (Kd.V_mono (Kd.V_bound hV0) (fun k hk => hk.2)); clear hV0 hV1; have B16 := Aside0.mk (heap_at_new w10 (.cells (dkV A16_0 l16.length c16_0 A16_1 m16.length c16_1 a16 true) 25 (0, 0)) _ rfl))
  clear c0_ c1_ c2_ c3_
  clear B13 V140 V141 X16 X14 X13 X11 X9 X7 X5 X3
  have c0_ := (blk_cell B16.out 0).trans rfl
  have c1_ := (blk_cell B16.out 1).trans rfl
  have c2_ := (blk_cell B16.out 2).trans rfl
  have c3_ := (blk_cell B16.out 3).trans rfl
  go_upto_region 12 with fail
  clear c0_ c1_ c2_ c3_
  have c0_ := (blk_cell B16.out 0).trans rfl
  have c1_ := (blk_cell B16.out 1).trans rfl
  have c2_ := (blk_cell B16.out 2).trans rfl
  have c3_ := (blk_cell B16.out 3).trans rfl
  go_upto_region 13 with (go_at_call 17; refine (dRestart_ _ A16_0 c16_0 l16 A16_1 m16.length c16_1 a16 true _ (by (with_reducible repeat (first | apply Kd.V_alloc)); exact V160.out)).mono ?_; rintro e w11 ⟨rfl, hV0, hb⟩; replace B5 := Aside0.mk (zb B5.out hb); replace B16 := Aside0.mk (zb B16.out hb); replace V50 := Aside0.mk (Kd.V_below (by (with_reducible repeat (first | apply Kd.V_alloc)); exact V50.out) hb); replace V7 := Aside0.mk (Kd.V_below (by (with_reducible repeat (first | apply Kd.V_alloc)); exact V7.out) hb); replace V160 := Aside0.mk (Kd.V_below (by (with_reducible repeat (first | apply Kd.V_alloc)); exact V160.out) hb); replace HB := Aside0.mk (below_step (by repeat (first | (with_reducible first | exact HB.out | apply below_alloc) | exact HB.out)) hb); have hz := hb.size; (try simp only [World.size_alloc] at hz); have Z11 := Aside0.mk (show w10.heap.size ≤ w11.heap.size by omega); clear hz hb; replace V160 := Aside0.mk hV0; clear hV0; have x0_ := (blk_cell B16.out 0).trans rfl; have xf0_ := blk_frozen B16.out 0; have x1_ := (blk_cell B16.out 1).trans rfl; have xf1_ := blk_frozen B16.out 1; have x2_ := (blk_cell B16.out 2).trans rfl; have xf2_ := blk_frozen B16.out 2; have x3_ := (blk_cell B16.out 3).trans rfl; have xf3_ := blk_frozen B16.out 3)
  clear x0_ x1_ x2_ x3_ xf0_ xf1_ xf2_ xf3_
  clear c0_ c1_ c2_ c3_
  obtain ⟨w12, hwx⟩ : ∃ x, (((w11.setCell ⟨w10.heap.size, 0, none⟩ (.slice A16_0 l16.length c16_0)).setCell ⟨w10.heap.size, 1, none⟩ (.slice none 0 0)).setCell ⟨w10.heap.size, 2, none⟩ (.int .i64 (-1))).setCell ⟨w10.heap.size, 3, none⟩ (.bool false) = x := ⟨_, rfl⟩
  have z11 := Z11.out
  have z10 := Z10.out
  have z15 := H15.out
  have z99 := HB9.out
  have V160 := Aside0.mk (show Kd.V kSec 35 w12 w12.heap.size _ _ _ from hwx ▸ (Kd.V_far (Kd.V_far (Kd.V_far (Kd.V_far V160.out (fun k hk => by show k ≠ w10.heap.size; omega) _) (fun k hk => by show k ≠ w10.heap.size; omega) _) (fun k hk => by show k ≠ w10.heap.size; omega) _) (fun k hk => by show k ≠ w10.heap.size; omega) _))
  have V50 := Aside0.mk (show Kd.V kSec 35 w12 w12.heap.size _ _ _ from hwx ▸ (Kd.V_far (Kd.V_far (Kd.V_far (Kd.V_far V50.out (fun k hk => by show k ≠ w10.heap.size; omega) _) (fun k hk => by show k ≠ w10.heap.size; omega) _) (fun k hk => by show k ≠ w10.heap.size; omega) _) (fun k hk => by show k ≠ w10.heap.size; omega) _))
  have V7 := Aside0.mk (show Kd.V (Kd.int .u8) 5 w12 w12.heap.size _ _ _ from hwx ▸ (Kd.V_far (Kd.V_far (Kd.V_far (Kd.V_far V7.out (fun k hk => by show k ≠ w10.heap.size; omega) _) (fun k hk => by show k ≠ w10.heap.size; omega) _) (fun k hk => by show k ≠ w10.heap.size; omega) _) (fun k hk => by show k ≠ w10.heap.size; omega) _))
  have B5 := Aside0.mk (show w12.heap[w3.heap.size]? = _ from hwx ▸ (blk_far (blk_far (blk_far (blk_far B5.out (by dsimp only; omega) _) (by dsimp only; omega) _) (by dsimp only; omega) _) (by dsimp only; omega) _))
  have B16 := Aside0.mk (show w12.heap[w10.heap.size]? = some (.cells #[.slice A16_0 l16.length c16_0, .slice none 0 0, .int .i64 (-1), .bool false] 25 (0, 0)) from hwx ▸ blk_put (blk_put (blk_put (blk_put B16.out 0 _ rfl) 1 _ rfl) 2 _ rfl) 3 _ rfl)
  have HB := Aside0.mk (show Below w.heap.size w w12 from hwx ▸ below_setCell (below_setCell (below_setCell (below_setCell HB.out (by omega) _ _) (by omega) _ _) (by omega) _ _) (by omega) _ _)
  rw [hwx]
  clear hwx z11 z10 z15 z99 HB9 H15
  have c0_ := (blk_cell B16.out 0).trans rfl
  have c1_ := (blk_cell B16.out 1).trans rfl
  have c2_ := (blk_cell B16.out 2).trans rfl
  have c3_ := (blk_cell B16.out 3).trans rfl
  go_upto_region 14 with (go_at_call 21; refine (dRead_ _ A16_0 c16_0 l16 none 0 [] (-1) false 1 _ (by (with_reducible repeat (first | apply Kd.V_alloc)); exact V160.out) (Kd.V_nil kW 54 _ _ _) b18 0 X18.out).mono ?_; rintro e w13 ⟨A18, c18, he, hV, hb⟩; replace B5 := Aside0.mk (zb B5.out hb); replace B16 := Aside0.mk (zb B16.out hb); replace V50 := Aside0.mk (Kd.V_below (by (with_reducible repeat (first | apply Kd.V_alloc)); exact V50.out) hb); replace V7 := Aside0.mk (Kd.V_below (by (with_reducible repeat (first | apply Kd.V_alloc)); exact V7.out) hb); replace V160 := Aside0.mk (Kd.V_below (by (with_reducible repeat (first | apply Kd.V_alloc)); exact V160.out) hb); replace HB := Aside0.mk (below_step (by repeat (first | (with_reducible first | exact HB.out | apply below_alloc) | exact HB.out)) hb); have hz := hb.size; (try simp only [World.size_alloc] at hz); have Z13 := Aside0.mk (show w12.heap.size ≤ w13.heap.size by omega); clear hz hb; rw [Y18.out.1] at he hV; subst he; have V18 := Aside0.mk (Kd.V_mono (Kd.V_bound hV) (fun k hk => hk.2)); clear hV)
  clear c0_ c1_ c2_ c3_
  have c0_ := (blk_cell B16.out 0).trans rfl
  have c1_ := (blk_cell B16.out 1).trans rfl
  have c2_ := (blk_cell B16.out 2).trans rfl
  have c3_ := (blk_cell B16.out 3).trans rfl
  go_upto_region 15 with (go_at_call 21; refine (dRead_ _ A16_0 c16_0 l16 none 0 [] (-1) false 0 _ (by (with_reducible repeat (first | apply Kd.V_alloc)); exact V160.out) (Kd.V_nil kW 54 _ _ _) b20 0 X20.out).mono ?_; rintro e w14 ⟨A20, c20, he, hV, hb⟩; replace B5 := Aside0.mk (zb B5.out hb); replace B16 := Aside0.mk (zb B16.out hb); replace V50 := Aside0.mk (Kd.V_below (by (with_reducible repeat (first | apply Kd.V_alloc)); exact V50.out) hb); replace V7 := Aside0.mk (Kd.V_below (by (with_reducible repeat (first | apply Kd.V_alloc)); exact V7.out) hb); replace V160 := Aside0.mk (Kd.V_below (by (with_reducible repeat (first | apply Kd.V_alloc)); exact V160.out) hb); replace V18 := Aside0.mk (Kd.V_below (by (with_reducible repeat (first | apply Kd.V_alloc)); exact V18.out) hb); replace HB := Aside0.mk (below_step (by repeat (first | (with_reducible first | exact HB.out | apply below_alloc) | exact HB.out)) hb); have hz := hb.size; (try simp only [World.size_alloc] at hz); have Z14 := Aside0.mk (show w13.heap.size ≤ w14.heap.size by omega); clear hz hb; rw [Y20.out.1] at he hV; subst he; have V20 := Aside0.mk (Kd.V_mono (Kd.V_bound hV) (fun k hk => hk.2)); clear hV)
  clear c0_ c1_ c2_ c3_
  clear B16 V160
  have c0_ := (blk_cell B5.out 0).trans rfl
  have c1_ := (blk_cell B5.out 1).trans rfl
  have c2_ := (blk_cell B5.out 2).trans rfl
  have c3_ := (blk_cell B5.out 3).trans rfl
  go_upto_region 16 with first | (go_at_call 17; refine (dRestart_ _ A5_0 c5_0 l5 A5_1 m5.length c5_1 a5 s5 _ (by (with_reducible repeat (first | apply Kd.V_alloc)); exact V50.out)).mono ?_; rintro e w15 ⟨rfl, hV0, hb⟩; replace B5 := Aside0.mk (zb B5.out hb); replace V50 := Aside0.mk (Kd.V_below (by (with_reducible repeat (first | apply Kd.V_alloc)); exact V50.out) hb); replace V7 := Aside0.mk (Kd.V_below (by (with_reducible repeat (first | apply Kd.V_alloc)); exact V7.out) hb); replace V18 := Aside0.mk (Kd.V_below (by (with_reducible repeat (first | apply Kd.V_alloc)); exact V18.out) hb); replace V20 := Aside0.mk (Kd.V_below (by (with_reducible repeat (first | apply Kd.V_alloc)); exact V20.out) hb); replace HB := Aside0.mk (below_step (by repeat (first | (with_reducible first | exact HB.out | apply below_alloc) | exact HB.out)) hb); have hz := hb.size; (try simp only [World.size_alloc] at hz); have Z15 := Aside0.mk (show w14.heap.size ≤ w15.heap.size by omega); clear hz hb; replace V50 := Aside0.mk hV0; clear hV0) | (go_at_call 21; refine (dRead_ _ A5_0 c5_0 l5 none 0 [] (-1) false 1 _ (by (with_reducible repeat (first | apply Kd.V_alloc)); exact V50.out) (Kd.V_nil kW 54 _ _ _) b22 0 X22.out).mono ?_; rintro e w16 ⟨A22, c22, he, hV, hb⟩; replace B5 := Aside0.mk (zb B5.out hb); replace V50 := Aside0.mk (Kd.V_below (by (with_reducible repeat (first | apply Kd.V_alloc)); exact V50.out) hb); replace V7 := Aside0.mk (Kd.V_below (by (with_reducible repeat (first | apply Kd.V_alloc)); exact V7.out) hb); replace V18 := Aside0.mk (Kd.V_below (by (with_reducible repeat (first | apply Kd.V_alloc)); exact V18.out) hb); replace V20 := Aside0.mk (Kd.V_below (by (with_reducible repeat (first | apply Kd.V_alloc)); exact V20.out) hb); replace HB := Aside0.mk (below_step (by repeat (first | (with_reducible first | exact HB.out | apply below_alloc) | exact HB.out)) hb); have hz := hb.size; (try simp only [World.size_alloc] at hz); have Z16 := Aside0.mk (show w15.heap.size ≤ w16.heap.size by omega); clear hz hb; rw [Y22.out.1] at he hV; subst he; have V22 := Aside0.mk (Kd.V_mono (Kd.V_bound hV) (fun k hk => hk.2)); clear hV)
  clear c0_ c1_ c2_ c3_
  clear B5 V50
  obtain ⟨ad7, rfl, f7⟩ := byte_at V7.out (by decide)
  obtain ⟨ad18, rfl, f18⟩ := byte_at V18.out (by decide)
  obtain ⟨ad20, rfl, f20⟩ := byte_at V20.out (by decide)
  obtain ⟨ad22, rfl, f22⟩ := byte_at V22.out (by decide)
  have g7_0 := f7 0 (by decide)
  rw [show rd b7 ((0 : Nat) : Int) = 7 from Y7.out.2] at g7_0
  rw [show ad7.add 0 = ad7 from rfl] at g7_0
  clear f7
  have g18_0 := f18 0 (by decide)
  rw [show rd b18 ((0 : Nat) : Int) = 7 from Y18.out.2] at g18_0
  rw [show ad18.add 0 = ad18 from rfl] at g18_0
  clear f18
  have g20_0 := f20 0 (by decide)
  rw [show rd b20 ((0 : Nat) : Int) = 8 from Y20.out.2.1] at g20_0
  have g20_64 := f20 64 (by decide)
  rw [show rd b20 ((64 : Nat) : Int) = 0 from Y20.out.2.2] at g20_64
  rw [show ad20.add 0 = ad20 from rfl] at g20_0
  replace g20_64 : w16.cell? ⟨ad20.block, ad20.off + 64, none⟩ = _ := g20_64
  clear f20
  have g22_0 := f22 0 (by decide)
  rw [show rd b22 ((0 : Nat) : Int) = 0 from Y22.out.2] at g22_0
  rw [show ad22.add 0 = ad22 from rfl] at g22_0
  clear f22
  clear X18 X20 X22 Y7 Y18 Y20 Y22 V7 V18 V20 V22
  have hfd : ∀ W : World, (Instr.field 25 (.agg #[.slice none 0 0, .slice none 0 0, .int .i64 (-1), .bool false]) 2).run Try.prog W = .ok (.int .i64 (-1)) W := fun _ => by kernel_rfl
  go_wp2_with first | (go_at_call 15; refine (disk_Check.calls none 0 [] none 0 [] 0 false 40 _ (Kd.V_reads' (Kd.V_nil kSec 35 _ 0 (fun _ => True))).2.2 (Nat.le_refl _) (Kd.V_reads' (Kd.V_nil kW 54 _ 0 (fun _ => True))).2.2 (Nat.le_refl _) rfl).mono ?_; rintro e w17 ⟨rfl, hb⟩; replace HB := Aside0.mk (below_step (by repeat (first | (with_reducible first | exact HB.out | apply below_alloc) | exact HB.out)) hb); have hz := hb.size; (try simp only [World.size_alloc] at hz); have Z17 := Aside0.mk (show w16.heap.size ≤ w17.heap.size by omega); clear hz hb) | (go_at_call 17; refine (dRestart_ (fun _ => True) none 0 [] none 0 0 0 false _ (Kd.V_nil _ _ _ _ _)).mono ?_; rintro e w18 ⟨he, hV0, hb⟩; replace HB := Aside0.mk (below_step (by repeat (first | (with_reducible first | exact HB.out | apply below_alloc) | exact HB.out)) hb); have hz := hb.size; (try simp only [World.size_alloc] at hz); have Z18 := Aside0.mk (show w17.heap.size ≤ w18.heap.size by omega); clear hz hb; clear hV0; unfold dkV at he; subst he)
  go_ret
  exact ⟨rfl, HB.out⟩
end Go.Proofs.Ytmeoapalnkibfaa.Q
