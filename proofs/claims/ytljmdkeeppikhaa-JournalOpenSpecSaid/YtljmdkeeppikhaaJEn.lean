/- By hand: what journal.encode does. -/
import Derived.Test.YtljmdkeeppikhaaJPut
import Derived.Test.YtljmdkeeppikhaaQ1
import Derived.Outline
import Derived.RegionTactic
import Derived.Deep.RegionWith
import Derived.StillTailTactics
namespace Go.Proofs.Ytljmdkeeppikhaa.Q
open Go.RowKit Go.Proofs.YtljmdkeeppikhaaW.PrintWords Go.Proofs.YtljmdkeeppikhaaW.PrintLast Go.Proofs.YtljmdkeeppikhaaW.PrintMore
set_option linter.unusedVariables false
set_option linter.unusedSimpArgs false

theorem copy_t (w : World) (b o dLen dCap : Nat) (A : Option Addr) (l : List Int) (sCap : Nat) (cur : Array Value) (ty t : TypeId) (hC : Kd.C (Kd.int .u8) w A l.length l) (hb : w.heap[b]? = some (.cells cur t (0, 0))) (hl : l.length ≤ dLen) (hf : o + l.length ≤ cur.size) :
    (Builtin.copy_ #[35, 35] ty #[.slice (some ⟨b, o, none⟩) dLen dCap, .slice A l.length sCap]).run Try.prog w = .ok (goInt l.length) (w.setCells b o (l.map (Value.int .u8))) := by
  rcases Nat.eq_zero_or_pos l.length with h0 | h0
  · obtain rfl := List.eq_nil_of_length_eq_zero h0
    obtain ⟨i0, hi, hzz⟩ := Option.map_eq_some_iff.1 infB
    simp only [Prod.mk.injEq] at hzz
    exact copy_none w _ _ ty 5 i0 b o dLen dCap A sCap Try.underlying35 hi hzz.2.1
  · obtain ⟨ad, rfl, hc⟩ := hC.2.2 h0
    have := copy_blk (P := Try.prog) w 35 35 ty 5 1 b o dLen dCap ad l.length sCap (l.map (Value.int .u8)) cur t Try.underlying35 (by kernel_rfl) (by rw [List.length_map, Nat.mul_one]; exact (Nat.min_eq_left hl).symm)
      (fun j v hj => by
        rw [List.getElem?_map] at hj
        obtain ⟨x, hx, rfl⟩ := Option.map_eq_some_iff.1 hj
        obtain ⟨c, _, hK, hcc⟩ := hc j x hx
        obtain rfl : c = [.int .u8 x] := hK
        have := hcc 0 _ rfl
        rwa [show (Kd.int IntKind.u8).sz = 1 from rfl, Nat.mul_one, Nat.add_zero] at this) hb (by rw [List.length_map]; exact hf) (fun v hv => by
        obtain ⟨x, _, rfl⟩ := List.mem_map.1 hv
        rfl)
    rwa [show Nat.min l.length dLen = l.length from Nat.min_eq_left hl] at this
theorem below_at {n : Nat} {w W V : World} (h : Below n w W) (k : Below n W V) : Below n w V := ⟨k.os.trans h.os, k.tape.trans h.tape, k.output.trans h.output, Nat.le_trans h.size k.size, fun j hj => (k.block j hj).trans (h.block j hj)⟩
theorem cell_some {w : World} {g i : Nat} {X : Array Value} {t : TypeId} (h : w.heap[g]? = some (.cells X t (0, 0))) (hi : i < X.size) : ∃ v, w.cell? ⟨g, i, none⟩ = some v := ⟨X[i], (blk_cell h i).trans (Array.getElem?_eq_getElem hi)⟩
theorem z89 : Try.zeroCells89 = z128 := by kernel_rfl
theorem z89_size : Try.zeroCells89.size = 128 := by rw [z89, z128_size]
/-- The byte at j of a sector with checksum s. -/
def encAt (s g n kd : Int) (l : List Int) (j : Nat) : Int :=
  if j < 4 then dg 4 g j else if j < 8 then dg 4 s (j - 4) else if j < 10 then dg 2 n (j - 8) else if j = 10 then kd else if j = 11 then (l.length : Int) else if j < 12 + l.length then l.getD (j - 12) 0 else if j < 124 then 0 else dg 4 g (j - 124)
/-- What the checksum is over. -/
def encT (g n kd : Int) (l : List Int) : List Int := (List.range 116).map fun j => encAt 0 g n kd l (8 + j)
def encV (s g n kd : Int) (l : List Int) : List Int := (List.range 128).map (encAt s g n kd l)
theorem enc_cells {Z X1 X2 X5 : Array Value} {g n kd : Int} {l : List Int} (hl : l.length ≤ 112) (hs2 : X2.size = 128) (hz : ∀ j, j < 128 → Z[j]? = some (.int .u8 0)) (h1 : PutK Z 0 4 g 4 X1) (h2 : PutK X1 8 2 n 2 X2)
    (h5 : PutK (putL ((X2.setIfInBounds 10 (.int .u8 kd)).setIfInBounds 11 (.int .u8 (l.length : Int))) 12 (l.map (Value.int .u8))) 124 4 g 4 X5) (j : Nat) (hj : j < 128) : X5[j]? = some (.int .u8 (encAt 0 g n kd l j)) := by
  have z0 : ∀ i, dg 4 0 i = 0 := fun i => by unfold dg; simp
  have hL : (l.map (Value.int .u8)).length = l.length := List.length_map ..
  rw [h5.2 j]
  unfold encAt
  by_cases c5 : 124 ≤ j
  · rw [if_pos (by omega), if_neg (by omega), if_neg (by omega), if_neg (by omega), if_neg (by omega), if_neg (by omega), if_neg (by omega), if_neg (by omega)]
  rw [if_neg (by omega), putL_get _ _ _ _ (by rw [Array.size_setIfInBounds, Array.size_setIfInBounds, hs2, hL]; omega), hL]
  by_cases c4 : 12 ≤ j ∧ j < 12 + l.length
  · rw [if_pos c4, if_neg (by omega), if_neg (by omega), if_neg (by omega), if_neg (by omega), if_neg (by omega), if_pos c4.2, List.getElem?_map, List.getD_eq_getElem?_getD, List.getElem?_eq_getElem (show j - 12 < l.length by omega)]
    rfl
  rw [if_neg c4, Array.getElem?_setIfInBounds, Array.size_setIfInBounds]
  by_cases c3 : 11 = j
  · rw [if_pos c3, if_pos (by omega), if_neg (by omega), if_neg (by omega), if_neg (by omega), if_neg (by omega), if_pos c3.symm]
  rw [if_neg c3, Array.getElem?_setIfInBounds]
  by_cases c2 : 10 = j
  · rw [if_pos c2, if_pos (by omega), if_neg (by omega), if_neg (by omega), if_neg (by omega), if_pos c2.symm]
  rw [if_neg c2, h2.2 j]
  by_cases c1 : 8 ≤ j ∧ j < 10
  · rw [if_pos (by omega), if_neg (by omega), if_neg (by omega), if_pos (by omega)]
  rw [if_neg (by omega), h1.2 j]
  by_cases c0 : j < 4
  · rw [if_pos (by omega), if_pos c0]
    rfl
  rw [if_neg (by omega), hz j hj, if_neg c0]
  by_cases c6 : j < 8
  · rw [if_pos c6, z0]
  · rw [if_neg c6, if_neg (by omega), if_neg (by omega), if_neg (by omega), if_neg (by omega), if_pos (by omega)]
theorem enc_last {X5 X6 : Array Value} {s g n kd : Int} {l : List Int} (h : ∀ j, j < 128 → X5[j]? = some (.int .u8 (encAt 0 g n kd l j))) (h6 : PutK X5 4 4 s 4 X6) (j : Nat) (hj : j < 128) : X6[j]? = some (.int .u8 (encAt s g n kd l j)) := by
  rw [h6.2 j]
  by_cases c : 4 ≤ j ∧ j < 8
  · rw [if_pos (by omega)]
    unfold encAt
    rw [if_neg (by omega), if_pos c.2]
  · rw [if_neg (by omega), h j hj]
    unfold encAt
    by_cases c0 : j < 4
    · rw [if_pos c0, if_pos c0]
    · rw [if_neg c0, if_neg c0, if_neg (show ¬ j < 8 by omega), if_neg (show ¬ j < 8 by omega)]
theorem C_part {w : World} {g o : Nat} {X : Array Value} {t : TypeId} (xs : List Int) (h : w.heap[g]? = some (.cells X t (0, 0))) (hx : ∀ j x, xs[j]? = some x → X[o + j]? = some (.int .u8 x)) (hl : xs.length ≤ 9223372036854775807) : Kd.C (Kd.int .u8) w (some ⟨g, o, none⟩) xs.length xs := by
  refine ⟨rfl, hl, fun _ => ⟨⟨g, o, none⟩, rfl, fun j p hj => ⟨[.int .u8 p], rfl, rfl, fun i u hu => ?_⟩⟩⟩
  have hi : i = 0 := by have := (List.getElem?_eq_some_iff.1 hu).1; simp at this; omega
  subst hi
  simp at hu
  subst hu
  simp only [Nat.add_zero, show (Kd.int IntKind.u8).sz = 1 from rfl, Nat.mul_one]
  rw [add_at]
  exact (blk_cell h _).trans (hx j p hj)
theorem encT_len (g n kd : Int) (l : List Int) : (encT g n kd l).length = 116 := by simp [encT]
theorem encT_get {g n kd : Int} {l : List Int} {j : Nat} {x : Int} (h : (encT g n kd l)[j]? = some x) : j < 116 ∧ x = encAt 0 g n kd l (8 + j) := by
  have hj := (List.getElem?_eq_some_iff.1 h).1
  rw [encT_len] at hj
  refine ⟨hj, ?_⟩
  unfold encT at h
  rw [List.getElem?_map, List.getElem?_range hj] at h
  exact (Option.some.inj h).symm
def enc.T7 : Bool × List (List Nat × List Nat) := (true, [([], []), ([], []), ([1], [1]), ([2], [2]), ([0, 3, 2], [0, 3])])
def enc.B7 : List Nat := [0, 0, 2, 6, 15]
theorem enc.tab7 : rtab .any (opsOf Try.f44 7) = enc.T7 := by kernel_rfl
theorem enc.bits7 : waitsOk enc.T7.2 enc.B7 = true := by kernel_rfl
set_option maxRecDepth 100000 in
set_option maxHeartbeats 2000000 in
theorem encode_ (k : Nat) (g n kd s : Int) (A : Option Addr) (c : Nat) (l : List Int) (w : World) (hr : Kd.C (Kd.int .u8) w A l.length l) (hc : l.length ≤ c) (hg : 0 ≤ g ∧ g ≤ 18446744073709551615) (hn : 0 ≤ n ∧ n ≤ 4096) (hl : l.length ≤ 112) (hsm : journal_sum.f k (encT g n kd l) = some s) (hs0 : 0 ≤ s ∧ s ≤ 4294967295) :
    Calls Try.prog 44 #[.int .u64 g, .int .i64 n, .int .u8 kd, .slice A l.length c] w fun e w' => e = .returned (.slice (some ⟨w.heap.size, 0, none⟩) 128 128) ∧ (∃ X6 : Array Value, w'.heap[w.heap.size]? = some (.cells X6 89 (0, 0)) ∧ ∀ j, j < 128 → X6[j]? = some (.int .u8 (encAt s g n kd l j))) ∧ Below w.heap.size w w' := by
  have HR := Aside0.mk hr
  have hg0 := Aside0.mk hg
  clear hr hg
  have HZ := Aside0.mk (heap_at_new w (.cells Try.zeroCells89 89 (0, 0)) _ rfl)
  have HB := Aside0.mk (below_alloc (Below.refl w.heap.size w) (.cells Try.zeroCells89 89 (0, 0)))
  go_enter Try.func44, Try.ntmps44
  go_wp2_with fail
  refine (put_ w.heap.size 0 4 128 g _ 89 _ (by decide) (by decide) hg0.out HZ.out (by rw [z89_size]; decide)).mono ?_
  rintro e w1 ⟨rfl, ⟨X1, hX1, hP1⟩, hb1⟩
  have H1 := Aside0.mk hX1
  have HP1 := Aside0.mk hP1
  have HB1 := Aside0.mk (below_at HB.out (hb1 _ (Nat.le_refl _)))
  clear hX1 hP1 hb1 HZ HB
  go_wp2_with fail
  refine (put_ w.heap.size 8 2 120 n _ 89 _ (by decide) (by decide) (by omega) H1.out (by rw [HP1.out.1, z89_size]; decide)).mono ?_
  rintro e w2 ⟨rfl, ⟨X2, hX2, hP2⟩, hb2⟩
  have H2 := Aside0.mk hX2
  have HP2 := Aside0.mk hP2
  have HB2 := Aside0.mk (below_at HB1.out (hb2 _ (Nat.le_refl _)))
  clear hX2 hP2 hb2 H1 HB1
  have hs2 : X2.size = 128 := by rw [HP2.out.1, HP1.out.1, z89_size]
  have Hs2 := Aside0.mk hs2
  clear hs2
  obtain ⟨v10, d10⟩ := cell_some H2.out (i := 10) (by have := Hs2.out; omega)
  obtain ⟨v11, d11⟩ := cell_some H2.out (i := 11) (by have := Hs2.out; omega)
  have f10 := blk_frozen H2.out 10
  have f11 := blk_frozen H2.out 11
  have H3 := Aside0.mk (blk_set (blk_set H2.out 10 (.int .u8 kd)) 11 (.int .u8 (l.length : Int)))
  have HB3 := Aside0.mk (below_setCell (below_setCell HB2.out (Nat.le_refl _) 10 (.int .u8 kd)) (Nat.le_refl _) 11 (.int .u8 (l.length : Int)))
  have hs3 : ((X2.setIfInBounds 10 (.int .u8 kd)).setIfInBounds 11 (.int .u8 (l.length : Int))).size = 128 := by rw [Array.size_setIfInBounds, Array.size_setIfInBounds]; exact Hs2.out
  have Hs3 := Aside0.mk hs3
  clear hs3
  have hcp := copy_t _ w.heap.size 12 116 116 A l c _ 3 89 (Kd.C_below HR.out HB3.out) H3.out (by omega) (by rw [Hs3.out]; omega)
  have H4 := Aside0.mk (setCells_blk (l.map (Value.int .u8)) 12 _ _ H3.out)
  have HB4 := Aside0.mk (below_setCells (Nat.le_refl _) (l.map (Value.int .u8)) 12 _ HB3.out)
  go_wp2_with fail
  clear hcp d10 d11 f10 f11 H2 HB2 H3 HB3
  refine (put_ w.heap.size 124 4 4 g _ 89 _ (by decide) (by decide) hg0.out H4.out (by rw [putL_size, Hs3.out]; decide)).mono ?_
  rintro e w5 ⟨rfl, ⟨X5, hX5, hP5⟩, hb5⟩
  have H5 := Aside0.mk hX5
  have HP5 := Aside0.mk hP5
  have HB5 := Aside0.mk (below_at HB4.out (hb5 _ (Nat.le_refl _)))
  clear hX5 hP5 hb5 H4 HB4
  go_wp2_with fail
  have HC := Aside0.mk (enc_cells hl Hs2.out (fun j hj => by rw [z89]; exact z128_get j hj) HP1.out HP2.out HP5.out)
  have hsz5 : X5.size = 128 := by rw [HP5.out.1, putL_size]; exact Hs3.out
  have HS5 := Aside0.mk hsz5
  clear hsz5 HP1 HP2 HP5 Hs2 Hs3
  have H5d := Aside0.mk (blk_drew H5.out)
  have HB5d := Aside0.mk (below_step HB5.out (below_drew1 (Below.refl _ _)))
  go_upto_region 7 with fail
  refine start_ (n := 5) (S := fun w' => w'.heap[w.heap.size]? = some (.cells X5 89 (0, 0)) ∧ Below w.heap.size w w') (ds := [4]) #[false, false, false, false, false] (by kernel_rfl) rfl rfl ⟨(blk_drew H5.out), (below_step HB5.out (below_drew1 (Below.refl _ _)))⟩ (fun hHeld => ?_)
  refine with_tabW enc.tab7 enc.bits7 (fun HT_ HW_ => ?_)
  refine pure_ (i := 0) (N := some 29) (v := ?_) (a' := ?_) #[true, false, false, false, false] rfl rfl (any_of HT_.out (by kernel_rfl)) (fun _ _ _ h => h) (Or.inl ⟨by rfl, ?_⟩) ?_ ?_
  rotate_left
  · intro w'
    go_simp
    with_reducible rfl
  rotate_left
  · simp only [Act.put, List.setIfInBounds_toArray, List.set_cons_zero, List.set_cons_succ, i64_w, i32_w]
    rfl
  refine pure_ (i := 1) (N := some 30) (v := ?_) (a' := ?_) #[true, true, false, false, false] rfl rfl (any_of HT_.out (by kernel_rfl)) (fun _ _ _ h => h) (Or.inl ⟨by rfl, ?_⟩) ?_ ?_
  rotate_left
  · intro w'
    go_simp
    with_reducible rfl
  rotate_left
  · simp only [Act.put, List.setIfInBounds_toArray, List.set_cons_zero, List.set_cons_succ, i64_w, i32_w]
    rfl
  refine one_ (i := 2) (N := some 31) #[true, true, true, false, false] rfl rfl (one_of HT_.out (by kernel_rfl)) (by decide) (fun K hK => ?_)
  refine goes_ Try.func65 (by kernel_rfl) rfl #[.slice (some ⟨w.heap.size, 8, none⟩) 116 120] (by rfl) rfl rfl (by (try simp only [List.map_toArray, List.map_cons, List.map_nil]); first | done | rfl | (simp only [List.length_drop, List.length_take]; rfl)) ?_
  refine (journal_sum.calls k (some ⟨w.heap.size, 8, none⟩) 120 (encT g n kd l) s w5.drew (C_part _ H5d.out (fun j x hx => by obtain ⟨h1, rfl⟩ := encT_get hx; exact HC.out _ (by omega)) (by rw [encT_len]; decide)) (by rw [encT_len]; decide) hsm).mono ?_
  rintro e w7 ⟨rfl, hd⟩
  have H7 := Aside0.mk (heap_below hd.below H5d.out)
  have HB7 := Aside0.mk (below_step HB5d.out hd.below)
  clear hd
  refine ⟨_, rfl, ?_⟩
  refine hK.out _ _ ⟨H7.out, HB7.out⟩ (fun hHeld => ?_)
  clear hK K
  refine norm_ (a' := ?_) ?_ ?_
  rotate_left
  · show Act.put _ (some 31) _ = _
    simp only [Act.put, List.setIfInBounds_toArray, List.set_cons_zero, List.set_cons_succ, i64_w, i32_w]
    rfl
  refine pure_ (i := 3) (N := some 32) (v := ?_) (a' := ?_) #[true, true, true, true, false] rfl rfl (any_of HT_.out (by kernel_rfl)) (fun _ _ _ h => h) (Or.inl ⟨by rfl, ?_⟩) ?_ ?_
  rotate_left
  · intro w'
    go_simp
    with_reducible rfl
  rotate_left
  · simp only [Act.put, List.setIfInBounds_toArray, List.set_cons_zero, List.set_cons_succ, i64_w, i32_w]
    rfl
  refine last_ (i := 4) (N := some 33) #[true, true, true, true, true] rfl rfl (one_of HT_.out (by kernel_rfl)) (by decide) (fun K hK => ?_)
  refine goes_ Try.func64 (by kernel_rfl) rfl #[.slice (some ⟨w.heap.size, 4, none⟩) 4 124, .int .u64 (IntKind.u64.wrap s)] (by rfl) rfl rfl (by (try simp only [List.map_toArray, List.map_cons, List.map_nil]); first | done | rfl | (simp only [List.length_drop, List.length_take]; rfl)) ?_
  have hw : IntKind.u64.wrap s = s := by unfold IntKind.wrap; simp [IntKind.signed, IntKind.bits]; omega
  refine (put_ w.heap.size 4 4 124 (IntKind.u64.wrap s) X5 89 _ (by decide) (by decide) (by rw [hw]; omega) H7.out (by rw [HS5.out]; decide)).mono ?_
  rintro e w8 ⟨rfl, ⟨X6, hX6, hP6⟩, hb8⟩
  rw [hw] at hP6
  have H8 := Aside0.mk hX6
  have HC8 := Aside0.mk (enc_last HC.out hP6)
  have HB8 := Aside0.mk (below_at HB7.out (hb8 _ (Nat.le_refl _)))
  clear hX6 hP6 hb8 hw
  refine ⟨_, rfl, ?_⟩
  refine hK.out _ _ ?_
  clear hK K
  refine norm_ (a' := ?_) ?_ ?_
  rotate_left
  · show Act.put _ (some 33) _ = _
    simp only [Act.put, List.setIfInBounds_toArray, List.set_cons_zero, List.set_cons_succ, i64_w, i32_w]
    rfl
  refine done_ (done_of HT_.out (by kernel_rfl)) ?_
  clear HT_ HW_ hHeld H7 HB7 H5 HB5 H5d HB5d HC
  go_wp2
  go_ret
  exact ⟨rfl, ⟨X6, H8.out, HC8.out⟩, HB8.out⟩

def stepV (x : Int) : Int := Go.bits .xor .u32 (x / 2) ((3988292384 * (Go.bits .and .u32 x 1)) % 4294967296)
def stepsV : Nat → Int → Int
  | 0, x => x
  | m + 1, x => stepsV m (stepV x)
def sumL (x : Int) : List Int → Int
  | [] => x
  | b :: l => sumL (stepsV 8 (Go.bits .xor .u32 x (b % 4294967296))) l
def sumV (l : List Int) : Int := Go.bits .xor .u32 4294967295 (sumL 4294967295 l)
theorem w64j (n : Int) (h : -9223372036854775808 ≤ n ∧ n ≤ 9223372036854775807) : wrap64 n = n := by unfold wrap64; omega
theorem sum_l1 (l : List Int) (n i : Int) (K : Nat) : ∀ (m : Nat), m ≤ 8 → ∀ x, journal_sum.l1 (K + m + 1) x l n i (8 - (m : Int)) = journal_sum.l0 K (stepsV m x) l n (wrap64 (i + 1))
  | 0, _, x => by
    rw [journal_sum.l1, if_neg (by omega)]
    rfl
  | m + 1, hm, x => by
    rw [show K + (m + 1) + 1 = (K + m + 1) + 1 by omega, journal_sum.l1, if_pos (by omega), show wrap64 (8 - ((m + 1 : Nat) : Int) + 1) = 8 - (m : Int) by rw [w64j _ (by omega)]; omega, sum_l1 l n i K m (by omega)]
    rfl
theorem sum_l0 (l : List Int) (hl : l.length ≤ 4096) (K : Nat) : ∀ (r : List Int) (p : List Int), p ++ r = l → ∀ x, journal_sum.l0 (K + 10 * r.length + 1) x l (l.length : Int) (p.length : Int) = some (Go.bits .xor .u32 4294967295 (sumL x r))
  | [], p, e, x => by
    rw [List.append_nil] at e
    subst e
    rw [journal_sum.l0, if_neg (by omega)]
    rfl
  | b :: r, p, e, x => by
    have hlen : l.length = p.length + (r.length + 1) := by rw [← e, List.length_append, List.length_cons]
    have hr : rd l (p.length : Int) = b := by
      rw [← e]; simp [rd]
    rw [List.length_cons, journal_sum.l0, if_pos (by omega), if_pos (by omega), if_pos (by omega), hr]
    rw [show K + 10 * (r.length + 1) = (K + 10 * r.length + 1) + 8 + 1 by omega]
    have h8 := sum_l1 l (l.length : Int) (p.length : Int) (K + 10 * r.length + 1) 8 (Nat.le_refl _) (Go.bits .xor .u32 x (b % 4294967296))
    rw [show (8 : Int) - ((8 : Nat) : Int) = 0 by decide] at h8
    rw [h8]
    have h := sum_l0 l hl K r (p ++ [b]) (by rw [List.append_assoc]; exact e) (stepsV 8 (Go.bits .xor .u32 x (b % 4294967296)))
    rw [List.length_append, List.length_singleton] at h
    rw [w64j _ (by omega), show (p.length : Int) + 1 = ((p.length + 1 : Nat) : Int) by omega, h]
    rfl
theorem sum_is (l : List Int) (hl : l.length ≤ 4096) (K : Nat) : journal_sum.f (K + 10 * l.length + 1) l = some (sumV l) := sum_l0 l hl K l [] rfl 4294967295
def journal_encode.f (a0 a1 a2 : Int) (l3 : List Int) : Option (List Int) :=
  if l3.length ≤ 112 ∧ (0 ≤ a0 ∧ a0 ≤ 18446744073709551615) ∧ (0 ≤ a1 ∧ a1 ≤ 4096) ∧ (0 ≤ sumV (encT a0 a1 a2 l3) ∧ sumV (encT a0 a1 a2 l3) ≤ 4294967295) then some (encV (sumV (encT a0 a1 a2 l3)) a0 a1 a2 l3) else none
theorem encV_len (s g n kd : Int) (l : List Int) : (encV s g n kd l).length = 128 := by simp [encV]
theorem encV_get {s g n kd : Int} {l : List Int} {j : Nat} {x : Int} (h : (encV s g n kd l)[j]? = some x) : j < 128 ∧ x = encAt s g n kd l j := by
  have hj := (List.getElem?_eq_some_iff.1 h).1
  rw [encV_len] at hj
  refine ⟨hj, ?_⟩
  unfold encV at h
  rw [List.getElem?_map, List.getElem?_range hj] at h
  exact (Option.some.inj h).symm
theorem journal_encode.calls (a0 a1 a2 : Int) (A3 : Option Addr) (c3 : Nat) (l3 : List Int) (r : List Int) (w : World) (hr3 : Kd.C (Kd.int .u8) w A3 l3.length l3) (hc3 : l3.length ≤ c3) (h : journal_encode.f a0 a1 a2 l3 = some r) :
    Calls Try.prog 44 #[.int .u64 a0, .int .i64 a1, .int .u8 a2, .slice A3 l3.length c3] w fun e w' => ∃ v0_ : Value, e = .returned v0_ ∧ Kd.V (Kd.int .u8) 5 w' w.heap.size (fun k_ => w.heap.size ≤ k_) v0_ r ∧ Below w.heap.size w w' := by
  unfold journal_encode.f at h
  have hsm := sum_is (encT a0 a1 a2 l3) (by rw [encT_len]; decide) 0
  generalize sumV (encT a0 a1 a2 l3) = s at h hsm
  by_cases hc : l3.length ≤ 112 ∧ (0 ≤ a0 ∧ a0 ≤ 18446744073709551615) ∧ (0 ≤ a1 ∧ a1 ≤ 4096) ∧ (0 ≤ s ∧ s ≤ 4294967295)
  · rw [if_pos hc] at h
    obtain rfl := Option.some.inj h
    refine (encode_ _ a0 a1 a2 s A3 c3 l3 w hr3 hc3 hc.2.1 hc.2.2.1 hc.1 hsm hc.2.2.2).mono ?_
    rintro e w' ⟨rfl, ⟨X, hX, hg⟩, hb⟩
    have hF := blk_F (k := .u8) (encV s a0 a1 a2 l3) hX (by rw [encV_len]; decide) (fun j x hx => by obtain ⟨h1, rfl⟩ := encV_get hx; exact hg j h1)
    have hV := Kd.V_mk (e := 5) (base := w.heap.size) (c := 128) (by rw [encV_len]; exact Nat.le_refl _) (Kd.F_mono hF (fun k_ hk => by rw [hk]; exact Nat.le_refl _) : Kd.F (Kd.int .u8) w' (fun k_ => w.heap.size ≤ k_) _ _ _)
    rw [encV_len] at hV
    exact ⟨_, rfl, hV, hb⟩
  · rw [if_neg hc] at h; cases h
end Go.Proofs.Ytljmdkeeppikhaa.Q
