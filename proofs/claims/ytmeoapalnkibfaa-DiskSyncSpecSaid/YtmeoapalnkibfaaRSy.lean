/- By hand: what the reference's Sync computes (layer 4). -/
import Derived.Test.YtmeoapalnkibfaaDkA
namespace Go.Proofs.Ytmeoapalnkibfaa.Q
open Go.RowKit Go.Proofs.YtmeoapalnkibfaaW.PrintWords Go.Proofs.YtmeoapalnkibfaaW.PrintLast Go.Proofs.YtmeoapalnkibfaaW.PrintMore
attribute [local go_sem] max2_int min2_int max_two min_two
set_option linter.unusedVariables false
set_option linter.unusedSimpArgs false

def rsync.T7 : Bool × List (List Nat × List Nat) := (true, [([], []), ([], []), ([1], [1]), ([0, 2], [0, 2]), ([], []), ([4], [4]), ([3, 5], [3, 5]), ([], []), ([7, 6, 3, 0, 1, 2, 3, 4, 5, 6, 7], [6, 7])])
def rsync.B7 : List Nat := [0, 0, 2, 7, 0, 16, 63, 0, 255]
theorem rsync.tab7 : rtab .any (opsOf Try.f24 7) = rsync.T7 := by kernel_rfl
theorem rsync.bits7 : waitsOk rsync.T7.2 rsync.B7 = true := by kernel_rfl
def rsync.T11 : Bool × List (List Nat × List Nat) := (true, [([], []), ([0], [0]), ([], []), ([2], [2]), ([], []), ([3, 4], [3, 4]), ([5], [5]), ([6], [6]), ([], []), ([8], [8]), ([], []), ([9, 10], [9, 10]), ([11], [11]), ([12], [12]), ([1, 7, 0, 1, 2, 3, 4, 5, 6, 7, 8, 9, 10, 11, 12, 13], [1, 7]), ([14, 13, 0, 1, 2, 3, 4, 5, 6, 7, 8, 9, 10, 11, 12, 13], [13, 14])])
def rsync.B11 : List Nat := [0, 1, 0, 4, 0, 28, 60, 124, 0, 256, 0, 1792, 3840, 7936, 16383, 32767]
theorem rsync.tab11 : rtab .any (opsOf Try.f24 11) = rsync.T11 := by kernel_rfl
theorem rsync.bits11 : waitsOk rsync.T11.2 rsync.B11 = true := by kernel_rfl
def rsync.T14 : Bool × List (List Nat × List Nat) := (true, [([], []), ([0], [0]), ([], []), ([2], [2]), ([], []), ([], []), ([5], [5]), ([6], [6]), ([4, 7], [4, 7]), ([], []), ([9], [9]), ([], []), ([11], [11]), ([10, 12], [10, 12]), ([13], [13]), ([14], [14]), ([8, 15, 8], [8, 15]), ([1, 3, 0, 1, 2, 3, 4, 5, 6, 7, 8, 9, 10, 11, 12, 13, 14, 15, 16], [1, 3]), ([17, 16, 16, 0, 1, 2, 3, 4, 5, 6, 7, 8, 9, 10, 11, 12, 13, 14, 15, 16], [16, 17])])
def rsync.B14 : List Nat := [0, 1, 0, 4, 0, 0, 32, 96, 240, 0, 512, 0, 2048, 7680, 15872, 32256, 65520, 131071, 262143]
theorem rsync.tab14 : rtab .any (opsOf Try.f24 14) = rsync.T14 := by kernel_rfl
theorem rsync.bits14 : waitsOk rsync.T14.2 rsync.B14 = true := by kernel_rfl

theorem Two.far {w : World} {a b : Obj} {W : World} (h : Two w a b W) {g : Nat} (hg : w.heap.size + 1 < g) (i : Nat) (v : Value) : Two w a b (W.setCell ⟨g, i, none⟩ v) :=
  ⟨(Below.heap_setCell W ⟨g, i, none⟩ v w.heap.size (by show w.heap.size ≠ g; omega)).trans h.1, (Below.heap_setCell W ⟨g, i, none⟩ v (w.heap.size + 1) (by show w.heap.size + 1 ≠ g; omega)).trans h.2.1, below_setCell h.2.2 (by omega) _ _⟩
theorem Two.below_size {w : World} {a b : Obj} {W : World} (h : Two w a b W) : w.heap.size ≤ W.heap.size := h.2.2.size
theorem Two.grow {w : World} {a b : Obj} {W V : World} (h : Two w a b W) {row : Option Nat} (hg : W.grownBy V row) (hr : ∀ k, row = some k → w.heap.size + 1 < k) (hb : Below w.heap.size w V) : Two w a b V :=
  ⟨blk_grown h.1 hg (by intro he; have := hr _ he.symm; omega), blk_grown h.2.1 hg (by intro he; have := hr _ he.symm; omega), hb⟩

set_option maxHeartbeats 2000000 in
set_option maxRecDepth 100000 in
theorem rsync_no (P : Nat → Prop) (A0 : Option Addr) (c0 : Nat) (l0 : List (List Int)) (A1 : Option Addr) (c1 : Nat) (l1 : List SW) (a : Int) (s : Bool) (w : World) (hr0 : Kd.C kSec w A0 l0.length l0) (hc0 : l0.length ≤ c0) (hr1 : Kd.C kW w A1 l1.length l1) (hc1 : l1.length ≤ c1) (hd : dchk l0 l1 a = 40) :
    Calls Try.prog 24 #[.agg (dkV A0 l0.length c0 A1 l1.length c1 a s)] w (DskOut w P ([], [], 0, false, 40)) := by
  have hu := Try.underlying25
  have HT := Aside0.mk (Two.new w (.cells (dkV A0 l0.length c0 A1 l1.length c1 a s) 25 (0, 0)) (.cells dk0 25 (0, 0)))
  have HC := Aside0.mk (fastiref04_Check.calls (l0.length + l1.length + 3) A0 c0 l0 A1 c1 l1 a s 40 _ (Kd.C_below hr0 HT.out.2.2) hc0 (Kd.C_below hr1 HT.out.2.2) hc1 ((chk_evn l0 l1 a s _ (Nat.le_refl _)).trans (congrArg some hd)))
  clear hr0 hr1 hc0 hc1 hd
  go_enter Try.func24, Try.ntmps24
  go_wp2_with fail
  refine HC.out.mono ?_
  rintro e w1 ⟨rfl, hb⟩
  have HT1 := Aside0.mk (HT.out.below hb)
  clear hb HC HT
  have c0_ := (blk_cell HT1.out.1 0).trans rfl
  have c1_ := (blk_cell HT1.out.1 1).trans rfl
  have c2_ := (blk_cell HT1.out.1 2).trans rfl
  have c3_ := (blk_cell HT1.out.1 3).trans rfl
  have d0_ := (blk_cell HT1.out.2.1 0).trans rfl
  have df0_ := blk_frozen HT1.out.2.1 0
  have d1_ := (blk_cell HT1.out.2.1 1).trans rfl
  have df1_ := blk_frozen HT1.out.2.1 1
  have d2_ := (blk_cell HT1.out.2.1 2).trans rfl
  have df2_ := blk_frozen HT1.out.2.1 2
  have d3_ := (blk_cell HT1.out.2.1 3).trans rfl
  have df3_ := blk_frozen HT1.out.2.1 3
  go_wp2
  have hblk := blk_put (blk_put (blk_put (blk_put HT1.out.2.1 0 (.slice none 0 0) rfl) 1 (.slice none 0 0) rfl) 2 (.int .i64 0) rfl) 3 (.bool false) rfl
  refine bodyPost_ret (results_ct rfl _ _ (w.heap.size + 1) 25 dk0 (0, 0) _ rfl hblk hu rfl (by kernel_rfl)) rfl ?_
  exact ⟨_, _, rfl, Kd.V_nil _ _ _ _ _, Kd.V_nil _ _ _ _ _, below_setCell (below_setCell (below_setCell (below_setCell HT1.out.2.2 (Nat.le_succ _) _ _) (Nat.le_succ _) _ _) (Nat.le_succ _) _ _) (Nat.le_succ _) _ _⟩

set_option maxHeartbeats 2000000 in
set_option maxRecDepth 100000 in
theorem rsync_st (P : Nat → Prop) (A0 : Option Addr) (c0 : Nat) (l0 : List (List Int)) (A1 : Option Addr) (c1 : Nat) (l1 : List SW) (a : Int) (s : Bool) (w : World) (hr0 : Kd.C kSec w A0 l0.length l0) (hc0 : l0.length ≤ c0) (hr1 : Kd.C kW w A1 l1.length l1) (hc1 : l1.length ≤ c1) (hd : dchk l0 l1 a = 0) :
    Calls Try.prog 24 #[.agg (dkV A0 l0.length c0 A1 l1.length c1 a true)] w (DskOut w P ([], [], 0, false, 40)) := by
  have hu := Try.underlying25
  have HT := Aside0.mk (Two.new w (.cells (dkV A0 l0.length c0 A1 l1.length c1 a true) 25 (0, 0)) (.cells dk0 25 (0, 0)))
  have HC := Aside0.mk (fastiref04_Check.calls (l0.length + l1.length + 3) A0 c0 l0 A1 c1 l1 a true 0 _ (Kd.C_below hr0 HT.out.2.2) hc0 (Kd.C_below hr1 HT.out.2.2) hc1 ((chk_evn l0 l1 a true _ (Nat.le_refl _)).trans (congrArg some hd)))
  clear hr0 hr1 hc0 hc1 hd
  go_enter Try.func24, Try.ntmps24
  go_wp2_with fail
  refine HC.out.mono ?_
  rintro e w1 ⟨rfl, hb⟩
  have HT1 := Aside0.mk (HT.out.below hb)
  clear hb HC HT
  have c0_ := (blk_cell HT1.out.1 0).trans rfl
  have c1_ := (blk_cell HT1.out.1 1).trans rfl
  have c2_ := (blk_cell HT1.out.1 2).trans rfl
  have c3_ := (blk_cell HT1.out.1 3).trans rfl
  have d0_ := (blk_cell HT1.out.2.1 0).trans rfl
  have df0_ := blk_frozen HT1.out.2.1 0
  have d1_ := (blk_cell HT1.out.2.1 1).trans rfl
  have df1_ := blk_frozen HT1.out.2.1 1
  have d2_ := (blk_cell HT1.out.2.1 2).trans rfl
  have df2_ := blk_frozen HT1.out.2.1 2
  have d3_ := (blk_cell HT1.out.2.1 3).trans rfl
  have df3_ := blk_frozen HT1.out.2.1 3
  go_wp2
  have hblk := blk_put (blk_put (blk_put (blk_put HT1.out.2.1 0 (.slice none 0 0) rfl) 1 (.slice none 0 0) rfl) 2 (.int .i64 0) rfl) 3 (.bool false) rfl
  refine bodyPost_ret (results_ct rfl _ _ (w.heap.size + 1) 25 dk0 (0, 0) _ rfl hblk hu rfl (by kernel_rfl)) rfl ?_
  exact ⟨_, _, rfl, Kd.V_nil _ _ _ _ _, Kd.V_nil _ _ _ _ _, below_setCell (below_setCell (below_setCell (below_setCell HT1.out.2.2 (Nat.le_succ _) _ _) (Nat.le_succ _) _ _) (Nat.le_succ _) _ _) (Nat.le_succ _) _ _⟩

set_option maxHeartbeats 4000000 in
set_option maxRecDepth 100000 in
theorem rsync_neg (P : Nat → Prop) (A0 : Option Addr) (c0 : Nat) (l0 : List (List Int)) (A1 : Option Addr) (c1 : Nat) (l1 : List SW) (a : Int) (s : Bool) (w : World) (h0 : Kd.V kSec 35 w w.heap.size P (.slice A0 l0.length c0) l0) (h1 : Kd.V kW 54 w w.heap.size P (.slice A1 l1.length c1) l1) (hr : runsV l0 l1 a s = true) (ha0 : ¬ 0 ≤ a) :
    Calls Try.prog 24 #[.agg (dkV A0 l0.length c0 A1 l1.length c1 a s)] w (DskOut w (fun k => P k ∨ w.heap.size ≤ k) (perfV l0 l1, [], a, false, 0)) := by
  have hu := Try.underlying25
  have hu22 := Try.underlying22
  obtain ⟨⟨hn1, hn2⟩, hn3, hn4, hn5, haa, hs⟩ := runs_ok hr
  have hd := ((runs_iff _ _ _ _).1 hr).1
  subst hs
  have HT := Aside0.mk (Two.new w (.cells (dkV A0 l0.length c0 A1 l1.length c1 a false) 25 (0, 0)) (.cells dk0 25 (0, 0)))
  have HC := Aside0.mk (fastiref04_Check.calls (l0.length + l1.length + 3) A0 c0 l0 A1 c1 l1 a false 0 _ (Kd.C_below (Kd.V_reads' h0).2.2 HT.out.2.2) (Kd.V_reads' h0).2.1 (Kd.C_below (Kd.V_reads' h1).2.2 HT.out.2.2) (Kd.V_reads' h1).2.1 ((chk_evn l0 l1 a false _ (Nat.le_refl _)).trans (congrArg some hd)))
  have HV0 := Aside0.mk (Kd.F_bound (Kd.V_F h0))
  have HV1 := Aside0.mk (Kd.F_bound (Kd.V_F h1))
  have Hn4 := Aside0.mk hn4
  have Hn5 := Aside0.mk hn5
  have Hl := Aside0.mk (show (1 ≤ l0.length ∧ l0.length ≤ 4096) ∧ l1.length ≤ 4096 from ⟨⟨hn1, hn2⟩, hn3⟩)
  have Haa := Aside0.mk haa
  clear h0 h1 hr hn1 hn2 hn3 hn4 hn5 haa hd
  go_enter Try.func24, Try.ntmps24
  go_wp2_with fail
  refine HC.out.mono ?_
  rintro e w1 ⟨rfl, hb⟩
  have HT1 := Aside0.mk (HT.out.below hb)
  clear hb HC HT
  have c0_ := (blk_cell HT1.out.1 0).trans rfl
  have c1_ := (blk_cell HT1.out.1 1).trans rfl
  have c2_ := (blk_cell HT1.out.1 2).trans rfl
  have c3_ := (blk_cell HT1.out.1 3).trans rfl
  go_upto_region 7 with fail
  clear c0_ c1_ c2_ c3_
  refine start_ (n := 9) (S := (fun w' => Two w (.cells (dkV A0 l0.length c0 A1 l1.length c1 a false) 25 (0, 0)) (.cells dk0 25 (0, 0)) w')) (ds := [8]) #[false, false, false, false, false, false, false, false, false] (by kernel_rfl) rfl rfl (HT1.out.below (below_drew1 (Below.refl _ _))) (fun hHeld => ?_)
  refine with_tabW rsync.tab7 rsync.bits7 (fun HT_ HW_ => ?_)
  generalize World.drew _ = Wd at hHeld ⊢
  replace hHeld : Two w (.cells (dkV A0 l0.length c0 A1 l1.length c1 a false) 25 (0, 0)) (.cells dk0 25 (0, 0)) Wd := hHeld
  have HTd := Aside0.mk hHeld
  have hlt := Aside0.mk hHeld.lt
  refine pure_ (i := 1) (N := some 33) (v := ?_) (a' := ?_) #[false, true, false, false, false, false, false, false, false] rfl rfl (any_of HT_.out (by kernel_rfl)) (fun _ _ _ h => h) (Or.inl ⟨by rfl, ?_⟩) ?_ ?_
  rotate_left
  · intro w'
    go_simp
    with_reducible rfl
  rotate_left
  · simp only [Act.put, List.setIfInBounds_toArray, List.set_cons_zero, List.set_cons_succ, i64_w, i32_w]
    rfl
  refine pure_ (i := 4) (N := some 36) (v := ?_) (a' := ?_) #[false, true, false, false, true, false, false, false, false] rfl rfl (any_of HT_.out (by kernel_rfl)) (fun _ _ _ h => h) (Or.inl ⟨by rfl, ?_⟩) ?_ ?_
  rotate_left
  · intro w'
    go_simp
    with_reducible rfl
  rotate_left
  · simp only [Act.put, List.setIfInBounds_toArray, List.set_cons_zero, List.set_cons_succ, i64_w, i32_w]
    rfl
  refine take_ (i := 2) (N := some 34) (v := ?_) (a' := ?_) #[false, true, true, false, true, false, false, false, false] rfl rfl (take_ofW HT_.out HW_.out (by kernel_rfl)) (fun _ _ _ h => h) (Or.inl ⟨by rfl, ?_⟩) hHeld ?_ ?_
  rotate_left
  · rintro w' hs
    have t0_ := (blk_cell hs.1 0).trans rfl
    have t1_ := (blk_cell hs.1 1).trans rfl
    have t2_ := (blk_cell hs.1 2).trans rfl
    have t3_ := (blk_cell hs.1 3).trans rfl
    go_simp
    with_reducible rfl
  rotate_left
  · simp only [Act.put, List.setIfInBounds_toArray, List.set_cons_zero, List.set_cons_succ, i64_w, i32_w]
    rfl
  refine take_ (i := 5) (N := some 37) (v := ?_) (a' := ?_) #[false, true, true, false, true, true, false, false, false] rfl rfl (take_ofW HT_.out HW_.out (by kernel_rfl)) (fun _ _ _ h => h) (Or.inl ⟨by rfl, ?_⟩) hHeld ?_ ?_
  rotate_left
  · rintro w' hs
    have t0_ := (blk_cell hs.1 0).trans rfl
    have t1_ := (blk_cell hs.1 1).trans rfl
    have t2_ := (blk_cell hs.1 2).trans rfl
    have t3_ := (blk_cell hs.1 3).trans rfl
    go_simp
    with_reducible rfl
  rotate_left
  · simp only [Act.put, List.setIfInBounds_toArray, List.set_cons_zero, List.set_cons_succ, i64_w, i32_w]
    rfl
  refine join_ (σ := Value × Option Addr × Nat × Nat) 1 #[true, true, true, true, true, true, true, true, false] (fun s_ => [(32, s_.1), (35, .slice s_.2.1 l0.length s_.2.2.1), (38, .agg #[.slice s_.2.1 l0.length s_.2.2.1, .slice none 0 0, .int .i64 a, .bool false]), (6, .pointer (some ⟨s_.2.2.2, 0, none⟩))]) (fun s_ W => Two w (.cells (dkV A0 l0.length c0 A1 l1.length c1 a false) 25 (0, 0)) (.cells dk0 25 (0, 0)) W ∧ W.heap[s_.2.2.2]? = some (.cells dk0 25 (0, 0)) ∧ w.heap.size + 1 < s_.2.2.2 ∧ Kd.N kSec 35 W w.heap.size (fun k => (P k ∧ k < w.heap.size) ∨ (w.heap.size + 2 ≤ k ∧ k ≠ s_.2.2.2)) (.slice s_.2.1 l0.length s_.2.2.1) l0) ?_ ?_
  rotate_left
  · intro HJ0
    have HJ := Aside0.mk HJ0
    clear HJ0
    refine two_ (i := 0) (j := 7) (Ni := some 32) (Nj := some 6) #[true, true, true, false, true, true, false, false, false] #[false, true, true, false, true, true, false, true, false] rfl rfl rfl rfl (two_of HT_.out (by kernel_rfl)) (by decide) (by decide) (fun K hK => ?_) (fun K hK => ?_)
    · skip
      refine value_ (w1 := ?_) (v := ?_) (by rfl) rfl ?_ ?_
      rotate_left
      rotate_left
      · go_simp
        refine And.intro ?_ ?_ <;> rfl
      have hN0_ := Kd.N_lower (N_made0 kSec 35 Wd (fun k => (P k ∧ k < w.heap.size) ∨ w.heap.size + 2 ≤ k) (Or.inr (show w.heap.size + 2 ≤ Wd.heap.size from hlt.out))) (show w.heap.size ≤ Wd.heap.size from (Two.below_size hHeld))
      have hN0 := Aside0.mk hN0_
      clear hN0_
      replace hHeld : Two w (.cells (dkV A0 l0.length c0 A1 l1.length c1 a false) 25 (0, 0)) (.cells dk0 25 (0, 0)) Wd := hHeld
      refine hK.out _ _ (Two.alloc hHeld _) (fun hHeld => ?_)
      clear hK K
      refine norm_ (a' := ?_) ?_ ?_
      rotate_left
      · show Act.put _ (some 32) _ = _
        simp only [Act.put, List.setIfInBounds_toArray, List.set_cons_zero, List.set_cons_succ, i64_w, i32_w]
        rfl
      refine two_ (i := 3) (j := 7) (Ni := some 35) (Nj := some 6) #[true, true, true, true, true, true, false, false, false] #[true, true, true, false, true, true, false, true, false] rfl rfl rfl rfl (two_of HT_.out (by kernel_rfl)) (by decide) (by decide) (fun K hK => ?_) (fun K hK => ?_)
      · skip
        refine Kd.N_append_rows_step kSec w.heap.size (by rfl) _ _ 22 35 (.slice none 0 0) 24 rfl hu22 infS rfl (by decide) (by decide) (.slice (some ⟨Wd.heap.size, 0, none⟩) 0 0) [] l0 A0 l0.length c0 (fun k => (P k ∧ k < w.heap.size) ∨ w.heap.size + 2 ≤ k) (fun k => P k ∧ k < w.heap.size) rfl rfl hN0.out (Kd.F_below HV0.out (show Below w.heap.size w _ from hHeld.2.2)) ?_ ?_ (show Below w.heap.size w _ from hHeld.2.2) (hHeld.2.2).size ?_ ?_
        · exact fun k hk => ⟨.inl hk, by have h5 := hk.2; have h6 := hlt.out; simp [Value.ownBlock]; omega⟩
        · intro k hk; have h5 := hHeld.2.2.size; right; have h6 := hlt.out; simp only [World.size_alloc] at hk; omega
        · have h5 := Hl.out; rw [List.length_nil, Nat.zero_add]; omega
        intro v' w3 hN hb hgrow hat
        have hNa := Aside0.mk (show Kd.N kSec 35 w3 w.heap.size (fun k => (P k ∧ k < w.heap.size) ∨ w.heap.size + 2 ≤ k) v' l0 from by simpa using hN)
        clear hN hN0
        obtain ⟨Aa, ca, rfl⟩ := Kd.N_slice hNa.out
        have hT3 : Two w (.cells (dkV A0 l0.length c0 A1 l1.length c1 a false) 25 (0, 0)) (.cells dk0 25 (0, 0)) w3 := Two.grow hHeld hgrow (by simp [Value.ownBlock]; have h6 := hlt.out; omega) hb
        refine hK.out _ _ hT3 (fun hHeld => ?_)
        clear hK K
        refine norm_ (a' := ?_) ?_ ?_
        rotate_left
        · show Act.put _ (some 35) _ = _
          simp only [Act.put, List.setIfInBounds_toArray, List.set_cons_zero, List.set_cons_succ, i64_w, i32_w]
          rfl
        refine pure_ (i := 6) (N := some 38) (v := ?_) (a' := ?_) #[true, true, true, true, true, true, true, false, false] rfl rfl (any_of HT_.out (by kernel_rfl)) (fun _ _ _ h => h) (Or.inl ⟨by rfl, ?_⟩) ?_ ?_
        rotate_left
        · intro w'
          go_simp
          with_reducible rfl
        rotate_left
        · simp only [Act.put, List.setIfInBounds_toArray, List.set_cons_zero, List.set_cons_succ, i64_w, i32_w]
          rfl
        refine one_ (i := 7) (N := some 6) #[true, true, true, true, true, true, true, true, false] rfl rfl (one_of HT_.out (by kernel_rfl)) (by decide) (fun K hK => ?_)
        refine value_ (w1 := ?_) (v := ?_) (by rfl) rfl ?_ ?_
        rotate_left
        rotate_left
        · go_simp
          refine And.intro ?_ ?_ <;> rfl
        have hX := Aside0.mk (heap_at_new w3 (.cells dk0 25 (0, 0)) _ rfl)
        have hl3 := Aside0.mk (show w.heap.size + 1 < w3.heap.size from hHeld.lt)
        replace hHeld : Two w (.cells (dkV A0 l0.length c0 A1 l1.length c1 a false) 25 (0, 0)) (.cells dk0 25 (0, 0)) w3 := hHeld
        have hNb := Aside0.mk (show Kd.N kSec 35 (w3.alloc (.cells dk0 25 (0, 0))) w.heap.size (fun k => (P k ∧ k < w.heap.size) ∨ (w.heap.size + 2 ≤ k ∧ k ≠ w3.heap.size)) (.slice Aa l0.length ca) l0 from Kd.N_alloc (Kd.N_mono (Kd.N_bound hNa.out) (fun k hk => by rcases hk with ⟨h1 | h1, h2⟩; exact Or.inl h1; exact Or.inr ⟨h1, by omega⟩)) _)
        refine hK.out _ _ (Two.alloc hHeld _) (fun hHeld => ?_)
        clear hK K
        refine norm_ (a' := ?_) ?_ ?_
        rotate_left
        · show Act.put _ (some 6) _ = _
          simp only [Act.put, List.setIfInBounds_toArray, List.set_cons_zero, List.set_cons_succ, i64_w, i32_w]
          rfl
        exact norm_ (by first | (simp only [putAll, Act.put, List.setIfInBounds_toArray, List.set_cons_zero, List.set_cons_succ]; done) | (simp only [putAll, Act.put, List.setIfInBounds_toArray, List.set_cons_zero, List.set_cons_succ]; rfl)) (HJ.out (_, _, _, w3.heap.size) _ ⟨hHeld, hX.out, hl3.out, hNb.out⟩)
      · skip
        refine value_ (w1 := ?_) (v := ?_) (by rfl) rfl ?_ ?_
        rotate_left
        rotate_left
        · go_simp
          refine And.intro ?_ ?_ <;> rfl
        have hX := Aside0.mk (show ((Wd.alloc (.cells #[] 35 (0, 0))).alloc (.cells dk0 25 (0, 0))).heap[Wd.heap.size + 1]? = some (.cells dk0 25 (0, 0)) from heap_at_new (Wd.alloc (.cells #[] 35 (0, 0))) (.cells dk0 25 (0, 0)) _ (by simp))
        replace hHeld : Two w (.cells (dkV A0 l0.length c0 A1 l1.length c1 a false) 25 (0, 0)) (.cells dk0 25 (0, 0)) (Wd.alloc (.cells #[] 35 (0, 0))) := hHeld
        replace hN0 := Aside0.mk (Kd.N_alloc (Kd.N_mono (ok' := (fun k => (P k ∧ k < w.heap.size) ∨ (w.heap.size + 2 ≤ k ∧ k ≠ (Wd.heap.size + 1)))) (Kd.N_bound hN0.out) (fun k hk => by rcases hk with ⟨h1 | h1, h2⟩; exact Or.inl h1; exact Or.inr ⟨h1, by simp only [World.size_alloc] at h2; omega⟩)) (.cells dk0 25 (0, 0)))
        refine hK.out _ _ (Two.alloc hHeld _) (fun hHeld => ?_)
        clear hK K
        refine norm_ (a' := ?_) ?_ ?_
        rotate_left
        · show Act.put _ (some 6) _ = _
          simp only [Act.put, List.setIfInBounds_toArray, List.set_cons_zero, List.set_cons_succ, i64_w, i32_w]
          rfl
        refine one_ (i := 3) (N := some 35) #[true, true, true, true, true, true, false, true, false] rfl rfl (one_of HT_.out (by kernel_rfl)) (by decide) (fun K hK => ?_)
        refine Kd.N_append_rows_step kSec w.heap.size (by rfl) _ _ 22 35 (.slice none 0 0) 24 rfl hu22 infS rfl (by decide) (by decide) (.slice (some ⟨Wd.heap.size, 0, none⟩) 0 0) [] l0 A0 l0.length c0 (fun k => (P k ∧ k < w.heap.size) ∨ (w.heap.size + 2 ≤ k ∧ k ≠ (Wd.heap.size + 1))) (fun k => P k ∧ k < w.heap.size) rfl rfl hN0.out (Kd.F_below HV0.out (show Below w.heap.size w _ from hHeld.2.2)) ?_ ?_ (show Below w.heap.size w _ from hHeld.2.2) (hHeld.2.2).size ?_ ?_
        · exact fun k hk => ⟨.inl hk, by have h5 := hk.2; have h6 := hlt.out; simp [Value.ownBlock]; omega⟩
        · intro k hk; have h5 := hHeld.2.2.size; right; have h6 := hlt.out; simp only [World.size_alloc] at hk; omega
        · have h5 := Hl.out; rw [List.length_nil, Nat.zero_add]; omega
        intro v' w3 hN hb hgrow hat
        have hNa := Aside0.mk (show Kd.N kSec 35 w3 w.heap.size (fun k => (P k ∧ k < w.heap.size) ∨ (w.heap.size + 2 ≤ k ∧ k ≠ (Wd.heap.size + 1))) v' l0 from by simpa using hN)
        clear hN hN0
        obtain ⟨Aa, ca, rfl⟩ := Kd.N_slice hNa.out
        have hT3 : Two w (.cells (dkV A0 l0.length c0 A1 l1.length c1 a false) 25 (0, 0)) (.cells dk0 25 (0, 0)) w3 := Two.grow hHeld hgrow (by simp [Value.ownBlock]; have h6 := hlt.out; omega) hb
        have hX3 := Aside0.mk (blk_grown hX.out hgrow (by simp [Value.ownBlock]))
        refine hK.out _ _ hT3 (fun hHeld => ?_)
        clear hK K
        refine norm_ (a' := ?_) ?_ ?_
        rotate_left
        · show Act.put _ (some 35) _ = _
          simp only [Act.put, List.setIfInBounds_toArray, List.set_cons_zero, List.set_cons_succ, i64_w, i32_w]
          rfl
        refine pure_ (i := 6) (N := some 38) (v := ?_) (a' := ?_) #[true, true, true, true, true, true, true, true, false] rfl rfl (any_of HT_.out (by kernel_rfl)) (fun _ _ _ h => h) (Or.inl ⟨by rfl, ?_⟩) ?_ ?_
        rotate_left
        · intro w'
          go_simp
          with_reducible rfl
        rotate_left
        · simp only [Act.put, List.setIfInBounds_toArray, List.set_cons_zero, List.set_cons_succ, i64_w, i32_w]
          rfl
        exact norm_ (by first | (simp only [putAll, Act.put, List.setIfInBounds_toArray, List.set_cons_zero, List.set_cons_succ]; done) | (simp only [putAll, Act.put, List.setIfInBounds_toArray, List.set_cons_zero, List.set_cons_succ]; rfl)) (HJ.out (_, _, _, (Wd.heap.size + 1)) _ ⟨hHeld, hX3.out, (Nat.lt_succ_of_lt hlt.out), hNa.out⟩)
    · skip
      refine value_ (w1 := ?_) (v := ?_) (by rfl) rfl ?_ ?_
      rotate_left
      rotate_left
      · go_simp
        refine And.intro ?_ ?_ <;> rfl
      have hX := Aside0.mk (heap_at_new Wd (.cells dk0 25 (0, 0)) _ rfl)
      replace hHeld : Two w (.cells (dkV A0 l0.length c0 A1 l1.length c1 a false) 25 (0, 0)) (.cells dk0 25 (0, 0)) Wd := hHeld
      refine hK.out _ _ (Two.alloc hHeld _) (fun hHeld => ?_)
      clear hK K
      refine norm_ (a' := ?_) ?_ ?_
      rotate_left
      · show Act.put _ (some 6) _ = _
        simp only [Act.put, List.setIfInBounds_toArray, List.set_cons_zero, List.set_cons_succ, i64_w, i32_w]
        rfl
      refine one_ (i := 0) (N := some 32) #[true, true, true, false, true, true, false, true, false] rfl rfl (one_of HT_.out (by kernel_rfl)) (by decide) (fun K hK => ?_)
      refine value_ (w1 := ?_) (v := ?_) (by rfl) rfl ?_ ?_
      rotate_left
      rotate_left
      · go_simp
        refine And.intro ?_ ?_ <;> rfl
      have hN0_ := Kd.N_lower (N_made0 kSec 35 (Wd.alloc (.cells dk0 25 (0, 0))) (fun k => (P k ∧ k < w.heap.size) ∨ (w.heap.size + 2 ≤ k ∧ k ≠ Wd.heap.size)) (Or.inr ⟨by simp only [World.size_alloc]; have := hlt.out; omega, by simp⟩)) (show w.heap.size ≤ (Wd.alloc (.cells dk0 25 (0, 0))).heap.size from (Two.below_size hHeld))
      rw [show (Wd.alloc (.cells dk0 25 (0, 0))).heap.size = Wd.heap.size + 1 from by simp] at hN0_
      have hN0 := Aside0.mk hN0_
      clear hN0_
      replace hHeld : Two w (.cells (dkV A0 l0.length c0 A1 l1.length c1 a false) 25 (0, 0)) (.cells dk0 25 (0, 0)) (Wd.alloc (.cells dk0 25 (0, 0))) := hHeld
      refine hK.out _ _ (Two.alloc hHeld _) (fun hHeld => ?_)
      clear hK K
      refine norm_ (a' := ?_) ?_ ?_
      rotate_left
      · show Act.put _ (some 32) _ = _
        simp only [Act.put, List.setIfInBounds_toArray, List.set_cons_zero, List.set_cons_succ, i64_w, i32_w]
        rfl
      replace hX := Aside0.mk (heap_at_old (Wd.alloc (.cells dk0 25 (0, 0))) (.cells #[] 35 (0, 0)) _ _ hX.out)
      refine one_ (i := 3) (N := some 35) #[true, true, true, true, true, true, false, true, false] rfl rfl (one_of HT_.out (by kernel_rfl)) (by decide) (fun K hK => ?_)
      refine Kd.N_append_rows_step kSec w.heap.size (by rfl) _ _ 22 35 (.slice none 0 0) 24 rfl hu22 infS rfl (by decide) (by decide) (.slice (some ⟨(Wd.heap.size + 1), 0, none⟩) 0 0) [] l0 A0 l0.length c0 (fun k => (P k ∧ k < w.heap.size) ∨ (w.heap.size + 2 ≤ k ∧ k ≠ Wd.heap.size)) (fun k => P k ∧ k < w.heap.size) rfl rfl hN0.out (Kd.F_below HV0.out (show Below w.heap.size w _ from hHeld.2.2)) ?_ ?_ (show Below w.heap.size w _ from hHeld.2.2) (hHeld.2.2).size ?_ ?_
      · exact fun k hk => ⟨.inl hk, by have h5 := hk.2; have h6 := hlt.out; simp [Value.ownBlock]; omega⟩
      · intro k hk; have h5 := hHeld.2.2.size; right; have h6 := hlt.out; simp only [World.size_alloc] at hk; omega
      · have h5 := Hl.out; rw [List.length_nil, Nat.zero_add]; omega
      intro v' w3 hN hb hgrow hat
      have hNa := Aside0.mk (show Kd.N kSec 35 w3 w.heap.size (fun k => (P k ∧ k < w.heap.size) ∨ (w.heap.size + 2 ≤ k ∧ k ≠ Wd.heap.size)) v' l0 from by simpa using hN)
      clear hN hN0
      obtain ⟨Aa, ca, rfl⟩ := Kd.N_slice hNa.out
      have hT3 : Two w (.cells (dkV A0 l0.length c0 A1 l1.length c1 a false) 25 (0, 0)) (.cells dk0 25 (0, 0)) w3 := Two.grow hHeld hgrow (by simp [Value.ownBlock]; have h6 := hlt.out; omega) hb
      have hX3 := Aside0.mk (blk_grown hX.out hgrow (by simp [Value.ownBlock]))
      refine hK.out _ _ hT3 (fun hHeld => ?_)
      clear hK K
      refine norm_ (a' := ?_) ?_ ?_
      rotate_left
      · show Act.put _ (some 35) _ = _
        simp only [Act.put, List.setIfInBounds_toArray, List.set_cons_zero, List.set_cons_succ, i64_w, i32_w]
        rfl
      refine pure_ (i := 6) (N := some 38) (v := ?_) (a' := ?_) #[true, true, true, true, true, true, true, true, false] rfl rfl (any_of HT_.out (by kernel_rfl)) (fun _ _ _ h => h) (Or.inl ⟨by rfl, ?_⟩) ?_ ?_
      rotate_left
      · intro w'
        go_simp
        with_reducible rfl
      rotate_left
      · simp only [Act.put, List.setIfInBounds_toArray, List.set_cons_zero, List.set_cons_succ, i64_w, i32_w]
        rfl
      exact norm_ (by first | (simp only [putAll, Act.put, List.setIfInBounds_toArray, List.set_cons_zero, List.set_cons_succ]; done) | (simp only [putAll, Act.put, List.setIfInBounds_toArray, List.set_cons_zero, List.set_cons_succ]; rfl)) (HJ.out (_, _, _, Wd.heap.size) _ ⟨hHeld, hX3.out, hlt.out, hNa.out⟩)
  rintro ⟨v32, Aa, cap, bx⟩ W0 ⟨hHeld, hX, hbx, hN⟩
  obtain ⟨g, cap', he, hg1, hg2, hgo⟩ := N_own (show Kd.N kSec 35 W0 w.heap.size (fun k => (P k ∧ k < w.heap.size) ∨ (w.heap.size + 2 ≤ k ∧ k ≠ bx)) (.slice Aa l0.length cap) l0 from hN) Hl.out.1.1
  cases he
  have HX := Aside0.mk (show W0.heap[bx]? = some (.cells dk0 25 (0, 0)) from hX)
  have HN := Aside0.mk (show Kd.N kSec 35 W0 w.heap.size (fun k => (P k ∧ k < w.heap.size) ∨ (w.heap.size + 2 ≤ k ∧ k ≠ bx)) (.slice (some ⟨g, 0, none⟩) l0.length cap) l0 from hN)
  have Hbx := Aside0.mk (show w.heap.size + 1 < bx from hbx)
  have Hg := Aside0.mk (show w.heap.size + 1 < g ∧ g ≠ bx from by rcases hgo with h5 | h5 <;> (have h6 := hbx; dsimp only at h6 h5; omega))
  have HT0 := Aside0.mk (show Two w (.cells (dkV A0 l0.length c0 A1 l1.length c1 a false) 25 (0, 0)) (.cells dk0 25 (0, 0)) W0 from hHeld)
  clear hX hN hbx hg1 hg2 hgo HTd
  refine norm_ (a' := ?_) ?_ ?_
  rotate_left
  · simp only [putAll, Act.put, List.setIfInBounds_toArray, List.set_cons_zero, List.set_cons_succ]
    rfl
  refine last_ (i := 8) (N := none) #[true, true, true, true, true, true, true, true, true] rfl rfl (one_of HT_.out (by kernel_rfl)) (by decide) (fun K hK => ?_)
  have x0_ := (blk_cell HX.out 0).trans rfl
  have x1_ := (blk_cell HX.out 1).trans rfl
  have x2_ := (blk_cell HX.out 2).trans rfl
  have x3_ := (blk_cell HX.out 3).trans rfl
  have xf0_ := blk_frozen HX.out 0
  have xf1_ := blk_frozen HX.out 1
  have xf2_ := blk_frozen HX.out 2
  have xf3_ := blk_frozen HX.out 3
  refine skip_ (w1 := ?_) (by rfl) rfl ?_ ?_
  rotate_left
  · go_simp
    rfl
  refine hK.out _ _ ?_
  clear hK K
  refine done_ (done_of HT_.out (by kernel_rfl)) ?_
  obtain ⟨w6, hw6⟩ : ∃ x, (((W0.setCell ⟨bx, 0, none⟩ (.slice (some ⟨g, 0, none⟩) l0.length cap)).setCell ⟨bx, 1, none⟩ (.slice none 0 0)).setCell ⟨bx, 2, none⟩ (.int .i64 a)).setCell ⟨bx, 3, none⟩ (.bool false) = x := ⟨_, rfl⟩
  have HT6 := Aside0.mk (show Two w (.cells (dkV A0 l0.length c0 A1 l1.length c1 a false) 25 (0, 0)) (.cells dk0 25 (0, 0)) w6 from hw6 ▸ (Two.far (Two.far (Two.far (Two.far HT0.out Hbx.out 0 (.slice (some ⟨g, 0, none⟩) l0.length cap)) Hbx.out 1 (.slice none 0 0)) Hbx.out 2 (.int .i64 a)) Hbx.out 3 (.bool false)))
  have HX6 := Aside0.mk (show w6.heap[bx]? = some (.cells #[.slice (some ⟨g, 0, none⟩) l0.length cap, .slice none 0 0, .int .i64 a, .bool false] 25 (0, 0)) from hw6 ▸ (blk_put (blk_put (blk_put (blk_put HX.out 0 (.slice (some ⟨g, 0, none⟩) l0.length cap) rfl) 1 (.slice none 0 0) rfl) 2 (.int .i64 a) rfl) 3 (.bool false) rfl))
  have HN6 := Aside0.mk (show Kd.N kSec 35 w6 w.heap.size (fun k => (P k ∧ k < w.heap.size) ∨ (w.heap.size + 2 ≤ k ∧ k ≠ bx)) (.slice (some ⟨g, 0, none⟩) l0.length cap) (perfV l0 (l1.take 0)) from hw6 ▸ (Kd.N_far (p := ⟨bx, 3, none⟩) (Kd.N_far (p := ⟨bx, 2, none⟩) (Kd.N_far (p := ⟨bx, 1, none⟩) (Kd.N_far (p := ⟨bx, 0, none⟩) HN.out (fun k hk => by dsimp only; have h6 := Hbx.out; omega) (.slice (some ⟨g, 0, none⟩) l0.length cap)) (fun k hk => by dsimp only; have h6 := Hbx.out; omega) (.slice none 0 0)) (fun k hk => by dsimp only; have h6 := Hbx.out; omega) (.int .i64 a)) (fun k hk => by dsimp only; have h6 := Hbx.out; omega) (.bool false)))
  rw [hw6]
  clear hw6 HX HN HT0 hHeld hlt HT1 x0_ xf0_ x1_ xf1_ x2_ xf2_ x3_ xf3_
  go_wp2
  go_loopw [7] (fun i wr => ∃ k : Nat, k ≤ l1.length ∧ i = .int .i64 k ∧ Aside0 (Two w (.cells (dkV A0 l0.length c0 A1 l1.length c1 a false) 25 (0, 0)) (.cells dk0 25 (0, 0)) wr) ∧ Aside0 (wr.heap[bx]? = some (.cells #[.slice (some ⟨g, 0, none⟩) l0.length cap, .slice none 0 0, .int .i64 a, .bool false] 25 (0, 0))) ∧ Aside0 (Kd.N kSec 35 wr w.heap.size (fun k => (P k ∧ k < w.heap.size) ∨ (w.heap.size + 2 ≤ k ∧ k ≠ bx)) (.slice (some ⟨g, 0, none⟩) l0.length cap) (perfV l0 (l1.take k)))) (fun i _ => l1.length - (intOf i).toNat)
  case atStart => exact ⟨0, Nat.zero_le _, rfl, HT6, HX6, HN6⟩
  case round =>
    clear HT6 HX6 HN6
    obtain ⟨k, hk, rfl, HT, HX, HN⟩ := hrel
    by_cases hlt : k < l1.length
    · have hkl : (k : Int) < (l1.length : Int) := by omega
      have hk0 : (0 : Int) ≤ (k : Int) := by omega
      have hkn : k < l1.length := by omega
      obtain ⟨ad, c, rfl, hcl, hFK, hcc, _⟩ := Kd.F_get (Kd.F_below HV1.out HT.out.2.2) z54 (k : Int) (by omega) (by omega)
      obtain ⟨Ax, cx, rfl, hxl, hF⟩ := k54_openF hFK
      rw [Int.toNat_natCast] at hcc hxl hF hFK
      have q0 : wr.cell? (ad.add (k * 2)) = some (.int .i64 (l1.getD k z54).f0) := hcc 0 _ rfl
      have q1 : wr.cell? ⟨(ad.add (k * 2)).block, (ad.add (k * 2)).off + 1, none⟩ = some (.slice Ax (l1.getD k z54).f1.length cx) := by
        rw [← add_field _ _ 1 (by omega)]
        exact hcc 1 _ rfl
      have HF := Aside0.mk hF
      clear hcc hFK hF hcl
      have hx := (Hn4.out (l1.getD k z54) (by simp [List.getD, hkn])).1
      have Hset := Aside0.mk (perfV_take l0 l1 k hkn)
      generalize l1.getD k z54 = x at *
      have HQ0 := Aside0.mk q0
      have HQ1 := Aside0.mk q1
      have hx0 := hx.1
      have hx1 := hx.2
      have Hxl := Aside0.mk hxl
      clear q0 q1 hx hxl hkn
      obtain ⟨cur, hblk, hcs⟩ := N_blk HN.out
      have HBk := Aside0.mk hblk
      have Hcs := Aside0.mk hcs
      clear hblk hcs
      go_upto_region 11 with fail
      refine start_ (n := 16) (S := fun w' => Below wr.heap.size wr w') (ds := [15]) #[false, false, false, false, false, false, false, false, false, false, false, false, false, false, false, false] (by kernel_rfl) rfl rfl (below_drew1 (Below.refl _ _)) (fun hHeld => ?_)
      refine with_tabW rsync.tab11 rsync.bits11 (fun HT_ HW_ => ?_)
      generalize World.drew _ = Wd at hHeld ⊢
      replace hHeld : Below wr.heap.size wr Wd := hHeld
      refine pure_ (i := 0) (N := some 44) (v := ?_) (a' := ?_) #[true, false, false, false, false, false, false, false, false, false, false, false, false, false, false, false] rfl rfl (any_of HT_.out (by kernel_rfl)) (fun _ _ _ h => h) (Or.inl ⟨by rfl, ?_⟩) ?_ ?_
      rotate_left
      · intro w'
        go_simp
        with_reducible rfl
      rotate_left
      · simp only [Act.put, List.setIfInBounds_toArray, List.set_cons_zero, List.set_cons_succ, i64_w, i32_w]
        rfl
      refine pure_ (i := 2) (N := some 46) (v := ?_) (a' := ?_) #[true, false, true, false, false, false, false, false, false, false, false, false, false, false, false, false] rfl rfl (any_of HT_.out (by kernel_rfl)) (fun _ _ _ h => h) (Or.inl ⟨by rfl, ?_⟩) ?_ ?_
      rotate_left
      · intro w'
        go_simp
        with_reducible rfl
      rotate_left
      · simp only [Act.put, List.setIfInBounds_toArray, List.set_cons_zero, List.set_cons_succ, i64_w, i32_w]
        rfl
      refine pure_ (i := 4) (N := some 48) (v := ?_) (a' := ?_) #[true, false, true, false, true, false, false, false, false, false, false, false, false, false, false, false] rfl rfl (any_of HT_.out (by kernel_rfl)) (fun _ _ _ h => h) (Or.inl ⟨by rfl, ?_⟩) ?_ ?_
      rotate_left
      · intro w'
        go_simp
        with_reducible rfl
      rotate_left
      · simp only [Act.put, List.setIfInBounds_toArray, List.set_cons_zero, List.set_cons_succ, i64_w, i32_w]
        rfl
      refine pure_ (i := 8) (N := some 52) (v := ?_) (a' := ?_) #[true, false, true, false, true, false, false, false, true, false, false, false, false, false, false, false] rfl rfl (any_of HT_.out (by kernel_rfl)) (fun _ _ _ h => h) (Or.inl ⟨by rfl, ?_⟩) ?_ ?_
      rotate_left
      · intro w'
        go_simp
        with_reducible rfl
      rotate_left
      · simp only [Act.put, List.setIfInBounds_toArray, List.set_cons_zero, List.set_cons_succ, i64_w, i32_w]
        rfl
      refine pure_ (i := 10) (N := some 54) (v := ?_) (a' := ?_) #[true, false, true, false, true, false, false, false, true, false, true, false, false, false, false, false] rfl rfl (any_of HT_.out (by kernel_rfl)) (fun _ _ _ h => h) (Or.inl ⟨by rfl, ?_⟩) ?_ ?_
      rotate_left
      · intro w'
        go_simp
        with_reducible rfl
      rotate_left
      · simp only [Act.put, List.setIfInBounds_toArray, List.set_cons_zero, List.set_cons_succ, i64_w, i32_w]
        rfl
      refine take_ (i := 1) (N := some 45) (v := ?_) (a' := ?_) #[true, true, true, false, true, false, false, false, true, false, true, false, false, false, false, false] rfl rfl (take_ofW HT_.out HW_.out (by kernel_rfl)) (fun _ _ _ h => h) (Or.inl ⟨by rfl, ?_⟩) hHeld ?_ ?_
      rotate_left
      · rintro w' s0
        have t0_ := (blk_cell (heap_below s0 HX.out) 0).trans rfl
        have t1_ := (blk_cell (heap_below s0 HT.out.1) 1).trans rfl
        have t2_ := pw_cell_below s0 HQ0.out
        have t3_ := pw_cell_below s0 HQ1.out
        go_simp
        with_reducible rfl
      rotate_left
      · simp only [Act.put, List.setIfInBounds_toArray, List.set_cons_zero, List.set_cons_succ, i64_w, i32_w]
        rfl
      refine take_ (i := 3) (N := some 47) (v := ?_) (a' := ?_) #[true, true, true, true, true, false, false, false, true, false, true, false, false, false, false, false] rfl rfl (take_ofW HT_.out HW_.out (by kernel_rfl)) (fun _ _ _ h => h) (Or.inl ⟨by rfl, ?_⟩) hHeld ?_ ?_
      rotate_left
      · rintro w' s0
        have t0_ := (blk_cell (heap_below s0 HX.out) 0).trans rfl
        have t1_ := (blk_cell (heap_below s0 HT.out.1) 1).trans rfl
        have t2_ := pw_cell_below s0 HQ0.out
        have t3_ := pw_cell_below s0 HQ1.out
        go_simp
        with_reducible rfl
      rotate_left
      · simp only [Act.put, List.setIfInBounds_toArray, List.set_cons_zero, List.set_cons_succ, i64_w, i32_w]
        rfl
      refine pure_ (i := 5) (N := some 49) (v := ?_) (a' := ?_) #[true, true, true, true, true, true, false, false, true, false, true, false, false, false, false, false] rfl rfl (any_of HT_.out (by kernel_rfl)) (fun _ _ _ h => h) (Or.inl ⟨by rfl, ?_⟩) ?_ ?_
      rotate_left
      · intro w'
        go_simp
        with_reducible rfl
      rotate_left
      · simp only [Act.put, List.setIfInBounds_toArray, List.set_cons_zero, List.set_cons_succ, i64_w, i32_w]
        rfl
      refine pure_ (i := 6) (N := some 50) (v := ?_) (a' := ?_) #[true, true, true, true, true, true, true, false, true, false, true, false, false, false, false, false] rfl rfl (any_of HT_.out (by kernel_rfl)) (fun _ _ _ h => h) (Or.inl ⟨by rfl, ?_⟩) ?_ ?_
      rotate_left
      · intro w'
        go_simp
        with_reducible rfl
      rotate_left
      · simp only [Act.put, List.setIfInBounds_toArray, List.set_cons_zero, List.set_cons_succ, i64_w, i32_w]
        rfl
      refine take_ (i := 7) (N := some 51) (v := ?_) (a' := ?_) #[true, true, true, true, true, true, true, true, true, false, true, false, false, false, false, false] rfl rfl (take_ofW HT_.out HW_.out (by kernel_rfl)) (fun _ _ _ h => h) (Or.inl ⟨by rfl, ?_⟩) hHeld ?_ ?_
      rotate_left
      · rintro w' s0
        have t0_ := (blk_cell (heap_below s0 HX.out) 0).trans rfl
        have t1_ := (blk_cell (heap_below s0 HT.out.1) 1).trans rfl
        have t2_ := pw_cell_below s0 HQ0.out
        have t3_ := pw_cell_below s0 HQ1.out
        go_simp
        with_reducible rfl
      rotate_left
      · simp only [Act.put, List.setIfInBounds_toArray, List.set_cons_zero, List.set_cons_succ, i64_w, i32_w]
        rfl
      refine take_ (i := 9) (N := some 53) (v := ?_) (a' := ?_) #[true, true, true, true, true, true, true, true, true, true, true, false, false, false, false, false] rfl rfl (take_ofW HT_.out HW_.out (by kernel_rfl)) (fun _ _ _ h => h) (Or.inl ⟨by rfl, ?_⟩) hHeld ?_ ?_
      rotate_left
      · rintro w' s0
        have t0_ := (blk_cell (heap_below s0 HX.out) 0).trans rfl
        have t1_ := (blk_cell (heap_below s0 HT.out.1) 1).trans rfl
        have t2_ := pw_cell_below s0 HQ0.out
        have t3_ := pw_cell_below s0 HQ1.out
        go_simp
        with_reducible rfl
      rotate_left
      · simp only [Act.put, List.setIfInBounds_toArray, List.set_cons_zero, List.set_cons_succ, i64_w, i32_w]
        rfl
      refine pure_ (i := 11) (N := some 55) (v := ?_) (a' := ?_) #[true, true, true, true, true, true, true, true, true, true, true, true, false, false, false, false] rfl rfl (any_of HT_.out (by kernel_rfl)) (fun _ _ _ h => h) (Or.inl ⟨by rfl, ?_⟩) ?_ ?_
      rotate_left
      · intro w'
        go_simp
        with_reducible rfl
      rotate_left
      · simp only [Act.put, List.setIfInBounds_toArray, List.set_cons_zero, List.set_cons_succ, i64_w, i32_w]
        rfl
      refine pure_ (i := 12) (N := some 56) (v := ?_) (a' := ?_) #[true, true, true, true, true, true, true, true, true, true, true, true, true, false, false, false] rfl rfl (any_of HT_.out (by kernel_rfl)) (fun _ _ _ h => h) (Or.inl ⟨by rfl, ?_⟩) ?_ ?_
      rotate_left
      · intro w'
        go_simp
        with_reducible rfl
      rotate_left
      · simp only [Act.put, List.setIfInBounds_toArray, List.set_cons_zero, List.set_cons_succ, i64_w, i32_w]
        rfl
      refine take_ (i := 13) (N := some 57) (v := ?_) (a' := ?_) #[true, true, true, true, true, true, true, true, true, true, true, true, true, true, false, false] rfl rfl (take_ofW HT_.out HW_.out (by kernel_rfl)) (fun _ _ _ h => h) (Or.inl ⟨by rfl, ?_⟩) hHeld ?_ ?_
      rotate_left
      · rintro w' s0
        have t0_ := (blk_cell (heap_below s0 HX.out) 0).trans rfl
        have t1_ := (blk_cell (heap_below s0 HT.out.1) 1).trans rfl
        have t2_ := pw_cell_below s0 HQ0.out
        have t3_ := pw_cell_below s0 HQ1.out
        go_simp
        with_reducible rfl
      rotate_left
      · simp only [Act.put, List.setIfInBounds_toArray, List.set_cons_zero, List.set_cons_succ, i64_w, i32_w]
        rfl
      refine pure_ (i := 14) (N := some 58) (v := ?_) (a' := ?_) #[true, true, true, true, true, true, true, true, true, true, true, true, true, true, true, false] rfl rfl (any_of HT_.out (by kernel_rfl)) (fun _ _ _ h => h) (Or.inl ⟨by rfl, ?_⟩) ?_ ?_
      rotate_left
      · intro w'
        go_simp
        with_reducible rfl
      rotate_left
      · simp only [Act.put, List.setIfInBounds_toArray, List.set_cons_zero, List.set_cons_succ, i64_w, i32_w]
        rfl
      refine last_ (i := 15) (N := none) #[true, true, true, true, true, true, true, true, true, true, true, true, true, true, true, true] rfl rfl (one_of HT_.out (by kernel_rfl)) (by decide) (fun K hK => ?_)
      have hal := heap_below hHeld HBk.out
      obtain ⟨old, hcz⟩ : ∃ old, Wd.cell? ⟨g, x.f0.toNat, none⟩ = some old := ⟨_, (blk_cell hal x.f0.toNat).trans (Array.getElem?_eq_getElem (show x.f0.toNat < cur.size by have h7 := Hcs.out; have e : l0.length * kSec.sz = l0.length := Nat.mul_one _; omega))⟩
      have hfz := blk_frozen hal x.f0.toNat
      have HS := Aside0.mk (N_set1 (Kd.N_below HN.out hHeld) x.f0 hx0 hx1 x.f1 (.slice Ax x.f1.length cx) hcz (Kd.FK_slice_mk Hxl.out (Kd.F_below HF.out hHeld)) (fun k hk => ⟨.inl hk, by have h6 := hk.2; have h7 := Hg.out; omega⟩))
      rw [← Hset.out] at HS
      have HT2 := Aside0.mk (Two.far (HT.out.below hHeld) Hg.out.1 x.f0.toNat (.slice Ax x.f1.length cx))
      have HX2 := Aside0.mk (blk_far (p := ⟨g, x.f0.toNat, none⟩) (heap_below hHeld HX.out) (by have h7 := Hg.out; dsimp only; omega) (.slice Ax x.f1.length cx))
      refine skip_ (w1 := ?_) (by rfl) rfl ?_ ?_
      rotate_left
      · go_simp
        rfl
      refine hK.out _ _ ?_
      clear hK K
      refine done_ (done_of HT_.out (by kernel_rfl)) ?_
      clear hHeld hal hcz hfz Hset HN HT HX HF HQ0 HQ1 Hxl HBk Hcs
      have hwk_ := wr_up k (by have h5 := Hl.out; omega)
      go_wp2
      go_round
      case rel => exact ⟨k + 1, by omega, by rw [hwk_], HT2, HX2, HS⟩
      case measure =>
        rw [hwk_]
        show l1.length - ((k + 1 : Nat) : Int).toNat < l1.length - ((k : Nat) : Int).toNat
        rw [Int.toNat_natCast, Int.toNat_natCast]
        exact Nat.sub_succ_lt_self _ _ hlt
    · obtain rfl : k = l1.length := by omega
      clear hlt hk
      rw [List.take_of_length_le (Nat.le_refl _)] at HN
      have e0_ := (blk_cell HX.out 0).trans rfl
      have e1_ := (blk_cell HX.out 1).trans rfl
      have e2_ := (blk_cell HX.out 2).trans rfl
      have e3_ := (blk_cell HX.out 3).trans rfl
      have ef0_ := blk_frozen HX.out 0
      have ef1_ := blk_frozen HX.out 1
      have ef2_ := blk_frozen HX.out 2
      have ef3_ := blk_frozen HX.out 3
      go_upto_region 20 with fail
      clear e0_ ef0_ e1_ ef1_ e2_ ef2_ e3_ ef3_
      have HT3 := HT
      have HX3 := HX
      have HN3 := HN
      clear HT HX HN
      generalize wr = w7 at HT3 HX3 HN3 ⊢
      have e0_ := (blk_cell HX3.out 0).trans rfl
      have e1_ := (blk_cell HX3.out 1).trans rfl
      have e2_ := (blk_cell HX3.out 2).trans rfl
      have e3_ := (blk_cell HX3.out 3).trans rfl
      have d0_ := (blk_cell HT3.out.2.1 0).trans rfl
      have d1_ := (blk_cell HT3.out.2.1 1).trans rfl
      have d2_ := (blk_cell HT3.out.2.1 2).trans rfl
      have d3_ := (blk_cell HT3.out.2.1 3).trans rfl
      have df0_ := blk_frozen HT3.out.2.1 0
      have df1_ := blk_frozen HT3.out.2.1 1
      have df2_ := blk_frozen HT3.out.2.1 2
      have df3_ := blk_frozen HT3.out.2.1 3
      go_wp2
      all_goals
        have hblk := (blk_put (blk_put (blk_put (blk_put HT3.out.2.1 0 (.slice (some ⟨g, 0, none⟩) l0.length cap) rfl) 1 (.slice none 0 0) rfl) 2 (.int .i64 (a)) rfl) 3 (.bool false) rfl)
        refine bodyPost_ret (results_ct rfl _ _ (w.heap.size + 1) 25 _ (0, 0) _ rfl hblk hu rfl (by kernel_rfl)) rfl ?_
        refine ⟨_, _, rfl, ?_, Kd.V_nil _ _ _ _ _, (below_setCell (below_setCell (below_setCell (below_setCell HT3.out.2.2 (Nat.le_succ _) 0 (.slice (some ⟨g, 0, none⟩) l0.length cap)) (Nat.le_succ _) 1 (.slice none 0 0)) (Nat.le_succ _) 2 (.int .i64 (a))) (Nat.le_succ _) 3 (.bool false))⟩
        exact Kd.V_mono (Kd.V_far (p := ⟨w.heap.size + 1, 3, none⟩) (Kd.V_far (p := ⟨w.heap.size + 1, 2, none⟩) (Kd.V_far (p := ⟨w.heap.size + 1, 1, none⟩) (Kd.V_far (p := ⟨w.heap.size + 1, 0, none⟩) (Kd.N_V HN3.out) (fun k hk => by dsimp only; omega) (.slice (some ⟨g, 0, none⟩) l0.length cap)) (fun k hk => by dsimp only; omega) (.slice none 0 0)) (fun k hk => by dsimp only; omega) (.int .i64 (a))) (fun k hk => by dsimp only; omega) (.bool false)) (fun k hk => by rcases hk with h5 | h5; exact .inl h5.1; exact .inr (by omega))

set_option maxHeartbeats 4000000 in
set_option maxRecDepth 100000 in
theorem rsync_pos (P : Nat → Prop) (A0 : Option Addr) (c0 : Nat) (l0 : List (List Int)) (A1 : Option Addr) (c1 : Nat) (l1 : List SW) (a : Int) (s : Bool) (w : World) (h0 : Kd.V kSec 35 w w.heap.size P (.slice A0 l0.length c0) l0) (h1 : Kd.V kW 54 w w.heap.size P (.slice A1 l1.length c1) l1) (hr : runsV l0 l1 a s = true) (ha0 : 0 ≤ a) (ha1 : ¬ a < l1.length) :
    Calls Try.prog 24 #[.agg (dkV A0 l0.length c0 A1 l1.length c1 a s)] w (DskOut w (fun k => P k ∨ w.heap.size ≤ k) (perfV l0 l1, [], a - l1.length, false, 0)) := by
  have hu := Try.underlying25
  have hu22 := Try.underlying22
  obtain ⟨⟨hn1, hn2⟩, hn3, hn4, hn5, haa, hs⟩ := runs_ok hr
  have hd := ((runs_iff _ _ _ _).1 hr).1
  subst hs
  have HT := Aside0.mk (Two.new w (.cells (dkV A0 l0.length c0 A1 l1.length c1 a false) 25 (0, 0)) (.cells dk0 25 (0, 0)))
  have HC := Aside0.mk (fastiref04_Check.calls (l0.length + l1.length + 3) A0 c0 l0 A1 c1 l1 a false 0 _ (Kd.C_below (Kd.V_reads' h0).2.2 HT.out.2.2) (Kd.V_reads' h0).2.1 (Kd.C_below (Kd.V_reads' h1).2.2 HT.out.2.2) (Kd.V_reads' h1).2.1 ((chk_evn l0 l1 a false _ (Nat.le_refl _)).trans (congrArg some hd)))
  have HV0 := Aside0.mk (Kd.F_bound (Kd.V_F h0))
  have HV1 := Aside0.mk (Kd.F_bound (Kd.V_F h1))
  have Hn4 := Aside0.mk hn4
  have Hn5 := Aside0.mk hn5
  have Hl := Aside0.mk (show (1 ≤ l0.length ∧ l0.length ≤ 4096) ∧ l1.length ≤ 4096 from ⟨⟨hn1, hn2⟩, hn3⟩)
  have Haa := Aside0.mk haa
  have hw := Aside0.mk (show wrap64 (a - (l1.length : Int)) = a - (l1.length : Int) by unfold wrap64; omega)
  clear h0 h1 hr hn1 hn2 hn3 hn4 hn5 haa hd
  go_enter Try.func24, Try.ntmps24
  go_wp2_with fail
  refine HC.out.mono ?_
  rintro e w1 ⟨rfl, hb⟩
  have HT1 := Aside0.mk (HT.out.below hb)
  clear hb HC HT
  have c0_ := (blk_cell HT1.out.1 0).trans rfl
  have c1_ := (blk_cell HT1.out.1 1).trans rfl
  have c2_ := (blk_cell HT1.out.1 2).trans rfl
  have c3_ := (blk_cell HT1.out.1 3).trans rfl
  go_upto_region 7 with fail
  clear c0_ c1_ c2_ c3_
  refine start_ (n := 9) (S := (fun w' => Two w (.cells (dkV A0 l0.length c0 A1 l1.length c1 a false) 25 (0, 0)) (.cells dk0 25 (0, 0)) w')) (ds := [8]) #[false, false, false, false, false, false, false, false, false] (by kernel_rfl) rfl rfl (HT1.out.below (below_drew1 (Below.refl _ _))) (fun hHeld => ?_)
  refine with_tabW rsync.tab7 rsync.bits7 (fun HT_ HW_ => ?_)
  generalize World.drew _ = Wd at hHeld ⊢
  replace hHeld : Two w (.cells (dkV A0 l0.length c0 A1 l1.length c1 a false) 25 (0, 0)) (.cells dk0 25 (0, 0)) Wd := hHeld
  have HTd := Aside0.mk hHeld
  have hlt := Aside0.mk hHeld.lt
  refine pure_ (i := 1) (N := some 33) (v := ?_) (a' := ?_) #[false, true, false, false, false, false, false, false, false] rfl rfl (any_of HT_.out (by kernel_rfl)) (fun _ _ _ h => h) (Or.inl ⟨by rfl, ?_⟩) ?_ ?_
  rotate_left
  · intro w'
    go_simp
    with_reducible rfl
  rotate_left
  · simp only [Act.put, List.setIfInBounds_toArray, List.set_cons_zero, List.set_cons_succ, i64_w, i32_w]
    rfl
  refine pure_ (i := 4) (N := some 36) (v := ?_) (a' := ?_) #[false, true, false, false, true, false, false, false, false] rfl rfl (any_of HT_.out (by kernel_rfl)) (fun _ _ _ h => h) (Or.inl ⟨by rfl, ?_⟩) ?_ ?_
  rotate_left
  · intro w'
    go_simp
    with_reducible rfl
  rotate_left
  · simp only [Act.put, List.setIfInBounds_toArray, List.set_cons_zero, List.set_cons_succ, i64_w, i32_w]
    rfl
  refine take_ (i := 2) (N := some 34) (v := ?_) (a' := ?_) #[false, true, true, false, true, false, false, false, false] rfl rfl (take_ofW HT_.out HW_.out (by kernel_rfl)) (fun _ _ _ h => h) (Or.inl ⟨by rfl, ?_⟩) hHeld ?_ ?_
  rotate_left
  · rintro w' hs
    have t0_ := (blk_cell hs.1 0).trans rfl
    have t1_ := (blk_cell hs.1 1).trans rfl
    have t2_ := (blk_cell hs.1 2).trans rfl
    have t3_ := (blk_cell hs.1 3).trans rfl
    go_simp
    with_reducible rfl
  rotate_left
  · simp only [Act.put, List.setIfInBounds_toArray, List.set_cons_zero, List.set_cons_succ, i64_w, i32_w]
    rfl
  refine take_ (i := 5) (N := some 37) (v := ?_) (a' := ?_) #[false, true, true, false, true, true, false, false, false] rfl rfl (take_ofW HT_.out HW_.out (by kernel_rfl)) (fun _ _ _ h => h) (Or.inl ⟨by rfl, ?_⟩) hHeld ?_ ?_
  rotate_left
  · rintro w' hs
    have t0_ := (blk_cell hs.1 0).trans rfl
    have t1_ := (blk_cell hs.1 1).trans rfl
    have t2_ := (blk_cell hs.1 2).trans rfl
    have t3_ := (blk_cell hs.1 3).trans rfl
    go_simp
    with_reducible rfl
  rotate_left
  · simp only [Act.put, List.setIfInBounds_toArray, List.set_cons_zero, List.set_cons_succ, i64_w, i32_w]
    rfl
  refine join_ (σ := Value × Option Addr × Nat × Nat) 1 #[true, true, true, true, true, true, true, true, false] (fun s_ => [(32, s_.1), (35, .slice s_.2.1 l0.length s_.2.2.1), (38, .agg #[.slice s_.2.1 l0.length s_.2.2.1, .slice none 0 0, .int .i64 a, .bool false]), (6, .pointer (some ⟨s_.2.2.2, 0, none⟩))]) (fun s_ W => Two w (.cells (dkV A0 l0.length c0 A1 l1.length c1 a false) 25 (0, 0)) (.cells dk0 25 (0, 0)) W ∧ W.heap[s_.2.2.2]? = some (.cells dk0 25 (0, 0)) ∧ w.heap.size + 1 < s_.2.2.2 ∧ Kd.N kSec 35 W w.heap.size (fun k => (P k ∧ k < w.heap.size) ∨ (w.heap.size + 2 ≤ k ∧ k ≠ s_.2.2.2)) (.slice s_.2.1 l0.length s_.2.2.1) l0) ?_ ?_
  rotate_left
  · intro HJ0
    have HJ := Aside0.mk HJ0
    clear HJ0
    refine two_ (i := 0) (j := 7) (Ni := some 32) (Nj := some 6) #[true, true, true, false, true, true, false, false, false] #[false, true, true, false, true, true, false, true, false] rfl rfl rfl rfl (two_of HT_.out (by kernel_rfl)) (by decide) (by decide) (fun K hK => ?_) (fun K hK => ?_)
    · skip
      refine value_ (w1 := ?_) (v := ?_) (by rfl) rfl ?_ ?_
      rotate_left
      rotate_left
      · go_simp
        refine And.intro ?_ ?_ <;> rfl
      have hN0_ := Kd.N_lower (N_made0 kSec 35 Wd (fun k => (P k ∧ k < w.heap.size) ∨ w.heap.size + 2 ≤ k) (Or.inr (show w.heap.size + 2 ≤ Wd.heap.size from hlt.out))) (show w.heap.size ≤ Wd.heap.size from (Two.below_size hHeld))
      have hN0 := Aside0.mk hN0_
      clear hN0_
      replace hHeld : Two w (.cells (dkV A0 l0.length c0 A1 l1.length c1 a false) 25 (0, 0)) (.cells dk0 25 (0, 0)) Wd := hHeld
      refine hK.out _ _ (Two.alloc hHeld _) (fun hHeld => ?_)
      clear hK K
      refine norm_ (a' := ?_) ?_ ?_
      rotate_left
      · show Act.put _ (some 32) _ = _
        simp only [Act.put, List.setIfInBounds_toArray, List.set_cons_zero, List.set_cons_succ, i64_w, i32_w]
        rfl
      refine two_ (i := 3) (j := 7) (Ni := some 35) (Nj := some 6) #[true, true, true, true, true, true, false, false, false] #[true, true, true, false, true, true, false, true, false] rfl rfl rfl rfl (two_of HT_.out (by kernel_rfl)) (by decide) (by decide) (fun K hK => ?_) (fun K hK => ?_)
      · skip
        refine Kd.N_append_rows_step kSec w.heap.size (by rfl) _ _ 22 35 (.slice none 0 0) 24 rfl hu22 infS rfl (by decide) (by decide) (.slice (some ⟨Wd.heap.size, 0, none⟩) 0 0) [] l0 A0 l0.length c0 (fun k => (P k ∧ k < w.heap.size) ∨ w.heap.size + 2 ≤ k) (fun k => P k ∧ k < w.heap.size) rfl rfl hN0.out (Kd.F_below HV0.out (show Below w.heap.size w _ from hHeld.2.2)) ?_ ?_ (show Below w.heap.size w _ from hHeld.2.2) (hHeld.2.2).size ?_ ?_
        · exact fun k hk => ⟨.inl hk, by have h5 := hk.2; have h6 := hlt.out; simp [Value.ownBlock]; omega⟩
        · intro k hk; have h5 := hHeld.2.2.size; right; have h6 := hlt.out; simp only [World.size_alloc] at hk; omega
        · have h5 := Hl.out; rw [List.length_nil, Nat.zero_add]; omega
        intro v' w3 hN hb hgrow hat
        have hNa := Aside0.mk (show Kd.N kSec 35 w3 w.heap.size (fun k => (P k ∧ k < w.heap.size) ∨ w.heap.size + 2 ≤ k) v' l0 from by simpa using hN)
        clear hN hN0
        obtain ⟨Aa, ca, rfl⟩ := Kd.N_slice hNa.out
        have hT3 : Two w (.cells (dkV A0 l0.length c0 A1 l1.length c1 a false) 25 (0, 0)) (.cells dk0 25 (0, 0)) w3 := Two.grow hHeld hgrow (by simp [Value.ownBlock]; have h6 := hlt.out; omega) hb
        refine hK.out _ _ hT3 (fun hHeld => ?_)
        clear hK K
        refine norm_ (a' := ?_) ?_ ?_
        rotate_left
        · show Act.put _ (some 35) _ = _
          simp only [Act.put, List.setIfInBounds_toArray, List.set_cons_zero, List.set_cons_succ, i64_w, i32_w]
          rfl
        refine pure_ (i := 6) (N := some 38) (v := ?_) (a' := ?_) #[true, true, true, true, true, true, true, false, false] rfl rfl (any_of HT_.out (by kernel_rfl)) (fun _ _ _ h => h) (Or.inl ⟨by rfl, ?_⟩) ?_ ?_
        rotate_left
        · intro w'
          go_simp
          with_reducible rfl
        rotate_left
        · simp only [Act.put, List.setIfInBounds_toArray, List.set_cons_zero, List.set_cons_succ, i64_w, i32_w]
          rfl
        refine one_ (i := 7) (N := some 6) #[true, true, true, true, true, true, true, true, false] rfl rfl (one_of HT_.out (by kernel_rfl)) (by decide) (fun K hK => ?_)
        refine value_ (w1 := ?_) (v := ?_) (by rfl) rfl ?_ ?_
        rotate_left
        rotate_left
        · go_simp
          refine And.intro ?_ ?_ <;> rfl
        have hX := Aside0.mk (heap_at_new w3 (.cells dk0 25 (0, 0)) _ rfl)
        have hl3 := Aside0.mk (show w.heap.size + 1 < w3.heap.size from hHeld.lt)
        replace hHeld : Two w (.cells (dkV A0 l0.length c0 A1 l1.length c1 a false) 25 (0, 0)) (.cells dk0 25 (0, 0)) w3 := hHeld
        have hNb := Aside0.mk (show Kd.N kSec 35 (w3.alloc (.cells dk0 25 (0, 0))) w.heap.size (fun k => (P k ∧ k < w.heap.size) ∨ (w.heap.size + 2 ≤ k ∧ k ≠ w3.heap.size)) (.slice Aa l0.length ca) l0 from Kd.N_alloc (Kd.N_mono (Kd.N_bound hNa.out) (fun k hk => by rcases hk with ⟨h1 | h1, h2⟩; exact Or.inl h1; exact Or.inr ⟨h1, by omega⟩)) _)
        refine hK.out _ _ (Two.alloc hHeld _) (fun hHeld => ?_)
        clear hK K
        refine norm_ (a' := ?_) ?_ ?_
        rotate_left
        · show Act.put _ (some 6) _ = _
          simp only [Act.put, List.setIfInBounds_toArray, List.set_cons_zero, List.set_cons_succ, i64_w, i32_w]
          rfl
        exact norm_ (by first | (simp only [putAll, Act.put, List.setIfInBounds_toArray, List.set_cons_zero, List.set_cons_succ]; done) | (simp only [putAll, Act.put, List.setIfInBounds_toArray, List.set_cons_zero, List.set_cons_succ]; rfl)) (HJ.out (_, _, _, w3.heap.size) _ ⟨hHeld, hX.out, hl3.out, hNb.out⟩)
      · skip
        refine value_ (w1 := ?_) (v := ?_) (by rfl) rfl ?_ ?_
        rotate_left
        rotate_left
        · go_simp
          refine And.intro ?_ ?_ <;> rfl
        have hX := Aside0.mk (show ((Wd.alloc (.cells #[] 35 (0, 0))).alloc (.cells dk0 25 (0, 0))).heap[Wd.heap.size + 1]? = some (.cells dk0 25 (0, 0)) from heap_at_new (Wd.alloc (.cells #[] 35 (0, 0))) (.cells dk0 25 (0, 0)) _ (by simp))
        replace hHeld : Two w (.cells (dkV A0 l0.length c0 A1 l1.length c1 a false) 25 (0, 0)) (.cells dk0 25 (0, 0)) (Wd.alloc (.cells #[] 35 (0, 0))) := hHeld
        replace hN0 := Aside0.mk (Kd.N_alloc (Kd.N_mono (ok' := (fun k => (P k ∧ k < w.heap.size) ∨ (w.heap.size + 2 ≤ k ∧ k ≠ (Wd.heap.size + 1)))) (Kd.N_bound hN0.out) (fun k hk => by rcases hk with ⟨h1 | h1, h2⟩; exact Or.inl h1; exact Or.inr ⟨h1, by simp only [World.size_alloc] at h2; omega⟩)) (.cells dk0 25 (0, 0)))
        refine hK.out _ _ (Two.alloc hHeld _) (fun hHeld => ?_)
        clear hK K
        refine norm_ (a' := ?_) ?_ ?_
        rotate_left
        · show Act.put _ (some 6) _ = _
          simp only [Act.put, List.setIfInBounds_toArray, List.set_cons_zero, List.set_cons_succ, i64_w, i32_w]
          rfl
        refine one_ (i := 3) (N := some 35) #[true, true, true, true, true, true, false, true, false] rfl rfl (one_of HT_.out (by kernel_rfl)) (by decide) (fun K hK => ?_)
        refine Kd.N_append_rows_step kSec w.heap.size (by rfl) _ _ 22 35 (.slice none 0 0) 24 rfl hu22 infS rfl (by decide) (by decide) (.slice (some ⟨Wd.heap.size, 0, none⟩) 0 0) [] l0 A0 l0.length c0 (fun k => (P k ∧ k < w.heap.size) ∨ (w.heap.size + 2 ≤ k ∧ k ≠ (Wd.heap.size + 1))) (fun k => P k ∧ k < w.heap.size) rfl rfl hN0.out (Kd.F_below HV0.out (show Below w.heap.size w _ from hHeld.2.2)) ?_ ?_ (show Below w.heap.size w _ from hHeld.2.2) (hHeld.2.2).size ?_ ?_
        · exact fun k hk => ⟨.inl hk, by have h5 := hk.2; have h6 := hlt.out; simp [Value.ownBlock]; omega⟩
        · intro k hk; have h5 := hHeld.2.2.size; right; have h6 := hlt.out; simp only [World.size_alloc] at hk; omega
        · have h5 := Hl.out; rw [List.length_nil, Nat.zero_add]; omega
        intro v' w3 hN hb hgrow hat
        have hNa := Aside0.mk (show Kd.N kSec 35 w3 w.heap.size (fun k => (P k ∧ k < w.heap.size) ∨ (w.heap.size + 2 ≤ k ∧ k ≠ (Wd.heap.size + 1))) v' l0 from by simpa using hN)
        clear hN hN0
        obtain ⟨Aa, ca, rfl⟩ := Kd.N_slice hNa.out
        have hT3 : Two w (.cells (dkV A0 l0.length c0 A1 l1.length c1 a false) 25 (0, 0)) (.cells dk0 25 (0, 0)) w3 := Two.grow hHeld hgrow (by simp [Value.ownBlock]; have h6 := hlt.out; omega) hb
        have hX3 := Aside0.mk (blk_grown hX.out hgrow (by simp [Value.ownBlock]))
        refine hK.out _ _ hT3 (fun hHeld => ?_)
        clear hK K
        refine norm_ (a' := ?_) ?_ ?_
        rotate_left
        · show Act.put _ (some 35) _ = _
          simp only [Act.put, List.setIfInBounds_toArray, List.set_cons_zero, List.set_cons_succ, i64_w, i32_w]
          rfl
        refine pure_ (i := 6) (N := some 38) (v := ?_) (a' := ?_) #[true, true, true, true, true, true, true, true, false] rfl rfl (any_of HT_.out (by kernel_rfl)) (fun _ _ _ h => h) (Or.inl ⟨by rfl, ?_⟩) ?_ ?_
        rotate_left
        · intro w'
          go_simp
          with_reducible rfl
        rotate_left
        · simp only [Act.put, List.setIfInBounds_toArray, List.set_cons_zero, List.set_cons_succ, i64_w, i32_w]
          rfl
        exact norm_ (by first | (simp only [putAll, Act.put, List.setIfInBounds_toArray, List.set_cons_zero, List.set_cons_succ]; done) | (simp only [putAll, Act.put, List.setIfInBounds_toArray, List.set_cons_zero, List.set_cons_succ]; rfl)) (HJ.out (_, _, _, (Wd.heap.size + 1)) _ ⟨hHeld, hX3.out, (Nat.lt_succ_of_lt hlt.out), hNa.out⟩)
    · skip
      refine value_ (w1 := ?_) (v := ?_) (by rfl) rfl ?_ ?_
      rotate_left
      rotate_left
      · go_simp
        refine And.intro ?_ ?_ <;> rfl
      have hX := Aside0.mk (heap_at_new Wd (.cells dk0 25 (0, 0)) _ rfl)
      replace hHeld : Two w (.cells (dkV A0 l0.length c0 A1 l1.length c1 a false) 25 (0, 0)) (.cells dk0 25 (0, 0)) Wd := hHeld
      refine hK.out _ _ (Two.alloc hHeld _) (fun hHeld => ?_)
      clear hK K
      refine norm_ (a' := ?_) ?_ ?_
      rotate_left
      · show Act.put _ (some 6) _ = _
        simp only [Act.put, List.setIfInBounds_toArray, List.set_cons_zero, List.set_cons_succ, i64_w, i32_w]
        rfl
      refine one_ (i := 0) (N := some 32) #[true, true, true, false, true, true, false, true, false] rfl rfl (one_of HT_.out (by kernel_rfl)) (by decide) (fun K hK => ?_)
      refine value_ (w1 := ?_) (v := ?_) (by rfl) rfl ?_ ?_
      rotate_left
      rotate_left
      · go_simp
        refine And.intro ?_ ?_ <;> rfl
      have hN0_ := Kd.N_lower (N_made0 kSec 35 (Wd.alloc (.cells dk0 25 (0, 0))) (fun k => (P k ∧ k < w.heap.size) ∨ (w.heap.size + 2 ≤ k ∧ k ≠ Wd.heap.size)) (Or.inr ⟨by simp only [World.size_alloc]; have := hlt.out; omega, by simp⟩)) (show w.heap.size ≤ (Wd.alloc (.cells dk0 25 (0, 0))).heap.size from (Two.below_size hHeld))
      rw [show (Wd.alloc (.cells dk0 25 (0, 0))).heap.size = Wd.heap.size + 1 from by simp] at hN0_
      have hN0 := Aside0.mk hN0_
      clear hN0_
      replace hHeld : Two w (.cells (dkV A0 l0.length c0 A1 l1.length c1 a false) 25 (0, 0)) (.cells dk0 25 (0, 0)) (Wd.alloc (.cells dk0 25 (0, 0))) := hHeld
      refine hK.out _ _ (Two.alloc hHeld _) (fun hHeld => ?_)
      clear hK K
      refine norm_ (a' := ?_) ?_ ?_
      rotate_left
      · show Act.put _ (some 32) _ = _
        simp only [Act.put, List.setIfInBounds_toArray, List.set_cons_zero, List.set_cons_succ, i64_w, i32_w]
        rfl
      replace hX := Aside0.mk (heap_at_old (Wd.alloc (.cells dk0 25 (0, 0))) (.cells #[] 35 (0, 0)) _ _ hX.out)
      refine one_ (i := 3) (N := some 35) #[true, true, true, true, true, true, false, true, false] rfl rfl (one_of HT_.out (by kernel_rfl)) (by decide) (fun K hK => ?_)
      refine Kd.N_append_rows_step kSec w.heap.size (by rfl) _ _ 22 35 (.slice none 0 0) 24 rfl hu22 infS rfl (by decide) (by decide) (.slice (some ⟨(Wd.heap.size + 1), 0, none⟩) 0 0) [] l0 A0 l0.length c0 (fun k => (P k ∧ k < w.heap.size) ∨ (w.heap.size + 2 ≤ k ∧ k ≠ Wd.heap.size)) (fun k => P k ∧ k < w.heap.size) rfl rfl hN0.out (Kd.F_below HV0.out (show Below w.heap.size w _ from hHeld.2.2)) ?_ ?_ (show Below w.heap.size w _ from hHeld.2.2) (hHeld.2.2).size ?_ ?_
      · exact fun k hk => ⟨.inl hk, by have h5 := hk.2; have h6 := hlt.out; simp [Value.ownBlock]; omega⟩
      · intro k hk; have h5 := hHeld.2.2.size; right; have h6 := hlt.out; simp only [World.size_alloc] at hk; omega
      · have h5 := Hl.out; rw [List.length_nil, Nat.zero_add]; omega
      intro v' w3 hN hb hgrow hat
      have hNa := Aside0.mk (show Kd.N kSec 35 w3 w.heap.size (fun k => (P k ∧ k < w.heap.size) ∨ (w.heap.size + 2 ≤ k ∧ k ≠ Wd.heap.size)) v' l0 from by simpa using hN)
      clear hN hN0
      obtain ⟨Aa, ca, rfl⟩ := Kd.N_slice hNa.out
      have hT3 : Two w (.cells (dkV A0 l0.length c0 A1 l1.length c1 a false) 25 (0, 0)) (.cells dk0 25 (0, 0)) w3 := Two.grow hHeld hgrow (by simp [Value.ownBlock]; have h6 := hlt.out; omega) hb
      have hX3 := Aside0.mk (blk_grown hX.out hgrow (by simp [Value.ownBlock]))
      refine hK.out _ _ hT3 (fun hHeld => ?_)
      clear hK K
      refine norm_ (a' := ?_) ?_ ?_
      rotate_left
      · show Act.put _ (some 35) _ = _
        simp only [Act.put, List.setIfInBounds_toArray, List.set_cons_zero, List.set_cons_succ, i64_w, i32_w]
        rfl
      refine pure_ (i := 6) (N := some 38) (v := ?_) (a' := ?_) #[true, true, true, true, true, true, true, true, false] rfl rfl (any_of HT_.out (by kernel_rfl)) (fun _ _ _ h => h) (Or.inl ⟨by rfl, ?_⟩) ?_ ?_
      rotate_left
      · intro w'
        go_simp
        with_reducible rfl
      rotate_left
      · simp only [Act.put, List.setIfInBounds_toArray, List.set_cons_zero, List.set_cons_succ, i64_w, i32_w]
        rfl
      exact norm_ (by first | (simp only [putAll, Act.put, List.setIfInBounds_toArray, List.set_cons_zero, List.set_cons_succ]; done) | (simp only [putAll, Act.put, List.setIfInBounds_toArray, List.set_cons_zero, List.set_cons_succ]; rfl)) (HJ.out (_, _, _, Wd.heap.size) _ ⟨hHeld, hX3.out, hlt.out, hNa.out⟩)
  rintro ⟨v32, Aa, cap, bx⟩ W0 ⟨hHeld, hX, hbx, hN⟩
  obtain ⟨g, cap', he, hg1, hg2, hgo⟩ := N_own (show Kd.N kSec 35 W0 w.heap.size (fun k => (P k ∧ k < w.heap.size) ∨ (w.heap.size + 2 ≤ k ∧ k ≠ bx)) (.slice Aa l0.length cap) l0 from hN) Hl.out.1.1
  cases he
  have HX := Aside0.mk (show W0.heap[bx]? = some (.cells dk0 25 (0, 0)) from hX)
  have HN := Aside0.mk (show Kd.N kSec 35 W0 w.heap.size (fun k => (P k ∧ k < w.heap.size) ∨ (w.heap.size + 2 ≤ k ∧ k ≠ bx)) (.slice (some ⟨g, 0, none⟩) l0.length cap) l0 from hN)
  have Hbx := Aside0.mk (show w.heap.size + 1 < bx from hbx)
  have Hg := Aside0.mk (show w.heap.size + 1 < g ∧ g ≠ bx from by rcases hgo with h5 | h5 <;> (have h6 := hbx; dsimp only at h6 h5; omega))
  have HT0 := Aside0.mk (show Two w (.cells (dkV A0 l0.length c0 A1 l1.length c1 a false) 25 (0, 0)) (.cells dk0 25 (0, 0)) W0 from hHeld)
  clear hX hN hbx hg1 hg2 hgo HTd
  refine norm_ (a' := ?_) ?_ ?_
  rotate_left
  · simp only [putAll, Act.put, List.setIfInBounds_toArray, List.set_cons_zero, List.set_cons_succ]
    rfl
  refine last_ (i := 8) (N := none) #[true, true, true, true, true, true, true, true, true] rfl rfl (one_of HT_.out (by kernel_rfl)) (by decide) (fun K hK => ?_)
  have x0_ := (blk_cell HX.out 0).trans rfl
  have x1_ := (blk_cell HX.out 1).trans rfl
  have x2_ := (blk_cell HX.out 2).trans rfl
  have x3_ := (blk_cell HX.out 3).trans rfl
  have xf0_ := blk_frozen HX.out 0
  have xf1_ := blk_frozen HX.out 1
  have xf2_ := blk_frozen HX.out 2
  have xf3_ := blk_frozen HX.out 3
  refine skip_ (w1 := ?_) (by rfl) rfl ?_ ?_
  rotate_left
  · go_simp
    rfl
  refine hK.out _ _ ?_
  clear hK K
  refine done_ (done_of HT_.out (by kernel_rfl)) ?_
  obtain ⟨w6, hw6⟩ : ∃ x, (((W0.setCell ⟨bx, 0, none⟩ (.slice (some ⟨g, 0, none⟩) l0.length cap)).setCell ⟨bx, 1, none⟩ (.slice none 0 0)).setCell ⟨bx, 2, none⟩ (.int .i64 a)).setCell ⟨bx, 3, none⟩ (.bool false) = x := ⟨_, rfl⟩
  have HT6 := Aside0.mk (show Two w (.cells (dkV A0 l0.length c0 A1 l1.length c1 a false) 25 (0, 0)) (.cells dk0 25 (0, 0)) w6 from hw6 ▸ (Two.far (Two.far (Two.far (Two.far HT0.out Hbx.out 0 (.slice (some ⟨g, 0, none⟩) l0.length cap)) Hbx.out 1 (.slice none 0 0)) Hbx.out 2 (.int .i64 a)) Hbx.out 3 (.bool false)))
  have HX6 := Aside0.mk (show w6.heap[bx]? = some (.cells #[.slice (some ⟨g, 0, none⟩) l0.length cap, .slice none 0 0, .int .i64 a, .bool false] 25 (0, 0)) from hw6 ▸ (blk_put (blk_put (blk_put (blk_put HX.out 0 (.slice (some ⟨g, 0, none⟩) l0.length cap) rfl) 1 (.slice none 0 0) rfl) 2 (.int .i64 a) rfl) 3 (.bool false) rfl))
  have HN6 := Aside0.mk (show Kd.N kSec 35 w6 w.heap.size (fun k => (P k ∧ k < w.heap.size) ∨ (w.heap.size + 2 ≤ k ∧ k ≠ bx)) (.slice (some ⟨g, 0, none⟩) l0.length cap) (perfV l0 (l1.take 0)) from hw6 ▸ (Kd.N_far (p := ⟨bx, 3, none⟩) (Kd.N_far (p := ⟨bx, 2, none⟩) (Kd.N_far (p := ⟨bx, 1, none⟩) (Kd.N_far (p := ⟨bx, 0, none⟩) HN.out (fun k hk => by dsimp only; have h6 := Hbx.out; omega) (.slice (some ⟨g, 0, none⟩) l0.length cap)) (fun k hk => by dsimp only; have h6 := Hbx.out; omega) (.slice none 0 0)) (fun k hk => by dsimp only; have h6 := Hbx.out; omega) (.int .i64 a)) (fun k hk => by dsimp only; have h6 := Hbx.out; omega) (.bool false)))
  rw [hw6]
  clear hw6 HX HN HT0 hHeld hlt HT1 x0_ xf0_ x1_ xf1_ x2_ xf2_ x3_ xf3_
  go_wp2
  go_loopw [7] (fun i wr => ∃ k : Nat, k ≤ l1.length ∧ i = .int .i64 k ∧ Aside0 (Two w (.cells (dkV A0 l0.length c0 A1 l1.length c1 a false) 25 (0, 0)) (.cells dk0 25 (0, 0)) wr) ∧ Aside0 (wr.heap[bx]? = some (.cells #[.slice (some ⟨g, 0, none⟩) l0.length cap, .slice none 0 0, .int .i64 a, .bool false] 25 (0, 0))) ∧ Aside0 (Kd.N kSec 35 wr w.heap.size (fun k => (P k ∧ k < w.heap.size) ∨ (w.heap.size + 2 ≤ k ∧ k ≠ bx)) (.slice (some ⟨g, 0, none⟩) l0.length cap) (perfV l0 (l1.take k)))) (fun i _ => l1.length - (intOf i).toNat)
  case atStart => exact ⟨0, Nat.zero_le _, rfl, HT6, HX6, HN6⟩
  case round =>
    clear HT6 HX6 HN6
    obtain ⟨k, hk, rfl, HT, HX, HN⟩ := hrel
    by_cases hlt : k < l1.length
    · have hkl : (k : Int) < (l1.length : Int) := by omega
      have hk0 : (0 : Int) ≤ (k : Int) := by omega
      have hkn : k < l1.length := by omega
      obtain ⟨ad, c, rfl, hcl, hFK, hcc, _⟩ := Kd.F_get (Kd.F_below HV1.out HT.out.2.2) z54 (k : Int) (by omega) (by omega)
      obtain ⟨Ax, cx, rfl, hxl, hF⟩ := k54_openF hFK
      rw [Int.toNat_natCast] at hcc hxl hF hFK
      have q0 : wr.cell? (ad.add (k * 2)) = some (.int .i64 (l1.getD k z54).f0) := hcc 0 _ rfl
      have q1 : wr.cell? ⟨(ad.add (k * 2)).block, (ad.add (k * 2)).off + 1, none⟩ = some (.slice Ax (l1.getD k z54).f1.length cx) := by
        rw [← add_field _ _ 1 (by omega)]
        exact hcc 1 _ rfl
      have HF := Aside0.mk hF
      clear hcc hFK hF hcl
      have hx := (Hn4.out (l1.getD k z54) (by simp [List.getD, hkn])).1
      have Hset := Aside0.mk (perfV_take l0 l1 k hkn)
      generalize l1.getD k z54 = x at *
      have HQ0 := Aside0.mk q0
      have HQ1 := Aside0.mk q1
      have hx0 := hx.1
      have hx1 := hx.2
      have Hxl := Aside0.mk hxl
      clear q0 q1 hx hxl hkn
      obtain ⟨cur, hblk, hcs⟩ := N_blk HN.out
      have HBk := Aside0.mk hblk
      have Hcs := Aside0.mk hcs
      clear hblk hcs
      go_upto_region 11 with fail
      refine start_ (n := 16) (S := fun w' => Below wr.heap.size wr w') (ds := [15]) #[false, false, false, false, false, false, false, false, false, false, false, false, false, false, false, false] (by kernel_rfl) rfl rfl (below_drew1 (Below.refl _ _)) (fun hHeld => ?_)
      refine with_tabW rsync.tab11 rsync.bits11 (fun HT_ HW_ => ?_)
      generalize World.drew _ = Wd at hHeld ⊢
      replace hHeld : Below wr.heap.size wr Wd := hHeld
      refine pure_ (i := 0) (N := some 44) (v := ?_) (a' := ?_) #[true, false, false, false, false, false, false, false, false, false, false, false, false, false, false, false] rfl rfl (any_of HT_.out (by kernel_rfl)) (fun _ _ _ h => h) (Or.inl ⟨by rfl, ?_⟩) ?_ ?_
      rotate_left
      · intro w'
        go_simp
        with_reducible rfl
      rotate_left
      · simp only [Act.put, List.setIfInBounds_toArray, List.set_cons_zero, List.set_cons_succ, i64_w, i32_w]
        rfl
      refine pure_ (i := 2) (N := some 46) (v := ?_) (a' := ?_) #[true, false, true, false, false, false, false, false, false, false, false, false, false, false, false, false] rfl rfl (any_of HT_.out (by kernel_rfl)) (fun _ _ _ h => h) (Or.inl ⟨by rfl, ?_⟩) ?_ ?_
      rotate_left
      · intro w'
        go_simp
        with_reducible rfl
      rotate_left
      · simp only [Act.put, List.setIfInBounds_toArray, List.set_cons_zero, List.set_cons_succ, i64_w, i32_w]
        rfl
      refine pure_ (i := 4) (N := some 48) (v := ?_) (a' := ?_) #[true, false, true, false, true, false, false, false, false, false, false, false, false, false, false, false] rfl rfl (any_of HT_.out (by kernel_rfl)) (fun _ _ _ h => h) (Or.inl ⟨by rfl, ?_⟩) ?_ ?_
      rotate_left
      · intro w'
        go_simp
        with_reducible rfl
      rotate_left
      · simp only [Act.put, List.setIfInBounds_toArray, List.set_cons_zero, List.set_cons_succ, i64_w, i32_w]
        rfl
      refine pure_ (i := 8) (N := some 52) (v := ?_) (a' := ?_) #[true, false, true, false, true, false, false, false, true, false, false, false, false, false, false, false] rfl rfl (any_of HT_.out (by kernel_rfl)) (fun _ _ _ h => h) (Or.inl ⟨by rfl, ?_⟩) ?_ ?_
      rotate_left
      · intro w'
        go_simp
        with_reducible rfl
      rotate_left
      · simp only [Act.put, List.setIfInBounds_toArray, List.set_cons_zero, List.set_cons_succ, i64_w, i32_w]
        rfl
      refine pure_ (i := 10) (N := some 54) (v := ?_) (a' := ?_) #[true, false, true, false, true, false, false, false, true, false, true, false, false, false, false, false] rfl rfl (any_of HT_.out (by kernel_rfl)) (fun _ _ _ h => h) (Or.inl ⟨by rfl, ?_⟩) ?_ ?_
      rotate_left
      · intro w'
        go_simp
        with_reducible rfl
      rotate_left
      · simp only [Act.put, List.setIfInBounds_toArray, List.set_cons_zero, List.set_cons_succ, i64_w, i32_w]
        rfl
      refine take_ (i := 1) (N := some 45) (v := ?_) (a' := ?_) #[true, true, true, false, true, false, false, false, true, false, true, false, false, false, false, false] rfl rfl (take_ofW HT_.out HW_.out (by kernel_rfl)) (fun _ _ _ h => h) (Or.inl ⟨by rfl, ?_⟩) hHeld ?_ ?_
      rotate_left
      · rintro w' s0
        have t0_ := (blk_cell (heap_below s0 HX.out) 0).trans rfl
        have t1_ := (blk_cell (heap_below s0 HT.out.1) 1).trans rfl
        have t2_ := pw_cell_below s0 HQ0.out
        have t3_ := pw_cell_below s0 HQ1.out
        go_simp
        with_reducible rfl
      rotate_left
      · simp only [Act.put, List.setIfInBounds_toArray, List.set_cons_zero, List.set_cons_succ, i64_w, i32_w]
        rfl
      refine take_ (i := 3) (N := some 47) (v := ?_) (a' := ?_) #[true, true, true, true, true, false, false, false, true, false, true, false, false, false, false, false] rfl rfl (take_ofW HT_.out HW_.out (by kernel_rfl)) (fun _ _ _ h => h) (Or.inl ⟨by rfl, ?_⟩) hHeld ?_ ?_
      rotate_left
      · rintro w' s0
        have t0_ := (blk_cell (heap_below s0 HX.out) 0).trans rfl
        have t1_ := (blk_cell (heap_below s0 HT.out.1) 1).trans rfl
        have t2_ := pw_cell_below s0 HQ0.out
        have t3_ := pw_cell_below s0 HQ1.out
        go_simp
        with_reducible rfl
      rotate_left
      · simp only [Act.put, List.setIfInBounds_toArray, List.set_cons_zero, List.set_cons_succ, i64_w, i32_w]
        rfl
      refine pure_ (i := 5) (N := some 49) (v := ?_) (a' := ?_) #[true, true, true, true, true, true, false, false, true, false, true, false, false, false, false, false] rfl rfl (any_of HT_.out (by kernel_rfl)) (fun _ _ _ h => h) (Or.inl ⟨by rfl, ?_⟩) ?_ ?_
      rotate_left
      · intro w'
        go_simp
        with_reducible rfl
      rotate_left
      · simp only [Act.put, List.setIfInBounds_toArray, List.set_cons_zero, List.set_cons_succ, i64_w, i32_w]
        rfl
      refine pure_ (i := 6) (N := some 50) (v := ?_) (a' := ?_) #[true, true, true, true, true, true, true, false, true, false, true, false, false, false, false, false] rfl rfl (any_of HT_.out (by kernel_rfl)) (fun _ _ _ h => h) (Or.inl ⟨by rfl, ?_⟩) ?_ ?_
      rotate_left
      · intro w'
        go_simp
        with_reducible rfl
      rotate_left
      · simp only [Act.put, List.setIfInBounds_toArray, List.set_cons_zero, List.set_cons_succ, i64_w, i32_w]
        rfl
      refine take_ (i := 7) (N := some 51) (v := ?_) (a' := ?_) #[true, true, true, true, true, true, true, true, true, false, true, false, false, false, false, false] rfl rfl (take_ofW HT_.out HW_.out (by kernel_rfl)) (fun _ _ _ h => h) (Or.inl ⟨by rfl, ?_⟩) hHeld ?_ ?_
      rotate_left
      · rintro w' s0
        have t0_ := (blk_cell (heap_below s0 HX.out) 0).trans rfl
        have t1_ := (blk_cell (heap_below s0 HT.out.1) 1).trans rfl
        have t2_ := pw_cell_below s0 HQ0.out
        have t3_ := pw_cell_below s0 HQ1.out
        go_simp
        with_reducible rfl
      rotate_left
      · simp only [Act.put, List.setIfInBounds_toArray, List.set_cons_zero, List.set_cons_succ, i64_w, i32_w]
        rfl
      refine take_ (i := 9) (N := some 53) (v := ?_) (a' := ?_) #[true, true, true, true, true, true, true, true, true, true, true, false, false, false, false, false] rfl rfl (take_ofW HT_.out HW_.out (by kernel_rfl)) (fun _ _ _ h => h) (Or.inl ⟨by rfl, ?_⟩) hHeld ?_ ?_
      rotate_left
      · rintro w' s0
        have t0_ := (blk_cell (heap_below s0 HX.out) 0).trans rfl
        have t1_ := (blk_cell (heap_below s0 HT.out.1) 1).trans rfl
        have t2_ := pw_cell_below s0 HQ0.out
        have t3_ := pw_cell_below s0 HQ1.out
        go_simp
        with_reducible rfl
      rotate_left
      · simp only [Act.put, List.setIfInBounds_toArray, List.set_cons_zero, List.set_cons_succ, i64_w, i32_w]
        rfl
      refine pure_ (i := 11) (N := some 55) (v := ?_) (a' := ?_) #[true, true, true, true, true, true, true, true, true, true, true, true, false, false, false, false] rfl rfl (any_of HT_.out (by kernel_rfl)) (fun _ _ _ h => h) (Or.inl ⟨by rfl, ?_⟩) ?_ ?_
      rotate_left
      · intro w'
        go_simp
        with_reducible rfl
      rotate_left
      · simp only [Act.put, List.setIfInBounds_toArray, List.set_cons_zero, List.set_cons_succ, i64_w, i32_w]
        rfl
      refine pure_ (i := 12) (N := some 56) (v := ?_) (a' := ?_) #[true, true, true, true, true, true, true, true, true, true, true, true, true, false, false, false] rfl rfl (any_of HT_.out (by kernel_rfl)) (fun _ _ _ h => h) (Or.inl ⟨by rfl, ?_⟩) ?_ ?_
      rotate_left
      · intro w'
        go_simp
        with_reducible rfl
      rotate_left
      · simp only [Act.put, List.setIfInBounds_toArray, List.set_cons_zero, List.set_cons_succ, i64_w, i32_w]
        rfl
      refine take_ (i := 13) (N := some 57) (v := ?_) (a' := ?_) #[true, true, true, true, true, true, true, true, true, true, true, true, true, true, false, false] rfl rfl (take_ofW HT_.out HW_.out (by kernel_rfl)) (fun _ _ _ h => h) (Or.inl ⟨by rfl, ?_⟩) hHeld ?_ ?_
      rotate_left
      · rintro w' s0
        have t0_ := (blk_cell (heap_below s0 HX.out) 0).trans rfl
        have t1_ := (blk_cell (heap_below s0 HT.out.1) 1).trans rfl
        have t2_ := pw_cell_below s0 HQ0.out
        have t3_ := pw_cell_below s0 HQ1.out
        go_simp
        with_reducible rfl
      rotate_left
      · simp only [Act.put, List.setIfInBounds_toArray, List.set_cons_zero, List.set_cons_succ, i64_w, i32_w]
        rfl
      refine pure_ (i := 14) (N := some 58) (v := ?_) (a' := ?_) #[true, true, true, true, true, true, true, true, true, true, true, true, true, true, true, false] rfl rfl (any_of HT_.out (by kernel_rfl)) (fun _ _ _ h => h) (Or.inl ⟨by rfl, ?_⟩) ?_ ?_
      rotate_left
      · intro w'
        go_simp
        with_reducible rfl
      rotate_left
      · simp only [Act.put, List.setIfInBounds_toArray, List.set_cons_zero, List.set_cons_succ, i64_w, i32_w]
        rfl
      refine last_ (i := 15) (N := none) #[true, true, true, true, true, true, true, true, true, true, true, true, true, true, true, true] rfl rfl (one_of HT_.out (by kernel_rfl)) (by decide) (fun K hK => ?_)
      have hal := heap_below hHeld HBk.out
      obtain ⟨old, hcz⟩ : ∃ old, Wd.cell? ⟨g, x.f0.toNat, none⟩ = some old := ⟨_, (blk_cell hal x.f0.toNat).trans (Array.getElem?_eq_getElem (show x.f0.toNat < cur.size by have h7 := Hcs.out; have e : l0.length * kSec.sz = l0.length := Nat.mul_one _; omega))⟩
      have hfz := blk_frozen hal x.f0.toNat
      have HS := Aside0.mk (N_set1 (Kd.N_below HN.out hHeld) x.f0 hx0 hx1 x.f1 (.slice Ax x.f1.length cx) hcz (Kd.FK_slice_mk Hxl.out (Kd.F_below HF.out hHeld)) (fun k hk => ⟨.inl hk, by have h6 := hk.2; have h7 := Hg.out; omega⟩))
      rw [← Hset.out] at HS
      have HT2 := Aside0.mk (Two.far (HT.out.below hHeld) Hg.out.1 x.f0.toNat (.slice Ax x.f1.length cx))
      have HX2 := Aside0.mk (blk_far (p := ⟨g, x.f0.toNat, none⟩) (heap_below hHeld HX.out) (by have h7 := Hg.out; dsimp only; omega) (.slice Ax x.f1.length cx))
      refine skip_ (w1 := ?_) (by rfl) rfl ?_ ?_
      rotate_left
      · go_simp
        rfl
      refine hK.out _ _ ?_
      clear hK K
      refine done_ (done_of HT_.out (by kernel_rfl)) ?_
      clear hHeld hal hcz hfz Hset HN HT HX HF HQ0 HQ1 Hxl HBk Hcs
      have hwk_ := wr_up k (by have h5 := Hl.out; omega)
      go_wp2
      go_round
      case rel => exact ⟨k + 1, by omega, by rw [hwk_], HT2, HX2, HS⟩
      case measure =>
        rw [hwk_]
        show l1.length - ((k + 1 : Nat) : Int).toNat < l1.length - ((k : Nat) : Int).toNat
        rw [Int.toNat_natCast, Int.toNat_natCast]
        exact Nat.sub_succ_lt_self _ _ hlt
    · obtain rfl : k = l1.length := by omega
      clear hlt hk
      rw [List.take_of_length_le (Nat.le_refl _)] at HN
      have e0_ := (blk_cell HX.out 0).trans rfl
      have e1_ := (blk_cell HX.out 1).trans rfl
      have e2_ := (blk_cell HX.out 2).trans rfl
      have e3_ := (blk_cell HX.out 3).trans rfl
      have ef0_ := blk_frozen HX.out 0
      have ef1_ := blk_frozen HX.out 1
      have ef2_ := blk_frozen HX.out 2
      have ef3_ := blk_frozen HX.out 3
      have hw_ := hw.out
      go_upto_region 20 with fail
      clear e0_ ef0_ e1_ ef1_ e2_ ef2_ e3_ ef3_
      have HT3 := Aside0.mk (Two.far HT.out Hbx.out 2 (.int .i64 (a - (l1.length : Int))))
      have HX3 := Aside0.mk (blk_put HX.out 2 (.int .i64 (a - (l1.length : Int))) rfl)
      have HN3 := Aside0.mk (Kd.N_far (p := ⟨bx, 2, none⟩) HN.out (fun k hk => by dsimp only; have h6 := Hbx.out; omega) (.int .i64 (a - (l1.length : Int))))
      clear HT HX HN hw_
      generalize wr.setCell ⟨bx, 2, none⟩ (.int .i64 (a - (l1.length : Int))) = w7 at HT3 HX3 HN3 ⊢
      have e0_ := (blk_cell HX3.out 0).trans rfl
      have e1_ := (blk_cell HX3.out 1).trans rfl
      have e2_ := (blk_cell HX3.out 2).trans rfl
      have e3_ := (blk_cell HX3.out 3).trans rfl
      have d0_ := (blk_cell HT3.out.2.1 0).trans rfl
      have d1_ := (blk_cell HT3.out.2.1 1).trans rfl
      have d2_ := (blk_cell HT3.out.2.1 2).trans rfl
      have d3_ := (blk_cell HT3.out.2.1 3).trans rfl
      have df0_ := blk_frozen HT3.out.2.1 0
      have df1_ := blk_frozen HT3.out.2.1 1
      have df2_ := blk_frozen HT3.out.2.1 2
      have df3_ := blk_frozen HT3.out.2.1 3
      go_wp2
      all_goals
        have hblk := (blk_put (blk_put (blk_put (blk_put HT3.out.2.1 0 (.slice (some ⟨g, 0, none⟩) l0.length cap) rfl) 1 (.slice none 0 0) rfl) 2 (.int .i64 (a - (l1.length : Int))) rfl) 3 (.bool false) rfl)
        refine bodyPost_ret (results_ct rfl _ _ (w.heap.size + 1) 25 _ (0, 0) _ rfl hblk hu rfl (by kernel_rfl)) rfl ?_
        refine ⟨_, _, rfl, ?_, Kd.V_nil _ _ _ _ _, (below_setCell (below_setCell (below_setCell (below_setCell HT3.out.2.2 (Nat.le_succ _) 0 (.slice (some ⟨g, 0, none⟩) l0.length cap)) (Nat.le_succ _) 1 (.slice none 0 0)) (Nat.le_succ _) 2 (.int .i64 (a - (l1.length : Int)))) (Nat.le_succ _) 3 (.bool false))⟩
        exact Kd.V_mono (Kd.V_far (p := ⟨w.heap.size + 1, 3, none⟩) (Kd.V_far (p := ⟨w.heap.size + 1, 2, none⟩) (Kd.V_far (p := ⟨w.heap.size + 1, 1, none⟩) (Kd.V_far (p := ⟨w.heap.size + 1, 0, none⟩) (Kd.N_V HN3.out) (fun k hk => by dsimp only; omega) (.slice (some ⟨g, 0, none⟩) l0.length cap)) (fun k hk => by dsimp only; omega) (.slice none 0 0)) (fun k hk => by dsimp only; omega) (.int .i64 (a - (l1.length : Int)))) (fun k hk => by dsimp only; omega) (.bool false)) (fun k hk => by rcases hk with h5 | h5; exact .inl h5.1; exact .inr (by omega))

set_option maxHeartbeats 4000000 in
set_option maxRecDepth 100000 in
theorem rsync_torn (P : Nat → Prop) (A0 : Option Addr) (c0 : Nat) (l0 : List (List Int)) (A1 : Option Addr) (c1 : Nat) (l1 : List SW) (m : Nat) (s : Bool) (w : World) (h0 : Kd.V kSec 35 w w.heap.size P (.slice A0 l0.length c0) l0) (h1 : Kd.V kW 54 w w.heap.size P (.slice A1 l1.length c1) l1) (hr : runsV l0 l1 (m : Int) s = true) (hm : m < l1.length) :
    Calls Try.prog 24 #[.agg (dkV A0 l0.length c0 A1 l1.length c1 (m : Int) s)] w (DskOut w (fun k => P k ∨ w.heap.size ≤ k) (tornV l0 l1 m, [], 0, true, 40)) := by
  have hu := Try.underlying25
  have hu22 := Try.underlying22
  obtain ⟨⟨hn1, hn2⟩, hn3, hn4, hn5, haa, hs⟩ := runs_ok hr
  have hd := ((runs_iff _ _ _ _).1 hr).1
  subst hs
  have HT := Aside0.mk (Two.new w (.cells (dkV A0 l0.length c0 A1 l1.length c1 (m : Int) false) 25 (0, 0)) (.cells dk0 25 (0, 0)))
  have HC := Aside0.mk (fastiref04_Check.calls (l0.length + l1.length + 3) A0 c0 l0 A1 c1 l1 (m : Int) false 0 _ (Kd.C_below (Kd.V_reads' h0).2.2 HT.out.2.2) (Kd.V_reads' h0).2.1 (Kd.C_below (Kd.V_reads' h1).2.2 HT.out.2.2) (Kd.V_reads' h1).2.1 ((chk_evn l0 l1 (m : Int) false _ (Nat.le_refl _)).trans (congrArg some hd)))
  have HV0 := Aside0.mk (Kd.F_bound (Kd.V_F h0))
  have HV1 := Aside0.mk (Kd.F_bound (Kd.V_F h1))
  have Hn4 := Aside0.mk hn4
  have Hn5 := Aside0.mk hn5
  have Hl := Aside0.mk (show (1 ≤ l0.length ∧ l0.length ≤ 4096) ∧ l1.length ≤ 4096 from ⟨⟨hn1, hn2⟩, hn3⟩)
  have Haa := Aside0.mk haa
  have ha0 : (0 : Int) ≤ (m : Int) := by omega
  have ha1 : (m : Int) < (l1.length : Int) := by omega
  have Hm := Aside0.mk hm
  clear h0 h1 hr hn1 hn2 hn3 hn4 hn5 haa hd hm
  go_enter Try.func24, Try.ntmps24
  go_wp2_with fail
  refine HC.out.mono ?_
  rintro e w1 ⟨rfl, hb⟩
  have HT1 := Aside0.mk (HT.out.below hb)
  clear hb HC HT
  have c0_ := (blk_cell HT1.out.1 0).trans rfl
  have c1_ := (blk_cell HT1.out.1 1).trans rfl
  have c2_ := (blk_cell HT1.out.1 2).trans rfl
  have c3_ := (blk_cell HT1.out.1 3).trans rfl
  go_upto_region 7 with fail
  clear c0_ c1_ c2_ c3_
  refine start_ (n := 9) (S := (fun w' => Two w (.cells (dkV A0 l0.length c0 A1 l1.length c1 (m : Int) false) 25 (0, 0)) (.cells dk0 25 (0, 0)) w')) (ds := [8]) #[false, false, false, false, false, false, false, false, false] (by kernel_rfl) rfl rfl (HT1.out.below (below_drew1 (Below.refl _ _))) (fun hHeld => ?_)
  refine with_tabW rsync.tab7 rsync.bits7 (fun HT_ HW_ => ?_)
  generalize World.drew _ = Wd at hHeld ⊢
  replace hHeld : Two w (.cells (dkV A0 l0.length c0 A1 l1.length c1 (m : Int) false) 25 (0, 0)) (.cells dk0 25 (0, 0)) Wd := hHeld
  have HTd := Aside0.mk hHeld
  have hlt := Aside0.mk hHeld.lt
  refine pure_ (i := 1) (N := some 33) (v := ?_) (a' := ?_) #[false, true, false, false, false, false, false, false, false] rfl rfl (any_of HT_.out (by kernel_rfl)) (fun _ _ _ h => h) (Or.inl ⟨by rfl, ?_⟩) ?_ ?_
  rotate_left
  · intro w'
    go_simp
    with_reducible rfl
  rotate_left
  · simp only [Act.put, List.setIfInBounds_toArray, List.set_cons_zero, List.set_cons_succ, i64_w, i32_w]
    rfl
  refine pure_ (i := 4) (N := some 36) (v := ?_) (a' := ?_) #[false, true, false, false, true, false, false, false, false] rfl rfl (any_of HT_.out (by kernel_rfl)) (fun _ _ _ h => h) (Or.inl ⟨by rfl, ?_⟩) ?_ ?_
  rotate_left
  · intro w'
    go_simp
    with_reducible rfl
  rotate_left
  · simp only [Act.put, List.setIfInBounds_toArray, List.set_cons_zero, List.set_cons_succ, i64_w, i32_w]
    rfl
  refine take_ (i := 2) (N := some 34) (v := ?_) (a' := ?_) #[false, true, true, false, true, false, false, false, false] rfl rfl (take_ofW HT_.out HW_.out (by kernel_rfl)) (fun _ _ _ h => h) (Or.inl ⟨by rfl, ?_⟩) hHeld ?_ ?_
  rotate_left
  · rintro w' hs
    have t0_ := (blk_cell hs.1 0).trans rfl
    have t1_ := (blk_cell hs.1 1).trans rfl
    have t2_ := (blk_cell hs.1 2).trans rfl
    have t3_ := (blk_cell hs.1 3).trans rfl
    go_simp
    with_reducible rfl
  rotate_left
  · simp only [Act.put, List.setIfInBounds_toArray, List.set_cons_zero, List.set_cons_succ, i64_w, i32_w]
    rfl
  refine take_ (i := 5) (N := some 37) (v := ?_) (a' := ?_) #[false, true, true, false, true, true, false, false, false] rfl rfl (take_ofW HT_.out HW_.out (by kernel_rfl)) (fun _ _ _ h => h) (Or.inl ⟨by rfl, ?_⟩) hHeld ?_ ?_
  rotate_left
  · rintro w' hs
    have t0_ := (blk_cell hs.1 0).trans rfl
    have t1_ := (blk_cell hs.1 1).trans rfl
    have t2_ := (blk_cell hs.1 2).trans rfl
    have t3_ := (blk_cell hs.1 3).trans rfl
    go_simp
    with_reducible rfl
  rotate_left
  · simp only [Act.put, List.setIfInBounds_toArray, List.set_cons_zero, List.set_cons_succ, i64_w, i32_w]
    rfl
  refine join_ (σ := Value × Option Addr × Nat × Nat) 1 #[true, true, true, true, true, true, true, true, false] (fun s_ => [(32, s_.1), (35, .slice s_.2.1 l0.length s_.2.2.1), (38, .agg #[.slice s_.2.1 l0.length s_.2.2.1, .slice none 0 0, .int .i64 (m : Int), .bool false]), (6, .pointer (some ⟨s_.2.2.2, 0, none⟩))]) (fun s_ W => Two w (.cells (dkV A0 l0.length c0 A1 l1.length c1 (m : Int) false) 25 (0, 0)) (.cells dk0 25 (0, 0)) W ∧ W.heap[s_.2.2.2]? = some (.cells dk0 25 (0, 0)) ∧ w.heap.size + 1 < s_.2.2.2 ∧ Kd.N kSec 35 W w.heap.size (fun k => (P k ∧ k < w.heap.size) ∨ (w.heap.size + 2 ≤ k ∧ k ≠ s_.2.2.2)) (.slice s_.2.1 l0.length s_.2.2.1) l0) ?_ ?_
  rotate_left
  · intro HJ0
    have HJ := Aside0.mk HJ0
    clear HJ0
    refine two_ (i := 0) (j := 7) (Ni := some 32) (Nj := some 6) #[true, true, true, false, true, true, false, false, false] #[false, true, true, false, true, true, false, true, false] rfl rfl rfl rfl (two_of HT_.out (by kernel_rfl)) (by decide) (by decide) (fun K hK => ?_) (fun K hK => ?_)
    · skip
      refine value_ (w1 := ?_) (v := ?_) (by rfl) rfl ?_ ?_
      rotate_left
      rotate_left
      · go_simp
        refine And.intro ?_ ?_ <;> rfl
      have hN0_ := Kd.N_lower (N_made0 kSec 35 Wd (fun k => (P k ∧ k < w.heap.size) ∨ w.heap.size + 2 ≤ k) (Or.inr (show w.heap.size + 2 ≤ Wd.heap.size from hlt.out))) (show w.heap.size ≤ Wd.heap.size from (Two.below_size hHeld))
      have hN0 := Aside0.mk hN0_
      clear hN0_
      replace hHeld : Two w (.cells (dkV A0 l0.length c0 A1 l1.length c1 (m : Int) false) 25 (0, 0)) (.cells dk0 25 (0, 0)) Wd := hHeld
      refine hK.out _ _ (Two.alloc hHeld _) (fun hHeld => ?_)
      clear hK K
      refine norm_ (a' := ?_) ?_ ?_
      rotate_left
      · show Act.put _ (some 32) _ = _
        simp only [Act.put, List.setIfInBounds_toArray, List.set_cons_zero, List.set_cons_succ, i64_w, i32_w]
        rfl
      refine two_ (i := 3) (j := 7) (Ni := some 35) (Nj := some 6) #[true, true, true, true, true, true, false, false, false] #[true, true, true, false, true, true, false, true, false] rfl rfl rfl rfl (two_of HT_.out (by kernel_rfl)) (by decide) (by decide) (fun K hK => ?_) (fun K hK => ?_)
      · skip
        refine Kd.N_append_rows_step kSec w.heap.size (by rfl) _ _ 22 35 (.slice none 0 0) 24 rfl hu22 infS rfl (by decide) (by decide) (.slice (some ⟨Wd.heap.size, 0, none⟩) 0 0) [] l0 A0 l0.length c0 (fun k => (P k ∧ k < w.heap.size) ∨ w.heap.size + 2 ≤ k) (fun k => P k ∧ k < w.heap.size) rfl rfl hN0.out (Kd.F_below HV0.out (show Below w.heap.size w _ from hHeld.2.2)) ?_ ?_ (show Below w.heap.size w _ from hHeld.2.2) (hHeld.2.2).size ?_ ?_
        · exact fun k hk => ⟨.inl hk, by have h5 := hk.2; have h6 := hlt.out; simp [Value.ownBlock]; omega⟩
        · intro k hk; have h5 := hHeld.2.2.size; right; have h6 := hlt.out; simp only [World.size_alloc] at hk; omega
        · have h5 := Hl.out; rw [List.length_nil, Nat.zero_add]; omega
        intro v' w3 hN hb hgrow hat
        have hNa := Aside0.mk (show Kd.N kSec 35 w3 w.heap.size (fun k => (P k ∧ k < w.heap.size) ∨ w.heap.size + 2 ≤ k) v' l0 from by simpa using hN)
        clear hN hN0
        obtain ⟨Aa, ca, rfl⟩ := Kd.N_slice hNa.out
        have hT3 : Two w (.cells (dkV A0 l0.length c0 A1 l1.length c1 (m : Int) false) 25 (0, 0)) (.cells dk0 25 (0, 0)) w3 := Two.grow hHeld hgrow (by simp [Value.ownBlock]; have h6 := hlt.out; omega) hb
        refine hK.out _ _ hT3 (fun hHeld => ?_)
        clear hK K
        refine norm_ (a' := ?_) ?_ ?_
        rotate_left
        · show Act.put _ (some 35) _ = _
          simp only [Act.put, List.setIfInBounds_toArray, List.set_cons_zero, List.set_cons_succ, i64_w, i32_w]
          rfl
        refine pure_ (i := 6) (N := some 38) (v := ?_) (a' := ?_) #[true, true, true, true, true, true, true, false, false] rfl rfl (any_of HT_.out (by kernel_rfl)) (fun _ _ _ h => h) (Or.inl ⟨by rfl, ?_⟩) ?_ ?_
        rotate_left
        · intro w'
          go_simp
          with_reducible rfl
        rotate_left
        · simp only [Act.put, List.setIfInBounds_toArray, List.set_cons_zero, List.set_cons_succ, i64_w, i32_w]
          rfl
        refine one_ (i := 7) (N := some 6) #[true, true, true, true, true, true, true, true, false] rfl rfl (one_of HT_.out (by kernel_rfl)) (by decide) (fun K hK => ?_)
        refine value_ (w1 := ?_) (v := ?_) (by rfl) rfl ?_ ?_
        rotate_left
        rotate_left
        · go_simp
          refine And.intro ?_ ?_ <;> rfl
        have hX := Aside0.mk (heap_at_new w3 (.cells dk0 25 (0, 0)) _ rfl)
        have hl3 := Aside0.mk (show w.heap.size + 1 < w3.heap.size from hHeld.lt)
        replace hHeld : Two w (.cells (dkV A0 l0.length c0 A1 l1.length c1 (m : Int) false) 25 (0, 0)) (.cells dk0 25 (0, 0)) w3 := hHeld
        have hNb := Aside0.mk (show Kd.N kSec 35 (w3.alloc (.cells dk0 25 (0, 0))) w.heap.size (fun k => (P k ∧ k < w.heap.size) ∨ (w.heap.size + 2 ≤ k ∧ k ≠ w3.heap.size)) (.slice Aa l0.length ca) l0 from Kd.N_alloc (Kd.N_mono (Kd.N_bound hNa.out) (fun k hk => by rcases hk with ⟨h1 | h1, h2⟩; exact Or.inl h1; exact Or.inr ⟨h1, by omega⟩)) _)
        refine hK.out _ _ (Two.alloc hHeld _) (fun hHeld => ?_)
        clear hK K
        refine norm_ (a' := ?_) ?_ ?_
        rotate_left
        · show Act.put _ (some 6) _ = _
          simp only [Act.put, List.setIfInBounds_toArray, List.set_cons_zero, List.set_cons_succ, i64_w, i32_w]
          rfl
        exact norm_ (by first | (simp only [putAll, Act.put, List.setIfInBounds_toArray, List.set_cons_zero, List.set_cons_succ]; done) | (simp only [putAll, Act.put, List.setIfInBounds_toArray, List.set_cons_zero, List.set_cons_succ]; rfl)) (HJ.out (_, _, _, w3.heap.size) _ ⟨hHeld, hX.out, hl3.out, hNb.out⟩)
      · skip
        refine value_ (w1 := ?_) (v := ?_) (by rfl) rfl ?_ ?_
        rotate_left
        rotate_left
        · go_simp
          refine And.intro ?_ ?_ <;> rfl
        have hX := Aside0.mk (show ((Wd.alloc (.cells #[] 35 (0, 0))).alloc (.cells dk0 25 (0, 0))).heap[Wd.heap.size + 1]? = some (.cells dk0 25 (0, 0)) from heap_at_new (Wd.alloc (.cells #[] 35 (0, 0))) (.cells dk0 25 (0, 0)) _ (by simp))
        replace hHeld : Two w (.cells (dkV A0 l0.length c0 A1 l1.length c1 (m : Int) false) 25 (0, 0)) (.cells dk0 25 (0, 0)) (Wd.alloc (.cells #[] 35 (0, 0))) := hHeld
        replace hN0 := Aside0.mk (Kd.N_alloc (Kd.N_mono (ok' := (fun k => (P k ∧ k < w.heap.size) ∨ (w.heap.size + 2 ≤ k ∧ k ≠ (Wd.heap.size + 1)))) (Kd.N_bound hN0.out) (fun k hk => by rcases hk with ⟨h1 | h1, h2⟩; exact Or.inl h1; exact Or.inr ⟨h1, by simp only [World.size_alloc] at h2; omega⟩)) (.cells dk0 25 (0, 0)))
        refine hK.out _ _ (Two.alloc hHeld _) (fun hHeld => ?_)
        clear hK K
        refine norm_ (a' := ?_) ?_ ?_
        rotate_left
        · show Act.put _ (some 6) _ = _
          simp only [Act.put, List.setIfInBounds_toArray, List.set_cons_zero, List.set_cons_succ, i64_w, i32_w]
          rfl
        refine one_ (i := 3) (N := some 35) #[true, true, true, true, true, true, false, true, false] rfl rfl (one_of HT_.out (by kernel_rfl)) (by decide) (fun K hK => ?_)
        refine Kd.N_append_rows_step kSec w.heap.size (by rfl) _ _ 22 35 (.slice none 0 0) 24 rfl hu22 infS rfl (by decide) (by decide) (.slice (some ⟨Wd.heap.size, 0, none⟩) 0 0) [] l0 A0 l0.length c0 (fun k => (P k ∧ k < w.heap.size) ∨ (w.heap.size + 2 ≤ k ∧ k ≠ (Wd.heap.size + 1))) (fun k => P k ∧ k < w.heap.size) rfl rfl hN0.out (Kd.F_below HV0.out (show Below w.heap.size w _ from hHeld.2.2)) ?_ ?_ (show Below w.heap.size w _ from hHeld.2.2) (hHeld.2.2).size ?_ ?_
        · exact fun k hk => ⟨.inl hk, by have h5 := hk.2; have h6 := hlt.out; simp [Value.ownBlock]; omega⟩
        · intro k hk; have h5 := hHeld.2.2.size; right; have h6 := hlt.out; simp only [World.size_alloc] at hk; omega
        · have h5 := Hl.out; rw [List.length_nil, Nat.zero_add]; omega
        intro v' w3 hN hb hgrow hat
        have hNa := Aside0.mk (show Kd.N kSec 35 w3 w.heap.size (fun k => (P k ∧ k < w.heap.size) ∨ (w.heap.size + 2 ≤ k ∧ k ≠ (Wd.heap.size + 1))) v' l0 from by simpa using hN)
        clear hN hN0
        obtain ⟨Aa, ca, rfl⟩ := Kd.N_slice hNa.out
        have hT3 : Two w (.cells (dkV A0 l0.length c0 A1 l1.length c1 (m : Int) false) 25 (0, 0)) (.cells dk0 25 (0, 0)) w3 := Two.grow hHeld hgrow (by simp [Value.ownBlock]; have h6 := hlt.out; omega) hb
        have hX3 := Aside0.mk (blk_grown hX.out hgrow (by simp [Value.ownBlock]))
        refine hK.out _ _ hT3 (fun hHeld => ?_)
        clear hK K
        refine norm_ (a' := ?_) ?_ ?_
        rotate_left
        · show Act.put _ (some 35) _ = _
          simp only [Act.put, List.setIfInBounds_toArray, List.set_cons_zero, List.set_cons_succ, i64_w, i32_w]
          rfl
        refine pure_ (i := 6) (N := some 38) (v := ?_) (a' := ?_) #[true, true, true, true, true, true, true, true, false] rfl rfl (any_of HT_.out (by kernel_rfl)) (fun _ _ _ h => h) (Or.inl ⟨by rfl, ?_⟩) ?_ ?_
        rotate_left
        · intro w'
          go_simp
          with_reducible rfl
        rotate_left
        · simp only [Act.put, List.setIfInBounds_toArray, List.set_cons_zero, List.set_cons_succ, i64_w, i32_w]
          rfl
        exact norm_ (by first | (simp only [putAll, Act.put, List.setIfInBounds_toArray, List.set_cons_zero, List.set_cons_succ]; done) | (simp only [putAll, Act.put, List.setIfInBounds_toArray, List.set_cons_zero, List.set_cons_succ]; rfl)) (HJ.out (_, _, _, (Wd.heap.size + 1)) _ ⟨hHeld, hX3.out, (Nat.lt_succ_of_lt hlt.out), hNa.out⟩)
    · skip
      refine value_ (w1 := ?_) (v := ?_) (by rfl) rfl ?_ ?_
      rotate_left
      rotate_left
      · go_simp
        refine And.intro ?_ ?_ <;> rfl
      have hX := Aside0.mk (heap_at_new Wd (.cells dk0 25 (0, 0)) _ rfl)
      replace hHeld : Two w (.cells (dkV A0 l0.length c0 A1 l1.length c1 (m : Int) false) 25 (0, 0)) (.cells dk0 25 (0, 0)) Wd := hHeld
      refine hK.out _ _ (Two.alloc hHeld _) (fun hHeld => ?_)
      clear hK K
      refine norm_ (a' := ?_) ?_ ?_
      rotate_left
      · show Act.put _ (some 6) _ = _
        simp only [Act.put, List.setIfInBounds_toArray, List.set_cons_zero, List.set_cons_succ, i64_w, i32_w]
        rfl
      refine one_ (i := 0) (N := some 32) #[true, true, true, false, true, true, false, true, false] rfl rfl (one_of HT_.out (by kernel_rfl)) (by decide) (fun K hK => ?_)
      refine value_ (w1 := ?_) (v := ?_) (by rfl) rfl ?_ ?_
      rotate_left
      rotate_left
      · go_simp
        refine And.intro ?_ ?_ <;> rfl
      have hN0_ := Kd.N_lower (N_made0 kSec 35 (Wd.alloc (.cells dk0 25 (0, 0))) (fun k => (P k ∧ k < w.heap.size) ∨ (w.heap.size + 2 ≤ k ∧ k ≠ Wd.heap.size)) (Or.inr ⟨by simp only [World.size_alloc]; have := hlt.out; omega, by simp⟩)) (show w.heap.size ≤ (Wd.alloc (.cells dk0 25 (0, 0))).heap.size from (Two.below_size hHeld))
      rw [show (Wd.alloc (.cells dk0 25 (0, 0))).heap.size = Wd.heap.size + 1 from by simp] at hN0_
      have hN0 := Aside0.mk hN0_
      clear hN0_
      replace hHeld : Two w (.cells (dkV A0 l0.length c0 A1 l1.length c1 (m : Int) false) 25 (0, 0)) (.cells dk0 25 (0, 0)) (Wd.alloc (.cells dk0 25 (0, 0))) := hHeld
      refine hK.out _ _ (Two.alloc hHeld _) (fun hHeld => ?_)
      clear hK K
      refine norm_ (a' := ?_) ?_ ?_
      rotate_left
      · show Act.put _ (some 32) _ = _
        simp only [Act.put, List.setIfInBounds_toArray, List.set_cons_zero, List.set_cons_succ, i64_w, i32_w]
        rfl
      replace hX := Aside0.mk (heap_at_old (Wd.alloc (.cells dk0 25 (0, 0))) (.cells #[] 35 (0, 0)) _ _ hX.out)
      refine one_ (i := 3) (N := some 35) #[true, true, true, true, true, true, false, true, false] rfl rfl (one_of HT_.out (by kernel_rfl)) (by decide) (fun K hK => ?_)
      refine Kd.N_append_rows_step kSec w.heap.size (by rfl) _ _ 22 35 (.slice none 0 0) 24 rfl hu22 infS rfl (by decide) (by decide) (.slice (some ⟨(Wd.heap.size + 1), 0, none⟩) 0 0) [] l0 A0 l0.length c0 (fun k => (P k ∧ k < w.heap.size) ∨ (w.heap.size + 2 ≤ k ∧ k ≠ Wd.heap.size)) (fun k => P k ∧ k < w.heap.size) rfl rfl hN0.out (Kd.F_below HV0.out (show Below w.heap.size w _ from hHeld.2.2)) ?_ ?_ (show Below w.heap.size w _ from hHeld.2.2) (hHeld.2.2).size ?_ ?_
      · exact fun k hk => ⟨.inl hk, by have h5 := hk.2; have h6 := hlt.out; simp [Value.ownBlock]; omega⟩
      · intro k hk; have h5 := hHeld.2.2.size; right; have h6 := hlt.out; simp only [World.size_alloc] at hk; omega
      · have h5 := Hl.out; rw [List.length_nil, Nat.zero_add]; omega
      intro v' w3 hN hb hgrow hat
      have hNa := Aside0.mk (show Kd.N kSec 35 w3 w.heap.size (fun k => (P k ∧ k < w.heap.size) ∨ (w.heap.size + 2 ≤ k ∧ k ≠ Wd.heap.size)) v' l0 from by simpa using hN)
      clear hN hN0
      obtain ⟨Aa, ca, rfl⟩ := Kd.N_slice hNa.out
      have hT3 : Two w (.cells (dkV A0 l0.length c0 A1 l1.length c1 (m : Int) false) 25 (0, 0)) (.cells dk0 25 (0, 0)) w3 := Two.grow hHeld hgrow (by simp [Value.ownBlock]; have h6 := hlt.out; omega) hb
      have hX3 := Aside0.mk (blk_grown hX.out hgrow (by simp [Value.ownBlock]))
      refine hK.out _ _ hT3 (fun hHeld => ?_)
      clear hK K
      refine norm_ (a' := ?_) ?_ ?_
      rotate_left
      · show Act.put _ (some 35) _ = _
        simp only [Act.put, List.setIfInBounds_toArray, List.set_cons_zero, List.set_cons_succ, i64_w, i32_w]
        rfl
      refine pure_ (i := 6) (N := some 38) (v := ?_) (a' := ?_) #[true, true, true, true, true, true, true, true, false] rfl rfl (any_of HT_.out (by kernel_rfl)) (fun _ _ _ h => h) (Or.inl ⟨by rfl, ?_⟩) ?_ ?_
      rotate_left
      · intro w'
        go_simp
        with_reducible rfl
      rotate_left
      · simp only [Act.put, List.setIfInBounds_toArray, List.set_cons_zero, List.set_cons_succ, i64_w, i32_w]
        rfl
      exact norm_ (by first | (simp only [putAll, Act.put, List.setIfInBounds_toArray, List.set_cons_zero, List.set_cons_succ]; done) | (simp only [putAll, Act.put, List.setIfInBounds_toArray, List.set_cons_zero, List.set_cons_succ]; rfl)) (HJ.out (_, _, _, Wd.heap.size) _ ⟨hHeld, hX3.out, hlt.out, hNa.out⟩)
  rintro ⟨v32, Aa, cap, bx⟩ W0 ⟨hHeld, hX, hbx, hN⟩
  obtain ⟨g, cap', he, hg1, hg2, hgo⟩ := N_own (show Kd.N kSec 35 W0 w.heap.size (fun k => (P k ∧ k < w.heap.size) ∨ (w.heap.size + 2 ≤ k ∧ k ≠ bx)) (.slice Aa l0.length cap) l0 from hN) Hl.out.1.1
  cases he
  have HX := Aside0.mk (show W0.heap[bx]? = some (.cells dk0 25 (0, 0)) from hX)
  have HN := Aside0.mk (show Kd.N kSec 35 W0 w.heap.size (fun k => (P k ∧ k < w.heap.size) ∨ (w.heap.size + 2 ≤ k ∧ k ≠ bx)) (.slice (some ⟨g, 0, none⟩) l0.length cap) l0 from hN)
  have Hbx := Aside0.mk (show w.heap.size + 1 < bx from hbx)
  have Hg := Aside0.mk (show w.heap.size + 1 < g ∧ g ≠ bx from by rcases hgo with h5 | h5 <;> (have h6 := hbx; dsimp only at h6 h5; omega))
  have HT0 := Aside0.mk (show Two w (.cells (dkV A0 l0.length c0 A1 l1.length c1 (m : Int) false) 25 (0, 0)) (.cells dk0 25 (0, 0)) W0 from hHeld)
  clear hX hN hbx hg1 hg2 hgo HTd
  refine norm_ (a' := ?_) ?_ ?_
  rotate_left
  · simp only [putAll, Act.put, List.setIfInBounds_toArray, List.set_cons_zero, List.set_cons_succ]
    rfl
  refine last_ (i := 8) (N := none) #[true, true, true, true, true, true, true, true, true] rfl rfl (one_of HT_.out (by kernel_rfl)) (by decide) (fun K hK => ?_)
  have x0_ := (blk_cell HX.out 0).trans rfl
  have x1_ := (blk_cell HX.out 1).trans rfl
  have x2_ := (blk_cell HX.out 2).trans rfl
  have x3_ := (blk_cell HX.out 3).trans rfl
  have xf0_ := blk_frozen HX.out 0
  have xf1_ := blk_frozen HX.out 1
  have xf2_ := blk_frozen HX.out 2
  have xf3_ := blk_frozen HX.out 3
  refine skip_ (w1 := ?_) (by rfl) rfl ?_ ?_
  rotate_left
  · go_simp
    rfl
  refine hK.out _ _ ?_
  clear hK K
  refine done_ (done_of HT_.out (by kernel_rfl)) ?_
  obtain ⟨w6, hw6⟩ : ∃ x, (((W0.setCell ⟨bx, 0, none⟩ (.slice (some ⟨g, 0, none⟩) l0.length cap)).setCell ⟨bx, 1, none⟩ (.slice none 0 0)).setCell ⟨bx, 2, none⟩ (.int .i64 (m : Int))).setCell ⟨bx, 3, none⟩ (.bool false) = x := ⟨_, rfl⟩
  have HT6 := Aside0.mk (show Two w (.cells (dkV A0 l0.length c0 A1 l1.length c1 (m : Int) false) 25 (0, 0)) (.cells dk0 25 (0, 0)) w6 from hw6 ▸ (Two.far (Two.far (Two.far (Two.far HT0.out Hbx.out 0 (.slice (some ⟨g, 0, none⟩) l0.length cap)) Hbx.out 1 (.slice none 0 0)) Hbx.out 2 (.int .i64 (m : Int))) Hbx.out 3 (.bool false)))
  have HX6 := Aside0.mk (show w6.heap[bx]? = some (.cells #[.slice (some ⟨g, 0, none⟩) l0.length cap, .slice none 0 0, .int .i64 (m : Int), .bool false] 25 (0, 0)) from hw6 ▸ (blk_put (blk_put (blk_put (blk_put HX.out 0 (.slice (some ⟨g, 0, none⟩) l0.length cap) rfl) 1 (.slice none 0 0) rfl) 2 (.int .i64 (m : Int)) rfl) 3 (.bool false) rfl))
  have HN6 := Aside0.mk (show Kd.N kSec 35 w6 w.heap.size (fun k => (P k ∧ k < w.heap.size) ∨ (w.heap.size + 2 ≤ k ∧ k ≠ bx)) (.slice (some ⟨g, 0, none⟩) l0.length cap) (perfV l0 (l1.take 0)) from hw6 ▸ (Kd.N_far (p := ⟨bx, 3, none⟩) (Kd.N_far (p := ⟨bx, 2, none⟩) (Kd.N_far (p := ⟨bx, 1, none⟩) (Kd.N_far (p := ⟨bx, 0, none⟩) HN.out (fun k hk => by dsimp only; have h6 := Hbx.out; omega) (.slice (some ⟨g, 0, none⟩) l0.length cap)) (fun k hk => by dsimp only; have h6 := Hbx.out; omega) (.slice none 0 0)) (fun k hk => by dsimp only; have h6 := Hbx.out; omega) (.int .i64 (m : Int))) (fun k hk => by dsimp only; have h6 := Hbx.out; omega) (.bool false)))
  rw [hw6]
  clear hw6 HX HN HT0 hHeld hlt HT1 x0_ xf0_ x1_ xf1_ x2_ xf2_ x3_ xf3_
  go_wp2
  go_loopw [7] (fun i wr => ∃ k : Nat, k ≤ m ∧ i = .int .i64 k ∧ Aside0 (Two w (.cells (dkV A0 l0.length c0 A1 l1.length c1 (m : Int) false) 25 (0, 0)) (.cells dk0 25 (0, 0)) wr) ∧ Aside0 (wr.heap[bx]? = some (.cells #[.slice (some ⟨g, 0, none⟩) l0.length cap, .slice none 0 0, .int .i64 (m : Int), .bool false] 25 (0, 0))) ∧ Aside0 (Kd.N kSec 35 wr w.heap.size (fun k => (P k ∧ k < w.heap.size) ∨ (w.heap.size + 2 ≤ k ∧ k ≠ bx)) (.slice (some ⟨g, 0, none⟩) l0.length cap) (perfV l0 (l1.take k)))) (fun i _ => m - (intOf i).toNat)
  case atStart => exact ⟨0, Nat.zero_le _, rfl, HT6, HX6, HN6⟩
  case round =>
    clear HT6 HX6 HN6
    obtain ⟨k, hk, rfl, HT, HX, HN⟩ := hrel
    by_cases hlt : k < m
    · have hkl : (k : Int) < (m : Int) := by omega
      have hkl2 : (k : Int) < (l1.length : Int) := by have h5 := Hm.out; omega
      have hk0 : (0 : Int) ≤ (k : Int) := by omega
      have hkn : k < l1.length := by have h5 := Hm.out; omega
      obtain ⟨ad, c, rfl, hcl, hFK, hcc, _⟩ := Kd.F_get (Kd.F_below HV1.out HT.out.2.2) z54 (k : Int) (by omega) (by omega)
      obtain ⟨Ax, cx, rfl, hxl, hF⟩ := k54_openF hFK
      rw [Int.toNat_natCast] at hcc hxl hF hFK
      have q0 : wr.cell? (ad.add (k * 2)) = some (.int .i64 (l1.getD k z54).f0) := hcc 0 _ rfl
      have q1 : wr.cell? ⟨(ad.add (k * 2)).block, (ad.add (k * 2)).off + 1, none⟩ = some (.slice Ax (l1.getD k z54).f1.length cx) := by
        rw [← add_field _ _ 1 (by omega)]
        exact hcc 1 _ rfl
      have HF := Aside0.mk hF
      clear hcc hFK hF hcl
      have hx := (Hn4.out (l1.getD k z54) (by simp [List.getD, hkn])).1
      have Hset := Aside0.mk (perfV_take l0 l1 k hkn)
      generalize l1.getD k z54 = x at *
      have HQ0 := Aside0.mk q0
      have HQ1 := Aside0.mk q1
      have hx0 := hx.1
      have hx1 := hx.2
      have Hxl := Aside0.mk hxl
      clear q0 q1 hx hxl hkn
      obtain ⟨cur, hblk, hcs⟩ := N_blk HN.out
      have HBk := Aside0.mk hblk
      have Hcs := Aside0.mk hcs
      clear hblk hcs
      go_upto_region 11 with fail
      refine start_ (n := 16) (S := fun w' => Below wr.heap.size wr w') (ds := [15]) #[false, false, false, false, false, false, false, false, false, false, false, false, false, false, false, false] (by kernel_rfl) rfl rfl (below_drew1 (Below.refl _ _)) (fun hHeld => ?_)
      refine with_tabW rsync.tab11 rsync.bits11 (fun HT_ HW_ => ?_)
      generalize World.drew _ = Wd at hHeld ⊢
      replace hHeld : Below wr.heap.size wr Wd := hHeld
      refine pure_ (i := 0) (N := some 44) (v := ?_) (a' := ?_) #[true, false, false, false, false, false, false, false, false, false, false, false, false, false, false, false] rfl rfl (any_of HT_.out (by kernel_rfl)) (fun _ _ _ h => h) (Or.inl ⟨by rfl, ?_⟩) ?_ ?_
      rotate_left
      · intro w'
        go_simp
        with_reducible rfl
      rotate_left
      · simp only [Act.put, List.setIfInBounds_toArray, List.set_cons_zero, List.set_cons_succ, i64_w, i32_w]
        rfl
      refine pure_ (i := 2) (N := some 46) (v := ?_) (a' := ?_) #[true, false, true, false, false, false, false, false, false, false, false, false, false, false, false, false] rfl rfl (any_of HT_.out (by kernel_rfl)) (fun _ _ _ h => h) (Or.inl ⟨by rfl, ?_⟩) ?_ ?_
      rotate_left
      · intro w'
        go_simp
        with_reducible rfl
      rotate_left
      · simp only [Act.put, List.setIfInBounds_toArray, List.set_cons_zero, List.set_cons_succ, i64_w, i32_w]
        rfl
      refine pure_ (i := 4) (N := some 48) (v := ?_) (a' := ?_) #[true, false, true, false, true, false, false, false, false, false, false, false, false, false, false, false] rfl rfl (any_of HT_.out (by kernel_rfl)) (fun _ _ _ h => h) (Or.inl ⟨by rfl, ?_⟩) ?_ ?_
      rotate_left
      · intro w'
        go_simp
        with_reducible rfl
      rotate_left
      · simp only [Act.put, List.setIfInBounds_toArray, List.set_cons_zero, List.set_cons_succ, i64_w, i32_w]
        rfl
      refine pure_ (i := 8) (N := some 52) (v := ?_) (a' := ?_) #[true, false, true, false, true, false, false, false, true, false, false, false, false, false, false, false] rfl rfl (any_of HT_.out (by kernel_rfl)) (fun _ _ _ h => h) (Or.inl ⟨by rfl, ?_⟩) ?_ ?_
      rotate_left
      · intro w'
        go_simp
        with_reducible rfl
      rotate_left
      · simp only [Act.put, List.setIfInBounds_toArray, List.set_cons_zero, List.set_cons_succ, i64_w, i32_w]
        rfl
      refine pure_ (i := 10) (N := some 54) (v := ?_) (a' := ?_) #[true, false, true, false, true, false, false, false, true, false, true, false, false, false, false, false] rfl rfl (any_of HT_.out (by kernel_rfl)) (fun _ _ _ h => h) (Or.inl ⟨by rfl, ?_⟩) ?_ ?_
      rotate_left
      · intro w'
        go_simp
        with_reducible rfl
      rotate_left
      · simp only [Act.put, List.setIfInBounds_toArray, List.set_cons_zero, List.set_cons_succ, i64_w, i32_w]
        rfl
      refine take_ (i := 1) (N := some 45) (v := ?_) (a' := ?_) #[true, true, true, false, true, false, false, false, true, false, true, false, false, false, false, false] rfl rfl (take_ofW HT_.out HW_.out (by kernel_rfl)) (fun _ _ _ h => h) (Or.inl ⟨by rfl, ?_⟩) hHeld ?_ ?_
      rotate_left
      · rintro w' s0
        have t0_ := (blk_cell (heap_below s0 HX.out) 0).trans rfl
        have t1_ := (blk_cell (heap_below s0 HT.out.1) 1).trans rfl
        have t2_ := pw_cell_below s0 HQ0.out
        have t3_ := pw_cell_below s0 HQ1.out
        go_simp
        with_reducible rfl
      rotate_left
      · simp only [Act.put, List.setIfInBounds_toArray, List.set_cons_zero, List.set_cons_succ, i64_w, i32_w]
        rfl
      refine take_ (i := 3) (N := some 47) (v := ?_) (a' := ?_) #[true, true, true, true, true, false, false, false, true, false, true, false, false, false, false, false] rfl rfl (take_ofW HT_.out HW_.out (by kernel_rfl)) (fun _ _ _ h => h) (Or.inl ⟨by rfl, ?_⟩) hHeld ?_ ?_
      rotate_left
      · rintro w' s0
        have t0_ := (blk_cell (heap_below s0 HX.out) 0).trans rfl
        have t1_ := (blk_cell (heap_below s0 HT.out.1) 1).trans rfl
        have t2_ := pw_cell_below s0 HQ0.out
        have t3_ := pw_cell_below s0 HQ1.out
        go_simp
        with_reducible rfl
      rotate_left
      · simp only [Act.put, List.setIfInBounds_toArray, List.set_cons_zero, List.set_cons_succ, i64_w, i32_w]
        rfl
      refine pure_ (i := 5) (N := some 49) (v := ?_) (a' := ?_) #[true, true, true, true, true, true, false, false, true, false, true, false, false, false, false, false] rfl rfl (any_of HT_.out (by kernel_rfl)) (fun _ _ _ h => h) (Or.inl ⟨by rfl, ?_⟩) ?_ ?_
      rotate_left
      · intro w'
        go_simp
        with_reducible rfl
      rotate_left
      · simp only [Act.put, List.setIfInBounds_toArray, List.set_cons_zero, List.set_cons_succ, i64_w, i32_w]
        rfl
      refine pure_ (i := 6) (N := some 50) (v := ?_) (a' := ?_) #[true, true, true, true, true, true, true, false, true, false, true, false, false, false, false, false] rfl rfl (any_of HT_.out (by kernel_rfl)) (fun _ _ _ h => h) (Or.inl ⟨by rfl, ?_⟩) ?_ ?_
      rotate_left
      · intro w'
        go_simp
        with_reducible rfl
      rotate_left
      · simp only [Act.put, List.setIfInBounds_toArray, List.set_cons_zero, List.set_cons_succ, i64_w, i32_w]
        rfl
      refine take_ (i := 7) (N := some 51) (v := ?_) (a' := ?_) #[true, true, true, true, true, true, true, true, true, false, true, false, false, false, false, false] rfl rfl (take_ofW HT_.out HW_.out (by kernel_rfl)) (fun _ _ _ h => h) (Or.inl ⟨by rfl, ?_⟩) hHeld ?_ ?_
      rotate_left
      · rintro w' s0
        have t0_ := (blk_cell (heap_below s0 HX.out) 0).trans rfl
        have t1_ := (blk_cell (heap_below s0 HT.out.1) 1).trans rfl
        have t2_ := pw_cell_below s0 HQ0.out
        have t3_ := pw_cell_below s0 HQ1.out
        go_simp
        with_reducible rfl
      rotate_left
      · simp only [Act.put, List.setIfInBounds_toArray, List.set_cons_zero, List.set_cons_succ, i64_w, i32_w]
        rfl
      refine take_ (i := 9) (N := some 53) (v := ?_) (a' := ?_) #[true, true, true, true, true, true, true, true, true, true, true, false, false, false, false, false] rfl rfl (take_ofW HT_.out HW_.out (by kernel_rfl)) (fun _ _ _ h => h) (Or.inl ⟨by rfl, ?_⟩) hHeld ?_ ?_
      rotate_left
      · rintro w' s0
        have t0_ := (blk_cell (heap_below s0 HX.out) 0).trans rfl
        have t1_ := (blk_cell (heap_below s0 HT.out.1) 1).trans rfl
        have t2_ := pw_cell_below s0 HQ0.out
        have t3_ := pw_cell_below s0 HQ1.out
        go_simp
        with_reducible rfl
      rotate_left
      · simp only [Act.put, List.setIfInBounds_toArray, List.set_cons_zero, List.set_cons_succ, i64_w, i32_w]
        rfl
      refine pure_ (i := 11) (N := some 55) (v := ?_) (a' := ?_) #[true, true, true, true, true, true, true, true, true, true, true, true, false, false, false, false] rfl rfl (any_of HT_.out (by kernel_rfl)) (fun _ _ _ h => h) (Or.inl ⟨by rfl, ?_⟩) ?_ ?_
      rotate_left
      · intro w'
        go_simp
        with_reducible rfl
      rotate_left
      · simp only [Act.put, List.setIfInBounds_toArray, List.set_cons_zero, List.set_cons_succ, i64_w, i32_w]
        rfl
      refine pure_ (i := 12) (N := some 56) (v := ?_) (a' := ?_) #[true, true, true, true, true, true, true, true, true, true, true, true, true, false, false, false] rfl rfl (any_of HT_.out (by kernel_rfl)) (fun _ _ _ h => h) (Or.inl ⟨by rfl, ?_⟩) ?_ ?_
      rotate_left
      · intro w'
        go_simp
        with_reducible rfl
      rotate_left
      · simp only [Act.put, List.setIfInBounds_toArray, List.set_cons_zero, List.set_cons_succ, i64_w, i32_w]
        rfl
      refine take_ (i := 13) (N := some 57) (v := ?_) (a' := ?_) #[true, true, true, true, true, true, true, true, true, true, true, true, true, true, false, false] rfl rfl (take_ofW HT_.out HW_.out (by kernel_rfl)) (fun _ _ _ h => h) (Or.inl ⟨by rfl, ?_⟩) hHeld ?_ ?_
      rotate_left
      · rintro w' s0
        have t0_ := (blk_cell (heap_below s0 HX.out) 0).trans rfl
        have t1_ := (blk_cell (heap_below s0 HT.out.1) 1).trans rfl
        have t2_ := pw_cell_below s0 HQ0.out
        have t3_ := pw_cell_below s0 HQ1.out
        go_simp
        with_reducible rfl
      rotate_left
      · simp only [Act.put, List.setIfInBounds_toArray, List.set_cons_zero, List.set_cons_succ, i64_w, i32_w]
        rfl
      refine pure_ (i := 14) (N := some 58) (v := ?_) (a' := ?_) #[true, true, true, true, true, true, true, true, true, true, true, true, true, true, true, false] rfl rfl (any_of HT_.out (by kernel_rfl)) (fun _ _ _ h => h) (Or.inl ⟨by rfl, ?_⟩) ?_ ?_
      rotate_left
      · intro w'
        go_simp
        with_reducible rfl
      rotate_left
      · simp only [Act.put, List.setIfInBounds_toArray, List.set_cons_zero, List.set_cons_succ, i64_w, i32_w]
        rfl
      refine last_ (i := 15) (N := none) #[true, true, true, true, true, true, true, true, true, true, true, true, true, true, true, true] rfl rfl (one_of HT_.out (by kernel_rfl)) (by decide) (fun K hK => ?_)
      have hal := heap_below hHeld HBk.out
      obtain ⟨old, hcz⟩ : ∃ old, Wd.cell? ⟨g, x.f0.toNat, none⟩ = some old := ⟨_, (blk_cell hal x.f0.toNat).trans (Array.getElem?_eq_getElem (show x.f0.toNat < cur.size by have h7 := Hcs.out; have e : l0.length * kSec.sz = l0.length := Nat.mul_one _; omega))⟩
      have hfz := blk_frozen hal x.f0.toNat
      have HS := Aside0.mk (N_set1 (Kd.N_below HN.out hHeld) x.f0 hx0 hx1 x.f1 (.slice Ax x.f1.length cx) hcz (Kd.FK_slice_mk Hxl.out (Kd.F_below HF.out hHeld)) (fun k hk => ⟨.inl hk, by have h6 := hk.2; have h7 := Hg.out; omega⟩))
      rw [← Hset.out] at HS
      have HT2 := Aside0.mk (Two.far (HT.out.below hHeld) Hg.out.1 x.f0.toNat (.slice Ax x.f1.length cx))
      have HX2 := Aside0.mk (blk_far (p := ⟨g, x.f0.toNat, none⟩) (heap_below hHeld HX.out) (by have h7 := Hg.out; dsimp only; omega) (.slice Ax x.f1.length cx))
      refine skip_ (w1 := ?_) (by rfl) rfl ?_ ?_
      rotate_left
      · go_simp
        rfl
      refine hK.out _ _ ?_
      clear hK K
      refine done_ (done_of HT_.out (by kernel_rfl)) ?_
      clear hHeld hal hcz hfz Hset HN HT HX HF HQ0 HQ1 Hxl HBk Hcs
      have hwk_ := wr_up k (by have h5 := Hl.out; omega)
      go_wp2
      go_round
      case rel => exact ⟨k + 1, by omega, by rw [hwk_], HT2, HX2, HS⟩
      case measure =>
        rw [hwk_]
        show m - ((k + 1 : Nat) : Int).toNat < m - ((k : Nat) : Int).toNat
        rw [Int.toNat_natCast, Int.toNat_natCast]
        exact Nat.sub_succ_lt_self _ _ hlt
    · obtain rfl : k = m := by omega
      clear hlt hk
      have ha1_ := ha1
      obtain ⟨ad, c, rfl, hcl, hFK, hcc, _⟩ := Kd.F_get (Kd.F_below HV1.out HT.out.2.2) z54 (k : Int) (by omega) (by omega)
      obtain ⟨Ax, cx, rfl, hxl, hF⟩ := k54_openF hFK
      have HXt : Aside0 (tornV l0 l1 k = (perfV l0 (l1.take k)).set (l1.getD (k : Int).toNat z54).f0.toNat (halfV (l1.getD (k : Int).toNat z54).f1 (rd_L1 (perfV l0 (l1.take k)) (l1.getD (k : Int).toNat z54).f0))) := ⟨rfl⟩
      rw [Int.toNat_natCast] at hcc hxl hF hFK HXt
      have q0 : wr.cell? (ad.add (k * 2)) = some (.int .i64 (l1.getD k z54).f0) := hcc 0 _ rfl
      have q1 : wr.cell? ⟨(ad.add (k * 2)).block, (ad.add (k * 2)).off + 1, none⟩ = some (.slice Ax (l1.getD k z54).f1.length cx) := by
        rw [← add_field _ _ 1 (by omega)]
        exact hcc 1 _ rfl
      have HF := Aside0.mk hF
      clear hcc hFK hF hcl
      obtain ⟨⟨hx0, hx1⟩, hx2⟩ := Hn4.out (l1.getD k z54) (by have h5 := Hm.out; simp [List.getD, h5])
      generalize l1.getD k z54 = x at *
      rw [hx2] at hxl q1 HF
      have Hx2 := Aside0.mk hx2
      have Hxl := Aside0.mk hxl
      have hc64 : (64 : Int) ≤ (cx : Int) := by omega
      clear hx2 hxl
      have c1_ := (blk_cell HT.out.1 1).trans rfl
      go_upto_region 14 with fail
      clear c1_ q0 q1
      have BP := Aside0.mk (heap_at_new wr (.cells #[.int .i64 x.f0, .slice Ax 128 cx] 54 (0, 0)) _ rfl)
      have HT8 := Aside0.mk (Two.alloc HT.out (.cells #[.int .i64 x.f0, .slice Ax 128 cx] 54 (0, 0)))
      have HX8 := Aside0.mk (heap_at_old wr (.cells #[.int .i64 x.f0, .slice Ax 128 cx] 54 (0, 0)) _ _ HX.out)
      have HN8 := Aside0.mk (Kd.N_alloc HN.out (.cells #[.int .i64 x.f0, .slice Ax 128 cx] 54 (0, 0)))
      have HF8 := Aside0.mk (Kd.F_alloc HF.out (.cells #[.int .i64 x.f0, .slice Ax 128 cx] 54 (0, 0)))
      have Hwl := Aside0.mk HT.out.lt
      clear HT HX HN HF
      obtain ⟨w8, hw8⟩ : ∃ z, wr.alloc (.cells #[.int .i64 x.f0, .slice Ax 128 cx] 54 (0, 0)) = z := ⟨_, rfl⟩
      rw [hw8] at BP HT8 HX8 HN8 HF8 ⊢
      clear hw8
      have hpl := perfV_length (l1.take k) l0
      obtain ⟨c', hcl, hFK, hcc, -⟩ := Kd.N_elem HN8.out ([] : List Int) x.f0 hx0 hx1
      obtain ⟨Ay, cy, rfl, hyl, hFy⟩ := Kd.FK_slice_open hFK
      have hy := perfV_all (l1.take k) l0 Hn5.out (fun z hz => (Hn4.out z (List.mem_of_mem_take hz)).2)
      have Hy := Aside0.mk (show ((perfV l0 (l1.take k)).getD x.f0.toNat []).length = 128 from hy _ (by rw [List.getD_eq_getElem?_getD, List.getElem?_eq_getElem (by omega)]; simp))
      have HXt2 : Aside0 (tornV l0 l1 k = (perfV l0 (l1.take k)).set x.f0.toNat (halfV x.f1 ((perfV l0 (l1.take k)).getD x.f0.toNat []))) := ⟨HXt.out⟩
      have q2 : w8.cell? ⟨g, x.f0.toNat, none⟩ = some (.slice Ay 128 cy) := by have h5 := hcc 0 _ rfl; rw [Hy.out] at h5; rwa [show x.f0.toNat * kSec.sz + 0 = x.f0.toNat from by show x.f0.toNat * 1 + 0 = _; omega] at h5
      rw [Hy.out] at hyl hFy
      generalize (perfV l0 (l1.take k)).getD x.f0.toNat [] = y at *
      have HFy := Aside0.mk hFy
      have HQ2 := Aside0.mk q2
      have hcy : (64 : Int) ≤ (cy : Int) := by omega
      have Hyl := Aside0.mk hyl
      have Hpl := Aside0.mk hpl
      clear hcc hFK hFy hcl HXt q2 hy hyl hpl
      refine start_ (n := 19) (S := (fun w' => Below w8.heap.size w8 w')) (ds := [18]) #[false, false, false, false, false, false, false, false, false, false, false, false, false, false, false, false, false, false, false] (by kernel_rfl) rfl rfl (below_drew1 (Below.refl _ _)) (fun hHeld => ?_)
      refine with_tabW rsync.tab14 rsync.bits14 (fun HT_ HW_ => ?_)
      generalize World.drew _ = Wd at hHeld ⊢
      replace hHeld : Below w8.heap.size w8 Wd := hHeld
      refine pure_ (i := 0) (N := some 65) (v := ?_) (a' := ?_) #[true, false, false, false, false, false, false, false, false, false, false, false, false, false, false, false, false, false, false] rfl rfl (any_of HT_.out (by kernel_rfl)) (fun _ _ _ h => h) (Or.inl ⟨by rfl, ?_⟩) ?_ ?_
      rotate_left
      · intro w'
        go_simp
        with_reducible rfl
      rotate_left
      · simp only [Act.put, List.setIfInBounds_toArray, List.set_cons_zero, List.set_cons_succ, i64_w, i32_w]
        rfl
      refine take_ (i := 1) (N := some 66) (v := ?_) (a' := ?_) #[true, true, false, false, false, false, false, false, false, false, false, false, false, false, false, false, false, false, false] rfl rfl (take_ofW HT_.out HW_.out (by kernel_rfl)) (fun _ _ _ h => h) (Or.inl ⟨by rfl, ?_⟩) hHeld ?_ ?_
      rotate_left
      · rintro w' hs
        have t0_ := (blk_cell (heap_below hs HX8.out) 0).trans rfl
        go_simp
        with_reducible rfl
      rotate_left
      · simp only [Act.put, List.setIfInBounds_toArray, List.set_cons_zero, List.set_cons_succ, i64_w, i32_w]
        rfl
      refine pure_ (i := 2) (N := some 67) (v := ?_) (a' := ?_) #[true, true, true, false, false, false, false, false, false, false, false, false, false, false, false, false, false, false, false] rfl rfl (any_of HT_.out (by kernel_rfl)) (fun _ _ _ h => h) (Or.inl ⟨by rfl, ?_⟩) ?_ ?_
      rotate_left
      · intro w'
        go_simp
        with_reducible rfl
      rotate_left
      · simp only [Act.put, List.setIfInBounds_toArray, List.set_cons_zero, List.set_cons_succ, i64_w, i32_w]
        rfl
      refine take_ (i := 3) (N := some 68) (v := ?_) (a' := ?_) #[true, true, true, true, false, false, false, false, false, false, false, false, false, false, false, false, false, false, false] rfl rfl (take_ofW HT_.out HW_.out (by kernel_rfl)) (fun _ _ _ h => h) (Or.inl ⟨by rfl, ?_⟩) hHeld ?_ ?_
      rotate_left
      · rintro w' hs
        have t0_ := (blk_cell (heap_below hs BP.out) 0).trans rfl
        have t1_ := (blk_cell (heap_below hs BP.out) 1).trans rfl
        go_simp
        with_reducible rfl
      rotate_left
      · simp only [Act.put, List.setIfInBounds_toArray, List.set_cons_zero, List.set_cons_succ, i64_w, i32_w]
        rfl
      refine pure_ (i := 5) (N := some 70) (v := ?_) (a' := ?_) #[true, true, true, true, false, true, false, false, false, false, false, false, false, false, false, false, false, false, false] rfl rfl (any_of HT_.out (by kernel_rfl)) (fun _ _ _ h => h) (Or.inl ⟨by rfl, ?_⟩) ?_ ?_
      rotate_left
      · intro w'
        go_simp
        with_reducible rfl
      rotate_left
      · simp only [Act.put, List.setIfInBounds_toArray, List.set_cons_zero, List.set_cons_succ, i64_w, i32_w]
        rfl
      refine take_ (i := 6) (N := some 71) (v := ?_) (a' := ?_) #[true, true, true, true, false, true, true, false, false, false, false, false, false, false, false, false, false, false, false] rfl rfl (take_ofW HT_.out HW_.out (by kernel_rfl)) (fun _ _ _ h => h) (Or.inl ⟨by rfl, ?_⟩) hHeld ?_ ?_
      rotate_left
      · rintro w' hs
        have t0_ := (blk_cell (heap_below hs BP.out) 0).trans rfl
        have t1_ := (blk_cell (heap_below hs BP.out) 1).trans rfl
        go_simp
        with_reducible rfl
      rotate_left
      · simp only [Act.put, List.setIfInBounds_toArray, List.set_cons_zero, List.set_cons_succ, i64_w, i32_w]
        rfl
      refine pure_ (i := 7) (N := some 72) (v := ?_) (a' := ?_) #[true, true, true, true, false, true, true, true, false, false, false, false, false, false, false, false, false, false, false] rfl rfl (any_of HT_.out (by kernel_rfl)) (fun _ _ _ h => h) (Or.inl ⟨by rfl, ?_⟩) ?_ ?_
      rotate_left
      · intro w'
        go_simp
        with_reducible rfl
      rotate_left
      · simp only [Act.put, List.setIfInBounds_toArray, List.set_cons_zero, List.set_cons_succ, i64_w, i32_w]
        rfl
      refine pure_ (i := 9) (N := some 74) (v := ?_) (a' := ?_) #[true, true, true, true, false, true, true, true, false, true, false, false, false, false, false, false, false, false, false] rfl rfl (any_of HT_.out (by kernel_rfl)) (fun _ _ _ h => h) (Or.inl ⟨by rfl, ?_⟩) ?_ ?_
      rotate_left
      · intro w'
        go_simp
        with_reducible rfl
      rotate_left
      · simp only [Act.put, List.setIfInBounds_toArray, List.set_cons_zero, List.set_cons_succ, i64_w, i32_w]
        rfl
      refine take_ (i := 10) (N := some 75) (v := ?_) (a' := ?_) #[true, true, true, true, false, true, true, true, false, true, true, false, false, false, false, false, false, false, false] rfl rfl (take_ofW HT_.out HW_.out (by kernel_rfl)) (fun _ _ _ h => h) (Or.inl ⟨by rfl, ?_⟩) hHeld ?_ ?_
      rotate_left
      · rintro w' hs
        have t0_ := (blk_cell (heap_below hs HX8.out) 0).trans rfl
        go_simp
        with_reducible rfl
      rotate_left
      · simp only [Act.put, List.setIfInBounds_toArray, List.set_cons_zero, List.set_cons_succ, i64_w, i32_w]
        rfl
      refine pure_ (i := 11) (N := some 76) (v := ?_) (a' := ?_) #[true, true, true, true, false, true, true, true, false, true, true, true, false, false, false, false, false, false, false] rfl rfl (any_of HT_.out (by kernel_rfl)) (fun _ _ _ h => h) (Or.inl ⟨by rfl, ?_⟩) ?_ ?_
      rotate_left
      · intro w'
        go_simp
        with_reducible rfl
      rotate_left
      · simp only [Act.put, List.setIfInBounds_toArray, List.set_cons_zero, List.set_cons_succ, i64_w, i32_w]
        rfl
      refine take_ (i := 12) (N := some 77) (v := ?_) (a' := ?_) #[true, true, true, true, false, true, true, true, false, true, true, true, true, false, false, false, false, false, false] rfl rfl (take_ofW HT_.out HW_.out (by kernel_rfl)) (fun _ _ _ h => h) (Or.inl ⟨by rfl, ?_⟩) hHeld ?_ ?_
      rotate_left
      · rintro w' hs
        have t0_ := (blk_cell (heap_below hs BP.out) 0).trans rfl
        have t1_ := (blk_cell (heap_below hs BP.out) 1).trans rfl
        go_simp
        with_reducible rfl
      rotate_left
      · simp only [Act.put, List.setIfInBounds_toArray, List.set_cons_zero, List.set_cons_succ, i64_w, i32_w]
        rfl
      refine pure_ (i := 13) (N := some 78) (v := ?_) (a' := ?_) #[true, true, true, true, false, true, true, true, false, true, true, true, true, true, false, false, false, false, false] rfl rfl (any_of HT_.out (by kernel_rfl)) (fun _ _ _ h => h) (Or.inl ⟨by rfl, ?_⟩) ?_ ?_
      rotate_left
      · intro w'
        go_simp
        with_reducible rfl
      rotate_left
      · simp only [Act.put, List.setIfInBounds_toArray, List.set_cons_zero, List.set_cons_succ, i64_w, i32_w]
        rfl
      refine take_ (i := 14) (N := some 79) (v := ?_) (a' := ?_) #[true, true, true, true, false, true, true, true, false, true, true, true, true, true, true, false, false, false, false] rfl rfl (take_ofW HT_.out HW_.out (by kernel_rfl)) (fun _ _ _ h => h) (Or.inl ⟨by rfl, ?_⟩) hHeld ?_ ?_
      rotate_left
      · rintro w' hs
        have t0_ := pw_cell_below hs HQ2.out
        go_simp
        with_reducible rfl
      rotate_left
      · simp only [Act.put, List.setIfInBounds_toArray, List.set_cons_zero, List.set_cons_succ, i64_w, i32_w]
        rfl
      refine pure_ (i := 15) (N := some 80) (v := ?_) (a' := ?_) #[true, true, true, true, false, true, true, true, false, true, true, true, true, true, true, true, false, false, false] rfl rfl (any_of HT_.out (by kernel_rfl)) (fun _ _ _ h => h) (Or.inl ⟨by rfl, ?_⟩) ?_ ?_
      rotate_left
      · intro w'
        go_simp
        with_reducible rfl
      rotate_left
      · simp only [Act.put, List.setIfInBounds_toArray, List.set_cons_zero, List.set_cons_succ, i64_w, i32_w]
        rfl
      have hF64 : Kd.F (Kd.int .u8) w8 (fun z => P z ∧ z < w.heap.size) Ax 64 (x.f1.take 64) := by
        have h5 := Kd.F_take (m := 64) (show Kd.F (Kd.int .u8) w8 _ Ax x.f1.length x.f1 from by rw [Hx2.out]; exact HF8.out) (by rw [Hx2.out]; decide)
        rwa [show (x.f1.take 64).length = 64 from by rw [List.length_take, Hx2.out]; rfl] at h5
      have HF64 := Aside0.mk hF64
      clear hF64
      have hFd : Kd.F (Kd.int .u8) w8 (fun z => (fun k => (P k ∧ k < w.heap.size) ∨ (w.heap.size + 2 ≤ k ∧ k ≠ bx)) z ∧ z ≠ g) (if cy = 64 then Ay else Ay.map (·.add (64 * 1))) 64 (y.drop 64) := by
        have h5 := Kd.F_cut (m := 64) (c := cy) (show Kd.F (Kd.int .u8) w8 _ Ay y.length y from by rw [Hy.out]; exact HFy.out) (by rw [Hy.out]; decide) (by rw [Hy.out]; exact Hyl.out)
        rwa [show (y.drop 64).length = 64 from by rw [List.length_drop, Hy.out]] at h5
      have HFd := Aside0.mk hFd
      clear hFd
      refine one_ (i := 4) (N := some 69) #[true, true, true, true, true, true, true, true, false, true, true, true, true, true, true, true, false, false, false] rfl rfl (one_of HT_.out (by kernel_rfl)) (by decide) (fun K hK => ?_)
      refine value_ (w1 := ?_) (v := ?_) (by rfl) rfl ?_ ?_
      rotate_left
      rotate_left
      · go_simp
        refine And.intro ?_ ?_ <;> rfl
      have hN0 := Aside0.mk (Kd.N_lower (N_made0 (Kd.int .u8) 5 Wd (fun z => ((fun k => (P k ∧ k < w.heap.size) ∨ (w.heap.size + 2 ≤ k ∧ k ≠ bx)) z ∧ z ≠ g) ∨ w8.heap.size ≤ z) (Or.inr hHeld.size)) hHeld.size)
      refine hK.out _ _ (below_alloc hHeld _) (fun hHeld2 => ?_)
      clear hK K
      refine norm_ (a' := ?_) ?_ ?_
      rotate_left
      · show Act.put _ (some 69) _ = _
        simp only [Act.put, List.setIfInBounds_toArray, List.set_cons_zero, List.set_cons_succ, i64_w, i32_w]
        rfl
      replace hHeld2 : Below w8.heap.size w8 (Wd.alloc (.cells #[] 5 (0, 0))) := hHeld2
      have hu35 := Try.underlying35
      refine one_ (i := 8) (N := some 73) #[true, true, true, true, true, true, true, true, true, true, true, true, true, true, true, true, false, false, false] rfl rfl (one_of HT_.out (by kernel_rfl)) (by decide) (fun K hK => ?_)
      refine Kd.N_append_rows_step (Kd.int .u8) w8.heap.size (by rfl) _ _ 35 5 (.int .u8 0) 1 rfl hu35 infB rfl (by decide) (by decide) (.slice (some ⟨Wd.heap.size, 0, none⟩) 0 0) [] (x.f1.take 64) Ax 64 cx (fun z => ((fun k => (P k ∧ k < w.heap.size) ∨ (w.heap.size + 2 ≤ k ∧ k ≠ bx)) z ∧ z ≠ g) ∨ w8.heap.size ≤ z) (fun z => P z ∧ z < w.heap.size) rfl rfl hN0.out (Kd.F_below HF64.out hHeld2) ?_ ?_ hHeld2 hHeld2.size ?_ ?_
      · exact fun z hz => ⟨.inl ⟨.inl hz, by have h5 := Hg.out; have h6 := hz.2; omega⟩, by have h5 := hz.2; have h6 := hHeld.size; have h7 := HT8.out.lt; simp [Value.ownBlock]; omega⟩
      · intro z hz; exact .inr (Nat.le_trans hHeld2.size hz)
      · decide
      intro v' w9 hN hb hgrow hat
      have HN9 := Aside0.mk (show Kd.N (Kd.int .u8) 5 w9 w8.heap.size (fun z => ((fun k => (P k ∧ k < w.heap.size) ∨ (w.heap.size + 2 ≤ k ∧ k ≠ bx)) z ∧ z ≠ g) ∨ w8.heap.size ≤ z) v' (x.f1.take 64) from by simpa using hN)
      clear hN hN0 hgrow hat
      obtain ⟨Aa, ca, rfl⟩ := Kd.N_slice HN9.out
      refine hK.out _ _ hb (fun hHeld3 => ?_)
      clear hK K
      refine norm_ (a' := ?_) ?_ ?_
      rotate_left
      · show Act.put _ (some 73) _ = _
        simp only [Act.put, List.setIfInBounds_toArray, List.set_cons_zero, List.set_cons_succ, i64_w, i32_w]
        rfl
      replace hHeld3 : Below w8.heap.size w8 w9 := hHeld3
      have Hba := Aside0.mk (Kd.N_base HN9.out)
      refine one_ (i := 16) (N := some 81) #[true, true, true, true, true, true, true, true, true, true, true, true, true, true, true, true, true, false, false] rfl rfl (one_of HT_.out (by kernel_rfl)) (by decide) (fun K hK => ?_)
      refine Kd.N_append_rows_step (Kd.int .u8) w8.heap.size (by rfl) _ _ 35 5 (.int .u8 0) 1 rfl hu35 infB rfl (by decide) (by decide) (.slice Aa (x.f1.take 64).length ca) (x.f1.take 64) (y.drop 64) _ 64 _ (fun z => ((fun k => (P k ∧ k < w.heap.size) ∨ (w.heap.size + 2 ≤ k ∧ k ≠ bx)) z ∧ z ≠ g) ∨ w8.heap.size ≤ z) (fun z => ((fun k => (P k ∧ k < w.heap.size) ∨ (w.heap.size + 2 ≤ k ∧ k ≠ bx)) z ∧ z ≠ g) ∧ z < w8.heap.size) rfl rfl HN9.out (Kd.F_below (Kd.F_bound HFd.out) hHeld3) ?_ ?_ hHeld3 hHeld3.size ?_ ?_
      · exact fun z hz => ⟨.inl hz.1, fun he => by have h5 := Hba.out z he.symm; have h6 := hz.2; omega⟩
      · intro z hz; exact .inr (Nat.le_trans hHeld3.size hz)
      · rw [List.length_take, Hx2.out]; decide
      intro v' w10 hN hb hgrow hat
      have HN10 := Aside0.mk (show Kd.N (Kd.int .u8) 5 w10 w8.heap.size (fun z => ((fun k => (P k ∧ k < w.heap.size) ∨ (w.heap.size + 2 ≤ k ∧ k ≠ bx)) z ∧ z ≠ g) ∨ w8.heap.size ≤ z) v' (halfV x.f1 y) from hN)
      clear hN hgrow hat
      obtain ⟨Ab, cb, rfl⟩ := Kd.N_slice HN10.out
      refine hK.out _ _ hb (fun hHeld4 => ?_)
      clear hK K
      refine norm_ (a' := ?_) ?_ ?_
      rotate_left
      · show Act.put _ (some 81) _ = _
        simp only [Act.put, List.setIfInBounds_toArray, List.set_cons_zero, List.set_cons_succ, i64_w, i32_w]
        rfl
      replace hHeld4 : Below w8.heap.size w8 w10 := hHeld4
      refine pure_ (i := 17) (N := some 82) (v := ?_) (a' := ?_) #[true, true, true, true, true, true, true, true, true, true, true, true, true, true, true, true, true, true, false] rfl rfl (any_of HT_.out (by kernel_rfl)) (fun _ _ _ h => h) (Or.inl ⟨by rfl, ?_⟩) ?_ ?_
      rotate_left
      · intro w'
        go_simp
        with_reducible rfl
      rotate_left
      · simp only [Act.put, List.setIfInBounds_toArray, List.set_cons_zero, List.set_cons_succ, i64_w, i32_w]
        rfl
      obtain ⟨cur, hblk, hcs⟩ := N_blk HN8.out
      have hal := heap_below hHeld4 hblk
      have Hgl := Aside0.mk (blk_lt hblk)
      have Hbl := Aside0.mk (blk_lt HX8.out)
      obtain ⟨old, hcz⟩ : ∃ old, w10.cell? ⟨g, x.f0.toNat, none⟩ = some old := ⟨_, (blk_cell hal x.f0.toNat).trans (Array.getElem?_eq_getElem (show x.f0.toNat < cur.size by have e : l0.length * kSec.sz = l0.length := Nat.mul_one _; omega))⟩
      have hfz := blk_frozen hal x.f0.toNat
      have HS := Aside0.mk (N_set1 (Kd.N_below HN8.out hHeld4) x.f0 hx0 hx1 (halfV x.f1 y) (.slice Ab (halfV x.f1 y).length cb) hcz (Kd.FK_slice_mk (Kd.N_reads' HN10.out).2.1 (Kd.N_F HN10.out)) (fun z hz => by have h5 := Hgl.out; have h6 := Hbl.out; have h7 := HT8.out.lt; rcases hz with h8 | h8; exact h8; exact ⟨.inr ⟨by omega, by omega⟩, by omega⟩))
      rw [← HXt2.out] at HS
      have HT2 := Aside0.mk (Two.far (HT8.out.below hHeld4) Hg.out.1 x.f0.toNat (.slice Ab (halfV x.f1 y).length cb))
      have HX2 := Aside0.mk (blk_far (p := ⟨g, x.f0.toNat, none⟩) (heap_below hHeld4 HX8.out) (by have h7 := Hg.out; dsimp only; omega) (.slice Ab (halfV x.f1 y).length cb))
      clear hcs hblk hal
      refine last_ (i := 18) (N := none) #[true, true, true, true, true, true, true, true, true, true, true, true, true, true, true, true, true, true, true] rfl rfl (one_of HT_.out (by kernel_rfl)) (by decide) (fun K hK => ?_)
      refine skip_ (w1 := ?_) (by rfl) rfl ?_ ?_
      rotate_left
      · go_simp
        rfl
      refine hK.out _ _ ?_
      clear hK K
      refine done_ (done_of HT_.out (by kernel_rfl)) ?_
      clear hcz hfz HN8 HN9 HN10 HX8 HT8 BP HF8 HF64 HFd HFy HQ2 Hba Hgl Hbl hHeld hHeld2 hHeld3 hHeld4 HXt2 Hy Hyl Hpl Hx2 Hxl
      generalize w10.setCell ⟨g, x.f0.toNat, none⟩ (.slice Ab (halfV x.f1 y).length cb) = w11 at HT2 HX2 HS ⊢
      have e0_ := (blk_cell HX2.out 0).trans rfl
      have e1_ := (blk_cell HX2.out 1).trans rfl
      have e2_ := (blk_cell HX2.out 2).trans rfl
      have e3_ := (blk_cell HX2.out 3).trans rfl
      have ef0_ := blk_frozen HX2.out 0
      have ef1_ := blk_frozen HX2.out 1
      have ef2_ := blk_frozen HX2.out 2
      have ef3_ := blk_frozen HX2.out 3
      go_upto_region 17 with fail
      clear e0_ ef0_ e1_ ef1_ e2_ ef2_ e3_ ef3_
      have HT3 := Aside0.mk (Two.far (Two.far HT2.out Hbx.out 2 (.int .i64 0)) Hbx.out 3 (.bool true))
      have HX3 := Aside0.mk (blk_put (blk_put HX2.out 2 (.int .i64 0) rfl) 3 (.bool true) rfl)
      have HN3 := Aside0.mk (Kd.N_far (p := ⟨bx, 3, none⟩) (Kd.N_far (p := ⟨bx, 2, none⟩) HS.out (fun k hk => by dsimp only; have h6 := Hbx.out; omega) (.int .i64 0)) (fun k hk => by dsimp only; have h6 := Hbx.out; omega) (.bool true))
      clear HT2 HX2 HS
      generalize (w11.setCell ⟨bx, 2, none⟩ (.int .i64 0)).setCell ⟨bx, 3, none⟩ (.bool true) = w12 at HT3 HX3 HN3 ⊢
      have e0_ := (blk_cell HX3.out 0).trans rfl
      have e1_ := (blk_cell HX3.out 1).trans rfl
      have e2_ := (blk_cell HX3.out 2).trans rfl
      have e3_ := (blk_cell HX3.out 3).trans rfl
      have d0_ := (blk_cell HT3.out.2.1 0).trans rfl
      have d1_ := (blk_cell HT3.out.2.1 1).trans rfl
      have d2_ := (blk_cell HT3.out.2.1 2).trans rfl
      have d3_ := (blk_cell HT3.out.2.1 3).trans rfl
      have df0_ := blk_frozen HT3.out.2.1 0
      have df1_ := blk_frozen HT3.out.2.1 1
      have df2_ := blk_frozen HT3.out.2.1 2
      have df3_ := blk_frozen HT3.out.2.1 3
      go_wp2
      all_goals
        have hblk := (blk_put (blk_put (blk_put (blk_put HT3.out.2.1 0 (.slice (some ⟨g, 0, none⟩) l0.length cap) rfl) 1 (.slice none 0 0) rfl) 2 (.int .i64 (0)) rfl) 3 (.bool true) rfl)
        refine bodyPost_ret (results_ct rfl _ _ (w.heap.size + 1) 25 _ (0, 0) _ rfl hblk hu rfl (by kernel_rfl)) rfl ?_
        refine ⟨_, _, rfl, ?_, Kd.V_nil _ _ _ _ _, (below_setCell (below_setCell (below_setCell (below_setCell HT3.out.2.2 (Nat.le_succ _) 0 (.slice (some ⟨g, 0, none⟩) l0.length cap)) (Nat.le_succ _) 1 (.slice none 0 0)) (Nat.le_succ _) 2 (.int .i64 (0))) (Nat.le_succ _) 3 (.bool true))⟩
        exact Kd.V_mono (Kd.V_far (p := ⟨w.heap.size + 1, 3, none⟩) (Kd.V_far (p := ⟨w.heap.size + 1, 2, none⟩) (Kd.V_far (p := ⟨w.heap.size + 1, 1, none⟩) (Kd.V_far (p := ⟨w.heap.size + 1, 0, none⟩) (Kd.N_V HN3.out) (fun k hk => by dsimp only; omega) (.slice (some ⟨g, 0, none⟩) l0.length cap)) (fun k hk => by dsimp only; omega) (.slice none 0 0)) (fun k hk => by dsimp only; omega) (.int .i64 (0))) (fun k hk => by dsimp only; omega) (.bool true)) (fun k hk => by rcases hk with h5 | h5; exact .inl h5.1; exact .inr (by omega))

def fastiref04_Sync.f (l0_0 : List (List Int)) (l0_1 : List SW) (a0_2 : Int) (a0_3 : Bool) : Option ((List (List Int)) × (List SW) × Int × Bool × Int) := some (syncV l0_0 l0_1 a0_2 a0_3)
theorem fastiref04_Sync.calls (P0_0_ : Nat → Prop) (A0_0 : Option Addr) (c0_0 : Nat) (l0_0 : List (List Int)) (P0_1_ : Nat → Prop) (A0_1 : Option Addr) (c0_1 : Nat) (l0_1 : List SW) (a0_2 : Int) (a0_3 : Bool) (r1 : List (List Int)) (r2 : List SW) (r3 : Int) (r4 : Bool) (r5 : Int) (w : World) (hs0_0 : Kd.V kSec 35 w w.heap.size (fun k_ => P0_0_ k_) (.slice A0_0 l0_0.length c0_0) l0_0) (hs0_1 : Kd.V kW 54 w w.heap.size (fun k_ => P0_1_ k_) (.slice A0_1 l0_1.length c0_1) l0_1) (h : fastiref04_Sync.f l0_0 l0_1 a0_2 a0_3 = some (r1, r2, r3, r4, r5)) :
    Calls Try.prog 24 #[.agg #[.slice A0_0 l0_0.length c0_0, .slice A0_1 l0_1.length c0_1, .int .i64 a0_2, .bool a0_3]] w fun e w' => ∃ v0_ v1_ : Value, e = .returned (.tuple #[.agg #[v0_, v1_, .int .i64 r3, .bool r4], .int .i64 r5]) ∧ Kd.V kSec 35 w' w.heap.size (fun k_ => ((P0_0_ k_ ∨ P0_1_ k_) ∨ w.heap.size ≤ k_)) v0_ r1 ∧ Kd.V kW 54 w' w.heap.size (fun k_ => ((P0_0_ k_ ∨ P0_1_ k_) ∨ w.heap.size ≤ k_)) v1_ r2 ∧ Below w.heap.size w w' := by
  have e : syncV l0_0 l0_1 a0_2 a0_3 = (r1, r2, r3, r4, r5) := Option.some.inj h
  show Calls _ _ _ _ (DskOut w (fun k_ => ((P0_0_ k_ ∨ P0_1_ k_) ∨ w.heap.size ≤ k_)) (r1, r2, r3, r4, r5))
  rw [← e]
  have v0 := Kd.V_mono hs0_0 (ok' := fun k => P0_0_ k ∨ P0_1_ k) (fun k hk => .inl hk)
  have v1 := Kd.V_mono hs0_1 (ok' := fun k => P0_0_ k ∨ P0_1_ k) (fun k hk => .inr hk)
  unfold syncV
  by_cases h1 : runsV l0_0 l0_1 a0_2 a0_3 = true
  · rw [if_pos h1]
    by_cases h2 : 0 ≤ a0_2 ∧ a0_2 < l0_1.length
    · rw [if_pos h2]
      obtain ⟨m, rfl⟩ : ∃ m : Nat, a0_2 = (m : Int) := ⟨a0_2.toNat, by omega⟩
      rw [Int.toNat_natCast]
      exact rsync_torn (fun k => P0_0_ k ∨ P0_1_ k) A0_0 c0_0 l0_0 A0_1 c0_1 l0_1 m a0_3 w v0 v1 h1 (by omega)
    · rw [if_neg h2]
      by_cases h3 : 0 ≤ a0_2
      · rw [if_pos h3]
        exact rsync_pos (fun k => P0_0_ k ∨ P0_1_ k) A0_0 c0_0 l0_0 A0_1 c0_1 l0_1 a0_2 a0_3 w v0 v1 h1 h3 (fun h => h2 ⟨h3, h⟩)
      · rw [if_neg h3]
        exact rsync_neg (fun k => P0_0_ k ∨ P0_1_ k) A0_0 c0_0 l0_0 A0_1 c0_1 l0_1 a0_2 a0_3 w v0 v1 h1 h3
  · rw [if_neg h1]
    have hc0 := (Kd.V_reads' hs0_0).2.1
    have hc1 := (Kd.V_reads' hs0_1).2.1
    by_cases hd : dchk l0_0 l0_1 a0_2 = 0
    · have hs : a0_3 = true := by
        cases hs : a0_3
        · exact absurd ((runs_iff _ _ _ _).2 ⟨hd, hs⟩) h1
        · rfl
      subst hs
      exact rsync_st _ A0_0 c0_0 l0_0 A0_1 c0_1 l0_1 a0_2 true w (Kd.V_reads' hs0_0).2.2 hc0 (Kd.V_reads' hs0_1).2.2 hc1 hd
    · have hd4 : dchk l0_0 l0_1 a0_2 = 40 := by
        unfold dchk at hd ⊢
        split
        · rfl
        · rename_i h5
          rw [if_neg h5] at hd
          split
          · rename_i h6
            rw [if_pos h6] at hd
            split
            · rename_i h7
              rw [if_pos h7] at hd
              exact absurd rfl hd
            · rfl
          · rfl
      exact rsync_no _ A0_0 c0_0 l0_0 A0_1 c0_1 l0_1 a0_2 a0_3 w (Kd.V_reads' hs0_0).2.2 hc0 (Kd.V_reads' hs0_1).2.2 hc1 hd4
end Go.Proofs.Ytmeoapalnkibfaa.Q
