/- By hand: what disk.Sync computes. -/
import Derived.Test.YtljmdkeeppikhaaDRd
import Derived.RegionTactic
import Derived.Deep.RegionWith
import Derived.Shelf.RegionOpenPlain
namespace Go.Proofs.Ytljmdkeeppikhaa.Q
open Go.RowKit Go.Proofs.YtljmdkeeppikhaaW.PrintWords Go.Proofs.YtljmdkeeppikhaaW.PrintLast Go.Proofs.YtljmdkeeppikhaaW.PrintMore
attribute [local go_sem] max2_int min2_int max_two min_two
set_option linter.unusedVariables false
set_option linter.unusedSimpArgs false

/-- A sector whose first half is another one's. -/
def halfV (d b : List Int) : List Int := d.take 64 ++ b.drop 64
def tornV (l0 : List (List Int)) (l1 : List SW) (m : Nat) : List (List Int) := (perfV l0 (l1.take m)).set (rd_T76 l1 m).f0.toNat (halfV (rd_T76 l1 m).f1 (rd_L1 (perfV l0 (l1.take m)) (rd_T76 l1 m).f0))
def syncV (l0 : List (List Int)) (l1 : List SW) (a : Int) (s : Bool) : (List (List Int)) × (List SW) × Int × Bool × Int :=
  if runsV l0 l1 a s = true then (if 0 ≤ a ∧ a < l1.length then (tornV l0 l1 a.toNat, [], 0, true, 40) else (perfV l0 l1, [], (if 0 ≤ a then a - l1.length else a), false, 0)) else ([], [], 0, false, 40)
def disk_Sync.f (l0_0 : List (List Int)) (l0_1 : List SW) (a0_2 : Int) (a0_3 : Bool) : Option ((List (List Int)) × (List SW) × Int × Bool × Int) := some (syncV l0_0 l0_1 a0_2 a0_3)

def sync.T12 : Bool × List (List Nat × List Nat) := (true, [([], []), ([0], [0]), ([], []), ([2], [2]), ([1, 3], [1, 3]), ([], []), ([5], [5]), ([4, 6], [4, 6]), ([7, 4, 0, 1, 2, 3, 4, 5, 6, 7], [7])])
def sync.B12 : List Nat := [0, 1, 0, 4, 15, 0, 32, 127, 255]
theorem sync.tab12 : rtab .any (opsOf Try.f27 12) = sync.T12 := by kernel_rfl
theorem sync.bits12 : waitsOk sync.T12.2 sync.B12 = true := by kernel_rfl
def sync.T9 : Bool × List (List Nat × List Nat) := (true, [([], []), ([0], [0]), ([], []), ([2], [2]), ([1, 3], [1, 3])])
def sync.B9 : List Nat := [0, 1, 0, 4, 15]
theorem sync.tab9 : rtab .any (opsOf Try.f27 9) = sync.T9 := by kernel_rfl
theorem sync.bits9 : waitsOk sync.T9.2 sync.B9 = true := by kernel_rfl

set_option maxHeartbeats 2000000 in
set_option maxRecDepth 100000 in
theorem sync_no (P : Nat → Prop) (A0 : Option Addr) (c0 : Nat) (l0 : List (List Int)) (A1 : Option Addr) (c1 : Nat) (l1 : List SW) (a : Int) (s : Bool) (w : World) (hr0 : Kd.C kSec w A0 l0.length l0) (hc0 : l0.length ≤ c0) (hr1 : Kd.C kW w A1 l1.length l1) (hc1 : l1.length ≤ c1) (hr : ¬ runsV l0 l1 a s = true) :
    Calls Try.prog 27 #[.agg (dkV A0 l0.length c0 A1 l1.length c1 a s)] w (DskOut w P ([], [], 0, false, 40)) := by
  have hu := Try.underlying25
  have HT := Aside0.mk (Two.new w (.cells (dkV A0 l0.length c0 A1 l1.length c1 a s) 25 (0, 0)) (.cells dk0 25 (0, 0)))
  have HR := Aside0.mk (runs_ A0 c0 l0 A1 c1 l1 a s _ (Kd.C_below hr0 HT.out.2.2) hc0 (Kd.C_below hr1 HT.out.2.2) hc1)
  have hr' : runsV l0 l1 a s = false := by simpa using hr
  rw [hr'] at HR
  clear hr0 hr1 hc0 hc1 hr hr'
  go_enter Try.func27, Try.ntmps27
  go_wp2_with fail
  refine HR.out.mono ?_
  rintro e w1 ⟨rfl, hb⟩
  have HT1 := Aside0.mk (HT.out.below hb)
  clear hb HR HT
  have d0_ := (blk_cell HT1.out.2.1 0).trans rfl
  have d1_ := (blk_cell HT1.out.2.1 1).trans rfl
  have d2_ := (blk_cell HT1.out.2.1 2).trans rfl
  have d3_ := (blk_cell HT1.out.2.1 3).trans rfl
  have df0_ := blk_frozen HT1.out.2.1 0
  have df1_ := blk_frozen HT1.out.2.1 1
  have df2_ := blk_frozen HT1.out.2.1 2
  have df3_ := blk_frozen HT1.out.2.1 3
  go_wp2
  have hblk := blk_put (blk_put (blk_put (blk_put HT1.out.2.1 0 (.slice none 0 0) rfl) 1 (.slice none 0 0) rfl) 2 (.int .i64 0) rfl) 3 (.bool false) rfl
  refine bodyPost_ret (results_ct rfl _ _ (w.heap.size + 1) 25 dk0 (0, 0) _ rfl hblk hu rfl (by kernel_rfl)) rfl ?_
  exact ⟨_, _, rfl, Kd.V_nil _ _ _ _ _, Kd.V_nil _ _ _ _ _, below_setCell (below_setCell (below_setCell (below_setCell HT1.out.2.2 (Nat.le_succ _) _ _) (Nat.le_succ _) _ _) (Nat.le_succ _) _ _) (Nat.le_succ _) _ _⟩

set_option maxHeartbeats 4000000 in
set_option maxRecDepth 100000 in
theorem sync_pos (P : Nat → Prop) (A0 : Option Addr) (c0 : Nat) (l0 : List (List Int)) (A1 : Option Addr) (c1 : Nat) (l1 : List SW) (a : Int) (s : Bool) (w : World) (h0 : Kd.V kSec 35 w w.heap.size P (.slice A0 l0.length c0) l0) (h1 : Kd.V kW 76 w w.heap.size P (.slice A1 l1.length c1) l1) (hr : runsV l0 l1 a s = true) (ha : 0 ≤ a ∧ ¬ a < l1.length) :
    Calls Try.prog 27 #[.agg (dkV A0 l0.length c0 A1 l1.length c1 a s)] w (DskOut w (fun k => P k ∨ w.heap.size ≤ k) (perfV l0 l1, [], a - l1.length, false, 0)) := by
  have hu := Try.underlying25
  have HT := Aside0.mk (Two.new w (.cells (dkV A0 l0.length c0 A1 l1.length c1 a s) 25 (0, 0)) (.cells dk0 25 (0, 0)))
  have HR := Aside0.mk (runs_ A0 c0 l0 A1 c1 l1 a s _ (Kd.C_below (Kd.V_reads' h0).2.2 HT.out.2.2) (Kd.V_reads' h0).2.1 (Kd.C_below (Kd.V_reads' h1).2.2 HT.out.2.2) (Kd.V_reads' h1).2.1)
  rw [hr] at HR
  obtain ⟨⟨hn1, hn2⟩, hn3, hn4, -, haa, -⟩ := runs_ok hr
  have runsA := Aside0.mk haa
  clear haa
  have HP := Aside0.mk (fun (W : World) (hb : Below w.heap.size w W) => perform_ l0 l1 A0 A1 c0 c1 (fun k => P k ∧ k < w.heap.size) W (Kd.V_below (Kd.V_bound h0) hb) (Kd.V_below (Kd.V_bound h1) hb) (by omega) hn2 hn3 (fun x hx => (hn4 x hx).1))
  clear h0 h1 hr hn1 hn2 hn4
  have hw := Aside0.mk (show wrap64 (a - (l1.length : Int)) = a - (l1.length : Int) by unfold wrap64; have := runsA.out; omega)
  obtain ⟨ha, hlt2⟩ := ha
  clear hn3
  go_enter Try.func27, Try.ntmps27
  go_wp2_with fail
  refine HR.out.mono ?_
  rintro e w1 ⟨rfl, hb⟩
  have HT1 := Aside0.mk (HT.out.below hb)
  clear hb HR HT
  have c0_ := (blk_cell HT1.out.1 0).trans rfl
  have c1_ := (blk_cell HT1.out.1 1).trans rfl
  have c2_ := (blk_cell HT1.out.1 2).trans rfl
  go_upto_region 12 with fail
  clear c0_ c1_ c2_
  refine start_ (n := 9) (S := fun w' => Two w (.cells (dkV A0 l0.length c0 A1 l1.length c1 a s) 25 (0, 0)) (.cells dk0 25 (0, 0)) w') (ds := [8]) #[false, false, false, false, false, false, false, false, false] (by kernel_rfl) rfl rfl (HT1.out.below (below_drew1 (Below.refl _ _))) (fun hHeld => ?_)
  refine with_tabW sync.tab12 sync.bits12 (fun HT_ HW_ => ?_)
  generalize World.drew _ = Wd at hHeld ⊢
  refine pure_ (i := 0) (N := some 61) (v := ?_) (a' := ?_) #[true, false, false, false, false, false, false, false, false] rfl rfl (any_of HT_.out (by kernel_rfl)) (fun _ _ _ h => h) (Or.inl ⟨by rfl, ?_⟩) ?_ ?_
  rotate_left
  · intro w'
    go_simp
    with_reducible rfl
  rotate_left
  · simp only [Act.put, List.setIfInBounds_toArray, List.set_cons_zero, List.set_cons_succ, i64_w, i32_w]
    rfl
  refine pure_ (i := 2) (N := some 63) (v := ?_) (a' := ?_) #[true, false, true, false, false, false, false, false, false] rfl rfl (any_of HT_.out (by kernel_rfl)) (fun _ _ _ h => h) (Or.inl ⟨by rfl, ?_⟩) ?_ ?_
  rotate_left
  · intro w'
    go_simp
    with_reducible rfl
  rotate_left
  · simp only [Act.put, List.setIfInBounds_toArray, List.set_cons_zero, List.set_cons_succ, i64_w, i32_w]
    rfl
  refine pure_ (i := 5) (N := some 66) (v := ?_) (a' := ?_) #[true, false, true, false, false, true, false, false, false] rfl rfl (any_of HT_.out (by kernel_rfl)) (fun _ _ _ h => h) (Or.inl ⟨by rfl, ?_⟩) ?_ ?_
  rotate_left
  · intro w'
    go_simp
    with_reducible rfl
  rotate_left
  · simp only [Act.put, List.setIfInBounds_toArray, List.set_cons_zero, List.set_cons_succ, i64_w, i32_w]
    rfl
  refine take_ (i := 1) (N := some 62) (v := ?_) (a' := ?_) #[true, true, true, false, false, true, false, false, false] rfl rfl (take_ofW HT_.out HW_.out (by kernel_rfl)) (fun _ _ _ h => h) (Or.inl ⟨by rfl, ?_⟩) hHeld ?_ ?_
  rotate_left
  · rintro w' s0
    have t0_ := (blk_cell s0.1 0).trans rfl
    have t1_ := (blk_cell s0.1 1).trans rfl
    have t2_ := (blk_cell s0.1 2).trans rfl
    go_simp
    with_reducible rfl
  rotate_left
  · simp only [Act.put, List.setIfInBounds_toArray, List.set_cons_zero, List.set_cons_succ, i64_w, i32_w]
    rfl
  refine take_ (i := 3) (N := some 64) (v := ?_) (a' := ?_) #[true, true, true, true, false, true, false, false, false] rfl rfl (take_ofW HT_.out HW_.out (by kernel_rfl)) (fun _ _ _ h => h) (Or.inl ⟨by rfl, ?_⟩) hHeld ?_ ?_
  rotate_left
  · rintro w' s0
    have t0_ := (blk_cell s0.1 0).trans rfl
    have t1_ := (blk_cell s0.1 1).trans rfl
    have t2_ := (blk_cell s0.1 2).trans rfl
    go_simp
    with_reducible rfl
  rotate_left
  · simp only [Act.put, List.setIfInBounds_toArray, List.set_cons_zero, List.set_cons_succ, i64_w, i32_w]
    rfl
  refine take_ (i := 6) (N := some 67) (v := ?_) (a' := ?_) #[true, true, true, true, false, true, true, false, false] rfl rfl (take_ofW HT_.out HW_.out (by kernel_rfl)) (fun _ _ _ h => h) (Or.inl ⟨by rfl, ?_⟩) hHeld ?_ ?_
  rotate_left
  · rintro w' s0
    have t0_ := (blk_cell s0.1 0).trans rfl
    have t1_ := (blk_cell s0.1 1).trans rfl
    have t2_ := (blk_cell s0.1 2).trans rfl
    go_simp
    with_reducible rfl
  rotate_left
  · simp only [Act.put, List.setIfInBounds_toArray, List.set_cons_zero, List.set_cons_succ, i64_w, i32_w]
    rfl
  refine one_ (i := 4) (N := some 65) #[true, true, true, true, true, true, true, false, false] rfl rfl (one_of HT_.out (by kernel_rfl)) (by decide) (fun K hK => ?_)
  refine goes_ Try.func54 (by kernel_rfl) rfl #[.slice A0 l0.length c0, .slice A1 l1.length c1] (by rfl) rfl rfl (by (try simp only [List.map_toArray, List.map_cons, List.map_nil]); first | done | rfl | (simp only [List.length_drop, List.length_take]; rfl)) ?_
  have hT := Aside0.mk (show Two w (.cells (dkV A0 l0.length c0 A1 l1.length c1 a s) 25 (0, 0)) (.cells dk0 25 (0, 0)) Wd from hHeld)
  have hlt := hT.out.lt
  have hPc := HP.out _ hT.out.2.2
  with_reducible refine hPc.mono ?_
  clear hPc
  rintro e w5 ⟨v', rfl, hN, hb⟩
  have HN := Aside0.mk hN
  obtain ⟨As, cs_, rfl⟩ := Kd.N_slice hN
  clear hN
  have hT5 := Aside0.mk (hT.out.below hb)
  refine ⟨_, rfl, ?_⟩
  refine hK.out _ _ hT5.out (fun hHeld => ?_)
  clear hK K
  refine norm_ (a' := ?_) ?_ ?_
  rotate_left
  · show Act.put _ (some 65) _ = _
    simp only [Act.put, List.setIfInBounds_toArray, List.set_cons_zero, List.set_cons_succ, i64_w, i32_w]
    rfl
  refine pure_ (i := 7) (N := some 68) (v := ?_) (a' := ?_) #[true, true, true, true, true, true, true, true, false] rfl rfl (any_of HT_.out (by kernel_rfl)) (fun _ _ _ h => h) (Or.inl ⟨by rfl, ?_⟩) ?_ ?_
  rotate_left
  · intro w'
    go_simp
    with_reducible rfl
  rotate_left
  · simp only [Act.put, List.setIfInBounds_toArray, List.set_cons_zero, List.set_cons_succ, i64_w, i32_w]
    rfl
  refine last_ (i := 8) (N := none) #[true, true, true, true, true, true, true, true, true] rfl rfl (one_of HT_.out (by kernel_rfl)) (by decide) (fun K hK => ?_)
  have d0_ := (blk_cell hT5.out.2.1 0).trans rfl
  have d1_ := (blk_cell hT5.out.2.1 1).trans rfl
  have d2_ := (blk_cell hT5.out.2.1 2).trans rfl
  have d3_ := (blk_cell hT5.out.2.1 3).trans rfl
  have df0_ := blk_frozen hT5.out.2.1 0
  have df1_ := blk_frozen hT5.out.2.1 1
  have df2_ := blk_frozen hT5.out.2.1 2
  have df3_ := blk_frozen hT5.out.2.1 3
  refine skip_ (w1 := ?_) (by rfl) rfl ?_ ?_
  rotate_left
  · go_simp
    rfl
  refine hK.out _ _ ?_
  clear hK K
  refine done_ (done_of HT_.out (by kernel_rfl)) ?_
  have HB := Aside0.mk (show (((((w5.setCell ⟨w.heap.size + 1, 0, none⟩ (.slice As (perfV l0 l1).length cs_)).setCell ⟨w.heap.size + 1, 1, none⟩ (.slice none 0 0)).setCell ⟨w.heap.size + 1, 2, none⟩ (.int .i64 a)).setCell ⟨w.heap.size + 1, 3, none⟩ (.bool false)).heap[w.heap.size + 1]? = some (.cells #[.slice As (perfV l0 l1).length cs_, .slice none 0 0, .int .i64 a, .bool false] 25 (0, 0))) from blk_put (blk_put (blk_put (blk_put hT5.out.2.1 0 _ rfl) 1 _ rfl) 2 _ rfl) 3 _ rfl)
  have HB6 := Aside0.mk (below_setCell (below_setCell (below_setCell (below_setCell hT5.out.2.2 (Nat.le_succ _) 0 (.slice As (perfV l0 l1).length cs_)) (Nat.le_succ _) 1 (.slice none 0 0)) (Nat.le_succ _) 2 (.int .i64 a)) (Nat.le_succ _) 3 (.bool false))
  have hV : Kd.V kSec 35 w5 w.heap.size (fun k => (P k ∨ w.heap.size ≤ k) ∧ k ≠ w.heap.size ∧ k ≠ w.heap.size + 1) (.slice As (perfV l0 l1).length cs_) (perfV l0 l1) := Kd.V_mono (Kd.N_V HN.out) (fun k hk => by
    rcases hk with ⟨h1, h2⟩ | h1
    · exact ⟨.inl h1, by omega, by omega⟩
    · exact ⟨.inr (by omega), by omega, by omega⟩)
  have HV6 := Aside0.mk (Kd.V_far (p := ⟨w.heap.size + 1, 3, none⟩) (Kd.V_far (p := ⟨w.heap.size + 1, 2, none⟩) (Kd.V_far (p := ⟨w.heap.size + 1, 1, none⟩) (Kd.V_far (p := ⟨w.heap.size + 1, 0, none⟩) hV (fun k hk => hk.2.2) (.slice As (perfV l0 l1).length cs_)) (fun k hk => hk.2.2) (.slice none 0 0)) (fun k hk => hk.2.2) (.int .i64 a)) (fun k hk => hk.2.2) (.bool false))
  clear hHeld HN hV hlt d0_ df0_ d1_ df1_ d2_ df2_ d3_ df3_
  generalize (((w5.setCell ⟨w.heap.size + 1, 0, none⟩ (.slice As (perfV l0 l1).length cs_)).setCell ⟨w.heap.size + 1, 1, none⟩ (.slice none 0 0)).setCell ⟨w.heap.size + 1, 2, none⟩ (.int .i64 a)).setCell ⟨w.heap.size + 1, 3, none⟩ (.bool false) = w6 at HB HB6 HV6 ⊢
  have e0_ := (blk_cell HB.out 0).trans rfl
  have e1_ := (blk_cell HB.out 1).trans rfl
  have e2_ := (blk_cell HB.out 2).trans rfl
  have e3_ := (blk_cell HB.out 3).trans rfl
  have ef0_ := blk_frozen HB.out 0
  have ef1_ := blk_frozen HB.out 1
  have ef2_ := blk_frozen HB.out 2
  have ef3_ := blk_frozen HB.out 3
  have hw_ := hw.out
  go_wp2
  have hblk := blk_put (blk_put (blk_put (blk_put (blk_put HB.out 2 (.int .i64 (a - (l1.length : Int))) rfl) 0 (.slice As (perfV l0 l1).length cs_) rfl) 1 (.slice none 0 0) rfl) 2 (.int .i64 (a - (l1.length : Int))) rfl) 3 (.bool false) rfl
  refine bodyPost_ret (results_ct rfl _ _ (w.heap.size + 1) 25 _ (0, 0) _ rfl hblk hu rfl (by kernel_rfl)) rfl ?_
  exact ⟨_, _, rfl, Kd.V_mono (Kd.V_far (Kd.V_far (Kd.V_far (Kd.V_far (Kd.V_far HV6.out (fun k hk => hk.2.2) _) (fun k hk => hk.2.2) _) (fun k hk => hk.2.2) _) (fun k hk => hk.2.2) _) (fun k hk => hk.2.2) _) (fun k hk => hk.1), Kd.V_nil _ _ _ _ _, (below_setCell (below_setCell (below_setCell (below_setCell (below_setCell HB6.out (Nat.le_succ _) _ _) (Nat.le_succ _) _ _) (Nat.le_succ _) _ _) (Nat.le_succ _) _ _) (Nat.le_succ _) _ _)⟩

set_option maxHeartbeats 4000000 in
set_option maxRecDepth 100000 in
theorem sync_neg (P : Nat → Prop) (A0 : Option Addr) (c0 : Nat) (l0 : List (List Int)) (A1 : Option Addr) (c1 : Nat) (l1 : List SW) (a : Int) (s : Bool) (w : World) (h0 : Kd.V kSec 35 w w.heap.size P (.slice A0 l0.length c0) l0) (h1 : Kd.V kW 76 w w.heap.size P (.slice A1 l1.length c1) l1) (hr : runsV l0 l1 a s = true) (ha : ¬ 0 ≤ a) :
    Calls Try.prog 27 #[.agg (dkV A0 l0.length c0 A1 l1.length c1 a s)] w (DskOut w (fun k => P k ∨ w.heap.size ≤ k) (perfV l0 l1, [], a, false, 0)) := by
  have hu := Try.underlying25
  have HT := Aside0.mk (Two.new w (.cells (dkV A0 l0.length c0 A1 l1.length c1 a s) 25 (0, 0)) (.cells dk0 25 (0, 0)))
  have HR := Aside0.mk (runs_ A0 c0 l0 A1 c1 l1 a s _ (Kd.C_below (Kd.V_reads' h0).2.2 HT.out.2.2) (Kd.V_reads' h0).2.1 (Kd.C_below (Kd.V_reads' h1).2.2 HT.out.2.2) (Kd.V_reads' h1).2.1)
  rw [hr] at HR
  obtain ⟨⟨hn1, hn2⟩, hn3, hn4, -, haa, -⟩ := runs_ok hr
  have runsA := Aside0.mk haa
  clear haa
  have HP := Aside0.mk (fun (W : World) (hb : Below w.heap.size w W) => perform_ l0 l1 A0 A1 c0 c1 (fun k => P k ∧ k < w.heap.size) W (Kd.V_below (Kd.V_bound h0) hb) (Kd.V_below (Kd.V_bound h1) hb) (by omega) hn2 hn3 (fun x hx => (hn4 x hx).1))
  clear h0 h1 hr hn1 hn2 hn4
  clear hn3
  go_enter Try.func27, Try.ntmps27
  go_wp2_with fail
  refine HR.out.mono ?_
  rintro e w1 ⟨rfl, hb⟩
  have HT1 := Aside0.mk (HT.out.below hb)
  clear hb HR HT
  have c0_ := (blk_cell HT1.out.1 0).trans rfl
  have c1_ := (blk_cell HT1.out.1 1).trans rfl
  have c2_ := (blk_cell HT1.out.1 2).trans rfl
  go_upto_region 12 with fail
  clear c0_ c1_ c2_
  refine start_ (n := 9) (S := fun w' => Two w (.cells (dkV A0 l0.length c0 A1 l1.length c1 a s) 25 (0, 0)) (.cells dk0 25 (0, 0)) w') (ds := [8]) #[false, false, false, false, false, false, false, false, false] (by kernel_rfl) rfl rfl (HT1.out.below (below_drew1 (Below.refl _ _))) (fun hHeld => ?_)
  refine with_tabW sync.tab12 sync.bits12 (fun HT_ HW_ => ?_)
  generalize World.drew _ = Wd at hHeld ⊢
  refine pure_ (i := 0) (N := some 61) (v := ?_) (a' := ?_) #[true, false, false, false, false, false, false, false, false] rfl rfl (any_of HT_.out (by kernel_rfl)) (fun _ _ _ h => h) (Or.inl ⟨by rfl, ?_⟩) ?_ ?_
  rotate_left
  · intro w'
    go_simp
    with_reducible rfl
  rotate_left
  · simp only [Act.put, List.setIfInBounds_toArray, List.set_cons_zero, List.set_cons_succ, i64_w, i32_w]
    rfl
  refine pure_ (i := 2) (N := some 63) (v := ?_) (a' := ?_) #[true, false, true, false, false, false, false, false, false] rfl rfl (any_of HT_.out (by kernel_rfl)) (fun _ _ _ h => h) (Or.inl ⟨by rfl, ?_⟩) ?_ ?_
  rotate_left
  · intro w'
    go_simp
    with_reducible rfl
  rotate_left
  · simp only [Act.put, List.setIfInBounds_toArray, List.set_cons_zero, List.set_cons_succ, i64_w, i32_w]
    rfl
  refine pure_ (i := 5) (N := some 66) (v := ?_) (a' := ?_) #[true, false, true, false, false, true, false, false, false] rfl rfl (any_of HT_.out (by kernel_rfl)) (fun _ _ _ h => h) (Or.inl ⟨by rfl, ?_⟩) ?_ ?_
  rotate_left
  · intro w'
    go_simp
    with_reducible rfl
  rotate_left
  · simp only [Act.put, List.setIfInBounds_toArray, List.set_cons_zero, List.set_cons_succ, i64_w, i32_w]
    rfl
  refine take_ (i := 1) (N := some 62) (v := ?_) (a' := ?_) #[true, true, true, false, false, true, false, false, false] rfl rfl (take_ofW HT_.out HW_.out (by kernel_rfl)) (fun _ _ _ h => h) (Or.inl ⟨by rfl, ?_⟩) hHeld ?_ ?_
  rotate_left
  · rintro w' s0
    have t0_ := (blk_cell s0.1 0).trans rfl
    have t1_ := (blk_cell s0.1 1).trans rfl
    have t2_ := (blk_cell s0.1 2).trans rfl
    go_simp
    with_reducible rfl
  rotate_left
  · simp only [Act.put, List.setIfInBounds_toArray, List.set_cons_zero, List.set_cons_succ, i64_w, i32_w]
    rfl
  refine take_ (i := 3) (N := some 64) (v := ?_) (a' := ?_) #[true, true, true, true, false, true, false, false, false] rfl rfl (take_ofW HT_.out HW_.out (by kernel_rfl)) (fun _ _ _ h => h) (Or.inl ⟨by rfl, ?_⟩) hHeld ?_ ?_
  rotate_left
  · rintro w' s0
    have t0_ := (blk_cell s0.1 0).trans rfl
    have t1_ := (blk_cell s0.1 1).trans rfl
    have t2_ := (blk_cell s0.1 2).trans rfl
    go_simp
    with_reducible rfl
  rotate_left
  · simp only [Act.put, List.setIfInBounds_toArray, List.set_cons_zero, List.set_cons_succ, i64_w, i32_w]
    rfl
  refine take_ (i := 6) (N := some 67) (v := ?_) (a' := ?_) #[true, true, true, true, false, true, true, false, false] rfl rfl (take_ofW HT_.out HW_.out (by kernel_rfl)) (fun _ _ _ h => h) (Or.inl ⟨by rfl, ?_⟩) hHeld ?_ ?_
  rotate_left
  · rintro w' s0
    have t0_ := (blk_cell s0.1 0).trans rfl
    have t1_ := (blk_cell s0.1 1).trans rfl
    have t2_ := (blk_cell s0.1 2).trans rfl
    go_simp
    with_reducible rfl
  rotate_left
  · simp only [Act.put, List.setIfInBounds_toArray, List.set_cons_zero, List.set_cons_succ, i64_w, i32_w]
    rfl
  refine one_ (i := 4) (N := some 65) #[true, true, true, true, true, true, true, false, false] rfl rfl (one_of HT_.out (by kernel_rfl)) (by decide) (fun K hK => ?_)
  refine goes_ Try.func54 (by kernel_rfl) rfl #[.slice A0 l0.length c0, .slice A1 l1.length c1] (by rfl) rfl rfl (by (try simp only [List.map_toArray, List.map_cons, List.map_nil]); first | done | rfl | (simp only [List.length_drop, List.length_take]; rfl)) ?_
  have hT := Aside0.mk (show Two w (.cells (dkV A0 l0.length c0 A1 l1.length c1 a s) 25 (0, 0)) (.cells dk0 25 (0, 0)) Wd from hHeld)
  have hlt := hT.out.lt
  have hPc := HP.out _ hT.out.2.2
  with_reducible refine hPc.mono ?_
  clear hPc
  rintro e w5 ⟨v', rfl, hN, hb⟩
  have HN := Aside0.mk hN
  obtain ⟨As, cs_, rfl⟩ := Kd.N_slice hN
  clear hN
  have hT5 := Aside0.mk (hT.out.below hb)
  refine ⟨_, rfl, ?_⟩
  refine hK.out _ _ hT5.out (fun hHeld => ?_)
  clear hK K
  refine norm_ (a' := ?_) ?_ ?_
  rotate_left
  · show Act.put _ (some 65) _ = _
    simp only [Act.put, List.setIfInBounds_toArray, List.set_cons_zero, List.set_cons_succ, i64_w, i32_w]
    rfl
  refine pure_ (i := 7) (N := some 68) (v := ?_) (a' := ?_) #[true, true, true, true, true, true, true, true, false] rfl rfl (any_of HT_.out (by kernel_rfl)) (fun _ _ _ h => h) (Or.inl ⟨by rfl, ?_⟩) ?_ ?_
  rotate_left
  · intro w'
    go_simp
    with_reducible rfl
  rotate_left
  · simp only [Act.put, List.setIfInBounds_toArray, List.set_cons_zero, List.set_cons_succ, i64_w, i32_w]
    rfl
  refine last_ (i := 8) (N := none) #[true, true, true, true, true, true, true, true, true] rfl rfl (one_of HT_.out (by kernel_rfl)) (by decide) (fun K hK => ?_)
  have d0_ := (blk_cell hT5.out.2.1 0).trans rfl
  have d1_ := (blk_cell hT5.out.2.1 1).trans rfl
  have d2_ := (blk_cell hT5.out.2.1 2).trans rfl
  have d3_ := (blk_cell hT5.out.2.1 3).trans rfl
  have df0_ := blk_frozen hT5.out.2.1 0
  have df1_ := blk_frozen hT5.out.2.1 1
  have df2_ := blk_frozen hT5.out.2.1 2
  have df3_ := blk_frozen hT5.out.2.1 3
  refine skip_ (w1 := ?_) (by rfl) rfl ?_ ?_
  rotate_left
  · go_simp
    rfl
  refine hK.out _ _ ?_
  clear hK K
  refine done_ (done_of HT_.out (by kernel_rfl)) ?_
  have HB := Aside0.mk (show (((((w5.setCell ⟨w.heap.size + 1, 0, none⟩ (.slice As (perfV l0 l1).length cs_)).setCell ⟨w.heap.size + 1, 1, none⟩ (.slice none 0 0)).setCell ⟨w.heap.size + 1, 2, none⟩ (.int .i64 a)).setCell ⟨w.heap.size + 1, 3, none⟩ (.bool false)).heap[w.heap.size + 1]? = some (.cells #[.slice As (perfV l0 l1).length cs_, .slice none 0 0, .int .i64 a, .bool false] 25 (0, 0))) from blk_put (blk_put (blk_put (blk_put hT5.out.2.1 0 _ rfl) 1 _ rfl) 2 _ rfl) 3 _ rfl)
  have HB6 := Aside0.mk (below_setCell (below_setCell (below_setCell (below_setCell hT5.out.2.2 (Nat.le_succ _) 0 (.slice As (perfV l0 l1).length cs_)) (Nat.le_succ _) 1 (.slice none 0 0)) (Nat.le_succ _) 2 (.int .i64 a)) (Nat.le_succ _) 3 (.bool false))
  have hV : Kd.V kSec 35 w5 w.heap.size (fun k => (P k ∨ w.heap.size ≤ k) ∧ k ≠ w.heap.size ∧ k ≠ w.heap.size + 1) (.slice As (perfV l0 l1).length cs_) (perfV l0 l1) := Kd.V_mono (Kd.N_V HN.out) (fun k hk => by
    rcases hk with ⟨h1, h2⟩ | h1
    · exact ⟨.inl h1, by omega, by omega⟩
    · exact ⟨.inr (by omega), by omega, by omega⟩)
  have HV6 := Aside0.mk (Kd.V_far (p := ⟨w.heap.size + 1, 3, none⟩) (Kd.V_far (p := ⟨w.heap.size + 1, 2, none⟩) (Kd.V_far (p := ⟨w.heap.size + 1, 1, none⟩) (Kd.V_far (p := ⟨w.heap.size + 1, 0, none⟩) hV (fun k hk => hk.2.2) (.slice As (perfV l0 l1).length cs_)) (fun k hk => hk.2.2) (.slice none 0 0)) (fun k hk => hk.2.2) (.int .i64 a)) (fun k hk => hk.2.2) (.bool false))
  clear hHeld HN hV hlt d0_ df0_ d1_ df1_ d2_ df2_ d3_ df3_
  generalize (((w5.setCell ⟨w.heap.size + 1, 0, none⟩ (.slice As (perfV l0 l1).length cs_)).setCell ⟨w.heap.size + 1, 1, none⟩ (.slice none 0 0)).setCell ⟨w.heap.size + 1, 2, none⟩ (.int .i64 a)).setCell ⟨w.heap.size + 1, 3, none⟩ (.bool false) = w6 at HB HB6 HV6 ⊢
  have e0_ := (blk_cell HB.out 0).trans rfl
  have e1_ := (blk_cell HB.out 1).trans rfl
  have e2_ := (blk_cell HB.out 2).trans rfl
  have e3_ := (blk_cell HB.out 3).trans rfl
  have ef0_ := blk_frozen HB.out 0
  have ef1_ := blk_frozen HB.out 1
  have ef2_ := blk_frozen HB.out 2
  have ef3_ := blk_frozen HB.out 3
  go_wp2
  have hblk := blk_put (blk_put (blk_put (blk_put HB.out 0 (.slice As (perfV l0 l1).length cs_) rfl) 1 (.slice none 0 0) rfl) 2 (.int .i64 a) rfl) 3 (.bool false) rfl
  refine bodyPost_ret (results_ct rfl _ _ (w.heap.size + 1) 25 _ (0, 0) _ rfl hblk hu rfl (by kernel_rfl)) rfl ?_
  exact ⟨_, _, rfl, Kd.V_mono (Kd.V_far (Kd.V_far (Kd.V_far (Kd.V_far HV6.out (fun k hk => hk.2.2) _) (fun k hk => hk.2.2) _) (fun k hk => hk.2.2) _) (fun k hk => hk.2.2) _) (fun k hk => hk.1), Kd.V_nil _ _ _ _ _, (below_setCell (below_setCell (below_setCell (below_setCell HB6.out (Nat.le_succ _) _ _) (Nat.le_succ _) _ _) (Nat.le_succ _) _ _) (Nat.le_succ _) _ _)⟩

section
variable {P : Program} {ops : Array Oper} {Q : Exit → Act → World → Prop}
theorem copy_one {oi : Oper} {N : Option Tmp} {a : Act} {w w' : World} {v u v' : Value} {K : Act → World → Prop} (hw : Region.wanted oi (yielded ops a.tmps) = true) (hN : oi.dst = N) (d x : Operand) (dT sT : TypeId)
    (hop : oi.op = .call { callee := .builtin .copy, args := #[d, x], argTypes := #[dT, sT] }) (hd : a.eval d = v) (hx : a.eval x = u) (hr : (Builtin.copy_ #[dT, sT] oi.type #[v, u]).run P w = .ok v' w')
    (h : K (a.put N v') w') : if Region.wanted oi (yielded ops a.tmps) = true then Oper.wp P oi a w K Q else K (a.put N undef) w := by
  refine value_ hw hN ?_ h
  unfold execOp
  simp [hop, resolve, invoke, builtin, hd, hx, hr]
end
/-- 'copy' of the beginning of a longer row of bytes. -/
theorem copy_head (w : World) (b o dLen dCap : Nat) (A : Option Addr) (l : List Int) (sCap : Nat) (cur : Array Value) (ty : TypeId) (hC : Kd.C (Kd.int .u8) w A l.length l) (hb : w.heap[b]? = some (.cells cur 5 (0, 0))) (h0 : 0 < dLen) (hl : dLen ≤ l.length) (hf : o + dLen ≤ cur.size) :
    (Builtin.copy_ #[35, 35] ty #[.slice (some ⟨b, o, none⟩) dLen dCap, .slice A l.length sCap]).run Try.prog w = .ok (goInt dLen) (w.setCells b o ((l.take dLen).map (Value.int .u8))) := by
  obtain ⟨ad, rfl, hc⟩ := hC.2.2 (by omega)
  have hlen : ((l.take dLen).map (Value.int .u8)).length = dLen := by rw [List.length_map, List.length_take]; omega
  have := copy_blk (P := Try.prog) w 35 35 ty 5 1 b o dLen dCap ad l.length sCap ((l.take dLen).map (Value.int .u8)) cur 5 Try.underlying35 (by kernel_rfl) (by rw [hlen, Nat.mul_one]; exact (Nat.min_eq_right hl).symm)
    (fun j v hj => by
      rw [List.getElem?_map] at hj
      obtain ⟨x, hx, rfl⟩ := Option.map_eq_some_iff.1 hj
      rw [List.getElem?_take] at hx
      split at hx
      · obtain ⟨c, _, hK, hcc⟩ := hc j x hx
        obtain rfl : c = [.int .u8 x] := hK
        have := hcc 0 _ rfl
        rwa [show (Kd.int IntKind.u8).sz = 1 from rfl, Nat.mul_one, Nat.add_zero] at this
      · cases hx) hb (by rw [hlen]; exact hf) (fun v hv => by
      obtain ⟨x, _, rfl⟩ := List.mem_map.1 hv
      rfl)
  rwa [show Nat.min l.length dLen = dLen from Nat.min_eq_right hl] at this
theorem N_setCells_far {α : Type} {d : Kd α} {e b base : Nat} {ok : Nat → Prop} {v : Value} {xs : List α} (hne : ∀ k, ok k → k ≠ b) : ∀ (vs : List Value) (o : Nat) (W : World), Kd.N d e W base ok v xs → Kd.N d e (W.setCells b o vs) base ok v xs
  | [], _, _, h => h
  | v :: r, o, W, h => by
    rw [World.setCells]
    exact N_setCells_far hne r (o + 1) _ (Kd.N_far h hne v)
theorem perfV_all (ws : List SW) : ∀ l : List (List Int), (∀ b ∈ l, b.length = 128) → (∀ x ∈ ws, x.f1.length = 128) → ∀ b ∈ perfV l ws, b.length = 128 := by
  induction ws with
  | nil => intro l h _; exact h
  | cons a r ih =>
    intro l h hw
    refine ih (l.set a.f0.toNat a.f1) (fun b hb => ?_) (fun x hx => hw x (by simp [hx]))
    rcases List.mem_or_eq_of_mem_set hb with hb | rfl
    · exact h b hb
    · exact hw a (by simp)
theorem halfV_length (d b : List Int) (hd : d.length = 128) (hb : b.length = 128) : (halfV d b).length = 128 := by
  unfold halfV
  rw [List.length_append, List.length_take, List.length_drop]
  omega
theorem half_cells (d b : List Int) (hd : d.length = 128) (hb : b.length = 128) (cur : Array Value) (hc : 128 ≤ cur.size) (hcur : ∀ (j : Nat) (p : Int), b[j]? = some p → cur[j]? = some (Value.int .u8 p)) (j : Nat) (p : Int) (hj : (halfV d b)[j]? = some p) :
    (putL cur 0 ((d.take 64).map (Value.int .u8)))[j]? = some (Value.int .u8 p) := by
  have hl : ((d.take 64).map (Value.int .u8)).length = 64 := by rw [List.length_map, List.length_take]; omega
  rw [putL_get _ _ _ _ (by rw [hl]; omega), hl]
  unfold halfV at hj
  by_cases h : j < 64
  · rw [if_pos (by omega), Nat.sub_zero, List.getElem?_map]
    rw [List.getElem?_append_left (by rw [List.length_take]; omega)] at hj
    rw [hj]
    rfl
  · rw [if_neg (by omega)]
    rw [List.getElem?_append_right (by rw [List.length_take]; omega), List.length_take, List.getElem?_drop, show 64 + (j - min 64 d.length) = j by omega] at hj
    exact hcur j p hj

set_option maxHeartbeats 8000000 in
set_option maxRecDepth 100000 in
theorem sync_torn (P : Nat → Prop) (A0 : Option Addr) (c0 : Nat) (l0 : List (List Int)) (A1 : Option Addr) (c1 : Nat) (l1 : List SW) (m : Nat) (s : Bool) (w : World) (h0 : Kd.V kSec 35 w w.heap.size P (.slice A0 l0.length c0) l0) (h1 : Kd.V kW 76 w w.heap.size P (.slice A1 l1.length c1) l1) (hr : runsV l0 l1 m s = true) (hm : m < l1.length) :
    Calls Try.prog 27 #[.agg (dkV A0 l0.length c0 A1 l1.length c1 (m : Int) s)] w (DskOut w (fun k => P k ∨ w.heap.size ≤ k) (tornV l0 l1 m, [], 0, true, 40)) := by
  have hu := Try.underlying25
  have hu23 := Try.underlying23
  have HT := Aside0.mk (Two.new w (.cells (dkV A0 l0.length c0 A1 l1.length c1 (m : Int) s) 25 (0, 0)) (.cells dk0 25 (0, 0)))
  have HR := Aside0.mk (runs_ A0 c0 l0 A1 c1 l1 (m : Int) s _ (Kd.C_below (Kd.V_reads' h0).2.2 HT.out.2.2) (Kd.V_reads' h0).2.1 (Kd.C_below (Kd.V_reads' h1).2.2 HT.out.2.2) (Kd.V_reads' h1).2.1)
  rw [hr] at HR
  obtain ⟨⟨hn1, hn2⟩, hn3, hn4, hn5, haa, -⟩ := runs_ok hr
  clear haa
  have hc1 := (Kd.V_reads' h1).2.1
  have htl : (l1.take m).length = m := by rw [List.length_take]; omega
  have HVt : Kd.V kW 76 w w.heap.size (fun k => P k ∧ k < w.heap.size) (.slice A1 (l1.take m).length m) (l1.take m) := Kd.V_mk (by omega) (Kd.F_take (Kd.F_bound (Kd.V_F h1)) (by omega))
  have HP := Aside0.mk (fun (W : World) (hb : Below w.heap.size w W) => perform_ l0 (l1.take m) A0 A1 c0 m (fun k => P k ∧ k < w.heap.size) W (Kd.V_below (Kd.V_bound h0) hb) (Kd.V_below HVt hb) (by omega) hn2 (by omega) (fun x hx => (hn4 x (List.mem_of_mem_take hx)).1))
  rw [htl] at HP
  have HVp := Aside0.mk (Kd.F_bound (Kd.V_F h1))
  have Hn4 := Aside0.mk hn4
  have Hn5 := Aside0.mk hn5
  have Hl := Aside0.mk (show 0 < l0.length ∧ l0.length ≤ 4096 from ⟨by omega, hn2⟩)
  have hmi : (m : Int) < (l1.length : Int) := by omega
  have hmc : (m : Int) ≤ (c1 : Int) := by omega
  have hm0 : (0 : Int) ≤ (m : Int) := by omega
  have hm3 := Aside0.mk hn3
  clear h0 h1 hr hn1 hn2 hn3 hn4 hn5 HVt htl
  go_enter Try.func27, Try.ntmps27
  go_wp2_with fail
  refine HR.out.mono ?_
  rintro e w1 ⟨rfl, hb⟩
  have HT1 := Aside0.mk (HT.out.below hb)
  clear hb HR HT
  have c0_ := (blk_cell HT1.out.1 0).trans rfl
  have c1_ := (blk_cell HT1.out.1 1).trans rfl
  have c2_ := (blk_cell HT1.out.1 2).trans rfl
  have c3_ := (blk_cell HT1.out.1 3).trans rfl
  go_wp2_with fail
  clear c0_ c1_ c2_ c3_
  refine (HP.out _ HT1.out.2.2).mono ?_
  rintro e w3 ⟨v', rfl, hN, hb⟩
  have HT3 := Aside0.mk (HT1.out.below hb)
  have hlt1 := Aside0.mk HT1.out.lt
  have hpl : (perfV l0 (l1.take m)).length = l0.length := perfV_length _ _
  obtain ⟨g, cap, rfl, hg1, hg2, _⟩ := N_own hN (by rw [hpl]; exact Hl.out.1)
  rw [hpl] at hN ⊢
  have HN3 := Aside0.mk hN
  have Hpl := Aside0.mk hpl
  have Hg1 := Aside0.mk hg1
  clear hN hb HP HT1 hpl hg1 hg2
  have d0_ := (blk_cell HT3.out.2.1 0).trans rfl
  have d1_ := (blk_cell HT3.out.2.1 1).trans rfl
  have d2_ := (blk_cell HT3.out.2.1 2).trans rfl
  have d3_ := (blk_cell HT3.out.2.1 3).trans rfl
  have df0_ := blk_frozen HT3.out.2.1 0
  have df1_ := blk_frozen HT3.out.2.1 1
  have df2_ := blk_frozen HT3.out.2.1 2
  have df3_ := blk_frozen HT3.out.2.1 3
  have c0_ := (blk_cell HT3.out.1 0).trans rfl
  have c1_ := (blk_cell HT3.out.1 1).trans rfl
  have c2_ := (blk_cell HT3.out.1 2).trans rfl
  have c3_ := (blk_cell HT3.out.1 3).trans rfl
  go_upto_region 7 with fail
  clear d0_ d1_ d2_ d3_ df0_ df1_ df2_ df3_ c0_ c1_ c2_ c3_
  have HT4 := Aside0.mk (show Two w (.cells (dkV A0 l0.length c0 A1 l1.length c1 (m : Int) s) 25 (0, 0)) (.cells #[(.slice (some ⟨g, 0, none⟩) l0.length cap), .slice none 0 0, .int .i64 0, .bool true] 25 (0, 0)) ((((w3.setCell ⟨w.heap.size + 1, 0, none⟩ (.slice (some ⟨g, 0, none⟩) l0.length cap)).setCell ⟨w.heap.size + 1, 1, none⟩ (.slice none 0 0)).setCell ⟨w.heap.size + 1, 2, none⟩ (.int .i64 0)).setCell ⟨w.heap.size + 1, 3, none⟩ (.bool true)) from ⟨blk_far (blk_far (blk_far (blk_far HT3.out.1 (by simp) _) (by simp) _) (by simp) _) (by simp) _, blk_put (blk_put (blk_put (blk_put HT3.out.2.1 0 _ rfl) 1 _ rfl) 2 _ rfl) 3 _ rfl, below_setCell (below_setCell (below_setCell (below_setCell HT3.out.2.2 (Nat.le_succ _) _ _) (Nat.le_succ _) _ _) (Nat.le_succ _) _ _) (Nat.le_succ _) _ _⟩)
  have hN4 : Kd.N kSec 35 w3 w1.heap.size (fun k => (P k ∨ w.heap.size ≤ k) ∧ k ≠ w.heap.size ∧ k ≠ w.heap.size + 1) (.slice (some ⟨g, 0, none⟩) l0.length cap) (perfV l0 (l1.take m)) := Kd.N_mono HN3.out (fun k hk => by
    have h5 := hlt1.out
    rcases hk with ⟨h1, h2⟩ | h1
    · exact ⟨.inl h1, by omega, by omega⟩
    · exact ⟨.inr (by omega), by omega, by omega⟩)
  have HN4 := Aside0.mk (Kd.N_far (p := ⟨w.heap.size + 1, 3, none⟩) (Kd.N_far (p := ⟨w.heap.size + 1, 2, none⟩) (Kd.N_far (p := ⟨w.heap.size + 1, 1, none⟩) (Kd.N_far (p := ⟨w.heap.size + 1, 0, none⟩) hN4 (fun k hk => hk.2.2) (.slice (some ⟨g, 0, none⟩) l0.length cap)) (fun k hk => hk.2.2) (.slice none 0 0)) (fun k hk => hk.2.2) (.int .i64 0)) (fun k hk => hk.2.2) (.bool true))
  clear hN4 HN3 HT3
  generalize (((w3.setCell ⟨w.heap.size + 1, 0, none⟩ (.slice (some ⟨g, 0, none⟩) l0.length cap)).setCell ⟨w.heap.size + 1, 1, none⟩ (.slice none 0 0)).setCell ⟨w.heap.size + 1, 2, none⟩ (.int .i64 0)).setCell ⟨w.heap.size + 1, 3, none⟩ (.bool true) = w4 at HT4 HN4 ⊢
  obtain ⟨ad, cc, rfl, hcl, hFK, hcc, _⟩ := Kd.F_get HVp.out z76 (m : Int) hm0 hmi
  obtain ⟨Ax, cx, rfl, hxl, hF⟩ := k76_openF hFK
  have hxi := Hn4.out (l1.getD (m : Int).toNat z76) (by rw [Int.toNat_natCast]; simp [List.getD, hm])
  have hrd : rd_T76 l1 (m : Int) = l1.getD (m : Int).toNat z76 := rfl
  have HX : Aside0 (tornV l0 l1 m = (perfV l0 (l1.take m)).set (l1.getD (m : Int).toNat z76).f0.toNat (halfV (l1.getD (m : Int).toNat z76).f1 (rd_L1 (perfV l0 (l1.take m)) (l1.getD (m : Int).toNat z76).f0))) := ⟨rfl⟩
  simp only [Int.toNat_natCast] at hcc hxl hF hxi HX hrd
  generalize l1.getD m z76 = x at hcc hxl hF hxi HX hrd
  have r0 : w.cell? (ad.add (m * 2)) = some (.int .i64 x.f0) := hcc 0 _ rfl
  have r1 : w.cell? ⟨(ad.add (m * 2)).block, (ad.add (m * 2)).off + 1, none⟩ = some (.slice Ax x.f1.length cx) := by
    rw [← add_field _ _ 1 (by omega)]
    exact hcc 1 _ rfl
  have q0 := (HT4.out.2.2.cell (World.block_lt_of_cell? w _ r0)).trans r0
  have q1 := (HT4.out.2.2.cell (World.block_lt_of_cell? w _ r1)).trans r1
  have HFx := Aside0.mk hF
  have Hxl := Aside0.mk hxl
  obtain ⟨⟨hx0, hx1⟩, hx2⟩ := hxi
  have Hx2 := Aside0.mk hx2
  obtain ⟨ag, cy, hay, hcl2, hFK2, hcc2, _⟩ := Kd.F_get (Kd.N_F HN4.out) ([] : List Int) x.f0 hx0 hx1
  cases hay
  obtain ⟨Ay, cyy, rfl, hyl, hFy⟩ := Kd.FK_slice_open hFK2
  have hyr : (perfV l0 (l1.take m)).getD x.f0.toNat [] = rd_L1 (perfV l0 (l1.take m)) x.f0 := rfl
  have Hy2 : Aside0 ((rd_L1 (perfV l0 (l1.take m)) x.f0).length = 128) := ⟨by
    refine perfV_all (l1.take m) l0 Hn5.out (fun z hz => (Hn4.out z (List.mem_of_mem_take hz)).2) _ ?_
    rw [← hyr]
    have : x.f0.toNat < (perfV l0 (l1.take m)).length := by have := Hpl.out; omega
    rw [List.getD_eq_getElem?_getD, List.getElem?_eq_getElem this]
    exact List.getElem_mem this⟩
  rw [hyr] at hyl hFy hcc2
  generalize rd_L1 (perfV l0 (l1.take m)) x.f0 = y at hyl hFy hcc2 HX Hy2
  have s0_ : w4.cell? ⟨g, x.f0.toNat, none⟩ = some (.slice Ay y.length cyy) := by
    have := hcc2 0 _ rfl
    rwa [show kSec.sz = 1 from rfl, Nat.mul_one, Nat.add_zero, Addr.add_lit, Nat.zero_add] at this
  have s1_ := Lib.cell?_alloc_some (.cells #[.int .i64 x.f0, .slice Ax x.f1.length cx] 76 (0, 0)) s0_
  have HCy := Aside0.mk (clB y Ay cyy _ (w4.alloc (.cells #[.int .i64 x.f0, .slice Ax x.f1.length cx] 76 (0, 0))) (Kd.V_mk hyl (Kd.F_alloc hFy _)) (by have := Hy2.out; omega))
  have HT5 := Aside0.mk (HT4.out.alloc (.cells #[.int .i64 x.f0, .slice Ax x.f1.length cx] 76 (0, 0)))
  have HB5 := Aside0.mk (heap_at_new w4 (.cells #[.int .i64 x.f0, .slice Ax x.f1.length cx] 76 (0, 0)) _ rfl)
  have HN5 := Aside0.mk (Kd.N_bound (Kd.N_alloc HN4.out (.cells #[.int .i64 x.f0, .slice Ax x.f1.length cx] 76 (0, 0))))
  clear hcc hFK hF hcl hrd hx2 hxl hcc2 hFK2 hyl hFy hcl2 hyr s0_ HN4 HVp r0 r1
  have c0_ := (blk_cell HT4.out.1 0).trans rfl
  have c1_ := (blk_cell HT4.out.1 1).trans rfl
  have c2_ := (blk_cell HT4.out.1 2).trans rfl
  have c3_ := (blk_cell HT4.out.1 3).trans rfl
  have d0_ := (blk_cell HT5.out.2.1 0).trans rfl
  have d1_ := (blk_cell HT5.out.2.1 1).trans rfl
  have d2_ := (blk_cell HT5.out.2.1 2).trans rfl
  have d3_ := (blk_cell HT5.out.2.1 3).trans rfl
  go_wp2_with fail
  refine HCy.out.mono ?_
  rintro e w6 ⟨v2, rfl, hN, hb⟩
  obtain ⟨gt, capt, rfl, hgt1, hgt2, _⟩ := N_own hN (by have := Hy2.out; omega)
  obtain ⟨cur, hcb, hcsz⟩ := N_blk hN
  have hcur : ∀ (j : Nat) (p : Int), y[j]? = some p → cur[j]? = some (Value.int .u8 p) := fun j p hj => by
    have hjl := (List.getElem?_eq_some_iff.1 hj).1
    have h5 := Kd.foot_int (Kd.F_now (Kd.N_F hN)) (j : Int) (by omega) (by omega)
    rw [Int.toNat_natCast, Addr.add_lit, Nat.zero_add, blk_cell hcb j] at h5
    rw [h5]
    have : rd y (j : Int) = p := by simp [rd, List.getD_eq_getElem?_getD, hj]
    rw [this]
  have HT6 := Aside0.mk (HT5.out.below hb)
  have HB6 := Aside0.mk (heap_below hb HB5.out)
  have HN6 := Aside0.mk (Kd.N_below HN5.out hb)
  have hcap := (Kd.N_reads' hN).2.1
  have Hcur := Aside0.mk hcur
  have Hcb := Aside0.mk hcb
  have Hcsz := Aside0.mk hcsz
  have Hgt := Aside0.mk hgt1
  have hsz4 : (w4.alloc (.cells #[.int .i64 x.f0, .slice Ax x.f1.length cx] 76 (0, 0))).heap.size = w4.heap.size + 1 := by simp
  have hgs : w4.heap.size < gt := by have := Hgt.out; omega
  have Hgs := Aside0.mk hgs
  have HT6lt := Aside0.mk HT5.out.lt
  have Hgg := Aside0.mk (show g < gt by have h5 := Kd.N_lt HN5.out g (by simp [Value.ownBlock]); have h6 := Hgt.out; omega)
  clear hN hb hcur hcb hcsz hgt1 hgt2 HT5 HB5 HN5 HCy hgs s1_ q0 q1 HT4 c0_ c1_ c2_ c3_ d0_ d1_ d2_ d3_
  have hcap2 : (64 : Int) ≤ (capt : Int) := by have := Hy2.out; omega
  have Hcap := Aside0.mk hcap
  clear hcap
  go_upto_region 9 with fail
  refine start_ (n := 5) (S := fun w' => Two w (.cells (dkV A0 l0.length c0 (some ad) l1.length c1 (m : Int) s) 25 (0, 0)) (.cells #[(.slice (some ⟨g, 0, none⟩) l0.length cap), .slice none 0 0, .int .i64 0, .bool true] 25 (0, 0)) w' ∧ w'.heap[w4.heap.size]? = some (.cells #[.int .i64 x.f0, .slice Ax x.f1.length cx] 76 (0, 0)) ∧ w'.heap[gt]? = some (.cells cur 5 (0, 0))) (ds := [4]) #[false, false, false, false, false] (by kernel_rfl) rfl rfl ⟨(HT6.out.below (below_drew1 (Below.refl _ _))), (heap_below (below_drew1 (Below.refl _ _)) HB6.out), (heap_below (below_drew1 (Below.refl _ _)) Hcb.out)⟩ (fun hHeld => ?_)
  refine with_tabW sync.tab9 sync.bits9 (fun HT_ HW_ => ?_)
  have HN7 := Aside0.mk (Kd.N_below HN6.out (below_drew1 (Below.refl _ _)))
  generalize World.drew _ = Wd at hHeld HN7 ⊢
  refine pure_ (i := 0) (N := some 49) (v := ?_) (a' := ?_) #[true, false, false, false, false] rfl rfl (any_of HT_.out (by kernel_rfl)) (fun _ _ _ h => h) (Or.inl ⟨by rfl, ?_⟩) ?_ ?_
  rotate_left
  · intro w'
    go_simp
    with_reducible rfl
  rotate_left
  · simp only [Act.put, List.setIfInBounds_toArray, List.set_cons_zero, List.set_cons_succ, i64_w, i32_w]
    rfl
  refine pure_ (i := 1) (N := some 50) (v := ?_) (a' := ?_) #[true, true, false, false, false] rfl rfl (any_of HT_.out (by kernel_rfl)) (fun _ _ _ h => h) (Or.inl ⟨by rfl, ?_⟩) ?_ ?_
  rotate_left
  · intro w'
    go_simp
    with_reducible rfl
  rotate_left
  · simp only [Act.put, List.setIfInBounds_toArray, List.set_cons_zero, List.set_cons_succ, i64_w, i32_w]
    rfl
  refine pure_ (i := 2) (N := some 51) (v := ?_) (a' := ?_) #[true, true, true, false, false] rfl rfl (any_of HT_.out (by kernel_rfl)) (fun _ _ _ h => h) (Or.inl ⟨by rfl, ?_⟩) ?_ ?_
  rotate_left
  · intro w'
    go_simp
    with_reducible rfl
  rotate_left
  · simp only [Act.put, List.setIfInBounds_toArray, List.set_cons_zero, List.set_cons_succ, i64_w, i32_w]
    rfl
  refine take_ (i := 3) (N := some 52) (v := ?_) (a' := ?_) #[true, true, true, true, false] rfl rfl (take_ofW HT_.out HW_.out (by kernel_rfl)) (fun _ _ _ h => h) (Or.inl ⟨by rfl, ?_⟩) hHeld ?_ ?_
  rotate_left
  · rintro w' ⟨s0, s1, s2⟩
    have t1_ := (blk_cell s1 1).trans rfl
    go_simp
    with_reducible rfl
  rotate_left
  · simp only [Act.put, List.setIfInBounds_toArray, List.set_cons_zero, List.set_cons_succ, i64_w, i32_w]
    rfl
  have hTd := Aside0.mk (show Two w (.cells (dkV A0 l0.length c0 (some ad) l1.length c1 (m : Int) s) 25 (0, 0)) (.cells #[(.slice (some ⟨g, 0, none⟩) l0.length cap), .slice none 0 0, .int .i64 0, .bool true] 25 (0, 0)) Wd from hHeld.1)
  have hCd := Aside0.mk hHeld.2.2
  have hBd := Aside0.mk hHeld.2.1
  refine last_ (i := 4) (N := some 53) #[true, true, true, true, true] rfl rfl (one_of HT_.out (by kernel_rfl)) (by decide) (fun K hK => ?_)
  refine copy_one (v := .slice (some ⟨gt, 0, none⟩) 64 capt) (u := .slice Ax x.f1.length cx) (by rfl) rfl _ _ 35 35 rfl (by rfl) (by rfl) (copy_head Wd gt 0 64 capt Ax x.f1 cx cur _ (Kd.C_below (Kd.F_now HFx.out) hTd.out.2.2) hCd.out (by decide) (by have := Hx2.out; omega) (by have := Hcsz.out; have := Hy2.out; rw [show (Kd.int IntKind.u8).sz = 1 from rfl, Nat.mul_one] at *; omega)) ?_
  refine hK.out _ _ ?_
  clear hK K
  refine norm_ (a' := ?_) ?_ ?_
  rotate_left
  · show Act.put _ (some 53) _ = _
    simp only [Act.put, List.setIfInBounds_toArray, List.set_cons_zero, List.set_cons_succ, i64_w, i32_w]
    rfl
  refine done_ (done_of HT_.out (by kernel_rfl)) ?_
  clear HT6 HB6 HN6 Hcb
  have hne : w.heap.size + 1 < gt := by have h5 := HT6lt.out; have h6 := Hgt.out; omega
  have hgw := Hg1.out
  have hl1 := hlt1.out
  have HT8 := Aside0.mk (show Two w (.cells (dkV A0 l0.length c0 (some ad) l1.length c1 (m : Int) s) 25 (0, 0)) (.cells #[(.slice (some ⟨g, 0, none⟩) l0.length cap), .slice none 0 0, .int .i64 0, .bool true] 25 (0, 0)) (Wd.setCells gt 0 ((x.f1.take 64).map (Value.int .u8))) from ⟨setCells_far (by omega) _ _ _ hTd.out.1, setCells_far (by omega) _ _ _ hTd.out.2.1, below_setCells (by omega) _ _ _ hTd.out.2.2⟩)
  have HC8 := Aside0.mk (setCells_blk ((x.f1.take 64).map (Value.int .u8)) 0 Wd cur hCd.out)
  have HB8 := Aside0.mk (setCells_far (show w4.heap.size ≠ gt by have := Hgs.out; omega) ((x.f1.take 64).map (Value.int .u8)) 0 Wd hBd.out)
  have HN8 := Aside0.mk (N_setCells_far (b := gt) (fun k hk => by have h5 := hk.2; have h6 := Hgt.out; omega) ((x.f1.take 64).map (Value.int .u8)) 0 Wd HN7.out)
  have HZ := Aside0.mk (half_cells x.f1 y Hx2.out Hy2.out cur (by have h5 := Hcsz.out; have h6 := Hy2.out; rw [show (Kd.int IntKind.u8).sz = 1 from rfl, Nat.mul_one] at h5; omega) Hcur.out)
  clear hHeld hTd hCd hBd HN7 Hcur Hcsz
  generalize Wd.setCells gt 0 ((x.f1.take 64).map (Value.int .u8)) = w8 at HT8 HC8 HB8 HN8 ⊢
  generalize putL cur 0 ((x.f1.take 64).map (Value.int .u8)) = cur8 at HC8 HZ
  have hh := halfV_length x.f1 y Hx2.out Hy2.out
  have hFz := blk_F (halfV x.f1 y) HC8.out (by rw [hh]; decide) (fun j p hj => HZ.out j p hj)
  obtain ⟨curg, hgb, hgsz⟩ := N_blk HN8.out
  obtain ⟨old, hold⟩ : ∃ old, w8.cell? ⟨g, x.f0.toNat, none⟩ = some old := ⟨_, (blk_cell hgb x.f0.toNat).trans (Array.getElem?_eq_getElem (show x.f0.toNat < curg.size by have e : l0.length * kSec.sz = l0.length := Nat.mul_one _; omega))⟩
  have hgf := blk_frozen hgb x.f0.toNat
  have hgg : g < gt := Hgg.out
  have hN9 := N_set1 (Kd.N_mono (ok' := fun k => (P k ∨ w.heap.size ≤ k) ∧ k ≠ w.heap.size ∧ k ≠ w.heap.size + 1) HN8.out (fun k hk => hk.1)) x.f0 hx0 hx1 (halfV x.f1 y) (okp := fun k => k = gt) (.slice (some ⟨gt, 0, none⟩) y.length capt) hold (by have := Kd.FK_slice_mk (e := 5) (c := capt) (l := halfV x.f1 y) (by have h5 := Hy2.out; have h6 := Hcap.out; omega) hFz; rwa [show (halfV x.f1 y).length = y.length from hh.trans Hy2.out.symm] at this) (fun k hk => by subst hk; exact ⟨⟨.inr (by omega), by omega, by omega⟩, by omega⟩)
  have HN9 := Aside0.mk hN9
  rw [← HX.out] at HN9
  clear hN9 HN8 hFz hgb hgsz HC8 HZ hh
  have c0_ := (blk_cell HT8.out.1 0).trans rfl
  have c1_ := (blk_cell HT8.out.1 1).trans rfl
  have c2_ := (blk_cell HT8.out.1 2).trans rfl
  have c3_ := (blk_cell HT8.out.1 3).trans rfl
  have d0_ := (blk_cell HT8.out.2.1 0).trans rfl
  have d1_ := (blk_cell HT8.out.2.1 1).trans rfl
  have d2_ := (blk_cell HT8.out.2.1 2).trans rfl
  have d3_ := (blk_cell HT8.out.2.1 3).trans rfl
  have df0_ := blk_frozen HT8.out.2.1 0
  have df1_ := blk_frozen HT8.out.2.1 1
  have df2_ := blk_frozen HT8.out.2.1 2
  have df3_ := blk_frozen HT8.out.2.1 3
  have b0_ := (blk_cell HB8.out 0).trans rfl
  have b1_ := (blk_cell HB8.out 1).trans rfl
  have ngw : g ≠ w.heap.size := by omega
  have ngw1 : g ≠ w.heap.size + 1 := by omega
  have HT9 := Aside0.mk (show Two w (.cells (dkV A0 l0.length c0 (some ad) l1.length c1 (m : Int) s) 25 (0, 0)) (.cells #[(.slice (some ⟨g, 0, none⟩) l0.length cap), .slice none 0 0, .int .i64 0, .bool true] 25 (0, 0)) (w8.setCell ⟨g, x.f0.toNat, none⟩ (.slice (some ⟨gt, 0, none⟩) y.length capt)) from ⟨blk_far HT8.out.1 (by dsimp only; omega) _, blk_far HT8.out.2.1 (by dsimp only; omega) _, below_setCell HT8.out.2.2 (by omega) _ _⟩)
  have e0_ := (blk_cell HT9.out.2.1 0).trans rfl
  have e1_ := (blk_cell HT9.out.2.1 1).trans rfl
  have e2_ := (blk_cell HT9.out.2.1 2).trans rfl
  have e3_ := (blk_cell HT9.out.2.1 3).trans rfl
  have ef0_ := blk_frozen HT9.out.2.1 0
  have ef1_ := blk_frozen HT9.out.2.1 1
  have ef2_ := blk_frozen HT9.out.2.1 2
  have ef3_ := blk_frozen HT9.out.2.1 3
  go_wp2
  have hblk := blk_put (blk_put (blk_put (blk_put HT9.out.2.1 0 (.slice (some ⟨g, 0, none⟩) l0.length cap) rfl) 1 (.slice none 0 0) rfl) 2 (.int .i64 0) rfl) 3 (.bool true) rfl
  refine bodyPost_ret (results_ct rfl _ _ (w.heap.size + 1) 25 _ (0, 0) _ rfl hblk hu rfl (by kernel_rfl)) rfl ?_
  have htl : (tornV l0 l1 m).length = l0.length := by have h5 := Hpl.out; rw [HX.out, List.length_set, h5]
  have hV := Kd.N_V (base' := w.heap.size) HN9.out
  refine ⟨_, _, rfl, Kd.V_mono (Kd.V_far (Kd.V_far (Kd.V_far (Kd.V_far hV (fun k hk => hk.2.2) _) (fun k hk => hk.2.2) _) (fun k hk => hk.2.2) _) (fun k hk => hk.2.2) _) (fun k hk => hk.1), Kd.V_nil _ _ _ _ _, below_setCell (below_setCell (below_setCell (below_setCell HT9.out.2.2 (Nat.le_succ _) _ _) (Nat.le_succ _) _ _) (Nat.le_succ _) _ _) (Nat.le_succ _) _ _⟩

theorem disk_Sync.calls (P0_0_ : Nat → Prop) (A0_0 : Option Addr) (c0_0 : Nat) (l0_0 : List (List Int)) (P0_1_ : Nat → Prop) (A0_1 : Option Addr) (c0_1 : Nat) (l0_1 : List SW) (a0_2 : Int) (a0_3 : Bool) (r1 : List (List Int)) (r2 : List SW) (r3 : Int) (r4 : Bool) (r5 : Int) (w : World) (hs0_0 : Kd.V kSec 35 w w.heap.size (fun k_ => P0_0_ k_) (.slice A0_0 l0_0.length c0_0) l0_0) (hs0_1 : Kd.V kW 76 w w.heap.size (fun k_ => P0_1_ k_) (.slice A0_1 l0_1.length c0_1) l0_1) (h : disk_Sync.f l0_0 l0_1 a0_2 a0_3 = some (r1, r2, r3, r4, r5)) :
    Calls Try.prog 27 #[.agg #[.slice A0_0 l0_0.length c0_0, .slice A0_1 l0_1.length c0_1, .int .i64 a0_2, .bool a0_3]] w fun e w' => ∃ v0_ v1_ : Value, e = .returned (.tuple #[.agg #[v0_, v1_, .int .i64 r3, .bool r4], .int .i64 r5]) ∧ Kd.V kSec 35 w' w.heap.size (fun k_ => ((P0_0_ k_ ∨ P0_1_ k_) ∨ w.heap.size ≤ k_)) v0_ r1 ∧ Kd.V kW 76 w' w.heap.size (fun k_ => ((P0_0_ k_ ∨ P0_1_ k_) ∨ w.heap.size ≤ k_)) v1_ r2 ∧ Below w.heap.size w w' := by
  have e : syncV l0_0 l0_1 a0_2 a0_3 = (r1, r2, r3, r4, r5) := Option.some.inj h
  show Calls _ _ _ _ (DskOut w (fun k_ => ((P0_0_ k_ ∨ P0_1_ k_) ∨ w.heap.size ≤ k_)) (r1, r2, r3, r4, r5))
  rw [← e]
  have v0 := Kd.V_mono hs0_0 (ok' := fun k => P0_0_ k ∨ P0_1_ k) (fun k hk => .inl hk)
  have v1 := Kd.V_mono hs0_1 (ok' := fun k => P0_0_ k ∨ P0_1_ k) (fun k hk => .inr hk)
  unfold syncV
  by_cases h1 : runsV l0_0 l0_1 a0_2 a0_3 = true
  · rw [if_pos h1]
    by_cases h2 : 0 ≤ a0_2 ∧ a0_2 < l0_1.length
    · rw [if_pos h2]
      obtain ⟨m, rfl⟩ : ∃ m : Nat, a0_2 = (m : Int) := ⟨a0_2.toNat, by omega⟩
      rw [Int.toNat_natCast]
      exact sync_torn (fun k => P0_0_ k ∨ P0_1_ k) A0_0 c0_0 l0_0 A0_1 c0_1 l0_1 m a0_3 w v0 v1 h1 (by omega)
    · rw [if_neg h2]
      by_cases h3 : 0 ≤ a0_2
      · rw [if_pos h3]
        exact sync_pos (fun k => P0_0_ k ∨ P0_1_ k) A0_0 c0_0 l0_0 A0_1 c0_1 l0_1 a0_2 a0_3 w v0 v1 h1 ⟨h3, fun h => h2 ⟨h3, h⟩⟩
      · rw [if_neg h3]
        exact sync_neg (fun k => P0_0_ k ∨ P0_1_ k) A0_0 c0_0 l0_0 A0_1 c0_1 l0_1 a0_2 a0_3 w v0 v1 h1 h3
  · rw [if_neg h1]
    exact sync_no _ A0_0 c0_0 l0_0 A0_1 c0_1 l0_1 a0_2 a0_3 w (Kd.V_reads' hs0_0).2.2 (Kd.V_reads' hs0_0).2.1 (Kd.V_reads' hs0_1).2.2 (Kd.V_reads' hs0_1).2.1 h1
end Go.Proofs.Ytljmdkeeppikhaa.Q
