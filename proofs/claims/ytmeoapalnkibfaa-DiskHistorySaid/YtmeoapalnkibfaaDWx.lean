/- By hand: the disk's functions, in the form that walks use: a disk in a box, what it leads to. -/
import Derived.Test.YtmeoapalnkibfaaDNw
namespace Go.Proofs.Ytmeoapalnkibfaa.Q
open Go.RowKit Go.Proofs.YtmeoapalnkibfaaW.PrintWords Go.Proofs.YtmeoapalnkibfaaW.PrintLast Go.Proofs.YtmeoapalnkibfaaW.PrintMore
attribute [local go_sem] max2_int min2_int max_two min_two
set_option linter.unusedVariables false
set_option linter.unusedSimpArgs false

theorem of_out {f : FuncId} {args : Array Value} {W : World} {P : Nat → Prop} {r : (List (List Int)) × (List SW) × Int × Bool × Int} (h : Calls Try.prog f args W (DskOut W P r)) :
    Calls Try.prog f args W (fun e w' => ∃ A0' c0' A1' c1', e = .returned (.tuple #[.agg (dkV A0' r.1.length c0' A1' r.2.1.length c1' r.2.2.1 r.2.2.2.1), .int .i64 r.2.2.2.2]) ∧ Kd.V kSec 35 w' w'.heap.size P (.slice A0' r.1.length c0') r.1 ∧ Kd.V kW 54 w' w'.heap.size P (.slice A1' r.2.1.length c1') r.2.1 ∧ Below W.heap.size W w') := by
  refine h.mono ?_
  rintro e w' ⟨v0, v1, rfl, h0, h1, hb⟩
  obtain ⟨A0', c0', rfl⟩ := Kd.V_slice h0
  obtain ⟨A1', c1', rfl⟩ := Kd.V_slice h1
  exact ⟨A0', c0', A1', c1', rfl, h0, h1, hb⟩
theorem dWrite_ (P : Nat → Prop) (A0 : Option Addr) (c0 : Nat) (l0 : List (List Int)) (A1 : Option Addr) (c1 : Nat) (l1 : List SW) (a : Int) (s : Bool) (i : Int) (A2 : Option Addr) (c2 : Nat) (l2 : List Int) (W : World) (h0 : Kd.V kSec 35 W W.heap.size P (.slice A0 l0.length c0) l0) (h1 : Kd.V kW 54 W W.heap.size P (.slice A1 l1.length c1) l1) (hr2 : Kd.C (Kd.int .u8) W A2 l2.length l2) (hc2 : l2.length ≤ c2) (r1 : List (List Int)) (r2 : List SW) (r3 : Int) (r4 : Bool) (r5 : Int) (h : writeV l0 l1 a s i l2 = (r1, r2, r3, r4, r5)) :
    Calls Try.prog 19 #[.agg (dkV A0 l0.length c0 A1 l1.length c1 a s), .int .i64 i, .slice A2 l2.length c2] W (fun e w' => ∃ A0' c0' A1' c1', e = .returned (.tuple #[.agg (dkV A0' r1.length c0' A1' r2.length c1' r3 r4), .int .i64 r5]) ∧ Kd.V kSec 35 w' w'.heap.size (fun k => P k ∨ W.heap.size ≤ k) (.slice A0' r1.length c0') r1 ∧ Kd.V kW 54 w' w'.heap.size (fun k => P k ∨ W.heap.size ≤ k) (.slice A1' r2.length c1') r2 ∧ Below W.heap.size W w') :=
  of_out (r := (r1, r2, r3, r4, r5)) ((disk_Write.calls P A0 c0 l0 P A1 c1 l1 a s i A2 c2 l2 r1 r2 r3 r4 r5 W h0 h1 hr2 hc2 (congrArg some h)).mono (fun e w' hh => by
    obtain ⟨v0, v1, he, g0, g1, hb⟩ := hh
    exact ⟨v0, v1, he, Kd.V_mono g0 (fun k hk => by rcases hk with (hk | hk) | hk <;> simp [hk]), Kd.V_mono g1 (fun k hk => by rcases hk with (hk | hk) | hk <;> simp [hk]), hb⟩))
theorem dSync_ (P : Nat → Prop) (A0 : Option Addr) (c0 : Nat) (l0 : List (List Int)) (A1 : Option Addr) (c1 : Nat) (l1 : List SW) (a : Int) (s : Bool) (W : World) (h0 : Kd.V kSec 35 W W.heap.size P (.slice A0 l0.length c0) l0) (h1 : Kd.V kW 54 W W.heap.size P (.slice A1 l1.length c1) l1) (r1 : List (List Int)) (r2 : List SW) (r3 : Int) (r4 : Bool) (r5 : Int) (h : syncV l0 l1 a s = (r1, r2, r3, r4, r5)) :
    Calls Try.prog 23 #[.agg (dkV A0 l0.length c0 A1 l1.length c1 a s)] W (fun e w' => ∃ A0' c0' A1' c1', e = .returned (.tuple #[.agg (dkV A0' r1.length c0' A1' r2.length c1' r3 r4), .int .i64 r5]) ∧ Kd.V kSec 35 w' w'.heap.size (fun k => P k ∨ W.heap.size ≤ k) (.slice A0' r1.length c0') r1 ∧ Kd.V kW 54 w' w'.heap.size (fun k => P k ∨ W.heap.size ≤ k) (.slice A1' r2.length c1') r2 ∧ Below W.heap.size W w') :=
  of_out (r := (r1, r2, r3, r4, r5)) ((disk_Sync.calls P A0 c0 l0 P A1 c1 l1 a s r1 r2 r3 r4 r5 W h0 h1 (congrArg some h)).mono (fun e w' hh => by
    obtain ⟨v0, v1, he, g0, g1, hb⟩ := hh
    exact ⟨v0, v1, he, Kd.V_mono g0 (fun k hk => by rcases hk with (hk | hk) | hk <;> simp [hk]), Kd.V_mono g1 (fun k hk => by rcases hk with (hk | hk) | hk <;> simp [hk]), hb⟩))
theorem dNew_ (n : Int) (W : World) (r1 : List (List Int)) (r2 : List SW) (r3 : Int) (r4 : Bool) (r5 : Int) (h : newV n = (r1, r2, r3, r4, r5)) :
    Calls Try.prog 12 #[.int .i64 n] W (fun e w' => ∃ A0' c0' A1' c1', e = .returned (.tuple #[.agg (dkV A0' r1.length c0' A1' r2.length c1' r3 r4), .int .i64 r5]) ∧ Kd.V kSec 35 w' w'.heap.size (fun k => W.heap.size ≤ k) (.slice A0' r1.length c0') r1 ∧ Kd.V kW 54 w' w'.heap.size (fun k => W.heap.size ≤ k) (.slice A1' r2.length c1') r2 ∧ Below W.heap.size W w') :=
  of_out (r := (r1, r2, r3, r4, r5)) (disk_New.calls n r1 r2 r3 r4 r5 W (congrArg some h))
theorem dRead_ (P : Nat → Prop) (A0 : Option Addr) (c0 : Nat) (l0 : List (List Int)) (A1 : Option Addr) (c1 : Nat) (l1 : List SW) (a : Int) (s : Bool) (i : Int) (W : World) (h0 : Kd.V kSec 35 W W.heap.size P (.slice A0 l0.length c0) l0) (h1 : Kd.V kW 54 W W.heap.size P (.slice A1 l1.length c1) l1) (r : List Int) (x : Int) (h : readV l0 l1 a s i = (r, x)) :
    Calls Try.prog 21 #[.agg (dkV A0 l0.length c0 A1 l1.length c1 a s), .int .i64 i] W fun e w' => ∃ A' c', e = .returned (.tuple #[.slice A' r.length c', .int .i64 x]) ∧ Kd.V (Kd.int .u8) 5 w' w'.heap.size (fun k => P k ∨ W.heap.size ≤ k) (.slice A' r.length c') r ∧ Below W.heap.size W w' := by
  refine (disk_Read.calls P A0 c0 l0 P A1 c1 l1 a s i r x W h0 h1 (congrArg some h)).mono ?_
  rintro e w' ⟨v, rfl, g0, hb⟩
  obtain ⟨A', c', rfl⟩ := Kd.V_slice g0
  exact ⟨A', c', rfl, Kd.V_mono g0 (fun k hk => by rcases hk with (hk | hk) | hk <;> simp [hk]), hb⟩

/-- Stop. -/
def stopV (l0 : List (List Int)) (l1 : List SW) (a : Int) (s : Bool) (left : Int) : (List (List Int)) × (List SW) × Int × Bool × Int :=
  if runsV l0 l1 a s = true then (if left < 0 ∨ 65536 < left then ([], [], 0, false, 1) else (l0, l1, left, s, 0)) else ([], [], 0, false, 40)

set_option maxHeartbeats 4000000 in
set_option maxRecDepth 100000 in
theorem stop_out (P : Nat → Prop) (A0 : Option Addr) (c0 : Nat) (l0 : List (List Int)) (A1 : Option Addr) (c1 : Nat) (l1 : List SW) (a : Int) (s : Bool) (left : Int) (W : World) (h0 : Kd.V kSec 35 W W.heap.size P (.slice A0 l0.length c0) l0) (h1 : Kd.V kW 54 W W.heap.size P (.slice A1 l1.length c1) l1) (r : (List (List Int)) × (List SW) × Int × Bool × Int) (h : stopV l0 l1 a s left = r) :
    Calls Try.prog 25 #[.agg (dkV A0 l0.length c0 A1 l1.length c1 a s), .int .i64 left] W (DskOut W (fun k => P k ∨ W.heap.size ≤ k) r) := by
  have hu := Try.underlying25
  have HT := Aside0.mk (Two.new W (.cells (dkV A0 l0.length c0 A1 l1.length c1 a s) 25 (0, 0)) (.cells dk0 25 (0, 0)))
  have HR := Aside0.mk (runs_ A0 c0 l0 A1 c1 l1 a s _ (Kd.C_below (Kd.V_reads' h0).2.2 HT.out.2.2) (Kd.V_reads' h0).2.1 (Kd.C_below (Kd.V_reads' h1).2.2 HT.out.2.2) (Kd.V_reads' h1).2.1)
  unfold stopV at h
  by_cases hr : runsV l0 l1 a s = true
  · rw [if_pos hr] at h
    rw [hr] at HR
    by_cases h2 : left < 0
    · rw [if_pos (.inl h2)] at h
      subst h
      clear h0 h1 hr
      go_enter Try.func25, Try.ntmps25
      go_wp2_with fail
      refine HR.out.mono ?_
      rintro e w1 ⟨rfl, hb⟩
      have HT1 := Aside0.mk (HT.out.below hb)
      clear hb HR HT
      have d0_ := (blk_cell HT1.out.2.1 0).trans rfl
      have d1_ := (blk_cell HT1.out.2.1 1).trans rfl
      have d2_ := (blk_cell HT1.out.2.1 2).trans rfl
      have d3_ := (blk_cell HT1.out.2.1 3).trans rfl
      have df0_ := blk_frozen HT1.out.2.1 0
      have df1_ := blk_frozen HT1.out.2.1 1
      have df2_ := blk_frozen HT1.out.2.1 2
      have df3_ := blk_frozen HT1.out.2.1 3
      go_wp2
      have hblk := blk_put (blk_put (blk_put (blk_put HT1.out.2.1 0 (.slice none 0 0) rfl) 1 (.slice none 0 0) rfl) 2 (.int .i64 0) rfl) 3 (.bool false) rfl
      refine bodyPost_ret (results_ct rfl _ _ (W.heap.size + 1) 25 dk0 (0, 0) _ rfl hblk hu rfl (by kernel_rfl)) rfl ?_
      exact ⟨_, _, rfl, Kd.V_nil _ _ _ _ _, Kd.V_nil _ _ _ _ _, below_setCell (below_setCell (below_setCell (below_setCell HT1.out.2.2 (Nat.le_succ _) _ _) (Nat.le_succ _) _ _) (Nat.le_succ _) _ _) (Nat.le_succ _) _ _⟩
    · by_cases h3 : 65536 < left
      · rw [if_pos (.inr h3)] at h
        subst h
        clear h0 h1 hr
        go_enter Try.func25, Try.ntmps25
        go_wp2_with fail
        refine HR.out.mono ?_
        rintro e w1 ⟨rfl, hb⟩
        have HT1 := Aside0.mk (HT.out.below hb)
        clear hb HR HT
        have d0_ := (blk_cell HT1.out.2.1 0).trans rfl
        have d1_ := (blk_cell HT1.out.2.1 1).trans rfl
        have d2_ := (blk_cell HT1.out.2.1 2).trans rfl
        have d3_ := (blk_cell HT1.out.2.1 3).trans rfl
        have df0_ := blk_frozen HT1.out.2.1 0
        have df1_ := blk_frozen HT1.out.2.1 1
        have df2_ := blk_frozen HT1.out.2.1 2
        have df3_ := blk_frozen HT1.out.2.1 3
        go_wp2
        have hblk := blk_put (blk_put (blk_put (blk_put HT1.out.2.1 0 (.slice none 0 0) rfl) 1 (.slice none 0 0) rfl) 2 (.int .i64 0) rfl) 3 (.bool false) rfl
        refine bodyPost_ret (results_ct rfl _ _ (W.heap.size + 1) 25 dk0 (0, 0) _ rfl hblk hu rfl (by kernel_rfl)) rfl ?_
        exact ⟨_, _, rfl, Kd.V_nil _ _ _ _ _, Kd.V_nil _ _ _ _ _, below_setCell (below_setCell (below_setCell (below_setCell HT1.out.2.2 (Nat.le_succ _) _ _) (Nat.le_succ _) _ _) (Nat.le_succ _) _ _) (Nat.le_succ _) _ _⟩
      · rw [if_neg (by omega)] at h
        subst h
        have HV0 := Aside0.mk (Kd.V_bound h0)
        have HV1 := Aside0.mk (Kd.V_bound h1)
        clear h0 h1 hr
        go_enter Try.func25, Try.ntmps25
        go_wp2_with fail
        refine HR.out.mono ?_
        rintro e w1 ⟨rfl, hb⟩
        have HT1 := Aside0.mk (HT.out.below hb)
        clear hb HR HT
        have c0_ := (blk_cell HT1.out.1 0).trans rfl
        have c1_ := (blk_cell HT1.out.1 1).trans rfl
        have c2_ := (blk_cell HT1.out.1 2).trans rfl
        have c3_ := (blk_cell HT1.out.1 3).trans rfl
        have cf0_ := blk_frozen HT1.out.1 0
        have cf1_ := blk_frozen HT1.out.1 1
        have cf2_ := blk_frozen HT1.out.1 2
        have cf3_ := blk_frozen HT1.out.1 3
        have d0_ := (blk_cell HT1.out.2.1 0).trans rfl
        have d1_ := (blk_cell HT1.out.2.1 1).trans rfl
        have d2_ := (blk_cell HT1.out.2.1 2).trans rfl
        have d3_ := (blk_cell HT1.out.2.1 3).trans rfl
        have df0_ := blk_frozen HT1.out.2.1 0
        have df1_ := blk_frozen HT1.out.2.1 1
        have df2_ := blk_frozen HT1.out.2.1 2
        have df3_ := blk_frozen HT1.out.2.1 3
        go_wp2
        have hblk := blk_put (blk_put (blk_put (blk_put (blk_far (p := ⟨W.heap.size, 2, none⟩) HT1.out.2.1 (show W.heap.size + 1 ≠ W.heap.size by omega) (.int .i64 left)) 0 (.slice A0 l0.length c0) rfl) 1 (.slice A1 l1.length c1) rfl) 2 (.int .i64 left) rfl) 3 (.bool s) rfl
        refine bodyPost_ret (results_ct rfl _ _ (W.heap.size + 1) 25 _ (0, 0) _ rfl hblk hu rfl (by kernel_rfl)) rfl ?_
        have hBf := below_setCell (below_setCell (below_setCell (below_setCell (below_setCell HT1.out.2.2 (Nat.le_refl W.heap.size) 2 (.int .i64 left)) (Nat.le_succ W.heap.size) 0 (.slice A0 l0.length c0)) (Nat.le_succ W.heap.size) 1 (.slice A1 l1.length c1)) (Nat.le_succ W.heap.size) 2 (.int .i64 left)) (Nat.le_succ W.heap.size) 3 (.bool s)
        exact ⟨_, _, rfl, Kd.V_mono (Kd.V_below HV0.out hBf) (fun k hk => .inl hk.1), Kd.V_mono (Kd.V_below HV1.out hBf) (fun k hk => .inl hk.1), hBf⟩
  · rw [if_neg hr] at h
    subst h
    have hr' : runsV l0 l1 a s = false := by simpa using hr
    rw [hr'] at HR
    clear h0 h1 hr hr'
    go_enter Try.func25, Try.ntmps25
    go_wp2_with fail
    refine HR.out.mono ?_
    rintro e w1 ⟨rfl, hb⟩
    have HT1 := Aside0.mk (HT.out.below hb)
    clear hb HR HT
    have d0_ := (blk_cell HT1.out.2.1 0).trans rfl
    have d1_ := (blk_cell HT1.out.2.1 1).trans rfl
    have d2_ := (blk_cell HT1.out.2.1 2).trans rfl
    have d3_ := (blk_cell HT1.out.2.1 3).trans rfl
    have df0_ := blk_frozen HT1.out.2.1 0
    have df1_ := blk_frozen HT1.out.2.1 1
    have df2_ := blk_frozen HT1.out.2.1 2
    have df3_ := blk_frozen HT1.out.2.1 3
    go_wp2
    have hblk := blk_put (blk_put (blk_put (blk_put HT1.out.2.1 0 (.slice none 0 0) rfl) 1 (.slice none 0 0) rfl) 2 (.int .i64 0) rfl) 3 (.bool false) rfl
    refine bodyPost_ret (results_ct rfl _ _ (W.heap.size + 1) 25 dk0 (0, 0) _ rfl hblk hu rfl (by kernel_rfl)) rfl ?_
    exact ⟨_, _, rfl, Kd.V_nil _ _ _ _ _, Kd.V_nil _ _ _ _ _, below_setCell (below_setCell (below_setCell (below_setCell HT1.out.2.2 (Nat.le_succ _) _ _) (Nat.le_succ _) _ _) (Nat.le_succ _) _ _) (Nat.le_succ _) _ _⟩
theorem dStop_ (P : Nat → Prop) (A0 : Option Addr) (c0 : Nat) (l0 : List (List Int)) (A1 : Option Addr) (c1 : Nat) (l1 : List SW) (a : Int) (s : Bool) (left : Int) (W : World) (h0 : Kd.V kSec 35 W W.heap.size P (.slice A0 l0.length c0) l0) (h1 : Kd.V kW 54 W W.heap.size P (.slice A1 l1.length c1) l1) (r1 : List (List Int)) (r2 : List SW) (r3 : Int) (r4 : Bool) (r5 : Int) (h : stopV l0 l1 a s left = (r1, r2, r3, r4, r5)) :
    Calls Try.prog 25 #[.agg (dkV A0 l0.length c0 A1 l1.length c1 a s), .int .i64 left] W (fun e w' => ∃ A0' c0' A1' c1', e = .returned (.tuple #[.agg (dkV A0' r1.length c0' A1' r2.length c1' r3 r4), .int .i64 r5]) ∧ Kd.V kSec 35 w' w'.heap.size (fun k => P k ∨ W.heap.size ≤ k) (.slice A0' r1.length c0') r1 ∧ Kd.V kW 54 w' w'.heap.size (fun k => P k ∨ W.heap.size ≤ k) (.slice A1' r2.length c1') r2 ∧ Below W.heap.size W w') := of_out (r := (r1, r2, r3, r4, r5)) (stop_out P A0 c0 l0 A1 c1 l1 a s left W h0 h1 _ h)

set_option maxHeartbeats 4000000 in
set_option maxRecDepth 100000 in
theorem dRestart_ (P : Nat → Prop) (A0 : Option Addr) (c0 : Nat) (l0 : List (List Int)) (A1 : Option Addr) (n1 c1 : Nat) (a : Int) (s : Bool) (W : World) (h0 : Kd.V kSec 35 W W.heap.size P (.slice A0 l0.length c0) l0) :
    Calls Try.prog 17 #[.agg (dkV A0 l0.length c0 A1 n1 c1 a s)] W fun e w' => e = .returned (.agg (dkV A0 l0.length c0 none 0 0 (-1) false)) ∧ Kd.V kSec 35 w' w'.heap.size P (.slice A0 l0.length c0) l0 ∧ Below W.heap.size W w' := by
  have hu := Try.underlying25
  have HT := Aside0.mk (Two.new W (.cells (dkV A0 l0.length c0 A1 n1 c1 a s) 25 (0, 0)) (.cells #[.slice A0 l0.length c0, .slice none 0 0, .int .i64 (-1), .bool false] 25 (0, 0)))
  have HV0 := Aside0.mk (Kd.V_below h0 HT.out.2.2)
  clear h0
  go_enter Try.func17, Try.ntmps17
  go_wp2
  refine bodyPost_ret (results_cell_row rfl _ _ (W.heap.size + 1) 25 _ (0, 0) _ rfl HT.out.2.1 hu rfl (by kernel_rfl)) rfl ?_
  exact ⟨rfl, HV0.out, HT.out.2.2⟩
end Go.Proofs.Ytmeoapalnkibfaa.Q
