/- By hand: what disk.Write computes. -/
import Derived.Test.YtljmdkeeppikhaaDPf
import Derived.ArgAppend
import Derived.Lib.Overlaps
namespace Go.Proofs.Ytljmdkeeppikhaa.Q
open Go.RowKit Go.Proofs.YtljmdkeeppikhaaW.PrintWords Go.Proofs.YtljmdkeeppikhaaW.PrintLast Go.Proofs.YtljmdkeeppikhaaW.PrintMore
attribute [local go_sem] max2_int min2_int max_two min_two
set_option linter.unusedVariables false
set_option linter.unusedSimpArgs false

/-- A disk's value. -/
abbrev dkV (A0 : Option Addr) (n0 c0 : Nat) (A1 : Option Addr) (n1 c1 : Nat) (a : Int) (b : Bool) : Array Value := #[.slice A0 n0 c0, .slice A1 n1 c1, .int .i64 a, .bool b]
abbrev dk0 : Array Value := #[.slice none 0 0, .slice none 0 0, .int .i64 0, .bool false]
def runsV (l0 : List (List Int)) (l1 : List SW) (a : Int) (b : Bool) : Bool := decide (dchk l0 l1 a = 0) && !b

theorem runs_ (A0 : Option Addr) (c0 : Nat) (l0 : List (List Int)) (A1 : Option Addr) (c1 : Nat) (l1 : List SW) (a : Int) (b : Bool) (w : World) (hr0 : Kd.C kSec w A0 l0.length l0) (hc0 : l0.length ≤ c0) (hr1 : Kd.C kW w A1 l1.length l1) (hc1 : l1.length ≤ c1) :
    Calls Try.prog 50 #[.agg (dkV A0 l0.length c0 A1 l1.length c1 a b)] w fun e w' => e = .returned (.bool (runsV l0 l1 a b)) ∧ Below w.heap.size w w' := by
  have hu := Try.underlying25
  have HB := Aside0.mk (below_alloc (Below.refl w.heap.size w) (.cells (dkV A0 l0.length c0 A1 l1.length c1 a b) 25 (0, 0)))
  have Hd := Aside0.mk (heap_at_new w (.cells (dkV A0 l0.length c0 A1 l1.length c1 a b) 25 (0, 0)) _ rfl)
  have HC := Aside0.mk (disk_Check.calls A0 c0 l0 A1 c1 l1 a b _ _ (Kd.C_below hr0 HB.out) hc0 (Kd.C_below hr1 HB.out) hc1 rfl)
  clear hr0 hr1 hc0 hc1
  unfold runsV
  generalize dchk l0 l1 a = x at *
  by_cases h0 : x = 0
  · subst h0
    go_enter Try.func50, Try.ntmps50
    go_wp2_with fail
    refine HC.out.mono ?_
    rintro e w1 ⟨rfl, hb⟩
    have c3 := (blk_cell (heap_below hb Hd.out) 3).trans rfl
    have HB2 := Aside0.mk (below_step HB.out hb)
    clear hb HB HC Hd
    go_wp2
    go_ret
    exact ⟨rfl, HB2.out⟩
  · have hx : (x == 0) = false := beq_false_of_ne h0
    rw [decide_eq_false h0]
    go_enter Try.func50, Try.ntmps50
    go_wp2_with fail
    refine HC.out.mono ?_
    rintro e w1 ⟨rfl, hb⟩
    have HB2 := Aside0.mk (below_step HB.out hb)
    clear hb HB HC Hd
    go_wp2
    go_ret
    exact ⟨rfl, HB2.out⟩
theorem has_ (A0 : Option Addr) (n0 c0 : Nat) (A1 : Option Addr) (n1 c1 : Nat) (a : Int) (b : Bool) (i : Int) (w : World) :
    Calls Try.prog 51 #[.agg (dkV A0 n0 c0 A1 n1 c1 a b), .int .i64 i] w fun e w' => e = .returned (.bool (decide (0 ≤ i) && decide (i < n0))) ∧ Below w.heap.size w w' := by
  have hu := Try.underlying25
  have HB := Aside0.mk (below_alloc (Below.refl w.heap.size w) (.cells (dkV A0 n0 c0 A1 n1 c1 a b) 25 (0, 0)))
  by_cases h0 : 0 ≤ i
  · go_enter Try.func51, Try.ntmps51
    go_wp2
    go_ret
    exact ⟨by simp [h0], HB.out⟩
  · go_enter Try.func51, Try.ntmps51
    go_wp2
    go_ret
    exact ⟨by rw [decide_eq_false (show ¬ 0 ≤ i by omega)]; rfl, HB.out⟩

/-- Two boxes laid first of all. -/
def Two (w : World) (a b : Obj) (W : World) : Prop := W.heap[w.heap.size]? = some a ∧ W.heap[w.heap.size + 1]? = some b ∧ Below w.heap.size w W
theorem Two.new (w : World) (a b : Obj) : Two w a b ((w.alloc a).alloc b) := ⟨heap_at_old _ _ _ _ (heap_at_new _ _ _ rfl), heap_at_new _ _ _ (by simp), below_alloc (below_alloc (Below.refl _ _) _) _⟩
theorem Two.below {w : World} {a b : Obj} {W V : World} (h : Two w a b W) (hb : Below W.heap.size W V) : Two w a b V := ⟨heap_below hb h.1, heap_below hb h.2.1, below_step h.2.2 hb⟩
theorem Two.alloc {w : World} {a b : Obj} {W : World} (h : Two w a b W) (o : Obj) : Two w a b (W.alloc o) := h.below (below_alloc (Below.refl _ _) o)
theorem Two.lt {w : World} {a b : Obj} {W : World} (h : Two w a b W) : w.heap.size + 1 < W.heap.size := (Array.getElem?_eq_some_iff.1 h.2.1).1
/-- The bytes of a sector. -/
def padV (b : List Int) : List Int := b ++ List.replicate (128 - b.length) 0
def writeV (l0 : List (List Int)) (l1 : List SW) (a : Int) (s : Bool) (i : Int) (b : List Int) : (List (List Int)) × (List SW) × Int × Bool × Int :=
  if runsV l0 l1 a s = true ∧ 0 ≤ i ∧ i < l0.length then (if (b.length : Int) > 128 then ([], [], 0, false, 1) else if l1.length = 4096 then ([], [], 0, false, 2) else (l0, l1 ++ [⟨i, padV b⟩], a, s, 0)) else ([], [], 0, false, 40)
def disk_Write.f (l0_0 : List (List Int)) (l0_1 : List SW) (a0_2 : Int) (a0_3 : Bool) (a1 : Int) (l2 : List Int) : Option ((List (List Int)) × (List SW) × Int × Bool × Int) := some (writeV l0_0 l0_1 a0_2 a0_3 a1 l2)

/-- Write's and Sync's post. -/
def DskOut (w : World) (ok : Nat → Prop) (r : (List (List Int)) × (List SW) × Int × Bool × Int) (e : Ending) (w' : World) : Prop :=
  ∃ v0_ v1_ : Value, e = .returned (.tuple #[.agg #[v0_, v1_, .int .i64 r.2.2.1, .bool r.2.2.2.1], .int .i64 r.2.2.2.2]) ∧ Kd.V kSec 35 w' w.heap.size ok v0_ r.1 ∧ Kd.V kW 76 w' w.heap.size ok v1_ r.2.1 ∧ Below w.heap.size w w'

set_option maxHeartbeats 2000000 in
set_option maxRecDepth 100000 in
/-- Refused: a zero disk and a code. -/
theorem write_no (P : Nat → Prop) (A0 : Option Addr) (c0 : Nat) (l0 : List (List Int)) (A1 : Option Addr) (c1 : Nat) (l1 : List SW) (a : Int) (s : Bool) (i : Int) (A2 : Option Addr) (c2 n2 : Nat) (w : World) (code : Int) (hr0 : Kd.C kSec w A0 l0.length l0) (hc0 : l0.length ≤ c0) (hr1 : Kd.C kW w A1 l1.length l1) (hc1 : l1.length ≤ c1)
    (h : (¬ (runsV l0 l1 a s = true ∧ 0 ≤ i ∧ i < l0.length) ∧ code = 40) ∨ ((runsV l0 l1 a s = true ∧ 0 ≤ i ∧ i < l0.length) ∧ (n2 : Int) > 128 ∧ code = 1) ∨ ((runsV l0 l1 a s = true ∧ 0 ≤ i ∧ i < l0.length) ∧ ¬ (n2 : Int) > 128 ∧ l1.length = 4096 ∧ code = 2)) :
    Calls Try.prog 26 #[.agg (dkV A0 l0.length c0 A1 l1.length c1 a s), .int .i64 i, .slice A2 n2 c2] w (DskOut w P ([], [], 0, false, code)) := by
  have hu := Try.underlying25
  have HT := Aside0.mk (Two.new w (.cells (dkV A0 l0.length c0 A1 l1.length c1 a s) 25 (0, 0)) (.cells dk0 25 (0, 0)))
  have HR := Aside0.mk (runs_ A0 c0 l0 A1 c1 l1 a s _ (Kd.C_below hr0 HT.out.2.2) hc0 (Kd.C_below hr1 HT.out.2.2) hc1)
  have HH := Aside0.mk (has_ A0 l0.length c0 A1 l1.length c1 a s i)
  clear hr0 hr1 hc0 hc1
  by_cases hr : runsV l0 l1 a s = true
  · rw [hr] at HR
    by_cases hi : 0 ≤ i ∧ i < l0.length
    · replace HH : Aside0 (∀ w, Calls Try.prog 51 #[.agg (dkV A0 l0.length c0 A1 l1.length c1 a s), .int .i64 i] w fun e w' => e = .returned (.bool true) ∧ Below w.heap.size w w') := ⟨fun w => by have := HH.out w; rwa [decide_eq_true hi.1, decide_eq_true hi.2] at this⟩
      by_cases h2 : (n2 : Int) > 128
      · obtain rfl : code = 1 := by
          rcases h with h | h | h
          · exact absurd ⟨hr, hi⟩ h.1
          · exact h.2.2
          · exact absurd h2 h.2.1
        clear h hr hi
        go_enter Try.func26, Try.ntmps26
        go_wp2_with fail
        refine HR.out.mono ?_
        rintro e w1 ⟨rfl, hb⟩
        have HT1 := Aside0.mk (HT.out.below hb)
        clear hb HR
        clear HT
        have c0_ := (blk_cell HT1.out.1 0).trans rfl
        have c1_ := (blk_cell HT1.out.1 1).trans rfl
        have c2_ := (blk_cell HT1.out.1 2).trans rfl
        have c3_ := (blk_cell HT1.out.1 3).trans rfl
        go_wp2_with fail
        refine (HH.out _).mono ?_
        rintro e w2 ⟨rfl, hb⟩
        have HT2 := Aside0.mk (HT1.out.below hb)
        clear hb
        clear c0_ c1_ c2_ c3_
        clear HT1
        have d0_ := (blk_cell HT2.out.2.1 0).trans rfl
        have d1_ := (blk_cell HT2.out.2.1 1).trans rfl
        have d2_ := (blk_cell HT2.out.2.1 2).trans rfl
        have d3_ := (blk_cell HT2.out.2.1 3).trans rfl
        have df0_ := blk_frozen HT2.out.2.1 0
        have df1_ := blk_frozen HT2.out.2.1 1
        have df2_ := blk_frozen HT2.out.2.1 2
        have df3_ := blk_frozen HT2.out.2.1 3
        have c0_ := (blk_cell HT2.out.1 0).trans rfl
        have c1_ := (blk_cell HT2.out.1 1).trans rfl
        have c2_ := (blk_cell HT2.out.1 2).trans rfl
        have c3_ := (blk_cell HT2.out.1 3).trans rfl
        go_wp2
        have hblk := blk_put (blk_put (blk_put (blk_put HT2.out.2.1 0 (.slice none 0 0) rfl) 1 (.slice none 0 0) rfl) 2 (.int .i64 0) rfl) 3 (.bool false) rfl
        refine bodyPost_ret (results_ct rfl _ _ (w.heap.size + 1) 25 dk0 (0, 0) _ rfl hblk hu rfl (by kernel_rfl)) rfl ?_
        exact ⟨_, _, rfl, Kd.V_nil _ _ _ _ _, Kd.V_nil _ _ _ _ _, below_setCell (below_setCell (below_setCell (below_setCell HT2.out.2.2 (Nat.le_succ _) _ _) (Nat.le_succ _) _ _) (Nat.le_succ _) _ _) (Nat.le_succ _) _ _⟩
      · obtain ⟨h3, rfl⟩ : l1.length = 4096 ∧ code = 2 := by
          rcases h with h | h | h
          · exact absurd ⟨hr, hi⟩ h.1
          · exact absurd h.2.1 h2
          · exact h.2.2
        have hE := Aside0.mk (show ((l1.length : Int) == 4096) = true by rw [h3]; rfl)
        clear h hr hi h3
        go_enter Try.func26, Try.ntmps26
        go_wp2_with fail
        refine HR.out.mono ?_
        rintro e w1 ⟨rfl, hb⟩
        have HT1 := Aside0.mk (HT.out.below hb)
        clear hb HR
        clear HT
        have c0_ := (blk_cell HT1.out.1 0).trans rfl
        have c1_ := (blk_cell HT1.out.1 1).trans rfl
        have c2_ := (blk_cell HT1.out.1 2).trans rfl
        have c3_ := (blk_cell HT1.out.1 3).trans rfl
        go_wp2_with fail
        refine (HH.out _).mono ?_
        rintro e w2 ⟨rfl, hb⟩
        have HT2 := Aside0.mk (HT1.out.below hb)
        clear hb
        clear c0_ c1_ c2_ c3_
        clear HT1
        have d0_ := (blk_cell HT2.out.2.1 0).trans rfl
        have d1_ := (blk_cell HT2.out.2.1 1).trans rfl
        have d2_ := (blk_cell HT2.out.2.1 2).trans rfl
        have d3_ := (blk_cell HT2.out.2.1 3).trans rfl
        have df0_ := blk_frozen HT2.out.2.1 0
        have df1_ := blk_frozen HT2.out.2.1 1
        have df2_ := blk_frozen HT2.out.2.1 2
        have df3_ := blk_frozen HT2.out.2.1 3
        have c0_ := (blk_cell HT2.out.1 0).trans rfl
        have c1_ := (blk_cell HT2.out.1 1).trans rfl
        have c2_ := (blk_cell HT2.out.1 2).trans rfl
        have c3_ := (blk_cell HT2.out.1 3).trans rfl
        have hE_ := hE.out
        go_wp2
        have hblk := blk_put (blk_put (blk_put (blk_put HT2.out.2.1 0 (.slice none 0 0) rfl) 1 (.slice none 0 0) rfl) 2 (.int .i64 0) rfl) 3 (.bool false) rfl
        refine bodyPost_ret (results_ct rfl _ _ (w.heap.size + 1) 25 dk0 (0, 0) _ rfl hblk hu rfl (by kernel_rfl)) rfl ?_
        exact ⟨_, _, rfl, Kd.V_nil _ _ _ _ _, Kd.V_nil _ _ _ _ _, below_setCell (below_setCell (below_setCell (below_setCell HT2.out.2.2 (Nat.le_succ _) _ _) (Nat.le_succ _) _ _) (Nat.le_succ _) _ _) (Nat.le_succ _) _ _⟩
    · replace HH : Aside0 (∀ w, Calls Try.prog 51 #[.agg (dkV A0 l0.length c0 A1 l1.length c1 a s), .int .i64 i] w fun e w' => e = .returned (.bool false) ∧ Below w.heap.size w w') := ⟨fun w => by
        have := HH.out w
        rwa [show (decide (0 ≤ i) && decide (i < (l0.length : Int))) = false by rw [← Bool.decide_and]; exact decide_eq_false hi] at this⟩
      obtain rfl : code = 40 := by
        rcases h with h | h | h
        · exact h.2
        · exact absurd h.1.2 hi
        · exact absurd h.1.2 hi
      clear h hr hi
      go_enter Try.func26, Try.ntmps26
      go_wp2_with fail
      refine HR.out.mono ?_
      rintro e w1 ⟨rfl, hb⟩
      have HT1 := Aside0.mk (HT.out.below hb)
      clear hb HR
      clear HT
      have c0_ := (blk_cell HT1.out.1 0).trans rfl
      have c1_ := (blk_cell HT1.out.1 1).trans rfl
      have c2_ := (blk_cell HT1.out.1 2).trans rfl
      have c3_ := (blk_cell HT1.out.1 3).trans rfl
      go_wp2_with fail
      refine (HH.out _).mono ?_
      rintro e w2 ⟨rfl, hb⟩
      have HT2 := Aside0.mk (HT1.out.below hb)
      clear hb
      clear c0_ c1_ c2_ c3_
      clear HT1
      have d0_ := (blk_cell HT2.out.2.1 0).trans rfl
      have d1_ := (blk_cell HT2.out.2.1 1).trans rfl
      have d2_ := (blk_cell HT2.out.2.1 2).trans rfl
      have d3_ := (blk_cell HT2.out.2.1 3).trans rfl
      have df0_ := blk_frozen HT2.out.2.1 0
      have df1_ := blk_frozen HT2.out.2.1 1
      have df2_ := blk_frozen HT2.out.2.1 2
      have df3_ := blk_frozen HT2.out.2.1 3
      have c0_ := (blk_cell HT2.out.1 0).trans rfl
      have c1_ := (blk_cell HT2.out.1 1).trans rfl
      have c2_ := (blk_cell HT2.out.1 2).trans rfl
      have c3_ := (blk_cell HT2.out.1 3).trans rfl
      go_wp2
      have hblk := blk_put (blk_put (blk_put (blk_put HT2.out.2.1 0 (.slice none 0 0) rfl) 1 (.slice none 0 0) rfl) 2 (.int .i64 0) rfl) 3 (.bool false) rfl
      refine bodyPost_ret (results_ct rfl _ _ (w.heap.size + 1) 25 dk0 (0, 0) _ rfl hblk hu rfl (by kernel_rfl)) rfl ?_
      exact ⟨_, _, rfl, Kd.V_nil _ _ _ _ _, Kd.V_nil _ _ _ _ _, below_setCell (below_setCell (below_setCell (below_setCell HT2.out.2.2 (Nat.le_succ _) _ _) (Nat.le_succ _) _ _) (Nat.le_succ _) _ _) (Nat.le_succ _) _ _⟩
  · have hr' : runsV l0 l1 a s = false := by simpa using hr
    rw [hr'] at HR
    obtain rfl : code = 40 := by
      rcases h with h | h | h
      · exact h.2
      · exact absurd h.1.1 hr
      · exact absurd h.1.1 hr
    clear h hr hr'
    go_enter Try.func26, Try.ntmps26
    go_wp2_with fail
    refine HR.out.mono ?_
    rintro e w1 ⟨rfl, hb⟩
    have HT1 := Aside0.mk (HT.out.below hb)
    clear hb HR
    clear HT
    have d0_ := (blk_cell HT1.out.2.1 0).trans rfl
    have d1_ := (blk_cell HT1.out.2.1 1).trans rfl
    have d2_ := (blk_cell HT1.out.2.1 2).trans rfl
    have d3_ := (blk_cell HT1.out.2.1 3).trans rfl
    have df0_ := blk_frozen HT1.out.2.1 0
    have df1_ := blk_frozen HT1.out.2.1 1
    have df2_ := blk_frozen HT1.out.2.1 2
    have df3_ := blk_frozen HT1.out.2.1 3
    have c0_ := (blk_cell HT1.out.1 0).trans rfl
    have c1_ := (blk_cell HT1.out.1 1).trans rfl
    have c2_ := (blk_cell HT1.out.1 2).trans rfl
    have c3_ := (blk_cell HT1.out.1 3).trans rfl
    go_wp2
    have hblk := blk_put (blk_put (blk_put (blk_put HT1.out.2.1 0 (.slice none 0 0) rfl) 1 (.slice none 0 0) rfl) 2 (.int .i64 0) rfl) 3 (.bool false) rfl
    refine bodyPost_ret (results_ct rfl _ _ (w.heap.size + 1) 25 dk0 (0, 0) _ rfl hblk hu rfl (by kernel_rfl)) rfl ?_
    exact ⟨_, _, rfl, Kd.V_nil _ _ _ _ _, Kd.V_nil _ _ _ _ _, below_setCell (below_setCell (below_setCell (below_setCell HT1.out.2.2 (Nat.le_succ _) _ _) (Nat.le_succ _) _ _) (Nat.le_succ _) _ _) (Nat.le_succ _) _ _⟩

theorem copy_blk {P : Program} (w : World) (dT sT ty elem : TypeId) (sz b o dLen dCap : Nat) (a : Addr) (sLen sCap : Nat) (cs : List Value) (cur : Array Value) (t : TypeId)
    (hu : P.underlying dT = some (.slice elem)) (hs : (P.info? elem).map (·.size) = some sz) (hn : cs.length = Nat.min sLen dLen * sz)
    (hsrc : ∀ j v, cs[j]? = some v → w.cell? (a.add j) = some v) (hb : w.heap[b]? = some (.cells cur t (0, 0))) (hf : o + cs.length ≤ cur.size) (h1 : ∀ v ∈ cs, v.oneCell' = true) :
    (Builtin.copy_ #[dT, sT] ty #[.slice (some ⟨b, o, none⟩) dLen dCap, .slice (some a) sLen sCap]).run P w = .ok (goInt (Nat.min sLen dLen)) (w.setCells b o cs) := by
  have hl := run_loadCells_list (P := P) w a cs hsrc
  have hst := run_storeCells_cells (P := P) b o cs 0 w (fun j hj => by rw [Nat.add_zero, blk_cell hb, Array.getElem?_eq_getElem (by omega)]; rfl) (fun j hj => blk_frozen hb _) h1
  cases hq : P.info? elem with
  | none => simp [hq] at hs
  | some i =>
    have hi : i.size = sz := by simpa [hq] using hs
    simp [Builtin.copy_, run_underlying hu, Builtin.lenOf, Builtin.firstCells, sizeOf, typeInfo, hq, hi, ← hn, hl, hst]
theorem copy_none {P : Program} (w : World) (dT sT ty elem : TypeId) (i : TypeInfo) (b o dLen dCap : Nat) (A : Option Addr) (sCap : Nat) (hu : P.underlying dT = some (.slice elem)) (hi : P.info? elem = some i) (hs : i.size = 1) :
    (Builtin.copy_ #[dT, sT] ty #[.slice (some ⟨b, o, none⟩) dLen dCap, .slice A 0 sCap]).run P w = .ok (goInt 0) w := by
  have hst := run_storeCells_cells (P := P) b o [] 0 w (by simp) (by simp) (by simp)
  cases A with
  | none =>
    simp [Builtin.copy_, run_underlying hu, Builtin.lenOf, Builtin.firstCells, sizeOf, typeInfo, hi, hs]
    rw [hst]
    rfl
  | some a =>
    have hl := run_loadCells_list (P := P) w a [] (by simp)
    simp [Builtin.copy_, run_underlying hu, Builtin.lenOf, Builtin.firstCells, sizeOf, typeInfo, hi, hs]
    have hl' : (Sem.run P (loadCells a 0) w) = .ok #[] w := hl
    rw [hl']
    simp
    rw [hst]
    rfl
/-- 'copy' of bytes into the beginning of a block. -/
theorem copy_bytes (w : World) (b o dLen dCap : Nat) (A : Option Addr) (l : List Int) (sCap : Nat) (cur : Array Value) (ty : TypeId) (hC : Kd.C (Kd.int .u8) w A l.length l) (hb : w.heap[b]? = some (.cells cur 5 (0, 0))) (hl : l.length ≤ dLen) (hf : o + l.length ≤ cur.size) :
    (Builtin.copy_ #[35, 35] ty #[.slice (some ⟨b, o, none⟩) dLen dCap, .slice A l.length sCap]).run Try.prog w = .ok (goInt l.length) (w.setCells b o (l.map (Value.int .u8))) := by
  rcases Nat.eq_zero_or_pos l.length with h0 | h0
  · obtain rfl := List.eq_nil_of_length_eq_zero h0
    obtain ⟨i0, hi, hzz⟩ := Option.map_eq_some_iff.1 infB
    simp only [Prod.mk.injEq] at hzz
    exact copy_none w _ _ ty 5 i0 b o dLen dCap A sCap Try.underlying35 hi hzz.2.1
  · obtain ⟨ad, rfl, hc⟩ := hC.2.2 h0
    have := copy_blk (P := Try.prog) w 35 35 ty 5 1 b o dLen dCap ad l.length sCap (l.map (Value.int .u8)) cur 5 Try.underlying35 (by kernel_rfl) (by rw [List.length_map, Nat.mul_one]; exact (Nat.min_eq_left hl).symm)
      (fun j v hj => by
        rw [List.getElem?_map] at hj
        obtain ⟨x, hx, rfl⟩ := Option.map_eq_some_iff.1 hj
        obtain ⟨c, _, hK, hcc⟩ := hc j x hx
        obtain rfl : c = [.int .u8 x] := hK
        have := hcc 0 _ rfl
        rwa [show (Kd.int IntKind.u8).sz = 1 from rfl, Nat.mul_one, Nat.add_zero] at this) hb (by rw [List.length_map]; exact hf) (fun v hv => by
        obtain ⟨x, _, rfl⟩ := List.mem_map.1 hv
        rfl)
    rwa [show Nat.min l.length dLen = l.length from Nat.min_eq_left hl] at this

/-- The cells of a block behind a write. -/
def putL (cs : Array Value) : Nat → List Value → Array Value
  | _, [] => cs
  | o, v :: r => putL (cs.setIfInBounds o v) (o + 1) r
theorem putL_size (vs : List Value) : ∀ (o : Nat) (cs : Array Value), (putL cs o vs).size = cs.size := by
  induction vs with
  | nil => intro o cs; rfl
  | cons v r ih => intro o cs; rw [putL, ih]; simp
theorem setCells_blk {b : Nat} {t : TypeId} : ∀ (vs : List Value) (o : Nat) (w : World) (cs : Array Value), w.heap[b]? = some (.cells cs t (0, 0)) → (w.setCells b o vs).heap[b]? = some (.cells (putL cs o vs) t (0, 0))
  | [], _, _, _, h => h
  | v :: r, o, w, cs, h => by
    rw [World.setCells, putL]
    exact setCells_blk r (o + 1) _ _ (blk_put h o v rfl)
theorem setCells_far {b g : Nat} {t : TypeId} {cs : Array Value} (hne : g ≠ b) : ∀ (vs : List Value) (o : Nat) (w : World), w.heap[g]? = some (.cells cs t (0, 0)) → (w.setCells b o vs).heap[g]? = some (.cells cs t (0, 0))
  | [], _, _, h => h
  | v :: r, o, w, h => by
    rw [World.setCells]
    exact setCells_far hne r (o + 1) _ (blk_far h hne v)
theorem below_setCells {n b : Nat} {w : World} (hb : n ≤ b) : ∀ (vs : List Value) (o : Nat) (W : World), Below n w W → Below n w (W.setCells b o vs)
  | [], _, _, h => h
  | v :: r, o, W, h => by
    rw [World.setCells]
    exact below_setCells hb r (o + 1) _ (below_setCell h hb o v)
theorem putL_get (vs : List Value) : ∀ (o : Nat) (cs : Array Value) (j : Nat), o + vs.length ≤ cs.size → (putL cs o vs)[j]? = if o ≤ j ∧ j < o + vs.length then vs[j - o]? else cs[j]? := by
  induction vs with
  | nil => intro o cs j h; rw [putL, if_neg (by rw [List.length_nil]; omega)]
  | cons v r ih =>
    intro o cs j h
    rw [List.length_cons] at h
    rw [putL, ih (o + 1) (cs.setIfInBounds o v) j (by rw [Array.size_setIfInBounds]; omega), List.length_cons]
    by_cases h1 : j = o
    · subst h1
      rw [if_neg (by omega), if_pos (by omega), Nat.sub_self, List.getElem?_cons_zero, Array.getElem?_setIfInBounds_self_of_lt (by omega)]
    · by_cases h2 : o + 1 ≤ j ∧ j < o + 1 + r.length
      · rw [if_pos h2, if_pos (by omega), show j - o = (j - (o + 1)) + 1 by omega, List.getElem?_cons_succ]
      · rw [if_neg h2, if_neg (by omega), Array.getElem?_setIfInBounds_ne (by omega)]

theorem row_inner {α : Type} {d : Kd α} {W : World} {ok : Nat → Prop} {A : Option Addr} {n : Nat} {xs : List α} (h : Kd.F d W ok A n xs) : ∃ inner, Reps (Kd.FK d W ok) d.sz xs inner ∧ ∀ b, A = some b → ∀ j u, inner[j]? = some u → W.cell? (b.add j) = some u := by
  rcases Nat.eq_zero_or_pos n with h0 | h0
  · obtain rfl : xs = [] := List.eq_nil_of_length_eq_zero ((Kd.F_now h).1.trans h0)
    exact ⟨[], Reps.none _ _, fun b _ j u hj => by simp at hj⟩
  · obtain ⟨ad, rfl, _⟩ := (Kd.F_now h).2.2 h0
    obtain ⟨inner, h1, h2⟩ := ReadsRow.inner_ (Kd.F_rows h)
    exact ⟨inner, h1, fun b hb => by cases hb; exact h2⟩
/-- A row of the call's own, of what leads to blocks of okp. -/
theorem own_N {α : Type} {d : Kd α} {e : Nat} {w : World} {base : Nat} {ok okp : Nat → Prop} {v : Value} {xs : List α} {inner : List Value} (ho : w.ownsRow base e d.sz v xs.length inner) (hr : Reps (Kd.FK d w okp) d.sz xs inner) (hokp : ∀ k, okp k → ok k ∧ some k ≠ v.ownBlock) (hv : ∀ k, v.ownBlock = some k → ok k) : Kd.N d e w base ok v xs :=
  ⟨hv, Kd.chunks d.sz xs.length inner, Kd.chunks_length _ _ _, ⟨fun k hk => hk.symm, inner, by rw [Kd.chunks_length]; exact ho, Kd.reps_raw hr (fun x c hp => ⟨d.K_len (Kd.FK_now hp), d.K_one (Kd.FK_now hp)⟩)⟩, fun j x c hx hc => by
    rw [Kd.chunks_get hc]
    exact Kd.FK_mono (hr.2 j x hx) hokp⟩
theorem clip_ (A : Option Addr) (n c : Nat) (w : World) (hc : n ≤ c) : Calls Try.prog 52 #[.slice A n c] w fun e w' => e = .returned (.slice A n n) ∧ w' = w := by
  have hu := Try.underlying23
  go_enter Try.func52, Try.ntmps52
  go_wp2
  go_ret
  exact ⟨rfl, rfl⟩
/-- A new sector. -/
def z128 : Array Value := madeCells #[.int .u8 0] 128
theorem z128_size : z128.size = 128 := size_madeCells _ _
theorem z128_get (j : Nat) (h : j < 128) : z128[j]? = some (.int .u8 0) := by
  unfold z128 madeCells
  rw [Array.getElem?_map, Array.getElem?_range, if_pos h]
  simp [Nat.mod_one]
theorem make128 (W : World) : (Instr.makeSlice 35 (.int .i64 128) (.int .i64 128)).run Try.prog W = .ok (.slice (some ⟨W.heap.size, 0, none⟩) 128 128) (W.alloc (.cells z128 5)) := by
  obtain ⟨i0, hi, hzz⟩ := Option.map_eq_some_iff.1 infB
  simp only [Prod.mk.injEq] at hzz
  have := run_make (P := Try.prog) W 35 5 i0 _ Try.underlying35 hi hzz.1 .i64 .i64 128 128 (by decide) (by decide) (by rw [hzz.2.2]; decide) (by decide)
  rw [hzz.2.1] at this
  exact this
theorem runs_ok {l0 : List (List Int)} {l1 : List SW} {a : Int} {s : Bool} (h : runsV l0 l1 a s = true) : (1 ≤ l0.length ∧ l0.length ≤ 4096) ∧ l1.length ≤ 4096 ∧ (∀ x ∈ l1, (0 ≤ x.f0 ∧ x.f0 < l0.length) ∧ x.f1.length = 128) ∧ (∀ b ∈ l0, b.length = 128) ∧ (-1 ≤ a ∧ a ≤ 65536) ∧ s = false := by
  unfold runsV at h
  rw [Bool.and_eq_true, decide_eq_true_eq] at h
  obtain ⟨h1, h2⟩ := h
  unfold dchk at h1
  split at h1
  · cases h1
  · split at h1
    · split at h1
      · rename_i ha hb hc
        refine ⟨by omega, by omega, fun x hx => ?_, fun b hb' => ?_, by omega, by simpa using h2⟩
        · have := List.all_eq_true.1 hb x hx
          simp only [okP, okS, Bool.not_eq_true', Bool.or_eq_false_iff, decide_eq_false_iff_not, decide_eq_true_eq, Bool.not_eq_false'] at this
          omega
        · have := List.all_eq_true.1 hc b hb'
          simp only [okS, decide_eq_true_eq] at this
          omega
      · cases h1
    · cases h1
theorem Two.grown {w : World} {a b : Obj} {W V : World} (h : Two w a b W) (hg : W.grownBy V none) : Two w a b V :=
  ⟨(hg.block _ (Array.getElem?_eq_some_iff.1 h.1).1 (by simp)).trans h.1, (hg.block _ (Array.getElem?_eq_some_iff.1 h.2.1).1 (by simp)).trans h.2.1, h.2.2.grown hg (by have := h.lt; omega) (fun k hk => by cases hk)⟩
theorem blk_F {W : World} {g : Nat} {cs : Array Value} {k : IntKind} {t : TypeId} (l : List Int) (hb : W.heap[g]? = some (.cells cs t (0, 0))) (hl : l.length ≤ 9223372036854775807) (hc : ∀ (j : Nat) (p : Int), l[j]? = some p → cs[j]? = some (Value.int k p)) : Kd.F (Kd.int k) W (fun i => i = g) (some ⟨g, 0, none⟩) l.length l := fun W' hW => by
  have hb' : W'.heap[g]? = some (.cells cs t (0, 0)) := (hW g rfl (Array.getElem?_eq_some_iff.1 hb).1).trans hb
  refine ⟨rfl, hl, fun _ => ⟨⟨g, 0, none⟩, rfl, fun j p hj => ⟨[.int k p], rfl, rfl, fun i u hu => ?_⟩⟩⟩
  rcases i with _ | i
  · simp only [List.getElem?_cons_zero, Option.some.injEq] at hu
    subst hu
    rw [Nat.add_zero, show (Kd.int k).sz = 1 from rfl, Nat.mul_one, Addr.add_lit, Nat.zero_add, blk_cell hb' j]
    exact hc j p hj
  · simp at hu
theorem padV_length (b : List Int) (h : b.length ≤ 128) : (padV b).length = 128 := by
  unfold padV
  rw [List.length_append, List.length_replicate]
  omega
theorem pad_cells (b : List Int) (h : b.length ≤ 128) (j : Nat) (p : Int) (hj : (padV b)[j]? = some p) : (putL z128 0 (b.map (Value.int .u8)))[j]? = some (.int .u8 p) := by
  have hlt : j < 128 := by have := (List.getElem?_eq_some_iff.1 hj).1; rwa [padV_length b h] at this
  rw [putL_get _ _ _ _ (by rw [z128_size, List.length_map]; omega), List.length_map]
  unfold padV at hj
  by_cases hb : j < b.length
  · rw [if_pos (by omega), Nat.sub_zero, List.getElem?_map]
    rw [List.getElem?_append_left hb] at hj
    rw [hj]
    rfl
  · rw [if_neg (by omega), z128_get j hlt]
    rw [List.getElem?_append_right (by omega), List.getElem?_replicate, if_pos (by omega)] at hj
    cases hj
    rfl

set_option maxHeartbeats 4000000 in
set_option maxRecDepth 100000 in
theorem write_ok (P : Nat → Prop) (A0 : Option Addr) (c0 : Nat) (l0 : List (List Int)) (A1 : Option Addr) (c1 : Nat) (l1 : List SW) (a : Int) (s : Bool) (i : Int) (A2 : Option Addr) (c2 : Nat) (l2 : List Int) (w : World) (h0 : Kd.V kSec 35 w w.heap.size P (.slice A0 l0.length c0) l0) (h1 : Kd.V kW 76 w w.heap.size P (.slice A1 l1.length c1) l1) (hr2 : Kd.C (Kd.int .u8) w A2 l2.length l2)
    (hr : runsV l0 l1 a s = true) (hi : 0 ≤ i ∧ i < l0.length) (hl : ¬ (l2.length : Int) > 128) (hl1 : l1.length < 4096) :
    Calls Try.prog 26 #[.agg (dkV A0 l0.length c0 A1 l1.length c1 a s), .int .i64 i, .slice A2 l2.length c2] w (DskOut w (fun k => P k ∨ w.heap.size ≤ k) (l0, l1 ++ [⟨i, padV l2⟩], a, s, 0)) := by
  have hu := Try.underlying25
  have HT := Aside0.mk (Two.new w (.cells (dkV A0 l0.length c0 A1 l1.length c1 a s) 25 (0, 0)) (.cells dk0 25 (0, 0)))
  have HR := Aside0.mk (runs_ A0 c0 l0 A1 c1 l1 a s _ (Kd.C_below (Kd.V_reads' h0).2.2 HT.out.2.2) (Kd.V_reads' h0).2.1 (Kd.C_below (Kd.V_reads' h1).2.2 HT.out.2.2) (Kd.V_reads' h1).2.1)
  rw [hr] at HR
  have HH : Aside0 (∀ w, Calls Try.prog 51 #[.agg (dkV A0 l0.length c0 A1 l1.length c1 a s), .int .i64 i] w fun e w' => e = .returned (.bool true) ∧ Below w.heap.size w w') := ⟨fun w => by have := has_ A0 l0.length c0 A1 l1.length c1 a s i w; rwa [decide_eq_true hi.1, decide_eq_true hi.2] at this⟩
  have hE := Aside0.mk (show ((l1.length : Int) == 4096) = false by rw [beq_eq_false_iff_ne]; omega)
  have HV0 := Aside0.mk (Kd.V_bound h0)
  have HV1 := Aside0.mk (Kd.V_bound h1)
  have HC2 := Aside0.mk hr2
  have Hl1 := Aside0.mk hl1
  clear h0 h1 hr2 hr hi hl1
  go_enter Try.func26, Try.ntmps26
  go_wp2_with fail
  refine HR.out.mono ?_
  rintro e w1 ⟨rfl, hb⟩
  have HT1 := Aside0.mk (HT.out.below hb)
  clear hb HR HT
  have c0_ := (blk_cell HT1.out.1 0).trans rfl
  have c1_ := (blk_cell HT1.out.1 1).trans rfl
  have c2_ := (blk_cell HT1.out.1 2).trans rfl
  have c3_ := (blk_cell HT1.out.1 3).trans rfl
  go_wp2_with fail
  refine (HH.out _).mono ?_
  rintro e w2 ⟨rfl, hb⟩
  have HT2 := Aside0.mk (HT1.out.below hb)
  clear hb HT1
  clear c0_ c1_ c2_ c3_
  have c0_ := (blk_cell HT2.out.1 0).trans rfl
  have c1_ := (blk_cell HT2.out.1 1).trans rfl
  have c2_ := (blk_cell HT2.out.1 2).trans rfl
  have c3_ := (blk_cell HT2.out.1 3).trans rfl
  have hE_ := hE.out
  have hmk := make128 w2
  have HT3 := Aside0.mk (HT2.out.alloc (.cells z128 5 (0, 0)))
  have HD := Aside0.mk (heap_at_new w2 (.cells z128 5 (0, 0)) _ rfl)
  have hcp := copy_bytes (w2.alloc (.cells z128 5 (0, 0))) w2.heap.size 0 128 128 A2 l2 c2 z128 3 (Kd.C_below HC2.out HT3.out.2.2) HD.out (by omega) (by rw [z128_size]; omega)
  have HT4 := Aside0.mk (show Two w _ _ ((w2.alloc (.cells z128 5 (0, 0))).setCells w2.heap.size 0 (l2.map (Value.int .u8))) from ⟨setCells_far (by have := HT2.out.lt; omega) _ _ _ HT3.out.1, setCells_far (by have := HT2.out.lt; omega) _ _ _ HT3.out.2.1, below_setCells (by have := HT2.out.lt; omega) _ _ _ HT3.out.2.2⟩)
  have HD4 := Aside0.mk (setCells_blk (l2.map (Value.int .u8)) 0 _ _ HD.out)
  have d0_ := (blk_cell HT4.out.1 0).trans rfl
  have d1_ := (blk_cell HT4.out.1 1).trans rfl
  go_wp2_with fail
  obtain ⟨w3, hw3⟩ : ∃ w3, (w2.alloc (.cells z128 5 (0, 0))).setCells w2.heap.size 0 (l2.map (Value.int .u8)) = w3 := ⟨_, rfl⟩
  have hw3' : (w2.alloc (.cells z128 5)).setCells w2.heap.size 0 (l2.map (Value.int .u8)) = w3 := hw3
  rw [hw3] at HT4 HD4
  try rw [hw3']
  try rw [hw3]
  have hg2 : w.heap.size + 1 < w2.heap.size := HT2.out.lt
  have Hg2 := Aside0.mk hg2
  clear hw3 hw3' hcp hmk HD HT3 HT2 HH HC2 hE hE_ d0_ d1_ hg2 c0_ c1_ c2_ c3_
  have HV3 := Aside0.mk (Kd.V_below HV1.out HT4.out.2.2)
  refine (clW l1 A1 c1 _ w3 HV3.out (by have := Hl1.out; omega)).mono ?_
  rintro e w4 ⟨v', rfl, hN, hb⟩
  obtain ⟨A', c', rfl⟩ := Kd.N_slice hN
  have hcl := clip_ A' l1.length c' w4 (Kd.N_reads' hN).2.1
  have HT5 := Aside0.mk (HT4.out.below hb)
  have HD5 := Aside0.mk (heap_below hb HD4.out)
  have HF := Aside0.mk (Kd.N_F hN)
  have Hg3 := Aside0.mk HT4.out.lt
  have Hg4 := Aside0.mk (Array.getElem?_eq_some_iff.1 HD5.out).1
  clear hb HT4 HD4 hN HV3 HV1
  go_wp2_with fail
  refine hcl.mono ?_
  rintro e w4' ⟨rfl, rfl⟩
  obtain ⟨inner, hi1, hi2⟩ := row_inner HF.out
  have HI1 := Aside0.mk hi1
  have HI2 := Aside0.mk hi2
  have hn0 := Aside0.mk (show A' = none → l1.length = 0 ∧ l1.length = 0 from fun hA => by
    rcases Nat.eq_zero_or_pos l1.length with h | h
    · exact ⟨h, h⟩
    · obtain ⟨ad, e, _⟩ := (Kd.F_now HF.out).2.2 h
      rw [hA] at e; cases e)
  clear hi1 hi2 hcl
  obtain ⟨i0, hi, hzz⟩ := Option.map_eq_some_iff.1 infW
  simp only [Prod.mk.injEq] at hzz
  obtain ⟨hz0, hz1, hz2⟩ := hzz
  have hu23 := Try.underlying23
  have Hnw := Aside0.mk (heap_at_new w4' (.cells #[.int .i64 i, .slice (some ⟨w2.heap.size, 0, none⟩) 128 128] 76 (0, 0)) _ rfl)
  have HT6 := Aside0.mk (HT5.out.alloc (.cells #[.int .i64 i, .slice (some ⟨w2.heap.size, 0, none⟩) 128 128] 76 (0, 0)))
  have HD6 := Aside0.mk (heap_at_old w4' (.cells #[.int .i64 i, .slice (some ⟨w2.heap.size, 0, none⟩) 128 128] 76 (0, 0)) _ _ HD5.out)
  go_wp2_with (at_builtin; refine wpList_append_grows _ rfl _ _ 23 rfl 76 i0 _ 2 32 hu23 hi hz0 hz1 hz2 rfl (by decide) A' l1.length l1.length inner rfl hn0.out HI1.out.1 ?qh ⟨w4'.heap.size, 0, none⟩ 1 1 [.int .i64 i, .slice (some ⟨w2.heap.size, 0, none⟩) 128 128] rfl rfl ?qc ?q1 (Nat.lt_succ_self _) ?qb1 ?qb2 ?_)
  case qh => exact fun b hb j u hj => Lib.cell?_alloc_some _ (HI2.out b hb j u hj)
  case qc =>
    intro j u hj
    rw [Addr.add_lit, Nat.zero_add, blk_cell Hnw.out j]
    simpa using hj
  case q1 =>
    intro u hu_
    simp only [List.mem_cons, List.not_mem_nil, or_false] at hu_
    rcases hu_ with rfl | rfl <;> rfl
  case qb1 => have := Hl1.out; simp only [maxLen]; omega
  case qb2 => have := Hl1.out; omega
  intro v6 w6 hown hgrow
  have HT7 := Aside0.mk (HT6.out.grown hgrow)
  have HD7 := Aside0.mk ((hgrow.block _ (Array.getElem?_eq_some_iff.1 HD6.out).1 (by simp)).trans HD6.out)
  have HI7 := Aside0.mk (HI1.out.imp_ (fun p c hk => Kd.FK_step (Kd.FK_step (Kd.FK_bound hk) (fun k _ hlt => (below_alloc (Below.refl w4'.heap.size w4') (.cells #[.int .i64 i, .slice (some ⟨w2.heap.size, 0, none⟩) 128 128] 76 (0, 0))).block k hlt)) (fun k hk _ => hgrow.block k (Nat.lt_of_lt_of_le hk.2 (by simp)) (by simp))))
  obtain ⟨g6, cap6, cur6, rfl, hg6, hown⟩ : ∃ g cap, ∃ cur : Array Value, v6 = .slice (some ⟨g, 0, none⟩) (l1.length + 1) cap ∧ w4'.heap.size < g ∧ Aside0 (w6.ownsRow (w4'.heap.size + 1) 76 2 v6 (l1.length + 1) (inner ++ [.int .i64 i, .slice (some ⟨w2.heap.size, 0, none⟩) 128 128])) := by
    rcases hown.2 with ⟨_, h2⟩ | ⟨g, cap, cur, h1, h2, _⟩
    · omega
    · have h3 : w4'.heap.size + 1 ≤ g := by simpa using h2
      exact ⟨g, cap, cur, h1, h3, ⟨by simpa using hown⟩⟩
  clear hgrow HT6 HD6 HI1 HI2 HT5 HD5 hn0 Hnw HF
  have c0_ := (blk_cell HT7.out.1 0).trans rfl
  have c1_ := (blk_cell HT7.out.1 1).trans rfl
  have c2_ := (blk_cell HT7.out.1 2).trans rfl
  have c3_ := (blk_cell HT7.out.1 3).trans rfl
  have cf0_ := blk_frozen HT7.out.1 0
  have cf1_ := blk_frozen HT7.out.1 1
  have cf2_ := blk_frozen HT7.out.1 2
  have cf3_ := blk_frozen HT7.out.1 3
  have d0_ := (blk_cell HT7.out.2.1 0).trans rfl
  have d1_ := (blk_cell HT7.out.2.1 1).trans rfl
  have d2_ := (blk_cell HT7.out.2.1 2).trans rfl
  have d3_ := (blk_cell HT7.out.2.1 3).trans rfl
  have df0_ := blk_frozen HT7.out.2.1 0
  have df1_ := blk_frozen HT7.out.2.1 1
  have df2_ := blk_frozen HT7.out.2.1 2
  have df3_ := blk_frozen HT7.out.2.1 3
  go_wp2
  have hblk := blk_put (blk_put (blk_put (blk_put (blk_far (p := ⟨w.heap.size, 1, none⟩) HT7.out.2.1 (show w.heap.size + 1 ≠ w.heap.size by omega) (.slice (some ⟨g6, 0, none⟩) (l1.length + 1) cap6)) 0 (.slice A0 l0.length c0) rfl) 1 (.slice (some ⟨g6, 0, none⟩) (l1.length + 1) cap6) rfl) 2 (.int .i64 a) rfl) 3 (.bool s) rfl
  refine bodyPost_ret (results_ct rfl _ _ (w.heap.size + 1) 25 _ (0, 0) _ rfl hblk hu rfl (by kernel_rfl)) rfl ?_
  have hlt2 : l2.length ≤ 128 := by omega
  have hx : Kd.FK kW w6 (fun k => k = w2.heap.size) ⟨i, padV l2⟩ [.int .i64 i, .slice (some ⟨w2.heap.size, 0, none⟩) 128 128] := by
    have h := k76_mkF w6 (fun k => k = w2.heap.size) ⟨i, padV l2⟩ (A1 := some ⟨w2.heap.size, 0, none⟩) (c1 := 128) (Nat.le_of_eq (padV_length l2 hlt2)) (blk_F (padV l2) HD7.out (by rw [padV_length l2 hlt2]; decide) (fun j p hj => pad_cells l2 hlt2 j p hj))
    rwa [show (⟨i, padV l2⟩ : SW).f1.length = 128 from padV_length l2 hlt2] at h
  have hg2 := Hg2.out
  have hg3 := Hg3.out
  have hg4 := Hg4.out
  have hN : Kd.N kW 76 w6 (w4'.heap.size + 1) (fun k => (P k ∨ w.heap.size ≤ k) ∧ k ≠ w.heap.size ∧ k ≠ w.heap.size + 1) (.slice (some ⟨g6, 0, none⟩) (l1.length + 1) cap6) (l1 ++ [⟨i, padV l2⟩]) := by
    refine own_N (inner := inner ++ [.int .i64 i, .slice (some ⟨w2.heap.size, 0, none⟩) 128 128]) (okp := fun k => ((P k ∧ k < w.heap.size ∨ w3.heap.size ≤ k) ∧ k < w4'.heap.size) ∨ k = w2.heap.size) (by rw [List.length_append]; exact hown.out) (Reps.snoc (HI7.out.imp_ (fun p c hk => Kd.FK_mono hk (fun k h => .inl h))) (Kd.FK_mono hx (fun k h => .inr h)) rfl) ?_ ?_
    · intro k hk
      simp only [Value.ownBlock, ne_eq, Option.some.injEq]
      rcases hk with ⟨⟨h1, h2⟩ | h1, h3⟩ | h1
      · exact ⟨⟨.inl h1, by omega, by omega⟩, by omega⟩
      · exact ⟨⟨.inr (by omega), by omega, by omega⟩, by omega⟩
      · exact ⟨⟨.inr (by omega), by omega, by omega⟩, by omega⟩
    · intro k hk
      simp only [Value.ownBlock, Option.some.injEq] at hk
      exact ⟨.inr (by omega), by omega, by omega⟩
  have hBf := below_setCell (below_setCell (below_setCell (below_setCell (below_setCell HT7.out.2.2 (Nat.le_refl w.heap.size) 1 (.slice (some ⟨g6, 0, none⟩) (l1.length + 1) cap6)) (Nat.le_succ w.heap.size) 0 (.slice A0 l0.length c0)) (Nat.le_succ w.heap.size) 1 (.slice (some ⟨g6, 0, none⟩) (l1.length + 1) cap6)) (Nat.le_succ w.heap.size) 2 (.int .i64 a)) (Nat.le_succ w.heap.size) 3 (.bool s)
  refine ⟨_, _, rfl, Kd.V_mono (Kd.V_below HV0.out hBf) (fun k hk => .inl hk.1), ?_, hBf⟩
  refine Kd.V_mono (Kd.V_far (Kd.V_far (Kd.V_far (Kd.V_far (Kd.V_far (Kd.N_V hN) (fun k hk => hk.2.1) _) (fun k hk => hk.2.2) _) (fun k hk => hk.2.2) _) (fun k hk => hk.2.2) _) (fun k hk => hk.2.2) _) (fun k hk => hk.1)

theorem disk_Write.calls (P0_0_ : Nat → Prop) (A0_0 : Option Addr) (c0_0 : Nat) (l0_0 : List (List Int)) (P0_1_ : Nat → Prop) (A0_1 : Option Addr) (c0_1 : Nat) (l0_1 : List SW) (a0_2 : Int) (a0_3 : Bool) (a1 : Int) (A2 : Option Addr) (c2 : Nat) (l2 : List Int) (r1 : List (List Int)) (r2 : List SW) (r3 : Int) (r4 : Bool) (r5 : Int) (w : World) (hs0_0 : Kd.V kSec 35 w w.heap.size (fun k_ => P0_0_ k_) (.slice A0_0 l0_0.length c0_0) l0_0) (hs0_1 : Kd.V kW 76 w w.heap.size (fun k_ => P0_1_ k_) (.slice A0_1 l0_1.length c0_1) l0_1) (hr2 : Kd.C (Kd.int .u8) w A2 l2.length l2) (hc2 : l2.length ≤ c2) (h : disk_Write.f l0_0 l0_1 a0_2 a0_3 a1 l2 = some (r1, r2, r3, r4, r5)) :
    Calls Try.prog 26 #[.agg #[.slice A0_0 l0_0.length c0_0, .slice A0_1 l0_1.length c0_1, .int .i64 a0_2, .bool a0_3], .int .i64 a1, .slice A2 l2.length c2] w fun e w' => ∃ v0_ v1_ : Value, e = .returned (.tuple #[.agg #[v0_, v1_, .int .i64 r3, .bool r4], .int .i64 r5]) ∧ Kd.V kSec 35 w' w.heap.size (fun k_ => ((P0_0_ k_ ∨ P0_1_ k_) ∨ w.heap.size ≤ k_)) v0_ r1 ∧ Kd.V kW 76 w' w.heap.size (fun k_ => ((P0_0_ k_ ∨ P0_1_ k_) ∨ w.heap.size ≤ k_)) v1_ r2 ∧ Below w.heap.size w w' := by
  have e : writeV l0_0 l0_1 a0_2 a0_3 a1 l2 = (r1, r2, r3, r4, r5) := Option.some.inj h
  show Calls _ _ _ _ (DskOut w (fun k_ => ((P0_0_ k_ ∨ P0_1_ k_) ∨ w.heap.size ≤ k_)) (r1, r2, r3, r4, r5))
  rw [← e]
  unfold writeV
  by_cases h1 : runsV l0_0 l0_1 a0_2 a0_3 = true ∧ 0 ≤ a1 ∧ a1 < l0_0.length
  · rw [if_pos h1]
    by_cases h2 : (l2.length : Int) > 128
    · rw [if_pos h2]
      exact write_no _ A0_0 c0_0 l0_0 A0_1 c0_1 l0_1 a0_2 a0_3 a1 A2 c2 l2.length w 1 (Kd.V_reads' hs0_0).2.2 (Kd.V_reads' hs0_0).2.1 (Kd.V_reads' hs0_1).2.2 (Kd.V_reads' hs0_1).2.1 (.inr (.inl ⟨h1, h2, rfl⟩))
    · rw [if_neg h2]
      by_cases h3 : l0_1.length = 4096
      · rw [if_pos h3]
        exact write_no _ A0_0 c0_0 l0_0 A0_1 c0_1 l0_1 a0_2 a0_3 a1 A2 c2 l2.length w 2 (Kd.V_reads' hs0_0).2.2 (Kd.V_reads' hs0_0).2.1 (Kd.V_reads' hs0_1).2.2 (Kd.V_reads' hs0_1).2.1 (.inr (.inr ⟨h1, h2, h3, rfl⟩))
      · rw [if_neg h3]
        refine write_ok (fun k => P0_0_ k ∨ P0_1_ k) A0_0 c0_0 l0_0 A0_1 c0_1 l0_1 a0_2 a0_3 a1 A2 c2 l2 w (Kd.V_mono hs0_0 (fun k hk => .inl hk)) (Kd.V_mono hs0_1 (fun k hk => .inr hk)) hr2 h1.1 h1.2 h2 ?_
        have := (runs_ok h1.1).2.1
        omega
  · rw [if_neg h1]
    exact write_no _ A0_0 c0_0 l0_0 A0_1 c0_1 l0_1 a0_2 a0_3 a1 A2 c2 l2.length w 40 (Kd.V_reads' hs0_0).2.2 (Kd.V_reads' hs0_0).2.1 (Kd.V_reads' hs0_1).2.2 (Kd.V_reads' hs0_1).2.1 (.inl ⟨h1, rfl⟩)
end Go.Proofs.Ytljmdkeeppikhaa.Q
