/- By hand: what turf.Run computes. -/
import Derived.Test.YthfhjcbgccnijaaRun
import Derived.Maps.OwnIn
namespace Go.Proofs.Ythfhjcbgccnijaa.Q
open Go.RowKit Go.Proofs.YthfhjcbgccnijaaW.PrintWords Go.Proofs.YthfhjcbgccnijaaW.PrintLast Go.Proofs.YthfhjcbgccnijaaW.PrintMore Go.Proofs.Ythfhjcbgccnijaa.Rng
attribute [local go_sem] Oper.semAt_some
attribute [local go_sem] max2_int min2_int max_two min_two
set_option linter.unusedVariables false
set_option linter.unusedSimpArgs false

/-- What Run answers. -/
def errD (bear wear grow uses : Int) (l2 : List S39) (l3 : List Int) (x : Int × Int) (k : Nat) : Int := (days bear wear grow uses l2 l3 x (k + 1)).2.2
def rangesD (bear wear grow uses : Int) (l2 : List S39) (l3 : List Int) (x : Int × Int) (N : Nat) : List S27 :=
  (List.range N).map fun k => ⟨(days bear wear grow uses l2 l3 x (k + 1)).1, (days bear wear grow uses l2 l3 x (k + 1)).2.1⟩
def turf_Run.f (_a0_0 : ByteArray) (_a0_1 : ByteArray) (_a0_2 : Int) (a0_3 : Int) (a0_4 : Int) (a0_5 : Int) (a0_6 : Int) (a1_0 : Int) (a1_1 : Int) (l2 : List S39) (l3 : List Int) : Option (List S27 × Int) :=
  if 512 < l2.length ∨ 512 < l3.length then some ([], 2)
  else if (pitchB a0_3 a0_4 a0_5 a0_6 && (withinB a1_0 a1_1 1000 && decide (l3.length = l2.length))) = true then
    (if (List.range l2.length).all (fun k => decide (errD a0_3 a0_4 a0_5 a0_6 l2 l3 (a1_0, a1_1) k = 0)) = true then some (rangesD a0_3 a0_4 a0_5 a0_6 l2 l3 (a1_0, a1_1) l2.length, 0) else some ([], 280))
  else some ([], 280)

/-- The blocks of Run's parameters and results. -/
def RunIn (w w1 : World) (a0_0 a0_1 : ByteArray) (a0_2 a0_3 a0_4 a0_5 a0_6 a1_0 a1_1 : Int) : Prop :=
  w1.heap[w.heap.size]? = some (.cells #[.string a0_0, .string a0_1, .int .i64 a0_2, .int .i64 a0_3, .int .i64 a0_4, .int .i64 a0_5, .int .i64 a0_6] 25 (0, 0)) ∧
  w1.heap[w.heap.size + 1]? = some (.cells #[.int .i64 a1_0, .int .i64 a1_1] 27 (0, 0)) ∧
  w1.heap[w.heap.size + 2]? = some (.cells #[.slice none 0 0] 46 (0, 0)) ∧
  w1.heap[w.heap.size + 3]? = some (.cells #[.int .i64 0] 33 (0, 0)) ∧ Below w.heap.size w w1
theorem RunIn.below {w w1 w2 : World} {a0_0 a0_1 : ByteArray} {a0_2 a0_3 a0_4 a0_5 a0_6 a1_0 a1_1 : Int} (h : RunIn w w1 a0_0 a0_1 a0_2 a0_3 a0_4 a0_5 a0_6 a1_0 a1_1) (hb : Below w1.heap.size w1 w2) :
    RunIn w w2 a0_0 a0_1 a0_2 a0_3 a0_4 a0_5 a0_6 a1_0 a1_1 :=
  ⟨heap_below hb h.1, heap_below hb h.2.1, heap_below hb h.2.2.1, heap_below hb h.2.2.2.1, below_step h.2.2.2.2 hb⟩

/-- Run's post. -/
def RunOut (w : World) (r1 : List S27) (r2 : Int) (e : Ending) (w' : World) : Prop :=
  ∃ v0_ : Value, e = .returned (.tuple #[v0_, .int .i64 r2]) ∧ Kd.R k27 27 w' w.heap.size (fun _ => True) v0_ r1 ∧ Below w.heap.size w w'

/-- Two results that lie in cells of their own. -/
theorem results_c2 {P : Program} {fn : Func} {p p' : Tmp} {ty ty' : TypeId} (h : fn.results = #[.cell p ty, .cell p' ty']) (tmps : Array Value) (w : World) (a a' : Addr) (v v' : Value) (d d' : TypeDesc)
    (hp : tmps.getD p undef = .pointer (some a)) (hp' : tmps.getD p' undef = .pointer (some a')) (hv : w.cell? a = some v) (hv' : w.cell? a' = some v')
    (hu : P.underlying ty = some d) (hd : (match d with | .struct _ | .array _ _ => false | _ => true) = true) (hu' : P.underlying ty' = some d') (hd' : (match d' with | .struct _ | .array _ _ => false | _ => true) = true) :
    (results fn tmps).run P w = .ok (.tuple #[v, v']) w := by
  have h1 : tmps[p]?.getD undef = .pointer (some a) := by simpa using hp
  have h2 : tmps[p']?.getD undef = .pointer (some a') := by simpa using hp'
  have e1 : (isAgg ty).run P w = .ok false w := by
    simp [isAgg, go_sem, run_underlying hu]
    cases d <;> simp_all
  have e2 : (isAgg ty').run P w = .ok false w := by
    simp [isAgg, go_sem, run_underlying hu']
    cases d' <;> simp_all
  simp [results, h, h1, h2, asAddr, loadVar, go_sem, e1, e2, hv, hv']

theorem RunIn.new (w : World) (a0_0 a0_1 : ByteArray) (a0_2 a0_3 a0_4 a0_5 a0_6 a1_0 a1_1 : Int) : RunIn w ((((w.alloc (.cells #[.string a0_0, .string a0_1, .int .i64 a0_2, .int .i64 a0_3, .int .i64 a0_4, .int .i64 a0_5, .int .i64 a0_6] 25)).alloc (.cells #[.int .i64 a1_0, .int .i64 a1_1] 27)).alloc (.cells #[.slice none 0 0] 46)).alloc (.cells #[.int .i64 0] 33)) a0_0 a0_1 a0_2 a0_3 a0_4 a0_5 a0_6 a1_0 a1_1 :=
  ⟨heap_at_old _ _ _ _ (heap_at_old _ _ _ _ (heap_at_old _ _ _ _ (heap_at_new _ _ _ rfl))), heap_at_old _ _ _ _ (heap_at_old _ _ _ _ (heap_at_new _ _ _ (by simp))), heap_at_old _ _ _ _ (heap_at_new _ _ _ (by simp)), heap_at_new _ _ _ (by simp),
    below_alloc (below_alloc (below_alloc (below_alloc (Below.refl w.heap.size w) _) _) _) _⟩

set_option maxRecDepth 100000 in
set_option maxHeartbeats 4000000 in
theorem run_big (a0_0 : ByteArray) (a0_1 : ByteArray) (a0_2 a0_3 a0_4 a0_5 a0_6 a1_0 a1_1 : Int) (A2 : Option Addr) (c2 n2 : Nat) (A3 : Option Addr) (c3 n3 : Nat) (w : World) (hbig : 512 < n2 ∨ 512 < n3) :
    Calls Try.prog 18 #[.agg #[.string a0_0, .string a0_1, .int .i64 a0_2, .int .i64 a0_3, .int .i64 a0_4, .int .i64 a0_5, .int .i64 a0_6], .agg #[.int .i64 a1_0, .int .i64 a1_1], .slice A2 n2 c2, .slice A3 n3 c3] w (RunOut w [] 2) := by
  have hu := Try.underlying46
  have hu9 := Try.underlying33
  obtain ⟨M, hM, hmx⟩ : ∃ M : Int, (if n2 < n3 then (n3 : Int) else n2) = M ∧ 512 < M := ⟨_, rfl, by split <;> omega⟩
  go_enter Try.func18, Try.ntmps18
  go_upto_region 2 with fail
  have HI := Aside0.mk (RunIn.new w a0_0 a0_1 a0_2 a0_3 a0_4 a0_5 a0_6 a1_0 a1_1)
  generalize (((w.alloc (.cells #[.string a0_0, .string a0_1, .int .i64 a0_2, .int .i64 a0_3, .int .i64 a0_4, .int .i64 a0_5, .int .i64 a0_6] 25)).alloc (.cells #[.int .i64 a1_0, .int .i64 a1_1] 27)).alloc (.cells #[.slice none 0 0] 46)).alloc (.cells #[.int .i64 0] 33) = w1 at HI ⊢
  have c0 := (blk_cell HI.out.2.2.1 0).trans rfl
  have c1 := (blk_cell HI.out.2.2.2.1 0).trans rfl
  have f0 := blk_frozen HI.out.2.2.1 0
  have f1 := blk_frozen HI.out.2.2.2.1 0
  go_wp2
  refine bodyPost_ret (results_c2 rfl _ _ ⟨w.heap.size + 2, 0, none⟩ ⟨w.heap.size + 3, 0, none⟩ (.slice none 0 0) (.int .i64 2) _ _ rfl rfl ((blk_cell (blk_far (blk_put HI.out.2.2.1 0 _ rfl) (by simp) _) 0).trans rfl) ((blk_cell (blk_put (blk_far HI.out.2.2.2.1 (by simp) _) 0 _ rfl) 0).trans rfl) hu rfl hu9 rfl) rfl ?_
  exact ⟨_, rfl, Kd.R_nil _ _ _ _ _, below_set (below_set HI.out.2.2.2.2 (by omega)) (by omega)⟩

set_option maxRecDepth 100000 in
set_option maxHeartbeats 4000000 in
theorem run_no1 (a0_0 : ByteArray) (a0_1 : ByteArray) (a0_2 a0_3 a0_4 a0_5 a0_6 a1_0 a1_1 : Int) (A2 : Option Addr) (c2 n2 : Nat) (A3 : Option Addr) (c3 n3 : Nat) (w : World) (hs : n2 ≤ 512 ∧ n3 ≤ 512) (hC : pitchB a0_3 a0_4 a0_5 a0_6 = false) :
    Calls Try.prog 18 #[.agg #[.string a0_0, .string a0_1, .int .i64 a0_2, .int .i64 a0_3, .int .i64 a0_4, .int .i64 a0_5, .int .i64 a0_6], .agg #[.int .i64 a1_0, .int .i64 a1_1], .slice A2 n2 c2, .slice A3 n3 c3] w (RunOut w [] 280) := by
  have hu := Try.underlying46
  have hu9 := Try.underlying33
  obtain ⟨M, hM, hmx⟩ : ∃ M : Int, (if n2 < n3 then (n3 : Int) else n2) = M ∧ M ≤ 512 := ⟨_, rfl, by split <;> omega⟩
  have hc := check_ a0_0 a0_1 a0_2 a0_3 a0_4 a0_5 a0_6
  rw [hC, if_neg (by decide)] at hc
  have HC := Aside0.mk hc
  clear hc
  clear hC
  go_enter Try.func18, Try.ntmps18
  go_wp2_with fail
  refine (HC.out _).mono ?_
  rintro e w1 ⟨rfl, hb⟩
  have HI := Aside0.mk ((RunIn.new w a0_0 a0_1 a0_2 a0_3 a0_4 a0_5 a0_6 a1_0 a1_1).below hb)
  clear hb
  have c0 := (blk_cell HI.out.2.2.1 0).trans rfl
  have c1 := (blk_cell HI.out.2.2.2.1 0).trans rfl
  have f0 := blk_frozen HI.out.2.2.1 0
  have f1 := blk_frozen HI.out.2.2.2.1 0
  go_wp2
  refine bodyPost_ret (results_c2 rfl _ _ ⟨w.heap.size + 2, 0, none⟩ ⟨w.heap.size + 3, 0, none⟩ (.slice none 0 0) (.int .i64 280) _ _ rfl rfl ((blk_cell (blk_far (blk_put HI.out.2.2.1 0 _ rfl) (by simp) _) 0).trans rfl) ((blk_cell (blk_put (blk_far HI.out.2.2.2.1 (by simp) _) 0 _ rfl) 0).trans rfl) hu rfl hu9 rfl) rfl ?_
  exact ⟨_, rfl, Kd.R_nil _ _ _ _ _, below_set (below_set HI.out.2.2.2.2 (by omega)) (by omega)⟩

set_option maxRecDepth 100000 in
set_option maxHeartbeats 4000000 in
theorem run_no2 (a0_0 : ByteArray) (a0_1 : ByteArray) (a0_2 a0_3 a0_4 a0_5 a0_6 a1_0 a1_1 : Int) (A2 : Option Addr) (c2 n2 : Nat) (A3 : Option Addr) (c3 n3 : Nat) (w : World) (hs : n2 ≤ 512 ∧ n3 ≤ 512) (hC : pitchB a0_3 a0_4 a0_5 a0_6 = true) (hX : withinB a1_0 a1_1 1000 = false) :
    Calls Try.prog 18 #[.agg #[.string a0_0, .string a0_1, .int .i64 a0_2, .int .i64 a0_3, .int .i64 a0_4, .int .i64 a0_5, .int .i64 a0_6], .agg #[.int .i64 a1_0, .int .i64 a1_1], .slice A2 n2 c2, .slice A3 n3 c3] w (RunOut w [] 280) := by
  have hu := Try.underlying46
  have hu9 := Try.underlying33
  obtain ⟨M, hM, hmx⟩ : ∃ M : Int, (if n2 < n3 then (n3 : Int) else n2) = M ∧ M ≤ 512 := ⟨_, rfl, by split <;> omega⟩
  have hc := check_ a0_0 a0_1 a0_2 a0_3 a0_4 a0_5 a0_6
  rw [hC, if_pos rfl] at hc
  have HC := Aside0.mk hc
  clear hc
  have hx := within_ a1_0 a1_1 1000
  rw [hX] at hx
  have HX := Aside0.mk hx
  clear hx
  clear hC hX
  go_enter Try.func18, Try.ntmps18
  go_wp2_with fail
  refine (HC.out _).mono ?_
  rintro e w1 ⟨rfl, hb⟩
  have HI := Aside0.mk ((RunIn.new w a0_0 a0_1 a0_2 a0_3 a0_4 a0_5 a0_6 a1_0 a1_1).below hb)
  clear hb
  have c0 := (blk_cell HI.out.2.1 0).trans rfl
  have c1 := (blk_cell HI.out.2.1 1).trans rfl
  go_wp2_with fail
  refine (HX.out _).mono ?_
  rintro e w2 ⟨rfl, hb⟩
  have HI2 := Aside0.mk (HI.out.below hb)
  clear hb
  clear c0 c1
  have c0 := (blk_cell HI2.out.2.2.1 0).trans rfl
  have c1 := (blk_cell HI2.out.2.2.2.1 0).trans rfl
  have f0 := blk_frozen HI2.out.2.2.1 0
  have f1 := blk_frozen HI2.out.2.2.2.1 0
  go_wp2
  refine bodyPost_ret (results_c2 rfl _ _ ⟨w.heap.size + 2, 0, none⟩ ⟨w.heap.size + 3, 0, none⟩ (.slice none 0 0) (.int .i64 280) _ _ rfl rfl ((blk_cell (blk_far (blk_put HI2.out.2.2.1 0 _ rfl) (by simp) _) 0).trans rfl) ((blk_cell (blk_put (blk_far HI2.out.2.2.2.1 (by simp) _) 0 _ rfl) 0).trans rfl) hu rfl hu9 rfl) rfl ?_
  exact ⟨_, rfl, Kd.R_nil _ _ _ _ _, below_set (below_set HI2.out.2.2.2.2 (by omega)) (by omega)⟩

set_option maxRecDepth 100000 in
set_option maxHeartbeats 4000000 in
theorem run_no3 (a0_0 : ByteArray) (a0_1 : ByteArray) (a0_2 a0_3 a0_4 a0_5 a0_6 a1_0 a1_1 : Int) (A2 : Option Addr) (c2 n2 : Nat) (A3 : Option Addr) (c3 n3 : Nat) (w : World) (hs : n2 ≤ 512 ∧ n3 ≤ 512) (hC : pitchB a0_3 a0_4 a0_5 a0_6 = true) (hX : withinB a1_0 a1_1 1000 = true) (hL : ¬ (n3 = n2)) :
    Calls Try.prog 18 #[.agg #[.string a0_0, .string a0_1, .int .i64 a0_2, .int .i64 a0_3, .int .i64 a0_4, .int .i64 a0_5, .int .i64 a0_6], .agg #[.int .i64 a1_0, .int .i64 a1_1], .slice A2 n2 c2, .slice A3 n3 c3] w (RunOut w [] 280) := by
  have hu := Try.underlying46
  have hu9 := Try.underlying33
  obtain ⟨M, hM, hmx⟩ : ∃ M : Int, (if n2 < n3 then (n3 : Int) else n2) = M ∧ M ≤ 512 := ⟨_, rfl, by split <;> omega⟩
  have hl1 : ((n2 : Int) != n3) = true := bne_iff_ne.mpr (by omega)
  have hl2 : (n2 == n3) = false := beq_eq_false_iff_ne.mpr (by omega)
  have hl3 : ¬ (n2 = n3) := by omega
  have hc := check_ a0_0 a0_1 a0_2 a0_3 a0_4 a0_5 a0_6
  rw [hC, if_pos rfl] at hc
  have HC := Aside0.mk hc
  clear hc
  have hx := within_ a1_0 a1_1 1000
  rw [hX] at hx
  have HX := Aside0.mk hx
  clear hx
  clear hC hX
  go_enter Try.func18, Try.ntmps18
  go_wp2_with fail
  refine (HC.out _).mono ?_
  rintro e w1 ⟨rfl, hb⟩
  have HI := Aside0.mk ((RunIn.new w a0_0 a0_1 a0_2 a0_3 a0_4 a0_5 a0_6 a1_0 a1_1).below hb)
  clear hb
  have c0 := (blk_cell HI.out.2.1 0).trans rfl
  have c1 := (blk_cell HI.out.2.1 1).trans rfl
  go_wp2_with fail
  refine (HX.out _).mono ?_
  rintro e w2 ⟨rfl, hb⟩
  have HI2 := Aside0.mk (HI.out.below hb)
  clear hb
  clear c0 c1
  have c0 := (blk_cell HI2.out.2.2.1 0).trans rfl
  have c1 := (blk_cell HI2.out.2.2.2.1 0).trans rfl
  have f0 := blk_frozen HI2.out.2.2.1 0
  have f1 := blk_frozen HI2.out.2.2.2.1 0
  go_wp2
  refine bodyPost_ret (results_c2 rfl _ _ ⟨w.heap.size + 2, 0, none⟩ ⟨w.heap.size + 3, 0, none⟩ (.slice none 0 0) (.int .i64 280) _ _ rfl rfl ((blk_cell (blk_far (blk_put HI2.out.2.2.1 0 _ rfl) (by simp) _) 0).trans rfl) ((blk_cell (blk_put (blk_far HI2.out.2.2.2.1 (by simp) _) 0 _ rfl) 0).trans rfl) hu rfl hu9 rfl) rfl ?_
  exact ⟨_, rfl, Kd.R_nil _ _ _ _ _, below_set (below_set HI2.out.2.2.2.2 (by omega)) (by omega)⟩

end Go.Proofs.Ythfhjcbgccnijaa.Q
