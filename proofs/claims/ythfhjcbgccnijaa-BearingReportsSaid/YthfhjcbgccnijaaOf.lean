/- By hand: what weather.Of computes. -/
import Derived.Test.YthfhjcbgccnijaaChk
import Derived.Test.YthfhjcbgccnijaaQsky
import Derived.Deep.RegionHeld3
namespace Go.Proofs.Ythfhjcbgccnijaa.Q
open Go.RowKit Go.Proofs.YthfhjcbgccnijaaW.PrintWords Go.Proofs.YthfhjcbgccnijaaW.PrintLast Go.Proofs.YthfhjcbgccnijaaW.PrintMore Go.Proofs.Ythfhjcbgccnijaa.Rng
attribute [local go_sem] Oper.semAt_some
attribute [local go_sem] max2_int min2_int max_two min_two
set_option linter.unusedVariables false
set_option linter.unusedSimpArgs false

/-- Are the ground, the day and the moment right? -/
def argsB (a1 a2 a3 : Int) : Bool := [a1].all (okw 63) && ([a2].all (okw 73048) && [a3].all (okw 134217727))
def weather_Of.f (l0 : List S41) (a1 : Int) (a2 : Int) (a3 : Int) : Option (Int × Int × Int × Int × Int × Int) :=
  if chkV l0 = 0 then
    (if argsB a1 a2 a3 = true then some ((skyV 200 ((says a1 a2 a3 l0).map rng_rain)).1, (skyV 200 ((says a1 a2 a3 l0).map rng_rain)).2, (skyV 40 ((says a1 a2 a3 l0).map rng_frost)).1, (skyV 40 ((says a1 a2 a3 l0).map rng_frost)).2, ((says a1 a2 a3 l0).length : Int), 0)
    else some (0, 0, 0, 0, 0, 1))
  else some (0, 0, 0, 0, 0, chkV l0)

/-- Of's post. -/
def OfOut (w : World) (r1 r2 r3 r4 r5 r6 : Int) (e : Ending) (w' : World) : Prop := e = .returned (.tuple #[.agg #[.int .i64 r1, .int .i64 r2, .int .i64 r3, .int .i64 r4], .int .i64 r5, .int .i64 r6]) ∧ Below w.heap.size w w'
/-- Of's result boxes. -/
def OfIn (w : World) (n : Int) (W : World) : Prop := Below w.heap.size w W ∧ W.heap[w.heap.size]? = some (.cells #[.int .i64 0, .int .i64 0, .int .i64 0, .int .i64 0] 39 (0, 0)) ∧ W.heap[w.heap.size + 1]? = some (.cells #[.int .i64 n] 3 (0, 0))
theorem OfIn.below {w : World} {n : Int} {W V : World} (h : OfIn w n W) (hb : Below W.heap.size W V) : OfIn w n V := ⟨below_step h.1 hb, heap_below hb h.2.1, heap_below hb h.2.2⟩
theorem OfIn.new (w : World) : OfIn w 0 ((w.alloc (.cells #[.int .i64 0, .int .i64 0, .int .i64 0, .int .i64 0] 39 (0, 0))).alloc (.cells #[.int .i64 0] 3 (0, 0))) :=
  ⟨below_alloc (below_alloc (Below.refl w.heap.size w) _) _, heap_at_old _ _ _ _ (heap_at_new _ _ _ rfl), heap_at_new _ _ _ (by simp)⟩

/-- A result of a struct in a box, one number in a box, one number. -/
theorem results_cct {P : Program} {fn : Func} {p p' u : Tmp} {ty ty' : TypeId} (h : fn.results = #[.cell p ty, .cell p' ty', .tmp u]) (tmps : Array Value) (w : World) (g : Nat) (t : TypeId) (cs : Array Value) (fr : Nat × Nat) (d : TypeDesc) (a' : Addr) (v' : Value) (d' : TypeDesc)
    (hp : tmps.getD p undef = .pointer (some ⟨g, 0, none⟩)) (hg : w.heap[g]? = some (.cells cs t fr)) (hu : P.underlying ty = some d) (hd : (match d with | .struct _ | .array _ _ => true | _ => false) = true) (hi : (P.info? ty).map (·.size) = some cs.size)
    (hp' : tmps.getD p' undef = .pointer (some a')) (hv' : w.cell? a' = some v') (hu' : P.underlying ty' = some d') (hd' : (match d' with | .struct _ | .array _ _ => false | _ => true) = true) :
    (results fn tmps).run P w = .ok (.tuple #[.agg cs, v', tmps.getD u undef]) w := by
  have h1 : tmps[p]?.getD undef = .pointer (some ⟨g, 0, none⟩) := by simpa using hp
  have h2 : tmps[p']?.getD undef = .pointer (some a') := by simpa using hp'
  have e2 : (isAgg ty').run P w = .ok false w := by
    simp [isAgg, go_sem, run_underlying hu']
    cases d' <;> simp_all
  have e1 := run_loadVar_row w g t ty cs fr d hg hu hd hi
  have e3 : (loadVar ty' a').run P w = .ok v' w := by simp [loadVar, go_sem, e2, hv']
  simp [results, h, h1, h2, asAddr, e1, e3]

/-- Of's results laid. -/
def OfFin (w : World) (r1 r2 r3 r4 r5 : Int) (W : World) : Prop := Below w.heap.size w W ∧ W.heap[w.heap.size]? = some (.cells #[.int .i64 r1, .int .i64 r2, .int .i64 r3, .int .i64 r4] 39 (0, 0)) ∧ W.heap[w.heap.size + 1]? = some (.cells #[.int .i64 r5] 3 (0, 0))
theorem OfIn.stores {w : World} {n : Int} {W : World} (h : OfIn w n W) (r1 r2 r3 r4 r5 : Int) :
    OfFin w r1 r2 r3 r4 r5 (((((W.setCell ⟨w.heap.size, 0, none⟩ (.int .i64 r1)).setCell ⟨w.heap.size, 1, none⟩ (.int .i64 r2)).setCell ⟨w.heap.size, 2, none⟩ (.int .i64 r3)).setCell ⟨w.heap.size, 3, none⟩ (.int .i64 r4)).setCell ⟨w.heap.size + 1, 0, none⟩ (.int .i64 r5)) :=
  ⟨below_set (below_set (below_set (below_set (below_set h.1 (Nat.le_refl _)) (Nat.le_refl _)) (Nat.le_refl _)) (Nat.le_refl _)) (by simp <;> omega),
    blk_far (blk_put (blk_put (blk_put (blk_put h.2.1 0 _ rfl) 1 _ rfl) 2 _ rfl) 3 _ rfl) (by simp <;> omega) _,
    blk_put (blk_far (blk_far (blk_far (blk_far h.2.2 (by simp <;> omega) _) (by simp <;> omega) _) (by simp <;> omega) _) (by simp <;> omega) _) 0 _ rfl⟩

set_option maxRecDepth 100000 in
set_option maxHeartbeats 4000000 in
theorem of_no (A0 : Option Addr) (cp : Nat) (l0 : List S41) (a1 a2 a3 : Int) (w : World) (hr0 : Kd.C k41 w A0 l0.length l0) (hc0 : l0.length ≤ cp) (hk : chkV l0 ≠ 0) :
    Calls Try.prog 15 #[.slice A0 l0.length cp, .int .i64 a1, .int .i64 a2, .int .i64 a3] w (OfOut w 0 0 0 0 0 (chkV l0)) := by
  have hu := Try.underlying39
  have hu3 := Try.underlying3
  have HC := Aside0.mk (fun W hb => chk_calls A0 cp l0 W (Kd.C_below hr0 hb) hc0)
  clear hr0
  generalize chkV l0 = x at HC hk ⊢
  have hx : (x != 0) = true := bne_iff_ne.mpr hk
  clear hk
  go_enter Try.func15, Try.ntmps15
  go_wp2_with fail
  refine (HC.out _ (OfIn.new w).1).mono ?_
  rintro e w1 ⟨rfl, hb⟩
  have HI := Aside0.mk ((OfIn.new w).below hb)
  clear hb
  have c0 := (blk_cell HI.out.2.1 0).trans rfl
  have c1 := (blk_cell HI.out.2.1 1).trans rfl
  have c2 := (blk_cell HI.out.2.1 2).trans rfl
  have c3 := (blk_cell HI.out.2.1 3).trans rfl
  have d0 := (blk_cell HI.out.2.2 0).trans rfl
  have f0 := blk_frozen HI.out.2.1 0
  have f1 := blk_frozen HI.out.2.1 1
  have f2 := blk_frozen HI.out.2.1 2
  have f3 := blk_frozen HI.out.2.1 3
  have g0 := blk_frozen HI.out.2.2 0
  go_wp2
  have HF := HI.out.stores 0 0 0 0 0
  refine bodyPost_ret (results_cct rfl _ _ w.heap.size 39 _ (0, 0) _ ⟨w.heap.size + 1, 0, none⟩ _ _ rfl HF.2.1 hu rfl (by kernel_rfl) rfl ((blk_cell HF.2.2 0).trans rfl) hu3 rfl) rfl ?_
  exact ⟨rfl, HF.1⟩

set_option maxRecDepth 100000 in
set_option maxHeartbeats 4000000 in
theorem of_arg1 (A0 : Option Addr) (cp : Nat) (l0 : List S41) (a1 a2 a3 : Int) (w : World) (hr0 : Kd.C k41 w A0 l0.length l0) (hc0 : l0.length ≤ cp) (hk : chkV l0 = 0) (hb1_ : [a1].all (okw 63) = false) :
    Calls Try.prog 15 #[.slice A0 l0.length cp, .int .i64 a1, .int .i64 a2, .int .i64 a3] w (OfOut w 0 0 0 0 0 1) := by
  have hu := Try.underlying39
  have hu3 := Try.underlying3
  have HC := Aside0.mk (fun W hb => chk_calls A0 cp l0 W (Kd.C_below hr0 hb) hc0)
  clear hr0
  rw [hk] at HC
  have hb1 := Aside0.mk hb1_
  clear hk hb1_
  go_enter Try.func15, Try.ntmps15
  go_wp2_with fail
  refine (HC.out _ (OfIn.new w).1).mono ?_
  rintro e w1 ⟨rfl, hb⟩
  have HI := Aside0.mk ((OfIn.new w).below hb)
  clear hb
  go_wp2_with fail
  refine (win0 63 _).mono ?_
  rintro e wq ⟨rfl, rfl⟩
  go_wp2_with fail
  refine (win1 63 _ [a1] _ _ _ (heap_at_old _ _ _ _ (heap_at_new _ _ _ rfl)) (C_block [a1] (heap_at_new _ _ _ (by simp)) rfl (by simp)) (by simp)).mono ?_
  rintro e wq ⟨rfl, rfl⟩
  rw [hb1.out]
  simp only [List.map_cons, List.map_nil]
  have HJ1 := Aside0.mk (HI.out.below (below_alloc (below_alloc (Below.refl _ _) (.cells #[.int .i64 63] 3 (0, 0))) (.cells #[.int .i64 a1] 3 (0, 0))))
  clear HI
  have HI := HJ1
  clear HJ1
  obtain ⟨w2, hw2⟩ : ∃ w2, (w1.alloc (.cells #[.int .i64 63] 3 (0, 0))).alloc (.cells #[.int .i64 a1] 3 (0, 0)) = w2 := ⟨_, rfl⟩
  rw [hw2] at HI ⊢
  clear hw2
  have c0 := (blk_cell HI.out.2.1 0).trans rfl
  have c1 := (blk_cell HI.out.2.1 1).trans rfl
  have c2 := (blk_cell HI.out.2.1 2).trans rfl
  have c3 := (blk_cell HI.out.2.1 3).trans rfl
  have d0 := (blk_cell HI.out.2.2 0).trans rfl
  have f0 := blk_frozen HI.out.2.1 0
  have f1 := blk_frozen HI.out.2.1 1
  have f2 := blk_frozen HI.out.2.1 2
  have f3 := blk_frozen HI.out.2.1 3
  have g0 := blk_frozen HI.out.2.2 0
  go_wp2
  have HF := HI.out.stores 0 0 0 0 0
  refine bodyPost_ret (results_cct rfl _ _ w.heap.size 39 _ (0, 0) _ ⟨w.heap.size + 1, 0, none⟩ _ _ rfl HF.2.1 hu rfl (by kernel_rfl) rfl ((blk_cell HF.2.2 0).trans rfl) hu3 rfl) rfl ?_
  exact ⟨rfl, HF.1⟩

set_option maxRecDepth 100000 in
set_option maxHeartbeats 4000000 in
theorem of_arg2 (A0 : Option Addr) (cp : Nat) (l0 : List S41) (a1 a2 a3 : Int) (w : World) (hr0 : Kd.C k41 w A0 l0.length l0) (hc0 : l0.length ≤ cp) (hk : chkV l0 = 0) (hb1_ : [a1].all (okw 63) = true) (hb2_ : [a2].all (okw 73048) = false) :
    Calls Try.prog 15 #[.slice A0 l0.length cp, .int .i64 a1, .int .i64 a2, .int .i64 a3] w (OfOut w 0 0 0 0 0 1) := by
  have hu := Try.underlying39
  have hu3 := Try.underlying3
  have HC := Aside0.mk (fun W hb => chk_calls A0 cp l0 W (Kd.C_below hr0 hb) hc0)
  clear hr0
  rw [hk] at HC
  have hb1 := Aside0.mk hb1_
  have hb2 := Aside0.mk hb2_
  clear hk hb1_ hb2_
  go_enter Try.func15, Try.ntmps15
  go_wp2_with fail
  refine (HC.out _ (OfIn.new w).1).mono ?_
  rintro e w1 ⟨rfl, hb⟩
  have HI := Aside0.mk ((OfIn.new w).below hb)
  clear hb
  go_wp2_with fail
  refine (win0 63 _).mono ?_
  rintro e wq ⟨rfl, rfl⟩
  go_wp2_with fail
  refine (win1 63 _ [a1] _ _ _ (heap_at_old _ _ _ _ (heap_at_new _ _ _ rfl)) (C_block [a1] (heap_at_new _ _ _ (by simp)) rfl (by simp)) (by simp)).mono ?_
  rintro e wq ⟨rfl, rfl⟩
  rw [hb1.out]
  simp only [List.map_cons, List.map_nil]
  have HJ1 := Aside0.mk (HI.out.below (below_alloc (below_alloc (Below.refl _ _) (.cells #[.int .i64 63] 3 (0, 0))) (.cells #[.int .i64 a1] 3 (0, 0))))
  clear HI
  have HI := HJ1
  clear HJ1
  obtain ⟨w2, hw2⟩ : ∃ w2, (w1.alloc (.cells #[.int .i64 63] 3 (0, 0))).alloc (.cells #[.int .i64 a1] 3 (0, 0)) = w2 := ⟨_, rfl⟩
  rw [hw2] at HI ⊢
  clear hw2
  go_wp2_with fail
  refine (win0 73048 _).mono ?_
  rintro e wq ⟨rfl, rfl⟩
  go_wp2_with fail
  refine (win1 73048 _ [a2] _ _ _ (heap_at_old _ _ _ _ (heap_at_new _ _ _ rfl)) (C_block [a2] (heap_at_new _ _ _ (by simp)) rfl (by simp)) (by simp)).mono ?_
  rintro e wq ⟨rfl, rfl⟩
  rw [hb2.out]
  simp only [List.map_cons, List.map_nil]
  have HJ2 := Aside0.mk (HI.out.below (below_alloc (below_alloc (Below.refl _ _) (.cells #[.int .i64 73048] 3 (0, 0))) (.cells #[.int .i64 a2] 3 (0, 0))))
  clear HI
  have HI := HJ2
  clear HJ2
  obtain ⟨w3, hw3⟩ : ∃ w3, (w2.alloc (.cells #[.int .i64 73048] 3 (0, 0))).alloc (.cells #[.int .i64 a2] 3 (0, 0)) = w3 := ⟨_, rfl⟩
  rw [hw3] at HI ⊢
  clear hw3
  have c0 := (blk_cell HI.out.2.1 0).trans rfl
  have c1 := (blk_cell HI.out.2.1 1).trans rfl
  have c2 := (blk_cell HI.out.2.1 2).trans rfl
  have c3 := (blk_cell HI.out.2.1 3).trans rfl
  have d0 := (blk_cell HI.out.2.2 0).trans rfl
  have f0 := blk_frozen HI.out.2.1 0
  have f1 := blk_frozen HI.out.2.1 1
  have f2 := blk_frozen HI.out.2.1 2
  have f3 := blk_frozen HI.out.2.1 3
  have g0 := blk_frozen HI.out.2.2 0
  go_wp2
  have HF := HI.out.stores 0 0 0 0 0
  refine bodyPost_ret (results_cct rfl _ _ w.heap.size 39 _ (0, 0) _ ⟨w.heap.size + 1, 0, none⟩ _ _ rfl HF.2.1 hu rfl (by kernel_rfl) rfl ((blk_cell HF.2.2 0).trans rfl) hu3 rfl) rfl ?_
  exact ⟨rfl, HF.1⟩

set_option maxRecDepth 100000 in
set_option maxHeartbeats 4000000 in
theorem of_arg3 (A0 : Option Addr) (cp : Nat) (l0 : List S41) (a1 a2 a3 : Int) (w : World) (hr0 : Kd.C k41 w A0 l0.length l0) (hc0 : l0.length ≤ cp) (hk : chkV l0 = 0) (hb1_ : [a1].all (okw 63) = true) (hb2_ : [a2].all (okw 73048) = true) (hb3_ : [a3].all (okw 134217727) = false) :
    Calls Try.prog 15 #[.slice A0 l0.length cp, .int .i64 a1, .int .i64 a2, .int .i64 a3] w (OfOut w 0 0 0 0 0 1) := by
  have hu := Try.underlying39
  have hu3 := Try.underlying3
  have HC := Aside0.mk (fun W hb => chk_calls A0 cp l0 W (Kd.C_below hr0 hb) hc0)
  clear hr0
  rw [hk] at HC
  have hb1 := Aside0.mk hb1_
  have hb2 := Aside0.mk hb2_
  have hb3 := Aside0.mk hb3_
  clear hk hb1_ hb2_ hb3_
  go_enter Try.func15, Try.ntmps15
  go_wp2_with fail
  refine (HC.out _ (OfIn.new w).1).mono ?_
  rintro e w1 ⟨rfl, hb⟩
  have HI := Aside0.mk ((OfIn.new w).below hb)
  clear hb
  go_wp2_with fail
  refine (win0 63 _).mono ?_
  rintro e wq ⟨rfl, rfl⟩
  go_wp2_with fail
  refine (win1 63 _ [a1] _ _ _ (heap_at_old _ _ _ _ (heap_at_new _ _ _ rfl)) (C_block [a1] (heap_at_new _ _ _ (by simp)) rfl (by simp)) (by simp)).mono ?_
  rintro e wq ⟨rfl, rfl⟩
  rw [hb1.out]
  simp only [List.map_cons, List.map_nil]
  have HJ1 := Aside0.mk (HI.out.below (below_alloc (below_alloc (Below.refl _ _) (.cells #[.int .i64 63] 3 (0, 0))) (.cells #[.int .i64 a1] 3 (0, 0))))
  clear HI
  have HI := HJ1
  clear HJ1
  obtain ⟨w2, hw2⟩ : ∃ w2, (w1.alloc (.cells #[.int .i64 63] 3 (0, 0))).alloc (.cells #[.int .i64 a1] 3 (0, 0)) = w2 := ⟨_, rfl⟩
  rw [hw2] at HI ⊢
  clear hw2
  go_wp2_with fail
  refine (win0 73048 _).mono ?_
  rintro e wq ⟨rfl, rfl⟩
  go_wp2_with fail
  refine (win1 73048 _ [a2] _ _ _ (heap_at_old _ _ _ _ (heap_at_new _ _ _ rfl)) (C_block [a2] (heap_at_new _ _ _ (by simp)) rfl (by simp)) (by simp)).mono ?_
  rintro e wq ⟨rfl, rfl⟩
  rw [hb2.out]
  simp only [List.map_cons, List.map_nil]
  have HJ2 := Aside0.mk (HI.out.below (below_alloc (below_alloc (Below.refl _ _) (.cells #[.int .i64 73048] 3 (0, 0))) (.cells #[.int .i64 a2] 3 (0, 0))))
  clear HI
  have HI := HJ2
  clear HJ2
  obtain ⟨w3, hw3⟩ : ∃ w3, (w2.alloc (.cells #[.int .i64 73048] 3 (0, 0))).alloc (.cells #[.int .i64 a2] 3 (0, 0)) = w3 := ⟨_, rfl⟩
  rw [hw3] at HI ⊢
  clear hw3
  go_wp2_with fail
  refine (win0 134217727 _).mono ?_
  rintro e wq ⟨rfl, rfl⟩
  go_wp2_with fail
  refine (win1 134217727 _ [a3] _ _ _ (heap_at_old _ _ _ _ (heap_at_new _ _ _ rfl)) (C_block [a3] (heap_at_new _ _ _ (by simp)) rfl (by simp)) (by simp)).mono ?_
  rintro e wq ⟨rfl, rfl⟩
  rw [hb3.out]
  simp only [List.map_cons, List.map_nil]
  have HJ3 := Aside0.mk (HI.out.below (below_alloc (below_alloc (Below.refl _ _) (.cells #[.int .i64 134217727] 3 (0, 0))) (.cells #[.int .i64 a3] 3 (0, 0))))
  clear HI
  have HI := HJ3
  clear HJ3
  obtain ⟨w4, hw4⟩ : ∃ w4, (w3.alloc (.cells #[.int .i64 134217727] 3 (0, 0))).alloc (.cells #[.int .i64 a3] 3 (0, 0)) = w4 := ⟨_, rfl⟩
  rw [hw4] at HI ⊢
  clear hw4
  have c0 := (blk_cell HI.out.2.1 0).trans rfl
  have c1 := (blk_cell HI.out.2.1 1).trans rfl
  have c2 := (blk_cell HI.out.2.1 2).trans rfl
  have c3 := (blk_cell HI.out.2.1 3).trans rfl
  have d0 := (blk_cell HI.out.2.2 0).trans rfl
  have f0 := blk_frozen HI.out.2.1 0
  have f1 := blk_frozen HI.out.2.1 1
  have f2 := blk_frozen HI.out.2.1 2
  have f3 := blk_frozen HI.out.2.1 3
  have g0 := blk_frozen HI.out.2.2 0
  go_wp2
  have HF := HI.out.stores 0 0 0 0 0
  refine bodyPost_ret (results_cct rfl _ _ w.heap.size 39 _ (0, 0) _ ⟨w.heap.size + 1, 0, none⟩ _ _ rfl HF.2.1 hu rfl (by kernel_rfl) rfl ((blk_cell HF.2.2 0).trans rfl) hu3 rfl) rfl ?_
  exact ⟨rfl, HF.1⟩

theorem said0 (A : Option Addr) (n c : Nat) (a1 a2 a3 : Int) (w : World) :
    Calls Try.prog 36 #[.slice A n c, .int .i64 a1, .int .i64 a2, .int .i64 a3] w fun e w' => e = .returned (.func (.func 70) #[] #[.pointer (some ⟨w.heap.size, 0, none⟩), .pointer (some ⟨w.heap.size + 1, 0, none⟩), .pointer (some ⟨w.heap.size + 2, 0, none⟩), .pointer (some ⟨w.heap.size + 3, 0, none⟩)]) ∧
      w' = (((w.alloc (.cells #[.slice A n c] 29 (0, 0))).alloc (.cells #[.int .i64 a1] 3 (0, 0))).alloc (.cells #[.int .i64 a2] 3 (0, 0))).alloc (.cells #[.int .i64 a3] 3 (0, 0)) := by
  go_enter Try.func36, Try.ntmps36
  go_wp2
  go_ret
  exact ⟨rfl, rfl⟩

/-- The loop's law where the statement names no variable. -/
theorem range_skip {P : Program} {n : Nat} {g : Operand} {p : Tmp} {body : Code} {Q : Exit → Act → World → Prop} {a : Act} {w : World}
    {gf : Nat} {lb : Array Value} (hg : a.eval g = .func (.func gf) #[] lb) (eg : ∀ args w, (callFunc gf args).run P w = .ok (.enter gf args) w)
    {enc : Nat → Value} {N : Nat} {U S : Nat → Prop} {Pre : World → Prop} (hit : Iter P gf lb (fun k => #[enc k]) N U S Pre)
    (hU : ∀ j, w.heap.size ≤ j → U j) (hS : ∀ k, S k → k < w.heap.size) (hpre : ∀ o1 o2, Pre ((w.alloc o1).alloc o2))
    (I : Nat → World → Prop) (hI : ∀ k A B, I k A → St S A B → I k B)
    (hIb : ∀ k A q o o', I k A → w.heap.size ≤ q → A.heap[q]? = some o → o.isCells = false → I k (A.putObj q o'))
    (h0 : ∀ o1 o2, I 0 ((w.alloc o1).alloc o2))
    (hbody : ∀ l k W, k < N → I k W → body.wpIn (Fence.wide.inRound l) (n - 1 - 1) P (bodyEnd U I (fun _ _ => False) k W) { tmps := a.tmps.setIfInBounds p (enc k), defers := [] } W)
    (hdone : ∀ D W, w.heap.size ≤ D → I N W → W.heap[D]? = some (.deferred (some [])) → Q .normal { a with defers := { target := .collected D, args := #[] } :: a.defers } W) :
    (Code.rangeFunc g #[p] Code.skip body).wpIn Fence.wide n P Q a w :=
  range_law hg eg hit (fun _ => rfl) hU hS hpre I (fun _ _ => False) hI (fun _ _ _ h _ => h) hIb (fun _ _ _ _ _ h _ _ _ => h) h0
    (fun k b W => I k W ∧ b = { tmps := a.tmps.setIfInBounds p (enc k), defers := [] }) (fun k b A q o o' h hq hA hc => ⟨hIb _ _ _ _ _ h.1 hq hA hc, h.2⟩)
    (fun l k W hk hI' => wpIn_skip ⟨KeepsOthers.refl _, St.refl _ _, hI', by simp⟩) (fun l k b W hk h => by rw [h.2]; exact hbody l k W hk h.1) hdone (fun _ _ _ _ _ h _ => h.elim)

theorem SaidPre.st {w : World} {A : Option Addr} {n c bs bg bd bt : Nat} {g d t : Int} {W V : World} (h : SaidPre w A n c bs bg bd bt g d t W) (hs : St (fun _ => False) W V) : SaidPre w A n c bs bg bd bt g d t V :=
  ⟨hs.base h.1 (Nat.le_refl _) (fun _ k => k.elim), hs.blk h.2.1 id, hs.blk h.2.2.1 id, hs.blk h.2.2.2.1 id, hs.blk h.2.2.2.2 id⟩
theorem SaidPre.put {w : World} {A : Option Addr} {n c bs bg bd bt : Nat} {g d t : Int} {W : World} {q : Nat} {o : Obj} (o' : Obj) (h : SaidPre w A n c bs bg bd bt g d t W) (hb : w.heap.size ≤ q) (hq : W.heap[q]? = some o) (hc : o.isCells = false) : SaidPre w A n c bs bg bd bt g d t (W.putObj q o') :=
  ⟨below_put o' h.1 hb, (put_other hq hc h.2.1).trans h.2.1, (put_other hq hc h.2.2.1).trans h.2.2.1, (put_other hq hc h.2.2.2.1).trans h.2.2.2.1, (put_other hq hc h.2.2.2.2).trans h.2.2.2.2⟩
theorem SaidPre.set {w : World} {A : Option Addr} {n c bs bg bd bt : Nat} {g d t : Int} {W : World} (h : SaidPre w A n c bs bg bd bt g d t W) (b o : Nat) (v : Value) (hp : w.heap.size ≤ b) (h1 : bs ≠ b) (h2 : bg ≠ b) (h3 : bd ≠ b) (h4 : bt ≠ b) : SaidPre w A n c bs bg bd bt g d t (W.setCell ⟨b, o, none⟩ v) :=
  ⟨below_set h.1 hp, blk_far h.2.1 h1 _, blk_far h.2.2.1 h2 _, blk_far h.2.2.2.1 h3 _, blk_far h.2.2.2.2 h4 _⟩
theorem OfIn.st {w : World} {n : Int} {W V : World} (h : OfIn w n W) (hs : St (fun _ => False) W V) : OfIn w n V := ⟨hs.base h.1 (Nat.le_refl _) (fun _ k => k.elim), hs.blk h.2.1 id, hs.blk h.2.2 id⟩
theorem OfIn.put {w : World} {n : Int} {W : World} {q : Nat} {o : Obj} (o' : Obj) (h : OfIn w n W) (hb : w.heap.size ≤ q) (hq : W.heap[q]? = some o) (hc : o.isCells = false) : OfIn w n (W.putObj q o') :=
  ⟨below_put o' h.1 hb, (put_other hq hc h.2.1).trans h.2.1, (put_other hq hc h.2.2).trans h.2.2⟩
theorem OfIn.set {w : World} {n : Int} {W : World} (h : OfIn w n W) (m : Int) : OfIn w m (W.setCell ⟨w.heap.size + 1, 0, none⟩ (.int .i64 m)) :=
  ⟨below_set h.1 (by simp), blk_far h.2.1 (by simp) _, blk_put h.2.2 0 _ rfl⟩
theorem oksOf_le (L : Nat → RepE) : ∀ n, (oksOf L n).length ≤ n
  | 0 => Nat.le_refl _
  | n + 1 => by
    have := oksOf_le L n
    rw [oksOf_succ]
    split <;> simp <;> omega

/-- Behind the loop. -/
def OiIn (w : World) (A : Option Addr) (n c N4 : Nat) (g d t : Int) (m : Int) (D : Nat) (W : World) : Prop :=
  (∃ x0 x1 x2 x3 : Int, W.heap[w.heap.size]? = some (.cells #[.int .i64 x0, .int .i64 x1, .int .i64 x2, .int .i64 x3] 39 (0, 0))) ∧ Below w.heap.size w W ∧ W.heap[w.heap.size + 1]? = some (.cells #[.int .i64 m] 3 (0, 0)) ∧ SaidPre w A n c N4 (N4 + 1) (N4 + 2) (N4 + 3) g d t W ∧ W.heap[D]? = some (.deferred (some []))
theorem OiIn.below {w : World} {A : Option Addr} {n c N4 : Nat} {g d t m : Int} {D : Nat} {W V : World} (h : OiIn w A n c N4 g d t m D W) (hb : Below W.heap.size W V) : OiIn w A n c N4 g d t m D V := by
  obtain ⟨⟨x0, x1, x2, x3, h1⟩, h2, h3, h4, h5⟩ := h
  exact ⟨⟨x0, x1, x2, x3, heap_below hb h1⟩, below_step h2 hb, heap_below hb h3, h4.below hb, heap_below hb h5⟩
theorem OiIn.drew {w : World} {A : Option Addr} {n c N4 : Nat} {g d t m : Int} {D : Nat} {W : World} (h : OiIn w A n c N4 g d t m D W) : OiIn w A n c N4 g d t m D W.drew := h.below (below_drew1 (Below.refl _ _))
theorem OiIn.sky {w : World} {A : Option Addr} {n c N4 : Nat} {g d t m : Int} {D : Nat} {W : World} (h : OiIn w A n c N4 g d t m D W) (hN : w.heap.size + 2 ≤ N4) (r1 r2 r3 r4 : Int) :
    OiIn w A n c N4 g d t m D ((((W.setCell ⟨w.heap.size, 0, none⟩ (.int .i64 r1)).setCell ⟨w.heap.size, 1, none⟩ (.int .i64 r2)).setCell ⟨w.heap.size, 2, none⟩ (.int .i64 r3)).setCell ⟨w.heap.size, 3, none⟩ (.int .i64 r4)) ∧
    ((((W.setCell ⟨w.heap.size, 0, none⟩ (.int .i64 r1)).setCell ⟨w.heap.size, 1, none⟩ (.int .i64 r2)).setCell ⟨w.heap.size, 2, none⟩ (.int .i64 r3)).setCell ⟨w.heap.size, 3, none⟩ (.int .i64 r4)).heap[w.heap.size]? = some (.cells #[.int .i64 r1, .int .i64 r2, .int .i64 r3, .int .i64 r4] 39 (0, 0)) := by
  obtain ⟨⟨x0, x1, x2, x3, h1⟩, h2, h3, h4, h5⟩ := h
  have hb := blk_put (blk_put (blk_put (blk_put h1 0 (.int .i64 r1) rfl) 1 (.int .i64 r2) rfl) 2 (.int .i64 r3) rfl) 3 (.int .i64 r4) rfl
  refine ⟨⟨⟨r1, r2, r3, r4, hb⟩, below_set (below_set (below_set (below_set h2 (Nat.le_refl _)) (Nat.le_refl _)) (Nat.le_refl _)) (Nat.le_refl _), blk_far (blk_far (blk_far (blk_far h3 (by simp) _) (by simp) _) (by simp) _) (by simp) _, ?_, ?_⟩, hb⟩
  · exact (((h4.set _ 0 _ (by omega) (by omega) (by omega) (by omega) (by omega)).set _ 1 _ (by omega) (by omega) (by omega) (by omega) (by omega)).set _ 2 _ (by omega) (by omega) (by omega) (by omega) (by omega)).set _ 3 _ (by omega) (by omega) (by omega) (by omega) (by omega)
  · exact ((((KeepsOthers.setCell W ⟨w.heap.size, 0, none⟩ (.int .i64 r1)).trans (KeepsOthers.setCell _ ⟨w.heap.size, 1, none⟩ (.int .i64 r2))).trans (KeepsOthers.setCell _ ⟨w.heap.size, 2, none⟩ (.int .i64 r3))).trans (KeepsOthers.setCell _ ⟨w.heap.size, 3, none⟩ (.int .i64 r4))).same D _ h5 rfl
def ofr.T9 : Bool × List (List Nat × List Nat) := (true, [([], []), ([], []), ([0, 1, 0], [0, 1]), ([2], []), ([], []), ([3, 4, 3], [3, 4]), ([2, 5], [2, 5]), ([], []), ([6, 5, 0, 1, 2, 3, 4, 5, 6], [6]), ([7, 8, 0, 1, 2, 3, 4, 5, 6, 7, 8], [7]), ([9, 0, 1, 2, 3, 4, 5, 6, 7, 8, 9], [])])
def ofr.B9 : List Nat := [0, 0, 3, 7, 0, 31, 63, 0, 127, 511, 1023]
theorem ofr.tab9 : rtab .any (opsOf Try.f15 9) = ofr.T9 := by kernel_rfl
theorem ofr.bits9 : waitsOk ofr.T9.2 ofr.B9 = true := by kernel_rfl
set_option maxRecDepth 100000 in
set_option maxHeartbeats 8000000 in
theorem of_yes (A0 : Option Addr) (cp : Nat) (l0 : List S41) (a1 a2 a3 : Int) (w : World) (hr0 : Kd.C k41 w A0 l0.length l0) (hc0 : l0.length ≤ cp) (hk : chkV l0 = 0) (hb1_ : [a1].all (okw 63) = true) (hb2_ : [a2].all (okw 73048) = true) (hb3_ : [a3].all (okw 134217727) = true) :
    Calls Try.prog 15 #[.slice A0 l0.length cp, .int .i64 a1, .int .i64 a2, .int .i64 a3] w (OfOut w (skyV 200 ((says a1 a2 a3 l0).map rng_rain)).1 (skyV 200 ((says a1 a2 a3 l0).map rng_rain)).2 (skyV 40 ((says a1 a2 a3 l0).map rng_frost)).1 (skyV 40 ((says a1 a2 a3 l0).map rng_frost)).2 ((says a1 a2 a3 l0).length : Int) 0) := by
  have hu := Try.underlying39
  have hu3 := Try.underlying3
  have HC := Aside0.mk (fun W hb => chk_calls A0 cp l0 W (Kd.C_below hr0 hb) hc0)
  have HR := Aside0.mk hr0
  clear hr0
  have hn := (chk_ok hk).1
  have HV : Aside0 (∀ r ∈ l0, 0 ≤ r.f1 ∧ r.f1 ≤ 15) := ⟨fun r hr => vB_source (chk_valid hk r hr)⟩
  rw [hk] at HC
  have hb1 := Aside0.mk hb1_
  have hb2 := Aside0.mk hb2_
  have hb3 := Aside0.mk hb3_
  clear hk hb1_ hb2_ hb3_
  have HIt := Aside0.mk (fun bs bg bd bt U => said_iter w l0 A0 cp bs bg bd bt a1 a2 a3 U HR.out hn HV.out)
  have HQ1 := Aside0.mk (fun bs bg bd bt W (hB : Below w.heap.size w W) hP => qsky_rain W l0 A0 cp bs bg bd bt a1 a2 a3 (Kd.C_below HR.out hB) hn HV.out hP)
  have HQ2 := Aside0.mk (fun bs bg bd bt W (hB : Below w.heap.size w W) hP => qsky_frost W l0 A0 cp bs bg bd bt a1 a2 a3 (Kd.C_below HR.out hB) hn HV.out hP)
  have h16 : (says a1 a2 a3 l0).length ≤ 16 := oksOf_le _ 16
  obtain ⟨rv, hrv⟩ : ∃ rv, Aside0 (skyV 200 ((says a1 a2 a3 l0).map rng_rain) = rv) := ⟨_, ⟨rfl⟩⟩
  obtain ⟨fv, hfv⟩ : ∃ fv, Aside0 (skyV 40 ((says a1 a2 a3 l0).map rng_frost) = fv) := ⟨_, ⟨rfl⟩⟩
  rw [hrv.out] at HQ1 ⊢
  rw [hfv.out] at HQ2 ⊢
  clear hrv hfv
  generalize (says a1 a2 a3 l0) = xs at HIt h16 ⊢
  obtain ⟨q, _⟩ : ∃ q : Nat, q = 7 := ⟨_, rfl⟩
  refine (callsIn_wide (n := q)).1 ?_
  refine callsIn_of_wp_marks Try.func15 rfl trivial ?_ rfl
  simp only [Try.ntmps15, List.size_toArray, List.length_cons, List.length_nil, Nat.reduceAdd, Nat.reduceSub, Array.replicate_succ, Array.replicate_zero, List.push_toArray, List.append_toArray, List.nil_append, List.cons_append]
  gi_wp2_with fail
  refine ⟨trivial, callsIn_wide.2 ?_⟩
  refine (HC.out _ (OfIn.new w).1).mono ?_
  rintro e w1 ⟨rfl, hb⟩
  have HI := Aside0.mk ((OfIn.new w).below hb)
  clear hb HC
  gi_wp2_with fail
  refine ⟨trivial, callsIn_wide.2 ?_⟩
  refine (win0 63 _).mono ?_
  rintro e wq ⟨rfl, rfl⟩
  gi_wp2_with fail
  refine ⟨trivial, callsIn_wide.2 ?_⟩
  refine (win1 63 _ [a1] _ _ _ (heap_at_old _ _ _ _ (heap_at_new _ _ _ rfl)) (C_block [a1] (heap_at_new _ _ _ (by simp)) rfl (by simp)) (by simp)).mono ?_
  rintro e wq ⟨rfl, rfl⟩
  rw [hb1.out]
  simp only [List.map_cons, List.map_nil]
  have HJ1 := Aside0.mk (HI.out.below (below_alloc (below_alloc (Below.refl _ _) (.cells #[.int .i64 63] 3 (0, 0))) (.cells #[.int .i64 a1] 3 (0, 0))))
  clear HI
  have HI := HJ1
  clear HJ1
  obtain ⟨w2, hw2⟩ : ∃ w2, (w1.alloc (.cells #[.int .i64 63] 3 (0, 0))).alloc (.cells #[.int .i64 a1] 3 (0, 0)) = w2 := ⟨_, rfl⟩
  rw [hw2] at HI ⊢
  clear hw2
  gi_wp2_with fail
  refine ⟨trivial, callsIn_wide.2 ?_⟩
  refine (win0 73048 _).mono ?_
  rintro e wq ⟨rfl, rfl⟩
  gi_wp2_with fail
  refine ⟨trivial, callsIn_wide.2 ?_⟩
  refine (win1 73048 _ [a2] _ _ _ (heap_at_old _ _ _ _ (heap_at_new _ _ _ rfl)) (C_block [a2] (heap_at_new _ _ _ (by simp)) rfl (by simp)) (by simp)).mono ?_
  rintro e wq ⟨rfl, rfl⟩
  rw [hb2.out]
  simp only [List.map_cons, List.map_nil]
  have HJ2 := Aside0.mk (HI.out.below (below_alloc (below_alloc (Below.refl _ _) (.cells #[.int .i64 73048] 3 (0, 0))) (.cells #[.int .i64 a2] 3 (0, 0))))
  clear HI
  have HI := HJ2
  clear HJ2
  obtain ⟨w3, hw3⟩ : ∃ w3, (w2.alloc (.cells #[.int .i64 73048] 3 (0, 0))).alloc (.cells #[.int .i64 a2] 3 (0, 0)) = w3 := ⟨_, rfl⟩
  rw [hw3] at HI ⊢
  clear hw3
  gi_wp2_with fail
  refine ⟨trivial, callsIn_wide.2 ?_⟩
  refine (win0 134217727 _).mono ?_
  rintro e wq ⟨rfl, rfl⟩
  gi_wp2_with fail
  refine ⟨trivial, callsIn_wide.2 ?_⟩
  refine (win1 134217727 _ [a3] _ _ _ (heap_at_old _ _ _ _ (heap_at_new _ _ _ rfl)) (C_block [a3] (heap_at_new _ _ _ (by simp)) rfl (by simp)) (by simp)).mono ?_
  rintro e wq ⟨rfl, rfl⟩
  rw [hb3.out]
  simp only [List.map_cons, List.map_nil]
  have HJ3 := Aside0.mk (HI.out.below (below_alloc (below_alloc (Below.refl _ _) (.cells #[.int .i64 134217727] 3 (0, 0))) (.cells #[.int .i64 a3] 3 (0, 0))))
  clear HI
  have HI := HJ3
  clear HJ3
  obtain ⟨w4, hw4⟩ : ∃ w4, (w3.alloc (.cells #[.int .i64 134217727] 3 (0, 0))).alloc (.cells #[.int .i64 a3] 3 (0, 0)) = w4 := ⟨_, rfl⟩
  rw [hw4] at HI ⊢
  clear hw4
  gi_wp2_with fail
  refine ⟨trivial, callsIn_wide.2 ?_⟩
  refine (said0 _ _ _ _ _ _ _).mono ?_
  rintro e w5 ⟨rfl, hw5⟩
  have HP : Aside0 (SaidPre w A0 l0.length cp w4.heap.size (w4.heap.size + 1) (w4.heap.size + 2) (w4.heap.size + 3) a1 a2 a3 w5) := ⟨by
    rw [hw5]
    exact ⟨below_alloc (below_alloc (below_alloc (below_alloc HI.out.1 _) _) _) _, heap_at_old _ _ _ _ (heap_at_old _ _ _ _ (heap_at_old _ _ _ _ (heap_at_new _ _ _ rfl))), heap_at_old _ _ _ _ (heap_at_old _ _ _ _ (heap_at_new _ _ _ (by simp))), heap_at_old _ _ _ _ (heap_at_new _ _ _ (by simp)), heap_at_new _ _ _ (by simp)⟩⟩
  have hs4 : w.heap.size + 2 ≤ w4.heap.size := by have := blk_lt HI.out.2.2; omega
  have HI5 := Aside0.mk (HI.out.below (hw5 ▸ (below_alloc (below_alloc (below_alloc (below_alloc (Below.refl w4.heap.size w4) _) _) _) _)))
  have hs5 : w5.heap.size = w4.heap.size + 4 := by rw [hw5]; simp
  clear hw5 HI hb1 hb2 hb3
  obtain ⟨N4, hN4⟩ : ∃ N4, w4.heap.size = N4 := ⟨_, rfl⟩
  rw [hN4] at HP hs4 hs5 ⊢
  clear hN4
  generalize hz1 : Value.func (.func 70) #[] #[.pointer (some ⟨N4, 0, none⟩), .pointer (some ⟨N4 + 1, 0, none⟩), .pointer (some ⟨N4 + 2, 0, none⟩), .pointer (some ⟨N4 + 3, 0, none⟩)] = z1
  have hz1 := Aside0.mk hz1
  have HS1 : Aside0 (∀ W, Below w.heap.size w W → SaidPre W A0 l0.length cp N4 (N4 + 1) (N4 + 2) (N4 + 3) a1 a2 a3 W → Calls Try.prog 38 #[.agg #[.int .i64 200, .func (.func 71) #[] #[]], z1] W fun e w' => e = .returned (.agg #[.int .i64 rv.1, .int .i64 rv.2]) ∧ Below W.heap.size W w') := ⟨fun W hB hP => by rw [← hz1.out]; exact HQ1.out _ _ _ _ W hB hP⟩
  have HS2 : Aside0 (∀ W, Below w.heap.size w W → SaidPre W A0 l0.length cp N4 (N4 + 1) (N4 + 2) (N4 + 3) a1 a2 a3 W → Calls Try.prog 38 #[.agg #[.int .i64 40, .func (.func 72) #[] #[]], z1] W fun e w' => e = .returned (.agg #[.int .i64 fv.1, .int .i64 fv.2]) ∧ Below W.heap.size W w') := ⟨fun W hB hP => by rw [← hz1.out]; exact HQ2.out _ _ _ _ W hB hP⟩
  clear HQ1 HQ2
  gi_wp2
  refine range_skip (gf := 70) hz1.out.symm (enters_of Try.func70 (by kernel_rfl) rfl) (HIt.out N4 (N4 + 1) (N4 + 2) (N4 + 3) (fun j => j = w.heap.size + 1 ∨ N4 + 4 ≤ j)) (fun j hj => .inr (by omega)) (fun k hk => hk.elim)
    (fun o1 o2 => HP.out.below (below_alloc (below_alloc (Below.refl _ _) _) _))
    (fun k W => OfIn w (k : Int) W ∧ SaidPre w A0 l0.length cp N4 (N4 + 1) (N4 + 2) (N4 + 3) a1 a2 a3 W)
    (fun k A B h hS => ⟨h.1.st hS, h.2.st hS⟩)
    (fun k A q o o' h hq hA hc => ⟨h.1.put o' (by omega) hA hc, h.2.put o' (by omega) hA hc⟩)
    (fun o1 o2 => ⟨HI5.out.below (below_alloc (below_alloc (Below.refl _ _) _) _), HP.out.below (below_alloc (below_alloc (Below.refl _ _) _) _)⟩) ?body ?done
  case body =>
    rintro lq k W hk ⟨hI, hP⟩
    have hI := Aside0.mk hI
    have hP := Aside0.mk hP
    generalize Value.agg (repCells (xs.getD k z41)) = v44
    simp only [List.setIfInBounds_toArray, List.set_cons_succ, List.set_cons_zero]
    have d0 := (blk_cell hI.out.2.2 0).trans rfl
    have g0 := blk_frozen hI.out.2.2 0
    have hw : wrap64 ((k : Int) + 1) = ((k + 1 : Nat) : Int) := by rw [wr_in (by omega)]; omega
    gi_wp2
    refine ⟨KeepsOthers.setCell _ _ _, (St.refl _ _).setCell (.inl (.inl rfl)) _, ?_, hP.out.set _ 0 _ (by omega) (by omega) (by omega) (by omega) (by omega)⟩
    have hfin := hI.out.set ((k : Int) + 1)
    exact_mod_cast hfin
  case done =>
    rintro D W hD ⟨hI, hP⟩ hK
    have HS := Aside0.mk (show OiIn w A0 l0.length cp N4 a1 a2 a3 (xs.length : Int) D W from ⟨⟨0, 0, 0, 0, hI.2.1⟩, hI.1, hI.2.2, hP, hK⟩)
    clear hI hP hK
    gi_wp2
    refine wpIn_wide.2 ?_
    refine wp_region_noPanic ?_
    refine start_ (n := 11) (S := (OiIn w A0 l0.length cp N4 a1 a2 a3 (xs.length : Int) D)) (ds := [9]) #[false, false, false, false, false, false, false, false, false, false, false] (by kernel_rfl) rfl rfl HS.out.drew (fun hHeld => ?_)
    clear HS
    refine with_tabW ofr.tab9 ofr.bits9 (fun HT_ HW_ => ?_)
    generalize World.drew _ = Wd at hHeld ⊢
    refine pure_ (i := 1) (N := some 48) (v := ?_) (a' := ?_) #[false, true, false, false, false, false, false, false, false, false, false] rfl rfl (any_of HT_.out (by kernel_rfl)) (fun _ _ _ h => h) (Or.inl ⟨by rfl, ?_⟩) ?_ ?_
    rotate_left
    · intro w'
      go_simp
      with_reducible rfl
    rotate_left
    · simp only [Act.put, List.setIfInBounds_toArray, List.set_cons_zero, List.set_cons_succ, i64_w, i32_w]
      rfl
    refine pure_ (i := 4) (N := some 51) (v := ?_) (a' := ?_) #[false, true, false, false, true, false, false, false, false, false, false] rfl rfl (any_of HT_.out (by kernel_rfl)) (fun _ _ _ h => h) (Or.inl ⟨by rfl, ?_⟩) ?_ ?_
    rotate_left
    · intro w'
      go_simp
      with_reducible rfl
    rotate_left
    · simp only [Act.put, List.setIfInBounds_toArray, List.set_cons_zero, List.set_cons_succ, i64_w, i32_w]
      rfl
    refine take_ (i := 7) (N := some 54) (v := ?_) (a' := ?_) #[false, true, false, false, true, false, false, true, false, false, false] rfl rfl (take_ofW HT_.out HW_.out (by kernel_rfl)) (fun _ _ _ h => h) (Or.inl ⟨by rfl, ?_⟩) hHeld ?_ ?_
    rotate_left
    · rintro w' hs
      have d0 := (blk_cell hs.2.2.1 0).trans rfl
      go_simp
      with_reducible rfl
    rotate_left
    · simp only [Act.put, List.setIfInBounds_toArray, List.set_cons_zero, List.set_cons_succ, i64_w, i32_w]
      rfl
    refine one_ (i := 0) (N := some 47) #[true, true, false, false, true, false, false, true, false, false, false] rfl rfl (one_of HT_.out (by kernel_rfl)) (by decide) (fun K hK => ?_)
    refine goes_ Try.func37 (by kernel_rfl) rfl #[] (by rfl) rfl rfl (by (try simp only [List.map_toArray, List.map_cons, List.map_nil, List.append_toArray, List.cons_append, List.nil_append]); first | done | rfl) ?_
    refine (rain0 _).mono ?_
    rintro e w' ⟨rfl, hb⟩
    refine ⟨_, rfl, ?_⟩
    refine hK.out _ _ (hHeld.below hb) (fun hHeld => ?_)
    clear hK K hb
    refine norm_ (a' := ?_) ?_ ?_
    rotate_left
    · show Act.put _ (some 47) _ = _
      simp only [Act.put, List.setIfInBounds_toArray, List.set_cons_zero, List.set_cons_succ, i64_w, i32_w]
      rfl
    refine one_ (i := 2) (N := some 49) #[true, true, true, false, true, false, false, true, false, false, false] rfl rfl (one_of HT_.out (by kernel_rfl)) (by decide) (fun K hK => ?_)
    refine goes_ Try.func38 (by kernel_rfl) rfl #[.agg #[.int .i64 200, .func (.func 71) #[] #[]], z1] (by rfl) rfl rfl (by (try simp only [List.map_toArray, List.map_cons, List.map_nil, List.append_toArray, List.cons_append, List.nil_append]); first | done | rfl) ?_
    refine (HS1.out _ hHeld.2.1 ⟨Below.refl _ _, hHeld.2.2.2.1.2⟩).mono ?_
    rintro e w49 ⟨rfl, hb⟩
    refine ⟨_, rfl, ?_⟩
    refine hK.out _ _ (hHeld.below hb) (fun hHeld => ?_)
    clear hK K hb
    refine norm_ (a' := ?_) ?_ ?_
    rotate_left
    · show Act.put _ (some 49) _ = _
      simp only [Act.put, List.setIfInBounds_toArray, List.set_cons_zero, List.set_cons_succ, i64_w, i32_w]
      rfl
    refine one_ (i := 3) (N := some 50) #[true, true, true, true, true, false, false, true, false, false, false] rfl rfl (one_of HT_.out (by kernel_rfl)) (by decide) (fun K hK => ?_)
    refine goes_ Try.func39 (by kernel_rfl) rfl #[] (by rfl) rfl rfl (by (try simp only [List.map_toArray, List.map_cons, List.map_nil, List.append_toArray, List.cons_append, List.nil_append]); first | done | rfl) ?_
    refine (frost0 _).mono ?_
    rintro e w' ⟨rfl, hb⟩
    refine ⟨_, rfl, ?_⟩
    refine hK.out _ _ (hHeld.below hb) (fun hHeld => ?_)
    clear hK K hb
    refine norm_ (a' := ?_) ?_ ?_
    rotate_left
    · show Act.put _ (some 50) _ = _
      simp only [Act.put, List.setIfInBounds_toArray, List.set_cons_zero, List.set_cons_succ, i64_w, i32_w]
      rfl
    refine one_ (i := 5) (N := some 52) #[true, true, true, true, true, true, false, true, false, false, false] rfl rfl (one_of HT_.out (by kernel_rfl)) (by decide) (fun K hK => ?_)
    refine goes_ Try.func38 (by kernel_rfl) rfl #[.agg #[.int .i64 40, .func (.func 72) #[] #[]], z1] (by rfl) rfl rfl (by (try simp only [List.map_toArray, List.map_cons, List.map_nil, List.append_toArray, List.cons_append, List.nil_append]); first | done | rfl) ?_
    refine (HS2.out _ hHeld.2.1 ⟨Below.refl _ _, hHeld.2.2.2.1.2⟩).mono ?_
    rintro e w52 ⟨rfl, hb⟩
    refine ⟨_, rfl, ?_⟩
    refine hK.out _ _ (hHeld.below hb) (fun hHeld => ?_)
    clear hK K hb
    refine norm_ (a' := ?_) ?_ ?_
    rotate_left
    · show Act.put _ (some 52) _ = _
      simp only [Act.put, List.setIfInBounds_toArray, List.set_cons_zero, List.set_cons_succ, i64_w, i32_w]
      rfl
    refine pure_ (i := 6) (N := some 53) (v := ?_) (a' := ?_) #[true, true, true, true, true, true, true, true, false, false, false] rfl rfl (any_of HT_.out (by kernel_rfl)) (fun _ _ _ h => h) (Or.inl ⟨by rfl, ?_⟩) ?_ ?_
    rotate_left
    · intro w'
      go_simp
      with_reducible rfl
    rotate_left
    · simp only [Act.put, List.setIfInBounds_toArray, List.set_cons_zero, List.set_cons_succ, i64_w, i32_w]
      rfl
    refine one_ (i := 8) (N := none) #[true, true, true, true, true, true, true, true, true, false, false] rfl rfl (one_of HT_.out (by kernel_rfl)) (by decide) (fun K hK => ?_)
    obtain ⟨x0, x1, x2, x3, hx⟩ := hHeld.1
    have c0 := (blk_cell hx 0).trans rfl
    have c1 := (blk_cell hx 1).trans rfl
    have c2 := (blk_cell hx 2).trans rfl
    have c3 := (blk_cell hx 3).trans rfl
    have f0 := blk_frozen hx 0
    have f1 := blk_frozen hx 1
    have f2 := blk_frozen hx 2
    have f3 := blk_frozen hx 3
    have HX := Aside0.mk hx
    clear hx
    refine skip_ (w1 := ?_) (by rfl) rfl ?_ ?_
    rotate_left
    · go_simp
      rfl
    clear c0 c1 c2 c3 f0 f1 f2 f3 HX
    obtain ⟨hS8, hB8⟩ := hHeld.sky hs4 rv.1 rv.2 fv.1 fv.2
    have HB := Aside0.mk hB8
    refine hK.out _ _ hS8 (fun hHeld => ?_)
    clear hK K hB8 hS8
    have HO := Aside0.mk hHeld
    obtain ⟨Wv, hWv⟩ : ∃ Wv, ((((w52.setCell ⟨w.heap.size, 0, none⟩ (.int .i64 rv.1)).setCell ⟨w.heap.size, 1, none⟩ (.int .i64 rv.2)).setCell ⟨w.heap.size, 2, none⟩ (.int .i64 fv.1)).setCell ⟨w.heap.size, 3, none⟩ (.int .i64 fv.2)) = Wv := ⟨_, rfl⟩
    rw [hWv] at HB HO hHeld ⊢
    clear hWv
    have d0 := (blk_cell hHeld.2.2.1 0).trans rfl
    have g0 := blk_frozen hHeld.2.2.1 0
    refine last_ (i := 9) (N := none) #[true, true, true, true, true, true, true, true, true, true, false] rfl rfl (one_of HT_.out (by kernel_rfl)) (by decide) (fun K hK => ?_)
    refine skip_ (w1 := ?_) (by rfl) rfl ?_ ?_
    rotate_left
    · go_simp
      rfl
    refine hK.out _ _ ?_
    clear hK K
    refine pure_ (i := 10) (N := some 10) (v := ?_) (a' := ?_) #[true, true, true, true, true, true, true, true, true, true, true] rfl rfl (any_of HT_.out (by kernel_rfl)) (fun _ _ _ h => h) (Or.inl ⟨by rfl, ?_⟩) ?_ ?_
    rotate_left
    · intro w'
      go_simp
      with_reducible rfl
    rotate_left
    · simp only [Act.put, List.setIfInBounds_toArray, List.set_cons_zero, List.set_cons_succ, i64_w, i32_w]
      rfl
    refine done_ (done_of HT_.out (by kernel_rfl)) ?_
    refine NoPanic.normal ?_
    clear d0 g0 hHeld
    gi_wp2
    have hch : OfFin w rv.1 rv.2 fv.1 fv.2 (xs.length : Int) (Wv.setCell ⟨w.heap.size + 1, 0, none⟩ (.int .i64 (xs.length : Int))) := ⟨below_set HO.out.2.1 (by simp), blk_far HB.out (by simp) _, blk_put HO.out.2.2.1 0 _ rfl⟩
    have hdf := (KeepsOthers.setCell Wv ⟨w.heap.size + 1, 0, none⟩ (.int .i64 (xs.length : Int))).same D _ HO.out.2.2.2.2 rfl
    refine ⟨by simp, .inl ⟨_, _, rfl, run_takeDeferred hdf, ?_⟩⟩
    refine ⟨_, results_cct rfl _ _ w.heap.size 39 _ (0, 0) _ ⟨w.heap.size + 1, 0, none⟩ _ _ rfl ((put_other hdf rfl hch.2.1).trans hch.2.1) hu rfl (by kernel_rfl) rfl ((blk_cell ((put_other hdf rfl hch.2.2).trans hch.2.2) 0).trans rfl) hu3 rfl, ?_⟩
    exact ⟨rfl, below_put _ hch.1 (by omega)⟩

theorem weather_Of.calls (A0 : Option Addr) (c0 : Nat) (l0 : List (S41)) (a1 : Int) (a2 : Int) (a3 : Int) (r1 : Int) (r2 : Int) (r3 : Int) (r4 : Int) (r5 : Int) (r6 : Int) (w : World) (hr0 : Kd.C k41 w A0 l0.length l0) (hc0 : l0.length ≤ c0) (h : weather_Of.f l0 a1 a2 a3 = some (r1, r2, r3, r4, r5, r6)) :
    Calls Try.prog 15 #[.slice A0 l0.length c0, .int .i64 a1, .int .i64 a2, .int .i64 a3] w fun e w' => e = .returned (.tuple #[.agg #[.int .i64 r1, .int .i64 r2, .int .i64 r3, .int .i64 r4], .int .i64 r5, .int .i64 r6]) ∧ Below w.heap.size w w' := by
  unfold weather_Of.f at h
  by_cases hk : chkV l0 = 0
  · rw [if_pos hk] at h
    unfold argsB at h
    cases h1 : [a1].all (okw 63) with
    | false =>
      rw [h1, if_neg (by simp)] at h
      simp only [Option.some.injEq, Prod.mk.injEq] at h
      obtain ⟨rfl, rfl, rfl, rfl, rfl, rfl⟩ := h
      exact of_arg1 A0 c0 l0 a1 a2 a3 w hr0 hc0 hk h1
    | true =>
      cases h2 : [a2].all (okw 73048) with
      | false =>
        rw [h1, h2, if_neg (by simp)] at h
        simp only [Option.some.injEq, Prod.mk.injEq] at h
        obtain ⟨rfl, rfl, rfl, rfl, rfl, rfl⟩ := h
        exact of_arg2 A0 c0 l0 a1 a2 a3 w hr0 hc0 hk h1 h2
      | true =>
        cases h3 : [a3].all (okw 134217727) with
        | false =>
          rw [h1, h2, h3, if_neg (by simp)] at h
          simp only [Option.some.injEq, Prod.mk.injEq] at h
          obtain ⟨rfl, rfl, rfl, rfl, rfl, rfl⟩ := h
          exact of_arg3 A0 c0 l0 a1 a2 a3 w hr0 hc0 hk h1 h2 h3
        | true =>
          rw [h1, h2, h3, if_pos (by simp)] at h
          simp only [Option.some.injEq, Prod.mk.injEq] at h
          obtain ⟨rfl, rfl, rfl, rfl, rfl, rfl⟩ := h
          exact of_yes A0 c0 l0 a1 a2 a3 w hr0 hc0 hk h1 h2 h3
  · rw [if_neg hk] at h
    simp only [Option.some.injEq, Prod.mk.injEq] at h
    obtain ⟨rfl, rfl, rfl, rfl, rfl, rfl⟩ := h
    exact of_no A0 c0 l0 a1 a2 a3 w hr0 hc0 hk
end Go.Proofs.Ythfhjcbgccnijaa.Q
