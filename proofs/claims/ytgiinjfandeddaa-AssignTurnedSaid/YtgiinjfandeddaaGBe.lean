/- By hand: what assign.Best computes. -/
import Derived.Test.YtgiinjfandeddaaGBc
import Derived.Test.YtgiinjfandeddaaGCk
namespace Go.Proofs.Ytgiinjfandeddaa.Q
open Go.RowKit Go.Proofs.YtgiinjfandeddaaW.PrintWords Go.Proofs.YtgiinjfandeddaaW.PrintLast Go.Proofs.YtgiinjfandeddaaW.PrintMore
attribute [local go_sem] max2_int min2_int max_two min_two
set_option linter.unusedVariables false
set_option linter.unusedSimpArgs false

/-- the cost of the first i rows -/
def bsum (C : List (List Int)) (own : List Int) : Nat → Int
  | 0 => 0
  | i + 1 => wrap64 (bsum C own i + rd (rd_L1 C i) (rd own i))
/-- has each row of own a column that is there? -/
def inR (C : List (List Int)) (own : List Int) : Bool := decide (own.length ≤ C.length) && (List.range own.length).all fun i => decide (0 ≤ rd own (i : Int)) && decide (rd own (i : Int) < ((rd_L1 C (i : Int)).length : Int))
/-- the first column from j on that the row i can have -/
def fj (C : List (List Int)) (taken : List Bool) (n spent c i : Int) : Nat → Int → Option Int
  | 0, _ => none
  | f + 1, j => (assign_cheap.f 2000 i j taken C n spent c).bind fun b => if b = true then some j else fj C taken n spent c i f (wrap64 (j + 1))
/-- the columns of the rows from i on -/
def bo (C : List (List Int)) (n c : Int) : Nat → Int → List Bool → Int → List Int → Option (List Int)
  | 0, _, _, _, _ => none
  | f + 1, i, taken, spent, tt => if i < (C.length : Int) then (fj C taken n spent c i 64 0).bind fun j => if 0 ≤ j ∧ j < (taken.length : Int) ∧ j < ((rd_L1 C i).length : Int) ∧ tt.length ≤ 1000 then bo C n c f (i + 1) (taken.set j.toNat true) (wrap64 (spent + rd (rd_L1 C i) j)) (tt ++ [j]) else none else some tt
def assign_Best.f (l0 : List (List Int)) : Option (List Int × Int × Bool × Int) :=
  (assign_Check.f 64 l0).bind fun e => if e = 0 then (assign_solve.f 20000 l0 (widthV l0)).bind fun x => if x.2.2.2 = true then (if inR l0 x.1 = true then (bo l0 (widthV l0) (bsum l0 x.1 x.1.length) 64 0 (List.replicate (widthV l0) false) 0 []).bind fun tt => some (tt, bsum l0 x.1 x.1.length, true, 0) else none) else some ([], 0, false, 0) else some ([], 0, false, e)

theorem below_any (b : Nat) (W : World) : Below b W W := ⟨rfl, rfl, rfl, Nat.le_refl _, fun _ _ => rfl⟩
theorem results_tctt {P : Program} {fn : Func} {p u1 u2 u3 : Tmp} {ty : TypeId} (h : fn.results = #[.tmp u1, .cell p ty, .tmp u2, .tmp u3]) (tmps : Array Value) (w : World) (a : Addr) (v : Value) (d : TypeDesc)
    (hp : tmps.getD p undef = .pointer (some a)) (hv : w.cell? a = some v) (hu : P.underlying ty = some d) (hd : (match d with | .struct _ | .array _ _ => false | _ => true) = true) :
    (results fn tmps).run P w = .ok (.tuple #[tmps.getD u1 undef, v, tmps.getD u2 undef, tmps.getD u3 undef]) w := by
  have h1 : tmps[p]?.getD undef = .pointer (some a) := by simpa using hp
  have e1 : (isAgg ty).run P w = .ok false w := by
    simp [isAgg, go_sem, run_underlying hu]
    cases d <;> simp_all
  simp [results, h, h1, asAddr, loadVar, go_sem, e1, hv]

/-- The boxes of Best: the costs, the least cost. -/
def BIn (w : World) (A0 : Option Addr) (n c0 : Nat) (c : Int) (W : World) : Prop :=
  Below w.heap.size w W ∧ W.heap[w.heap.size]? = some (.cells #[.slice A0 n c0] 22 (0, 0)) ∧ W.heap[w.heap.size + 1]? = some (.cells #[.int .i64 c] 3 (0, 0))
theorem BIn.new (w : World) (A0 : Option Addr) (n c0 : Nat) : BIn w A0 n c0 0 ((w.alloc (.cells #[.slice A0 n c0] 22 (0, 0))).alloc (.cells #[.int .i64 0] 3 (0, 0))) :=
  ⟨below_alloc (below_alloc (Below.refl w.heap.size w) _) _, heap_at_old _ _ _ _ (heap_at_new _ _ _ rfl), heap_at_new _ _ _ (by simp)⟩
theorem BIn.below {w : World} {A0 : Option Addr} {n c0 : Nat} {c : Int} {W V : World} (h : BIn w A0 n c0 c W) (hb : Below W.heap.size W V) : BIn w A0 n c0 c V := ⟨below_step h.1 hb, heap_below hb h.2.1, heap_below hb h.2.2⟩
theorem BIn.drew {w : World} {A0 : Option Addr} {n c0 : Nat} {c : Int} {W : World} (h : BIn w A0 n c0 c W) : BIn w A0 n c0 c W.drew := ⟨below_drew1 h.1, blk_drew h.2.1, blk_drew h.2.2⟩
theorem BIn.put {w : World} {A0 : Option Addr} {n c0 : Nat} {c : Int} {W : World} (h : BIn w A0 n c0 c W) (x : Int) : BIn w A0 n c0 x (W.setCell ⟨w.heap.size + 1, 0, none⟩ (.int .i64 x)) :=
  ⟨below_set h.1 (by omega), blk_far h.2.1 (by simp) _, blk_put h.2.2 0 _ rfl⟩
theorem BIn.far {w : World} {A0 : Option Addr} {n c0 : Nat} {c : Int} {W : World} (h : BIn w A0 n c0 c W) {b j : Nat} (hb : w.heap.size + 2 ≤ b) (x : Value) : BIn w A0 n c0 c (W.setCell ⟨b, j, none⟩ x) :=
  ⟨below_set h.1 (by omega), blk_far h.2.1 (by simp; omega) _, blk_far h.2.2 (by simp; omega) _⟩

set_option maxRecDepth 100000 in
set_option maxHeartbeats 4000000 in
theorem best_no (A0 : Option Addr) (c0 : Nat) (l0 : List (List Int)) (e0 : Int) (w : World) (hr0 : Kd.C (Kd.slice 3 (Kd.int .i64)) w A0 l0.length l0) (hc0 : l0.length ≤ c0) (hk : assign_Check.f 64 l0 = some e0) (he : ¬ e0 = 0) :
    Calls Try.prog 15 #[.slice A0 l0.length c0] w fun e w' => e = .returned (.tuple #[.slice none 0 0, .int .i64 0, .bool false, .int .i64 e0]) ∧ Below w.heap.size w w' := by
  have hu := Try.underlying3
  have HI := Aside0.mk (BIn.new w A0 l0.length c0)
  have HC := Aside0.mk (assign_Check.calls 64 A0 c0 l0 e0 _ (Kd.C_below hr0 HI.out.1) hc0 hk)
  have c0_ := (blk_cell HI.out.2.1 0).trans rfl
  have he0 : (e0 == 0) = false := by simp [he]
  have he1 : (e0 != 0) = true := by simp [he]
  clear hr0 hc0 hk
  go_enter Try.func15, Try.ntmps15
  go_wp2_with fail
  refine HC.out.mono ?_
  rintro e w1 ⟨rfl, hb⟩
  have HI1 := Aside0.mk (HI.out.below hb)
  clear hb HI HC c0_
  have c4_ := (blk_cell HI1.out.2.2 0).trans rfl
  have f4_ := blk_frozen HI1.out.2.2 0
  go_wp2
  refine bodyPost_ret (results_tctt rfl _ _ ⟨w.heap.size + 1, 0, none⟩ (.int .i64 0) _ rfl ((blk_cell (HI1.out.put 0).2.2 0).trans rfl) hu rfl) rfl ?_
  exact ⟨rfl, (HI1.out.put 0).1⟩

set_option maxRecDepth 100000 in
set_option maxHeartbeats 4000000 in
theorem best_none (A0 : Option Addr) (c0 : Nat) (l0 : List (List Int)) (n : Int) (r1 r2 r3 : List Int) (w : World) (hr0 : Kd.C (Kd.slice 3 (Kd.int .i64)) w A0 l0.length l0) (hc0 : l0.length ≤ c0) (hk : assign_Check.f 64 l0 = some 0) (hwf : assign_width.f l0 = some n)
    (hs : assign_solve.f 20000 l0 n = some (r1, r2, r3, false)) :
    Calls Try.prog 15 #[.slice A0 l0.length c0] w fun e w' => e = .returned (.tuple #[.slice none 0 0, .int .i64 0, .bool false, .int .i64 0]) ∧ Below w.heap.size w w' := by
  have hu := Try.underlying3
  have HI := Aside0.mk (BIn.new w A0 l0.length c0)
  have HC := Aside0.mk (assign_Check.calls 64 A0 c0 l0 0 _ (Kd.C_below hr0 HI.out.1) hc0 hk)
  have c0_ := (blk_cell HI.out.2.1 0).trans rfl
  have HR0 := Aside0.mk hr0
  have HC0 := Aside0.mk hc0
  have HWF := Aside0.mk hwf
  have HS := Aside0.mk hs
  clear hr0 hc0 hk hwf hs
  go_enter Try.func15, Try.ntmps15
  go_wp2_with fail
  refine HC.out.mono ?_
  rintro e w1 ⟨rfl, hb⟩
  have HI1 := Aside0.mk (HI.out.below hb)
  clear hb HI HC c0_
  have c0_ := (blk_cell HI1.out.2.1 0).trans rfl
  go_wp2_with fail
  refine (assign_width.calls A0 c0 l0 n _ (Kd.C_below HR0.out HI1.out.1) HC0.out HWF.out).mono ?_
  rintro e w' ⟨rfl, ⟨nd, rfl⟩⟩
  have HI1d := Aside0.mk (HI1.out.below (pw_below_drewN (Below.refl w1.heap.size w1) nd))
  generalize w1.drewN nd = wd at HI1d ⊢
  have HI2 := Aside0.mk (HI1d.out.below (below_alloc (Below.refl wd.heap.size wd) (.cells #[.int .i64 n] 3 (0, 0))))
  have HB6 := Aside0.mk (heap_at_new wd (.cells #[.int .i64 n] 3 (0, 0)) _ rfl)
  clear HI1 c0_
  go_upto_region 5 with fail
  generalize wd.alloc (.cells #[.int .i64 n] 3 (0, 0)) = w2 at HI2 HB6 ⊢
  clear HI1d
  have c0_ := (blk_cell HI2.out.2.1 0).trans rfl
  have c6_ := (blk_cell HB6.out 0).trans rfl
  go_wp2_with fail
  refine (assign_solve.calls 20000 A0 c0 l0 n r1 r2 r3 false w2 (Kd.C_below HR0.out HI2.out.1) HC0.out HS.out).mono ?_
  rintro e w3 ⟨v0, v1, v2, rfl, h0, h1, h2, hb⟩
  have HI3 := Aside0.mk (HI2.out.below hb)
  clear h0 h1 h2 hb c0_ c6_
  have c4_ := (blk_cell HI3.out.2.2 0).trans rfl
  have f4_ := blk_frozen HI3.out.2.2 0
  go_wp2
  refine bodyPost_ret (results_tctt rfl _ _ ⟨w.heap.size + 1, 0, none⟩ (.int .i64 0) _ rfl ((blk_cell (HI3.out.put 0).2.2 0).trans rfl) hu rfl) rfl ?_
  exact ⟨rfl, (HI3.out.put 0).1⟩

def best.T11 : Bool × List (List Nat × List Nat) := (true, [([], []), ([], []), ([], []), ([1, 2], [1, 2]), ([3], [3]), ([], []), ([4, 5], [4, 5]), ([6], [6]), ([0, 7], [0, 7]), ([8, 0, 1, 2, 3, 4, 5, 6, 7, 8], [8])])
def best.B11 : List Nat := [0, 0, 0, 6, 14, 0, 62, 126, 255, 511]
theorem best.tab11 : rtab .any (opsOf Try.f15 11) = best.T11 := by kernel_rfl
theorem best.bits11 : waitsOk best.T11.2 best.B11 = true := by kernel_rfl
def best.T13 : Bool × List (List Nat × List Nat) := (true, [([], []), ([0, 0], [0]), ([], []), ([], []), ([2, 2, 3], [2]), ([3, 1, 4, 0, 1, 2, 3, 4], [1, 3])])
def best.B13 : List Nat := [0, 1, 0, 0, 12, 31]
theorem best.tab13 : rtab .any (opsOf Try.f15 13) = best.T13 := by kernel_rfl
theorem best.bits13 : waitsOk best.T13.2 best.B13 = true := by kernel_rfl
def best.T22 : Bool × List (List Nat × List Nat) := (true, [([], []), ([], []), ([], []), ([1, 2], [1, 2]), ([3], [3]), ([], []), ([4, 5], [4, 5]), ([6], [6]), ([0, 7], [0, 7]), ([8, 0, 1, 2, 3, 4, 5, 6, 7, 8], [8])])
def best.B22 : List Nat := [0, 0, 0, 6, 14, 0, 62, 126, 255, 511]
theorem best.tab22 : rtab .any (opsOf Try.f15 22) = best.T22 := by kernel_rfl
theorem best.bits22 : waitsOk best.T22.2 best.B22 = true := by kernel_rfl
def best.T25 : Bool × List (List Nat × List Nat) := (true, [([], []), ([], []), ([0, 0], [0]), ([1, 2, 0, 1, 2], [1]), ([3, 0, 1, 2, 3], []), ([4, 0, 1, 2, 3, 4], [])])
def best.B25 : List Nat := [0, 0, 1, 7, 15, 31]
theorem best.tab25 : rtab .any (opsOf Try.f15 25) = best.T25 := by kernel_rfl
theorem best.bits25 : waitsOk best.T25.2 best.B25 = true := by kernel_rfl

theorem R_stb {W B : World} {base : Nat} {ok : Nat → Prop} {v : Value} {xs : List Bool} (h : Kd.R Kd.bool 4 W base ok v xs) (hs : ∀ k, v.ownBlock = some k → B.heap[k]? = W.heap[k]?) : Kd.R Kd.bool 4 B base ok v xs := by
  refine Kd.R_of_own ?_ h.1
  obtain ⟨hl, hc⟩ := Kd.own_of_R h
  refine ⟨hl, ?_⟩
  rcases hc with hc | ⟨g, cap, cur, he, hb, hg, hr⟩
  · exact .inl hc
  · exact .inr ⟨g, cap, cur, he, hb, (hs g (by rw [he]; rfl)).trans hg, hr⟩
/-- The row and the boxes that the region 13 lays, in any order. -/
def Fs (w : World) (n : Nat) (p1 p2 p3 : Bool) (v : Value) (b12 b13 : Nat) (W : World) : Prop :=
  Below w.heap.size w W ∧ (p1 = true → Kd.R Kd.bool 4 W w.heap.size (fun _ => True) v (List.replicate n false)) ∧ (p2 = true → w.heap.size ≤ b12 ∧ W.heap[b12]? = some (.cells #[.int .i64 0] 3 (0, 0))) ∧ (p3 = true → w.heap.size ≤ b13 ∧ W.heap[b13]? = some (.cells #[.slice none 0 0] 47 (0, 0)))
theorem Fs.s1 {w : World} {n : Nat} {p1 p2 p3 : Bool} {v v' : Value} {b12 b13 : Nat} {W V : World} (h : Fs w n p1 p2 p3 v b12 b13 W) (hb : Below W.heap.size W V) (hr : Kd.R Kd.bool 4 V W.heap.size (fun _ => True) v' (List.replicate n false)) : Fs w n true p2 p3 v' b12 b13 V :=
  ⟨below_step h.1 hb, fun _ => Kd.R_lower hr h.1.size, fun hp => ⟨(h.2.2.1 hp).1, heap_below hb (h.2.2.1 hp).2⟩, fun hp => ⟨(h.2.2.2 hp).1, heap_below hb (h.2.2.2 hp).2⟩⟩
theorem Fs.s2 {w : World} {n : Nat} {p1 p2 p3 : Bool} {v : Value} {b12 b13 : Nat} {W : World} (h : Fs w n p1 p2 p3 v b12 b13 W) : Fs w n p1 true p3 v W.heap.size b13 (W.alloc (.cells #[.int .i64 0] 3 (0, 0))) :=
  have hb := below_alloc (Below.refl W.heap.size W) (.cells #[.int .i64 0] 3 (0, 0))
  ⟨below_step h.1 hb, fun hp => Kd.R_below (h.2.1 hp) hb, fun _ => ⟨h.1.size, heap_at_new _ _ _ rfl⟩, fun hp => ⟨(h.2.2.2 hp).1, heap_below hb (h.2.2.2 hp).2⟩⟩
theorem Fs.s3 {w : World} {n : Nat} {p1 p2 p3 : Bool} {v : Value} {b12 b13 : Nat} {W : World} (h : Fs w n p1 p2 p3 v b12 b13 W) : Fs w n p1 p2 true v b12 W.heap.size (W.alloc (.cells #[.slice none 0 0] 47 (0, 0))) :=
  have hb := below_alloc (Below.refl W.heap.size W) (.cells #[.slice none 0 0] 47 (0, 0))
  ⟨below_step h.1 hb, fun hp => Kd.R_below (h.2.1 hp) hb, fun hp => ⟨(h.2.2.1 hp).1, heap_below hb (h.2.2.1 hp).2⟩, fun _ => ⟨h.1.size, heap_at_new _ _ _ rfl⟩⟩

theorem Fs.s4 {w : World} {n : Nat} {p1 p2 p3 : Bool} {v : Value} {b12 b13 : Nat} {W : World} (h : Fs w n p1 p2 p3 v b12 b13 W) (hp : p2 = true) : Fs w n p1 p2 p3 v b12 b13 (W.setCell ⟨b12, 0, none⟩ (.int .i64 0)) := by
  have hb := h.2.2.1 hp
  refine ⟨below_set h.1 hb.1, fun hp1 => R_stb (h.2.1 hp1) (fun k hk => Below.heap_setCell _ _ _ _ (fun e => ?_)), fun _ => ⟨hb.1, blk_put hb.2 0 _ rfl⟩, fun hp3 => ⟨(h.2.2.2 hp3).1, blk_far (h.2.2.2 hp3).2 (fun e => ?_) _⟩⟩
  · exact Kd.R_ne (h.2.1 hp1) hb.2 (by decide) (by rw [hk]; exact congrArg some e.symm)
  · have h3 := (h.2.2.2 hp3).2
    rw [show b13 = b12 from e, hb.2] at h3
    cases h3
/-- What the loop over the rows keeps. -/
def BL (w : World) (A0 : Option Addr) (m c0 : Nat) (c : Int) (n b6 b12 b13 B0 : Nat) (A52 : Option Addr) (c52 : Nat) (spent : Int) (taken : List Bool) (W : World) : Prop :=
  BIn w A0 m c0 c W ∧ W.heap[b6]? = some (.cells #[.int .i64 (n : Int)] 3 (0, 0)) ∧ W.heap[b12]? = some (.cells #[.int .i64 spent] 3 (0, 0)) ∧ W.heap[b13]? = some (.cells #[.slice A52 n c52] 47 (0, 0)) ∧ Kd.R Kd.bool 4 W w.heap.size (fun k => k < B0) (.slice A52 n c52) taken ∧ B0 ≤ W.heap.size
theorem BL.below {w : World} {A0 : Option Addr} {m c0 : Nat} {c : Int} {n b6 b12 b13 B0 : Nat} {A52 : Option Addr} {c52 : Nat} {spent : Int} {taken : List Bool} {W V : World} (h : BL w A0 m c0 c n b6 b12 b13 B0 A52 c52 spent taken W) (hb : Below W.heap.size W V) : BL w A0 m c0 c n b6 b12 b13 B0 A52 c52 spent taken V :=
  ⟨h.1.below hb, heap_below hb h.2.1, heap_below hb h.2.2.1, heap_below hb h.2.2.2.1, Kd.R_below h.2.2.2.2.1 hb, Nat.le_trans h.2.2.2.2.2 hb.size⟩
theorem BL.drew {w : World} {A0 : Option Addr} {m c0 : Nat} {c : Int} {n b6 b12 b13 B0 : Nat} {A52 : Option Addr} {c52 : Nat} {spent : Int} {taken : List Bool} {W : World} (h : BL w A0 m c0 c n b6 b12 b13 B0 A52 c52 spent taken W) : BL w A0 m c0 c n b6 b12 b13 B0 A52 c52 spent taken W.drew :=
  ⟨h.1.drew, blk_drew h.2.1, blk_drew h.2.2.1, blk_drew h.2.2.2.1, Kd.R_drew h.2.2.2.2.1, h.2.2.2.2.2⟩
/-- Nothing below B0 turns. -/
theorem BL.old {w : World} {A0 : Option Addr} {m c0 : Nat} {c : Int} {n b6 b12 b13 B0 : Nat} {A52 : Option Addr} {c52 : Nat} {spent : Int} {taken : List Bool} {W V : World} (h : BL w A0 m c0 c n b6 b12 b13 B0 A52 c52 spent taken W) (hlt : b6 < B0 ∧ b12 < B0 ∧ b13 < B0 ∧ w.heap.size + 2 ≤ B0) (hb : Below B0 W V) (hs : ∀ k, k < B0 → V.heap[k]? = W.heap[k]?) (hsz : W.heap.size ≤ V.heap.size) : BL w A0 m c0 c n b6 b12 b13 B0 A52 c52 spent taken V :=
  ⟨⟨⟨hb.os.trans h.1.1.os, hb.tape.trans h.1.1.tape, hb.output.trans h.1.1.output, Nat.le_trans h.1.1.size hsz, fun i hi => (hs i (by omega)).trans (h.1.1.block i hi)⟩, (hs _ (by omega)).trans h.1.2.1, (hs _ (by omega)).trans h.1.2.2⟩, (hs _ hlt.1).trans h.2.1, (hs _ hlt.2.1).trans h.2.2.1, (hs _ hlt.2.2.1).trans h.2.2.2.1, R_stb h.2.2.2.2.1 (fun k hk => hs k (h.2.2.2.2.1.1 k hk)), Nat.le_trans h.2.2.2.2.2 hsz⟩
theorem inR_at {C : List (List Int)} {own : List Int} (h : inR C own = true) (i : Nat) (hi : i < own.length) : 0 ≤ rd own (i : Int) ∧ rd own (i : Int) < ((rd_L1 C (i : Int)).length : Int) := by
  unfold inR at h
  rw [Bool.and_eq_true] at h
  have := List.all_eq_true.1 h.2 i (List.mem_range.2 hi)
  simpa using this
theorem inR_len {C : List (List Int)} {own : List Int} (h : inR C own = true) : own.length ≤ C.length := by
  unfold inR at h
  rw [Bool.and_eq_true] at h
  simpa using h.1

set_option maxRecDepth 100000 in
set_option maxHeartbeats 8000000 in
theorem best_ok (A0 : Option Addr) (c0 : Nat) (l0 : List (List Int)) (n : Nat) (own r2 r3 TT : List Int) (c : Int) (w : World) (hr0 : Kd.C (Kd.slice 3 (Kd.int .i64)) w A0 l0.length l0) (hc0 : l0.length ≤ c0) (hk : assign_Check.f 64 l0 = some 0) (hwf : assign_width.f l0 = some (n : Int))
    (hm : l0.length ≤ 16) (hn16 : n ≤ 16) (hs : assign_solve.f 20000 l0 n = some (own, r2, r3, true)) (hin : inR l0 own = true) (hcc : bsum l0 own own.length = c) (hbo : bo l0 n c 64 0 (List.replicate n false) 0 [] = some TT) :
    Calls Try.prog 15 #[.slice A0 l0.length c0] w fun e w' => ∃ v0_ : Value, e = .returned (.tuple #[v0_, .int .i64 c, .bool true, .int .i64 0]) ∧ Kd.R (Kd.int .i64) 3 w' w.heap.size (fun _ => True) v0_ TT ∧ Below w.heap.size w w' := by
  have hu := Try.underlying3
  have HI := Aside0.mk (BIn.new w A0 l0.length c0)
  have HC := Aside0.mk (assign_Check.calls 64 A0 c0 l0 0 _ (Kd.C_below hr0 HI.out.1) hc0 hk)
  have c0_ := (blk_cell HI.out.2.1 0).trans rfl
  have HR0 := Aside0.mk hr0
  have HC0 := Aside0.mk hc0
  have HWF := Aside0.mk hwf
  have HS := Aside0.mk hs
  have HM := Aside0.mk hm
  have HN16 := Aside0.mk hn16
  have HIR := Aside0.mk hin
  have HCC := Aside0.mk hcc
  have HBO := Aside0.mk hbo
  clear hr0 hc0 hk hwf hs hm hn16 hin hcc hbo
  go_enter Try.func15, Try.ntmps15
  go_wp2_with fail
  refine HC.out.mono ?_
  rintro e w1 ⟨rfl, hb⟩
  have HI1 := Aside0.mk (HI.out.below hb)
  clear hb HI HC c0_
  have c0_ := (blk_cell HI1.out.2.1 0).trans rfl
  go_wp2_with fail
  refine (assign_width.calls A0 c0 l0 n _ (Kd.C_below HR0.out HI1.out.1) HC0.out HWF.out).mono ?_
  rintro e w' ⟨rfl, ⟨nd, rfl⟩⟩
  have HI1d := Aside0.mk (HI1.out.below (pw_below_drewN (Below.refl w1.heap.size w1) nd))
  generalize w1.drewN nd = wd at HI1d ⊢
  have HI2 := Aside0.mk (HI1d.out.below (below_alloc (Below.refl wd.heap.size wd) (.cells #[.int .i64 (n : Int)] 3 (0, 0))))
  have HB6 := Aside0.mk (heap_at_new wd (.cells #[.int .i64 (n : Int)] 3 (0, 0)) _ rfl)
  have H6G := Aside0.mk (show w.heap.size + 2 ≤ wd.heap.size from (Array.getElem?_eq_some_iff.1 HI1d.out.2.2).1)
  clear HI1 c0_
  go_upto_region 5 with fail
  obtain ⟨b6, hb6⟩ : ∃ b6, b6 = wd.heap.size := ⟨_, rfl⟩
  rw [← hb6] at HB6 H6G ⊢
  generalize wd.alloc (.cells #[.int .i64 (n : Int)] 3 (0, 0)) = w2 at HI2 HB6 ⊢
  clear HI1d hb6
  have c0_ := (blk_cell HI2.out.2.1 0).trans rfl
  have c6_ := (blk_cell HB6.out 0).trans rfl
  go_wp2_with fail
  refine (assign_solve.calls 20000 A0 c0 l0 n own r2 r3 true w2 (Kd.C_below HR0.out HI2.out.1) HC0.out HS.out).mono ?_
  rintro e w3 ⟨v0, v1, v2, rfl, h0, h1, h2, hb⟩
  have HI3 := Aside0.mk (HI2.out.below hb)
  have HB63 := Aside0.mk (heap_below hb HB6.out)
  have H62 := Aside0.mk (show b6 < w2.heap.size from (Array.getElem?_eq_some_iff.1 HB6.out).1)
  have HSZ := Aside0.mk hb.size
  obtain ⟨Ao, co, rfl⟩ := Kd.R_slice h0
  have HO := Aside0.mk (Kd.R_mono h0 (fun _ _ => (trivial : True)))
  clear h0 h1 h2 hb c0_ c6_ HI2 HB6
  go_wp2
  go_loopw [36] (fun i wr => ∃ ii : Nat, ii ≤ own.length ∧ i = .int .i64 ii ∧ Aside0 (BIn w A0 l0.length c0 (bsum l0 own ii) wr) ∧ Aside0 (wr.heap[b6]? = some (.cells #[.int .i64 (n : Int)] 3 (0, 0))) ∧ Aside0 (Kd.R (Kd.int .i64) 3 wr w2.heap.size (fun _ => True) (.slice Ao own.length co) own) ∧ Aside0 (w2.heap.size ≤ wr.heap.size)) (fun i _ => own.length - (intOf i).toNat)
  case atStart => exact ⟨0, Nat.zero_le _, rfl, HI3, HB63, HO, HSZ⟩
  case round =>
    clear HI3 HB63 HO HSZ
    obtain ⟨ii, hii, rfl, HI3, HB63, HO, HSZ⟩ := hrel
    by_cases hlt : ii < own.length
    · have hd1 : decide ((ii : Int) < (own.length : Int)) = true := decide_eq_true (by omega)
      have hd2 : decide (ii < own.length) = true := decide_eq_true hlt
      have hrg := inR_at HIR.out ii hlt
      have hle := inR_len HIR.out
      obtain ⟨ad, ead, hcell⟩ := Kd.at_int (Kd.R_reads' HO.out).2.2 (ii : Int) (by omega) (by omega)
      cases ead
      rw [Int.toNat_natCast] at hcell
      obtain ⟨ad0, A1, c1, e0, q0, q1, q2⟩ := at_L1 (Kd.C_below HR0.out HI3.out.1) (ii : Int) (by omega) (by omega)
      cases e0
      rw [Int.toNat_natCast] at q0
      obtain ⟨ad1, e1, q4⟩ := Kd.at_int q2 (rd own (ii : Int)) hrg.1 hrg.2
      cases e1
      have p0 : ((0 : Int) ≤ rd own (ii : Int)) = True := eq_true hrg.1
      have p1 : (rd own (ii : Int) < ((rd_L1 l0 (ii : Int)).length : Int)) = True := eq_true hrg.2
      have p2 : ((ii : Int) < (l0.length : Int)) = True := eq_true (by omega)
      have p3 : (ii < l0.length) = True := eq_true (by omega)
      have HST := Aside0.mk (show bsum l0 own (ii + 1) = wrap64 (bsum l0 own ii + rd (rd_L1 l0 (ii : Int)) (rd own (ii : Int))) from rfl)
      have hji : wrap64 ((ii : Int) + 1) = ((ii + 1 : Nat) : Int) := by unfold wrap64; have := HM.out; omega
      have S0_ := (blk_cell HI3.out.2.2 0).trans rfl
      have S1_ := (blk_cell HI3.out.2.1 0).trans rfl
      have S2_ := q0
      have S3_ := q4
      have HLT := Aside0.mk hlt
      clear q0 q4 q1 q2 hrg hle hii
      generalize bsum l0 own ii = cq at *
      go_upto_region 11 with fail
      have HQ_ := Aside0.mk (And.intro (blk_frozen (blk_drew HI3.out.2.2) 0) (And.intro HI3.out.drew (And.intro (blk_drew HB63.out) (And.intro (Kd.R_drew HO.out) (show w2.heap.size ≤ (World.drew wr).heap.size from HSZ.out)))))
      clear HI3 HB63 HO HSZ hcell hlt
      refine start_ (n := 10) (S := fun w' => w'.cell? ⟨w.heap.size + 1, 0, none⟩ = some (.int .i64 cq) ∧ w'.cell? ⟨w.heap.size, 0, none⟩ = some (.slice (some ad0) l0.length c0) ∧ w'.cell? (ad0.add ii) = some (.slice (some ad1) (rd_L1 l0 ((ii : Int))).length c1) ∧ w'.cell? (ad1.add (rd own (ii : Int)).toNat) = some (.int .i64 (rd (rd_L1 l0 ((ii : Int))) (rd own (ii : Int))))) (ds := [9]) #[false, false, false, false, false, false, false, false, false, false] (by kernel_rfl) rfl rfl ⟨S0_, S1_, S2_, S3_⟩ (fun hHeld => ?_)
      refine with_tabW best.tab11 best.bits11 (fun HT_ HW_ => ?_)
      have HQ := Aside0.mk HQ_.out
      generalize World.drew _ = Wd at hHeld HQ ⊢
      refine pure_ (i := 2) (N := some 43) (v := ?_) (a' := ?_) #[false, false, true, false, false, false, false, false, false, false] rfl rfl (any_of HT_.out (by kernel_rfl)) (fun _ _ _ h => h) (Or.inl ⟨by rfl, ?_⟩) ?_ ?_
      rotate_left
      · intro w'
        go_simp
        with_reducible rfl
      rotate_left
      · simp only [Act.put, List.setIfInBounds_toArray, List.set_cons_zero, List.set_cons_succ, i64_w, i32_w]
        rfl
      refine pure_ (i := 5) (N := some 46) (v := ?_) (a' := ?_) #[false, false, true, false, false, true, false, false, false, false] rfl rfl (any_of HT_.out (by kernel_rfl)) (fun _ _ _ h => h) (Or.inl ⟨by rfl, ?_⟩) ?_ ?_
      rotate_left
      · intro w'
        go_simp
        with_reducible rfl
      rotate_left
      · simp only [Act.put, List.setIfInBounds_toArray, List.set_cons_zero, List.set_cons_succ, i64_w, i32_w]
        rfl
      refine take_ (i := 0) (N := some 41) (v := ?_) (a' := ?_) #[true, false, true, false, false, true, false, false, false, false] rfl rfl (take_ofW HT_.out HW_.out (by kernel_rfl)) (fun _ _ _ h => h) (Or.inl ⟨by rfl, ?_⟩) hHeld ?_ ?_
      rotate_left
      · rintro w' ⟨s0, s1, s2, s3⟩
        go_simp
        with_reducible rfl
      rotate_left
      · simp only [Act.put, List.setIfInBounds_toArray, List.set_cons_zero, List.set_cons_succ, i64_w, i32_w]
        rfl
      refine take_ (i := 1) (N := some 42) (v := ?_) (a' := ?_) #[true, true, true, false, false, true, false, false, false, false] rfl rfl (take_ofW HT_.out HW_.out (by kernel_rfl)) (fun _ _ _ h => h) (Or.inl ⟨by rfl, ?_⟩) hHeld ?_ ?_
      rotate_left
      · rintro w' ⟨s0, s1, s2, s3⟩
        go_simp
        with_reducible rfl
      rotate_left
      · simp only [Act.put, List.setIfInBounds_toArray, List.set_cons_zero, List.set_cons_succ, i64_w, i32_w]
        rfl
      refine pure_ (i := 3) (N := some 44) (v := ?_) (a' := ?_) #[true, true, true, true, false, true, false, false, false, false] rfl rfl (any_of HT_.out (by kernel_rfl)) (fun _ _ _ h => h) (Or.inl ⟨by rfl, ?_⟩) ?_ ?_
      rotate_left
      · intro w'
        go_simp
        with_reducible rfl
      rotate_left
      · simp only [Act.put, List.setIfInBounds_toArray, List.set_cons_zero, List.set_cons_succ, i64_w, i32_w]
        rfl
      refine take_ (i := 4) (N := some 45) (v := ?_) (a' := ?_) #[true, true, true, true, true, true, false, false, false, false] rfl rfl (take_ofW HT_.out HW_.out (by kernel_rfl)) (fun _ _ _ h => h) (Or.inl ⟨by rfl, ?_⟩) hHeld ?_ ?_
      rotate_left
      · rintro w' ⟨s0, s1, s2, s3⟩
        go_simp
        with_reducible rfl
      rotate_left
      · simp only [Act.put, List.setIfInBounds_toArray, List.set_cons_zero, List.set_cons_succ, i64_w, i32_w]
        rfl
      refine pure_ (i := 6) (N := some 47) (v := ?_) (a' := ?_) #[true, true, true, true, true, true, true, false, false, false] rfl rfl (any_of HT_.out (by kernel_rfl)) (fun _ _ _ h => h) (Or.inl ⟨by rfl, ?_⟩) ?_ ?_
      rotate_left
      · intro w'
        go_simp
        with_reducible rfl
      rotate_left
      · simp only [Act.put, List.setIfInBounds_toArray, List.set_cons_zero, List.set_cons_succ, i64_w, i32_w]
        rfl
      refine take_ (i := 7) (N := some 48) (v := ?_) (a' := ?_) #[true, true, true, true, true, true, true, true, false, false] rfl rfl (take_ofW HT_.out HW_.out (by kernel_rfl)) (fun _ _ _ h => h) (Or.inl ⟨by rfl, ?_⟩) hHeld ?_ ?_
      rotate_left
      · rintro w' ⟨s0, s1, s2, s3⟩
        go_simp
        with_reducible rfl
      rotate_left
      · simp only [Act.put, List.setIfInBounds_toArray, List.set_cons_zero, List.set_cons_succ, i64_w, i32_w]
        rfl
      refine pure_ (i := 8) (N := some 49) (v := ?_) (a' := ?_) #[true, true, true, true, true, true, true, true, true, false] rfl rfl (any_of HT_.out (by kernel_rfl)) (fun _ _ _ h => h) (Or.inl ⟨by rfl, ?_⟩) ?_ ?_
      rotate_left
      · intro w'
        go_simp
        with_reducible rfl
      rotate_left
      · simp only [Act.put, List.setIfInBounds_toArray, List.set_cons_zero, List.set_cons_succ, i64_w, i32_w]
        rfl
      have fz_ := HQ.out.1
      refine last_ (i := 9) (N := none) #[true, true, true, true, true, true, true, true, true, true] rfl rfl (one_of HT_.out (by kernel_rfl)) (by decide) (fun K hK => ?_)
      refine skip_ (w1 := ?_) (by rfl) rfl ?_ ?_
      rotate_left
      · go_simp
        rfl
      refine hK.out _ _ ?_
      clear hK K
      refine done_ (done_of HT_.out (by kernel_rfl)) ?_
      go_wp2
      go_round
      case rel =>
        have hin := H6G.out
        have h62 := H62.out
        refine ⟨ii + 1, HLT.out, by first | rfl | rw [hji], ⟨by rw [HST.out]; exact HQ.out.2.1.put _⟩, ⟨blk_far HQ.out.2.2.1 (show b6 ≠ w.heap.size + 1 by omega) _⟩, ⟨R_st HQ.out.2.2.2.1 (fun k hk => ?_)⟩, ⟨by simpa using HQ.out.2.2.2.2⟩⟩
        have hb := Kd.R_base HQ.out.2.2.2.1 k hk
        exact Below.heap_setCell _ _ _ _ (show k ≠ w.heap.size + 1 by omega)
      case measure => have := HLT.out; rw [hji]; simp [intOf]; omega
    · have hd1 : decide ((ii : Int) < (own.length : Int)) = false := decide_eq_false (by omega)
      have hd2 : decide (ii < own.length) = false := decide_eq_false hlt
      have hie : ii = own.length := by omega
      rw [hie, HCC.out] at HI3
      clear hlt hie hii
      go_upto_region 13 with fail
      have HI4 := Aside0.mk HI3.out.drew
      have HB64 := Aside0.mk (blk_drew HB63.out)
      refine start_ (n := 6) (S := fun w' => w'.cell? ⟨b6, 0, none⟩ = some (.int .i64 (n : Int))) (ds := [5]) #[false, false, false, false, false, false] (by kernel_rfl) rfl rfl ((blk_cell HB64.out 0).trans rfl) (fun hHeld => ?_)
      refine with_tabW best.tab13 best.bits13 (fun HT_ HW_ => ?_)
      generalize World.drew _ = Wd at HI4 HB64 hHeld ⊢
      clear HI3 HB63 HO HSZ
      refine take_ (i := 0) (N := some 51) (v := ?_) (a' := ?_) #[true, false, false, false, false, false] rfl rfl (take_ofW HT_.out HW_.out (by kernel_rfl)) (fun _ _ _ h => h) (Or.inl ⟨by rfl, ?_⟩) hHeld ?_ ?_
      rotate_left
      · rintro w' s0
        go_simp
        with_reducible rfl
      rotate_left
      · simp only [Act.put, List.setIfInBounds_toArray, List.set_cons_zero, List.set_cons_succ, i64_w, i32_w]
        rfl
      have H6L := Aside0.mk (show (⟨b6, 0, none⟩ : Addr).block < Wd.heap.size from (Array.getElem?_eq_some_iff.1 HB64.out).1)
      have H6C := Aside0.mk (show Wd.cell? ⟨b6, 0, none⟩ = some (.int .i64 (n : Int)) from (blk_cell HB64.out 0).trans rfl)
      refine join_ (σ := Value × Nat × Nat) 1 #[true, true, true, true, true, false] (fun s_ => [(52, s_.1), (12, .pointer (some ⟨s_.2.1, 0, none⟩)), (13, .pointer (some ⟨s_.2.2, 0, none⟩))]) (fun s_ w' => Fs Wd n true true true s_.1 s_.2.1 s_.2.2 w') ?_ ?_
      rotate_left
      · intro hJ1_2_3_4
        refine join_ (σ := Value × Nat × Nat) 2 #[true, true, true, true, false, false] (fun s_ => [(52, s_.1), (12, .pointer (some ⟨s_.2.1, 0, none⟩)), (13, .pointer (some ⟨s_.2.2, 0, none⟩))]) (fun s_ w' => Fs Wd n true true true s_.1 s_.2.1 s_.2.2 w') ?_ ?_
        rotate_left
        · intro hJ1_2_3
          refine join_ (σ := Value × Nat × Nat) 2 #[true, false, true, true, true, false] (fun s_ => [(12, .pointer (some ⟨s_.2.1, 0, none⟩)), (13, .pointer (some ⟨s_.2.2, 0, none⟩))]) (fun s_ w' => Fs Wd n false true true s_.1 s_.2.1 s_.2.2 w') ?_ ?_
          rotate_left
          · intro hJ2_3_4
            refine join_ (σ := Value × Nat × Nat) 3 #[true, true, true, false, false, false] (fun s_ => [(52, s_.1), (12, .pointer (some ⟨s_.2.1, 0, none⟩))]) (fun s_ w' => Fs Wd n true true false s_.1 s_.2.1 s_.2.2 w') ?_ ?_
            rotate_left
            · intro hJ1_2
              refine join_ (σ := Value × Nat × Nat) 3 #[true, true, false, true, false, false] (fun s_ => [(52, s_.1), (13, .pointer (some ⟨s_.2.2, 0, none⟩))]) (fun s_ w' => Fs Wd n true false true s_.1 s_.2.1 s_.2.2 w') ?_ ?_
              rotate_left
              · intro hJ1_3
                refine join_ (σ := Value × Nat × Nat) 3 #[true, false, true, true, false, false] (fun s_ => [(12, .pointer (some ⟨s_.2.1, 0, none⟩)), (13, .pointer (some ⟨s_.2.2, 0, none⟩))]) (fun s_ w' => Fs Wd n false true true s_.1 s_.2.1 s_.2.2 w') ?_ ?_
                rotate_left
                · intro hJ2_3
                  refine join_ (σ := Value × Nat × Nat) 4 #[true, true, false, false, false, false] (fun s_ => [(52, s_.1)]) (fun s_ w' => Fs Wd n true false false s_.1 s_.2.1 s_.2.2 w') ?_ ?_
                  rotate_left
                  · intro hJ1
                    refine join_ (σ := Value × Nat × Nat) 4 #[true, false, true, false, false, false] (fun s_ => [(12, .pointer (some ⟨s_.2.1, 0, none⟩))]) (fun s_ w' => Fs Wd n false true false s_.1 s_.2.1 s_.2.2 w') ?_ ?_
                    rotate_left
                    · intro hJ2
                      refine join_ (σ := Value × Nat × Nat) 4 #[true, false, false, true, false, false] (fun s_ => [(13, .pointer (some ⟨s_.2.2, 0, none⟩))]) (fun s_ w' => Fs Wd n false false true s_.1 s_.2.1 s_.2.2 w') ?_ ?_
                      rotate_left
                      · intro hJ3
                        have hF : Fs Wd n false false false (.slice none 0 0) 0 0 Wd := ⟨Below.refl _ _, by simp, by simp, by simp⟩
                        refine three_ (i := 1) (j := 2) (k := 3) (Ni := some 52) (Nj := some 12) (Nk := some 13) #[true, true, false, false, false, false] #[true, false, true, false, false, false] #[true, false, false, true, false, false] rfl rfl rfl rfl rfl rfl (three_of HT_.out (by kernel_rfl)) (by decide) (by decide) (by decide) (fun K hK => ?_) (fun K hK => ?_) (fun K hK => ?_)
                        · skip
                          refine Kd.R_make_step Kd.bool _ 4 (by rfl) (N := 52) rfl 47 _ _ rfl (n : Int) rfl rfl Try.underlying47 (.bool false) 1 info4 rfl (by decide) (by decide) false (ok := fun _ => True) (okp := fun _ => True) rfl (fun _ hk => hk) trivial (by omega) (by have := HN16.out; omega) (Below.refl _ _) (Nat.le_refl _) ?_
                          intro v52_ W9 ho hb hg_ hnew_
                          clear hg_ hnew_
                          rw [Int.toNat_natCast] at ho
                          refine hK.out _ _ ((below_step hF.1 hb).cell H6L.out |>.trans H6C.out) (fun hHeld => ?_)
                          clear hK K
                          exact norm_ (by first | (simp only [putAll, Act.put, List.setIfInBounds_toArray, List.set_cons_zero, List.set_cons_succ]; done) | (simp only [putAll, Act.put, List.setIfInBounds_toArray, List.set_cons_zero, List.set_cons_succ]; rfl)) (hJ1 (v52_, 0, 0) _ (hF.s1 hb ho))
                        · skip
                          refine value_ (v := .pointer (some ⟨Wd.heap.size, 0, none⟩)) (w1 := Wd.alloc (.cells #[.int .i64 0] 3 (0, 0))) (by rfl) rfl ?_ ?_
                          · go_simp; try rfl
                          refine hK.out _ _ ((below_alloc hF.1 _).cell H6L.out |>.trans H6C.out) (fun hHeld => ?_)
                          clear hK K
                          exact norm_ (by first | (simp only [putAll, Act.put, List.setIfInBounds_toArray, List.set_cons_zero, List.set_cons_succ]; done) | (simp only [putAll, Act.put, List.setIfInBounds_toArray, List.set_cons_zero, List.set_cons_succ]; rfl)) (hJ2 ((Value.slice none 0 0), Wd.heap.size, 0) _ (hF.s2))
                        · skip
                          refine value_ (v := .pointer (some ⟨Wd.heap.size, 0, none⟩)) (w1 := Wd.alloc (.cells #[.slice none 0 0] 47 (0, 0))) (by rfl) rfl ?_ ?_
                          · go_simp; try rfl
                          refine hK.out _ _ ((below_alloc hF.1 _).cell H6L.out |>.trans H6C.out) (fun hHeld => ?_)
                          clear hK K
                          exact norm_ (by first | (simp only [putAll, Act.put, List.setIfInBounds_toArray, List.set_cons_zero, List.set_cons_succ]; done) | (simp only [putAll, Act.put, List.setIfInBounds_toArray, List.set_cons_zero, List.set_cons_succ]; rfl)) (hJ3 ((Value.slice none 0 0), 0, Wd.heap.size) _ (hF.s3))
                      rintro ⟨v52, b12, b13⟩ W8 hF
                      refine norm_ (a' := ?_) ?_ ?_
                      rotate_left
                      · simp only [putAll, Act.put, List.setIfInBounds_toArray, List.set_cons_zero, List.set_cons_succ]
                        rfl
                      refine two_ (i := 1) (j := 2) (Ni := some 52) (Nj := some 12) #[true, true, false, true, false, false] #[true, false, true, true, false, false] rfl rfl rfl rfl (two_of HT_.out (by kernel_rfl)) (by decide) (by decide) (fun K hK => ?_) (fun K hK => ?_)
                      · skip
                        refine Kd.R_make_step Kd.bool _ 4 (by rfl) (N := 52) rfl 47 _ _ rfl (n : Int) rfl rfl Try.underlying47 (.bool false) 1 info4 rfl (by decide) (by decide) false (ok := fun _ => True) (okp := fun _ => True) rfl (fun _ hk => hk) trivial (by omega) (by have := HN16.out; omega) (Below.refl _ _) (Nat.le_refl _) ?_
                        intro v52_ W9 ho hb hg_ hnew_
                        clear hg_ hnew_
                        rw [Int.toNat_natCast] at ho
                        refine hK.out _ _ ((below_step hF.1 hb).cell H6L.out |>.trans H6C.out) (fun hHeld => ?_)
                        clear hK K
                        exact norm_ (by first | (simp only [putAll, Act.put, List.setIfInBounds_toArray, List.set_cons_zero, List.set_cons_succ]; done) | (simp only [putAll, Act.put, List.setIfInBounds_toArray, List.set_cons_zero, List.set_cons_succ]; rfl)) (hJ1_3 (v52_, b12, b13) _ (hF.s1 hb ho))
                      · skip
                        refine value_ (v := .pointer (some ⟨W8.heap.size, 0, none⟩)) (w1 := W8.alloc (.cells #[.int .i64 0] 3 (0, 0))) (by rfl) rfl ?_ ?_
                        · go_simp; try rfl
                        refine hK.out _ _ ((below_alloc hF.1 _).cell H6L.out |>.trans H6C.out) (fun hHeld => ?_)
                        clear hK K
                        exact norm_ (by first | (simp only [putAll, Act.put, List.setIfInBounds_toArray, List.set_cons_zero, List.set_cons_succ]; done) | (simp only [putAll, Act.put, List.setIfInBounds_toArray, List.set_cons_zero, List.set_cons_succ]; rfl)) (hJ2_3 (v52, W8.heap.size, b13) _ (hF.s2))
                    rintro ⟨v52, b12, b13⟩ W8 hF
                    refine norm_ (a' := ?_) ?_ ?_
                    rotate_left
                    · simp only [putAll, Act.put, List.setIfInBounds_toArray, List.set_cons_zero, List.set_cons_succ]
                      rfl
                    refine two_ (i := 1) (j := 3) (Ni := some 52) (Nj := some 13) #[true, true, true, false, false, false] #[true, false, true, true, false, false] rfl rfl rfl rfl (two_of HT_.out (by kernel_rfl)) (by decide) (by decide) (fun K hK => ?_) (fun K hK => ?_)
                    · skip
                      refine Kd.R_make_step Kd.bool _ 4 (by rfl) (N := 52) rfl 47 _ _ rfl (n : Int) rfl rfl Try.underlying47 (.bool false) 1 info4 rfl (by decide) (by decide) false (ok := fun _ => True) (okp := fun _ => True) rfl (fun _ hk => hk) trivial (by omega) (by have := HN16.out; omega) (Below.refl _ _) (Nat.le_refl _) ?_
                      intro v52_ W9 ho hb hg_ hnew_
                      clear hg_ hnew_
                      rw [Int.toNat_natCast] at ho
                      refine hK.out _ _ ((below_step hF.1 hb).cell H6L.out |>.trans H6C.out) (fun hHeld => ?_)
                      clear hK K
                      exact norm_ (by first | (simp only [putAll, Act.put, List.setIfInBounds_toArray, List.set_cons_zero, List.set_cons_succ]; done) | (simp only [putAll, Act.put, List.setIfInBounds_toArray, List.set_cons_zero, List.set_cons_succ]; rfl)) (hJ1_2 (v52_, b12, b13) _ (hF.s1 hb ho))
                    · skip
                      refine value_ (v := .pointer (some ⟨W8.heap.size, 0, none⟩)) (w1 := W8.alloc (.cells #[.slice none 0 0] 47 (0, 0))) (by rfl) rfl ?_ ?_
                      · go_simp; try rfl
                      refine hK.out _ _ ((below_alloc hF.1 _).cell H6L.out |>.trans H6C.out) (fun hHeld => ?_)
                      clear hK K
                      exact norm_ (by first | (simp only [putAll, Act.put, List.setIfInBounds_toArray, List.set_cons_zero, List.set_cons_succ]; done) | (simp only [putAll, Act.put, List.setIfInBounds_toArray, List.set_cons_zero, List.set_cons_succ]; rfl)) (hJ2_3 (v52, b12, W8.heap.size) _ (hF.s3))
                  rintro ⟨v52, b12, b13⟩ W8 hF
                  refine norm_ (a' := ?_) ?_ ?_
                  rotate_left
                  · simp only [putAll, Act.put, List.setIfInBounds_toArray, List.set_cons_zero, List.set_cons_succ]
                    rfl
                  refine two_ (i := 2) (j := 3) (Ni := some 12) (Nj := some 13) #[true, true, true, false, false, false] #[true, true, false, true, false, false] rfl rfl rfl rfl (two_of HT_.out (by kernel_rfl)) (by decide) (by decide) (fun K hK => ?_) (fun K hK => ?_)
                  · skip
                    refine value_ (v := .pointer (some ⟨W8.heap.size, 0, none⟩)) (w1 := W8.alloc (.cells #[.int .i64 0] 3 (0, 0))) (by rfl) rfl ?_ ?_
                    · go_simp; try rfl
                    refine hK.out _ _ ((below_alloc hF.1 _).cell H6L.out |>.trans H6C.out) (fun hHeld => ?_)
                    clear hK K
                    exact norm_ (by first | (simp only [putAll, Act.put, List.setIfInBounds_toArray, List.set_cons_zero, List.set_cons_succ]; done) | (simp only [putAll, Act.put, List.setIfInBounds_toArray, List.set_cons_zero, List.set_cons_succ]; rfl)) (hJ1_2 (v52, W8.heap.size, b13) _ (hF.s2))
                  · skip
                    refine value_ (v := .pointer (some ⟨W8.heap.size, 0, none⟩)) (w1 := W8.alloc (.cells #[.slice none 0 0] 47 (0, 0))) (by rfl) rfl ?_ ?_
                    · go_simp; try rfl
                    refine hK.out _ _ ((below_alloc hF.1 _).cell H6L.out |>.trans H6C.out) (fun hHeld => ?_)
                    clear hK K
                    exact norm_ (by first | (simp only [putAll, Act.put, List.setIfInBounds_toArray, List.set_cons_zero, List.set_cons_succ]; done) | (simp only [putAll, Act.put, List.setIfInBounds_toArray, List.set_cons_zero, List.set_cons_succ]; rfl)) (hJ1_3 (v52, b12, W8.heap.size) _ (hF.s3))
                rintro ⟨v52, b12, b13⟩ W8 hF
                refine norm_ (a' := ?_) ?_ ?_
                rotate_left
                · simp only [putAll, Act.put, List.setIfInBounds_toArray, List.set_cons_zero, List.set_cons_succ]
                  rfl
                refine two_ (i := 1) (j := 4) (Ni := some 52) (Nj := none) #[true, true, true, true, false, false] #[true, false, true, true, true, false] rfl rfl rfl rfl (two_of HT_.out (by kernel_rfl)) (by decide) (by decide) (fun K hK => ?_) (fun K hK => ?_)
                · skip
                  refine Kd.R_make_step Kd.bool _ 4 (by rfl) (N := 52) rfl 47 _ _ rfl (n : Int) rfl rfl Try.underlying47 (.bool false) 1 info4 rfl (by decide) (by decide) false (ok := fun _ => True) (okp := fun _ => True) rfl (fun _ hk => hk) trivial (by omega) (by have := HN16.out; omega) (Below.refl _ _) (Nat.le_refl _) ?_
                  intro v52_ W9 ho hb hg_ hnew_
                  clear hg_ hnew_
                  rw [Int.toNat_natCast] at ho
                  refine hK.out _ _ ((below_step hF.1 hb).cell H6L.out |>.trans H6C.out) (fun hHeld => ?_)
                  clear hK K
                  exact norm_ (by first | (simp only [putAll, Act.put, List.setIfInBounds_toArray, List.set_cons_zero, List.set_cons_succ]; done) | (simp only [putAll, Act.put, List.setIfInBounds_toArray, List.set_cons_zero, List.set_cons_succ]; rfl)) (hJ1_2_3 (v52_, b12, b13) _ (hF.s1 hb ho))
                · skip
                  have x_ := (blk_cell (hF.2.2.1 rfl).2 0).trans rfl
                  have f_ := blk_frozen (hF.2.2.1 rfl).2 0
                  refine skip_ (w1 := W8.setCell ⟨b12, 0, none⟩ (.int .i64 0)) (by rfl) rfl ?_ ?_
                  · go_simp; try rfl
                  refine hK.out _ _ ((hF.s4 rfl).1.cell H6L.out |>.trans H6C.out) (fun hHeld => ?_)
                  clear hK K
                  exact norm_ (by first | (simp only [putAll, Act.put, List.setIfInBounds_toArray, List.set_cons_zero, List.set_cons_succ]; done) | (simp only [putAll, Act.put, List.setIfInBounds_toArray, List.set_cons_zero, List.set_cons_succ]; rfl) | rfl) (hJ2_3_4 (v52, b12, b13) _ (hF.s4 rfl))
              rintro ⟨v52, b12, b13⟩ W8 hF
              refine norm_ (a' := ?_) ?_ ?_
              rotate_left
              · simp only [putAll, Act.put, List.setIfInBounds_toArray, List.set_cons_zero, List.set_cons_succ]
                rfl
              refine one_ (i := 2) (N := some 12) #[true, true, true, true, false, false] rfl rfl (one_of HT_.out (by kernel_rfl)) (by decide) (fun K hK => ?_)
              refine value_ (v := .pointer (some ⟨W8.heap.size, 0, none⟩)) (w1 := W8.alloc (.cells #[.int .i64 0] 3 (0, 0))) (by rfl) rfl ?_ ?_
              · go_simp; try rfl
              refine hK.out _ _ ((below_alloc hF.1 _).cell H6L.out |>.trans H6C.out) (fun hHeld => ?_)
              clear hK K
              exact norm_ (by first | (simp only [putAll, Act.put, List.setIfInBounds_toArray, List.set_cons_zero, List.set_cons_succ]; done) | (simp only [putAll, Act.put, List.setIfInBounds_toArray, List.set_cons_zero, List.set_cons_succ]; rfl)) (hJ1_2_3 (v52, W8.heap.size, b13) _ (hF.s2))
            rintro ⟨v52, b12, b13⟩ W8 hF
            refine norm_ (a' := ?_) ?_ ?_
            rotate_left
            · simp only [putAll, Act.put, List.setIfInBounds_toArray, List.set_cons_zero, List.set_cons_succ]
              rfl
            refine one_ (i := 3) (N := some 13) #[true, true, true, true, false, false] rfl rfl (one_of HT_.out (by kernel_rfl)) (by decide) (fun K hK => ?_)
            refine value_ (v := .pointer (some ⟨W8.heap.size, 0, none⟩)) (w1 := W8.alloc (.cells #[.slice none 0 0] 47 (0, 0))) (by rfl) rfl ?_ ?_
            · go_simp; try rfl
            refine hK.out _ _ ((below_alloc hF.1 _).cell H6L.out |>.trans H6C.out) (fun hHeld => ?_)
            clear hK K
            exact norm_ (by first | (simp only [putAll, Act.put, List.setIfInBounds_toArray, List.set_cons_zero, List.set_cons_succ]; done) | (simp only [putAll, Act.put, List.setIfInBounds_toArray, List.set_cons_zero, List.set_cons_succ]; rfl)) (hJ1_2_3 (v52, b12, W8.heap.size) _ (hF.s3))
          rintro ⟨v52, b12, b13⟩ W8 hF
          refine norm_ (a' := ?_) ?_ ?_
          rotate_left
          · simp only [putAll, Act.put, List.setIfInBounds_toArray, List.set_cons_zero, List.set_cons_succ]
            rfl
          refine one_ (i := 1) (N := some 52) #[true, true, true, true, true, false] rfl rfl (one_of HT_.out (by kernel_rfl)) (by decide) (fun K hK => ?_)
          refine Kd.R_make_step Kd.bool _ 4 (by rfl) (N := 52) rfl 47 _ _ rfl (n : Int) rfl rfl Try.underlying47 (.bool false) 1 info4 rfl (by decide) (by decide) false (ok := fun _ => True) (okp := fun _ => True) rfl (fun _ hk => hk) trivial (by omega) (by have := HN16.out; omega) (Below.refl _ _) (Nat.le_refl _) ?_
          intro v52_ W9 ho hb hg_ hnew_
          clear hg_ hnew_
          rw [Int.toNat_natCast] at ho
          refine hK.out _ _ ((below_step hF.1 hb).cell H6L.out |>.trans H6C.out) (fun hHeld => ?_)
          clear hK K
          exact norm_ (by first | (simp only [putAll, Act.put, List.setIfInBounds_toArray, List.set_cons_zero, List.set_cons_succ]; done) | (simp only [putAll, Act.put, List.setIfInBounds_toArray, List.set_cons_zero, List.set_cons_succ]; rfl)) (hJ1_2_3_4 (v52_, b12, b13) _ (hF.s1 hb ho))
        rintro ⟨v52, b12, b13⟩ W8 hF
        refine norm_ (a' := ?_) ?_ ?_
        rotate_left
        · simp only [putAll, Act.put, List.setIfInBounds_toArray, List.set_cons_zero, List.set_cons_succ]
          rfl
        refine one_ (i := 4) (N := none) #[true, true, true, true, true, false] rfl rfl (one_of HT_.out (by kernel_rfl)) (by decide) (fun K hK => ?_)
        have x_ := (blk_cell (hF.2.2.1 rfl).2 0).trans rfl
        have f_ := blk_frozen (hF.2.2.1 rfl).2 0
        refine skip_ (w1 := W8.setCell ⟨b12, 0, none⟩ (.int .i64 0)) (by rfl) rfl ?_ ?_
        · go_simp; try rfl
        refine hK.out _ _ ((hF.s4 rfl).1.cell H6L.out |>.trans H6C.out) (fun hHeld => ?_)
        clear hK K
        exact norm_ (by first | (simp only [putAll, Act.put, List.setIfInBounds_toArray, List.set_cons_zero, List.set_cons_succ]; done) | (simp only [putAll, Act.put, List.setIfInBounds_toArray, List.set_cons_zero, List.set_cons_succ]; rfl) | rfl) (hJ1_2_3_4 (v52, b12, b13) _ (hF.s4 rfl))
      rintro ⟨v52, b12, b13⟩ W8 hF
      refine norm_ (a' := ?_) ?_ ?_
      rotate_left
      · simp only [putAll, Act.put, List.setIfInBounds_toArray, List.set_cons_zero, List.set_cons_succ]
        rfl
      have hb13 := hF.2.2.2 rfl
      have hb12 := hF.2.2.1 rfl
      have hR52 := hF.2.1 rfl
      simp only at hb13 hb12 hR52
      obtain ⟨A52, c52, hv52⟩ := Kd.R_slice hR52
      rw [List.length_replicate] at hv52
      subst hv52
      have x_ := (blk_cell hb13.2 0).trans rfl
      have f_ := blk_frozen hb13.2 0
      refine last_ (i := 5) (N := none) #[true, true, true, true, true, true] rfl rfl (one_of HT_.out (by kernel_rfl)) (by decide) (fun K hK => ?_)
      refine skip_ (w1 := W8.setCell ⟨b13, 0, none⟩ (.slice A52 n c52)) (by rfl) rfl ?_ ?_
      · go_simp; try rfl
      refine hK.out _ _ ?_
      clear hK K
      refine done_ (done_of HT_.out (by kernel_rfl)) ?_
      have hnn : b12 ≠ b13 := fun e => by have h3 := hb13.2; rw [← e, hb12.2] at h3; cases h3
      have hWs := hF.1.size
      have h6l := H6L.out
      simp only at h6l
      have HKN := Aside0.mk (show (w.heap.size + 2 ≤ b6 ∧ w.heap.size + 2 ≤ b12 ∧ w.heap.size + 2 ≤ b13) ∧ (b6 < W8.heap.size ∧ b12 < W8.heap.size ∧ b13 < W8.heap.size ∧ w.heap.size + 2 ≤ W8.heap.size) ∧ b6 ≠ b12 ∧ b6 ≠ b13 ∧ b12 ≠ b13 from by
        have h1 := H6G.out
        have h2 := (Array.getElem?_eq_some_iff.1 hb12.2).1
        have h3 := (Array.getElem?_eq_some_iff.1 hb13.2).1
        have h4 := hb12.1
        have h5 := hb13.1
        refine ⟨⟨by omega, by omega, by omega⟩, ⟨by omega, h2, h3, by omega⟩, by omega, by omega, hnn⟩)
      have HBL := Aside0.mk (show BL w A0 l0.length c0 c n b6 b12 b13 W8.heap.size A52 c52 0 (List.replicate n false) (W8.setCell ⟨b13, 0, none⟩ (.slice A52 n c52)) from
        ⟨(HI4.out.below hF.1).far HKN.out.1.2.2 _, blk_far (heap_below hF.1 HB64.out) HKN.out.2.2.2.1 _, blk_far hb12.2 HKN.out.2.2.2.2 _, blk_put hb13.2 0 _ rfl,
          Kd.R_of_own (Kd.own_of_R (Kd.R_lower (R_stb hR52 (fun k hk => Below.heap_setCell _ _ _ _ (fun e => Kd.R_ne hR52 hb13.2 (by decide) (by rw [hk]; exact congrArg some (show b13 = k from e.symm))))) (HI4.out.1.size))) (fun k hk => Kd.R_lt hR52 k hk), by simp⟩)
      obtain ⟨B0, hB0⟩ : ∃ B0, B0 = W8.heap.size := ⟨_, rfl⟩
      rw [← hB0] at HKN HBL
      generalize W8.setCell ⟨b13, 0, none⟩ (.slice A52 n c52) = W9 at HBL ⊢
      clear hB0 hWs h6l hnn x_ f_ hb13 hb12 hR52 hF HI4 HB64 hHeld HT_ HW_ H6L H6C
      have c1_ := (blk_cell HBL.out.1.2.1 0).trans rfl
      go_wp2
      clear c1_
      go_loopg [2, 56] 64 (fun g v2 i wr => ∃ (iz : Int) (taken : List Bool) (spent : Int) (tt : List Int), i = .int .i64 iz ∧ Aside0 (bo l0 n c g iz taken spent tt = some TT) ∧ Aside0 (0 ≤ iz ∧ iz ≤ 32) ∧ Aside0 (taken.length = n) ∧ Aside0 (BL w A0 l0.length c0 c n b6 b12 b13 B0 A52 c52 spent taken wr) ∧ Aside0 (Kd.R (Kd.int .i64) 3 wr B0 (fun _ => True) v2 tt))
      case atStart => exact ⟨0, List.replicate n false, 0, [], rfl, HBO, ⟨by omega⟩, ⟨List.length_replicate⟩, HBL, ⟨Kd.R_nil _ _ _ _ _⟩⟩
      case round =>
        clear HBO HBL
        obtain ⟨iz, taken, spent, tt, rfl, HA, HIZ, HTL, HBL, HTO⟩ := hrel
        cases gk with
        | zero => exact absurd HA.out (by simp [bo])
        | succ f =>
          have H := HA.out
          clear HA
          simp only [bo] at H
          by_cases hlt : iz < (l0.length : Int)
          · rw [if_pos hlt] at H
            have hd1 : decide (iz < (l0.length : Int)) = true := decide_eq_true hlt
            obtain ⟨jz, hj, H⟩ := Option.bind_eq_some_iff.1 H
            by_cases hg : 0 ≤ jz ∧ jz < (taken.length : Int) ∧ jz < ((rd_L1 l0 iz).length : Int) ∧ tt.length ≤ 1000
            · rw [if_pos hg] at H
              have H' := Aside0.mk H
              have HG := Aside0.mk hg
              have HJ := Aside0.mk hj
              have HLT := Aside0.mk hlt
              clear H hg hj hlt
              go_wp2
              generalize wr = w10 at *
              go_loopg [16] 64 (fun g v16 wr2 => ∃ jq : Int, v16 = .int .i64 jq ∧ Aside0 (fj l0 taken n spent c iz g jq = some jz) ∧ Aside0 (Below w10.heap.size w10 wr2))
              case atStart => exact ⟨0, rfl, HJ, ⟨Below.refl _ _⟩⟩
              case round =>
                clear HJ
                obtain ⟨jq, rfl, HA, HB⟩ := hrel
                cases gk with
                | zero => exact absurd HA.out (by simp [fj])
                | succ g =>
                  have H := HA.out
                  clear HA
                  simp only [fj] at H
                  obtain ⟨b, hb, H⟩ := Option.bind_eq_some_iff.1 H
                  have HBL2 := Aside0.mk (HBL.out.below HB.out)
                  have hRd := Kd.R_reads' HBL2.out.2.2.2.2.1
                  have hx := assign_cheap.calls 2000 iz jq A52 c52 taken A0 c0 l0 n spent c b13 w.heap.size b6 b12 (w.heap.size + 1) b wr hRd.2.2 (by rw [HTL.out]; exact hRd.2.1) (Kd.C_below HR0.out HBL2.out.1.1) HC0.out (by rw [HTL.out]; exact HBL2.out.2.2.2.1) HBL2.out.1.2.1 HBL2.out.2.1 HBL2.out.2.2.1 HBL2.out.1.2.2 (by have := HM.out; omega) hb
                  have HX := Aside0.mk hx
                  clear hRd hx hb
                  cases b with
                  | false =>
                    rw [if_neg (by decide)] at H
                    have H' := Aside0.mk H
                    clear H
                    go_wp2_with fail
                    refine HX.out.mono ?_
                    rintro e w11 ⟨rfl, hbb⟩
                    have HB2 := Aside0.mk (below_step HB.out hbb)
                    clear hbb HX
                    go_wp2
                    go_roundg g
                    case measure => omega
                    case rel => exact ⟨wrap64 (jq + 1), rfl, H', HB2⟩
                  | true =>
                    rw [if_pos rfl] at H
                    obtain rfl := Option.some.inj H
                    clear H
                    go_wp2_with fail
                    refine HX.out.mono ?_
                    rintro e w11 ⟨rfl, hbb⟩
                    have HBL3 := Aside0.mk (HBL2.out.below hbb)
                    have HTO3 := Aside0.mk (Kd.R_below (Kd.R_below HTO.out HB.out) hbb)
                    have HB03 := Aside0.mk HBL3.out.2.2.2.2.2
                    clear hbb HX HBL2
                    go_wp2_with ((with_reducible refine gate_builtin (b := .append) (xs := #[.tmp 66, .tmp 68]) rfl ?_); at_builtin; refine Kd.R_append (Kd.int .i64) (w0 := w11) B0 rfl (.tmp 66) (.tmp 68) 23 3 (.int .i64 0) 8 rfl Try.underlying23 info3 rfl (by decide) (by decide) u2 tt jq [.int .i64 jq] (fun _ => True) (fun _ => False) rfl rfl ?aP (fun _ hk => hk.elim) (fun _ _ => trivial) ?aO ?aB ?aS ?aL ?_)
                    case aP => exact rfl
                    case aO => exact HTO3.out
                    case aB => exact below_any _ _
                    case aS => exact HB03.out
                    case aL => have := HG.out.2.2.2; omega
                    intro v3 w12 ho hb3 hg3 hat3
                    have hsz3 := hb3.size
                    have HBL4 := Aside0.mk (HBL3.out.old HKN.out.2.1 hb3 (fun k hk => hb3.block k hk) hsz3)
                    have HTO4 := Aside0.mk ho
                    clear ho hb3 hg3 hat3 hsz3 HBL3 HTO3 HB03
                    obtain ⟨g52, cap52, ev52, hgb52, hgl52, cl52, HG52⟩ := Kd.R_form HBL4.out.2.2.2.2.1 (by have := HG.out; omega)
                    have hg52B := HBL4.out.2.2.2.2.1.1 g52 (by rw [ev52]; rfl)
                    rw [HTL.out] at ev52
                    injection ev52 with ea_ en_ ec_
                    subst ea_ ec_
                    clear en_
                    obtain ⟨iN, hiN⟩ : ∃ iN : Nat, (iN : Int) = iz := ⟨iz.toNat, Int.toNat_of_nonneg HIZ.out.1⟩
                    obtain ⟨ad0, A1, c1, e0, q0, q1, q2⟩ := at_L1 (Kd.C_below HR0.out HBL4.out.1.1) iz HIZ.out.1 HLT.out
                    cases e0
                    obtain ⟨ad1, e1, q4⟩ := Kd.at_int q2 jq HG.out.1 HG.out.2.2.1
                    cases e1
                    have p0 : ((0 : Int) ≤ jq) = True := eq_true HG.out.1
                    have p1 : (jq < ((rd_L1 l0 iz).length : Int)) = True := eq_true HG.out.2.2.1
                    have p2 : (iz < (l0.length : Int)) = True := eq_true HLT.out
                    have p3 : ((0 : Int) ≤ iz) = True := eq_true HIZ.out.1
                    have S0_ := (blk_cell HBL4.out.2.2.1 0).trans rfl
                    have S1_ := (blk_cell HBL4.out.1.2.1 0).trans rfl
                    have S2_ := q0
                    have S3_ := q4
                    have HGB := Aside0.mk (And.intro hgb52 hg52B)
                    clear q0 q4 q1 q2 hgb52 hgl52 hg52B
                    try go_wp2
                    have HQ_ := Aside0.mk (And.intro (blk_frozen (blk_drew HBL4.out.2.2.1) 0) (And.intro HBL4.out.drew (And.intro (Kd.R_drew HTO4.out) (blk_drew HG52))))
                    clear HBL4 HTO4 HG52
                    refine start_ (n := 10) (S := fun w' => w'.cell? ⟨b12, 0, none⟩ = some (.int .i64 spent) ∧ w'.cell? ⟨w.heap.size, 0, none⟩ = some (.slice (some ad0) l0.length c0) ∧ w'.cell? (ad0.add (iz).toNat) = some (.slice (some ad1) (rd_L1 l0 (iz)).length c1) ∧ w'.cell? (ad1.add (jq).toNat) = some (.int .i64 (rd (rd_L1 l0 (iz)) (jq)))) (ds := [9]) #[false, false, false, false, false, false, false, false, false, false] (by kernel_rfl) rfl rfl ⟨S0_, S1_, S2_, S3_⟩ (fun hHeld => ?_)
                    refine with_tabW best.tab22 best.bits22 (fun HT_ HW_ => ?_)
                    have HQ := Aside0.mk HQ_.out
                    generalize World.drew _ = Wd at hHeld HQ ⊢
                    refine pure_ (i := 2) (N := some 72) (v := ?_) (a' := ?_) #[false, false, true, false, false, false, false, false, false, false] rfl rfl (any_of HT_.out (by kernel_rfl)) (fun _ _ _ h => h) (Or.inl ⟨by rfl, ?_⟩) ?_ ?_
                    rotate_left
                    · intro w'
                      go_simp
                      with_reducible rfl
                    rotate_left
                    · simp only [Act.put, List.setIfInBounds_toArray, List.set_cons_zero, List.set_cons_succ, i64_w, i32_w]
                      rfl
                    refine pure_ (i := 5) (N := some 75) (v := ?_) (a' := ?_) #[false, false, true, false, false, true, false, false, false, false] rfl rfl (any_of HT_.out (by kernel_rfl)) (fun _ _ _ h => h) (Or.inl ⟨by rfl, ?_⟩) ?_ ?_
                    rotate_left
                    · intro w'
                      go_simp
                      with_reducible rfl
                    rotate_left
                    · simp only [Act.put, List.setIfInBounds_toArray, List.set_cons_zero, List.set_cons_succ, i64_w, i32_w]
                      rfl
                    refine take_ (i := 0) (N := some 70) (v := ?_) (a' := ?_) #[true, false, true, false, false, true, false, false, false, false] rfl rfl (take_ofW HT_.out HW_.out (by kernel_rfl)) (fun _ _ _ h => h) (Or.inl ⟨by rfl, ?_⟩) hHeld ?_ ?_
                    rotate_left
                    · rintro w' ⟨s0, s1, s2, s3⟩
                      go_simp
                      with_reducible rfl
                    rotate_left
                    · simp only [Act.put, List.setIfInBounds_toArray, List.set_cons_zero, List.set_cons_succ, i64_w, i32_w]
                      rfl
                    refine take_ (i := 1) (N := some 71) (v := ?_) (a' := ?_) #[true, true, true, false, false, true, false, false, false, false] rfl rfl (take_ofW HT_.out HW_.out (by kernel_rfl)) (fun _ _ _ h => h) (Or.inl ⟨by rfl, ?_⟩) hHeld ?_ ?_
                    rotate_left
                    · rintro w' ⟨s0, s1, s2, s3⟩
                      go_simp
                      with_reducible rfl
                    rotate_left
                    · simp only [Act.put, List.setIfInBounds_toArray, List.set_cons_zero, List.set_cons_succ, i64_w, i32_w]
                      rfl
                    refine pure_ (i := 3) (N := some 73) (v := ?_) (a' := ?_) #[true, true, true, true, false, true, false, false, false, false] rfl rfl (any_of HT_.out (by kernel_rfl)) (fun _ _ _ h => h) (Or.inl ⟨by rfl, ?_⟩) ?_ ?_
                    rotate_left
                    · intro w'
                      go_simp
                      with_reducible rfl
                    rotate_left
                    · simp only [Act.put, List.setIfInBounds_toArray, List.set_cons_zero, List.set_cons_succ, i64_w, i32_w]
                      rfl
                    refine take_ (i := 4) (N := some 74) (v := ?_) (a' := ?_) #[true, true, true, true, true, true, false, false, false, false] rfl rfl (take_ofW HT_.out HW_.out (by kernel_rfl)) (fun _ _ _ h => h) (Or.inl ⟨by rfl, ?_⟩) hHeld ?_ ?_
                    rotate_left
                    · rintro w' ⟨s0, s1, s2, s3⟩
                      go_simp
                      with_reducible rfl
                    rotate_left
                    · simp only [Act.put, List.setIfInBounds_toArray, List.set_cons_zero, List.set_cons_succ, i64_w, i32_w]
                      rfl
                    refine pure_ (i := 6) (N := some 76) (v := ?_) (a' := ?_) #[true, true, true, true, true, true, true, false, false, false] rfl rfl (any_of HT_.out (by kernel_rfl)) (fun _ _ _ h => h) (Or.inl ⟨by rfl, ?_⟩) ?_ ?_
                    rotate_left
                    · intro w'
                      go_simp
                      with_reducible rfl
                    rotate_left
                    · simp only [Act.put, List.setIfInBounds_toArray, List.set_cons_zero, List.set_cons_succ, i64_w, i32_w]
                      rfl
                    refine take_ (i := 7) (N := some 77) (v := ?_) (a' := ?_) #[true, true, true, true, true, true, true, true, false, false] rfl rfl (take_ofW HT_.out HW_.out (by kernel_rfl)) (fun _ _ _ h => h) (Or.inl ⟨by rfl, ?_⟩) hHeld ?_ ?_
                    rotate_left
                    · rintro w' ⟨s0, s1, s2, s3⟩
                      go_simp
                      with_reducible rfl
                    rotate_left
                    · simp only [Act.put, List.setIfInBounds_toArray, List.set_cons_zero, List.set_cons_succ, i64_w, i32_w]
                      rfl
                    refine pure_ (i := 8) (N := some 78) (v := ?_) (a' := ?_) #[true, true, true, true, true, true, true, true, true, false] rfl rfl (any_of HT_.out (by kernel_rfl)) (fun _ _ _ h => h) (Or.inl ⟨by rfl, ?_⟩) ?_ ?_
                    rotate_left
                    · intro w'
                      go_simp
                      with_reducible rfl
                    rotate_left
                    · simp only [Act.put, List.setIfInBounds_toArray, List.set_cons_zero, List.set_cons_succ, i64_w, i32_w]
                      rfl
                    have fz_ := HQ.out.1
                    refine last_ (i := 9) (N := none) #[true, true, true, true, true, true, true, true, true, true] rfl rfl (one_of HT_.out (by kernel_rfl)) (by decide) (fun K hK => ?_)
                    refine skip_ (w1 := ?_) (by rfl) rfl ?_ ?_
                    rotate_left
                    · go_simp
                      rfl
                    refine hK.out _ _ ?_
                    clear hK K
                    refine done_ (done_of HT_.out (by kernel_rfl)) ?_
                    have HW5 := Aside0.mk (show BL w (some ad0) l0.length c0 c n b6 b12 b13 B0 (some ⟨g52, 0, none⟩) c52 (wrap64 (spent + rd (rd_L1 l0 iz) jq)) taken (Wd.setCell ⟨b12, 0, none⟩ (.int .i64 (wrap64 (spent + rd (rd_L1 l0 iz) jq)))) ∧ Kd.R (Kd.int .i64) 3 (Wd.setCell ⟨b12, 0, none⟩ (.int .i64 (wrap64 (spent + rd (rd_L1 l0 iz) jq)))) B0 (fun _ => True) v3 (tt ++ [jq]) from
                      ⟨⟨HQ.out.2.1.1.far HKN.out.1.2.1 _, blk_far HQ.out.2.1.2.1 HKN.out.2.2.1 _, blk_put HQ.out.2.1.2.2.1 0 _ rfl, blk_far HQ.out.2.1.2.2.2.1 (fun e => HKN.out.2.2.2.2 (show b12 = b13 from e.symm)) _,
                        R_stb HQ.out.2.1.2.2.2.2.1 (fun k hk => Below.heap_setCell _ _ _ _ (fun e => Kd.R_ne HQ.out.2.1.2.2.2.2.1 HQ.out.2.1.2.2.1 (by decide) (by rw [hk]; exact congrArg some (show b12 = k from e.symm)))), by simpa using HQ.out.2.1.2.2.2.2.2⟩,
                       R_st HQ.out.2.2.1 (fun k hk => Below.heap_setCell _ _ _ _ (show k ≠ b12 by have := Kd.R_base HQ.out.2.2.1 k hk; have := HKN.out.2.1.2.1; omega))⟩)
                    generalize Wd.setCell ⟨b12, 0, none⟩ (.int .i64 (wrap64 (spent + rd (rd_L1 l0 iz) jq))) = W5 at HW5 ⊢
                    clear HQ fz_ hHeld HT_ HW_ S0_ S1_ S2_ S3_
                    have c13_ := (blk_cell HW5.out.1.2.2.2.1 0).trans rfl
                    obtain ⟨x52_, f52_⟩ := Kd.R_celln false HW5.out.1.2.2.2.2.1 jq HG.out.1 (by have := HG.out.2.1; rw [HTL.out] at this; exact this)
                    have p4 : (jq < (n : Int)) = True := eq_true (by have := HG.out.2.1; rw [HTL.out] at this; exact this)
                    have hiw : wrap64 (iz + 1) = iz + 1 := by unfold wrap64; have := HIZ.out; omega
                    go_wp2
                    go_roundg f
                    case measure => omega
                    case rel =>
                      have hne : ∀ (b : Nat) (cs : Array Value) (t : TypeId), W5.heap[b]? = some (.cells cs t (0, 0)) → 4 ≠ t → b ≠ g52 := fun b cs t hb ht e => Kd.R_ne HW5.out.1.2.2.2.2.1 hb ht (by rw [e]; rfl)
                      have h1 := hne _ _ _ HW5.out.1.1.2.1 (by decide)
                      have h2 := hne _ _ _ HW5.out.1.1.2.2 (by decide)
                      have h3 := hne _ _ _ HW5.out.1.2.1 (by decide)
                      have h4 := hne _ _ _ HW5.out.1.2.2.1 (by decide)
                      have h5 := hne _ _ _ HW5.out.1.2.2.2.1 (by decide)
                      have h6 := HGB.out.1
                      have h7 := HGB.out.2
                      exact ⟨iz + 1, taken.set jq.toNat true, wrap64 (spent + rd (rd_L1 l0 iz) jq), tt ++ [jq], by rw [hiw], H', ⟨by have := HIZ.out; have := HLT.out; have := HM.out; omega⟩, ⟨by rw [List.length_set]; exact HTL.out⟩,
                        ⟨HW5.out.1.1.far (by omega) _, blk_far HW5.out.1.2.1 h3 _, blk_far HW5.out.1.2.2.1 h4 _, blk_far HW5.out.1.2.2.2.1 h5 _, Kd.R_putn HW5.out.1.2.2.2.2.1 jq true, by simpa using HW5.out.1.2.2.2.2.2⟩,
                        ⟨R_st HW5.out.2 (fun k hk => Below.heap_setCell _ _ _ _ (show k ≠ g52 by have := Kd.R_base HW5.out.2 k hk; omega))⟩⟩
            · rw [if_neg hg] at H
              exact absurd H (by simp)
          · rw [if_neg hlt] at H
            have hd1 : decide (iz < (l0.length : Int)) = false := decide_eq_false hlt
            obtain rfl := Option.some.inj H
            clear H hlt
            go_upto_region 25 with fail
            have HBD := Aside0.mk HBL.out.1.drew
            have HTD := Aside0.mk (Kd.R_drew HTO.out)
            have HBS := Aside0.mk (show B0 ≤ (World.drew wr).heap.size from HBL.out.2.2.2.2.2)
            refine start_ (n := 6) (S := fun w' => w'.cell? ⟨w.heap.size + 1, 0, none⟩ = some (.int .i64 c)) (ds := [3]) #[false, false, false, false, false, false] (by kernel_rfl) rfl rfl ((blk_cell HBD.out.2.2 0).trans rfl) (fun hHeld => ?_)
            refine with_tabW best.tab25 best.bits25 (fun HT_ HW_ => ?_)
            generalize World.drew _ = Wd at HBD HTD HBS hHeld ⊢
            clear HBL HTO
            refine pure_ (i := 0) (N := some 83) (v := ?_) (a' := ?_) #[true, false, false, false, false, false] rfl rfl (any_of HT_.out (by kernel_rfl)) (fun _ _ _ h => h) (Or.inl ⟨by rfl, ?_⟩) ?_ ?_
            rotate_left
            · intro w'
              go_simp
              with_reducible rfl
            rotate_left
            · simp only [Act.put, List.setIfInBounds_toArray, List.set_cons_zero, List.set_cons_succ, i64_w, i32_w]
              rfl
            refine take_ (i := 1) (N := some 84) (v := ?_) (a' := ?_) #[true, true, false, false, false, false] rfl rfl (take_ofW HT_.out HW_.out (by kernel_rfl)) (fun _ _ _ h => h) (Or.inl ⟨by rfl, ?_⟩) hHeld ?_ ?_
            rotate_left
            · rintro w' s0
              go_simp
              with_reducible rfl
            rotate_left
            · simp only [Act.put, List.setIfInBounds_toArray, List.set_cons_zero, List.set_cons_succ, i64_w, i32_w]
              rfl
            refine pure_ (i := 2) (N := some 2) (v := ?_) (a' := ?_) #[true, true, true, false, false, false] rfl rfl (any_of HT_.out (by kernel_rfl)) (fun _ _ _ h => h) (Or.inl ⟨by rfl, ?_⟩) ?_ ?_
            rotate_left
            · intro w'
              go_simp
              with_reducible rfl
            rotate_left
            · simp only [Act.put, List.setIfInBounds_toArray, List.set_cons_zero, List.set_cons_succ, i64_w, i32_w]
              rfl
            have x_ := (blk_cell HBD.out.2.2 0).trans rfl
            have f_ := blk_frozen HBD.out.2.2 0
            refine last_ (i := 3) (N := none) #[true, true, true, true, false, false] rfl rfl (one_of HT_.out (by kernel_rfl)) (by decide) (fun K hK => ?_)
            refine skip_ (w1 := ?_) (by rfl) rfl ?_ ?_
            rotate_left
            · go_simp
              rfl
            refine hK.out _ _ ?_
            clear hK K
            refine pure_ (i := 4) (N := some 4) (v := ?_) (a' := ?_) #[true, true, true, true, true, false] rfl rfl (any_of HT_.out (by kernel_rfl)) (fun _ _ _ h => h) (Or.inl ⟨by rfl, ?_⟩) ?_ ?_
            rotate_left
            · intro w'
              go_simp
              with_reducible rfl
            rotate_left
            · simp only [Act.put, List.setIfInBounds_toArray, List.set_cons_zero, List.set_cons_succ, i64_w, i32_w]
              rfl
            refine pure_ (i := 5) (N := some 5) (v := ?_) (a' := ?_) #[true, true, true, true, true, true] rfl rfl (any_of HT_.out (by kernel_rfl)) (fun _ _ _ h => h) (Or.inl ⟨by rfl, ?_⟩) ?_ ?_
            rotate_left
            · intro w'
              go_simp
              with_reducible rfl
            rotate_left
            · simp only [Act.put, List.setIfInBounds_toArray, List.set_cons_zero, List.set_cons_succ, i64_w, i32_w]
              rfl
            refine done_ (done_of HT_.out (by kernel_rfl)) ?_
            go_wp2
            refine bodyPost_ret (results_tctt rfl _ _ ⟨w.heap.size + 1, 0, none⟩ (.int .i64 c) _ rfl ((blk_cell (HBD.out.put c).2.2 0).trans rfl) hu rfl) rfl ?_
            exact ⟨_, rfl, Kd.R_lower (R_st HTD.out (fun k hk => Below.heap_setCell _ _ _ _ (show k ≠ w.heap.size + 1 by have := Kd.R_base HTD.out k hk; have := HKN.out.2.1; omega))) (by have := HKN.out.2.1; omega), (HBD.out.put c).1⟩

theorem assign_Best.calls (A0 : Option Addr) (c0 : Nat) (l0 : List (List Int)) (r1 : List Int) (r2 : Int) (r3 : Bool) (r4 : Int) (w : World) (hr0 : Kd.C (Kd.slice 3 (Kd.int .i64)) w A0 l0.length l0) (hc0 : l0.length ≤ c0) (h : assign_Best.f l0 = some (r1, r2, r3, r4)) :
    Calls Try.prog 15 #[.slice A0 l0.length c0] w fun e w' => ∃ v0_ : Value, e = .returned (.tuple #[v0_, .int .i64 r2, .bool r3, .int .i64 r4]) ∧ Kd.R (Kd.int .i64) 3 w' w.heap.size (fun _ => True) v0_ r1 ∧ Below w.heap.size w w' := by
  unfold assign_Best.f at h
  rw [check_eq l0 64 (by decide), Option.bind_some] at h
  by_cases he : chkV l0 = 0
  · rw [if_pos he] at h
    have g := good_of l0 he
    obtain ⟨⟨own, u, v, ok⟩, hs, h⟩ := Option.bind_eq_some_iff.1 h
    cases ok with
    | false =>
      rw [if_neg (by simp)] at h
      simp only [Option.some.injEq, Prod.mk.injEq] at h
      obtain ⟨rfl, rfl, rfl, rfl⟩ := h
      refine (best_none A0 c0 l0 (widthV l0) own u v w hr0 hc0 (by rw [check_eq l0 64 (by decide), he]) (width_eq l0) hs).mono ?_
      rintro e w' ⟨rfl, hb⟩
      exact ⟨_, rfl, Kd.R_nil _ _ _ _ _, hb⟩
    | true =>
      rw [if_pos rfl] at h
      by_cases hin : inR l0 own = true
      · rw [if_pos hin] at h
        obtain ⟨tt, hbo, h⟩ := Option.bind_eq_some_iff.1 h
        simp only [Option.some.injEq, Prod.mk.injEq] at h
        obtain ⟨rfl, rfl, rfl, rfl⟩ := h
        exact best_ok A0 c0 l0 (widthV l0) own u v tt _ w hr0 hc0 (by rw [check_eq l0 64 (by decide), he]) (width_eq l0) g.rows g.cols hs hin rfl hbo
      · rw [if_neg hin] at h
        cases h
  · rw [if_neg he] at h
    simp only [Option.some.injEq, Prod.mk.injEq] at h
    obtain ⟨rfl, rfl, rfl, rfl⟩ := h
    refine (best_no A0 c0 l0 (chkV l0) w hr0 hc0 (check_eq l0 64 (by decide)) he).mono ?_
    rintro e w' ⟨rfl, hb⟩
    exact ⟨_, rfl, Kd.R_nil _ _ _ _ _, hb⟩

end Go.Proofs.Ytgiinjfandeddaa.Q
