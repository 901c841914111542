/- By hand: what disk.Read computes: a range over the library's Backward. -/
import Derived.Test.YtmeoapalnkibfaaDWr
import Derived.Test.YtmeoapalnkibfaaRng
import Derived.Deep.RegionHeld3
import Derived.Shelf.Abstract
import Derived.OwnWalkIn
import Derived.TacticsInMore
import Derived.LoopNIn
import Derived.LoopIn
import Derived.Maps.AppendAt
namespace Go.Proofs.Ytmeoapalnkibfaa.Q
open Go.RowKit Go.Proofs.YtmeoapalnkibfaaW.PrintWords Go.Proofs.YtmeoapalnkibfaaW.PrintLast Go.Proofs.YtmeoapalnkibfaaW.PrintMore Go.Proofs.Ytmeoapalnkibfaa.Rng
attribute [local go_sem] Oper.semAt_some
attribute [local go_sem] max2_int min2_int max_two min_two
set_option linter.unusedVariables false
set_option linter.unusedSimpArgs false

/-- Two numbers or slices in boxes. -/
theorem results_c2 {P : Program} {fn : Func} {p p' : Tmp} {ty ty' : TypeId} (h : fn.results = #[.cell p ty, .cell p' ty']) (tmps : Array Value) (w : World) (a a' : Addr) (v v' : Value) (d d' : TypeDesc)
    (hp : tmps.getD p undef = .pointer (some a)) (hp' : tmps.getD p' undef = .pointer (some a')) (hv : w.cell? a = some v) (hv' : w.cell? a' = some v')
    (hu : P.underlying ty = some d) (hd : (match d with | .struct _ | .array _ _ => false | _ => true) = true) (hu' : P.underlying ty' = some d') (hd' : (match d' with | .struct _ | .array _ _ => false | _ => true) = true) :
    (results fn tmps).run P w = .ok (.tuple #[v, v']) w := by
  have h1 : tmps[p]?.getD undef = .pointer (some a) := by simpa using hp
  have h2 : tmps[p']?.getD undef = .pointer (some a') := by simpa using hp'
  have e1 : (isAgg ty).run P w = .ok false w := by
    simp [isAgg, go_sem, run_underlying hu]
    cases d <;> simp_all
  have e2 : (isAgg ty').run P w = .ok false w := by
    simp [isAgg, go_sem, run_underlying hu']
    cases d' <;> simp_all
  simp [results, h, h1, h2, asAddr, loadVar, go_sem, e1, e2, hv, hv']
/-- The last write to a sector. -/
def lastW (l1 : List SW) (i : Int) : Option SW := l1.reverse.find? (fun x => decide (x.f0 = i))
def readV (l0 : List (List Int)) (l1 : List SW) (a : Int) (s : Bool) (i : Int) : List Int × Int :=
  if runsV l0 l1 a s = true ∧ 0 ≤ i ∧ i < l0.length then ((match lastW l1 i with | some x => x.f1 | none => rd_L1 l0 i), 0) else ([], 40)
def disk_Read.f (l0_0 : List (List Int)) (l0_1 : List SW) (a0_2 : Int) (a0_3 : Bool) (a1 : Int) : Option (List Int × Int) := some (readV l0_0 l0_1 a0_2 a0_3 a1)

def elc (inner : List Value) (p : Nat) : List Value := (inner.drop (p * 2)).take 2
/-- What Backward yields. -/
def encB (n : Nat) (inner : List Value) (k : Nat) : Array Value := #[.int .i64 ((n - 1 - k : Nat) : Int), .agg (elc inner (n - 1 - k)).toArray]

set_option maxRecDepth 100000 in
set_option maxHeartbeats 4000000 in
theorem back_iter (w : World) (l1 : List SW) (A1 : Option Addr) (c1 b : Nat) (ok : Nat → Prop) (inner : List Value) (U : Nat → Prop) (hn : l1.length ≤ 4096) (hb : w.heap[b]? = some (.cells #[.slice A1 l1.length c1] 23 (0, 0)))
    (hr : Reps (Kd.FK kW w ok) 2 l1 inner) (hc : ∀ ad, A1 = some ad → ∀ j u, inner[j]? = some u → w.cell? (ad.add j) = some u) (hA : 0 < l1.length → ∃ ad, A1 = some ad) (hU : ∀ k, U k → w.heap.size ≤ k) :
    Iter Try.prog 45 #[.pointer (some ⟨b, 0, none⟩)] (encB l1.length inner) l1.length U (fun _ => False) (fun W => Below w.heap.size w W) := by
  intro q l J Jx W hJ hJx hY h0 hpre
  have HB := Aside0.mk hpre
  have Hb := Aside0.mk hb
  have Hr := Aside0.mk hr
  have Hc := Aside0.mk hc
  clear hpre hb hr hc
  refine callsIn_of_wp Try.func45 rfl trivial ?_ rfl
  simp only [Try.ntmps45, List.size_toArray, List.length_cons, List.length_nil, Nat.reduceAdd, Nat.reduceSub, Array.replicate_succ, Array.replicate_zero, List.push_toArray, List.append_toArray, List.nil_append, List.cons_append]
  have b0 := (blk_cell (heap_below HB.out Hb.out) 0).trans rfl
  gi_wp2
  clear b0
  gi_loopw [3] (fun i wr => ∃ m : Nat, m ≤ l1.length ∧ i = .int .i64 ((m : Int) - 1) ∧ Aside0 (J (l1.length - m) wr) ∧ Aside0 (Below w.heap.size w wr)) (fun i _ => ((intOf i) + 1).toNat)
  case atStart => exact ⟨l1.length, Nat.le_refl _, rfl, ⟨by rw [Nat.sub_self]; exact h0⟩, HB⟩
  case round =>
    clear HB h0
    obtain ⟨m, hm, rfl, HJ, HB⟩ := hrel
    cases m with
    | zero =>
      gi_wp2
      go_end0
      exact ⟨⟨_, rfl⟩, .inl HJ.out⟩
    | succ p =>
      have hp : p < l1.length := by omega
      have hx : l1[p]? = some l1[p] := List.getElem?_eq_getElem hp
      obtain ⟨ad, rfl⟩ := hA (by omega)
      have hel := Hr.out.2 p _ hx
      obtain ⟨Ax, cx, hel, hxl, hF⟩ := k54_openF hel
      generalize l1[p] = x at *
      have ep : ((p + 1 : Nat) : Int) - 1 = (p : Int) := by omega
      have hlen : inner.length = l1.length * 2 := Hr.out.1
      have g0 : inner[p * 2]? = some (.int .i64 x.f0) := by
        have := congrArg (fun l => l[0]?) hel
        simpa [List.getElem?_take, List.getElem?_drop] using this
      have g1 : inner[p * 2 + 1]? = some (.slice Ax x.f1.length cx) := by
        have := congrArg (fun l => l[1]?) hel
        simpa [List.getElem?_take, List.getElem?_drop] using this
      have r0 := Hc.out ad rfl _ _ g0
      have r1 := Hc.out ad rfl _ _ g1
      rw [add_field _ _ 1 (by omega)] at r1
      have q0 := (HB.out.cell (World.block_lt_of_cell? w _ r0)).trans r0
      have q1 := (HB.out.cell (World.block_lt_of_cell? w _ r1)).trans r1
      have b0 := (blk_cell (heap_below HB.out Hb.out) 0).trans rfl
      obtain ⟨fn, tmps, assign, body, hy, hR⟩ := hY (l1.length - (p + 1)) wr (by omega) HJ.out
      unfold encB elc at hy
      rw [show l1.length - 1 - (l1.length - (p + 1)) = p by omega, hel] at hy
      have hR := Aside0.mk hR
      clear g0 g1 r0 r1 hx hel hxl hF hlen hA
      rw [ep]
      gi_wp2
      refine ⟨fun h => by simp [Fence.wide] at h, hR.out.mono ?_⟩
      rintro e W3 (⟨rfl, hJ3, hk3⟩ | ⟨rfl, hJx3⟩)
      · have HJ6 := Aside0.mk hJ3
        have HB3 := Aside0.mk (hk3.base HB.out (Nat.le_refl _) hU)
        clear hJ3 hk3
        gi_wp2
        go_roundw
        case rel => exact ⟨p, by omega, rfl, ⟨by rw [show l1.length - p = l1.length - (p + 1) + 1 by omega]; exact HJ6.out⟩, HB3⟩
        case measure => simp [intOf]
      · have HJ6 := Aside0.mk hJx3
        clear hJx3
        gi_wp2
        refine bodyPost_ret (results_none rfl _ _ _) rfl ?_
        exact ⟨⟨_, rfl⟩, .inr ⟨_, by omega, HJ6.out⟩⟩

theorem back0 (A : Option Addr) (n c : Nat) (w : World) :
    Calls Try.prog 39 #[.slice A n c] w fun e w' => e = .returned (.func (.func 45) #[] #[.pointer (some ⟨w.heap.size, 0, none⟩)]) ∧ w' = w.alloc (.cells #[.slice A n c] 23 (0, 0)) := by
  go_enter Try.func39, Try.ntmps39
  go_wp2
  go_ret
  exact ⟨rfl, rfl⟩
theorem find_at {α : Type} (p : α → Bool) : ∀ (l : List α) (k : Nat) (x : α), l[k]? = some x → p x = true → (∀ j y, j < k → l[j]? = some y → p y = false) → l.find? p = some x
  | [], k, x, h, _, _ => by simp at h
  | a :: r, 0, x, h, hp, _ => by
    simp only [List.getElem?_cons_zero, Option.some.injEq] at h
    subst h
    rw [List.find?_cons, hp]
  | a :: r, k + 1, x, h, hp, hq => by
    have := hq 0 a (by omega) rfl
    rw [List.find?_cons, this]
    exact find_at p r k x (by simpa using h) hp (fun j y hj hy => hq (j + 1) y (by omega) (by simpa using hy))

/-- Read's boxes. -/
def RdIn (w : World) (d : Array Value) (i : Int) (r e : Value) (W : World) : Prop :=
  Below w.heap.size w W ∧ W.heap[w.heap.size]? = some (.cells d 25 (0, 0)) ∧ W.heap[w.heap.size + 1]? = some (.cells #[.int .i64 i] 3 (0, 0)) ∧
  W.heap[w.heap.size + 2]? = some (.cells #[r] 35 (0, 0)) ∧ W.heap[w.heap.size + 3]? = some (.cells #[e] 28 (0, 0))
theorem RdIn.below {w : World} {d : Array Value} {i : Int} {r e : Value} {W V : World} (h : RdIn w d i r e W) (hb : Below W.heap.size W V) : RdIn w d i r e V :=
  ⟨below_step h.1 hb, heap_below hb h.2.1, heap_below hb h.2.2.1, heap_below hb h.2.2.2.1, heap_below hb h.2.2.2.2⟩
theorem RdIn.st {w : World} {d : Array Value} {i : Int} {r e : Value} {A B : World} (h : RdIn w d i r e A) (hs : St (fun _ => False) A B) : RdIn w d i r e B :=
  ⟨hs.base h.1 (Nat.le_refl _) (fun _ k => k.elim), hs.blk h.2.1 id, hs.blk h.2.2.1 id, hs.blk h.2.2.2.1 id, hs.blk h.2.2.2.2 id⟩
theorem put_other {A : World} {q g : Nat} {o o' : Obj} {cs : Array Value} {t : TypeId} {fr : Nat × Nat} (hq : A.heap[q]? = some o) (hc : o.isCells = false) (hg : A.heap[g]? = some (.cells cs t fr)) : (A.putObj q o').heap[g]? = A.heap[g]? :=
  World.putObj_heap_other (fun e => by subst e; rw [hg] at hq; cases hq; cases hc)
theorem below_put {b : Nat} {w A : World} {q : Nat} (o' : Obj) (h : Below b w A) (hq : b ≤ q) : Below b w (A.putObj q o') :=
  h.trans ⟨rfl, rfl, rfl, by simp, fun j hj => World.putObj_heap_other (by omega)⟩
theorem keeps_below {W V : World} (h : Below W.heap.size W V) : KeepsOthers W V := ⟨h.size, fun k o hk _ => (h.block k (Array.getElem?_eq_some_iff.1 hk).1).trans hk⟩
theorem RdIn.put {w : World} {d : Array Value} {i : Int} {r e : Value} {A : World} {q : Nat} {o : Obj} (o' : Obj) (h : RdIn w d i r e A) (hb : w.heap.size ≤ q) (hq : A.heap[q]? = some o) (hc : o.isCells = false) : RdIn w d i r e (A.putObj q o') :=
  ⟨below_put o' h.1 hb, (put_other hq hc h.2.1).trans h.2.1, (put_other hq hc h.2.2.1).trans h.2.2.1, (put_other hq hc h.2.2.2.1).trans h.2.2.2.1, (put_other hq hc h.2.2.2.2).trans h.2.2.2.2⟩
theorem RdIn.new (w : World) (d : Array Value) (i : Int) : RdIn w d i (.slice none 0 0) (.int .i64 0) ((((w.alloc (.cells d 25 (0, 0))).alloc (.cells #[.int .i64 i] 3 (0, 0))).alloc (.cells #[.slice none 0 0] 35 (0, 0))).alloc (.cells #[.int .i64 0] 28 (0, 0))) :=
  ⟨below_alloc (below_alloc (below_alloc (below_alloc (Below.refl w.heap.size w) _) _) _) _, heap_at_old _ _ _ _ (heap_at_old _ _ _ _ (heap_at_old _ _ _ _ (heap_at_new _ _ _ rfl))), heap_at_old _ _ _ _ (heap_at_old _ _ _ _ (heap_at_new _ _ _ (by simp))), heap_at_old _ _ _ _ (heap_at_new _ _ _ (by simp)), heap_at_new _ _ _ (by simp)⟩

set_option maxRecDepth 100000 in
set_option maxHeartbeats 8000000 in
theorem read_ok (P : Nat → Prop) (A0 : Option Addr) (c0 : Nat) (l0 : List (List Int)) (A1 : Option Addr) (c1 : Nat) (l1 : List SW) (a : Int) (s : Bool) (i : Int) (w : World) (h0 : Kd.V kSec 35 w w.heap.size P (.slice A0 l0.length c0) l0) (h1 : Kd.V kW 54 w w.heap.size P (.slice A1 l1.length c1) l1)
    (hr : runsV l0 l1 a s = true) (hi : 0 ≤ i ∧ i < l0.length) (hl1 : l1.length ≤ 4096) (res : List Int) (hres : (match lastW l1 i with | some x => x.f1 | none => rd_L1 l0 i) = res) :
    Calls Try.prog 21 #[.agg (dkV A0 l0.length c0 A1 l1.length c1 a s), .int .i64 i] w fun e w' => ∃ v0_ : Value, e = .returned (.tuple #[v0_, .int .i64 0]) ∧ Kd.V (Kd.int .u8) 5 w' w.heap.size (fun k => P k ∨ w.heap.size ≤ k) v0_ res ∧ Below w.heap.size w w' := by
  have hu := Try.underlying35
  have hu9 := Try.underlying28
  have HI := Aside0.mk (RdIn.new w (dkV A0 l0.length c0 A1 l1.length c1 a s) i)
  have HR := Aside0.mk (runs_ A0 c0 l0 A1 c1 l1 a s _ (Kd.C_below (Kd.V_reads' h0).2.2 HI.out.1) (Kd.V_reads' h0).2.1 (Kd.C_below (Kd.V_reads' h1).2.2 HI.out.1) (Kd.V_reads' h1).2.1)
  rw [hr] at HR
  have HH : Aside0 (∀ w, Calls Try.prog 36 #[.agg (dkV A0 l0.length c0 A1 l1.length c1 a s), .int .i64 i] w fun e w' => e = .returned (.bool true) ∧ Below w.heap.size w w') := ⟨fun w => by have := has_ A0 l0.length c0 A1 l1.length c1 a s i w; rwa [decide_eq_true hi.1, decide_eq_true hi.2] at this⟩
  have HV0 := Aside0.mk (Kd.F_bound (Kd.V_F h0))
  obtain ⟨inner, hin1, hin2⟩ := row_inner (Kd.F_bound (Kd.V_F h1))
  have Hin1 := Aside0.mk hin1
  have Hin2 := Aside0.mk hin2
  have HA1 : Aside0 (0 < l1.length → ∃ ad, A1 = some ad) := ⟨fun h => by
    obtain ⟨ad, e, _⟩ := (Kd.V_reads' h1).2.2.2.2 h
    exact ⟨ad, e⟩⟩
  have Hi := Aside0.mk hi
  have Hres := Aside0.mk hres
  have HB0 := Aside0.mk (back0 A1 l1.length c1)
  clear h0 h1 hr hi hin1 hin2 hres
  obtain ⟨q, _⟩ : ∃ q : Nat, q = 7 := ⟨_, rfl⟩
  refine (callsIn_wide (n := q)).1 ?_
  refine callsIn_of_wp_marks Try.func21 rfl trivial ?_ rfl
  simp only [Try.ntmps21, List.size_toArray, List.length_cons, List.length_nil, Nat.reduceAdd, Nat.reduceSub, Array.replicate_succ, Array.replicate_zero, List.push_toArray, List.append_toArray, List.nil_append, List.cons_append]
  gi_wp2_with fail
  refine ⟨trivial, callsIn_wide.2 ?_⟩
  refine HR.out.mono ?_
  rintro e w1 ⟨rfl, hb⟩
  have HI1 := Aside0.mk (HI.out.below hb)
  clear hb HI HR
  have c0_ := (blk_cell HI1.out.2.1 0).trans rfl
  have c1_ := (blk_cell HI1.out.2.1 1).trans rfl
  have c2_ := (blk_cell HI1.out.2.1 2).trans rfl
  have c3_ := (blk_cell HI1.out.2.1 3).trans rfl
  have e0_ := (blk_cell HI1.out.2.2.1 0).trans rfl
  gi_wp2_with fail
  refine ⟨trivial, callsIn_wide.2 ?_⟩
  refine (HH.out _).mono ?_
  rintro e w2 ⟨rfl, hb⟩
  have HI2 := Aside0.mk (HI1.out.below hb)
  clear hb HI1 c0_ c1_ c2_ c3_ e0_ HH
  have c1_ := (blk_cell HI2.out.2.1 1).trans rfl
  gi_wp2_with fail
  refine ⟨trivial, callsIn_wide.2 ?_⟩
  refine (HB0.out _).mono ?_
  rintro e w3 ⟨rfl, hw3⟩
  clear c1_
  have HI3 := Aside0.mk (HI2.out.below (hw3 ▸ below_alloc (Below.refl w2.heap.size w2) _))
  have B3 : w3.heap[w2.heap.size]? = some (.cells #[.slice A1 l1.length c1] 23 (0, 0)) := hw3 ▸ heap_at_new _ _ _ rfl
  have HB3 := Aside0.mk B3
  have hs2 : w.heap.size + 3 < w2.heap.size := blk_lt HI2.out.2.2.2.2
  have hs3 : w3.heap.size = w2.heap.size + 1 := by rw [hw3]; simp
  clear B3 hw3 HI2 HB0
  gi_wp2
  have HBI : Iter Try.prog 45 #[.pointer (some ⟨w2.heap.size, 0, none⟩)] (encB l1.length inner) l1.length (fun j => w3.heap.size ≤ j) (fun _ => False) (fun W => Below w3.heap.size w3 W) :=
    back_iter w3 l1 A1 c1 w2.heap.size _ inner (fun j => w3.heap.size ≤ j) hl1 HB3.out (Hin1.out.imp_ (fun p c hk => Kd.FK_below hk HI3.out.1)) (fun ad hA j u hj => (HI3.out.1.cell (World.block_lt_of_cell? w _ (Hin2.out ad hA j u hj))).trans (Hin2.out ad hA j u hj)) HA1.out (fun k h => h)
  generalize Value.agg (dkV A0 l0.length c0 A1 l1.length c1 a s) = z1
  generalize Value.slice A1 l1.length c1 = z3
  generalize hz4 : Value.func (.func 45) #[] #[Value.pointer (some ⟨w2.heap.size, 0, none⟩)] = z4
  refine range_law (gf := 45) hz4.symm (enters_of Try.func45 (by kernel_rfl) rfl) HBI (fun _ => rfl) (fun j hj => hj) (fun k hk => hk.elim)
    (fun o1 o2 => below_alloc (below_alloc (Below.refl _ _) _) _)
    (fun k W => RdIn w (dkV A0 l0.length c0 A1 l1.length c1 a s) i (.slice none 0 0) (.int .i64 0) W ∧ ∀ j y, j < k → l1.reverse[j]? = some y → y.f0 ≠ i)
    (fun k W => ∃ Ax cx x, l1.reverse[k]? = some x ∧ x.f0 = i ∧ (∀ j y, j < k → l1.reverse[j]? = some y → y.f0 ≠ i) ∧ x.f1.length ≤ cx ∧ Kd.F (Kd.int .u8) w (fun k => P k ∧ k < w.heap.size) Ax x.f1.length x.f1 ∧ RdIn w (dkV A0 l0.length c0 A1 l1.length c1 a s) i (.slice Ax x.f1.length cx) (.int .i64 0) W)
    (fun k A B h hS => ⟨h.1.st hS, h.2⟩) (fun k A B h hS => by
      obtain ⟨Ax, cx, x, h1, h2, h3, h4, h5, h6⟩ := h
      exact ⟨Ax, cx, x, h1, h2, h3, h4, h5, h6.st hS⟩)
    (fun k A q o o' h hq hA hc => ⟨h.1.put o' (by omega) hA hc, h.2⟩) (fun k A q o o' h hq hA hc => by
      obtain ⟨Ax, cx, x, h1, h2, h3, h4, h5, h6⟩ := h
      exact ⟨Ax, cx, x, h1, h2, h3, h4, h5, h6.put o' (by omega) hA hc⟩)
    (fun o1 o2 => ⟨HI3.out.below (below_alloc (below_alloc (Below.refl _ _) _) _), fun j y hj => absurd hj (Nat.not_lt_zero _)⟩)
    (fun k b W => (RdIn w (dkV A0 l0.length c0 A1 l1.length c1 a s) i (.slice none 0 0) (.int .i64 0) W ∧ ∀ j y, j < k → l1.reverse[j]? = some y → y.f0 ≠ i) ∧ ∃ bx v20 v21, b = { tmps := #[z1, .int .i64 i, .pointer (some ⟨w.heap.size, 0, none⟩), .pointer (some ⟨w.heap.size + 1, 0, none⟩), .pointer (some ⟨w.heap.size + 1 + 1, 0, none⟩), .pointer (some ⟨w.heap.size + 1 + 1 + 1, 0, none⟩), undef, .pointer (some ⟨bx, 0, none⟩), z1, .bool true, .bool false, .bool false, z1, .int .i64 i, .bool true, .bool false, .bool false, .pointer (some ⟨w.heap.size, 1, none⟩), z3, z4, v20, v21, undef, undef, undef, undef, undef, undef, undef, undef, undef, undef, undef], defers := [] } ∧ W.heap[bx]? = some (.cells (elc inner (l1.length - 1 - k)).toArray 54 (0, 0)))
    (fun k b A q o o' h hq hA hc => ⟨⟨h.1.1.put o' (by omega) hA hc, h.1.2⟩, ?_⟩) ?assign ?body ?done ?stop
  case assign =>
    intro lq k W hk hI
    simp only [encB, List.zip_toArray, List.zip_cons_cons, List.zip_nil_left, List.foldl_toArray, List.foldl_cons, List.foldl_nil, List.setIfInBounds_toArray, List.set_cons_succ, List.set_cons_zero]
    obtain ⟨Ax, cx, hel, _, _⟩ := k54_openF (Hin1.out.2 (l1.length - 1 - k) _ (List.getElem?_eq_getElem (show l1.length - 1 - k < l1.length by omega)))
    have hel' : elc inner (l1.length - 1 - k) = _ := hel
    rw [hel']
    generalize l1[l1.length - 1 - k] = x
    have HI := Aside0.mk hI
    clear hI hel hel'
    gi_wp2
    have hal := below_alloc (Below.refl W.heap.size W) (.cells #[.int .i64 x.f0, .slice Ax x.f1.length cx] 54)
    exact ⟨KeepsOthers.alloc _ _, St.of_below hal, ⟨HI.out.1.below hal, HI.out.2⟩, W.heap.size, _, _, rfl, blk_new _ _⟩
  case body =>
    rintro lq k b W hk ⟨⟨hI, hne⟩, bx, v20, v21, rfl, hbx⟩
    obtain ⟨Ax, cx, hel, hxl, hF⟩ := k54_openF (Hin1.out.2 (l1.length - 1 - k) _ (List.getElem?_eq_getElem (show l1.length - 1 - k < l1.length by omega)))
    have hel' : elc inner (l1.length - 1 - k) = _ := hel
    rw [hel'] at hbx
    have hrev : l1.reverse[k]? = some l1[l1.length - 1 - k] := by
      rw [List.getElem?_reverse hk]
      exact List.getElem?_eq_getElem _
    generalize l1[l1.length - 1 - k] = x at *
    have HI := Aside0.mk hI
    have HN := Aside0.mk hne
    have HX := Aside0.mk hbx
    have HF := Aside0.mk hF
    have Hrev := Aside0.mk hrev
    clear hI hne hbx hel hel' hF hrev
    have x0 := (blk_cell HX.out 0).trans rfl
    have x1 := (blk_cell HX.out 1).trans rfl
    have e0_ := (blk_cell HI.out.2.2.1 0).trans rfl
    have r0_ := (blk_cell HI.out.2.2.2.1 0).trans rfl
    have s0_ := (blk_cell HI.out.2.2.2.2 0).trans rfl
    have rf_ := blk_frozen HI.out.2.2.2.1 0
    have sf_ := blk_frozen HI.out.2.2.2.2 0
    by_cases hx : x.f0 = i
    · have hxe : (x.f0 == i) = true := beq_iff_eq.mpr hx
      have Hx := Aside0.mk hx
      clear hx
      gi_wp2
      refine ⟨(KeepsOthers.setCell _ _ _).trans (KeepsOthers.setCell _ _ _), Ax, cx, x, Hrev.out, Hx.out, HN.out, hxl, HF.out, ?_⟩
      exact ⟨below_setCell (below_setCell HI.out.1 (by omega) _ _) (by omega) _ _, blk_far (blk_far HI.out.2.1 (by dsimp only; omega) _) (by dsimp only; omega) _, blk_far (blk_far HI.out.2.2.1 (by dsimp only; omega) _) (by dsimp only; omega) _, blk_far (blk_put HI.out.2.2.2.1 0 _ rfl) (by simp) _, blk_put (blk_far HI.out.2.2.2.2 (by simp) _) 0 _ rfl⟩
    · have hxe : (x.f0 == i) = false := beq_false_of_ne hx
      have Hx := Aside0.mk hx
      clear hx
      gi_wp2
      refine ⟨KeepsOthers.refl _, St.refl _ _, HI.out, fun j y hj hy => ?_⟩
      rcases Nat.lt_succ_iff_lt_or_eq.1 hj with hj | rfl
      · exact HN.out j y hj hy
      · rw [Hrev.out] at hy
        cases hy
        exact Hx.out
  case done =>
    rintro D W hD ⟨hI, hne⟩ hK
    have hlast : lastW l1 i = none := by
      unfold lastW
      rw [List.find?_eq_none]
      intro y hy
      obtain ⟨j, hj, rfl⟩ := List.getElem_of_mem hy
      have := hne j _ (by simpa using hj) (List.getElem?_eq_getElem hj)
      simpa using this
    have HX := Aside0.mk (Hres.out)
    rw [hlast] at HX
    obtain ⟨ad, c, rfl, hcl, hFK, hcc, _⟩ := Kd.F_get HV0.out ([] : List Int) i Hi.out.1 Hi.out.2
    obtain ⟨Ax, cx, rfl, hxl, hF⟩ := Kd.FK_slice_open hFK
    have hrd : l0.getD i.toNat [] = res := HX.out
    rw [hrd] at hxl hF hcc
    have q0' : w.cell? (ad.add i.toNat) = some (.slice Ax res.length cx) := by
      have := hcc 0 _ rfl
      rwa [show kSec.sz = 1 from rfl, Nat.mul_one, Nat.add_zero] at this
    have q0 := (hI.1.cell (World.block_lt_of_cell? w _ q0')).trans q0'
    have HI := Aside0.mk hI
    have HF := Aside0.mk hF
    have HK := Aside0.mk hK
    have hi1 := Hi.out.1
    have hi2 := Hi.out.2
    clear hI hne hF hcc hFK hcl hrd hlast HX Hres hK q0'
    have d0_ := (blk_cell HI.out.2.1 0).trans rfl
    have e0_ := (blk_cell HI.out.2.2.1 0).trans rfl
    have r0_ := (blk_cell HI.out.2.2.2.1 0).trans rfl
    have s0_ := (blk_cell HI.out.2.2.2.2 0).trans rfl
    have rf_ := blk_frozen HI.out.2.2.2.1 0
    have sf_ := blk_frozen HI.out.2.2.2.2 0
    gi_wp2
    obtain ⟨W', hW'⟩ : ∃ W', (W.setCell ⟨w.heap.size + 1 + 1, 0, none⟩ (.slice Ax res.length cx)).setCell ⟨w.heap.size + 1 + 1 + 1, 0, none⟩ (.int .i64 0) = W' := ⟨_, rfl⟩
    have K1 := hW' ▸ ((KeepsOthers.setCell W ⟨w.heap.size + 1 + 1, 0, none⟩ (.slice Ax res.length cx)).trans (KeepsOthers.setCell _ ⟨w.heap.size + 1 + 1 + 1, 0, none⟩ (.int .i64 0))).same D _ HK.out rfl
    have B8 : W'.heap[w.heap.size + 2]? = some (.cells #[.slice Ax res.length cx] 35 (0, 0)) := hW' ▸ blk_far (blk_put HI.out.2.2.2.1 0 _ rfl) (by simp) _
    have B9 : W'.heap[w.heap.size + 3]? = some (.cells #[.int .i64 0] 28 (0, 0)) := hW' ▸ blk_put (blk_far HI.out.2.2.2.2 (by simp) _) 0 _ rfl
    have B0 : Below w.heap.size w W' := hW' ▸ below_setCell (below_setCell HI.out.1 (by omega) _ _) (by omega) _ _
    rw [hW']
    clear hW'
    refine ⟨by simp, .inl ⟨_, _, rfl, run_takeDeferred K1, ?_⟩⟩
    refine ⟨_, results_c2 rfl _ _ ⟨w.heap.size + 2, 0, none⟩ ⟨w.heap.size + 3, 0, none⟩ (.slice Ax res.length cx) (.int .i64 0) _ _ rfl rfl ((blk_cell ((put_other K1 rfl B8).trans B8) 0).trans rfl) ((blk_cell ((put_other K1 rfl B9).trans B9) 0).trans rfl) hu rfl hu9 rfl, ?_⟩
    exact ⟨_, rfl, Kd.V_mk hxl (Kd.F_mono (Kd.F_below HF.out (below_put _ B0 (by omega))) (fun k hk => .inl hk.1)), below_put _ B0 (by omega)⟩
  case stop =>
    rintro D k W hD hk ⟨Ax, cx, x, h1, h2, h3, h4, h5, h6⟩ hK
    have hlast : lastW l1 i = some x := find_at _ _ k x h1 (decide_eq_true h2) (fun j y hj hy => decide_eq_false (h3 j y hj hy))
    have hX := Hres.out
    rw [hlast] at hX
    obtain rfl : x.f1 = res := hX
    have HI := Aside0.mk h6
    have HF := Aside0.mk h5
    have K1 := Aside0.mk hK
    clear h1 h2 h3 h5 h6 hK hlast Hres
    gi_wp2
    refine ⟨by simp, .inl ⟨_, _, rfl, run_takeDeferred K1.out, ?_⟩⟩
    refine ⟨_, results_c2 rfl _ _ ⟨w.heap.size + 2, 0, none⟩ ⟨w.heap.size + 3, 0, none⟩ (.slice Ax x.f1.length cx) (.int .i64 0) _ _ rfl rfl ((blk_cell ((put_other K1.out rfl HI.out.2.2.2.1).trans HI.out.2.2.2.1) 0).trans rfl) ((blk_cell ((put_other K1.out rfl HI.out.2.2.2.2).trans HI.out.2.2.2.2) 0).trans rfl) hu rfl hu9 rfl, ?_⟩
    exact ⟨_, rfl, Kd.V_mk h4 (Kd.F_mono (Kd.F_below HF.out (below_put _ HI.out.1 (by omega))) (fun k hk => .inl hk.1)), below_put _ HI.out.1 (by omega)⟩
  · obtain ⟨bx, v20, v21, hb, hbx⟩ := h.2
    exact ⟨bx, v20, v21, hb, (put_other hA hc hbx).trans hbx⟩

set_option maxRecDepth 100000 in
set_option maxHeartbeats 4000000 in
theorem read_no (P : Nat → Prop) (A0 : Option Addr) (c0 : Nat) (l0 : List (List Int)) (A1 : Option Addr) (c1 : Nat) (l1 : List SW) (a : Int) (s : Bool) (i : Int) (w : World) (hr0 : Kd.C kSec w A0 l0.length l0) (hc0 : l0.length ≤ c0) (hr1 : Kd.C kW w A1 l1.length l1) (hc1 : l1.length ≤ c1) (h : ¬ (runsV l0 l1 a s = true ∧ 0 ≤ i ∧ i < l0.length)) :
    Calls Try.prog 21 #[.agg (dkV A0 l0.length c0 A1 l1.length c1 a s), .int .i64 i] w fun e w' => ∃ v0_ : Value, e = .returned (.tuple #[v0_, .int .i64 40]) ∧ Kd.V (Kd.int .u8) 5 w' w.heap.size P v0_ [] ∧ Below w.heap.size w w' := by
  have hu := Try.underlying35
  have hu9 := Try.underlying28
  have HI := Aside0.mk (RdIn.new w (dkV A0 l0.length c0 A1 l1.length c1 a s) i)
  have HR := Aside0.mk (runs_ A0 c0 l0 A1 c1 l1 a s _ (Kd.C_below hr0 HI.out.1) hc0 (Kd.C_below hr1 HI.out.1) hc1)
  have HH := Aside0.mk (has_ A0 l0.length c0 A1 l1.length c1 a s i)
  clear hr0 hr1 hc0 hc1
  by_cases hr : runsV l0 l1 a s = true
  · rw [hr] at HR
    replace HH : Aside0 (∀ w, Calls Try.prog 36 #[.agg (dkV A0 l0.length c0 A1 l1.length c1 a s), .int .i64 i] w fun e w' => e = .returned (.bool false) ∧ Below w.heap.size w w') := ⟨fun w => by
      have := HH.out w
      rwa [show (decide (0 ≤ i) && decide (i < (l0.length : Int))) = false by rw [← Bool.decide_and]; exact decide_eq_false (fun hi => h ⟨hr, hi⟩)] at this⟩
    clear h hr
    go_enter Try.func21, Try.ntmps21
    go_wp2_with fail
    refine HR.out.mono ?_
    rintro e w1 ⟨rfl, hb⟩
    have HI1 := Aside0.mk (HI.out.below hb)
    clear hb HI HR
    have c0_ := (blk_cell HI1.out.2.1 0).trans rfl
    have c1_ := (blk_cell HI1.out.2.1 1).trans rfl
    have c2_ := (blk_cell HI1.out.2.1 2).trans rfl
    have c3_ := (blk_cell HI1.out.2.1 3).trans rfl
    have e0_ := (blk_cell HI1.out.2.2.1 0).trans rfl
    go_wp2_with fail
    refine (HH.out _).mono ?_
    rintro e w2 ⟨rfl, hb⟩
    have HI2 := Aside0.mk (HI1.out.below hb)
    clear hb HI1 c0_ c1_ c2_ c3_ e0_ HH
    have r0_ := (blk_cell HI2.out.2.2.2.1 0).trans rfl
    have s0_ := (blk_cell HI2.out.2.2.2.2 0).trans rfl
    have rf_ := blk_frozen HI2.out.2.2.2.1 0
    have sf_ := blk_frozen HI2.out.2.2.2.2 0
    go_wp2
    refine bodyPost_ret (results_c2 rfl _ _ ⟨w.heap.size + 2, 0, none⟩ ⟨w.heap.size + 3, 0, none⟩ (.slice none 0 0) (.int .i64 40) _ _ rfl rfl ((blk_cell (blk_far (blk_put HI2.out.2.2.2.1 0 _ rfl) (by simp) _) 0).trans rfl) ((blk_cell (blk_put (blk_far HI2.out.2.2.2.2 (by simp) _) 0 _ rfl) 0).trans rfl) hu rfl hu9 rfl) rfl ?_
    exact ⟨_, rfl, Kd.V_nil _ _ _ _ _, below_setCell (below_setCell HI2.out.1 (by omega) _ _) (by omega) _ _⟩
  · have hr' : runsV l0 l1 a s = false := by simpa using hr
    rw [hr'] at HR
    clear h hr hr'
    go_enter Try.func21, Try.ntmps21
    go_wp2_with fail
    refine HR.out.mono ?_
    rintro e w1 ⟨rfl, hb⟩
    have HI1 := Aside0.mk (HI.out.below hb)
    clear hb HI HR
    have r0_ := (blk_cell HI1.out.2.2.2.1 0).trans rfl
    have s0_ := (blk_cell HI1.out.2.2.2.2 0).trans rfl
    have rf_ := blk_frozen HI1.out.2.2.2.1 0
    have sf_ := blk_frozen HI1.out.2.2.2.2 0
    go_wp2
    refine bodyPost_ret (results_c2 rfl _ _ ⟨w.heap.size + 2, 0, none⟩ ⟨w.heap.size + 3, 0, none⟩ (.slice none 0 0) (.int .i64 40) _ _ rfl rfl ((blk_cell (blk_far (blk_put HI1.out.2.2.2.1 0 _ rfl) (by simp) _) 0).trans rfl) ((blk_cell (blk_put (blk_far HI1.out.2.2.2.2 (by simp) _) 0 _ rfl) 0).trans rfl) hu rfl hu9 rfl) rfl ?_
    exact ⟨_, rfl, Kd.V_nil _ _ _ _ _, below_setCell (below_setCell HI1.out.1 (by omega) _ _) (by omega) _ _⟩

theorem disk_Read.calls (P0_0_ : Nat → Prop) (A0_0 : Option Addr) (c0_0 : Nat) (l0_0 : List (List Int)) (P0_1_ : Nat → Prop) (A0_1 : Option Addr) (c0_1 : Nat) (l0_1 : List SW) (a0_2 : Int) (a0_3 : Bool) (a1 : Int) (r1 : List Int) (r2 : Int) (w : World) (hs0_0 : Kd.V kSec 35 w w.heap.size (fun k_ => P0_0_ k_) (.slice A0_0 l0_0.length c0_0) l0_0) (hs0_1 : Kd.V kW 54 w w.heap.size (fun k_ => P0_1_ k_) (.slice A0_1 l0_1.length c0_1) l0_1) (h : disk_Read.f l0_0 l0_1 a0_2 a0_3 a1 = some (r1, r2)) :
    Calls Try.prog 21 #[.agg #[.slice A0_0 l0_0.length c0_0, .slice A0_1 l0_1.length c0_1, .int .i64 a0_2, .bool a0_3], .int .i64 a1] w fun e w' => ∃ v0_ : Value, e = .returned (.tuple #[v0_, .int .i64 r2]) ∧ Kd.V (Kd.int .u8) 5 w' w.heap.size (fun k_ => ((P0_0_ k_ ∨ P0_1_ k_) ∨ w.heap.size ≤ k_)) v0_ r1 ∧ Below w.heap.size w w' := by
  have e : readV l0_0 l0_1 a0_2 a0_3 a1 = (r1, r2) := Option.some.inj h
  unfold readV at e
  by_cases h1 : runsV l0_0 l0_1 a0_2 a0_3 = true ∧ 0 ≤ a1 ∧ a1 < l0_0.length
  · rw [if_pos h1] at e
    obtain ⟨e1, rfl⟩ := Prod.mk.inj e
    exact read_ok (fun k => P0_0_ k ∨ P0_1_ k) A0_0 c0_0 l0_0 A0_1 c0_1 l0_1 a0_2 a0_3 a1 w (Kd.V_mono hs0_0 (fun k hk => .inl hk)) (Kd.V_mono hs0_1 (fun k hk => .inr hk)) h1.1 h1.2 (runs_ok h1.1).2.1 r1 e1
  · rw [if_neg h1] at e
    obtain ⟨rfl, rfl⟩ := Prod.mk.inj e
    exact read_no _ A0_0 c0_0 l0_0 A0_1 c0_1 l0_1 a0_2 a0_3 a1 w (Kd.V_reads' hs0_0).2.2 (Kd.V_reads' hs0_0).2.1 (Kd.V_reads' hs0_1).2.2 (Kd.V_reads' hs0_1).2.1 h1
end Go.Proofs.Ytmeoapalnkibfaa.Q
