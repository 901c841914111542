/- By hand: weather.said's function as an iterator: what each source says, in the order of the sources. -/
import Derived.Test.YthfhjcbgccnijaaQ0
import Derived.Test.YthfhjcbgccnijaaRng
import Derived.Shelf.Abstract
import Derived.OwnWalkIn
import Derived.TacticsInMore
import Derived.LoopNIn
import Derived.LoopIn
import Derived.Maps.AppendAt
import Derived.Outline
import Derived.RegionTactic
import Derived.Deep.RegionWith
import Derived.StillTailTactics
namespace Go.Proofs.Ythfhjcbgccnijaa.Q
open Go.RowKit Go.Proofs.YthfhjcbgccnijaaW.PrintWords Go.Proofs.YthfhjcbgccnijaaW.PrintLast Go.Proofs.YthfhjcbgccnijaaW.PrintMore Go.Proofs.Ythfhjcbgccnijaa.Rng
attribute [local go_sem] Oper.semAt_some
set_option linter.unusedVariables false
set_option linter.unusedSimpArgs false

abbrev RepE := S41 × Bool
def zE : RepE := (z41, false)
def hit (g d t : Int) (r : S41) : Bool := decide (r.f2 = g) && (decide (r.f3 = d) && decide (r.f4 ≤ t))
def newer (p : RepE) (r : S41) : Bool := !p.2 || decide (p.1.f4 ≤ r.f4)
def stepE (g d t : Int) (L : Nat → RepE) (r : S41) : Nat → RepE :=
  if hit g d t r && newer (L r.f1.toNat) r then fun s => if s = r.f1.toNat then (r, true) else L s else L
def lastE (g d t : Int) (l : List S41) : Nat → RepE := l.foldl (stepE g d t) (fun _ => zE)
/-- What the sources say. -/
def oksOf (L : Nat → RepE) (n : Nat) : List S41 := ((List.range n).filter (fun s => (L s).2)).map (fun s => (L s).1)
def says (g d t : Int) (l : List S41) : List S41 := oksOf (lastE g d t l) 16

def repCells (r : S41) : Array Value := #[.int .i64 r.f0, .int .i64 r.f1, .int .i64 r.f2, .int .i64 r.f3, .int .i64 r.f4, .int .i64 r.f5.f0, .int .i64 r.f5.f1, .int .i64 r.f6.f0, .int .i64 r.f6.f1]
def entry (e : RepE) : List Value := [.int .i64 e.1.f0, .int .i64 e.1.f1, .int .i64 e.1.f2, .int .i64 e.1.f3, .int .i64 e.1.f4, .int .i64 e.1.f5.f0, .int .i64 e.1.f5.f1, .int .i64 e.1.f6.f0, .int .i64 e.1.f6.f1, .bool e.2]
/-- The array's cells hold the entries. -/
def Rep (L : Nat → RepE) (cs : Array Value) : Prop := cs.size = 160 ∧ ∀ s, s < 16 → ∀ j, j < 10 → cs[s * 10 + j]? = (entry (L s))[j]?

def putL (cs : Array Value) : Nat → List Value → Array Value
  | _, [] => cs
  | o, v :: r => putL (cs.setIfInBounds o v) (o + 1) r
theorem putL_size (vs : List Value) : ∀ (cs : Array Value) (o : Nat), (putL cs o vs).size = cs.size := by
  induction vs with
  | nil => intros; rfl
  | cons v r ih => intro cs o; rw [putL, ih]; simp
theorem putL_get (vs : List Value) : ∀ (cs : Array Value) (o i : Nat), o + vs.length ≤ cs.size → (putL cs o vs)[i]? = if o ≤ i ∧ i < o + vs.length then vs[i - o]? else cs[i]? := by
  induction vs with
  | nil => intro cs o i h; rw [putL, if_neg (by simp only [List.length_nil]; omega)]
  | cons v r ih =>
    intro cs o i h
    simp only [List.length_cons] at h
    rw [putL, ih _ _ _ (by simp; omega)]
    by_cases h1 : o + 1 ≤ i ∧ i < o + 1 + r.length
    · rw [if_pos h1, if_pos (by simp only [List.length_cons]; omega), show i - o = (i - (o + 1)) + 1 by omega, List.getElem?_cons_succ]
    · rw [if_neg h1, Array.getElem?_setIfInBounds]
      by_cases h2 : o = i
      · subst h2
        rw [if_pos rfl, if_pos (by omega), if_pos (by simp only [List.length_cons]; omega)]
        simp
      · rw [if_neg h2, if_neg (by simp only [List.length_cons]; omega)]
theorem entry_length (e : RepE) : (entry e).length = 10 := rfl
theorem Rep.put {L : Nat → RepE} {cs : Array Value} (h : Rep L cs) (s : Nat) (hs : s < 16) (e : RepE) : Rep (fun k => if k = s then e else L k) (putL cs (s * 10) (entry e)) := by
  refine ⟨by rw [putL_size]; exact h.1, fun k hk j hj => ?_⟩
  rw [putL_get _ _ _ _ (by rw [entry_length, h.1]; omega), entry_length]
  by_cases hks : k = s
  · subst hks
    rw [if_pos (by omega), show k * 10 + j - k * 10 = j by omega]
    simp only [if_true]
  · refine Eq.trans ?_ (congrArg (fun x => (entry x)[j]?) (if_neg hks).symm)
    rw [if_neg (by omega)]
    exact h.2 k hk j hj
theorem flat_get {α : Type} (x : List α) (hx : x.length = 10) : ∀ (n s j : Nat), s < n → j < 10 → ((List.replicate n x).flatten)[s * 10 + j]? = x[j]?
  | n + 1, 0, j, _, hj => by
    rw [List.replicate_succ, List.flatten_cons, List.getElem?_append_left (by omega)]
    simp
  | n + 1, s + 1, j, hs, hj => by
    rw [List.replicate_succ, List.flatten_cons, List.getElem?_append_right (by omega), hx, show (s + 1) * 10 + j - 10 = s * 10 + j by omega]
    exact flat_get x hx n s j (by omega) hj
theorem Rep.zero : Rep (fun _ => zE) ((List.replicate 16 (entry zE)).flatten).toArray := by
  refine ⟨by rfl, fun s hs j hj => ?_⟩
  rw [List.getElem?_toArray]
  exact flat_get (entry zE) rfl 16 s j hs hj
theorem oksOf_succ (L : Nat → RepE) (n : Nat) : oksOf L (n + 1) = oksOf L n ++ (if (L n).2 then [(L n).1] else []) := by
  unfold oksOf
  rw [List.range_succ, List.filter_append, List.map_append]
  by_cases h : (L n).2 = true
  · simp [h]
  · simp [h]
theorem oksOf_get (L : Nat → RepE) (n N : Nat) (hn : n < N) (h : (L n).2 = true) : (oksOf L n).length < (oksOf L N).length ∧ (oksOf L N).getD (oksOf L n).length z41 = (L n).1 := by
  have e : ∀ m, ∃ r, oksOf L (n + 1 + m) = oksOf L (n + 1) ++ r := by
    intro m
    induction m with
    | zero => exact ⟨[], by simp⟩
    | succ m ih =>
      obtain ⟨r, hr⟩ := ih
      exact ⟨_, by rw [show n + 1 + (m + 1) = (n + 1 + m) + 1 by omega, oksOf_succ, hr, List.append_assoc]⟩
  obtain ⟨r, hr⟩ := e (N - (n + 1))
  rw [show n + 1 + (N - (n + 1)) = N by omega, oksOf_succ, if_pos h] at hr
  rw [hr]
  simp [List.getD_eq_getElem?_getD]
theorem oksOf_none (L : Nat → RepE) (n : Nat) (h : (L n).2 = false) : oksOf L (n + 1) = oksOf L n := by
  rw [oksOf_succ, h]
  simp

/-- An entry of the array, by value. -/
theorem run_index_entry {L : Nat → RepE} {cs : Array Value} (h : Rep L cs) (s : Nat) (hs : s < 16) (w : World) :
    (Instr.index 116 (.agg cs) (.int .i64 s)).run Try.prog w = .ok (.agg (entry (L s)).toArray) w := by
  have h0 : (0 : Int) ≤ (s : Int) ∧ (s : Int) < ((16 : Nat) : Int) := by omega
  have hu := Try.underlying116
  have ha := Try.isAgg115
  have hz := Try.sizeOf115
  have hx : cs.extract (s * 10) (s * 10 + 10) = (entry (L s)).toArray := by
    apply Array.ext_getElem?
    intro j
    rw [Array.getElem?_extract]
    by_cases hj : j < 10
    · rw [if_pos (by rw [h.1]; omega), h.2 s hs j hj]
      simp
    · rw [if_neg (by rw [h.1]; omega)]
      symm
      rw [Array.getElem?_eq_none_iff]
      simp [entry]
      omega
  simp [Instr.index, run_underlying hu, asIntOf, part, ha, hz, hs, hx]

/-- The boxes of said's function. -/
def SaidPre (w : World) (A : Option Addr) (n c bs bg bd bt : Nat) (g d t : Int) (W : World) : Prop :=
  Below w.heap.size w W ∧ W.heap[bs]? = some (.cells #[.slice A n c] 29 (0, 0)) ∧ W.heap[bg]? = some (.cells #[.int .i64 g] 3 (0, 0)) ∧
  W.heap[bd]? = some (.cells #[.int .i64 d] 3 (0, 0)) ∧ W.heap[bt]? = some (.cells #[.int .i64 t] 3 (0, 0))
theorem SaidPre.below {w : World} {A : Option Addr} {n c bs bg bd bt : Nat} {g d t : Int} {W V : World} (h : SaidPre w A n c bs bg bd bt g d t W) (hb : Below W.heap.size W V) : SaidPre w A n c bs bg bd bt g d t V :=
  ⟨below_step h.1 hb, heap_below hb h.2.1, heap_below hb h.2.2.1, heap_below hb h.2.2.2.1, heap_below hb h.2.2.2.2⟩

theorem lastE_take (g d t : Int) (l : List S41) (k : Nat) (hk : k < l.length) : lastE g d t (l.take (k + 1)) = stepE g d t (lastE g d t (l.take k)) (rd_T41 l k) := by
  unfold lastE
  rw [List.take_succ_eq_append_getElem hk, List.foldl_append]
  simp [rd_T41, List.getD_eq_getElem?_getD, hk]

theorem wpIn_load_row {P : Program} {F : Fence} {n : Nat} {o : Oper} {a : Act} {w : World} {K : Act → World → Prop} {Q : Exit → Act → World → Prop} (ty : TypeId) (x : Operand) (ho : o.op = .load ty x)
    (g : Nat) (hx : a.eval x = .pointer (some ⟨g, 0, none⟩)) (t : TypeId) (cs : Array Value) (fr : Nat × Nat) (d : TypeDesc) (hg : w.heap[g]? = some (.cells cs t fr))
    (hu : P.underlying ty = some d) (hd : (match d with | .struct _ | .array _ _ => true | _ => false) = true) (hi : (P.info? ty).map (·.size) = some cs.size)
    (h : K (a.put o.dst (.agg cs)) w) : o.wpIn F n P a w K Q := by
  refine ⟨fun f hf => by simp [Oper.about, ho] at hf, ?_⟩
  rw [Oper.semAt_plain F _ _ (fun c hc => by rw [ho] at hc; cases hc)]
  unfold execOp
  simp only [ho, hx, Instr.loadAt, Instr.sureAddr, Sem.run_bind, Sem.run_pure, Result.andThen_ok, run_loadVar_row w g t ty cs fr d hg hu hd hi]
  exact h

theorem put10 {V : World} {b : Nat} {cs : Array Value} {t : TypeId} (h : V.heap[b]? = some (.cells cs t (0, 0))) (o : Nat) (v0 v1 v2 v3 v4 v5 v6 v7 v8 v9 : Value) :
    ((((((((((V.setCell ⟨b, o, none⟩ v0).setCell ⟨b, o + 1, none⟩ v1).setCell ⟨b, o + 2, none⟩ v2).setCell ⟨b, o + 3, none⟩ v3).setCell ⟨b, o + 4, none⟩ v4).setCell ⟨b, o + 5, none⟩ v5).setCell ⟨b, o + 6, none⟩ v6).setCell ⟨b, o + 7, none⟩ v7).setCell ⟨b, o + 8, none⟩ v8).setCell ⟨b, o + 9, none⟩ v9).heap[b]? = some (.cells (putL cs o [v0, v1, v2, v3, v4, v5, v6, v7, v8, v9]) t (0, 0)) :=
  blk_put (blk_put (blk_put (blk_put (blk_put (blk_put (blk_put (blk_put (blk_put (blk_put h o _ rfl) (o + 1) _ rfl) (o + 2) _ rfl) (o + 3) _ rfl) (o + 4) _ rfl) (o + 5) _ rfl) (o + 6) _ rfl) (o + 7) _ rfl) (o + 8) _ rfl) (o + 9) _ rfl
theorem below10 {W V : World} {b : Nat} (h : Below W.heap.size W V) (hb : W.heap.size ≤ b) (o : Nat) (v0 v1 v2 v3 v4 v5 v6 v7 v8 v9 : Value) :
    Below W.heap.size W ((((((((((V.setCell ⟨b, o, none⟩ v0).setCell ⟨b, o + 1, none⟩ v1).setCell ⟨b, o + 2, none⟩ v2).setCell ⟨b, o + 3, none⟩ v3).setCell ⟨b, o + 4, none⟩ v4).setCell ⟨b, o + 5, none⟩ v5).setCell ⟨b, o + 6, none⟩ v6).setCell ⟨b, o + 7, none⟩ v7).setCell ⟨b, o + 8, none⟩ v8).setCell ⟨b, o + 9, none⟩ v9) :=
  below_set (below_set (below_set (below_set (below_set (below_set (below_set (below_set (below_set (below_set h hb) hb) hb) hb) hb) hb) hb) hb) hb) hb

set_option maxRecDepth 100000 in
set_option maxHeartbeats 8000000 in
theorem said_iter (w : World) (l : List S41) (A : Option Addr) (c bs bg bd bt : Nat) (g d t : Int) (U : Nat → Prop)
    (hr : Kd.C k41 w A l.length l) (hn : l.length ≤ 4096) (hv : ∀ r ∈ l, 0 ≤ r.f1 ∧ r.f1 ≤ 15) :
    Iter Try.prog 70 #[.pointer (some ⟨bs, 0, none⟩), .pointer (some ⟨bg, 0, none⟩), .pointer (some ⟨bd, 0, none⟩), .pointer (some ⟨bt, 0, none⟩)]
      (fun k => #[.agg (repCells ((says g d t l).getD k z41))]) (says g d t l).length U (fun _ => False)
      (SaidPre w A l.length c bs bg bd bt g d t) := by
  intro q l0 J Jx W hJ hJx hY h0 hpre
  have hpre' := Aside0.mk hpre
  clear hpre
  have HV := Aside0.mk hv
  clear hv
  refine callsIn_of_wp Try.func70 rfl trivial ?_ rfl
  simp only [Try.ntmps70, List.size_toArray, List.length_cons, List.length_nil, Nat.reduceAdd, Nat.reduceSub, Array.replicate_succ, Array.replicate_zero, List.push_toArray, List.append_toArray, List.nil_append, List.cons_append]
  have hz0 : Aside0 (Try.zeroCells116 = ((List.replicate 16 (entry zE)).flatten).toArray) := ⟨by rfl⟩
  have hB0 := Aside0.mk (below_alloc (Below.refl W.heap.size W) (.cells Try.zeroCells116 116 (0, 0)))
  have hS0 := Aside0.mk (hpre'.out.below hB0.out)
  have hL0 : Aside0 ((W.alloc (.cells Try.zeroCells116 116 (0, 0))).heap[W.heap.size]? = some (.cells Try.zeroCells116 116 (0, 0))) := ⟨heap_at_new _ _ _ rfl⟩
  have b1 := (blk_cell hS0.out.2.1 0).trans rfl
  gi_wp2
  clear b1
  have hC0 : Aside0 (∃ cs, (W.alloc (.cells Try.zeroCells116 116 (0, 0))).heap[W.heap.size]? = some (.cells cs 116 (0, 0)) ∧ Rep (lastE g d t (l.take 0)) cs) := ⟨_, hL0.out, by rw [hz0.out]; exact Rep.zero⟩
  clear hL0 hz0
  gi_loopw [14] (fun i wr => ∃ k : Nat, k ≤ l.length ∧ i = .int .i64 k ∧ Aside0 (Below W.heap.size W wr) ∧ Aside0 (SaidPre w A l.length c bs bg bd bt g d t wr) ∧ Aside0 (∃ cs, wr.heap[W.heap.size]? = some (.cells cs 116 (0, 0)) ∧ Rep (lastE g d t (l.take k)) cs)) (fun i _ => l.length - (intOf i).toNat)
  case atStart => exact ⟨0, by omega, rfl, hB0, hS0, hC0⟩
  case round =>
    clear hB0 hS0 hC0
    obtain ⟨k, hk, rfl, HB, HS, HC⟩ := hrel
    by_cases hlt : k < l.length
    · have hC2 := Kd.C_below hr HS.out.1
      obtain ⟨ad2, e2, q0, q1, q2, q3, q4, q5, q6, q7, q8⟩ := at_T41 hC2 (k : Int) (by omega) (by omega)
      rw [Int.toNat_natCast] at q0 q1 q2 q3 q4 q5 q6 q7 q8
      have hrk : rd_T41 l (k : Int) ∈ l := by
        simp [rd_T41, List.getD_eq_getElem?_getD, hlt]
      have hst := Aside0.mk (lastE_take g d t l k hlt)
      obtain ⟨hv0, hv1⟩ := HV.out _ hrk
      generalize rd_T41 l (k : Int) = r at q0 q1 q2 q3 q4 q5 q6 q7 q8 hst hv0 hv1
      clear hrk
      subst e2
      have x1 := (blk_cell HS.out.2.2.1 0).trans rfl
      have x2 := (blk_cell HS.out.2.2.2.1 0).trans rfl
      have x3 := (blk_cell HS.out.2.2.2.2 0).trans rfl
      have lt1 := blk_lt HS.out.2.2.1
      have lt2 := blk_lt HS.out.2.2.2.1
      have lt3 := blk_lt HS.out.2.2.2.2
      have hob := Aside0.mk (below_alloc (Below.refl wr.heap.size wr) (.cells (repCells r) 41 (0, 0)))
      have hmiss : hit g d t r = false → Aside0 (∃ cs, (wr.alloc (.cells (repCells r) 41 (0, 0))).heap[W.heap.size]? = some (.cells cs 116 (0, 0)) ∧ Rep (lastE g d t (l.take (k + 1))) cs) := by
        intro hh
        obtain ⟨cs, h1, h2⟩ := HC.out
        refine ⟨cs, heap_at_old _ _ _ _ h1, ?_⟩
        rw [hst.out]
        unfold stepE
        rw [hh]
        exact h2
      have hmiss := Aside0.mk hmiss
      have y1 : Aside0 ((wr.alloc (.cells (repCells r) 41 (0, 0))).cell? ⟨bg, 0, none⟩ = some (.int .i64 g) ∧ (wr.alloc (.cells (repCells r) 41 (0, 0))).cell? ⟨bd, 0, none⟩ = some (.int .i64 d) ∧ (wr.alloc (.cells (repCells r) 41 (0, 0))).cell? ⟨bt, 0, none⟩ = some (.int .i64 t)) :=
        ⟨(blk_cell (heap_at_old _ _ _ _ HS.out.2.2.1) 0).trans rfl, (blk_cell (heap_at_old _ _ _ _ HS.out.2.2.2.1) 0).trans rfl, (blk_cell (heap_at_old _ _ _ _ HS.out.2.2.2.2) 0).trans rfl⟩
      clear x1 x2 x3 lt1 lt2 lt3
      unfold repCells at y1 hob hmiss
      obtain ⟨⟨x1, x2, x3⟩⟩ := y1
      by_cases h1 : r.f2 = g
      · rw [h1] at x1 x2 x3 hob hmiss
        by_cases h2 : r.f3 = d
        · rw [h2] at x1 x2 x3 hob hmiss
          by_cases h3 : t < r.f4
          · gi_wp2
            go_roundw
            case rel => exact ⟨k + 1, hlt, by go_num, ⟨below_step HB.out hob.out⟩, ⟨HS.out.below hob.out⟩, hmiss.out (by simp [hit, h1, h2]; omega)⟩
            case measure => simp [intOf]; omega
          · obtain ⟨cs, hcs, hrep⟩ := HC.out
            have hcs1 : (wr.alloc (.cells #[.int .i64 r.f0, .int .i64 r.f1, .int .i64 g, .int .i64 d, .int .i64 r.f4, .int .i64 r.f5.f0, .int .i64 r.f5.f1, .int .i64 r.f6.f0, .int .i64 r.f6.f1] 41 (0, 0))).heap[W.heap.size]? = some (.cells cs 116 (0, 0)) := heap_at_old _ _ _ _ hcs
            obtain ⟨s, hs⟩ : ∃ s, s = r.f1.toNat := ⟨_, rfl⟩
            have hs16 : s < 16 := by omega
            have hE := hrep.2 s hs16
            have hnext : Aside0 (newer (lastE g d t (l.take k) s) r = true → lastE g d t (l.take (k + 1)) = fun j => if j = s then (r, true) else lastE g d t (l.take k) j) := ⟨fun hh => by
              rw [hst.out]
              unfold stepE
              rw [show hit g d t r = true by simp [hit, h1, h2]; omega, ← hs, hh]
              rfl⟩
            have hkeep : Aside0 (newer (lastE g d t (l.take k) s) r = false → lastE g d t (l.take (k + 1)) = lastE g d t (l.take k)) := ⟨fun hh => by
              rw [hst.out]
              unfold stepE
              rw [← hs, hh, Bool.and_false]
              rfl⟩
            have hrep := Aside0.mk hrep
            generalize lastE g d t (l.take k) = L at hrep hE hnext hkeep
            clear hmiss hst HC
            have e0 := (blk_cell hcs1 (s * 10 + 0)).trans (hE 0 (by omega))
            have e1 := (blk_cell hcs1 (s * 10 + 1)).trans (hE 1 (by omega))
            have e2 := (blk_cell hcs1 (s * 10 + 2)).trans (hE 2 (by omega))
            have e3 := (blk_cell hcs1 (s * 10 + 3)).trans (hE 3 (by omega))
            have e4 := (blk_cell hcs1 (s * 10 + 4)).trans (hE 4 (by omega))
            have e5 := (blk_cell hcs1 (s * 10 + 5)).trans (hE 5 (by omega))
            have e6 := (blk_cell hcs1 (s * 10 + 6)).trans (hE 6 (by omega))
            have e7 := (blk_cell hcs1 (s * 10 + 7)).trans (hE 7 (by omega))
            have e8 := (blk_cell hcs1 (s * 10 + 8)).trans (hE 8 (by omega))
            have e9 := (blk_cell hcs1 (s * 10 + 9)).trans (hE 9 (by omega))
            simp only [entry, List.getElem?_cons_zero, List.getElem?_cons_succ, Nat.add_zero] at e0 e1 e2 e3 e4 e5 e6 e7 e8 e9
            have f0 := blk_frozen hcs1 (s * 10)
            have f1 := blk_frozen hcs1 (s * 10 + 1)
            have f2 := blk_frozen hcs1 (s * 10 + 2)
            have f3 := blk_frozen hcs1 (s * 10 + 3)
            have f4 := blk_frozen hcs1 (s * 10 + 4)
            have f5 := blk_frozen hcs1 (s * 10 + 5)
            have f6 := blk_frozen hcs1 (s * 10 + 6)
            have f7 := blk_frozen hcs1 (s * 10 + 7)
            have f8 := blk_frozen hcs1 (s * 10 + 8)
            have f9 := blk_frozen hcs1 (s * 10 + 9)
            have hcs1 := Aside0.mk hcs1
            clear hE hcs
            have hs' : r.f1.toNat = s := hs.symm
            clear hs
            generalize hp : (L s) = p at e0 e1 e2 e3 e4 e5 e6 e7 e8 e9 hnext hkeep
            clear hp
            generalize hp2 : p.2 = ok at e9
            generalize hp4 : p.1.f4 = kn at e4
            have hnew : newer p r = (!ok || decide (kn ≤ r.f4)) := by unfold newer; rw [hp2, hp4]
            rw [hnew] at hnext hkeep
            clear hnew hp2 hp4
            cases ok with
            | false =>
              gi_wp2
              refine wpIn_wide.2 ?_
              go_quiet (fail)
              gi_wp2
              go_roundw
              case measure => simp [intOf]; omega
              case rel =>
                have hB10 := fun nq => below10 (W := W) (b := W.heap.size) (V := (wr.alloc (.cells #[.int .i64 r.f0, .int .i64 r.f1, .int .i64 g, .int .i64 d, .int .i64 r.f4, .int .i64 r.f5.f0, .int .i64 r.f5.f1, .int .i64 r.f6.f0, .int .i64 r.f6.f1] 41 (0, 0))).drewN nq) (pw_below_drewN (below_step HB.out hob.out) _) (Nat.le_refl _) (s * 10)
                refine ⟨k + 1, hlt, by go_num, ⟨hB10 _ _ _ _ _ _ _ _ _ _ _⟩, ⟨hpre'.out.below (hB10 _ _ _ _ _ _ _ _ _ _ _)⟩, ⟨_, put10 (blk_drewN hcs1.out _) (s * 10) _ _ _ _ _ _ _ _ _ _, ?_⟩⟩
                have hfin := hrep.out.put s hs16 (r, true)
                rw [hnext.out rfl]
                unfold entry at hfin
                rw [h1, h2] at hfin
                exact hfin
            | true =>
              by_cases h4 : kn ≤ r.f4
              · gi_wp2
                refine wpIn_wide.2 ?_
                go_quiet (fail)
                gi_wp2
                go_roundw
                case measure => simp [intOf]; omega
                case rel =>
                  have hB10 := fun nq => below10 (W := W) (b := W.heap.size) (V := (wr.alloc (.cells #[.int .i64 r.f0, .int .i64 r.f1, .int .i64 g, .int .i64 d, .int .i64 r.f4, .int .i64 r.f5.f0, .int .i64 r.f5.f1, .int .i64 r.f6.f0, .int .i64 r.f6.f1] 41 (0, 0))).drewN nq) (pw_below_drewN (below_step HB.out hob.out) _) (Nat.le_refl _) (s * 10)
                  refine ⟨k + 1, hlt, by go_num, ⟨hB10 _ _ _ _ _ _ _ _ _ _ _⟩, ⟨hpre'.out.below (hB10 _ _ _ _ _ _ _ _ _ _ _)⟩, ⟨_, put10 (blk_drewN hcs1.out _) (s * 10) _ _ _ _ _ _ _ _ _ _, ?_⟩⟩
                  have hfin := hrep.out.put s hs16 (r, true)
                  rw [hnext.out (by simp [h4])]
                  unfold entry at hfin
                  rw [h1, h2] at hfin
                  exact hfin

              · gi_wp2
                refine wpIn_wide.2 ?_
                go_quiet (fail)
                gi_wp2
                go_roundw
                case measure => simp [intOf]; omega
                case rel => exact ⟨k + 1, hlt, by go_num, ⟨pw_below_drewN (below_step HB.out hob.out) _⟩, ⟨hpre'.out.below (pw_below_drewN (below_step HB.out hob.out) _)⟩, ⟨cs, blk_drewN hcs1.out _, by rw [hkeep.out (by simp [h4])]; exact hrep.out⟩⟩
        · gi_wp2
          go_roundw
          case rel => exact ⟨k + 1, hlt, by go_num, ⟨below_step HB.out hob.out⟩, ⟨HS.out.below hob.out⟩, hmiss.out (by simp [hit, h1, h2])⟩
          case measure => simp [intOf]; omega
      · gi_wp2
        go_roundw
        case rel => exact ⟨k + 1, hlt, by go_num, ⟨below_step HB.out hob.out⟩, ⟨HS.out.below hob.out⟩, hmiss.out (by simp [hit, h1])⟩
        case measure => simp [intOf]; omega
    · obtain rfl : k = l.length := by omega
      obtain ⟨cs, hcs, hrep⟩ := HC.out
      rw [List.take_length] at hrep
      have HJ : Aside0 (J 0 wr) := ⟨hJ _ _ _ h0 (St.of_below HB.out)⟩
      have hcs := Aside0.mk hcs
      have hrep := Aside0.mk hrep
      clear HC HB HS
      gi_wp2
      refine wpIn_load_row 116 (.tmp 6) rfl W.heap.size rfl 116 cs (0, 0) _ hcs.out Try.underlying116 rfl (by rw [hrep.out.1]; kernel_rfl) ?_
      clear hcs
      gi_wp2
      generalize hLe : lastE g d t l = L at hrep
      have hN : Aside0 (says g d t l = oksOf L 16) := ⟨by unfold says; rw [hLe]⟩
      clear hLe
      gi_loopw [61] (fun i wr => ∃ s : Nat, s ≤ 16 ∧ i = .int .i64 s ∧ Aside0 (J (oksOf L s).length wr)) (fun i _ => 16 - (intOf i).toNat)
      case atStart => exact ⟨0, by omega, rfl, HJ⟩
      case round =>
        clear HJ
        obtain ⟨s, hs, rfl, HJ⟩ := hrel
        by_cases hlt : s < 16
        · have hidx := fun W => run_index_entry hrep.out s hlt W
          have hok0 : Aside0 ((L s).2 = true → (oksOf L s).length < (oksOf L 16).length ∧ (oksOf L 16).getD (oksOf L s).length z41 = (L s).1 ∧ (oksOf L (s + 1)).length = (oksOf L s).length + 1) := ⟨fun h => ⟨(oksOf_get L s 16 hlt h).1, (oksOf_get L s 16 hlt h).2, by rw [oksOf_succ, if_pos h]; simp⟩⟩
          have hno0 : Aside0 ((L s).2 = false → (oksOf L (s + 1)).length = (oksOf L s).length) := ⟨fun h => by rw [oksOf_none L s h]⟩
          generalize L s = e at hidx hok0 hno0
          obtain ⟨r, ok⟩ := e
          unfold entry at hidx
          dsimp only at hidx hok0 hno0
          have HJ1 := Aside0.mk (hJ _ _ _ HJ.out (St.of_below (below_alloc (Below.refl wr.heap.size wr) (.cells #[.int .i64 r.f0, .int .i64 r.f1, .int .i64 r.f2, .int .i64 r.f3, .int .i64 r.f4, .int .i64 r.f5.f0, .int .i64 r.f5.f1, .int .i64 r.f6.f0, .int .i64 r.f6.f1, .bool ok] 115 (0, 0)))))
          cases ok with
          | false =>
            gi_wp2
            refine ⟨(fun f hf => nomatch hf), ?_⟩
            gi_wp2
            go_roundw
            case rel => exact ⟨s + 1, hlt, by go_num, ⟨by rw [hno0.out (by first | exact rfl | exact trivial)]; exact HJ1.out⟩⟩
            case measure => simp [intOf]; omega
          | true =>
            obtain ⟨k0, k1, k2⟩ := hok0.out rfl
            obtain ⟨fn, tmps, assign, body, hy, hR⟩ := hY _ _ (by rw [hN.out]; exact k0) HJ1.out
            rw [hN.out, k1] at hy
            unfold repCells at hy
            gi_wp2
            refine ⟨fun h => by simp [Fence.wide] at h, hR.mono ?_⟩
            rintro e W3 (⟨rfl, hJ3, hk3⟩ | ⟨rfl, hJx3⟩)
            · have HJ6 := Aside0.mk hJ3
              clear hJ3 hk3
              gi_wp2
              go_roundw
              case rel => exact ⟨s + 1, hlt, by go_num, ⟨by rw [k2]; exact HJ6.out⟩⟩
              case measure => simp [intOf]; omega
            · have HJ6 := Aside0.mk hJx3
              clear hJx3
              gi_wp2
              refine bodyPost_ret (results_none rfl _ _ _) rfl ?_
              exact ⟨⟨_, rfl⟩, .inr ⟨_, by rw [hN.out]; exact k0, HJ6.out⟩⟩
        · gi_wp2
          go_end0
          obtain rfl : s = 16 := by omega
          exact ⟨⟨_, rfl⟩, .inl (by rw [hN.out]; exact HJ.out)⟩
end Go.Proofs.Ythfhjcbgccnijaa.Q
